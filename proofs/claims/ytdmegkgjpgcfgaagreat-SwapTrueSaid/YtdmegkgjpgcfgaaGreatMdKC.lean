/- lemmas -/
import Derived.Test.YtdmegkgjpgcfgaaGreatMdMA
set_option linter.all false
set_option linter.unusedSectionVars false
set_option linter.unusedVariables false
set_option linter.unusedSimpArgs false
noncomputable section
variable {ρ:Type}
set_option maxRecDepth 100000
namespace Go.Proofs.ZzM
open Go Go.Am
def un:(lG ρ).Ok (π ρ):=⟨by kernel_rfl,fun p v kn kx=>by kernel_rfl⟩
def uk:(lF ρ).Ok (π ρ):=⟨by kernel_rfl,fun p v kn kx=>by kernel_rfl⟩
def xi (x:Val ag) (k:(Val aa)→Option ρ) :
    ŝ (π ρ) 93 [ag] [aa] x k=lJ x k:=by kernel_rfl
def Ca {al:(Val ag)} {rec:(Val aa)→Option ((Val ag))}:(((ħ (Ă al rec ρ).P 272).elim [] (Ý 0)).filter fun y=>Nat.beq y.1 2).length=1:=by kernel_rfl
def Dw {al:(Val ag)} {rec:(Val aa)→Option ((Val ag))}:QR (mj (ħ (Ă al rec ρ).P 272) 2)=true:=by kernel_rfl
def Du (p:Val aV) (v v':Val ag):(ü ω [aa,tI,tI,aa,tI] [ag] p v').t=(ü ω [aa,tI,tI,aa,tI] [ag] p v).t:=by kernel_rfl
def Dv (p:Val aV) (v:Val ag):(ü ω [aa,tI,tI,aa,tI] [ag] p v).t.all (st3 4)=true:=by kernel_rfl
def Cb {al:(Val ag)} {rec:(Val aa)→Option ((Val ag))} (p:Val aV) (v:Val ag) (y:(Val aa)) (kn:Val aV→Val ag→Option ρ):AI (Ă al rec ρ) (ŵ (Ă al rec ρ) (10-0 / 2)) 272 [] 4 2 (mj (ħ (Ă al rec ρ).P 272) 2) (ü ω [aa,tI,tI,aa,tI] [ag] p v) (enc aa y) ((jF al rec ρ).back kn)=(jF al rec ρ).bF p v y (kn p):=by kernel_rfl
def Dx {al:(Val ag)} {rec:(Val aa)→Option ((Val ag))} (hit:kj Tryz.prog ⟨272,aa,aa,rec⟩):(jF al rec ρ).Ok (Ă al rec ρ):=⟨Ca,hit,Du,Dv,Cb⟩
def Cc {al:(Val ag)} {rec:(Val aa)→Option ((Val ag))}:(((ħ (Ă al rec ρ).P 272).elim [] (Ý 0)).filter fun y=>Nat.beq y.1 0).length=1:=by kernel_rfl
def Cd {al:(Val ag)} {rec:(Val aa)→Option ((Val ag))} (p:Val aY) (v:Val bh) (kn:Val aY→Val bh→Option ρ) (kx:(i:Nat)→Val aY→Val (tyL (ų.zs i))→Option ρ) :
    goC (Ă al rec ρ) (ŵ (Ă al rec ρ) (10-0 / 2)) 272 [] 2 0 (uF (ħ (Ă al rec ρ).P 272) 0) (ü ų.head ų.cs ų.vs p v) (FR ų kn kx)=(mF al rec ρ).bF p v (kn p) (fun i=>kx i p):=by kernel_rfl
def Dy {al:(Val ag)} {rec:(Val aa)→Option ((Val ag))}:(mF al rec ρ).Ok (Ă al rec ρ):=⟨Cc,Cd⟩
def IL {al:(Val ag)} {rec:(Val aa)→Option ((Val ag))} (mm:(Val aa)) (F:(Val aa)→Option (List (Val aa))):uU (Ă al rec _) (ŵ (Ă al rec _) 10) [] 272 zL (υ ⟨272,aa,aa,F⟩ mm) (ME ⟨272,aa,aa,F⟩)=xY al rec mm some:=by kernel_rfl
def yb {al:(Val aj)} {rec:(Val ai)→Option ((Val aj))}:(((ħ (è al rec ρ).P 231).elim [] (Ý 0)).filter fun y=>Nat.beq y.1 2).length=1:=by kernel_rfl
def Ak {al:(Val aj)} {rec:(Val ai)→Option ((Val aj))}:QR (mj (ħ (è al rec ρ).P 231) 2)=true:=by kernel_rfl
def Ai (p:Val bi) (v v':Val aj):(ü Ÿ [aa,ai,aa] [aj] p v').t=(ü Ÿ [aa,ai,aa] [aj] p v).t:=by kernel_rfl
def Aj (p:Val bi) (v:Val aj):(ü Ÿ [aa,ai,aa] [aj] p v).t.all (st3 4)=true:=by kernel_rfl
def yc {al:(Val aj)} {rec:(Val ai)→Option ((Val aj))} (p:Val bi) (v:Val aj) (y:(Val ag)) (kn:Val bi→Val aj→Option ρ):AI (è al rec ρ) (ŵ (è al rec ρ) (10-0 / 2)) 231 [] 4 2 (mj (ħ (è al rec ρ).P 231) 2) (ü Ÿ [aa,ai,aa] [aj] p v) (enc ag y) ((iG al rec ρ).back kn)=(iG al rec ρ).bF p v y (kn p):=by kernel_rfl
def Al {al:(Val aj)} {rec:(Val ai)→Option ((Val aj))} (hit:kj Tryz.prog ⟨231,ai,ag,rec⟩):(iG al rec ρ).Ok (è al rec ρ):=⟨yb,hit,Ai,Aj,yc⟩
def yd {al:(Val aj)} {rec:(Val ai)→Option ((Val aj))}:(((ħ (è al rec ρ).P 231).elim [] (Ý 0)).filter fun y=>Nat.beq y.1 0).length=1:=by kernel_rfl
def Aq {al:(Val aj)} {rec:(Val ai)→Option ((Val aj))}:QR (mj (ħ (è al rec ρ).P 231) 0)=true:=by kernel_rfl
def Ao (p:Val ai) (v v':Val aj):(ü Ź [ai] [aj] p v').t=(ü Ź [ai] [aj] p v).t:=by kernel_rfl
def Ap (p:Val ai) (v:Val aj):(ü Ź [ai] [aj] p v).t.all (st3 3)=true:=by kernel_rfl
def ye {al:(Val aj)} {rec:(Val ai)→Option ((Val aj))} (p:Val ai) (v:Val aj) (y:(Val aa)) (kn:Val ai→Val aj→Option ρ):AI (è al rec ρ) (ŵ (è al rec ρ) (10-0 / 2)) 231 [] 3 0 (mj (ħ (è al rec ρ).P 231) 0) (ü Ź [ai] [aj] p v) (enc aa y) ((iH al rec ρ).back kn)=(iH al rec ρ).bF p v y (kn p):=by kernel_rfl
def Ar {al:(Val aj)} {rec:(Val ai)→Option ((Val aj))} (hit:kj Tryz.prog MF):(iH al rec ρ).Ok (è al rec ρ):=⟨yd,hit,Ao,Ap,ye⟩
def DJ {al:(Val aj)} {rec:(Val ai)→Option ((Val aj))} (mm:(Val ai)) (F:(Val ai)→Option (List (Val ag))):uU (è al rec _) (ŵ (è al rec _) 10) [] 231 zL (υ ⟨231,ai,ag,F⟩ mm) (ME ⟨231,ai,ag,F⟩)=sO al rec mm some:=by kernel_rfl
def qp {al:(Val aa)} {rec:(Val aa)→Option ((Val aa))}:(((ħ (Ċ al rec ρ).P 268).elim [] (Ý 0)).filter fun y=>Nat.beq y.1 0).length=1:=by kernel_rfl
def qq {al:(Val aa)} {rec:(Val aa)→Option ((Val aa))} (p:Val aY) (v:Val ŋ) (kn:Val aY→Val ŋ→Option ρ) (kx:(i:Nat)→Val aY→Val (tyL (Ę.zs i))→Option ρ) :
    goC (Ċ al rec ρ) (ŵ (Ċ al rec ρ) (10-0 / 2)) 268 [] 2 0 (uF (ħ (Ċ al rec ρ).P 268) 0) (ü Ę.head Ę.cs Ę.vs p v) (FR Ę kn kx)=(Ω al rec ρ).bF p v (kn p) (fun i=>kx i p):=by kernel_rfl
def qR {al:(Val aa)} {rec:(Val aa)→Option ((Val aa))}:(Ω al rec ρ).Ok (Ċ al rec ρ):=⟨qp,qq⟩
def ug {al:(Val aa)} {rec:(Val aa)→Option ((Val aa))} (mm:(Val aa)) (F:(Val aa)→Option (List Int)):uU (Ċ al rec _) (ŵ (Ċ al rec _) 10) [] 268 zL (υ ⟨268,aa,tI,F⟩ mm) (ME ⟨268,aa,tI,F⟩)=jU al rec mm some:=by kernel_rfl
def vD:(mg ρ).Ok (kH ρ):=⟨by kernel_rfl,fun p v kn kx=>by kernel_rfl⟩
def yq (x:Val ax) (k:Int→Option ρ) :
    ŝ (kH ρ) 173 [aa,tI] [tI] x k=mL x.1 x.2 k:=by kernel_rfl
def uj (x:Val ax) (k:Bool→Option ρ) :
    ŝ (mh ρ) 92 [aa,tI] [.bool] x k=jV x.1 x.2 k:=by kernel_rfl
def O6:(EI ρ).Ok (zH ρ):=⟨by kernel_rfl,fun p v kn kx=>by kernel_rfl⟩
def O5:(EG ρ).Ok (zH ρ):=⟨by kernel_rfl,fun p v kn kx=>by kernel_rfl⟩
def Wp (x:Val (.pair É Ö)) (k:(Val aa)→Option ρ) :
    ŝ (zH ρ) 201 [É,Ö] [aa] x k=SV x.1 x.2 k:=by kernel_rfl
def Ma:(Br ρ).Ok (vS ρ):=⟨by kernel_rfl,fun p v kn kx=>by kernel_rfl⟩
def Mb:(Bt ρ).Ok (vS ρ):=⟨by kernel_rfl,fun p v kn kx=>by kernel_rfl⟩
def SG (x:Val É) (k:(Val ab)→Option ρ) :
    ŝ (vS ρ) 136 [É] [ab] x k=Mc x k:=by kernel_rfl
def O2 (x:Val Ě) (k:Bool→Option ρ) :
    ŝ (Ia ρ) 141 [Ã,tI,tI] [.bool] x k=GU x.1 x.2.1 x.2.2 k:=by kernel_rfl
def OM (x:Val ŗ) (k:Bool→Option ρ) :
    ŝ (H9 ρ) 212 [tI,tI,tI] [.bool] x k=GJ x.1 x.2.1 x.2.2 k:=by kernel_rfl
def SN (x:Val tI) (k:Bool→Option ρ) :
    ŝ (Mi ρ) 205 [tI] [.bool] x k=Mj x k:=by kernel_rfl
def VT (x:Val tI) (k:Int→Option ρ) :
    ŝ (P8 ρ) 291 [tI] [(.int .u64)] x k=Sj x k:=by kernel_rfl
def Sk:(H6 ρ).Ok (LS ρ):=⟨by kernel_rfl,fun p v kn kx=>by kernel_rfl⟩
def YI (x:Val bm) (k:Int→Option ρ) :
    ŝ (LS ρ) 292 [(.int .u64),(.int .u64)] [(.int .u64)] x k=YJ x.1 x.2 k:=by kernel_rfl
def Sr (x:Val Ã) (k:Bool→Option ρ) :
    ŝ (LW ρ) 253 [Ã] [.bool] x k=LX x k:=by kernel_rfl
def Mh (x:Val Ö) (k:Bool→Option ρ) :
    ŝ (EF ρ) 203 [Ö] [.bool] x k=Cw x k:=by kernel_rfl
def yP:(oQ ρ).Ok (mR ρ):=⟨by kernel_rfl,fun p v kn kx=>by kernel_rfl⟩
def CA (x:Val É) (k:Int→Option ρ) :
    ŝ (mR ρ) 142 [É] [tI] x k=qv x k:=by kernel_rfl
def GK:(wS ρ).Ok (vP ρ):=⟨by kernel_rfl,fun p v kn kx=>by kernel_rfl⟩
def L7 (x:Val É) (k:(Val am)→Option ρ) :
    ŝ (vP ρ) 143 [É] [am] x k=Ct x k:=by kernel_rfl
def Em (x:Val (.pair am Ã)) (k:Int→Option ρ) :
    ŝ (wT ρ) 206 [am,tI,tI] [tI] x k=sZ x.1 x.2.1 x.2.2 k:=by kernel_rfl
def L9 (x:Val (.pair tI (.pair tI (.ptr am)))) (k:Int→Option ρ) :
    ŝ (En ρ) 204 [tI,tI,(.ptr am)] [tI] x k=Cv x.1 x.2.1 x.2.2 k:=by kernel_rfl
def Cy:(si ρ).Ok (lL ρ):=⟨by kernel_rfl,fun p v kn kx=>by kernel_rfl⟩
def Cx:(sg ρ).Ok (lL ρ):=⟨by kernel_rfl,fun p v kn kx=>by kernel_rfl⟩
def GY (x:Val bn) (k:Int→Option ρ) :
    ŝ (lL ρ) 208 [É,am,tI] [tI] x k=wg x.1 x.2.1 x.2.2 k:=by kernel_rfl
def OX:(ED ρ).Ok (zG ρ):=⟨by kernel_rfl,fun p v kn kx=>by kernel_rfl⟩
def OW:(EC ρ).Ok (zG ρ):=⟨by kernel_rfl,fun p v kn kx=>by kernel_rfl⟩
def Wj (x:Val (.pair aa aa)) (k:(Val aa)→Option ρ) :
    ŝ (zG ρ) 148 [aa,aa] [aa] x k=SK x.1 x.2 k:=by kernel_rfl
def Jk:(yN ρ).Ok (yO ρ):=⟨by kernel_rfl,fun p v kn kx=>by kernel_rfl⟩
def OZ (x:Val aa) (k:Bool→Option ρ) :
    ŝ (yO ρ) 172 [aa] [.bool] x k=GS x k:=by kernel_rfl
def O7:(EK ρ).Ok (GZ ρ):=⟨by kernel_rfl,fun p v kn kx=>by kernel_rfl⟩
def Wr (x:Val aM) (k:(Val (.pair iy .bool))→Option ρ) :
    ŝ (GZ ρ) 259 [É,tI,tI] [iy,.bool] x k=SW x.1 x.2.1 x.2.2 k:=by kernel_rfl
def xo:(ol ρ).Ok (Ş ρ):=⟨by kernel_rfl,fun p v kn kx=>by kernel_rfl⟩
def xm:(og ρ).Ok (Ş ρ):=⟨by kernel_rfl,fun p v kn kx=>by kernel_rfl⟩
def xn:(oi ρ).Ok (Ş ρ):=⟨by kernel_rfl,fun p v kn kx=>by kernel_rfl⟩
def xl:(od ρ).Ok (Ş ρ):=⟨by kernel_rfl,fun p v kn kx=>by kernel_rfl⟩
def AB (x:Val bn) (k:Int→Option ρ) :
    ŝ (Ş ρ) 209 [É,am,tI] [tI] x k=oJ x.1 x.2.1 x.2.2 k:=by kernel_rfl
end Go.Proofs.ZzM
end
