/- lemmas -/
import Derived.Test.YtdmegkgjpgcfgaaGreatMdMA
set_option linter.all false
set_option linter.unusedSectionVars false
set_option linter.unusedVariables false
set_option linter.unusedSimpArgs false
noncomputable section
variable {ρ:Type}
set_option maxRecDepth 100000
namespace Go.Proofs.ZzM
open Go Go.Am
def tf:(kI ρ).Ok (δ ρ):=⟨by kernel_rfl,fun p v kn kx=>by kernel_rfl⟩
def td:(kH ρ).Ok (δ ρ):=⟨by kernel_rfl,fun p v kn kx=>by kernel_rfl⟩
def vY (x:Val af) (k:(Val aa)→Option ρ) :
    Ś (δ ρ) 93 [af] [aa] x k=kJ x k:=by kernel_rfl
def Bm {al:(Val af)} {rec:(Val aa)→Option ((Val af))}:(((Ġ (û al rec ρ).P 272).elim [] (Û 0)).filter fun y=>Nat.beq y.1 2).length=1:=by kernel_rfl
def CE {al:(Val af)} {rec:(Val aa)→Option ((Val af))}:PB (lE (Ġ (û al rec ρ).P 272) 2)=true:=by kernel_rfl
def CC (p:Val aS) (v v':Val af):(ñ θ [aa,tI,tI,aa,tI] [af] p v').t=(ñ θ [aa,tI,tI,aa,tI] [af] p v).t:=by kernel_rfl
def CD (p:Val aS) (v:Val af):(ñ θ [aa,tI,tI,aa,tI] [af] p v).t.all (st3 4)=true:=by kernel_rfl
def Bn {al:(Val af)} {rec:(Val aa)→Option ((Val af))} (p:Val aS) (v:Val af) (y:(Val aa)) (kn:Val aS→Val af→Option ρ):zQ (û al rec ρ) (Ů (û al rec ρ) (10-0 / 2)) 272 [] 4 2 (lE (Ġ (û al rec ρ).P 272) 2) (ñ θ [aa,tI,tI,aa,tI] [af] p v) (enc aa y) ((iY al rec ρ).back kn)=(iY al rec ρ).bF p v y (kn p):=by kernel_rfl
def CF {al:(Val af)} {rec:(Val aa)→Option ((Val af))} (hit:jE Tryz.prog ⟨272,aa,aa,rec⟩):(iY al rec ρ).Ok (û al rec ρ):=⟨Bm,hit,CC,CD,Bn⟩
def Bo {al:(Val af)} {rec:(Val aa)→Option ((Val af))}:(((Ġ (û al rec ρ).P 272).elim [] (Û 0)).filter fun y=>Nat.beq y.1 0).length=1:=by kernel_rfl
def Bp {al:(Val af)} {rec:(Val aa)→Option ((Val af))} (p:Val aV) (v:Val bc) (kn:Val aV→Val bc→Option ρ) (kx:(i:Nat)→Val aV→Val (tyL (Ŭ.zs i))→Option ρ) :
    goC (û al rec ρ) (Ů (û al rec ρ) (10-0 / 2)) 272 [] 2 0 (tD (Ġ (û al rec ρ).P 272) 0) (ñ Ŭ.head Ŭ.cs Ŭ.vs p v) (EI Ŭ kn kx)=(lR al rec ρ).bF p v (kn p) (fun i=>kx i p):=by kernel_rfl
def CG {al:(Val af)} {rec:(Val aa)→Option ((Val af))}:(lR al rec ρ).Ok (û al rec ρ):=⟨Bo,Bp⟩
def Hw {al:(Val af)} {rec:(Val aa)→Option ((Val af))} (mm:(Val aa)) (F:(Val aa)→Option (List (Val aa))):tS (û al rec _) (Ů (û al rec _) 10) [] 272 yQ (ζ ⟨272,aa,aa,F⟩ mm) (Lf ⟨272,aa,aa,F⟩)=wZ al rec mm some:=by kernel_rfl
def xc {al:(Val aj)} {rec:(Val ai)→Option ((Val aj))}:(((Ġ (ç al rec ρ).P 231).elim [] (Û 0)).filter fun y=>Nat.beq y.1 2).length=1:=by kernel_rfl
def zr {al:(Val aj)} {rec:(Val ai)→Option ((Val aj))}:PB (lE (Ġ (ç al rec ρ).P 231) 2)=true:=by kernel_rfl
def zp (p:Val bg) (v v':Val aj):(ñ ű [aa,ai,aa] [aj] p v').t=(ñ ű [aa,ai,aa] [aj] p v).t:=by kernel_rfl
def zq (p:Val bg) (v:Val aj):(ñ ű [aa,ai,aa] [aj] p v).t.all (st3 4)=true:=by kernel_rfl
def xd {al:(Val aj)} {rec:(Val ai)→Option ((Val aj))} (p:Val bg) (v:Val aj) (y:(Val af)) (kn:Val bg→Val aj→Option ρ):zQ (ç al rec ρ) (Ů (ç al rec ρ) (10-0 / 2)) 231 [] 4 2 (lE (Ġ (ç al rec ρ).P 231) 2) (ñ ű [aa,ai,aa] [aj] p v) (enc af y) ((gT al rec ρ).back kn)=(gT al rec ρ).bF p v y (kn p):=by kernel_rfl
def zu {al:(Val aj)} {rec:(Val ai)→Option ((Val aj))} (hit:jE Tryz.prog ⟨231,ai,af,rec⟩):(gT al rec ρ).Ok (ç al rec ρ):=⟨xc,hit,zp,zq,xd⟩
def xe {al:(Val aj)} {rec:(Val ai)→Option ((Val aj))}:(((Ġ (ç al rec ρ).P 231).elim [] (Û 0)).filter fun y=>Nat.beq y.1 0).length=1:=by kernel_rfl
def zy {al:(Val aj)} {rec:(Val ai)→Option ((Val aj))}:PB (lE (Ġ (ç al rec ρ).P 231) 0)=true:=by kernel_rfl
def zw (p:Val ai) (v v':Val aj):(ñ Ų [ai] [aj] p v').t=(ñ Ų [ai] [aj] p v).t:=by kernel_rfl
def zx (p:Val ai) (v:Val aj):(ñ Ų [ai] [aj] p v).t.all (st3 3)=true:=by kernel_rfl
def xf {al:(Val aj)} {rec:(Val ai)→Option ((Val aj))} (p:Val ai) (v:Val aj) (y:(Val aa)) (kn:Val ai→Val aj→Option ρ):zQ (ç al rec ρ) (Ů (ç al rec ρ) (10-0 / 2)) 231 [] 3 0 (lE (Ġ (ç al rec ρ).P 231) 0) (ñ Ų [ai] [aj] p v) (enc aa y) ((gW al rec ρ).back kn)=(gW al rec ρ).bF p v y (kn p):=by kernel_rfl
def zz {al:(Val aj)} {rec:(Val ai)→Option ((Val aj))} (hit:jE Tryz.prog Lg):(gW al rec ρ).Ok (ç al rec ρ):=⟨xe,hit,zw,zx,xf⟩
def CT {al:(Val aj)} {rec:(Val ai)→Option ((Val aj))} (mm:(Val ai)) (F:(Val ai)→Option (List (Val af))):tS (ç al rec _) (Ů (ç al rec _) 10) [] 231 yQ (ζ ⟨231,ai,af,F⟩ mm) (Lf ⟨231,ai,af,F⟩)=rQ al rec mm some:=by kernel_rfl
def pC {al:(Val aa)} {rec:(Val aa)→Option ((Val aa))}:(((Ġ (Ą al rec ρ).P 268).elim [] (Û 0)).filter fun y=>Nat.beq y.1 0).length=1:=by kernel_rfl
def pD {al:(Val aa)} {rec:(Val aa)→Option ((Val aa))} (p:Val aV) (v:Val ŏ) (kn:Val aV→Val ŏ→Option ρ) (kx:(i:Nat)→Val aV→Val (tyL (Ē.zs i))→Option ρ) :
    goC (Ą al rec ρ) (Ů (Ą al rec ρ) (10-0 / 2)) 268 [] 2 0 (tD (Ġ (Ą al rec ρ).P 268) 0) (ñ Ē.head Ē.cs Ē.vs p v) (EI Ē kn kx)=(Ξ al rec ρ).bF p v (kn p) (fun i=>kx i p):=by kernel_rfl
def qj {al:(Val aa)} {rec:(Val aa)→Option ((Val aa))}:(Ξ al rec ρ).Ok (Ą al rec ρ):=⟨pC,pD⟩
def s9 {al:(Val aa)} {rec:(Val aa)→Option ((Val aa))} (mm:(Val aa)) (F:(Val aa)→Option (List Int)):tS (Ą al rec _) (Ů (Ą al rec _) 10) [] 268 yQ (ζ ⟨268,aa,tI,F⟩ mm) (Lf ⟨268,aa,tI,F⟩)=jo al rec mm some:=by kernel_rfl
def uD:(lB ρ).Ok (jT ρ):=⟨by kernel_rfl,fun p v kn kx=>by kernel_rfl⟩
def xu (x:Val aw) (k:Int→Option ρ) :
    Ś (jT ρ) 173 [aa,tI] [tI] x k=lX x.1 x.2 k:=by kernel_rfl
def tc (x:Val aw) (k:Bool→Option ρ) :
    Ś (lC ρ) 92 [aa,tI] [.bool] x k=jp x.1 x.2 k:=by kernel_rfl
def NJ:(DQ ρ).Ok (yL ρ):=⟨by kernel_rfl,fun p v kn kx=>by kernel_rfl⟩
def NI:(DN ρ).Ok (yL ρ):=⟨by kernel_rfl,fun p v kn kx=>by kernel_rfl⟩
def Uy (x:Val (.pair É Õ)) (k:(Val aa)→Option ρ) :
    Ś (yL ρ) 201 [É,Õ] [aa] x k=Rb x.1 x.2 k:=by kernel_rfl
def KQ:(AG ρ).Ok (uT ρ):=⟨by kernel_rfl,fun p v kn kx=>by kernel_rfl⟩
def KR:(AI ρ).Ok (uT ρ):=⟨by kernel_rfl,fun p v kn kx=>by kernel_rfl⟩
def QX (x:Val É) (k:(Val ab)→Option ρ) :
    Ś (uT ρ) 136 [É] [ab] x k=KS x k:=by kernel_rfl
def NF (x:Val Ĕ) (k:Bool→Option ρ) :
    Ś (GW ρ) 141 [Ä,tI,tI] [.bool] x k=FK x.1 x.2.1 x.2.2 k:=by kernel_rfl
def Nr (x:Val Œ) (k:Bool→Option ρ) :
    Ś (GV ρ) 212 [tI,tI,tI] [.bool] x k=FB x.1 x.2.1 x.2.2 k:=by kernel_rfl
def Q5 (x:Val tI) (k:Bool→Option ρ) :
    Ś (KX ρ) 205 [tI] [.bool] x k=KY x k:=by kernel_rfl
def Ub (x:Val tI) (k:Int→Option ρ) :
    Ś (OQ ρ) 291 [tI] [(.int .u64)] x k=QK x k:=by kernel_rfl
def QL:(GR ρ).Ok (KC ρ):=⟨by kernel_rfl,fun p v kn kx=>by kernel_rfl⟩
def WV (x:Val bi) (k:Int→Option ρ) :
    Ś (KC ρ) 292 [(.int .u64),(.int .u64)] [(.int .u64)] x k=WW x.1 x.2 k:=by kernel_rfl
def QP (x:Val Ä) (k:Bool→Option ρ) :
    Ś (KH ρ) 253 [Ä] [.bool] x k=KI x k:=by kernel_rfl
def KW (x:Val Õ) (k:Bool→Option ρ) :
    Ś (DM ρ) 203 [Õ] [.bool] x k=BJ x k:=by kernel_rfl
def xT:(ob ρ).Ok (mb ρ):=⟨by kernel_rfl,fun p v kn kx=>by kernel_rfl⟩
def BN (x:Val É) (k:Int→Option ρ) :
    Ś (mb ρ) 142 [É] [tI] x k=pH x k:=by kernel_rfl
def FC:(vP ρ).Ok (uQ ρ):=⟨by kernel_rfl,fun p v kn kx=>by kernel_rfl⟩
def KN (x:Val É) (k:(Val am)→Option ρ) :
    Ś (uQ ρ) 143 [É] [am] x k=BG x k:=by kernel_rfl
def Dv (x:Val (.pair am Ä)) (k:Int→Option ρ) :
    Ś (vQ ρ) 206 [am,tI,tI] [tI] x k=rZ x.1 x.2.1 x.2.2 k:=by kernel_rfl
def KP (x:Val (.pair tI (.pair tI (.ptr am)))) (k:Int→Option ρ) :
    Ś (Dw ρ) 204 [tI,tI,(.ptr am)] [tI] x k=BI x.1 x.2.1 x.2.2 k:=by kernel_rfl
def BL:(ri ρ).Ok (kL ρ):=⟨by kernel_rfl,fun p v kn kx=>by kernel_rfl⟩
def BK:(rg ρ).Ok (kL ρ):=⟨by kernel_rfl,fun p v kn kx=>by kernel_rfl⟩
def FN (x:Val bm) (k:Int→Option ρ) :
    Ś (kL ρ) 208 [É,am,tI] [tI] x k=vg x.1 x.2.1 x.2.2 k:=by kernel_rfl
def NA:(DK ρ).Ok (yK ρ):=⟨by kernel_rfl,fun p v kn kx=>by kernel_rfl⟩
def Nz:(DJ ρ).Ok (yK ρ):=⟨by kernel_rfl,fun p v kn kx=>by kernel_rfl⟩
def Uu (x:Val (.pair aa aa)) (k:(Val aa)→Option ρ) :
    Ś (yK ρ) 148 [aa,aa] [aa] x k=Q2 x.1 x.2 k:=by kernel_rfl
def Ia:(xR ρ).Ok (xS ρ):=⟨by kernel_rfl,fun p v kn kx=>by kernel_rfl⟩
def NC (x:Val aa) (k:Bool→Option ρ) :
    Ś (xS ρ) 172 [aa] [.bool] x k=FJ x k:=by kernel_rfl
def NK:(DS ρ).Ok (FO ρ):=⟨by kernel_rfl,fun p v kn kx=>by kernel_rfl⟩
def UA (x:Val aK) (k:(Val (.pair iu .bool))→Option ρ) :
    Ś (FO ρ) 259 [É,tI,tI] [iu,.bool] x k=Rc x.1 x.2.1 x.2.2 k:=by kernel_rfl
def wi:(nl ρ).Ok (ŗ ρ):=⟨by kernel_rfl,fun p v kn kx=>by kernel_rfl⟩
def we:(nf ρ).Ok (ŗ ρ):=⟨by kernel_rfl,fun p v kn kx=>by kernel_rfl⟩
def wg:(nh ρ).Ok (ŗ ρ):=⟨by kernel_rfl,fun p v kn kx=>by kernel_rfl⟩
def wd:(m9 ρ).Ok (ŗ ρ):=⟨by kernel_rfl,fun p v kn kx=>by kernel_rfl⟩
def zI (x:Val bm) (k:Int→Option ρ) :
    Ś (ŗ ρ) 209 [É,am,tI] [tI] x k=nQ x.1 x.2.1 x.2.2 k:=by kernel_rfl
end Go.Proofs.ZzM
end
