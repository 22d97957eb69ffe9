/- lemmas -/
import Derived.Test.YtdmegkgjpgcfgaaGreatMdMA
set_option linter.all false
set_option linter.unusedSectionVars false
set_option linter.unusedVariables false
set_option linter.unusedSimpArgs false
noncomputable section
variable {ρ:Type}
set_option maxRecDepth 100000
namespace Go.Proofs.ZzM
open Go Go.Am
def s7:(kD ρ).Ok (Ρ ρ):=⟨by kernel_rfl,fun p v kn kx=>by kernel_rfl⟩
def sZ:(kB ρ).Ok (Ρ ρ):=⟨by kernel_rfl,fun p v kn kx=>by kernel_rfl⟩
def vQ (x:Val ag) (k:(Val ab)→Option ρ) :
    ŗ (Ρ ρ) 93 [ag] [ab] x k=kE x k:=by kernel_rfl
def Bc {al:(Val ag)} {rec:(Val ab)→Option ((Val ag))}:(((ġ (ü al rec ρ).P 272).elim [] (Ü 0)).filter fun y=>Nat.beq y.1 2).length=1:=by kernel_rfl
def CB {al:(Val ag)} {rec:(Val ab)→Option ((Val ag))}:Pz (lC (ġ (ü al rec ρ).P 272) 2)=true:=by kernel_rfl
def Cz (p:Val aT) (v v':Val ag):(ô Ω [ab,tI,tI,ab,tI] [ag] p v').t=(ô Ω [ab,tI,tI,ab,tI] [ag] p v).t:=by kernel_rfl
def CA (p:Val aT) (v:Val ag):(ô Ω [ab,tI,tI,ab,tI] [ag] p v).t.all (st3 4)=true:=by kernel_rfl
def Be {al:(Val ag)} {rec:(Val ab)→Option ((Val ag))} (p:Val aT) (v:Val ag) (y:(Val ab)) (kn:Val aT→Val ag→Option ρ):zA (ü al rec ρ) (ŧ (ü al rec ρ) (10-0 / 2)) 272 [] 4 2 (lC (ġ (ü al rec ρ).P 272) 2) (ô Ω [ab,tI,tI,ab,tI] [ag] p v) (enc ab y) ((iX al rec ρ).back kn)=(iX al rec ρ).bF p v y (kn p):=by kernel_rfl
def CC {al:(Val ag)} {rec:(Val ab)→Option ((Val ag))} (hit:jB Tryz.prog ⟨272,ab,ab,rec⟩):(iX al rec ρ).Ok (ü al rec ρ):=⟨Bc,hit,Cz,CA,Be⟩
def Bf {al:(Val ag)} {rec:(Val ab)→Option ((Val ag))}:(((ġ (ü al rec ρ).P 272).elim [] (Ü 0)).filter fun y=>Nat.beq y.1 0).length=1:=by kernel_rfl
def Bg {al:(Val ag)} {rec:(Val ab)→Option ((Val ag))} (p:Val aX) (v:Val bf) (kn:Val aX→Val bf→Option ρ) (kx:(i:Nat)→Val aX→Val (tyL (ť.zs i))→Option ρ) :
    goC (ü al rec ρ) (ŧ (ü al rec ρ) (10-0 / 2)) 272 [] 2 0 (tr (ġ (ü al rec ρ).P 272) 0) (ô ť.head ť.cs ť.vs p v) (EK ť kn kx)=(lN al rec ρ).bF p v (kn p) (fun i=>kx i p):=by kernel_rfl
def CD {al:(Val ag)} {rec:(Val ab)→Option ((Val ag))}:(lN al rec ρ).Ok (ü al rec ρ):=⟨Bf,Bg⟩
def Hz {al:(Val ag)} {rec:(Val ab)→Option ((Val ag))} (mm:(Val ab)) (F:(Val ab)→Option (List (Val ab))):tK (ü al rec _) (ŧ (ü al rec _) 10) [] 272 yz (Τ ⟨272,ab,ab,F⟩ mm) (Le ⟨272,ab,ab,F⟩)=wQ al rec mm some:=by kernel_rfl
def wT {al:(Val aj)} {rec:(Val ai)→Option ((Val aj))}:(((ġ (ç al rec ρ).P 231).elim [] (Ü 0)).filter fun y=>Nat.beq y.1 2).length=1:=by kernel_rfl
def y0 {al:(Val aj)} {rec:(Val ai)→Option ((Val aj))}:Pz (lC (ġ (ç al rec ρ).P 231) 2)=true:=by kernel_rfl
def yY (p:Val bh) (v v':Val aj):(ô Ū [ab,ai,ab] [aj] p v').t=(ô Ū [ab,ai,ab] [aj] p v).t:=by kernel_rfl
def yZ (p:Val bh) (v:Val aj):(ô Ū [ab,ai,ab] [aj] p v).t.all (st3 4)=true:=by kernel_rfl
def wU {al:(Val aj)} {rec:(Val ai)→Option ((Val aj))} (p:Val bh) (v:Val aj) (y:(Val ag)) (kn:Val bh→Val aj→Option ρ):zA (ç al rec ρ) (ŧ (ç al rec ρ) (10-0 / 2)) 231 [] 4 2 (lC (ġ (ç al rec ρ).P 231) 2) (ô Ū [ab,ai,ab] [aj] p v) (enc ag y) ((gT al rec ρ).back kn)=(gT al rec ρ).bF p v y (kn p):=by kernel_rfl
def za {al:(Val aj)} {rec:(Val ai)→Option ((Val aj))} (hit:jB Tryz.prog ⟨231,ai,ag,rec⟩):(gT al rec ρ).Ok (ç al rec ρ):=⟨wT,hit,yY,yZ,wU⟩
def wV {al:(Val aj)} {rec:(Val ai)→Option ((Val aj))}:(((ġ (ç al rec ρ).P 231).elim [] (Ü 0)).filter fun y=>Nat.beq y.1 0).length=1:=by kernel_rfl
def zd {al:(Val aj)} {rec:(Val ai)→Option ((Val aj))}:Pz (lC (ġ (ç al rec ρ).P 231) 0)=true:=by kernel_rfl
def zb (p:Val ai) (v v':Val aj):(ô ū [ai] [aj] p v').t=(ô ū [ai] [aj] p v).t:=by kernel_rfl
def zc (p:Val ai) (v:Val aj):(ô ū [ai] [aj] p v).t.all (st3 3)=true:=by kernel_rfl
def wW {al:(Val aj)} {rec:(Val ai)→Option ((Val aj))} (p:Val ai) (v:Val aj) (y:(Val ab)) (kn:Val ai→Val aj→Option ρ):zA (ç al rec ρ) (ŧ (ç al rec ρ) (10-0 / 2)) 231 [] 3 0 (lC (ġ (ç al rec ρ).P 231) 0) (ô ū [ai] [aj] p v) (enc ab y) ((gW al rec ρ).back kn)=(gW al rec ρ).bF p v y (kn p):=by kernel_rfl
def ze {al:(Val aj)} {rec:(Val ai)→Option ((Val aj))} (hit:jB Tryz.prog Lf):(gW al rec ρ).Ok (ç al rec ρ):=⟨wV,hit,zb,zc,wW⟩
def CP {al:(Val aj)} {rec:(Val ai)→Option ((Val aj))} (mm:(Val ai)) (F:(Val ai)→Option (List (Val ag))):tK (ç al rec _) (ŧ (ç al rec _) 10) [] 231 yz (Τ ⟨231,ai,ag,F⟩ mm) (Le ⟨231,ai,ag,F⟩)=rK al rec mm some:=by kernel_rfl
def pq {al:(Val ab)} {rec:(Val ab)→Option ((Val ab))}:(((ġ (ą al rec ρ).P 268).elim [] (Ü 0)).filter fun y=>Nat.beq y.1 0).length=1:=by kernel_rfl
def pr {al:(Val ab)} {rec:(Val ab)→Option ((Val ab))} (p:Val aX) (v:Val ŋ) (kn:Val aX→Val ŋ→Option ρ) (kx:(i:Nat)→Val aX→Val (tyL (ē.zs i))→Option ρ) :
    goC (ą al rec ρ) (ŧ (ą al rec ρ) (10-0 / 2)) 268 [] 2 0 (tr (ġ (ą al rec ρ).P 268) 0) (ô ē.head ē.cs ē.vs p v) (EK ē kn kx)=(Η al rec ρ).bF p v (kn p) (fun i=>kx i p):=by kernel_rfl
def pY {al:(Val ab)} {rec:(Val ab)→Option ((Val ab))}:(Η al rec ρ).Ok (ą al rec ρ):=⟨pq,pr⟩
def sW {al:(Val ab)} {rec:(Val ab)→Option ((Val ab))} (mm:(Val ab)) (F:(Val ab)→Option (List Int)):tK (ą al rec _) (ŧ (ą al rec _) 10) [] 268 yz (Τ ⟨268,ab,tI,F⟩ mm) (Le ⟨268,ab,tI,F⟩)=jk al rec mm some:=by kernel_rfl
def uq:(lz ρ).Ok (jQ ρ):=⟨by kernel_rfl,fun p v kn kx=>by kernel_rfl⟩
def xg (x:Val ay) (k:Int→Option ρ) :
    ŗ (jQ ρ) 173 [ab,tI] [tI] x k=lT x.1 x.2 k:=by kernel_rfl
def sY (x:Val ay) (k:Bool→Option ρ) :
    ŗ (lB ρ) 92 [ab,tI] [.bool] x k=jl x.1 x.2 k:=by kernel_rfl
def NK:(DJ ρ).Ok (yu ρ):=⟨by kernel_rfl,fun p v kn kx=>by kernel_rfl⟩
def NJ:(DH ρ).Ok (yu ρ):=⟨by kernel_rfl,fun p v kn kx=>by kernel_rfl⟩
def Uz (x:Val (.pair É Ô)) (k:(Val ab)→Option ρ) :
    ŗ (yu ρ) 201 [É,Ô] [ab] x k=Re x.1 x.2 k:=by kernel_rfl
def KP:(Aw ρ).Ok (uJ ρ):=⟨by kernel_rfl,fun p v kn kx=>by kernel_rfl⟩
def KQ:(Ay ρ).Ok (uJ ρ):=⟨by kernel_rfl,fun p v kn kx=>by kernel_rfl⟩
def QZ (x:Val É) (k:(Val aa)→Option ρ) :
    ŗ (uJ ρ) 136 [É] [aa] x k=KR x k:=by kernel_rfl
def NG (x:Val Ĕ) (k:Bool→Option ρ) :
    ŗ (G0 ρ) 141 [Ä,tI,tI] [.bool] x k=FR x.1 x.2.1 x.2.2 k:=by kernel_rfl
def Ns (x:Val Ō) (k:Bool→Option ρ) :
    ŗ (GZ ρ) 212 [tI,tI,tI] [.bool] x k=FJ x.1 x.2.1 x.2.2 k:=by kernel_rfl
def Q7 (x:Val tI) (k:Bool→Option ρ) :
    ŗ (KW ρ) 205 [tI] [.bool] x k=KX x k:=by kernel_rfl
def Uc (x:Val tI) (k:Int→Option ρ) :
    ŗ (OQ ρ) 291 [tI] [(.int .u64)] x k=QM x k:=by kernel_rfl
def QN:(GV ρ).Ok (KB ρ):=⟨by kernel_rfl,fun p v kn kx=>by kernel_rfl⟩
def WO (x:Val bj) (k:Int→Option ρ) :
    ŗ (KB ρ) 292 [(.int .u64),(.int .u64)] [(.int .u64)] x k=WP x.1 x.2 k:=by kernel_rfl
def QR (x:Val Ä) (k:Bool→Option ρ) :
    ŗ (KE ρ) 253 [Ä] [.bool] x k=KH x k:=by kernel_rfl
def KV (x:Val Ô) (k:Bool→Option ρ) :
    ŗ (DG ρ) 203 [Ô] [.bool] x k=BC x k:=by kernel_rfl
def xE:(nQ ρ).Ok (lY ρ):=⟨by kernel_rfl,fun p v kn kx=>by kernel_rfl⟩
def BH (x:Val É) (k:Int→Option ρ) :
    ŗ (lY ρ) 142 [É] [tI] x k=pA x k:=by kernel_rfl
def FK:(vI ρ).Ok (uG ρ):=⟨by kernel_rfl,fun p v kn kx=>by kernel_rfl⟩
def KM (x:Val É) (k:(Val am)→Option ρ) :
    ŗ (uG ρ) 143 [É] [am] x k=Bz x k:=by kernel_rfl
def Dr (x:Val (.pair am Ä)) (k:Int→Option ρ) :
    ŗ (vJ ρ) 206 [am,tI,tI] [tI] x k=rU x.1 x.2.1 x.2.2 k:=by kernel_rfl
def KO (x:Val (.pair tI (.pair tI (.ptr am)))) (k:Int→Option ρ) :
    ŗ (Ds ρ) 204 [tI,tI,(.ptr am)] [tI] x k=BB x.1 x.2.1 x.2.2 k:=by kernel_rfl
def BF:(ri ρ).Ok (kG ρ):=⟨by kernel_rfl,fun p v kn kx=>by kernel_rfl⟩
def BD:(rg ρ).Ok (kG ρ):=⟨by kernel_rfl,fun p v kn kx=>by kernel_rfl⟩
def FU (x:Val bn) (k:Int→Option ρ) :
    ŗ (kG ρ) 208 [É,am,tI] [tI] x k=uS x.1 x.2.1 x.2.2 k:=by kernel_rfl
def NB:(DE ρ).Ok (yr ρ):=⟨by kernel_rfl,fun p v kn kx=>by kernel_rfl⟩
def NA:(DD ρ).Ok (yr ρ):=⟨by kernel_rfl,fun p v kn kx=>by kernel_rfl⟩
def Uv (x:Val (.pair ab ab)) (k:(Val ab)→Option ρ) :
    ŗ (yr ρ) 148 [ab,ab] [ab] x k=Q4 x.1 x.2 k:=by kernel_rfl
def H7:(xC ρ).Ok (xD ρ):=⟨by kernel_rfl,fun p v kn kx=>by kernel_rfl⟩
def ND (x:Val ab) (k:Bool→Option ρ) :
    ŗ (xD ρ) 172 [ab] [.bool] x k=FQ x k:=by kernel_rfl
def NL:(DL ρ).Ok (FV ρ):=⟨by kernel_rfl,fun p v kn kx=>by kernel_rfl⟩
def UB (x:Val aK) (k:(Val (.pair iC .bool))→Option ρ) :
    ŗ (FV ρ) 259 [É,tI,tI] [iC,.bool] x k=Rf x.1 x.2.1 x.2.2 k:=by kernel_rfl
def vU:(m9 ρ).Ok (œ ρ):=⟨by kernel_rfl,fun p v kn kx=>by kernel_rfl⟩
def vS:(mX ρ).Ok (œ ρ):=⟨by kernel_rfl,fun p v kn kx=>by kernel_rfl⟩
def vT:(mZ ρ).Ok (œ ρ):=⟨by kernel_rfl,fun p v kn kx=>by kernel_rfl⟩
def vR:(mV ρ).Ok (œ ρ):=⟨by kernel_rfl,fun p v kn kx=>by kernel_rfl⟩
def zq (x:Val bn) (k:Int→Option ρ) :
    ŗ (œ ρ) 209 [É,am,tI] [tI] x k=nH x.1 x.2.1 x.2.2 k:=by kernel_rfl
end Go.Proofs.ZzM
end
