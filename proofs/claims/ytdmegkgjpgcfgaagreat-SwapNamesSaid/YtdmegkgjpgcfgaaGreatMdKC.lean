/- lemmas -/
import Derived.Test.YtdmegkgjpgcfgaaGreatMdMA
set_option linter.all false
set_option linter.unusedSectionVars false
set_option linter.unusedVariables false
set_option linter.unusedSimpArgs false
noncomputable section
variable {ρ:Type}
set_option maxRecDepth 100000
namespace Go.Proofs.ZzM
open Go Go.Am
def sH:(kz ρ).Ok (Ο ρ):=⟨by kernel_rfl,fun p v kn kx=>by kernel_rfl⟩
def sG:(ky ρ).Ok (Ο ρ):=⟨by kernel_rfl,fun p v kn kx=>by kernel_rfl⟩
def vw (x:Val aj) (k:(Val aa)→Option ρ) :
    ŧ (Ο ρ) 93 [aj] [aa] x k=kD x k:=by kernel_rfl
def AA {al:(Val aj)} {rec:(Val aa)→Option ((Val aj))}:(((Ġ (û al rec ρ).P 272).elim [] (Û 0)).filter fun y=>Nat.beq y.1 2).length=1:=by kernel_rfl
def B5 {al:(Val aj)} {rec:(Val aa)→Option ((Val aj))}:Ox (lq (Ġ (û al rec ρ).P 272) 2)=true:=by kernel_rfl
def B0 (p:Val aS) (v v':Val aj):(ô Ω [aa,tI,tI,aa,tI] [aj] p v').t=(ô Ω [aa,tI,tI,aa,tI] [aj] p v).t:=by kernel_rfl
def B4 (p:Val aS) (v:Val aj):(ô Ω [aa,tI,tI,aa,tI] [aj] p v).t.all (st3 4)=true:=by kernel_rfl
def AB {al:(Val aj)} {rec:(Val aa)→Option ((Val aj))} (p:Val aS) (v:Val aj) (y:(Val aa)) (kn:Val aS→Val aj→Option ρ):yY (û al rec ρ) (Ŧ (û al rec ρ) (10-0 / 2)) 272 [] 4 2 (lq (Ġ (û al rec ρ).P 272) 2) (ô Ω [aa,tI,tI,aa,tI] [aj] p v) (enc aa y) ((iW al rec ρ).back kn)=(iW al rec ρ).bF p v y (kn p):=by kernel_rfl
def B6 {al:(Val aj)} {rec:(Val aa)→Option ((Val aj))} (hit:jz Tryz.prog ⟨272,aa,aa,rec⟩):(iW al rec ρ).Ok (û al rec ρ):=⟨AA,hit,B0,B4,AB⟩
def AC {al:(Val aj)} {rec:(Val aa)→Option ((Val aj))}:(((Ġ (û al rec ρ).P 272).elim [] (Û 0)).filter fun y=>Nat.beq y.1 0).length=1:=by kernel_rfl
def AD {al:(Val aj)} {rec:(Val aa)→Option ((Val aj))} (p:Val aV) (v:Val ba) (kn:Val aV→Val ba→Option ρ) (kx:(i:Nat)→Val aV→Val (tyL (Ť.zs i))→Option ρ) :
    goC (û al rec ρ) (Ŧ (û al rec ρ) (10-0 / 2)) 272 [] 2 0 (sW (Ġ (û al rec ρ).P 272) 0) (ô Ť.head Ť.cs Ť.vs p v) (D5 Ť kn kx)=(lJ al rec ρ).bF p v (kn p) (fun i=>kx i p):=by kernel_rfl
def B7 {al:(Val aj)} {rec:(Val aa)→Option ((Val aj))}:(lJ al rec ρ).Ok (û al rec ρ):=⟨AC,AD⟩
def GG {al:(Val aj)} {rec:(Val aa)→Option ((Val aj))} (mm:(Val aa)) (F:(Val aa)→Option (List (Val aa))):tk (û al rec _) (Ŧ (û al rec _) 10) [] 272 xZ (Ρ ⟨272,aa,aa,F⟩ mm) (Kd ⟨272,aa,aa,F⟩)=wp al rec mm some:=by kernel_rfl
def wu {al:(Val af)} {rec:(Val ai)→Option ((Val af))}:(((Ġ (æ al rec ρ).P 231).elim [] (Û 0)).filter fun y=>Nat.beq y.1 2).length=1:=by kernel_rfl
def yE {al:(Val af)} {rec:(Val ai)→Option ((Val af))}:Ox (lq (Ġ (æ al rec ρ).P 231) 2)=true:=by kernel_rfl
def yC (p:Val bf) (v v':Val af):(ô Ū [aa,ai,aa] [af] p v').t=(ô Ū [aa,ai,aa] [af] p v).t:=by kernel_rfl
def yD (p:Val bf) (v:Val af):(ô Ū [aa,ai,aa] [af] p v).t.all (st3 4)=true:=by kernel_rfl
def ww {al:(Val af)} {rec:(Val ai)→Option ((Val af))} (p:Val bf) (v:Val af) (y:(Val aj)) (kn:Val bf→Val af→Option ρ):yY (æ al rec ρ) (Ŧ (æ al rec ρ) (10-0 / 2)) 231 [] 4 2 (lq (Ġ (æ al rec ρ).P 231) 2) (ô Ū [aa,ai,aa] [af] p v) (enc aj y) ((gO al rec ρ).back kn)=(gO al rec ρ).bF p v y (kn p):=by kernel_rfl
def yF {al:(Val af)} {rec:(Val ai)→Option ((Val af))} (hit:jz Tryz.prog ⟨231,ai,aj,rec⟩):(gO al rec ρ).Ok (æ al rec ρ):=⟨wu,hit,yC,yD,ww⟩
def wx {al:(Val af)} {rec:(Val ai)→Option ((Val af))}:(((Ġ (æ al rec ρ).P 231).elim [] (Û 0)).filter fun y=>Nat.beq y.1 0).length=1:=by kernel_rfl
def yI {al:(Val af)} {rec:(Val ai)→Option ((Val af))}:Ox (lq (Ġ (æ al rec ρ).P 231) 0)=true:=by kernel_rfl
def yG (p:Val ai) (v v':Val af):(ô ū [ai] [af] p v').t=(ô ū [ai] [af] p v).t:=by kernel_rfl
def yH (p:Val ai) (v:Val af):(ô ū [ai] [af] p v).t.all (st3 3)=true:=by kernel_rfl
def wy {al:(Val af)} {rec:(Val ai)→Option ((Val af))} (p:Val ai) (v:Val af) (y:(Val aa)) (kn:Val ai→Val af→Option ρ):yY (æ al rec ρ) (Ŧ (æ al rec ρ) (10-0 / 2)) 231 [] 3 0 (lq (Ġ (æ al rec ρ).P 231) 0) (ô ū [ai] [af] p v) (enc aa y) ((gP al rec ρ).back kn)=(gP al rec ρ).bF p v y (kn p):=by kernel_rfl
def yJ {al:(Val af)} {rec:(Val ai)→Option ((Val af))} (hit:jz Tryz.prog Ke):(gP al rec ρ).Ok (æ al rec ρ):=⟨wx,hit,yG,yH,wy⟩
def Ci {al:(Val af)} {rec:(Val ai)→Option ((Val af))} (mm:(Val ai)) (F:(Val ai)→Option (List (Val aj))):tk (æ al rec _) (Ŧ (æ al rec _) 10) [] 231 xZ (Ρ ⟨231,ai,aj,F⟩ mm) (Kd ⟨231,ai,aj,F⟩)=rl al rec mm some:=by kernel_rfl
def pe {al:(Val aa)} {rec:(Val aa)→Option ((Val aa))}:(((Ġ (Ą al rec ρ).P 268).elim [] (Û 0)).filter fun y=>Nat.beq y.1 0).length=1:=by kernel_rfl
def pf {al:(Val aa)} {rec:(Val aa)→Option ((Val aa))} (p:Val aV) (v:Val ŋ) (kn:Val aV→Val ŋ→Option ρ) (kx:(i:Nat)→Val aV→Val (tyL (ē.zs i))→Option ρ) :
    goC (Ą al rec ρ) (Ŧ (Ą al rec ρ) (10-0 / 2)) 268 [] 2 0 (sW (Ġ (Ą al rec ρ).P 268) 0) (ô ē.head ē.cs ē.vs p v) (D5 ē kn kx)=(Ζ al rec ρ).bF p v (kn p) (fun i=>kx i p):=by kernel_rfl
def pM {al:(Val aa)} {rec:(Val aa)→Option ((Val aa))}:(Ζ al rec ρ).Ok (Ą al rec ρ):=⟨pe,pf⟩
def sw {al:(Val aa)} {rec:(Val aa)→Option ((Val aa))} (mm:(Val aa)) (F:(Val aa)→Option (List Int)):tk (Ą al rec _) (Ŧ (Ą al rec _) 10) [] 268 xZ (Ρ ⟨268,aa,tI,F⟩ mm) (Kd ⟨268,aa,tI,F⟩)=jj al rec mm some:=by kernel_rfl
def tW:(lm ρ).Ok (jN ρ):=⟨by kernel_rfl,fun p v kn kx=>by kernel_rfl⟩
def wJ (x:Val ay) (k:Int→Option ρ) :
    ŧ (jN ρ) 173 [aa,tI] [tI] x k=lP x.1 x.2 k:=by kernel_rfl
def sF (x:Val ay) (k:Bool→Option ρ) :
    ŧ (ln ρ) 92 [aa,tI] [.bool] x k=jk x.1 x.2 k:=by kernel_rfl
def MJ:(C9 ρ).Ok (xU ρ):=⟨by kernel_rfl,fun p v kn kx=>by kernel_rfl⟩
def MI:(C7 ρ).Ok (xU ρ):=⟨by kernel_rfl,fun p v kn kx=>by kernel_rfl⟩
def Tv (x:Val (.pair É Ô)) (k:(Val aa)→Option ρ) :
    ŧ (xU ρ) 201 [É,Ô] [aa] x k=P9 x.1 x.2 k:=by kernel_rfl
def JS:(zO ρ).Ok (ur ρ):=⟨by kernel_rfl,fun p v kn kx=>by kernel_rfl⟩
def JT:(zQ ρ).Ok (ur ρ):=⟨by kernel_rfl,fun p v kn kx=>by kernel_rfl⟩
def PW (x:Val É) (k:(Val ab)→Option ρ) :
    ŧ (ur ρ) 136 [É] [ab] x k=JU x k:=by kernel_rfl
def MF (x:Val Ĕ) (k:Bool→Option ρ) :
    ŧ (F9 ρ) 141 [Ã,tI,tI] [.bool] x k=EX x.1 x.2.1 x.2.2 k:=by kernel_rfl
def Mo (x:Val Ō) (k:Bool→Option ρ) :
    ŧ (F8 ρ) 212 [tI,tI,tI] [.bool] x k=EP x.1 x.2.1 x.2.2 k:=by kernel_rfl
def P3 (x:Val tI) (k:Bool→Option ρ) :
    ŧ (JZ ρ) 205 [tI] [.bool] x k=J0 x k:=by kernel_rfl
def S7 (x:Val tI) (k:Int→Option ρ) :
    ŧ (NM ρ) 291 [tI] [(.int .u64)] x k=PJ x k:=by kernel_rfl
def PK:(F5 ρ).Ok (JG ρ):=⟨by kernel_rfl,fun p v kn kx=>by kernel_rfl⟩
def Vv (x:Val bh) (k:Int→Option ρ) :
    ŧ (JG ρ) 292 [(.int .u64),(.int .u64)] [(.int .u64)] x k=Vw x.1 x.2 k:=by kernel_rfl
def PO (x:Val Ã) (k:Bool→Option ρ) :
    ŧ (JJ ρ) 253 [Ã] [.bool] x k=JK x k:=by kernel_rfl
def JY (x:Val Ô) (k:Bool→Option ρ) :
    ŧ (C6 ρ) 203 [Ô] [.bool] x k=A2 x k:=by kernel_rfl
def xe:(nJ ρ).Ok (lT ρ):=⟨by kernel_rfl,fun p v kn kx=>by kernel_rfl⟩
def A6 (x:Val É) (k:Int→Option ρ) :
    ŧ (lT ρ) 142 [É] [tI] x k=pl x k:=by kernel_rfl
def EQ:(vn ρ).Ok (uk ρ):=⟨by kernel_rfl,fun p v kn kx=>by kernel_rfl⟩
def JP (x:Val É) (k:(Val am)→Option ρ) :
    ŧ (uk ρ) 143 [É] [am] x k=AY x k:=by kernel_rfl
def CQ (x:Val (.pair am Ã)) (k:Int→Option ρ) :
    ŧ (vp ρ) 206 [am,tI,tI] [tI] x k=rB x.1 x.2.1 x.2.2 k:=by kernel_rfl
def JR (x:Val (.pair tI (.pair tI (.ptr am)))) (k:Int→Option ρ) :
    ŧ (CS ρ) 204 [tI,tI,(.ptr am)] [tI] x k=A0 x.1 x.2.1 x.2.2 k:=by kernel_rfl
def A4:(qK ρ).Ok (kF ρ):=⟨by kernel_rfl,fun p v kn kx=>by kernel_rfl⟩
def A3:(qI ρ).Ok (kF ρ):=⟨by kernel_rfl,fun p v kn kx=>by kernel_rfl⟩
def E4 (x:Val bj) (k:Int→Option ρ) :
    ŧ (kF ρ) 208 [É,am,tI] [tI] x k=uE x.1 x.2.1 x.2.2 k:=by kernel_rfl
def MA:(C4 ρ).Ok (xT ρ):=⟨by kernel_rfl,fun p v kn kx=>by kernel_rfl⟩
def Mz:(C3 ρ).Ok (xT ρ):=⟨by kernel_rfl,fun p v kn kx=>by kernel_rfl⟩
def Tr (x:Val (.pair aa aa)) (k:(Val aa)→Option ρ) :
    ŧ (xT ρ) 148 [aa,aa] [aa] x k=P0 x.1 x.2 k:=by kernel_rfl
def Hg:(xc ρ).Ok (xd ρ):=⟨by kernel_rfl,fun p v kn kx=>by kernel_rfl⟩
def MC (x:Val aa) (k:Bool→Option ρ) :
    ŧ (xd ρ) 172 [aa] [.bool] x k=EW x k:=by kernel_rfl
def MK:(Db ρ).Ok (E5 ρ):=⟨by kernel_rfl,fun p v kn kx=>by kernel_rfl⟩
def Tx (x:Val aJ) (k:(Val (.pair ik .bool))→Option ρ) :
    ŧ (E5 ρ) 259 [É,tI,tI] [ik,.bool] x k=Qa x.1 x.2.1 x.2.2 k:=by kernel_rfl
def vA:(mX ρ).Ok (Œ ρ):=⟨by kernel_rfl,fun p v kn kx=>by kernel_rfl⟩
def vy:(mT ρ).Ok (Œ ρ):=⟨by kernel_rfl,fun p v kn kx=>by kernel_rfl⟩
def vz:(mV ρ).Ok (Œ ρ):=⟨by kernel_rfl,fun p v kn kx=>by kernel_rfl⟩
def vx:(mR ρ).Ok (Œ ρ):=⟨by kernel_rfl,fun p v kn kx=>by kernel_rfl⟩
def yR (x:Val bj) (k:Int→Option ρ) :
    ŧ (Œ ρ) 209 [É,am,tI] [tI] x k=nA x.1 x.2.1 x.2.2 k:=by kernel_rfl
end Go.Proofs.ZzM
end
