/- lemmas -/
import Derived.Test.YtdmegkgjpgcfgaaGreatMdMA
set_option linter.all false
set_option linter.unusedSectionVars false
set_option linter.unusedVariables false
set_option linter.unusedSimpArgs false
noncomputable section
variable {ρ:Type}
set_option maxRecDepth 100000
namespace Go.Proofs.ZzM
open Go Go.Am
def Kk:(Ap ρ).Ok (By ρ):=⟨by kernel_rfl,fun p v kn kx=>by kernel_rfl⟩
def Qz (x:Val aU) (k:Int→Option ρ) :
    Ś (By ρ) 133 [Ë,aa] [tI] x k=Kl x.1 x.2 k:=by kernel_rfl
def HY:(xF ρ).Ok (iM ρ):=⟨by kernel_rfl,fun p v kn kx=>by kernel_rfl⟩
def HX:(xD ρ).Ok (iM ρ):=⟨by kernel_rfl,fun p v kn kx=>by kernel_rfl⟩
def HW:(xB ρ).Ok (iM ρ):=⟨by kernel_rfl,fun p v kn kx=>by kernel_rfl⟩
def HU:(xy ρ).Ok (iM ρ):=⟨by kernel_rfl,fun p v kn kx=>by kernel_rfl⟩
def HV:(xA ρ).Ok (iM ρ):=⟨by kernel_rfl,fun p v kn kx=>by kernel_rfl⟩
def Nf (x:Val (.pair Ë (.pair ao tI))) (k:(Val aa)→Option ρ) :
    Ś (iM ρ) 134 [Ë,ao,tI] [aa] x k=Fx x.1 x.2.1 x.2.2 k:=by kernel_rfl
def Kn:(Ar ρ).Ok (uN ρ):=⟨by kernel_rfl,fun p v kn kx=>by kernel_rfl⟩
def Km:(Aq ρ).Ok (uN ρ):=⟨by kernel_rfl,fun p v kn kx=>by kernel_rfl⟩
def QB (x:Val Ë) (k:(Val bf)→Option ρ) :
    Ś (uN ρ) 185 [Ë] [ab,tI] x k=Ko x k:=by kernel_rfl
def MO (x:Val aK) (k:Val Cb→Option ρ) :
    Ś (GN ρ) 106 [É,Ä] [Ä,tI] x k=E7 x.1 x.2 k:=by kernel_rfl
def HK:(xo ρ).Ok (qP ρ):=⟨by kernel_rfl,fun p v kn kx=>by kernel_rfl⟩
def HJ:(xm ρ).Ok (qP ρ):=⟨by kernel_rfl,fun p v kn kx=>by kernel_rfl⟩
def M6 (x:Val (.pair Â Ä)) (k:(Val (.pair ak tI))→Option ρ) :
    Ś (qP ρ) 42 [Â,tI,tI] [ak,tI] x k=Fl x.1 x.2.1 x.2.2 k:=by kernel_rfl
def Hx:(((Ġ (Ν ρ).P 298).elim [] (Û 0)).filter fun y=>Nat.beq y.1 0).length=1:=by kernel_rfl
def JM:PB (lE (Ġ (Ν ρ).P 298) 0)=true:=by kernel_rfl
def JK (p:Val ac) (v v':Val aa):(ñ ju [tI,tI,ag,ab,ah,ae,ab,ai] [aa] p v').t=(ñ ju [tI,tI,ag,ab,ah,ae,ab,ai] [aa] p v).t:=by kernel_rfl
def JL (p:Val ac) (v:Val aa):(ñ ju [tI,tI,ag,ab,ah,ae,ab,ai] [aa] p v).t.all (st3 3)=true:=by kernel_rfl
def Hy (p:Val ac) (v:Val aa) (y:Int) (kn:Val ac→Val aa→Option ρ):zQ (Ν ρ) (Ů (Ν ρ) (10-6 / 2)) 298 [7,8,1,1,1,1] 3 0 (lE (Ġ (Ν ρ).P 298) 0) (ñ ju [tI,tI,ag,ab,ah,ae,ab,ai] [aa] p v) (enc tI y) ((mr ρ).back kn)=(mr ρ).bF p v y (kn p):=by kernel_rfl
def JN (hit:jE Tryz.prog D0):(mr ρ).Ok (Ν ρ):=⟨Hx,hit,JK,JL,Hy⟩
def JO:(zZ ρ).Ok (Ν ρ):=⟨by kernel_rfl,fun p v kn kx=>by kernel_rfl⟩
def Qb (x:Val aI) (k:Bool→Option ρ) :
    Ś (Ν ρ) 154 [Â,af] [.bool] x k=JP x.1 x.2 k:=by kernel_rfl
def Qh (x:Val aI) (k:Int→Option ρ) :
    Ś (J1 ρ) 78 [Â,af] [tI] x k=J2 x.1 x.2 k:=by kernel_rfl
def WF (x:Val ba) (k:Val Ä→Option ρ) :
    Ś (TQ ρ) 49 [Â,af,tI,tI] [tI,tI] x k=WG x.1 x.2.1 x.2.2.1 x.2.2.2 k:=by kernel_rfl
def WR:(OO ρ).Ok (Fw ρ):=⟨by kernel_rfl,fun p v kn kx=>by kernel_rfl⟩
def WP:(OJ ρ).Ok (Fw ρ):=⟨by kernel_rfl,fun p v kn kx=>by kernel_rfl⟩
def WO:(OH ρ).Ok (Fw ρ):=⟨by kernel_rfl,fun p v kn kx=>by kernel_rfl⟩
def WQ:(OM ρ).Ok (Fw ρ):=⟨by kernel_rfl,fun p v kn kx=>by kernel_rfl⟩
def acn (x:Val (.pair Ë Ä)) (k:(Val af)→Option ρ) :
    Ś (Fw ρ) 128 [Ë,tI,tI] [af] x k=Ki x.1 x.2.1 x.2.2 k:=by kernel_rfl
def Kv:(AD ρ).Ok (jU ρ):=⟨by kernel_rfl,fun p v kn kx=>by kernel_rfl⟩
def Kr:(Au ρ).Ok (jU ρ):=⟨by kernel_rfl,fun p v kn kx=>by kernel_rfl⟩
def Ks:(Ax ρ).Ok (jU ρ):=⟨by kernel_rfl,fun p v kn kx=>by kernel_rfl⟩
def Kt:(Az ρ).Ok (jU ρ):=⟨by kernel_rfl,fun p v kn kx=>by kernel_rfl⟩
def Ku:(AB ρ).Ok (jU ρ):=⟨by kernel_rfl,fun p v kn kx=>by kernel_rfl⟩
def QF (x:Val Ë) (k:(Val aw)→Option ρ) :
    Ś (jU ρ) 64 [Ë] [aa,tI] x k=Dm x k:=by kernel_rfl
def J4:(Ai ρ).Ok (Bv ρ):=⟨by kernel_rfl,fun p v kn kx=>by kernel_rfl⟩
def Qk (x:Val Â) (k:(Val aZ)→Option ρ) :
    Ś (Bv ρ) 59 [Â] [af,tI] x k=J5 x k:=by kernel_rfl
def Fv:(vL ρ).Ok (uJ ρ):=⟨by kernel_rfl,fun p v kn kx=>by kernel_rfl⟩
def Kh (x:Val aU) (k:Int→Option ρ) :
    Ś (uJ ρ) 188 [Ë,aa] [tI] x k=Bx x.1 x.2 k:=by kernel_rfl
def Nb:(C8 ρ).Ok (Fs ρ):=⟨by kernel_rfl,fun p v kn kx=>by kernel_rfl⟩
def T0 (x:Val (.pair Ë ŏ)) (k:(Val (.pair tI (.pair tI .bool)))→Option ρ) :
    Ś (Fs ρ) 189 [Ë,tI,aa] [tI,tI,.bool] x k=Qu x.1 x.2.1 x.2.2 k:=by kernel_rfl
def Dp (x:Val aU) (k:Int→Option ρ) :
    Ś (vN ρ) 122 [Ë,aa] [tI] x k=rX x.1 x.2 k:=by kernel_rfl
def zA:(po ρ).Ok (nH ρ):=⟨by kernel_rfl,fun p v kn kx=>by kernel_rfl⟩
def C5 (x:Val aI) (k:Int→Option ρ) :
    Ś (nH ρ) 60 [Â,af] [tI] x k=rR x.1 x.2 k:=by kernel_rfl
def Hs (x:Val ae) (k:Val Â→Option ρ) :
    Ś (zW ρ) 77 [ae] [Â] x k=GI x k:=by kernel_rfl
def Jz (x:Unit) (k:Bool→Option ρ) :
    Ś (CA ρ) 17 [] [.bool] x k=Bc k:=by kernel_rfl
def HI (x:Val aI) (k:(Val aG)→Option ρ) :
    Ś (Aj ρ) 18 [Â,af] [.bool,tI] x k=xl x.1 x.2 k:=by kernel_rfl
def Fk (x:Val aI) (k:(Val (.pair É tI))→Option ρ) :
    Ś (xi ρ) 41 [Â,af] [É,tI] x k=uz x.1 x.2 k:=by kernel_rfl
def uU:(lD ρ).Ok (jV ρ):=⟨by kernel_rfl,fun p v kn kx=>by kernel_rfl⟩
def xP (x:Val (.pair aD aa)) (k:Int→Option ρ) :
    Ś (jV ρ) 146 [aD,aa] [tI] x k=l8 x.1 x.2 k:=by kernel_rfl
def Nk:(Dj ρ).Ok (yH ρ):=⟨by kernel_rfl,fun p v kn kx=>by kernel_rfl⟩
def Nj:(Dh ρ).Ok (yH ρ):=⟨by kernel_rfl,fun p v kn kx=>by kernel_rfl⟩
def T6 (x:Val aU) (k:(Val aG)→Option ρ) :
    Ś (yH ρ) 219 [Ë,aa] [.bool,tI] x k=QD x.1 x.2 k:=by kernel_rfl
def Dy (x:Val (.pair aD aa)) (k:Bool→Option ρ) :
    Ś (vR ρ) 153 [aD,aa] [.bool] x k=sa x.1 x.2 k:=by kernel_rfl
def UG (x:Val (.pair É aa)) (k:(Val aG)→Option ρ) :
    Ś (OU ρ) 76 [É,aa] [.bool,tI] x k=Rk x.1 x.2 k:=by kernel_rfl
def HM (x:Val bj) (k:Int→Option ρ) :
    Ś (Ao ρ) 61 [Â,af,aa] [tI] x k=xq x.1 x.2.1 x.2.2 k:=by kernel_rfl
def H4 (x:Val Ë) (k:(Val aw)→Option ρ) :
    Ś (As ρ) 67 [Ë] [aa,tI] x k=xH x k:=by kernel_rfl
def vV:(mI ρ).Ok (iy ρ):=⟨by kernel_rfl,fun p v kn kx=>by kernel_rfl⟩
def zo (x:Val bj) (k:Bool→Option ρ) :
    Ś (iy ρ) 12 [Â,af,aa] [.bool] x k=nF x.1 x.2.1 x.2.2 k:=by kernel_rfl
end Go.Proofs.ZzM
end
