/- lemmas -/
import Derived.Test.YtdmegkgjpgcfgaaGreatMdMA
set_option linter.all false
set_option linter.unusedSectionVars false
set_option linter.unusedVariables false
set_option linter.unusedSimpArgs false
noncomputable section
variable {ρ:Type}
set_option maxRecDepth 100000
namespace Go.Proofs.ZzM
open Go Go.Am
def Ig:(xS ρ).Ok (iY ρ):=⟨by kernel_rfl,fun p v kn kx=>by kernel_rfl⟩
def If:(xQ ρ).Ok (iY ρ):=⟨by kernel_rfl,fun p v kn kx=>by kernel_rfl⟩
def Ie:(xO ρ).Ok (iY ρ):=⟨by kernel_rfl,fun p v kn kx=>by kernel_rfl⟩
def Ib:(xL ρ).Ok (iY ρ):=⟨by kernel_rfl,fun p v kn kx=>by kernel_rfl⟩
def Ic:(xN ρ).Ok (iY ρ):=⟨by kernel_rfl,fun p v kn kx=>by kernel_rfl⟩
def Nv (x:Val (.pair Ì (.pair ao tI))) (k:(Val aa)→Option ρ) :
    š (iY ρ) 134 [Ì,ao,tI] [aa] x k=FN x.1 x.2.1 x.2.2 k:=by kernel_rfl
def Ky:(AA ρ).Ok (vd ρ):=⟨by kernel_rfl,fun p v kn kx=>by kernel_rfl⟩
def Kx:(Az ρ).Ok (vd ρ):=⟨by kernel_rfl,fun p v kn kx=>by kernel_rfl⟩
def QS (x:Val Ì) (k:(Val bg)→Option ρ) :
    š (vd ρ) 185 [Ì] [ab,tI] x k=Kz x k:=by kernel_rfl
def M6 (x:Val aK) (k:Val Cl→Option ρ) :
    š (G5 ρ) 106 [Ê,Ã] [Ã,tI] x k=Fu x.1 x.2 k:=by kernel_rfl
def HY:(xC ρ).Ok (qX ρ):=⟨by kernel_rfl,fun p v kn kx=>by kernel_rfl⟩
def HX:(xA ρ).Ok (qX ρ):=⟨by kernel_rfl,fun p v kn kx=>by kernel_rfl⟩
def Nn (x:Val aZ) (k:(Val (.pair ak tI))→Option ρ) :
    š (qX ρ) 42 [Â,tI,tI] [ak,tI] x k=FD x.1 x.2.1 x.2.2 k:=by kernel_rfl
def HM:(((ģ (Φ ρ).P 298).elim [] (Û 0)).filter fun y=>Nat.beq y.1 0).length=1:=by kernel_rfl
def JX:PT (lT (ģ (Φ ρ).P 298) 0)=true:=by kernel_rfl
def JV (p:Val ac) (v v':Val aa):(õ jC [tI,tI,ag,ab,ah,ae,ab,ai] [aa] p v').t=(õ jC [tI,tI,ag,ab,ah,ae,ab,ai] [aa] p v).t:=by kernel_rfl
def JW (p:Val ac) (v:Val aa):(õ jC [tI,tI,ag,ab,ah,ae,ab,ai] [aa] p v).t.all (st3 3)=true:=by kernel_rfl
def HN (p:Val ac) (v:Val aa) (y:Int) (kn:Val ac→Val aa→Option ρ):zW (Φ ρ) (Ű (Φ ρ) (10-6 / 2)) 298 [7,8,1,1,1,1] 3 0 (lT (ģ (Φ ρ).P 298) 0) (õ jC [tI,tI,ag,ab,ah,ae,ab,ai] [aa] p v) (enc tI y) ((mM ρ).back kn)=(mM ρ).bF p v y (kn p):=by kernel_rfl
def JY (hit:jP Tryz.prog Eb):(mM ρ).Ok (Φ ρ):=⟨HM,hit,JV,JW,HN⟩
def JZ:(Ah ρ).Ok (Φ ρ):=⟨by kernel_rfl,fun p v kn kx=>by kernel_rfl⟩
def Qs (x:Val aI) (k:Bool→Option ρ) :
    š (Φ ρ) 154 [Â,aj] [.bool] x k=J0 x.1 x.2 k:=by kernel_rfl
def Qy (x:Val aI) (k:Int→Option ρ) :
    š (Kc ρ) 78 [Â,aj] [tI] x k=Kd x.1 x.2 k:=by kernel_rfl
def Xa (x:Val bc) (k:Val Ã→Option ρ) :
    š (Ub ρ) 49 [Â,aj,tI,tI] [tI,tI] x k=Xb x.1 x.2.1 x.2.2.1 x.2.2.2 k:=by kernel_rfl
def Xm:(O4 ρ).Ok (FM ρ):=⟨by kernel_rfl,fun p v kn kx=>by kernel_rfl⟩
def Xk:(O1 ρ).Ok (FM ρ):=⟨by kernel_rfl,fun p v kn kx=>by kernel_rfl⟩
def Xj:(OZ ρ).Ok (FM ρ):=⟨by kernel_rfl,fun p v kn kx=>by kernel_rfl⟩
def Xl:(O3 ρ).Ok (FM ρ):=⟨by kernel_rfl,fun p v kn kx=>by kernel_rfl⟩
def ac5 (x:Val aY) (k:(Val aj)→Option ρ) :
    š (FM ρ) 128 [Ì,tI,tI] [aj] x k=Kt x.1 x.2.1 x.2.2 k:=by kernel_rfl
def KI:(AJ ρ).Ok (j9 ρ):=⟨by kernel_rfl,fun p v kn kx=>by kernel_rfl⟩
def KC:(AB ρ).Ok (j9 ρ):=⟨by kernel_rfl,fun p v kn kx=>by kernel_rfl⟩
def KD:(AD ρ).Ok (j9 ρ):=⟨by kernel_rfl,fun p v kn kx=>by kernel_rfl⟩
def KE:(AF ρ).Ok (j9 ρ):=⟨by kernel_rfl,fun p v kn kx=>by kernel_rfl⟩
def KH:(AH ρ).Ok (j9 ρ):=⟨by kernel_rfl,fun p v kn kx=>by kernel_rfl⟩
def QY (x:Val Ì) (k:(Val aw)→Option ρ) :
    š (j9 ρ) 64 [Ì] [aa,tI] x k=Dx x k:=by kernel_rfl
def Kg:(As ρ).Ok (BC ρ):=⟨by kernel_rfl,fun p v kn kx=>by kernel_rfl⟩
def QB (x:Val Â) (k:(Val (.pair aj tI))→Option ρ) :
    š (BC ρ) 59 [Â] [aj,tI] x k=Kh x k:=by kernel_rfl
def FL:(wi ρ).Ok (uX ρ):=⟨by kernel_rfl,fun p v kn kx=>by kernel_rfl⟩
def Ks (x:Val aU) (k:Int→Option ρ) :
    š (uX ρ) 188 [Ì,aa] [tI] x k=BF x.1 x.2 k:=by kernel_rfl
def Ns:(Dj ρ).Ok (FI ρ):=⟨by kernel_rfl,fun p v kn kx=>by kernel_rfl⟩
def Ul (x:Val (.pair Ì œ)) (k:(Val (.pair tI (.pair tI .bool)))→Option ρ) :
    š (FI ρ) 189 [Ì,tI,aa] [tI,tI,.bool] x k=QL x.1 x.2.1 x.2.2 k:=by kernel_rfl
def Dz (x:Val aU) (k:Int→Option ρ) :
    š (wm ρ) 122 [Ì,aa] [tI] x k=si x.1 x.2 k:=by kernel_rfl
def zI:(pA ρ).Ok (nY ρ):=⟨by kernel_rfl,fun p v kn kx=>by kernel_rfl⟩
def Dg (x:Val aI) (k:Int→Option ρ) :
    š (nY ρ) 60 [Â,aj] [tI] x k=sd x.1 x.2 k:=by kernel_rfl
def HG (x:Val ae) (k:Val Â→Option ρ) :
    š (Ae ρ) 77 [ae] [Â] x k=GZ x k:=by kernel_rfl
def JL (x:Unit) (k:Bool→Option ρ) :
    š (CL ρ) 17 [] [.bool] x k=Bj k:=by kernel_rfl
def FC (x:Val aI) (k:(Val (.pair Ê tI))→Option ρ) :
    š (xy ρ) 41 [Â,aj] [Ê,tI] x k=uO x.1 x.2 k:=by kernel_rfl
def vn:(lS ρ).Ok (ka ρ):=⟨by kernel_rfl,fun p v kn kx=>by kernel_rfl⟩
def ya (x:Val (.pair aD aa)) (k:Int→Option ρ) :
    š (ka ρ) 146 [aD,aa] [tI] x k=mw x.1 x.2 k:=by kernel_rfl
def NA:(Du ρ).Ok (yQ ρ):=⟨by kernel_rfl,fun p v kn kx=>by kernel_rfl⟩
def Nz:(Ds ρ).Ok (yQ ρ):=⟨by kernel_rfl,fun p v kn kx=>by kernel_rfl⟩
def Us (x:Val aU) (k:(Val aH)→Option ρ) :
    š (yQ ρ) 219 [Ì,aa] [.bool,tI] x k=QW x.1 x.2 k:=by kernel_rfl
def DI (x:Val (.pair aD aa)) (k:Bool→Option ρ) :
    š (wq ρ) 153 [aD,aa] [.bool] x k=sl x.1 x.2 k:=by kernel_rfl
def U5 (x:Val (.pair Ê aa)) (k:(Val aH)→Option ρ) :
    š (O9 ρ) 76 [Ê,aa] [.bool,tI] x k=RF x.1 x.2 k:=by kernel_rfl
def H4 (x:Val (.pair Â (.pair aj aa))) (k:Int→Option ρ) :
    š (Ax ρ) 61 [Â,aj,aa] [tI] x k=xE x.1 x.2.1 x.2.2 k:=by kernel_rfl
def Q3 (x:Val aY) (k:Val Ã→Option ρ) :
    š (KL ρ) 139 [Ì,tI,tI] [tI,tI] x k=KM x.1 x.2.1 x.2.2 k:=by kernel_rfl
def QU (x:Val aY) (k:(Val aw)→Option ρ) :
    š (KA ρ) 70 [Ì,tI,tI] [aa,tI] x k=KB x.1 x.2.1 x.2.2 k:=by kernel_rfl
def Bk:(qB ρ).Ok (kK ρ):=⟨by kernel_rfl,fun p v kn kx=>by kernel_rfl⟩
def Bl:(qD ρ).Ok (kK ρ):=⟨by kernel_rfl,fun p v kn kx=>by kernel_rfl⟩
def Fp (x:Val aZ) (k:Bool→Option ρ) :
    š (kK ρ) 13 [Â,tI,tI] [.bool] x k=uI x.1 x.2.1 x.2.2 k:=by kernel_rfl
end Go.Proofs.ZzM
end
