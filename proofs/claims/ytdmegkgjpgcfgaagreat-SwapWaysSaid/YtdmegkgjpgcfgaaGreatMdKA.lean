/- lemmas -/
import Derived.Test.YtdmegkgjpgcfgaaGreatMdMA
set_option linter.all false
noncomputable section
variable {ρ:Type}
set_option maxRecDepth 100000
namespace Go.Proofs.ZzM
open Go Go.Am
def M5:(AF ρ).Ok (tP ρ):=⟨by kernel_rfl,fun p v b a=>by kernel_rfl⟩
def M6:(AG ρ).Ok (tP ρ):=⟨by kernel_rfl,fun p v b a=>by kernel_rfl⟩
def TV (x:lA) (k:Bool->CK ρ) :
    ę (tP ρ) 22 [Â,ag] [.bool] x k=Ky x.1 x.2 k:=by kernel_rfl
def FA:(tO ρ).Ok (rP ρ):=⟨by kernel_rfl,fun p v b a=>by kernel_rfl⟩
def Kv (x:Val (.pair aj aj)) (k:Bool->CK ρ) :
    ę (rP ρ) 25 [aj,aj] [.bool] x k=xI x.1 x.2 k:=by kernel_rfl
def Km (x:lA) (k:BE->CK ρ) :
    ę (As ρ) 41 [Â,ag] [È,tI] x k=xz x.1 x.2 k:=by kernel_rfl
def TF (x:lA) (k:a8->CK ρ) :
    ę (L6 ρ) 48 [Â,ag] [tI,tI] x k=Kl x.1 x.2 k:=by kernel_rfl
def PG:(DI ρ).Ok (Ft ρ):=⟨by kernel_rfl,fun p v b a=>by kernel_rfl⟩
def XM (x:Val (.pair Â bi)) (k:AS->CK ρ) :
    ę (Ft ρ) 117 [Â,ag,tI] [aQ] x k=PH x.1 x.2.1 x.2.2 k:=by kernel_rfl
def XR (x:rn) (k:a8->CK ρ) :
    ę (PO ρ) 50 [Â,ag,tI,tI] [tI,tI] x k=PP x.1 x.2.1 x.2.2.1 x.2.2.2 k:=by kernel_rfl
def Da (x:Val (.pair Ð Ð)) (k:Bool->CK ρ) :
    ę (ud ρ) 118 [Ð,Ð] [.bool] x k=pD x.1 x.2 k:=by kernel_rfl
def C9:(rR ρ).Ok (pC ρ):=⟨by kernel_rfl,fun p v b a=>by kernel_rfl⟩
def HO (x:Val (.pair aa aa)) (k:Bool->CK ρ) :
    ę (pC ρ) 119 [aa,aa] [.bool] x k=vd x.1 x.2 k:=by kernel_rfl
def Qo:(Ea ρ).Ok (nO ρ):=⟨by kernel_rfl,fun p v b a=>by kernel_rfl⟩
def Qn:(D9 ρ).Ok (nO ρ):=⟨by kernel_rfl,fun p v b a=>by kernel_rfl⟩
def Qm:(D8 ρ).Ok (nO ρ):=⟨by kernel_rfl,fun p v b a=>by kernel_rfl⟩
def Ql:(D7 ρ).Ok (nO ρ):=⟨by kernel_rfl,fun p v b a=>by kernel_rfl⟩
def Yg (x:Val (.pair È È)) (k:Bool->CK ρ) :
    ę (nO ρ) 51 [È,È] [.bool] x k=Qp x.1 x.2 k:=by kernel_rfl
def Kt:(yV ρ).Ok (qe ρ):=⟨by kernel_rfl,fun p v b a=>by kernel_rfl⟩
def Ku:(yW ρ).Ok (qe ρ):=⟨by kernel_rfl,fun p v b a=>by kernel_rfl⟩
def PX (x:lA) (k:Int->CK ρ) :
    ę (qe ρ) 56 [Â,ag] [tI] x k=Fz x.1 x.2 k:=by kernel_rfl
def Hx {a:an->CK b5}:(((ğ (Į a ρ).P 120).elim [] (ß 0)).filter fun y=>Nat.beq y.1 2).length=1:=by kernel_rfl
def Hy {a:an->CK b5} (p:v8) (v:px) (c:v8->px->CK ρ) (b:(i:Nat)->v8->Val (tyL (Ζ.zs i))->CK ρ) :
    goC (Į a ρ) (Ţ (Į a ρ) (10-0 / 2)) 120 [] 0 2 (rX (ğ (Į a ρ).P 120) 2) (ú Ζ.head Ζ.cs Ζ.vs p v) (EM Ζ c b)=(pA a ρ).bF p v (c p) (fun i=>b i p):=by kernel_rfl
def Kq {a:an->CK b5}:(pA a ρ).Ok (Į a ρ):=⟨Hx,Hy⟩
def Hz {a:an->CK b5}:(((ğ (Į a ρ).P 120).elim [] (ß 0)).filter fun y=>Nat.beq y.1 0).length=1:=by kernel_rfl
def HA {a:an->CK b5} (p:an) (v:px) (c:an->px->CK ρ) (b:(i:Nat)->an->Val (tyL (Η.zs i))->CK ρ) :
    goC (Į a ρ) (Ţ (Į a ρ) (10-0 / 2)) 120 [] 0 0 (rX (ğ (Į a ρ).P 120) 0) (ú Η.head Η.cs Η.vs p v) (EM Η c b)=(pB a ρ).bF p v (c p) (fun i=>b i p):=by kernel_rfl
def Kr {a:an->CK b5}:(pB a ρ).Ok (Į a ρ):=⟨Hz,HA⟩
def PW {a:an->CK b5} (x:an) (k:b5->CK ρ) :
    ę (Į a ρ) 120 [ab] [ag] x k=nN a x k:=by kernel_rfl
def P0:(DU ρ).Ok (lR ρ):=⟨by kernel_rfl,fun p v b a=>by kernel_rfl⟩
def P1:(DX ρ).Ok (lR ρ):=⟨by kernel_rfl,fun p v b a=>by kernel_rfl⟩
def P2:(DZ ρ).Ok (lR ρ):=⟨by kernel_rfl,fun p v b a=>by kernel_rfl⟩
def PY:(DS ρ).Ok (lR ρ):=⟨by kernel_rfl,fun p v b a=>by kernel_rfl⟩
def PZ:(DT ρ).Ok (lR ρ):=⟨by kernel_rfl,fun p v b a=>by kernel_rfl⟩
def X5 (x:bl) (k:a7->CK ρ) :
    ę (lR ρ) 52 [Â] [aj] x k=P3 x k:=by kernel_rfl
def Ti (x:rn) (k:Int->CK ρ) :
    ę (L1 ρ) 53 [Â,ag,tI,tI] [tI] x k=Kb x.1 x.2.1 x.2.2.1 x.2.2.2 k:=by kernel_rfl
def TQ:(HE ρ).Ok (Ks ρ):=⟨by kernel_rfl,fun p v b a=>by kernel_rfl⟩
def abx (x:rn) (k:Int->CK ρ) :
    ę (Ks ρ) 54 [Â,ag,tI,tI] [tI] x k=X4 x.1 x.2.1 x.2.2.1 x.2.2.2 k:=by kernel_rfl
def M4:(AD ρ).Ok (AE ρ):=⟨by kernel_rfl,fun p v b a=>by kernel_rfl⟩
def TU (x:rn) (k:Int->CK ρ) :
    ę (AE ρ) 55 [Â,ag,tI,tI] [tI] x k=Kx x.1 x.2.1 x.2.2.1 x.2.2.2 k:=by kernel_rfl
def PT:(DN ρ).Ok (xF ρ):=⟨by kernel_rfl,fun p v b a=>by kernel_rfl⟩
def PU:(DQ ρ).Ok (xF ρ):=⟨by kernel_rfl,fun p v b a=>by kernel_rfl⟩
def XW (x:Val (.pair Â (.pair ag ay))) (k:an->CK ρ) :
    ę (xF ρ) 121 [Â,ag,ab,tI] [ab] x k=PV x.1 x.2.1 x.2.2.1 x.2.2.2 k:=by kernel_rfl
def C8:(rN ρ).Ok (Θ ρ):=⟨by kernel_rfl,fun p v b a=>by kernel_rfl⟩
def C7:(rL ρ).Ok (Θ ρ):=⟨by kernel_rfl,fun p v b a=>by kernel_rfl⟩
def C6:(rJ ρ).Ok (Θ ρ):=⟨by kernel_rfl,fun p v b a=>by kernel_rfl⟩
def C5:(rH ρ).Ok (Θ ρ):=⟨by kernel_rfl,fun p v b a=>by kernel_rfl⟩
def HF (x:lA) (k:b6->CK ρ) :
    ę (Θ ρ) 57 [Â,ag] [È] x k=uZ x.1 x.2 k:=by kernel_rfl
def Kc (x:rn) (k:Bool->CK ρ) :
    ę (Ab ρ) 8 [Â,ag,tI,tI] [.bool] x k=xr x.1 x.2.1 x.2.2.1 x.2.2.2 k:=by kernel_rfl
end Go.Proofs.ZzM
end
