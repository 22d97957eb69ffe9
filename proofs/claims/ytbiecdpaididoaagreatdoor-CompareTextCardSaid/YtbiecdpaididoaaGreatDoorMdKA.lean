/- lemmas -/
import Derived.Test.YtbiecdpaididoaaGreatDoorMdMA
set_option linter.all false
noncomputable section
variable {ρ:Type}
set_option maxRecDepth 100000
namespace Go.Proofs.ZzM
open Go Go.Am
def Dv:(ud ρ).Ok (Dw ρ):=⟨by kernel_rfl,fun p v b a=>by kernel_rfl⟩
def CT:(tN ρ).Ok (CU ρ):=⟨by kernel_rfl,fun p v b a=>by kernel_rfl⟩
def AW:(qp ρ).Ok (lC ρ):=⟨by kernel_rfl,fun p v b a=>by kernel_rfl⟩
def AU:(qo ρ).Ok (lC ρ):=⟨by kernel_rfl,fun p v b a=>by kernel_rfl⟩
def AX:(qq ρ).Ok (lC ρ):=⟨by kernel_rfl,fun p v b a=>by kernel_rfl⟩
def Dh:(tX ρ).Ok (Di ρ):=⟨by kernel_rfl,fun p v b a=>by kernel_rfl⟩
def Dp:(t7 ρ).Ok (Dq ρ):=⟨by kernel_rfl,fun p v b a=>by kernel_rfl⟩
def FJ:(wJ ρ).Ok (Hn ρ):=⟨by kernel_rfl,fun p v b a=>by kernel_rfl⟩
def Dr:(t8 ρ).Ok (Ds ρ):=⟨by kernel_rfl,fun p v b a=>by kernel_rfl⟩
def vq:(lG ρ).Ok (ż ρ):=⟨by kernel_rfl,fun p v b a=>by kernel_rfl⟩
def vp:(lF ρ).Ok (ż ρ):=⟨by kernel_rfl,fun p v b a=>by kernel_rfl⟩
def vn:(lE ρ).Ok (ż ρ):=⟨by kernel_rfl,fun p v b a=>by kernel_rfl⟩
def yT (x:ID) (k:Int->Nm ρ) :
    Ph (ż ρ) 39 [Ä,Ï] [tI] x k=om x.1 x.2 k:=by kernel_rfl
def C3:(tQ ρ).Ok (vr ρ):=⟨by kernel_rfl,fun p v b a=>by kernel_rfl⟩
def C2:(tP ρ).Ok (vr ρ):=⟨by kernel_rfl,fun p v b a=>by kernel_rfl⟩
def Ba:(qI ρ).Ok (Ž ρ):=⟨by kernel_rfl,fun p v b a=>by kernel_rfl⟩
def A9:(qH ρ).Ok (Ž ρ):=⟨by kernel_rfl,fun p v b a=>by kernel_rfl⟩
def A8:(qG ρ).Ok (Ž ρ):=⟨by kernel_rfl,fun p v b a=>by kernel_rfl⟩
def A5:(qA ρ).Ok (Ž ρ):=⟨by kernel_rfl,fun p v b a=>by kernel_rfl⟩
def A6:(qC ρ).Ok (Ž ρ):=⟨by kernel_rfl,fun p v b a=>by kernel_rfl⟩
def A7:(qE ρ).Ok (Ž ρ):=⟨by kernel_rfl,fun p v b a=>by kernel_rfl⟩
def C5:(tR ρ).Ok (C6 ρ):=⟨by kernel_rfl,fun p v b a=>by kernel_rfl⟩
def Dm:(tY ρ).Ok (Dn ρ):=⟨by kernel_rfl,fun p v b a=>by kernel_rfl⟩
def Bb:(qJ ρ).Ok (Af ρ):=⟨by kernel_rfl,fun p v b a=>by kernel_rfl⟩
def FA:(wE ρ).Ok (sa ρ):=⟨by kernel_rfl,fun p v b a=>by kernel_rfl⟩
def FB:(wF ρ).Ok (sa ρ):=⟨by kernel_rfl,fun p v b a=>by kernel_rfl⟩
def Fz:(wD ρ).Ok (sa ρ):=⟨by kernel_rfl,fun p v b a=>by kernel_rfl⟩
def Bh:(qN ρ).Ok (gh ρ):=⟨by kernel_rfl,fun p v b a=>by kernel_rfl⟩
def Bf:(qL ρ).Ok (gh ρ):=⟨by kernel_rfl,fun p v b a=>by kernel_rfl⟩
def Bg:(qM ρ).Ok (gh ρ):=⟨by kernel_rfl,fun p v b a=>by kernel_rfl⟩
def Be:(qK ρ).Ok (gh ρ):=⟨by kernel_rfl,fun p v b a=>by kernel_rfl⟩
def FL (x:bx) (k:Int->Nm ρ) :
    Ph (gh ρ) 11 [Ä] [tI] x k=yU x k:=by kernel_rfl
def vv {a:Int->Nm ByteArray}:(((Θ (Ň a ρ).P 100).elim [] (Ú 0)).filter fun y=>Nat.beq y.1 0).length=1:=by kernel_rfl
def vw {a:Int->Nm ByteArray} (p:Unit) (v:Do) (c:Unit->Do->Nm ρ) (b:(i:Nat)->Unit->Val (tyL (Į.zs i))->Nm ρ) :
    goC (Ň a ρ) (Η (Ň a ρ) (10-0 / 2)) 100 [] 0 0 (xx (Θ (Ň a ρ).P 100) 0) (é Į.head Į.cs Į.vs p v) (NH Į c b)=(im a ρ).bF p v (c p) (fun i=>b i p):=by kernel_rfl
def wK {a:Int->Nm ByteArray}:(im a ρ).Ok (Ň a ρ):=⟨vv,vw⟩
def Bc {a:Int->Nm ByteArray} (x:Int) (k:ByteArray->Nm ρ) :
    Ph (Ň a ρ) 100 [tI] [.str] x k=Ŗ a x k:=by kernel_rfl
def C0:(tO ρ).Ok (C1 ρ):=⟨by kernel_rfl,fun p v b a=>by kernel_rfl⟩
def A3:(qx ρ).Ok (gg ρ):=⟨by kernel_rfl,fun p v b a=>by kernel_rfl⟩
def A2:(qw ρ).Ok (gg ρ):=⟨by kernel_rfl,fun p v b a=>by kernel_rfl⟩
def A1:(qv ρ).Ok (gg ρ):=⟨by kernel_rfl,fun p v b a=>by kernel_rfl⟩
def A0:(qu ρ).Ok (gg ρ):=⟨by kernel_rfl,fun p v b a=>by kernel_rfl⟩
def AZ:(qt ρ).Ok (gg ρ):=⟨by kernel_rfl,fun p v b a=>by kernel_rfl⟩
def AY:(qr ρ).Ok (Ad ρ):=⟨by kernel_rfl,fun p v b a=>by kernel_rfl⟩
def yS:(pp ρ).Ok (wz ρ):=⟨by kernel_rfl,fun p v b a=>by kernel_rfl⟩
def wy:(nj ρ).Ok (mw ρ):=⟨by kernel_rfl,fun p v b a=>by kernel_rfl⟩
def wx:(ni ρ).Ok (mw ρ):=⟨by kernel_rfl,fun p v b a=>by kernel_rfl⟩
def AQ:(qn ρ).Ok (Ab ρ):=⟨by kernel_rfl,fun p v b a=>by kernel_rfl⟩
def A4:(qy ρ).Ok (Ae ρ):=⟨by kernel_rfl,fun p v b a=>by kernel_rfl⟩
def vu:(lN ρ).Ok (qs ρ):=⟨by kernel_rfl,fun p v b a=>by kernel_rfl⟩
def ta:(kD ρ).Ok (pq ρ):=⟨by kernel_rfl,fun p v b a=>by kernel_rfl⟩
def Da:(tV ρ).Ok (kB ρ):=⟨by kernel_rfl,fun p v b a=>by kernel_rfl⟩
def C9:(tU ρ).Ok (kB ρ):=⟨by kernel_rfl,fun p v b a=>by kernel_rfl⟩
def C8:(tT ρ).Ok (kB ρ):=⟨by kernel_rfl,fun p v b a=>by kernel_rfl⟩
def C7:(tS ρ).Ok (kB ρ):=⟨by kernel_rfl,fun p v b a=>by kernel_rfl⟩
def s9 (x:Val (.pair Ä .str)) (k:Bool->Nm ρ) :
    Ph (lu ρ) 3 [Ä,.str] [.bool] x k=je x.1 x.2 k:=by kernel_rfl
end Go.Proofs.ZzM
end
