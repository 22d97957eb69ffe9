/- lemmas -/
import Derived.Test.YtjlkjopcjcbooaaGreatDoorMdMA
set_option linter.all false
noncomputable section
variable {ρ:Type}
set_option maxRecDepth 100000
namespace Go.Proofs.ZzM
open Go Go.Am
def pT:(jM ρ).Ok (iE ρ):=⟨by kernel_rfl,fun p v kn a=>by kernel_rfl⟩
def pS:(jL ρ).Ok (iE ρ):=⟨by kernel_rfl,fun p v kn a=>by kernel_rfl⟩
def KY:(CJ ρ).Ok (ő ρ):=⟨by kernel_rfl,fun p v kn a=>by kernel_rfl⟩
def KZ:(CL ρ).Ok (ő ρ):=⟨by kernel_rfl,fun p v kn a=>by kernel_rfl⟩
def KX:(CH ρ).Ok (ő ρ):=⟨by kernel_rfl,fun p v kn a=>by kernel_rfl⟩
def KW:(oC ρ).Ok (ő ρ):=⟨by kernel_rfl,fun p v kn a=>by kernel_rfl⟩
def KV:(oB ρ).Ok (ő ρ):=⟨by kernel_rfl,fun p v kn a=>by kernel_rfl⟩
def KU:(oA ρ).Ok (ő ρ):=⟨by kernel_rfl,fun p v kn a=>by kernel_rfl⟩
def Qk (x:Val (.pair Å (.pair aa aa))) (a:Val aQ->rm->x9 ρ):goC (ő ρ) (ŭ (ő ρ) 10) 51 [] 0 0 (preC 7 đ) {t:=Ee [Å,aa,aa] x++List.replicate 127 .any,h:=[]} (matK pV 0 gx kE a)=zE x.1 x.2.1 x.2.2 a:=by kernel_rfl
def Uq (p:Val aQ) (v:rm) (x:cT) (a:Val aQ->Val (.pair tI (.pair tI (.pair ac (.pair aa (.pair ae (.pair ab (.pair aa (.pair tI (.pair tI (.pair ac (.pair aa (.pair ae (.pair ab (.pair aa (.pair tI (.pair tI (.pair ac (.pair aa (.pair ae (.pair ab (.pair aa (.pair ak (.pair ak (.pair ac aO))))))))))))))))))))))))->x9 ρ):goC (ė ρ) (ŭ (ė ρ) 10) 51 [] 9 4 (rfA (rfC 7 đ)) {t:=upd (â pV gx kE p v).t 60 (.agg (flat Ê x)),h:=(â pV gx kE p v).h} (matK Fp 9 gx vd a)=a p (xH v x):=by kernel_rfl
def Up (p:Val aQ) (v:rm) (x:cT) (a:Val aQ->rm->x9 ρ):goC (ė ρ) (ŭ (ė ρ) 10) 51 [] 9 4 (rfB (rfC 7 đ)) (â Fp gx vd p (xH v x)) (matK pV 9 gx kE a)=ä (Ú ((List.length (rj v))+(List.length [x]))) (a p (Đ v (rj v++[x]))):=by kernel_rfl
def NI (p:Val aQ) (v:rm) (k:Val aj->x9 ρ):goC (ė ρ) (ŭ (ė ρ) 10) 51 [] 0 0 (postC 7 đ) (â pV gx kE p v) (matR pW 0 jq k)=lC p v (fun y=>k (kF y)):=by kernel_rfl
def Qj (y:bl):jE Tryz.prog Tryz.f51 (â pW [] jq () (kF y))=some (enc Å y):=by kernel_rfl
def Uo:rfC 7 đ=Code.block 4 (Code.rangeFunc (.tmp 59) #[60] (rfA (rfC 7 đ)) (rfB (rfC 7 đ))):=by kernel_rfl
def zD:Km 7 đ=true:=by kernel_rfl
def oz:Tryz.f51.body=some đ:=by kernel_rfl
def HW:(oC ρ).Ok (ė ρ):=⟨by kernel_rfl,fun p v kn a=>by kernel_rfl⟩
def HV:(oB ρ).Ok (ė ρ):=⟨by kernel_rfl,fun p v kn a=>by kernel_rfl⟩
def HU:(oA ρ).Ok (ė ρ):=⟨by kernel_rfl,fun p v kn a=>by kernel_rfl⟩
def K8:(CO ρ).Ok (NZ ρ):=⟨by kernel_rfl,fun p v kn a=>by kernel_rfl⟩
def FU (x:cT) (k:Bool->x9 ρ) :
    PH (Aj ρ) 183 [Ê] [.bool] x k=xN x k:=by kernel_rfl
def uh:(ml ρ).Ok (qr ρ):=⟨by kernel_rfl,fun p v kn a=>by kernel_rfl⟩
def BK:(sH ρ).Ok (zS ρ):=⟨by kernel_rfl,fun p v kn a=>by kernel_rfl⟩
def qZ:(kq ρ).Ok (nD ρ):=⟨by kernel_rfl,fun p v kn a=>by kernel_rfl⟩
def Ij:(Ao ρ).Ok (BP ρ):=⟨by kernel_rfl,fun p v kn a=>by kernel_rfl⟩
def Ii:(Ak ρ).Ok (BP ρ):=⟨by kernel_rfl,fun p v kn a=>by kernel_rfl⟩
def FR:(wR ρ).Ok (xM ρ):=⟨by kernel_rfl,fun p v kn a=>by kernel_rfl⟩
def FS:(wT ρ).Ok (xM ρ):=⟨by kernel_rfl,fun p v kn a=>by kernel_rfl⟩
def xP:(oL ρ).Ok (jQ ρ):=⟨by kernel_rfl,fun p v kn a=>by kernel_rfl⟩
def xO:(oK ρ).Ok (jQ ρ):=⟨by kernel_rfl,fun p v kn a=>by kernel_rfl⟩
def BQ (x:Val aT) (k:Int->x9 ρ) :
    PH (jQ ρ) 188 [Å,aq,tI] [tI] x k=rJ x.1 x.2.1 x.2.2 k:=by kernel_rfl
def DA:(ug ρ).Ok (CT ρ):=⟨by kernel_rfl,fun p v kn a=>by kernel_rfl⟩
def Ih:(Ai ρ).Ok (BO ρ):=⟨by kernel_rfl,fun p v kn a=>by kernel_rfl⟩
def Ig:(Ah ρ).Ok (BO ρ):=⟨by kernel_rfl,fun p v kn a=>by kernel_rfl⟩
def Ik:(Ar ρ).Ok (JC ρ):=⟨by kernel_rfl,fun p v kn a=>by kernel_rfl⟩
def sZ:(lL ρ).Ok (ł ρ):=⟨by kernel_rfl,fun p v kn a=>by kernel_rfl⟩
def sX:(lH ρ).Ok (ł ρ):=⟨by kernel_rfl,fun p v kn a=>by kernel_rfl⟩
def sY:(lJ ρ).Ok (ł ρ):=⟨by kernel_rfl,fun p v kn a=>by kernel_rfl⟩
def sW:(lF ρ).Ok (ł ρ):=⟨by kernel_rfl,fun p v kn a=>by kernel_rfl⟩
def vR (x:Val aT) (k:Int->x9 ρ) :
    PH (ł ρ) 189 [Å,aq,tI] [tI] x k=l8 x.1 x.2.1 x.2.2 k:=by kernel_rfl
end Go.Proofs.ZzM
end
