/- lemmas -/
import Derived.Test.YtmadligicacpkaaGreatMdMA
set_option linter.all false
set_option linter.unusedSectionVars false
set_option linter.unusedVariables false
set_option linter.unusedSimpArgs false
noncomputable section
variable {ρ:Type}
set_option maxRecDepth 100000
namespace Go.Proofs.ZzM
open Go Go.Am
def WJ (x:Val Â) (k:Int→Option ρ) :
    ĉ (O8 ρ) 207 (Ă [Â] x) (fun h v=>Ã (Ć [tI] h v) k)=O9 x k:=by kernel_rfl
def Wy (x:Val Â) (k:Int→Option ρ) :
    ĉ (O4 ρ) 246 (Ă [tI,tI] x) (fun h v=>Ã (Ć [tI] h v) k)=O5 x.1 x.2 k:=by kernel_rfl
def Ss (x:Val Â) (k:Int→Option ρ) :
    ĉ (Ky ρ) 208 (Ă [Â] x) (fun h v=>Ã (Ć [tI] h v) k)=IC x k:=by kernel_rfl
def Wh (x:Val aB) (k:Val Â→Option ρ) :
    ĉ (Ov ρ) 171 (Ă [Ä,Í] x) (fun h v=>Ã (Ć [Â] h v) k)=Ow x.1 x.2 k:=by kernel_rfl
def RU:(EM ρ).Ok (sL ρ):=⟨by kernel_rfl,fun p v kn kx=>by kernel_rfl⟩
def RV:(EN ρ).Ok (sL ρ):=⟨by kernel_rfl,fun p v kn kx=>by kernel_rfl⟩
def RT:(EL ρ).Ok (sL ρ):=⟨by kernel_rfl,fun p v kn kx=>by kernel_rfl⟩
def Z2 (x:Val Ä) (k:Val wd→Option ρ) :
    ĉ (sL ρ) 103 (Ă [Ä] x) (fun h v=>Ã (Ć [wd] h v) k)=Wf x k:=by kernel_rfl
def L1:(xP ρ).Ok (ky ρ):=⟨by kernel_rfl,fun p v kn kx=>by kernel_rfl⟩
def LY:(xN ρ).Ok (ky ρ):=⟨by kernel_rfl,fun p v kn kx=>by kernel_rfl⟩
def LZ:(xO ρ).Ok (ky ρ):=⟨by kernel_rfl,fun p v kn kx=>by kernel_rfl⟩
def LX:(xM ρ).Ok (ky ρ):=⟨by kernel_rfl,fun p v kn kx=>by kernel_rfl⟩
def Si (x:Val Ä) (k:Int→Option ρ) :
    ĉ (ky ρ) 41 (Ă [Ä] x) (fun h v=>Ã (Ć [tI] h v) k)=Iw x k:=by kernel_rfl
def Ou (x:Val Ä) (k:Val Ì→Option ρ) :
    ĉ (EO ρ) 43 (Ă [Ä] x) (fun h v=>Ã (Ć [Ì] h v) k)=CW x k:=by kernel_rfl
def Wn (x:Val aD) (k:(Val aI)→Option ρ) :
    ĉ (OE ρ) 53 (Ă [Ä,Â] x) (fun h v=>Ã (Ć [Ä,tI] h v) k)=OG x.1 x.2 k:=by kernel_rfl
def L7:(xW ρ).Ok (Ω ρ):=⟨by kernel_rfl,fun p v kn kx=>by kernel_rfl⟩
def L8:(xY ρ).Ok (Ω ρ):=⟨by kernel_rfl,fun p v kn kx=>by kernel_rfl⟩
def L6:(xV ρ).Ok (Ω ρ):=⟨by kernel_rfl,fun p v kn kx=>by kernel_rfl⟩
def L3:(xS ρ).Ok (Ω ρ):=⟨by kernel_rfl,fun p v kn kx=>by kernel_rfl⟩
def L4:(xT ρ).Ok (Ω ρ):=⟨by kernel_rfl,fun p v kn kx=>by kernel_rfl⟩
def L2:(xQ ρ).Ok (Ω ρ):=⟨by kernel_rfl,fun p v kn kx=>by kernel_rfl⟩
def L5:(xU ρ).Ok (Ω ρ):=⟨by kernel_rfl,fun p v kn kx=>by kernel_rfl⟩
def Sj (x:Val Ì) (k:(Val (.pair am .bool))→Option ρ) :
    ĉ (Ω ρ) 54 (Ă [Ì] x) (fun h v=>Ã (Ć [am,.bool] h v) k)=Ix x k:=by kernel_rfl
def Oc:(A7 ρ).Ok (CP ρ):=⟨by kernel_rfl,fun p v kn kx=>by kernel_rfl⟩
def V1 (x:Val (.pair Ä aa)) (k:Val Ŷ→Option ρ) :
    ĉ (CP ρ) 15 (Ă [Ä,aa] x) (fun h v=>Ã (Ć [Ŷ] h v) k)=Od x.1 x.2 k:=by kernel_rfl
def uq (x:Val (.pair Ŷ tI)) (k:Val Â→Option ρ) :
    ĉ (mU ρ) 16 (Ă [Ŷ,tI] x) (fun h v=>Ã (Ć [Â] h v) k)=kg x.1 x.2 k:=by kernel_rfl
def Ih (x:Val (.pair Ŷ Â)) (k:Int→Option ρ) :
    ĉ (xu ρ) 17 (Ă [Ŷ,Â] x) (fun h v=>Ã (Ć [tI] h v) k)=ur x.1 x.2 k:=by kernel_rfl
def Iy:(wj ρ).Ok (uC ρ):=⟨by kernel_rfl,fun p v kn kx=>by kernel_rfl⟩
def O1 (x:Val aU) (k:Bool→Option ρ) :
    ĉ (uC ρ) 56 (Ă [Ì,ae] x) (fun h v=>Ã (Ć [.bool] h v) k)=C3 x.1 x.2 k:=by kernel_rfl
def CO (x:Val (.pair Ŷ ae)) (k:Bool→Option ρ) :
    ĉ (sI ρ) 20 (Ă [Ŷ,ae] x) (fun h v=>Ã (Ć [.bool] h v) k)=ph x.1 x.2 k:=by kernel_rfl
def C9:(qE ρ).Ok (ln ρ):=⟨by kernel_rfl,fun p v kn kx=>by kernel_rfl⟩
def C8:(qC ρ).Ok (ln ρ):=⟨by kernel_rfl,fun p v kn kx=>by kernel_rfl⟩
def IG (x:Val (.pair Ì tI)) (k:(Val ah)→Option ρ) :
    ĉ (ln ρ) 58 (Ă [Ì,tI] x) (fun h v=>Ã (Ć [ah] h v) k)=uE x.1 x.2 k:=by kernel_rfl
def Mv (x:Val Ì) (k:(Val aE)→Option ρ) :
    ĉ (BL ρ) 59 (Ă [Ì] x) (fun h v=>Ã (Ć [ae,tI] h v) k)=yJ x k:=by kernel_rfl
def IR:(ww ρ).Ok (uL ρ):=⟨by kernel_rfl,fun p v kn kx=>by kernel_rfl⟩
def Po (x:Val aQ) (k:(Val aE)→Option ρ) :
    ĉ (uL ρ) 22 (Ă [Ä,Â,Â,.bool] x) (fun h v=>Ã (Ć [ae,tI] h v) k)=Dh x.1 x.2.1 x.2.2.1 x.2.2.2 k:=by kernel_rfl
def RJ (x:Val ä) (k:Int→Option ρ) :
    ĉ (Kh ρ) 23 (Ă [Â,Â] x) (fun h v=>Ã (Ć [tI] h v) k)=Ii x.1 x.2 k:=by kernel_rfl
def AE (x:Val aQ) (k:Bool→Option ρ) :
    ĉ (qn ρ) 5 (Ă [Ä,Â,Â,.bool] x) (fun h v=>Ã (Ć [.bool] h v) k)=nB x.1 x.2.1 x.2.2.1 x.2.2.2 k:=by kernel_rfl
end Go.Proofs.ZzM
end
