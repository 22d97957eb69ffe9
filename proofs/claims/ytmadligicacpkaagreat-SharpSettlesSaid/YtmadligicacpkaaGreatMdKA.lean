/- lemmas -/
import Derived.Test.YtmadligicacpkaaGreatMdMA
set_option linter.all false
set_option linter.unusedSectionVars false
set_option linter.unusedVariables false
set_option linter.unusedSimpArgs false
noncomputable section
variable {ρ:Type}
set_option maxRecDepth 100000
namespace Go.Proofs.ZzM
open Go Go.Am
def Xf (x:Val Ã) (k:Int→Option ρ) :
    Ċ (Pv ρ) 207 (Ă [Ã] x) (fun h v=>Ä (Ć [tI] h v) k)=Pw x k:=by kernel_rfl
def W5 (x:Val Ã) (k:Int→Option ρ) :
    Ċ (Pq ρ) 246 (Ă [tI,tI] x) (fun h v=>Ä (Ć [tI] h v) k)=Pr x.1 x.2 k:=by kernel_rfl
def SV (x:Val Ã) (k:Int→Option ρ) :
    Ċ (KV ρ) 208 (Ă [Ã] x) (fun h v=>Ä (Ć [tI] h v) k)=I0 x k:=by kernel_rfl
def WM (x:Val aA) (k:Val Ã→Option ρ) :
    Ċ (OP ρ) 171 (Ă [Å,É] x) (fun h v=>Ä (Ć [Ã] h v) k)=Fe x.1 x.2 k:=by kernel_rfl
def Sw:(E7 ρ).Ok (tj ρ):=⟨by kernel_rfl,fun p v kn kx=>by kernel_rfl⟩
def Sx:(E8 ρ).Ok (tj ρ):=⟨by kernel_rfl,fun p v kn kx=>by kernel_rfl⟩
def Sv:(E6 ρ).Ok (tj ρ):=⟨by kernel_rfl,fun p v kn kx=>by kernel_rfl⟩
def aaz (x:Val Å) (k:Val wA→Option ρ) :
    Ċ (tj ρ) 103 (Ă [Å] x) (fun h v=>Ä (Ć [wA] h v) k)=Nl x k:=by kernel_rfl
def Mm:(yk ρ).Ok (kD ρ):=⟨by kernel_rfl,fun p v kn kx=>by kernel_rfl⟩
def Mk:(yi ρ).Ok (kD ρ):=⟨by kernel_rfl,fun p v kn kx=>by kernel_rfl⟩
def Ml:(yj ρ).Ok (kD ρ):=⟨by kernel_rfl,fun p v kn kx=>by kernel_rfl⟩
def Mj:(yh ρ).Ok (kD ρ):=⟨by kernel_rfl,fun p v kn kx=>by kernel_rfl⟩
def SM (x:Val Å) (k:Int→Option ρ) :
    Ċ (kD ρ) 41 (Ă [Å] x) (fun h v=>Ä (Ć [tI] h v) k)=IR x k:=by kernel_rfl
def OO (x:Val Å) (k:Val Í→Option ρ) :
    Ċ (E9 ρ) 43 (Ă [Å] x) (fun h v=>Ä (Ć [Í] h v) k)=uZ x k:=by kernel_rfl
def WR (x:Val aC) (k:(Val aG)→Option ρ) :
    Ċ (O2 ρ) 53 (Ă [Å,Ã] x) (fun h v=>Ä (Ć [Å,tI] h v) k)=O3 x.1 x.2 k:=by kernel_rfl
def Mw:(yu ρ).Ok (Χ ρ):=⟨by kernel_rfl,fun p v kn kx=>by kernel_rfl⟩
def Mx:(yw ρ).Ok (Χ ρ):=⟨by kernel_rfl,fun p v kn kx=>by kernel_rfl⟩
def Mv:(yr ρ).Ok (Χ ρ):=⟨by kernel_rfl,fun p v kn kx=>by kernel_rfl⟩
def Mr:(yo ρ).Ok (Χ ρ):=⟨by kernel_rfl,fun p v kn kx=>by kernel_rfl⟩
def Ms:(yp ρ).Ok (Χ ρ):=⟨by kernel_rfl,fun p v kn kx=>by kernel_rfl⟩
def Mq:(ym ρ).Ok (Χ ρ):=⟨by kernel_rfl,fun p v kn kx=>by kernel_rfl⟩
def Mu:(yq ρ).Ok (Χ ρ):=⟨by kernel_rfl,fun p v kn kx=>by kernel_rfl⟩
def SO (x:Val Í) (k:(Val (.pair am .bool))→Option ρ) :
    Ċ (Χ ρ) 54 (Ă [Í] x) (fun h v=>Ä (Ć [am,.bool] h v) k)=IW x k:=by kernel_rfl
def Ov:(Bs ρ).Ok (Db ρ):=⟨by kernel_rfl,fun p v kn kx=>by kernel_rfl⟩
def Wv (x:Val (.pair Å aa)) (k:Val pC→Option ρ) :
    Ċ (Db ρ) 15 (Ă [Å,aa] x) (fun h v=>Ä (Ć [pC] h v) k)=Ow x.1 x.2 k:=by kernel_rfl
def Wz (x:Val aA) (k:Val Å→Option ρ) :
    Ċ (OB ρ) 156 (Ă [Å,É] x) (fun h v=>Ä (Ć [Å] h v) k)=EV x.1 x.2 k:=by kernel_rfl
def WE (x:Val aA) (k:(Val aG)→Option ρ) :
    Ċ (OJ ρ) 89 (Ă [Å,É] x) (fun h v=>Ä (Ć [Å,tI] h v) k)=OK x.1 x.2 k:=by kernel_rfl
def OU:(BI ρ).Ok (vc ρ):=⟨by kernel_rfl,fun p v kn kx=>by kernel_rfl⟩
def OV:(BJ ρ).Ok (vc ρ):=⟨by kernel_rfl,fun p v kn kx=>by kernel_rfl⟩
def WO (x:Val Í) (k:Bool→Option ρ) :
    Ċ (vc ρ) 157 (Ă [Í] x) (fun h v=>Ä (Ć [.bool] h v) k)=OW x k:=by kernel_rfl
def SA (x:Val (.pair Å (.pair É tI))) (k:Val Ã→Option ρ) :
    Ċ (KL ρ) 159 (Ă [Å,É,tI] x) (fun h v=>Ä (Ć [Ã] h v) k)=IK x.1 x.2.1 x.2.2 k:=by kernel_rfl
def IV:(wK ρ).Ok (ln ρ):=⟨by kernel_rfl,fun p v kn kx=>by kernel_rfl⟩
def IT:(wI ρ).Ok (ln ρ):=⟨by kernel_rfl,fun p v kn kx=>by kernel_rfl⟩
def IU:(wJ ρ).Ok (ln ρ):=⟨by kernel_rfl,fun p v kn kx=>by kernel_rfl⟩
def Ph (x:Val (.pair Í tI)) (k:(Val ae)→Option ρ) :
    Ċ (ln ρ) 160 (Ă [Í,tI] x) (fun h v=>Ä (Ć [ae] h v) k)=Dp x.1 x.2 k:=by kernel_rfl
def Ma (x:Val aA) (k:Val Ĵ→Option ρ) :
    Ċ (BG ρ) 90 (Ă [Å,É] x) (fun h v=>Ä (Ć [Ã,tI] h v) k)=xU x.1 x.2 k:=by kernel_rfl
def L4 (x:Val (.pair pC aI)) (k:Val sR→Option ρ) :
    Ċ (Bt ρ) 36 (Ă [pC,Ã,É] x) (fun h v=>Ä (Ć [sR] h v) k)=xO x.1 x.2.1 x.2.2 k:=by kernel_rfl
def A5 (x:Val (.pair kR Ã)) (k:Bool→Option ρ) :
    Ċ (qP ρ) 37 (Ă [kR,Ã] x) (fun h v=>Ä (Ć [.bool] h v) k)=oe x.1 x.2 k:=by kernel_rfl
def xL (x:Val bc) (k:Bool→Option ρ) :
    Ċ (pL ρ) 8 (Ă [Å,Ã,Ã,É] x) (fun h v=>Ä (Ć [.bool] h v) k)=mi x.1 x.2.1 x.2.2.1 x.2.2.2 k:=by kernel_rfl
end Go.Proofs.ZzM
end
