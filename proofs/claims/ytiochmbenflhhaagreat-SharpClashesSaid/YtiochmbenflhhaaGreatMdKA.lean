/- lemmas -/
import Derived.Test.YtiochmbenflhhaaGreatMdMB
set_option linter.all false
set_option linter.unusedSectionVars false
set_option linter.unusedVariables false
set_option linter.unusedSimpArgs false
noncomputable section
variable {ρ:Type}
set_option maxRecDepth 100000
namespace Go.Proofs.ZzM
open Go Go.Am
def UQ (x:Val Â) (k:Int→Option ρ) :
    Ă (LK ρ) 203 [Â] [tI] x k=JP x k:=by kernel_rfl
def agQ (x:Val Â) (k:Int→Option ρ) :
    Ă (adH ρ) 242 [tI,tI] [tI] x k=agR x.1 x.2 k:=by kernel_rfl
def ZB (x:Val Â) (k:Int→Option ρ) :
    Ă (QB ρ) 204 [Â] [tI] x k=QC x k:=by kernel_rfl
def YW (x:Val aE) (k:Val Â→Option ρ) :
    Ă (PN ρ) 140 [Ã,È] [Â] x k=PO x.1 x.2 k:=by kernel_rfl
def Ue:(FI ρ).Ok (ud ρ):=⟨by kernel_rfl,fun p v kn kx=>by kernel_rfl⟩
def Uf:(FK ρ).Ok (ud ρ):=⟨by kernel_rfl,fun p v kn kx=>by kernel_rfl⟩
def Ud:(FH ρ).Ok (ud ρ):=⟨by kernel_rfl,fun p v kn kx=>by kernel_rfl⟩
def adq (x:Val Ã) (k:Val w9→Option ρ) :
    Ă (ud ρ) 65 [Ã] [w9] x k=YT x k:=by kernel_rfl
def MO:(yV ρ).Ok (lh ρ):=⟨by kernel_rfl,fun p v kn kx=>by kernel_rfl⟩
def MM:(yT ρ).Ok (lh ρ):=⟨by kernel_rfl,fun p v kn kx=>by kernel_rfl⟩
def MN:(yU ρ).Ok (lh ρ):=⟨by kernel_rfl,fun p v kn kx=>by kernel_rfl⟩
def ML:(yS ρ).Ok (lh ρ):=⟨by kernel_rfl,fun p v kn kx=>by kernel_rfl⟩
def UA (x:Val Ã) (k:Int→Option ρ) :
    Ă (lh ρ) 15 [Ã] [tI] x k=Jy x k:=by kernel_rfl
def PM (x:Val Ã) (k:Val É→Option ρ) :
    Ă (FL ρ) 31 [Ã] [É] x k=DP x k:=by kernel_rfl
def FT:(ue ρ).Ok (sR ρ):=⟨by kernel_rfl,fun p v kn kx=>by kernel_rfl⟩
def M4 (x:Val aU) (k:Bool→Option ρ) :
    Ă (sR ρ) 157 [É,ae] [.bool] x k=ze x.1 x.2 k:=by kernel_rfl
def UF:(FR ρ).Ok (JH ρ):=⟨by kernel_rfl,fun p v kn kx=>by kernel_rfl⟩
def adG (x:Val (.pair É aw)) (k:(Val aR)→Option ρ) :
    Ă (JH ρ) 158 [É,tI,ae] [tI,tI,.bool] x k=Zm x.1 x.2.1 x.2.2 k:=by kernel_rfl
def Qs (x:Val aU) (k:Bool→Option ρ) :
    Ă (FU ρ) 82 [É,ae] [.bool] x k=D2 x.1 x.2 k:=by kernel_rfl
def DI (x:Val ü) (k:Int→Option ρ) :
    Ă (t8 ρ) 26 [ü] [tI] x k=pY x k:=by kernel_rfl
def DR:(rH ρ).Ok (qe ρ):=⟨by kernel_rfl,fun p v kn kx=>by kernel_rfl⟩
def Js (x:Val aO) (k:Bool→Option ρ) :
    Ă (qe ρ) 214 [ae,ae] [.bool] x k=vF x.1 x.2 k:=by kernel_rfl
def BL (x:Val (.pair È È)) (k:Bool→Option ρ) :
    Ă (rI ρ) 159 [È,È] [.bool] x k=oy x.1 x.2 k:=by kernel_rfl
def BJ:(qd ρ).Ok (ox ρ):=⟨by kernel_rfl,fun p v kn kx=>by kernel_rfl⟩
def FN (x:Val (.pair aa aa)) (k:Bool→Option ρ) :
    Ă (ox ρ) 160 [aa,aa] [.bool] x k=sO x.1 x.2 k:=by kernel_rfl
def PS:(Ct ρ).Ok (mU ρ):=⟨by kernel_rfl,fun p v kn kx=>by kernel_rfl⟩
def PR:(Cs ρ).Ok (mU ρ):=⟨by kernel_rfl,fun p v kn kx=>by kernel_rfl⟩
def PQ:(Cr ρ).Ok (mU ρ):=⟨by kernel_rfl,fun p v kn kx=>by kernel_rfl⟩
def PP:(Cq ρ).Ok (mU ρ):=⟨by kernel_rfl,fun p v kn kx=>by kernel_rfl⟩
def YY (x:Val aW) (k:Bool→Option ρ) :
    Ă (mU ρ) 83 [Ã,Ã] [.bool] x k=PT x.1 x.2 k:=by kernel_rfl
def D1:(rP ρ).Ok (qf ρ):=⟨by kernel_rfl,fun p v kn kx=>by kernel_rfl⟩
def JJ (x:Val aO) (k:Bool→Option ρ) :
    Ă (qf ρ) 84 [ae,ae] [.bool] x k=vJ x.1 x.2 k:=by kernel_rfl
def Ji (x:Val (.pair ü ü)) (k:Bool→Option ρ) :
    Ă (yC ρ) 27 [ü,ü] [.bool] x k=vA x.1 x.2 k:=by kernel_rfl
def Y5 (x:Val aG) (k:(Val aJ)→Option ρ) :
    Ă (P1 ρ) 86 [Ã,Â] [Ã,tI] x k=P2 x.1 x.2 k:=by kernel_rfl
def MU:(zb ρ).Ok (Θ ρ):=⟨by kernel_rfl,fun p v kn kx=>by kernel_rfl⟩
def MV:(zd ρ).Ok (Θ ρ):=⟨by kernel_rfl,fun p v kn kx=>by kernel_rfl⟩
def MT:(za ρ).Ok (Θ ρ):=⟨by kernel_rfl,fun p v kn kx=>by kernel_rfl⟩
def MQ:(yY ρ).Ok (Θ ρ):=⟨by kernel_rfl,fun p v kn kx=>by kernel_rfl⟩
def MR:(yZ ρ).Ok (Θ ρ):=⟨by kernel_rfl,fun p v kn kx=>by kernel_rfl⟩
def MP:(yW ρ).Ok (Θ ρ):=⟨by kernel_rfl,fun p v kn kx=>by kernel_rfl⟩
def MS:(y0 ρ).Ok (Θ ρ):=⟨by kernel_rfl,fun p v kn kx=>by kernel_rfl⟩
def UD (x:Val É) (k:(Val (.pair ak .bool))→Option ρ) :
    Ă (Θ ρ) 87 [É] [ak,.bool] x k=Jz x k:=by kernel_rfl
def Py:(Ck ρ).Ok (DG ρ):=⟨by kernel_rfl,fun p v kn kx=>by kernel_rfl⟩
def YF (x:Val (.pair Ã aa)) (k:Val Ow→Option ρ) :
    Ă (DG ρ) 28 [Ã,aa] [Ow] x k=Pz x.1 x.2 k:=by kernel_rfl
def Mv:(yA ρ).Ok (yB ρ):=⟨by kernel_rfl,fun p v kn kx=>by kernel_rfl⟩
def TW (x:Val (.pair Ã Ï)) (k:Bool→Option ρ) :
    Ă (yB ρ) 88 [Ã,Ï] [.bool] x k=Jg x.1 x.2 k:=by kernel_rfl
def BI (x:Val (.pair È È)) (k:Bool→Option ρ) :
    Ă (rk ρ) 89 [È,È] [.bool] x k=ow x.1 x.2 k:=by kernel_rfl
def Mu:(yy ρ).Ok (yz ρ):=⟨by kernel_rfl,fun p v kn kx=>by kernel_rfl⟩
def TU (x:Val aJ) (k:Bool→Option ρ) :
    Ă (yz ρ) 162 [Ã,tI] [.bool] x k=Jf x.1 x.2 k:=by kernel_rfl
def Po:(Cf ρ).Ok (mT ρ):=⟨by kernel_rfl,fun p v kn kx=>by kernel_rfl⟩
def Pp:(Cg ρ).Ok (mT ρ):=⟨by kernel_rfl,fun p v kn kx=>by kernel_rfl⟩
def Pm:(Cd ρ).Ok (mT ρ):=⟨by kernel_rfl,fun p v kn kx=>by kernel_rfl⟩
def Pn:(Ce ρ).Ok (mT ρ):=⟨by kernel_rfl,fun p v kn kx=>by kernel_rfl⟩
def Yz (x:Val (.pair Ã aW)) (k:Bool→Option ρ) :
    Ă (mT ρ) 90 [Ã,Ã,Ã] [.bool] x k=Pq x.1 x.2.1 x.2.2 k:=by kernel_rfl
def Pw:(Cj ρ).Ok (pX ρ):=⟨by kernel_rfl,fun p v kn kx=>by kernel_rfl⟩
def Pu:(Ch ρ).Ok (pX ρ):=⟨by kernel_rfl,fun p v kn kx=>by kernel_rfl⟩
def Pv:(Ci ρ).Ok (pX ρ):=⟨by kernel_rfl,fun p v kn kx=>by kernel_rfl⟩
def YD (x:Val aW) (k:Bool→Option ρ) :
    Ă (pX ρ) 29 [Ã,Ã] [.bool] x k=Px x.1 x.2 k:=by kernel_rfl
def JF:(xn ρ).Ok (ş ρ):=⟨by kernel_rfl,fun p v kn kx=>by kernel_rfl⟩
def JG:(xp ρ).Ok (ş ρ):=⟨by kernel_rfl,fun p v kn kx=>by kernel_rfl⟩
def JC:(xi ρ).Ok (ş ρ):=⟨by kernel_rfl,fun p v kn kx=>by kernel_rfl⟩
def JD:(xl ρ).Ok (ş ρ):=⟨by kernel_rfl,fun p v kn kx=>by kernel_rfl⟩
def JA:(xe ρ).Ok (ş ρ):=⟨by kernel_rfl,fun p v kn kx=>by kernel_rfl⟩
def JB:(xg ρ).Ok (ş ρ):=⟨by kernel_rfl,fun p v kn kx=>by kernel_rfl⟩
def JE:(xm ρ).Ok (ş ρ):=⟨by kernel_rfl,fun p v kn kx=>by kernel_rfl⟩
def Qp (x:Val (.pair É tI)) (k:(Val aC)→Option ρ) :
    Ă (ş ρ) 91 [É,tI] [aC] x k=D0 x.1 x.2 k:=by kernel_rfl
def Qg:(CA ρ).Ok (vH ρ):=⟨by kernel_rfl,fun p v kn kx=>by kernel_rfl⟩
def Qh:(CC ρ).Ok (vH ρ):=⟨by kernel_rfl,fun p v kn kx=>by kernel_rfl⟩
def Zj (x:Val (.pair É (.pair aC bf))) (k:(Val ae)→Option ρ) :
    Ă (vH ρ) 92 [É,aC,tI,tI,tI,tI] [ae] x k=Qi x.1 x.2.1 x.2.2.1 x.2.2.2.1 x.2.2.2.2.1 x.2.2.2.2.2 k:=by kernel_rfl
def M5:(zf ρ).Ok (rQ ρ):=⟨by kernel_rfl,fun p v kn kx=>by kernel_rfl⟩
def M6:(zh ρ).Ok (rQ ρ):=⟨by kernel_rfl,fun p v kn kx=>by kernel_rfl⟩
def UI (x:Val É) (k:(Val ae)→Option ρ) :
    Ă (rQ ρ) 30 [É] [ae] x k=JL x k:=by kernel_rfl
def Yx (x:Val bi) (k:Val ü→Option ρ) :
    Ă (Pk ρ) 32 [ü,(.int .u8),tI] [ü] x k=Pl x.1 x.2.1 x.2.2 k:=by kernel_rfl
def yu (x:Val (.pair Ã bi)) (k:Bool→Option ρ) :
    Ă (pV ρ) 6 [Ã,ü,(.int .u8),tI] [.bool] x k=mL x.1 x.2.1 x.2.2.1 x.2.2.2 k:=by kernel_rfl
end Go.Proofs.ZzM
end
