/- lemmas -/
import Derived.Test.YtiochmbenflhhaaGreatMdMA
set_option linter.all false
set_option linter.unusedSectionVars false
set_option linter.unusedVariables false
set_option linter.unusedSimpArgs false
noncomputable section
variable {ρ:Type}
set_option maxRecDepth 100000
namespace Go.Proofs.ZzM
open Go Go.Am
def RO (x:Val Ì) (k:Bool→Option ρ) :
    đ (KH ρ) 33 (ĉ [Ì] x) (fun h v=>Â (Đ [.bool] h v) k)=IP x k:=by kernel_rfl
def RN:(E5 ρ).Ok (IM ρ):=⟨by kernel_rfl,fun p v kn kx=>by kernel_rfl⟩
def ZW (x:Val Ä) (k:Bool→Option ρ) :
    đ (IM ρ) 7 (ĉ [Ä] x) (fun h v=>Â (Đ [.bool] h v) k)=V3 x k:=by kernel_rfl
def kO:(π ρ).Ok (Ŝ ρ):=⟨by kernel_rfl,fun p v kn kx=>by kernel_rfl⟩
def lX (x:Val ba) (k:Int→Option ρ) :
    đ (Ŝ ρ) 119 (ĉ [aa,Ã] x) (fun h v=>Â (Đ [tI] h v) k)=Ű x.1 x.2 k:=by kernel_rfl
def XK (x:Val aJ) (k:Val Ã→Option ρ) :
    đ (Qr ρ) 53 (ĉ [Ä,Ã] x) (fun h v=>Â (Đ [tI,tI] h v) k)=Qs x.1 x.2 k:=by kernel_rfl
def Pg (x:Val aU) (k:Int→Option ρ) :
    đ (FQ ρ) 50 (ĉ [ak,Ã] x) (fun h v=>Â (Đ [tI] h v) k)=DF x.1 x.2 k:=by kernel_rfl
def aaC (x:Val (.pair Ò tI)) (k:Bool→Option ρ) :
    đ (Us ρ) 173 (ĉ [Ò,tI] x) (fun h v=>Â (Đ [.bool] h v) k)=W8 x.1 x.2 k:=by kernel_rfl
def PO:(Cb ρ).Ok (DR ρ):=⟨by kernel_rfl,fun p v kn kx=>by kernel_rfl⟩
def Xd (x:Val Ò) (k:Val Ã→Option ρ) :
    đ (DR ρ) 146 (ĉ [Ò] x) (fun h v=>Â (Đ [tI,tI] h v) k)=PP x k:=by kernel_rfl
def Gy:(tK ρ).Ok (δ ρ):=⟨by kernel_rfl,fun p v kn kx=>by kernel_rfl⟩
def Gx:(tG ρ).Ok (δ ρ):=⟨by kernel_rfl,fun p v kn kx=>by kernel_rfl⟩
def Gv:(tC ρ).Ok (δ ρ):=⟨by kernel_rfl,fun p v kn kx=>by kernel_rfl⟩
def Gw:(tE ρ).Ok (δ ρ):=⟨by kernel_rfl,fun p v kn kx=>by kernel_rfl⟩
def Gu:(tB ρ).Ok (δ ρ):=⟨by kernel_rfl,fun p v kn kx=>by kernel_rfl⟩
def MH (x:Val (.pair Ò ao)) (k:(Val (.pair ab .bool))→Option ρ) :
    đ (δ ρ) 147 (ĉ [Ò,ao] x) (fun h v=>Â (Đ [ab,.bool] h v) k)=yA x.1 x.2 k:=by kernel_rfl
def PG:(BZ ρ).Ok (DQ ρ):=⟨by kernel_rfl,fun p v kn kx=>by kernel_rfl⟩
def Xb (x:Val bh) (k:Int→Option ρ) :
    đ (DQ ρ) 184 (ĉ [Ò,ab] x) (fun h v=>Â (Đ [tI] h v) k)=PH x.1 x.2 k:=by kernel_rfl
def MN:(yK ρ).Ok (jk ρ):=⟨by kernel_rfl,fun p v kn kx=>by kernel_rfl⟩
def MM:(yI ρ).Ok (jk ρ):=⟨by kernel_rfl,fun p v kn kx=>by kernel_rfl⟩
def ML:(yG ρ).Ok (jk ρ):=⟨by kernel_rfl,fun p v kn kx=>by kernel_rfl⟩
def MJ:(yC ρ).Ok (jk ρ):=⟨by kernel_rfl,fun p v kn kx=>by kernel_rfl⟩
def MK:(yE ρ).Ok (jk ρ):=⟨by kernel_rfl,fun p v kn kx=>by kernel_rfl⟩
def SZ (x:Val (.pair Ò (.pair ao tI))) (k:(Val ab)→Option ρ) :
    đ (jk ρ) 185 (ĉ [Ò,ao,tI] x) (fun h v=>Â (Đ [ab] h v) k)=Jz x.1 x.2.1 x.2.2 k:=by kernel_rfl
def Xf (x:Val bc) (k:Val Ã→Option ρ) :
    đ (PU ρ) 118 (ĉ [Ò,tI,tI] x) (fun h v=>Â (Đ [tI,tI] h v) k)=PV x.1 x.2.1 x.2.2 k:=by kernel_rfl
def FP (x:Val aU) (k:Int→Option ρ) :
    đ (wA ρ) 52 (ĉ [ak,tI,tI] x) (fun h v=>Â (Đ [tI] h v) k)=rM x.1 x.2.1 x.2.2 k:=by kernel_rfl
def FO (x:Val aU) (k:Int→Option ρ) :
    đ (wz ρ) 96 (ĉ [ak,Ã] x) (fun h v=>Â (Đ [tI] h v) k)=rL x.1 x.2 k:=by kernel_rfl
def xZ (x:Val aU) (k:Int→Option ρ) :
    đ (pq ρ) 97 (ĉ [ak,Ã] x) (fun h v=>Â (Đ [tI] h v) k)=l8 x.1 x.2 k:=by kernel_rfl
def xY (x:Val aU) (k:Val Ã→Option ρ) :
    đ (kd ρ) 42 (ĉ [ak,Ã] x) (fun h v=>Â (Đ [Ã] h v) k)=l7 x.1 x.2 k:=by kernel_rfl
def Tw:(Hr ρ).Ok (JQ ρ):=⟨by kernel_rfl,fun p v kn kx=>by kernel_rfl⟩
def aa7 (x:Val aJ) (k:(Val aM)→Option ρ) :
    đ (JQ ρ) 54 (ĉ [Ä,Ã] x) (fun h v=>Â (Đ [Ä,tI] h v) k)=XJ x.1 x.2 k:=by kernel_rfl
def MR (x:Val (.pair aX aK)) (k:Int→Option ρ) :
    đ (Cn ρ) 205 (ĉ [aX,ab,tI] x) (fun h v=>Â (Đ [tI] h v) k)=yR x.1 x.2.1 x.2.2 k:=by kernel_rfl
def Ti:(G6 ρ).Ok (zS ρ):=⟨by kernel_rfl,fun p v kn kx=>by kernel_rfl⟩
def Th:(G4 ρ).Ok (zS ρ):=⟨by kernel_rfl,fun p v kn kx=>by kernel_rfl⟩
def aaZ (x:Val (.pair Ä (.pair Ð Ã))) (k:Int→Option ρ) :
    đ (zS ρ) 207 (ĉ [Ä,Ð,tI,tI] x) (fun h v=>Â (Đ [tI] h v) k)=Xu x.1 x.2.1 x.2.2.1 x.2.2.2 k:=by kernel_rfl
def A2 (x:Val (.pair aw ab)) (k:Val Ã→Option ρ) :
    đ (rj ρ) 258 (ĉ [aw,ab] x) (fun h v=>Â (Đ [Ã] h v) k)=nw x.1 x.2 k:=by kernel_rfl
def PW:(Ci ρ).Ok (DS ρ):=⟨by kernel_rfl,fun p v kn kx=>by kernel_rfl⟩
def Xg (x:Val aa) (k:Int→Option ρ) :
    đ (DS ρ) 261 (ĉ [aa] x) (fun h v=>Â (Đ [tI] h v) k)=PX x k:=by kernel_rfl
def PY (x:Val Ã) (k:Val ħ→Option ρ) :
    đ (GM ρ) 285 (ĉ [tI,tI] x) (fun h v=>Â (Đ [Ã,tI] h v) k)=DT x.1 x.2 k:=by kernel_rfl
def adj (x:Val è) (k:Val ħ→Option ρ) :
    đ (aaP ρ) 275 (ĉ [Ã,Ã] x) (fun h v=>Â (Đ [Ã,tI] h v) k)=adk x.1 x.2 k:=by kernel_rfl
def JI (x:Val è) (k:Val Ã→Option ρ) :
    đ (yP ρ) 259 (ĉ [Ã,Ã] x) (fun h v=>Â (Đ [Ã] h v) k)=vq x.1 x.2 k:=by kernel_rfl
def adh (x:Val è) (k:Int→Option ρ) :
    đ (aaN ρ) 291 (ĉ [Ã,Ã] x) (fun h v=>Â (Đ [tI] h v) k)=adi x.1 x.2 k:=by kernel_rfl
def GQ (x:Val è) (k:Bool→Option ρ) :
    đ (wQ ρ) 286 (ĉ [è] x) (fun h v=>Â (Đ [.bool] h v) k)=rY x k:=by kernel_rfl
def adl (x:Val è) (k:Val ħ→Option ρ) :
    đ (aaR ρ) 289 (ĉ [Ã,Ã] x) (fun h v=>Â (Đ [Ã,tI] h v) k)=adm x.1 x.2 k:=by kernel_rfl
def Xl (x:Val (.pair è Ã)) (k:Val sr→Option ρ) :
    đ (DU ρ) 276 (ĉ [è,Ã] x) (fun h v=>Â (Đ [è,tI] h v) k)=P6 x.1 x.2 k:=by kernel_rfl
def JH (x:Val è) (k:Val è→Option ρ) :
    đ (yO ρ) 260 (ĉ [Ã,Ã] x) (fun h v=>Â (Đ [è] h v) k)=vp x.1 x.2 k:=by kernel_rfl
def Tp (x:Val aE) (k:Val è→Option ρ) :
    đ (Lx ρ) 243 (ĉ [Ä,Ì] x) (fun h v=>Â (Đ [è] h v) k)=JL x.1 x.2 k:=by kernel_rfl
def XC (x:Val aE) (k:Val Ã→Option ρ) :
    đ (Qo ρ) 244 (ĉ [Ä,Ì] x) (fun h v=>Â (Đ [Ã] h v) k)=Qp x.1 x.2 k:=by kernel_rfl
def Xj (x:Val Ã) (k:Int→Option ρ) :
    đ (P1 ρ) 262 (ĉ [tI,tI] x) (fun h v=>Â (Đ [tI] h v) k)=GO x.1 x.2 k:=by kernel_rfl
def Xm (x:Val Ã) (k:Val Ã→Option ρ) :
    đ (P8 ρ) 245 (ĉ [Ã] x) (fun h v=>Â (Đ [tI,tI] h v) k)=P9 x k:=by kernel_rfl
def aaT (x:Val Ã) (k:Val Ã→Option ρ) :
    đ (UB ρ) 246 (ĉ [Ã] x) (fun h v=>Â (Đ [tI,tI] h v) k)=Xn x k:=by kernel_rfl
def aaW (x:Val aE) (k:Val Ã→Option ρ) :
    đ (UC ρ) 208 (ĉ [Ä,Ì] x) (fun h v=>Â (Đ [Ã] h v) k)=Xr x.1 x.2 k:=by kernel_rfl
def Tf:(G0 ρ).Ok (tP ρ):=⟨by kernel_rfl,fun p v kn kx=>by kernel_rfl⟩
def Tg:(G2 ρ).Ok (tP ρ):=⟨by kernel_rfl,fun p v kn kx=>by kernel_rfl⟩
def Te:(GY ρ).Ok (tP ρ):=⟨by kernel_rfl,fun p v kn kx=>by kernel_rfl⟩
def aaY (x:Val Ä) (k:(Val aX)→Option ρ) :
    đ (tP ρ) 74 (ĉ [Ä] x) (fun h v=>Â (Đ [aX] h v) k)=Xt x k:=by kernel_rfl
def Tu (x:Val Ä) (k:(Val (.pair Ò (.pair aa tI)))→Option ρ) :
    đ (LB ρ) 77 (ĉ [Ä] x) (fun h v=>Â (Đ [Ò,aa,tI] h v) k)=JP x k:=by kernel_rfl
def GC (x:Val Ò) (k:(Val aS)→Option ρ) :
    đ (wN ρ) 108 (ĉ [Ò] x) (fun h v=>Â (Đ [.bool,tI] h v) k)=rV x k:=by kernel_rfl
def Gq:(tr ρ).Ok (rP ρ):=⟨by kernel_rfl,fun p v kn kx=>by kernel_rfl⟩
def MA (x:Val aJ) (k:Val ħ→Option ρ) :
    đ (rP ρ) 9 (ĉ [Ä,Ã] x) (fun h v=>Â (Đ [Ã,tI] h v) k)=yl x.1 x.2 k:=by kernel_rfl
def Tx (x:Val aL) (k:(Val (.pair ab aK))→Option ρ) :
    đ (LF ρ) 114 (ĉ [ab,ab] x) (fun h v=>Â (Đ [ab,ab,tI] h v) k)=JR x.1 x.2 k:=by kernel_rfl
def aal (x:Val aK) (k:Bool→Option ρ) :
    đ (Ur ρ) 44 (ĉ [ab,tI] x) (fun h v=>Â (Đ [.bool] h v) k)=WK x.1 x.2 k:=by kernel_rfl
def WO (x:Val tI) (k:Bool→Option ρ) :
    đ (Pm ρ) 45 (ĉ [tI] x) (fun h v=>Â (Đ [.bool] h v) k)=Pn x k:=by kernel_rfl
def Ph:(BK ρ).Ok (DG ρ):=⟨by kernel_rfl,fun p v kn kx=>by kernel_rfl⟩
def WM (x:Val (.pair tI ar)) (k:(Val aa)→Option ρ) :
    đ (DG ρ) 46 (ĉ [tI,ar] x) (fun h v=>Â (Đ [aa] h v) k)=Pj x.1 x.2 k:=by kernel_rfl
def SS:(Gm ρ).Ok (zP ρ):=⟨by kernel_rfl,fun p v kn kx=>by kernel_rfl⟩
def SQ:(Gk ρ).Ok (zP ρ):=⟨by kernel_rfl,fun p v kn kx=>by kernel_rfl⟩
def aax (x:Val (.pair Ä ay)) (k:Val ħ→Option ρ) :
    đ (zP ρ) 10 (ĉ [Ä,tI,ab] x) (fun h v=>Â (Đ [Ã,tI] h v) k)=WY x.1 x.2.1 x.2.2 k:=by kernel_rfl
def Jt:(wJ ρ).Ok (ve ρ):=⟨by kernel_rfl,fun p v kn kx=>by kernel_rfl⟩
def PC (x:Val (.pair Ä è)) (k:Val ħ→Option ρ) :
    đ (ve ρ) 12 (ĉ [Ä,Ã,Ã] x) (fun h v=>Â (Đ [Ã,tI] h v) k)=DN x.1 x.2.1 x.2.2 k:=by kernel_rfl
def adc:(Uy ρ).Ok (Jy ρ):=⟨by kernel_rfl,fun p v kn kx=>by kernel_rfl⟩
def ada:(Uv ρ).Ok (Jy ρ):=⟨by kernel_rfl,fun p v kn kx=>by kernel_rfl⟩
def ac9:(Ut ρ).Ok (Jy ρ):=⟨by kernel_rfl,fun p v kn kx=>by kernel_rfl⟩
def adb:(Ux ρ).Ok (Jy ρ):=⟨by kernel_rfl,fun p v kn kx=>by kernel_rfl⟩
def air (x:Val bc) (k:(Val ar)→Option ρ) :
    đ (Jy ρ) 148 (ĉ [Ò,tI,tI] x) (fun h v=>Â (Đ [ar] h v) k)=PF x.1 x.2.1 x.2.2 k:=by kernel_rfl
def PM:(Ca ρ).Ok (kf ρ):=⟨by kernel_rfl,fun p v kn kx=>by kernel_rfl⟩
def PI:(B0 ρ).Ok (kf ρ):=⟨by kernel_rfl,fun p v kn kx=>by kernel_rfl⟩
def PJ:(B4 ρ).Ok (kf ρ):=⟨by kernel_rfl,fun p v kn kx=>by kernel_rfl⟩
def PK:(B6 ρ).Ok (kf ρ):=⟨by kernel_rfl,fun p v kn kx=>by kernel_rfl⟩
def PL:(B8 ρ).Ok (kf ρ):=⟨by kernel_rfl,fun p v kn kx=>by kernel_rfl⟩
def Xc (x:Val Ò) (k:(Val aK)→Option ρ) :
    đ (kf ρ) 78 (ĉ [Ò] x) (fun h v=>Â (Đ [ab,tI] h v) k)=PN x k:=by kernel_rfl
def I9:(wo ρ).Ok (uR ρ):=⟨by kernel_rfl,fun p v kn kx=>by kernel_rfl⟩
def Pf (x:Val (.pair Ä ab)) (k:(Val aa)→Option ρ) :
    đ (uR ρ) 80 (ĉ [Ä,ab] x) (fun h v=>Â (Đ [aa] h v) k)=Dh x.1 x.2 k:=by kernel_rfl
def W5 (x:Val Ä) (k:(Val (.pair ι tI))→Option ρ) :
    đ (Pz ρ) 24 (ĉ [Ä] x) (fun h v=>Â (Đ [ι,tI] h v) k)=PA x k:=by kernel_rfl
def L9 (x:Unit) (k:Val Ä→Option ρ) :
    đ (Bk ρ) 34 (ĉ [] x) (fun h v=>Â (Đ [Ä] h v) k)=xx k:=by kernel_rfl
def Pe (x:Val è) (k:Int→Option ρ) :
    đ (FC ρ) 93 (ĉ [Ã,Ã] x) (fun h v=>Â (Đ [tI] h v) k)=Dg x.1 x.2 k:=by kernel_rfl
def Pw:(BU ρ).Ok (DL ρ):=⟨by kernel_rfl,fun p v kn kx=>by kernel_rfl⟩
def W0 (x:Val (.pair Ä è)) (k:Val Ã→Option ρ) :
    đ (DL ρ) 35 (ĉ [Ä,Ã,Ã] x) (fun h v=>Â (Đ [tI,tI] h v) k)=Px x.1 x.2.1 x.2.2 k:=by kernel_rfl
def PS:(Cg ρ).Ok (pB ρ):=⟨by kernel_rfl,fun p v kn kx=>by kernel_rfl⟩
def PQ:(Cc ρ).Ok (pB ρ):=⟨by kernel_rfl,fun p v kn kx=>by kernel_rfl⟩
def PR:(Ce ρ).Ok (pB ρ):=⟨by kernel_rfl,fun p v kn kx=>by kernel_rfl⟩
def Xe (x:Val bc) (k:(Val aK)→Option ρ) :
    đ (pB ρ) 95 (ĉ [Ò,tI,tI] x) (fun h v=>Â (Đ [ab,tI] h v) k)=PT x.1 x.2.1 x.2.2 k:=by kernel_rfl
def Js (x:Val (.pair ak (.pair aW (.ptr .bool)))) (k:(Val ab)→Option ρ) :
    đ (yy ρ) 94 (ĉ [ak,aW,(.ptr .bool)] x) (fun h v=>Â (Đ [ab] h v) k)=vd x.1 x.2.1 x.2.2 k:=by kernel_rfl
def Jr:(wH ρ).Ok (ld ρ):=⟨by kernel_rfl,fun p v kn kx=>by kernel_rfl⟩
def Jq:(wF ρ).Ok (ld ρ):=⟨by kernel_rfl,fun p v kn kx=>by kernel_rfl⟩
def PB (x:Val (.pair Ä (.pair Ã .bool))) (k:(Val (.pair ι tI))→Option ρ) :
    đ (ld ρ) 36 (ĉ [Ä,Ã,.bool] x) (fun h v=>Â (Đ [ι,tI] h v) k)=DM x.1 x.2.1 x.2.2 k:=by kernel_rfl
def Tt:(Ho ρ).Ok (JO ρ):=⟨by kernel_rfl,fun p v kn kx=>by kernel_rfl⟩
def aa5 (x:Val aE) (k:(Val aM)→Option ρ) :
    đ (JO ρ) 167 (ĉ [Ä,Ì] x) (fun h v=>Â (Đ [Ä,tI] h v) k)=XG x.1 x.2 k:=by kernel_rfl
def Xq (x:Val (.pair Ä (.pair Ì Ã))) (k:Val ħ→Option ρ) :
    đ (Qc ρ) 215 (ĉ [Ä,Ì,Ã] x) (fun h v=>Â (Đ [Ã,tI] h v) k)=Qd x.1 x.2.1 x.2.2 k:=by kernel_rfl
def Qq (x:Val aE) (k:Val ħ→Option ρ) :
    đ (Hq ρ) 166 (ĉ [Ä,Ì] x) (fun h v=>Â (Đ [Ã,tI] h v) k)=D4 x.1 x.2 k:=by kernel_rfl
def Xp (x:Val aM) (k:(Val (.pair Ì tI))→Option ρ) :
    đ (Qa ρ) 217 (ĉ [Ä,tI] x) (fun h v=>Â (Đ [Ì,tI] h v) k)=Qb x.1 x.2 k:=by kernel_rfl
def aa6 (x:Val aM) (k:Val ħ→Option ρ) :
    đ (UD ρ) 168 (ĉ [Ä,tI] x) (fun h v=>Â (Đ [Ã,tI] h v) k)=XI x.1 x.2 k:=by kernel_rfl
def Mw (x:Val (.pair ab (.pair ak (.ptr Ì)))) (k:Int→Option ρ) :
    đ (BN ρ) 169 (ĉ [ab,ak,(.ptr Ì)] x) (fun h v=>Â (Đ [tI] h v) k)=ye x.1 x.2.1 x.2.2 k:=by kernel_rfl
end Go.Proofs.ZzM
end
