/- lemmas -/
import Derived.Test.YtmadligicacpkaaGreatMdMA
set_option linter.all false
set_option linter.unusedSectionVars false
set_option linter.unusedVariables false
set_option linter.unusedSimpArgs false
noncomputable section
variable {ρ:Type}
set_option maxRecDepth 100000
namespace Go.Proofs.ZzM
open Go Go.Am
def Ua (x:Val Ê) (k:Bool→Option ρ) :
    Ć (L5 ρ) 30 (ā [Ê] x) (fun h v=>Ã (ă [.bool] h v) k)=J2 x k:=by kernel_rfl
def T9:(F8 ρ).Ok (J1 ρ):=⟨by kernel_rfl,fun p v kn kx=>by kernel_rfl⟩
def acE (x:Val Ä) (k:Bool→Option ρ) :
    Ć (J1 ρ) 10 (ā [Ä] x) (fun h v=>Ã (ă [.bool] h v) k)=Yp x k:=by kernel_rfl
def lp:(gX ρ).Ok (š ρ):=⟨by kernel_rfl,fun p v kn kx=>by kernel_rfl⟩
def mz (x:Val ba) (k:Int→Option ρ) :
    Ć (š ρ) 136 (ā [aa,Â] x) (fun h v=>Ã (ă [tI] h v) k)=Ÿ x.1 x.2 k:=by kernel_rfl
def aaa (x:Val aE) (k:Val Â→Option ρ) :
    Ć (Sx ρ) 67 (ā [Ä,Â] x) (fun h v=>Ã (ă [tI,tI] h v) k)=Sy x.1 x.2 k:=by kernel_rfl
def Q9 (x:Val aT) (k:Int→Option ρ) :
    Ć (GS ρ) 50 (ā [ay,Â] x) (fun h v=>Ã (ă [tI] h v) k)=EC x.1 x.2 k:=by kernel_rfl
def HD:(uI ρ).Ok (κ ρ):=⟨by kernel_rfl,fun p v kn kx=>by kernel_rfl⟩
def HC:(uG ρ).Ok (κ ρ):=⟨by kernel_rfl,fun p v kn kx=>by kernel_rfl⟩
def HA:(uC ρ).Ok (κ ρ):=⟨by kernel_rfl,fun p v kn kx=>by kernel_rfl⟩
def HB:(uE ρ).Ok (κ ρ):=⟨by kernel_rfl,fun p v kn kx=>by kernel_rfl⟩
def Hz:(uB ρ).Ok (κ ρ):=⟨by kernel_rfl,fun p v kn kx=>by kernel_rfl⟩
def Oc (x:Val (.pair Ï ak)) (k:(Val (.pair af .bool))→Option ρ) :
    Ć (κ ρ) 117 (ā [Ï,ak] x) (fun h v=>Ã (ă [af,.bool] h v) k)=zK x.1 x.2 k:=by kernel_rfl
def adr (x:Val (.pair Ï tI)) (k:Bool→Option ρ) :
    Ć (WQ ρ) 139 (ā [Ï,tI] x) (fun h v=>Ã (ă [.bool] h v) k)=Zy x.1 x.2 k:=by kernel_rfl
def RE:(Dn ρ).Ok (EN ρ):=⟨by kernel_rfl,fun p v kn kx=>by kernel_rfl⟩
def ZD (x:Val Ï) (k:Val Â→Option ρ) :
    Ć (EN ρ) 138 (ā [Ï] x) (fun h v=>Ã (ă [tI,tI] h v) k)=RF x k:=by kernel_rfl
def Rw:(Dc ρ).Ok (EM ρ):=⟨by kernel_rfl,fun p v kn kx=>by kernel_rfl⟩
def ZB (x:Val bj) (k:Int→Option ρ) :
    Ć (EM ρ) 112 (ā [Ï,af] x) (fun h v=>Ã (ă [tI] h v) k)=Rx x.1 x.2 k:=by kernel_rfl
def Oj:(zU ρ).Ok (jq ρ):=⟨by kernel_rfl,fun p v kn kx=>by kernel_rfl⟩
def Oi:(zS ρ).Ok (jq ρ):=⟨by kernel_rfl,fun p v kn kx=>by kernel_rfl⟩
def Oh:(zQ ρ).Ok (jq ρ):=⟨by kernel_rfl,fun p v kn kx=>by kernel_rfl⟩
def Oe:(zM ρ).Ok (jq ρ):=⟨by kernel_rfl,fun p v kn kx=>by kernel_rfl⟩
def Og:(zO ρ).Ok (jq ρ):=⟨by kernel_rfl,fun p v kn kx=>by kernel_rfl⟩
def Vk (x:Val (.pair Ï (.pair ak tI))) (k:(Val af)→Option ρ) :
    Ć (jq ρ) 120 (ā [Ï,ak,tI] x) (fun h v=>Ã (ă [af] h v) k)=KT x.1 x.2.1 x.2.2 k:=by kernel_rfl
def ZF (x:Val bc) (k:Val Â→Option ρ) :
    Ć (RK ρ) 114 (ā [Ï,tI,tI] x) (fun h v=>Ã (ă [tI,tI] h v) k)=RL x.1 x.2.1 x.2.2 k:=by kernel_rfl
def GR (x:Val aT) (k:Int→Option ρ) :
    Ć (xv ρ) 51 (ā [ay,tI,tI] x) (fun h v=>Ã (ă [tI] h v) k)=sT x.1 x.2.1 x.2.2 k:=by kernel_rfl
def GQ (x:Val aT) (k:Int→Option ρ) :
    Ć (xu ρ) 64 (ā [ay,Â] x) (fun h v=>Ã (ă [tI] h v) k)=sS x.1 x.2 k:=by kernel_rfl
def zr (x:Val aT) (k:Int→Option ρ) :
    Ć (pX ρ) 65 (ā [ay,Â] x) (fun h v=>Ã (ă [tI] h v) k)=mG x.1 x.2 k:=by kernel_rfl
def zq (x:Val aT) (k:Val Â→Option ρ) :
    Ć (kI ρ) 48 (ā [ay,Â] x) (fun h v=>Ã (ă [Â] h v) k)=mF x.1 x.2 k:=by kernel_rfl
def Oo (x:Val (.pair aX aH)) (k:Int→Option ρ) :
    Ć (DA ρ) 198 (ā [aX,af,tI] x) (fun h v=>Ã (ă [tI] h v) k)=Ab x.1 x.2.1 x.2.2 k:=by kernel_rfl
def B0 (x:Val (.pair ar af)) (k:Val Â→Option ρ) :
    Ć (si ρ) 263 (ā [ar,af] x) (fun h v=>Ã (ă [Â] h v) k)=oo x.1 x.2 k:=by kernel_rfl
def RM:(Dv ρ).Ok (EO ρ):=⟨by kernel_rfl,fun p v kn kx=>by kernel_rfl⟩
def ZG (x:Val aa) (k:Int→Option ρ) :
    Ć (EO ρ) 266 (ā [aa] x) (fun h v=>Ã (ă [tI] h v) k)=RN x k:=by kernel_rfl
def RO (x:Val Â) (k:Val ł→Option ρ) :
    Ć (HP ρ) 294 (ā [tI,tI] x) (fun h v=>Ã (ă [Â,tI] h v) k)=EP x.1 x.2 k:=by kernel_rfl
def agc (x:Val ç) (k:Val ł→Option ρ) :
    Ć (adE ρ) 283 (ā [Â,Â] x) (fun h v=>Ã (ă [Â,tI] h v) k)=agd x.1 x.2 k:=by kernel_rfl
def K5 (x:Val ç) (k:Val Â→Option ρ) :
    Ć (zZ ρ) 264 (ā [Â,Â] x) (fun h v=>Ã (ă [Â] h v) k)=wx x.1 x.2 k:=by kernel_rfl
def aga (x:Val ç) (k:Int→Option ρ) :
    Ć (adC ρ) 300 (ā [Â,Â] x) (fun h v=>Ã (ă [tI] h v) k)=agb x.1 x.2 k:=by kernel_rfl
def HU (x:Val ç) (k:Bool→Option ρ) :
    Ć (xL ρ) 295 (ā [ç] x) (fun h v=>Ã (ă [.bool] h v) k)=tc x k:=by kernel_rfl
def age (x:Val ç) (k:Val ł→Option ρ) :
    Ć (adG ρ) 298 (ā [Â,Â] x) (fun h v=>Ã (ă [Â,tI] h v) k)=agf x.1 x.2 k:=by kernel_rfl
def ZL (x:Val (.pair ç Â)) (k:Val tD→Option ρ) :
    Ć (EQ ρ) 284 (ā [ç,Â] x) (fun h v=>Ã (ă [ç,tI] h v) k)=RX x.1 x.2 k:=by kernel_rfl
def K4 (x:Val ç) (k:Val ç→Option ρ) :
    Ć (zY ρ) 265 (ā [Â,Â] x) (fun h v=>Ã (ă [ç] h v) k)=ww x.1 x.2 k:=by kernel_rfl
def VE (x:Val aC) (k:Val ç→Option ρ) :
    Ć (MU ρ) 238 (ā [Ä,Ê] x) (fun h v=>Ã (ă [ç] h v) k)=K8 x.1 x.2 k:=by kernel_rfl
def Z2 (x:Val aC) (k:Val Â→Option ρ) :
    Ć (Su ρ) 239 (ā [Ä,Ê] x) (fun h v=>Ã (ă [Â] h v) k)=Sv x.1 x.2 k:=by kernel_rfl
def ZJ (x:Val Â) (k:Int→Option ρ) :
    Ć (RS ρ) 267 (ā [tI,tI] x) (fun h v=>Ã (ă [tI] h v) k)=HS x.1 x.2 k:=by kernel_rfl
def adI (x:Val Â) (k:Val Â→Option ρ) :
    Ć (WZ ρ) 240 (ā [Â] x) (fun h v=>Ã (ă [tI,tI] h v) k)=ZN x k:=by kernel_rfl
def ZM (x:Val Â) (k:Val Â→Option ρ) :
    Ć (RZ ρ) 241 (ā [Â] x) (fun h v=>Ã (ă [tI,tI] h v) k)=R0 x k:=by kernel_rfl
def adL (x:Val aC) (k:Val Â→Option ρ) :
    Ć (W0 ρ) 203 (ā [Ä,Ê] x) (fun h v=>Ã (ă [Â] h v) k)=ZR x.1 x.2 k:=by kernel_rfl
def Vy:(Ie ρ).Ok (Be ρ):=⟨by kernel_rfl,fun p v kn kx=>by kernel_rfl⟩
def Vx:(Ib ρ).Ok (Be ρ):=⟨by kernel_rfl,fun p v kn kx=>by kernel_rfl⟩
def adO (x:Val (.pair Ä (.pair Ð Â))) (k:Int→Option ρ) :
    Ć (Be ρ) 235 (ā [Ä,Ð,tI,tI] x) (fun h v=>Ã (ă [tI] h v) k)=ZU x.1 x.2.1 x.2.2.1 x.2.2.2 k:=by kernel_rfl
def Vv:(H7 ρ).Ok (uM ρ):=⟨by kernel_rfl,fun p v kn kx=>by kernel_rfl⟩
def Vw:(H9 ρ).Ok (uM ρ):=⟨by kernel_rfl,fun p v kn kx=>by kernel_rfl⟩
def Vu:(H5 ρ).Ok (uM ρ):=⟨by kernel_rfl,fun p v kn kx=>by kernel_rfl⟩
def adN (x:Val Ä) (k:(Val aX)→Option ρ) :
    Ć (uM ρ) 137 (ā [Ä] x) (fun h v=>Ã (ă [aX] h v) k)=ZT x k:=by kernel_rfl
def VJ (x:Val Ä) (k:(Val (.pair Ï (.pair aa tI)))→Option ρ) :
    Ć (MY ρ) 68 (ā [Ä] x) (fun h v=>Ã (ă [Ï,aa,tI] h v) k)=Lc x k:=by kernel_rfl
def VL:(Ix ρ).Ok (Ld ρ):=⟨by kernel_rfl,fun p v kn kx=>by kernel_rfl⟩
def adW (x:Val aE) (k:(Val aG)→Option ρ) :
    Ć (Ld ρ) 110 (ā [Ä,Â] x) (fun h v=>Ã (ă [Ä,tI] h v) k)=Z9 x.1 x.2 k:=by kernel_rfl
def HH (x:Val Ï) (k:(Val aL)→Option ρ) :
    Ć (xI ρ) 111 (ā [Ï] x) (fun h v=>Ã (ă [.bool,tI] h v) k)=s8 x k:=by kernel_rfl
def Hv:(ut ρ).Ok (sW ρ):=⟨by kernel_rfl,fun p v kn kx=>by kernel_rfl⟩
def N9 (x:Val aE) (k:Val ł→Option ρ) :
    Ć (sW ρ) 12 (ā [Ä,Â] x) (fun h v=>Ã (ă [Â,tI] h v) k)=zF x.1 x.2 k:=by kernel_rfl
def KO:(xE ρ).Ok (wj ρ):=⟨by kernel_rfl,fun p v kn kx=>by kernel_rfl⟩
def Rs (x:Val (.pair Ä ç)) (k:Val ł→Option ρ) :
    Ć (wj ρ) 14 (ā [Ä,Â,Â] x) (fun h v=>Ã (ă [Â,tI] h v) k)=EK x.1 x.2.1 x.2.2 k:=by kernel_rfl
def Q7 (x:Val ç) (k:Int→Option ρ) :
    Ć (GP ρ) 57 (ā [Â,Â] x) (fun h v=>Ã (ă [tI] h v) k)=EA x.1 x.2 k:=by kernel_rfl
def Rm:(C9 ρ).Ok (EI ρ):=⟨by kernel_rfl,fun p v kn kx=>by kernel_rfl⟩
def Zu (x:Val (.pair Ä ç)) (k:Val Â→Option ρ) :
    Ć (EI ρ) 21 (ā [Ä,Â,Â] x) (fun h v=>Ã (ă [tI,tI] h v) k)=Rn x.1 x.2.1 x.2.2 k:=by kernel_rfl
def af6:(WW ρ).Ok (KS ρ):=⟨by kernel_rfl,fun p v kn kx=>by kernel_rfl⟩
def af4:(WT ρ).Ok (KS ρ):=⟨by kernel_rfl,fun p v kn kx=>by kernel_rfl⟩
def af3:(WR ρ).Ok (KS ρ):=⟨by kernel_rfl,fun p v kn kx=>by kernel_rfl⟩
def af5:(WV ρ).Ok (KS ρ):=⟨by kernel_rfl,fun p v kn kx=>by kernel_rfl⟩
def alE (x:Val bc) (k:(Val am)→Option ρ) :
    Ć (KS ρ) 122 (ā [Ï,tI,tI] x) (fun h v=>Ã (ă [am] h v) k)=Rv x.1 x.2.1 x.2.2 k:=by kernel_rfl
def RI:(Dt ρ).Ok (qg ρ):=⟨by kernel_rfl,fun p v kn kx=>by kernel_rfl⟩
def RG:(Dp ρ).Ok (qg ρ):=⟨by kernel_rfl,fun p v kn kx=>by kernel_rfl⟩
def RH:(Dr ρ).Ok (qg ρ):=⟨by kernel_rfl,fun p v kn kx=>by kernel_rfl⟩
def ZE (x:Val bc) (k:(Val aH)→Option ρ) :
    Ć (qg ρ) 61 (ā [Ï,tI,tI] x) (fun h v=>Ã (ă [af,tI] h v) k)=RJ x.1 x.2.1 x.2.2 k:=by kernel_rfl
def KN (x:Val (.pair ay (.pair aW (.ptr .bool)))) (k:(Val af)→Option ρ) :
    Ć (zI ρ) 60 (ā [ay,aW,(.ptr .bool)] x) (fun h v=>Ã (ă [af] h v) k)=wi x.1 x.2.1 x.2.2 k:=by kernel_rfl
def Kw:(xt ρ).Ok (vV ρ):=⟨by kernel_rfl,fun p v kn kx=>by kernel_rfl⟩
def Q8 (x:Val (.pair Ä af)) (k:(Val aa)→Option ρ) :
    Ć (vV ρ) 63 (ā [Ä,af] x) (fun h v=>Ã (ă [aa] h v) k)=EB x.1 x.2 k:=by kernel_rfl
def KM:(xC ρ).Ok (lO ρ):=⟨by kernel_rfl,fun p v kn kx=>by kernel_rfl⟩
def KL:(xA ρ).Ok (lO ρ):=⟨by kernel_rfl,fun p v kn kx=>by kernel_rfl⟩
def Rr (x:Val (.pair Ä (.pair Â .bool))) (k:(Val (.pair ö tI))→Option ρ) :
    Ć (lO ρ) 24 (ā [Ä,Â,.bool] x) (fun h v=>Ã (ă [ö,tI] h v) k)=EJ x.1 x.2.1 x.2.2 k:=by kernel_rfl
def KR:(xH ρ).Ok (wn ρ):=⟨by kernel_rfl,fun p v kn kx=>by kernel_rfl⟩
def Ru (x:Val bj) (k:Int→Option ρ) :
    Ć (wn ρ) 140 (ā [Ï,af] x) (fun h v=>Ã (ă [tI] h v) k)=EL x.1 x.2 k:=by kernel_rfl
def Vi:(Hy ρ).Ok (KP ρ):=⟨by kernel_rfl,fun p v kn kx=>by kernel_rfl⟩
def adq (x:Val (.pair Ï au)) (k:(Val aO)→Option ρ) :
    Ć (KP ρ) 141 (ā [Ï,tI,af] x) (fun h v=>Ã (ă [tI,tI,.bool] h v) k)=Zx x.1 x.2.1 x.2.2 k:=by kernel_rfl
def HL (x:Val (.pair Ï (.pair tI au))) (k:Val Â→Option ρ) :
    Ć (xK ρ) 69 (ā [Ï,tI,tI,af] x) (fun h v=>Ã (ă [tI,tI] h v) k)=ta x.1 x.2.1 x.2.2.1 x.2.2.2 k:=by kernel_rfl
def KK (x:Val ö) (k:Int→Option ρ) :
    Ć (zG ρ) 25 (ā [ö] x) (fun h v=>Ã (ă [tI] h v) k)=wh x k:=by kernel_rfl
def VI:(Iu ρ).Ok (Lb ρ):=⟨by kernel_rfl,fun p v kn kx=>by kernel_rfl⟩
def adU (x:Val aC) (k:(Val aG)→Option ρ) :
    Ć (Lb ρ) 147 (ā [Ä,Ê] x) (fun h v=>Ã (ă [Ä,tI] h v) k)=Z6 x.1 x.2 k:=by kernel_rfl
def ZQ (x:Val (.pair Ä (.pair Ê Â))) (k:Val ł→Option ρ) :
    Ć (Se ρ) 200 (ā [Ä,Ê,Â] x) (fun h v=>Ã (ă [Â,tI] h v) k)=Sf x.1 x.2.1 x.2.2 k:=by kernel_rfl
def Sw (x:Val aC) (k:Val ł→Option ρ) :
    Ć (Iw ρ) 146 (ā [Ä,Ê] x) (fun h v=>Ã (ă [Â,tI] h v) k)=EZ x.1 x.2 k:=by kernel_rfl
def ZP (x:Val aG) (k:(Val (.pair Ê tI))→Option ρ) :
    Ć (Sb ρ) 202 (ā [Ä,tI] x) (fun h v=>Ã (ă [Ê,tI] h v) k)=Sd x.1 x.2 k:=by kernel_rfl
def adV (x:Val aG) (k:Val ł→Option ρ) :
    Ć (W4 ρ) 148 (ā [Ä,tI] x) (fun h v=>Ã (ă [Â,tI] h v) k)=Z8 x.1 x.2 k:=by kernel_rfl
def VM (x:Val aJ) (k:(Val (.pair af aH))→Option ρ) :
    Ć (M4 ρ) 149 (ā [af,af] x) (fun h v=>Ã (ă [af,af,tI] h v) k)=Le x.1 x.2 k:=by kernel_rfl
def N5 (x:Val (.pair af (.pair ay (.ptr Ê)))) (k:Int→Option ρ) :
    Ć (C3 ρ) 150 (ā [af,ay,(.ptr Ê)] x) (fun h v=>Ã (ă [tI] h v) k)=zy x.1 x.2.1 x.2.2 k:=by kernel_rfl
def N4 (x:Val (.pair tI (.pair tI (.pair ay (.pair (.ptr tI) (.pair aW (.ptr tI))))))) (k:Val ć→Option ρ) :
    Ć (C2 ρ) 151 (ā [tI,tI,ay,(.ptr tI),aW,(.ptr tI)] x) (fun h v=>Ã (ă [ć] h v) k)=zx x.1 x.2.1 x.2.2.1 x.2.2.2.1 x.2.2.2.2.1 x.2.2.2.2.2 k:=by kernel_rfl
def N3:(zu ρ).Ok (rQ ρ):=⟨by kernel_rfl,fun p v kn kx=>by kernel_rfl⟩
def U8 (x:Val (.pair ay aZ)) (k:(Val (.pair ų tI))→Option ρ) :
    Ć (rQ ρ) 76 (ā [ay,Â,Ê] x) (fun h v=>Ã (ă [ų,tI] h v) k)=Kz x.1 x.2.1 x.2.2 k:=by kernel_rfl
def KA (x:Val ć) (k:(Val af)→Option ρ) :
    Ć (zz ρ) 82 (ā [ć] x) (fun h v=>Ã (ă [af] h v) k)=vY x k:=by kernel_rfl
end Go.Proofs.ZzM
end
