/- lemmas -/
import Derived.Test.YtiochmbenflhhaaGreatMdMA
set_option linter.all false
set_option linter.unusedSectionVars false
set_option linter.unusedVariables false
set_option linter.unusedSimpArgs false
noncomputable section
variable {ρ:Type}
set_option maxRecDepth 100000
namespace Go.Proofs.ZzM
open Go Go.Am
def TU (x:Val Ì) (k:Bool→Option ρ) :
    Ĉ (Mq ρ) 33 (Ā [Ì] x) (fun h v=>Ã (ą [.bool] h v) k)=Ka x k:=by kernel_rfl
def TS:(GG ρ).Ok (J9 ρ):=⟨by kernel_rfl,fun p v kn kx=>by kernel_rfl⟩
def ac3 (x:Val Ä) (k:Bool→Option ρ) :
    Ĉ (J9 ρ) 7 (Ā [Ä] x) (fun h v=>Ã (ą [.bool] h v) k)=Yv x k:=by kernel_rfl
def lO:(iz ρ).Ok (ů ρ):=⟨by kernel_rfl,fun p v kn kx=>by kernel_rfl⟩
def ng (x:Val bc) (k:Int→Option ρ) :
    Ĉ (ů ρ) 119 (Ā [aa,Â] x) (fun h v=>Ã (ą [tI] h v) k)=Β x.1 x.2 k:=by kernel_rfl
def aaN (x:Val aJ) (k:Val Â→Option ρ) :
    Ĉ (Si ρ) 53 (Ā [Ä,Â] x) (fun h v=>Ã (ą [tI,tI] h v) k)=Sj x.1 x.2 k:=by kernel_rfl
def QU (x:Val aV) (k:Int→Option ρ) :
    Ĉ (Ho ρ) 50 (Ā [ak,Â] x) (fun h v=>Ã (ą [tI] h v) k)=Fr x.1 x.2 k:=by kernel_rfl
def ad5 (x:Val (.pair Î tI)) (k:Bool→Option ρ) :
    Ĉ (WO ρ) 173 (Ā [Î,tI] x) (fun h v=>Ã (ą [.bool] h v) k)=ZW x.1 x.2 k:=by kernel_rfl
def Rs:(DL ρ).Ok (FC ρ):=⟨by kernel_rfl,fun p v kn kx=>by kernel_rfl⟩
def Z4 (x:Val Î) (k:Val Â→Option ρ) :
    Ĉ (FC ρ) 146 (Ā [Î] x) (fun h v=>Ã (ą [tI,tI] h v) k)=Rt x k:=by kernel_rfl
def H6:(vu ρ).Ok (χ ρ):=⟨by kernel_rfl,fun p v kn kx=>by kernel_rfl⟩
def H5:(vr ρ).Ok (χ ρ):=⟨by kernel_rfl,fun p v kn kx=>by kernel_rfl⟩
def HZ:(vm ρ).Ok (χ ρ):=⟨by kernel_rfl,fun p v kn kx=>by kernel_rfl⟩
def H4:(vp ρ).Ok (χ ρ):=⟨by kernel_rfl,fun p v kn kx=>by kernel_rfl⟩
def HY:(vl ρ).Ok (χ ρ):=⟨by kernel_rfl,fun p v kn kx=>by kernel_rfl⟩
def Oa (x:Val (.pair Î aq)) (k:(Val (.pair ab .bool))→Option ρ) :
    Ĉ (χ ρ) 147 (Ā [Î,aq] x) (fun h v=>Ã (ą [ab,.bool] h v) k)=AE x.1 x.2 k:=by kernel_rfl
def Rj:(DB ρ).Ok (FB ρ):=⟨by kernel_rfl,fun p v kn kx=>by kernel_rfl⟩
def Z0 (x:Val bm) (k:Int→Option ρ) :
    Ĉ (FB ρ) 184 (Ā [Î,ab] x) (fun h v=>Ã (ą [tI] h v) k)=Rk x.1 x.2 k:=by kernel_rfl
def Oh:(AP ρ).Ok (jP ρ):=⟨by kernel_rfl,fun p v kn kx=>by kernel_rfl⟩
def Og:(AM ρ).Ok (jP ρ):=⟨by kernel_rfl,fun p v kn kx=>by kernel_rfl⟩
def Oe:(AJ ρ).Ok (jP ρ):=⟨by kernel_rfl,fun p v kn kx=>by kernel_rfl⟩
def Oc:(AF ρ).Ok (jP ρ):=⟨by kernel_rfl,fun p v kn kx=>by kernel_rfl⟩
def Od:(AH ρ).Ok (jP ρ):=⟨by kernel_rfl,fun p v kn kx=>by kernel_rfl⟩
def U9 (x:Val (.pair Î (.pair aq tI))) (k:(Val ab)→Option ρ) :
    Ĉ (jP ρ) 185 (Ā [Î,aq,tI] x) (fun h v=>Ã (ą [ab] h v) k)=K7 x.1 x.2.1 x.2.2 k:=by kernel_rfl
def Z8 (x:Val bf) (k:Val Â→Option ρ) :
    Ĉ (Ry ρ) 118 (Ā [Î,tI,tI] x) (fun h v=>Ã (ą [tI,tI] h v) k)=Rz x.1 x.2.1 x.2.2 k:=by kernel_rfl
def Hn (x:Val aV) (k:Int→Option ρ) :
    Ĉ (yc ρ) 52 (Ā [ak,tI,tI] x) (fun h v=>Ã (ą [tI] h v) k)=tE x.1 x.2.1 x.2.2 k:=by kernel_rfl
def Hl (x:Val aV) (k:Int→Option ρ) :
    Ĉ (yb ρ) 96 (Ā [ak,Â] x) (fun h v=>Ã (ą [tI] h v) k)=tD x.1 x.2 k:=by kernel_rfl
def Ae (x:Val aV) (k:Int→Option ρ) :
    Ĉ (qW ρ) 97 (Ā [ak,Â] x) (fun h v=>Ã (ą [tI] h v) k)=nq x.1 x.2 k:=by kernel_rfl
def Ac (x:Val aV) (k:Val Â→Option ρ) :
    Ĉ (la ρ) 42 (Ā [ak,Â] x) (fun h v=>Ã (ą [Â] h v) k)=np x.1 x.2 k:=by kernel_rfl
def VG:(IP ρ).Ok (Lt ρ):=⟨by kernel_rfl,fun p v kn kx=>by kernel_rfl⟩
def aeK (x:Val aJ) (k:(Val aM)→Option ρ) :
    Ĉ (Lt ρ) 54 (Ā [Ä,Â] x) (fun h v=>Ã (ą [Ä,tI] h v) k)=aaL x.1 x.2 k:=by kernel_rfl
def On (x:Val (.pair aY aK)) (k:Int→Option ρ) :
    Ĉ (DY ρ) 205 (Ā [aY,ab,tI] x) (fun h v=>Ã (ą [tI] h v) k)=AW x.1 x.2.1 x.2.2 k:=by kernel_rfl
def Vo:(Iy ρ).Ok (BP ρ):=⟨by kernel_rfl,fun p v kn kx=>by kernel_rfl⟩
def Vn:(Iw ρ).Ok (BP ρ):=⟨by kernel_rfl,fun p v kn kx=>by kernel_rfl⟩
def aew (x:Val (.pair Ä (.pair Ï Â))) (k:Int→Option ρ) :
    Ĉ (BP ρ) 207 (Ā [Ä,Ï,tI,tI] x) (fun h v=>Ã (ą [tI] h v) k)=aau x.1 x.2.1 x.2.2.1 x.2.2.2 k:=by kernel_rfl
def CT (x:Val (.pair ax ab)) (k:Val Â→Option ρ) :
    Ĉ (sV ρ) 258 (Ā [ax,ab] x) (fun h v=>Ã (ą [Â] h v) k)=oS x.1 x.2 k:=by kernel_rfl
def RA:(DT ρ).Ok (FD ρ):=⟨by kernel_rfl,fun p v kn kx=>by kernel_rfl⟩
def aaa (x:Val aa) (k:Int→Option ρ) :
    Ĉ (FD ρ) 261 (Ā [aa] x) (fun h v=>Ã (ą [tI] h v) k)=RB x k:=by kernel_rfl
def RD (x:Val Â) (k:Val ĵ→Option ρ) :
    Ĉ (Ig ρ) 285 (Ā [tI,tI] x) (fun h v=>Ã (ą [Â,tI] h v) k)=FE x.1 x.2 k:=by kernel_rfl
def ahc (x:Val è) (k:Val ĵ→Option ρ) :
    Ĉ (aei ρ) 275 (Ā [Â,Â] x) (fun h v=>Ã (ą [Â,tI] h v) k)=ahd x.1 x.2 k:=by kernel_rfl
def Li (x:Val è) (k:Val Â→Option ρ) :
    Ĉ (AU ρ) 259 (Ā [Â,Â] x) (fun h v=>Ã (ą [Â] h v) k)=wX x.1 x.2 k:=by kernel_rfl
def ag9 (x:Val è) (k:Int→Option ρ) :
    Ĉ (aeg ρ) 291 (Ā [Â,Â] x) (fun h v=>Ã (ą [tI] h v) k)=aha x.1 x.2 k:=by kernel_rfl
def Ij (x:Val è) (k:Bool→Option ρ) :
    Ĉ (yo ρ) 286 (Ā [è] x) (fun h v=>Ã (ą [.bool] h v) k)=tS x k:=by kernel_rfl
def ahf (x:Val è) (k:Val ĵ→Option ρ) :
    Ĉ (aek ρ) 289 (Ā [Â,Â] x) (fun h v=>Ã (ą [Â,tI] h v) k)=ahg x.1 x.2 k:=by kernel_rfl
def aah (x:Val (.pair è Â)) (k:Val uk→Option ρ) :
    Ĉ (FF ρ) 276 (Ā [è,Â] x) (fun h v=>Ã (ą [è,tI] h v) k)=RI x.1 x.2 k:=by kernel_rfl
def Lg (x:Val è) (k:Val è→Option ρ) :
    Ĉ (AR ρ) 260 (Ā [Â,Â] x) (fun h v=>Ã (ą [è] h v) k)=wW x.1 x.2 k:=by kernel_rfl
def Vx (x:Val aH) (k:Val è→Option ρ) :
    Ĉ (MR ρ) 243 (Ā [Ä,Ì] x) (fun h v=>Ã (ą [è] h v) k)=Lm x.1 x.2 k:=by kernel_rfl
def aaE (x:Val aH) (k:Val Â→Option ρ) :
    Ĉ (Se ρ) 244 (Ā [Ä,Ì] x) (fun h v=>Ã (ą [Â] h v) k)=Sf x.1 x.2 k:=by kernel_rfl
def aae (x:Val Â) (k:Int→Option ρ) :
    Ĉ (RF ρ) 262 (Ā [tI,tI] x) (fun h v=>Ã (ą [tI] h v) k)=Ih x.1 x.2 k:=by kernel_rfl
def aaj (x:Val Â) (k:Val Â→Option ρ) :
    Ĉ (RJ ρ) 245 (Ā [Â] x) (fun h v=>Ã (ą [tI,tI] h v) k)=RK x k:=by kernel_rfl
def aen (x:Val Â) (k:Val Â→Option ρ) :
    Ĉ (WX ρ) 246 (Ā [Â] x) (fun h v=>Ã (ą [tI,tI] h v) k)=aak x k:=by kernel_rfl
def aer (x:Val aH) (k:Val Â→Option ρ) :
    Ĉ (WY ρ) 208 (Ā [Ä,Ì] x) (fun h v=>Ã (ą [Â] h v) k)=aaq x.1 x.2 k:=by kernel_rfl
def Vl:(Iq ρ).Ok (vw ρ):=⟨by kernel_rfl,fun p v kn kx=>by kernel_rfl⟩
def Vm:(Iu ρ).Ok (vw ρ):=⟨by kernel_rfl,fun p v kn kx=>by kernel_rfl⟩
def Vk:(Io ρ).Ok (vw ρ):=⟨by kernel_rfl,fun p v kn kx=>by kernel_rfl⟩
def aeu (x:Val Ä) (k:(Val aY)→Option ρ) :
    Ĉ (vw ρ) 74 (Ā [Ä] x) (fun h v=>Ã (ą [aY] h v) k)=aat x k:=by kernel_rfl
def VE (x:Val Ä) (k:(Val (.pair Î (.pair aa tI)))→Option ρ) :
    Ĉ (MS ρ) 77 (Ā [Ä] x) (fun h v=>Ã (ą [Î,aa,tI] h v) k)=Ls x k:=by kernel_rfl
def Ia (x:Val Î) (k:(Val aP)→Option ρ) :
    Ĉ (yl ρ) 108 (Ā [Î] x) (fun h v=>Ã (ą [.bool,tI] h v) k)=tP x k:=by kernel_rfl
def HU:(vh ρ).Ok (tJ ρ):=⟨by kernel_rfl,fun p v kn kx=>by kernel_rfl⟩
def N2 (x:Val aJ) (k:Val ĵ→Option ρ) :
    Ĉ (tJ ρ) 9 (Ā [Ä,Â] x) (fun h v=>Ã (ą [Â,tI] h v) k)=Aq x.1 x.2 k:=by kernel_rfl
def VI (x:Val aE) (k:(Val (.pair ab aK))→Option ρ) :
    Ĉ (MT ρ) 114 (Ā [ab,ab] x) (fun h v=>Ã (ą [ab,ab,tI] h v) k)=Lu x.1 x.2 k:=by kernel_rfl
def adL (x:Val aK) (k:Bool→Option ρ) :
    Ĉ (WN ρ) 44 (Ā [ab,tI] x) (fun h v=>Ã (ą [.bool] h v) k)=Zw x.1 x.2 k:=by kernel_rfl
def ZC (x:Val tI) (k:Bool→Option ρ) :
    Ĉ (QZ ρ) 45 (Ā [tI] x) (fun h v=>Ã (ą [.bool] h v) k)=Q0 x k:=by kernel_rfl
def QV:(Ds ρ).Ok (Fs ρ):=⟨by kernel_rfl,fun p v kn kx=>by kernel_rfl⟩
def Zz (x:Val aT) (k:(Val aa)→Option ρ) :
    Ĉ (Fs ρ) 46 (Ā [tI,am] x) (fun h v=>Ã (ą [aa] h v) k)=QW x.1 x.2 k:=by kernel_rfl
def U1:(HS ρ).Ok (BM ρ):=⟨by kernel_rfl,fun p v kn kx=>by kernel_rfl⟩
def U0:(HP ρ).Ok (BM ρ):=⟨by kernel_rfl,fun p v kn kx=>by kernel_rfl⟩
def adZ (x:Val (.pair Ä au)) (k:Val ĵ→Option ρ) :
    Ĉ (BM ρ) 10 (Ā [Ä,tI,ab] x) (fun h v=>Ã (ą [Â,tI] h v) k)=ZN x.1 x.2.1 x.2.2 k:=by kernel_rfl
def KZ:(yi ρ).Ok (wO ρ):=⟨by kernel_rfl,fun p v kn kx=>by kernel_rfl⟩
def Re (x:Val (.pair Ä è)) (k:Val ĵ→Option ρ) :
    Ĉ (wO ρ) 12 (Ā [Ä,Â,Â] x) (fun h v=>Ã (ą [Â,tI] h v) k)=Fz x.1 x.2.1 x.2.2 k:=by kernel_rfl
def ag3:(WU ρ).Ok (K6 ρ):=⟨by kernel_rfl,fun p v kn kx=>by kernel_rfl⟩
def ag1:(WR ρ).Ok (K6 ρ):=⟨by kernel_rfl,fun p v kn kx=>by kernel_rfl⟩
def ag0:(WP ρ).Ok (K6 ρ):=⟨by kernel_rfl,fun p v kn kx=>by kernel_rfl⟩
def ag2:(WT ρ).Ok (K6 ρ):=⟨by kernel_rfl,fun p v kn kx=>by kernel_rfl⟩
def amH (x:Val bf) (k:(Val am)→Option ρ) :
    Ĉ (K6 ρ) 148 (Ā [Î,tI,tI] x) (fun h v=>Ã (ą [am] h v) k)=Ri x.1 x.2.1 x.2.2 k:=by kernel_rfl
def Rq:(DK ρ).Ok (lf ρ):=⟨by kernel_rfl,fun p v kn kx=>by kernel_rfl⟩
def Rl:(DC ρ).Ok (lf ρ):=⟨by kernel_rfl,fun p v kn kx=>by kernel_rfl⟩
def Rn:(DE ρ).Ok (lf ρ):=⟨by kernel_rfl,fun p v kn kx=>by kernel_rfl⟩
def Ro:(DG ρ).Ok (lf ρ):=⟨by kernel_rfl,fun p v kn kx=>by kernel_rfl⟩
def Rp:(DI ρ).Ok (lf ρ):=⟨by kernel_rfl,fun p v kn kx=>by kernel_rfl⟩
def Z2 (x:Val Î) (k:(Val aK)→Option ρ) :
    Ĉ (lf ρ) 78 (Ā [Î] x) (fun h v=>Ã (ą [ab,tI] h v) k)=Rr x k:=by kernel_rfl
def Kz:(xT ρ).Ok (wD ρ):=⟨by kernel_rfl,fun p v kn kx=>by kernel_rfl⟩
def QS (x:Val (.pair Ä ab)) (k:(Val aa)→Option ρ) :
    Ĉ (wD ρ) 80 (Ā [Ä,ab] x) (fun h v=>Ã (ą [aa] h v) k)=EU x.1 x.2 k:=by kernel_rfl
def ZT (x:Val Ä) (k:(Val (.pair iv tI))→Option ρ) :
    Ĉ (Q9 ρ) 24 (Ā [Ä] x) (fun h v=>Ã (ą [iv,tI] h v) k)=Ra x k:=by kernel_rfl
def Nq (x:Unit) (k:Val Ä→Option ρ) :
    Ĉ (Dc ρ) 34 (Ā [] x) (fun h v=>Ã (ą [Ä] h v) k)=zh k:=by kernel_rfl
def QQ (x:Val è) (k:Int→Option ρ) :
    Ĉ (G5 ρ) 93 (Ā [Â,Â] x) (fun h v=>Ã (ą [tI] h v) k)=ET x.1 x.2 k:=by kernel_rfl
def Q6:(Dz ρ).Ok (Fx ρ):=⟨by kernel_rfl,fun p v kn kx=>by kernel_rfl⟩
def ZQ (x:Val (.pair Ä è)) (k:Val Â→Option ρ) :
    Ĉ (Fx ρ) 35 (Ā [Ä,Â,Â] x) (fun h v=>Ã (ą [tI,tI] h v) k)=Q7 x.1 x.2.1 x.2.2 k:=by kernel_rfl
def Rw:(DR ρ).Ok (rg ρ):=⟨by kernel_rfl,fun p v kn kx=>by kernel_rfl⟩
def Ru:(DM ρ).Ok (rg ρ):=⟨by kernel_rfl,fun p v kn kx=>by kernel_rfl⟩
def Rv:(DP ρ).Ok (rg ρ):=⟨by kernel_rfl,fun p v kn kx=>by kernel_rfl⟩
def Z6 (x:Val bf) (k:(Val aK)→Option ρ) :
    Ĉ (rg ρ) 95 (Ā [Î,tI,tI] x) (fun h v=>Ã (ą [ab,tI] h v) k)=Rx x.1 x.2.1 x.2.2 k:=by kernel_rfl
def KY (x:Val (.pair ak (.pair aX (.ptr .bool)))) (k:(Val ab)→Option ρ) :
    Ĉ (AD ρ) 94 (Ā [ak,aX,(.ptr .bool)] x) (fun h v=>Ã (ą [ab] h v) k)=wN x.1 x.2.1 x.2.2 k:=by kernel_rfl
def KW:(yg ρ).Ok (mf ρ):=⟨by kernel_rfl,fun p v kn kx=>by kernel_rfl⟩
def KV:(ye ρ).Ok (mf ρ):=⟨by kernel_rfl,fun p v kn kx=>by kernel_rfl⟩
def Rb (x:Val (.pair Ä (.pair Â .bool))) (k:(Val (.pair iv tI))→Option ρ) :
    Ĉ (mf ρ) 36 (Ā [Ä,Â,.bool] x) (fun h v=>Ã (ą [iv,tI] h v) k)=Fy x.1 x.2.1 x.2.2 k:=by kernel_rfl
def VC:(IK ρ).Ok (Lr ρ):=⟨by kernel_rfl,fun p v kn kx=>by kernel_rfl⟩
def aeG (x:Val aH) (k:(Val aM)→Option ρ) :
    Ĉ (Lr ρ) 167 (Ā [Ä,Ì] x) (fun h v=>Ã (ą [Ä,tI] h v) k)=aaI x.1 x.2 k:=by kernel_rfl
def aap (x:Val (.pair Ä (.pair Ì Â))) (k:Val ĵ→Option ρ) :
    Ĉ (RN ρ) 215 (Ā [Ä,Ì,Â] x) (fun h v=>Ã (ą [Â,tI] h v) k)=RO x.1 x.2.1 x.2.2 k:=by kernel_rfl
def Sh (x:Val aH) (k:Val ĵ→Option ρ) :
    Ĉ (IM ρ) 166 (Ā [Ä,Ì] x) (fun h v=>Ã (ą [Â,tI] h v) k)=FP x.1 x.2 k:=by kernel_rfl
def aan (x:Val aM) (k:(Val (.pair Ì tI))→Option ρ) :
    Ĉ (RL ρ) 217 (Ā [Ä,tI] x) (fun h v=>Ã (ą [Ì,tI] h v) k)=RM x.1 x.2 k:=by kernel_rfl
def aeI (x:Val aM) (k:Val ĵ→Option ρ) :
    Ĉ (WZ ρ) 168 (Ā [Ä,tI] x) (fun h v=>Ã (ą [Â,tI] h v) k)=aaK x.1 x.2 k:=by kernel_rfl
def NX (x:Val (.pair ab (.pair ak (.ptr Ì)))) (k:Int→Option ρ) :
    Ĉ (Dv ρ) 169 (Ā [ab,ak,(.ptr Ì)] x) (fun h v=>Ã (ą [tI] h v) k)=Ai x.1 x.2.1 x.2.2 k:=by kernel_rfl
end Go.Proofs.ZzM
end
