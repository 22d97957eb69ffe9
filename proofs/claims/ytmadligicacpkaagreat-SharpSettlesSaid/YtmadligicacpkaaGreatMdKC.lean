/- lemmas -/
import Derived.Test.YtmadligicacpkaaGreatMdMA
set_option linter.all false
set_option linter.unusedSectionVars false
set_option linter.unusedVariables false
set_option linter.unusedSimpArgs false
noncomputable section
variable {ρ:Type}
set_option maxRecDepth 100000
namespace Go.Proofs.ZzM
open Go Go.Am
def Sh (x:Val É) (k:Bool→Option ρ) :
    Ċ (KD ρ) 30 (Ă [É] x) (fun h v=>Ä (Ć [.bool] h v) k)=IC x k:=by kernel_rfl
def Sg:(ER ρ).Ok (IB ρ):=⟨by kernel_rfl,fun p v kn kx=>by kernel_rfl⟩
def aar (x:Val Å) (k:Bool→Option ρ) :
    Ċ (IB ρ) 10 (Ă [Å] x) (fun h v=>Ä (Ć [.bool] h v) k)=Wt x k:=by kernel_rfl
def kW:(gT ρ).Ok (š ρ):=⟨by kernel_rfl,fun p v kn kx=>by kernel_rfl⟩
def mm (x:Val aV) (k:Int→Option ρ) :
    Ċ (š ρ) 136 (Ă [aa,Ã] x) (fun h v=>Ä (Ć [tI] h v) k)=ż x.1 x.2 k:=by kernel_rfl
def Ye (x:Val aC) (k:Val Ã→Option ρ) :
    Ċ (QG ρ) 67 (Ă [Å,Ã] x) (fun h v=>Ä (Ć [tI,tI] h v) k)=QH x.1 x.2 k:=by kernel_rfl
def Pz (x:Val aQ) (k:Int→Option ρ) :
    Ċ (FC ρ) 50 (Ă [ax,Ã] x) (fun h v=>Ä (Ć [tI] h v) k)=Dv x.1 x.2 k:=by kernel_rfl
def Gj:(tQ ρ).Ok (θ ρ):=⟨by kernel_rfl,fun p v kn kx=>by kernel_rfl⟩
def Gi:(tO ρ).Ok (θ ρ):=⟨by kernel_rfl,fun p v kn kx=>by kernel_rfl⟩
def Gg:(tJ ρ).Ok (θ ρ):=⟨by kernel_rfl,fun p v kn kx=>by kernel_rfl⟩
def Gh:(tM ρ).Ok (θ ρ):=⟨by kernel_rfl,fun p v kn kx=>by kernel_rfl⟩
def Gf:(tG ρ).Ok (θ ρ):=⟨by kernel_rfl,fun p v kn kx=>by kernel_rfl⟩
def MI (x:Val (.pair Í ak)) (k:(Val (.pair ae .bool))→Option ρ) :
    Ċ (θ ρ) 117 (Ă [Í,ak] x) (fun h v=>Ä (Ć [ae,.bool] h v) k)=yS x.1 x.2 k:=by kernel_rfl
def abb (x:Val (.pair Í tI)) (k:Bool→Option ρ) :
    Ċ (UN ρ) 139 (Ă [Í,tI] x) (fun h v=>Ä (Ć [.bool] h v) k)=XB x.1 x.2 k:=by kernel_rfl
def P3:(Cn ρ).Ok (DG ρ):=⟨by kernel_rfl,fun p v kn kx=>by kernel_rfl⟩
def XG (x:Val Í) (k:Val Ã→Option ρ) :
    Ċ (DG ρ) 138 (Ă [Í] x) (fun h v=>Ä (Ć [tI,tI] h v) k)=P4 x k:=by kernel_rfl
def PV:(Cd ρ).Ok (DF ρ):=⟨by kernel_rfl,fun p v kn kx=>by kernel_rfl⟩
def XE (x:Val bg) (k:Int→Option ρ) :
    Ċ (DF ρ) 112 (Ă [Í,ae] x) (fun h v=>Ä (Ć [tI] h v) k)=PW x.1 x.2 k:=by kernel_rfl
def MO:(zb ρ).Ok (jh ρ):=⟨by kernel_rfl,fun p v kn kx=>by kernel_rfl⟩
def MN:(y0 ρ).Ok (jh ρ):=⟨by kernel_rfl,fun p v kn kx=>by kernel_rfl⟩
def MM:(yY ρ).Ok (jh ρ):=⟨by kernel_rfl,fun p v kn kx=>by kernel_rfl⟩
def MK:(yU ρ).Ok (jh ρ):=⟨by kernel_rfl,fun p v kn kx=>by kernel_rfl⟩
def ML:(yW ρ).Ok (jh ρ):=⟨by kernel_rfl,fun p v kn kx=>by kernel_rfl⟩
def Ts (x:Val (.pair Í (.pair ak tI))) (k:(Val ae)→Option ρ) :
    Ċ (jh ρ) 120 (Ă [Í,ak,tI] x) (fun h v=>Ä (Ć [ae] h v) k)=Jp x.1 x.2.1 x.2.2 k:=by kernel_rfl
def XI (x:Val aW) (k:Val Ã→Option ρ) :
    Ċ (P9 ρ) 114 (Ă [Í,tI,tI] x) (fun h v=>Ä (Ć [tI,tI] h v) k)=Qa x.1 x.2.1 x.2.2 k:=by kernel_rfl
def FB (x:Val aQ) (k:Int→Option ρ) :
    Ċ (wO ρ) 51 (Ă [ax,tI,tI] x) (fun h v=>Ä (Ć [tI] h v) k)=sf x.1 x.2.1 x.2.2 k:=by kernel_rfl
def FA (x:Val aQ) (k:Int→Option ρ) :
    Ċ (wN ρ) 64 (Ă [ax,Ã] x) (fun h v=>Ä (Ć [tI] h v) k)=se x.1 x.2 k:=by kernel_rfl
def yC (x:Val aQ) (k:Int→Option ρ) :
    Ċ (pR ρ) 65 (Ă [ax,Ã] x) (fun h v=>Ä (Ć [tI] h v) k)=mz x.1 x.2 k:=by kernel_rfl
def yB (x:Val aQ) (k:Val Ã→Option ρ) :
    Ċ (km ρ) 48 (Ă [ax,Ã] x) (fun h v=>Ä (Ć [Ã] h v) k)=mw x.1 x.2 k:=by kernel_rfl
def MS (x:Val (.pair aT aH)) (k:Int→Option ρ) :
    Ċ (Cz ρ) 198 (Ă [aT,ae,tI] x) (fun h v=>Ä (Ć [tI] h v) k)=zj x.1 x.2.1 x.2.2 k:=by kernel_rfl
def Bb (x:Val (.pair aq ae)) (k:Val Ã→Option ρ) :
    Ċ (rG ρ) 263 (Ă [aq,ae] x) (fun h v=>Ä (Ć [Ã] h v) k)=oi x.1 x.2 k:=by kernel_rfl
def Qb:(Cu ρ).Ok (DH ρ):=⟨by kernel_rfl,fun p v kn kx=>by kernel_rfl⟩
def XJ (x:Val aa) (k:Int→Option ρ) :
    Ċ (DH ρ) 266 (Ă [aa] x) (fun h v=>Ä (Ć [tI] h v) k)=Qc x k:=by kernel_rfl
def Qd (x:Val Ã) (k:Val Ĵ→Option ρ) :
    Ċ (Gw ρ) 294 (Ă [tI,tI] x) (fun h v=>Ä (Ć [Ã,tI] h v) k)=DI x.1 x.2 k:=by kernel_rfl
def ad3 (x:Val è) (k:Val Ĵ→Option ρ) :
    Ċ (abo ρ) 283 (Ă [Ã,Ã] x) (fun h v=>Ä (Ć [Ã,tI] h v) k)=ad4 x.1 x.2 k:=by kernel_rfl
def Jz (x:Val è) (k:Val Ã→Option ρ) :
    Ċ (zh ρ) 264 (Ă [Ã,Ã] x) (fun h v=>Ä (Ć [Ã] h v) k)=vE x.1 x.2 k:=by kernel_rfl
def ad1 (x:Val è) (k:Int→Option ρ) :
    Ċ (abm ρ) 300 (Ă [Ã,Ã] x) (fun h v=>Ä (Ć [tI] h v) k)=ad2 x.1 x.2 k:=by kernel_rfl
def GA (x:Val è) (k:Bool→Option ρ) :
    Ċ (xb ρ) 295 (Ă [è] x) (fun h v=>Ä (Ć [.bool] h v) k)=su x k:=by kernel_rfl
def ad5 (x:Val è) (k:Val Ĵ→Option ρ) :
    Ċ (abq ρ) 298 (Ă [Ã,Ã] x) (fun h v=>Ä (Ć [Ã,tI] h v) k)=ad6 x.1 x.2 k:=by kernel_rfl
def XO (x:Val (.pair è Ã)) (k:Val sS→Option ρ) :
    Ċ (DJ ρ) 284 (Ă [è,Ã] x) (fun h v=>Ä (Ć [è,tI] h v) k)=Ql x.1 x.2 k:=by kernel_rfl
def Jy (x:Val è) (k:Val è→Option ρ) :
    Ċ (zf ρ) 265 (Ă [Ã,Ã] x) (fun h v=>Ä (Ć [è] h v) k)=vD x.1 x.2 k:=by kernel_rfl
def TN (x:Val aA) (k:Val è→Option ρ) :
    Ċ (Lv ρ) 238 (Ă [Å,É] x) (fun h v=>Ä (Ć [è] h v) k)=JC x.1 x.2 k:=by kernel_rfl
def X5 (x:Val aA) (k:Val Ã→Option ρ) :
    Ċ (QD ρ) 239 (Ă [Å,É] x) (fun h v=>Ä (Ć [Ã] h v) k)=QE x.1 x.2 k:=by kernel_rfl
def XM (x:Val Ã) (k:Int→Option ρ) :
    Ċ (Qg ρ) 267 (Ă [tI,tI] x) (fun h v=>Ä (Ć [tI] h v) k)=Gy x.1 x.2 k:=by kernel_rfl
def abt (x:Val Ã) (k:Val Ã→Option ρ) :
    Ċ (UW ρ) 240 (Ă [Ã] x) (fun h v=>Ä (Ć [tI,tI] h v) k)=XQ x k:=by kernel_rfl
def XP (x:Val Ã) (k:Val Ã→Option ρ) :
    Ċ (Qn ρ) 241 (Ă [Ã] x) (fun h v=>Ä (Ć [tI,tI] h v) k)=Qo x k:=by kernel_rfl
def abw (x:Val aA) (k:Val Ã→Option ρ) :
    Ċ (UX ρ) 203 (Ă [Å,É] x) (fun h v=>Ä (Ć [Ã] h v) k)=XU x.1 x.2 k:=by kernel_rfl
def TH:(GR ρ).Ok (Al ρ):=⟨by kernel_rfl,fun p v kn kx=>by kernel_rfl⟩
def TG:(GP ρ).Ok (Al ρ):=⟨by kernel_rfl,fun p v kn kx=>by kernel_rfl⟩
def abz (x:Val (.pair Å (.pair Ð Ã))) (k:Int→Option ρ) :
    Ċ (Al ρ) 235 (Ă [Å,Ð,tI,tI] x) (fun h v=>Ä (Ć [tI] h v) k)=XX x.1 x.2.1 x.2.2.1 x.2.2.2 k:=by kernel_rfl
def TE:(GK ρ).Ok (tU ρ):=⟨by kernel_rfl,fun p v kn kx=>by kernel_rfl⟩
def TF:(GN ρ).Ok (tU ρ):=⟨by kernel_rfl,fun p v kn kx=>by kernel_rfl⟩
def TD:(GI ρ).Ok (tU ρ):=⟨by kernel_rfl,fun p v kn kx=>by kernel_rfl⟩
def aby (x:Val Å) (k:(Val aT)→Option ρ) :
    Ċ (tU ρ) 137 (Ă [Å] x) (fun h v=>Ä (Ć [aT] h v) k)=XW x k:=by kernel_rfl
def TS (x:Val Å) (k:(Val (.pair Í (.pair aa tI)))→Option ρ) :
    Ċ (Lz ρ) 68 (Ă [Å] x) (fun h v=>Ä (Ć [Í,aa,tI] h v) k)=JG x k:=by kernel_rfl
def TU:(G7 ρ).Ok (JH ρ):=⟨by kernel_rfl,fun p v kn kx=>by kernel_rfl⟩
def abH (x:Val aC) (k:(Val aG)→Option ρ) :
    Ċ (JH ρ) 110 (Ă [Å,Ã] x) (fun h v=>Ä (Ć [Å,tI] h v) k)=Yd x.1 x.2 k:=by kernel_rfl
def Gn (x:Val Í) (k:(Val aU)→Option ρ) :
    Ċ (w8 ρ) 111 (Ă [Í] x) (fun h v=>Ä (Ć [.bool,tI] h v) k)=sn x k:=by kernel_rfl
def Gb:(tC ρ).Ok (si ρ):=⟨by kernel_rfl,fun p v kn kx=>by kernel_rfl⟩
def MF (x:Val aC) (k:Val Ĵ→Option ρ) :
    Ċ (si ρ) 12 (Ă [Å,Ã] x) (fun h v=>Ä (Ć [Ã,tI] h v) k)=yN x.1 x.2 k:=by kernel_rfl
def Jk:(wX ρ).Ok (vv ρ):=⟨by kernel_rfl,fun p v kn kx=>by kernel_rfl⟩
def PR (x:Val (.pair Å è)) (k:Val Ĵ→Option ρ) :
    Ċ (vv ρ) 14 (Ă [Å,Ã,Ã] x) (fun h v=>Ä (Ć [Ã,tI] h v) k)=DD x.1 x.2.1 x.2.2 k:=by kernel_rfl
def Px (x:Val è) (k:Int→Option ρ) :
    Ċ (Fz ρ) 57 (Ă [Ã,Ã] x) (fun h v=>Ä (Ć [tI] h v) k)=Dt x.1 x.2 k:=by kernel_rfl
def PL:(Ca ρ).Ok (DB ρ):=⟨by kernel_rfl,fun p v kn kx=>by kernel_rfl⟩
def Xx (x:Val (.pair Å è)) (k:Val Ã→Option ρ) :
    Ċ (DB ρ) 21 (Ă [Å,Ã,Ã] x) (fun h v=>Ä (Ć [tI,tI] h v) k)=PM x.1 x.2.1 x.2.2 k:=by kernel_rfl
def adX:(UT ρ).Ok (Jo ρ):=⟨by kernel_rfl,fun p v kn kx=>by kernel_rfl⟩
def adV:(UQ ρ).Ok (Jo ρ):=⟨by kernel_rfl,fun p v kn kx=>by kernel_rfl⟩
def adU:(UO ρ).Ok (Jo ρ):=⟨by kernel_rfl,fun p v kn kx=>by kernel_rfl⟩
def adW:(US ρ).Ok (Jo ρ):=⟨by kernel_rfl,fun p v kn kx=>by kernel_rfl⟩
def aja (x:Val aW) (k:(Val am)→Option ρ) :
    Ċ (Jo ρ) 122 (Ă [Í,tI,tI] x) (fun h v=>Ä (Ć [am] h v) k)=PU x.1 x.2.1 x.2.2 k:=by kernel_rfl
def P7:(Cs ρ).Ok (pX ρ):=⟨by kernel_rfl,fun p v kn kx=>by kernel_rfl⟩
def P5:(Co ρ).Ok (pX ρ):=⟨by kernel_rfl,fun p v kn kx=>by kernel_rfl⟩
def P6:(Cq ρ).Ok (pX ρ):=⟨by kernel_rfl,fun p v kn kx=>by kernel_rfl⟩
def XH (x:Val aW) (k:(Val aH)→Option ρ) :
    Ċ (pX ρ) 61 (Ă [Í,tI,tI] x) (fun h v=>Ä (Ć [ae,tI] h v) k)=P8 x.1 x.2.1 x.2.2 k:=by kernel_rfl
def Jj (x:Val (.pair ax (.pair aS (.ptr .bool)))) (k:(Val ae)→Option ρ) :
    Ċ (yQ ρ) 60 (Ă [ax,aS,(.ptr .bool)] x) (fun h v=>Ä (Ć [ae] h v) k)=vu x.1 x.2.1 x.2.2 k:=by kernel_rfl
def I3:(wM ρ).Ok (vf ρ):=⟨by kernel_rfl,fun p v kn kx=>by kernel_rfl⟩
def Py (x:Val (.pair Å ae)) (k:(Val aa)→Option ρ) :
    Ċ (vf ρ) 63 (Ă [Å,ae] x) (fun h v=>Ä (Ć [aa] h v) k)=Du x.1 x.2 k:=by kernel_rfl
def Ji:(wV ρ).Ok (lC ρ):=⟨by kernel_rfl,fun p v kn kx=>by kernel_rfl⟩
def Jh:(wT ρ).Ok (lC ρ):=⟨by kernel_rfl,fun p v kn kx=>by kernel_rfl⟩
def PQ (x:Val (.pair Å (.pair Ã .bool))) (k:(Val (.pair χ tI))→Option ρ) :
    Ċ (lC ρ) 24 (Ă [Å,Ã,.bool] x) (fun h v=>Ä (Ć [χ,tI] h v) k)=DC x.1 x.2.1 x.2.2 k:=by kernel_rfl
def Jn:(w7 ρ).Ok (vx ρ):=⟨by kernel_rfl,fun p v kn kx=>by kernel_rfl⟩
def PT (x:Val bg) (k:Int→Option ρ) :
    Ċ (vx ρ) 140 (Ă [Í,ae] x) (fun h v=>Ä (Ć [tI] h v) k)=DE x.1 x.2 k:=by kernel_rfl
def Tq:(Ge ρ).Ok (Jl ρ):=⟨by kernel_rfl,fun p v kn kx=>by kernel_rfl⟩
def aba (x:Val (.pair Í ar)) (k:(Val (.pair tI (.pair tI .bool)))→Option ρ) :
    Ċ (Jl ρ) 141 (Ă [Í,tI,ae] x) (fun h v=>Ä (Ć [tI,tI,.bool] h v) k)=XA x.1 x.2.1 x.2.2 k:=by kernel_rfl
def Gs (x:Val (.pair Í (.pair tI ar))) (k:Val Ã→Option ρ) :
    Ċ (xa ρ) 69 (Ă [Í,tI,tI,ae] x) (fun h v=>Ä (Ć [tI,tI] h v) k)=sr x.1 x.2.1 x.2.2.1 x.2.2.2 k:=by kernel_rfl
def Jg (x:Val χ) (k:Int→Option ρ) :
    Ċ (yO ρ) 25 (Ă [χ] x) (fun h v=>Ä (Ć [tI] h v) k)=vt x k:=by kernel_rfl
def TR:(G4 ρ).Ok (JF ρ):=⟨by kernel_rfl,fun p v kn kx=>by kernel_rfl⟩
def abF (x:Val aA) (k:(Val aG)→Option ρ) :
    Ċ (JF ρ) 147 (Ă [Å,É] x) (fun h v=>Ä (Ć [Å,tI] h v) k)=Ya x.1 x.2 k:=by kernel_rfl
def XT (x:Val (.pair Å (.pair É Ã))) (k:Val Ĵ→Option ρ) :
    Ċ (Qr ρ) 200 (Ă [Å,É,Ã] x) (fun h v=>Ä (Ć [Ã,tI] h v) k)=Qs x.1 x.2.1 x.2.2 k:=by kernel_rfl
def QF (x:Val aA) (k:Val Ĵ→Option ρ) :
    Ċ (G6 ρ) 146 (Ă [Å,É] x) (fun h v=>Ä (Ć [Ã,tI] h v) k)=DT x.1 x.2 k:=by kernel_rfl
def XS (x:Val aG) (k:(Val (.pair É tI))→Option ρ) :
    Ċ (Qp ρ) 202 (Ă [Å,tI] x) (fun h v=>Ä (Ć [É,tI] h v) k)=Qq x.1 x.2 k:=by kernel_rfl
def abG (x:Val aG) (k:Val Ĵ→Option ρ) :
    Ċ (UY ρ) 148 (Ă [Å,tI] x) (fun h v=>Ä (Ć [Ã,tI] h v) k)=Yc x.1 x.2 k:=by kernel_rfl
def TV (x:Val aY) (k:(Val (.pair ae aH))→Option ρ) :
    Ċ (LC ρ) 149 (Ă [ae,ae] x) (fun h v=>Ä (Ć [ae,ae,tI] h v) k)=JI x.1 x.2 k:=by kernel_rfl
def MB (x:Val (.pair ae (.pair ax (.ptr É)))) (k:Int→Option ρ) :
    Ċ (B4 ρ) 150 (Ă [ae,ax,(.ptr É)] x) (fun h v=>Ä (Ć [tI] h v) k)=yH x.1 x.2.1 x.2.2 k:=by kernel_rfl
def MA (x:Val (.pair tI (.pair tI (.pair ax (.pair (.ptr tI) (.pair aS (.ptr tI))))))) (k:Val Ĉ→Option ρ) :
    Ċ (B3 ρ) 151 (Ă [tI,tI,ax,(.ptr tI),aS,(.ptr tI)] x) (fun h v=>Ä (Ć [Ĉ] h v) k)=yG x.1 x.2.1 x.2.2.1 x.2.2.2.1 x.2.2.2.2.1 x.2.2.2.2.2 k:=by kernel_rfl
def Mz:(yE ρ).Ok (rj ρ):=⟨by kernel_rfl,fun p v kn kx=>by kernel_rfl⟩
def Tf (x:Val (.pair ax aI)) (k:(Val (.pair Ź tI))→Option ρ) :
    Ċ (rj ρ) 76 (Ă [ax,Ã,É] x) (fun h v=>Ä (Ć [Ź,tI] h v) k)=I6 x.1 x.2.1 x.2.2 k:=by kernel_rfl
def I7 (x:Val Ĉ) (k:(Val ae)→Option ρ) :
    Ċ (yI ρ) 82 (Ă [Ĉ] x) (fun h v=>Ä (Ć [ae] h v) k)=vk x k:=by kernel_rfl
end Go.Proofs.ZzM
end
