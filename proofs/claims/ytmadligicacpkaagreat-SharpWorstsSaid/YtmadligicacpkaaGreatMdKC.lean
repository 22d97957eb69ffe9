/- lemmas -/
import Derived.Test.YtmadligicacpkaaGreatMdMA
set_option linter.all false
set_option linter.unusedSectionVars false
set_option linter.unusedVariables false
set_option linter.unusedSimpArgs false
noncomputable section
variable {ρ:Type}
set_option maxRecDepth 100000
namespace Go.Proofs.ZzM
open Go Go.Am
def Tz (x:Val Ê) (k:Bool→Option ρ) :
    ċ (LI ρ) 30 (ą [Ê] x) (fun h v=>Ã (Ċ [.bool] h v) k)=JE x k:=by kernel_rfl
def Tx:(FT ρ).Ok (JD ρ):=⟨by kernel_rfl,fun p v kn kx=>by kernel_rfl⟩
def abz (x:Val Å) (k:Bool→Option ρ) :
    ċ (JD ρ) 10 (ą [Å] x) (fun h v=>Ã (Ċ [.bool] h v) k)=XG x k:=by kernel_rfl
def lE:(ii ρ).Ok (ů ρ):=⟨by kernel_rfl,fun p v kn kx=>by kernel_rfl⟩
def mJ (x:Val aV) (k:Int→Option ρ) :
    ċ (ů ρ) 136 (ą [aa,Ä] x) (fun h v=>Ã (Ċ [tI] h v) k)=Ε x.1 x.2 k:=by kernel_rfl
def Zp (x:Val aE) (k:Val Ä→Option ρ) :
    ċ (RM ρ) 67 (ą [Å,Ä] x) (fun h v=>Ã (Ċ [tI,tI] h v) k)=RN x.1 x.2 k:=by kernel_rfl
def QE (x:Val aR) (k:Int→Option ρ) :
    ċ (Gv ρ) 50 (ą [au,Ä] x) (fun h v=>Ã (Ċ [tI] h v) k)=Em x.1 x.2 k:=by kernel_rfl
def Hn:(uN ρ).Ok (χ ρ):=⟨by kernel_rfl,fun p v kn kx=>by kernel_rfl⟩
def Hm:(uL ρ).Ok (χ ρ):=⟨by kernel_rfl,fun p v kn kx=>by kernel_rfl⟩
def Hk:(uH ρ).Ok (χ ρ):=⟨by kernel_rfl,fun p v kn kx=>by kernel_rfl⟩
def Hl:(uJ ρ).Ok (χ ρ):=⟨by kernel_rfl,fun p v kn kx=>by kernel_rfl⟩
def Hj:(uG ρ).Ok (χ ρ):=⟨by kernel_rfl,fun p v kn kx=>by kernel_rfl⟩
def NP (x:Val (.pair Ñ ak)) (k:(Val (.pair ae .bool))→Option ρ) :
    ċ (χ ρ) 117 (ą [Ñ,ak] x) (fun h v=>Ã (Ċ [ae,.bool] h v) k)=zJ x.1 x.2 k:=by kernel_rfl
def acl (x:Val (.pair Ñ tI)) (k:Bool→Option ρ) :
    ċ (VY ρ) 139 (ą [Ñ,tI] x) (fun h v=>Ã (Ċ [.bool] h v) k)=YM x.1 x.2 k:=by kernel_rfl
def Q8:(De ρ).Ok (EA ρ):=⟨by kernel_rfl,fun p v kn kx=>by kernel_rfl⟩
def YR (x:Val Ñ) (k:Val Ä→Option ρ) :
    ċ (EA ρ) 138 (ą [Ñ] x) (fun h v=>Ã (Ċ [tI,tI] h v) k)=Q9 x k:=by kernel_rfl
def Q0:(C3 ρ).Ok (Ez ρ):=⟨by kernel_rfl,fun p v kn kx=>by kernel_rfl⟩
def YP (x:Val bh) (k:Int→Option ρ) :
    ċ (Ez ρ) 112 (ą [Ñ,ae] x) (fun h v=>Ã (Ċ [tI] h v) k)=Q1 x.1 x.2 k:=by kernel_rfl
def NV:(zT ρ).Ok (jA ρ):=⟨by kernel_rfl,fun p v kn kx=>by kernel_rfl⟩
def NU:(zR ρ).Ok (jA ρ):=⟨by kernel_rfl,fun p v kn kx=>by kernel_rfl⟩
def NT:(zP ρ).Ok (jA ρ):=⟨by kernel_rfl,fun p v kn kx=>by kernel_rfl⟩
def NR:(zL ρ).Ok (jA ρ):=⟨by kernel_rfl,fun p v kn kx=>by kernel_rfl⟩
def NS:(zN ρ).Ok (jA ρ):=⟨by kernel_rfl,fun p v kn kx=>by kernel_rfl⟩
def UC (x:Val (.pair Ñ (.pair ak tI))) (k:(Val ae)→Option ρ) :
    ċ (jA ρ) 120 (ą [Ñ,ak,tI] x) (fun h v=>Ã (Ċ [ae] h v) k)=Ko x.1 x.2.1 x.2.2 k:=by kernel_rfl
def YT (x:Val aX) (k:Val Ä→Option ρ) :
    ċ (Rf ρ) 114 (ą [Ñ,tI,tI] x) (fun h v=>Ã (Ċ [tI,tI] h v) k)=Rg x.1 x.2.1 x.2.2 k:=by kernel_rfl
def Gu (x:Val aR) (k:Int→Option ρ) :
    ċ (xA ρ) 51 (ą [au,tI,tI] x) (fun h v=>Ã (Ċ [tI] h v) k)=s7 x.1 x.2.1 x.2.2 k:=by kernel_rfl
def Gt (x:Val aR) (k:Int→Option ρ) :
    ċ (xz ρ) 64 (ą [au,Ä] x) (fun h v=>Ã (Ċ [tI] h v) k)=sZ x.1 x.2 k:=by kernel_rfl
def zr (x:Val aR) (k:Int→Option ρ) :
    ċ (qB ρ) 65 (ą [au,Ä] x) (fun h v=>Ã (Ċ [tI] h v) k)=mS x.1 x.2 k:=by kernel_rfl
def zq (x:Val aR) (k:Val Ä→Option ρ) :
    ċ (kM ρ) 48 (ą [au,Ä] x) (fun h v=>Ã (Ċ [Ä] h v) k)=mR x.1 x.2 k:=by kernel_rfl
def NZ (x:Val (.pair aU aI)) (k:Int→Option ρ) :
    ċ (Dr ρ) 198 (ą [aU,ae,tI] x) (fun h v=>Ã (Ċ [tI] h v) k)=Aa x.1 x.2.1 x.2.2 k:=by kernel_rfl
def B0 (x:Val (.pair aq ae)) (k:Val Ä→Option ρ) :
    ċ (su ρ) 263 (ą [aq,ae] x) (fun h v=>Ã (Ċ [Ä] h v) k)=oN x.1 x.2 k:=by kernel_rfl
def Rh:(Dl ρ).Ok (EB ρ):=⟨by kernel_rfl,fun p v kn kx=>by kernel_rfl⟩
def YU (x:Val aa) (k:Int→Option ρ) :
    ċ (EB ρ) 266 (ą [aa] x) (fun h v=>Ã (Ċ [tI] h v) k)=Ri x k:=by kernel_rfl
def Rj (x:Val Ä) (k:Val Ļ→Option ρ) :
    ċ (Hz ρ) 294 (ą [tI,tI] x) (fun h v=>Ã (Ċ [Ä,tI] h v) k)=EC x.1 x.2 k:=by kernel_rfl
def afk (x:Val í) (k:Val Ļ→Option ρ) :
    ċ (acy ρ) 283 (ą [Ä,Ä] x) (fun h v=>Ã (Ċ [Ä,tI] h v) k)=afl x.1 x.2 k:=by kernel_rfl
def Ky (x:Val í) (k:Val Ä→Option ρ) :
    ċ (zY ρ) 264 (ą [Ä,Ä] x) (fun h v=>Ã (Ċ [Ä] h v) k)=wy x.1 x.2 k:=by kernel_rfl
def afi (x:Val í) (k:Int→Option ρ) :
    ċ (acw ρ) 300 (ą [Ä,Ä] x) (fun h v=>Ã (Ċ [tI] h v) k)=afj x.1 x.2 k:=by kernel_rfl
def HD (x:Val í) (k:Bool→Option ρ) :
    ċ (xQ ρ) 295 (ą [í] x) (fun h v=>Ã (Ċ [.bool] h v) k)=tp x k:=by kernel_rfl
def afm (x:Val í) (k:Val Ļ→Option ρ) :
    ċ (acA ρ) 298 (ą [Ä,Ä] x) (fun h v=>Ã (Ċ [Ä,tI] h v) k)=afn x.1 x.2 k:=by kernel_rfl
def YZ (x:Val (.pair í Ä)) (k:Val tN→Option ρ) :
    ċ (ED ρ) 284 (ą [í,Ä] x) (fun h v=>Ã (Ċ [í,tI] h v) k)=Rr x.1 x.2 k:=by kernel_rfl
def Kx (x:Val í) (k:Val í→Option ρ) :
    ċ (zX ρ) 265 (ą [Ä,Ä] x) (fun h v=>Ã (Ċ [í] h v) k)=wx x.1 x.2 k:=by kernel_rfl
def UW (x:Val aB) (k:Val í→Option ρ) :
    ċ (MB ρ) 238 (ą [Å,Ê] x) (fun h v=>Ã (Ċ [í] h v) k)=KB x.1 x.2 k:=by kernel_rfl
def Zg (x:Val aB) (k:Val Ä→Option ρ) :
    ċ (RJ ρ) 239 (ą [Å,Ê] x) (fun h v=>Ã (Ċ [Ä] h v) k)=RK x.1 x.2 k:=by kernel_rfl
def YX (x:Val Ä) (k:Int→Option ρ) :
    ċ (Rm ρ) 267 (ą [tI,tI] x) (fun h v=>Ã (Ċ [tI] h v) k)=HB x.1 x.2 k:=by kernel_rfl
def acC (x:Val Ä) (k:Val Ä→Option ρ) :
    ċ (V7 ρ) 240 (ą [Ä] x) (fun h v=>Ã (Ċ [tI,tI] h v) k)=Y1 x k:=by kernel_rfl
def Y0 (x:Val Ä) (k:Val Ä→Option ρ) :
    ċ (Rt ρ) 241 (ą [Ä] x) (fun h v=>Ã (Ċ [tI,tI] h v) k)=Ru x k:=by kernel_rfl
def acF (x:Val aB) (k:Val Ä→Option ρ) :
    ċ (V8 ρ) 203 (ą [Å,Ê] x) (fun h v=>Ã (Ċ [Ä] h v) k)=Y5 x.1 x.2 k:=by kernel_rfl
def UQ:(HT ρ).Ok (Bc ρ):=⟨by kernel_rfl,fun p v kn kx=>by kernel_rfl⟩
def UP:(HQ ρ).Ok (Bc ρ):=⟨by kernel_rfl,fun p v kn kx=>by kernel_rfl⟩
def acI (x:Val (.pair Å (.pair Ó Ä))) (k:Int→Option ρ) :
    ċ (Bc ρ) 235 (ą [Å,Ó,tI,tI] x) (fun h v=>Ã (Ċ [tI] h v) k)=Y8 x.1 x.2.1 x.2.2.1 x.2.2.2 k:=by kernel_rfl
def UN:(HM ρ).Ok (uR ρ):=⟨by kernel_rfl,fun p v kn kx=>by kernel_rfl⟩
def UO:(HO ρ).Ok (uR ρ):=⟨by kernel_rfl,fun p v kn kx=>by kernel_rfl⟩
def UM:(HK ρ).Ok (uR ρ):=⟨by kernel_rfl,fun p v kn kx=>by kernel_rfl⟩
def acH (x:Val Å) (k:(Val aU)→Option ρ) :
    ċ (uR ρ) 137 (ą [Å] x) (fun h v=>Ã (Ċ [aU] h v) k)=Y7 x k:=by kernel_rfl
def U1 (x:Val Å) (k:(Val (.pair Ñ (.pair aa tI)))→Option ρ) :
    ċ (MF ρ) 68 (ą [Å] x) (fun h v=>Ã (Ċ [Ñ,aa,tI] h v) k)=KG x k:=by kernel_rfl
def U3:(Ic ρ).Ok (KH ρ):=⟨by kernel_rfl,fun p v kn kx=>by kernel_rfl⟩
def acQ (x:Val aE) (k:(Val aH)→Option ρ) :
    ċ (KH ρ) 110 (ą [Å,Ä] x) (fun h v=>Ã (Ċ [Å,tI] h v) k)=Zo x.1 x.2 k:=by kernel_rfl
def Hr (x:Val Ñ) (k:(Val aW)→Option ρ) :
    ċ (xN ρ) 111 (ą [Ñ] x) (fun h v=>Ã (Ċ [.bool,tI] h v) k)=tj x k:=by kernel_rfl
def G7:(uB ρ).Ok (ta ρ):=⟨by kernel_rfl,fun p v kn kx=>by kernel_rfl⟩
def NL (x:Val aE) (k:Val Ļ→Option ρ) :
    ċ (ta ρ) 12 (ą [Å,Ä] x) (fun h v=>Ã (Ċ [Ä,tI] h v) k)=zE x.1 x.2 k:=by kernel_rfl
def Kj:(xJ ρ).Ok (wj ρ):=⟨by kernel_rfl,fun p v kn kx=>by kernel_rfl⟩
def QW (x:Val (.pair Å í)) (k:Val Ļ→Option ρ) :
    ċ (wj ρ) 14 (ą [Å,Ä,Ä] x) (fun h v=>Ã (Ċ [Ä,tI] h v) k)=Ew x.1 x.2.1 x.2.2 k:=by kernel_rfl
def QC (x:Val í) (k:Int→Option ρ) :
    ċ (Gs ρ) 57 (ą [Ä,Ä] x) (fun h v=>Ã (Ċ [tI] h v) k)=Ek x.1 x.2 k:=by kernel_rfl
def QQ:(C0 ρ).Ok (Et ρ):=⟨by kernel_rfl,fun p v kn kx=>by kernel_rfl⟩
def YH (x:Val (.pair Å í)) (k:Val Ä→Option ρ) :
    ċ (Et ρ) 21 (ą [Å,Ä,Ä] x) (fun h v=>Ã (Ċ [tI,tI] h v) k)=QR x.1 x.2.1 x.2.2 k:=by kernel_rfl
def afe:(V4 ρ).Ok (Kn ρ):=⟨by kernel_rfl,fun p v kn kx=>by kernel_rfl⟩
def afc:(V1 ρ).Ok (Kn ρ):=⟨by kernel_rfl,fun p v kn kx=>by kernel_rfl⟩
def afb:(VZ ρ).Ok (Kn ρ):=⟨by kernel_rfl,fun p v kn kx=>by kernel_rfl⟩
def afd:(V3 ρ).Ok (Kn ρ):=⟨by kernel_rfl,fun p v kn kx=>by kernel_rfl⟩
def akD (x:Val aX) (k:(Val am)→Option ρ) :
    ċ (Kn ρ) 122 (ą [Ñ,tI,tI] x) (fun h v=>Ã (Ċ [am] h v) k)=QZ x.1 x.2.1 x.2.2 k:=by kernel_rfl
def Rc:(Dj ρ).Ok (qH ρ):=⟨by kernel_rfl,fun p v kn kx=>by kernel_rfl⟩
def Ra:(Df ρ).Ok (qH ρ):=⟨by kernel_rfl,fun p v kn kx=>by kernel_rfl⟩
def Rb:(Dh ρ).Ok (qH ρ):=⟨by kernel_rfl,fun p v kn kx=>by kernel_rfl⟩
def YS (x:Val aX) (k:(Val aI)→Option ρ) :
    ċ (qH ρ) 61 (ą [Ñ,tI,tI] x) (fun h v=>Ã (Ċ [ae,tI] h v) k)=Re x.1 x.2.1 x.2.2 k:=by kernel_rfl
def Ki (x:Val (.pair au (.pair aT (.ptr .bool)))) (k:(Val ae)→Option ρ) :
    ċ (zH ρ) 60 (ą [au,aT,(.ptr .bool)] x) (fun h v=>Ã (Ċ [ae] h v) k)=wh x.1 x.2.1 x.2.2 k:=by kernel_rfl
def J2:(xy ρ).Ok (vU ρ):=⟨by kernel_rfl,fun p v kn kx=>by kernel_rfl⟩
def QD (x:Val (.pair Å ae)) (k:(Val aa)→Option ρ) :
    ċ (vU ρ) 63 (ą [Å,ae] x) (fun h v=>Ã (Ċ [aa] h v) k)=El x.1 x.2 k:=by kernel_rfl
def Kh:(xH ρ).Ok (lV ρ):=⟨by kernel_rfl,fun p v kn kx=>by kernel_rfl⟩
def Kg:(xF ρ).Ok (lV ρ):=⟨by kernel_rfl,fun p v kn kx=>by kernel_rfl⟩
def QV (x:Val (.pair Å (.pair Ä .bool))) (k:(Val (.pair hZ tI))→Option ρ) :
    ċ (lV ρ) 24 (ą [Å,Ä,.bool] x) (fun h v=>Ã (Ċ [hZ,tI] h v) k)=Eu x.1 x.2.1 x.2.2 k:=by kernel_rfl
def Km:(xM ρ).Ok (wo ρ):=⟨by kernel_rfl,fun p v kn kx=>by kernel_rfl⟩
def QY (x:Val bh) (k:Int→Option ρ) :
    ċ (wo ρ) 140 (ą [Ñ,ae] x) (fun h v=>Ã (Ċ [tI] h v) k)=Ey x.1 x.2 k:=by kernel_rfl
def UA:(Hg ρ).Ok (Kk ρ):=⟨by kernel_rfl,fun p v kn kx=>by kernel_rfl⟩
def ack (x:Val (.pair Ñ ar)) (k:(Val (.pair tI (.pair tI .bool)))→Option ρ) :
    ċ (Kk ρ) 141 (ą [Ñ,tI,ae] x) (fun h v=>Ã (Ċ [tI,tI,.bool] h v) k)=YL x.1 x.2.1 x.2.2 k:=by kernel_rfl
def Hv (x:Val (.pair Ñ aK)) (k:Val Ä→Option ρ) :
    ċ (xP ρ) 69 (ą [Ñ,tI,tI,ae] x) (fun h v=>Ã (Ċ [tI,tI] h v) k)=tm x.1 x.2.1 x.2.2.1 x.2.2.2 k:=by kernel_rfl
def Kf (x:Val hZ) (k:Int→Option ρ) :
    ċ (zF ρ) 25 (ą [hZ] x) (fun h v=>Ã (Ċ [tI] h v) k)=wg x k:=by kernel_rfl
def U0:(H9 ρ).Ok (KE ρ):=⟨by kernel_rfl,fun p v kn kx=>by kernel_rfl⟩
def acO (x:Val aB) (k:(Val aH)→Option ρ) :
    ċ (KE ρ) 147 (ą [Å,Ê] x) (fun h v=>Ã (Ċ [Å,tI] h v) k)=Zl x.1 x.2 k:=by kernel_rfl
def Y4 (x:Val (.pair Å (.pair Ê Ä))) (k:Val Ļ→Option ρ) :
    ċ (Rx ρ) 200 (ą [Å,Ê,Ä] x) (fun h v=>Ã (Ċ [Ä,tI] h v) k)=Ry x.1 x.2.1 x.2.2 k:=by kernel_rfl
def RL (x:Val aB) (k:Val Ļ→Option ρ) :
    ċ (Ib ρ) 146 (ą [Å,Ê] x) (fun h v=>Ã (Ċ [Ä,tI] h v) k)=EM x.1 x.2 k:=by kernel_rfl
def Y3 (x:Val aH) (k:(Val (.pair Ê tI))→Option ρ) :
    ċ (Rv ρ) 202 (ą [Å,tI] x) (fun h v=>Ã (Ċ [Ê,tI] h v) k)=Rw x.1 x.2 k:=by kernel_rfl
def acP (x:Val aH) (k:Val Ļ→Option ρ) :
    ċ (V9 ρ) 148 (ą [Å,tI] x) (fun h v=>Ã (Ċ [Ä,tI] h v) k)=Zn x.1 x.2 k:=by kernel_rfl
def U4 (x:Val aZ) (k:(Val (.pair ae aI))→Option ρ) :
    ċ (MI ρ) 149 (ą [ae,ae] x) (fun h v=>Ã (Ċ [ae,ae,tI] h v) k)=KI x.1 x.2 k:=by kernel_rfl
def NH (x:Val (.pair ae (.pair au (.ptr Ê)))) (k:Int→Option ρ) :
    ċ (CU ρ) 150 (ą [ae,au,(.ptr Ê)] x) (fun h v=>Ã (Ċ [tI] h v) k)=zy x.1 x.2.1 x.2.2 k:=by kernel_rfl
def NG (x:Val (.pair tI (.pair tI (.pair au (.pair (.ptr tI) (.pair aT (.ptr tI))))))) (k:Val ú→Option ρ) :
    ċ (CT ρ) 151 (ą [tI,tI,au,(.ptr tI),aT,(.ptr tI)] x) (fun h v=>Ã (Ċ [ú] h v) k)=zx x.1 x.2.1 x.2.2.1 x.2.2.2.1 x.2.2.2.2.1 x.2.2.2.2.2 k:=by kernel_rfl
def NF:(zu ρ).Ok (rZ ρ):=⟨by kernel_rfl,fun p v kn kx=>by kernel_rfl⟩
def Un (x:Val (.pair au aJ)) (k:(Val (.pair Β tI))→Option ρ) :
    ċ (rZ ρ) 76 (ą [au,Ä,Ê] x) (fun h v=>Ã (Ċ [Β,tI] h v) k)=J5 x.1 x.2.1 x.2.2 k:=by kernel_rfl
def J6 (x:Val ú) (k:(Val ae)→Option ρ) :
    ċ (zz ρ) 82 (ą [ú] x) (fun h v=>Ã (Ċ [ae] h v) k)=vX x k:=by kernel_rfl
end Go.Proofs.ZzM
end
