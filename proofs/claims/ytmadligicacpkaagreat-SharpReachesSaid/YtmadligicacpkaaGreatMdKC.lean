/- lemmas -/
import Derived.Test.YtmadligicacpkaaGreatMdMA
set_option linter.all false
set_option linter.unusedSectionVars false
set_option linter.unusedVariables false
set_option linter.unusedSimpArgs false
noncomputable section
variable {ρ:Type}
set_option maxRecDepth 100000
namespace Go.Proofs.ZzM
open Go Go.Am
def Q8 (x:Val Ì) (k:Bool→Option ρ) :
    Ĉ (JN ρ) 30 (ÿ [Ì] x) (fun h v=>Ã (ą [.bool] h v) k)=HM x k:=by kernel_rfl
def Q7:(Eb ρ).Ok (HL ρ):=⟨by kernel_rfl,fun p v kn kx=>by kernel_rfl⟩
def Zl (x:Val Ä) (k:Bool→Option ρ) :
    Ĉ (HL ρ) 10 (ÿ [Ä] x) (fun h v=>Ã (ą [.bool] h v) k)=Vm x k:=by kernel_rfl
def km:(ι ρ).Ok (Š ρ):=⟨by kernel_rfl,fun p v kn kx=>by kernel_rfl⟩
def lK (x:Val aY) (k:Int→Option ρ) :
    Ĉ (Š ρ) 136 (ÿ [aa,Â] x) (fun h v=>Ã (ą [tI] h v) k)=ű x.1 x.2 k:=by kernel_rfl
def W9 (x:Val aD) (k:Val Â→Option ρ) :
    Ĉ (PP ρ) 67 (ÿ [Ä,Â] x) (fun h v=>Ã (ą [tI,tI] h v) k)=PQ x.1 x.2 k:=by kernel_rfl
def OA (x:Val aR) (k:Int→Option ρ) :
    Ĉ (EK ρ) 50 (ÿ [ax,Â] x) (fun h v=>Ã (ą [tI] h v) k)=CO x.1 x.2 k:=by kernel_rfl
def FB:(sN ρ).Ok (Υ ρ):=⟨by kernel_rfl,fun p v kn kx=>by kernel_rfl⟩
def FA:(sL ρ).Ok (Υ ρ):=⟨by kernel_rfl,fun p v kn kx=>by kernel_rfl⟩
def Fy:(sH ρ).Ok (Υ ρ):=⟨by kernel_rfl,fun p v kn kx=>by kernel_rfl⟩
def Fz:(sJ ρ).Ok (Υ ρ):=⟨by kernel_rfl,fun p v kn kx=>by kernel_rfl⟩
def Fx:(sG ρ).Ok (Υ ρ):=⟨by kernel_rfl,fun p v kn kx=>by kernel_rfl⟩
def LN (x:Val (.pair Í ak)) (k:(Val (.pair ae .bool))→Option ρ) :
    Ĉ (Υ ρ) 117 (ÿ [Í,ak] x) (fun h v=>Ã (ą [ae,.bool] h v) k)=ye x.1 x.2 k:=by kernel_rfl
def Z2 (x:Val (.pair Í tI)) (k:Bool→Option ρ) :
    Ĉ (TS ρ) 139 (ÿ [Í,tI] x) (fun h v=>Ã (ą [.bool] h v) k)=Wr x.1 x.2 k:=by kernel_rfl
def Pa:(BD ρ).Ok (C1 ρ):=⟨by kernel_rfl,fun p v kn kx=>by kernel_rfl⟩
def Wx (x:Val Í) (k:Val Â→Option ρ) :
    Ĉ (C1 ρ) 138 (ÿ [Í] x) (fun h v=>Ã (ą [tI,tI] h v) k)=Pb x k:=by kernel_rfl
def O0:(Bt ρ).Ok (C0 ρ):=⟨by kernel_rfl,fun p v kn kx=>by kernel_rfl⟩
def Wu (x:Val aV) (k:Int→Option ρ) :
    Ĉ (C0 ρ) 112 (ÿ [Í,ae] x) (fun h v=>Ã (ą [tI] h v) k)=O1 x.1 x.2 k:=by kernel_rfl
def LU:(yo ρ).Ok (iQ ρ):=⟨by kernel_rfl,fun p v kn kx=>by kernel_rfl⟩
def LS:(ym ρ).Ok (iQ ρ):=⟨by kernel_rfl,fun p v kn kx=>by kernel_rfl⟩
def LR:(yk ρ).Ok (iQ ρ):=⟨by kernel_rfl,fun p v kn kx=>by kernel_rfl⟩
def LP:(yg ρ).Ok (iQ ρ):=⟨by kernel_rfl,fun p v kn kx=>by kernel_rfl⟩
def LQ:(yi ρ).Ok (iQ ρ):=⟨by kernel_rfl,fun p v kn kx=>by kernel_rfl⟩
def Si (x:Val (.pair Í (.pair ak tI))) (k:(Val ae)→Option ρ) :
    Ĉ (iQ ρ) 120 (ÿ [Í,ak,tI] x) (fun h v=>Ã (ą [ae] h v) k)=IE x.1 x.2.1 x.2.2 k:=by kernel_rfl
def Wz (x:Val aP) (k:Val Â→Option ρ) :
    Ĉ (Pg ρ) 114 (ÿ [Í,tI,tI] x) (fun h v=>Ã (ą [tI,tI] h v) k)=Ph x.1 x.2.1 x.2.2 k:=by kernel_rfl
def EJ (x:Val aR) (k:Int→Option ρ) :
    Ĉ (vR ρ) 51 (ÿ [ax,tI,tI] x) (fun h v=>Ã (ą [tI] h v) k)=rc x.1 x.2.1 x.2.2 k:=by kernel_rfl
def EI (x:Val aR) (k:Int→Option ρ) :
    Ĉ (vQ ρ) 64 (ÿ [ax,Â] x) (fun h v=>Ã (ą [tI] h v) k)=qZ x.1 x.2 k:=by kernel_rfl
def xN (x:Val aR) (k:Int→Option ρ) :
    Ĉ (oX ρ) 65 (ÿ [ax,Â] x) (fun h v=>Ã (ą [tI] h v) k)=lP x.1 x.2 k:=by kernel_rfl
def xM (x:Val aR) (k:Val Â→Option ρ) :
    Ĉ (jQ ρ) 48 (ÿ [ax,Â] x) (fun h v=>Ã (ą [Â] h v) k)=lO x.1 x.2 k:=by kernel_rfl
def LY (x:Val (.pair aU aE)) (k:Int→Option ρ) :
    Ĉ (BQ ρ) 198 (ÿ [aU,ae,tI] x) (fun h v=>Ã (ą [tI] h v) k)=yx x.1 x.2.1 x.2.2 k:=by kernel_rfl
def Ar (x:Val (.pair aq ae)) (k:Val Â→Option ρ) :
    Ĉ (qE ρ) 263 (ÿ [aq,ae] x) (fun h v=>Ã (ą [Â] h v) k)=nl x.1 x.2 k:=by kernel_rfl
def Pj:(BL ρ).Ok (C2 ρ):=⟨by kernel_rfl,fun p v kn kx=>by kernel_rfl⟩
def WA (x:Val aa) (k:Int→Option ρ) :
    Ĉ (C2 ρ) 266 (ÿ [aa] x) (fun h v=>Ã (ą [tI] h v) k)=Pk x k:=by kernel_rfl
def Pl (x:Val Â) (k:Val Ķ→Option ρ) :
    Ĉ (FO ρ) 294 (ÿ [tI,tI] x) (fun h v=>Ã (ą [Â,tI] h v) k)=C3 x.1 x.2 k:=by kernel_rfl
def acT (x:Val ã) (k:Val Ķ→Option ρ) :
    Ĉ (aag ρ) 283 (ÿ [Â,Â] x) (fun h v=>Ã (ą [Â,tI] h v) k)=acU x.1 x.2 k:=by kernel_rfl
def IP (x:Val ã) (k:Val Â→Option ρ) :
    Ĉ (yv ρ) 264 (ÿ [Â,Â] x) (fun h v=>Ã (ą [Â] h v) k)=uI x.1 x.2 k:=by kernel_rfl
def acR (x:Val ã) (k:Int→Option ρ) :
    Ĉ (aae ρ) 300 (ÿ [Â,Â] x) (fun h v=>Ã (ą [tI] h v) k)=acS x.1 x.2 k:=by kernel_rfl
def FS (x:Val ã) (k:Bool→Option ρ) :
    Ĉ (wn ρ) 295 (ÿ [ã] x) (fun h v=>Ã (ą [.bool] h v) k)=rt x k:=by kernel_rfl
def acV (x:Val ã) (k:Val Ķ→Option ρ) :
    Ĉ (aai ρ) 298 (ÿ [Â,Â] x) (fun h v=>Ã (ą [Â,tI] h v) k)=acW x.1 x.2 k:=by kernel_rfl
def WF (x:Val (.pair ã Â)) (k:Val rL→Option ρ) :
    Ĉ (C4 ρ) 284 (ÿ [ã,Â] x) (fun h v=>Ã (ą [ã,tI] h v) k)=Pu x.1 x.2 k:=by kernel_rfl
def IM (x:Val ã) (k:Val ã→Option ρ) :
    Ĉ (yu ρ) 265 (ÿ [Â,Â] x) (fun h v=>Ã (ą [ã] h v) k)=uH x.1 x.2 k:=by kernel_rfl
def SG (x:Val aB) (k:Val ã→Option ρ) :
    Ĉ (Kz ρ) 238 (ÿ [Ä,Ì] x) (fun h v=>Ã (ą [ã] h v) k)=IT x.1 x.2 k:=by kernel_rfl
def WX (x:Val aB) (k:Val Â→Option ρ) :
    Ĉ (PM ρ) 239 (ÿ [Ä,Ì] x) (fun h v=>Ã (ą [Â] h v) k)=PN x.1 x.2 k:=by kernel_rfl
def WD (x:Val Â) (k:Int→Option ρ) :
    Ĉ (Po ρ) 267 (ÿ [tI,tI] x) (fun h v=>Ã (ą [tI] h v) k)=FQ x.1 x.2 k:=by kernel_rfl
def aak (x:Val Â) (k:Val Â→Option ρ) :
    Ĉ (T1 ρ) 240 (ÿ [Â] x) (fun h v=>Ã (ą [tI,tI] h v) k)=WH x k:=by kernel_rfl
def WG (x:Val Â) (k:Val Â→Option ρ) :
    Ĉ (Pw ρ) 241 (ÿ [Â] x) (fun h v=>Ã (ą [tI,tI] h v) k)=Px x k:=by kernel_rfl
def aan (x:Val aB) (k:Val Â→Option ρ) :
    Ĉ (T2 ρ) 203 (ÿ [Ä,Ì] x) (fun h v=>Ã (ą [Â] h v) k)=WM x.1 x.2 k:=by kernel_rfl
def SA:(F7 ρ).Ok (zA ρ):=⟨by kernel_rfl,fun p v kn kx=>by kernel_rfl⟩
def Sz:(F5 ρ).Ok (zA ρ):=⟨by kernel_rfl,fun p v kn kx=>by kernel_rfl⟩
def aaq (x:Val (.pair Ä (.pair Ð Â))) (k:Int→Option ρ) :
    Ĉ (zA ρ) 235 (ÿ [Ä,Ð,tI,tI] x) (fun h v=>Ã (ą [tI] h v) k)=WP x.1 x.2.1 x.2.2.1 x.2.2.2 k:=by kernel_rfl
def Sx:(F1 ρ).Ok (sR ρ):=⟨by kernel_rfl,fun p v kn kx=>by kernel_rfl⟩
def Sy:(F3 ρ).Ok (sR ρ):=⟨by kernel_rfl,fun p v kn kx=>by kernel_rfl⟩
def Sw:(FZ ρ).Ok (sR ρ):=⟨by kernel_rfl,fun p v kn kx=>by kernel_rfl⟩
def aap (x:Val Ä) (k:(Val aU)→Option ρ) :
    Ĉ (sR ρ) 137 (ÿ [Ä] x) (fun h v=>Ã (ą [aU] h v) k)=WO x k:=by kernel_rfl
def SL (x:Val Ä) (k:(Val (.pair Í (.pair aa tI)))→Option ρ) :
    Ĉ (KD ρ) 68 (ÿ [Ä] x) (fun h v=>Ã (ą [Í,aa,tI] h v) k)=IX x k:=by kernel_rfl
def SN:(Gm ρ).Ok (IY ρ):=⟨by kernel_rfl,fun p v kn kx=>by kernel_rfl⟩
def aay (x:Val aD) (k:(Val aG)→Option ρ) :
    Ĉ (IY ρ) 110 (ÿ [Ä,Â] x) (fun h v=>Ã (ą [Ä,tI] h v) k)=W8 x.1 x.2 k:=by kernel_rfl
def FG (x:Val Í) (k:(Val aW)→Option ρ) :
    Ĉ (wi ρ) 111 (ÿ [Í] x) (fun h v=>Ã (ą [.bool,tI] h v) k)=ro x k:=by kernel_rfl
def Ft:(su ρ).Ok (rg ρ):=⟨by kernel_rfl,fun p v kn kx=>by kernel_rfl⟩
def LK (x:Val aD) (k:Val Ķ→Option ρ) :
    Ĉ (rg ρ) 12 (ÿ [Ä,Â] x) (fun h v=>Ã (ą [Â,tI] h v) k)=xY x.1 x.2 k:=by kernel_rfl
def Iy:(wd ρ).Ok (uz ρ):=⟨by kernel_rfl,fun p v kn kx=>by kernel_rfl⟩
def OW (x:Val (.pair Ä ã)) (k:Val Ķ→Option ρ) :
    Ĉ (uz ρ) 14 (ÿ [Ä,Â,Â] x) (fun h v=>Ã (ą [Â,tI] h v) k)=CY x.1 x.2.1 x.2.2 k:=by kernel_rfl
def Oy (x:Val ã) (k:Int→Option ρ) :
    Ĉ (EH ρ) 57 (ÿ [Â,Â] x) (fun h v=>Ã (ą [tI] h v) k)=CM x.1 x.2 k:=by kernel_rfl
def OO:(Bq ρ).Ok (CV ρ):=⟨by kernel_rfl,fun p v kn kx=>by kernel_rfl⟩
def Wn (x:Val (.pair Ä ã)) (k:Val Â→Option ρ) :
    Ĉ (CV ρ) 21 (ÿ [Ä,Â,Â] x) (fun h v=>Ã (ą [tI,tI] h v) k)=OP x.1 x.2.1 x.2.2 k:=by kernel_rfl
def acN:(TY ρ).Ok (IC ρ):=⟨by kernel_rfl,fun p v kn kx=>by kernel_rfl⟩
def acL:(TV ρ).Ok (IC ρ):=⟨by kernel_rfl,fun p v kn kx=>by kernel_rfl⟩
def acK:(TT ρ).Ok (IC ρ):=⟨by kernel_rfl,fun p v kn kx=>by kernel_rfl⟩
def acM:(TX ρ).Ok (IC ρ):=⟨by kernel_rfl,fun p v kn kx=>by kernel_rfl⟩
def aia (x:Val aP) (k:(Val am)→Option ρ) :
    Ĉ (IC ρ) 122 (ÿ [Í,tI,tI] x) (fun h v=>Ã (ą [am] h v) k)=OZ x.1 x.2.1 x.2.2 k:=by kernel_rfl
def Pe:(BJ ρ).Ok (pd ρ):=⟨by kernel_rfl,fun p v kn kx=>by kernel_rfl⟩
def Pc:(BF ρ).Ok (pd ρ):=⟨by kernel_rfl,fun p v kn kx=>by kernel_rfl⟩
def Pd:(BH ρ).Ok (pd ρ):=⟨by kernel_rfl,fun p v kn kx=>by kernel_rfl⟩
def Wy (x:Val aP) (k:(Val aE)→Option ρ) :
    Ĉ (pd ρ) 61 (ÿ [Í,tI,tI] x) (fun h v=>Ã (ą [ae,tI] h v) k)=Pf x.1 x.2.1 x.2.2 k:=by kernel_rfl
def Ix (x:Val (.pair ax (.pair aT (.ptr .bool)))) (k:(Val ae)→Option ρ) :
    Ĉ (yc ρ) 60 (ÿ [ax,aT,(.ptr .bool)] x) (fun h v=>Ã (ą [ae] h v) k)=uw x.1 x.2.1 x.2.2 k:=by kernel_rfl
def Ic:(vP ρ).Ok (t8 ρ):=⟨by kernel_rfl,fun p v kn kx=>by kernel_rfl⟩
def Oz (x:Val (.pair Ä ae)) (k:(Val aa)→Option ρ) :
    Ĉ (t8 ρ) 63 (ÿ [Ä,ae] x) (fun h v=>Ã (ą [aa] h v) k)=CN x.1 x.2 k:=by kernel_rfl
def Iw:(wa ρ).Ok (kJ ρ):=⟨by kernel_rfl,fun p v kn kx=>by kernel_rfl⟩
def Iv:(vY ρ).Ok (kJ ρ):=⟨by kernel_rfl,fun p v kn kx=>by kernel_rfl⟩
def OV (x:Val aM) (k:(Val (.pair ε tI))→Option ρ) :
    Ĉ (kJ ρ) 24 (ÿ [Ä,Â,.bool] x) (fun h v=>Ã (ą [ε,tI] h v) k)=CX x.1 x.2.1 x.2.2 k:=by kernel_rfl
def IB:(wh ρ).Ok (uB ρ):=⟨by kernel_rfl,fun p v kn kx=>by kernel_rfl⟩
def OY (x:Val aV) (k:Int→Option ρ) :
    Ĉ (uB ρ) 140 (ÿ [Í,ae] x) (fun h v=>Ã (ą [tI] h v) k)=CZ x.1 x.2 k:=by kernel_rfl
def Sg:(Fw ρ).Ok (Iz ρ):=⟨by kernel_rfl,fun p v kn kx=>by kernel_rfl⟩
def Z1 (x:Val (.pair Í ay)) (k:(Val (.pair tI (.pair tI .bool)))→Option ρ) :
    Ĉ (Iz ρ) 141 (ÿ [Í,tI,ae] x) (fun h v=>Ã (ą [tI,tI,.bool] h v) k)=Wq x.1 x.2.1 x.2.2 k:=by kernel_rfl
def FK (x:Val (.pair Í (.pair tI ay))) (k:Val Â→Option ρ) :
    Ĉ (wm ρ) 69 (ÿ [Í,tI,tI,ae] x) (fun h v=>Ã (ą [tI,tI] h v) k)=rr x.1 x.2.1 x.2.2.1 x.2.2.2 k:=by kernel_rfl
def Iu (x:Val ε) (k:Int→Option ρ) :
    Ĉ (ya ρ) 25 (ÿ [ε] x) (fun h v=>Ã (ą [tI] h v) k)=ut x k:=by kernel_rfl
def SK:(Gj ρ).Ok (IW ρ):=⟨by kernel_rfl,fun p v kn kx=>by kernel_rfl⟩
def aaw (x:Val aB) (k:(Val aG)→Option ρ) :
    Ĉ (IW ρ) 147 (ÿ [Ä,Ì] x) (fun h v=>Ã (ą [Ä,tI] h v) k)=W5 x.1 x.2 k:=by kernel_rfl
def WL (x:Val (.pair Ä (.pair Ì Â))) (k:Val Ķ→Option ρ) :
    Ĉ (PA ρ) 200 (ÿ [Ä,Ì,Â] x) (fun h v=>Ã (ą [Â,tI] h v) k)=PB x.1 x.2.1 x.2.2 k:=by kernel_rfl
def PO (x:Val aB) (k:Val Ķ→Option ρ) :
    Ĉ (Gl ρ) 146 (ÿ [Ä,Ì] x) (fun h v=>Ã (ą [Â,tI] h v) k)=De x.1 x.2 k:=by kernel_rfl
def WK (x:Val aG) (k:(Val (.pair Ì tI))→Option ρ) :
    Ĉ (Py ρ) 202 (ÿ [Ä,tI] x) (fun h v=>Ã (ą [Ì,tI] h v) k)=Pz x.1 x.2 k:=by kernel_rfl
def aax (x:Val aG) (k:Val Ķ→Option ρ) :
    Ĉ (T3 ρ) 148 (ÿ [Ä,tI] x) (fun h v=>Ã (ą [Â,tI] h v) k)=W7 x.1 x.2 k:=by kernel_rfl
def SO (x:Val ba) (k:(Val (.pair ae aE))→Option ρ) :
    Ĉ (KH ρ) 149 (ÿ [ae,ae] x) (fun h v=>Ã (ą [ae,ae,tI] h v) k)=IZ x.1 x.2 k:=by kernel_rfl
def LG (x:Val (.pair ae (.pair ax (.ptr Ì)))) (k:Int→Option ρ) :
    Ĉ (Bk ρ) 150 (ÿ [ae,ax,(.ptr Ì)] x) (fun h v=>Ã (ą [tI] h v) k)=xS x.1 x.2.1 x.2.2 k:=by kernel_rfl
def LF (x:Val (.pair tI (.pair tI (.pair ax (.pair (.ptr tI) (.pair aT (.ptr tI))))))) (k:Val Ą→Option ρ) :
    Ĉ (Bj ρ) 151 (ÿ [tI,tI,ax,(.ptr tI),aT,(.ptr tI)] x) (fun h v=>Ã (ą [Ą] h v) k)=xR x.1 x.2.1 x.2.2.1 x.2.2.2.1 x.2.2.2.2.1 x.2.2.2.2.2 k:=by kernel_rfl
def LD:(xP ρ).Ok (qn ρ):=⟨by kernel_rfl,fun p v kn kx=>by kernel_rfl⟩
def RU (x:Val (.pair ax aX)) (k:(Val (.pair Ŭ tI))→Option ρ) :
    Ĉ (qn ρ) 76 (ÿ [ax,Â,Ì] x) (fun h v=>Ã (ą [Ŭ,tI] h v) k)=Ig x.1 x.2.1 x.2.2 k:=by kernel_rfl
def Ih (x:Val Ą) (k:(Val ae)→Option ρ) :
    Ĉ (xT ρ) 82 (ÿ [Ą] x) (fun h v=>Ã (ą [ae] h v) k)=uf x k:=by kernel_rfl
end Go.Proofs.ZzM
end
