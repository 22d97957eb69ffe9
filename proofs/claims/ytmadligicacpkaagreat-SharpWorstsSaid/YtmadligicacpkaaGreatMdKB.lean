/- lemmas -/
import Derived.Test.YtmadligicacpkaaGreatMdMA
set_option linter.all false
set_option linter.unusedSectionVars false
set_option linter.unusedVariables false
set_option linter.unusedSimpArgs false
noncomputable section
variable {ρ:Type}
set_option maxRecDepth 100000
namespace Go.Proofs.ZzM
open Go Go.Am
def Uo (x:Val (.pair ú tI)) (k:Int→Option ρ) :
    ċ (L8 ρ) 154 (ą [ú,tI] x) (fun h v=>Ã (Ċ [tI] h v) k)=J8 x.1 x.2 k:=by kernel_rfl
def Gq (x:Val (.pair Β tI)) (k:Val Ä→Option ρ) :
    ċ (xx ρ) 86 (ą [Β,tI] x) (fun h v=>Ã (Ċ [Ä] h v) k)=sX x.1 x.2 k:=by kernel_rfl
def BV:(qy ρ).Ok (ky ρ):=⟨by kernel_rfl,fun p v kn kx=>by kernel_rfl⟩
def BW:(qA ρ).Ok (ky ρ):=⟨by kernel_rfl,fun p v kn kx=>by kernel_rfl⟩
def Gr (x:Val (.pair Β ae)) (k:(Val ae)→Option ρ) :
    ċ (ky ρ) 88 (ą [Β,ae] x) (fun h v=>Ã (Ċ [ae] h v) k)=sY x.1 x.2 k:=by kernel_rfl
def zn:(oW ρ).Ok (mQ ρ):=⟨by kernel_rfl,fun p v kn kx=>by kernel_rfl⟩
def Ei (x:Val Β) (k:Int→Option ρ) :
    ċ (mQ ρ) 77 (ą [Β] x) (fun h v=>Ã (Ċ [tI] h v) k)=qx x k:=by kernel_rfl
def QN:(CW ρ).Ok (Er ρ):=⟨by kernel_rfl,fun p v kn kx=>by kernel_rfl⟩
def YE (x:Val (.pair Å aJ)) (k:Val Ä→Option ρ) :
    ċ (Er ρ) 31 (ą [Å,Ä,Ê] x) (fun h v=>Ã (Ċ [tI,tI] h v) k)=QO x.1 x.2.1 x.2.2 k:=by kernel_rfl
def Kd (x:Val tI) (k:Int→Option ρ) :
    ċ (zC ρ) 83 (ą [tI] x) (fun h v=>Ã (Ċ [tI] h v) k)=wc x k:=by kernel_rfl
def J7 (x:Val (.pair ú tI)) (k:(Val ae)→Option ρ) :
    ċ (zA ρ) 84 (ą [ú,tI] x) (fun h v=>Ã (Ċ [ae] h v) k)=vY x.1 x.2 k:=by kernel_rfl
def G0:(((sR (Ę ρ).P 47).elim [] (ö 0)).filter fun y=>Nat.beq y.1 0).length=1:=by kernel_rfl
def G1 (p:Val ax) (v:Val aD) (kn:Val ax→Val aD→Option ρ) (kx:(i:Nat)→Val ax→Val (tyL (Ω.zs i))→Option ρ) :
    goC (Ę ρ) (kr (Ę ρ) (10-2 / 2)) 47 [1,3] 5 0 (MJ (sR (Ę ρ).P 47) 0) (jq Ω.head Ω.cs Ω.vs p v) (aav Ω kn kx)=(oM ρ).bF p v (kn p) (fun i=>kx i p):=by kernel_rfl
def Kc:(oM ρ).Ok (Ę ρ):=⟨G0,G1⟩
def GY:(((sR (Ę ρ).P 155).elim [] (ö 0)).filter fun y=>Nat.beq y.1 0).length=1:=by kernel_rfl
def GZ (p:Val ao) (v:Val tI) (kn:Val ao→Val tI→Option ρ) (kx:(i:Nat)→Val ao→Val (tyL (Ψ.zs i))→Option ρ) :
    goC (Ę ρ) (kr (Ę ρ) (10-4 / 2)) 155 [18,4,1,2] 12 0 (MJ (sR (Ę ρ).P 155) 0) (jq Ψ.head Ψ.cs Ψ.vs p v) (aav Ψ kn kx)=(oL ρ).bF p v (kn p) (fun i=>kx i p):=by kernel_rfl
def Kb:(oL ρ).Ok (Ę ρ):=⟨GY,GZ⟩
def QP (x:Val (.pair Å (.pair Ä aJ))) (k:(Val aW)→Option ρ) :
    ċ (wa ρ) 35 (ą [Å,Ä,Ä,Ê] x) (fun h v=>Ã (Ċ [.bool,tI] h v) k)=Es x.1 x.2.1 x.2.2.1 x.2.2.2 k:=by kernel_rfl
def Q6:(Dc ρ).Ok (kP ρ):=⟨by kernel_rfl,fun p v kn kx=>by kernel_rfl⟩
def Q2:(C4 ρ).Ok (kP ρ):=⟨by kernel_rfl,fun p v kn kx=>by kernel_rfl⟩
def Q3:(C6 ρ).Ok (kP ρ):=⟨by kernel_rfl,fun p v kn kx=>by kernel_rfl⟩
def Q4:(C8 ρ).Ok (kP ρ):=⟨by kernel_rfl,fun p v kn kx=>by kernel_rfl⟩
def Q5:(Da ρ).Ok (kP ρ):=⟨by kernel_rfl,fun p v kn kx=>by kernel_rfl⟩
def YQ (x:Val Ñ) (k:(Val aI)→Option ρ) :
    ċ (kP ρ) 91 (ą [Ñ] x) (fun h v=>Ã (Ċ [ae,tI] h v) k)=Q7 x k:=by kernel_rfl
def YI (x:Val Å) (k:(Val (.pair hZ tI))→Option ρ) :
    ċ (QT ρ) 38 (ą [Å] x) (fun h v=>Ã (Ċ [hZ,tI] h v) k)=QU x k:=by kernel_rfl
def M8 (x:Unit) (k:Val Å→Option ρ) :
    ċ (Ch ρ) 44 (ą [] x) (fun h v=>Ã (Ċ [Å] h v) k)=yA k:=by kernel_rfl
def ab3 (x:Val aI) (k:Bool→Option ρ) :
    ċ (VX ρ) 106 (ą [ae,tI] x) (fun h v=>Ã (Ċ [.bool] h v) k)=Ys x.1 x.2 k:=by kernel_rfl
def Yw (x:Val tI) (k:Bool→Option ρ) :
    ċ (QJ ρ) 107 (ą [tI] x) (fun h v=>Ã (Ċ [.bool] h v) k)=QK x k:=by kernel_rfl
def QF:(CQ ρ).Ok (En ρ):=⟨by kernel_rfl,fun p v kn kx=>by kernel_rfl⟩
def Yu (x:Val aP) (k:(Val aa)→Option ρ) :
    ċ (En ρ) 108 (ą [tI,am] x) (fun h v=>Ã (Ċ [aa] h v) k)=QG x.1 x.2 k:=by kernel_rfl
def Uu:(G4 ρ).Ok (A8 ρ):=⟨by kernel_rfl,fun p v kn kx=>by kernel_rfl⟩
def Ut:(G2 ρ).Ok (A8 ρ):=⟨by kernel_rfl,fun p v kn kx=>by kernel_rfl⟩
def acg (x:Val (.pair Å ar)) (k:Val Ļ→Option ρ) :
    ċ (A8 ρ) 45 (ą [Å,tI,ae] x) (fun h v=>Ã (Ċ [Ä,tI] h v) k)=YG x.1 x.2.1 x.2.2 k:=by kernel_rfl
def Hu (x:Val bh) (k:Int→Option ρ) :
    ċ (xO ρ) 92 (ą [Ñ,ae] x) (fun h v=>Ã (Ċ [tI] h v) k)=tk x.1 x.2 k:=by kernel_rfl
def G9 (x:Val hZ) (k:Int→Option ρ) :
    ċ (xE ρ) 39 (ą [hZ] x) (fun h v=>Ã (Ċ [tI] h v) k)=tc x k:=by kernel_rfl
def kI:(Ξ ρ).Ok (ŗ ρ):=⟨by kernel_rfl,fun p v kn kx=>by kernel_rfl⟩
def lG (x:Val (.pair ac Ó)) (k:Int→Option ρ) :
    ċ (ŗ ρ) 248 (ą [ac,Ó] x) (fun h v=>Ã (Ċ [tI] h v) k)=ű x.1 x.2 k:=by kernel_rfl
def ke (x:Val (.pair ac Ó)) (k:Bool→Option ρ) :
    ċ (Ρ ρ) 216 (ą [ac,Ó] x) (fun h v=>Ã (Ċ [.bool] h v) k)=ŏ x.1 x.2 k:=by kernel_rfl
def mI:(iI ρ).Ok (Δ ρ):=⟨by kernel_rfl,fun p v kn kx=>by kernel_rfl⟩
def oJ (x:Val aV) (k:Int→Option ρ) :
    ċ (Δ ρ) 250 (ą [aa,Ä] x) (fun h v=>Ã (Ċ [tI] h v) k)=υ x.1 x.2 k:=by kernel_rfl
def mm (x:Val aV) (k:Bool→Option ρ) :
    ċ (iJ ρ) 219 (ą [aa,Ä] x) (fun h v=>Ã (Ċ [.bool] h v) k)=Ÿ x.1 x.2 k:=by kernel_rfl
def lF:(ij ρ).Ok (Ű ρ):=⟨by kernel_rfl,fun p v kn kx=>by kernel_rfl⟩
def mK (x:Val (.pair af ő)) (k:Int→Option ρ) :
    ċ (Ű ρ) 252 (ą [af,ő] x) (fun h v=>Ã (Ċ [tI] h v) k)=Ζ x.1 x.2 k:=by kernel_rfl
def lr (x:Val (.pair af ő)) (k:Bool→Option ρ) :
    ċ (ip ρ) 222 (ą [af,ő] x) (fun h v=>Ã (Ċ [.bool] h v) k)=Š x.1 x.2 k:=by kernel_rfl
def Ul:(GQ ρ).Ok (Χ ρ):=⟨by kernel_rfl,fun p v kn kx=>by kernel_rfl⟩
def Ui:(GJ ρ).Ok (Χ ρ):=⟨by kernel_rfl,fun p v kn kx=>by kernel_rfl⟩
def Uh:(GH ρ).Ok (Χ ρ):=⟨by kernel_rfl,fun p v kn kx=>by kernel_rfl⟩
def Uj:(GM ρ).Ok (Χ ρ):=⟨by kernel_rfl,fun p v kn kx=>by kernel_rfl⟩
def Uk:(GO ρ).Ok (Χ ρ):=⟨by kernel_rfl,fun p v kn kx=>by kernel_rfl⟩
def Ug:(GF ρ).Ok (Χ ρ):=⟨by kernel_rfl,fun p v kn kx=>by kernel_rfl⟩
def Uf:(GC ρ).Ok (Χ ρ):=⟨by kernel_rfl,fun p v kn kx=>by kernel_rfl⟩
def Ue:(GA ρ).Ok (Χ ρ):=⟨by kernel_rfl,fun p v kn kx=>by kernel_rfl⟩
def Ud:(Gy ρ).Ok (Χ ρ):=⟨by kernel_rfl,fun p v kn kx=>by kernel_rfl⟩
def Uc:(Gw ρ).Ok (Χ ρ):=⟨by kernel_rfl,fun p v kn kx=>by kernel_rfl⟩
def ab4 (x:Val (.pair Å Å)) (k:Bool→Option ρ) :
    ċ (Χ ρ) 109 (ą [Å,Å] x) (fun h v=>Ã (Ċ [.bool] h v) k)=Yt x.1 x.2 k:=by kernel_rfl
def Us (x:Val (.pair Å hZ)) (k:(Val aW)→Option ρ) :
    ċ (Md ρ) 46 (ą [Å,hZ] x) (fun h v=>Ã (Ċ [.bool,tI] h v) k)=Ka x.1 x.2 k:=by kernel_rfl
def PD (x:Unit) (k:Bool→Option ρ) :
    ċ (FS ρ) 11 (ą [] x) (fun h v=>Ã (Ċ [.bool] h v) k)=D1 k:=by kernel_rfl
def Na (x:Val í) (k:Bool→Option ρ) :
    ċ (Cn ρ) 94 (ą [Ä,tI,tI] x) (fun h v=>Ã (Ċ [.bool] h v) k)=yG x.1 x.2.1 x.2.2 k:=by kernel_rfl
def aeQ (x:Val ú) (k:Bool→Option ρ) :
    ċ (abP ρ) 164 (ą [tI,tI,tI] x) (fun h v=>Ã (Ċ [.bool] h v) k)=aeR x.1 x.2.1 x.2.2 k:=by kernel_rfl
def abS (x:Val tI) (k:Bool→Option ρ) :
    ċ (VQ ρ) 100 (ą [tI] x) (fun h v=>Ã (Ċ [.bool] h v) k)=Yc x k:=by kernel_rfl
def T7:(Gm ρ).Ok (JY ρ):=⟨by kernel_rfl,fun p v kn kx=>by kernel_rfl⟩
def abZ (x:Val Ä) (k:Int→Option ρ) :
    ċ (JY ρ) 209 (ą [tI,tI] x) (fun h v=>Ã (Ċ [tI] h v) k)=Yn x.1 x.2 k:=by kernel_rfl
def ab2 (x:Val tI) (k:Int→Option ρ) :
    ċ (VW ρ) 210 (ą [tI] x) (fun h v=>Ã (Ċ [tI] h v) k)=Yr x k:=by kernel_rfl
def T5 (x:Val Ä) (k:Bool→Option ρ) :
    ċ (LW ρ) 163 (ą [Ä] x) (fun h v=>Ã (Ċ [.bool] h v) k)=JW x k:=by kernel_rfl
def TG (x:Val Ó) (k:Bool→Option ρ) :
    ċ (LO ρ) 95 (ą [Ó] x) (fun h v=>Ã (Ċ [.bool] h v) k)=JJ x k:=by kernel_rfl
def Qi:(CH ρ).Ok (Ef ρ):=⟨by kernel_rfl,fun p v kn kx=>by kernel_rfl⟩
def Ya (x:Val aH) (k:Int→Option ρ) :
    ċ (Ef ρ) 166 (ą [Å,tI] x) (fun h v=>Ã (Ċ [tI] h v) k)=Qj x.1 x.2 k:=by kernel_rfl
def TO (x:Val aE) (k:Int→Option ρ) :
    ċ (LQ ρ) 101 (ą [Å,tI,tI] x) (fun h v=>Ã (Ċ [tI] h v) k)=JL x.1 x.2.1 x.2.2 k:=by kernel_rfl
def PI:(Cm ρ).Ok (D5 ρ):=⟨by kernel_rfl,fun p v kn kx=>by kernel_rfl⟩
def XK (x:Val Å) (k:Int→Option ρ) :
    ċ (D5 ρ) 96 (ą [Å] x) (fun h v=>Ã (Ċ [tI] h v) k)=PJ x k:=by kernel_rfl
def Nc:(yI ρ).Ok (nV ρ):=⟨by kernel_rfl,fun p v kn kx=>by kernel_rfl⟩
def Nb:(yH ρ).Ok (nV ρ):=⟨by kernel_rfl,fun p v kn kx=>by kernel_rfl⟩
def Nf:(yJ ρ).Ok (nV ρ):=⟨by kernel_rfl,fun p v kn kx=>by kernel_rfl⟩
def TE (x:Val Å) (k:Int→Option ρ) :
    ċ (nV ρ) 97 (ą [Å] x) (fun h v=>Ã (Ċ [tI] h v) k)=JH x k:=by kernel_rfl
def PZ:(Cy ρ).Ok (Ea ρ):=⟨by kernel_rfl,fun p v kn kx=>by kernel_rfl⟩
def X0 (x:Val ae) (k:Bool→Option ρ) :
    ċ (Ea ρ) 165 (ą [ae] x) (fun h v=>Ã (Ċ [.bool] h v) k)=P0 x k:=by kernel_rfl
def TD (x:Val Ê) (k:Bool→Option ρ) :
    ċ (LK ρ) 98 (ą [Ê] x) (fun h v=>Ã (Ċ [.bool] h v) k)=JG x k:=by kernel_rfl
def Qb:(CE ρ).Ok (Ec ρ):=⟨by kernel_rfl,fun p v kn kx=>by kernel_rfl⟩
def X5 (x:Val aE) (k:(Val bc)→Option ρ) :
    ċ (Ec ρ) 167 (ą [Å,tI,tI] x) (fun h v=>Ã (Ċ [ő,.bool] h v) k)=Qc x.1 x.2.1 x.2.2 k:=by kernel_rfl
def TX:(Gg ρ).Ok (JP ρ):=⟨by kernel_rfl,fun p v kn kx=>by kernel_rfl⟩
def abQ (x:Val aI) (k:Bool→Option ρ) :
    ċ (JP ρ) 211 (ą [ae,tI] x) (fun h v=>Ã (Ċ [.bool] h v) k)=X9 x.1 x.2 k:=by kernel_rfl
def Qd:(CF ρ).Ok (Ed ρ):=⟨by kernel_rfl,fun p v kn kx=>by kernel_rfl⟩
def X6 (x:Val aZ) (k:(Val ae)→Option ρ) :
    ċ (Ed ρ) 168 (ą [ae,ae] x) (fun h v=>Ã (Ċ [ae] h v) k)=Qe x.1 x.2 k:=by kernel_rfl
def D8:(rL ρ).Ok (jx ρ):=⟨by kernel_rfl,fun p v kn kx=>by kernel_rfl⟩
def D7:(rK ρ).Ok (jx ρ):=⟨by kernel_rfl,fun p v kn kx=>by kernel_rfl⟩
def D6:(rJ ρ).Ok (jx ρ):=⟨by kernel_rfl,fun p v kn kx=>by kernel_rfl⟩
def JK (x:Val aB) (k:Int→Option ρ) :
    ċ (jx ρ) 99 (ą [Å,Ê] x) (fun h v=>Ã (Ċ [tI] h v) k)=vO x.1 x.2 k:=by kernel_rfl
def abC (x:Val aZ) (k:Int→Option ρ) :
    ċ (VP ρ) 158 (ą [ae,ae] x) (fun h v=>Ã (Ċ [tI] h v) k)=XM x.1 x.2 k:=by kernel_rfl
def PQ:(Ct ρ).Ok (vP ρ):=⟨by kernel_rfl,fun p v kn kx=>by kernel_rfl⟩
def PP:(Cs ρ).Ok (vP ρ):=⟨by kernel_rfl,fun p v kn kx=>by kernel_rfl⟩
def XR (x:Val (.pair Å (.pair Ó tI))) (k:Bool→Option ρ) :
    ċ (vP ρ) 169 (ą [Å,Ó,tI] x) (fun h v=>Ã (Ċ [.bool] h v) k)=PR x.1 x.2.1 x.2.2 k:=by kernel_rfl
def No:(yU ρ).Ok (iK ρ):=⟨by kernel_rfl,fun p v kn kx=>by kernel_rfl⟩
def Nn:(yT ρ).Ok (iK ρ):=⟨by kernel_rfl,fun p v kn kx=>by kernel_rfl⟩
def Nl:(yS ρ).Ok (iK ρ):=⟨by kernel_rfl,fun p v kn kx=>by kernel_rfl⟩
def Ni:(yM ρ).Ok (iK ρ):=⟨by kernel_rfl,fun p v kn kx=>by kernel_rfl⟩
def Nj:(yO ρ).Ok (iK ρ):=⟨by kernel_rfl,fun p v kn kx=>by kernel_rfl⟩
def Nk:(yQ ρ).Ok (iK ρ):=⟨by kernel_rfl,fun p v kn kx=>by kernel_rfl⟩
def TT (x:Val Å) (k:(Val aa)→Option ρ) :
    ċ (iK ρ) 102 (ą [Å] x) (fun h v=>Ã (Ċ [aa] h v) k)=JN x k:=by kernel_rfl
def Np:(yV ρ).Ok (yW ρ):=⟨by kernel_rfl,fun p v kn kx=>by kernel_rfl⟩
def TW (x:Val aE) (k:Int→Option ρ) :
    ċ (yW ρ) 52 (ą [Å,Ä] x) (fun h v=>Ã (Ċ [tI] h v) k)=JO x.1 x.2 k:=by kernel_rfl
def PU:(Cu ρ).Ok (D9 ρ):=⟨by kernel_rfl,fun p v kn kx=>by kernel_rfl⟩
def XT (x:Val aE) (k:Bool→Option ρ) :
    ċ (D9 ρ) 212 (ą [Å,tI,tI] x) (fun h v=>Ã (Ċ [.bool] h v) k)=PV x.1 x.2.1 x.2.2 k:=by kernel_rfl
def P7:(CC ρ).Ok (Eb ρ):=⟨by kernel_rfl,fun p v kn kx=>by kernel_rfl⟩
def X3 (x:Val (.pair Å ú)) (k:Int→Option ρ) :
    ċ (Eb ρ) 170 (ą [Å,tI,tI,tI] x) (fun h v=>Ã (Ċ [tI] h v) k)=P8 x.1 x.2.1 x.2.2.1 x.2.2.2 k:=by kernel_rfl
def Qv (x:Val Ä) (k:Val Ļ→Option ρ) :
    ċ (Gj ρ) 285 (ą [tI,tI] x) (fun h v=>Ã (Ċ [Ļ] h v) k)=Eh x.1 x.2 k:=by kernel_rfl
def ab1 (x:Val í) (k:Val Ļ→Option ρ) :
    ċ (VV ρ) 268 (ą [Ä,Ä] x) (fun h v=>Ã (Ċ [Ļ] h v) k)=Yq x.1 x.2 k:=by kernel_rfl
def abX (x:Val Ä) (k:Val Ä→Option ρ) :
    ċ (VT ρ) 269 (ą [Ä] x) (fun h v=>Ã (Ċ [Ä] h v) k)=Yk x k:=by kernel_rfl
def abW (x:Val í) (k:Val Ļ→Option ρ) :
    ċ (VS ρ) 242 (ą [Ä,Ä] x) (fun h v=>Ã (Ċ [Ļ] h v) k)=Yi x.1 x.2 k:=by kernel_rfl
def TF (x:Val aH) (k:Val Ä→Option ρ) :
    ċ (LN ρ) 243 (ą [Å,tI] x) (fun h v=>Ã (Ċ [Ä] h v) k)=JI x.1 x.2 k:=by kernel_rfl
def Yg (x:Val (.pair Ļ Ļ)) (k:Val tN→Option ρ) :
    ċ (Qy ρ) 270 (ą [Ļ,Ļ] x) (fun h v=>Ã (Ċ [tN] h v) k)=Qz x.1 x.2 k:=by kernel_rfl
def abY (x:Val í) (k:Val Ļ→Option ρ) :
    ċ (VU ρ) 271 (ą [Ä,Ä] x) (fun h v=>Ã (Ċ [Ļ] h v) k)=Yl x.1 x.2 k:=by kernel_rfl
def T6 (x:Val (.pair í Ä)) (k:Val tN→Option ρ) :
    ċ (LY ρ) 244 (ą [í,Ä] x) (fun h v=>Ã (Ċ [tN] h v) k)=JX x.1 x.2 k:=by kernel_rfl
def Qh (x:Val aB) (k:Val í→Option ρ) :
    ċ (Gh ρ) 205 (ą [Å,Ê] x) (fun h v=>Ã (Ċ [í] h v) k)=Ee x.1 x.2 k:=by kernel_rfl
def T0 (x:Val aB) (k:Val Ä→Option ρ) :
    ċ (LU ρ) 206 (ą [Å,Ê] x) (fun h v=>Ã (Ċ [Ä] h v) k)=JQ x.1 x.2 k:=by kernel_rfl
def aeU (x:Val Ä) (k:Int→Option ρ) :
    ċ (abT ρ) 245 (ą [tI,tI] x) (fun h v=>Ã (Ċ [tI] h v) k)=aeV x.1 x.2 k:=by kernel_rfl
end Go.Proofs.ZzM
end
