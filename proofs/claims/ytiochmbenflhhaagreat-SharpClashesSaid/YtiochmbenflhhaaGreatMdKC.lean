/- lemmas -/
import Derived.Test.YtiochmbenflhhaaGreatMdMA
set_option linter.all false
set_option linter.unusedSectionVars false
set_option linter.unusedVariables false
set_option linter.unusedSimpArgs false
noncomputable section
variable {ρ:Type}
set_option maxRecDepth 100000
namespace Go.Proofs.ZzM
open Go Go.Am
def TO (x:Val È) (k:Bool→Option ρ) :
    Ă (LB ρ) 33 [È] [.bool] x k=Je x k:=by kernel_rfl
def TM:(FC ρ).Ok (Jd ρ):=⟨by kernel_rfl,fun p v kn kx=>by kernel_rfl⟩
def adf (x:Val Ã) (k:Bool→Option ρ) :
    Ă (Jd ρ) 7 [Ã] [.bool] x k=Yu x k:=by kernel_rfl
def lI:(ξ ρ).Ok (Ŗ ρ):=⟨by kernel_rfl,fun p v kn kx=>by kernel_rfl⟩
def mP (x:Val bg) (k:Int→Option ρ) :
    Ă (Ŗ ρ) 119 [aa,Â] [tI] x k=Ů x.1 x.2 k:=by kernel_rfl
def aaT (x:Val aG) (k:Val Â→Option ρ) :
    Ă (RS ρ) 53 [Ã,Â] [tI,tI] x k=RT x.1 x.2 k:=by kernel_rfl
def QI (x:Val aV) (k:Int→Option ρ) :
    Ă (F7 ρ) 50 [az,Â] [tI] x k=D8 x.1 x.2 k:=by kernel_rfl
def aei (x:Val (.pair É tI)) (k:Bool→Option ρ) :
    Ă (WP ρ) 173 [É,tI] [.bool] x k=Z3 x.1 x.2 k:=by kernel_rfl
def Rc:(C0 ρ).Ok (Ej ρ):=⟨by kernel_rfl,fun p v kn kx=>by kernel_rfl⟩
def aab (x:Val É) (k:Val Â→Option ρ) :
    Ă (Ej ρ) 146 [É] [tI,tI] x k=Re x k:=by kernel_rfl
def GN:(uE ρ).Ok (Φ ρ):=⟨by kernel_rfl,fun p v kn kx=>by kernel_rfl⟩
def GM:(uC ρ).Ok (Φ ρ):=⟨by kernel_rfl,fun p v kn kx=>by kernel_rfl⟩
def GJ:(uw ρ).Ok (Φ ρ):=⟨by kernel_rfl,fun p v kn kx=>by kernel_rfl⟩
def GK:(uA ρ).Ok (Φ ρ):=⟨by kernel_rfl,fun p v kn kx=>by kernel_rfl⟩
def GI:(ut ρ).Ok (Φ ρ):=⟨by kernel_rfl,fun p v kn kx=>by kernel_rfl⟩
def No (x:Val (.pair É am)) (k:(Val (.pair ae .bool))→Option ρ) :
    Ă (Φ ρ) 147 [É,am] [ae,.bool] x k=zE x.1 x.2 k:=by kernel_rfl
def Q5:(CQ ρ).Ok (Ei ρ):=⟨by kernel_rfl,fun p v kn kx=>by kernel_rfl⟩
def Z7 (x:Val aU) (k:Int→Option ρ) :
    Ă (Ei ρ) 184 [É,ae] [tI] x k=Q6 x.1 x.2 k:=by kernel_rfl
def Nu:(zN ρ).Ok (jx ρ):=⟨by kernel_rfl,fun p v kn kx=>by kernel_rfl⟩
def Nt:(zL ρ).Ok (jx ρ):=⟨by kernel_rfl,fun p v kn kx=>by kernel_rfl⟩
def Ns:(zJ ρ).Ok (jx ρ):=⟨by kernel_rfl,fun p v kn kx=>by kernel_rfl⟩
def Nq:(zF ρ).Ok (jx ρ):=⟨by kernel_rfl,fun p v kn kx=>by kernel_rfl⟩
def Nr:(zH ρ).Ok (jx ρ):=⟨by kernel_rfl,fun p v kn kx=>by kernel_rfl⟩
def Vk (x:Val (.pair É (.pair am tI))) (k:(Val ae)→Option ρ) :
    Ă (jx ρ) 185 [É,am,tI] [ae] x k=Kj x.1 x.2.1 x.2.2 k:=by kernel_rfl
def aaf (x:Val bh) (k:Val Â→Option ρ) :
    Ă (Rj ρ) 118 [É,tI,tI] [tI,tI] x k=Rk x.1 x.2.1 x.2.2 k:=by kernel_rfl
def F6 (x:Val aV) (k:Int→Option ρ) :
    Ă (xu ρ) 52 [az,tI,tI] [tI] x k=sV x.1 x.2.1 x.2.2 k:=by kernel_rfl
def F4 (x:Val aV) (k:Int→Option ρ) :
    Ă (xt ρ) 96 [az,Â] [tI] x k=sU x.1 x.2 k:=by kernel_rfl
def zl (x:Val aV) (k:Int→Option ρ) :
    Ă (qm ρ) 97 [az,Â] [tI] x k=mX x.1 x.2 k:=by kernel_rfl
def zj (x:Val aV) (k:Val Â→Option ρ) :
    Ă (kU ρ) 42 [az,Â] [Â] x k=mW x.1 x.2 k:=by kernel_rfl
def VS:(Hv ρ).Ok (KE ρ):=⟨by kernel_rfl,fun p v kn kx=>by kernel_rfl⟩
def aeX (x:Val aG) (k:(Val aJ)→Option ρ) :
    Ă (KE ρ) 54 [Ã,Â] [Ã,tI] x k=aaR x.1 x.2 k:=by kernel_rfl
def Nz (x:Val (.pair aZ aL)) (k:Int→Option ρ) :
    Ă (Db ρ) 205 [aZ,ae,tI] [tI] x k=zS x.1 x.2.1 x.2.2 k:=by kernel_rfl
def VA:(He ρ).Ok (AZ ρ):=⟨by kernel_rfl,fun p v kn kx=>by kernel_rfl⟩
def Vz:(Hb ρ).Ok (AZ ρ):=⟨by kernel_rfl,fun p v kn kx=>by kernel_rfl⟩
def aeJ (x:Val (.pair Ã (.pair Ï Â))) (k:Int→Option ρ) :
    Ă (AZ ρ) 207 [Ã,Ï,tI,tI] [tI] x k=aaB x.1 x.2.1 x.2.2.1 x.2.2.2 k:=by kernel_rfl
def BS (x:Val (.pair au ae)) (k:Val Â→Option ρ) :
    Ă (sg ρ) 258 [au,ae] [Â] x k=oB x.1 x.2 k:=by kernel_rfl
def Rl:(C7 ρ).Ok (Ek ρ):=⟨by kernel_rfl,fun p v kn kx=>by kernel_rfl⟩
def aah (x:Val aa) (k:Int→Option ρ) :
    Ă (Ek ρ) 261 [aa] [tI] x k=Rm x k:=by kernel_rfl
def Ro (x:Val Â) (k:Val ķ→Option ρ) :
    Ă (GY ρ) 285 [tI,tI] [Â,tI] x k=El x.1 x.2 k:=by kernel_rfl
def ahi (x:Val å) (k:Val ķ→Option ρ) :
    Ă (aev ρ) 275 [Â,Â] [Â,tI] x k=ahj x.1 x.2 k:=by kernel_rfl
def Kv (x:Val å) (k:Val Â→Option ρ) :
    Ă (zR ρ) 259 [Â,Â] [Â] x k=wi x.1 x.2 k:=by kernel_rfl
def ahf (x:Val å) (k:Int→Option ρ) :
    Ă (aet ρ) 291 [Â,Â] [tI] x k=ahg x.1 x.2 k:=by kernel_rfl
def G1 (x:Val å) (k:Bool→Option ρ) :
    Ă (xG ρ) 286 [å] [.bool] x k=tf x k:=by kernel_rfl
def ahl (x:Val å) (k:Val ķ→Option ρ) :
    Ă (aex ρ) 289 [Â,Â] [Â,tI] x k=ahm x.1 x.2 k:=by kernel_rfl
def aao (x:Val (.pair å Â)) (k:Val tG→Option ρ) :
    Ă (Em ρ) 276 [å,Â] [å,tI] x k=Rt x.1 x.2 k:=by kernel_rfl
def Kt (x:Val å) (k:Val å→Option ρ) :
    Ă (zQ ρ) 260 [Â,Â] [å] x k=wh x.1 x.2 k:=by kernel_rfl
def VJ (x:Val aE) (k:Val å→Option ρ) :
    Ă (LZ ρ) 243 [Ã,È] [å] x k=Ky x.1 x.2 k:=by kernel_rfl
def aaL (x:Val aE) (k:Val Â→Option ρ) :
    Ă (RN ρ) 244 [Ã,È] [Â] x k=RO x.1 x.2 k:=by kernel_rfl
def aal (x:Val Â) (k:Int→Option ρ) :
    Ă (Rq ρ) 262 [tI,tI] [tI] x k=GZ x.1 x.2 k:=by kernel_rfl
def aaq (x:Val Â) (k:Val Â→Option ρ) :
    Ă (Ru ρ) 245 [Â] [tI,tI] x k=Rv x k:=by kernel_rfl
def aeA (x:Val Â) (k:Val Â→Option ρ) :
    Ă (WY ρ) 246 [Â] [tI,tI] x k=aar x k:=by kernel_rfl
def aeE (x:Val aE) (k:Val Â→Option ρ) :
    Ă (WZ ρ) 208 [Ã,È] [Â] x k=aax x.1 x.2 k:=by kernel_rfl
def Vx:(G7 ρ).Ok (uG ρ):=⟨by kernel_rfl,fun p v kn kx=>by kernel_rfl⟩
def Vy:(G9 ρ).Ok (uG ρ):=⟨by kernel_rfl,fun p v kn kx=>by kernel_rfl⟩
def Vw:(G5 ρ).Ok (uG ρ):=⟨by kernel_rfl,fun p v kn kx=>by kernel_rfl⟩
def aeH (x:Val Ã) (k:(Val aZ)→Option ρ) :
    Ă (uG ρ) 74 [Ã] [aZ] x k=aaA x k:=by kernel_rfl
def VP (x:Val Ã) (k:(Val (.pair É (.pair aa tI)))→Option ρ) :
    Ă (L1 ρ) 77 [Ã] [É,aa,tI] x k=KD x k:=by kernel_rfl
def GR (x:Val É) (k:(Val aQ)→Option ρ) :
    Ă (xD ρ) 108 [É] [.bool,tI] x k=ta x k:=by kernel_rfl
def GD:(uq ρ).Ok (sY ρ):=⟨by kernel_rfl,fun p v kn kx=>by kernel_rfl⟩
def Nj (x:Val aG) (k:Val ķ→Option ρ) :
    Ă (sY ρ) 9 [Ã,Â] [Â,tI] x k=zy x.1 x.2 k:=by kernel_rfl
def VU (x:Val aO) (k:(Val (.pair ae aL))→Option ρ) :
    Ă (L2 ρ) 114 [ae,ae] [ae,ae,tI] x k=KG x.1 x.2 k:=by kernel_rfl
def adY (x:Val aL) (k:Bool→Option ρ) :
    Ă (WO ρ) 44 [ae,tI] [.bool] x k=ZE x.1 x.2 k:=by kernel_rfl
def ZK (x:Val tI) (k:Bool→Option ρ) :
    Ă (QN ρ) 45 [tI] [.bool] x k=QO x k:=by kernel_rfl
def QJ:(CF ρ).Ok (D9 ρ):=⟨by kernel_rfl,fun p v kn kx=>by kernel_rfl⟩
def ZH (x:Val aM) (k:(Val aa)→Option ρ) :
    Ă (D9 ρ) 46 [tI,ak] [aa] x k=QK x.1 x.2 k:=by kernel_rfl
def Ve:(GB ρ).Ok (AW ρ):=⟨by kernel_rfl,fun p v kn kx=>by kernel_rfl⟩
def Vd:(Gz ρ).Ok (AW ρ):=⟨by kernel_rfl,fun p v kn kx=>by kernel_rfl⟩
def aec (x:Val (.pair Ã aw)) (k:Val ķ→Option ρ) :
    Ă (AW ρ) 10 [Ã,tI,ae] [Â,tI] x k=ZW x.1 x.2.1 x.2.2 k:=by kernel_rfl
def Ke:(xA ρ).Ok (vX ρ):=⟨by kernel_rfl,fun p v kn kx=>by kernel_rfl⟩
def Q0 (x:Val (.pair Ã å)) (k:Val ķ→Option ρ) :
    Ă (vX ρ) 12 [Ã,Â,Â] [Â,tI] x k=Eg x.1 x.2.1 x.2.2 k:=by kernel_rfl
def ag9:(WV ρ).Ok (Ki ρ):=⟨by kernel_rfl,fun p v kn kx=>by kernel_rfl⟩
def ag7:(WS ρ).Ok (Ki ρ):=⟨by kernel_rfl,fun p v kn kx=>by kernel_rfl⟩
def ag6:(WQ ρ).Ok (Ki ρ):=⟨by kernel_rfl,fun p v kn kx=>by kernel_rfl⟩
def ag8:(WU ρ).Ok (Ki ρ):=⟨by kernel_rfl,fun p v kn kx=>by kernel_rfl⟩
def amS (x:Val bh) (k:(Val ak)→Option ρ) :
    Ă (Ki ρ) 148 [É,tI,tI] [ak] x k=Q4 x.1 x.2.1 x.2.2 k:=by kernel_rfl
def Rb:(CZ ρ).Ok (kW ρ):=⟨by kernel_rfl,fun p v kn kx=>by kernel_rfl⟩
def Q7:(CS ρ).Ok (kW ρ):=⟨by kernel_rfl,fun p v kn kx=>by kernel_rfl⟩
def Q8:(CU ρ).Ok (kW ρ):=⟨by kernel_rfl,fun p v kn kx=>by kernel_rfl⟩
def Q9:(CW ρ).Ok (kW ρ):=⟨by kernel_rfl,fun p v kn kx=>by kernel_rfl⟩
def Ra:(CY ρ).Ok (kW ρ):=⟨by kernel_rfl,fun p v kn kx=>by kernel_rfl⟩
def Z9 (x:Val É) (k:(Val aL)→Option ρ) :
    Ă (kW ρ) 78 [É] [ae,tI] x k=GS x k:=by kernel_rfl
def JS:(xr ρ).Ok (vL ρ):=⟨by kernel_rfl,fun p v kn kx=>by kernel_rfl⟩
def QG (x:Val (.pair Ã ae)) (k:(Val aa)→Option ρ) :
    Ă (vL ρ) 80 [Ã,ae] [aa] x k=D7 x.1 x.2 k:=by kernel_rfl
def Z0 (x:Val Ã) (k:(Val (.pair ü tI))→Option ρ) :
    Ă (QX ρ) 24 [Ã] [ü,tI] x k=zz x k:=by kernel_rfl
def Ms (x:Unit) (k:Val Ã→Option ρ) :
    Ă (Cc ρ) 34 [] [Ã] x k=yq k:=by kernel_rfl
def QE (x:Val å) (k:Int→Option ρ) :
    Ă (F2 ρ) 93 [Â,Â] [tI] x k=D6 x.1 x.2 k:=by kernel_rfl
def QU:(CO ρ).Ok (Ee ρ):=⟨by kernel_rfl,fun p v kn kx=>by kernel_rfl⟩
def ZY (x:Val (.pair Ã å)) (k:Val Â→Option ρ) :
    Ă (Ee ρ) 35 [Ã,Â,Â] [tI,tI] x k=QV x.1 x.2.1 x.2.2 k:=by kernel_rfl
def Rh:(C5 ρ).Ok (qt ρ):=⟨by kernel_rfl,fun p v kn kx=>by kernel_rfl⟩
def Rf:(C1 ρ).Ok (qt ρ):=⟨by kernel_rfl,fun p v kn kx=>by kernel_rfl⟩
def Rg:(C3 ρ).Ok (qt ρ):=⟨by kernel_rfl,fun p v kn kx=>by kernel_rfl⟩
def aad (x:Val bh) (k:(Val aL)→Option ρ) :
    Ă (qt ρ) 95 [É,tI,tI] [ae,tI] x k=Ri x.1 x.2.1 x.2.2 k:=by kernel_rfl
def Kd (x:Val (.pair az (.pair aY (.ptr .bool)))) (k:(Val ae)→Option ρ) :
    Ă (zD ρ) 94 [az,aY,(.ptr .bool)] [ae] x k=vW x.1 x.2.1 x.2.2 k:=by kernel_rfl
def Kb:(xy ρ).Ok (l5 ρ):=⟨by kernel_rfl,fun p v kn kx=>by kernel_rfl⟩
def Ka:(xw ρ).Ok (l5 ρ):=⟨by kernel_rfl,fun p v kn kx=>by kernel_rfl⟩
def QY (x:Val (.pair Ã (.pair Â .bool))) (k:(Val (.pair ü tI))→Option ρ) :
    Ă (l5 ρ) 36 [Ã,Â,.bool] [ü,tI] x k=Ef x.1 x.2.1 x.2.2 k:=by kernel_rfl
def VN:(Hs ρ).Ok (KC ρ):=⟨by kernel_rfl,fun p v kn kx=>by kernel_rfl⟩
def aeT (x:Val aE) (k:(Val aJ)→Option ρ) :
    Ă (KC ρ) 167 [Ã,È] [Ã,tI] x k=aaO x.1 x.2 k:=by kernel_rfl
def aaw (x:Val (.pair Ã (.pair È Â))) (k:Val ķ→Option ρ) :
    Ă (Ry ρ) 215 [Ã,È,Â] [Â,tI] x k=Rz x.1 x.2.1 x.2.2 k:=by kernel_rfl
def RQ (x:Val aE) (k:Val ķ→Option ρ) :
    Ă (Hu ρ) 166 [Ã,È] [Â,tI] x k=Ey x.1 x.2 k:=by kernel_rfl
def aau (x:Val aJ) (k:(Val (.pair È tI))→Option ρ) :
    Ă (Rw ρ) 217 [Ã,tI] [È,tI] x k=Rx x.1 x.2 k:=by kernel_rfl
def aeV (x:Val aJ) (k:Val ķ→Option ρ) :
    Ă (W0 ρ) 168 [Ã,tI] [Â,tI] x k=aaQ x.1 x.2 k:=by kernel_rfl
def Nc (x:Val (.pair ae (.pair az (.ptr È)))) (k:Int→Option ρ) :
    Ă (CJ ρ) 169 [ae,az,(.ptr È)] [tI] x k=zp x.1 x.2.1 x.2.2 k:=by kernel_rfl
end Go.Proofs.ZzM
end
