/- lemmas -/
import Derived.Test.YtmadligicacpkaaGreatMdMA
set_option linter.all false
set_option linter.unusedSectionVars false
set_option linter.unusedVariables false
set_option linter.unusedSimpArgs false
noncomputable section
variable {ρ:Type}
set_option maxRecDepth 100000
namespace Go.Proofs.ZzM
open Go Go.Am
def RV (x:Val (.pair Ą tI)) (k:Int→Option ρ) :
    Ĉ (J8 ρ) 154 (ÿ [Ą,tI] x) (fun h v=>Ã (ą [tI] h v) k)=Ij x.1 x.2 k:=by kernel_rfl
def EF (x:Val (.pair Ŭ tI)) (k:Val Â→Option ρ) :
    Ĉ (vO ρ) 86 (ÿ [Ŭ,tI] x) (fun h v=>Ã (ą [Â] h v) k)=qX x.1 x.2 k:=by kernel_rfl
def Al:(oU ρ).Ok (jG ρ):=⟨by kernel_rfl,fun p v kn kx=>by kernel_rfl⟩
def Ao:(oW ρ).Ok (jG ρ):=⟨by kernel_rfl,fun p v kn kx=>by kernel_rfl⟩
def EG (x:Val (.pair Ŭ ae)) (k:(Val ae)→Option ρ) :
    Ĉ (jG ρ) 88 (ÿ [Ŭ,ae] x) (fun h v=>Ã (ą [ae] h v) k)=qY x.1 x.2 k:=by kernel_rfl
def xJ:(nw ρ).Ok (lN ρ):=⟨by kernel_rfl,fun p v kn kx=>by kernel_rfl⟩
def CJ (x:Val Ŭ) (k:Int→Option ρ) :
    Ĉ (lN ρ) 77 (ÿ [Ŭ] x) (fun h v=>Ã (ą [tI] h v) k)=oT x k:=by kernel_rfl
def OK:(Bm ρ).Ok (CT ρ):=⟨by kernel_rfl,fun p v kn kx=>by kernel_rfl⟩
def Wi (x:Val (.pair Ä aX)) (k:Val Â→Option ρ) :
    Ĉ (CT ρ) 31 (ÿ [Ä,Â,Ì] x) (fun h v=>Ã (ą [tI,tI] h v) k)=OL x.1 x.2.1 x.2.2 k:=by kernel_rfl
def Ip (x:Val tI) (k:Int→Option ρ) :
    Ĉ (xW ρ) 83 (ÿ [tI] x) (fun h v=>Ã (ą [tI] h v) k)=uk x k:=by kernel_rfl
def Ii (x:Val (.pair Ą tI)) (k:(Val ae)→Option ρ) :
    Ĉ (xU ρ) 84 (ÿ [Ą,tI] x) (fun h v=>Ã (ą [ae] h v) k)=ug x.1 x.2 k:=by kernel_rfl
def Fl:(((qS (ď ρ).P 47).elim [] (í 0)).filter fun y=>Nat.beq y.1 0).length=1:=by kernel_rfl
def Fm (p:Val au) (v:Val aC) (kn:Val au→Val aC→Option ρ) (kx:(i:Nat)→Val au→Val (tyL (Ε.zs i))→Option ρ) :
    goC (ď ρ) (jD (ď ρ) (10-2 / 2)) 47 [1,3] 5 0 (KI (qS (ď ρ).P 47) 0) (iI Ε.head Ε.cs Ε.vs p v) (Yg Ε kn kx)=(nk ρ).bF p v (kn p) (fun i=>kx i p):=by kernel_rfl
def Io:(nk ρ).Ok (ď ρ):=⟨Fl,Fm⟩
def Fh:(((qS (ď ρ).P 155).elim [] (í 0)).filter fun y=>Nat.beq y.1 0).length=1:=by kernel_rfl
def Fk (p:Val ao) (v:Val tI) (kn:Val ao→Val tI→Option ρ) (kx:(i:Nat)→Val ao→Val (tyL (Δ.zs i))→Option ρ) :
    goC (ď ρ) (jD (ď ρ) (10-4 / 2)) 155 [18,4,1,2] 12 0 (KI (qS (ď ρ).P 155) 0) (iI Δ.head Δ.cs Δ.vs p v) (Yg Δ kn kx)=(nj ρ).bF p v (kn p) (fun i=>kx i p):=by kernel_rfl
def Im:(nj ρ).Ok (ď ρ):=⟨Fh,Fk⟩
def OM (x:Val (.pair Ä (.pair Â aX))) (k:(Val aW)→Option ρ) :
    Ĉ (uj ρ) 35 (ÿ [Ä,Â,Â,Ì] x) (fun h v=>Ã (ą [.bool,tI] h v) k)=CU x.1 x.2.1 x.2.2.1 x.2.2.2 k:=by kernel_rfl
def O8:(BC ρ).Ok (jS ρ):=⟨by kernel_rfl,fun p v kn kx=>by kernel_rfl⟩
def O4:(Bu ρ).Ok (jS ρ):=⟨by kernel_rfl,fun p v kn kx=>by kernel_rfl⟩
def O5:(Bw ρ).Ok (jS ρ):=⟨by kernel_rfl,fun p v kn kx=>by kernel_rfl⟩
def O6:(By ρ).Ok (jS ρ):=⟨by kernel_rfl,fun p v kn kx=>by kernel_rfl⟩
def O7:(BA ρ).Ok (jS ρ):=⟨by kernel_rfl,fun p v kn kx=>by kernel_rfl⟩
def Ww (x:Val Í) (k:(Val aE)→Option ρ) :
    Ĉ (jS ρ) 91 (ÿ [Í] x) (fun h v=>Ã (ą [ae,tI] h v) k)=O9 x k:=by kernel_rfl
def Wo (x:Val Ä) (k:(Val (.pair ε tI))→Option ρ) :
    Ĉ (OT ρ) 38 (ÿ [Ä] x) (fun h v=>Ã (ą [ε,tI] h v) k)=OU x k:=by kernel_rfl
def La (x:Unit) (k:Val Ä→Option ρ) :
    Ĉ (AK ρ) 44 (ÿ [] x) (fun h v=>Ã (ą [Ä] h v) k)=wZ k:=by kernel_rfl
def ZM (x:Val aE) (k:Bool→Option ρ) :
    Ĉ (TR ρ) 106 (ÿ [ae,tI] x) (fun h v=>Ã (ą [.bool] h v) k)=V5 x.1 x.2 k:=by kernel_rfl
def V9 (x:Val tI) (k:Bool→Option ρ) :
    Ĉ (OG ρ) 107 (ÿ [tI] x) (fun h v=>Ã (ą [.bool] h v) k)=OH x k:=by kernel_rfl
def OB:(Bh ρ).Ok (CP ρ):=⟨by kernel_rfl,fun p v kn kx=>by kernel_rfl⟩
def V7 (x:Val aO) (k:(Val aa)→Option ρ) :
    Ĉ (CP ρ) 108 (ÿ [tI,am] x) (fun h v=>Ã (ą [aa] h v) k)=OC x.1 x.2 k:=by kernel_rfl
def Sb:(Fq ρ).Ok (zx ρ):=⟨by kernel_rfl,fun p v kn kx=>by kernel_rfl⟩
def R0:(Fo ρ).Ok (zx ρ):=⟨by kernel_rfl,fun p v kn kx=>by kernel_rfl⟩
def ZY (x:Val (.pair Ä ay)) (k:Val Ķ→Option ρ) :
    Ĉ (zx ρ) 45 (ÿ [Ä,tI,ae] x) (fun h v=>Ã (ą [Â,tI] h v) k)=Wm x.1 x.2.1 x.2.2 k:=by kernel_rfl
def FJ (x:Val aV) (k:Int→Option ρ) :
    Ĉ (wj ρ) 92 (ÿ [Í,ae] x) (fun h v=>Ã (ą [tI] h v) k)=rq x.1 x.2 k:=by kernel_rfl
def Fv (x:Val ε) (k:Int→Option ρ) :
    Ĉ (vX ρ) 39 (ÿ [ε] x) (fun h v=>Ã (ą [tI] h v) k)=ri x k:=by kernel_rfl
def jN:(Ż ρ).Ok (Ŋ ρ):=⟨by kernel_rfl,fun p v kn kx=>by kernel_rfl⟩
def kq (x:Val (.pair ac Ð)) (k:Int→Option ρ) :
    Ĉ (Ŋ ρ) 248 (ÿ [ac,Ð] x) (fun h v=>Ã (ą [tI] h v) k)=Ţ x.1 x.2 k:=by kernel_rfl
def jv (x:Val (.pair ac Ð)) (k:Bool→Option ρ) :
    Ĉ (Ž ρ) 216 (ÿ [ac,Ð] x) (fun h v=>Ã (ą [.bool] h v) k)=Ń x.1 x.2 k:=by kernel_rfl
def lJ:(gO ρ).Ok (Ű ρ):=⟨by kernel_rfl,fun p v kn kx=>by kernel_rfl⟩
def ni (x:Val aY) (k:Int→Option ρ) :
    Ĉ (Ű ρ) 250 (ÿ [aa,Â] x) (fun h v=>Ã (ą [tI] h v) k)=Τ x.1 x.2 k:=by kernel_rfl
def lh (x:Val aY) (k:Bool→Option ρ) :
    Ĉ (gP ρ) 219 (ÿ [aa,Â] x) (fun h v=>Ã (ą [.bool] h v) k)=ť x.1 x.2 k:=by kernel_rfl
def kp:(κ ρ).Ok (š ρ):=⟨by kernel_rfl,fun p v kn kx=>by kernel_rfl⟩
def lL (x:Val (.pair af ņ)) (k:Int→Option ρ) :
    Ĉ (š ρ) 252 (ÿ [af,ņ] x) (fun h v=>Ã (ą [tI] h v) k)=Ų x.1 x.2 k:=by kernel_rfl
def ke (x:Val (.pair af ņ)) (k:Bool→Option ρ) :
    Ĉ (ο ρ) 222 (ÿ [af,ņ] x) (fun h v=>Ã (ą [.bool] h v) k)=Ŕ x.1 x.2 k:=by kernel_rfl
def RS:(E7 ρ).Ok (Γ ρ):=⟨by kernel_rfl,fun p v kn kx=>by kernel_rfl⟩
def RO:(EX ρ).Ok (Γ ρ):=⟨by kernel_rfl,fun p v kn kx=>by kernel_rfl⟩
def RN:(EV ρ).Ok (Γ ρ):=⟨by kernel_rfl,fun p v kn kx=>by kernel_rfl⟩
def RP:(EZ ρ).Ok (Γ ρ):=⟨by kernel_rfl,fun p v kn kx=>by kernel_rfl⟩
def RQ:(E5 ρ).Ok (Γ ρ):=⟨by kernel_rfl,fun p v kn kx=>by kernel_rfl⟩
def RM:(ET ρ).Ok (Γ ρ):=⟨by kernel_rfl,fun p v kn kx=>by kernel_rfl⟩
def RL:(ER ρ).Ok (Γ ρ):=⟨by kernel_rfl,fun p v kn kx=>by kernel_rfl⟩
def RK:(EP ρ).Ok (Γ ρ):=⟨by kernel_rfl,fun p v kn kx=>by kernel_rfl⟩
def RJ:(EN ρ).Ok (Γ ρ):=⟨by kernel_rfl,fun p v kn kx=>by kernel_rfl⟩
def RI:(EL ρ).Ok (Γ ρ):=⟨by kernel_rfl,fun p v kn kx=>by kernel_rfl⟩
def ZN (x:Val (.pair Ä Ä)) (k:Bool→Option ρ) :
    Ĉ (Γ ρ) 109 (ÿ [Ä,Ä] x) (fun h v=>Ã (ą [.bool] h v) k)=V6 x.1 x.2 k:=by kernel_rfl
def RZ (x:Val (.pair Ä ε)) (k:(Val aW)→Option ρ) :
    Ĉ (Kd ρ) 46 (ÿ [Ä,ε] x) (fun h v=>Ã (ą [.bool,tI] h v) k)=Il x.1 x.2 k:=by kernel_rfl
def NA (x:Unit) (k:Bool→Option ρ) :
    Ĉ (Ea ρ) 11 (ÿ [] x) (fun h v=>Ã (ą [.bool] h v) k)=Cr k:=by kernel_rfl
def Lc (x:Val ã) (k:Bool→Option ρ) :
    Ĉ (AQ ρ) 94 (ÿ [Â,tI,tI] x) (fun h v=>Ã (ą [.bool] h v) k)=xb x.1 x.2.1 x.2.2 k:=by kernel_rfl
def acq (x:Val Ą) (k:Bool→Option ρ) :
    Ĉ (Zy ρ) 164 (ÿ [tI,tI,tI] x) (fun h v=>Ã (ą [.bool] h v) k)=acr x.1 x.2.1 x.2.2 k:=by kernel_rfl
def ZB (x:Val tI) (k:Bool→Option ρ) :
    Ĉ (TL ρ) 100 (ÿ [tI] x) (fun h v=>Ã (ą [.bool] h v) k)=VO x k:=by kernel_rfl
def RD:(EC ρ).Ok (H8 ρ):=⟨by kernel_rfl,fun p v kn kx=>by kernel_rfl⟩
def ZI (x:Val Â) (k:Int→Option ρ) :
    Ĉ (H8 ρ) 209 (ÿ [tI,tI] x) (fun h v=>Ã (ą [tI] h v) k)=V0 x.1 x.2 k:=by kernel_rfl
def ZL (x:Val tI) (k:Int→Option ρ) :
    Ĉ (TQ ρ) 210 (ÿ [tI] x) (fun h v=>Ã (ą [tI] h v) k)=V4 x k:=by kernel_rfl
def RB (x:Val Â) (k:Bool→Option ρ) :
    Ĉ (JX ρ) 163 (ÿ [Â] x) (fun h v=>Ã (ą [.bool] h v) k)=H6 x k:=by kernel_rfl
def Rf (x:Val Ð) (k:Bool→Option ρ) :
    Ĉ (JR ρ) 95 (ÿ [Ð] x) (fun h v=>Ã (ą [.bool] h v) k)=HS x k:=by kernel_rfl
def N9:(A9 ρ).Ok (CF ρ):=⟨by kernel_rfl,fun p v kn kx=>by kernel_rfl⟩
def VM (x:Val aG) (k:Int→Option ρ) :
    Ĉ (CF ρ) 166 (ÿ [Ä,tI] x) (fun h v=>Ã (ą [tI] h v) k)=Oa x.1 x.2 k:=by kernel_rfl
def Rn (x:Val aD) (k:Int→Option ρ) :
    Ĉ (JT ρ) 101 (ÿ [Ä,tI,tI] x) (fun h v=>Ã (ą [tI] h v) k)=HU x.1 x.2.1 x.2.2 k:=by kernel_rfl
def NE:(AP ρ).Ok (Cu ρ):=⟨by kernel_rfl,fun p v kn kx=>by kernel_rfl⟩
def Vp (x:Val Ä) (k:Int→Option ρ) :
    Ĉ (Cu ρ) 96 (ÿ [Ä] x) (fun h v=>Ã (ą [tI] h v) k)=NF x k:=by kernel_rfl
def Le:(xd ρ).Ok (mG ρ):=⟨by kernel_rfl,fun p v kn kx=>by kernel_rfl⟩
def Ld:(xc ρ).Ok (mG ρ):=⟨by kernel_rfl,fun p v kn kx=>by kernel_rfl⟩
def Lf:(xe ρ).Ok (mG ρ):=⟨by kernel_rfl,fun p v kn kx=>by kernel_rfl⟩
def Rc (x:Val Ä) (k:Int→Option ρ) :
    Ĉ (mG ρ) 97 (ÿ [Ä] x) (fun h v=>Ã (ą [tI] h v) k)=HP x k:=by kernel_rfl
def NT:(A2 ρ).Ok (CA ρ):=⟨by kernel_rfl,fun p v kn kx=>by kernel_rfl⟩
def VD (x:Val ae) (k:Bool→Option ρ) :
    Ĉ (CA ρ) 165 (ÿ [ae] x) (fun h v=>Ã (ą [.bool] h v) k)=NU x k:=by kernel_rfl
def Rb (x:Val Ì) (k:Bool→Option ρ) :
    Ĉ (JO ρ) 98 (ÿ [Ì] x) (fun h v=>Ã (ą [.bool] h v) k)=HO x k:=by kernel_rfl
def N2:(A6 ρ).Ok (CC ρ):=⟨by kernel_rfl,fun p v kn kx=>by kernel_rfl⟩
def VH (x:Val aD) (k:(Val bc)→Option ρ) :
    Ĉ (CC ρ) 167 (ÿ [Ä,tI,tI] x) (fun h v=>Ã (ą [ņ,.bool] h v) k)=N3 x.1 x.2.1 x.2.2 k:=by kernel_rfl
def Rt:(Ew ρ).Ok (HX ρ):=⟨by kernel_rfl,fun p v kn kx=>by kernel_rfl⟩
def Zz (x:Val aE) (k:Bool→Option ρ) :
    Ĉ (HX ρ) 211 (ÿ [ae,tI] x) (fun h v=>Ã (ą [.bool] h v) k)=VL x.1 x.2 k:=by kernel_rfl
def N4:(A7 ρ).Ok (CD ρ):=⟨by kernel_rfl,fun p v kn kx=>by kernel_rfl⟩
def VI (x:Val ba) (k:(Val ae)→Option ρ) :
    Ĉ (CD ρ) 168 (ÿ [ae,ae] x) (fun h v=>Ã (ą [ae] h v) k)=N5 x.1 x.2 k:=by kernel_rfl
def Cx:(pW ρ).Ok (iN ρ):=⟨by kernel_rfl,fun p v kn kx=>by kernel_rfl⟩
def Cw:(pV ρ).Ok (iN ρ):=⟨by kernel_rfl,fun p v kn kx=>by kernel_rfl⟩
def Cv:(pU ρ).Ok (iN ρ):=⟨by kernel_rfl,fun p v kn kx=>by kernel_rfl⟩
def HT (x:Val aB) (k:Int→Option ρ) :
    Ĉ (iN ρ) 99 (ÿ [Ä,Ì] x) (fun h v=>Ã (ą [tI] h v) k)=tU x.1 x.2 k:=by kernel_rfl
def Zo (x:Val ba) (k:Int→Option ρ) :
    Ĉ (TK ρ) 158 (ÿ [ae,ae] x) (fun h v=>Ã (ą [tI] h v) k)=Vr x.1 x.2 k:=by kernel_rfl
def NL:(AZ ρ).Ok (tV ρ):=⟨by kernel_rfl,fun p v kn kx=>by kernel_rfl⟩
def NK:(AY ρ).Ok (tV ρ):=⟨by kernel_rfl,fun p v kn kx=>by kernel_rfl⟩
def Vv (x:Val (.pair Ä (.pair Ð tI))) (k:Bool→Option ρ) :
    Ĉ (tV ρ) 169 (ÿ [Ä,Ð,tI] x) (fun h v=>Ã (ą [.bool] h v) k)=NM x.1 x.2.1 x.2.2 k:=by kernel_rfl
def Ln:(xp ρ).Ok (gQ ρ):=⟨by kernel_rfl,fun p v kn kx=>by kernel_rfl⟩
def Lm:(xo ρ).Ok (gQ ρ):=⟨by kernel_rfl,fun p v kn kx=>by kernel_rfl⟩
def Ll:(xn ρ).Ok (gQ ρ):=⟨by kernel_rfl,fun p v kn kx=>by kernel_rfl⟩
def Lh:(xg ρ).Ok (gQ ρ):=⟨by kernel_rfl,fun p v kn kx=>by kernel_rfl⟩
def Li:(xi ρ).Ok (gQ ρ):=⟨by kernel_rfl,fun p v kn kx=>by kernel_rfl⟩
def Lj:(xl ρ).Ok (gQ ρ):=⟨by kernel_rfl,fun p v kn kx=>by kernel_rfl⟩
def Rp (x:Val Ä) (k:(Val aa)→Option ρ) :
    Ĉ (gQ ρ) 102 (ÿ [Ä] x) (fun h v=>Ã (ą [aa] h v) k)=HV x k:=by kernel_rfl
def Lp:(xq ρ).Ok (xr ρ):=⟨by kernel_rfl,fun p v kn kx=>by kernel_rfl⟩
def Rs (x:Val aD) (k:Int→Option ρ) :
    Ĉ (xr ρ) 52 (ÿ [Ä,Â] x) (fun h v=>Ã (ą [tI] h v) k)=HW x.1 x.2 k:=by kernel_rfl
def NN:(A0 ρ).Ok (Cy ρ):=⟨by kernel_rfl,fun p v kn kx=>by kernel_rfl⟩
def Vw (x:Val aD) (k:Bool→Option ρ) :
    Ĉ (Cy ρ) 212 (ÿ [Ä,tI,tI] x) (fun h v=>Ã (ą [.bool] h v) k)=NP x.1 x.2.1 x.2.2 k:=by kernel_rfl
def NY:(A4 ρ).Ok (CB ρ):=⟨by kernel_rfl,fun p v kn kx=>by kernel_rfl⟩
def VF (x:Val (.pair Ä Ą)) (k:Int→Option ρ) :
    Ĉ (CB ρ) 170 (ÿ [Ä,tI,tI,tI] x) (fun h v=>Ã (ą [tI] h v) k)=NZ x.1 x.2.1 x.2.2.1 x.2.2.2 k:=by kernel_rfl
def Oo (x:Val Â) (k:Val Ķ→Option ρ) :
    Ĉ (Ez ρ) 285 (ÿ [tI,tI] x) (fun h v=>Ã (ą [Ķ] h v) k)=CH x.1 x.2 k:=by kernel_rfl
def ZK (x:Val ã) (k:Val Ķ→Option ρ) :
    Ĉ (TP ρ) 268 (ÿ [Â,Â] x) (fun h v=>Ã (ą [Ķ] h v) k)=V3 x.1 x.2 k:=by kernel_rfl
def ZG (x:Val Â) (k:Val Â→Option ρ) :
    Ĉ (TN ρ) 269 (ÿ [Â] x) (fun h v=>Ã (ą [Â] h v) k)=VX x k:=by kernel_rfl
def ZF (x:Val ã) (k:Val Ķ→Option ρ) :
    Ĉ (TM ρ) 242 (ÿ [Â,Â] x) (fun h v=>Ã (ą [Ķ] h v) k)=VV x.1 x.2 k:=by kernel_rfl
def Re (x:Val aG) (k:Val Â→Option ρ) :
    Ĉ (JQ ρ) 243 (ÿ [Ä,tI] x) (fun h v=>Ã (ą [Â] h v) k)=HQ x.1 x.2 k:=by kernel_rfl
def VT (x:Val (.pair Ķ Ķ)) (k:Val rL→Option ρ) :
    Ĉ (Ou ρ) 270 (ÿ [Ķ,Ķ] x) (fun h v=>Ã (ą [rL] h v) k)=Ov x.1 x.2 k:=by kernel_rfl
def ZH (x:Val ã) (k:Val Ķ→Option ρ) :
    Ĉ (TO ρ) 271 (ÿ [Â,Â] x) (fun h v=>Ã (ą [Ķ] h v) k)=VY x.1 x.2 k:=by kernel_rfl
def RC (x:Val (.pair ã Â)) (k:Val rL→Option ρ) :
    Ĉ (JZ ρ) 244 (ÿ [ã,Â] x) (fun h v=>Ã (ą [rL] h v) k)=H7 x.1 x.2 k:=by kernel_rfl
def N8 (x:Val aB) (k:Val ã→Option ρ) :
    Ĉ (Ex ρ) 205 (ÿ [Ä,Ì] x) (fun h v=>Ã (ą [ã] h v) k)=CE x.1 x.2 k:=by kernel_rfl
def Rw (x:Val aB) (k:Val Â→Option ρ) :
    Ĉ (JV ρ) 206 (ÿ [Ä,Ì] x) (fun h v=>Ã (ą [Â] h v) k)=HY x.1 x.2 k:=by kernel_rfl
def acu (x:Val Â) (k:Int→Option ρ) :
    Ĉ (ZC ρ) 245 (ÿ [tI,tI] x) (fun h v=>Ã (ą [tI] h v) k)=acv x.1 x.2 k:=by kernel_rfl
end Go.Proofs.ZzM
end
