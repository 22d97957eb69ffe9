/- lemmas -/
import Derived.Test.YtmadligicacpkaaGreatMdMA
set_option linter.all false
set_option linter.unusedSectionVars false
set_option linter.unusedVariables false
set_option linter.unusedSimpArgs false
noncomputable section
variable {ρ:Type}
set_option maxRecDepth 100000
namespace Go.Proofs.ZzM
open Go Go.Am
def SJ (x:Val (.pair ÿ tI)) (k:Int→Option ρ) :
    ĉ (KD ρ) 154 (Ă [ÿ,tI] x) (fun h v=>Ã (Ć [tI] h v) k)=IP x.1 x.2 k:=by kernel_rfl
def E8 (x:Val (.pair ŵ tI)) (k:Val Â→Option ρ) :
    ĉ (wm ρ) 86 (Ă [ŵ,tI] x) (fun h v=>Ã (Ć [Â] h v) k)=rB x.1 x.2 k:=by kernel_rfl
def AH:(pm ρ).Ok (j4 ρ):=⟨by kernel_rfl,fun p v kn kx=>by kernel_rfl⟩
def AI:(po ρ).Ok (j4 ρ):=⟨by kernel_rfl,fun p v kn kx=>by kernel_rfl⟩
def E9 (x:Val (.pair ŵ ae)) (k:(Val ae)→Option ρ) :
    ĉ (j4 ρ) 88 (Ă [ŵ,ae] x) (fun h v=>Ã (Ć [ae] h v) k)=rC x.1 x.2 k:=by kernel_rfl
def yb:(nR ρ).Ok (mf ρ):=⟨by kernel_rfl,fun p v kn kx=>by kernel_rfl⟩
def C5 (x:Val ŵ) (k:Int→Option ρ) :
    ĉ (mf ρ) 77 (Ă [ŵ] x) (fun h v=>Ã (Ć [tI] h v) k)=pl x k:=by kernel_rfl
def Pm:(BD ρ).Ok (Dg ρ):=⟨by kernel_rfl,fun p v kn kx=>by kernel_rfl⟩
def WY (x:Val (.pair Ä aW)) (k:Val Â→Option ρ) :
    ĉ (Dg ρ) 31 (Ă [Ä,Â,Í] x) (fun h v=>Ã (Ć [tI,tI] h v) k)=Pn x.1 x.2.1 x.2.2 k:=by kernel_rfl
def IW (x:Val tI) (k:Int→Option ρ) :
    ĉ (yp ρ) 83 (Ă [tI] x) (fun h v=>Ã (Ć [tI] h v) k)=uN x k:=by kernel_rfl
def IM (x:Val (.pair ÿ tI)) (k:(Val ae)→Option ρ) :
    ĉ (ym ρ) 84 (Ă [ÿ,tI] x) (fun h v=>Ã (Ć [ae] h v) k)=uJ x.1 x.2 k:=by kernel_rfl
def FM:(((rr (đ ρ).P 47).elim [] (î 0)).filter fun y=>Nat.beq y.1 0).length=1:=by kernel_rfl
def FN (p:Val au) (v:Val aC) (kn:Val au→Val aC→Option ρ) (kx:(i:Nat)→Val au→Val (tyL (Ο.zs i))→Option ρ) :
    goC (đ ρ) (jX (đ ρ) (10-2 / 2)) 47 [1,3] 5 0 (Lf (rr (đ ρ).P 47) 0) (i7 Ο.head Ο.cs Ο.vs p v) (YW Ο kn kx)=(nF ρ).bF p v (kn p) (fun i=>kx i p):=by kernel_rfl
def IV:(nF ρ).Ok (đ ρ):=⟨FM,FN⟩
def FK:(((rr (đ ρ).P 155).elim [] (î 0)).filter fun y=>Nat.beq y.1 0).length=1:=by kernel_rfl
def FL (p:Val ao) (v:Val tI) (kn:Val ao→Val tI→Option ρ) (kx:(i:Nat)→Val ao→Val (tyL (Ξ.zs i))→Option ρ) :
    goC (đ ρ) (jX (đ ρ) (10-4 / 2)) 155 [18,4,1,2] 12 0 (Lf (rr (đ ρ).P 155) 0) (i7 Ξ.head Ξ.cs Ξ.vs p v) (YW Ξ kn kx)=(nE ρ).bF p v (kn p) (fun i=>kx i p):=by kernel_rfl
def IU:(nE ρ).Ok (đ ρ):=⟨FK,FL⟩
def Pp (x:Val (.pair Ä (.pair Â aW))) (k:(Val aV)→Option ρ) :
    ĉ (uM ρ) 35 (Ă [Ä,Â,Â,Í] x) (fun h v=>Ã (Ć [.bool,tI] h v) k)=Di x.1 x.2.1 x.2.2.1 x.2.2.2 k:=by kernel_rfl
def PJ:(BV ρ).Ok (kj ρ):=⟨by kernel_rfl,fun p v kn kx=>by kernel_rfl⟩
def PF:(BM ρ).Ok (kj ρ):=⟨by kernel_rfl,fun p v kn kx=>by kernel_rfl⟩
def PG:(BO ρ).Ok (kj ρ):=⟨by kernel_rfl,fun p v kn kx=>by kernel_rfl⟩
def PH:(BQ ρ).Ok (kj ρ):=⟨by kernel_rfl,fun p v kn kx=>by kernel_rfl⟩
def PI:(BT ρ).Ok (kj ρ):=⟨by kernel_rfl,fun p v kn kx=>by kernel_rfl⟩
def Xc (x:Val Ì) (k:(Val aE)→Option ρ) :
    ĉ (kj ρ) 91 (Ă [Ì] x) (fun h v=>Ã (Ć [ae,tI] h v) k)=PK x k:=by kernel_rfl
def W5 (x:Val Ä) (k:(Val (.pair υ tI))→Option ρ) :
    ĉ (Pu ρ) 38 (Ă [Ä] x) (fun h v=>Ã (Ć [υ,tI] h v) k)=Pv x k:=by kernel_rfl
def LI (x:Unit) (k:Val Ä→Option ρ) :
    ĉ (A5 ρ) 44 (Ă [] x) (fun h v=>Ã (Ć [Ä] h v) k)=xq k:=by kernel_rfl
def aan (x:Val aE) (k:Bool→Option ρ) :
    ĉ (Uq ρ) 106 (Ă [ae,tI] x) (fun h v=>Ã (Ć [.bool] h v) k)=WM x.1 x.2 k:=by kernel_rfl
def WQ (x:Val tI) (k:Bool→Option ρ) :
    ĉ (Ph ρ) 107 (Ă [tI] x) (fun h v=>Ã (Ć [.bool] h v) k)=Pj x k:=by kernel_rfl
def Pd:(By ρ).Ok (Dc ρ):=⟨by kernel_rfl,fun p v kn kx=>by kernel_rfl⟩
def WO (x:Val aO) (k:(Val aa)→Option ρ) :
    ĉ (Dc ρ) 108 (Ă [tI,am] x) (fun h v=>Ã (Ć [aa] h v) k)=Pe x.1 x.2 k:=by kernel_rfl
def SQ:(FQ ρ).Ok (zQ ρ):=⟨by kernel_rfl,fun p v kn kx=>by kernel_rfl⟩
def SP:(FO ρ).Ok (zQ ρ):=⟨by kernel_rfl,fun p v kn kx=>by kernel_rfl⟩
def aaz (x:Val (.pair Ä ay)) (k:Val Ł→Option ρ) :
    ĉ (zQ ρ) 45 (Ă [Ä,tI,ae] x) (fun h v=>Ã (Ć [Â,tI] h v) k)=W0 x.1 x.2.1 x.2.2 k:=by kernel_rfl
def F8 (x:Val aU) (k:Int→Option ρ) :
    ĉ (wJ ρ) 92 (Ă [Ì,ae] x) (fun h v=>Ã (Ć [tI] h v) k)=rP x.1 x.2 k:=by kernel_rfl
def FV (x:Val υ) (k:Int→Option ρ) :
    ĉ (wy ρ) 39 (Ă [υ] x) (fun h v=>Ã (Ć [tI] h v) k)=rK x k:=by kernel_rfl
def ke:(Η ρ).Ok (Ő ρ):=⟨by kernel_rfl,fun p v kn kx=>by kernel_rfl⟩
def kS (x:Val (.pair ac Ñ)) (k:Int→Option ρ) :
    ĉ (Ő ρ) 248 (Ă [ac,Ñ] x) (fun h v=>Ã (Ć [tI] h v) k)=ũ x.1 x.2 k:=by kernel_rfl
def jP (x:Val (.pair ac Ñ)) (k:Bool→Option ρ) :
    ĉ (Ι ρ) 216 (Ă [ac,Ñ] x) (fun h v=>Ã (Ć [.bool] h v) k)=ŋ x.1 x.2 k:=by kernel_rfl
def l9:(ik ρ).Ok (Ź ρ):=⟨by kernel_rfl,fun p v kn kx=>by kernel_rfl⟩
def nD (x:Val aX) (k:Int→Option ρ) :
    ĉ (Ź ρ) 250 (Ă [aa,Â] x) (fun h v=>Ã (Ć [tI] h v) k)=ι x.1 x.2 k:=by kernel_rfl
def lQ (x:Val aX) (k:Bool→Option ρ) :
    ĉ (il ρ) 219 (Ă [aa,Â] x) (fun h v=>Ã (Ć [.bool] h v) k)=ŭ x.1 x.2 k:=by kernel_rfl
def kR:(gR ρ).Ok (Ũ ρ):=⟨by kernel_rfl,fun p v kn kx=>by kernel_rfl⟩
def md (x:Val (.pair af ō)) (k:Int→Option ρ) :
    ĉ (Ũ ρ) 252 (Ă [af,ō] x) (fun h v=>Ã (Ć [tI] h v) k)=Ż x.1 x.2 k:=by kernel_rfl
def kK (x:Val (.pair af ō)) (k:Bool→Option ρ) :
    ĉ (gT ρ) 222 (Ă [af,ō] x) (fun h v=>Ã (Ć [.bool] h v) k)=ś x.1 x.2 k:=by kernel_rfl
def SG:(FD ρ).Ok (Ν ρ):=⟨by kernel_rfl,fun p v kn kx=>by kernel_rfl⟩
def SD:(Fx ρ).Ok (Ν ρ):=⟨by kernel_rfl,fun p v kn kx=>by kernel_rfl⟩
def SC:(Fv ρ).Ok (Ν ρ):=⟨by kernel_rfl,fun p v kn kx=>by kernel_rfl⟩
def SE:(Fz ρ).Ok (Ν ρ):=⟨by kernel_rfl,fun p v kn kx=>by kernel_rfl⟩
def SF:(FB ρ).Ok (Ν ρ):=⟨by kernel_rfl,fun p v kn kx=>by kernel_rfl⟩
def SB:(Ft ρ).Ok (Ν ρ):=⟨by kernel_rfl,fun p v kn kx=>by kernel_rfl⟩
def SA:(Fr ρ).Ok (Ν ρ):=⟨by kernel_rfl,fun p v kn kx=>by kernel_rfl⟩
def Sz:(Fp ρ).Ok (Ν ρ):=⟨by kernel_rfl,fun p v kn kx=>by kernel_rfl⟩
def Sy:(Fm ρ).Ok (Ν ρ):=⟨by kernel_rfl,fun p v kn kx=>by kernel_rfl⟩
def Sx:(Fk ρ).Ok (Ν ρ):=⟨by kernel_rfl,fun p v kn kx=>by kernel_rfl⟩
def aao (x:Val (.pair Ä Ä)) (k:Bool→Option ρ) :
    ĉ (Ν ρ) 109 (Ă [Ä,Ä] x) (fun h v=>Ã (Ć [.bool] h v) k)=WN x.1 x.2 k:=by kernel_rfl
def SO (x:Val (.pair Ä υ)) (k:(Val aV)→Option ρ) :
    ĉ (KJ ρ) 46 (Ă [Ä,υ] x) (fun h v=>Ã (Ć [.bool,tI] h v) k)=IT x.1 x.2 k:=by kernel_rfl
def Oa (x:Unit) (k:Bool→Option ρ) :
    ĉ (EB ρ) 11 (Ă [] x) (fun h v=>Ã (Ć [.bool] h v) k)=CM k:=by kernel_rfl
def LK (x:Val ä) (k:Bool→Option ρ) :
    ĉ (Ba ρ) 94 (Ă [Â,tI,tI] x) (fun h v=>Ã (Ć [.bool] h v) k)=xv x.1 x.2.1 x.2.2 k:=by kernel_rfl
def ac1 (x:Val ÿ) (k:Bool→Option ρ) :
    ĉ (Z9 ρ) 164 (Ă [tI,tI,tI] x) (fun h v=>Ã (Ć [.bool] h v) k)=ac2 x.1 x.2.1 x.2.2 k:=by kernel_rfl
def aac (x:Val tI) (k:Bool→Option ρ) :
    ĉ (Uk ρ) 100 (Ă [tI] x) (fun h v=>Ã (Ć [.bool] h v) k)=Wv x k:=by kernel_rfl
def Sr:(E5 ρ).Ok (IB ρ):=⟨by kernel_rfl,fun p v kn kx=>by kernel_rfl⟩
def aaj (x:Val Â) (k:Int→Option ρ) :
    ĉ (IB ρ) 209 (Ă [tI,tI] x) (fun h v=>Ã (Ć [tI] h v) k)=WG x.1 x.2 k:=by kernel_rfl
def aam (x:Val tI) (k:Int→Option ρ) :
    ĉ (Up ρ) 210 (Ă [tI] x) (fun h v=>Ã (Ć [tI] h v) k)=WL x k:=by kernel_rfl
def Sn (x:Val Â) (k:Bool→Option ρ) :
    ĉ (Ks ρ) 163 (Ă [Â] x) (fun h v=>Ã (Ć [.bool] h v) k)=Iz x k:=by kernel_rfl
def RO (x:Val Ñ) (k:Bool→Option ρ) :
    ĉ (Kl ρ) 95 (Ă [Ñ] x) (fun h v=>Ã (Ć [.bool] h v) k)=Im x k:=by kernel_rfl
def OP:(Br ρ).Ok (C2 ρ):=⟨by kernel_rfl,fun p v kn kx=>by kernel_rfl⟩
def Wt (x:Val aI) (k:Int→Option ρ) :
    ĉ (C2 ρ) 166 (Ă [Ä,tI] x) (fun h v=>Ã (Ć [tI] h v) k)=OQ x.1 x.2 k:=by kernel_rfl
def RX (x:Val aD) (k:Int→Option ρ) :
    ĉ (Kn ρ) 101 (Ă [Ä,tI,tI] x) (fun h v=>Ã (Ć [tI] h v) k)=Ip x.1 x.2.1 x.2.2 k:=by kernel_rfl
def Oe:(A9 ρ).Ok (CQ ρ):=⟨by kernel_rfl,fun p v kn kx=>by kernel_rfl⟩
def V3 (x:Val Ä) (k:Int→Option ρ) :
    ĉ (CQ ρ) 96 (Ă [Ä] x) (fun h v=>Ã (Ć [tI] h v) k)=Og x k:=by kernel_rfl
def LM:(xx ρ).Ok (mW ρ):=⟨by kernel_rfl,fun p v kn kx=>by kernel_rfl⟩
def LL:(xw ρ).Ok (mW ρ):=⟨by kernel_rfl,fun p v kn kx=>by kernel_rfl⟩
def LN:(xy ρ).Ok (mW ρ):=⟨by kernel_rfl,fun p v kn kx=>by kernel_rfl⟩
def RM (x:Val Ä) (k:Int→Option ρ) :
    ĉ (mW ρ) 97 (Ă [Ä] x) (fun h v=>Ã (Ć [tI] h v) k)=Ik x k:=by kernel_rfl
def Ox:(Bk ρ).Ok (CX ρ):=⟨by kernel_rfl,fun p v kn kx=>by kernel_rfl⟩
def Wi (x:Val ae) (k:Bool→Option ρ) :
    ĉ (CX ρ) 165 (Ă [ae] x) (fun h v=>Ã (Ć [.bool] h v) k)=Oy x k:=by kernel_rfl
def RL (x:Val Í) (k:Bool→Option ρ) :
    ĉ (Ki ρ) 98 (Ă [Í] x) (fun h v=>Ã (Ć [.bool] h v) k)=Ij x k:=by kernel_rfl
def OH:(Bo ρ).Ok (CZ ρ):=⟨by kernel_rfl,fun p v kn kx=>by kernel_rfl⟩
def Wo (x:Val aD) (k:(Val bf)→Option ρ) :
    ĉ (CZ ρ) 167 (Ă [Ä,tI,tI] x) (fun h v=>Ã (Ć [ō,.bool] h v) k)=OI x.1 x.2.1 x.2.2 k:=by kernel_rfl
def Se:(EV ρ).Ok (Iu ρ):=⟨by kernel_rfl,fun p v kn kx=>by kernel_rfl⟩
def aaa (x:Val aE) (k:Bool→Option ρ) :
    ĉ (Iu ρ) 211 (Ă [ae,tI] x) (fun h v=>Ã (Ć [.bool] h v) k)=Ws x.1 x.2 k:=by kernel_rfl
def OJ:(Bp ρ).Ok (C0 ρ):=⟨by kernel_rfl,fun p v kn kx=>by kernel_rfl⟩
def Wp (x:Val bc) (k:(Val ae)→Option ρ) :
    ĉ (C0 ρ) 168 (Ă [ae,ae] x) (fun h v=>Ã (Ć [ae] h v) k)=OK x.1 x.2 k:=by kernel_rfl
def CU:(qr ρ).Ok (jc ρ):=⟨by kernel_rfl,fun p v kn kx=>by kernel_rfl⟩
def CT:(qq ρ).Ok (jc ρ):=⟨by kernel_rfl,fun p v kn kx=>by kernel_rfl⟩
def CS:(qp ρ).Ok (jc ρ):=⟨by kernel_rfl,fun p v kn kx=>by kernel_rfl⟩
def Io (x:Val aB) (k:Int→Option ρ) :
    ĉ (jc ρ) 99 (Ă [Ä,Í] x) (fun h v=>Ã (Ć [tI] h v) k)=ut x.1 x.2 k:=by kernel_rfl
def ZZ (x:Val bc) (k:Int→Option ρ) :
    ĉ (Uj ρ) 158 (Ă [ae,ae] x) (fun h v=>Ã (Ć [tI] h v) k)=V5 x.1 x.2 k:=by kernel_rfl
def On:(Bh ρ).Ok (uw ρ):=⟨by kernel_rfl,fun p v kn kx=>by kernel_rfl⟩
def Om:(Bg ρ).Ok (uw ρ):=⟨by kernel_rfl,fun p v kn kx=>by kernel_rfl⟩
def V9 (x:Val (.pair Ä (.pair Ñ tI))) (k:Bool→Option ρ) :
    ĉ (uw ρ) 169 (Ă [Ä,Ñ,tI] x) (fun h v=>Ã (Ć [.bool] h v) k)=Oo x.1 x.2.1 x.2.2 k:=by kernel_rfl
def LV:(xI ρ).Ok (ip ρ):=⟨by kernel_rfl,fun p v kn kx=>by kernel_rfl⟩
def LU:(xH ρ).Ok (ip ρ):=⟨by kernel_rfl,fun p v kn kx=>by kernel_rfl⟩
def LS:(xG ρ).Ok (ip ρ):=⟨by kernel_rfl,fun p v kn kx=>by kernel_rfl⟩
def LP:(xA ρ).Ok (ip ρ):=⟨by kernel_rfl,fun p v kn kx=>by kernel_rfl⟩
def LQ:(xC ρ).Ok (ip ρ):=⟨by kernel_rfl,fun p v kn kx=>by kernel_rfl⟩
def LR:(xE ρ).Ok (ip ρ):=⟨by kernel_rfl,fun p v kn kx=>by kernel_rfl⟩
def RZ (x:Val Ä) (k:(Val aa)→Option ρ) :
    ĉ (ip ρ) 102 (Ă [Ä] x) (fun h v=>Ã (Ć [aa] h v) k)=Iq x k:=by kernel_rfl
def LW:(xJ ρ).Ok (xK ρ):=⟨by kernel_rfl,fun p v kn kx=>by kernel_rfl⟩
def Sd (x:Val aD) (k:Int→Option ρ) :
    ĉ (xK ρ) 52 (Ă [Ä,Â] x) (fun h v=>Ã (Ć [tI] h v) k)=Ir x.1 x.2 k:=by kernel_rfl
def Oq:(Bi ρ).Ok (CV ρ):=⟨by kernel_rfl,fun p v kn kx=>by kernel_rfl⟩
def Wb (x:Val aD) (k:Bool→Option ρ) :
    ĉ (CV ρ) 212 (Ă [Ä,tI,tI] x) (fun h v=>Ã (Ć [.bool] h v) k)=Ot x.1 x.2.1 x.2.2 k:=by kernel_rfl
def OC:(Bm ρ).Ok (CY ρ):=⟨by kernel_rfl,fun p v kn kx=>by kernel_rfl⟩
def Wm (x:Val (.pair Ä ÿ)) (k:Int→Option ρ) :
    ĉ (CY ρ) 170 (Ă [Ä,tI,tI,tI] x) (fun h v=>Ã (Ć [tI] h v) k)=OD x.1 x.2.1 x.2.2.1 x.2.2.2 k:=by kernel_rfl
def O3 (x:Val Â) (k:Val Ł→Option ρ) :
    ĉ (EY ρ) 285 (Ă [tI,tI] x) (fun h v=>Ã (Ć [Ł] h v) k)=C4 x.1 x.2 k:=by kernel_rfl
def aal (x:Val ä) (k:Val Ł→Option ρ) :
    ĉ (Uo ρ) 268 (Ă [Â,Â] x) (fun h v=>Ã (Ć [Ł] h v) k)=WK x.1 x.2 k:=by kernel_rfl
def aah (x:Val Â) (k:Val Â→Option ρ) :
    ĉ (Um ρ) 269 (Ă [Â] x) (fun h v=>Ã (Ć [Â] h v) k)=WD x k:=by kernel_rfl
def aag (x:Val ä) (k:Val Ł→Option ρ) :
    ĉ (Ul ρ) 242 (Ă [Â,Â] x) (fun h v=>Ã (Ć [Ł] h v) k)=WB x.1 x.2 k:=by kernel_rfl
def RN (x:Val aI) (k:Val Â→Option ρ) :
    ĉ (Kk ρ) 243 (Ă [Ä,tI] x) (fun h v=>Ã (Ć [Â] h v) k)=Il x.1 x.2 k:=by kernel_rfl
def Wz (x:Val (.pair Ł Ł)) (k:Val sg→Option ρ) :
    ĉ (O6 ρ) 270 (Ă [Ł,Ł] x) (fun h v=>Ã (Ć [sg] h v) k)=O7 x.1 x.2 k:=by kernel_rfl
def aai (x:Val ä) (k:Val Ł→Option ρ) :
    ĉ (Un ρ) 271 (Ă [Â,Â] x) (fun h v=>Ã (Ć [Ł] h v) k)=WE x.1 x.2 k:=by kernel_rfl
def Sq (x:Val (.pair ä Â)) (k:Val sg→Option ρ) :
    ĉ (Ku ρ) 244 (Ă [ä,Â] x) (fun h v=>Ã (Ć [sg] h v) k)=IA x.1 x.2 k:=by kernel_rfl
def OO (x:Val aB) (k:Val ä→Option ρ) :
    ĉ (EW ρ) 205 (Ă [Ä,Í] x) (fun h v=>Ã (Ć [ä] h v) k)=C1 x.1 x.2 k:=by kernel_rfl
def Sh (x:Val aB) (k:Val Â→Option ρ) :
    ĉ (Kq ρ) 206 (Ă [Ä,Í] x) (fun h v=>Ã (Ć [Â] h v) k)=Iv x.1 x.2 k:=by kernel_rfl
def ac5 (x:Val Â) (k:Int→Option ρ) :
    ĉ (aad ρ) 245 (Ă [tI,tI] x) (fun h v=>Ã (Ć [tI] h v) k)=ac6 x.1 x.2 k:=by kernel_rfl
end Go.Proofs.ZzM
end
