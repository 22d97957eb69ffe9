/- lemmas -/
import Derived.Test.YtmadligicacpkaaGreatMdMA
set_option linter.all false
set_option linter.unusedSectionVars false
set_option linter.unusedVariables false
set_option linter.unusedSimpArgs false
noncomputable section
variable {ρ:Type}
set_option maxRecDepth 100000
namespace Go.Proofs.ZzM
open Go Go.Am
def Tg (x:Val (.pair Ĉ tI)) (k:Int→Option ρ) :
    Ċ (K3 ρ) 154 (Ă [Ĉ,tI] x) (fun h v=>Ä (Ć [tI] h v) k)=I9 x.1 x.2 k:=by kernel_rfl
def Fx (x:Val (.pair Ź tI)) (k:Val Ã→Option ρ) :
    Ċ (wL ρ) 86 (Ă [Ź,tI] x) (fun h v=>Ä (Ć [Ã] h v) k)=sc x.1 x.2 k:=by kernel_rfl
def A7:(pO ρ).Ok (j7 ρ):=⟨by kernel_rfl,fun p v kn kx=>by kernel_rfl⟩
def A8:(pQ ρ).Ok (j7 ρ):=⟨by kernel_rfl,fun p v kn kx=>by kernel_rfl⟩
def Fy (x:Val (.pair Ź ae)) (k:(Val ae)→Option ρ) :
    Ċ (j7 ρ) 88 (Ă [Ź,ae] x) (fun h v=>Ä (Ć [ae] h v) k)=sd x.1 x.2 k:=by kernel_rfl
def yy:(ot ρ).Ok (mu ρ):=⟨by kernel_rfl,fun p v kn kx=>by kernel_rfl⟩
def Dr (x:Val Ź) (k:Int→Option ρ) :
    Ċ (mu ρ) 77 (Ă [Ź] x) (fun h v=>Ä (Ć [tI] h v) k)=pN x k:=by kernel_rfl
def PI:(B6 ρ).Ok (Dz ρ):=⟨by kernel_rfl,fun p v kn kx=>by kernel_rfl⟩
def Xu (x:Val (.pair Å aI)) (k:Val Ã→Option ρ) :
    Ċ (Dz ρ) 31 (Ă [Å,Ã,É] x) (fun h v=>Ä (Ć [tI,tI] h v) k)=PJ x.1 x.2.1 x.2.2 k:=by kernel_rfl
def Je (x:Val tI) (k:Int→Option ρ) :
    Ċ (yL ρ) 83 (Ă [tI] x) (fun h v=>Ä (Ć [tI] h v) k)=vp x k:=by kernel_rfl
def I8 (x:Val (.pair Ĉ tI)) (k:(Val ae)→Option ρ) :
    Ċ (yJ ρ) 84 (Ă [Ĉ,tI] x) (fun h v=>Ä (Ć [ae] h v) k)=vl x.1 x.2 k:=by kernel_rfl
def F4:(((rV (ē ρ).P 47).elim [] (ó 0)).filter fun y=>Nat.beq y.1 0).length=1:=by kernel_rfl
def F5 (p:Val au) (v:Val aD) (kn:Val au→Val aD→Option ρ) (kx:(i:Nat)→Val au→Val (tyL (Ο.zs i))→Option ρ) :
    goC (ē ρ) (jZ (ē ρ) (10-2 / 2)) 47 [1,3] 5 0 (LD (rV (ē ρ).P 47) 0) (jb Ο.head Ο.cs Ο.vs p v) (Zm Ο kn kx)=(oh ρ).bF p v (kn p) (fun i=>kx i p):=by kernel_rfl
def Jd:(oh ρ).Ok (ē ρ):=⟨F4,F5⟩
def F2:(((rV (ē ρ).P 155).elim [] (ó 0)).filter fun y=>Nat.beq y.1 0).length=1:=by kernel_rfl
def F3 (p:Val ao) (v:Val tI) (kn:Val ao→Val tI→Option ρ) (kx:(i:Nat)→Val ao→Val (tyL (Ξ.zs i))→Option ρ) :
    goC (ē ρ) (jZ (ē ρ) (10-4 / 2)) 155 [18,4,1,2] 12 0 (LD (rV (ē ρ).P 155) 0) (jb Ξ.head Ξ.cs Ξ.vs p v) (Zm Ξ kn kx)=(og ρ).bF p v (kn p) (fun i=>kx i p):=by kernel_rfl
def Jc:(og ρ).Ok (ē ρ):=⟨F2,F3⟩
def PK (x:Val bc) (k:(Val aU)→Option ρ) :
    Ċ (vn ρ) 35 (Ă [Å,Ã,Ã,É] x) (fun h v=>Ä (Ć [.bool,tI] h v) k)=DA x.1 x.2.1 x.2.2.1 x.2.2.2 k:=by kernel_rfl
def P1:(Cm ρ).Ok (kq ρ):=⟨by kernel_rfl,fun p v kn kx=>by kernel_rfl⟩
def PX:(Ce ρ).Ok (kq ρ):=⟨by kernel_rfl,fun p v kn kx=>by kernel_rfl⟩
def PY:(Cg ρ).Ok (kq ρ):=⟨by kernel_rfl,fun p v kn kx=>by kernel_rfl⟩
def PZ:(Ci ρ).Ok (kq ρ):=⟨by kernel_rfl,fun p v kn kx=>by kernel_rfl⟩
def P0:(Ck ρ).Ok (kq ρ):=⟨by kernel_rfl,fun p v kn kx=>by kernel_rfl⟩
def XF (x:Val Í) (k:(Val aH)→Option ρ) :
    Ċ (kq ρ) 91 (Ă [Í] x) (fun h v=>Ä (Ć [ae,tI] h v) k)=P2 x k:=by kernel_rfl
def Xy (x:Val Å) (k:(Val (.pair χ tI))→Option ρ) :
    Ċ (PO ρ) 38 (Ă [Å] x) (fun h v=>Ä (Ć [χ,tI] h v) k)=PP x k:=by kernel_rfl
def L3 (x:Unit) (k:Val Å→Option ρ) :
    Ċ (Bq ρ) 44 (Ă [] x) (fun h v=>Ä (Ć [Å] h v) k)=xK k:=by kernel_rfl
def aaV (x:Val aH) (k:Bool→Option ρ) :
    Ċ (UM ρ) 106 (Ă [ae,tI] x) (fun h v=>Ä (Ć [.bool] h v) k)=Xi x.1 x.2 k:=by kernel_rfl
def Xm (x:Val tI) (k:Bool→Option ρ) :
    Ċ (PE ρ) 107 (Ă [tI] x) (fun h v=>Ä (Ć [.bool] h v) k)=PF x k:=by kernel_rfl
def PA:(BZ ρ).Ok (Dw ρ):=⟨by kernel_rfl,fun p v kn kx=>by kernel_rfl⟩
def Xk (x:Val aO) (k:(Val aa)→Option ρ) :
    Ċ (Dw ρ) 108 (Ă [tI,am] x) (fun h v=>Ä (Ć [aa] h v) k)=PB x.1 x.2 k:=by kernel_rfl
def Tm:(F8 ρ).Ok (Ai ρ):=⟨by kernel_rfl,fun p v kn kx=>by kernel_rfl⟩
def Tl:(F6 ρ).Ok (Ai ρ):=⟨by kernel_rfl,fun p v kn kx=>by kernel_rfl⟩
def aa7 (x:Val (.pair Å ar)) (k:Val Ĵ→Option ρ) :
    Ċ (Ai ρ) 45 (Ă [Å,tI,ae] x) (fun h v=>Ä (Ć [Ã,tI] h v) k)=Xw x.1 x.2.1 x.2.2 k:=by kernel_rfl
def Gr (x:Val bg) (k:Int→Option ρ) :
    Ċ (w9 ρ) 92 (Ă [Í,ae] x) (fun h v=>Ä (Ć [tI] h v) k)=sq x.1 x.2 k:=by kernel_rfl
def Gd (x:Val χ) (k:Int→Option ρ) :
    Ċ (wS ρ) 39 (Ă [χ] x) (fun h v=>Ä (Ć [tI] h v) k)=sj x k:=by kernel_rfl
def kh:(Ζ ρ).Ok (ő ρ):=⟨by kernel_rfl,fun p v kn kx=>by kernel_rfl⟩
def kY (x:Val (.pair ac Ð)) (k:Int→Option ρ) :
    Ċ (ő ρ) 248 (Ă [ac,Ð] x) (fun h v=>Ä (Ć [tI] h v) k)=ţ x.1 x.2 k:=by kernel_rfl
def jR (x:Val (.pair ac Ð)) (k:Bool→Option ρ) :
    Ċ (Θ ρ) 216 (Ă [ac,Ð] x) (fun h v=>Ä (Ć [.bool] h v) k)=ŋ x.1 x.2 k:=by kernel_rfl
def ml:(ir ρ).Ok (Ż ρ):=⟨by kernel_rfl,fun p v kn kx=>by kernel_rfl⟩
def od (x:Val aV) (k:Int→Option ρ) :
    Ċ (Ż ρ) 250 (Ă [aa,Ã] x) (fun h v=>Ä (Ć [tI] h v) k)=η x.1 x.2 k:=by kernel_rfl
def lY (x:Val aV) (k:Bool→Option ρ) :
    Ċ (iu ρ) 219 (Ă [aa,Ã] x) (fun h v=>Ä (Ć [.bool] h v) k)=ŭ x.1 x.2 k:=by kernel_rfl
def kX:(gU ρ).Ok (Ţ ρ):=⟨by kernel_rfl,fun p v kn kx=>by kernel_rfl⟩
def mn (x:Val (.pair af ō)) (k:Int→Option ρ) :
    Ċ (Ţ ρ) 252 (Ă [af,ō] x) (fun h v=>Ä (Ć [tI] h v) k)=Ž x.1 x.2 k:=by kernel_rfl
def kP (x:Val (.pair af ō)) (k:Bool→Option ρ) :
    Ċ (gW ρ) 222 (Ă [af,ō] x) (fun h v=>Ä (Ć [.bool] h v) k)=ŗ x.1 x.2 k:=by kernel_rfl
def Td:(FV ρ).Ok (Ν ρ):=⟨by kernel_rfl,fun p v kn kx=>by kernel_rfl⟩
def Ta:(FP ρ).Ok (Ν ρ):=⟨by kernel_rfl,fun p v kn kx=>by kernel_rfl⟩
def S9:(FN ρ).Ok (Ν ρ):=⟨by kernel_rfl,fun p v kn kx=>by kernel_rfl⟩
def Tb:(FR ρ).Ok (Ν ρ):=⟨by kernel_rfl,fun p v kn kx=>by kernel_rfl⟩
def Tc:(FT ρ).Ok (Ν ρ):=⟨by kernel_rfl,fun p v kn kx=>by kernel_rfl⟩
def S8:(FL ρ).Ok (Ν ρ):=⟨by kernel_rfl,fun p v kn kx=>by kernel_rfl⟩
def S7:(FJ ρ).Ok (Ν ρ):=⟨by kernel_rfl,fun p v kn kx=>by kernel_rfl⟩
def S6:(FH ρ).Ok (Ν ρ):=⟨by kernel_rfl,fun p v kn kx=>by kernel_rfl⟩
def S0:(FF ρ).Ok (Ν ρ):=⟨by kernel_rfl,fun p v kn kx=>by kernel_rfl⟩
def SZ:(FD ρ).Ok (Ν ρ):=⟨by kernel_rfl,fun p v kn kx=>by kernel_rfl⟩
def aaW (x:Val (.pair Å Å)) (k:Bool→Option ρ) :
    Ċ (Ν ρ) 109 (Ă [Å,Å] x) (fun h v=>Ä (Ć [.bool] h v) k)=Xj x.1 x.2 k:=by kernel_rfl
def Tk (x:Val (.pair Å χ)) (k:(Val aU)→Option ρ) :
    Ċ (K8 ρ) 46 (Ă [Å,χ] x) (fun h v=>Ä (Ć [.bool,tI] h v) k)=Jb x.1 x.2 k:=by kernel_rfl
def Ot (x:Unit) (k:Bool→Option ρ) :
    Ċ (EQ ρ) 11 (Ă [] x) (fun h v=>Ä (Ć [.bool] h v) k)=C9 k:=by kernel_rfl
def L5 (x:Val è) (k:Bool→Option ρ) :
    Ċ (Bv ρ) 94 (Ă [Ã,tI,tI] x) (fun h v=>Ä (Ć [.bool] h v) k)=xP x.1 x.2.1 x.2.2 k:=by kernel_rfl
def adA (x:Val Ĉ) (k:Bool→Option ρ) :
    Ċ (aaH ρ) 164 (Ă [tI,tI,tI] x) (fun h v=>Ä (Ć [.bool] h v) k)=adB x.1 x.2.1 x.2.2 k:=by kernel_rfl
def aaK (x:Val tI) (k:Bool→Option ρ) :
    Ċ (UG ρ) 100 (Ă [tI] x) (fun h v=>Ä (Ć [.bool] h v) k)=WZ x k:=by kernel_rfl
def SU:(Fu ρ).Ok (IZ ρ):=⟨by kernel_rfl,fun p v kn kx=>by kernel_rfl⟩
def aaR (x:Val Ã) (k:Int→Option ρ) :
    Ċ (IZ ρ) 209 (Ă [tI,tI] x) (fun h v=>Ä (Ć [tI] h v) k)=Xd x.1 x.2 k:=by kernel_rfl
def aaU (x:Val tI) (k:Int→Option ρ) :
    Ċ (UL ρ) 210 (Ă [tI] x) (fun h v=>Ä (Ć [tI] h v) k)=Xh x k:=by kernel_rfl
def SQ (x:Val Ã) (k:Bool→Option ρ) :
    Ċ (KP ρ) 163 (Ă [Ã] x) (fun h v=>Ä (Ć [.bool] h v) k)=IX x k:=by kernel_rfl
def Sq (x:Val Ð) (k:Bool→Option ρ) :
    Ċ (KI ρ) 95 (Ă [Ð] x) (fun h v=>Ä (Ć [.bool] h v) k)=IH x k:=by kernel_rfl
def Pb:(BQ ρ).Ok (Dn ρ):=⟨by kernel_rfl,fun p v kn kx=>by kernel_rfl⟩
def WX (x:Val aG) (k:Int→Option ρ) :
    Ċ (Dn ρ) 166 (Ă [Å,tI] x) (fun h v=>Ä (Ć [tI] h v) k)=Pc x.1 x.2 k:=by kernel_rfl
def Sz (x:Val aC) (k:Int→Option ρ) :
    Ċ (KK ρ) 101 (Ă [Å,tI,tI] x) (fun h v=>Ä (Ć [tI] h v) k)=IJ x.1 x.2.1 x.2.2 k:=by kernel_rfl
def Oy:(Bu ρ).Ok (Dc ρ):=⟨by kernel_rfl,fun p v kn kx=>by kernel_rfl⟩
def Ww (x:Val Å) (k:Int→Option ρ) :
    Ċ (Dc ρ) 96 (Ă [Å] x) (fun h v=>Ä (Ć [tI] h v) k)=Oz x k:=by kernel_rfl
def L7:(xR ρ).Ok (nr ρ):=⟨by kernel_rfl,fun p v kn kx=>by kernel_rfl⟩
def L6:(xQ ρ).Ok (nr ρ):=⟨by kernel_rfl,fun p v kn kx=>by kernel_rfl⟩
def L8:(xS ρ).Ok (nr ρ):=⟨by kernel_rfl,fun p v kn kx=>by kernel_rfl⟩
def Sl (x:Val Å) (k:Int→Option ρ) :
    Ċ (nr ρ) 97 (Ă [Å] x) (fun h v=>Ä (Ć [tI] h v) k)=IF x k:=by kernel_rfl
def OS:(BH ρ).Ok (Di ρ):=⟨by kernel_rfl,fun p v kn kx=>by kernel_rfl⟩
def WN (x:Val ae) (k:Bool→Option ρ) :
    Ċ (Di ρ) 165 (Ă [ae] x) (fun h v=>Ä (Ć [.bool] h v) k)=OT x k:=by kernel_rfl
def Sk (x:Val É) (k:Bool→Option ρ) :
    Ċ (KE ρ) 98 (Ă [É] x) (fun h v=>Ä (Ć [.bool] h v) k)=IE x k:=by kernel_rfl
def O4:(BN ρ).Ok (Dk ρ):=⟨by kernel_rfl,fun p v kn kx=>by kernel_rfl⟩
def WS (x:Val aC) (k:(Val ba)→Option ρ) :
    Ċ (Dk ρ) 167 (Ă [Å,tI,tI] x) (fun h v=>Ä (Ć [ō,.bool] h v) k)=O5 x.1 x.2.1 x.2.2 k:=by kernel_rfl
def SI:(Fo ρ).Ok (IP ρ):=⟨by kernel_rfl,fun p v kn kx=>by kernel_rfl⟩
def aaI (x:Val aH) (k:Bool→Option ρ) :
    Ċ (IP ρ) 211 (Ă [ae,tI] x) (fun h v=>Ä (Ć [.bool] h v) k)=WW x.1 x.2 k:=by kernel_rfl
def O6:(BO ρ).Ok (Dl ρ):=⟨by kernel_rfl,fun p v kn kx=>by kernel_rfl⟩
def WT (x:Val aY) (k:(Val ae)→Option ρ) :
    Ċ (Dl ρ) 168 (Ă [ae,ae] x) (fun h v=>Ä (Ć [ae] h v) k)=O7 x.1 x.2 k:=by kernel_rfl
def Dg:(qT ρ).Ok (je ρ):=⟨by kernel_rfl,fun p v kn kx=>by kernel_rfl⟩
def Df:(qS ρ).Ok (je ρ):=⟨by kernel_rfl,fun p v kn kx=>by kernel_rfl⟩
def De:(qR ρ).Ok (je ρ):=⟨by kernel_rfl,fun p v kn kx=>by kernel_rfl⟩
def II (x:Val aA) (k:Int→Option ρ) :
    Ċ (je ρ) 99 (Ă [Å,É] x) (fun h v=>Ä (Ć [tI] h v) k)=uX x.1 x.2 k:=by kernel_rfl
def aau (x:Val aY) (k:Int→Option ρ) :
    Ċ (UF ρ) 158 (Ă [ae,ae] x) (fun h v=>Ä (Ć [tI] h v) k)=Wy x.1 x.2 k:=by kernel_rfl
def OH:(BB ρ).Ok (uY ρ):=⟨by kernel_rfl,fun p v kn kx=>by kernel_rfl⟩
def OG:(BA ρ).Ok (uY ρ):=⟨by kernel_rfl,fun p v kn kx=>by kernel_rfl⟩
def WD (x:Val (.pair Å (.pair Ð tI))) (k:Bool→Option ρ) :
    Ċ (uY ρ) 169 (Ă [Å,Ð,tI] x) (fun h v=>Ä (Ć [.bool] h v) k)=OI x.1 x.2.1 x.2.2 k:=by kernel_rfl
def Mh:(yd ρ).Ok (iv ρ):=⟨by kernel_rfl,fun p v kn kx=>by kernel_rfl⟩
def Mg:(yc ρ).Ok (iv ρ):=⟨by kernel_rfl,fun p v kn kx=>by kernel_rfl⟩
def Me:(yb ρ).Ok (iv ρ):=⟨by kernel_rfl,fun p v kn kx=>by kernel_rfl⟩
def Mb:(xV ρ).Ok (iv ρ):=⟨by kernel_rfl,fun p v kn kx=>by kernel_rfl⟩
def Mc:(xX ρ).Ok (iv ρ):=⟨by kernel_rfl,fun p v kn kx=>by kernel_rfl⟩
def Md:(xZ ρ).Ok (iv ρ):=⟨by kernel_rfl,fun p v kn kx=>by kernel_rfl⟩
def SE (x:Val Å) (k:(Val aa)→Option ρ) :
    Ċ (iv ρ) 102 (Ă [Å] x) (fun h v=>Ä (Ć [aa] h v) k)=IL x k:=by kernel_rfl
def Mi:(ye ρ).Ok (yf ρ):=⟨by kernel_rfl,fun p v kn kx=>by kernel_rfl⟩
def SH (x:Val aC) (k:Int→Option ρ) :
    Ċ (yf ρ) 52 (Ă [Å,Ã] x) (fun h v=>Ä (Ć [tI] h v) k)=IM x.1 x.2 k:=by kernel_rfl
def OL:(BC ρ).Ok (Dh ρ):=⟨by kernel_rfl,fun p v kn kx=>by kernel_rfl⟩
def WF (x:Val aC) (k:Bool→Option ρ) :
    Ċ (Dh ρ) 212 (Ă [Å,tI,tI] x) (fun h v=>Ä (Ć [.bool] h v) k)=OM x.1 x.2.1 x.2.2 k:=by kernel_rfl
def O0:(BL ρ).Ok (Dj ρ):=⟨by kernel_rfl,fun p v kn kx=>by kernel_rfl⟩
def WQ (x:Val (.pair Å Ĉ)) (k:Int→Option ρ) :
    Ċ (Dj ρ) 170 (Ă [Å,tI,tI,tI] x) (fun h v=>Ä (Ć [tI] h v) k)=O1 x.1 x.2.1 x.2.2.1 x.2.2.2 k:=by kernel_rfl
def Pp (x:Val Ã) (k:Val Ĵ→Option ρ) :
    Ċ (Fr ρ) 285 (Ă [tI,tI] x) (fun h v=>Ä (Ć [Ĵ] h v) k)=Dq x.1 x.2 k:=by kernel_rfl
def aaT (x:Val è) (k:Val Ĵ→Option ρ) :
    Ċ (UK ρ) 268 (Ă [Ã,Ã] x) (fun h v=>Ä (Ć [Ĵ] h v) k)=Xg x.1 x.2 k:=by kernel_rfl
def aaP (x:Val Ã) (k:Val Ã→Option ρ) :
    Ċ (UI ρ) 269 (Ă [Ã] x) (fun h v=>Ä (Ć [Ã] h v) k)=Xa x k:=by kernel_rfl
def aaO (x:Val è) (k:Val Ĵ→Option ρ) :
    Ċ (UH ρ) 242 (Ă [Ã,Ã] x) (fun h v=>Ä (Ć [Ĵ] h v) k)=W8 x.1 x.2 k:=by kernel_rfl
def Sn (x:Val aG) (k:Val Ã→Option ρ) :
    Ċ (KH ρ) 243 (Ă [Å,tI] x) (fun h v=>Ä (Ć [Ã] h v) k)=IG x.1 x.2 k:=by kernel_rfl
def W6 (x:Val (.pair Ĵ Ĵ)) (k:Val sS→Option ρ) :
    Ċ (Ps ρ) 270 (Ă [Ĵ,Ĵ] x) (fun h v=>Ä (Ć [sS] h v) k)=Pu x.1 x.2 k:=by kernel_rfl
def aaQ (x:Val è) (k:Val Ĵ→Option ρ) :
    Ċ (UJ ρ) 271 (Ă [Ã,Ã] x) (fun h v=>Ä (Ć [Ĵ] h v) k)=Xb x.1 x.2 k:=by kernel_rfl
def SS (x:Val (.pair è Ã)) (k:Val sS→Option ρ) :
    Ċ (KR ρ) 244 (Ă [è,Ã] x) (fun h v=>Ä (Ć [sS] h v) k)=IY x.1 x.2 k:=by kernel_rfl
def Pa (x:Val aA) (k:Val è→Option ρ) :
    Ċ (Fp ρ) 205 (Ă [Å,É] x) (fun h v=>Ä (Ć [è] h v) k)=Dm x.1 x.2 k:=by kernel_rfl
def SL (x:Val aA) (k:Val Ã→Option ρ) :
    Ċ (KN ρ) 206 (Ă [Å,É] x) (fun h v=>Ä (Ć [Ã] h v) k)=IQ x.1 x.2 k:=by kernel_rfl
def adE (x:Val Ã) (k:Int→Option ρ) :
    Ċ (aaL ρ) 245 (Ă [tI,tI] x) (fun h v=>Ä (Ć [tI] h v) k)=adF x.1 x.2 k:=by kernel_rfl
end Go.Proofs.ZzM
end
