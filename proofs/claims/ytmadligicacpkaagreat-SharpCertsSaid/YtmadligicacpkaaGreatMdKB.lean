/- lemmas -/
import Derived.Test.YtmadligicacpkaaGreatMdMA
set_option linter.all false
set_option linter.unusedSectionVars false
set_option linter.unusedVariables false
set_option linter.unusedSimpArgs false
noncomputable section
variable {ρ:Type}
set_option maxRecDepth 100000
namespace Go.Proofs.ZzM
open Go Go.Am
def U9 (x:Val (.pair ć tI)) (k:Int→Option ρ) :
    Ć (Mu ρ) 154 (ā [ć,tI] x) (fun h v=>Ã (ă [tI] h v) k)=KC x.1 x.2 k:=by kernel_rfl
def GN (x:Val (.pair ų tI)) (k:Val Â→Option ρ) :
    Ć (xr ρ) 86 (ā [ų,tI] x) (fun h v=>Ã (ă [Â] h v) k)=sQ x.1 x.2 k:=by kernel_rfl
def BV:(pU ρ).Ok (kq ρ):=⟨by kernel_rfl,fun p v kn kx=>by kernel_rfl⟩
def BW:(pW ρ).Ok (kq ρ):=⟨by kernel_rfl,fun p v kn kx=>by kernel_rfl⟩
def GO (x:Val (.pair ų af)) (k:(Val af)→Option ρ) :
    Ć (kq ρ) 88 (ā [ų,af] x) (fun h v=>Ã (ă [af] h v) k)=sR x.1 x.2 k:=by kernel_rfl
def zn:(oz ρ).Ok (mE ρ):=⟨by kernel_rfl,fun p v kn kx=>by kernel_rfl⟩
def Ey (x:Val ų) (k:Int→Option ρ) :
    Ć (mE ρ) 77 (ā [ų] x) (fun h v=>Ã (ă [tI] h v) k)=pT x k:=by kernel_rfl
def Rj:(C5 ρ).Ok (EG ρ):=⟨by kernel_rfl,fun p v kn kx=>by kernel_rfl⟩
def Zr (x:Val (.pair Ä aZ)) (k:Val Â→Option ρ) :
    Ć (EG ρ) 31 (ā [Ä,Â,Ê] x) (fun h v=>Ã (ă [tI,tI] h v) k)=Rk x.1 x.2.1 x.2.2 k:=by kernel_rfl
def KI (x:Val tI) (k:Int→Option ρ) :
    Ć (zD ρ) 83 (ā [tI] x) (fun h v=>Ã (ă [tI] h v) k)=wd x k:=by kernel_rfl
def KB (x:Val (.pair ć tI)) (k:(Val af)→Option ρ) :
    Ć (zA ρ) 84 (ā [ć,tI] x) (fun h v=>Ã (ă [af] h v) k)=vZ x.1 x.2 k:=by kernel_rfl
def Ho:(((sJ (ė ρ).P 47).elim [] (ð 0)).filter fun y=>Nat.beq y.1 0).length=1:=by kernel_rfl
def Hp (p:Val aw) (v:Val aD) (kn:Val aw→Val aD→Option ρ) (kx:(i:Nat)→Val aw→Val (tyL (Κ.zs i))→Option ρ) :
    goC (ė ρ) (kg (ė ρ) (10-2 / 2)) 47 [1,3] 5 0 (M5 (sJ (ė ρ).P 47) 0) (jj Κ.head Κ.cs Κ.vs p v) (abu Κ kn kx)=(om ρ).bF p v (kn p) (fun i=>kx i p):=by kernel_rfl
def KH:(om ρ).Ok (ė ρ):=⟨Ho,Hp⟩
def Hm:(((sJ (ė ρ).P 155).elim [] (ð 0)).filter fun y=>Nat.beq y.1 0).length=1:=by kernel_rfl
def Hn (p:Val ao) (v:Val tI) (kn:Val ao→Val tI→Option ρ) (kx:(i:Nat)→Val ao→Val (tyL (Ι.zs i))→Option ρ) :
    goC (ė ρ) (kg (ė ρ) (10-4 / 2)) 155 [18,4,1,2] 12 0 (M5 (sJ (ė ρ).P 155) 0) (jj Ι.head Ι.cs Ι.vs p v) (abu Ι kn kx)=(ol ρ).bF p v (kn p) (fun i=>kx i p):=by kernel_rfl
def KG:(ol ρ).Ok (ė ρ):=⟨Hm,Hn⟩
def Rl (x:Val (.pair Ä (.pair Â aZ))) (k:(Val aL)→Option ρ) :
    Ć (wc ρ) 35 (ā [Ä,Â,Â,Ê] x) (fun h v=>Ã (ă [.bool,tI] h v) k)=EH x.1 x.2.1 x.2.2.1 x.2.2.2 k:=by kernel_rfl
def RC:(Dm ρ).Ok (kK ρ):=⟨by kernel_rfl,fun p v kn kx=>by kernel_rfl⟩
def Ry:(De ρ).Ok (kK ρ):=⟨by kernel_rfl,fun p v kn kx=>by kernel_rfl⟩
def Rz:(Dg ρ).Ok (kK ρ):=⟨by kernel_rfl,fun p v kn kx=>by kernel_rfl⟩
def RA:(Di ρ).Ok (kK ρ):=⟨by kernel_rfl,fun p v kn kx=>by kernel_rfl⟩
def RB:(Dk ρ).Ok (kK ρ):=⟨by kernel_rfl,fun p v kn kx=>by kernel_rfl⟩
def ZC (x:Val Ï) (k:(Val aH)→Option ρ) :
    Ć (kK ρ) 91 (ā [Ï] x) (fun h v=>Ã (ă [af,tI] h v) k)=RD x k:=by kernel_rfl
def Zv (x:Val Ä) (k:(Val (.pair ö tI))→Option ρ) :
    Ć (Rp ρ) 38 (ā [Ä] x) (fun h v=>Ã (ă [ö,tI] h v) k)=Rq x k:=by kernel_rfl
def Nx (x:Unit) (k:Val Ä→Option ρ) :
    Ć (Ci ρ) 44 (ā [] x) (fun h v=>Ã (ă [Ä] h v) k)=yz k:=by kernel_rfl
def ada (x:Val aH) (k:Bool→Option ρ) :
    Ć (WP ρ) 106 (ā [af,tI] x) (fun h v=>Ã (ă [.bool] h v) k)=Zf x.1 x.2 k:=by kernel_rfl
def Zj (x:Val tI) (k:Bool→Option ρ) :
    Ć (Rf ρ) 107 (ā [tI] x) (fun h v=>Ã (ă [.bool] h v) k)=Rg x k:=by kernel_rfl
def Ra:(C0 ρ).Ok (ED ρ):=⟨by kernel_rfl,fun p v kn kx=>by kernel_rfl⟩
def Zh (x:Val aR) (k:(Val aa)→Option ρ) :
    Ć (ED ρ) 108 (ā [tI,am] x) (fun h v=>Ã (ă [aa] h v) k)=Rb x.1 x.2 k:=by kernel_rfl
def Vf:(Hs ρ).Ok (Ba ρ):=⟨by kernel_rfl,fun p v kn kx=>by kernel_rfl⟩
def Ve:(Hq ρ).Ok (Ba ρ):=⟨by kernel_rfl,fun p v kn kx=>by kernel_rfl⟩
def adn (x:Val (.pair Ä au)) (k:Val ł→Option ρ) :
    Ć (Ba ρ) 45 (ā [Ä,tI,af] x) (fun h v=>Ã (ă [Â,tI] h v) k)=Zt x.1 x.2.1 x.2.2 k:=by kernel_rfl
def HK (x:Val bj) (k:Int→Option ρ) :
    Ć (xJ ρ) 92 (ā [Ï,af] x) (fun h v=>Ã (ă [tI] h v) k)=s9 x.1 x.2 k:=by kernel_rfl
def Hx (x:Val ö) (k:Int→Option ρ) :
    Ć (xz ρ) 39 (ā [ö] x) (fun h v=>Ã (ă [tI] h v) k)=sX x k:=by kernel_rfl
def kF:(Γ ρ).Ok (Ŕ ρ):=⟨by kernel_rfl,fun p v kn kx=>by kernel_rfl⟩
def lr (x:Val (.pair ac Ð)) (k:Int→Option ρ) :
    Ć (Ŕ ρ) 248 (ā [ac,Ð] x) (fun h v=>Ã (ă [tI] h v) k)=ţ x.1 x.2 k:=by kernel_rfl
def j7 (x:Val (.pair ac Ð)) (k:Bool→Option ρ) :
    Ć (Ε ρ) 216 (ā [ac,Ð] x) (fun h v=>Ã (ă [.bool] h v) k)=Ŏ x.1 x.2 k:=by kernel_rfl
def mw:(ix ρ).Ok (ŷ ρ):=⟨by kernel_rfl,fun p v kn kx=>by kernel_rfl⟩
def og (x:Val ba) (k:Int→Option ρ) :
    Ć (ŷ ρ) 250 (ā [aa,Â] x) (fun h v=>Ã (ă [tI] h v) k)=ι x.1 x.2 k:=by kernel_rfl
def me (x:Val ba) (k:Bool→Option ρ) :
    Ć (iy ρ) 219 (ā [aa,Â] x) (fun h v=>Ã (ă [.bool] h v) k)=Ũ x.1 x.2 k:=by kernel_rfl
def lq:(gY ρ).Ok (Ţ ρ):=⟨by kernel_rfl,fun p v kn kx=>by kernel_rfl⟩
def mA (x:Val (.pair ae ő)) (k:Int→Option ρ) :
    Ć (Ţ ρ) 252 (ā [ae,ő] x) (fun h v=>Ã (ă [tI] h v) k)=Ź x.1 x.2 k:=by kernel_rfl
def ld (x:Val (.pair ae ő)) (k:Bool→Option ρ) :
    Ć (g8 ρ) 222 (ā [ae,ő] x) (fun h v=>Ã (ă [.bool] h v) k)=Ś x.1 x.2 k:=by kernel_rfl
def U6:(Hc ρ).Ok (Θ ρ):=⟨by kernel_rfl,fun p v kn kx=>by kernel_rfl⟩
def U3:(G6 ρ).Ok (Θ ρ):=⟨by kernel_rfl,fun p v kn kx=>by kernel_rfl⟩
def U2:(G4 ρ).Ok (Θ ρ):=⟨by kernel_rfl,fun p v kn kx=>by kernel_rfl⟩
def U4:(G8 ρ).Ok (Θ ρ):=⟨by kernel_rfl,fun p v kn kx=>by kernel_rfl⟩
def U5:(Ha ρ).Ok (Θ ρ):=⟨by kernel_rfl,fun p v kn kx=>by kernel_rfl⟩
def U1:(G2 ρ).Ok (Θ ρ):=⟨by kernel_rfl,fun p v kn kx=>by kernel_rfl⟩
def U0:(G0 ρ).Ok (Θ ρ):=⟨by kernel_rfl,fun p v kn kx=>by kernel_rfl⟩
def UZ:(GY ρ).Ok (Θ ρ):=⟨by kernel_rfl,fun p v kn kx=>by kernel_rfl⟩
def UY:(GW ρ).Ok (Θ ρ):=⟨by kernel_rfl,fun p v kn kx=>by kernel_rfl⟩
def UX:(GU ρ).Ok (Θ ρ):=⟨by kernel_rfl,fun p v kn kx=>by kernel_rfl⟩
def adb (x:Val aU) (k:Bool→Option ρ) :
    Ć (Θ ρ) 109 (ā [Ä,Ä] x) (fun h v=>Ã (ă [.bool] h v) k)=Zg x.1 x.2 k:=by kernel_rfl
def Vd (x:Val (.pair Ä ö)) (k:(Val aL)→Option ρ) :
    Ć (Mz ρ) 46 (ā [Ä,ö] x) (fun h v=>Ã (ă [.bool,tI] h v) k)=KE x.1 x.2 k:=by kernel_rfl
def PY (x:Unit) (k:Bool→Option ρ) :
    Ć (F7 ρ) 11 (ā [] x) (fun h v=>Ã (ă [.bool] h v) k)=Eb k:=by kernel_rfl
def NC (x:Val ç) (k:Bool→Option ρ) :
    Ć (Cw ρ) 94 (ā [Â,tI,tI] x) (fun h v=>Ã (ă [.bool] h v) k)=yI x.1 x.2.1 x.2.2 k:=by kernel_rfl
def afI (x:Val ć) (k:Bool→Option ρ) :
    Ć (acV ρ) 164 (ā [tI,tI,tI] x) (fun h v=>Ã (ă [.bool] h v) k)=afJ x.1 x.2.1 x.2.2 k:=by kernel_rfl
def acY (x:Val tI) (k:Bool→Option ρ) :
    Ć (WJ ρ) 100 (ā [tI] x) (fun h v=>Ã (ă [.bool] h v) k)=YX x k:=by kernel_rfl
def US:(GJ ρ).Ok (Ks ρ):=⟨by kernel_rfl,fun p v kn kx=>by kernel_rfl⟩
def ac6 (x:Val Â) (k:Int→Option ρ) :
    Ć (Ks ρ) 209 (ā [tI,tI] x) (fun h v=>Ã (ă [tI] h v) k)=Za x.1 x.2 k:=by kernel_rfl
def ac9 (x:Val tI) (k:Int→Option ρ) :
    Ć (WO ρ) 210 (ā [tI] x) (fun h v=>Ã (ă [tI] h v) k)=Ze x k:=by kernel_rfl
def UQ (x:Val Â) (k:Bool→Option ρ) :
    Ć (Mi ρ) 163 (ā [Â] x) (fun h v=>Ã (ă [.bool] h v) k)=Kq x k:=by kernel_rfl
def Uq (x:Val Ð) (k:Bool→Option ρ) :
    Ć (Ma ρ) 95 (ā [Ð] x) (fun h v=>Ã (ă [.bool] h v) k)=Kc x k:=by kernel_rfl
def QO:(CT ρ).Ok (Eu ρ):=⟨by kernel_rfl,fun p v kn kx=>by kernel_rfl⟩
def YV (x:Val aG) (k:Int→Option ρ) :
    Ć (Eu ρ) 166 (ā [Ä,tI] x) (fun h v=>Ã (ă [tI] h v) k)=QP x.1 x.2 k:=by kernel_rfl
def Uy (x:Val aE) (k:Int→Option ρ) :
    Ć (Mc ρ) 101 (ā [Ä,tI,tI] x) (fun h v=>Ã (ă [tI] h v) k)=Ke x.1 x.2.1 x.2.2 k:=by kernel_rfl
def Qf:(Cv ρ).Ok (Ef ρ):=⟨by kernel_rfl,fun p v kn kx=>by kernel_rfl⟩
def Yy (x:Val Ä) (k:Int→Option ρ) :
    Ć (Ef ρ) 96 (ā [Ä] x) (fun h v=>Ã (ă [tI] h v) k)=Qg x k:=by kernel_rfl
def NE:(yK ρ).Ok (nw ρ):=⟨by kernel_rfl,fun p v kn kx=>by kernel_rfl⟩
def ND:(yJ ρ).Ok (nw ρ):=⟨by kernel_rfl,fun p v kn kx=>by kernel_rfl⟩
def NF:(yL ρ).Ok (nw ρ):=⟨by kernel_rfl,fun p v kn kx=>by kernel_rfl⟩
def Uo (x:Val Ä) (k:Int→Option ρ) :
    Ć (nw ρ) 97 (ā [Ä] x) (fun h v=>Ã (ă [tI] h v) k)=Ka x k:=by kernel_rfl
def Qy:(CL ρ).Ok (Eo ρ):=⟨by kernel_rfl,fun p v kn kx=>by kernel_rfl⟩
def YM (x:Val af) (k:Bool→Option ρ) :
    Ć (Eo ρ) 165 (ā [af] x) (fun h v=>Ã (ă [.bool] h v) k)=Qz x k:=by kernel_rfl
def Un (x:Val Ê) (k:Bool→Option ρ) :
    Ć (L7 ρ) 98 (ā [Ê] x) (fun h v=>Ã (ă [.bool] h v) k)=J9 x k:=by kernel_rfl
def QH:(CP ρ).Ok (Er ρ):=⟨by kernel_rfl,fun p v kn kx=>by kernel_rfl⟩
def YQ (x:Val aE) (k:(Val bh)→Option ρ) :
    Ć (Er ρ) 167 (ā [Ä,tI,tI] x) (fun h v=>Ã (ă [ő,.bool] h v) k)=QI x.1 x.2.1 x.2.2 k:=by kernel_rfl
def UI:(GA ρ).Ok (Kj ρ):=⟨by kernel_rfl,fun p v kn kx=>by kernel_rfl⟩
def acW (x:Val aH) (k:Bool→Option ρ) :
    Ć (Kj ρ) 211 (ā [af,tI] x) (fun h v=>Ã (ă [.bool] h v) k)=YU x.1 x.2 k:=by kernel_rfl
def QJ:(CQ ρ).Ok (Es ρ):=⟨by kernel_rfl,fun p v kn kx=>by kernel_rfl⟩
def YR (x:Val aJ) (k:(Val af)→Option ρ) :
    Ć (Es ρ) 168 (ā [af,af] x) (fun h v=>Ã (ă [af] h v) k)=QK x.1 x.2 k:=by kernel_rfl
def Ei:(ro ρ).Ok (jn ρ):=⟨by kernel_rfl,fun p v kn kx=>by kernel_rfl⟩
def Eh:(rl ρ).Ok (jn ρ):=⟨by kernel_rfl,fun p v kn kx=>by kernel_rfl⟩
def Eg:(rk ρ).Ok (jn ρ):=⟨by kernel_rfl,fun p v kn kx=>by kernel_rfl⟩
def Kd (x:Val aC) (k:Int→Option ρ) :
    Ć (jn ρ) 99 (ā [Ä,Ê] x) (fun h v=>Ã (ă [tI] h v) k)=vM x.1 x.2 k:=by kernel_rfl
def acK (x:Val aJ) (k:Int→Option ρ) :
    Ć (WH ρ) 158 (ā [af,af] x) (fun h v=>Ã (ă [tI] h v) k)=YA x.1 x.2 k:=by kernel_rfl
def Qm:(CC ρ).Ok (vN ρ):=⟨by kernel_rfl,fun p v kn kx=>by kernel_rfl⟩
def Ql:(CB ρ).Ok (vN ρ):=⟨by kernel_rfl,fun p v kn kx=>by kernel_rfl⟩
def YE (x:Val (.pair Ä (.pair Ð tI))) (k:Bool→Option ρ) :
    Ć (vN ρ) 169 (ā [Ä,Ð,tI] x) (fun h v=>Ã (ă [.bool] h v) k)=Qn x.1 x.2.1 x.2.2 k:=by kernel_rfl
def NN:(yV ρ).Ok (iz ρ):=⟨by kernel_rfl,fun p v kn kx=>by kernel_rfl⟩
def NM:(yU ρ).Ok (iz ρ):=⟨by kernel_rfl,fun p v kn kx=>by kernel_rfl⟩
def NL:(yT ρ).Ok (iz ρ):=⟨by kernel_rfl,fun p v kn kx=>by kernel_rfl⟩
def NI:(yN ρ).Ok (iz ρ):=⟨by kernel_rfl,fun p v kn kx=>by kernel_rfl⟩
def NJ:(yP ρ).Ok (iz ρ):=⟨by kernel_rfl,fun p v kn kx=>by kernel_rfl⟩
def NK:(yR ρ).Ok (iz ρ):=⟨by kernel_rfl,fun p v kn kx=>by kernel_rfl⟩
def UE (x:Val Ä) (k:(Val aa)→Option ρ) :
    Ć (iz ρ) 102 (ā [Ä] x) (fun h v=>Ã (ă [aa] h v) k)=Kh x k:=by kernel_rfl
def NP:(yW ρ).Ok (yX ρ):=⟨by kernel_rfl,fun p v kn kx=>by kernel_rfl⟩
def UH (x:Val aE) (k:Int→Option ρ) :
    Ć (yX ρ) 52 (ā [Ä,Â] x) (fun h v=>Ã (ă [tI] h v) k)=Ki x.1 x.2 k:=by kernel_rfl
def Qo:(CD ρ).Ok (Ej ρ):=⟨by kernel_rfl,fun p v kn kx=>by kernel_rfl⟩
def YF (x:Val aE) (k:Bool→Option ρ) :
    Ć (Ej ρ) 212 (ā [Ä,tI,tI] x) (fun h v=>Ã (ă [.bool] h v) k)=Qp x.1 x.2.1 x.2.2 k:=by kernel_rfl
def QD:(CN ρ).Ok (Ep ρ):=⟨by kernel_rfl,fun p v kn kx=>by kernel_rfl⟩
def YO (x:Val (.pair Ä ć)) (k:Int→Option ρ) :
    Ć (Ep ρ) 170 (ā [Ä,tI,tI,tI] x) (fun h v=>Ã (ă [tI] h v) k)=QE x.1 x.2.1 x.2.2.1 x.2.2.2 k:=by kernel_rfl
def Q0 (x:Val Â) (k:Val ł→Option ρ) :
    Ć (GG ρ) 285 (ā [tI,tI] x) (fun h v=>Ã (ă [ł] h v) k)=Ex x.1 x.2 k:=by kernel_rfl
def ac8 (x:Val ç) (k:Val ł→Option ρ) :
    Ć (WN ρ) 268 (ā [Â,Â] x) (fun h v=>Ã (ă [ł] h v) k)=Zd x.1 x.2 k:=by kernel_rfl
def ac4 (x:Val Â) (k:Val Â→Option ρ) :
    Ć (WL ρ) 269 (ā [Â] x) (fun h v=>Ã (ă [Â] h v) k)=Y7 x k:=by kernel_rfl
def ac3 (x:Val ç) (k:Val ł→Option ρ) :
    Ć (WK ρ) 242 (ā [Â,Â] x) (fun h v=>Ã (ă [ł] h v) k)=Y5 x.1 x.2 k:=by kernel_rfl
def Up (x:Val aG) (k:Val Â→Option ρ) :
    Ć (L9 ρ) 243 (ā [Ä,tI] x) (fun h v=>Ã (ă [Â] h v) k)=Kb x.1 x.2 k:=by kernel_rfl
def Y3 (x:Val (.pair ł ł)) (k:Val tD→Option ρ) :
    Ć (Q3 ρ) 270 (ā [ł,ł] x) (fun h v=>Ã (ă [tD] h v) k)=Q4 x.1 x.2 k:=by kernel_rfl
def ac5 (x:Val ç) (k:Val ł→Option ρ) :
    Ć (WM ρ) 271 (ā [Â,Â] x) (fun h v=>Ã (ă [ł] h v) k)=Y8 x.1 x.2 k:=by kernel_rfl
def UR (x:Val (.pair ç Â)) (k:Val tD→Option ρ) :
    Ć (Mk ρ) 244 (ā [ç,Â] x) (fun h v=>Ã (ă [tD] h v) k)=Kr x.1 x.2 k:=by kernel_rfl
def QN (x:Val aC) (k:Val ç→Option ρ) :
    Ć (GB ρ) 205 (ā [Ä,Ê] x) (fun h v=>Ã (ă [ç] h v) k)=Et x.1 x.2 k:=by kernel_rfl
def UL (x:Val aC) (k:Val Â→Option ρ) :
    Ć (Me ρ) 206 (ā [Ä,Ê] x) (fun h v=>Ã (ă [Â] h v) k)=Kk x.1 x.2 k:=by kernel_rfl
def afN (x:Val Â) (k:Int→Option ρ) :
    Ć (ac0 ρ) 245 (ā [tI,tI] x) (fun h v=>Ã (ă [tI] h v) k)=afO x.1 x.2 k:=by kernel_rfl
end Go.Proofs.ZzM
end
