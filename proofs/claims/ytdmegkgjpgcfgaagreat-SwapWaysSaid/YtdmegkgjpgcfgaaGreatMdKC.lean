/- lemmas -/
import Derived.Test.YtdmegkgjpgcfgaaGreatMdMA
set_option linter.all false
noncomputable section
variable {ρ:Type}
set_option maxRecDepth 100000
namespace Go.Proofs.ZzM
open Go Go.Am
def ML:(zX ρ).Ok (s9 ρ):=⟨by kernel_rfl,fun p v b a=>by kernel_rfl⟩
def MK:(zV ρ).Ok (s9 ρ):=⟨by kernel_rfl,fun p v b a=>by kernel_rfl⟩
def Tg (x:bl) (k:Bool->CK ρ) :
    ę (s9 ρ) 15 [Â] [.bool] x k=J9 x k:=by kernel_rfl
def MM:(zZ ρ).Ok (Aa ρ):=⟨by kernel_rfl,fun p v b a=>by kernel_rfl⟩
def Th (x:Val bi) (k:Bool->CK ρ) :
    ę (Aa ρ) 16 [ag,tI] [.bool] x k=Ka x.1 x.2 k:=by kernel_rfl
def Rs:(ED ρ).Ok (F4 ρ):=⟨by kernel_rfl,fun p v b a=>by kernel_rfl⟩
def Y4 (x:xa) (k:Int->CK ρ) :
    ę (F4 ρ) 269 [È,tI,ab] [tI] x k=Rt x.1 x.2.1 x.2.2 k:=by kernel_rfl
def ab1 (x:nn) (k:(Val bm)->CK ρ) :
    ę (V8 ρ) 226 [È,tI,tI] [.bool,tI] x k=Y7 x.1 x.2.1 x.2.2 k:=by kernel_rfl
def PA:(DF ρ).Ok (lP ρ):=⟨by kernel_rfl,fun p v b a=>by kernel_rfl⟩
def Pz:(DD ρ).Ok (lP ρ):=⟨by kernel_rfl,fun p v b a=>by kernel_rfl⟩
def Py:(DC ρ).Ok (lP ρ):=⟨by kernel_rfl,fun p v b a=>by kernel_rfl⟩
def Px:(DB ρ).Ok (lP ρ):=⟨by kernel_rfl,fun p v b a=>by kernel_rfl⟩
def Pw:(DA ρ).Ok (lP ρ):=⟨by kernel_rfl,fun p v b a=>by kernel_rfl⟩
def XK (x:Val (.pair È (.pair ai tI))) (k:Int->CK ρ) :
    ę (lP ρ) 156 [È,ai,tI] [tI] x k=PB x.1 x.2.1 x.2.2 k:=by kernel_rfl
def PQ:(DL ρ).Ok (xB ρ):=⟨by kernel_rfl,fun p v b a=>by kernel_rfl⟩
def PR:(DM ρ).Ok (xB ρ):=⟨by kernel_rfl,fun p v b a=>by kernel_rfl⟩
def XV (x:bl) (k:Int->CK ρ) :
    ę (xB ρ) 80 [Â] [tI] x k=PS x k:=by kernel_rfl
def mF:(ς ρ).Ok (Ş ρ):=⟨by kernel_rfl,fun p v b a=>by kernel_rfl⟩
def nM (x:Val (.pair aa Ã)) (k:Int->CK ρ) :
    ę (Ş ρ) 135 [aa,Ã] [tI] x k=Ÿ x.1 x.2 k:=by kernel_rfl
def Ny (x:Val (.pair bj ay)) (k:Int->CK ρ) :
    ę (EC ρ) 147 [bj,ab,tI] [tI] x k=Bo x.1 x.2.1 x.2.2 k:=by kernel_rfl
def UB:(Ip ρ).Ok (Ce ρ):=⟨by kernel_rfl,fun p v b a=>by kernel_rfl⟩
def UA:(Im ρ).Ok (Ce ρ):=⟨by kernel_rfl,fun p v b a=>by kernel_rfl⟩
def abW (x:Val (.pair È (.pair Ö Ã))) (k:Int->CK ρ) :
    ę (Ce ρ) 247 [È,Ö,tI,tI] [tI] x k=YS x.1 x.2.1 x.2.2.1 x.2.2.2 k:=by kernel_rfl
def Db (x:Val (.pair ao ab)) (k:a8->CK ρ) :
    ę (uz ρ) 261 [ao,ab] [Ã] x k=pE x.1 x.2 k:=by kernel_rfl
def Q6:(Ex ρ).Ok (FS ρ):=⟨by kernel_rfl,fun p v b a=>by kernel_rfl⟩
def YH (x:bx) (k:Int->CK ρ) :
    ę (FS ρ) 264 [aa] [tI] x k=Q7 x k:=by kernel_rfl
def Q8 (x:a8) (k:js->CK ρ) :
    ę (Ia ρ) 312 [tI,tI] [Ã,tI] x k=FT x.1 x.2 k:=by kernel_rfl
def adT (x:ge) (k:js->CK ρ) :
    ę (abQ ρ) 296 [Ã,Ã] [Ã,tI] x k=adU x.1 x.2 k:=by kernel_rfl
def K4 (x:ge) (k:a8->CK ρ) :
    ę (Bn ρ) 262 [Ã,Ã] [Ã] x k=ya x.1 x.2 k:=by kernel_rfl
def adR (x:ge) (k:Int->CK ρ) :
    ę (abP ρ) 320 [Ã,Ã] [tI] x k=adS x.1 x.2 k:=by kernel_rfl
def Ic (x:ge) (k:Bool->CK ρ) :
    ę (y0 ρ) 313 [è] [.bool] x k=vh x k:=by kernel_rfl
def adV (x:ge) (k:js->CK ρ) :
    ę (abS ρ) 316 [Ã,Ã] [Ã,tI] x k=adW x.1 x.2 k:=by kernel_rfl
def YM (x:wl) (k:Val vu->CK ρ) :
    ę (FU ρ) 297 [è,Ã] [è,tI] x k=Re x.1 x.2 k:=by kernel_rfl
def K3 (x:ge) (k:ge->CK ρ) :
    ę (Bm ρ) 263 [Ã,Ã] [è] x k=xZ x.1 x.2 k:=by kernel_rfl
def UG (x:rx) (k:ge->CK ρ) :
    ę (Mn ρ) 215 [È,Ð] [è] x k=K7 x.1 x.2 k:=by kernel_rfl
def YX (x:rx) (k:a8->CK ρ) :
    ę (Rq ρ) 216 [È,Ð] [Ã] x k=Rr x.1 x.2 k:=by kernel_rfl
def YK (x:a8) (k:Int->CK ρ) :
    ę (Ra ρ) 265 [tI,tI] [tI] x k=Ib x.1 x.2 k:=by kernel_rfl
def abT (x:a8) (k:a8->CK ρ) :
    ę (V6 ρ) 217 [Ã] [tI,tI] x k=YO x k:=by kernel_rfl
def YN (x:a8) (k:a8->CK ρ) :
    ę (Rf ρ) 218 [Ã] [tI,tI] x k=Rg x k:=by kernel_rfl
def abU (x:rx) (k:a8->CK ρ) :
    ę (V7 ρ) 248 [È,Ð] [Ã] x k=YP x.1 x.2 k:=by kernel_rfl
def Uy:(Ii ρ).Ok (wB ρ):=⟨by kernel_rfl,fun p v b a=>by kernel_rfl⟩
def Uz:(Ik ρ).Ok (wB ρ):=⟨by kernel_rfl,fun p v b a=>by kernel_rfl⟩
def Ux:(Ig ρ).Ok (wB ρ):=⟨by kernel_rfl,fun p v b a=>by kernel_rfl⟩
def abV (x:b6) (k:(Val bj)->CK ρ) :
    ę (wB ρ) 132 [È] [bj] x k=YR x k:=by kernel_rfl
def UK (x:b6) (k:(Val (.pair Ô bq))->CK ρ) :
    ę (Mo ρ) 66 [È] [Ô,aa,tI] x k=La x k:=by kernel_rfl
def XF:(L2 ρ).Ok (Ph ρ):=⟨by kernel_rfl,fun p v b a=>by kernel_rfl⟩
def adx (x:rn) (k:Int->CK ρ) :
    ę (Ph ρ) 105 [Â,ag,tI,tI] [tI] x k=ady x.1 x.2.1 x.2.2.1 x.2.2.2 k:=by kernel_rfl
def Af:(pJ ρ).Ok (nB ρ):=⟨by kernel_rfl,fun p v b a=>by kernel_rfl⟩
def Fh (x:Val (.pair ab (.pair tI (.pair ax aO)))) (k:an->CK ρ) :
    ę (nB ρ) 183 [ab,tI,ax,aO] [ab] x k=rh x.1 x.2.1 x.2.2.1 x.2.2.2 k:=by kernel_rfl
def Fg:(tk ρ).Ok (ų ρ):=⟨by kernel_rfl,fun p v b a=>by kernel_rfl⟩
def Ff:(ti ρ).Ok (ų ρ):=⟨by kernel_rfl,fun p v b a=>by kernel_rfl⟩
def Fe:(tf ρ).Ok (ų ρ):=⟨by kernel_rfl,fun p v b a=>by kernel_rfl⟩
def Fc:(tc ρ).Ok (ų ρ):=⟨by kernel_rfl,fun p v b a=>by kernel_rfl⟩
def Kg (x:lA) (k:b6->CK ρ) :
    ę (ų ρ) 104 [Â,ag] [È] x k=xu x.1 x.2 k:=by kernel_rfl
def abM (x:Val (.pair Ô tI)) (k:Bool->CK ρ) :
    ę (VT ρ) 196 [Ô,tI] [.bool] x k=YB x.1 x.2 k:=by kernel_rfl
def Q4:(Ew ρ).Ok (FR ρ):=⟨by kernel_rfl,fun p v b a=>by kernel_rfl⟩
def YG (x:io) (k:a8->CK ρ) :
    ę (FR ρ) 126 [Ô] [tI,tI] x k=Q5 x k:=by kernel_rfl
def H4:(wy ρ).Ok (ξ ρ):=⟨by kernel_rfl,fun p v b a=>by kernel_rfl⟩
def HZ:(ww ρ).Ok (ξ ρ):=⟨by kernel_rfl,fun p v b a=>by kernel_rfl⟩
def HX:(wq ρ).Ok (ξ ρ):=⟨by kernel_rfl,fun p v b a=>by kernel_rfl⟩
def HY:(wu ρ).Ok (ξ ρ):=⟨by kernel_rfl,fun p v b a=>by kernel_rfl⟩
def HW:(wp ρ).Ok (ξ ρ):=⟨by kernel_rfl,fun p v b a=>by kernel_rfl⟩
def Nq (x:Val (.pair Ô ar)) (k:BY->CK ρ) :
    ę (ξ ρ) 127 [Ô,ar] [ab,.bool] x k=A9 x.1 x.2 k:=by kernel_rfl
def H7 (x:io) (k:(Val bm)->CK ρ) :
    ę (yY ρ) 155 [Ô] [.bool,tI] x k=vf x k:=by kernel_rfl
def MT (x:lA) (k:Bool->CK ρ) :
    ę (DH ρ) 79 [Â,ag] [.bool] x k=Aj x.1 x.2 k:=by kernel_rfl
def MO:(Ac ρ).Ok (ta ρ):=⟨by kernel_rfl,fun p v b a=>by kernel_rfl⟩
def MP:(Ae ρ).Ok (ta ρ):=⟨by kernel_rfl,fun p v b a=>by kernel_rfl⟩
def Tj (x:lA) (k:Int->CK ρ) :
    ę (ta ρ) 116 [Â,ag] [tI] x k=Kd x.1 x.2 k:=by kernel_rfl
def FV (x:Int) (k:Bool->CK ρ) :
    ę (wA ρ) 234 [tI] [.bool] x k=rU x k:=by kernel_rfl
def Bl (x:a8) (k:Int->CK ρ) :
    ę (rV ρ) 180 [tI,tI] [tI] x k=nP x.1 x.2 k:=by kernel_rfl
def Tp (x:Val (.pair ag (.pair ag ax))) (k:Int->CK ρ) :
    ę (L3 ρ) 179 [ag,ag,ax] [tI] x k=Ke x.1 x.2.1 x.2.2 k:=by kernel_rfl
def mh:(Ο ρ).Ok (ù ρ):=⟨by kernel_rfl,fun p v b a=>by kernel_rfl⟩
def mi:(Ρ ρ).Ok (ù ρ):=⟨by kernel_rfl,fun p v b a=>by kernel_rfl⟩
def m9 (xs:a7) (x:a8) (m:bl) (k:(a7)×bl->CK ρ) :
    wU (ù ρ) (Ţ (ù ρ) 10) [] 273 (ES ą x) (kL ą xs m) (OK ą fun a b=>k (a,b))=Ū xs x.1 x.2 m k:=by kernel_rfl
def rC:(kI ρ).Ok (Ă ρ):=⟨by kernel_rfl,fun p v b a=>by kernel_rfl⟩
def rB:(kH ρ).Ok (Ă ρ):=⟨by kernel_rfl,fun p v b a=>by kernel_rfl⟩
def rD:(kJ ρ).Ok (Ă ρ):=⟨by kernel_rfl,fun p v b a=>by kernel_rfl⟩
def rA:(kG ρ).Ok (Ă ρ):=⟨by kernel_rfl,fun p v b a=>by kernel_rfl⟩
def uY (xs:a7) (x:rm) (m:bl) (k:(a7)×bl->CK ρ) :
    wU (Ă ρ) (Ţ (Ă ρ) 10) [] 300 (ES į x) (kL į xs m) (OK į fun a b=>k (a,b))=jN xs x.1 x.2.1 x.2.2 m k:=by kernel_rfl
def oO {a:a7->Int->Int->Int->bl->CK (a7×bl)}:(((ğ (Ê a ρ).P 274).elim [] (ß 0)).filter fun y=>Nat.beq y.1 0).length=1:=by kernel_rfl
def oP {a:a7->Int->Int->Int->bl->CK (a7×bl)} (p:u6) (v:a8) (c:u6->a8->CK ρ) (b:(i:Nat)->u6->Val (tyL (Ċ.zs i))->CK ρ) :
    goC (Ê a ρ) (Ţ (Ê a ρ) (10-0 / 2)) 274 [] 2 0 (rX (ğ (Ê a ρ).P 274) 0) (ú Ċ.head Ċ.cs Ċ.vs p v) (EM Ċ c b)=(ũ a ρ).bF p v (c p) (fun i=>b i p):=by kernel_rfl
def pz {a:a7->Int->Int->Int->bl->CK (a7×bl)}:(ũ a ρ).Ok (Ê a ρ):=⟨oO,oP⟩
def oM {a:a7->Int->Int->Int->bl->CK (a7×bl)}:(((ğ (Ê a ρ).P 274).elim [] (ß 0)).filter fun y=>Nat.beq y.1 2).length=1:=by kernel_rfl
def oN {a:a7->Int->Int->Int->bl->CK (a7×bl)} (p:Val aG) (v:i4) (c:Val aG->i4->CK ρ) (b:(i:Nat)->Val aG->Val (tyL (ĉ.zs i))->CK ρ) :
    goC (Ê a ρ) (Ţ (Ê a ρ) (10-0 / 2)) 274 [] 2 2 (rX (ğ (Ê a ρ).P 274) 2) (ú ĉ.head ĉ.cs ĉ.vs p v) (EM ĉ c b)=(Ũ a ρ).bF p v (c p) (fun i=>b i p):=by kernel_rfl
def pw {a:a7->Int->Int->Int->bl->CK (a7×bl)}:(Ũ a ρ).Ok (Ê a ρ):=⟨oM,oN⟩
def oK {a:a7->Int->Int->Int->bl->CK (a7×bl)}:(((ğ (Ê a ρ).P 274).elim [] (ß 0)).filter fun y=>Nat.beq y.1 4).length=1:=by kernel_rfl
def oL {a:a7->Int->Int->Int->bl->CK (a7×bl)} (p:u6) (v:a8) (c:u6->a8->CK ρ) (b:(i:Nat)->u6->Val (tyL (Ĉ.zs i))->CK ρ) :
    goC (Ê a ρ) (Ţ (Ê a ρ) (10-0 / 2)) 274 [] 2 4 (rX (ğ (Ê a ρ).P 274) 4) (ú Ĉ.head Ĉ.cs Ĉ.vs p v) (EM Ĉ c b)=(ŧ a ρ).bF p v (c p) (fun i=>b i p):=by kernel_rfl
def pv {a:a7->Int->Int->Int->bl->CK (a7×bl)}:(ŧ a ρ).Ok (Ê a ρ):=⟨oK,oL⟩
def oI {a:a7->Int->Int->Int->bl->CK (a7×bl)}:(((ğ (Ê a ρ).P 274).elim [] (ß 0)).filter fun y=>Nat.beq y.1 6).length=1:=by kernel_rfl
def oJ {a:a7->Int->Int->Int->bl->CK (a7×bl)} (p:Val aG) (v:i4) (c:Val aG->i4->CK ρ) (b:(i:Nat)->Val aG->Val (tyL (ć.zs i))->CK ρ) :
    goC (Ê a ρ) (Ţ (Ê a ρ) (10-0 / 2)) 274 [] 2 6 (rX (ğ (Ê a ρ).P 274) 6) (ú ć.head ć.cs ć.vs p v) (EM ć c b)=(Ŧ a ρ).bF p v (c p) (fun i=>b i p):=by kernel_rfl
def pu {a:a7->Int->Int->Int->bl->CK (a7×bl)}:(Ŧ a ρ).Ok (Ê a ρ):=⟨oI,oJ⟩
def oG {a:a7->Int->Int->Int->bl->CK (a7×bl)}:(((ğ (Ê a ρ).P 274).elim [] (ß 0)).filter fun y=>Nat.beq y.1 8).length=1:=by kernel_rfl
def oH {a:a7->Int->Int->Int->bl->CK (a7×bl)} (p:Val aX) (v:a8) (c:Val aX->a8->CK ρ) (b:(i:Nat)->Val aX->Val (tyL (Ć.zs i))->CK ρ) :
    goC (Ê a ρ) (Ţ (Ê a ρ) (10-0 / 2)) 274 [] 2 8 (rX (ğ (Ê a ρ).P 274) 8) (ú Ć.head Ć.cs Ć.vs p v) (EM Ć c b)=(ť a ρ).bF p v (c p) (fun i=>b i p):=by kernel_rfl
def pr {a:a7->Int->Int->Int->bl->CK (a7×bl)}:(ť a ρ).Ok (Ê a ρ):=⟨oG,oH⟩
def rr {a:a7->Int->Int->Int->bl->CK (a7×bl)} (F:a7->rm->bl->CK (a7×bl)) (xs:a7) (x:rm) (m:bl) (k:(a7)×bl->CK ρ) :
    wU (Ê a ρ) (Ţ (Ê a ρ) 10) [] 274 (ES ⟨ag,[tI,tI,tI],179,Â,F⟩ x) (kL ⟨ag,[tI,tI,tI],179,Â,F⟩ xs m) (OK ⟨ag,[tI,tI,tI],179,Â,F⟩ fun b c=>k (b,c))=ħ a xs x.1 x.2.1 x.2.2 m k:=by kernel_rfl
def rz:(kF ρ).Ok (ė ρ):=⟨by kernel_rfl,fun p v b a=>by kernel_rfl⟩
def rt:(kD ρ).Ok (ė ρ):=⟨by kernel_rfl,fun p v b a=>by kernel_rfl⟩
def ru:(kE ρ).Ok (ė ρ):=⟨by kernel_rfl,fun p v b a=>by kernel_rfl⟩
def uX (xs:a7) (x:Int) (m:bl) (k:(a7)×bl->CK ρ) :
    wU (ė ρ) (Ţ (ė ρ) 10) [] 233 (ES ģ x) (kL ģ xs m) (OK ģ fun a b=>k (a,b))=jM xs x m k:=by kernel_rfl
def PD:(((ğ (iH ρ).P 230).elim [] (ß 0)).filter fun y=>Nat.beq y.1 0).length=1:=by kernel_rfl
def TA:W0 (np (ğ (iH ρ).P 230) 0)=true:=by kernel_rfl
def Tx (p:Val aE) (v a:a7):(ú mA [tI,tI,ae,aa,af,ac,aa,ai,tI,tI,ae,aa,af,ac,aa,ai] [aj] p a).t=(ú mA [tI,tI,ae,aa,af,ac,aa,ai,tI,tI,ae,aa,af,ac,aa,ai] [aj] p v).t:=by kernel_rfl
def Tz (p:Val aE) (v:a7):(ú mA [tI,tI,ae,aa,af,ac,aa,ai,tI,tI,ae,aa,af,ac,aa,ai] [aj] p v).t.all (st3 4)=true:=by kernel_rfl
def PE (p:Val aE) (v:a7) (y:b5) (a:Val aE->a7->CK ρ):Dl (iH ρ) (Ţ (iH ρ) (10-6 / 2)) 230 [1,1,1,3,1,1] 4 0 (np (ğ (iH ρ).P 230) 0) (ú mA [tI,tI,ae,aa,af,ac,aa,ai,tI,tI,ae,aa,af,ac,aa,ai] [aj] p v) (enc ag y) ((pZ ρ).back a)=(pZ ρ).bF p v y (a p):=by kernel_rfl
def TB (a:lm Tryz.prog sc):(pZ ρ).Ok (iH ρ):=⟨PD,a,Tx,Tz,PE⟩
def TD:(He ρ).Ok (iH ρ):=⟨by kernel_rfl,fun p v b a=>by kernel_rfl⟩
def TC:(Hc ρ).Ok (iH ρ):=⟨by kernel_rfl,fun p v b a=>by kernel_rfl⟩
def abq (x:bl) (k:a7->CK ρ) :
    ę (iH ρ) 81 [Â] [aj] x k=XL x k:=by kernel_rfl
def adD (x:bl) (k:py->CK ρ) :
    ę (abv ρ) 19 [Â] [aj,tI] x k=adE x k:=by kernel_rfl
def Pl:(((ğ (j9 ρ).P 230).elim [] (ß 0)).filter fun y=>Nat.beq y.1 0).length=1:=by kernel_rfl
def Tm:W0 (np (ğ (j9 ρ).P 230) 0)=true:=by kernel_rfl
def Tk (p:ry) (v a:a7):(ú mz [tI,tI,ae,aa,af,ac,aa,ai] [aj] p a).t=(ú mz [tI,tI,ae,aa,af,ac,aa,ai] [aj] p v).t:=by kernel_rfl
def Tl (p:ry) (v:a7):(ú mz [tI,tI,ae,aa,af,ac,aa,ai] [aj] p v).t.all (st3 3)=true:=by kernel_rfl
def Pm (p:ry) (v:a7) (y:b5) (a:ry->a7->CK ρ):Dl (j9 ρ) (Ţ (j9 ρ) (10-4 / 2)) 230 [1,3,1,1] 3 0 (np (ğ (j9 ρ).P 230) 0) (ú mz [tI,tI,ae,aa,af,ac,aa,ai] [aj] p v) (enc ag y) ((pY ρ).back a)=(pY ρ).bF p v y (a p):=by kernel_rfl
def Tn (a:lm Tryz.prog sc):(pY ρ).Ok (j9 ρ):=⟨Pl,a,Tk,Tl,Pm⟩
def abo (x:bl) (k:a7->CK ρ) :
    ę (j9 ρ) 96 [Â] [aj] x k=XG x k:=by kernel_rfl
def Fs:(tv ρ).Ok (rk ρ):=⟨by kernel_rfl,fun p v b a=>by kernel_rfl⟩
def Ki (x:bl) (k:rd->CK ρ) :
    ę (rk ρ) 82 [Â] [ag,.bool] x k=xx x k:=by kernel_rfl
def XQ (x:bl) (k:(Val bi)->CK ρ) :
    ę (PM ρ) 20 [Â] [ag,tI] x k=PN x k:=by kernel_rfl
def FH:(t8 ρ).Ok (rS ρ):=⟨by kernel_rfl,fun p v b a=>by kernel_rfl⟩
def KI (x:u5) (k:Bool->CK ρ) :
    ę (rS ρ) 35 [ab,ab] [.bool] x k=xO x.1 x.2 k:=by kernel_rfl
def HH:(wn ρ).Ok (vc ρ):=⟨by kernel_rfl,fun p v b a=>by kernel_rfl⟩
def M3 (x:Val (.pair ag ag)) (k:Bool->CK ρ) :
    ę (vc ρ) 26 [ag,ag] [.bool] x k=AC x.1 x.2 k:=by kernel_rfl
def Pn:(Dx ρ).Ok (Fp ρ):=⟨by kernel_rfl,fun p v b a=>by kernel_rfl⟩
def XI (x:wk) (k:Int->CK ρ) :
    ę (Fp ρ) 88 [Â,tI,tI] [tI] x k=Po x.1 x.2.1 x.2.2 k:=by kernel_rfl
def UM (x:u5) (k:xl->CK ρ) :
    ę (Mp ρ) 91 [ab,ab] [ab,ab,tI] x k=Lc x.1 x.2 k:=by kernel_rfl
def Fv:(tD ρ).Ok (mB ρ):=⟨by kernel_rfl,fun p v b a=>by kernel_rfl⟩
def Fu:(tB ρ).Ok (mB ρ):=⟨by kernel_rfl,fun p v b a=>by kernel_rfl⟩
def Kk (x:Val (.pair Â tI)) (k:(Val bm)->CK ρ) :
    ę (mB ρ) 28 [Â,tI] [.bool,tI] x k=xy x.1 x.2 k:=by kernel_rfl
def Tr:(Ha ρ).Ok (B9 ρ):=⟨by kernel_rfl,fun p v b a=>by kernel_rfl⟩
def Tq:(G8 ρ).Ok (B9 ρ):=⟨by kernel_rfl,fun p v b a=>by kernel_rfl⟩
def abp (x:x9) (k:bl->CK ρ) :
    ę (B9 ρ) 87 [Â,ab] [Â] x k=XH x.1 x.2 k:=by kernel_rfl
def TJ:(Hv ρ).Ok (Ca ρ):=⟨by kernel_rfl,fun p v b a=>by kernel_rfl⟩
def TI:(Hu ρ).Ok (Ca ρ):=⟨by kernel_rfl,fun p v b a=>by kernel_rfl⟩
def abu (x:bl) (k:ly->CK ρ) :
    ę (Ca ρ) 29 [Â] [ab,tI] x k=XU x k:=by kernel_rfl
def MU:(Aq ρ).Ok (Ar ρ):=⟨by kernel_rfl,fun p v b a=>by kernel_rfl⟩
def TE (x:ly) (k:an->CK ρ) :
    ę (Ar ρ) 98 [ab,tI] [ab] x k=Kj x.1 x.2 k:=by kernel_rfl
def Hs:(vV ρ).Ok (ļ ρ):=⟨by kernel_rfl,fun p v b a=>by kernel_rfl⟩
def Ht:(vX ρ).Ok (ļ ρ):=⟨by kernel_rfl,fun p v b a=>by kernel_rfl⟩
def Hr:(vU ρ).Ok (ļ ρ):=⟨by kernel_rfl,fun p v b a=>by kernel_rfl⟩
def Ho:(vS ρ).Ok (ļ ρ):=⟨by kernel_rfl,fun p v b a=>by kernel_rfl⟩
def Hm:(vO ρ).Ok (ļ ρ):=⟨by kernel_rfl,fun p v b a=>by kernel_rfl⟩
def Hl:(vM ρ).Ok (ļ ρ):=⟨by kernel_rfl,fun p v b a=>by kernel_rfl⟩
def Hk:(vK ρ).Ok (ļ ρ):=⟨by kernel_rfl,fun p v b a=>by kernel_rfl⟩
def Hn:(vQ ρ).Ok (ļ ρ):=⟨by kernel_rfl,fun p v b a=>by kernel_rfl⟩
def MV (x:x9) (k:ly->CK ρ) :
    ę (ļ ρ) 30 [Â,ab] [ab,tI] x k=Au x.1 x.2 k:=by kernel_rfl
def abt (x:bl) (k:py->CK ρ) :
    ę (VK ρ) 40 [Â] [aj,tI] x k=XO x k:=by kernel_rfl
def Y6 (x:nn) (k:a8->CK ρ) :
    ę (Ru ρ) 68 [È,Ã] [tI,tI] x k=Rv x.1 x.2 k:=by kernel_rfl
def UL:(IC ρ).Ok (Lb ρ):=⟨by kernel_rfl,fun p v b a=>by kernel_rfl⟩
def ab0 (x:nn) (k:BE->CK ρ) :
    ę (Lb ρ) 69 [È,Ã] [È,tI] x k=Y5 x.1 x.2 k:=by kernel_rfl
end Go.Proofs.ZzM
end
