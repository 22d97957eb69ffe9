/- lemmas -/
import Derived.Test.YtdmegkgjpgcfgaaGreatMdMA
set_option linter.all false
noncomputable section
variable {ρ:Type}
set_option maxRecDepth 100000
namespace Go.Proofs.ZzM
open Go Go.Am
def Mc:(zL ρ).Ok (sY ρ):=⟨by kernel_rfl,fun p v b a=>by kernel_rfl⟩
def Mb:(zJ ρ).Ok (sY ρ):=⟨by kernel_rfl,fun p v b a=>by kernel_rfl⟩
def Ss (x:a8) (k:Bool->BE ρ) :
    Ğ (sY ρ) 15 [Â] [.bool] x k=JH x k:=by kernel_rfl
def Md:(zN ρ).Ok (zO ρ):=⟨by kernel_rfl,fun p v b a=>by kernel_rfl⟩
def Su (x:Val bn) (k:Bool->BE ρ) :
    Ğ (zO ρ) 16 [ah,tI] [.bool] x k=JI x.1 x.2 k:=by kernel_rfl
def QR:(Eo ρ).Ok (FL ρ):=⟨by kernel_rfl,fun p v b a=>by kernel_rfl⟩
def Yc (x:xl) (k:Int->BE ρ) :
    Ğ (FL ρ) 269 [È,tI,ab] [tI] x k=QS x.1 x.2.1 x.2.2 k:=by kernel_rfl
def abd (x:nm) (k:u5->BE ρ) :
    Ğ (Vl ρ) 226 [È,tI,tI] [.bool,tI] x k=Yf x.1 x.2.1 x.2.2 k:=by kernel_rfl
def O5:(Dv ρ).Ok (lS ρ):=⟨by kernel_rfl,fun p v b a=>by kernel_rfl⟩
def O4:(Dt ρ).Ok (lS ρ):=⟨by kernel_rfl,fun p v b a=>by kernel_rfl⟩
def O3:(Ds ρ).Ok (lS ρ):=⟨by kernel_rfl,fun p v b a=>by kernel_rfl⟩
def O2:(Dr ρ).Ok (lS ρ):=⟨by kernel_rfl,fun p v b a=>by kernel_rfl⟩
def O1:(Dq ρ).Ok (lS ρ):=⟨by kernel_rfl,fun p v b a=>by kernel_rfl⟩
def WQ (x:Val (.pair È (.pair aj tI))) (k:Int->BE ρ) :
    Ğ (lS ρ) 156 [È,aj,tI] [tI] x k=O6 x.1 x.2.1 x.2.2 k:=by kernel_rfl
def Ph:(DA ρ).Ok (xj ρ):=⟨by kernel_rfl,fun p v b a=>by kernel_rfl⟩
def Pj:(DB ρ).Ok (xj ρ):=⟨by kernel_rfl,fun p v b a=>by kernel_rfl⟩
def WZ (x:a8) (k:Int->BE ρ) :
    Ğ (xj ρ) 80 [Â] [tI] x k=Pk x k:=by kernel_rfl
def mH:(κ ρ).Ok (Š ρ):=⟨by kernel_rfl,fun p v b a=>by kernel_rfl⟩
def nO (x:Val (.pair aa Ã)) (k:Int->BE ρ) :
    Ğ (Š ρ) 135 [aa,Ã] [tI] x k=ŷ x.1 x.2 k:=by kernel_rfl
def MX (x:Val (.pair bh az)) (k:Int->BE ρ) :
    Ğ (En ρ) 147 [bh,ab,tI] [tI] x k=Ba x.1 x.2.1 x.2.2 k:=by kernel_rfl
def TT:(H5 ρ).Ok (B4 ρ):=⟨by kernel_rfl,fun p v b a=>by kernel_rfl⟩
def TS:(HZ ρ).Ok (B4 ρ):=⟨by kernel_rfl,fun p v b a=>by kernel_rfl⟩
def aa8 (x:Val (.pair È (.pair Ö Ã))) (k:Int->BE ρ) :
    Ğ (B4 ρ) 247 [È,Ö,tI,tI] [tI] x k=X0 x.1 x.2.1 x.2.2.1 x.2.2.2 k:=by kernel_rfl
def C1 (x:Val (.pair aq ab)) (k:bl->BE ρ) :
    Ğ (ug ρ) 261 [aq,ab] [Ã] x k=pH x.1 x.2 k:=by kernel_rfl
def Qw:(Ei ρ).Ok (FB ρ):=⟨by kernel_rfl,fun p v b a=>by kernel_rfl⟩
def XP (x:bx) (k:Int->BE ρ) :
    Ğ (FB ρ) 264 [aa] [tI] x k=Qx x k:=by kernel_rfl
def Qy (x:bl) (k:js->BE ρ) :
    Ğ (HN ρ) 312 [tI,tI] [Ã,tI] x k=FC x.1 x.2 k:=by kernel_rfl
def ac7 (x:hO) (k:js->BE ρ) :
    Ğ (aa2 ρ) 296 [Ã,Ã] [Ã,tI] x k=ac8 x.1 x.2 k:=by kernel_rfl
def Ku (x:hO) (k:bl->BE ρ) :
    Ğ (A9 ρ) 262 [Ã,Ã] [Ã] x k=xP x.1 x.2 k:=by kernel_rfl
def ac5 (x:hO) (k:Int->BE ρ) :
    Ğ (aa1 ρ) 320 [Ã,Ã] [tI] x k=ac6 x.1 x.2 k:=by kernel_rfl
def HP (x:hO) (k:Bool->BE ρ) :
    Ğ (yR ρ) 313 [ç] [.bool] x k=uR x k:=by kernel_rfl
def ac9 (x:hO) (k:js->BE ρ) :
    Ğ (aa4 ρ) 316 [Ã,Ã] [Ã,tI] x k=ada x.1 x.2 k:=by kernel_rfl
def XU (x:xa) (k:Val vc->BE ρ) :
    Ğ (FD ρ) 297 [ç,Ã] [ç,tI] x k=QD x.1 x.2 k:=by kernel_rfl
def Kt (x:hO) (k:hO->BE ρ) :
    Ğ (A8 ρ) 263 [Ã,Ã] [ç] x k=xO x.1 x.2 k:=by kernel_rfl
def TY (x:rn) (k:hO->BE ρ) :
    Ğ (LP ρ) 215 [È,Ô] [ç] x k=Kx x.1 x.2 k:=by kernel_rfl
def X7 (x:rn) (k:bl->BE ρ) :
    Ğ (QP ρ) 216 [È,Ô] [Ã] x k=QQ x.1 x.2 k:=by kernel_rfl
def XS (x:bl) (k:Int->BE ρ) :
    Ğ (QA ρ) 265 [tI,tI] [tI] x k=HO x.1 x.2 k:=by kernel_rfl
def aa5 (x:bl) (k:bl->BE ρ) :
    Ğ (Vj ρ) 217 [Ã] [tI,tI] x k=XW x k:=by kernel_rfl
def XV (x:bl) (k:bl->BE ρ) :
    Ğ (QE ρ) 218 [Ã] [tI,tI] x k=QF x k:=by kernel_rfl
def aa6 (x:rn) (k:bl->BE ρ) :
    Ğ (Vk ρ) 248 [È,Ô] [Ã] x k=XX x.1 x.2 k:=by kernel_rfl
def TQ:(HV ρ).Ok (wn ρ):=⟨by kernel_rfl,fun p v b a=>by kernel_rfl⟩
def TR:(HX ρ).Ok (wn ρ):=⟨by kernel_rfl,fun p v b a=>by kernel_rfl⟩
def TP:(HT ρ).Ok (wn ρ):=⟨by kernel_rfl,fun p v b a=>by kernel_rfl⟩
def aa7 (x:b6) (k:(Val bh)->BE ρ) :
    Ğ (wn ρ) 132 [È] [bh] x k=XZ x k:=by kernel_rfl
def T2 (x:b6) (k:(Val (.pair Ð bq))->BE ρ) :
    Ğ (LQ ρ) 66 [È] [Ð,aa,tI] x k=KA x k:=by kernel_rfl
def WL:(Lu ρ).Ok (OM ρ):=⟨by kernel_rfl,fun p v b a=>by kernel_rfl⟩
def acL (x:Val aY) (k:Int->BE ρ) :
    Ğ (OM ρ) 105 [Â,ah,tI,tI] [tI] x k=acM x.1 x.2.1 x.2.2.1 x.2.2.2 k:=by kernel_rfl
def zT:(pL ρ).Ok (nE ρ):=⟨by kernel_rfl,fun p v b a=>by kernel_rfl⟩
def EU (x:Val (.pair ab (.pair tI (.pair ay aO)))) (k:an->BE ρ) :
    Ğ (nE ρ) 183 [ab,tI,ay,aO] [ab] x k=qZ x.1 x.2.1 x.2.2.1 x.2.2.2 k:=by kernel_rfl
def ET:(tf ρ).Ok (Ų ρ):=⟨by kernel_rfl,fun p v b a=>by kernel_rfl⟩
def ES:(tc ρ).Ok (Ų ρ):=⟨by kernel_rfl,fun p v b a=>by kernel_rfl⟩
def ER:(s9 ρ).Ok (Ų ρ):=⟨by kernel_rfl,fun p v b a=>by kernel_rfl⟩
def EQ:(s7 ρ).Ok (Ų ρ):=⟨by kernel_rfl,fun p v b a=>by kernel_rfl⟩
def JL (x:ly) (k:b6->BE ρ) :
    Ğ (Ų ρ) 104 [Â,ah] [È] x k=xd x.1 x.2 k:=by kernel_rfl
def aaY (x:Val (.pair Ð tI)) (k:Bool->BE ρ) :
    Ğ (Va ρ) 196 [Ð,tI] [.bool] x k=XJ x.1 x.2 k:=by kernel_rfl
def Qu:(Eh ρ).Ok (FA ρ):=⟨by kernel_rfl,fun p v b a=>by kernel_rfl⟩
def XO (x:ge) (k:bl->BE ρ) :
    Ğ (FA ρ) 126 [Ð] [tI,tI] x k=Qv x k:=by kernel_rfl
def HH:(wi ρ).Ok (η ρ):=⟨by kernel_rfl,fun p v b a=>by kernel_rfl⟩
def HG:(we ρ).Ok (η ρ):=⟨by kernel_rfl,fun p v b a=>by kernel_rfl⟩
def HE:(vY ρ).Ok (η ρ):=⟨by kernel_rfl,fun p v b a=>by kernel_rfl⟩
def HF:(wd ρ).Ok (η ρ):=⟨by kernel_rfl,fun p v b a=>by kernel_rfl⟩
def HD:(vX ρ).Ok (η ρ):=⟨by kernel_rfl,fun p v b a=>by kernel_rfl⟩
def MP (x:Val (.pair Ð au)) (k:AS->BE ρ) :
    Ğ (η ρ) 127 [Ð,au] [ab,.bool] x k=AU x.1 x.2 k:=by kernel_rfl
def HK (x:ge) (k:u5->BE ρ) :
    Ğ (yP ρ) 155 [Ð] [.bool,tI] x k=uP x k:=by kernel_rfl
def Ml (x:ly) (k:Bool->BE ρ) :
    Ğ (Dx ρ) 79 [Â,ah] [.bool] x k=zX x.1 x.2 k:=by kernel_rfl
def Mg:(zQ ρ).Ok (sZ ρ):=⟨by kernel_rfl,fun p v b a=>by kernel_rfl⟩
def Mh:(zS ρ).Ok (sZ ρ):=⟨by kernel_rfl,fun p v b a=>by kernel_rfl⟩
def Sv (x:ly) (k:Int->BE ρ) :
    Ğ (sZ ρ) 116 [Â,ah] [tI] x k=JJ x.1 x.2 k:=by kernel_rfl
def FE (x:Int) (k:Bool->BE ρ) :
    Ğ (wm ρ) 234 [tI] [.bool] x k=rP x k:=by kernel_rfl
def A7 (x:bl) (k:Int->BE ρ) :
    Ğ (rQ ρ) 180 [tI,tI] [tI] x k=nQ x.1 x.2 k:=by kernel_rfl
def SB (x:Val (.pair ah (.pair ah ay))) (k:Int->BE ρ) :
    Ğ (Lv ρ) 179 [ah,ah,ay] [tI] x k=JK x.1 x.2.1 x.2.2 k:=by kernel_rfl
def mj:(Ξ ρ).Ok (û ρ):=⟨by kernel_rfl,fun p v b a=>by kernel_rfl⟩
def ml:(Ο ρ).Ok (û ρ):=⟨by kernel_rfl,fun p v b a=>by kernel_rfl⟩
def nc (xs:a7) (x:bl) (m:a8) (k:(a7)×a8->BE ρ) :
    wI (û ρ) (ť (û ρ) 10) [] 273 (EE ć x) (kP ć xs m) (N3 ć fun a b=>k (a,b))=ū xs x.1 x.2 m k:=by kernel_rfl
def rz:(kL ρ).Ok (Ą ρ):=⟨by kernel_rfl,fun p v b a=>by kernel_rfl⟩
def ru:(kK ρ).Ok (Ą ρ):=⟨by kernel_rfl,fun p v b a=>by kernel_rfl⟩
def rA:(kM ρ).Ok (Ą ρ):=⟨by kernel_rfl,fun p v b a=>by kernel_rfl⟩
def rt:(kJ ρ).Ok (Ą ρ):=⟨by kernel_rfl,fun p v b a=>by kernel_rfl⟩
def uM (xs:a7) (x:rm) (m:a8) (k:(a7)×a8->BE ρ) :
    wI (Ą ρ) (ť (Ą ρ) 10) [] 300 (EE Ĵ x) (kP Ĵ xs m) (N3 Ĵ fun a b=>k (a,b))=jO xs x.1 x.2.1 x.2.2 m k:=by kernel_rfl
def oR {a:a7->Int->Int->Int->a8->BE (a7×a8)}:(((Ġ (É a ρ).P 274).elim [] (ß 0)).filter fun y=>Nat.beq y.1 0).length=1:=by kernel_rfl
def oS {a:a7->Int->Int->Int->a8->BE (a7×a8)} (p:u7) (v:bl) (c:u7->bl->BE ρ) (b:(i:Nat)->u7->Val (tyL (Č.zs i))->BE ρ) :
    goC (É a ρ) (ť (É a ρ) (10-0 / 2)) 274 [] 2 0 (rS (Ġ (É a ρ).P 274) 0) (ü Č.head Č.cs Č.vs p v) (Ez Č c b)=(Ū a ρ).bF p v (c p) (fun i=>b i p):=by kernel_rfl
def pE {a:a7->Int->Int->Int->a8->BE (a7×a8)}:(Ū a ρ).Ok (É a ρ):=⟨oR,oS⟩
def oP {a:a7->Int->Int->Int->a8->BE (a7×a8)}:(((Ġ (É a ρ).P 274).elim [] (ß 0)).filter fun y=>Nat.beq y.1 2).length=1:=by kernel_rfl
def oQ {a:a7->Int->Int->Int->a8->BE (a7×a8)} (p:Val aJ) (v:io) (c:Val aJ->io->BE ρ) (b:(i:Nat)->Val aJ->Val (tyL (ċ.zs i))->BE ρ) :
    goC (É a ρ) (ť (É a ρ) (10-0 / 2)) 274 [] 2 2 (rS (Ġ (É a ρ).P 274) 2) (ü ċ.head ċ.cs ċ.vs p v) (Ez ċ c b)=(ũ a ρ).bF p v (c p) (fun i=>b i p):=by kernel_rfl
def pD {a:a7->Int->Int->Int->a8->BE (a7×a8)}:(ũ a ρ).Ok (É a ρ):=⟨oP,oQ⟩
def oN {a:a7->Int->Int->Int->a8->BE (a7×a8)}:(((Ġ (É a ρ).P 274).elim [] (ß 0)).filter fun y=>Nat.beq y.1 4).length=1:=by kernel_rfl
def oO {a:a7->Int->Int->Int->a8->BE (a7×a8)} (p:u7) (v:bl) (c:u7->bl->BE ρ) (b:(i:Nat)->u7->Val (tyL (Ċ.zs i))->BE ρ) :
    goC (É a ρ) (ť (É a ρ) (10-0 / 2)) 274 [] 2 4 (rS (Ġ (É a ρ).P 274) 4) (ü Ċ.head Ċ.cs Ċ.vs p v) (Ez Ċ c b)=(Ũ a ρ).bF p v (c p) (fun i=>b i p):=by kernel_rfl
def pC {a:a7->Int->Int->Int->a8->BE (a7×a8)}:(Ũ a ρ).Ok (É a ρ):=⟨oN,oO⟩
def oL {a:a7->Int->Int->Int->a8->BE (a7×a8)}:(((Ġ (É a ρ).P 274).elim [] (ß 0)).filter fun y=>Nat.beq y.1 6).length=1:=by kernel_rfl
def oM {a:a7->Int->Int->Int->a8->BE (a7×a8)} (p:Val aJ) (v:io) (c:Val aJ->io->BE ρ) (b:(i:Nat)->Val aJ->Val (tyL (ĉ.zs i))->BE ρ) :
    goC (É a ρ) (ť (É a ρ) (10-0 / 2)) 274 [] 2 6 (rS (Ġ (É a ρ).P 274) 6) (ü ĉ.head ĉ.cs ĉ.vs p v) (Ez ĉ c b)=(ŧ a ρ).bF p v (c p) (fun i=>b i p):=by kernel_rfl
def pB {a:a7->Int->Int->Int->a8->BE (a7×a8)}:(ŧ a ρ).Ok (É a ρ):=⟨oL,oM⟩
def oJ {a:a7->Int->Int->Int->a8->BE (a7×a8)}:(((Ġ (É a ρ).P 274).elim [] (ß 0)).filter fun y=>Nat.beq y.1 8).length=1:=by kernel_rfl
def oK {a:a7->Int->Int->Int->a8->BE (a7×a8)} (p:Val aW) (v:bl) (c:Val aW->bl->BE ρ) (b:(i:Nat)->Val aW->Val (tyL (Ĉ.zs i))->BE ρ) :
    goC (É a ρ) (ť (É a ρ) (10-0 / 2)) 274 [] 2 8 (rS (Ġ (É a ρ).P 274) 8) (ü Ĉ.head Ĉ.cs Ĉ.vs p v) (Ez Ĉ c b)=(Ŧ a ρ).bF p v (c p) (fun i=>b i p):=by kernel_rfl
def pA {a:a7->Int->Int->Int->a8->BE (a7×a8)}:(Ŧ a ρ).Ok (É a ρ):=⟨oJ,oK⟩
def rl {a:a7->Int->Int->Int->a8->BE (a7×a8)} (F:a7->rm->a8->BE (a7×a8)) (xs:a7) (x:rm) (m:a8) (k:(a7)×a8->BE ρ) :
    wI (É a ρ) (ť (É a ρ) 10) [] 274 (EE ⟨ah,[tI,tI,tI],179,Â,F⟩ x) (kP ⟨ah,[tI,tI,tI],179,Â,F⟩ xs m) (N3 ⟨ah,[tI,tI,tI],179,Â,F⟩ fun b c=>k (b,c))=ħ a xs x.1 x.2.1 x.2.2 m k:=by kernel_rfl
def rr:(kI ρ).Ok (ė ρ):=⟨by kernel_rfl,fun p v b a=>by kernel_rfl⟩
def ro:(kG ρ).Ok (ė ρ):=⟨by kernel_rfl,fun p v b a=>by kernel_rfl⟩
def rq:(kH ρ).Ok (ė ρ):=⟨by kernel_rfl,fun p v b a=>by kernel_rfl⟩
def uL (xs:a7) (x:Int) (m:a8) (k:(a7)×a8->BE ρ) :
    wI (ė ρ) (ť (ė ρ) 10) [] 233 (EE ģ x) (kP ģ xs m) (N3 ģ fun a b=>k (a,b))=jN xs x m k:=by kernel_rfl
def O8:(((Ġ (iD ρ).P 230).elim [] (ß 0)).filter fun y=>Nat.beq y.1 0).length=1:=by kernel_rfl
def SM:V4 (np (Ġ (iD ρ).P 230) 0)=true:=by kernel_rfl
def SK (p:Val aF) (v a:a7):(ü mC [tI,tI,ae,aa,af,ac,aa,aj,tI,tI,ae,aa,af,ac,aa,aj] [ak] p a).t=(ü mC [tI,tI,ae,aa,af,ac,aa,aj,tI,tI,ae,aa,af,ac,aa,aj] [ak] p v).t:=by kernel_rfl
def SL (p:Val aF) (v:a7):(ü mC [tI,tI,ae,aa,af,ac,aa,aj,tI,tI,ae,aa,af,ac,aa,aj] [ak] p v).t.all (st3 4)=true:=by kernel_rfl
def O9 (p:Val aF) (v:a7) (y:b5) (a:Val aF->a7->BE ρ):Db (iD ρ) (ť (iD ρ) (10-6 / 2)) 230 [1,1,1,3,1,1] 4 0 (np (Ġ (iD ρ).P 230) 0) (ü mC [tI,tI,ae,aa,af,ac,aa,aj,tI,tI,ae,aa,af,ac,aa,aj] [ak] p v) (enc ah y) ((pY ρ).back a)=(pY ρ).bF p v y (a p):=by kernel_rfl
def SN (a:lB Tryz.prog rX):(pY ρ).Ok (iD ρ):=⟨O8,a,SK,SL,O9⟩
def SP:(GR ρ).Ok (iD ρ):=⟨by kernel_rfl,fun p v b a=>by kernel_rfl⟩
def SO:(GP ρ).Ok (iD ρ):=⟨by kernel_rfl,fun p v b a=>by kernel_rfl⟩
def aaC (x:a8) (k:a7->BE ρ) :
    Ğ (iD ρ) 81 [Â] [ak] x k=WR x k:=by kernel_rfl
def acR (x:a8) (k:px->BE ρ) :
    Ğ (aaG ρ) 19 [Â] [ak,tI] x k=acS x k:=by kernel_rfl
def OQ:(((Ġ (ka ρ).P 230).elim [] (ß 0)).filter fun y=>Nat.beq y.1 0).length=1:=by kernel_rfl
def Sy:V4 (np (Ġ (ka ρ).P 230) 0)=true:=by kernel_rfl
def Sw (p:ry) (v a:a7):(ü mB [tI,tI,ae,aa,af,ac,aa,aj] [ak] p a).t=(ü mB [tI,tI,ae,aa,af,ac,aa,aj] [ak] p v).t:=by kernel_rfl
def Sx (p:ry) (v:a7):(ü mB [tI,tI,ae,aa,af,ac,aa,aj] [ak] p v).t.all (st3 3)=true:=by kernel_rfl
def OS (p:ry) (v:a7) (y:b5) (a:ry->a7->BE ρ):Db (ka ρ) (ť (ka ρ) (10-4 / 2)) 230 [1,3,1,1] 3 0 (np (Ġ (ka ρ).P 230) 0) (ü mB [tI,tI,ae,aa,af,ac,aa,aj] [ak] p v) (enc ah y) ((pX ρ).back a)=(pX ρ).bF p v y (a p):=by kernel_rfl
def Sz (a:lB Tryz.prog rX):(pX ρ).Ok (ka ρ):=⟨OQ,a,Sw,Sx,OS⟩
def aaA (x:a8) (k:a7->BE ρ) :
    Ğ (ka ρ) 96 [Â] [ak] x k=WM x k:=by kernel_rfl
def E5:(tk ρ).Ok (rh ρ):=⟨by kernel_rfl,fun p v b a=>by kernel_rfl⟩
def JN (x:a8) (k:rd->BE ρ) :
    Ğ (rh ρ) 82 [Â] [ah,.bool] x k=xg x k:=by kernel_rfl
def WV (x:a8) (k:(Val bn)->BE ρ) :
    Ğ (Pf ρ) 20 [Â] [ah,tI] x k=Pg x k:=by kernel_rfl
def Fp:(tS ρ).Ok (rO ρ):=⟨by kernel_rfl,fun p v b a=>by kernel_rfl⟩
def J9 (x:u6) (k:Bool->BE ρ) :
    Ğ (rO ρ) 35 [ab,ab] [.bool] x k=xB x.1 x.2 k:=by kernel_rfl
def Hm:(vV ρ).Ok (uO ρ):=⟨by kernel_rfl,fun p v b a=>by kernel_rfl⟩
def Mu (x:Val (.pair ah ah)) (k:Bool->BE ρ) :
    Ğ (uO ρ) 26 [ah,ah] [.bool] x k=Ao x.1 x.2 k:=by kernel_rfl
def OT:(Dm ρ).Ok (EZ ρ):=⟨by kernel_rfl,fun p v b a=>by kernel_rfl⟩
def WO (x:wl) (k:Int->BE ρ) :
    Ğ (EZ ρ) 88 [Â,tI,tI] [tI] x k=OU x.1 x.2.1 x.2.2 k:=by kernel_rfl
def T4 (x:u6) (k:x9->BE ρ) :
    Ğ (LR ρ) 91 [ab,ab] [ab,ab,tI] x k=KC x.1 x.2 k:=by kernel_rfl
def E7:(tv ρ).Ok (mD ρ):=⟨by kernel_rfl,fun p v b a=>by kernel_rfl⟩
def E6:(tq ρ).Ok (mD ρ):=⟨by kernel_rfl,fun p v b a=>by kernel_rfl⟩
def JP (x:Val (.pair Â tI)) (k:u5->BE ρ) :
    Ğ (mD ρ) 28 [Â,tI] [.bool,tI] x k=xh x.1 x.2 k:=by kernel_rfl
def SE:(GN ρ).Ok (BV ρ):=⟨by kernel_rfl,fun p v b a=>by kernel_rfl⟩
def SD:(GK ρ).Ok (BV ρ):=⟨by kernel_rfl,fun p v b a=>by kernel_rfl⟩
def aaB (x:y5) (k:a8->BE ρ) :
    Ğ (BV ρ) 87 [Â,ab] [Â] x k=WN x.1 x.2 k:=by kernel_rfl
def SW:(G8 ρ).Ok (BW ρ):=⟨by kernel_rfl,fun p v b a=>by kernel_rfl⟩
def SV:(G7 ρ).Ok (BW ρ):=⟨by kernel_rfl,fun p v b a=>by kernel_rfl⟩
def aaF (x:a8) (k:lA->BE ρ) :
    Ğ (BW ρ) 29 [Â] [ab,tI] x k=WY x k:=by kernel_rfl
def Mm:(Ac ρ).Ok (Ad ρ):=⟨by kernel_rfl,fun p v b a=>by kernel_rfl⟩
def SQ (x:lA) (k:an->BE ρ) :
    Ğ (Ad ρ) 98 [ab,tI] [ab] x k=JO x.1 x.2 k:=by kernel_rfl
def G5:(vK ρ).Ok (Ľ ρ):=⟨by kernel_rfl,fun p v b a=>by kernel_rfl⟩
def G6:(vM ρ).Ok (Ľ ρ):=⟨by kernel_rfl,fun p v b a=>by kernel_rfl⟩
def G4:(vJ ρ).Ok (Ľ ρ):=⟨by kernel_rfl,fun p v b a=>by kernel_rfl⟩
def G3:(vH ρ).Ok (Ľ ρ):=⟨by kernel_rfl,fun p v b a=>by kernel_rfl⟩
def GZ:(vD ρ).Ok (Ľ ρ):=⟨by kernel_rfl,fun p v b a=>by kernel_rfl⟩
def GY:(vB ρ).Ok (Ľ ρ):=⟨by kernel_rfl,fun p v b a=>by kernel_rfl⟩
def GW:(vz ρ).Ok (Ľ ρ):=⟨by kernel_rfl,fun p v b a=>by kernel_rfl⟩
def G0:(vF ρ).Ok (Ľ ρ):=⟨by kernel_rfl,fun p v b a=>by kernel_rfl⟩
def Mn (x:y5) (k:lA->BE ρ) :
    Ğ (Ľ ρ) 30 [Â,ab] [ab,tI] x k=Ae x.1 x.2 k:=by kernel_rfl
def aaE (x:a8) (k:px->BE ρ) :
    Ğ (U0 ρ) 40 [Â] [ak,tI] x k=WT x k:=by kernel_rfl
def Ye (x:nm) (k:bl->BE ρ) :
    Ğ (QT ρ) 68 [È,Ã] [tI,tI] x k=QU x.1 x.2 k:=by kernel_rfl
def T3:(Ih ρ).Ok (KB ρ):=⟨by kernel_rfl,fun p v b a=>by kernel_rfl⟩
def abc (x:nm) (k:(Val bp)->BE ρ) :
    Ğ (KB ρ) 69 [È,Ã] [È,tI] x k=Yd x.1 x.2 k:=by kernel_rfl
end Go.Proofs.ZzM
end
