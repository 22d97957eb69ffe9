/- lemmas -/
import Derived.Test.YtenljaeklhlanaaGreatMdMA
set_option linter.all false
noncomputable section
variable {ρ:Type}
set_option maxRecDepth 100000
namespace Go.Proofs.ZzM
open Go Go.Am
def Lq:(zW ρ).Ok (zY ρ):=⟨by kernel_rfl,fun p v b a=>by kernel_rfl⟩
def Ln:(zU ρ).Ok (zY ρ):=⟨by kernel_rfl,fun p v b a=>by kernel_rfl⟩
def P2:(Ez ρ).Ok (P3 ρ):=⟨by kernel_rfl,fun p v b a=>by kernel_rfl⟩
def Oq:(Dx ρ).Ok (mf ρ):=⟨by kernel_rfl,fun p v b a=>by kernel_rfl⟩
def Oo:(Dv ρ).Ok (mf ρ):=⟨by kernel_rfl,fun p v b a=>by kernel_rfl⟩
def On:(Du ρ).Ok (mf ρ):=⟨by kernel_rfl,fun p v b a=>by kernel_rfl⟩
def Om:(Dt ρ).Ok (mf ρ):=⟨by kernel_rfl,fun p v b a=>by kernel_rfl⟩
def Ol:(Ds ρ).Ok (mf ρ):=⟨by kernel_rfl,fun p v b a=>by kernel_rfl⟩
def VZ (x:Val (.pair Ê (.pair aj tI))) (k:Int->BY ρ) :
    S8 (mf ρ) 97 [Ê,aj,tI] [tI] x k=Ot x.1 x.2.1 x.2.2 k:=by kernel_rfl
def OA:(DA ρ).Ok (Fh ρ):=⟨by kernel_rfl,fun p v b a=>by kernel_rfl⟩
def OB:(DB ρ).Ok (Fh ρ):=⟨by kernel_rfl,fun p v b a=>by kernel_rfl⟩
def Lt:(Ab ρ).Ok (Ae ρ):=⟨by kernel_rfl,fun p v b a=>by kernel_rfl⟩
def Lu:(Ad ρ).Ok (Ae ρ):=⟨by kernel_rfl,fun p v b a=>by kernel_rfl⟩
def mC:(Ο ρ).Ok (þ ρ):=⟨by kernel_rfl,fun p v b a=>by kernel_rfl⟩
def mD:(Ρ ρ).Ok (þ ρ):=⟨by kernel_rfl,fun p v b a=>by kernel_rfl⟩
def nD (xs:a7) (x:bx) (m:a8) (k:(a7)×a8->BY ρ) :
    xc (þ ρ) (ŧ (þ ρ) 10) [] 207 (EL ĉ x) (lB ĉ xs m) (Np ĉ fun a b=>k (a,b))=ŭ xs x.1 x.2 m k:=by kernel_rfl
def rV:(lm ρ).Ok (ą ρ):=⟨by kernel_rfl,fun p v b a=>by kernel_rfl⟩
def rU:(lh ρ).Ok (ą ρ):=⟨by kernel_rfl,fun p v b a=>by kernel_rfl⟩
def rW:(ln ρ).Ok (ą ρ):=⟨by kernel_rfl,fun p v b a=>by kernel_rfl⟩
def rS:(lg ρ).Ok (ą ρ):=⟨by kernel_rfl,fun p v b a=>by kernel_rfl⟩
def vk (xs:a7) (x:qs) (m:a8) (k:(a7)×a8->BY ρ) :
    xc (ą ρ) (ŧ (ą ρ) 10) [] 246 (EL ķ x) (lB ķ xs m) (Np ķ fun a b=>k (a,b))=jY xs x.1 x.2.1 x.2.2 m k:=by kernel_rfl
def pl {a:a7->Int->Int->Int->a8->BY (a7×a8)}:(((Ġ (É a ρ).P 208).elim [] (ß 0)).filter fun y=>Nat.beq y.1 0).length=1:=by kernel_rfl
def pm {a:a7->Int->Int->Int->a8->BY (a7×a8)} (p:v6) (v:bx) (c:v6->bx->BY ρ) (b:(i:Nat)->v6->Val (tyL (Ď.zs i))->BY ρ) :
    goC (É a ρ) (ŧ (É a ρ) (10-0 / 2)) 208 [] 2 0 (sl (Ġ (É a ρ).P 208) 0) (û Ď.head Ď.cs Ď.vs p v) (EG Ď c b)=(Ŭ a ρ).bF p v (c p) (fun i=>b i p):=by kernel_rfl
def pU {a:a7->Int->Int->Int->a8->BY (a7×a8)}:(Ŭ a ρ).Ok (É a ρ):=⟨pl,pm⟩
def pj {a:a7->Int->Int->Int->a8->BY (a7×a8)}:(((Ġ (É a ρ).P 208).elim [] (ß 0)).filter fun y=>Nat.beq y.1 2).length=1:=by kernel_rfl
def pk {a:a7->Int->Int->Int->a8->BY (a7×a8)} (p:Val aF) (v:im) (c:Val aF->im->BY ρ) (b:(i:Nat)->Val aF->Val (tyL (č.zs i))->BY ρ) :
    goC (É a ρ) (ŧ (É a ρ) (10-0 / 2)) 208 [] 2 2 (sl (Ġ (É a ρ).P 208) 2) (û č.head č.cs č.vs p v) (EG č c b)=(ū a ρ).bF p v (c p) (fun i=>b i p):=by kernel_rfl
def pT {a:a7->Int->Int->Int->a8->BY (a7×a8)}:(ū a ρ).Ok (É a ρ):=⟨pj,pk⟩
def pf {a:a7->Int->Int->Int->a8->BY (a7×a8)}:(((Ġ (É a ρ).P 208).elim [] (ß 0)).filter fun y=>Nat.beq y.1 4).length=1:=by kernel_rfl
def ph {a:a7->Int->Int->Int->a8->BY (a7×a8)} (p:v6) (v:bx) (c:v6->bx->BY ρ) (b:(i:Nat)->v6->Val (tyL (Č.zs i))->BY ρ) :
    goC (É a ρ) (ŧ (É a ρ) (10-0 / 2)) 208 [] 2 4 (sl (Ġ (É a ρ).P 208) 4) (û Č.head Č.cs Č.vs p v) (EG Č c b)=(Ū a ρ).bF p v (c p) (fun i=>b i p):=by kernel_rfl
def pS {a:a7->Int->Int->Int->a8->BY (a7×a8)}:(Ū a ρ).Ok (É a ρ):=⟨pf,ph⟩
def pd {a:a7->Int->Int->Int->a8->BY (a7×a8)}:(((Ġ (É a ρ).P 208).elim [] (ß 0)).filter fun y=>Nat.beq y.1 6).length=1:=by kernel_rfl
def pe {a:a7->Int->Int->Int->a8->BY (a7×a8)} (p:Val aF) (v:im) (c:Val aF->im->BY ρ) (b:(i:Nat)->Val aF->Val (tyL (ċ.zs i))->BY ρ) :
    goC (É a ρ) (ŧ (É a ρ) (10-0 / 2)) 208 [] 2 6 (sl (Ġ (É a ρ).P 208) 6) (û ċ.head ċ.cs ċ.vs p v) (EG ċ c b)=(ũ a ρ).bF p v (c p) (fun i=>b i p):=by kernel_rfl
def pR {a:a7->Int->Int->Int->a8->BY (a7×a8)}:(ũ a ρ).Ok (É a ρ):=⟨pd,pe⟩
def o9 {a:a7->Int->Int->Int->a8->BY (a7×a8)}:(((Ġ (É a ρ).P 208).elim [] (ß 0)).filter fun y=>Nat.beq y.1 8).length=1:=by kernel_rfl
def pb {a:a7->Int->Int->Int->a8->BY (a7×a8)} (p:Val aV) (v:bx) (c:Val aV->bx->BY ρ) (b:(i:Nat)->Val aV->Val (tyL (Ċ.zs i))->BY ρ) :
    goC (É a ρ) (ŧ (É a ρ) (10-0 / 2)) 208 [] 2 8 (sl (Ġ (É a ρ).P 208) 8) (û Ċ.head Ċ.cs Ċ.vs p v) (EG Ċ c b)=(Ũ a ρ).bF p v (c p) (fun i=>b i p):=by kernel_rfl
def pQ {a:a7->Int->Int->Int->a8->BY (a7×a8)}:(Ũ a ρ).Ok (É a ρ):=⟨o9,pb⟩
def rO {a:a7->Int->Int->Int->a8->BY (a7×a8)} (F:a7->qs->a8->BY (a7×a8)) (xs:a7) (x:qs) (m:a8) (k:(a7)×a8->BY ρ) :
    xc (É a ρ) (ŧ (É a ρ) 10) [] 208 (EL ⟨ah,[tI,tI,tI],113,Â,F⟩ x) (lB ⟨ah,[tI,tI,tI],113,Â,F⟩ xs m) (Np ⟨ah,[tI,tI,tI],113,Â,F⟩ fun b c=>k (b,c))=ĩ a xs x.1 x.2.1 x.2.2 m k:=by kernel_rfl
def rR:(lf ρ).Ok (ę ρ):=⟨by kernel_rfl,fun p v b a=>by kernel_rfl⟩
def rP:(kZ ρ).Ok (ę ρ):=⟨by kernel_rfl,fun p v b a=>by kernel_rfl⟩
def rQ:(la ρ).Ok (ę ρ):=⟨by kernel_rfl,fun p v b a=>by kernel_rfl⟩
def vh (xs:a7) (x:Int) (m:a8) (k:(a7)×a8->BY ρ) :
    xc (ę ρ) (ŧ (ę ρ) 10) [] 170 (EL ĥ x) (lB ĥ xs m) (Np ĥ fun a b=>k (a,b))=jX xs x m k:=by kernel_rfl
def N9:(((Ġ (kB ρ).P 167).elim [] (ß 0)).filter fun y=>Nat.beq y.1 0).length=1:=by kernel_rfl
def Rp:Vi (nM (Ġ (kB ρ).P 167) 0)=true:=by kernel_rfl
def Rn (p:th) (v a:a7):(û mO [tI,tI,ae,aa,af,ac,aa,aj] [ak] p a).t=(û mO [tI,tI,ae,aa,af,ac,aa,aj] [ak] p v).t:=by kernel_rfl
def Ro (p:th) (v:a7):(û mO [tI,tI,ae,aa,af,ac,aa,aj] [ak] p v).t.all (st3 3)=true:=by kernel_rfl
def Oa (p:th) (v:a7) (y:b5) (a:th->a7->BY ρ):Dh (kB ρ) (ŧ (kB ρ) (10-4 / 2)) 167 [1,3,1,1] 3 0 (nM (Ġ (kB ρ).P 167) 0) (û mO [tI,tI,ae,aa,af,ac,aa,aj] [ak] p v) (enc ah y) ((qt ρ).back a)=(qt ρ).bF p v y (a p):=by kernel_rfl
def Rq (a:lS Tryz.prog su):(qt ρ).Ok (kB ρ):=⟨N9,a,Rn,Ro,Oa⟩
def Y4 (x:a8) (k:a7->BY ρ) :
    S8 (kB ρ) 55 [Â] [ak] x k=VW x k:=by kernel_rfl
def VV:(KN ρ).Ok (Y3 ρ):=⟨by kernel_rfl,fun p v b a=>by kernel_rfl⟩
def Af:(qd ρ).Ok (vN ρ):=⟨by kernel_rfl,fun p v b a=>by kernel_rfl⟩
def E5:(tK ρ).Ok (Ŵ ρ):=⟨by kernel_rfl,fun p v b a=>by kernel_rfl⟩
def E4:(tG ρ).Ok (Ŵ ρ):=⟨by kernel_rfl,fun p v b a=>by kernel_rfl⟩
def EZ:(tE ρ).Ok (Ŵ ρ):=⟨by kernel_rfl,fun p v b a=>by kernel_rfl⟩
def EY:(tC ρ).Ok (Ŵ ρ):=⟨by kernel_rfl,fun p v b a=>by kernel_rfl⟩
def Jz (x:rn) (k:b6->BY ρ) :
    S8 (Ŵ ρ) 71 [Â,ah] [Ê] x k=xE x.1 x.2 k:=by kernel_rfl
def mU:(ς ρ).Ok (jw ρ):=⟨by kernel_rfl,fun p v b a=>by kernel_rfl⟩
def SG:(HW ρ).Ok (JT ρ):=⟨by kernel_rfl,fun p v b a=>by kernel_rfl⟩
def SF:(HU ρ).Ok (JT ρ):=⟨by kernel_rfl,fun p v b a=>by kernel_rfl⟩
def PP:(Ep ρ).Ok (PQ ρ):=⟨by kernel_rfl,fun p v b a=>by kernel_rfl⟩
def Wu (x:Val (.pair ġ Ç)) (k:Val FW->BY ρ) :
    S8 (Fx ρ) 276 [ġ,Ç] [ġ,tI] x k=PT x.1 x.2 k:=by kernel_rfl
def SD:(HP ρ).Ok (Cf ρ):=⟨by kernel_rfl,fun p v b a=>by kernel_rfl⟩
def SE:(HS ρ).Ok (Cf ρ):=⟨by kernel_rfl,fun p v b a=>by kernel_rfl⟩
def SB:(HN ρ).Ok (Cf ρ):=⟨by kernel_rfl,fun p v b a=>by kernel_rfl⟩
def PN:(En ρ).Ok (PO ρ):=⟨by kernel_rfl,fun p v b a=>by kernel_rfl⟩
def HC:(wB ρ).Ok (ι ρ):=⟨by kernel_rfl,fun p v b a=>by kernel_rfl⟩
def HB:(wz ρ).Ok (ι ρ):=⟨by kernel_rfl,fun p v b a=>by kernel_rfl⟩
def Hz:(ww ρ).Ok (ι ρ):=⟨by kernel_rfl,fun p v b a=>by kernel_rfl⟩
def HA:(wy ρ).Ok (ι ρ):=⟨by kernel_rfl,fun p v b a=>by kernel_rfl⟩
def Hy:(wu ρ).Ok (ι ρ):=⟨by kernel_rfl,fun p v b a=>by kernel_rfl⟩
def L2 (x:Val (.pair Ó au)) (k:BE->BY ρ) :
    S8 (ι ρ) 90 [Ó,au] [ab,.bool] x k=A7 x.1 x.2 k:=by kernel_rfl
def Fe:(tP ρ).Ok (Ak ρ):=⟨by kernel_rfl,fun p v b a=>by kernel_rfl⟩
def Ob:(Dp ρ).Ok (Oc ρ):=⟨by kernel_rfl,fun p v b a=>by kernel_rfl⟩
def Fg:(tT ρ).Ok (mQ ρ):=⟨by kernel_rfl,fun p v b a=>by kernel_rfl⟩
def Ff:(tR ρ).Ok (mQ ρ):=⟨by kernel_rfl,fun p v b a=>by kernel_rfl⟩
def JA (x:Val (.pair Â tI)) (k:v8->BY ρ) :
    S8 (mQ ρ) 9 [Â,tI] [.bool,tI] x k=xH x.1 x.2 k:=by kernel_rfl
def Rs:(GI ρ).Ok (B9 ρ):=⟨by kernel_rfl,fun p v b a=>by kernel_rfl⟩
def Rr:(GG ρ).Ok (B9 ρ):=⟨by kernel_rfl,fun p v b a=>by kernel_rfl⟩
def Y6 (x:xl) (k:a8->BY ρ) :
    S8 (B9 ρ) 46 [Â,ab] [Â] x k=VX x.1 x.2 k:=by kernel_rfl
def RG:(G5 ρ).Ok (JC ρ):=⟨by kernel_rfl,fun p v b a=>by kernel_rfl⟩
def RF:(G4 ρ).Ok (JC ρ):=⟨by kernel_rfl,fun p v b a=>by kernel_rfl⟩
def Ly:(Ar ρ).Ok (KQ ρ):=⟨by kernel_rfl,fun p v b a=>by kernel_rfl⟩
def G0:(wd ρ).Ok (ł ρ):=⟨by kernel_rfl,fun p v b a=>by kernel_rfl⟩
def G3:(wg ρ).Ok (ł ρ):=⟨by kernel_rfl,fun p v b a=>by kernel_rfl⟩
def GZ:(vZ ρ).Ok (ł ρ):=⟨by kernel_rfl,fun p v b a=>by kernel_rfl⟩
def GY:(vX ρ).Ok (ł ρ):=⟨by kernel_rfl,fun p v b a=>by kernel_rfl⟩
def GV:(vT ρ).Ok (ł ρ):=⟨by kernel_rfl,fun p v b a=>by kernel_rfl⟩
def GU:(vR ρ).Ok (ł ρ):=⟨by kernel_rfl,fun p v b a=>by kernel_rfl⟩
def GS:(vP ρ).Ok (ł ρ):=⟨by kernel_rfl,fun p v b a=>by kernel_rfl⟩
def GW:(vV ρ).Ok (ł ρ):=⟨by kernel_rfl,fun p v b a=>by kernel_rfl⟩
def Lz (x:xl) (k:px->BY ρ) :
    S8 (ł ρ) 11 [Â,ab] [ab,tI] x k=As x.1 x.2 k:=by kernel_rfl
def Ft:(uq ρ).Ok (AO ρ):=⟨by kernel_rfl,fun p v b a=>by kernel_rfl⟩
def Ov:(((Ġ (iI ρ).P 167).elim [] (ß 0)).filter fun y=>Nat.beq y.1 0).length=1:=by kernel_rfl
def Rz:Vi (nM (Ġ (iI ρ).P 167) 0)=true:=by kernel_rfl
def Rx (p:Val aD) (v a:a7):(û mP [tI,tI,ae,aa,af,ac,aa,aj,tI,tI,ae,aa,af,ac,aa,aj] [ak] p a).t=(û mP [tI,tI,ae,aa,af,ac,aa,aj,tI,tI,ae,aa,af,ac,aa,aj] [ak] p v).t:=by kernel_rfl
def Ry (p:Val aD) (v:a7):(û mP [tI,tI,ae,aa,af,ac,aa,aj,tI,tI,ae,aa,af,ac,aa,aj] [ak] p v).t.all (st3 4)=true:=by kernel_rfl
def Ow (p:Val aD) (v:a7) (y:b5) (a:Val aD->a7->BY ρ):Dh (iI ρ) (ŧ (iI ρ) (10-6 / 2)) 167 [1,1,1,3,1,1] 4 0 (nM (Ġ (iI ρ).P 167) 0) (û mP [tI,tI,ae,aa,af,ac,aa,aj,tI,tI,ae,aa,af,ac,aa,aj] [ak] p v) (enc ah y) ((qu ρ).back a)=(qu ρ).bF p v y (a p):=by kernel_rfl
def RA (a:lS Tryz.prog su):(qu ρ).Ok (iI ρ):=⟨Ov,a,Rx,Ry,Ow⟩
def RC:(GN ρ).Ok (iI ρ):=⟨by kernel_rfl,fun p v b a=>by kernel_rfl⟩
def RB:(GK ρ).Ok (iI ρ):=⟨by kernel_rfl,fun p v b a=>by kernel_rfl⟩
def Y9 (x:a8) (k:a7->BY ρ) :
    S8 (iI ρ) 68 [Â] [ak] x k=V4 x k:=by kernel_rfl
def SM:(Ic ρ).Ok (Ut ρ):=⟨by kernel_rfl,fun p v b a=>by kernel_rfl⟩
def PD:(Ea ρ).Ok (PE ρ):=⟨by kernel_rfl,fun p v b a=>by kernel_rfl⟩
def L8:(Bg ρ).Ok (ka ρ):=⟨by kernel_rfl,fun p v b a=>by kernel_rfl⟩
def L7:(Be ρ).Ok (ka ρ):=⟨by kernel_rfl,fun p v b a=>by kernel_rfl⟩
def L6:(Bb ρ).Ok (ka ρ):=⟨by kernel_rfl,fun p v b a=>by kernel_rfl⟩
def L4:(A8 ρ).Ok (ka ρ):=⟨by kernel_rfl,fun p v b a=>by kernel_rfl⟩
def L5:(Ba ρ).Ok (ka ρ):=⟨by kernel_rfl,fun p v b a=>by kernel_rfl⟩
def Sn (x:Val (.pair Ó (.pair au tI))) (k:an->BY ρ) :
    S8 (ka ρ) 212 [Ó,au,tI] [ab] x k=JP x.1 x.2.1 x.2.2 k:=by kernel_rfl
def PG:(Ec ρ).Ok (Fw ρ):=⟨by kernel_rfl,fun p v b a=>by kernel_rfl⟩
def PF:(Eb ρ).Ok (Fw ρ):=⟨by kernel_rfl,fun p v b a=>by kernel_rfl⟩
def LB:(Ax ρ).Ok (Az ρ):=⟨by kernel_rfl,fun p v b a=>by kernel_rfl⟩
def LA:(Au ρ).Ok (Az ρ):=⟨by kernel_rfl,fun p v b a=>by kernel_rfl⟩
end Go.Proofs.ZzM
end
