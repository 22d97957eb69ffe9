/- lemmas -/
import Derived.Test.YtenljaeklhlanaaGreatMdMA
set_option linter.all false
noncomputable section
variable {ρ:Type}
set_option maxRecDepth 100000
namespace Go.Proofs.ZzM
open Go Go.Am
def KW:(zp ρ).Ok (zr ρ):=⟨by kernel_rfl,fun p v b a=>by kernel_rfl⟩
def KV:(zn ρ).Ok (zr ρ):=⟨by kernel_rfl,fun p v b a=>by kernel_rfl⟩
def Pr:(DZ ρ).Ok (Ps ρ):=⟨by kernel_rfl,fun p v b a=>by kernel_rfl⟩
def NQ:(C0 ρ).Ok (lW ρ):=⟨by kernel_rfl,fun p v b a=>by kernel_rfl⟩
def NP:(CY ρ).Ok (lW ρ):=⟨by kernel_rfl,fun p v b a=>by kernel_rfl⟩
def NN:(CX ρ).Ok (lW ρ):=⟨by kernel_rfl,fun p v b a=>by kernel_rfl⟩
def NM:(CW ρ).Ok (lW ρ):=⟨by kernel_rfl,fun p v b a=>by kernel_rfl⟩
def NL:(CV ρ).Ok (lW ρ):=⟨by kernel_rfl,fun p v b a=>by kernel_rfl⟩
def Vj (x:Val (.pair Ë (.pair aj tI))) (k:Int->BY ρ) :
    Sq (lW ρ) 97 [Ë,aj,tI] [tI] x k=NR x.1 x.2.1 x.2.2 k:=by kernel_rfl
def NZ:(C3 ρ).Ok (EG ρ):=⟨by kernel_rfl,fun p v b a=>by kernel_rfl⟩
def N0:(C4 ρ).Ok (EG ρ):=⟨by kernel_rfl,fun p v b a=>by kernel_rfl⟩
def KX:(zu ρ).Ok (zy ρ):=⟨by kernel_rfl,fun p v b a=>by kernel_rfl⟩
def KY:(zx ρ).Ok (zy ρ):=⟨by kernel_rfl,fun p v b a=>by kernel_rfl⟩
def mo:(Ο ρ).Ok (ý ρ):=⟨by kernel_rfl,fun p v b a=>by kernel_rfl⟩
def mq:(Ρ ρ).Ok (ý ρ):=⟨by kernel_rfl,fun p v b a=>by kernel_rfl⟩
def np (xs:a7) (x:bl) (m:a8) (k:(a7)×a8->BY ρ) :
    wC (ý ρ) (ŧ (ý ρ) 10) [] 207 (Eg Ć x) (kZ Ć xs m) (MU Ć fun a b=>k (a,b))=ŭ xs x.1 x.2 m k:=by kernel_rfl
def rA:(kT ρ).Ok (Ą ρ):=⟨by kernel_rfl,fun p v b a=>by kernel_rfl⟩
def rz:(kS ρ).Ok (Ą ρ):=⟨by kernel_rfl,fun p v b a=>by kernel_rfl⟩
def rB:(kX ρ).Ok (Ą ρ):=⟨by kernel_rfl,fun p v b a=>by kernel_rfl⟩
def ru:(kR ρ).Ok (Ą ρ):=⟨by kernel_rfl,fun p v b a=>by kernel_rfl⟩
def uJ (xs:a7) (x:rx) (m:a8) (k:(a7)×a8->BY ρ) :
    wC (Ą ρ) (ŧ (Ą ρ) 10) [] 246 (Eg ķ x) (kZ ķ xs m) (MU ķ fun a b=>k (a,b))=jS xs x.1 x.2.1 x.2.2 m k:=by kernel_rfl
def oP {a:a7->Int->Int->Int->a8->BY (a7×a8)}:(((Ĝ (É a ρ).P 208).elim [] (â 0)).filter fun y=>Nat.beq y.1 0).length=1:=by kernel_rfl
def oQ {a:a7->Int->Int->Int->a8->BY (a7×a8)} (p:v8) (v:bl) (c:v8->bl->BY ρ) (b:(i:Nat)->v8->Val (tyL (ċ.zs i))->BY ρ) :
    goC (É a ρ) (ŧ (É a ρ) (10-0 / 2)) 208 [] 2 0 (rQ (Ĝ (É a ρ).P 208) 0) (ù ċ.head ċ.cs ċ.vs p v) (Eb ċ c b)=(Ŭ a ρ).bF p v (c p) (fun i=>b i p):=by kernel_rfl
def pC {a:a7->Int->Int->Int->a8->BY (a7×a8)}:(Ŭ a ρ).Ok (É a ρ):=⟨oP,oQ⟩
def oN {a:a7->Int->Int->Int->a8->BY (a7×a8)}:(((Ĝ (É a ρ).P 208).elim [] (â 0)).filter fun y=>Nat.beq y.1 2).length=1:=by kernel_rfl
def oO {a:a7->Int->Int->Int->a8->BY (a7×a8)} (p:AN) (v:io) (c:AN->io->BY ρ) (b:(i:Nat)->AN->Val (tyL (Ċ.zs i))->BY ρ) :
    goC (É a ρ) (ŧ (É a ρ) (10-0 / 2)) 208 [] 2 2 (rQ (Ĝ (É a ρ).P 208) 2) (ù Ċ.head Ċ.cs Ċ.vs p v) (Eb Ċ c b)=(ū a ρ).bF p v (c p) (fun i=>b i p):=by kernel_rfl
def pB {a:a7->Int->Int->Int->a8->BY (a7×a8)}:(ū a ρ).Ok (É a ρ):=⟨oN,oO⟩
def oL {a:a7->Int->Int->Int->a8->BY (a7×a8)}:(((Ĝ (É a ρ).P 208).elim [] (â 0)).filter fun y=>Nat.beq y.1 4).length=1:=by kernel_rfl
def oM {a:a7->Int->Int->Int->a8->BY (a7×a8)} (p:v8) (v:bl) (c:v8->bl->BY ρ) (b:(i:Nat)->v8->Val (tyL (ĉ.zs i))->BY ρ) :
    goC (É a ρ) (ŧ (É a ρ) (10-0 / 2)) 208 [] 2 4 (rQ (Ĝ (É a ρ).P 208) 4) (ù ĉ.head ĉ.cs ĉ.vs p v) (Eb ĉ c b)=(Ū a ρ).bF p v (c p) (fun i=>b i p):=by kernel_rfl
def pA {a:a7->Int->Int->Int->a8->BY (a7×a8)}:(Ū a ρ).Ok (É a ρ):=⟨oL,oM⟩
def oJ {a:a7->Int->Int->Int->a8->BY (a7×a8)}:(((Ĝ (É a ρ).P 208).elim [] (â 0)).filter fun y=>Nat.beq y.1 6).length=1:=by kernel_rfl
def oK {a:a7->Int->Int->Int->a8->BY (a7×a8)} (p:AN) (v:io) (c:AN->io->BY ρ) (b:(i:Nat)->AN->Val (tyL (Ĉ.zs i))->BY ρ) :
    goC (É a ρ) (ŧ (É a ρ) (10-0 / 2)) 208 [] 2 6 (rQ (Ĝ (É a ρ).P 208) 6) (ù Ĉ.head Ĉ.cs Ĉ.vs p v) (Eb Ĉ c b)=(ũ a ρ).bF p v (c p) (fun i=>b i p):=by kernel_rfl
def pz {a:a7->Int->Int->Int->a8->BY (a7×a8)}:(ũ a ρ).Ok (É a ρ):=⟨oJ,oK⟩
def oH {a:a7->Int->Int->Int->a8->BY (a7×a8)}:(((Ĝ (É a ρ).P 208).elim [] (â 0)).filter fun y=>Nat.beq y.1 8).length=1:=by kernel_rfl
def oI {a:a7->Int->Int->Int->a8->BY (a7×a8)} (p:Val aW) (v:bl) (c:Val aW->bl->BY ρ) (b:(i:Nat)->Val aW->Val (tyL (ć.zs i))->BY ρ) :
    goC (É a ρ) (ŧ (É a ρ) (10-0 / 2)) 208 [] 2 8 (rQ (Ĝ (É a ρ).P 208) 8) (ù ć.head ć.cs ć.vs p v) (Eb ć c b)=(Ũ a ρ).bF p v (c p) (fun i=>b i p):=by kernel_rfl
def pw {a:a7->Int->Int->Int->a8->BY (a7×a8)}:(Ũ a ρ).Ok (É a ρ):=⟨oH,oI⟩
def ro {a:a7->Int->Int->Int->a8->BY (a7×a8)} (F:a7->rx->a8->BY (a7×a8)) (xs:a7) (x:rx) (m:a8) (k:(a7)×a8->BY ρ) :
    wC (É a ρ) (ŧ (É a ρ) 10) [] 208 (Eg ⟨ah,[tI,tI,tI],113,Â,F⟩ x) (kZ ⟨ah,[tI,tI,tI],113,Â,F⟩ xs m) (MU ⟨ah,[tI,tI,tI],113,Â,F⟩ fun b c=>k (b,c))=ħ a xs x.1 x.2.1 x.2.2 m k:=by kernel_rfl
def rt:(kQ ρ).Ok (ĕ ρ):=⟨by kernel_rfl,fun p v b a=>by kernel_rfl⟩
def rq:(kO ρ).Ok (ĕ ρ):=⟨by kernel_rfl,fun p v b a=>by kernel_rfl⟩
def rr:(kP ρ).Ok (ĕ ρ):=⟨by kernel_rfl,fun p v b a=>by kernel_rfl⟩
def uI (xs:a7) (x:Int) (m:a8) (k:(a7)×a8->BY ρ) :
    wC (ĕ ρ) (ŧ (ĕ ρ) 10) [] 170 (Eg ġ x) (kZ ġ xs m) (MU ġ fun a b=>k (a,b))=jR xs x m k:=by kernel_rfl
def NB:(((Ĝ (kq ρ).P 167).elim [] (â 0)).filter fun y=>Nat.beq y.1 0).length=1:=by kernel_rfl
def QP:UB (nw (Ĝ (kq ρ).P 167) 0)=true:=by kernel_rfl
def QN (p:rd) (v a:a7):(ù mG [tI,tI,ae,aa,af,ac,aa,aj] [ak] p a).t=(ù mG [tI,tI,ae,aa,af,ac,aa,aj] [ak] p v).t:=by kernel_rfl
def QO (p:rd) (v:a7):(ù mG [tI,tI,ae,aa,af,ac,aa,aj] [ak] p v).t.all (st3 3)=true:=by kernel_rfl
def NC (p:rd) (v:a7) (y:b5) (a:rd->a7->BY ρ):CI (kq ρ) (ŧ (kq ρ) (10-4 / 2)) 167 [1,3,1,1] 3 0 (nw (Ĝ (kq ρ).P 167) 0) (ù mG [tI,tI,ae,aa,af,ac,aa,aj] [ak] p v) (enc ah y) ((pU ρ).back a)=(pU ρ).bF p v y (a p):=by kernel_rfl
def QQ (a:lG Tryz.prog rV):(pU ρ).Ok (kq ρ):=⟨NB,a,QN,QO,NC⟩
def Yp (x:a8) (k:a7->BY ρ) :
    Sq (kq ρ) 55 [Â] [ak] x k=Vg x k:=by kernel_rfl
def Vf:(Ko ρ).Ok (Yo ρ):=⟨by kernel_rfl,fun p v b a=>by kernel_rfl⟩
def zz:(pI ρ).Ok (vq ρ):=⟨by kernel_rfl,fun p v b a=>by kernel_rfl⟩
def Ex:(ta ρ).Ok (Ŵ ρ):=⟨by kernel_rfl,fun p v b a=>by kernel_rfl⟩
def Ew:(s8 ρ).Ok (Ŵ ρ):=⟨by kernel_rfl,fun p v b a=>by kernel_rfl⟩
def Eu:(sZ ρ).Ok (Ŵ ρ):=⟨by kernel_rfl,fun p v b a=>by kernel_rfl⟩
def Et:(sX ρ).Ok (Ŵ ρ):=⟨by kernel_rfl,fun p v b a=>by kernel_rfl⟩
def Jk (x:v6) (k:b6->BY ρ) :
    Sq (Ŵ ρ) 71 [Â,ah] [Ë] x k=wV x.1 x.2 k:=by kernel_rfl
def mM:(υ ρ).Ok (jt ρ):=⟨by kernel_rfl,fun p v b a=>by kernel_rfl⟩
def RQ:(HA ρ).Ok (JD ρ):=⟨by kernel_rfl,fun p v b a=>by kernel_rfl⟩
def RP:(Hy ρ).Ok (JD ρ):=⟨by kernel_rfl,fun p v b a=>by kernel_rfl⟩
def Pd:(DR ρ).Ok (Pe ρ):=⟨by kernel_rfl,fun p v b a=>by kernel_rfl⟩
def VG (x:Val (.pair ĝ Ç)) (k:Val Fv->BY ρ) :
    Sq (EU ρ) 276 [ĝ,Ç] [ĝ,tI] x k=Ph x.1 x.2 k:=by kernel_rfl
def RN:(Hu ρ).Ok (Bt ρ):=⟨by kernel_rfl,fun p v b a=>by kernel_rfl⟩
def RO:(Hw ρ).Ok (Bt ρ):=⟨by kernel_rfl,fun p v b a=>by kernel_rfl⟩
def RM:(Hs ρ).Ok (Bt ρ):=⟨by kernel_rfl,fun p v b a=>by kernel_rfl⟩
def Pb:(DP ρ).Ok (Pc ρ):=⟨by kernel_rfl,fun p v b a=>by kernel_rfl⟩
def Hg:(vV ρ).Ok (ξ ρ):=⟨by kernel_rfl,fun p v b a=>by kernel_rfl⟩
def Hf:(vT ρ).Ok (ξ ρ):=⟨by kernel_rfl,fun p v b a=>by kernel_rfl⟩
def Hd:(vQ ρ).Ok (ξ ρ):=⟨by kernel_rfl,fun p v b a=>by kernel_rfl⟩
def He:(vS ρ).Ok (ξ ρ):=⟨by kernel_rfl,fun p v b a=>by kernel_rfl⟩
def Hc:(vP ρ).Ok (ξ ρ):=⟨by kernel_rfl,fun p v b a=>by kernel_rfl⟩
def Lw (x:Val (.pair Õ au)) (k:AS->BY ρ) :
    Sq (ξ ρ) 90 [Õ,au] [ab,.bool] x k=Aq x.1 x.2 k:=by kernel_rfl
def ED:(tg ρ).Ok (zF ρ):=⟨by kernel_rfl,fun p v b a=>by kernel_rfl⟩
def ND:(CS ρ).Ok (NE ρ):=⟨by kernel_rfl,fun p v b a=>by kernel_rfl⟩
def EF:(tp ρ).Ok (mI ρ):=⟨by kernel_rfl,fun p v b a=>by kernel_rfl⟩
def EE:(tj ρ).Ok (mI ρ):=⟨by kernel_rfl,fun p v b a=>by kernel_rfl⟩
def Jl (x:Val (.pair Â tI)) (k:(Val bg)->BY ρ) :
    Sq (mI ρ) 9 [Â,tI] [.bool,tI] x k=wY x.1 x.2 k:=by kernel_rfl
def QS:(Gj ρ).Ok (Bm ρ):=⟨by kernel_rfl,fun p v b a=>by kernel_rfl⟩
def QR:(Gg ρ).Ok (Bm ρ):=⟨by kernel_rfl,fun p v b a=>by kernel_rfl⟩
def Yr (x:Val bj) (k:a8->BY ρ) :
    Sq (Bm ρ) 46 [Â,ab] [Â] x k=Vh x.1 x.2 k:=by kernel_rfl
def Q7:(GF ρ).Ok (Jn ρ):=⟨by kernel_rfl,fun p v b a=>by kernel_rfl⟩
def Q6:(GD ρ).Ok (Jn ρ):=⟨by kernel_rfl,fun p v b a=>by kernel_rfl⟩
def K5:(zK ρ).Ok (Ks ρ):=⟨by kernel_rfl,fun p v b a=>by kernel_rfl⟩
def GA:(vE ρ).Ok (ń ρ):=⟨by kernel_rfl,fun p v b a=>by kernel_rfl⟩
def GB:(vG ρ).Ok (ń ρ):=⟨by kernel_rfl,fun p v b a=>by kernel_rfl⟩
def Gz:(vD ρ).Ok (ń ρ):=⟨by kernel_rfl,fun p v b a=>by kernel_rfl⟩
def Gy:(vB ρ).Ok (ń ρ):=⟨by kernel_rfl,fun p v b a=>by kernel_rfl⟩
def Gw:(vx ρ).Ok (ń ρ):=⟨by kernel_rfl,fun p v b a=>by kernel_rfl⟩
def Gv:(vv ρ).Ok (ń ρ):=⟨by kernel_rfl,fun p v b a=>by kernel_rfl⟩
def Gu:(vt ρ).Ok (ń ρ):=⟨by kernel_rfl,fun p v b a=>by kernel_rfl⟩
def Gx:(vz ρ).Ok (ń ρ):=⟨by kernel_rfl,fun p v b a=>by kernel_rfl⟩
def K6 (x:Val bj) (k:lA->BY ρ) :
    Sq (ń ρ) 11 [Â,ab] [ab,tI] x k=zL x.1 x.2 k:=by kernel_rfl
def ER:(tS ρ).Ok (zZ ρ):=⟨by kernel_rfl,fun p v b a=>by kernel_rfl⟩
def NT:(((Ĝ (iH ρ).P 167).elim [] (â 0)).filter fun y=>Nat.beq y.1 0).length=1:=by kernel_rfl
def QZ:UB (nw (Ĝ (iH ρ).P 167) 0)=true:=by kernel_rfl
def QX (p:Val aE) (v a:a7):(ù mH [tI,tI,ae,aa,af,ac,aa,aj,tI,tI,ae,aa,af,ac,aa,aj] [ak] p a).t=(ù mH [tI,tI,ae,aa,af,ac,aa,aj,tI,tI,ae,aa,af,ac,aa,aj] [ak] p v).t:=by kernel_rfl
def QY (p:Val aE) (v:a7):(ù mH [tI,tI,ae,aa,af,ac,aa,aj,tI,tI,ae,aa,af,ac,aa,aj] [ak] p v).t.all (st3 4)=true:=by kernel_rfl
def NU (p:Val aE) (v:a7) (y:b5) (a:Val aE->a7->BY ρ):CI (iH ρ) (ŧ (iH ρ) (10-6 / 2)) 167 [1,1,1,3,1,1] 4 0 (nw (Ĝ (iH ρ).P 167) 0) (ù mH [tI,tI,ae,aa,af,ac,aa,aj,tI,tI,ae,aa,af,ac,aa,aj] [ak] p v) (enc ah y) ((pV ρ).back a)=(pV ρ).bF p v y (a p):=by kernel_rfl
def Q0 (a:lG Tryz.prog rV):(pV ρ).Ok (iH ρ):=⟨NT,a,QX,QY,NU⟩
def Q3:(Gp ρ).Ok (iH ρ):=⟨by kernel_rfl,fun p v b a=>by kernel_rfl⟩
def Q2:(Gm ρ).Ok (iH ρ):=⟨by kernel_rfl,fun p v b a=>by kernel_rfl⟩
def Yu (x:a8) (k:a7->BY ρ) :
    Sq (iH ρ) 68 [Â] [ak] x k=Vk x k:=by kernel_rfl
def RX:(HM ρ).Ok (TR ρ):=⟨by kernel_rfl,fun p v b a=>by kernel_rfl⟩
def O1:(DB ρ).Ok (O2 ρ):=⟨by kernel_rfl,fun p v b a=>by kernel_rfl⟩
def LC:(AA ρ).Ok (jY ρ):=⟨by kernel_rfl,fun p v b a=>by kernel_rfl⟩
def LB:(Ay ρ).Ok (jY ρ):=⟨by kernel_rfl,fun p v b a=>by kernel_rfl⟩
def LA:(Aw ρ).Ok (jY ρ):=⟨by kernel_rfl,fun p v b a=>by kernel_rfl⟩
def Ly:(Ar ρ).Ok (jY ρ):=⟨by kernel_rfl,fun p v b a=>by kernel_rfl⟩
def Lz:(Au ρ).Ok (jY ρ):=⟨by kernel_rfl,fun p v b a=>by kernel_rfl⟩
def RD (x:Val (.pair Õ (.pair au tI))) (k:an->BY ρ) :
    Sq (jY ρ) 212 [Õ,au,tI] [ab] x k=JA x.1 x.2.1 x.2.2 k:=by kernel_rfl
def O4:(DD ρ).Ok (ET ρ):=⟨by kernel_rfl,fun p v b a=>by kernel_rfl⟩
def O3:(DC ρ).Ok (ET ρ):=⟨by kernel_rfl,fun p v b a=>by kernel_rfl⟩
def K8:(zO ρ).Ok (zQ ρ):=⟨by kernel_rfl,fun p v b a=>by kernel_rfl⟩
def K7:(zM ρ).Ok (zQ ρ):=⟨by kernel_rfl,fun p v b a=>by kernel_rfl⟩
end Go.Proofs.ZzM
end
