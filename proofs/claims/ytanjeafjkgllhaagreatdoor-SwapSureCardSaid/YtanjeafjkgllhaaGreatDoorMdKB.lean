/- lemmas -/
import Derived.Test.YtanjeafjkgllhaaGreatDoorMdMA
set_option linter.all false
noncomputable section
variable {ρ:Type}
set_option maxRecDepth 100000
namespace Go.Proofs.ZzM
open Go Go.Am
variable [Globs] [LC]
def GR:(wo ρ).Ok (wt ρ):=⟨by kernel_rfl,fun p v b a=>by kernel_rfl⟩
def GQ:(wm ρ).Ok (wt ρ):=⟨by kernel_rfl,fun p v b a=>by kernel_rfl⟩
def J8:(Ap ρ).Ok (J9 ρ):=⟨by kernel_rfl,fun p v b a=>by kernel_rfl⟩
def Jd:(zw ρ).Ok (kd ρ):=⟨by kernel_rfl,fun p v b a=>by kernel_rfl⟩
def Jc:(zr ρ).Ok (kd ρ):=⟨by kernel_rfl,fun p v b a=>by kernel_rfl⟩
def Jb:(zq ρ).Ok (kd ρ):=⟨by kernel_rfl,fun p v b a=>by kernel_rfl⟩
def Ja:(zp ρ).Ok (kd ρ):=⟨by kernel_rfl,fun p v b a=>by kernel_rfl⟩
def I9:(zo ρ).Ok (kd ρ):=⟨by kernel_rfl,fun p v b a=>by kernel_rfl⟩
def Ph (x:Val (.pair Ë (.pair aj tI))) (k:Int->w8 ρ) :
    Na (kd ρ) 55 [Ë,aj,tI] [tI] x k=Je x.1 x.2.1 x.2.2 k:=by kernel_rfl
def Jw:(zG ρ).Ok (Bp ρ):=⟨by kernel_rfl,fun p v b a=>by kernel_rfl⟩
def Jy:(zH ρ).Ok (Bp ρ):=⟨by kernel_rfl,fun p v b a=>by kernel_rfl⟩
def Pf:(F5 ρ).Ok (RL ρ):=⟨by kernel_rfl,fun p v b a=>by kernel_rfl⟩
def wA:(nF ρ).Ok (sj ρ):=⟨by kernel_rfl,fun p v b a=>by kernel_rfl⟩
def Bf:(qB ρ).Ok (š ρ):=⟨by kernel_rfl,fun p v b a=>by kernel_rfl⟩
def Be:(qz ρ).Ok (š ρ):=⟨by kernel_rfl,fun p v b a=>by kernel_rfl⟩
def Bc:(qx ρ).Ok (š ρ):=⟨by kernel_rfl,fun p v b a=>by kernel_rfl⟩
def Bb:(qv ρ).Ok (š ρ):=⟨by kernel_rfl,fun p v b a=>by kernel_rfl⟩
def ES (x:Val bf) (k:b5->w8 ρ) :
    Na (š ρ) 61 [Â,ak] [Ë] x k=t7 x.1 x.2 k:=by kernel_rfl
def kZ:(Α ρ).Ok (ii ρ):=⟨by kernel_rfl,fun p v b a=>by kernel_rfl⟩
def MK:(Dw ρ).Ok (E7 ρ):=⟨by kernel_rfl,fun p v b a=>by kernel_rfl⟩
def MJ:(Du ρ).Ok (E7 ρ):=⟨by kernel_rfl,fun p v b a=>by kernel_rfl⟩
def JT:(Ae ρ).Ok (JU ρ):=⟨by kernel_rfl,fun p v b a=>by kernel_rfl⟩
def Pr (x:Val (.pair ŋ Ç)) (k:Val Zz->w8 ρ) :
    Na (Bt ρ) 331 [ŋ,Ç] [ŋ,tI] x k=JW x.1 x.2 k:=by kernel_rfl
def MH:(Dq ρ).Ok (yb ρ):=⟨by kernel_rfl,fun p v b a=>by kernel_rfl⟩
def MI:(Ds ρ).Ok (yb ρ):=⟨by kernel_rfl,fun p v b a=>by kernel_rfl⟩
def MG:(Dn ρ).Ok (yb ρ):=⟨by kernel_rfl,fun p v b a=>by kernel_rfl⟩
def JR:(Ad ρ).Ok (JS ρ):=⟨by kernel_rfl,fun p v b a=>by kernel_rfl⟩
def Db:(ta ρ).Ok (Ż ρ):=⟨by kernel_rfl,fun p v b a=>by kernel_rfl⟩
def Da:(s8 ρ).Ok (Ż ρ):=⟨by kernel_rfl,fun p v b a=>by kernel_rfl⟩
def C8:(sY ρ).Ok (Ż ρ):=⟨by kernel_rfl,fun p v b a=>by kernel_rfl⟩
def C9:(s7 ρ).Ok (Ż ρ):=⟨by kernel_rfl,fun p v b a=>by kernel_rfl⟩
def C7:(sX ρ).Ok (Ż ρ):=⟨by kernel_rfl,fun p v b a=>by kernel_rfl⟩
def G7 (x:Val (.pair Ó ay)) (k:wk->w8 ρ) :
    Na (Ż ρ) 149 [Ó,ay] [ab,.bool] x k=wZ x.1 x.2 k:=by kernel_rfl
def GS:(ww ρ).Ok (wz ρ):=⟨by kernel_rfl,fun p v b a=>by kernel_rfl⟩
def GU:(wy ρ).Ok (wz ρ):=⟨by kernel_rfl,fun p v b a=>by kernel_rfl⟩
def kF:(Ų ρ).Ok (ð ρ):=⟨by kernel_rfl,fun p v b a=>by kernel_rfl⟩
def kG:(ų ρ).Ok (ð ρ):=⟨by kernel_rfl,fun p v b a=>by kernel_rfl⟩
def lH (xs:an) (x:bl) (m:a7) (k:(an)×a7->w8 ρ) :
    rC (ð ρ) (ĺ (ð ρ) 10) [] 265 (AZ û x) (jw û xs m) (Io û fun zs a=>k (zs,a))=Ř xs x.1 x.2 m k:=by kernel_rfl
def pk:(jt ρ).Ok (ö ρ):=⟨by kernel_rfl,fun p v b a=>by kernel_rfl⟩
def pj:(jr ρ).Ok (ö ρ):=⟨by kernel_rfl,fun p v b a=>by kernel_rfl⟩
def pm:(ju ρ).Ok (ö ρ):=⟨by kernel_rfl,fun p v b a=>by kernel_rfl⟩
def ph:(jq ρ).Ok (ö ρ):=⟨by kernel_rfl,fun p v b a=>by kernel_rfl⟩
def rN (xs:an) (x:pc) (m:a7) (k:(an)×a7->w8 ρ) :
    rC (ö ρ) (ĺ (ö ρ) 10) [] 306 (AZ Ħ x) (jw Ħ xs m) (Io Ħ fun zs a=>k (zs,a))=iM xs x.1 x.2.1 x.2.2 m k:=by kernel_rfl
def mP {a:an->Int->Int->Int->a7->w8 (an×a7)}:(((ā (Æ a ρ).P 266).elim [] (Ï 0)).filter fun y=>Nat.beq y.1 0).length=1:=by kernel_rfl
def mQ {a:an->Int->Int->Int->a7->w8 (an×a7)} (p:px) (v:bl) (c:px->bl->w8 ρ) (b:(i:Nat)->px->Val (tyL (Ā.zs i))->w8 ρ) :
    goC (Æ a ρ) (ĺ (Æ a ρ) (10-0 / 2)) 266 [] 2 0 (pu (ā (Æ a ρ).P 266) 0) (Û Ā.head Ā.cs Ā.vs p v) (Ew Ā c b)=(ŗ a ρ).bF p v (c p) (fun i=>b i p):=by kernel_rfl
def nz {a:an->Int->Int->Int->a7->w8 (an×a7)}:(ŗ a ρ).Ok (Æ a ρ):=⟨mP,mQ⟩
def mN {a:an->Int->Int->Int->a7->w8 (an×a7)}:(((ā (Æ a ρ).P 266).elim [] (Ï 0)).filter fun y=>Nat.beq y.1 2).length=1:=by kernel_rfl
def mO {a:an->Int->Int->Int->a7->w8 (an×a7)} (p:Val aK) (v:hO) (c:Val aK->hO->w8 ρ) (b:(i:Nat)->Val aK->Val (tyL (ÿ.zs i))->w8 ρ) :
    goC (Æ a ρ) (ĺ (Æ a ρ) (10-0 / 2)) 266 [] 2 2 (pu (ā (Æ a ρ).P 266) 2) (Û ÿ.head ÿ.cs ÿ.vs p v) (Ew ÿ c b)=(Ŗ a ρ).bF p v (c p) (fun i=>b i p):=by kernel_rfl
def ny {a:an->Int->Int->Int->a7->w8 (an×a7)}:(Ŗ a ρ).Ok (Æ a ρ):=⟨mN,mO⟩
def mL {a:an->Int->Int->Int->a7->w8 (an×a7)}:(((ā (Æ a ρ).P 266).elim [] (Ï 0)).filter fun y=>Nat.beq y.1 4).length=1:=by kernel_rfl
def mM {a:an->Int->Int->Int->a7->w8 (an×a7)} (p:px) (v:bl) (c:px->bl->w8 ρ) (b:(i:Nat)->px->Val (tyL (þ.zs i))->w8 ρ) :
    goC (Æ a ρ) (ĺ (Æ a ρ) (10-0 / 2)) 266 [] 2 4 (pu (ā (Æ a ρ).P 266) 4) (Û þ.head þ.cs þ.vs p v) (Ew þ c b)=(ŕ a ρ).bF p v (c p) (fun i=>b i p):=by kernel_rfl
def nw {a:an->Int->Int->Int->a7->w8 (an×a7)}:(ŕ a ρ).Ok (Æ a ρ):=⟨mL,mM⟩
def mJ {a:an->Int->Int->Int->a7->w8 (an×a7)}:(((ā (Æ a ρ).P 266).elim [] (Ï 0)).filter fun y=>Nat.beq y.1 6).length=1:=by kernel_rfl
def mK {a:an->Int->Int->Int->a7->w8 (an×a7)} (p:Val aK) (v:hO) (c:Val aK->hO->w8 ρ) (b:(i:Nat)->Val aK->Val (tyL (ý.zs i))->w8 ρ) :
    goC (Æ a ρ) (ĺ (Æ a ρ) (10-0 / 2)) 266 [] 2 6 (pu (ā (Æ a ρ).P 266) 6) (Û ý.head ý.cs ý.vs p v) (Ew ý c b)=(Ŕ a ρ).bF p v (c p) (fun i=>b i p):=by kernel_rfl
def nu {a:an->Int->Int->Int->a7->w8 (an×a7)}:(Ŕ a ρ).Ok (Æ a ρ):=⟨mJ,mK⟩
def mH {a:an->Int->Int->Int->a7->w8 (an×a7)}:(((ā (Æ a ρ).P 266).elim [] (Ï 0)).filter fun y=>Nat.beq y.1 8).length=1:=by kernel_rfl
def mI {a:an->Int->Int->Int->a7->w8 (an×a7)} (p:Val aS) (v:bl) (c:Val aS->bl->w8 ρ) (b:(i:Nat)->Val aS->Val (tyL (ü.zs i))->w8 ρ) :
    goC (Æ a ρ) (ĺ (Æ a ρ) (10-0 / 2)) 266 [] 2 8 (pu (ā (Æ a ρ).P 266) 8) (Û ü.head ü.cs ü.vs p v) (Ew ü c b)=(œ a ρ).bF p v (c p) (fun i=>b i p):=by kernel_rfl
def nt {a:an->Int->Int->Int->a7->w8 (an×a7)}:(œ a ρ).Ok (Æ a ρ):=⟨mH,mI⟩
def o9 {a:an->Int->Int->Int->a7->w8 (an×a7)} (F:an->pc->a7->w8 (an×a7)) (xs:an) (x:pc) (m:a7) (k:(an)×a7->w8 ρ) :
    rC (Æ a ρ) (ĺ (Æ a ρ) 10) [] 266 (AZ ⟨ak,[tI,tI,tI],128,Â,F⟩ x) (jw ⟨ak,[tI,tI,tI],128,Â,F⟩ xs m) (Io ⟨ak,[tI,tI,tI],128,Â,F⟩ fun zs b=>k (zs,b))=Ě a xs x.1 x.2.1 x.2.2 m k:=by kernel_rfl
def pf:(jp ρ).Ok (ĉ ρ):=⟨by kernel_rfl,fun p v b a=>by kernel_rfl⟩
def pb:(jn ρ).Ok (ĉ ρ):=⟨by kernel_rfl,fun p v b a=>by kernel_rfl⟩
def pd:(jo ρ).Ok (ĉ ρ):=⟨by kernel_rfl,fun p v b a=>by kernel_rfl⟩
def rM (xs:an) (x:Int) (m:a7) (k:(an)×a7->w8 ρ) :
    rC (ĉ ρ) (ĺ (ĉ ρ) 10) [] 212 (AZ Ĕ x) (jw Ĕ xs m) (Io Ĕ fun zs a=>k (zs,a))=iL xs x m k:=by kernel_rfl
def Jg:(((ā (Ξ ρ).P 209).elim [] (Ï 0)).filter fun y=>Nat.beq y.1 0).length=1:=by kernel_rfl
def L9:BZ (ij (ā (Ξ ρ).P 209) 0)=true:=by kernel_rfl
def L7 (p:Val aE) (v a:an):(Û kQ [tI,tI,ae,aa,af,ac,aa,aj,tI,tI,ae,aa,af,ac,aa,aj] [ah] p a).t=(Û kQ [tI,tI,ae,aa,af,ac,aa,aj,tI,tI,ae,aa,af,ac,aa,aj] [ah] p v).t:=by kernel_rfl
def L8 (p:Val aE) (v:an):(Û kQ [tI,tI,ae,aa,af,ac,aa,aj,tI,tI,ae,aa,af,ac,aa,aj] [ah] p v).t.all (st3 4)=true:=by kernel_rfl
def Jh (p:Val aE) (v:an) (y:bx) (a:Val aE->an->w8 ρ):za (Ξ ρ) (ĺ (Ξ ρ) (10-6 / 2)) 209 [1,1,1,3,1,1] 4 0 (ij (ā (Ξ ρ).P 209) 0) (Û kQ [tI,tI,ae,aa,af,ac,aa,aj,tI,tI,ae,aa,af,ac,aa,aj] [ah] p v) (enc ak y) ((ob ρ).back a)=(ob ρ).bF p v y (a p):=by kernel_rfl
def Ma (a:jR Tryz.prog pA):(ob ρ).Ok (Ξ ρ):=⟨Jg,a,L7,L8,Jh⟩
def Mc:(CE ρ).Ok (Ξ ρ):=⟨by kernel_rfl,fun p v b a=>by kernel_rfl⟩
def Mb:(CC ρ).Ok (Ξ ρ):=⟨by kernel_rfl,fun p v b a=>by kernel_rfl⟩
def RT (x:a7) (k:an->w8 ρ) :
    Na (Ξ ρ) 38 [Â] [ah] x k=Pj x k:=by kernel_rfl
def GW:(((ā (Ÿ ρ).P 294).elim [] (Ï 0)).filter fun y=>Nat.beq y.1 0).length=1:=by kernel_rfl
def I5:BZ (ij (ā (Ÿ ρ).P 294) 0)=true:=by kernel_rfl
def I3 (p:v6) (v a:ag):(Û jI [tI,tI,ae,aa,af,ac,aa,aj] [ab] p a).t=(Û jI [tI,tI,ae,aa,af,ac,aa,aj] [ab] p v).t:=by kernel_rfl
def I4 (p:v6) (v:ag):(Û jI [tI,tI,ae,aa,af,ac,aa,aj] [ab] p v).t.all (st3 3)=true:=by kernel_rfl
def GY (p:v6) (v:ag) (y:Int) (a:v6->ag->w8 ρ):za (Ÿ ρ) (ĺ (Ÿ ρ) (10-6 / 2)) 294 [7,8,1,1,1,1] 3 0 (ij (ā (Ÿ ρ).P 294) 0) (Û jI [tI,tI,ae,aa,af,ac,aa,aj] [ab] p v) (enc tI y) ((mj ρ).back a)=(mj ρ).bF p v y (a p):=by kernel_rfl
def I6 (a:jR Tryz.prog DR):(mj ρ).Ok (Ÿ ρ):=⟨GW,a,I3,I4,GY⟩
def I7:(zn ρ).Ok (Ÿ ρ):=⟨by kernel_rfl,fun p v b a=>by kernel_rfl⟩
def Pg (x:Val bf) (k:Bool->w8 ρ) :
    Na (Ÿ ρ) 97 [Â,ak] [.bool] x k=I8 x.1 x.2 k:=by kernel_rfl
def I1:(zl ρ).Ok (I2 ρ):=⟨by kernel_rfl,fun p v b a=>by kernel_rfl⟩
def IW:(((ā (je ρ).P 209).elim [] (Ï 0)).filter fun y=>Nat.beq y.1 0).length=1:=by kernel_rfl
def LY:BZ (ij (ā (je ρ).P 209) 0)=true:=by kernel_rfl
def LW (p:v6) (v a:an):(Û kP [tI,tI,ae,aa,af,ac,aa,aj] [ah] p a).t=(Û kP [tI,tI,ae,aa,af,ac,aa,aj] [ah] p v).t:=by kernel_rfl
def LX (p:v6) (v:an):(Û kP [tI,tI,ae,aa,af,ac,aa,aj] [ah] p v).t.all (st3 3)=true:=by kernel_rfl
def IX (p:v6) (v:an) (y:bx) (a:v6->an->w8 ρ):za (je ρ) (ĺ (je ρ) (10-4 / 2)) 209 [1,3,1,1] 3 0 (ij (ā (je ρ).P 209) 0) (Û kP [tI,tI,ae,aa,af,ac,aa,aj] [ah] p v) (enc ak y) ((oa ρ).back a)=(oa ρ).bF p v y (a p):=by kernel_rfl
def LZ (a:jR Tryz.prog pA):(oa ρ).Ok (je ρ):=⟨IW,a,LW,LX,IX⟩
def RM (x:a7) (k:an->w8 ρ) :
    Na (je ρ) 58 [Â] [ah] x k=Wj x k:=by kernel_rfl
def Bl:(qF ρ).Ok (wF ρ):=⟨by kernel_rfl,fun p v b a=>by kernel_rfl⟩
def MS:(DI ρ).Ok (N2 ρ):=⟨by kernel_rfl,fun p v b a=>by kernel_rfl⟩
def JI:(zQ ρ).Ok (JJ ρ):=⟨by kernel_rfl,fun p v b a=>by kernel_rfl⟩
def Hd:(xi ρ).Ok (iR ρ):=⟨by kernel_rfl,fun p v b a=>by kernel_rfl⟩
def Hc:(xg ρ).Ok (iR ρ):=⟨by kernel_rfl,fun p v b a=>by kernel_rfl⟩
def Hb:(xe ρ).Ok (iR ρ):=⟨by kernel_rfl,fun p v b a=>by kernel_rfl⟩
def G9:(xb ρ).Ok (iR ρ):=⟨by kernel_rfl,fun p v b a=>by kernel_rfl⟩
def Ha:(xd ρ).Ok (iR ρ):=⟨by kernel_rfl,fun p v b a=>by kernel_rfl⟩
def Mv (x:Val (.pair Ó (.pair ay tI))) (k:ag->w8 ρ) :
    Na (iR ρ) 267 [Ó,ay,tI] [ab] x k=NU x.1 x.2.1 x.2.2 k:=by kernel_rfl
def JL:(zS ρ).Ok (Bs ρ):=⟨by kernel_rfl,fun p v b a=>by kernel_rfl⟩
def JK:(zR ρ).Ok (Bs ρ):=⟨by kernel_rfl,fun p v b a=>by kernel_rfl⟩
def G6:(wT ρ).Ok (wV ρ):=⟨by kernel_rfl,fun p v b a=>by kernel_rfl⟩
def G5:(wR ρ).Ok (wV ρ):=⟨by kernel_rfl,fun p v b a=>by kernel_rfl⟩
end Go.Proofs.ZzM
end
