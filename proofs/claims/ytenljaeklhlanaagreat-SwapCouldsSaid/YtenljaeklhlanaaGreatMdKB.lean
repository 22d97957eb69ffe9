/- lemmas -/
import Derived.Test.YtenljaeklhlanaaGreatMdMA
set_option linter.all false
noncomputable section
variable {ρ:Type}
set_option maxRecDepth 100000
namespace Go.Proofs.ZzM
open Go Go.Am
def KN:(zn ρ).Ok (zp ρ):=⟨by kernel_rfl,fun p v b a=>by kernel_rfl⟩
def KM:(zl ρ).Ok (zp ρ):=⟨by kernel_rfl,fun p v b a=>by kernel_rfl⟩
def Pf:(DP ρ).Ok (Pg ρ):=⟨by kernel_rfl,fun p v b a=>by kernel_rfl⟩
def NH:(CQ ρ).Ok (lR ρ):=⟨by kernel_rfl,fun p v b a=>by kernel_rfl⟩
def NG:(CO ρ).Ok (lR ρ):=⟨by kernel_rfl,fun p v b a=>by kernel_rfl⟩
def NF:(CN ρ).Ok (lR ρ):=⟨by kernel_rfl,fun p v b a=>by kernel_rfl⟩
def NE:(CM ρ).Ok (lR ρ):=⟨by kernel_rfl,fun p v b a=>by kernel_rfl⟩
def ND:(CL ρ).Ok (lR ρ):=⟨by kernel_rfl,fun p v b a=>by kernel_rfl⟩
def U0 (x:Val (.pair Ë (.pair aj tI))) (k:Int->BY ρ) :
    RZ (lR ρ) 97 [Ë,aj,tI] [tI] x k=NI x.1 x.2.1 x.2.2 k:=by kernel_rfl
def NQ:(CU ρ).Ok (EB ρ):=⟨by kernel_rfl,fun p v b a=>by kernel_rfl⟩
def NR:(CV ρ).Ok (EB ρ):=⟨by kernel_rfl,fun p v b a=>by kernel_rfl⟩
def KO:(zr ρ).Ok (zx ρ):=⟨by kernel_rfl,fun p v b a=>by kernel_rfl⟩
def KP:(zw ρ).Ok (zx ρ):=⟨by kernel_rfl,fun p v b a=>by kernel_rfl⟩
def mg:(Τ ρ).Ok (ü ρ):=⟨by kernel_rfl,fun p v b a=>by kernel_rfl⟩
def mh:(Υ ρ).Ok (ü ρ):=⟨by kernel_rfl,fun p v b a=>by kernel_rfl⟩
def mZ (xs:a7) (x:bx) (m:a8) (k:(a7)×a8->BY ρ) :
    wt (ü ρ) (Ū (ü ρ) 10) [] 207 (D8 Ć x) (kJ Ć xs m) (ML Ć fun a b=>k (a,b))=ű xs x.1 x.2 m k:=by kernel_rfl
def rq:(kF ρ).Ok (Ă ρ):=⟨by kernel_rfl,fun p v b a=>by kernel_rfl⟩
def ro:(kE ρ).Ok (Ă ρ):=⟨by kernel_rfl,fun p v b a=>by kernel_rfl⟩
def rr:(kG ρ).Ok (Ă ρ):=⟨by kernel_rfl,fun p v b a=>by kernel_rfl⟩
def rl:(kD ρ).Ok (Ă ρ):=⟨by kernel_rfl,fun p v b a=>by kernel_rfl⟩
def uE (xs:a7) (x:ry) (m:a8) (k:(a7)×a8->BY ρ) :
    wt (Ă ρ) (Ū (Ă ρ) 10) [] 246 (D8 Ķ x) (kJ Ķ xs m) (ML Ķ fun a b=>k (a,b))=jJ xs x.1 x.2.1 x.2.2 m k:=by kernel_rfl
def oH {a:a7->Int->Int->Int->a8->BY (a7×a8)}:(((ğ (É a ρ).P 208).elim [] (â 0)).filter fun y=>Nat.beq y.1 0).length=1:=by kernel_rfl
def oI {a:a7->Int->Int->Int->a8->BY (a7×a8)} (p:wk) (v:bx) (c:wk->bx->BY ρ) (b:(i:Nat)->wk->Val (tyL (ċ.zs i))->BY ρ) :
    goC (É a ρ) (Ū (É a ρ) (10-0 / 2)) 208 [] 2 0 (rK (ğ (É a ρ).P 208) 0) (ú ċ.head ċ.cs ċ.vs p v) (D3 ċ c b)=(Ű a ρ).bF p v (c p) (fun i=>b i p):=by kernel_rfl
def pp {a:a7->Int->Int->Int->a8->BY (a7×a8)}:(Ű a ρ).Ok (É a ρ):=⟨oH,oI⟩
def oF {a:a7->Int->Int->Int->a8->BY (a7×a8)}:(((ğ (É a ρ).P 208).elim [] (â 0)).filter fun y=>Nat.beq y.1 2).length=1:=by kernel_rfl
def oG {a:a7->Int->Int->Int->a8->BY (a7×a8)} (p:Val aG) (v:io) (c:Val aG->io->BY ρ) (b:(i:Nat)->Val aG->Val (tyL (Ċ.zs i))->BY ρ) :
    goC (É a ρ) (Ū (É a ρ) (10-0 / 2)) 208 [] 2 2 (rK (ğ (É a ρ).P 208) 2) (ú Ċ.head Ċ.cs Ċ.vs p v) (D3 Ċ c b)=(ů a ρ).bF p v (c p) (fun i=>b i p):=by kernel_rfl
def po {a:a7->Int->Int->Int->a8->BY (a7×a8)}:(ů a ρ).Ok (É a ρ):=⟨oF,oG⟩
def oD {a:a7->Int->Int->Int->a8->BY (a7×a8)}:(((ğ (É a ρ).P 208).elim [] (â 0)).filter fun y=>Nat.beq y.1 4).length=1:=by kernel_rfl
def oE {a:a7->Int->Int->Int->a8->BY (a7×a8)} (p:wk) (v:bx) (c:wk->bx->BY ρ) (b:(i:Nat)->wk->Val (tyL (ĉ.zs i))->BY ρ) :
    goC (É a ρ) (Ū (É a ρ) (10-0 / 2)) 208 [] 2 4 (rK (ğ (É a ρ).P 208) 4) (ú ĉ.head ĉ.cs ĉ.vs p v) (D3 ĉ c b)=(Ů a ρ).bF p v (c p) (fun i=>b i p):=by kernel_rfl
def pn {a:a7->Int->Int->Int->a8->BY (a7×a8)}:(Ů a ρ).Ok (É a ρ):=⟨oD,oE⟩
def oB {a:a7->Int->Int->Int->a8->BY (a7×a8)}:(((ğ (É a ρ).P 208).elim [] (â 0)).filter fun y=>Nat.beq y.1 6).length=1:=by kernel_rfl
def oC {a:a7->Int->Int->Int->a8->BY (a7×a8)} (p:Val aG) (v:io) (c:Val aG->io->BY ρ) (b:(i:Nat)->Val aG->Val (tyL (Ĉ.zs i))->BY ρ) :
    goC (É a ρ) (Ū (É a ρ) (10-0 / 2)) 208 [] 2 6 (rK (ğ (É a ρ).P 208) 6) (ú Ĉ.head Ĉ.cs Ĉ.vs p v) (D3 Ĉ c b)=(ŭ a ρ).bF p v (c p) (fun i=>b i p):=by kernel_rfl
def pm {a:a7->Int->Int->Int->a8->BY (a7×a8)}:(ŭ a ρ).Ok (É a ρ):=⟨oB,oC⟩
def oz {a:a7->Int->Int->Int->a8->BY (a7×a8)}:(((ğ (É a ρ).P 208).elim [] (â 0)).filter fun y=>Nat.beq y.1 8).length=1:=by kernel_rfl
def oA {a:a7->Int->Int->Int->a8->BY (a7×a8)} (p:Val aW) (v:bx) (c:Val aW->bx->BY ρ) (b:(i:Nat)->Val aW->Val (tyL (ć.zs i))->BY ρ) :
    goC (É a ρ) (Ū (É a ρ) (10-0 / 2)) 208 [] 2 8 (rK (ğ (É a ρ).P 208) 8) (ú ć.head ć.cs ć.vs p v) (D3 ć c b)=(Ŭ a ρ).bF p v (c p) (fun i=>b i p):=by kernel_rfl
def pl {a:a7->Int->Int->Int->a8->BY (a7×a8)}:(Ŭ a ρ).Ok (É a ρ):=⟨oz,oA⟩
def rh {a:a7->Int->Int->Int->a8->BY (a7×a8)} (F:a7->ry->a8->BY (a7×a8)) (xs:a7) (x:ry) (m:a8) (k:(a7)×a8->BY ρ) :
    wt (É a ρ) (Ū (É a ρ) 10) [] 208 (D8 ⟨ah,[tI,tI,tI],113,Â,F⟩ x) (kJ ⟨ah,[tI,tI,tI],113,Â,F⟩ xs m) (ML ⟨ah,[tI,tI,tI],113,Â,F⟩ fun b c=>k (b,c))=Ĩ a xs x.1 x.2.1 x.2.2 m k:=by kernel_rfl
def rk:(kB ρ).Ok (ė ρ):=⟨by kernel_rfl,fun p v b a=>by kernel_rfl⟩
def ri:(ky ρ).Ok (ė ρ):=⟨by kernel_rfl,fun p v b a=>by kernel_rfl⟩
def rj:(kz ρ).Ok (ė ρ):=⟨by kernel_rfl,fun p v b a=>by kernel_rfl⟩
def uD (xs:a7) (x:Int) (m:a8) (k:(a7)×a8->BY ρ) :
    wt (ė ρ) (Ū (ė ρ) 10) [] 170 (D8 ģ x) (kJ ģ xs m) (ML ģ fun a b=>k (a,b))=jI xs x m k:=by kernel_rfl
def Nt:(((ğ (ka ρ).P 167).elim [] (â 0)).filter fun y=>Nat.beq y.1 0).length=1:=by kernel_rfl
def QC:Um (ng (ğ (ka ρ).P 167) 0)=true:=by kernel_rfl
def QA (p:u5) (v a:a7):(ú my [tI,tI,ae,aa,af,ac,aa,aj] [ak] p a).t=(ú my [tI,tI,ae,aa,af,ac,aa,aj] [ak] p v).t:=by kernel_rfl
def QB (p:u5) (v:a7):(ú my [tI,tI,ae,aa,af,ac,aa,aj] [ak] p v).t.all (st3 3)=true:=by kernel_rfl
def Nu (p:u5) (v:a7) (y:b5) (a:u5->a7->BY ρ):Cz (ka ρ) (Ū (ka ρ) (10-4 / 2)) 167 [1,3,1,1] 3 0 (ng (ğ (ka ρ).P 167) 0) (ú my [tI,tI,ae,aa,af,ac,aa,aj] [ak] p v) (enc ah y) ((pO ρ).back a)=(pO ρ).bF p v y (a p):=by kernel_rfl
def QD (a:lB Tryz.prog rO):(pO ρ).Ok (ka ρ):=⟨Nt,a,QA,QB,Nu⟩
def X7 (x:a8) (k:a7->BY ρ) :
    RZ (ka ρ) 55 [Â] [ak] x k=UX x k:=by kernel_rfl
def UW:(Kg ρ).Ok (X6 ρ):=⟨by kernel_rfl,fun p v b a=>by kernel_rfl⟩
def zy:(pA ρ).Ok (vd ρ):=⟨by kernel_rfl,fun p v b a=>by kernel_rfl⟩
def Er:(s7 ρ).Ok (ŷ ρ):=⟨by kernel_rfl,fun p v b a=>by kernel_rfl⟩
def Ep:(sY ρ).Ok (ŷ ρ):=⟨by kernel_rfl,fun p v b a=>by kernel_rfl⟩
def Eo:(sW ρ).Ok (ŷ ρ):=⟨by kernel_rfl,fun p v b a=>by kernel_rfl⟩
def En:(sR ρ).Ok (ŷ ρ):=⟨by kernel_rfl,fun p v b a=>by kernel_rfl⟩
def I6 (x:v8) (k:b6->BY ρ) :
    RZ (ŷ ρ) 71 [Â,ah] [Ë] x k=wM x.1 x.2 k:=by kernel_rfl
def mE:(ψ ρ).Ok (jk ρ):=⟨by kernel_rfl,fun p v b a=>by kernel_rfl⟩
def RC:(He ρ).Ok (Jt ρ):=⟨by kernel_rfl,fun p v b a=>by kernel_rfl⟩
def RB:(Hc ρ).Ok (Jt ρ):=⟨by kernel_rfl,fun p v b a=>by kernel_rfl⟩
def O2:(DH ρ).Ok (O3 ρ):=⟨by kernel_rfl,fun p v b a=>by kernel_rfl⟩
def Vp (x:Val (.pair Ġ Ç)) (k:Val Fl->BY ρ) :
    RZ (EN ρ) 276 [Ġ,Ç] [Ġ,tI] x k=O6 x.1 x.2 k:=by kernel_rfl
def Rz:(G8 ρ).Ok (Bt ρ):=⟨by kernel_rfl,fun p v b a=>by kernel_rfl⟩
def RA:(Ha ρ).Ok (Bt ρ):=⟨by kernel_rfl,fun p v b a=>by kernel_rfl⟩
def Ry:(G6 ρ).Ok (Bt ρ):=⟨by kernel_rfl,fun p v b a=>by kernel_rfl⟩
def O0:(DF ρ).Ok (O1 ρ):=⟨by kernel_rfl,fun p v b a=>by kernel_rfl⟩
def GV:(vM ρ).Ok (ς ρ):=⟨by kernel_rfl,fun p v b a=>by kernel_rfl⟩
def GU:(vK ρ).Ok (ς ρ):=⟨by kernel_rfl,fun p v b a=>by kernel_rfl⟩
def GR:(vH ρ).Ok (ς ρ):=⟨by kernel_rfl,fun p v b a=>by kernel_rfl⟩
def GS:(vJ ρ).Ok (ς ρ):=⟨by kernel_rfl,fun p v b a=>by kernel_rfl⟩
def GQ:(vG ρ).Ok (ς ρ):=⟨by kernel_rfl,fun p v b a=>by kernel_rfl⟩
def Ln (x:Val (.pair Ô au)) (k:py->BY ρ) :
    RZ (ς ρ) 90 [Ô,au] [ab,.bool] x k=Ap x.1 x.2 k:=by kernel_rfl
def Ey:(tc ρ).Ok (zE ρ):=⟨by kernel_rfl,fun p v b a=>by kernel_rfl⟩
def Nv:(CH ρ).Ok (Nw ρ):=⟨by kernel_rfl,fun p v b a=>by kernel_rfl⟩
def EA:(ti ρ).Ok (mA ρ):=⟨by kernel_rfl,fun p v b a=>by kernel_rfl⟩
def Ez:(tf ρ).Ok (mA ρ):=⟨by kernel_rfl,fun p v b a=>by kernel_rfl⟩
def I7 (x:Val (.pair Â tI)) (k:(Val bg)->BY ρ) :
    RZ (mA ρ) 9 [Â,tI] [.bool,tI] x k=wP x.1 x.2 k:=by kernel_rfl
def QF:(FZ ρ).Ok (Bn ρ):=⟨by kernel_rfl,fun p v b a=>by kernel_rfl⟩
def QE:(FX ρ).Ok (Bn ρ):=⟨by kernel_rfl,fun p v b a=>by kernel_rfl⟩
def X9 (x:x9) (k:a8->BY ρ) :
    RZ (Bn ρ) 46 [Â,ab] [Â] x k=UY x.1 x.2 k:=by kernel_rfl
def QV:(Gq ρ).Ok (Ja ρ):=⟨by kernel_rfl,fun p v b a=>by kernel_rfl⟩
def QU:(Gp ρ).Ok (Ja ρ):=⟨by kernel_rfl,fun p v b a=>by kernel_rfl⟩
def KT:(zJ ρ).Ok (Kj ρ):=⟨by kernel_rfl,fun p v b a=>by kernel_rfl⟩
def Gm:(vv ρ).Ok (Ń ρ):=⟨by kernel_rfl,fun p v b a=>by kernel_rfl⟩
def Gn:(vx ρ).Ok (Ń ρ):=⟨by kernel_rfl,fun p v b a=>by kernel_rfl⟩
def Gl:(vu ρ).Ok (Ń ρ):=⟨by kernel_rfl,fun p v b a=>by kernel_rfl⟩
def Gj:(vr ρ).Ok (Ń ρ):=⟨by kernel_rfl,fun p v b a=>by kernel_rfl⟩
def Gg:(vm ρ).Ok (Ń ρ):=⟨by kernel_rfl,fun p v b a=>by kernel_rfl⟩
def Gf:(vk ρ).Ok (Ń ρ):=⟨by kernel_rfl,fun p v b a=>by kernel_rfl⟩
def Ge:(vg ρ).Ok (Ń ρ):=⟨by kernel_rfl,fun p v b a=>by kernel_rfl⟩
def Gi:(vp ρ).Ok (Ń ρ):=⟨by kernel_rfl,fun p v b a=>by kernel_rfl⟩
def KU (x:x9) (k:nj->BY ρ) :
    RZ (Ń ρ) 11 [Â,ab] [ab,tI] x k=zK x.1 x.2 k:=by kernel_rfl
def EK:(tK ρ).Ok (zY ρ):=⟨by kernel_rfl,fun p v b a=>by kernel_rfl⟩
def NK:(((ğ (iE ρ).P 167).elim [] (â 0)).filter fun y=>Nat.beq y.1 0).length=1:=by kernel_rfl
def QM:Um (ng (ğ (iE ρ).P 167) 0)=true:=by kernel_rfl
def QK (p:Val aD) (v a:a7):(ú mz [tI,tI,ae,aa,af,ac,aa,aj,tI,tI,ae,aa,af,ac,aa,aj] [ak] p a).t=(ú mz [tI,tI,ae,aa,af,ac,aa,aj,tI,tI,ae,aa,af,ac,aa,aj] [ak] p v).t:=by kernel_rfl
def QL (p:Val aD) (v:a7):(ú mz [tI,tI,ae,aa,af,ac,aa,aj,tI,tI,ae,aa,af,ac,aa,aj] [ak] p v).t.all (st3 4)=true:=by kernel_rfl
def NL (p:Val aD) (v:a7) (y:b5) (a:Val aD->a7->BY ρ):Cz (iE ρ) (Ū (iE ρ) (10-6 / 2)) 167 [1,1,1,3,1,1] 4 0 (ng (ğ (iE ρ).P 167) 0) (ú mz [tI,tI,ae,aa,af,ac,aa,aj,tI,tI,ae,aa,af,ac,aa,aj] [ak] p v) (enc ah y) ((pP ρ).back a)=(pP ρ).bF p v y (a p):=by kernel_rfl
def QN (a:lB Tryz.prog rO):(pP ρ).Ok (iE ρ):=⟨NK,a,QK,QL,NL⟩
def QP:(F5 ρ).Ok (iE ρ):=⟨by kernel_rfl,fun p v b a=>by kernel_rfl⟩
def QO:(F3 ρ).Ok (iE ρ):=⟨by kernel_rfl,fun p v b a=>by kernel_rfl⟩
def Yc (x:a8) (k:a7->BY ρ) :
    RZ (iE ρ) 68 [Â] [ak] x k=U3 x k:=by kernel_rfl
def RI:(Hu ρ).Ok (Tz ρ):=⟨by kernel_rfl,fun p v b a=>by kernel_rfl⟩
def OP:(Ds ρ).Ok (OQ ρ):=⟨by kernel_rfl,fun p v b a=>by kernel_rfl⟩
def Lw:(Az ρ).Ok (jP ρ):=⟨by kernel_rfl,fun p v b a=>by kernel_rfl⟩
def Lv:(Ax ρ).Ok (jP ρ):=⟨by kernel_rfl,fun p v b a=>by kernel_rfl⟩
def Lu:(Au ρ).Ok (jP ρ):=⟨by kernel_rfl,fun p v b a=>by kernel_rfl⟩
def Lr:(Aq ρ).Ok (jP ρ):=⟨by kernel_rfl,fun p v b a=>by kernel_rfl⟩
def Lt:(As ρ).Ok (jP ρ):=⟨by kernel_rfl,fun p v b a=>by kernel_rfl⟩
def Rq (x:Val (.pair Ô (.pair au tI))) (k:an->BY ρ) :
    RZ (jP ρ) 212 [Ô,au,tI] [ab] x k=Jq x.1 x.2.1 x.2.2 k:=by kernel_rfl
def OT:(Du ρ).Ok (EM ρ):=⟨by kernel_rfl,fun p v b a=>by kernel_rfl⟩
def OS:(Dt ρ).Ok (EM ρ):=⟨by kernel_rfl,fun p v b a=>by kernel_rfl⟩
def KW:(zN ρ).Ok (zP ρ):=⟨by kernel_rfl,fun p v b a=>by kernel_rfl⟩
def KV:(zL ρ).Ok (zP ρ):=⟨by kernel_rfl,fun p v b a=>by kernel_rfl⟩
end Go.Proofs.ZzM
end
