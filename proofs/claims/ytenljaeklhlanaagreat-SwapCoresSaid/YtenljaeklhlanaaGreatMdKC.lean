/- lemmas -/
import Derived.Test.YtenljaeklhlanaaGreatMdMA
set_option linter.all false
noncomputable section
variable {ρ:Type}
set_option maxRecDepth 100000
namespace Go.Proofs.ZzM
open Go Go.Am
def vN:(mO ρ).Ok (lh ρ):=⟨by kernel_rfl,fun p v b a=>by kernel_rfl⟩
def vM:(mN ρ).Ok (lh ρ):=⟨by kernel_rfl,fun p v b a=>by kernel_rfl⟩
def Ey {al:b5} {a:an->BY (b5)}:(((Ĝ (ą al a ρ).P 206).elim [] (â 0)).filter fun y=>Nat.beq y.1 2).length=1:=by kernel_rfl
def Gd {al:b5} {a:an->BY (b5)}:UB (nw (Ĝ (ą al a ρ).P 206) 2)=true:=by kernel_rfl
def Gb (p:Val bc) (v a:b5):(ù iG [ab,tI,tI,ab,tI] [ah] p a).t=(ù iG [ab,tI,tI,ab,tI] [ah] p v).t:=by kernel_rfl
def Gc (p:Val bc) (v:b5):(ù iG [ab,tI,tI,ab,tI] [ah] p v).t.all (st3 4)=true:=by kernel_rfl
def Ez {al:b5} {a:an->BY (b5)} (p:Val bc) (v:b5) (y:an) (b:Val bc->b5->BY ρ):CI (ą al a ρ) (ŧ (ą al a ρ) (10-0 / 2)) 206 [] 4 2 (nw (Ĝ (ą al a ρ).P 206) 2) (ù iG [ab,tI,tI,ab,tI] [ah] p v) (enc ab y) ((kr al a ρ).back b)=(kr al a ρ).bF p v y (b p):=by kernel_rfl
def Ge {al:b5} {a:an->BY (b5)} (b:lG Tryz.prog ⟨206,ab,ab,a⟩):(kr al a ρ).Ok (ą al a ρ):=⟨Ey,b,Gb,Gc,Ez⟩
def EA {al:b5} {a:an->BY (b5)}:(((Ĝ (ą al a ρ).P 206).elim [] (â 0)).filter fun y=>Nat.beq y.1 0).length=1:=by kernel_rfl
def EB {al:b5} {a:an->BY (b5)} (p:Val bh) (v:px) (c:Val bh->px->BY ρ) (b:(i:Nat)->Val bh->Val (tyL (Ű.zs i))->BY ρ) :
    goC (ą al a ρ) (ŧ (ą al a ρ) (10-0 / 2)) 206 [] 2 0 (rQ (Ĝ (ą al a ρ).P 206) 0) (ù Ű.head Ű.cs Ű.vs p v) (Eb Ű c b)=(nH al a ρ).bF p v (c p) (fun i=>b i p):=by kernel_rfl
def Gf {al:b5} {a:an->BY (b5)}:(nH al a ρ).Ok (ą al a ρ):=⟨EA,EB⟩
def KZ {al:b5} {a:an->BY (b5)} (b:an) (F:an->BY (CK an)):wC (ą al a _) (ŧ (ą al a _) 10) [] 206 By (ω ⟨206,ab,ab,F⟩ b) (PA ⟨206,ab,ab,F⟩)=zD al a b some:=by kernel_rfl
def zG {al:a7} {a:c9->BY (a7)}:(((Ĝ (í al a ρ).P 168).elim [] (â 0)).filter fun y=>Nat.beq y.1 2).length=1:=by kernel_rfl
def Cm {al:a7} {a:c9->BY (a7)}:UB (nw (Ĝ (í al a ρ).P 168) 2)=true:=by kernel_rfl
def Ck (p:Val bm) (v a:a7):(ù ŵ [ab,aj,ab] [ak] p a).t=(ù ŵ [ab,aj,ab] [ak] p v).t:=by kernel_rfl
def Cl (p:Val bm) (v:a7):(ù ŵ [ab,aj,ab] [ak] p v).t.all (st3 4)=true:=by kernel_rfl
def zH {al:a7} {a:c9->BY (a7)} (p:Val bm) (v:a7) (y:b5) (b:Val bm->a7->BY ρ):CI (í al a ρ) (ŧ (í al a ρ) (10-0 / 2)) 168 [] 4 2 (nw (Ĝ (í al a ρ).P 168) 2) (ù ŵ [ab,aj,ab] [ak] p v) (enc ah y) ((je al a ρ).back b)=(je al a ρ).bF p v y (b p):=by kernel_rfl
def Cn {al:a7} {a:c9->BY (a7)} (b:lG Tryz.prog ⟨168,aj,ah,a⟩):(je al a ρ).Ok (í al a ρ):=⟨zG,b,Ck,Cl,zH⟩
def zI {al:a7} {a:c9->BY (a7)}:(((Ĝ (í al a ρ).P 168).elim [] (â 0)).filter fun y=>Nat.beq y.1 0).length=1:=by kernel_rfl
def Cq {al:a7} {a:c9->BY (a7)}:UB (nw (Ĝ (í al a ρ).P 168) 0)=true:=by kernel_rfl
def Co (p:c9) (v a:a7):(ù Ŷ [aj] [ak] p a).t=(ù Ŷ [aj] [ak] p v).t:=by kernel_rfl
def Cp (p:c9) (v:a7):(ù Ŷ [aj] [ak] p v).t.all (st3 3)=true:=by kernel_rfl
def zJ {al:a7} {a:c9->BY (a7)} (p:c9) (v:a7) (y:an) (b:c9->a7->BY ρ):CI (í al a ρ) (ŧ (í al a ρ) (10-0 / 2)) 168 [] 3 0 (nw (Ĝ (í al a ρ).P 168) 0) (ù Ŷ [aj] [ak] p v) (enc ab y) ((jf al a ρ).back b)=(jf al a ρ).bF p v y (b p):=by kernel_rfl
def Cr {al:a7} {a:c9->BY (a7)} (b:lG Tryz.prog PB):(jf al a ρ).Ok (í al a ρ):=⟨zI,b,Co,Cp,zJ⟩
def Gt {al:a7} {a:c9->BY (a7)} (b:c9) (F:c9->BY (CK b5)):wC (í al a _) (ŧ (í al a _) 10) [] 168 By (ω ⟨168,aj,ah,F⟩ b) (PA ⟨168,aj,ah,F⟩)=uH al a b some:=by kernel_rfl
def rC {al:an} {a:an->BY (an)}:(((Ĝ (Ď al a ρ).P 229).elim [] (â 0)).filter fun y=>Nat.beq y.1 0).length=1:=by kernel_rfl
def rD {al:an} {a:an->BY (an)} (p:Val bh) (v:f4) (c:Val bh->f4->BY ρ) (b:(i:Nat)->Val bh->Val (tyL (ę.zs i))->BY ρ) :
    goC (Ď al a ρ) (ŧ (Ď al a ρ) (10-0 / 2)) 229 [] 2 0 (rQ (Ĝ (Ď al a ρ).P 229) 0) (ù ę.head ę.cs ę.vs p v) (Eb ę c b)=(κ al a ρ).bF p v (c p) (fun i=>b i p):=by kernel_rfl
def sG {al:an} {a:an->BY (an)}:(κ al a ρ).Ok (Ď al a ρ):=⟨rC,rD⟩
def vK {al:an} {a:an->BY (an)} (b:an) (F:an->BY (CK Int)):wC (Ď al a _) (ŧ (Ď al a _) 10) [] 229 By (ω ⟨229,ab,tI,F⟩ b) (PA ⟨229,ab,tI,F⟩)=lg al a b some:=by kernel_rfl
def VF:(Kz ρ).Ok (Zb ρ):=⟨by kernel_rfl,fun p v b a=>by kernel_rfl⟩
def Pq (x:pi) (k:Bool->BY ρ) :
    Sq (HF ρ) 195 [Ú] [.bool] x k=EX x k:=by kernel_rfl
def AF:(pL ρ).Ok (vY ρ):=⟨by kernel_rfl,fun p v b a=>by kernel_rfl⟩
def JC:(yz ρ).Ok (Hm ρ):=⟨by kernel_rfl,fun p v b a=>by kernel_rfl⟩
def xb:(nu ρ).Ok (rE ρ):=⟨by kernel_rfl,fun p v b a=>by kernel_rfl⟩
def RV:(HH ρ).Ok (JF ρ):=⟨by kernel_rfl,fun p v b a=>by kernel_rfl⟩
def RU:(HG ρ).Ok (JF ρ):=⟨by kernel_rfl,fun p v b a=>by kernel_rfl⟩
def Pn:(DU ρ).Ok (EW ρ):=⟨by kernel_rfl,fun p v b a=>by kernel_rfl⟩
def Po:(DX ρ).Ok (EW ρ):=⟨by kernel_rfl,fun p v b a=>by kernel_rfl⟩
def EZ:(uk ρ).Ok (mU ρ):=⟨by kernel_rfl,fun p v b a=>by kernel_rfl⟩
def EY:(uj ρ).Ok (mU ρ):=⟨by kernel_rfl,fun p v b a=>by kernel_rfl⟩
def JG (x:Val bp) (k:Int->BY ρ) :
    Sq (mU ρ) 200 [Ë,ar,tI] [tI] x k=xC x.1 x.2.1 x.2.2 k:=by kernel_rfl
def LK:(AE ρ).Ok (KD ρ):=⟨by kernel_rfl,fun p v b a=>by kernel_rfl⟩
def RT:(HD ρ).Ok (JE ρ):=⟨by kernel_rfl,fun p v b a=>by kernel_rfl⟩
def RS:(HC ρ).Ok (JE ρ):=⟨by kernel_rfl,fun p v b a=>by kernel_rfl⟩
def RW:(HK ρ).Ok (TP ρ):=⟨by kernel_rfl,fun p v b a=>by kernel_rfl⟩
def yK:(ph ρ).Ok (š ρ):=⟨by kernel_rfl,fun p v b a=>by kernel_rfl⟩
def yI:(pb ρ).Ok (š ρ):=⟨by kernel_rfl,fun p v b a=>by kernel_rfl⟩
def yJ:(pe ρ).Ok (š ρ):=⟨by kernel_rfl,fun p v b a=>by kernel_rfl⟩
def yH:(o8 ρ).Ok (š ρ):=⟨by kernel_rfl,fun p v b a=>by kernel_rfl⟩
def Cx (x:Val bp) (k:Int->BY ρ) :
    Sq (š ρ) 201 [Ë,ar,tI] [tI] x k=pF x.1 x.2.1 x.2.2 k:=by kernel_rfl
end Go.Proofs.ZzM
end
