/- lemmas -/
import Derived.Test.YtanjeafjkgllhaaGreatDoorMdMA
set_option linter.all false
noncomputable section
variable {ρ:Type}
set_option maxRecDepth 100000
namespace Go.Proofs.ZzM
open Go Go.Am
variable [Globs] [LC]
def sS:(lf ρ).Ok (jA ρ):=⟨by kernel_rfl,fun p v b a=>by kernel_rfl⟩
def sR:(la ρ).Ok (jA ρ):=⟨by kernel_rfl,fun p v b a=>by kernel_rfl⟩
def Bg {al:bx} {a:ag->w8 (bx)}:(((ā (ù al a ρ).P 264).elim [] (Ï 0)).filter fun y=>Nat.beq y.1 2).length=1:=by kernel_rfl
def Cv {al:bx} {a:ag->w8 (bx)}:BZ (ij (ā (ù al a ρ).P 264) 2)=true:=by kernel_rfl
def Ct (p:Val aX) (v a:bx):(Û Ν [ab,tI,tI,ab,tI] [ak] p a).t=(Û Ν [ab,tI,tI,ab,tI] [ak] p v).t:=by kernel_rfl
def Cu (p:Val aX) (v:bx):(Û Ν [ab,tI,tI,ab,tI] [ak] p v).t.all (st3 4)=true:=by kernel_rfl
def Bh {al:bx} {a:ag->w8 (bx)} (p:Val aX) (v:bx) (y:ag) (b:Val aX->bx->w8 ρ):za (ù al a ρ) (ĺ (ù al a ρ) (10-0 / 2)) 264 [] 4 2 (ij (ā (ù al a ρ).P 264) 2) (Û Ν [ab,tI,tI,ab,tI] [ak] p v) (enc ab y) ((jf al a ρ).back b)=(jf al a ρ).bF p v y (b p):=by kernel_rfl
def Cw {al:bx} {a:ag->w8 (bx)} (b:jR Tryz.prog ⟨264,ab,ab,a⟩):(jf al a ρ).Ok (ù al a ρ):=⟨Bg,b,Ct,Cu,Bh⟩
def Bi {al:bx} {a:ag->w8 (bx)}:(((ā (ù al a ρ).P 264).elim [] (Ï 0)).filter fun y=>Nat.beq y.1 0).length=1:=by kernel_rfl
def Bj {al:bx} {a:ag->w8 (bx)} (p:Val bc) (v:Val bj) (c:Val bc->Val bj->w8 ρ) (b:(i:Nat)->Val bc->Val (tyL (ś.zs i))->w8 ρ) :
    goC (ù al a ρ) (ĺ (ù al a ρ) (10-0 / 2)) 264 [] 2 0 (pu (ā (ù al a ρ).P 264) 0) (Û ś.head ś.cs ś.vs p v) (Ew ś c b)=(lV al a ρ).bF p v (c p) (fun i=>b i p):=by kernel_rfl
def Cx {al:bx} {a:ag->w8 (bx)}:(lV al a ρ).Ok (ù al a ρ):=⟨Bi,Bj⟩
def GV {al:bx} {a:ag->w8 (bx)} (b:ag) (F:ag->w8 (w9 ag)):rC (ù al a _) (ĺ (ù al a _) 10) [] 264 yi (Η ⟨264,ab,ab,F⟩ b) (Ky ⟨264,ab,ab,F⟩)=wD al a b some:=by kernel_rfl
def wG {al:an} {a:b6->w8 (an)}:(((ā (ç al a ρ).P 210).elim [] (Ï 0)).filter fun y=>Nat.beq y.1 2).length=1:=by kernel_rfl
def yL {al:an} {a:b6->w8 (an)}:BZ (ij (ā (ç al a ρ).P 210) 2)=true:=by kernel_rfl
def yJ (p:Val bm) (v a:an):(Û Ţ [ab,aj,ab] [ah] p a).t=(Û Ţ [ab,aj,ab] [ah] p v).t:=by kernel_rfl
def yK (p:Val bm) (v:an):(Û Ţ [ab,aj,ab] [ah] p v).t.all (st3 4)=true:=by kernel_rfl
def wH {al:an} {a:b6->w8 (an)} (p:Val bm) (v:an) (y:bx) (b:Val bm->an->w8 ρ):za (ç al a ρ) (ĺ (ç al a ρ) (10-0 / 2)) 210 [] 4 2 (ij (ā (ç al a ρ).P 210) 2) (Û Ţ [ab,aj,ab] [ah] p v) (enc ak y) ((υ al a ρ).back b)=(υ al a ρ).bF p v y (b p):=by kernel_rfl
def yM {al:an} {a:b6->w8 (an)} (b:jR Tryz.prog ⟨210,aj,ak,a⟩):(υ al a ρ).Ok (ç al a ρ):=⟨wG,b,yJ,yK,wH⟩
def wI {al:an} {a:b6->w8 (an)}:(((ā (ç al a ρ).P 210).elim [] (Ï 0)).filter fun y=>Nat.beq y.1 0).length=1:=by kernel_rfl
def yP {al:an} {a:b6->w8 (an)}:BZ (ij (ā (ç al a ρ).P 210) 0)=true:=by kernel_rfl
def yN (p:b6) (v a:an):(Û ţ [aj] [ah] p a).t=(Û ţ [aj] [ah] p v).t:=by kernel_rfl
def yO (p:b6) (v:an):(Û ţ [aj] [ah] p v).t.all (st3 3)=true:=by kernel_rfl
def wJ {al:an} {a:b6->w8 (an)} (p:b6) (v:an) (y:ag) (b:b6->an->w8 ρ):za (ç al a ρ) (ĺ (ç al a ρ) (10-0 / 2)) 210 [] 3 0 (ij (ā (ç al a ρ).P 210) 0) (Û ţ [aj] [ah] p v) (enc ab y) ((χ al a ρ).back b)=(χ al a ρ).bF p v y (b p):=by kernel_rfl
def yQ {al:an} {a:b6->w8 (an)} (b:jR Tryz.prog Kz):(χ al a ρ).Ok (ç al a ρ):=⟨wI,b,yN,yO,wJ⟩
def CH {al:an} {a:b6->w8 (an)} (b:b6) (F:b6->w8 (w9 bx)):rC (ç al a _) (ĺ (ç al a _) 10) [] 210 yi (Η ⟨210,aj,ak,F⟩ b) (Ky ⟨210,aj,ak,F⟩)=rK al a b some:=by kernel_rfl
def pn {al:ag} {a:ag->w8 (ag)}:(((ā (ă al a ρ).P 243).elim [] (Ï 0)).filter fun y=>Nat.beq y.1 0).length=1:=by kernel_rfl
def po {al:ag} {a:ag->w8 (ag)} (p:Val bc) (v:ek) (c:Val bc->ek->w8 ρ) (b:(i:Nat)->Val bc->Val (tyL (č.zs i))->w8 ρ) :
    goC (ă al a ρ) (ĺ (ă al a ρ) (10-0 / 2)) 243 [] 2 0 (pu (ā (ă al a ρ).P 243) 0) (Û č.head č.cs č.vs p v) (Ew č c b)=(ź al a ρ).bF p v (c p) (fun i=>b i p):=by kernel_rfl
def pZ {al:ag} {a:ag->w8 (ag)}:(ź al a ρ).Ok (ă al a ρ):=⟨pn,po⟩
def sP {al:ag} {a:ag->w8 (ag)} (b:ag) (F:ag->w8 (w9 Int)):rC (ă al a _) (ĺ (ă al a _) 10) [] 243 yi (Η ⟨243,ab,tI,F⟩ b) (Ky ⟨243,ab,tI,F⟩)=jz al a b some:=by kernel_rfl
def Pq:(Gn ρ).Ok (Sd ρ):=⟨by kernel_rfl,fun p v b a=>by kernel_rfl⟩
def J7 (x:pl) (k:Bool->w8 ρ) :
    Na (DC ρ) 198 [Ö] [.bool] x k=Bx x k:=by kernel_rfl
def xo:(nJ ρ).Ok (tf ρ):=⟨by kernel_rfl,fun p v b a=>by kernel_rfl⟩
def E5:(vq ρ).Ok (Dj ρ):=⟨by kernel_rfl,fun p v b a=>by kernel_rfl⟩
def ug:(lN ρ).Ok (pp ρ):=⟨by kernel_rfl,fun p v b a=>by kernel_rfl⟩
def MP:(DE ρ).Ok (E9 ρ):=⟨by kernel_rfl,fun p v b a=>by kernel_rfl⟩
def MO:(DD ρ).Ok (E9 ρ):=⟨by kernel_rfl,fun p v b a=>by kernel_rfl⟩
def J4:(Aj ρ).Ok (Bw ρ):=⟨by kernel_rfl,fun p v b a=>by kernel_rfl⟩
def J5:(Al ρ).Ok (Bw ρ):=⟨by kernel_rfl,fun p v b a=>by kernel_rfl⟩
def Bz:(qZ ρ).Ok (lh ρ):=⟨by kernel_rfl,fun p v b a=>by kernel_rfl⟩
def By:(qX ρ).Ok (lh ρ):=⟨by kernel_rfl,fun p v b a=>by kernel_rfl⟩
def Fc (x:Val bp) (k:Int->w8 ρ) :
    Na (lh ρ) 203 [Ë,ax,tI] [tI] x k=uB x.1 x.2.1 x.2.2 k:=by kernel_rfl
def Hm:(xn ρ).Ok (Gs ρ):=⟨by kernel_rfl,fun p v b a=>by kernel_rfl⟩
def MN:(DA ρ).Ok (E8 ρ):=⟨by kernel_rfl,fun p v b a=>by kernel_rfl⟩
def MM:(Dz ρ).Ok (E8 ρ):=⟨by kernel_rfl,fun p v b a=>by kernel_rfl⟩
def MQ:(DF ρ).Ok (N0 ρ):=⟨by kernel_rfl,fun p v b a=>by kernel_rfl⟩
def vF:(mY ρ).Ok (Ŋ ρ):=⟨by kernel_rfl,fun p v b a=>by kernel_rfl⟩
def vD:(mU ρ).Ok (Ŋ ρ):=⟨by kernel_rfl,fun p v b a=>by kernel_rfl⟩
def vE:(mW ρ).Ok (Ŋ ρ):=⟨by kernel_rfl,fun p v b a=>by kernel_rfl⟩
def vC:(mS ρ).Ok (Ŋ ρ):=⟨by kernel_rfl,fun p v b a=>by kernel_rfl⟩
def yT (x:Val bp) (k:Int->w8 ρ) :
    Na (Ŋ ρ) 204 [Ë,ax,tI] [tI] x k=nA x.1 x.2.1 x.2.2 k:=by kernel_rfl
end Go.Proofs.ZzM
end
