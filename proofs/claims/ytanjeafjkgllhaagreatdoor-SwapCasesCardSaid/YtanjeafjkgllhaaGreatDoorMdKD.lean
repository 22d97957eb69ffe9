/- lemmas -/
import Derived.Test.YtanjeafjkgllhaaGreatDoorMdMA
set_option linter.all false
noncomputable section
variable {ρ:Type}
set_option maxRecDepth 100000
namespace Go.Proofs.ZzM
open Go Go.Am
variable [Globs] [LC]
def t7:(lJ ρ).Ok (jJ ρ):=⟨by kernel_rfl,fun p v b a=>by kernel_rfl⟩
def tZ:(lH ρ).Ok (jJ ρ):=⟨by kernel_rfl,fun p v b a=>by kernel_rfl⟩
def Dt {al:b5} {a:an->rF (b5)}:(((ô (õ al a ρ).P 264).elim [] (Ø 0)).filter fun y=>Nat.beq y.1 2).length=1:=by kernel_rfl
def EY {al:b5} {a:an->rF (b5)}:Eo (iw (ô (õ al a ρ).P 264) 2)=true:=by kernel_rfl
def EW (p:Val bj) (v a:b5):(à Ι [ab,tI,tI,ab,tI] [am] p a).t=(à Ι [ab,tI,tI,ab,tI] [am] p v).t:=by kernel_rfl
def EX (p:Val bj) (v:b5):(à Ι [ab,tI,tI,ab,tI] [am] p v).t.all (st3 4)=true:=by kernel_rfl
def Du {al:b5} {a:an->rF (b5)} (p:Val bj) (v:b5) (y:an) (b:Val bj->b5->rF ρ):Br (õ al a ρ) (Ğ (õ al a ρ) (10-0 / 2)) 264 [] 4 2 (iw (ô (õ al a ρ).P 264) 2) (à Ι [ab,tI,tI,ab,tI] [am] p v) (enc ab y) ((jf al a ρ).back b)=(jf al a ρ).bF p v y (b p):=by kernel_rfl
def EZ {al:b5} {a:an->rF (b5)} (b:jZ Tryz.prog ⟨264,ab,ab,a⟩):(jf al a ρ).Ok (õ al a ρ):=⟨Dt,b,EW,EX,Du⟩
def Dv {al:b5} {a:an->rF (b5)}:(((ô (õ al a ρ).P 264).elim [] (Ø 0)).filter fun y=>Nat.beq y.1 0).length=1:=by kernel_rfl
def Dw {al:b5} {a:an->rF (b5)} (p:Val bo) (v:Val bz) (c:Val bo->Val bz->rF ρ) (b:(i:Nat)->Val bo->Val (tyL (ŏ.zs i))->rF ρ) :
    goC (õ al a ρ) (Ğ (õ al a ρ) (10-0 / 2)) 264 [] 2 0 (ov (ô (õ al a ρ).P 264) 0) (à ŏ.head ŏ.cs ŏ.vs p v) (Em ŏ c b)=(mo al a ρ).bF p v (c p) (fun i=>b i p):=by kernel_rfl
def E4 {al:b5} {a:an->rF (b5)}:(mo al a ρ).Ok (õ al a ρ):=⟨Dv,Dw⟩
def Kv {al:b5} {a:an->rF (b5)} (b:an) (F:an->rF (rT an)):su (õ al a _) (Ğ (õ al a _) 10) [] 264 Aw (Ζ ⟨264,ab,ab,F⟩ b) (PL ⟨264,ab,ab,F⟩)=xX al a b some:=by kernel_rfl
def xZ {al:a7} {a:b8->rF (a7)}:(((ô (ç al a ρ).P 210).elim [] (Ø 0)).filter fun y=>Nat.beq y.1 2).length=1:=by kernel_rfl
def A6 {al:a7} {a:b8->rF (a7)}:Eo (iw (ô (ç al a ρ).P 210) 2)=true:=by kernel_rfl
def A4 (p:Val bB) (v a:a7):(à ŕ [ab,ai,ab] [ag] p a).t=(à ŕ [ab,ai,ab] [ag] p v).t:=by kernel_rfl
def A5 (p:Val bB) (v:a7):(à ŕ [ab,ai,ab] [ag] p v).t.all (st3 4)=true:=by kernel_rfl
def ya {al:a7} {a:b8->rF (a7)} (p:Val bB) (v:a7) (y:b5) (b:Val bB->a7->rF ρ):Br (ç al a ρ) (Ğ (ç al a ρ) (10-0 / 2)) 210 [] 4 2 (iw (ô (ç al a ρ).P 210) 2) (à ŕ [ab,ai,ab] [ag] p v) (enc am y) ((ς al a ρ).back b)=(ς al a ρ).bF p v y (b p):=by kernel_rfl
def A7 {al:a7} {a:b8->rF (a7)} (b:jZ Tryz.prog ⟨210,ai,am,a⟩):(ς al a ρ).Ok (ç al a ρ):=⟨xZ,b,A4,A5,ya⟩
def yb {al:a7} {a:b8->rF (a7)}:(((ô (ç al a ρ).P 210).elim [] (Ø 0)).filter fun y=>Nat.beq y.1 0).length=1:=by kernel_rfl
def Ba {al:a7} {a:b8->rF (a7)}:Eo (iw (ô (ç al a ρ).P 210) 0)=true:=by kernel_rfl
def A8 (p:b8) (v a:a7):(à Ŗ [ai] [ag] p a).t=(à Ŗ [ai] [ag] p v).t:=by kernel_rfl
def A9 (p:b8) (v:a7):(à Ŗ [ai] [ag] p v).t.all (st3 3)=true:=by kernel_rfl
def yc {al:a7} {a:b8->rF (a7)} (p:b8) (v:a7) (y:an) (b:b8->a7->rF ρ):Br (ç al a ρ) (Ğ (ç al a ρ) (10-0 / 2)) 210 [] 3 0 (iw (ô (ç al a ρ).P 210) 0) (à Ŗ [ai] [ag] p v) (enc ab y) ((υ al a ρ).back b)=(υ al a ρ).bF p v y (b p):=by kernel_rfl
def Bb {al:a7} {a:b8->rF (a7)} (b:jZ Tryz.prog PM):(υ al a ρ).Ok (ç al a ρ):=⟨yb,b,A8,A9,yc⟩
def Fh {al:a7} {a:b8->rF (a7)} (b:b8) (F:b8->rF (rT b5)):su (ç al a _) (Ğ (ç al a _) 10) [] 210 Aw (Ζ ⟨210,ai,am,F⟩ b) (PL ⟨210,ai,am,F⟩)=sI al a b some:=by kernel_rfl
def p9 {al:an} {a:an->rF (an)}:(((ô (þ al a ρ).P 243).elim [] (Ø 0)).filter fun y=>Nat.beq y.1 0).length=1:=by kernel_rfl
def qd {al:an} {a:an->rF (an)} (p:Val bo) (v:dy) (c:Val bo->dy->rF ρ) (b:(i:Nat)->Val bo->Val (tyL (ă.zs i))->rF ρ) :
    goC (þ al a ρ) (Ğ (þ al a ρ) (10-0 / 2)) 243 [] 2 0 (ov (ô (þ al a ρ).P 243) 0) (à ă.head ă.cs ă.vs p v) (Em ă c b)=(ŷ al a ρ).bF p v (c p) (fun i=>b i p):=by kernel_rfl
def qO {al:an} {a:an->rF (an)}:(ŷ al a ρ).Ok (þ al a ρ):=⟨p9,qd⟩
def tX {al:an} {a:an->rF (an)} (b:an) (F:an->rF (rT Int)):su (þ al a _) (Ğ (þ al a _) 10) [] 243 Aw (Ζ ⟨243,ab,tI,F⟩ b) (PL ⟨243,ab,tI,F⟩)=jI al a b some:=by kernel_rfl
def VX:(JZ ρ).Ok (Y8 ρ):=⟨by kernel_rfl,fun p v b a=>by kernel_rfl⟩
def Pm (x:kf) (k:Bool->rF ρ) :
    LN (Gt ρ) 198 [Ú] [.bool] x k=DS x k:=by kernel_rfl
def zx:(ou ρ).Ok (uz ρ):=⟨by kernel_rfl,fun p v b a=>by kernel_rfl⟩
def Im:(wH ρ).Ok (Ga ρ):=⟨by kernel_rfl,fun p v b a=>by kernel_rfl⟩
def vm:(mg ρ).Ok (qe ρ):=⟨by kernel_rfl,fun p v b a=>by kernel_rfl⟩
def Sl:(Gv ρ).Ok (Ir ρ):=⟨by kernel_rfl,fun p v b a=>by kernel_rfl⟩
def Sk:(Gu ρ).Ok (Ir ρ):=⟨by kernel_rfl,fun p v b a=>by kernel_rfl⟩
def Pd:(CC ρ).Ok (DR ρ):=⟨by kernel_rfl,fun p v b a=>by kernel_rfl⟩
def Pe:(CE ρ).Ok (DR ρ):=⟨by kernel_rfl,fun p v b a=>by kernel_rfl⟩
def DU:(rZ ρ).Ok (lU ρ):=⟨by kernel_rfl,fun p v b a=>by kernel_rfl⟩
def DT:(rY ρ).Ok (lU ρ):=⟨by kernel_rfl,fun p v b a=>by kernel_rfl⟩
def Iu (x:Val bG) (k:Int->rF ρ) :
    LN (lU ρ) 203 [È,ax,tI] [tI] x k=vD x.1 x.2.1 x.2.2 k:=by kernel_rfl
def Lv:(zw ρ).Ok (J2 ρ):=⟨by kernel_rfl,fun p v b a=>by kernel_rfl⟩
def Sj:(Gs ρ).Ok (Iq ρ):=⟨by kernel_rfl,fun p v b a=>by kernel_rfl⟩
def Si:(Gr ρ).Ok (Iq ρ):=⟨by kernel_rfl,fun p v b a=>by kernel_rfl⟩
def Sn:(Gy ρ).Ok (Ug ρ):=⟨by kernel_rfl,fun p v b a=>by kernel_rfl⟩
def xf:(nH ρ).Ok (ĺ ρ):=⟨by kernel_rfl,fun p v b a=>by kernel_rfl⟩
def xd:(nB ρ).Ok (ĺ ρ):=⟨by kernel_rfl,fun p v b a=>by kernel_rfl⟩
def xe:(nE ρ).Ok (ĺ ρ):=⟨by kernel_rfl,fun p v b a=>by kernel_rfl⟩
def xc:(nz ρ).Ok (ĺ ρ):=⟨by kernel_rfl,fun p v b a=>by kernel_rfl⟩
def Bg (x:Val bG) (k:Int->rF ρ) :
    LN (ĺ ρ) 204 [È,ax,tI] [tI] x k=og x.1 x.2.1 x.2.2 k:=by kernel_rfl
end Go.Proofs.ZzM
end
