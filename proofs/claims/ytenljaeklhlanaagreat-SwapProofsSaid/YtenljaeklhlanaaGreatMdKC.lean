/- lemmas -/
import Derived.Test.YtenljaeklhlanaaGreatMdMA
set_option linter.all false
noncomputable section
variable {ρ:Type}
set_option maxRecDepth 100000
namespace Go.Proofs.ZzM
open Go Go.Am
def wq:(mW ρ).Ok (lF ρ):=⟨by kernel_rfl,fun p v b a=>by kernel_rfl⟩
def wp:(mV ρ).Ok (lF ρ):=⟨by kernel_rfl,fun p v b a=>by kernel_rfl⟩
def E6 {al:b5} {a:an->BY (b5)}:(((Ġ (ć al a ρ).P 206).elim [] (ß 0)).filter fun y=>Nat.beq y.1 2).length=1:=by kernel_rfl
def GC {al:b5} {a:an->BY (b5)}:Vi (nM (Ġ (ć al a ρ).P 206) 2)=true:=by kernel_rfl
def GA (p:Val bf) (v a:b5):(û iH [ab,tI,tI,ab,tI] [ah] p a).t=(û iH [ab,tI,tI,ab,tI] [ah] p v).t:=by kernel_rfl
def GB (p:Val bf) (v:b5):(û iH [ab,tI,tI,ab,tI] [ah] p v).t.all (st3 4)=true:=by kernel_rfl
def E7 {al:b5} {a:an->BY (b5)} (p:Val bf) (v:b5) (y:an) (b:Val bf->b5->BY ρ):Dh (ć al a ρ) (ŧ (ć al a ρ) (10-0 / 2)) 206 [] 4 2 (nM (Ġ (ć al a ρ).P 206) 2) (û iH [ab,tI,tI,ab,tI] [ah] p v) (enc ab y) ((kD al a ρ).back b)=(kD al a ρ).bF p v y (b p):=by kernel_rfl
def GD {al:b5} {a:an->BY (b5)} (b:lS Tryz.prog ⟨206,ab,ab,a⟩):(kD al a ρ).Ok (ć al a ρ):=⟨E6,b,GA,GB,E7⟩
def E8 {al:b5} {a:an->BY (b5)}:(((Ġ (ć al a ρ).P 206).elim [] (ß 0)).filter fun y=>Nat.beq y.1 0).length=1:=by kernel_rfl
def E9 {al:b5} {a:an->BY (b5)} (p:Val bi) (v:pi) (c:Val bi->pi->BY ρ) (b:(i:Nat)->Val bi->Val (tyL (ű.zs i))->BY ρ) :
    goC (ć al a ρ) (ŧ (ć al a ρ) (10-0 / 2)) 206 [] 2 0 (sl (Ġ (ć al a ρ).P 206) 0) (û ű.head ű.cs ű.vs p v) (EG ű c b)=(nZ al a ρ).bF p v (c p) (fun i=>b i p):=by kernel_rfl
def GF {al:b5} {a:an->BY (b5)}:(nZ al a ρ).Ok (ć al a ρ):=⟨E8,E9⟩
def Lv {al:b5} {a:an->BY (b5)} (b:an) (F:an->BY (CK an)):xc (ć al a _) (ŧ (ć al a _) 10) [] 206 Ck (iB ⟨206,ab,ab,F⟩ b) (Qa ⟨206,ab,ab,F⟩)=Ai al a b some:=by kernel_rfl
def Al {al:a7} {a:c9->BY (a7)}:(((Ġ (ì al a ρ).P 168).elim [] (ß 0)).filter fun y=>Nat.beq y.1 2).length=1:=by kernel_rfl
def CU {al:a7} {a:c9->BY (a7)}:Vi (nM (Ġ (ì al a ρ).P 168) 2)=true:=by kernel_rfl
def CS (p:Val bm) (v a:a7):(û ŵ [ab,aj,ab] [ak] p a).t=(û ŵ [ab,aj,ab] [ak] p v).t:=by kernel_rfl
def CT (p:Val bm) (v:a7):(û ŵ [ab,aj,ab] [ak] p v).t.all (st3 4)=true:=by kernel_rfl
def Ao {al:a7} {a:c9->BY (a7)} (p:Val bm) (v:a7) (y:b5) (b:Val bm->a7->BY ρ):Dh (ì al a ρ) (ŧ (ì al a ρ) (10-0 / 2)) 168 [] 4 2 (nM (Ġ (ì al a ρ).P 168) 2) (û ŵ [ab,aj,ab] [ak] p v) (enc ah y) ((ji al a ρ).back b)=(ji al a ρ).bF p v y (b p):=by kernel_rfl
def CV {al:a7} {a:c9->BY (a7)} (b:lS Tryz.prog ⟨168,aj,ah,a⟩):(ji al a ρ).Ok (ì al a ρ):=⟨Al,b,CS,CT,Ao⟩
def Ap {al:a7} {a:c9->BY (a7)}:(((Ġ (ì al a ρ).P 168).elim [] (ß 0)).filter fun y=>Nat.beq y.1 0).length=1:=by kernel_rfl
def CY {al:a7} {a:c9->BY (a7)}:Vi (nM (Ġ (ì al a ρ).P 168) 0)=true:=by kernel_rfl
def CW (p:c9) (v a:a7):(û Ŷ [aj] [ak] p a).t=(û Ŷ [aj] [ak] p v).t:=by kernel_rfl
def CX (p:c9) (v:a7):(û Ŷ [aj] [ak] p v).t.all (st3 3)=true:=by kernel_rfl
def Aq {al:a7} {a:c9->BY (a7)} (p:c9) (v:a7) (y:an) (b:c9->a7->BY ρ):Dh (ì al a ρ) (ŧ (ì al a ρ) (10-0 / 2)) 168 [] 3 0 (nM (Ġ (ì al a ρ).P 168) 0) (û Ŷ [aj] [ak] p v) (enc ab y) ((jj al a ρ).back b)=(jj al a ρ).bF p v y (b p):=by kernel_rfl
def CZ {al:a7} {a:c9->BY (a7)} (b:lS Tryz.prog Qb):(jj al a ρ).Ok (ì al a ρ):=⟨Ap,b,CW,CX,Aq⟩
def GR {al:a7} {a:c9->BY (a7)} (b:c9) (F:c9->BY (CK b5)):xc (ì al a _) (ŧ (ì al a _) 10) [] 168 Ck (iB ⟨168,aj,ah,F⟩ b) (Qa ⟨168,aj,ah,F⟩)=vg al a b some:=by kernel_rfl
def rX {al:an} {a:an->BY (an)}:(((Ġ (đ al a ρ).P 229).elim [] (ß 0)).filter fun y=>Nat.beq y.1 0).length=1:=by kernel_rfl
def rY {al:an} {a:an->BY (an)} (p:Val bi) (v:f4) (c:Val bi->f4->BY ρ) (b:(i:Nat)->Val bi->Val (tyL (Ĝ.zs i))->BY ρ) :
    goC (đ al a ρ) (ŧ (đ al a ρ) (10-0 / 2)) 229 [] 2 0 (sl (Ġ (đ al a ρ).P 229) 0) (û Ĝ.head Ĝ.cs Ĝ.vs p v) (EG Ĝ c b)=(θ al a ρ).bF p v (c p) (fun i=>b i p):=by kernel_rfl
def td {al:an} {a:an->BY (an)}:(θ al a ρ).Ok (đ al a ρ):=⟨rX,rY⟩
def wn {al:an} {a:an->BY (an)} (b:an) (F:an->BY (CK Int)):xc (đ al a _) (ŧ (đ al a _) 10) [] 229 Ck (iB ⟨229,ab,tI,F⟩ b) (Qa ⟨229,ab,tI,F⟩)=lE al a b some:=by kernel_rfl
def Wt:(KY ρ).Ok (ZM ρ):=⟨by kernel_rfl,fun p v b a=>by kernel_rfl⟩
def P1 (x:pc) (k:Bool->BY ρ) :
    S8 (H5 ρ) 195 [Ú] [.bool] x k=FA x k:=by kernel_rfl
def Bl:(qg ρ).Ok (wF ρ):=⟨by kernel_rfl,fun p v b a=>by kernel_rfl⟩
def JS:(zb ρ).Ok (HJ ρ):=⟨by kernel_rfl,fun p v b a=>by kernel_rfl⟩
def xJ:(nI ρ).Ok (rZ ρ):=⟨by kernel_rfl,fun p v b a=>by kernel_rfl⟩
def SK:(H7 ρ).Ok (JV ρ):=⟨by kernel_rfl,fun p v b a=>by kernel_rfl⟩
def SJ:(H6 ρ).Ok (JV ρ):=⟨by kernel_rfl,fun p v b a=>by kernel_rfl⟩
def PY:(Et ρ).Ok (Fz ρ):=⟨by kernel_rfl,fun p v b a=>by kernel_rfl⟩
def PZ:(Ew ρ).Ok (Fz ρ):=⟨by kernel_rfl,fun p v b a=>by kernel_rfl⟩
def FC:(uL ρ).Ok (nc ρ):=⟨by kernel_rfl,fun p v b a=>by kernel_rfl⟩
def FB:(uK ρ).Ok (nc ρ):=⟨by kernel_rfl,fun p v b a=>by kernel_rfl⟩
def JW (x:Val bp) (k:Int->BY ρ) :
    S8 (nc ρ) 200 [Ê,ar,tI] [tI] x k=yk x.1 x.2.1 x.2.2 k:=by kernel_rfl
def Mg:(Bk ρ).Ok (K5 ρ):=⟨by kernel_rfl,fun p v b a=>by kernel_rfl⟩
def SI:(HZ ρ).Ok (JU ρ):=⟨by kernel_rfl,fun p v b a=>by kernel_rfl⟩
def SH:(HY ρ).Ok (JU ρ):=⟨by kernel_rfl,fun p v b a=>by kernel_rfl⟩
def SL:(Ia ρ).Ok (Ur ρ):=⟨by kernel_rfl,fun p v b a=>by kernel_rfl⟩
def zp:(pG ρ).Ok (Ť ρ):=⟨by kernel_rfl,fun p v b a=>by kernel_rfl⟩
def zn:(pC ρ).Ok (Ť ρ):=⟨by kernel_rfl,fun p v b a=>by kernel_rfl⟩
def zo:(pE ρ).Ok (Ť ρ):=⟨by kernel_rfl,fun p v b a=>by kernel_rfl⟩
def zm:(pA ρ).Ok (Ť ρ):=⟨by kernel_rfl,fun p v b a=>by kernel_rfl⟩
def C5 (x:Val bp) (k:Int->BY ρ) :
    S8 (Ť ρ) 201 [Ê,ar,tI] [tI] x k=pX x.1 x.2.1 x.2.2 k:=by kernel_rfl
end Go.Proofs.ZzM
end
