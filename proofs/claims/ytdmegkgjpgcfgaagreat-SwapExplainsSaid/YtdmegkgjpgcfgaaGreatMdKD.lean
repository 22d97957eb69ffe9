/- lemmas -/
import Derived.Test.YtdmegkgjpgcfgaaGreatMdMA
set_option linter.all false
noncomputable section
variable {ρ:Type}
set_option maxRecDepth 100000
namespace Go.Proofs.ZzM
open Go Go.Am
def vT:(mJ ρ).Ok (π ρ):=⟨by kernel_rfl,fun p v b a=>by kernel_rfl⟩
def vS:(mI ρ).Ok (π ρ):=⟨by kernel_rfl,fun p v b a=>by kernel_rfl⟩
def yY (x:b5) (k:an->BE ρ) :
    Ğ (π ρ) 93 [ah] [ab] x k=mK x k:=by kernel_rfl
def EV {al:b5} {a:an->BE (b5)}:(((Ġ (Ć al a ρ).P 272).elim [] (ß 0)).filter fun y=>Nat.beq y.1 2).length=1:=by kernel_rfl
def GH {al:b5} {a:an->BE (b5)}:V4 (np (Ġ (Ć al a ρ).P 272) 2)=true:=by kernel_rfl
def GF (p:Val bf) (v a:b5):(ü iC [ab,tI,tI,ab,tI] [ah] p a).t=(ü iC [ab,tI,tI,ab,tI] [ah] p v).t:=by kernel_rfl
def GG (p:Val bf) (v:b5):(ü iC [ab,tI,tI,ab,tI] [ah] p v).t.all (st3 4)=true:=by kernel_rfl
def EW {al:b5} {a:an->BE (b5)} (p:Val bf) (v:b5) (y:an) (b:Val bf->b5->BE ρ):Db (Ć al a ρ) (ť (Ć al a ρ) (10-0 / 2)) 272 [] 4 2 (np (Ġ (Ć al a ρ).P 272) 2) (ü iC [ab,tI,tI,ab,tI] [ah] p v) (enc ab y) ((kd al a ρ).back b)=(kd al a ρ).bF p v y (b p):=by kernel_rfl
def GI {al:b5} {a:an->BE (b5)} (b:lB Tryz.prog ⟨272,ab,ab,a⟩):(kd al a ρ).Ok (Ć al a ρ):=⟨EV,b,GF,GG,EW⟩
def EX {al:b5} {a:an->BE (b5)}:(((Ġ (Ć al a ρ).P 272).elim [] (ß 0)).filter fun y=>Nat.beq y.1 0).length=1:=by kernel_rfl
def EY {al:b5} {a:an->BE (b5)} (p:Val bi) (v:pi) (c:Val bi->pi->BE ρ) (b:(i:Nat)->Val bi->Val (tyL (Ů.zs i))->BE ρ) :
    goC (Ć al a ρ) (ť (Ć al a ρ) (10-0 / 2)) 272 [] 2 0 (rS (Ġ (Ć al a ρ).P 272) 0) (ü Ů.head Ů.cs Ů.vs p v) (Ez Ů c b)=(nF al a ρ).bF p v (c p) (fun i=>b i p):=by kernel_rfl
def GJ {al:b5} {a:an->BE (b5)}:(nF al a ρ).Ok (Ć al a ρ):=⟨EX,EY⟩
def Mi {al:b5} {a:an->BE (b5)} (b:an) (F:an->BE (BY an)):wI (Ć al a _) (ť (Ć al a _) 10) [] 272 Cb (ς ⟨272,ab,ab,F⟩ b) (Q2 ⟨272,ab,ab,F⟩)=zV al a b some:=by kernel_rfl
def zY {al:a7} {a:c9->BE (a7)}:(((Ġ (ì al a ρ).P 231).elim [] (ß 0)).filter fun y=>Nat.beq y.1 2).length=1:=by kernel_rfl
def CP {al:a7} {a:c9->BE (a7)}:V4 (np (Ġ (ì al a ρ).P 231) 2)=true:=by kernel_rfl
def CN (p:Val br) (v a:a7):(ü ų [ab,aj,ab] [ak] p a).t=(ü ų [ab,aj,ab] [ak] p v).t:=by kernel_rfl
def CO (p:Val br) (v:a7):(ü ų [ab,aj,ab] [ak] p v).t.all (st3 4)=true:=by kernel_rfl
def zZ {al:a7} {a:c9->BE (a7)} (p:Val br) (v:a7) (y:b5) (b:Val br->a7->BE ρ):Db (ì al a ρ) (ť (ì al a ρ) (10-0 / 2)) 231 [] 4 2 (np (Ġ (ì al a ρ).P 231) 2) (ü ų [ab,aj,ab] [ak] p v) (enc ah y) ((jb al a ρ).back b)=(jb al a ρ).bF p v y (b p):=by kernel_rfl
def CQ {al:a7} {a:c9->BE (a7)} (b:lB Tryz.prog ⟨231,aj,ah,a⟩):(jb al a ρ).Ok (ì al a ρ):=⟨zY,b,CN,CO,zZ⟩
def Aa {al:a7} {a:c9->BE (a7)}:(((Ġ (ì al a ρ).P 231).elim [] (ß 0)).filter fun y=>Nat.beq y.1 0).length=1:=by kernel_rfl
def CU {al:a7} {a:c9->BE (a7)}:V4 (np (Ġ (ì al a ρ).P 231) 0)=true:=by kernel_rfl
def CS (p:c9) (v a:a7):(ü Ŵ [aj] [ak] p a).t=(ü Ŵ [aj] [ak] p v).t:=by kernel_rfl
def CT (p:c9) (v:a7):(ü Ŵ [aj] [ak] p v).t.all (st3 3)=true:=by kernel_rfl
def Ab {al:a7} {a:c9->BE (a7)} (p:c9) (v:a7) (y:an) (b:c9->a7->BE ρ):Db (ì al a ρ) (ť (ì al a ρ) (10-0 / 2)) 231 [] 3 0 (np (Ġ (ì al a ρ).P 231) 0) (ü Ŵ [aj] [ak] p v) (enc ab y) ((jc al a ρ).back b)=(jc al a ρ).bF p v y (b p):=by kernel_rfl
def CV {al:a7} {a:c9->BE (a7)} (b:lB Tryz.prog Q3):(jc al a ρ).Ok (ì al a ρ):=⟨Aa,b,CS,CT,Ab⟩
def GV {al:a7} {a:c9->BE (a7)} (b:c9) (F:c9->BE (BY b5)):wI (ì al a _) (ť (ì al a _) 10) [] 231 Cb (ς ⟨231,aj,ah,F⟩ b) (Q2 ⟨231,aj,ah,F⟩)=uJ al a b some:=by kernel_rfl
def rB {al:an} {a:an->BE (an)}:(((Ġ (ď al a ρ).P 268).elim [] (ß 0)).filter fun y=>Nat.beq y.1 0).length=1:=by kernel_rfl
def rC {al:an} {a:an->BE (an)} (p:Val bi) (v:f4) (c:Val bi->f4->BE ρ) (b:(i:Nat)->Val bi->Val (tyL (ě.zs i))->BE ρ) :
    goC (ď al a ρ) (ť (ď al a ρ) (10-0 / 2)) 268 [] 2 0 (rS (Ġ (ď al a ρ).P 268) 0) (ü ě.head ě.cs ě.vs p v) (Ez ě c b)=(ζ al a ρ).bF p v (c p) (fun i=>b i p):=by kernel_rfl
def sH {al:an} {a:an->BE (an)}:(ζ al a ρ).Ok (ď al a ρ):=⟨rB,rC⟩
def vQ {al:an} {a:an->BE (an)} (b:an) (F:an->BE (BY Int)):wI (ď al a _) (ť (ď al a _) 10) [] 268 Cb (ς ⟨268,ab,tI,F⟩ b) (Q2 ⟨268,ab,tI,F⟩)=kS al a b some:=by kernel_rfl
def xm:(nk ρ).Ok (lT ρ):=⟨by kernel_rfl,fun p v b a=>by kernel_rfl⟩
def Ak (x:lA) (k:Int->BE ρ) :
    Ğ (lT ρ) 173 [ab,tI] [tI] x k=nN x.1 x.2 k:=by kernel_rfl
def vR (x:lA) (k:Bool->BE ρ) :
    Ğ (nl ρ) 92 [ab,tI] [.bool] x k=kT x.1 x.2 k:=by kernel_rfl
def T0:(Ib ρ).Ok (B6 ρ):=⟨by kernel_rfl,fun p v b a=>by kernel_rfl⟩
def TZ:(Ia ρ).Ok (B6 ρ):=⟨by kernel_rfl,fun p v b a=>by kernel_rfl⟩
def aba (x:Val (.pair È Ö)) (k:an->BE ρ) :
    Ğ (B6 ρ) 201 [È,Ö] [ab] x k=Ya x.1 x.2 k:=by kernel_rfl
def QI:(Ej ρ).Ok (xQ ρ):=⟨by kernel_rfl,fun p v b a=>by kernel_rfl⟩
def QJ:(El ρ).Ok (xQ ρ):=⟨by kernel_rfl,fun p v b a=>by kernel_rfl⟩
def XY (x:b6) (k:bx->BE ρ) :
    Ğ (xQ ρ) 136 [È] [aa] x k=QK x k:=by kernel_rfl
def TX (x:hO) (k:Bool->BE ρ) :
    Ğ (LO ρ) 141 [Ã,tI,tI] [.bool] x k=Kw x.1 x.2.1 x.2.2 k:=by kernel_rfl
def TO (x:rm) (k:Bool->BE ρ) :
    Ğ (LN ρ) 212 [tI,tI,tI] [.bool] x k=Kr x.1 x.2.1 x.2.2 k:=by kernel_rfl
def X6 (x:Int) (k:Bool->BE ρ) :
    Ğ (QN ρ) 205 [tI] [.bool] x k=QO x k:=by kernel_rfl
def aaZ (x:Int) (k:Int->BE ρ) :
    Ğ (Vi ρ) 291 [tI] [(.int .u64)] x k=XQ x k:=by kernel_rfl
def XR:(LK ρ).Ok (Qz ρ):=⟨by kernel_rfl,fun p v b a=>by kernel_rfl⟩
def ac3 (x:Val bu) (k:Int->BE ρ) :
    Ğ (Qz ρ) 292 [(.int .u64),(.int .u64)] [(.int .u64)] x k=ac4 x.1 x.2 k:=by kernel_rfl
def XT (x:bl) (k:Bool->BE ρ) :
    Ğ (QB ρ) 253 [Ã] [.bool] x k=QC x k:=by kernel_rfl
def QM (x:nj) (k:Bool->BE ρ) :
    Ğ (H9 ρ) 203 [Ö] [.bool] x k=FH x k:=by kernel_rfl
def Be:(pN ρ).Ok (nR ρ):=⟨by kernel_rfl,fun p v b a=>by kernel_rfl⟩
def FK (x:b6) (k:Int->BE ρ) :
    Ğ (nR ρ) 142 [È] [tI] x k=rR x k:=by kernel_rfl
def Ks:(yS ρ).Ok (xN ρ):=⟨by kernel_rfl,fun p v b a=>by kernel_rfl⟩
def QG (x:b6) (k:py->BE ρ) :
    Ğ (xN ρ) 143 [È] [aq] x k=FF x k:=by kernel_rfl
def HQ (x:Val (.pair aq Ã)) (k:Int->BE ρ) :
    Ğ (yT ρ) 206 [aq,tI,tI] [tI] x k=uS x.1 x.2.1 x.2.2 k:=by kernel_rfl
def QH (x:Val (.pair tI (.pair tI (.ptr aq)))) (k:Int->BE ρ) :
    Ğ (HS ρ) 204 [tI,tI,(.ptr aq)] [tI] x k=FG x.1 x.2.1 x.2.2 k:=by kernel_rfl
def FJ:(un ρ).Ok (mP ρ):=⟨by kernel_rfl,fun p v b a=>by kernel_rfl⟩
def FI:(uk ρ).Ok (mP ρ):=⟨by kernel_rfl,fun p v b a=>by kernel_rfl⟩
def Ky (x:Val bz) (k:Int->BE ρ) :
    Ğ (mP ρ) 208 [È,aq,tI] [tI] x k=xZ x.1 x.2.1 x.2.2 k:=by kernel_rfl
def TV:(H8 ρ).Ok (B5 ρ):=⟨by kernel_rfl,fun p v b a=>by kernel_rfl⟩
def TU:(H7 ρ).Ok (B5 ρ):=⟨by kernel_rfl,fun p v b a=>by kernel_rfl⟩
def aa9 (x:u6) (k:an->BE ρ) :
    Ğ (B5 ρ) 148 [ab,ab] [ab] x k=X5 x.1 x.2 k:=by kernel_rfl
def MY:(Bb ρ).Ok (Bc ρ):=⟨by kernel_rfl,fun p v b a=>by kernel_rfl⟩
def TW (x:an) (k:Bool->BE ρ) :
    Ğ (Bc ρ) 172 [ab] [.bool] x k=Kv x k:=by kernel_rfl
def T1:(If ρ).Ok (Kz ρ):=⟨by kernel_rfl,fun p v b a=>by kernel_rfl⟩
def abb (x:nm) (k:(Val bo)->BE ρ) :
    Ğ (Kz ρ) 259 [È,tI,tI] [ω,.bool] x k=Yb x.1 x.2.1 x.2.2 k:=by kernel_rfl
def zb:(pl ρ).Ok (Ş ρ):=⟨by kernel_rfl,fun p v b a=>by kernel_rfl⟩
def y0:(pf ρ).Ok (Ş ρ):=⟨by kernel_rfl,fun p v b a=>by kernel_rfl⟩
def za:(pj ρ).Ok (Ş ρ):=⟨by kernel_rfl,fun p v b a=>by kernel_rfl⟩
def yZ:(pd ρ).Ok (Ş ρ):=⟨by kernel_rfl,fun p v b a=>by kernel_rfl⟩
def C2 (x:Val bz) (k:Int->BE ρ) :
    Ğ (Ş ρ) 209 [È,aq,tI] [tI] x k=pI x.1 x.2.1 x.2.2 k:=by kernel_rfl
end Go.Proofs.ZzM
end
