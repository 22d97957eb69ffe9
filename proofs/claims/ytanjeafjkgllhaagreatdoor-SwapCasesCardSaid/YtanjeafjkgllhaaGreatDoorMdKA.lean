/- lemmas -/
import Derived.Test.YtanjeafjkgllhaaGreatDoorMdMB
set_option linter.all false
noncomputable section
variable {ρ:Type}
set_option maxRecDepth 100000
namespace Go.Proofs.ZzM
open Go Go.Am
variable [Globs] [LC]
def Ry:(FO ρ).Ok (Ak ρ):=⟨by kernel_rfl,fun p v b a=>by kernel_rfl⟩
def Rz:(FP ρ).Ok (Ak ρ):=⟨by kernel_rfl,fun p v b a=>by kernel_rfl⟩
def Rx:(FN ρ).Ok (Ak ρ):=⟨by kernel_rfl,fun p v b a=>by kernel_rfl⟩
def Lc:(zc ρ).Ok (kM ρ):=⟨by kernel_rfl,fun p v b a=>by kernel_rfl⟩
def La:(za ρ).Ok (kM ρ):=⟨by kernel_rfl,fun p v b a=>by kernel_rfl⟩
def Lb:(zb ρ).Ok (kM ρ):=⟨by kernel_rfl,fun p v b a=>by kernel_rfl⟩
def K9:(y0 ρ).Ok (kM ρ):=⟨by kernel_rfl,fun p v b a=>by kernel_rfl⟩
def RK (x:bA) (k:Int->rF ρ) :
    LN (kM ρ) 45 [È] [tI] x k=Ig x k:=by kernel_rfl
def Rp:(FF ρ).Ok (Aj ρ):=⟨by kernel_rfl,fun p v b a=>by kernel_rfl⟩
def Ro:(FE ρ).Ok (Aj ρ):=⟨by kernel_rfl,fun p v b a=>by kernel_rfl⟩
def Rn:(FD ρ).Ok (Aj ρ):=⟨by kernel_rfl,fun p v b a=>by kernel_rfl⟩
def KK:(yz ρ).Ok (yC ρ):=⟨by kernel_rfl,fun p v b a=>by kernel_rfl⟩
def KL:(yB ρ).Ok (yC ρ):=⟨by kernel_rfl,fun p v b a=>by kernel_rfl⟩
def Iy:(wN ρ).Ok (lV ρ):=⟨by kernel_rfl,fun p v b a=>by kernel_rfl⟩
def Iw:(wL ρ).Ok (lV ρ):=⟨by kernel_rfl,fun p v b a=>by kernel_rfl⟩
def Iv:(wJ ρ).Ok (lV ρ):=⟨by kernel_rfl,fun p v b a=>by kernel_rfl⟩
def Pp (x:Val (.pair È ab)) (k:rd->rF ρ) :
    LN (lV ρ) 112 [È,ab] [È,tI] x k=DW x.1 x.2 k:=by kernel_rfl
def Rf:(Fm ρ).Ok (TI ρ):=⟨by kernel_rfl,fun p v b a=>by kernel_rfl⟩
def DK {a:Int->rF ByteArray}:(((ô (Ÿ a ρ).P 57).elim [] (Ø 0)).filter fun y=>Nat.beq y.1 0).length=1:=by kernel_rfl
def DL {a:Int->rF ByteArray} (p:Unit) (v:ly) (c:Unit->ly->rF ρ) (b:(i:Nat)->Unit->Val (tyL (Ő.zs i))->rF ρ) :
    goC (Ÿ a ρ) (Ğ (Ÿ a ρ) (10-0 / 2)) 57 [] 0 0 (ov (ô (Ÿ a ρ).P 57) 0) (à Ő.head Ő.cs Ő.vs p v) (Em Ő c b)=(mu a ρ).bF p v (c p) (fun i=>b i p):=by kernel_rfl
def FU {a:Int->rF ByteArray}:(mu a ρ).Ok (Ÿ a ρ):=⟨DK,DL⟩
def K8 {a:Int->rF ByteArray} (x:Int) (k:ByteArray->rF ρ) :
    LN (Ÿ a ρ) 57 [tI] [.str] x k=δ a x k:=by kernel_rfl
def N5:(B5 ρ).Ok (N6 ρ):=⟨by kernel_rfl,fun p v b a=>by kernel_rfl⟩
def KW:(yN ρ).Ok (kL ρ):=⟨by kernel_rfl,fun p v b a=>by kernel_rfl⟩
def KV:(yM ρ).Ok (kL ρ):=⟨by kernel_rfl,fun p v b a=>by kernel_rfl⟩
def KU:(yL ρ).Ok (kL ρ):=⟨by kernel_rfl,fun p v b a=>by kernel_rfl⟩
def KT:(yK ρ).Ok (kL ρ):=⟨by kernel_rfl,fun p v b a=>by kernel_rfl⟩
def KS:(yJ ρ).Ok (kL ρ):=⟨by kernel_rfl,fun p v b a=>by kernel_rfl⟩
def KH:(yu ρ).Ok (yw ρ):=⟨by kernel_rfl,fun p v b a=>by kernel_rfl⟩
def KI:(yv ρ).Ok (yw ρ):=⟨by kernel_rfl,fun p v b a=>by kernel_rfl⟩
def KR:(yH ρ).Ok (JL ρ):=⟨by kernel_rfl,fun p v b a=>by kernel_rfl⟩
def FB:(t8 ρ).Ok (sM ρ):=⟨by kernel_rfl,fun p v b a=>by kernel_rfl⟩
def FC:(ud ρ).Ok (sM ρ):=⟨by kernel_rfl,fun p v b a=>by kernel_rfl⟩
def Ie:(wC ρ).Ok (FJ ρ):=⟨by kernel_rfl,fun p v b a=>by kernel_rfl⟩
def FI:(uh ρ).Ok (sN ρ):=⟨by kernel_rfl,fun p v b a=>by kernel_rfl⟩
def FH:(ug ρ).Ok (sN ρ):=⟨by kernel_rfl,fun p v b a=>by kernel_rfl⟩
def KM:(yD ρ).Ok (JJ ρ):=⟨by kernel_rfl,fun p v b a=>by kernel_rfl⟩
def KX:(yO ρ).Ok (JM ρ):=⟨by kernel_rfl,fun p v b a=>by kernel_rfl⟩
def KJ:(yx ρ).Ok (JH ρ):=⟨by kernel_rfl,fun p v b a=>by kernel_rfl⟩
def ES (x:Val (.pair Ä (.pair ð .str))) (k:Bool->rF ρ) :
    LN (wo ρ) 4 [Ä,ð,.str] [.bool] x k=sH x.1 x.2.1 x.2.2 k:=by kernel_rfl
end Go.Proofs.ZzM
end
