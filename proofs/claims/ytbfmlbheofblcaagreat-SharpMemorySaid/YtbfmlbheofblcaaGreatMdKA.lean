/- lemmas -/
import Derived.Test.YtbfmlbheofblcaaGreatMdMA
set_option linter.all false
noncomputable section
variable {ρ:Type}
set_option maxRecDepth 100000
namespace Go.Proofs.ZzM
open Go Go.Am
variable [ë] [LC]
def Mb:(BV ρ).Ok (Ŧ ρ):=⟨by kernel_rfl,fun p v b a=>by kernel_rfl⟩
def L8:(BO ρ).Ok (Ŧ ρ):=⟨by kernel_rfl,fun p v b a=>by kernel_rfl⟩
def L7:(BM ρ).Ok (Ŧ ρ):=⟨by kernel_rfl,fun p v b a=>by kernel_rfl⟩
def L9:(BQ ρ).Ok (Ŧ ρ):=⟨by kernel_rfl,fun p v b a=>by kernel_rfl⟩
def Ma:(BT ρ).Ok (Ŧ ρ):=⟨by kernel_rfl,fun p v b a=>by kernel_rfl⟩
def L6:(BJ ρ).Ok (Ŧ ρ):=⟨by kernel_rfl,fun p v b a=>by kernel_rfl⟩
def L5:(BH ρ).Ok (Ŧ ρ):=⟨by kernel_rfl,fun p v b a=>by kernel_rfl⟩
def L4:(BF ρ).Ok (Ŧ ρ):=⟨by kernel_rfl,fun p v b a=>by kernel_rfl⟩
def L3:(BC ρ).Ok (Ŧ ρ):=⟨by kernel_rfl,fun p v b a=>by kernel_rfl⟩
def L2:(BA ρ).Ok (Ŧ ρ):=⟨by kernel_rfl,fun p v b a=>by kernel_rfl⟩
def Tw (x:Val (.pair Å Å)) (k:Bool->AN ρ) :
    MY (Ŧ ρ) 72 [Å,Å] [.bool] x k=Yt x.1 x.2 k:=by kernel_rfl
def JI:(yX ρ).Ok (lz ρ):=⟨by kernel_rfl,fun p v b a=>by kernel_rfl⟩
def JE:(yP ρ).Ok (lz ρ):=⟨by kernel_rfl,fun p v b a=>by kernel_rfl⟩
def JF:(yR ρ).Ok (lz ρ):=⟨by kernel_rfl,fun p v b a=>by kernel_rfl⟩
def JG:(yT ρ).Ok (lz ρ):=⟨by kernel_rfl,fun p v b a=>by kernel_rfl⟩
def JH:(yV ρ).Ok (lz ρ):=⟨by kernel_rfl,fun p v b a=>by kernel_rfl⟩
def Ed (x:Unit) (k:Bool->AN ρ) :
    MY (vn ρ) 6 [] [.bool] x k=Bn k:=by kernel_rfl
def zX {a:Int->AN ByteArray}:(((kP (Ų a ρ).P 77).elim [] (Þ 0)).filter fun y=>Nat.beq y.1 0).length=1:=by kernel_rfl
def zY {a:Int->AN ByteArray} (p:Unit) (v:uf) (c:Unit->uf->AN ρ) (b:(i:Nat)->Unit->Val (tyL (ŕ.zs i))->AN ρ) :
    goC (Ų a ρ) (jm (Ų a ρ) (10-0 / 2)) 77 [] 0 0 (CS (kP (Ų a ρ).P 77) 0) (ą ŕ.head ŕ.cs ŕ.vs p v) (O3 ŕ c b)=(lq a ρ).bF p v (c p) (fun i=>b i p):=by kernel_rfl
def Bw {a:Int->AN ByteArray}:(lq a ρ).Ok (Ų a ρ):=⟨zX,zY⟩
def Gr {a:Int->AN ByteArray} (x:Int) (k:ByteArray->AN ρ) :
    MY (Ų a ρ) 77 [tI] [.str] x k=Χ a x k:=by kernel_rfl
def Iw:(yo ρ).Ok (Ix ρ):=⟨by kernel_rfl,fun p v b a=>by kernel_rfl⟩
def Gg:(vx ρ).Ok (jX ρ):=⟨by kernel_rfl,fun p v b a=>by kernel_rfl⟩
def Gf:(vw ρ).Ok (jX ρ):=⟨by kernel_rfl,fun p v b a=>by kernel_rfl⟩
def Ge:(vv ρ).Ok (jX ρ):=⟨by kernel_rfl,fun p v b a=>by kernel_rfl⟩
def Gd:(vu ρ).Ok (jX ρ):=⟨by kernel_rfl,fun p v b a=>by kernel_rfl⟩
def Gc:(vt ρ).Ok (jX ρ):=⟨by kernel_rfl,fun p v b a=>by kernel_rfl⟩
def Ek:(t8 ρ).Ok (sO ρ):=⟨by kernel_rfl,fun p v b a=>by kernel_rfl⟩
def Jt (x:Val bf) (k:(Val ba)->AN ρ) :
    MY (sO ρ) 9 [Å,Â,.bool] [(.fsl tI),tI] x k=Ag x.1 x.2.1 x.2.2 k:=by kernel_rfl
def LX:(Bx ρ).Ok (NU ρ):=⟨by kernel_rfl,fun p v b a=>by kernel_rfl⟩
variable [ë] [LC]
def P7 (x:Val (.pair ú Â)) (k:Val AG->AN ρ) :
    MY (Ai ρ) 231 [ú,Â] [ú,tI] x k=JR x.1 x.2 k:=by kernel_rfl
def MC:(Cy ρ).Ok (Et ρ):=⟨by kernel_rfl,fun p v b a=>by kernel_rfl⟩
def MB:(Cw ρ).Ok (Et ρ):=⟨by kernel_rfl,fun p v b a=>by kernel_rfl⟩
def Mz:(Cs ρ).Ok (xe ρ):=⟨by kernel_rfl,fun p v b a=>by kernel_rfl⟩
def MA:(Cu ρ).Ok (xe ρ):=⟨by kernel_rfl,fun p v b a=>by kernel_rfl⟩
def My:(Cq ρ).Ok (xe ρ):=⟨by kernel_rfl,fun p v b a=>by kernel_rfl⟩
def Eg:(t7 ρ).Ok (Bz ρ):=⟨by kernel_rfl,fun p v b a=>by kernel_rfl⟩
def MJ:(CP ρ).Ok (Og ρ):=⟨by kernel_rfl,fun p v b a=>by kernel_rfl⟩
def Em:(uh ρ).Ok (kz ρ):=⟨by kernel_rfl,fun p v b a=>by kernel_rfl⟩
def El:(ue ρ).Ok (kz ρ):=⟨by kernel_rfl,fun p v b a=>by kernel_rfl⟩
def Jv (x:Val bf) (k:(Val (.pair aK tI))->AN ρ) :
    MY (kz ρ) 8 [Å,Â,.bool] [aK,tI] x k=Ah x.1 x.2.1 x.2.2 k:=by kernel_rfl
def vN (x:pl) (k:an->AN ρ) :
    MY (jK ρ) 54 [aF,Â] [Â] x k=rh x.1 x.2 k:=by kernel_rfl
def Cb:(ru ρ).Ok (yK ρ):=⟨by kernel_rfl,fun p v b a=>by kernel_rfl⟩
def En:(uk ρ).Ok (sP ρ):=⟨by kernel_rfl,fun p v b a=>by kernel_rfl⟩
def Jy (x:x9) (k:f4->AN ρ) :
    MY (sP ρ) 24 [Å,Â,Â] [Â,tI] x k=Jz x.1 x.2.1 x.2.2 k:=by kernel_rfl
def Jg:(yC ρ).Ok (Jh ρ):=⟨by kernel_rfl,fun p v b a=>by kernel_rfl⟩
def Ml:(B9 ρ).Ok (xb ρ):=⟨by kernel_rfl,fun p v b a=>by kernel_rfl⟩
def Mk:(B7 ρ).Ok (xb ρ):=⟨by kernel_rfl,fun p v b a=>by kernel_rfl⟩
def TK (x:Val (.pair Å aE)) (k:f4->AN ρ) :
    MY (xb ρ) 25 [Å,tI,ai] [Â,tI] x k=Yu x.1 x.2.1 x.2.2 k:=by kernel_rfl
def Js:(yI ρ).Ok (Af ρ):=⟨by kernel_rfl,fun p v b a=>by kernel_rfl⟩
def P1 (x:x9) (k:an->AN ρ) :
    MY (Af ρ) 26 [Å,Â,Â] [tI,tI] x k=TL x.1 x.2.1 x.2.2 k:=by kernel_rfl
def MI:(CN ρ).Ok (Od ρ):=⟨by kernel_rfl,fun p v b a=>by kernel_rfl⟩
def GA:(vO ρ).Ok (pG ρ):=⟨by kernel_rfl,fun p v b a=>by kernel_rfl⟩
def Md (x:Val (.pair aF aZ)) (k:y5->AN ρ) :
    MY (pG ρ) 61 [aF,Â,É] [iA,tI] x k=NZ x.1 x.2.1 x.2.2 k:=by kernel_rfl
def xU:(oH ρ).Ok (mN ρ):=⟨by kernel_rfl,fun p v b a=>by kernel_rfl⟩
def xV:(oJ ρ).Ok (mN ρ):=⟨by kernel_rfl,fun p v b a=>by kernel_rfl⟩
def vM:(mX ρ).Ok (qZ ρ):=⟨by kernel_rfl,fun p v b a=>by kernel_rfl⟩
def Jm:(yD ρ).Ok (Ae ρ):=⟨by kernel_rfl,fun p v b a=>by kernel_rfl⟩
def PZ (x:Val (.pair Å aZ)) (k:an->AN ρ) :
    MY (Ae ρ) 27 [Å,Â,É] [tI,tI] x k=TI x.1 x.2.1 x.2.2 k:=by kernel_rfl
def B5:(((kP (þ ρ).P 33).elim [] (Þ 0)).filter fun y=>Nat.beq y.1 0).length=1:=by kernel_rfl
def B6 (p:Val aB) (v:ge) (b:Val aB->ge->AN ρ) (a:(i:Nat)->Val aB->Val (tyL (Ũ.zs i))->AN ρ) :
    goC (þ ρ) (jm (þ ρ) (10-2 / 2)) 33 [1,3] 5 0 (CS (kP (þ ρ).P 33) 0) (ą Ũ.head Ũ.cs Ũ.vs p v) (O3 Ũ b a)=(mP ρ).bF p v (b p) (fun i=>a i p):=by kernel_rfl
def Ej:(mP ρ).Ok (þ ρ):=⟨B5,B6⟩
def B3:(((kP (þ ρ).P 115).elim [] (Þ 0)).filter fun y=>Nat.beq y.1 0).length=1:=by kernel_rfl
def B4 (p:Val ar) (v:Int) (b:Val ar->Int->AN ρ) (a:(i:Nat)->Val ar->Val (tyL (ŧ.zs i))->AN ρ) :
    goC (þ ρ) (jm (þ ρ) (10-4 / 2)) 115 [18,4,1,2] 12 0 (CS (kP (þ ρ).P 115) 0) (ą ŧ.head ŧ.cs ŧ.vs p v) (O3 ŧ b a)=(mO ρ).bF p v (b p) (fun i=>a i p):=by kernel_rfl
def Ei:(mO ρ).Ok (þ ρ):=⟨B3,B4⟩
def Jn (x:Val (.pair Å (.pair Â aZ))) (k:(Val bh)->AN ρ) :
    MY (sN ρ) 28 [Å,Â,Â,É] [.bool,tI] x k=Jp x.1 x.2.1 x.2.2.1 x.2.2.2 k:=by kernel_rfl
def Ep:(uq ρ).Ok (Cj ρ):=⟨by kernel_rfl,fun p v b a=>by kernel_rfl⟩
def Mn:(Cd ρ).Ok (N0 ρ):=⟨by kernel_rfl,fun p v b a=>by kernel_rfl⟩
def jJ:(Š ρ).Ok (Θ ρ):=⟨by kernel_rfl,fun p v b a=>by kernel_rfl⟩
def ln:(Τ ρ).Ok (iG ρ):=⟨by kernel_rfl,fun p v b a=>by kernel_rfl⟩
def km:(ż ρ).Ok (gZ ρ):=⟨by kernel_rfl,fun p v b a=>by kernel_rfl⟩
end Go.Proofs.ZzM
end
