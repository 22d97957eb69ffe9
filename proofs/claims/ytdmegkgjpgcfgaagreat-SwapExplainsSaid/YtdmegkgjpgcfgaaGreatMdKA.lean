/- lemmas -/
import Derived.Test.YtdmegkgjpgcfgaaGreatMdMA
set_option linter.all false
noncomputable section
variable {ρ:Type}
set_option maxRecDepth 100000
namespace Go.Proofs.ZzM
open Go Go.Am
def Xc:(Ly ρ).Ok (PA ρ):=⟨by kernel_rfl,fun p v b a=>by kernel_rfl⟩
def acT (x:lA) (k:Int->BE ρ) :
    Ğ (PA ρ) 38 [ab,tI] [tI] x k=acU x.1 x.2 k:=by kernel_rfl
def Mv:(Ap ρ).Ok (tJ ρ):=⟨by kernel_rfl,fun p v b a=>by kernel_rfl⟩
def Mw:(Aq ρ).Ok (tJ ρ):=⟨by kernel_rfl,fun p v b a=>by kernel_rfl⟩
def Tc (x:ly) (k:Bool->BE ρ) :
    Ğ (tJ ρ) 22 [Â,ah] [.bool] x k=JZ x.1 x.2 k:=by kernel_rfl
def S8:(Hj ρ).Ok (JU ρ):=⟨by kernel_rfl,fun p v b a=>by kernel_rfl⟩
def aaI (x:Val aY) (k:Int->BE ρ) :
    Ğ (JU ρ) 54 [Â,ah,tI,tI] [tI] x k=Xa x.1 x.2.1 x.2.2.1 x.2.2.2 k:=by kernel_rfl
def Pl:(DC ρ).Ok (xp ρ):=⟨by kernel_rfl,fun p v b a=>by kernel_rfl⟩
def Pm:(DE ρ).Ok (xp ρ):=⟨by kernel_rfl,fun p v b a=>by kernel_rfl⟩
def W0 (x:Val (.pair Â (.pair ah az))) (k:an->BE ρ) :
    Ğ (xp ρ) 121 [Â,ah,ab,tI] [ab] x k=Pn x.1 x.2.1 x.2.2.1 x.2.2.2 k:=by kernel_rfl
def C0:(rK ρ).Ok (Η ρ):=⟨by kernel_rfl,fun p v b a=>by kernel_rfl⟩
def CZ:(rI ρ).Ok (Η ρ):=⟨by kernel_rfl,fun p v b a=>by kernel_rfl⟩
def CY:(rG ρ).Ok (Η ρ):=⟨by kernel_rfl,fun p v b a=>by kernel_rfl⟩
def CX:(rD ρ).Ok (Η ρ):=⟨by kernel_rfl,fun p v b a=>by kernel_rfl⟩
def Hk (x:ly) (k:b6->BE ρ) :
    Ğ (Η ρ) 57 [Â,ah] [È] x k=uN x.1 x.2 k:=by kernel_rfl
def PL (x:b6) (k:ge->BE ρ) :
    Ğ (Hw ρ) 65 [È] [Ð] x k=Fo x k:=by kernel_rfl
def PQ:(DW ρ).Ok (xC ρ):=⟨by kernel_rfl,fun p v b a=>by kernel_rfl⟩
def PR:(DX ρ).Ok (xC ρ):=⟨by kernel_rfl,fun p v b a=>by kernel_rfl⟩
def Xp (x:ge) (k:Bool->BE ρ) :
    Ğ (xC ρ) 86 [Ð] [.bool] x k=PS x k:=by kernel_rfl
def J0 (x:ly) (k:Bool->BE ρ) :
    Ğ (Ar ρ) 23 [Â,ah] [.bool] x k=xv x.1 x.2 k:=by kernel_rfl
def JV:(yM ρ).Ok (qd ρ):=⟨by kernel_rfl,fun p v b a=>by kernel_rfl⟩
def JW:(yN ρ).Ok (qd ρ):=⟨by kernel_rfl,fun p v b a=>by kernel_rfl⟩
def Pp (x:ly) (k:Int->BE ρ) :
    Ğ (qd ρ) 56 [Â,ah] [tI] x k=Fe x.1 x.2 k:=by kernel_rfl
def Ha {a:an->BE b5}:(((Ġ (Ĭ a ρ).P 120).elim [] (ß 0)).filter fun y=>Nat.beq y.1 2).length=1:=by kernel_rfl
def Hb {a:an->BE b5} (p:wk) (v:pi) (c:wk->pi->BE ρ) (b:(i:Nat)->wk->Val (tyL (Ε.zs i))->BE ρ) :
    goC (Ĭ a ρ) (ť (Ĭ a ρ) (10-0 / 2)) 120 [] 0 2 (rS (Ġ (Ĭ a ρ).P 120) 2) (ü Ε.head Ε.cs Ε.vs p v) (Ez Ε c b)=(pF a ρ).bF p v (c p) (fun i=>b i p):=by kernel_rfl
def JS {a:an->BE b5}:(pF a ρ).Ok (Ĭ a ρ):=⟨Ha,Hb⟩
def Hc {a:an->BE b5}:(((Ġ (Ĭ a ρ).P 120).elim [] (ß 0)).filter fun y=>Nat.beq y.1 0).length=1:=by kernel_rfl
def Hd {a:an->BE b5} (p:an) (v:pi) (c:an->pi->BE ρ) (b:(i:Nat)->an->Val (tyL (Ζ.zs i))->BE ρ) :
    goC (Ĭ a ρ) (ť (Ĭ a ρ) (10-0 / 2)) 120 [] 0 0 (rS (Ġ (Ĭ a ρ).P 120) 0) (ü Ζ.head Ζ.cs Ζ.vs p v) (Ez Ζ c b)=(pG a ρ).bF p v (c p) (fun i=>b i p):=by kernel_rfl
def JT {a:an->BE b5}:(pG a ρ).Ok (Ĭ a ρ):=⟨Hc,Hd⟩
def Po {a:an->BE b5} (x:an) (k:b5->BE ρ) :
    Ğ (Ĭ a ρ) 120 [ab] [ah] x k=nP a x k:=by kernel_rfl
def Ps:(DI ρ).Ok (lU ρ):=⟨by kernel_rfl,fun p v b a=>by kernel_rfl⟩
def Pu:(DK ρ).Ok (lU ρ):=⟨by kernel_rfl,fun p v b a=>by kernel_rfl⟩
def Pv:(DM ρ).Ok (lU ρ):=⟨by kernel_rfl,fun p v b a=>by kernel_rfl⟩
def Pq:(DG ρ).Ok (lU ρ):=⟨by kernel_rfl,fun p v b a=>by kernel_rfl⟩
def Pr:(DH ρ).Ok (lU ρ):=⟨by kernel_rfl,fun p v b a=>by kernel_rfl⟩
def Xb (x:a8) (k:a7->BE ρ) :
    Ğ (lU ρ) 52 [Â] [ak] x k=Pw x k:=by kernel_rfl
def Te:(Hn ρ).Ok (J2 ρ):=⟨by kernel_rfl,fun p v b a=>by kernel_rfl⟩
def aaK (x:a8) (k:a7->BE ρ) :
    Ğ (J2 ρ) 24 [Â] [ak] x k=Xe x k:=by kernel_rfl
def Ff:(tG ρ).Ok (rM ρ):=⟨by kernel_rfl,fun p v b a=>by kernel_rfl⟩
def JX (x:Val (.pair ak ak)) (k:Bool->BE ρ) :
    Ğ (rM ρ) 25 [ak,ak] [.bool] x k=xu x.1 x.2 k:=by kernel_rfl
def zP (x:ly) (k:Bool->BE ρ) :
    Ğ (qY ρ) 3 [Â,ah] [.bool] x k=nD x.1 x.2 k:=by kernel_rfl
end Go.Proofs.ZzM
end
