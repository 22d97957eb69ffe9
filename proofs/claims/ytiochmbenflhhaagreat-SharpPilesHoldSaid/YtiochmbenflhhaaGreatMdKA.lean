/- lemmas -/
import Derived.Test.YtiochmbenflhhaaGreatMdMA
set_option linter.all false
set_option linter.unusedSectionVars false
set_option linter.unusedVariables false
set_option linter.unusedSimpArgs false
noncomputable section
variable {ρ:Type}
set_option maxRecDepth 100000
namespace Go.Proofs.ZzM
open Go Go.Am
def IY (x:Val (.pair tI (.pair tI (.pair ak (.pair (.ptr tI) (.pair aV (.ptr tI))))))) (k:Val ğ→Option ρ) :
    ĵ (zG ρ) 170 (ĥ [tI,tI,ak,(.ptr tI),aV,(.ptr tI)] x) (fun h v=>Â (Ĭ [ğ] h v) k)=wJ x.1 x.2.1 x.2.2.1 x.2.2.2.1 x.2.2.2.2.1 x.2.2.2.2.2 k:=by kernel_rfl
def IX:(wH ρ).Ok (pV ρ):=⟨by kernel_rfl,fun p v kn kx=>by kernel_rfl⟩
def NQ (x:Val (.pair ak aX)) (k:(Val (.pair ŭ tI))→Option ρ) :
    ĵ (pV ρ) 98 (ĥ [ak,Ã,Î] x) (fun h v=>Â (Ĭ [ŭ,tI] h v) k)=F0 x.1 x.2.1 x.2.2 k:=by kernel_rfl
def F1 (x:Val ğ) (k:(Val ab)→Option ρ) :
    ĵ (wL ρ) 101 (ĥ [ğ] x) (fun h v=>Â (Ĭ [ab] h v) k)=tM x k:=by kernel_rfl
def NR (x:Val (.pair ğ tI)) (k:Int→Option ρ) :
    ĵ (HF ρ) 172 (ĥ [ğ,tI] x) (fun h v=>Â (Ĭ [tI] h v) k)=F3 x.1 x.2 k:=by kernel_rfl
def CO (x:Val (.pair ŭ tI)) (k:Val Ã→Option ρ) :
    ĵ (uZ ρ) 105 (ĥ [ŭ,tI] x) (fun h v=>Â (Ĭ [Ã] h v) k)=qN x.1 x.2 k:=by kernel_rfl
def yP:(ou ρ).Ok (jz ρ):=⟨by kernel_rfl,fun p v kn kx=>by kernel_rfl⟩
def yQ:(ow ρ).Ok (jz ρ):=⟨by kernel_rfl,fun p v kn kx=>by kernel_rfl⟩
def CP (x:Val (.pair ŭ ab)) (k:(Val ab)→Option ρ) :
    ĵ (jz ρ) 106 (ĥ [ŭ,ab] x) (fun h v=>Â (Ĭ [ab] h v) k)=qO x.1 x.2 k:=by kernel_rfl
def wB:(ng ρ).Ok (lI ρ):=⟨by kernel_rfl,fun p v kn kx=>by kernel_rfl⟩
def A3 (x:Val ŭ) (k:Int→Option ρ) :
    ĵ (lI ρ) 99 (ĥ [ŭ] x) (fun h v=>Â (Ĭ [tI] h v) k)=ot x k:=by kernel_rfl
def K6:(zJ ρ).Ok (Bx ρ):=⟨by kernel_rfl,fun p v kn kx=>by kernel_rfl⟩
def Q9 (x:Val (.pair Ä aX)) (k:Val Ã→Option ρ) :
    ĵ (Bx ρ) 37 (ĥ [Ä,Ã,Î] x) (fun h v=>Â (Ĭ [tI,tI] h v) k)=K7 x.1 x.2.1 x.2.2 k:=by kernel_rfl
def F8 (x:Val tI) (k:Int→Option ρ) :
    ĵ (wO ρ) 102 (ĥ [tI] x) (fun h v=>Â (Ĭ [tI] h v) k)=tQ x k:=by kernel_rfl
def F2 (x:Val (.pair ğ tI)) (k:(Val ab)→Option ρ) :
    ĵ (wM ρ) 103 (ĥ [ğ,tI] x) (fun h v=>Â (Ĭ [ab] h v) k)=tN x.1 x.2 k:=by kernel_rfl
def Dz:(((qF (č ρ).P 41).elim [] (í 0)).filter fun y=>Nat.beq y.1 0).length=1:=by kernel_rfl
def DA (p:Val ax) (v:Val aE) (kn:Val ax→Val aE→Option ρ) (kx:(i:Nat)→Val ax→Val (tyL (Ζ.zs i))→Option ρ) :
    goC (č ρ) (jx (č ρ) (10-2 / 2)) 41 [1,3] 5 0 (Il (qF (č ρ).P 41) 0) (iP Ζ.head Ζ.cs Ζ.vs p v) (Tl Ζ kn kx)=(mX ρ).bF p v (kn p) (fun i=>kx i p):=by kernel_rfl
def F7:(mX ρ).Ok (č ρ):=⟨Dz,DA⟩
def Dx:(((qF (č ρ).P 115).elim [] (í 0)).filter fun y=>Nat.beq y.1 0).length=1:=by kernel_rfl
def Dy (p:Val aq) (v:Val tI) (kn:Val aq→Val tI→Option ρ) (kx:(i:Nat)→Val aq→Val (tyL (Ε.zs i))→Option ρ) :
    goC (č ρ) (jx (č ρ) (10-4 / 2)) 115 [18,4,1,2] 12 0 (Il (qF (č ρ).P 115) 0) (iP Ε.head Ε.cs Ε.vs p v) (Tl Ε kn kx)=(mW ρ).bF p v (kn p) (fun i=>kx i p):=by kernel_rfl
def F6:(mW ρ).Ok (č ρ):=⟨Dx,Dy⟩
def K8 (x:Val (.pair Ä (.pair Ã aX))) (k:(Val aI)→Option ρ) :
    ĵ (tP ρ) 38 (ĥ [Ä,Ã,Ã,Î] x) (fun h v=>Â (Ĭ [.bool,tI] h v) k)=By x.1 x.2.1 x.2.2.1 x.2.2.2 k:=by kernel_rfl
def Gi:(vB ρ).Ok (tW ρ):=⟨by kernel_rfl,fun p v kn kx=>by kernel_rfl⟩
def Lh (x:Val aW) (k:Int→Option ρ) :
    ĵ (tW ρ) 155 (ĥ [Ð,ab] x) (fun h v=>Â (Ĭ [tI] h v) k)=BC x.1 x.2 k:=by kernel_rfl
def N1:(DJ ρ).Ok (Gg ρ):=⟨by kernel_rfl,fun p v kn kx=>by kernel_rfl⟩
def Uz (x:Val (.pair Ð az)) (k:(Val (.pair tI ba))→Option ρ) :
    ĵ (Gg ρ) 156 (ĥ [Ð,tI,ab] x) (fun h v=>Â (Ĭ [tI,tI,.bool] h v) k)=Rh x.1 x.2.1 x.2.2 k:=by kernel_rfl
def D0 (x:Val aW) (k:Int→Option ρ) :
    ĵ (vD ρ) 81 (ĥ [Ð,ab] x) (fun h v=>Â (Ĭ [tI] h v) k)=qZ x.1 x.2 k:=by kernel_rfl
def DI (x:Val ι) (k:Int→Option ρ) :
    ĵ (vt ρ) 25 (ĥ [ι] x) (fun h v=>Â (Ĭ [tI] h v) k)=qU x k:=by kernel_rfl
def D1 (x:Val (.pair Ð (.pair tI az))) (k:Val Ã→Option ρ) :
    ĵ (vE ρ) 107 (ĥ [Ð,tI,tI,ab] x) (fun h v=>Â (Ĭ [tI,tI] h v) k)=rc x.1 x.2.1 x.2.2.1 x.2.2.2 k:=by kernel_rfl
def Gb (x:Val ι) (k:Int→Option ρ) :
    ĵ (wZ ρ) 40 (ĥ [ι] x) (fun h v=>Â (Ĭ [tI] h v) k)=tS x k:=by kernel_rfl
def jI:(Ż ρ).Ok (ņ ρ):=⟨by kernel_rfl,fun p v kn kx=>by kernel_rfl⟩
def ku (x:Val (.pair ae Ï)) (k:Int→Option ρ) :
    ĵ (ņ ρ) 233 (ĥ [ae,Ï] x) (fun h v=>Â (Ĭ [tI] h v) k)=ş x.1 x.2 k:=by kernel_rfl
def jr (x:Val (.pair ae Ï)) (k:Bool→Option ρ) :
    ĵ (ž ρ) 190 (ĥ [ae,Ï] x) (fun h v=>Â (Ĭ [.bool] h v) k)=ļ x.1 x.2 k:=by kernel_rfl
def lE:(gY ρ).Ok (Ű ρ):=⟨by kernel_rfl,fun p v kn kx=>by kernel_rfl⟩
def mU (x:Val aY) (k:Int→Option ρ) :
    ĵ (Ű ρ) 235 (ĥ [aa,Ã] x) (fun h v=>Â (Ĭ [tI] h v) k)=Ω x.1 x.2 k:=by kernel_rfl
def kY (x:Val aY) (k:Bool→Option ρ) :
    ĵ (gZ ρ) 193 (ĥ [aa,Ã] x) (fun h v=>Â (Ĭ [.bool] h v) k)=Ť x.1 x.2 k:=by kernel_rfl
def ks:(π ρ).Ok (Ş ρ):=⟨by kernel_rfl,fun p v kn kx=>by kernel_rfl⟩
def lG (x:Val (.pair af Ł)) (k:Int→Option ρ) :
    ĵ (Ş ρ) 237 (ĥ [af,Ł] x) (fun h v=>Â (Ĭ [tI] h v) k)=Ų x.1 x.2 k:=by kernel_rfl
def kh (x:Val (.pair af Ł)) (k:Bool→Option ρ) :
    ĵ (χ ρ) 196 (ĥ [af,Ł] x) (fun h v=>Â (Ĭ [.bool] h v) k)=ő x.1 x.2 k:=by kernel_rfl
def NN:(Dq ρ).Ok (Δ ρ):=⟨by kernel_rfl,fun p v kn kx=>by kernel_rfl⟩
def NK:(Dj ρ).Ok (Δ ρ):=⟨by kernel_rfl,fun p v kn kx=>by kernel_rfl⟩
def NJ:(Dh ρ).Ok (Δ ρ):=⟨by kernel_rfl,fun p v kn kx=>by kernel_rfl⟩
def NL:(Dl ρ).Ok (Δ ρ):=⟨by kernel_rfl,fun p v kn kx=>by kernel_rfl⟩
def NM:(Dn ρ).Ok (Δ ρ):=⟨by kernel_rfl,fun p v kn kx=>by kernel_rfl⟩
def NI:(Df ρ).Ok (Δ ρ):=⟨by kernel_rfl,fun p v kn kx=>by kernel_rfl⟩
def NH:(Dc ρ).Ok (Δ ρ):=⟨by kernel_rfl,fun p v kn kx=>by kernel_rfl⟩
def NG:(Da ρ).Ok (Δ ρ):=⟨by kernel_rfl,fun p v kn kx=>by kernel_rfl⟩
def NF:(C8 ρ).Ok (Δ ρ):=⟨by kernel_rfl,fun p v kn kx=>by kernel_rfl⟩
def NE:(C6 ρ).Ok (Δ ρ):=⟨by kernel_rfl,fun p v kn kx=>by kernel_rfl⟩
def Ul (x:Val (.pair Ä Ä)) (k:Bool→Option ρ) :
    ĵ (Δ ρ) 55 (ĥ [Ä,Ä] x) (fun h v=>Â (Ĭ [.bool] h v) k)=QY x.1 x.2 k:=by kernel_rfl
def NV (x:Val (.pair Ä ι)) (k:(Val aI)→Option ρ) :
    ĵ (HK ρ) 39 (ĥ [Ä,ι] x) (fun h v=>Â (Ĭ [.bool,tI] h v) k)=F5 x.1 x.2 k:=by kernel_rfl
def KP (x:Unit) (k:Bool→Option ρ) :
    ĵ (CJ ρ) 8 (ĥ [] x) (fun h v=>Â (Ĭ [.bool] h v) k)=A1 k:=by kernel_rfl
def Bs:(pR ρ).Ok (Ú ρ):=⟨by kernel_rfl,fun p v kn kx=>by kernel_rfl⟩
def Bh:(pQ ρ).Ok (Ú ρ):=⟨by kernel_rfl,fun p v kn kx=>by kernel_rfl⟩
def Bc:(pO ρ).Ok (Ú ρ):=⟨by kernel_rfl,fun p v kn kx=>by kernel_rfl⟩
def Bb:(pN ρ).Ok (Ú ρ):=⟨by kernel_rfl,fun p v kn kx=>by kernel_rfl⟩
def A9:(pL ρ).Ok (Ú ρ):=⟨by kernel_rfl,fun p v kn kx=>by kernel_rfl⟩
def A8:(pK ρ).Ok (Ú ρ):=⟨by kernel_rfl,fun p v kn kx=>by kernel_rfl⟩
def A6:(pI ρ).Ok (Ú ρ):=⟨by kernel_rfl,fun p v kn kx=>by kernel_rfl⟩
def A7:(pJ ρ).Ok (Ú ρ):=⟨by kernel_rfl,fun p v kn kx=>by kernel_rfl⟩
def Ba:(pM ρ).Ok (Ú ρ):=⟨by kernel_rfl,fun p v kn kx=>by kernel_rfl⟩
def zb:(oJ ρ).Ok (Ú ρ):=⟨by kernel_rfl,fun p v kn kx=>by kernel_rfl⟩
def y0:(oH ρ).Ok (Ú ρ):=⟨by kernel_rfl,fun p v kn kx=>by kernel_rfl⟩
def za:(oI ρ).Ok (Ú ρ):=⟨by kernel_rfl,fun p v kn kx=>by kernel_rfl⟩
def Be:(pP ρ).Ok (Ú ρ):=⟨by kernel_rfl,fun p v kn kx=>by kernel_rfl⟩
def yZ:(oG ρ).Ok (Ú ρ):=⟨by kernel_rfl,fun p v kn kx=>by kernel_rfl⟩
def yX:(oE ρ).Ok (Ú ρ):=⟨by kernel_rfl,fun p v kn kx=>by kernel_rfl⟩
def yW:(oD ρ).Ok (Ú ρ):=⟨by kernel_rfl,fun p v kn kx=>by kernel_rfl⟩
def yU:(oB ρ).Ok (Ú ρ):=⟨by kernel_rfl,fun p v kn kx=>by kernel_rfl⟩
def yV:(oC ρ).Ok (Ú ρ):=⟨by kernel_rfl,fun p v kn kx=>by kernel_rfl⟩
def yY:(oF ρ).Ok (Ú ρ):=⟨by kernel_rfl,fun p v kn kx=>by kernel_rfl⟩
def yT:(oA ρ).Ok (Ú ρ):=⟨by kernel_rfl,fun p v kn kx=>by kernel_rfl⟩
def yR:(oy ρ).Ok (Ú ρ):=⟨by kernel_rfl,fun p v kn kx=>by kernel_rfl⟩
def yS:(oz ρ).Ok (Ú ρ):=⟨by kernel_rfl,fun p v kn kx=>by kernel_rfl⟩
def FX (x:Val (.pair ak bc)) (k:Int→Option ρ) :
    ĵ (Ú ρ) 51 (ĥ [ak,ab,ab] x) (fun h v=>Â (Ĭ [tI] h v) k)=C2 x.1 x.2.1 x.2.2 k:=by kernel_rfl
def I7:(wX ρ).Ok (j5 ρ):=⟨by kernel_rfl,fun p v kn kx=>by kernel_rfl⟩
def I6:(wV ρ).Ok (j5 ρ):=⟨by kernel_rfl,fun p v kn kx=>by kernel_rfl⟩
def I5:(wT ρ).Ok (j5 ρ):=⟨by kernel_rfl,fun p v kn kx=>by kernel_rfl⟩
def I4:(wR ρ).Ok (j5 ρ):=⟨by kernel_rfl,fun p v kn kx=>by kernel_rfl⟩
def NY (x:Val (.pair Ä (.pair tI bc))) (k:Val jn→Option ρ) :
    ĵ (j5 ρ) 11 (ĥ [Ä,tI,ab,ab] x) (fun h v=>Â (Ĭ [Ã,tI] h v) k)=F9 x.1 x.2.1 x.2.2.1 x.2.2.2 k:=by kernel_rfl
def KO:(zy ρ).Ok (A0 ρ):=⟨by kernel_rfl,fun p v kn kx=>by kernel_rfl⟩
def QR (x:Val (.pair Ä aa)) (k:(Val (.pair Ä .bool))→Option ρ) :
    ĵ (A0 ρ) 13 (ĥ [Ä,aa] x) (fun h v=>Â (Ĭ [Ä,.bool] h v) k)=CH x.1 x.2 k:=by kernel_rfl
def Nx (x:Val aO) (k:Int→Option ρ) :
    ĵ (HA ρ) 73 (ĥ [Ä,Ã] x) (fun h v=>Â (Ĭ [tI] h v) k)=FR x.1 x.2 k:=by kernel_rfl
def IT:(wq ρ).Ok (wu ρ):=⟨by kernel_rfl,fun p v kn kx=>by kernel_rfl⟩
def Nv (x:Val (.pair Ä (.pair aa bg))) (k:(Val ba)→Option ρ) :
    ĵ (wu ρ) 21 (ĥ [Ä,aa,ab,.bool] x) (fun h v=>Â (Ĭ [tI,.bool] h v) k)=yg x.1 x.2.1 x.2.2.1 x.2.2.2 k:=by kernel_rfl
def uh:(lh ρ).Ok (jN ρ):=⟨by kernel_rfl,fun p v kn kx=>by kernel_rfl⟩
def xt (x:Val (.pair aF ab)) (k:Int→Option ρ) :
    ĵ (jN ρ) 75 (ĥ [aF,ab] x) (fun h v=>Â (Ĭ [tI] h v) k)=lQ x.1 x.2 k:=by kernel_rfl
def N6:(DW ρ).Ok (yl ρ):=⟨by kernel_rfl,fun p v kn kx=>by kernel_rfl⟩
def N5:(DT ρ).Ok (yl ρ):=⟨by kernel_rfl,fun p v kn kx=>by kernel_rfl⟩
def UD (x:Val aW) (k:(Val aI)→Option ρ) :
    ĵ (yl ρ) 145 (ĥ [Ð,ab] x) (fun h v=>Â (Ĭ [.bool,tI] h v) k)=Ro x.1 x.2 k:=by kernel_rfl
def Ef (x:Val (.pair aF ab)) (k:Bool→Option ρ) :
    ĵ (vI ρ) 76 (ĥ [aF,ab] x) (fun h v=>Â (Ĭ [.bool] h v) k)=rg x.1 x.2 k:=by kernel_rfl
def U8 (x:Val (.pair Ä ab)) (k:(Val aI)→Option ρ) :
    ĵ (Pz ρ) 22 (ĥ [Ä,ab] x) (fun h v=>Â (Ĭ [.bool,tI] h v) k)=RZ x.1 x.2 k:=by kernel_rfl
def KQ (x:Val ğ) (k:Bool→Option ρ) :
    ĵ (CL ρ) 23 (ĥ [tI,Ã] x) (fun h v=>Â (Ĭ [.bool] h v) k)=A2 x.1 x.2 k:=by kernel_rfl
def qM:(jY ρ).Ok (Ν ρ):=⟨by kernel_rfl,fun p v kn kx=>by kernel_rfl⟩
def qL:(jW ρ).Ok (Ν ρ):=⟨by kernel_rfl,fun p v kn kx=>by kernel_rfl⟩
def tC (x:Val (.pair Ä (.pair tI (.pair ab (.pair ab bg))))) (k:Bool→Option ρ) :
    ĵ (Ν ρ) 5 (ĥ [Ä,tI,ab,ab,ab,.bool] x) (fun h v=>Â (Ĭ [.bool] h v) k)=jG x.1 x.2.1 x.2.2.1 x.2.2.2.1 x.2.2.2.2.1 x.2.2.2.2.2 k:=by kernel_rfl
end Go.Proofs.ZzM
end
