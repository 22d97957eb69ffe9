/- lemmas -/
import Derived.Test.YtiochmbenflhhaaGreatMdMB
set_option linter.all false
set_option linter.unusedSectionVars false
set_option linter.unusedVariables false
set_option linter.unusedSimpArgs false
noncomputable section
variable {ρ:Type}
set_option maxRecDepth 100000
namespace Go.Proofs.ZzM
open Go Go.Am
def T3 (x:Val aM) (k:Val Â→Option ρ) :
    Ĉ (Ms ρ) 239 (Ā [Ä,tI] x) (fun h v=>Ã (ą [Â] h v) k)=Kg x.1 x.2 k:=by kernel_rfl
def Zj (x:Val (.pair ĵ ĵ)) (k:Val uk→Option ρ) :
    Ĉ (QL ρ) 256 (Ā [ĵ,ĵ] x) (fun h v=>Ã (ą [uk] h v) k)=QM x.1 x.2 k:=by kernel_rfl
def adC (x:Val è) (k:Val ĵ→Option ρ) :
    Ĉ (WK ρ) 257 (Ā [Â,Â] x) (fun h v=>Ã (ą [ĵ] h v) k)=Zo x.1 x.2 k:=by kernel_rfl
def UA (x:Val (.pair è Â)) (k:Val uk→Option ρ) :
    Ĉ (My ρ) 240 (Ā [è,Â] x) (fun h v=>Ã (ą [uk] h v) k)=Ku x.1 x.2 k:=by kernel_rfl
def Qv (x:Val aH) (k:Val è→Option ρ) :
    Ĉ (GW ρ) 201 (Ā [Ä,Ì] x) (fun h v=>Ã (ą [è] h v) k)=EO x.1 x.2 k:=by kernel_rfl
def Uq (x:Val aH) (k:Val Â→Option ρ) :
    Ĉ (Mw ρ) 202 (Ā [Ä,Ì] x) (fun h v=>Ã (ą [Â] h v) k)=Ko x.1 x.2 k:=by kernel_rfl
def Zh (x:Val Â) (k:Int→Option ρ) :
    Ĉ (QJ ρ) 241 (Ā [tI,tI] x) (fun h v=>Ã (ą [tI] h v) k)=QK x.1 x.2 k:=by kernel_rfl
def UD (x:Val Â) (k:Int→Option ρ) :
    Ĉ (Mz ρ) 203 (Ā [Â] x) (fun h v=>Ã (ą [tI] h v) k)=Kw x k:=by kernel_rfl
def agK (x:Val Â) (k:Int→Option ρ) :
    Ĉ (adu ρ) 242 (Ā [tI,tI] x) (fun h v=>Ã (ą [tI] h v) k)=agL x.1 x.2 k:=by kernel_rfl
def Zt (x:Val Â) (k:Int→Option ρ) :
    Ĉ (QN ρ) 204 (Ā [Â] x) (fun h v=>Ã (ą [tI] h v) k)=QO x k:=by kernel_rfl
def YT (x:Val aH) (k:Val Â→Option ρ) :
    Ĉ (Qe ρ) 140 (Ā [Ä,Ì] x) (fun h v=>Ã (ą [Â] h v) k)=Qf x.1 x.2 k:=by kernel_rfl
def Ua:(GR ρ).Ok (uN ρ):=⟨by kernel_rfl,fun p v kn kx=>by kernel_rfl⟩
def Ub:(GS ρ).Ok (uN ρ):=⟨by kernel_rfl,fun p v kn kx=>by kernel_rfl⟩
def T9:(GQ ρ).Ok (uN ρ):=⟨by kernel_rfl,fun p v kn kx=>by kernel_rfl⟩
def adf (x:Val Ä) (k:Val xO→Option ρ) :
    Ĉ (uN ρ) 65 (Ā [Ä] x) (fun h v=>Ã (ą [xO] h v) k)=YQ x k:=by kernel_rfl
def NI:(zR ρ).Ok (lu ρ):=⟨by kernel_rfl,fun p v kn kx=>by kernel_rfl⟩
def NG:(zP ρ).Ok (lu ρ):=⟨by kernel_rfl,fun p v kn kx=>by kernel_rfl⟩
def NH:(zQ ρ).Ok (lu ρ):=⟨by kernel_rfl,fun p v kn kx=>by kernel_rfl⟩
def NF:(zO ρ).Ok (lu ρ):=⟨by kernel_rfl,fun p v kn kx=>by kernel_rfl⟩
def Us (x:Val Ä) (k:Int→Option ρ) :
    Ĉ (lu ρ) 15 (Ā [Ä] x) (fun h v=>Ã (ą [tI] h v) k)=Kq x k:=by kernel_rfl
def Qd (x:Val Ä) (k:Val Î→Option ρ) :
    Ĉ (GU ρ) 31 (Ā [Ä] x) (fun h v=>Ã (ą [Î] h v) k)=EJ x k:=by kernel_rfl
def Y0 (x:Val aJ) (k:(Val aM)→Option ρ) :
    Ĉ (Qn ρ) 86 (Ā [Ä,Â] x) (fun h v=>Ã (ą [Ä,tI] h v) k)=Qo x.1 x.2 k:=by kernel_rfl
def NP:(zY ρ).Ok (κ ρ):=⟨by kernel_rfl,fun p v kn kx=>by kernel_rfl⟩
def NQ:(Aa ρ).Ok (κ ρ):=⟨by kernel_rfl,fun p v kn kx=>by kernel_rfl⟩
def NN:(zX ρ).Ok (κ ρ):=⟨by kernel_rfl,fun p v kn kx=>by kernel_rfl⟩
def NK:(zU ρ).Ok (κ ρ):=⟨by kernel_rfl,fun p v kn kx=>by kernel_rfl⟩
def NL:(zV ρ).Ok (κ ρ):=⟨by kernel_rfl,fun p v kn kx=>by kernel_rfl⟩
def NJ:(zS ρ).Ok (κ ρ):=⟨by kernel_rfl,fun p v kn kx=>by kernel_rfl⟩
def NM:(zW ρ).Ok (κ ρ):=⟨by kernel_rfl,fun p v kn kx=>by kernel_rfl⟩
def Uu (x:Val Î) (k:(Val (.pair am .bool))→Option ρ) :
    Ĉ (κ ρ) 87 (Ā [Î] x) (fun h v=>Ã (ą [am,.bool] h v) k)=Kr x k:=by kernel_rfl
def PZ:(Df ρ).Ok (EC ρ):=⟨by kernel_rfl,fun p v kn kx=>by kernel_rfl⟩
def YB (x:Val (.pair Ä aa)) (k:Val å→Option ρ) :
    Ĉ (EC ρ) 28 (Ā [Ä,aa] x) (fun h v=>Ã (ą [å] h v) k)=P0 x.1 x.2 k:=by kernel_rfl
def TR (x:Val (.pair Ä bh)) (k:Val å→Option ρ) :
    Ĉ (Mp ρ) 18 (Ā [Ä,aa,.bool] x) (fun h v=>Ã (ą [å] h v) k)=J8 x.1 x.2.1 x.2.2 k:=by kernel_rfl
def wp (x:Val (.pair å tI)) (k:Val Â→Option ρ) :
    Ĉ (n0 ρ) 70 (Ā [å,tI] x) (fun h v=>Ã (ą [Â] h v) k)=kZ x.1 x.2 k:=by kernel_rfl
def Kd (x:Val (.pair å Â)) (k:Int→Option ρ) :
    Ĉ (zr ρ) 71 (Ā [å,Â] x) (fun h v=>Ã (ą [tI] h v) k)=wu x.1 x.2 k:=by kernel_rfl
def zo:(pb ρ).Ok (nk ρ):=⟨by kernel_rfl,fun p v kn kx=>by kernel_rfl⟩
def EB (x:Val (.pair å aa)) (k:Val Â→Option ρ) :
    Ĉ (nk ρ) 19 (Ā [å,aa] x) (fun h v=>Ã (ą [Â] h v) k)=qD x.1 x.2 k:=by kernel_rfl
def tx {rec:(Val å)→(Val ab)→(Val ab)→Option Int}:(((pm (ĩ rec ρ).P 141).elim [] (í 0)).filter fun y=>Nat.beq y.1 0).length=1:=by kernel_rfl
def tz {rec:(Val å)→(Val ab)→(Val ab)→Option Int} (p:Val aF) (v:Val Â) (kn:Val aF→Val Â→Option ρ) (kx:(i:Nat)→Val aF→Val (tyL (Ĩ.zs i))→Option ρ) :
    goC (ĩ rec ρ) (kr (ĩ rec ρ) (10-0 / 2)) 141 [] 0 0 (IR (pm (ĩ rec ρ).P 141) 0) (jA Ĩ.head Ĩ.cs Ĩ.vs p v) (XM Ĩ kn kx)=(i7 rec ρ).bF p v (kn p) (fun i=>kx i p):=by kernel_rfl
def uM {rec:(Val å)→(Val ab)→(Val ab)→Option Int}:(i7 rec ρ).Ok (ĩ rec ρ):=⟨tx,tz⟩
def yB {rec:(Val å)→(Val ab)→(Val ab)→Option Int} (x:Val (.pair å aE)) (k:Int→Option ρ) :
    Ĉ (ĩ rec ρ) 141 (Ā [å,ab,ab] x) (fun h v=>Ã (ą [tI] h v) k)=ũ rec x.1 x.2.1 x.2.2 k:=by kernel_rfl
def zm:(o8 ρ).Ok (j3 ρ):=⟨by kernel_rfl,fun p v kn kx=>by kernel_rfl⟩
def zl:(oY ρ).Ok (j3 ρ):=⟨by kernel_rfl,fun p v kn kx=>by kernel_rfl⟩
def Ez (x:Val (.pair å aE)) (k:Int→Option ρ) :
    Ĉ (j3 ρ) 72 (Ā [å,ab,ab] x) (fun h v=>Ã (ą [tI] h v) k)=qC x.1 x.2.1 x.2.2 k:=by kernel_rfl
def wt:(mR ρ).Ok (i8 ρ):=⟨by kernel_rfl,fun p v kn kx=>by kernel_rfl⟩
def wq:(mP ρ).Ok (i8 ρ):=⟨by kernel_rfl,fun p v kn kx=>by kernel_rfl⟩
def zq (x:Val (.pair å bg)) (k:Val Â→Option ρ) :
    Ĉ (i8 ρ) 20 (Ā [å,tI,ab,ab] x) (fun h v=>Ã (ą [Â] h v) k)=nl x.1 x.2.1 x.2.2.1 x.2.2.2 k:=by kernel_rfl
def Eu (x:Val (.pair Ä bg)) (k:Bool→Option ρ) :
    Ĉ (uH ρ) 4 (Ā [Ä,tI,ab,ab] x) (fun h v=>Ã (ą [.bool] h v) k)=qA x.1 x.2.1 x.2.2.1 x.2.2.2 k:=by kernel_rfl
end Go.Proofs.ZzM
end
