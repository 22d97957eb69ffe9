/- lemmas -/
import Derived.Test.YtiochmbenflhhaaGreatMdMA
set_option linter.all false
set_option linter.unusedSectionVars false
set_option linter.unusedVariables false
set_option linter.unusedSimpArgs false
noncomputable section
variable {ρ:Type}
set_option maxRecDepth 100000
namespace Go.Proofs.ZzM
open Go Go.Am
def Ss (x:Val (.pair è Ã)) (k:Val sr→Option ρ) :
    đ (KT ρ) 240 (ĉ [è,Ã] x) (fun h v=>Â (Đ [sr] h v) k)=I4 x.1 x.2 k:=by kernel_rfl
def OZ (x:Val aE) (k:Val è→Option ρ) :
    đ (Fs ρ) 201 (ĉ [Ä,Ì] x) (fun h v=>Â (Đ [è] h v) k)=Db x.1 x.2 k:=by kernel_rfl
def Sl (x:Val aE) (k:Val Ã→Option ρ) :
    đ (KP ρ) 202 (ĉ [Ä,Ì] x) (fun h v=>Â (Đ [Ã] h v) k)=I1 x.1 x.2 k:=by kernel_rfl
def Wx (x:Val Ã) (k:Int→Option ρ) :
    đ (O8 ρ) 241 (ĉ [tI,tI] x) (fun h v=>Â (Đ [tI] h v) k)=O9 x.1 x.2 k:=by kernel_rfl
def Sv (x:Val Ã) (k:Int→Option ρ) :
    đ (KX ρ) 203 (ĉ [Ã] x) (fun h v=>Â (Đ [tI] h v) k)=I6 x k:=by kernel_rfl
def acS (x:Val Ã) (k:Int→Option ρ) :
    đ (aab ρ) 242 (ĉ [tI,tI] x) (fun h v=>Â (Đ [tI] h v) k)=acT x.1 x.2 k:=by kernel_rfl
def WH (x:Val Ã) (k:Int→Option ρ) :
    đ (Pc ρ) 204 (ĉ [Ã] x) (fun h v=>Â (Đ [tI] h v) k)=Pd x k:=by kernel_rfl
def Wj (x:Val aE) (k:Val Ã→Option ρ) :
    đ (OI ρ) 140 (ĉ [Ä,Ì] x) (fun h v=>Â (Đ [Ã] h v) k)=OJ x.1 x.2 k:=by kernel_rfl
def RZ:(Fh ρ).Ok (sR ρ):=⟨by kernel_rfl,fun p v kn kx=>by kernel_rfl⟩
def R0:(Fk ρ).Ok (sR ρ):=⟨by kernel_rfl,fun p v kn kx=>by kernel_rfl⟩
def RY:(Fg ρ).Ok (sR ρ):=⟨by kernel_rfl,fun p v kn kx=>by kernel_rfl⟩
def Z1 (x:Val Ä) (k:Val wh→Option ρ) :
    đ (sR ρ) 65 (ĉ [Ä] x) (fun h v=>Â (Đ [wh] h v) k)=Wh x k:=by kernel_rfl
def Mq:(xT ρ).Ok (ku ρ):=⟨by kernel_rfl,fun p v kn kx=>by kernel_rfl⟩
def Mo:(xR ρ).Ok (ku ρ):=⟨by kernel_rfl,fun p v kn kx=>by kernel_rfl⟩
def Mp:(xS ρ).Ok (ku ρ):=⟨by kernel_rfl,fun p v kn kx=>by kernel_rfl⟩
def Mn:(xQ ρ).Ok (ku ρ):=⟨by kernel_rfl,fun p v kn kx=>by kernel_rfl⟩
def Sn (x:Val Ä) (k:Int→Option ρ) :
    đ (ku ρ) 15 (ĉ [Ä] x) (fun h v=>Â (Đ [tI] h v) k)=I2 x k:=by kernel_rfl
def E6 (x:Val (.pair Ä Ą)) (k:Bool→Option ρ) :
    đ (wl ρ) 3 (ĉ [Ä,tI,tI,tI] x) (fun h v=>Â (Đ [.bool] h v) k)=rI x.1 x.2.1 x.2.2.1 x.2.2.2 k:=by kernel_rfl
end Go.Proofs.ZzM
end
