/- lemmas -/
import Derived.Test.YtjlkjopcjcbooaaGreatDoorMdRD
import Derived.KernelRfl
set_option linter.all false
noncomputable section
set_option maxRecDepth 1000000
namespace Go.Proofs.ZzM
open Go Go.Am
def k22 : Ý Tryz.prog 13 (χ [å, Î, .bool] [wD, tI] ((z40, ((z41, 0) : zT27)) :: [])) := ñ (iU tb16 (by kernel_rfl)) Ŏ
noncomputable def tb17 : th (Kn Tryz.prog) := ⟨13, _, k22⟩ :: tb16
def k23 : Ý Tryz.prog 129 (χ [å] [(.ptr qr)] ((z13, z45) :: (z10, z37) :: (z7, z23) :: (z5, ((((0, 2), ([z1, z2], z4)), z16) : xA × TE)) :: [])) := ñ (iU tb17 (by kernel_rfl)) k20
noncomputable def tb18 : th (Kn Tryz.prog) := ⟨129, _, k23⟩ :: tb17
def k24 : Ý Tryz.prog 135 (χ [å, ę] [Î, tI] ((z46, ((((-6), 11), 0) : zT1)) :: [])) := ñ (iU tb18 (by kernel_rfl)) Ŏ
noncomputable def tb19 : th (Kn Tryz.prog) := ⟨135, _, k24⟩ :: tb18
def k25 : Ý Tryz.prog 66 (χ [(.ptr iV), Î, ę] [mT, tI] ((z47, (((((-6), 11), z48), 0) : zT30 × Int)) :: [])) := ñ (iU tb19 (by kernel_rfl)) Ŏ
noncomputable def tb20 : th (Kn Tryz.prog) := ⟨66, _, k25⟩ :: tb19
end Go.Proofs.ZzM
end
