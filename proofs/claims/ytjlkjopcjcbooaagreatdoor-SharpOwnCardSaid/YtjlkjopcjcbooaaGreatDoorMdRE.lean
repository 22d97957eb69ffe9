/- lemmas -/
import Derived.Test.YtjlkjopcjcbooaaGreatDoorMdRD
import Derived.KernelRfl
set_option linter.all false
noncomputable section
set_option maxRecDepth 1000000
namespace Go.Proofs.ZzM
open Go Go.Am
def k22 : Þ Tryz.prog 13 (iL [ç, Ï, .bool] [Br, tI] ((z40, ((z41, 0) : zT27)) :: [])) := õ (l6 tb16 (by kernel_rfl)) Ź
noncomputable def tb17 : y5 (Kn Tryz.prog) := ⟨13, _, k22⟩ :: tb16
def k23 : Þ Tryz.prog 129 (iL [ç] [(.ptr uW)] ((z13, z45) :: (z10, z37) :: (z7, z23) :: (z5, ((((0, 2), ([z1, z2], z4)), z16) : Cr × ZF)) :: [])) := õ (l6 tb17 (by kernel_rfl)) k20
noncomputable def tb18 : y5 (Kn Tryz.prog) := ⟨129, _, k23⟩ :: tb17
def k24 : Þ Tryz.prog 135 (iL [ç, Ĵ] [Ï, tI] ((z46, ((((-6), 11), 0) : zT1)) :: [])) := õ (l6 tb18 (by kernel_rfl)) Ź
noncomputable def tb19 : y5 (Kn Tryz.prog) := ⟨135, _, k24⟩ :: tb18
def k25 : Þ Tryz.prog 66 (iL [(.ptr l7), Ï, Ĵ] [qQ, tI] ((z47, (((((-6), 11), z48), 0) : zT30 × Int)) :: [])) := õ (l6 tb19 (by kernel_rfl)) Ź
noncomputable def tb20 : y5 (Kn Tryz.prog) := ⟨66, _, k25⟩ :: tb19
end Go.Proofs.ZzM
end
