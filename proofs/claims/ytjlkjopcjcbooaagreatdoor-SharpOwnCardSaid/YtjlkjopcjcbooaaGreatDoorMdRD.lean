/- lemmas -/
import Derived.Test.YtjlkjopcjcbooaaGreatDoorMdRC
import Derived.KernelRfl
set_option linter.all false
noncomputable section
set_option maxRecDepth 1000000
namespace Go.Proofs.ZzM
open Go Go.Am
def k16 : Þ Tryz.prog 19 (iL [ç, tI, (.slice tI)] [Ï, tI] ((z29, (((1979, 2018), 0) : zT1)) :: [])) := õ (l6 tb10 (by kernel_rfl)) Ź
noncomputable def tb11 : y5 (Kn Tryz.prog) := ⟨19, _, k16⟩ :: tb10
def k17 : Þ Tryz.prog 180 (iL [Ă, (.map tI .bool), tI] [(.slice tI)] ((z30, ([(-984), 11, 11, 0, 0] : y5 Int)) :: (z28, ([(-995), 0, 0, 6, 6] : y5 Int)) :: (z26, ([0, 1005, 1005, 1005, 1011, 1011] : y5 Int)) :: (z25, ([(-964), 31, 31, 0, 37, 37] : y5 Int)) :: (z19, ([0, 1005, 1005, 1011, 1011] : y5 Int)) :: (z18, ([(-984), 11, 11, 0, 0] : y5 Int)) :: [])) := õ (l6 tb11 (by kernel_rfl)) k15
noncomputable def tb12 : y5 (Kn Tryz.prog) := ⟨180, _, k17⟩ :: tb11
def k18 : Þ Tryz.prog 104 (iL [Ă, tI, tI] [(.slice (.slice tI))] ((z31, z35) :: [])) := õ (l6 tb12 (by kernel_rfl)) Ź
noncomputable def tb13 : y5 (Kn Tryz.prog) := ⟨104, _, k18⟩ :: tb12
def k19 : Þ Tryz.prog 48 (iL [(.ptr l7), (.ptr Ï), (.ptr .bool)] [(.slice tI)] ((z36, ([0, 2, 9] : y5 Int)) :: [])) := õ (l6 tb13 (by kernel_rfl)) Ź
noncomputable def tb14 : y5 (Kn Tryz.prog) := ⟨48, _, k19⟩ :: tb13
def k20 : Þ Tryz.prog 129 (iL [ç] [(.ptr uW)] ((z10, z37) :: (z7, z23) :: (z5, ((((0, 2), ([z1, z2], z4)), z16) : Cr × ZF)) :: [])) := õ (l6 tb14 (by kernel_rfl)) k10
noncomputable def tb15 : y5 (Kn Tryz.prog) := ⟨129, _, k20⟩ :: tb14
def k21 : Þ Tryz.prog 48 (iL [(.ptr l7), (.ptr Ï), (.ptr .bool)] [(.slice tI)] ((z39, ([0, 2, 9] : y5 Int)) :: (z36, ([0, 2, 9] : y5 Int)) :: [])) := õ (l6 tb15 (by kernel_rfl)) k19
noncomputable def tb16 : y5 (Kn Tryz.prog) := ⟨48, _, k21⟩ :: tb15
end Go.Proofs.ZzM
end
