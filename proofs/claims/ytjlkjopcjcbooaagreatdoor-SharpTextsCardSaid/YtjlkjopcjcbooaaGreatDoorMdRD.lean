/- lemmas -/
import Derived.Test.YtjlkjopcjcbooaaGreatDoorMdRC
import Derived.KernelRfl
set_option linter.all false
noncomputable section
set_option maxRecDepth 1000000
namespace Go.Proofs.ZzM
open Go Go.Am
def k16 : Ý Tryz.prog 19 (χ [å, tI, (.slice tI)] [Î, tI] ((z29, (((1979, 2018), 0) : zT1)) :: [])) := ñ (iU tb10 (by kernel_rfl)) Ŏ
noncomputable def tb11 : th (Kn Tryz.prog) := ⟨19, _, k16⟩ :: tb10
def k17 : Ý Tryz.prog 180 (χ [õ, (.map tI .bool), tI] [(.slice tI)] ((z30, ([(-984), 11, 11, 0, 0] : th Int)) :: (z28, ([(-995), 0, 0, 6, 6] : th Int)) :: (z26, ([0, 1005, 1005, 1005, 1011, 1011] : th Int)) :: (z25, ([(-964), 31, 31, 0, 37, 37] : th Int)) :: (z19, ([0, 1005, 1005, 1011, 1011] : th Int)) :: (z18, ([(-984), 11, 11, 0, 0] : th Int)) :: [])) := ñ (iU tb11 (by kernel_rfl)) k15
noncomputable def tb12 : th (Kn Tryz.prog) := ⟨180, _, k17⟩ :: tb11
def k18 : Ý Tryz.prog 104 (χ [õ, tI, tI] [(.slice (.slice tI))] ((z31, z35) :: [])) := ñ (iU tb12 (by kernel_rfl)) Ŏ
noncomputable def tb13 : th (Kn Tryz.prog) := ⟨104, _, k18⟩ :: tb12
def k19 : Ý Tryz.prog 48 (χ [(.ptr iV), (.ptr Î), (.ptr .bool)] [(.slice tI)] ((z36, ([0, 2, 9] : th Int)) :: [])) := ñ (iU tb13 (by kernel_rfl)) Ŏ
noncomputable def tb14 : th (Kn Tryz.prog) := ⟨48, _, k19⟩ :: tb13
def k20 : Ý Tryz.prog 129 (χ [å] [(.ptr qr)] ((z10, z37) :: (z7, z23) :: (z5, ((((0, 2), ([z1, z2], z4)), z16) : xA × TE)) :: [])) := ñ (iU tb14 (by kernel_rfl)) k10
noncomputable def tb15 : th (Kn Tryz.prog) := ⟨129, _, k20⟩ :: tb14
def k21 : Ý Tryz.prog 48 (χ [(.ptr iV), (.ptr Î), (.ptr .bool)] [(.slice tI)] ((z39, ([0, 2, 9] : th Int)) :: (z36, ([0, 2, 9] : th Int)) :: [])) := ñ (iU tb15 (by kernel_rfl)) k19
noncomputable def tb16 : th (Kn Tryz.prog) := ⟨48, _, k21⟩ :: tb15
end Go.Proofs.ZzM
end
