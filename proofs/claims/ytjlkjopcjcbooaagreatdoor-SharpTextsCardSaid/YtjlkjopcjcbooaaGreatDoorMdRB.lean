/- lemmas -/
import Derived.Test.YtjlkjopcjcbooaaGreatDoorMdRA
import Derived.KernelRfl
set_option linter.all false
noncomputable section
set_option maxRecDepth 1000000
namespace Go.Proofs.ZzM
open Go Go.Am
def k6 : Ý Tryz.prog 129 (χ [å] [(.ptr qr)] ((z5, ((((0, 2), ([z1, z2], z4)), z16) : xA × TE)) :: [])) := ñ (iU tb0 (by kernel_rfl)) Ŏ
noncomputable def tb1 : th (Kn Tryz.prog) := ⟨129, _, k6⟩ :: tb0
def k7 : Ý Tryz.prog 143 (χ [õ, (.map tI .bool)] [(.slice tI), .bool] ((z17, (([0, 995, 995, 995, 995], true) : zT18)) :: [])) := ñ (iU tb1 (by kernel_rfl)) Ŏ
noncomputable def tb2 : th (Kn Tryz.prog) := ⟨143, _, k7⟩ :: tb1
def k8 : Ý Tryz.prog 180 (χ [õ, (.map tI .bool), tI] [(.slice tI)] ((z18, ([(-984), 11, 11, 0, 0] : th Int)) :: [])) := ñ (iU tb2 (by kernel_rfl)) Ŏ
noncomputable def tb3 : th (Kn Tryz.prog) := ⟨180, _, k8⟩ :: tb2
def k9 : Ý Tryz.prog 180 (χ [õ, (.map tI .bool), tI] [(.slice tI)] ((z19, ([0, 1005, 1005, 1011, 1011] : th Int)) :: (z18, ([(-984), 11, 11, 0, 0] : th Int)) :: [])) := ñ (iU tb3 (by kernel_rfl)) k8
noncomputable def tb4 : th (Kn Tryz.prog) := ⟨180, _, k9⟩ :: tb3
def k10 : Ý Tryz.prog 129 (χ [å] [(.ptr qr)] ((z7, z23) :: (z5, ((((0, 2), ([z1, z2], z4)), z16) : xA × TE)) :: [])) := ñ (iU tb4 (by kernel_rfl)) k6
noncomputable def tb5 : th (Kn Tryz.prog) := ⟨129, _, k10⟩ :: tb4
end Go.Proofs.ZzM
end
