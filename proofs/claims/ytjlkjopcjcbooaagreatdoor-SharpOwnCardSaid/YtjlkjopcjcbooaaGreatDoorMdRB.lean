/- lemmas -/
import Derived.Test.YtjlkjopcjcbooaaGreatDoorMdRA
import Derived.KernelRfl
set_option linter.all false
noncomputable section
set_option maxRecDepth 1000000
namespace Go.Proofs.ZzM
open Go Go.Am
def k6 : Þ Tryz.prog 129 (iL [ç] [(.ptr uW)] ((z5, ((((0, 2), ([z1, z2], z4)), z16) : Cr × ZF)) :: [])) := õ (l6 tb0 (by kernel_rfl)) Ź
noncomputable def tb1 : y5 (Kn Tryz.prog) := ⟨129, _, k6⟩ :: tb0
def k7 : Þ Tryz.prog 143 (iL [Ă, (.map tI .bool)] [(.slice tI), .bool] ((z17, (([0, 995, 995, 995, 995], true) : zT18)) :: [])) := õ (l6 tb1 (by kernel_rfl)) Ź
noncomputable def tb2 : y5 (Kn Tryz.prog) := ⟨143, _, k7⟩ :: tb1
def k8 : Þ Tryz.prog 180 (iL [Ă, (.map tI .bool), tI] [(.slice tI)] ((z18, ([(-984), 11, 11, 0, 0] : y5 Int)) :: [])) := õ (l6 tb2 (by kernel_rfl)) Ź
noncomputable def tb3 : y5 (Kn Tryz.prog) := ⟨180, _, k8⟩ :: tb2
def k9 : Þ Tryz.prog 180 (iL [Ă, (.map tI .bool), tI] [(.slice tI)] ((z19, ([0, 1005, 1005, 1011, 1011] : y5 Int)) :: (z18, ([(-984), 11, 11, 0, 0] : y5 Int)) :: [])) := õ (l6 tb3 (by kernel_rfl)) k8
noncomputable def tb4 : y5 (Kn Tryz.prog) := ⟨180, _, k9⟩ :: tb3
def k10 : Þ Tryz.prog 129 (iL [ç] [(.ptr uW)] ((z7, z23) :: (z5, ((((0, 2), ([z1, z2], z4)), z16) : Cr × ZF)) :: [])) := õ (l6 tb4 (by kernel_rfl)) k6
noncomputable def tb5 : y5 (Kn Tryz.prog) := ⟨129, _, k10⟩ :: tb4
end Go.Proofs.ZzM
end
