/- lemmas -/
import Derived.Test.YtjlkjopcjcbooaaGreatDoorMdRE
import Derived.KernelRfl
set_option linter.all false
noncomputable section
set_option maxRecDepth 1000000
namespace Go.Proofs.ZzM
open Go Go.Am
def k26 : Ý Tryz.prog 67 (χ [mT] [tI] ((z49, (10 : Int)) :: [])) := ñ (iU tb20 (by kernel_rfl)) Ŏ
noncomputable def tb21 : th (Kn Tryz.prog) := ⟨67, _, k26⟩ :: tb20
def k27 : Ý Tryz.prog 75 (χ [mT, (.slice tI)] [(.slice tI)] ((z51, z52) :: [])) := ñ (iU tb21 (by kernel_rfl)) Ŏ
noncomputable def tb22 : th (Kn Tryz.prog) := ⟨75, _, k27⟩ :: tb21
def k28 : Ý Tryz.prog 22 (χ [å, Î, Î, ę] [.bool, tI] ((z53, ((true, 0) : Bool × Int)) :: [])) := ñ (iU tb22 (by kernel_rfl)) Ŏ
noncomputable def tb23 : th (Kn Tryz.prog) := ⟨22, _, k28⟩ :: tb22
def k29 : Ý Tryz.prog 14 (χ [å, wD] [.bool, tI] ((z54, ((true, 0) : Bool × Int)) :: [])) := ñ (iU tb23 (by kernel_rfl)) Ŏ
noncomputable def tb24 : th (Kn Tryz.prog) := ⟨14, _, k29⟩ :: tb23
end Go.Proofs.ZzM
end
