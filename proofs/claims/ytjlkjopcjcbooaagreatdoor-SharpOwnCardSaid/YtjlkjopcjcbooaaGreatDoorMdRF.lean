/- lemmas -/
import Derived.Test.YtjlkjopcjcbooaaGreatDoorMdRE
import Derived.KernelRfl
set_option linter.all false
noncomputable section
set_option maxRecDepth 1000000
namespace Go.Proofs.ZzM
open Go Go.Am
def k26 : Þ Tryz.prog 67 (iL [qQ] [tI] ((z49, (10 : Int)) :: [])) := õ (l6 tb20 (by kernel_rfl)) Ź
noncomputable def tb21 : y5 (Kn Tryz.prog) := ⟨67, _, k26⟩ :: tb20
def k27 : Þ Tryz.prog 75 (iL [qQ, (.slice tI)] [(.slice tI)] ((z51, z52) :: [])) := õ (l6 tb21 (by kernel_rfl)) Ź
noncomputable def tb22 : y5 (Kn Tryz.prog) := ⟨75, _, k27⟩ :: tb21
def k28 : Þ Tryz.prog 22 (iL [ç, Ï, Ï, Ĵ] [.bool, tI] ((z53, ((true, 0) : Bool × Int)) :: [])) := õ (l6 tb22 (by kernel_rfl)) Ź
noncomputable def tb23 : y5 (Kn Tryz.prog) := ⟨22, _, k28⟩ :: tb22
def k29 : Þ Tryz.prog 14 (iL [ç, Br] [.bool, tI] ((z54, ((true, 0) : Bool × Int)) :: [])) := õ (l6 tb23 (by kernel_rfl)) Ź
noncomputable def tb24 : y5 (Kn Tryz.prog) := ⟨14, _, k29⟩ :: tb23
end Go.Proofs.ZzM
end
