/- lemmas -/
import Derived.Test.YtjlkjopcjcbooaaGreatDoorMdRB
import Derived.KernelRfl
set_option linter.all false
noncomputable section
set_option maxRecDepth 1000000
namespace Go.Proofs.ZzM
open Go Go.Am
def k11 : Þ Tryz.prog 143 (iL [Ă, (.map tI .bool)] [(.slice tI), .bool] ((z24, (([0, 995, 995, 995, 995, 995], true) : zT18)) :: (z17, (([0, 995, 995, 995, 995], true) : zT18)) :: [])) := õ (l6 tb5 (by kernel_rfl)) k7
noncomputable def tb6 : y5 (Kn Tryz.prog) := ⟨143, _, k11⟩ :: tb5
def k12 : Þ Tryz.prog 180 (iL [Ă, (.map tI .bool), tI] [(.slice tI)] ((z25, ([(-964), 31, 31, 0, 37, 37] : y5 Int)) :: (z19, ([0, 1005, 1005, 1011, 1011] : y5 Int)) :: (z18, ([(-984), 11, 11, 0, 0] : y5 Int)) :: [])) := õ (l6 tb6 (by kernel_rfl)) k9
noncomputable def tb7 : y5 (Kn Tryz.prog) := ⟨180, _, k12⟩ :: tb6
def k13 : Þ Tryz.prog 180 (iL [Ă, (.map tI .bool), tI] [(.slice tI)] ((z26, ([0, 1005, 1005, 1005, 1011, 1011] : y5 Int)) :: (z25, ([(-964), 31, 31, 0, 37, 37] : y5 Int)) :: (z19, ([0, 1005, 1005, 1011, 1011] : y5 Int)) :: (z18, ([(-984), 11, 11, 0, 0] : y5 Int)) :: [])) := õ (l6 tb7 (by kernel_rfl)) k12
noncomputable def tb8 : y5 (Kn Tryz.prog) := ⟨180, _, k13⟩ :: tb7
def k14 : Þ Tryz.prog 12 (iL [ç, Ï] [Ï, tI] ((z27, (((964, 1005), 0) : zT1)) :: [])) := õ (l6 tb8 (by kernel_rfl)) Ź
noncomputable def tb9 : y5 (Kn Tryz.prog) := ⟨12, _, k14⟩ :: tb8
def k15 : Þ Tryz.prog 180 (iL [Ă, (.map tI .bool), tI] [(.slice tI)] ((z28, ([(-995), 0, 0, 6, 6] : y5 Int)) :: (z26, ([0, 1005, 1005, 1005, 1011, 1011] : y5 Int)) :: (z25, ([(-964), 31, 31, 0, 37, 37] : y5 Int)) :: (z19, ([0, 1005, 1005, 1011, 1011] : y5 Int)) :: (z18, ([(-984), 11, 11, 0, 0] : y5 Int)) :: [])) := õ (l6 tb9 (by kernel_rfl)) k13
noncomputable def tb10 : y5 (Kn Tryz.prog) := ⟨180, _, k15⟩ :: tb9
end Go.Proofs.ZzM
end
