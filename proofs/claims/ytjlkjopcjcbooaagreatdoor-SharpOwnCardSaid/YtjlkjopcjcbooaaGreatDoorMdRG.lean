/- lemmas -/
import Derived.Test.YtjlkjopcjcbooaaGreatDoorMdRF
import Derived.KernelRfl
import Derived.Test.YtjlkjopcjcbooaaGreatDoorMdCA
set_option linter.all false
noncomputable section
set_option maxRecDepth 1000000
namespace Go.Proofs.ZzM
open Go Go.Am
def T1 : Þ Tryz.prog 6 (P8 [] [.bool] () (true : Bool)) := l6 tb24 (by kernel_rfl)
def QU : Þ Tryz.prog 6 EJ := fun G z y h => T1 G z y h
set_option maxRecDepth 100000
def c_w6_SharpOwn : ZP 4 mA := zt (tO _) (Á abi (Á QU (Á O9 (Á YM (Á LU (Á Pa (Á QX (Á Va (Á A6 Ä))))))))) rfl (Á xB Ä) fun x => by kernel_rfl
end Go.Proofs.ZzM
end
