/- lemmas -/
import Derived.Test.YtjlkjopcjcbooaaGreatDoorMdRF
import Derived.KernelRfl
import Derived.Test.YtjlkjopcjcbooaaGreatDoorMdCA
set_option linter.all false
noncomputable section
set_option maxRecDepth 1000000
namespace Go.Proofs.ZzM
open Go Go.Am
def N3 : Ý Tryz.prog 6 (KR [] [.bool] () (true : Bool)) := iU tb24 (by kernel_rfl)
def Ly : Ý Tryz.prog 6 Aa := fun G z y h => N3 G z y h
set_option maxRecDepth 100000
def c_w6_SharpTexts : ZP 3 f7 := zt (mh _) (Á UX (Á Ly (Á JU (Á Ps (Á Pk (Á SH (Á GW Ä))))))) rfl Ä fun x => tc x some
end Go.Proofs.ZzM
end
