/- lemmas -/
import Derived.Test.YtanjeafjkgllhaaGreatDoorMdCA
set_option linter.all false
noncomputable section
set_option maxRecDepth 100000
namespace Go.Proofs.ZzM
open Go Go.Am
def saneR : @vH (lcN 100000) = some true := by kernel_rfl
def abW : ZP 6 Db := by
  have h := @WJ (lcN 100000)
  have e : @Ey (lcN 100000) = Db := by
    show (⟨[], [.bool], fun _ => @vH (lcN 100000)⟩ : ì) = ⟨[], [.bool], fun _ => some true⟩
    rw [saneR]; rfl
  rwa [e] at h
def c_w7_SwapCases [LC] : ZP 4 mI := zt (wo _) (À afQ (À abW (À ajc (À aaa (À aje (À UL (À alI (À afW (À Τ (À UK Ã)))))))))) rfl Ã fun x => ES x some
end Go.Proofs.ZzM
end
