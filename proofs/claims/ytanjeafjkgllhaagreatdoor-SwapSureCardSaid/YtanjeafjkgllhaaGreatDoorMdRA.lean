/- lemmas -/
import Derived.Test.YtanjeafjkgllhaaGreatDoorMdCA
set_option linter.all false
noncomputable section
set_option maxRecDepth 100000
namespace Go.Proofs.ZzM
open Go Go.Am
def saneR : @uG (lcN 100000) = some true := by kernel_rfl
def U8 : ZP 6 A3 := by
  have h := @P5 (lcN 100000)
  have e : @Cc (lcN 100000) = A3 := by
    show (⟨[], [.bool], fun _ => @uG (lcN 100000)⟩ : đ) = ⟨[], [.bool], fun _ => some true⟩
    rw [saneR]; rfl
  rwa [e] at h
def c_w7_SwapSure [LC] : ZP 3 nS := zt (iJ _) (À Y4 (À U8 (À acj (À Tr (À aeE (À acl (À acm (À ach Ä)))))))) rfl (À A9 (À A8 (À Ba Ä))) fun x => ER x some
end Go.Proofs.ZzM
end
