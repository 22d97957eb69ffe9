/- For every book of moderate size, a node, limits and a further comparison, a result that Predict allows makes the interval no wider, keeps verdicts that are not open, stays within Worst and obeys Settles, and any other result leaves no history. Conditions: none. -/
import Derived.Test.YthhhehllmdfhiaaGreatMdMA
import Derived.Test.YthhhehllmdfhiaaGreatAmB
import Derived.Test.YthhhehllmdfhiaaGreatPlB
import Derived.Test.YthhhehllmdfhiaaGreatFactsA
import Derived.Test.YthhhehllmdfhiaaGreatMdCA
set_option linter.all false
set_option linter.unusedSectionVars false
set_option linter.unusedVariables false
set_option linter.unusedSimpArgs false
noncomputable section
namespace Go.Proofs.ZzM
open Go Go.Am
theorem book_num {b : Val ab6} (h : Go.Am.Rng ab6 b) : ∀ g ∈ (b : acq).2.1, I64 g.2.2.2.2.1.1 := fun g hg => (h.2.1 g hg).2.2.2.2.1.1
theorem sharpNarrows_law : ∀ x : Val (tyL agh.ts), Go.Am.Rng (tyL agh.ts) x → agh.F x = some true := fun x h => aKF (book_num h.1) x.2.1 x.2.2.1 x.2.2.2
end Go.Proofs.ZzM
end
noncomputable section
namespace Go.Proofs.YthhhehllmdfhiaaGreat
open Go Go.Am
set_option maxRecDepth 100000
theorem sharpNarrows_inPlace : (Rows.sharpNarrowsRow.inPlace == Tryz.prog.inPlace 10) = true := by kernel_rfl
theorem sharpNarrows_unfollowed : (Rows.sharpNarrowsRow.unfollowed == Tryz.prog.unfollowed 10) = true := by kernel_rfl
theorem sharpNarrows_recurses : (Rows.sharpNarrowsRow.recurses == Tryz.prog.recurses 10) = true := by kernel_rfl
theorem sharpNarrows_named : (Rows.sharpNarrowsRow.named == Tryz.prog.varsNamed 10) = true := by kernel_rfl
theorem sharpNarrows_joined : joinedFacts Tryz.checked.prog 10 Tryz.f10 Rows.sharpNarrowsSpec Rows.sharpNarrowsRow = true :=
 joined_of (by kernel_rfl) laidOut mapsOk (by kernel_rfl) (by kernel_rfl) (by kernel_rfl) stopsNil (by kernel_rfl) knobsNil sharpNarrows_inPlace sharpNarrows_unfollowed sharpNarrows_recurses sharpNarrows_named
  (by kernel_rfl) (by kernel_rfl) (by kernel_rfl) (by kernel_rfl) (by kernel_rfl) (by kernel_rfl) (by kernel_rfl) (by kernel_rfl) (by kernel_rfl) plainKeysOk (by kernel_rfl) heard enters lifts makes (by kernel_rfl) (by kernel_rfl) (by kernel_rfl) (by kernel_rfl)
theorem sharpNarrows_lifted (os : Os) (started : os.Started) (H : Type) (enc : TypeId × Value → H) :
 ReturnsInHanded {} Tryz.checked os 10 .any (Rows.sharpNarrowsSpec.pre6 enc Tryz.prog Tryz.f10 Rows.sharpNarrowsRow.domain false) (Rows.sharpNarrowsSpec.post enc Tryz.prog Tryz.f10 false true false false) :=
 law_lifted (C := Tryz.checked) (tb := 4) own started (by kernel_rfl) Tryz.func10 (ChangeSpec.witness6 (enc := enc) (C := Tryz.checked) false ⟨#[], #[.agg #[.int .i64 0, .int .i64 0, .slice none 0 0, .slice none 0 0, .slice none 0 0, .slice none 0 0, .slice none 0 0], .agg #[.int .i64 0, .int .i64 0], .agg #[.int .i64 0, .int .i64 0], .agg #[.int .i64 0, .int .i64 0, .slice none 0 0, .slice none 0 0, .int .i64 0, .int .i64 0, .int .i64 0, .int .i64 0]], []⟩ 8 (by kernel_rfl) (by kernel_rfl) (by kernel_rfl) (by kernel_rfl))
  ZzM.c_w6_SharpNarrows rfl ZzM.sharpNarrows_law (by kernel_rfl) rfl (fun ds h => by
   rw [show Tryz.f10.params.toList.length = 4 from by kernel_rfl] at h
   rcases ds with _ | ⟨d1, _ | ⟨d2, _ | ⟨d3, _ | ⟨d4, _ | ⟨d5, ds⟩⟩⟩⟩⟩ <;> simp at h
   rfl) laidOut (by kernel_rfl) (by kernel_rfl) (by kernel_rfl)
theorem sharpNarrows_holds : Rows.SharpNarrowsSaid :=
 OpenClaim.holds_of_wide 10 Tryz.f10 rfl rfl rfl rfl rfl rfl rfl ⟨rfl, rfl, rfl, rfl, rfl⟩ rfl rfl rfl rfl rfl (by kernel_rfl) Tryz.func10 sharpNarrows_joined
  (of_decide_eq_true (by kernel_rfl)) (by unfold Func.isWrapper; first | (rw [if_pos (by decide +kernel)]; kernel_rfl) | (rw [if_neg (by decide +kernel)]; exact ⟨rfl, rfl⟩))
  (fun os started H enc _ => sharpNarrows_lifted os started H enc)
#print axioms sharpNarrows_holds
end Go.Proofs.YthhhehllmdfhiaaGreat
end