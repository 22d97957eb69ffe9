/- For every book of moderate size, a node and at most 5 further comparisons, Best is the first one whose Worst is the least, and no comparison makes the interval wider than it was. Conditions: none. -/
import Derived.Test.YthhhehllmdfhiaaGreatMdMA
import Derived.Test.YthhhehllmdfhiaaGreatAmB
import Derived.Test.YthhhehllmdfhiaaGreatPlB
import Derived.Test.YthhhehllmdfhiaaGreatFactsA
import Derived.Test.YthhhehllmdfhiaaGreatMdCA
set_option linter.all false
set_option linter.unusedSectionVars false
set_option linter.unusedVariables false
set_option linter.unusedSimpArgs false
noncomputable section
namespace Go.Proofs.ZzM
open Go Go.Am
theorem book_num {b : Val acd} (h : Go.Am.Rng acd b) : ∀ g ∈ (b : acC).2.1, I64 g.2.2.2.2.1.1 := fun g hg => (h.2.1 g hg).2.2.2.2.1.1
theorem sharpBests_law : ∀ x : Val (tyL ahh.ts), Go.Am.Rng (tyL ahh.ts) x → ahh.F x = some true := fun x h => aQs (book_num h.1) x.2.1 x.2.2
end Go.Proofs.ZzM
end
noncomputable section
namespace Go.Proofs.YthhhehllmdfhiaaGreat
open Go Go.Am
set_option maxRecDepth 100000
theorem sharpBests_inPlace : (Rows.sharpBestsRow.inPlace == Tryz.prog.inPlace 6) = true := by kernel_rfl
theorem sharpBests_unfollowed : (Rows.sharpBestsRow.unfollowed == Tryz.prog.unfollowed 6) = true := by kernel_rfl
theorem sharpBests_recurses : (Rows.sharpBestsRow.recurses == Tryz.prog.recurses 6) = true := by kernel_rfl
theorem sharpBests_named : (Rows.sharpBestsRow.named == Tryz.prog.varsNamed 6) = true := by kernel_rfl
theorem sharpBests_joined : joinedFacts Tryz.checked.prog 6 Tryz.f6 Rows.sharpBestsSpec Rows.sharpBestsRow = true :=
 joined_of (by kernel_rfl) laidOut mapsOk (by kernel_rfl) (by kernel_rfl) (by kernel_rfl) stopsNil (by kernel_rfl) knobsNil sharpBests_inPlace sharpBests_unfollowed sharpBests_recurses sharpBests_named
  (by kernel_rfl) (by kernel_rfl) (by kernel_rfl) (by kernel_rfl) (by kernel_rfl) (by kernel_rfl) (by kernel_rfl) (by kernel_rfl) (by kernel_rfl) plainKeysOk (by kernel_rfl) heard enters lifts makes (by kernel_rfl) (by kernel_rfl) (by kernel_rfl) (by kernel_rfl)
theorem sharpBests_lifted (os : Os) (started : os.Started) (H : Type) (enc : TypeId × Value → H) :
 ReturnsInHanded {} Tryz.checked os 6 .any (Rows.sharpBestsSpec.pre6 enc Tryz.prog Tryz.f6 Rows.sharpBestsRow.domain false) (Rows.sharpBestsSpec.post enc Tryz.prog Tryz.f6 false true false false) :=
 law_lifted (C := Tryz.checked) (tb := 4) own started (by kernel_rfl) Tryz.func6 (ChangeSpec.witness6 (enc := enc) (C := Tryz.checked) false ⟨#[], #[.agg #[.int .i64 0, .int .i64 0, .slice none 0 0, .slice none 0 0, .slice none 0 0, .slice none 0 0, .slice none 0 0], .agg #[.int .i64 0, .int .i64 0], .slice none 0 0], []⟩ 8 (by kernel_rfl) (by kernel_rfl) (by kernel_rfl) (by kernel_rfl))
  ZzM.c_w6_SharpBests rfl ZzM.sharpBests_law (by kernel_rfl) rfl (fun ds h => by
   rw [show Tryz.f6.params.toList.length = 3 from by kernel_rfl] at h
   rcases ds with _ | ⟨d1, _ | ⟨d2, _ | ⟨d3, _ | ⟨d4, ds⟩⟩⟩⟩ <;> simp at h
   rfl) laidOut (by kernel_rfl) (by kernel_rfl) (by kernel_rfl)
theorem sharpBests_holds : Rows.SharpBestsSaid :=
 OpenClaim.holds_of_wide 6 Tryz.f6 rfl rfl rfl rfl rfl rfl rfl ⟨rfl, rfl, rfl, rfl, rfl⟩ rfl rfl rfl rfl rfl (by kernel_rfl) Tryz.func6 sharpBests_joined
  (of_decide_eq_true (by kernel_rfl)) (by unfold Func.isWrapper; first | (rw [if_pos (by decide +kernel)]; kernel_rfl) | (rw [if_neg (by decide +kernel)]; exact ⟨rfl, rfl⟩))
  (fun os started H enc _ => sharpBests_lifted os started H enc)
#print axioms sharpBests_holds
end Go.Proofs.YthhhehllmdfhiaaGreat
end