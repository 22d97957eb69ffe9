/- For every book of moderate size, two nodes, and lengths that fit the book of both: the lengths lie in the intervals of the nodes, their difference in Between, and History reaches both ends of an interval with lengths that fit. Conditions: none. -/
import Derived.Test.YthhhehllmdfhiaaGreatMdMA
import Derived.Test.YthhhehllmdfhiaaGreatAmB
import Derived.Test.YthhhehllmdfhiaaGreatPlB
import Derived.Test.YthhhehllmdfhiaaGreatFactsA
import Derived.Test.YthhhehllmdfhiaaGreatMdCA
set_option linter.all false
set_option linter.unusedSectionVars false
set_option linter.unusedVariables false
set_option linter.unusedSimpArgs false
noncomputable section
namespace Go.Proofs.ZzM
open Go Go.Am
theorem book_num {b : Val bg} (h : Go.Am.Rng bg b) : ∀ g ∈ (b : bH).2.1, I64 g.2.2.2.2.1.1 := fun g hg => (h.2.1 g hg).2.2.2.2.1.1
theorem sharpHolds_law : ∀ x : Val (tyL jD.ts), Go.Am.Rng (tyL jD.ts) x → jD.F x = some true := fun x h => YK (book_num h.1) x.2.1 x.2.2.1 x.2.2.2
end Go.Proofs.ZzM
end
noncomputable section
namespace Go.Proofs.YthhhehllmdfhiaaGreat
open Go Go.Am
set_option maxRecDepth 100000
theorem sharpHolds_inPlace : (Rows.sharpHoldsRow.inPlace == Tryz.prog.inPlace 7) = true := by kernel_rfl
theorem sharpHolds_unfollowed : (Rows.sharpHoldsRow.unfollowed == Tryz.prog.unfollowed 7) = true := by kernel_rfl
theorem sharpHolds_recurses : (Rows.sharpHoldsRow.recurses == Tryz.prog.recurses 7) = true := by kernel_rfl
theorem sharpHolds_named : (Rows.sharpHoldsRow.named == Tryz.prog.varsNamed 7) = true := by kernel_rfl
theorem sharpHolds_joined : joinedFacts Tryz.checked.prog 7 Tryz.f7 Rows.sharpHoldsSpec Rows.sharpHoldsRow = true :=
 joined_of (by kernel_rfl) laidOut mapsOk (by kernel_rfl) (by kernel_rfl) (by kernel_rfl) stopsNil (by kernel_rfl) knobsNil sharpHolds_inPlace sharpHolds_unfollowed sharpHolds_recurses sharpHolds_named
  (by kernel_rfl) (by kernel_rfl) (by kernel_rfl) (by kernel_rfl) (by kernel_rfl) (by kernel_rfl) (by kernel_rfl) (by kernel_rfl) (by kernel_rfl) plainKeysOk (by kernel_rfl) heard enters lifts makes (by kernel_rfl) (by kernel_rfl) (by kernel_rfl) (by kernel_rfl)
theorem sharpHolds_lifted (os : Os) (started : os.Started) (H : Type) (enc : TypeId × Value → H) :
 ReturnsInHanded {} Tryz.checked os 7 .any (Rows.sharpHoldsSpec.pre6 enc Tryz.prog Tryz.f7 Rows.sharpHoldsRow.domain false) (Rows.sharpHoldsSpec.post enc Tryz.prog Tryz.f7 false true false false) :=
 law_lifted (C := Tryz.checked) (tb := 4) own started (by kernel_rfl) Tryz.func7 (ChangeSpec.witness6 (enc := enc) (C := Tryz.checked) false ⟨#[], #[.agg #[.int .i64 0, .int .i64 0, .slice none 0 0, .slice none 0 0, .slice none 0 0, .slice none 0 0, .slice none 0 0], .agg #[.int .i64 0, .int .i64 0], .agg #[.int .i64 0, .int .i64 0], .slice none 0 0], []⟩ 8 (by kernel_rfl) (by kernel_rfl) (by kernel_rfl) (by kernel_rfl))
  ZzM.c_w6_SharpHolds rfl ZzM.sharpHolds_law (by kernel_rfl) rfl (fun ds h => by
   rw [show Tryz.f7.params.toList.length = 4 from by kernel_rfl] at h
   rcases ds with _ | ⟨d1, _ | ⟨d2, _ | ⟨d3, _ | ⟨d4, _ | ⟨d5, ds⟩⟩⟩⟩⟩ <;> simp at h
   rfl) laidOut (by kernel_rfl) (by kernel_rfl) (by kernel_rfl)
theorem sharpHolds_holds : Rows.SharpHoldsSaid :=
 OpenClaim.holds_of_wide 7 Tryz.f7 rfl rfl rfl rfl rfl rfl rfl ⟨rfl, rfl, rfl, rfl, rfl⟩ rfl rfl rfl rfl rfl (by kernel_rfl) Tryz.func7 sharpHolds_joined
  (of_decide_eq_true (by kernel_rfl)) (by unfold Func.isWrapper; first | (rw [if_pos (by decide +kernel)]; kernel_rfl) | (rw [if_neg (by decide +kernel)]; exact ⟨rfl, rfl⟩))
  (fun os started H enc _ => sharpHolds_lifted os started H enc)
#print axioms sharpHolds_holds
end Go.Proofs.YthhhehllmdfhiaaGreat
end