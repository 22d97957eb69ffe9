/- For every book of moderate size, a node and limits, there is a history within the limits, or one outside of them, exactly as Judge says, and both witnesses fit the book and are what they should be. Conditions: none. -/
import Derived.Test.YthhhehllmdfhiaaGreatMdMA
import Derived.Test.YthhhehllmdfhiaaGreatAmB
import Derived.Test.YthhhehllmdfhiaaGreatPlB
import Derived.Test.YthhhehllmdfhiaaGreatFactsA
import Derived.Test.YthhhehllmdfhiaaGreatMdCA
set_option linter.all false
set_option linter.unusedSectionVars false
set_option linter.unusedVariables false
set_option linter.unusedSimpArgs false
noncomputable section
namespace Go.Proofs.ZzM
open Go Go.Am
theorem book_num {b : Val ab7} (h : Go.Am.Rng ab7 b) : ∀ g ∈ (b : acw).2.1, I64 g.2.2.2.2.1.1 := fun g hg => (h.2.1 g hg).2.2.2.2.1.1
theorem sharpWitnesses_law : ∀ x : Val (tyL afM.ts), Go.Am.Rng (tyL afM.ts) x → afM.F x = some true := fun x h => aFF (book_num h.1) x.2.1 x.2.2
end Go.Proofs.ZzM
end
noncomputable section
namespace Go.Proofs.YthhhehllmdfhiaaGreat
open Go Go.Am
set_option maxRecDepth 100000
theorem sharpWitnesses_inPlace : (Rows.sharpWitnessesRow.inPlace == Tryz.prog.inPlace 5) = true := by kernel_rfl
theorem sharpWitnesses_unfollowed : (Rows.sharpWitnessesRow.unfollowed == Tryz.prog.unfollowed 5) = true := by kernel_rfl
theorem sharpWitnesses_recurses : (Rows.sharpWitnessesRow.recurses == Tryz.prog.recurses 5) = true := by kernel_rfl
theorem sharpWitnesses_named : (Rows.sharpWitnessesRow.named == Tryz.prog.varsNamed 5) = true := by kernel_rfl
theorem sharpWitnesses_joined : joinedFacts Tryz.checked.prog 5 Tryz.f5 Rows.sharpWitnessesSpec Rows.sharpWitnessesRow = true :=
 joined_of (by kernel_rfl) laidOut mapsOk (by kernel_rfl) (by kernel_rfl) (by kernel_rfl) stopsNil (by kernel_rfl) knobsNil sharpWitnesses_inPlace sharpWitnesses_unfollowed sharpWitnesses_recurses sharpWitnesses_named
  (by kernel_rfl) (by kernel_rfl) (by kernel_rfl) (by kernel_rfl) (by kernel_rfl) (by kernel_rfl) (by kernel_rfl) (by kernel_rfl) (by kernel_rfl) plainKeysOk (by kernel_rfl) heard enters lifts makes (by kernel_rfl) (by kernel_rfl) (by kernel_rfl) (by kernel_rfl)
theorem sharpWitnesses_lifted (os : Os) (started : os.Started) (H : Type) (enc : TypeId × Value → H) :
 ReturnsInHanded {} Tryz.checked os 5 .any (Rows.sharpWitnessesSpec.pre6 enc Tryz.prog Tryz.f5 Rows.sharpWitnessesRow.domain false) (Rows.sharpWitnessesSpec.post enc Tryz.prog Tryz.f5 false true false false) :=
 law_lifted (C := Tryz.checked) (tb := 4) own started (by kernel_rfl) Tryz.func5 (ChangeSpec.witness6 (enc := enc) (C := Tryz.checked) false ⟨#[], #[.agg #[.int .i64 0, .int .i64 0, .slice none 0 0, .slice none 0 0, .slice none 0 0, .slice none 0 0, .slice none 0 0], .agg #[.int .i64 0, .int .i64 0], .agg #[.int .i64 0, .int .i64 0]], []⟩ 8 (by kernel_rfl) (by kernel_rfl) (by kernel_rfl) (by kernel_rfl))
  ZzM.c_w6_SharpWitnesses rfl ZzM.sharpWitnesses_law (by kernel_rfl) rfl (fun ds h => by
   rw [show Tryz.f5.params.toList.length = 3 from by kernel_rfl] at h
   rcases ds with _ | ⟨d1, _ | ⟨d2, _ | ⟨d3, _ | ⟨d4, ds⟩⟩⟩⟩ <;> simp at h
   rfl) laidOut (by kernel_rfl) (by kernel_rfl) (by kernel_rfl)
theorem sharpWitnesses_holds : Rows.SharpWitnessesSaid :=
 OpenClaim.holds_of_wide 5 Tryz.f5 rfl rfl rfl rfl rfl rfl rfl ⟨rfl, rfl, rfl, rfl, rfl⟩ rfl rfl rfl rfl rfl (by kernel_rfl) Tryz.func5 sharpWitnesses_joined
  (of_decide_eq_true (by kernel_rfl)) (by unfold Func.isWrapper; first | (rw [if_pos (by decide +kernel)]; kernel_rfl) | (rw [if_neg (by decide +kernel)]; exact ⟨rfl, rfl⟩))
  (fun os started H enc _ => sharpWitnesses_lifted os started H enc)
#print axioms sharpWitnesses_holds
end Go.Proofs.YthhhehllmdfhiaaGreat
end