/- The law ComparePredicts of layer 5 returns true for every input: Predict returns what the specification returns. Conditions: none. -/
import Derived.Test.YtfkfjebiaelniaaGreatMdM
import Derived.Test.YtfkfjebiaelniaaGreatAmE
import Derived.Test.YtfkfjebiaelniaaGreatPlC
import Derived.Test.YtfkfjebiaelniaaGreatFacts
import Derived.Test.YtfkfjebiaelniaaGreatMdC
set_option linter.all false
set_option linter.unusedSectionVars false
set_option linter.unusedVariables false
set_option linter.unusedSimpArgs false
noncomputable section
namespace Go.Proofs.ZzM
open Go Go.Am
theorem book_num {b : Val tyBook} (h : Go.Am.Rng tyBook b) : ∀ g ∈ (b : Book).2.1, I64 g.2.2.2.2.1.1 := fun g hg => (h.2.1 g hg).2.2.2.2.1.1
theorem comparePredicts_law : ∀ x : Val (tyL p_w5_ComparePredicts.ts), Go.Am.Rng (tyL p_w5_ComparePredicts.ts) x → p_w5_ComparePredicts.F x = some true := fun x h => predicts_law (book_num h.1) x.2
end Go.Proofs.ZzM
end

noncomputable section
namespace Go.Proofs.YtfkfjebiaelniaaGreat
open Go Go.Am
set_option maxRecDepth 100000
theorem comparePredicts_inPlace : (Rows.comparePredictsRow.inPlace == Tryz.prog.inPlace 3) = true := by kernel_rfl
theorem comparePredicts_unfollowed : (Rows.comparePredictsRow.unfollowed == Tryz.prog.unfollowed 3) = true := by kernel_rfl
theorem comparePredicts_recurses : (Rows.comparePredictsRow.recurses == Tryz.prog.recurses 3) = true := by kernel_rfl
theorem comparePredicts_named : (Rows.comparePredictsRow.named == Tryz.prog.varsNamed 3) = true := by kernel_rfl
theorem comparePredicts_joined : joinedFacts Tryz.checked.prog 3 Tryz.f3 Rows.comparePredictsSpec Rows.comparePredictsRow = true :=
  joined_of (by kernel_rfl) laidOut mapsOk (by kernel_rfl) (by kernel_rfl) (by kernel_rfl) stopsNil (by kernel_rfl) knobsNil comparePredicts_inPlace comparePredicts_unfollowed comparePredicts_recurses comparePredicts_named
    (by kernel_rfl) (by kernel_rfl) (by kernel_rfl) (by kernel_rfl) (by kernel_rfl) (by kernel_rfl) (by kernel_rfl) (by kernel_rfl) (by kernel_rfl) plainKeysOk (by kernel_rfl) heard enters lifts makes (by kernel_rfl) (by kernel_rfl) (by kernel_rfl) (by kernel_rfl)
theorem comparePredicts_lifted (os : Os) (started : os.Started) (H : Type) (enc : TypeId × Value → H) :
    ReturnsInHanded {} Tryz.checked os 3 .any (Rows.comparePredictsSpec.pre6 enc Tryz.prog Tryz.f3 Rows.comparePredictsRow.domain false) (Rows.comparePredictsSpec.post enc Tryz.prog Tryz.f3 false true false false) :=
  law_lifted (C := Tryz.checked) (tb := 4) own started (by kernel_rfl) Tryz.func3 (ChangeSpec.witness6 (enc := enc) (C := Tryz.checked) false ⟨#[], #[.agg #[.int .i64 0, .int .i64 0, .slice none 0 0, .slice none 0 0, .slice none 0 0, .slice none 0 0, .slice none 0 0], .agg #[.int .i64 0, .int .i64 0, .slice none 0 0, .slice none 0 0, .int .i64 0, .int .i64 0, .int .i64 0, .int .i64 0]], []⟩ 8 (by kernel_rfl) (by kernel_rfl) (by kernel_rfl) (by kernel_rfl))
    ZzM.c_w5_ComparePredicts rfl ZzM.comparePredicts_law (by kernel_rfl) rfl (fun ds h => by
      rw [show Tryz.f3.params.toList.length = 2 from by kernel_rfl] at h
      rcases ds with _ | ⟨d1, _ | ⟨d2, _ | ⟨d3, ds⟩⟩⟩ <;> simp at h
      rfl) laidOut (by kernel_rfl) (by kernel_rfl) (by kernel_rfl)
theorem comparePredicts_holds : Rows.ComparePredictsSaid :=
  OpenClaim.holds_of_wide 3 Tryz.f3 rfl rfl rfl rfl rfl rfl rfl ⟨rfl, rfl, rfl, rfl, rfl⟩ rfl rfl rfl rfl rfl (by kernel_rfl) Tryz.func3 comparePredicts_joined
    (of_decide_eq_true (by kernel_rfl)) (by unfold Func.isWrapper; first | (rw [if_pos (by decide +kernel)]; kernel_rfl) | (rw [if_neg (by decide +kernel)]; exact ⟨rfl, rfl⟩))
    (fun os started H enc _ => comparePredicts_lifted os started H enc)
#print axioms comparePredicts_holds
end Go.Proofs.YtfkfjebiaelniaaGreat
end
