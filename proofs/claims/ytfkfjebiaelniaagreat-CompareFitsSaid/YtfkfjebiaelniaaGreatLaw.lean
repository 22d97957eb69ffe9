/- The law CompareFits of layer 5 returns true for every input: Fits, Wears and Shows return what the specification returns. Conditions: none. -/
import Derived.Test.YtfkfjebiaelniaaGreatMdM
import Derived.Test.YtfkfjebiaelniaaGreatAmE
import Derived.Test.YtfkfjebiaelniaaGreatPlC
import Derived.Test.YtfkfjebiaelniaaGreatFacts
import Derived.Test.YtfkfjebiaelniaaGreatMdC
set_option linter.all false
set_option linter.unusedSectionVars false
set_option linter.unusedVariables false
set_option linter.unusedSimpArgs false
noncomputable section
namespace Go.Proofs.ZzM
open Go Go.Am
theorem book_num {b : Val tyBook} (h : Go.Am.Rng tyBook b) : ∀ g ∈ (b : Book).2.1, I64 g.2.2.2.2.1.1 := fun g hg => (h.2.1 g hg).2.2.2.2.1.1
theorem compareFits_law : ∀ x : Val (tyL p_w5_CompareFits.ts), Go.Am.Rng (tyL p_w5_CompareFits.ts) x → p_w5_CompareFits.F x = some true := fun x h => fits_law (book_num h.1) x.2.1 x.2.2.1 x.2.2.2
end Go.Proofs.ZzM
end

noncomputable section
namespace Go.Proofs.YtfkfjebiaelniaaGreat
open Go Go.Am
set_option maxRecDepth 100000
theorem compareFits_inPlace : (Rows.compareFitsRow.inPlace == Tryz.prog.inPlace 16) = true := by kernel_rfl
theorem compareFits_unfollowed : (Rows.compareFitsRow.unfollowed == Tryz.prog.unfollowed 16) = true := by kernel_rfl
theorem compareFits_recurses : (Rows.compareFitsRow.recurses == Tryz.prog.recurses 16) = true := by kernel_rfl
theorem compareFits_named : (Rows.compareFitsRow.named == Tryz.prog.varsNamed 16) = true := by kernel_rfl
theorem compareFits_joined : joinedFacts Tryz.checked.prog 16 Tryz.f16 Rows.compareFitsSpec Rows.compareFitsRow = true :=
  joined_of (by kernel_rfl) laidOut mapsOk (by kernel_rfl) (by kernel_rfl) (by kernel_rfl) stopsNil (by kernel_rfl) knobsNil compareFits_inPlace compareFits_unfollowed compareFits_recurses compareFits_named
    (by kernel_rfl) (by kernel_rfl) (by kernel_rfl) (by kernel_rfl) (by kernel_rfl) (by kernel_rfl) (by kernel_rfl) (by kernel_rfl) (by kernel_rfl) plainKeysOk (by kernel_rfl) heard enters lifts makes (by kernel_rfl) (by kernel_rfl) (by kernel_rfl) (by kernel_rfl)
theorem compareFits_lifted (os : Os) (started : os.Started) (H : Type) (enc : TypeId × Value → H) :
    ReturnsInHanded {} Tryz.checked os 16 .any (Rows.compareFitsSpec.pre6 enc Tryz.prog Tryz.f16 Rows.compareFitsRow.domain false) (Rows.compareFitsSpec.post enc Tryz.prog Tryz.f16 false true false false) :=
  law_lifted (C := Tryz.checked) (tb := 4) own started (by kernel_rfl) Tryz.func16 (ChangeSpec.witness6 (enc := enc) (C := Tryz.checked) false ⟨#[], #[.agg #[.int .i64 0, .int .i64 0, .slice none 0 0, .slice none 0 0, .slice none 0 0, .slice none 0 0, .slice none 0 0], .slice none 0 0, .int .i64 0, .int .i64 0], []⟩ 8 (by kernel_rfl) (by kernel_rfl) (by kernel_rfl) (by kernel_rfl))
    ZzM.c_w5_CompareFits rfl ZzM.compareFits_law (by kernel_rfl) rfl (fun ds h => by
      rw [show Tryz.f16.params.toList.length = 4 from by kernel_rfl] at h
      rcases ds with _ | ⟨d1, _ | ⟨d2, _ | ⟨d3, _ | ⟨d4, _ | ⟨d5, ds⟩⟩⟩⟩⟩ <;> simp at h
      rfl) laidOut (by kernel_rfl) (by kernel_rfl) (by kernel_rfl)
theorem compareFits_holds : Rows.CompareFitsSaid :=
  OpenClaim.holds_of_wide 16 Tryz.f16 rfl rfl rfl rfl rfl rfl rfl ⟨rfl, rfl, rfl, rfl, rfl⟩ rfl rfl rfl rfl rfl (by kernel_rfl) Tryz.func16 compareFits_joined
    (of_decide_eq_true (by kernel_rfl)) (by unfold Func.isWrapper; first | (rw [if_pos (by decide +kernel)]; kernel_rfl) | (rw [if_neg (by decide +kernel)]; exact ⟨rfl, rfl⟩))
    (fun os started H enc _ => compareFits_lifted os started H enc)
#print axioms compareFits_holds
end Go.Proofs.YtfkfjebiaelniaaGreat
end
