/- The law CompareLosses of layer 5 returns true for every input: losses add up, and what Wears tells is from 0 to the loss of its day and leads from each length to the next one. Conditions: none. -/
import Derived.Test.YtfkfjebiaelniaaGreatMdM
import Derived.Test.YtfkfjebiaelniaaGreatAmE
import Derived.Test.YtfkfjebiaelniaaGreatPlC
import Derived.Test.YtfkfjebiaelniaaGreatFacts
import Derived.Test.YtfkfjebiaelniaaGreatMdC
set_option linter.all false
set_option linter.unusedSectionVars false
set_option linter.unusedVariables false
set_option linter.unusedSimpArgs false
section
namespace Go.Proofs.ZzM
open Go Go.Am
theorem book_num {b : Val tyBook} (h : Go.Am.Rng tyBook b) : ∀ g ∈ (b : Book).2.1, I64 g.2.2.2.2.1.1 := fun g hg => (h.2.1 g hg).2.2.2.2.1.1
theorem compareLosses_law : ∀ x : Val (tyL p_w5_CompareLosses.ts), Go.Am.Rng (tyL p_w5_CompareLosses.ts) x → p_w5_CompareLosses.F x = some true := fun x h => losses_law (book_num h.1) x.2.1 x.2.2.1 x.2.2.2.1 x.2.2.2.2.1 x.2.2.2.2.2
end Go.Proofs.ZzM
end

section
namespace Go.Proofs.YtfkfjebiaelniaaGreat
open Go Go.Am
set_option maxRecDepth 100000
theorem compareLosses_inPlace : (Rows.compareLossesRow.inPlace == Tryz.prog.inPlace 15) = true := by kernel_rfl
theorem compareLosses_unfollowed : (Rows.compareLossesRow.unfollowed == Tryz.prog.unfollowed 15) = true := by kernel_rfl
theorem compareLosses_recurses : (Rows.compareLossesRow.recurses == Tryz.prog.recurses 15) = true := by kernel_rfl
theorem compareLosses_named : (Rows.compareLossesRow.named == Tryz.prog.varsNamed 15) = true := by kernel_rfl
theorem compareLosses_joined : joinedFacts Tryz.checked.prog 15 Tryz.f15 Rows.compareLossesSpec Rows.compareLossesRow = true :=
  joined_of (by kernel_rfl) laidOut mapsOk (by kernel_rfl) (by kernel_rfl) (by kernel_rfl) stopsNil (by kernel_rfl) knobsNil compareLosses_inPlace compareLosses_unfollowed compareLosses_recurses compareLosses_named
    (by kernel_rfl) (by kernel_rfl) (by kernel_rfl) (by kernel_rfl) (by kernel_rfl) (by kernel_rfl) (by kernel_rfl) (by kernel_rfl) (by kernel_rfl) plainKeysOk (by kernel_rfl) heard enters lifts makes (by kernel_rfl) (by kernel_rfl) (by kernel_rfl) (by kernel_rfl)
theorem compareLosses_lifted (os : Os) (started : os.Started) (H : Type) (enc : TypeId × Value → H) :
    ReturnsInHanded {} Tryz.checked os 15 .any (Rows.compareLossesSpec.pre6 enc Tryz.prog Tryz.f15 Rows.compareLossesRow.domain false) (Rows.compareLossesSpec.post enc Tryz.prog Tryz.f15 false true false false) :=
  law_lifted (C := Tryz.checked) (tb := 4) own started (by kernel_rfl) Tryz.func15 (ChangeSpec.witness6 (enc := enc) (C := Tryz.checked) false ⟨#[], #[.agg #[.int .i64 0, .int .i64 0, .slice none 0 0, .slice none 0 0, .slice none 0 0, .slice none 0 0, .slice none 0 0], .int .i64 0, .int .i64 0, .int .i64 0, .int .i64 0, .slice none 0 0], []⟩ 8 (by kernel_rfl) (by kernel_rfl) (by kernel_rfl) (by kernel_rfl))
    ZzM.c_w5_CompareLosses rfl ZzM.compareLosses_law (by kernel_rfl) rfl (fun ds h => by
      rw [show Tryz.f15.params.toList.length = 6 from by kernel_rfl] at h
      rcases ds with _ | ⟨d1, _ | ⟨d2, _ | ⟨d3, _ | ⟨d4, _ | ⟨d5, _ | ⟨d6, _ | ⟨d7, ds⟩⟩⟩⟩⟩⟩⟩ <;> simp at h
      rfl) laidOut (by kernel_rfl) (by kernel_rfl) (by kernel_rfl)
theorem compareLosses_holds : Rows.CompareLossesSaid :=
  OpenClaim.holds_of_wide 15 Tryz.f15 rfl rfl rfl rfl rfl rfl rfl ⟨rfl, rfl, rfl, rfl, rfl⟩ rfl rfl rfl rfl rfl (by kernel_rfl) Tryz.func15 compareLosses_joined
    (of_decide_eq_true (by kernel_rfl)) (by unfold Func.isWrapper; first | (rw [if_pos (by decide +kernel)]; kernel_rfl) | (rw [if_neg (by decide +kernel)]; exact ⟨rfl, rfl⟩))
    (fun os started H enc _ => compareLosses_lifted os started H enc)
#print axioms compareLosses_holds
end Go.Proofs.YtfkfjebiaelniaaGreat
end
