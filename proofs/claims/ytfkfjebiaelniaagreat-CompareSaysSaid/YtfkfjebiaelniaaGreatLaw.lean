/- For every book of moderate size and an index, CompareSays returns true and never panics. Conditions: none. -/
import Derived.Test.YtfkfjebiaelniaaGreatMdM
import Derived.Test.YtfkfjebiaelniaaGreatAmE
import Derived.Test.YtfkfjebiaelniaaGreatPlC
import Derived.Test.YtfkfjebiaelniaaGreatFacts
import Derived.Test.YtfkfjebiaelniaaGreatMdC
set_option linter.all false
set_option linter.unusedSectionVars false
set_option linter.unusedVariables false
set_option linter.unusedSimpArgs false
section
namespace Go.Proofs.ZzM
open Go Go.Am
theorem book_num {b : Val tyBook} (h : Go.Am.Rng tyBook b) : ∀ g ∈ (b : Book).2.1, I64 g.2.2.2.2.1.1 := fun g hg => (h.2.1 g hg).2.2.2.2.1.1
theorem compareSays_law : ∀ x : Val (tyL p_w5_CompareSays.ts), Go.Am.Rng (tyL p_w5_CompareSays.ts) x → p_w5_CompareSays.F x = some true := fun x h => says_law (book_num h.1) x.2
end Go.Proofs.ZzM
end

section
namespace Go.Proofs.YtfkfjebiaelniaaGreat
open Go Go.Am
set_option maxRecDepth 100000
theorem compareSays_inPlace : (Rows.compareSaysRow.inPlace == Tryz.prog.inPlace 9) = true := by kernel_rfl
theorem compareSays_unfollowed : (Rows.compareSaysRow.unfollowed == Tryz.prog.unfollowed 9) = true := by kernel_rfl
theorem compareSays_recurses : (Rows.compareSaysRow.recurses == Tryz.prog.recurses 9) = true := by kernel_rfl
theorem compareSays_named : (Rows.compareSaysRow.named == Tryz.prog.varsNamed 9) = true := by kernel_rfl
theorem compareSays_joined : joinedFacts Tryz.checked.prog 9 Tryz.f9 Rows.compareSaysSpec Rows.compareSaysRow = true :=
  joined_of (by kernel_rfl) laidOut mapsOk (by kernel_rfl) (by kernel_rfl) (by kernel_rfl) stopsNil (by kernel_rfl) knobsNil compareSays_inPlace compareSays_unfollowed compareSays_recurses compareSays_named
    (by kernel_rfl) (by kernel_rfl) (by kernel_rfl) (by kernel_rfl) (by kernel_rfl) (by kernel_rfl) (by kernel_rfl) (by kernel_rfl) (by kernel_rfl) plainKeysOk (by kernel_rfl) heard enters lifts makes (by kernel_rfl) (by kernel_rfl) (by kernel_rfl) (by kernel_rfl)
theorem compareSays_lifted (os : Os) (started : os.Started) (H : Type) (enc : TypeId × Value → H) :
    ReturnsInHanded {} Tryz.checked os 9 .any (Rows.compareSaysSpec.pre6 enc Tryz.prog Tryz.f9 Rows.compareSaysRow.domain false) (Rows.compareSaysSpec.post enc Tryz.prog Tryz.f9 false true false false) :=
  law_lifted (C := Tryz.checked) (tb := 4) own started (by kernel_rfl) Tryz.func9 (ChangeSpec.witness6 (enc := enc) (C := Tryz.checked) false ⟨#[], #[.agg #[.int .i64 0, .int .i64 0, .slice none 0 0, .slice none 0 0, .slice none 0 0, .slice none 0 0, .slice none 0 0], .int .i64 0], []⟩ 8 (by kernel_rfl) (by kernel_rfl) (by kernel_rfl) (by kernel_rfl))
    ZzM.c_w5_CompareSays rfl ZzM.compareSays_law (by kernel_rfl) rfl (fun ds h => by
      rw [show Tryz.f9.params.toList.length = 2 from by kernel_rfl] at h
      rcases ds with _ | ⟨d1, _ | ⟨d2, _ | ⟨d3, ds⟩⟩⟩ <;> simp at h
      rfl) laidOut (by kernel_rfl) (by kernel_rfl) (by kernel_rfl)
theorem compareSays_holds : Rows.CompareSaysSaid :=
  OpenClaim.holds_of_wide 9 Tryz.f9 rfl rfl rfl rfl rfl rfl rfl ⟨rfl, rfl, rfl, rfl, rfl⟩ rfl rfl rfl rfl rfl (by kernel_rfl) Tryz.func9 compareSays_joined
    (of_decide_eq_true (by kernel_rfl)) (by unfold Func.isWrapper; first | (rw [if_pos (by decide +kernel)]; kernel_rfl) | (rw [if_neg (by decide +kernel)]; exact ⟨rfl, rfl⟩))
    (fun os started H enc _ => compareSays_lifted os started H enc)
#print axioms compareSays_holds
end Go.Proofs.YtfkfjebiaelniaaGreat
end
