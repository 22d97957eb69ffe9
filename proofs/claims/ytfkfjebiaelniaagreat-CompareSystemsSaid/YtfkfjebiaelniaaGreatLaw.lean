/- For every book of moderate size and a node, CompareSystems returns true and never panics. Conditions: none. -/
import Derived.Test.YtfkfjebiaelniaaGreatMdM
import Derived.Test.YtfkfjebiaelniaaGreatAmE
import Derived.Test.YtfkfjebiaelniaaGreatPlC
import Derived.Test.YtfkfjebiaelniaaGreatFacts
import Derived.Test.YtfkfjebiaelniaaGreatMdC
set_option linter.all false
set_option linter.unusedSectionVars false
set_option linter.unusedVariables false
set_option linter.unusedSimpArgs false
section
namespace Go.Proofs.ZzM
open Go Go.Am
theorem book_num {b : Val tyBook} (h : Go.Am.Rng tyBook b) : ∀ g ∈ (b : Book).2.1, I64 g.2.2.2.2.1.1 := fun g hg => (h.2.1 g hg).2.2.2.2.1.1
theorem compareSystems_law : ∀ x : Val (tyL p_w5_CompareSystems.ts), Go.Am.Rng (tyL p_w5_CompareSystems.ts) x → p_w5_CompareSystems.F x = some true := fun x h => systems_law (book_num h.1) x.2
end Go.Proofs.ZzM
end

section
namespace Go.Proofs.YtfkfjebiaelniaaGreat
open Go Go.Am
set_option maxRecDepth 100000
theorem compareSystems_inPlace : (Rows.compareSystemsRow.inPlace == Tryz.prog.inPlace 11) = true := by kernel_rfl
theorem compareSystems_unfollowed : (Rows.compareSystemsRow.unfollowed == Tryz.prog.unfollowed 11) = true := by kernel_rfl
theorem compareSystems_recurses : (Rows.compareSystemsRow.recurses == Tryz.prog.recurses 11) = true := by kernel_rfl
theorem compareSystems_named : (Rows.compareSystemsRow.named == Tryz.prog.varsNamed 11) = true := by kernel_rfl
theorem compareSystems_joined : joinedFacts Tryz.checked.prog 11 Tryz.f11 Rows.compareSystemsSpec Rows.compareSystemsRow = true :=
  joined_of (by kernel_rfl) laidOut mapsOk (by kernel_rfl) (by kernel_rfl) (by kernel_rfl) stopsNil (by kernel_rfl) knobsNil compareSystems_inPlace compareSystems_unfollowed compareSystems_recurses compareSystems_named
    (by kernel_rfl) (by kernel_rfl) (by kernel_rfl) (by kernel_rfl) (by kernel_rfl) (by kernel_rfl) (by kernel_rfl) (by kernel_rfl) (by kernel_rfl) plainKeysOk (by kernel_rfl) heard enters lifts makes (by kernel_rfl) (by kernel_rfl) (by kernel_rfl) (by kernel_rfl)
theorem compareSystems_lifted (os : Os) (started : os.Started) (H : Type) (enc : TypeId × Value → H) :
    ReturnsInHanded {} Tryz.checked os 11 .any (Rows.compareSystemsSpec.pre6 enc Tryz.prog Tryz.f11 Rows.compareSystemsRow.domain false) (Rows.compareSystemsSpec.post enc Tryz.prog Tryz.f11 false true false false) :=
  law_lifted (C := Tryz.checked) (tb := 4) own started (by kernel_rfl) Tryz.func11 (ChangeSpec.witness6 (enc := enc) (C := Tryz.checked) false ⟨#[], #[.agg #[.int .i64 0, .int .i64 0, .slice none 0 0, .slice none 0 0, .slice none 0 0, .slice none 0 0, .slice none 0 0], .agg #[.int .i64 0, .int .i64 0]], []⟩ 8 (by kernel_rfl) (by kernel_rfl) (by kernel_rfl) (by kernel_rfl))
    ZzM.c_w5_CompareSystems rfl ZzM.compareSystems_law (by kernel_rfl) rfl (fun ds h => by
      rw [show Tryz.f11.params.toList.length = 2 from by kernel_rfl] at h
      rcases ds with _ | ⟨d1, _ | ⟨d2, _ | ⟨d3, ds⟩⟩⟩ <;> simp at h
      rfl) laidOut (by kernel_rfl) (by kernel_rfl) (by kernel_rfl)
theorem compareSystems_holds : Rows.CompareSystemsSaid :=
  OpenClaim.holds_of_wide 11 Tryz.f11 rfl rfl rfl rfl rfl rfl rfl ⟨rfl, rfl, rfl, rfl, rfl⟩ rfl rfl rfl rfl rfl (by kernel_rfl) Tryz.func11 compareSystems_joined
    (of_decide_eq_true (by kernel_rfl)) (by unfold Func.isWrapper; first | (rw [if_pos (by decide +kernel)]; kernel_rfl) | (rw [if_neg (by decide +kernel)]; exact ⟨rfl, rfl⟩))
    (fun os started H enc _ => compareSystems_lifted os started H enc)
#print axioms compareSystems_holds
end Go.Proofs.YtfkfjebiaelniaaGreat
end
