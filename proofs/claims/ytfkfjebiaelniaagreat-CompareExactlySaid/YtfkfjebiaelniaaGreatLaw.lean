/- For every book of moderate size and a list of at most 70 lengths, CompareExactly (the stage theorem) returns true and never panics. Conditions: none. -/
import Derived.Test.YtfkfjebiaelniaaGreatMdM
import Derived.Test.YtfkfjebiaelniaaGreatAmE
import Derived.Test.YtfkfjebiaelniaaGreatPlC
import Derived.Test.YtfkfjebiaelniaaGreatFacts
import Derived.Test.YtfkfjebiaelniaaGreatMdC
set_option linter.all false
set_option linter.unusedSectionVars false
set_option linter.unusedVariables false
set_option linter.unusedSimpArgs false
section
namespace Go.Proofs.ZzM
open Go Go.Am
theorem book_num {b : Val tyBook} (h : Go.Am.Rng tyBook b) : ∀ g ∈ (b : Book).2.1, I64 g.2.2.2.2.1.1 := fun g hg => (h.2.1 g hg).2.2.2.2.1.1
theorem compareExactly_law : ∀ x : Val (tyL p_wringinglaw05_CompareExactly.ts), Go.Am.Rng (tyL p_wringinglaw05_CompareExactly.ts) x → p_wringinglaw05_CompareExactly.F x = some true := fun x h => exactly_ok (book_num h.1) x.2
end Go.Proofs.ZzM
end

section
namespace Go.Proofs.YtfkfjebiaelniaaGreat
open Go Go.Am
set_option maxRecDepth 100000
theorem compareExactly_inPlace : (Rows.compareExactlyRow.inPlace == Tryz.prog.inPlace 14) = true := by kernel_rfl
theorem compareExactly_unfollowed : (Rows.compareExactlyRow.unfollowed == Tryz.prog.unfollowed 14) = true := by kernel_rfl
theorem compareExactly_recurses : (Rows.compareExactlyRow.recurses == Tryz.prog.recurses 14) = true := by kernel_rfl
theorem compareExactly_named : (Rows.compareExactlyRow.named == Tryz.prog.varsNamed 14) = true := by kernel_rfl
theorem compareExactly_joined : joinedFacts Tryz.checked.prog 14 Tryz.f14 Rows.compareExactlySpec Rows.compareExactlyRow = true :=
  joined_of (by kernel_rfl) laidOut mapsOk (by kernel_rfl) (by kernel_rfl) (by kernel_rfl) stopsNil (by kernel_rfl) knobsNil compareExactly_inPlace compareExactly_unfollowed compareExactly_recurses compareExactly_named
    (by kernel_rfl) (by kernel_rfl) (by kernel_rfl) (by kernel_rfl) (by kernel_rfl) (by kernel_rfl) (by kernel_rfl) (by kernel_rfl) (by kernel_rfl) plainKeysOk (by kernel_rfl) heard enters lifts makes (by kernel_rfl) (by kernel_rfl) (by kernel_rfl) (by kernel_rfl)
theorem compareExactly_lifted (os : Os) (started : os.Started) (H : Type) (enc : TypeId × Value → H) :
    ReturnsInHanded {} Tryz.checked os 14 .any (Rows.compareExactlySpec.pre6 enc Tryz.prog Tryz.f14 Rows.compareExactlyRow.domain false) (Rows.compareExactlySpec.post enc Tryz.prog Tryz.f14 false true false false) :=
  law_lifted (C := Tryz.checked) (tb := 4) own started (by kernel_rfl) Tryz.func14 (ChangeSpec.witness6 (enc := enc) (C := Tryz.checked) false ⟨#[], #[.agg #[.int .i64 0, .int .i64 0, .slice none 0 0, .slice none 0 0, .slice none 0 0, .slice none 0 0, .slice none 0 0], .slice none 0 0], []⟩ 8 (by kernel_rfl) (by kernel_rfl) (by kernel_rfl) (by kernel_rfl))
    ZzM.c_wringinglaw05_CompareExactly rfl ZzM.compareExactly_law (by kernel_rfl) rfl (fun ds h => by
      rw [show Tryz.f14.params.toList.length = 2 from by kernel_rfl] at h
      rcases ds with _ | ⟨d1, _ | ⟨d2, _ | ⟨d3, ds⟩⟩⟩ <;> simp at h
      rfl) laidOut (by kernel_rfl) (by kernel_rfl) (by kernel_rfl)
theorem compareExactly_holds : Rows.CompareExactlySaid :=
  OpenClaim.holds_of_wide 14 Tryz.f14 rfl rfl rfl rfl rfl rfl rfl ⟨rfl, rfl, rfl, rfl, rfl⟩ rfl rfl rfl rfl rfl (by kernel_rfl) Tryz.func14 compareExactly_joined
    (of_decide_eq_true (by kernel_rfl)) (by unfold Func.isWrapper; first | (rw [if_pos (by decide +kernel)]; kernel_rfl) | (rw [if_neg (by decide +kernel)]; exact ⟨rfl, rfl⟩))
    (fun os started H enc _ => compareExactly_lifted os started H enc)
#print axioms compareExactly_holds
end Go.Proofs.YtfkfjebiaelniaaGreat
end
