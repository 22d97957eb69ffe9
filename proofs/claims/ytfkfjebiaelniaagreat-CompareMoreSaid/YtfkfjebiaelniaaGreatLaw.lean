/- The law CompareMore of layer 5 returns true for every input: lengths that fit a book of which more is known did so before. Conditions: none. -/
import Derived.Test.YtfkfjebiaelniaaGreatMdM
import Derived.Test.YtfkfjebiaelniaaGreatAmE
import Derived.Test.YtfkfjebiaelniaaGreatPlC
import Derived.Test.YtfkfjebiaelniaaGreatFacts
import Derived.Test.YtfkfjebiaelniaaGreatMdC
set_option linter.all false
set_option linter.unusedSectionVars false
set_option linter.unusedVariables false
set_option linter.unusedSimpArgs false
noncomputable section
namespace Go.Proofs.ZzM
open Go Go.Am
theorem book_num {b : Val tyBook} (h : Go.Am.Rng tyBook b) : ∀ g ∈ (b : Book).2.1, I64 g.2.2.2.2.1.1 := fun g hg => (h.2.1 g hg).2.2.2.2.1.1
theorem compareMore_law : ∀ x : Val (tyL p_w5_CompareMore.ts), Go.Am.Rng (tyL p_w5_CompareMore.ts) x → p_w5_CompareMore.F x = some true := fun x h => more_law (book_num h.1) x.2.1 x.2.2.1 x.2.2.2.1 x.2.2.2.2.1 x.2.2.2.2.2
end Go.Proofs.ZzM
end

noncomputable section
namespace Go.Proofs.YtfkfjebiaelniaaGreat
open Go Go.Am
set_option maxRecDepth 100000
theorem compareMore_inPlace : (Rows.compareMoreRow.inPlace == Tryz.prog.inPlace 7) = true := by kernel_rfl
theorem compareMore_unfollowed : (Rows.compareMoreRow.unfollowed == Tryz.prog.unfollowed 7) = true := by kernel_rfl
theorem compareMore_recurses : (Rows.compareMoreRow.recurses == Tryz.prog.recurses 7) = true := by kernel_rfl
theorem compareMore_named : (Rows.compareMoreRow.named == Tryz.prog.varsNamed 7) = true := by kernel_rfl
theorem compareMore_joined : joinedFacts Tryz.checked.prog 7 Tryz.f7 Rows.compareMoreSpec Rows.compareMoreRow = true :=
  joined_of (by kernel_rfl) laidOut mapsOk (by kernel_rfl) (by kernel_rfl) (by kernel_rfl) stopsNil (by kernel_rfl) knobsNil compareMore_inPlace compareMore_unfollowed compareMore_recurses compareMore_named
    (by kernel_rfl) (by kernel_rfl) (by kernel_rfl) (by kernel_rfl) (by kernel_rfl) (by kernel_rfl) (by kernel_rfl) (by kernel_rfl) (by kernel_rfl) plainKeysOk (by kernel_rfl) heard enters lifts makes (by kernel_rfl) (by kernel_rfl) (by kernel_rfl) (by kernel_rfl)
theorem compareMore_lifted (os : Os) (started : os.Started) (H : Type) (enc : TypeId × Value → H) :
    ReturnsInHanded {} Tryz.checked os 7 .any (Rows.compareMoreSpec.pre6 enc Tryz.prog Tryz.f7 Rows.compareMoreRow.domain false) (Rows.compareMoreSpec.post enc Tryz.prog Tryz.f7 false true false false) :=
  law_lifted (C := Tryz.checked) (tb := 4) own started (by kernel_rfl) Tryz.func7 (ChangeSpec.witness6 (enc := enc) (C := Tryz.checked) false ⟨#[], #[.agg #[.int .i64 0, .int .i64 0, .slice none 0 0, .slice none 0 0, .slice none 0 0, .slice none 0 0, .slice none 0 0], .slice none 0 0, .int .i64 0, .int .i64 0, .agg #[.int .i64 0, .int .i64 0], .agg #[.int .i64 0, .int .i64 0, .slice none 0 0, .slice none 0 0, .int .i64 0, .int .i64 0, .int .i64 0, .int .i64 0]], []⟩ 8 (by kernel_rfl) (by kernel_rfl) (by kernel_rfl) (by kernel_rfl))
    ZzM.c_w5_CompareMore rfl ZzM.compareMore_law (by kernel_rfl) rfl (fun ds h => by
      rw [show Tryz.f7.params.toList.length = 6 from by kernel_rfl] at h
      rcases ds with _ | ⟨d1, _ | ⟨d2, _ | ⟨d3, _ | ⟨d4, _ | ⟨d5, _ | ⟨d6, _ | ⟨d7, ds⟩⟩⟩⟩⟩⟩⟩ <;> simp at h
      rfl) laidOut (by kernel_rfl) (by kernel_rfl) (by kernel_rfl)
theorem compareMore_holds : Rows.CompareMoreSaid :=
  OpenClaim.holds_of_wide 7 Tryz.f7 rfl rfl rfl rfl rfl rfl rfl ⟨rfl, rfl, rfl, rfl, rfl⟩ rfl rfl rfl rfl rfl (by kernel_rfl) Tryz.func7 compareMore_joined
    (of_decide_eq_true (by kernel_rfl)) (by unfold Func.isWrapper; first | (rw [if_pos (by decide +kernel)]; kernel_rfl) | (rw [if_neg (by decide +kernel)]; exact ⟨rfl, rfl⟩))
    (fun os started H enc _ => compareMore_lifted os started H enc)
#print axioms compareMore_holds
end Go.Proofs.YtfkfjebiaelniaaGreat
end
