/- The law CompareRepeats of layer 5 returns true for every input: a comparison that is added twice changes nothing that fits, and no prediction becomes wider. Conditions: none. -/
import Derived.Test.YtfkfjebiaelniaaGreatMdM
import Derived.Test.YtfkfjebiaelniaaGreatAmE
import Derived.Test.YtfkfjebiaelniaaGreatPlC
import Derived.Test.YtfkfjebiaelniaaGreatFacts
import Derived.Test.YtfkfjebiaelniaaGreatMdC
set_option linter.all false
set_option linter.unusedSectionVars false
set_option linter.unusedVariables false
set_option linter.unusedSimpArgs false
noncomputable section
namespace Go.Proofs.ZzM
open Go Go.Am
theorem book_num {b : Val tyBook} (h : Go.Am.Rng tyBook b) : ∀ g ∈ (b : Book).2.1, I64 g.2.2.2.2.1.1 := fun g hg => (h.2.1 g hg).2.2.2.2.1.1
theorem compareRepeats_law : ∀ x : Val (tyL p_w5_CompareRepeats.ts), Go.Am.Rng (tyL p_w5_CompareRepeats.ts) x → p_w5_CompareRepeats.F x = some true := fun x h => repeats_law (book_num h.1) (c := x.2.1) h.2.1.1 x.2.2.1 x.2.2.2
end Go.Proofs.ZzM
end

noncomputable section
namespace Go.Proofs.YtfkfjebiaelniaaGreat
open Go Go.Am
set_option maxRecDepth 100000
theorem compareRepeats_inPlace : (Rows.compareRepeatsRow.inPlace == Tryz.prog.inPlace 6) = true := by kernel_rfl
theorem compareRepeats_unfollowed : (Rows.compareRepeatsRow.unfollowed == Tryz.prog.unfollowed 6) = true := by kernel_rfl
theorem compareRepeats_recurses : (Rows.compareRepeatsRow.recurses == Tryz.prog.recurses 6) = true := by kernel_rfl
theorem compareRepeats_named : (Rows.compareRepeatsRow.named == Tryz.prog.varsNamed 6) = true := by kernel_rfl
theorem compareRepeats_joined : joinedFacts Tryz.checked.prog 6 Tryz.f6 Rows.compareRepeatsSpec Rows.compareRepeatsRow = true :=
  joined_of (by kernel_rfl) laidOut mapsOk (by kernel_rfl) (by kernel_rfl) (by kernel_rfl) stopsNil (by kernel_rfl) knobsNil compareRepeats_inPlace compareRepeats_unfollowed compareRepeats_recurses compareRepeats_named
    (by kernel_rfl) (by kernel_rfl) (by kernel_rfl) (by kernel_rfl) (by kernel_rfl) (by kernel_rfl) (by kernel_rfl) (by kernel_rfl) (by kernel_rfl) plainKeysOk (by kernel_rfl) heard enters lifts makes (by kernel_rfl) (by kernel_rfl) (by kernel_rfl) (by kernel_rfl)
theorem compareRepeats_lifted (os : Os) (started : os.Started) (H : Type) (enc : TypeId × Value → H) :
    ReturnsInHanded {} Tryz.checked os 6 .any (Rows.compareRepeatsSpec.pre6 enc Tryz.prog Tryz.f6 Rows.compareRepeatsRow.domain false) (Rows.compareRepeatsSpec.post enc Tryz.prog Tryz.f6 false true false false) :=
  law_lifted (C := Tryz.checked) (tb := 4) own started (by kernel_rfl) Tryz.func6 (ChangeSpec.witness6 (enc := enc) (C := Tryz.checked) false ⟨#[], #[.agg #[.int .i64 0, .int .i64 0, .slice none 0 0, .slice none 0 0, .slice none 0 0, .slice none 0 0, .slice none 0 0], .agg #[.int .i64 0, .int .i64 0, .slice none 0 0, .slice none 0 0, .int .i64 0, .int .i64 0, .int .i64 0, .int .i64 0], .agg #[.int .i64 0, .int .i64 0, .slice none 0 0, .slice none 0 0, .int .i64 0, .int .i64 0, .int .i64 0, .int .i64 0], .slice none 0 0], []⟩ 8 (by kernel_rfl) (by kernel_rfl) (by kernel_rfl) (by kernel_rfl))
    ZzM.c_w5_CompareRepeats rfl ZzM.compareRepeats_law (by kernel_rfl) rfl (fun ds h => by
      rw [show Tryz.f6.params.toList.length = 4 from by kernel_rfl] at h
      rcases ds with _ | ⟨d1, _ | ⟨d2, _ | ⟨d3, _ | ⟨d4, _ | ⟨d5, ds⟩⟩⟩⟩⟩ <;> simp at h
      rfl) laidOut (by kernel_rfl) (by kernel_rfl) (by kernel_rfl)
theorem compareRepeats_holds : Rows.CompareRepeatsSaid :=
  OpenClaim.holds_of_wide 6 Tryz.f6 rfl rfl rfl rfl rfl rfl rfl ⟨rfl, rfl, rfl, rfl, rfl⟩ rfl rfl rfl rfl rfl (by kernel_rfl) Tryz.func6 compareRepeats_joined
    (of_decide_eq_true (by kernel_rfl)) (by unfold Func.isWrapper; first | (rw [if_pos (by decide +kernel)]; kernel_rfl) | (rw [if_neg (by decide +kernel)]; exact ⟨rfl, rfl⟩))
    (fun os started H enc _ => compareRepeats_lifted os started H enc)
#print axioms compareRepeats_holds
end Go.Proofs.YtfkfjebiaelniaaGreat
end
