/- The law CompareShown of layer 5 returns true for every input: what can be shown is what leaves the lengths fitting, and what is predicted is what leaves a history. Conditions: none. -/
import Derived.Test.YtfkfjebiaelniaaGreatMdM
import Derived.Test.YtfkfjebiaelniaaGreatAmE
import Derived.Test.YtfkfjebiaelniaaGreatPlC
import Derived.Test.YtfkfjebiaelniaaGreatFacts
import Derived.Test.YtfkfjebiaelniaaGreatMdC
set_option linter.all false
set_option linter.unusedSectionVars false
set_option linter.unusedVariables false
set_option linter.unusedSimpArgs false
noncomputable section
namespace Go.Proofs.ZzM
open Go Go.Am
theorem book_num {b : Val tyBook} (h : Go.Am.Rng tyBook b) : ∀ g ∈ (b : Book).2.1, I64 g.2.2.2.2.1.1 := fun g hg => (h.2.1 g hg).2.2.2.2.1.1
theorem compareShown_law : ∀ x : Val (tyL p_w5_CompareShown.ts), Go.Am.Rng (tyL p_w5_CompareShown.ts) x → p_w5_CompareShown.F x = some true := fun x h => shown_law (book_num h.1) x.2.1 x.2.2.1 x.2.2.2
end Go.Proofs.ZzM
end

noncomputable section
namespace Go.Proofs.YtfkfjebiaelniaaGreat
open Go Go.Am
set_option maxRecDepth 100000
theorem compareShown_inPlace : (Rows.compareShownRow.inPlace == Tryz.prog.inPlace 13) = true := by kernel_rfl
theorem compareShown_unfollowed : (Rows.compareShownRow.unfollowed == Tryz.prog.unfollowed 13) = true := by kernel_rfl
theorem compareShown_recurses : (Rows.compareShownRow.recurses == Tryz.prog.recurses 13) = true := by kernel_rfl
theorem compareShown_named : (Rows.compareShownRow.named == Tryz.prog.varsNamed 13) = true := by kernel_rfl
theorem compareShown_joined : joinedFacts Tryz.checked.prog 13 Tryz.f13 Rows.compareShownSpec Rows.compareShownRow = true :=
  joined_of (by kernel_rfl) laidOut mapsOk (by kernel_rfl) (by kernel_rfl) (by kernel_rfl) stopsNil (by kernel_rfl) knobsNil compareShown_inPlace compareShown_unfollowed compareShown_recurses compareShown_named
    (by kernel_rfl) (by kernel_rfl) (by kernel_rfl) (by kernel_rfl) (by kernel_rfl) (by kernel_rfl) (by kernel_rfl) (by kernel_rfl) (by kernel_rfl) plainKeysOk (by kernel_rfl) heard enters lifts makes (by kernel_rfl) (by kernel_rfl) (by kernel_rfl) (by kernel_rfl)
theorem compareShown_lifted (os : Os) (started : os.Started) (H : Type) (enc : TypeId × Value → H) :
    ReturnsInHanded {} Tryz.checked os 13 .any (Rows.compareShownSpec.pre6 enc Tryz.prog Tryz.f13 Rows.compareShownRow.domain false) (Rows.compareShownSpec.post enc Tryz.prog Tryz.f13 false true false false) :=
  law_lifted (C := Tryz.checked) (tb := 4) own started (by kernel_rfl) Tryz.func13 (ChangeSpec.witness6 (enc := enc) (C := Tryz.checked) false ⟨#[], #[.agg #[.int .i64 0, .int .i64 0, .slice none 0 0, .slice none 0 0, .slice none 0 0, .slice none 0 0, .slice none 0 0], .slice none 0 0, .agg #[.int .i64 0, .int .i64 0, .slice none 0 0, .slice none 0 0, .int .i64 0, .int .i64 0, .int .i64 0, .int .i64 0], .int .i64 0], []⟩ 8 (by kernel_rfl) (by kernel_rfl) (by kernel_rfl) (by kernel_rfl))
    ZzM.c_w5_CompareShown rfl ZzM.compareShown_law (by kernel_rfl) rfl (fun ds h => by
      rw [show Tryz.f13.params.toList.length = 4 from by kernel_rfl] at h
      rcases ds with _ | ⟨d1, _ | ⟨d2, _ | ⟨d3, _ | ⟨d4, _ | ⟨d5, ds⟩⟩⟩⟩⟩ <;> simp at h
      rfl) laidOut (by kernel_rfl) (by kernel_rfl) (by kernel_rfl)
theorem compareShown_holds : Rows.CompareShownSaid :=
  OpenClaim.holds_of_wide 13 Tryz.f13 rfl rfl rfl rfl rfl rfl rfl ⟨rfl, rfl, rfl, rfl, rfl⟩ rfl rfl rfl rfl rfl (by kernel_rfl) Tryz.func13 compareShown_joined
    (of_decide_eq_true (by kernel_rfl)) (by unfold Func.isWrapper; first | (rw [if_pos (by decide +kernel)]; kernel_rfl) | (rw [if_neg (by decide +kernel)]; exact ⟨rfl, rfl⟩))
    (fun os started H enc _ => compareShown_lifted os started H enc)
#print axioms compareShown_holds
end Go.Proofs.YtfkfjebiaelniaaGreat
end
