/- For every book of moderate size, a day and two lists of at most nine elements, ComparePiles returns true and never panics. Conditions: none. -/
import Derived.Test.YtfkfjebiaelniaaGreatMdM
import Derived.Test.YtfkfjebiaelniaaGreatAmE
import Derived.Test.YtfkfjebiaelniaaGreatPlC
import Derived.Test.YtfkfjebiaelniaaGreatFacts
import Derived.Test.YtfkfjebiaelniaaGreatMdC
set_option linter.all false
set_option linter.unusedSectionVars false
set_option linter.unusedVariables false
set_option linter.unusedSimpArgs false
section
namespace Go.Proofs.ZzM
open Go Go.Am
theorem book_num {b : Val tyBook} (h : Go.Am.Rng tyBook b) : ∀ g ∈ (b : Book).2.1, I64 g.2.2.2.2.1.1 := fun g hg => (h.2.1 g hg).2.2.2.2.1.1
theorem comparePiles_law : ∀ x : Val (tyL p_w5_ComparePiles.ts), Go.Am.Rng (tyL p_w5_ComparePiles.ts) x → p_w5_ComparePiles.F x = some true := fun x h => piles_law (book_num h.1) x.2.1 x.2.2.1 x.2.2.2
end Go.Proofs.ZzM
end

section
namespace Go.Proofs.YtfkfjebiaelniaaGreat
open Go Go.Am
set_option maxRecDepth 100000
theorem comparePiles_inPlace : (Rows.comparePilesRow.inPlace == Tryz.prog.inPlace 8) = true := by kernel_rfl
theorem comparePiles_unfollowed : (Rows.comparePilesRow.unfollowed == Tryz.prog.unfollowed 8) = true := by kernel_rfl
theorem comparePiles_recurses : (Rows.comparePilesRow.recurses == Tryz.prog.recurses 8) = true := by kernel_rfl
theorem comparePiles_named : (Rows.comparePilesRow.named == Tryz.prog.varsNamed 8) = true := by kernel_rfl
theorem comparePiles_joined : joinedFacts Tryz.checked.prog 8 Tryz.f8 Rows.comparePilesSpec Rows.comparePilesRow = true :=
  joined_of (by kernel_rfl) laidOut mapsOk (by kernel_rfl) (by kernel_rfl) (by kernel_rfl) stopsNil (by kernel_rfl) knobsNil comparePiles_inPlace comparePiles_unfollowed comparePiles_recurses comparePiles_named
    (by kernel_rfl) (by kernel_rfl) (by kernel_rfl) (by kernel_rfl) (by kernel_rfl) (by kernel_rfl) (by kernel_rfl) (by kernel_rfl) (by kernel_rfl) plainKeysOk (by kernel_rfl) heard enters lifts makes (by kernel_rfl) (by kernel_rfl) (by kernel_rfl) (by kernel_rfl)
theorem comparePiles_lifted (os : Os) (started : os.Started) (H : Type) (enc : TypeId × Value → H) :
    ReturnsInHanded {} Tryz.checked os 8 .any (Rows.comparePilesSpec.pre6 enc Tryz.prog Tryz.f8 Rows.comparePilesRow.domain false) (Rows.comparePilesSpec.post enc Tryz.prog Tryz.f8 false true false false) :=
  law_lifted (C := Tryz.checked) (tb := 4) own started (by kernel_rfl) Tryz.func8 (ChangeSpec.witness6 (enc := enc) (C := Tryz.checked) false ⟨#[], #[.agg #[.int .i64 0, .int .i64 0, .slice none 0 0, .slice none 0 0, .slice none 0 0, .slice none 0 0, .slice none 0 0], .int .i64 0, .slice none 0 0, .slice none 0 0], []⟩ 8 (by kernel_rfl) (by kernel_rfl) (by kernel_rfl) (by kernel_rfl))
    ZzM.c_w5_ComparePiles rfl ZzM.comparePiles_law (by kernel_rfl) rfl (fun ds h => by
      rw [show Tryz.f8.params.toList.length = 4 from by kernel_rfl] at h
      rcases ds with _ | ⟨d1, _ | ⟨d2, _ | ⟨d3, _ | ⟨d4, _ | ⟨d5, ds⟩⟩⟩⟩⟩ <;> simp at h
      rfl) laidOut (by kernel_rfl) (by kernel_rfl) (by kernel_rfl)
theorem comparePiles_holds : Rows.ComparePilesSaid :=
  OpenClaim.holds_of_wide 8 Tryz.f8 rfl rfl rfl rfl rfl rfl rfl ⟨rfl, rfl, rfl, rfl, rfl⟩ rfl rfl rfl rfl rfl (by kernel_rfl) Tryz.func8 comparePiles_joined
    (of_decide_eq_true (by kernel_rfl)) (by unfold Func.isWrapper; first | (rw [if_pos (by decide +kernel)]; kernel_rfl) | (rw [if_neg (by decide +kernel)]; exact ⟨rfl, rfl⟩))
    (fun os started H enc _ => comparePiles_lifted os started H enc)
#print axioms comparePiles_holds
end Go.Proofs.YtfkfjebiaelniaaGreat
end
