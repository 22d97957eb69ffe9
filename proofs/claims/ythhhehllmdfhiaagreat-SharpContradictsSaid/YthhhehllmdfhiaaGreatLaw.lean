/- For every book of moderate size, a certificate and lengths, there is a certificate of a contradiction that stands exactly if the book has no history, and if one is accepted no lengths fit its book. Conditions: none. -/
import Derived.Test.YthhhehllmdfhiaaGreatMdMA
import Derived.Test.YthhhehllmdfhiaaGreatAmB
import Derived.Test.YthhhehllmdfhiaaGreatPlB
import Derived.Test.YthhhehllmdfhiaaGreatFactsA
import Derived.Test.YthhhehllmdfhiaaGreatMdCA
set_option linter.all false
set_option linter.unusedSectionVars false
set_option linter.unusedVariables false
set_option linter.unusedSimpArgs false
noncomputable section
namespace Go.Proofs.ZzM
open Go Go.Am
theorem book_num {b : Val ab6} (h : Go.Am.Rng ab6 b) : ∀ g ∈ (b : acz).2.1, I64 g.2.2.2.2.1.1 := fun g hg => (h.2.1 g hg).2.2.2.2.1.1
theorem sharpContradicts_law : ∀ x : Val (tyL aeZ.ts), Go.Am.Rng (tyL aeZ.ts) x → aeZ.F x = some true := fun x h => aCd (book_num h.1) (book_num h.2.1.1) h.2.1.2.2.2.1 x.2.2
end Go.Proofs.ZzM
end
noncomputable section
namespace Go.Proofs.YthhhehllmdfhiaaGreat
open Go Go.Am
set_option maxRecDepth 100000
theorem sharpContradicts_inPlace : (Rows.sharpContradictsRow.inPlace == Tryz.prog.inPlace 9) = true := by kernel_rfl
theorem sharpContradicts_unfollowed : (Rows.sharpContradictsRow.unfollowed == Tryz.prog.unfollowed 9) = true := by kernel_rfl
theorem sharpContradicts_recurses : (Rows.sharpContradictsRow.recurses == Tryz.prog.recurses 9) = true := by kernel_rfl
theorem sharpContradicts_named : (Rows.sharpContradictsRow.named == Tryz.prog.varsNamed 9) = true := by kernel_rfl
theorem sharpContradicts_joined : joinedFacts Tryz.checked.prog 9 Tryz.f9 Rows.sharpContradictsSpec Rows.sharpContradictsRow = true :=
 joined_of (by kernel_rfl) laidOut mapsOk (by kernel_rfl) (by kernel_rfl) (by kernel_rfl) stopsNil (by kernel_rfl) knobsNil sharpContradicts_inPlace sharpContradicts_unfollowed sharpContradicts_recurses sharpContradicts_named
  (by kernel_rfl) (by kernel_rfl) (by kernel_rfl) (by kernel_rfl) (by kernel_rfl) (by kernel_rfl) (by kernel_rfl) (by kernel_rfl) (by kernel_rfl) plainKeysOk (by kernel_rfl) heard enters lifts makes (by kernel_rfl) (by kernel_rfl) (by kernel_rfl) (by kernel_rfl)
theorem sharpContradicts_lifted (os : Os) (started : os.Started) (H : Type) (enc : TypeId × Value → H) :
 ReturnsInHanded {} Tryz.checked os 9 .any (Rows.sharpContradictsSpec.pre6 enc Tryz.prog Tryz.f9 Rows.sharpContradictsRow.domain false) (Rows.sharpContradictsSpec.post enc Tryz.prog Tryz.f9 false true false false) :=
 law_lifted (C := Tryz.checked) (tb := 4) own started (by kernel_rfl) Tryz.func9 (ChangeSpec.witness6 (enc := enc) (C := Tryz.checked) false ⟨#[], #[.agg #[.int .i64 0, .int .i64 0, .slice none 0 0, .slice none 0 0, .slice none 0 0, .slice none 0 0, .slice none 0 0], .agg #[.int .i64 0, .int .i64 0, .slice none 0 0, .slice none 0 0, .slice none 0 0, .slice none 0 0, .slice none 0 0, .int .i64 0, .int .i64 0, .bool false, .int .i64 0, .slice none 0 0], .slice none 0 0], []⟩ 8 (by kernel_rfl) (by kernel_rfl) (by kernel_rfl) (by kernel_rfl))
  ZzM.c_w6_SharpContradicts rfl ZzM.sharpContradicts_law (by kernel_rfl) rfl (fun ds h => by
   rw [show Tryz.f9.params.toList.length = 3 from by kernel_rfl] at h
   rcases ds with _ | ⟨d1, _ | ⟨d2, _ | ⟨d3, _ | ⟨d4, ds⟩⟩⟩⟩ <;> simp at h
   rfl) laidOut (by kernel_rfl) (by kernel_rfl) (by kernel_rfl)
theorem sharpContradicts_holds : Rows.SharpContradictsSaid :=
 OpenClaim.holds_of_wide 9 Tryz.f9 rfl rfl rfl rfl rfl rfl rfl ⟨rfl, rfl, rfl, rfl, rfl⟩ rfl rfl rfl rfl rfl (by kernel_rfl) Tryz.func9 sharpContradicts_joined
  (of_decide_eq_true (by kernel_rfl)) (by unfold Func.isWrapper; first | (rw [if_pos (by decide +kernel)]; kernel_rfl) | (rw [if_neg (by decide +kernel)]; exact ⟨rfl, rfl⟩))
  (fun os started H enc _ => sharpContradicts_lifted os started H enc)
#print axioms sharpContradicts_holds
end Go.Proofs.YthhhehllmdfhiaaGreat
end