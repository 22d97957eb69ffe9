/- For every book of moderate size, a node, limits and a further comparison with at most 60 results, the greatest width of the interval over all results is Worst, and Settles reports whether all of them decide the verdict. Conditions: none. -/
import Derived.Test.YthhhehllmdfhiaaGreatMdMA
import Derived.Test.YthhhehllmdfhiaaGreatAmB
import Derived.Test.YthhhehllmdfhiaaGreatPlB
import Derived.Test.YthhhehllmdfhiaaGreatFactsA
import Derived.Test.YthhhehllmdfhiaaGreatMdCA
set_option linter.all false
set_option linter.unusedSectionVars false
set_option linter.unusedVariables false
set_option linter.unusedSimpArgs false
noncomputable section
namespace Go.Proofs.ZzM
open Go Go.Am
theorem book_num {b : Val ab9} (h : Go.Am.Rng ab9 b) : ∀ g ∈ (b : acv).2.1, I64 g.2.2.2.2.1.1 := fun g hg => (h.2.1 g hg).2.2.2.2.1.1
theorem sharpMost_law : ∀ x : Val (tyL aim.ts), Go.Am.Rng (tyL aim.ts) x → aim.F x = some true := fun x h => aRI (book_num h.1) x.2.1 x.2.2.1 x.2.2.2
end Go.Proofs.ZzM
end
noncomputable section
namespace Go.Proofs.YthhhehllmdfhiaaGreat
open Go Go.Am
set_option maxRecDepth 100000
theorem sharpMost_inPlace : (Rows.sharpMostRow.inPlace == Tryz.prog.inPlace 11) = true := by kernel_rfl
theorem sharpMost_unfollowed : (Rows.sharpMostRow.unfollowed == Tryz.prog.unfollowed 11) = true := by kernel_rfl
theorem sharpMost_recurses : (Rows.sharpMostRow.recurses == Tryz.prog.recurses 11) = true := by kernel_rfl
theorem sharpMost_named : (Rows.sharpMostRow.named == Tryz.prog.varsNamed 11) = true := by kernel_rfl
theorem sharpMost_joined : joinedFacts Tryz.checked.prog 11 Tryz.f11 Rows.sharpMostSpec Rows.sharpMostRow = true :=
 joined_of (by kernel_rfl) laidOut mapsOk (by kernel_rfl) (by kernel_rfl) (by kernel_rfl) stopsNil (by kernel_rfl) knobsNil sharpMost_inPlace sharpMost_unfollowed sharpMost_recurses sharpMost_named
  (by kernel_rfl) (by kernel_rfl) (by kernel_rfl) (by kernel_rfl) (by kernel_rfl) (by kernel_rfl) (by kernel_rfl) (by kernel_rfl) (by kernel_rfl) plainKeysOk (by kernel_rfl) heard enters lifts makes (by kernel_rfl) (by kernel_rfl) (by kernel_rfl) (by kernel_rfl)
theorem sharpMost_lifted (os : Os) (started : os.Started) (H : Type) (enc : TypeId × Value → H) :
 ReturnsInHanded {} Tryz.checked os 11 .any (Rows.sharpMostSpec.pre6 enc Tryz.prog Tryz.f11 Rows.sharpMostRow.domain false) (Rows.sharpMostSpec.post enc Tryz.prog Tryz.f11 false true false false) :=
 law_lifted (C := Tryz.checked) (tb := 4) own started (by kernel_rfl) Tryz.func11 (ChangeSpec.witness6 (enc := enc) (C := Tryz.checked) false ⟨#[], #[.agg #[.int .i64 0, .int .i64 0, .slice none 0 0, .slice none 0 0, .slice none 0 0, .slice none 0 0, .slice none 0 0], .agg #[.int .i64 0, .int .i64 0], .agg #[.int .i64 0, .int .i64 0], .agg #[.int .i64 0, .int .i64 0, .slice none 0 0, .slice none 0 0, .int .i64 0, .int .i64 0, .int .i64 0, .int .i64 0]], []⟩ 8 (by kernel_rfl) (by kernel_rfl) (by kernel_rfl) (by kernel_rfl))
  ZzM.c_w6_SharpMost rfl ZzM.sharpMost_law (by kernel_rfl) rfl (fun ds h => by
   rw [show Tryz.f11.params.toList.length = 4 from by kernel_rfl] at h
   rcases ds with _ | ⟨d1, _ | ⟨d2, _ | ⟨d3, _ | ⟨d4, _ | ⟨d5, ds⟩⟩⟩⟩⟩ <;> simp at h
   rfl) laidOut (by kernel_rfl) (by kernel_rfl) (by kernel_rfl)
theorem sharpMost_holds : Rows.SharpMostSaid :=
 OpenClaim.holds_of_wide 11 Tryz.f11 rfl rfl rfl rfl rfl rfl rfl ⟨rfl, rfl, rfl, rfl, rfl⟩ rfl rfl rfl rfl rfl (by kernel_rfl) Tryz.func11 sharpMost_joined
  (of_decide_eq_true (by kernel_rfl)) (by unfold Func.isWrapper; first | (rw [if_pos (by decide +kernel)]; kernel_rfl) | (rw [if_neg (by decide +kernel)]; exact ⟨rfl, rfl⟩))
  (fun os started H enc _ => sharpMost_lifted os started H enc)
#print axioms sharpMost_holds
end Go.Proofs.YthhhehllmdfhiaaGreat
end