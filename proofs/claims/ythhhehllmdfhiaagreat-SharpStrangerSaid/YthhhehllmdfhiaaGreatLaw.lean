/- For every book of moderate size, a certificate and lengths, what an accepted certificate says is obeyed by the lengths that fit its own book, and, if it stands for the book, by those that fit the book and by the interval. Conditions: none. -/
import Derived.Test.YthhhehllmdfhiaaGreatMdMA
import Derived.Test.YthhhehllmdfhiaaGreatAmB
import Derived.Test.YthhhehllmdfhiaaGreatPlB
import Derived.Test.YthhhehllmdfhiaaGreatFactsA
import Derived.Test.YthhhehllmdfhiaaGreatMdCA
set_option linter.all false
set_option linter.unusedSectionVars false
set_option linter.unusedVariables false
set_option linter.unusedSimpArgs false
noncomputable section
namespace Go.Proofs.ZzM
open Go Go.Am
theorem book_num {b : Val ab3} (h : Go.Am.Rng ab3 b) : ∀ g ∈ (b : acs).2.1, I64 g.2.2.2.2.1.1 := fun g hg => (h.2.1 g hg).2.2.2.2.1.1
theorem sharpStranger_law : ∀ x : Val (tyL afN.ts), Go.Am.Rng (tyL afN.ts) x → afN.F x = some true := fun x h => aHK (book_num h.1) (book_num h.2.1.1) h.2.1.2.2.2.1 x.2.2.1 x.2.2.2
end Go.Proofs.ZzM
end
noncomputable section
namespace Go.Proofs.YthhhehllmdfhiaaGreat
open Go Go.Am
set_option maxRecDepth 100000
theorem sharpStranger_inPlace : (Rows.sharpStrangerRow.inPlace == Tryz.prog.inPlace 8) = true := by kernel_rfl
theorem sharpStranger_unfollowed : (Rows.sharpStrangerRow.unfollowed == Tryz.prog.unfollowed 8) = true := by kernel_rfl
theorem sharpStranger_recurses : (Rows.sharpStrangerRow.recurses == Tryz.prog.recurses 8) = true := by kernel_rfl
theorem sharpStranger_named : (Rows.sharpStrangerRow.named == Tryz.prog.varsNamed 8) = true := by kernel_rfl
theorem sharpStranger_joined : joinedFacts Tryz.checked.prog 8 Tryz.f8 Rows.sharpStrangerSpec Rows.sharpStrangerRow = true :=
 joined_of (by kernel_rfl) laidOut mapsOk (by kernel_rfl) (by kernel_rfl) (by kernel_rfl) stopsNil (by kernel_rfl) knobsNil sharpStranger_inPlace sharpStranger_unfollowed sharpStranger_recurses sharpStranger_named
  (by kernel_rfl) (by kernel_rfl) (by kernel_rfl) (by kernel_rfl) (by kernel_rfl) (by kernel_rfl) (by kernel_rfl) (by kernel_rfl) (by kernel_rfl) plainKeysOk (by kernel_rfl) heard enters lifts makes (by kernel_rfl) (by kernel_rfl) (by kernel_rfl) (by kernel_rfl)
theorem sharpStranger_lifted (os : Os) (started : os.Started) (H : Type) (enc : TypeId × Value → H) :
 ReturnsInHanded {} Tryz.checked os 8 .any (Rows.sharpStrangerSpec.pre6 enc Tryz.prog Tryz.f8 Rows.sharpStrangerRow.domain false) (Rows.sharpStrangerSpec.post enc Tryz.prog Tryz.f8 false true false false) :=
 law_lifted (C := Tryz.checked) (tb := 4) own started (by kernel_rfl) Tryz.func8 (ChangeSpec.witness6 (enc := enc) (C := Tryz.checked) false ⟨#[], #[.agg #[.int .i64 0, .int .i64 0, .slice none 0 0, .slice none 0 0, .slice none 0 0, .slice none 0 0, .slice none 0 0], .agg #[.int .i64 0, .int .i64 0, .slice none 0 0, .slice none 0 0, .slice none 0 0, .slice none 0 0, .slice none 0 0, .int .i64 0, .int .i64 0, .bool false, .int .i64 0, .slice none 0 0], .slice none 0 0, .slice none 0 0], []⟩ 8 (by kernel_rfl) (by kernel_rfl) (by kernel_rfl) (by kernel_rfl))
  ZzM.c_w6_SharpStranger rfl ZzM.sharpStranger_law (by kernel_rfl) rfl (fun ds h => by
   rw [show Tryz.f8.params.toList.length = 4 from by kernel_rfl] at h
   rcases ds with _ | ⟨d1, _ | ⟨d2, _ | ⟨d3, _ | ⟨d4, _ | ⟨d5, ds⟩⟩⟩⟩⟩ <;> simp at h
   rfl) laidOut (by kernel_rfl) (by kernel_rfl) (by kernel_rfl)
theorem sharpStranger_holds : Rows.SharpStrangerSaid :=
 OpenClaim.holds_of_wide 8 Tryz.f8 rfl rfl rfl rfl rfl rfl rfl ⟨rfl, rfl, rfl, rfl, rfl⟩ rfl rfl rfl rfl rfl (by kernel_rfl) Tryz.func8 sharpStranger_joined
  (of_decide_eq_true (by kernel_rfl)) (by unfold Func.isWrapper; first | (rw [if_pos (by decide +kernel)]; kernel_rfl) | (rw [if_neg (by decide +kernel)]; exact ⟨rfl, rfl⟩))
  (fun os started H enc _ => sharpStranger_lifted os started H enc)
#print axioms sharpStranger_holds
end Go.Proofs.YthhhehllmdfhiaaGreat
end