/- For every book of moderate size, a gauge and two days, the later one not before the other: the gauge is not longer on the later day, and both ends of its interval fall by at most what compare.Loss says. Conditions: none. -/
import Derived.Test.YthhhehllmdfhiaaGreatMdMA
import Derived.Test.YthhhehllmdfhiaaGreatAmB
import Derived.Test.YthhhehllmdfhiaaGreatPlB
import Derived.Test.YthhhehllmdfhiaaGreatFactsA
import Derived.Test.YthhhehllmdfhiaaGreatMdCA
set_option linter.all false
set_option linter.unusedSectionVars false
set_option linter.unusedVariables false
set_option linter.unusedSimpArgs false
noncomputable section
namespace Go.Proofs.ZzM
open Go Go.Am
theorem book_num {b : Val ba} (h : Go.Am.Rng ba b) : ∀ g ∈ (b : bH).2.1, I64 g.2.2.2.2.1.1 := fun g hg => (h.2.1 g hg).2.2.2.2.1.1
theorem sharpLater_law : ∀ x : Val (tyL jp.ts), Go.Am.Rng (tyL jp.ts) x → jp.F x = some true := fun x h => WZ (book_num h.1) x.2.1 x.2.2.1 x.2.2.2
end Go.Proofs.ZzM
end
noncomputable section
namespace Go.Proofs.YthhhehllmdfhiaaGreat
open Go Go.Am
set_option maxRecDepth 100000
theorem sharpLater_inPlace : (Rows.sharpLaterRow.inPlace == Tryz.prog.inPlace 3) = true := by kernel_rfl
theorem sharpLater_unfollowed : (Rows.sharpLaterRow.unfollowed == Tryz.prog.unfollowed 3) = true := by kernel_rfl
theorem sharpLater_recurses : (Rows.sharpLaterRow.recurses == Tryz.prog.recurses 3) = true := by kernel_rfl
theorem sharpLater_named : (Rows.sharpLaterRow.named == Tryz.prog.varsNamed 3) = true := by kernel_rfl
theorem sharpLater_joined : joinedFacts Tryz.checked.prog 3 Tryz.f3 Rows.sharpLaterSpec Rows.sharpLaterRow = true :=
 joined_of (by kernel_rfl) laidOut mapsOk (by kernel_rfl) (by kernel_rfl) (by kernel_rfl) stopsNil (by kernel_rfl) knobsNil sharpLater_inPlace sharpLater_unfollowed sharpLater_recurses sharpLater_named
  (by kernel_rfl) (by kernel_rfl) (by kernel_rfl) (by kernel_rfl) (by kernel_rfl) (by kernel_rfl) (by kernel_rfl) (by kernel_rfl) (by kernel_rfl) plainKeysOk (by kernel_rfl) heard enters lifts makes (by kernel_rfl) (by kernel_rfl) (by kernel_rfl) (by kernel_rfl)
theorem sharpLater_lifted (os : Os) (started : os.Started) (H : Type) (enc : TypeId × Value → H) :
 ReturnsInHanded {} Tryz.checked os 3 .any (Rows.sharpLaterSpec.pre6 enc Tryz.prog Tryz.f3 Rows.sharpLaterRow.domain false) (Rows.sharpLaterSpec.post enc Tryz.prog Tryz.f3 false true false false) :=
 law_lifted (C := Tryz.checked) (tb := 4) own started (by kernel_rfl) Tryz.func3 (ChangeSpec.witness6 (enc := enc) (C := Tryz.checked) false ⟨#[], #[.agg #[.int .i64 0, .int .i64 0, .slice none 0 0, .slice none 0 0, .slice none 0 0, .slice none 0 0, .slice none 0 0], .int .i64 0, .int .i64 0, .int .u16 0], []⟩ 8 (by kernel_rfl) (by kernel_rfl) (by kernel_rfl) (by kernel_rfl))
  ZzM.c_w6_SharpLater rfl ZzM.sharpLater_law (by kernel_rfl) rfl (fun ds h => by
   rw [show Tryz.f3.params.toList.length = 4 from by kernel_rfl] at h
   rcases ds with _ | ⟨d1, _ | ⟨d2, _ | ⟨d3, _ | ⟨d4, _ | ⟨d5, ds⟩⟩⟩⟩⟩ <;> simp at h
   rfl) laidOut (by kernel_rfl) (by kernel_rfl) (by kernel_rfl)
theorem sharpLater_holds : Rows.SharpLaterSaid :=
 OpenClaim.holds_of_wide 3 Tryz.f3 rfl rfl rfl rfl rfl rfl rfl ⟨rfl, rfl, rfl, rfl, rfl⟩ rfl rfl rfl rfl rfl (by kernel_rfl) Tryz.func3 sharpLater_joined
  (of_decide_eq_true (by kernel_rfl)) (by unfold Func.isWrapper; first | (rw [if_pos (by decide +kernel)]; kernel_rfl) | (rw [if_neg (by decide +kernel)]; exact ⟨rfl, rfl⟩))
  (fun os started H enc _ => sharpLater_lifted os started H enc)
#print axioms sharpLater_holds
end Go.Proofs.YthhhehllmdfhiaaGreat
end