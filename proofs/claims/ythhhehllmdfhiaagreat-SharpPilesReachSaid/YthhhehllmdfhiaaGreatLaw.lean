/- For every book of moderate size, a day and a pile: both ends of Pile are reached by the greatest and the least lengths that all gauges can have at once, with the longest or the shortest films. Conditions: none. -/
import Derived.Test.YthhhehllmdfhiaaGreatMdMA
import Derived.Test.YthhhehllmdfhiaaGreatAmB
import Derived.Test.YthhhehllmdfhiaaGreatPlB
import Derived.Test.YthhhehllmdfhiaaGreatFactsA
import Derived.Test.YthhhehllmdfhiaaGreatMdCA
set_option linter.all false
set_option linter.unusedSectionVars false
set_option linter.unusedVariables false
set_option linter.unusedSimpArgs false
noncomputable section
namespace Go.Proofs.ZzM
open Go Go.Am
theorem book_num {b : Val bg} (h : Go.Am.Rng bg b) : ∀ g ∈ (b : bJ).2.1, I64 g.2.2.2.2.1.1 := fun g hg => (h.2.1 g hg).2.2.2.2.1.1
theorem sharpPilesReach_law : ∀ x : Val (tyL f9.ts), Go.Am.Rng (tyL f9.ts) x → f9.F x = some true := fun x h => JT (book_num h.1) x.2.1 x.2.2
end Go.Proofs.ZzM
end
noncomputable section
namespace Go.Proofs.YthhhehllmdfhiaaGreat
open Go Go.Am
set_option maxRecDepth 100000
theorem sharpPilesReach_inPlace : (Rows.sharpPilesReachRow.inPlace == Tryz.prog.inPlace 4) = true := by kernel_rfl
theorem sharpPilesReach_unfollowed : (Rows.sharpPilesReachRow.unfollowed == Tryz.prog.unfollowed 4) = true := by kernel_rfl
theorem sharpPilesReach_recurses : (Rows.sharpPilesReachRow.recurses == Tryz.prog.recurses 4) = true := by kernel_rfl
theorem sharpPilesReach_named : (Rows.sharpPilesReachRow.named == Tryz.prog.varsNamed 4) = true := by kernel_rfl
theorem sharpPilesReach_joined : joinedFacts Tryz.checked.prog 4 Tryz.f4 Rows.sharpPilesReachSpec Rows.sharpPilesReachRow = true :=
 joined_of (by kernel_rfl) laidOut mapsOk (by kernel_rfl) (by kernel_rfl) (by kernel_rfl) stopsNil (by kernel_rfl) knobsNil sharpPilesReach_inPlace sharpPilesReach_unfollowed sharpPilesReach_recurses sharpPilesReach_named
  (by kernel_rfl) (by kernel_rfl) (by kernel_rfl) (by kernel_rfl) (by kernel_rfl) (by kernel_rfl) (by kernel_rfl) (by kernel_rfl) (by kernel_rfl) plainKeysOk (by kernel_rfl) heard enters lifts makes (by kernel_rfl) (by kernel_rfl) (by kernel_rfl) (by kernel_rfl)
theorem sharpPilesReach_lifted (os : Os) (started : os.Started) (H : Type) (enc : TypeId × Value → H) :
 ReturnsInHanded {} Tryz.checked os 4 .any (Rows.sharpPilesReachSpec.pre6 enc Tryz.prog Tryz.f4 Rows.sharpPilesReachRow.domain false) (Rows.sharpPilesReachSpec.post enc Tryz.prog Tryz.f4 false true false false) :=
 law_lifted (C := Tryz.checked) (tb := 4) own started (by kernel_rfl) Tryz.func4 (ChangeSpec.witness6 (enc := enc) (C := Tryz.checked) false ⟨#[], #[.agg #[.int .i64 0, .int .i64 0, .slice none 0 0, .slice none 0 0, .slice none 0 0, .slice none 0 0, .slice none 0 0], .int .i64 0, .slice none 0 0], []⟩ 8 (by kernel_rfl) (by kernel_rfl) (by kernel_rfl) (by kernel_rfl))
  ZzM.c_w6_SharpPilesReach rfl ZzM.sharpPilesReach_law (by kernel_rfl) rfl (fun ds h => by
   rw [show Tryz.f4.params.toList.length = 3 from by kernel_rfl] at h
   rcases ds with _ | ⟨d1, _ | ⟨d2, _ | ⟨d3, _ | ⟨d4, ds⟩⟩⟩⟩ <;> simp at h
   rfl) laidOut (by kernel_rfl) (by kernel_rfl) (by kernel_rfl)
theorem sharpPilesReach_holds : Rows.SharpPilesReachSaid :=
 OpenClaim.holds_of_wide 4 Tryz.f4 rfl rfl rfl rfl rfl rfl rfl ⟨rfl, rfl, rfl, rfl, rfl⟩ rfl rfl rfl rfl rfl (by kernel_rfl) Tryz.func4 sharpPilesReach_joined
  (of_decide_eq_true (by kernel_rfl)) (by unfold Func.isWrapper; first | (rw [if_pos (by decide +kernel)]; kernel_rfl) | (rw [if_neg (by decide +kernel)]; exact ⟨rfl, rfl⟩))
  (fun os started H enc _ => sharpPilesReach_lifted os started H enc)
#print axioms sharpPilesReach_holds
end Go.Proofs.YthhhehllmdfhiaaGreat
end