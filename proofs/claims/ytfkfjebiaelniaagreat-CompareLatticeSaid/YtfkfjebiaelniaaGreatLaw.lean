/- For every book of moderate size and two lists of lengths that fit, CompareLattice returns true and never panics. Conditions: none. -/
import Derived.Test.YtfkfjebiaelniaaGreatMdM
import Derived.Test.YtfkfjebiaelniaaGreatAmE
import Derived.Test.YtfkfjebiaelniaaGreatPlC
import Derived.Test.YtfkfjebiaelniaaGreatFacts
import Derived.Test.YtfkfjebiaelniaaGreatMdC
set_option linter.all false
set_option linter.unusedSectionVars false
set_option linter.unusedVariables false
set_option linter.unusedSimpArgs false
section
namespace Go.Proofs.ZzM
open Go Go.Am
theorem book_num {b : Val tyBook} (h : Go.Am.Rng tyBook b) : ∀ g ∈ (b : Book).2.1, I64 g.2.2.2.2.1.1 := fun g hg => (h.2.1 g hg).2.2.2.2.1.1
theorem compareLattice_law : ∀ x : Val (tyL p_wringinglaw05_CompareLattice.ts), Go.Am.Rng (tyL p_wringinglaw05_CompareLattice.ts) x → p_wringinglaw05_CompareLattice.F x = some true := fun x h => lattice_ok (book_num h.1) x.2.1 x.2.2
end Go.Proofs.ZzM
end

section
namespace Go.Proofs.YtfkfjebiaelniaaGreat
open Go Go.Am
set_option maxRecDepth 100000
theorem compareLattice_inPlace : (Rows.compareLatticeRow.inPlace == Tryz.prog.inPlace 4) = true := by kernel_rfl
theorem compareLattice_unfollowed : (Rows.compareLatticeRow.unfollowed == Tryz.prog.unfollowed 4) = true := by kernel_rfl
theorem compareLattice_recurses : (Rows.compareLatticeRow.recurses == Tryz.prog.recurses 4) = true := by kernel_rfl
theorem compareLattice_named : (Rows.compareLatticeRow.named == Tryz.prog.varsNamed 4) = true := by kernel_rfl
theorem compareLattice_joined : joinedFacts Tryz.checked.prog 4 Tryz.f4 Rows.compareLatticeSpec Rows.compareLatticeRow = true :=
  joined_of (by kernel_rfl) laidOut mapsOk (by kernel_rfl) (by kernel_rfl) (by kernel_rfl) stopsNil (by kernel_rfl) knobsNil compareLattice_inPlace compareLattice_unfollowed compareLattice_recurses compareLattice_named
    (by kernel_rfl) (by kernel_rfl) (by kernel_rfl) (by kernel_rfl) (by kernel_rfl) (by kernel_rfl) (by kernel_rfl) (by kernel_rfl) (by kernel_rfl) plainKeysOk (by kernel_rfl) heard enters lifts makes (by kernel_rfl) (by kernel_rfl) (by kernel_rfl) (by kernel_rfl)
theorem compareLattice_lifted (os : Os) (started : os.Started) (H : Type) (enc : TypeId × Value → H) :
    ReturnsInHanded {} Tryz.checked os 4 .any (Rows.compareLatticeSpec.pre6 enc Tryz.prog Tryz.f4 Rows.compareLatticeRow.domain false) (Rows.compareLatticeSpec.post enc Tryz.prog Tryz.f4 false true false false) :=
  law_lifted (C := Tryz.checked) (tb := 4) own started (by kernel_rfl) Tryz.func4 (ChangeSpec.witness6 (enc := enc) (C := Tryz.checked) false ⟨#[], #[.agg #[.int .i64 0, .int .i64 0, .slice none 0 0, .slice none 0 0, .slice none 0 0, .slice none 0 0, .slice none 0 0], .slice none 0 0, .slice none 0 0], []⟩ 8 (by kernel_rfl) (by kernel_rfl) (by kernel_rfl) (by kernel_rfl))
    ZzM.c_wringinglaw05_CompareLattice rfl ZzM.compareLattice_law (by kernel_rfl) rfl (fun ds h => by
      rw [show Tryz.f4.params.toList.length = 3 from by kernel_rfl] at h
      rcases ds with _ | ⟨d1, _ | ⟨d2, _ | ⟨d3, _ | ⟨d4, ds⟩⟩⟩⟩ <;> simp at h
      rfl) laidOut (by kernel_rfl) (by kernel_rfl) (by kernel_rfl)
theorem compareLattice_holds : Rows.CompareLatticeSaid :=
  OpenClaim.holds_of_wide 4 Tryz.f4 rfl rfl rfl rfl rfl rfl rfl ⟨rfl, rfl, rfl, rfl, rfl⟩ rfl rfl rfl rfl rfl (by kernel_rfl) Tryz.func4 compareLattice_joined
    (of_decide_eq_true (by kernel_rfl)) (by unfold Func.isWrapper; first | (rw [if_pos (by decide +kernel)]; kernel_rfl) | (rw [if_neg (by decide +kernel)]; exact ⟨rfl, rfl⟩))
    (fun os started H enc _ => compareLattice_lifted os started H enc)
#print axioms compareLattice_holds
end Go.Proofs.YtfkfjebiaelniaaGreat
end
