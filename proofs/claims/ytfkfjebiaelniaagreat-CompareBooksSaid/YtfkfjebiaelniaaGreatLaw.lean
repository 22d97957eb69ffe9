/- For every book of moderate size, one more comparison and look, and at most 50 IDs, CompareBooks returns true and never panics. Conditions: none. -/
import Derived.Test.YtfkfjebiaelniaaGreatMdM
import Derived.Test.YtfkfjebiaelniaaGreatAmE
import Derived.Test.YtfkfjebiaelniaaGreatPlC
import Derived.Test.YtfkfjebiaelniaaGreatFacts
import Derived.Test.YtfkfjebiaelniaaGreatMdC
set_option linter.all false
set_option linter.unusedSectionVars false
set_option linter.unusedVariables false
set_option linter.unusedSimpArgs false
section
namespace Go.Proofs.ZzM
open Go Go.Am
theorem book_num {b : Val tyBook} (h : Go.Am.Rng tyBook b) : ∀ g ∈ (b : Book).2.1, I64 g.2.2.2.2.1.1 := fun g hg => (h.2.1 g hg).2.2.2.2.1.1
theorem compareBooks_law : ∀ x : Val (tyL p_w5_CompareBooks.ts), Go.Am.Rng (tyL p_w5_CompareBooks.ts) x → p_w5_CompareBooks.F x = some true := fun x h => books_law (book_num h.1) x.2.1 x.2.2.1 x.2.2.2
end Go.Proofs.ZzM
end

section
namespace Go.Proofs.YtfkfjebiaelniaaGreat
open Go Go.Am
set_option maxRecDepth 100000
theorem compareBooks_inPlace : (Rows.compareBooksRow.inPlace == Tryz.prog.inPlace 10) = true := by kernel_rfl
theorem compareBooks_unfollowed : (Rows.compareBooksRow.unfollowed == Tryz.prog.unfollowed 10) = true := by kernel_rfl
theorem compareBooks_recurses : (Rows.compareBooksRow.recurses == Tryz.prog.recurses 10) = true := by kernel_rfl
theorem compareBooks_named : (Rows.compareBooksRow.named == Tryz.prog.varsNamed 10) = true := by kernel_rfl
theorem compareBooks_joined : joinedFacts Tryz.checked.prog 10 Tryz.f10 Rows.compareBooksSpec Rows.compareBooksRow = true :=
  joined_of (by kernel_rfl) laidOut mapsOk (by kernel_rfl) (by kernel_rfl) (by kernel_rfl) stopsNil (by kernel_rfl) knobsNil compareBooks_inPlace compareBooks_unfollowed compareBooks_recurses compareBooks_named
    (by kernel_rfl) (by kernel_rfl) (by kernel_rfl) (by kernel_rfl) (by kernel_rfl) (by kernel_rfl) (by kernel_rfl) (by kernel_rfl) (by kernel_rfl) plainKeysOk (by kernel_rfl) heard enters lifts makes (by kernel_rfl) (by kernel_rfl) (by kernel_rfl) (by kernel_rfl)
theorem compareBooks_lifted (os : Os) (started : os.Started) (H : Type) (enc : TypeId × Value → H) :
    ReturnsInHanded {} Tryz.checked os 10 .any (Rows.compareBooksSpec.pre6 enc Tryz.prog Tryz.f10 Rows.compareBooksRow.domain false) (Rows.compareBooksSpec.post enc Tryz.prog Tryz.f10 false true false false) :=
  law_lifted (C := Tryz.checked) (tb := 4) own started (by kernel_rfl) Tryz.func10 (ChangeSpec.witness6 (enc := enc) (C := Tryz.checked) false ⟨#[], #[.agg #[.int .i64 0, .int .i64 0, .slice none 0 0, .slice none 0 0, .slice none 0 0, .slice none 0 0, .slice none 0 0], .agg #[.int .i64 0, .int .i64 0, .slice none 0 0, .slice none 0 0, .int .i64 0, .int .i64 0, .int .i64 0, .int .i64 0], .agg #[.int .i64 0, .int .i64 0], .slice none 0 0], []⟩ 8 (by kernel_rfl) (by kernel_rfl) (by kernel_rfl) (by kernel_rfl))
    ZzM.c_w5_CompareBooks rfl ZzM.compareBooks_law (by kernel_rfl) rfl (fun ds h => by
      rw [show Tryz.f10.params.toList.length = 4 from by kernel_rfl] at h
      rcases ds with _ | ⟨d1, _ | ⟨d2, _ | ⟨d3, _ | ⟨d4, _ | ⟨d5, ds⟩⟩⟩⟩⟩ <;> simp at h
      rfl) laidOut (by kernel_rfl) (by kernel_rfl) (by kernel_rfl)
theorem compareBooks_holds : Rows.CompareBooksSaid :=
  OpenClaim.holds_of_wide 10 Tryz.f10 rfl rfl rfl rfl rfl rfl rfl ⟨rfl, rfl, rfl, rfl, rfl⟩ rfl rfl rfl rfl rfl (by kernel_rfl) Tryz.func10 compareBooks_joined
    (of_decide_eq_true (by kernel_rfl)) (by unfold Func.isWrapper; first | (rw [if_pos (by decide +kernel)]; kernel_rfl) | (rw [if_neg (by decide +kernel)]; exact ⟨rfl, rfl⟩))
    (fun os started H enc _ => compareBooks_lifted os started H enc)
#print axioms compareBooks_holds
end Go.Proofs.YtfkfjebiaelniaaGreat
end
