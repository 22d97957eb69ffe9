/- For two books of moderate size and a certificate with such a book and at most 90 indices, Part and Stands return what the specification returns. Conditions: none. -/
import Derived.Test.YthhhehllmdfhiaaGreatMdMA
import Derived.Test.YthhhehllmdfhiaaGreatAmB
import Derived.Test.YthhhehllmdfhiaaGreatPlB
import Derived.Test.YthhhehllmdfhiaaGreatFactsA
import Derived.Test.YthhhehllmdfhiaaGreatMdCA
set_option linter.all false
set_option linter.unusedSectionVars false
set_option linter.unusedVariables false
set_option linter.unusedSimpArgs false
noncomputable section
namespace Go.Proofs.ZzM
open Go Go.Am
theorem book_num {b:Val Ä} (h:Go.Am.Rng Ä b):∀g∈(b:á).2.1,I64 g.2.2.2.2.1.1:=fun g hg=>(h.2.1 g hg).2.2.2.2.1.1
theorem sharpParts_law:∀x:Val (tyL afh.ts),Go.Am.Rng (tyL afh.ts) x→afh.F x=some true:=fun x h=>aWp (book_num h.1) (book_num h.2.1) (book_num h.2.2.1) h.2.2.2.2.2.1
end Go.Proofs.ZzM
end
noncomputable section
namespace Go.Proofs.YthhhehllmdfhiaaGreat
open Go Go.Am
set_option maxRecDepth 100000
theorem sharpParts_inPlace:(Rows.sharpPartsRow.inPlace==Tryz.prog.inPlace 12)=true:=by kernel_rfl
theorem sharpParts_unfollowed:(Rows.sharpPartsRow.unfollowed==Tryz.prog.unfollowed 12)=true:=by kernel_rfl
theorem sharpParts_recurses:(Rows.sharpPartsRow.recurses==Tryz.prog.recurses 12)=true:=by kernel_rfl
theorem sharpParts_named:(Rows.sharpPartsRow.named==Tryz.prog.varsNamed 12)=true:=by kernel_rfl
theorem sharpParts_joined:joinedFacts Tryz.checked.prog 12 Tryz.f12 Rows.sharpPartsSpec Rows.sharpPartsRow=true :=
 joined_of (by kernel_rfl) laidOut mapsOk (by kernel_rfl) (by kernel_rfl) (by kernel_rfl) stopsNil (by kernel_rfl) knobsNil sharpParts_inPlace sharpParts_unfollowed sharpParts_recurses sharpParts_named
  (by kernel_rfl) (by kernel_rfl) (by kernel_rfl) (by kernel_rfl) (by kernel_rfl) (by kernel_rfl) (by kernel_rfl) (by kernel_rfl) (by kernel_rfl) plainKeysOk (by kernel_rfl) heard enters lifts makes (by kernel_rfl) (by kernel_rfl) (by kernel_rfl) (by kernel_rfl)
theorem sharpParts_lifted (os:Os) (started:os.Started) (H:Type) (enc:TypeId×Value→H) :
 ReturnsInHanded {} Tryz.checked os 12 .any (Rows.sharpPartsSpec.pre6 enc Tryz.prog Tryz.f12 Rows.sharpPartsRow.domain false) (Rows.sharpPartsSpec.post enc Tryz.prog Tryz.f12 false true false false) :=
 law_lifted (C:=Tryz.checked) (tb:=4) own started (by kernel_rfl) Tryz.func12 (ChangeSpec.witness6 (enc:=enc) (C:=Tryz.checked) false ⟨#[],#[.agg #[.int .i64 0,.int .i64 0,.slice none 0 0,.slice none 0 0,.slice none 0 0,.slice none 0 0,.slice none 0 0],.agg #[.int .i64 0,.int .i64 0,.slice none 0 0,.slice none 0 0,.slice none 0 0,.slice none 0 0,.slice none 0 0],.agg #[.int .i64 0,.int .i64 0,.slice none 0 0,.slice none 0 0,.slice none 0 0,.slice none 0 0,.slice none 0 0,.int .i64 0,.int .i64 0,.bool false,.int .i64 0,.slice none 0 0]],[]⟩ 8 (by kernel_rfl) (by kernel_rfl) (by kernel_rfl) (by kernel_rfl))
  ZzM.c_w6_SharpParts rfl ZzM.sharpParts_law (by kernel_rfl) rfl (fun ds h=>by
   rw[show Tryz.f12.params.toList.length=3 from by kernel_rfl] at h
   rcases ds with _|⟨d1,_|⟨d2,_|⟨d3,_|⟨d4,ds⟩⟩⟩⟩<;>simp at h
   rfl) laidOut (by kernel_rfl) (by kernel_rfl) (by kernel_rfl)
theorem sharpParts_holds:Rows.SharpPartsSaid :=
 OpenClaim.holds_of_wide 12 Tryz.f12 rfl rfl rfl rfl rfl rfl rfl ⟨rfl,rfl,rfl,rfl,rfl⟩ rfl rfl rfl rfl rfl (by kernel_rfl) Tryz.func12 sharpParts_joined
  (of_decide_eq_true (by kernel_rfl)) (by unfold Func.isWrapper; first|(rw[if_pos (by decide +kernel)]; kernel_rfl)|(rw[if_neg (by decide +kernel)]; exact⟨rfl,rfl⟩))
  (fun os started H enc _=>sharpParts_lifted os started H enc)
#print axioms sharpParts_holds
end Go.Proofs.YthhhehllmdfhiaaGreat
end