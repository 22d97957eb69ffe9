/- For every book of moderate size, a node and limits, Judge returns what the specification returns, and Witness a history within the limits, or outside of them, exactly if there is one. Conditions: none. -/
import Derived.Test.YtmadligicacpkaaGreatMdMA
import Derived.Test.YtmadligicacpkaaGreatAmC
import Derived.Test.YtmadligicacpkaaGreatPlC
import Derived.Test.YtmadligicacpkaaGreatFactsA
import Derived.Test.YtmadligicacpkaaGreatMdCA
set_option linter.all false
set_option linter.unusedSectionVars false
set_option linter.unusedVariables false
set_option linter.unusedSimpArgs false
noncomputable section
namespace Go.Proofs.ZzM
open Go Go.Am
theorem book_num {b:Val Ä} (h:Go.Am.Rng Ä b):∀g∈(b:Þ).2.1,I64 g.2.2.2.2.1.1:=fun g hg=>(h.2.1 g hg).2.2.2.2.1.1
theorem sharpJudges_law:∀x:Val (tyL jZ.ts),Go.Am.Rng (tyL jZ.ts) x→jZ.F x=some true:=fun x h=>agR (book_num h.1) x.2.1 x.2.2.1 x.2.2.2
end Go.Proofs.ZzM
end
noncomputable section
namespace Go.Proofs.YtmadligicacpkaaGreat
open Go Go.Am
set_option maxRecDepth 100000
theorem sharpJudges_inPlace:(Rows.sharpJudgesRow.inPlace==Tryz.prog.inPlace 5)=true:=by kernel_rfl
theorem sharpJudges_unfollowed:(Rows.sharpJudgesRow.unfollowed==Tryz.prog.unfollowed 5)=true:=by kernel_rfl
theorem sharpJudges_recurses:(Rows.sharpJudgesRow.recurses==Tryz.prog.recurses 5)=true:=by kernel_rfl
theorem sharpJudges_named:(Rows.sharpJudgesRow.named==Tryz.prog.varsNamed 5)=true:=by kernel_rfl
theorem sharpJudges_joined:joinedFacts Tryz.checked.prog 5 Tryz.f5 Rows.sharpJudgesSpec Rows.sharpJudgesRow=true :=
 joined_of (by kernel_rfl) laidOut mapsOk (by kernel_rfl) (by kernel_rfl) (by kernel_rfl) stopsNil (by kernel_rfl) knobsNil sharpJudges_inPlace sharpJudges_unfollowed sharpJudges_recurses sharpJudges_named
  (by kernel_rfl) (by kernel_rfl) (by kernel_rfl) (by kernel_rfl) (by kernel_rfl) (by kernel_rfl) (by kernel_rfl) (by kernel_rfl) (by kernel_rfl) plainKeysOk (by kernel_rfl) heard enters lifts makes (by kernel_rfl) (by kernel_rfl) (by kernel_rfl) (by kernel_rfl)
theorem sharpJudges_lifted (os:Os) (started:os.Started) (H:Type) (enc:TypeId×Value→H) :
 ReturnsInHanded {} Tryz.checked os 5 .any (Rows.sharpJudgesSpec.pre6 enc Tryz.prog Tryz.f5 Rows.sharpJudgesRow.domain false) (Rows.sharpJudgesSpec.post enc Tryz.prog Tryz.f5 false true false false) :=
 law_lifted (C:=Tryz.checked) (tb:=4) own started (by kernel_rfl) Tryz.func5 (ChangeSpec.witness6 (enc:=enc) (C:=Tryz.checked) false ⟨#[],#[.agg #[.int .i64 0,.int .i64 0,.slice none 0 0,.slice none 0 0,.slice none 0 0,.slice none 0 0,.slice none 0 0],.agg #[.int .i64 0,.int .i64 0],.agg #[.int .i64 0,.int .i64 0],.bool false],[]⟩ 8 (by kernel_rfl) (by kernel_rfl) (by kernel_rfl) (by kernel_rfl))
  ZzM.c_w6_SharpJudges rfl ZzM.sharpJudges_law (by kernel_rfl) rfl (fun ds h=>by
   rw[show Tryz.f5.params.toList.length=4 from by kernel_rfl] at h
   rcases ds with _|⟨d1,_|⟨d2,_|⟨d3,_|⟨d4,_|⟨d5,ds⟩⟩⟩⟩⟩<;>simp at h
   rfl) laidOut (by kernel_rfl) (by kernel_rfl) (by kernel_rfl)
theorem sharpJudges_holds:Rows.SharpJudgesSaid :=
 OpenClaim.holds_of_wide 5 Tryz.f5 rfl rfl rfl rfl rfl rfl rfl ⟨rfl,rfl,rfl,rfl,rfl⟩ rfl rfl rfl rfl rfl (by kernel_rfl) Tryz.func5 sharpJudges_joined
  (of_decide_eq_true (by kernel_rfl)) (by unfold Func.isWrapper; first|(rw[if_pos (by decide +kernel)]; kernel_rfl)|(rw[if_neg (by decide +kernel)]; exact⟨rfl,rfl⟩))
  (fun os started H enc _=>sharpJudges_lifted os started H enc)
#print axioms sharpJudges_holds
end Go.Proofs.YtmadligicacpkaaGreat
end