/- For every book of moderate size, a node and further comparisons, Worst and Best return what the specification returns. Conditions: none. -/
import Derived.Test.YtmadligicacpkaaGreatMdMA
import Derived.Test.YtmadligicacpkaaGreatAmC
import Derived.Test.YtmadligicacpkaaGreatPlC
import Derived.Test.YtmadligicacpkaaGreatFactsA
import Derived.Test.YtmadligicacpkaaGreatMdCA
set_option linter.all false
set_option linter.unusedSectionVars false
set_option linter.unusedVariables false
set_option linter.unusedSimpArgs false
noncomputable section
namespace Go.Proofs.ZzM
open Go Go.Am
theorem book_num {b:Val Å} (h:Go.Am.Rng Å b):∀g∈(b:â).2.1,I64 g.2.2.2.2.1.1:=fun g hg=>(h.2.1 g hg).2.2.2.2.1.1
theorem sharpWorsts_law:∀x:Val (tyL ku.ts),Go.Am.Rng (tyL ku.ts) x→ku.F x=some true:=fun x h=>ah3 (book_num h.1) x.2.1 x.2.2.1 x.2.2.2
end Go.Proofs.ZzM
end
noncomputable section
namespace Go.Proofs.YtmadligicacpkaaGreat
open Go Go.Am
set_option maxRecDepth 100000
theorem sharpWorsts_inPlace:(Rows.sharpWorstsRow.inPlace==Tryz.prog.inPlace 7)=true:=by kernel_rfl
theorem sharpWorsts_unfollowed:(Rows.sharpWorstsRow.unfollowed==Tryz.prog.unfollowed 7)=true:=by kernel_rfl
theorem sharpWorsts_recurses:(Rows.sharpWorstsRow.recurses==Tryz.prog.recurses 7)=true:=by kernel_rfl
theorem sharpWorsts_named:(Rows.sharpWorstsRow.named==Tryz.prog.varsNamed 7)=true:=by kernel_rfl
theorem sharpWorsts_joined:joinedFacts Tryz.checked.prog 7 Tryz.f7 Rows.sharpWorstsSpec Rows.sharpWorstsRow=true :=
 joined_of (by kernel_rfl) laidOut mapsOk (by kernel_rfl) (by kernel_rfl) (by kernel_rfl) stopsNil (by kernel_rfl) knobsNil sharpWorsts_inPlace sharpWorsts_unfollowed sharpWorsts_recurses sharpWorsts_named
  (by kernel_rfl) (by kernel_rfl) (by kernel_rfl) (by kernel_rfl) (by kernel_rfl) (by kernel_rfl) (by kernel_rfl) (by kernel_rfl) (by kernel_rfl) plainKeysOk (by kernel_rfl) heard enters lifts makes (by kernel_rfl) (by kernel_rfl) (by kernel_rfl) (by kernel_rfl)
theorem sharpWorsts_lifted (os:Os) (started:os.Started) (H:Type) (enc:TypeId×Value→H) :
 ReturnsInHanded {} Tryz.checked os 7 .any (Rows.sharpWorstsSpec.pre6 enc Tryz.prog Tryz.f7 Rows.sharpWorstsRow.domain false) (Rows.sharpWorstsSpec.post enc Tryz.prog Tryz.f7 false true false false) :=
 law_lifted (C:=Tryz.checked) (tb:=4) own started (by kernel_rfl) Tryz.func7 (ChangeSpec.witness6 (enc:=enc) (C:=Tryz.checked) false ⟨#[],#[.agg #[.int .i64 0,.int .i64 0,.slice none 0 0,.slice none 0 0,.slice none 0 0,.slice none 0 0,.slice none 0 0],.agg #[.int .i64 0,.int .i64 0],.agg #[.int .i64 0,.int .i64 0,.slice none 0 0,.slice none 0 0,.int .i64 0,.int .i64 0,.int .i64 0,.int .i64 0],.slice none 0 0],[]⟩ 8 (by kernel_rfl) (by kernel_rfl) (by kernel_rfl) (by kernel_rfl))
  ZzM.c_w6_SharpWorsts rfl ZzM.sharpWorsts_law (by kernel_rfl) rfl (fun ds h=>by
   rw[show Tryz.f7.params.toList.length=4 from by kernel_rfl] at h
   rcases ds with _|⟨d1,_|⟨d2,_|⟨d3,_|⟨d4,_|⟨d5,ds⟩⟩⟩⟩⟩<;>simp at h
   rfl) laidOut (by kernel_rfl) (by kernel_rfl) (by kernel_rfl)
theorem sharpWorsts_holds:Rows.SharpWorstsSaid :=
 OpenClaim.holds_of_wide 7 Tryz.f7 rfl rfl rfl rfl rfl rfl rfl ⟨rfl,rfl,rfl,rfl,rfl⟩ rfl rfl rfl rfl rfl (by kernel_rfl) Tryz.func7 sharpWorsts_joined
  (of_decide_eq_true (by kernel_rfl)) (by unfold Func.isWrapper; first|(rw[if_pos (by decide +kernel)]; kernel_rfl)|(rw[if_neg (by decide +kernel)]; exact⟨rfl,rfl⟩))
  (fun os started H enc _=>sharpWorsts_lifted os started H enc)
#print axioms sharpWorsts_holds
end Go.Proofs.YtmadligicacpkaaGreat
end