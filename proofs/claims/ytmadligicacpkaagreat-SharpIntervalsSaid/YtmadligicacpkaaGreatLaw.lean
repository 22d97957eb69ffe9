/- For every book of moderate size and two nodes, Interval, Intervals and Between return what the specification returns. Conditions: none. -/
import Derived.Test.YtmadligicacpkaaGreatMdMA
import Derived.Test.YtmadligicacpkaaGreatAmC
import Derived.Test.YtmadligicacpkaaGreatPlC
import Derived.Test.YtmadligicacpkaaGreatFactsA
import Derived.Test.YtmadligicacpkaaGreatMdCA
set_option linter.all false
set_option linter.unusedSectionVars false
set_option linter.unusedVariables false
set_option linter.unusedSimpArgs false
noncomputable section
namespace Go.Proofs.ZzM
open Go Go.Am
theorem book_num {b:Val Å} (h:Go.Am.Rng Å b):∀g∈(b:â).2.1,I64 g.2.2.2.2.1.1:=fun g hg=>(h.2.1 g hg).2.2.2.2.1.1
theorem sharpIntervals_law:∀x:Val (tyL adz.ts),Go.Am.Rng (tyL adz.ts) x→adz.F x=some true:=fun x h=>aMr (book_num h.1) x.2.1 x.2.2
end Go.Proofs.ZzM
end
noncomputable section
namespace Go.Proofs.YtmadligicacpkaaGreat
open Go Go.Am
set_option maxRecDepth 100000
theorem sharpIntervals_inPlace:(Rows.sharpIntervalsRow.inPlace==Tryz.prog.inPlace 3)=true:=by kernel_rfl
theorem sharpIntervals_unfollowed:(Rows.sharpIntervalsRow.unfollowed==Tryz.prog.unfollowed 3)=true:=by kernel_rfl
theorem sharpIntervals_recurses:(Rows.sharpIntervalsRow.recurses==Tryz.prog.recurses 3)=true:=by kernel_rfl
theorem sharpIntervals_named:(Rows.sharpIntervalsRow.named==Tryz.prog.varsNamed 3)=true:=by kernel_rfl
theorem sharpIntervals_joined:joinedFacts Tryz.checked.prog 3 Tryz.f3 Rows.sharpIntervalsSpec Rows.sharpIntervalsRow=true :=
 joined_of (by kernel_rfl) laidOut mapsOk (by kernel_rfl) (by kernel_rfl) (by kernel_rfl) stopsNil (by kernel_rfl) knobsNil sharpIntervals_inPlace sharpIntervals_unfollowed sharpIntervals_recurses sharpIntervals_named
  (by kernel_rfl) (by kernel_rfl) (by kernel_rfl) (by kernel_rfl) (by kernel_rfl) (by kernel_rfl) (by kernel_rfl) (by kernel_rfl) (by kernel_rfl) plainKeysOk (by kernel_rfl) heard enters lifts makes (by kernel_rfl) (by kernel_rfl) (by kernel_rfl) (by kernel_rfl)
theorem sharpIntervals_lifted (os:Os) (started:os.Started) (H:Type) (enc:TypeId×Value→H) :
 ReturnsInHanded {} Tryz.checked os 3 .any (Rows.sharpIntervalsSpec.pre6 enc Tryz.prog Tryz.f3 Rows.sharpIntervalsRow.domain false) (Rows.sharpIntervalsSpec.post enc Tryz.prog Tryz.f3 false true false false) :=
 law_lifted (C:=Tryz.checked) (tb:=4) own started (by kernel_rfl) Tryz.func3 (ChangeSpec.witness6 (enc:=enc) (C:=Tryz.checked) false ⟨#[],#[.agg #[.int .i64 0,.int .i64 0,.slice none 0 0,.slice none 0 0,.slice none 0 0,.slice none 0 0,.slice none 0 0],.agg #[.int .i64 0,.int .i64 0],.agg #[.int .i64 0,.int .i64 0]],[]⟩ 8 (by kernel_rfl) (by kernel_rfl) (by kernel_rfl) (by kernel_rfl))
  ZzM.c_w6_SharpIntervals rfl ZzM.sharpIntervals_law (by kernel_rfl) rfl (fun ds h=>by
   rw[show Tryz.f3.params.toList.length=3 from by kernel_rfl] at h
   rcases ds with _|⟨d1,_|⟨d2,_|⟨d3,_|⟨d4,ds⟩⟩⟩⟩<;>simp at h
   rfl) laidOut (by kernel_rfl) (by kernel_rfl) (by kernel_rfl)
theorem sharpIntervals_holds:Rows.SharpIntervalsSaid :=
 OpenClaim.holds_of_wide 3 Tryz.f3 rfl rfl rfl rfl rfl rfl rfl ⟨rfl,rfl,rfl,rfl,rfl⟩ rfl rfl rfl rfl rfl (by kernel_rfl) Tryz.func3 sharpIntervals_joined
  (of_decide_eq_true (by kernel_rfl)) (by unfold Func.isWrapper; first|(rw[if_pos (by decide +kernel)]; kernel_rfl)|(rw[if_neg (by decide +kernel)]; exact⟨rfl,rfl⟩))
  (fun os started H enc _=>sharpIntervals_lifted os started H enc)
#print axioms sharpIntervals_holds
end Go.Proofs.YtmadligicacpkaaGreat
end