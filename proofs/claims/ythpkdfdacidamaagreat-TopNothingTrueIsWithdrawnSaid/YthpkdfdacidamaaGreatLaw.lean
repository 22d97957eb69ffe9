/- for every case whose book is as in TopTruthIsKept, a way, and lives: if, with each label replaced by the gauge that truly bore it, each comparison shows what truly was, the way explains the case; no label is withdrawn, and no comparisons are told to contradict each other; the gauge that bore a label is among those that could have, with its true length; and what surely is, is so Conditions: none. -/
import Derived.Test.YthpkdfdacidamaaGreatMdMA
import Derived.Test.YthpkdfdacidamaaGreatAmC
import Derived.Test.YthpkdfdacidamaaGreatPlC
import Derived.Test.YthpkdfdacidamaaGreatFactsA
import Derived.Test.YthpkdfdacidamaaGreatMdCA
set_option linter.all false
set_option linter.unusedSectionVars false
set_option linter.unusedVariables false
set_option linter.unusedSimpArgs false
noncomputable section
namespace Go.Proofs.ZzM
open Go Go.Am
theorem mixed_num {m:Val Â} (h:Go.Am.Rng Â m):∀g∈(m:Ū).1.2.1,I64 g.2.2.2.2.1.1:=fun g hg=>(h.1.2.1 g hg).2.2.2.2.1.1
theorem topNothingTrueIsWithdrawn_law:∀x:Val (tyL Ć.ts),Go.Am.Rng (tyL Ć.ts) x→Ć.F x=some true:=fun x h=>XW (mixed_num h.1) x.2.1 x.2.2.1 x.2.2.2.1 x.2.2.2.2.1 x.2.2.2.2.2.1 x.2.2.2.2.2.2
end Go.Proofs.ZzM
end
noncomputable section
namespace Go.Proofs.YthpkdfdacidamaaGreat
open Go Go.Am
set_option maxRecDepth 100000
theorem topNothingTrueIsWithdrawn_inPlace:(Rows.topNothingTrueIsWithdrawnRow.inPlace==Tryz.prog.inPlace 3)=true:=by kernel_rfl
theorem topNothingTrueIsWithdrawn_unfollowed:(Rows.topNothingTrueIsWithdrawnRow.unfollowed==Tryz.prog.unfollowed 3)=true:=by kernel_rfl
theorem topNothingTrueIsWithdrawn_recurses:(Rows.topNothingTrueIsWithdrawnRow.recurses==Tryz.prog.recurses 3)=true:=by kernel_rfl
theorem topNothingTrueIsWithdrawn_named:(Rows.topNothingTrueIsWithdrawnRow.named==Tryz.prog.varsNamed 3)=true:=by kernel_rfl
theorem topNothingTrueIsWithdrawn_joined:joinedFacts Tryz.checked.prog 3 Tryz.f3 Rows.topNothingTrueIsWithdrawnSpec Rows.topNothingTrueIsWithdrawnRow=true :=
 joined_of (by kernel_rfl) laidOut mapsOk (by kernel_rfl) (by kernel_rfl) (by kernel_rfl) stopsNil (by kernel_rfl) knobsNil topNothingTrueIsWithdrawn_inPlace topNothingTrueIsWithdrawn_unfollowed topNothingTrueIsWithdrawn_recurses topNothingTrueIsWithdrawn_named
  (by kernel_rfl) (by kernel_rfl) (by kernel_rfl) (by kernel_rfl) (by kernel_rfl) (by kernel_rfl) (by kernel_rfl) (by kernel_rfl) (by kernel_rfl) plainKeysOk (by kernel_rfl) heard enters lifts makes (by kernel_rfl) (by kernel_rfl) (by kernel_rfl) (by kernel_rfl)
theorem topNothingTrueIsWithdrawn_lifted (os:Os) (started:os.Started) (H:Type) (enc:TypeId×Value→H) :
 ReturnsInHanded {} Tryz.checked os 3 .any (Rows.topNothingTrueIsWithdrawnSpec.pre6 enc Tryz.prog Tryz.f3 Rows.topNothingTrueIsWithdrawnRow.domain false) (Rows.topNothingTrueIsWithdrawnSpec.post enc Tryz.prog Tryz.f3 false true false false) :=
 law_lifted (C:=Tryz.checked) (tb:=4) own started (by kernel_rfl) Tryz.func3 (ChangeSpec.witness6 (enc:=enc) (C:=Tryz.checked) false ⟨#[],#[.agg #[.int .i64 0,.int .i64 0,.slice none 0 0,.slice none 0 0,.slice none 0 0,.slice none 0 0,.slice none 0 0,.slice none 0 0],.slice none 0 0,.slice none 0 0,.slice none 0 0,.int .i64 0,.int .i64 0,.slice none 0 0],[]⟩ 8 (by kernel_rfl) (by kernel_rfl) (by kernel_rfl) (by kernel_rfl))
  ZzM.c_wringingtop_TopNothingTrueIsWithdrawn rfl ZzM.topNothingTrueIsWithdrawn_law (by kernel_rfl) rfl (fun ds h=>by
   rw[show Tryz.f3.params.toList.length=7 from by kernel_rfl] at h
   rcases ds with _|⟨d1,_|⟨d2,_|⟨d3,_|⟨d4,_|⟨d5,_|⟨d6,_|⟨d7,_|⟨d8,ds⟩⟩⟩⟩⟩⟩⟩⟩<;>simp at h
   rfl) laidOut (by kernel_rfl) (by kernel_rfl) (by kernel_rfl)
theorem topNothingTrueIsWithdrawn_holds:Rows.TopNothingTrueIsWithdrawnSaid :=
 OpenClaim.holds_of_wide 3 Tryz.f3 rfl rfl rfl rfl rfl rfl rfl ⟨rfl,rfl,rfl,rfl,rfl⟩ rfl rfl rfl rfl rfl (by kernel_rfl) Tryz.func3 topNothingTrueIsWithdrawn_joined
  (of_decide_eq_true (by kernel_rfl)) (by unfold Func.isWrapper; first|(rw[if_pos (by decide +kernel)]; kernel_rfl)|(rw[if_neg (by decide +kernel)]; exact⟨rfl,rfl⟩))
  (fun os started H enc _=>topNothingTrueIsWithdrawn_lifted os started H enc)
#print axioms topNothingTrueIsWithdrawn_holds
end Go.Proofs.YthpkdfdacidamaaGreat
end