/- SwapWays of layer 7 returns true for every case, lists, number and day: Ways, Weight, Who, Label and Translate return what the specification returns. Conditions: none. -/
import Derived.Test.YtdmegkgjpgcfgaaGreatMdMA
import Derived.Test.YtdmegkgjpgcfgaaGreatAmC
import Derived.Test.YtdmegkgjpgcfgaaGreatPlC
import Derived.Test.YtdmegkgjpgcfgaaGreatFactsA
import Derived.Test.YtdmegkgjpgcfgaaGreatMdCA
set_option linter.all false
set_option linter.unusedSectionVars false
set_option linter.unusedVariables false
set_option linter.unusedSimpArgs false
noncomputable section
namespace Go.Proofs.ZzM
open Go Go.Am
theorem mixed_num {m:Val Â} (h:Go.Am.Rng Â m):∀g∈(m:Ļ).1.2.1,I64 g.2.2.2.2.1.1:=fun g hg=>(h.1.2.1 g hg).2.2.2.2.1.1
theorem swapWays_law:∀x:Val (tyL pR.ts),Go.Am.Rng (tyL pR.ts) x→pR.F x=some true:=fun x h=>aid (mixed_num h.1) x.2.1 x.2.2.1 x.2.2.2
end Go.Proofs.ZzM
end
noncomputable section
namespace Go.Proofs.YtdmegkgjpgcfgaaGreat
open Go Go.Am
set_option maxRecDepth 100000
theorem swapWays_inPlace:(Rows.swapWaysRow.inPlace==Tryz.prog.inPlace 8)=true:=by kernel_rfl
theorem swapWays_unfollowed:(Rows.swapWaysRow.unfollowed==Tryz.prog.unfollowed 8)=true:=by kernel_rfl
theorem swapWays_recurses:(Rows.swapWaysRow.recurses==Tryz.prog.recurses 8)=true:=by kernel_rfl
theorem swapWays_named:(Rows.swapWaysRow.named==Tryz.prog.varsNamed 8)=true:=by kernel_rfl
theorem swapWays_joined:joinedFacts Tryz.checked.prog 8 Tryz.f8 Rows.swapWaysSpec Rows.swapWaysRow=true :=
 joined_of (by kernel_rfl) laidOut mapsOk (by kernel_rfl) (by kernel_rfl) (by kernel_rfl) stopsNil (by kernel_rfl) knobsNil swapWays_inPlace swapWays_unfollowed swapWays_recurses swapWays_named
  (by kernel_rfl) (by kernel_rfl) (by kernel_rfl) (by kernel_rfl) (by kernel_rfl) (by kernel_rfl) (by kernel_rfl) (by kernel_rfl) (by kernel_rfl) plainKeysOk (by kernel_rfl) heard enters lifts makes (by kernel_rfl) (by kernel_rfl) (by kernel_rfl) (by kernel_rfl)
theorem swapWays_lifted (os:Os) (started:os.Started) (H:Type) (enc:TypeId×Value→H) :
 ReturnsInHanded {} Tryz.checked os 8 .any (Rows.swapWaysSpec.pre6 enc Tryz.prog Tryz.f8 Rows.swapWaysRow.domain false) (Rows.swapWaysSpec.post enc Tryz.prog Tryz.f8 false true false false) :=
 law_lifted (C:=Tryz.checked) (tb:=4) own started (by kernel_rfl) Tryz.func8 (ChangeSpec.witness6 (enc:=enc) (C:=Tryz.checked) false ⟨#[],#[.agg #[.int .i64 0,.int .i64 0,.slice none 0 0,.slice none 0 0,.slice none 0 0,.slice none 0 0,.slice none 0 0,.slice none 0 0],.slice none 0 0,.int .i64 0,.int .i64 0],[]⟩ 8 (by kernel_rfl) (by kernel_rfl) (by kernel_rfl) (by kernel_rfl))
  ZzM.c_w7_SwapWays rfl ZzM.swapWays_law (by kernel_rfl) rfl (fun ds h=>by
   rw[show Tryz.f8.params.toList.length=4 from by kernel_rfl] at h
   rcases ds with _|⟨d1,_|⟨d2,_|⟨d3,_|⟨d4,_|⟨d5,ds⟩⟩⟩⟩⟩<;>simp at h
   rfl) laidOut (by kernel_rfl) (by kernel_rfl) (by kernel_rfl)
theorem swapWays_holds:Rows.SwapWaysSaid :=
 OpenClaim.holds_of_wide 8 Tryz.f8 rfl rfl rfl rfl rfl rfl rfl ⟨rfl,rfl,rfl,rfl,rfl⟩ rfl rfl rfl rfl rfl (by kernel_rfl) Tryz.func8 swapWays_joined
  (of_decide_eq_true (by kernel_rfl)) (by unfold Func.isWrapper; first|(rw[if_pos (by decide +kernel)]; kernel_rfl)|(rw[if_neg (by decide +kernel)]; exact⟨rfl,rfl⟩))
  (fun os started H enc _=>swapWays_lifted os started H enc)
#print axioms swapWays_holds
end Go.Proofs.YtdmegkgjpgcfgaaGreat
end