/- SwapNames of layer 7 returns true for every case and way: a case in which all labels are what a way that explains it says of the gauges at the end is explained by the way that moves nothing. Conditions: none. -/
import Derived.Test.YtdmegkgjpgcfgaaGreatMdMA
import Derived.Test.YtdmegkgjpgcfgaaGreatAmC
import Derived.Test.YtdmegkgjpgcfgaaGreatPlB
import Derived.Test.YtdmegkgjpgcfgaaGreatFactsA
import Derived.Test.YtdmegkgjpgcfgaaGreatMdCA
set_option linter.all false
set_option linter.unusedSectionVars false
set_option linter.unusedVariables false
set_option linter.unusedSimpArgs false
noncomputable section
namespace Go.Proofs.ZzM
open Go Go.Am
theorem mixed_num {m:Val Â} (h:Go.Am.Rng Â m):∀g∈(m:œ).1.2.1,I64 g.2.2.2.2.1.1:=fun g hg=>(h.1.2.1 g hg).2.2.2.2.1.1
theorem swapNames_law:∀x:Val (tyL mc.ts),Go.Am.Rng (tyL mc.ts) x→mc.F x=some true:=fun x h=>aaS (mixed_num h.1)
end Go.Proofs.ZzM
end
noncomputable section
namespace Go.Proofs.YtdmegkgjpgcfgaaGreat
open Go Go.Am
set_option maxRecDepth 100000
theorem swapNames_inPlace:(Rows.swapNamesRow.inPlace==Tryz.prog.inPlace 5)=true:=by kernel_rfl
theorem swapNames_unfollowed:(Rows.swapNamesRow.unfollowed==Tryz.prog.unfollowed 5)=true:=by kernel_rfl
theorem swapNames_recurses:(Rows.swapNamesRow.recurses==Tryz.prog.recurses 5)=true:=by kernel_rfl
theorem swapNames_named:(Rows.swapNamesRow.named==Tryz.prog.varsNamed 5)=true:=by kernel_rfl
theorem swapNames_joined:joinedFacts Tryz.checked.prog 5 Tryz.f5 Rows.swapNamesSpec Rows.swapNamesRow=true :=
 joined_of (by kernel_rfl) laidOut mapsOk (by kernel_rfl) (by kernel_rfl) (by kernel_rfl) stopsNil (by kernel_rfl) knobsNil swapNames_inPlace swapNames_unfollowed swapNames_recurses swapNames_named
  (by kernel_rfl) (by kernel_rfl) (by kernel_rfl) (by kernel_rfl) (by kernel_rfl) (by kernel_rfl) (by kernel_rfl) (by kernel_rfl) (by kernel_rfl) plainKeysOk (by kernel_rfl) heard enters lifts makes (by kernel_rfl) (by kernel_rfl) (by kernel_rfl) (by kernel_rfl)
theorem swapNames_lifted (os:Os) (started:os.Started) (H:Type) (enc:TypeId×Value→H) :
 ReturnsInHanded {} Tryz.checked os 5 .any (Rows.swapNamesSpec.pre6 enc Tryz.prog Tryz.f5 Rows.swapNamesRow.domain false) (Rows.swapNamesSpec.post enc Tryz.prog Tryz.f5 false true false false) :=
 law_lifted (C:=Tryz.checked) (tb:=4) own started (by kernel_rfl) Tryz.func5 (ChangeSpec.witness6 (enc:=enc) (C:=Tryz.checked) false ⟨#[],#[.agg #[.int .i64 0,.int .i64 0,.slice none 0 0,.slice none 0 0,.slice none 0 0,.slice none 0 0,.slice none 0 0,.slice none 0 0],.int .i64 0],[]⟩ 8 (by kernel_rfl) (by kernel_rfl) (by kernel_rfl) (by kernel_rfl))
  ZzM.c_w7_SwapNames rfl ZzM.swapNames_law (by kernel_rfl) rfl (fun ds h=>by
   rw[show Tryz.f5.params.toList.length=2 from by kernel_rfl] at h
   rcases ds with _|⟨d1,_|⟨d2,_|⟨d3,ds⟩⟩⟩<;>simp at h
   rfl) laidOut (by kernel_rfl) (by kernel_rfl) (by kernel_rfl)
theorem swapNames_holds:Rows.SwapNamesSaid :=
 OpenClaim.holds_of_wide 5 Tryz.f5 rfl rfl rfl rfl rfl rfl rfl ⟨rfl,rfl,rfl,rfl,rfl⟩ rfl rfl rfl rfl rfl (by kernel_rfl) Tryz.func5 swapNames_joined
  (of_decide_eq_true (by kernel_rfl)) (by unfold Func.isWrapper; first|(rw[if_pos (by decide +kernel)]; kernel_rfl)|(rw[if_neg (by decide +kernel)]; exact⟨rfl,rfl⟩))
  (fun os started H enc _=>swapNames_lifted os started H enc)
#print axioms swapNames_holds
end Go.Proofs.YtdmegkgjpgcfgaaGreat
end