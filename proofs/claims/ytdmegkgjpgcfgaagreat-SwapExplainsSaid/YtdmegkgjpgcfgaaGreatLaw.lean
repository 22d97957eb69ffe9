/- SwapExplains of layer 7 returns true for every case and lists: Explains, All and Least return what the specification returns. Conditions: none. -/
import Derived.Test.YtdmegkgjpgcfgaaGreatMdMA
import Derived.Test.YtdmegkgjpgcfgaaGreatAmC
import Derived.Test.YtdmegkgjpgcfgaaGreatPlC
import Derived.Test.YtdmegkgjpgcfgaaGreatFactsA
import Derived.Test.YtdmegkgjpgcfgaaGreatMdCA
set_option linter.all false
set_option linter.unusedSectionVars false
set_option linter.unusedVariables false
set_option linter.unusedSimpArgs false
noncomputable section
namespace Go.Proofs.ZzM
open Go Go.Am
theorem mixed_num {m:Val Â} (h:Go.Am.Rng Â m):∀g∈(m:Ŋ).1.2.1,I64 g.2.2.2.2.1.1:=fun g hg=>(h.1.2.1 g hg).2.2.2.2.1.1
theorem swapExplains_law:∀x:Val (tyL j9.ts),Go.Am.Rng (tyL j9.ts) x→j9.F x=some true:=fun x h=>YG (mixed_num h.1) x.2
end Go.Proofs.ZzM
end
noncomputable section
namespace Go.Proofs.YtdmegkgjpgcfgaaGreat
open Go Go.Am
set_option maxRecDepth 100000
theorem swapExplains_inPlace:(Rows.swapExplainsRow.inPlace==Tryz.prog.inPlace 3)=true:=by kernel_rfl
theorem swapExplains_unfollowed:(Rows.swapExplainsRow.unfollowed==Tryz.prog.unfollowed 3)=true:=by kernel_rfl
theorem swapExplains_recurses:(Rows.swapExplainsRow.recurses==Tryz.prog.recurses 3)=true:=by kernel_rfl
theorem swapExplains_named:(Rows.swapExplainsRow.named==Tryz.prog.varsNamed 3)=true:=by kernel_rfl
theorem swapExplains_joined:joinedFacts Tryz.checked.prog 3 Tryz.f3 Rows.swapExplainsSpec Rows.swapExplainsRow=true :=
 joined_of (by kernel_rfl) laidOut mapsOk (by kernel_rfl) (by kernel_rfl) (by kernel_rfl) stopsNil (by kernel_rfl) knobsNil swapExplains_inPlace swapExplains_unfollowed swapExplains_recurses swapExplains_named
  (by kernel_rfl) (by kernel_rfl) (by kernel_rfl) (by kernel_rfl) (by kernel_rfl) (by kernel_rfl) (by kernel_rfl) (by kernel_rfl) (by kernel_rfl) plainKeysOk (by kernel_rfl) heard enters lifts makes (by kernel_rfl) (by kernel_rfl) (by kernel_rfl) (by kernel_rfl)
theorem swapExplains_lifted (os:Os) (started:os.Started) (H:Type) (enc:TypeId×Value→H) :
 ReturnsInHanded {} Tryz.checked os 3 .any (Rows.swapExplainsSpec.pre6 enc Tryz.prog Tryz.f3 Rows.swapExplainsRow.domain false) (Rows.swapExplainsSpec.post enc Tryz.prog Tryz.f3 false true false false) :=
 law_lifted (C:=Tryz.checked) (tb:=4) own started (by kernel_rfl) Tryz.func3 (ChangeSpec.witness6 (enc:=enc) (C:=Tryz.checked) false ⟨#[],#[.agg #[.int .i64 0,.int .i64 0,.slice none 0 0,.slice none 0 0,.slice none 0 0,.slice none 0 0,.slice none 0 0,.slice none 0 0],.slice none 0 0],[]⟩ 8 (by kernel_rfl) (by kernel_rfl) (by kernel_rfl) (by kernel_rfl))
  ZzM.c_w7_SwapExplains rfl ZzM.swapExplains_law (by kernel_rfl) rfl (fun ds h=>by
   rw[show Tryz.f3.params.toList.length=2 from by kernel_rfl] at h
   rcases ds with _|⟨d1,_|⟨d2,_|⟨d3,ds⟩⟩⟩<;>simp at h
   rfl) laidOut (by kernel_rfl) (by kernel_rfl) (by kernel_rfl)
theorem swapExplains_holds:Rows.SwapExplainsSaid :=
 OpenClaim.holds_of_wide 3 Tryz.f3 rfl rfl rfl rfl rfl rfl rfl ⟨rfl,rfl,rfl,rfl,rfl⟩ rfl rfl rfl rfl rfl (by kernel_rfl) Tryz.func3 swapExplains_joined
  (of_decide_eq_true (by kernel_rfl)) (by unfold Func.isWrapper; first|(rw[if_pos (by decide +kernel)]; kernel_rfl)|(rw[if_neg (by decide +kernel)]; exact⟨rfl,rfl⟩))
  (fun os started H enc _=>swapExplains_lifted os started H enc)
#print axioms swapExplains_holds
end Go.Proofs.YtdmegkgjpgcfgaaGreat
end