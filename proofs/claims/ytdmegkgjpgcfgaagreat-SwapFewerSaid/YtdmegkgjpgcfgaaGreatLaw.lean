/- SwapFewer of layer 7 returns true for every case, numbers and one more mix-up: what is explained stays so with fewer comparisons and with the mix-up. Conditions: none. -/
import Derived.Test.YtdmegkgjpgcfgaaGreatMdMA
import Derived.Test.YtdmegkgjpgcfgaaGreatAmC
import Derived.Test.YtdmegkgjpgcfgaaGreatPlB
import Derived.Test.YtdmegkgjpgcfgaaGreatFactsA
import Derived.Test.YtdmegkgjpgcfgaaGreatMdCA
set_option linter.all false
set_option linter.unusedSectionVars false
set_option linter.unusedVariables false
set_option linter.unusedSimpArgs false
noncomputable section
namespace Go.Proofs.ZzM
open Go Go.Am
theorem mixed_num {m:Val Â} (h:Go.Am.Rng Â m):∀g∈(m:ń).1.2.1,I64 g.2.2.2.2.1.1:=fun g hg=>(h.1.2.1 g hg).2.2.2.2.1.1
theorem swapFewer_law:∀x:Val (tyL mC.ts),Go.Am.Rng (tyL mC.ts) x→mC.F x=some true:=fun x h=>acG (mixed_num h.1) x.2.1 x.2.2.1 x.2.2.2
end Go.Proofs.ZzM
end
noncomputable section
namespace Go.Proofs.YtdmegkgjpgcfgaaGreat
open Go Go.Am
set_option maxRecDepth 100000
theorem swapFewer_inPlace:(Rows.swapFewerRow.inPlace==Tryz.prog.inPlace 10)=true:=by kernel_rfl
theorem swapFewer_unfollowed:(Rows.swapFewerRow.unfollowed==Tryz.prog.unfollowed 10)=true:=by kernel_rfl
theorem swapFewer_recurses:(Rows.swapFewerRow.recurses==Tryz.prog.recurses 10)=true:=by kernel_rfl
theorem swapFewer_named:(Rows.swapFewerRow.named==Tryz.prog.varsNamed 10)=true:=by kernel_rfl
theorem swapFewer_joined:joinedFacts Tryz.checked.prog 10 Tryz.f10 Rows.swapFewerSpec Rows.swapFewerRow=true :=
 joined_of (by kernel_rfl) laidOut mapsOk (by kernel_rfl) (by kernel_rfl) (by kernel_rfl) stopsNil (by kernel_rfl) knobsNil swapFewer_inPlace swapFewer_unfollowed swapFewer_recurses swapFewer_named
  (by kernel_rfl) (by kernel_rfl) (by kernel_rfl) (by kernel_rfl) (by kernel_rfl) (by kernel_rfl) (by kernel_rfl) (by kernel_rfl) (by kernel_rfl) plainKeysOk (by kernel_rfl) heard enters lifts makes (by kernel_rfl) (by kernel_rfl) (by kernel_rfl) (by kernel_rfl)
theorem swapFewer_lifted (os:Os) (started:os.Started) (H:Type) (enc:TypeId×Value→H) :
 ReturnsInHanded {} Tryz.checked os 10 .any (Rows.swapFewerSpec.pre6 enc Tryz.prog Tryz.f10 Rows.swapFewerRow.domain false) (Rows.swapFewerSpec.post enc Tryz.prog Tryz.f10 false true false false) :=
 law_lifted (C:=Tryz.checked) (tb:=4) own started (by kernel_rfl) Tryz.func10 (ChangeSpec.witness6 (enc:=enc) (C:=Tryz.checked) false ⟨#[],#[.agg #[.int .i64 0,.int .i64 0,.slice none 0 0,.slice none 0 0,.slice none 0 0,.slice none 0 0,.slice none 0 0,.slice none 0 0],.slice none 0 0,.int .i64 0,.agg #[.int .i64 0,.slice none 0 0]],[]⟩ 8 (by kernel_rfl) (by kernel_rfl) (by kernel_rfl) (by kernel_rfl))
  ZzM.c_w7_SwapFewer rfl ZzM.swapFewer_law (by kernel_rfl) rfl (fun ds h=>by
   rw[show Tryz.f10.params.toList.length=4 from by kernel_rfl] at h
   rcases ds with _|⟨d1,_|⟨d2,_|⟨d3,_|⟨d4,_|⟨d5,ds⟩⟩⟩⟩⟩<;>simp at h
   rfl) laidOut (by kernel_rfl) (by kernel_rfl) (by kernel_rfl)
theorem swapFewer_holds:Rows.SwapFewerSaid :=
 OpenClaim.holds_of_wide 10 Tryz.f10 rfl rfl rfl rfl rfl rfl rfl ⟨rfl,rfl,rfl,rfl,rfl⟩ rfl rfl rfl rfl rfl (by kernel_rfl) Tryz.func10 swapFewer_joined
  (of_decide_eq_true (by kernel_rfl)) (by unfold Func.isWrapper; first|(rw[if_pos (by decide +kernel)]; kernel_rfl)|(rw[if_neg (by decide +kernel)]; exact⟨rfl,rfl⟩))
  (fun os started H enc _=>swapFewer_lifted os started H enc)
#print axioms swapFewer_holds
end Go.Proofs.YtdmegkgjpgcfgaaGreat
end