/- SwapBack of layer 7 returns true for every case, number and day: ways begin with the one that moves nothing, weights do not fall, and names by ways are inverse to each other. Conditions: none. -/
import Derived.Test.YtdmegkgjpgcfgaaGreatMdMA
import Derived.Test.YtdmegkgjpgcfgaaGreatAmC
import Derived.Test.YtdmegkgjpgcfgaaGreatPlB
import Derived.Test.YtdmegkgjpgcfgaaGreatFactsA
import Derived.Test.YtdmegkgjpgcfgaaGreatMdCA
set_option linter.all false
set_option linter.unusedSectionVars false
set_option linter.unusedVariables false
set_option linter.unusedSimpArgs false
noncomputable section
namespace Go.Proofs.ZzM
open Go Go.Am
theorem mixed_num {m:Val Â} (h:Go.Am.Rng Â m):∀g∈(m:ő).1.2.1,I64 g.2.2.2.2.1.1:=fun g hg=>(h.1.2.1 g hg).2.2.2.2.1.1
theorem swapBack_law:∀x:Val (tyL nY.ts),Go.Am.Rng (tyL nY.ts) x→nY.F x=some true:=fun x h=>afB (mixed_num h.1) x.2.1 x.2.2
end Go.Proofs.ZzM
end
noncomputable section
namespace Go.Proofs.YtdmegkgjpgcfgaaGreat
open Go Go.Am
set_option maxRecDepth 100000
theorem swapBack_inPlace:(Rows.swapBackRow.inPlace==Tryz.prog.inPlace 9)=true:=by kernel_rfl
theorem swapBack_unfollowed:(Rows.swapBackRow.unfollowed==Tryz.prog.unfollowed 9)=true:=by kernel_rfl
theorem swapBack_recurses:(Rows.swapBackRow.recurses==Tryz.prog.recurses 9)=true:=by kernel_rfl
theorem swapBack_named:(Rows.swapBackRow.named==Tryz.prog.varsNamed 9)=true:=by kernel_rfl
theorem swapBack_joined:joinedFacts Tryz.checked.prog 9 Tryz.f9 Rows.swapBackSpec Rows.swapBackRow=true :=
 joined_of (by kernel_rfl) laidOut mapsOk (by kernel_rfl) (by kernel_rfl) (by kernel_rfl) stopsNil (by kernel_rfl) knobsNil swapBack_inPlace swapBack_unfollowed swapBack_recurses swapBack_named
  (by kernel_rfl) (by kernel_rfl) (by kernel_rfl) (by kernel_rfl) (by kernel_rfl) (by kernel_rfl) (by kernel_rfl) (by kernel_rfl) (by kernel_rfl) plainKeysOk (by kernel_rfl) heard enters lifts makes (by kernel_rfl) (by kernel_rfl) (by kernel_rfl) (by kernel_rfl)
theorem swapBack_lifted (os:Os) (started:os.Started) (H:Type) (enc:TypeId×Value→H) :
 ReturnsInHanded {} Tryz.checked os 9 .any (Rows.swapBackSpec.pre6 enc Tryz.prog Tryz.f9 Rows.swapBackRow.domain false) (Rows.swapBackSpec.post enc Tryz.prog Tryz.f9 false true false false) :=
 law_lifted (C:=Tryz.checked) (tb:=4) own started (by kernel_rfl) Tryz.func9 (ChangeSpec.witness6 (enc:=enc) (C:=Tryz.checked) false ⟨#[],#[.agg #[.int .i64 0,.int .i64 0,.slice none 0 0,.slice none 0 0,.slice none 0 0,.slice none 0 0,.slice none 0 0,.slice none 0 0],.int .i64 0,.int .i64 0],[]⟩ 8 (by kernel_rfl) (by kernel_rfl) (by kernel_rfl) (by kernel_rfl))
  ZzM.c_w7_SwapBack rfl ZzM.swapBack_law (by kernel_rfl) rfl (fun ds h=>by
   rw[show Tryz.f9.params.toList.length=3 from by kernel_rfl] at h
   rcases ds with _|⟨d1,_|⟨d2,_|⟨d3,_|⟨d4,ds⟩⟩⟩⟩<;>simp at h
   rfl) laidOut (by kernel_rfl) (by kernel_rfl) (by kernel_rfl)
theorem swapBack_holds:Rows.SwapBackSaid :=
 OpenClaim.holds_of_wide 9 Tryz.f9 rfl rfl rfl rfl rfl rfl rfl ⟨rfl,rfl,rfl,rfl,rfl⟩ rfl rfl rfl rfl rfl (by kernel_rfl) Tryz.func9 swapBack_joined
  (of_decide_eq_true (by kernel_rfl)) (by unfold Func.isWrapper; first|(rw[if_pos (by decide +kernel)]; kernel_rfl)|(rw[if_neg (by decide +kernel)]; exact⟨rfl,rfl⟩))
  (fun os started H enc _=>swapBack_lifted os started H enc)
#print axioms swapBack_holds
end Go.Proofs.YtdmegkgjpgcfgaaGreat
end