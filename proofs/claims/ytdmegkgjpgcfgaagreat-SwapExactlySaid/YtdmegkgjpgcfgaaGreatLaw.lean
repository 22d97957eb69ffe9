/- SwapExactly of layer 7 returns true for every case, chains and lengths: a case is explained exactly if Least returns a way, and exactly if Prove returns no proof. Conditions: none. -/
import Derived.Test.YtdmegkgjpgcfgaaGreatMdMA
import Derived.Test.YtdmegkgjpgcfgaaGreatAmC
import Derived.Test.YtdmegkgjpgcfgaaGreatPlB
import Derived.Test.YtdmegkgjpgcfgaaGreatFactsA
import Derived.Test.YtdmegkgjpgcfgaaGreatMdCA
set_option linter.all false
set_option linter.unusedSectionVars false
set_option linter.unusedVariables false
set_option linter.unusedSimpArgs false
noncomputable section
namespace Go.Proofs.ZzM
open Go Go.Am
theorem mixed_num {m:Val Â} (h:Go.Am.Rng Â m):∀g∈(m:ř).1.2.1,I64 g.2.2.2.2.1.1:=fun g hg=>(h.1.2.1 g hg).2.2.2.2.1.1
theorem swapExactly_law:∀x:Val (tyL jF.ts),Go.Am.Rng (tyL jF.ts) x→jF.F x=some true:=fun x h=>U7 (mixed_num h.1) x.2.1 x.2.2
end Go.Proofs.ZzM
end
noncomputable section
namespace Go.Proofs.YtdmegkgjpgcfgaaGreat
open Go Go.Am
set_option maxRecDepth 100000
theorem swapExactly_inPlace:(Rows.swapExactlyRow.inPlace==Tryz.prog.inPlace 12)=true:=by kernel_rfl
theorem swapExactly_unfollowed:(Rows.swapExactlyRow.unfollowed==Tryz.prog.unfollowed 12)=true:=by kernel_rfl
theorem swapExactly_recurses:(Rows.swapExactlyRow.recurses==Tryz.prog.recurses 12)=true:=by kernel_rfl
theorem swapExactly_named:(Rows.swapExactlyRow.named==Tryz.prog.varsNamed 12)=true:=by kernel_rfl
theorem swapExactly_joined:joinedFacts Tryz.checked.prog 12 Tryz.f12 Rows.swapExactlySpec Rows.swapExactlyRow=true :=
 joined_of (by kernel_rfl) laidOut mapsOk (by kernel_rfl) (by kernel_rfl) (by kernel_rfl) stopsNil (by kernel_rfl) knobsNil swapExactly_inPlace swapExactly_unfollowed swapExactly_recurses swapExactly_named
  (by kernel_rfl) (by kernel_rfl) (by kernel_rfl) (by kernel_rfl) (by kernel_rfl) (by kernel_rfl) (by kernel_rfl) (by kernel_rfl) (by kernel_rfl) plainKeysOk (by kernel_rfl) heard enters lifts makes (by kernel_rfl) (by kernel_rfl) (by kernel_rfl) (by kernel_rfl)
theorem swapExactly_lifted (os:Os) (started:os.Started) (H:Type) (enc:TypeId×Value→H) :
 ReturnsInHanded {} Tryz.checked os 12 .any (Rows.swapExactlySpec.pre6 enc Tryz.prog Tryz.f12 Rows.swapExactlyRow.domain false) (Rows.swapExactlySpec.post enc Tryz.prog Tryz.f12 false true false false) :=
 law_lifted (C:=Tryz.checked) (tb:=4) own started (by kernel_rfl) Tryz.func12 (ChangeSpec.witness6 (enc:=enc) (C:=Tryz.checked) false ⟨#[],#[.agg #[.int .i64 0,.int .i64 0,.slice none 0 0,.slice none 0 0,.slice none 0 0,.slice none 0 0,.slice none 0 0,.slice none 0 0],.slice none 0 0,.slice none 0 0],[]⟩ 8 (by kernel_rfl) (by kernel_rfl) (by kernel_rfl) (by kernel_rfl))
  ZzM.c_w7_SwapExactly rfl ZzM.swapExactly_law (by kernel_rfl) rfl (fun ds h=>by
   rw[show Tryz.f12.params.toList.length=3 from by kernel_rfl] at h
   rcases ds with _|⟨d1,_|⟨d2,_|⟨d3,_|⟨d4,ds⟩⟩⟩⟩<;>simp at h
   rfl) laidOut (by kernel_rfl) (by kernel_rfl) (by kernel_rfl)
theorem swapExactly_holds:Rows.SwapExactlySaid :=
 OpenClaim.holds_of_wide 12 Tryz.f12 rfl rfl rfl rfl rfl rfl rfl ⟨rfl,rfl,rfl,rfl,rfl⟩ rfl rfl rfl rfl rfl (by kernel_rfl) Tryz.func12 swapExactly_joined
  (of_decide_eq_true (by kernel_rfl)) (by unfold Func.isWrapper; first|(rw[if_pos (by decide +kernel)]; kernel_rfl)|(rw[if_neg (by decide +kernel)]; exact⟨rfl,rfl⟩))
  (fun os started H enc _=>swapExactly_lifted os started H enc)
#print axioms swapExactly_holds
end Go.Proofs.YtdmegkgjpgcfgaaGreat
end