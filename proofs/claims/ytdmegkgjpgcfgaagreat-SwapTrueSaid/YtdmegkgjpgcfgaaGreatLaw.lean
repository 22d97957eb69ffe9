/- SwapTrue of layer 7 returns true for every case, way and lengths: translations are valid, and if each comparison shows what the lengths allow, the way explains the case. Conditions: none. -/
import Derived.Test.YtdmegkgjpgcfgaaGreatMdMA
import Derived.Test.YtdmegkgjpgcfgaaGreatAmC
import Derived.Test.YtdmegkgjpgcfgaaGreatPlC
import Derived.Test.YtdmegkgjpgcfgaaGreatFactsA
import Derived.Test.YtdmegkgjpgcfgaaGreatMdCA
set_option linter.all false
set_option linter.unusedSectionVars false
set_option linter.unusedVariables false
set_option linter.unusedSimpArgs false
noncomputable section
namespace Go.Proofs.ZzM
open Go Go.Am
theorem mixed_num {m:Val Â} (h:Go.Am.Rng Â m):∀g∈(m:ŕ).1.2.1,I64 g.2.2.2.2.1.1:=fun g hg=>(h.1.2.1 g hg).2.2.2.2.1.1
theorem swapTrue_law:∀x:Val (tyL oY.ts),Go.Am.Rng (tyL oY.ts) x→oY.F x=some true:=fun x h=>agz (mixed_num h.1) x.2.1 x.2.2.1 x.2.2.2.1 x.2.2.2.2
end Go.Proofs.ZzM
end
noncomputable section
namespace Go.Proofs.YtdmegkgjpgcfgaaGreat
open Go Go.Am
set_option maxRecDepth 100000
theorem swapTrue_inPlace:(Rows.swapTrueRow.inPlace==Tryz.prog.inPlace 14)=true:=by kernel_rfl
theorem swapTrue_unfollowed:(Rows.swapTrueRow.unfollowed==Tryz.prog.unfollowed 14)=true:=by kernel_rfl
theorem swapTrue_recurses:(Rows.swapTrueRow.recurses==Tryz.prog.recurses 14)=true:=by kernel_rfl
theorem swapTrue_named:(Rows.swapTrueRow.named==Tryz.prog.varsNamed 14)=true:=by kernel_rfl
theorem swapTrue_joined:joinedFacts Tryz.checked.prog 14 Tryz.f14 Rows.swapTrueSpec Rows.swapTrueRow=true :=
 joined_of (by kernel_rfl) laidOut mapsOk (by kernel_rfl) (by kernel_rfl) (by kernel_rfl) stopsNil (by kernel_rfl) knobsNil swapTrue_inPlace swapTrue_unfollowed swapTrue_recurses swapTrue_named
  (by kernel_rfl) (by kernel_rfl) (by kernel_rfl) (by kernel_rfl) (by kernel_rfl) (by kernel_rfl) (by kernel_rfl) (by kernel_rfl) (by kernel_rfl) plainKeysOk (by kernel_rfl) heard enters lifts makes (by kernel_rfl) (by kernel_rfl) (by kernel_rfl) (by kernel_rfl)
theorem swapTrue_lifted (os:Os) (started:os.Started) (H:Type) (enc:TypeId×Value→H) :
 ReturnsInHanded {} Tryz.checked os 14 .any (Rows.swapTrueSpec.pre6 enc Tryz.prog Tryz.f14 Rows.swapTrueRow.domain false) (Rows.swapTrueSpec.post enc Tryz.prog Tryz.f14 false true false false) :=
 law_lifted (C:=Tryz.checked) (tb:=4) own started (by kernel_rfl) Tryz.func14 (ChangeSpec.witness6 (enc:=enc) (C:=Tryz.checked) false ⟨#[],#[.agg #[.int .i64 0,.int .i64 0,.slice none 0 0,.slice none 0 0,.slice none 0 0,.slice none 0 0,.slice none 0 0,.slice none 0 0],.int .i64 0,.slice none 0 0,.int .i64 0,.int .i64 0],[]⟩ 8 (by kernel_rfl) (by kernel_rfl) (by kernel_rfl) (by kernel_rfl))
  ZzM.c_w7_SwapTrue rfl ZzM.swapTrue_law (by kernel_rfl) rfl (fun ds h=>by
   rw[show Tryz.f14.params.toList.length=5 from by kernel_rfl] at h
   rcases ds with _|⟨d1,_|⟨d2,_|⟨d3,_|⟨d4,_|⟨d5,_|⟨d6,ds⟩⟩⟩⟩⟩⟩<;>simp at h
   rfl) laidOut (by kernel_rfl) (by kernel_rfl) (by kernel_rfl)
theorem swapTrue_holds:Rows.SwapTrueSaid :=
 OpenClaim.holds_of_wide 14 Tryz.f14 rfl rfl rfl rfl rfl rfl rfl ⟨rfl,rfl,rfl,rfl,rfl⟩ rfl rfl rfl rfl rfl (by kernel_rfl) Tryz.func14 swapTrue_joined
  (of_decide_eq_true (by kernel_rfl)) (by unfold Func.isWrapper; first|(rw[if_pos (by decide +kernel)]; kernel_rfl)|(rw[if_neg (by decide +kernel)]; exact⟨rfl,rfl⟩))
  (fun os started H enc _=>swapTrue_lifted os started H enc)
#print axioms swapTrue_holds
end Go.Proofs.YtdmegkgjpgcfgaaGreat
end