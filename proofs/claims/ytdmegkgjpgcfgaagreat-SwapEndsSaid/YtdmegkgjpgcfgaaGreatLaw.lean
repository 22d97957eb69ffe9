/- SwapEnds of layer 7 returns true for every case, label and day: what Coulds returns is the hull of what the ways that explain the case allow. Conditions: none. -/
import Derived.Test.YtdmegkgjpgcfgaaGreatMdMA
import Derived.Test.YtdmegkgjpgcfgaaGreatAmC
import Derived.Test.YtdmegkgjpgcfgaaGreatPlB
import Derived.Test.YtdmegkgjpgcfgaaGreatFactsA
import Derived.Test.YtdmegkgjpgcfgaaGreatMdCA
set_option linter.all false
set_option linter.unusedSectionVars false
set_option linter.unusedVariables false
set_option linter.unusedSimpArgs false
noncomputable section
namespace Go.Proofs.ZzM
open Go Go.Am
theorem mixed_num {m:Val Â} (h:Go.Am.Rng Â m):∀g∈(m:Ĺ).1.2.1,I64 g.2.2.2.2.1.1:=fun g hg=>(h.1.2.1 g hg).2.2.2.2.1.1
theorem swapEnds_law:∀x:Val (tyL ov.ts),Go.Am.Rng (tyL ov.ts) x→ov.F x=some true:=fun x h=>af9 (mixed_num h.1) x.2.1 x.2.2
end Go.Proofs.ZzM
end
noncomputable section
namespace Go.Proofs.YtdmegkgjpgcfgaaGreat
open Go Go.Am
set_option maxRecDepth 100000
theorem swapEnds_inPlace:(Rows.swapEndsRow.inPlace==Tryz.prog.inPlace 13)=true:=by kernel_rfl
theorem swapEnds_unfollowed:(Rows.swapEndsRow.unfollowed==Tryz.prog.unfollowed 13)=true:=by kernel_rfl
theorem swapEnds_recurses:(Rows.swapEndsRow.recurses==Tryz.prog.recurses 13)=true:=by kernel_rfl
theorem swapEnds_named:(Rows.swapEndsRow.named==Tryz.prog.varsNamed 13)=true:=by kernel_rfl
theorem swapEnds_joined:joinedFacts Tryz.checked.prog 13 Tryz.f13 Rows.swapEndsSpec Rows.swapEndsRow=true :=
 joined_of (by kernel_rfl) laidOut mapsOk (by kernel_rfl) (by kernel_rfl) (by kernel_rfl) stopsNil (by kernel_rfl) knobsNil swapEnds_inPlace swapEnds_unfollowed swapEnds_recurses swapEnds_named
  (by kernel_rfl) (by kernel_rfl) (by kernel_rfl) (by kernel_rfl) (by kernel_rfl) (by kernel_rfl) (by kernel_rfl) (by kernel_rfl) (by kernel_rfl) plainKeysOk (by kernel_rfl) heard enters lifts makes (by kernel_rfl) (by kernel_rfl) (by kernel_rfl) (by kernel_rfl)
theorem swapEnds_lifted (os:Os) (started:os.Started) (H:Type) (enc:TypeId×Value→H) :
 ReturnsInHanded {} Tryz.checked os 13 .any (Rows.swapEndsSpec.pre6 enc Tryz.prog Tryz.f13 Rows.swapEndsRow.domain false) (Rows.swapEndsSpec.post enc Tryz.prog Tryz.f13 false true false false) :=
 law_lifted (C:=Tryz.checked) (tb:=4) own started (by kernel_rfl) Tryz.func13 (ChangeSpec.witness6 (enc:=enc) (C:=Tryz.checked) false ⟨#[],#[.agg #[.int .i64 0,.int .i64 0,.slice none 0 0,.slice none 0 0,.slice none 0 0,.slice none 0 0,.slice none 0 0,.slice none 0 0],.int .i64 0,.int .i64 0],[]⟩ 8 (by kernel_rfl) (by kernel_rfl) (by kernel_rfl) (by kernel_rfl))
  ZzM.c_w7_SwapEnds rfl ZzM.swapEnds_law (by kernel_rfl) rfl (fun ds h=>by
   rw[show Tryz.f13.params.toList.length=3 from by kernel_rfl] at h
   rcases ds with _|⟨d1,_|⟨d2,_|⟨d3,_|⟨d4,ds⟩⟩⟩⟩<;>simp at h
   rfl) laidOut (by kernel_rfl) (by kernel_rfl) (by kernel_rfl)
theorem swapEnds_holds:Rows.SwapEndsSaid :=
 OpenClaim.holds_of_wide 13 Tryz.f13 rfl rfl rfl rfl rfl rfl rfl ⟨rfl,rfl,rfl,rfl,rfl⟩ rfl rfl rfl rfl rfl (by kernel_rfl) Tryz.func13 swapEnds_joined
  (of_decide_eq_true (by kernel_rfl)) (by unfold Func.isWrapper; first|(rw[if_pos (by decide +kernel)]; kernel_rfl)|(rw[if_neg (by decide +kernel)]; exact⟨rfl,rfl⟩))
  (fun os started H enc _=>swapEnds_lifted os started H enc)
#print axioms swapEnds_holds
end Go.Proofs.YtdmegkgjpgcfgaaGreat
end