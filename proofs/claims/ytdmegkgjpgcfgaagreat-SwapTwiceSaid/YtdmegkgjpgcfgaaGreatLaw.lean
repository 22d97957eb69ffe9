/- SwapTwice of layer 7 returns true for every case, label and day: the same labels mixed up once more explain nothing more and nothing less. Conditions: none. -/
import Derived.Test.YtdmegkgjpgcfgaaGreatMdMA
import Derived.Test.YtdmegkgjpgcfgaaGreatAmC
import Derived.Test.YtdmegkgjpgcfgaaGreatPlB
import Derived.Test.YtdmegkgjpgcfgaaGreatFactsA
import Derived.Test.YtdmegkgjpgcfgaaGreatMdCA
set_option linter.all false
set_option linter.unusedSectionVars false
set_option linter.unusedVariables false
set_option linter.unusedSimpArgs false
noncomputable section
namespace Go.Proofs.ZzM
open Go Go.Am
theorem mixed_num {m:Val Â} (h:Go.Am.Rng Â m):∀g∈(m:ņ).1.2.1,I64 g.2.2.2.2.1.1:=fun g hg=>(h.1.2.1 g hg).2.2.2.2.1.1
theorem swapTwice_law:∀x:Val (tyL mI.ts),Go.Am.Rng (tyL mI.ts) x→mI.F x=some true:=fun x h=>aba (mixed_num h.1) x.2.1 x.2.2
end Go.Proofs.ZzM
end
noncomputable section
namespace Go.Proofs.YtdmegkgjpgcfgaaGreat
open Go Go.Am
set_option maxRecDepth 100000
theorem swapTwice_inPlace:(Rows.swapTwiceRow.inPlace==Tryz.prog.inPlace 7)=true:=by kernel_rfl
theorem swapTwice_unfollowed:(Rows.swapTwiceRow.unfollowed==Tryz.prog.unfollowed 7)=true:=by kernel_rfl
theorem swapTwice_recurses:(Rows.swapTwiceRow.recurses==Tryz.prog.recurses 7)=true:=by kernel_rfl
theorem swapTwice_named:(Rows.swapTwiceRow.named==Tryz.prog.varsNamed 7)=true:=by kernel_rfl
theorem swapTwice_joined:joinedFacts Tryz.checked.prog 7 Tryz.f7 Rows.swapTwiceSpec Rows.swapTwiceRow=true :=
 joined_of (by kernel_rfl) laidOut mapsOk (by kernel_rfl) (by kernel_rfl) (by kernel_rfl) stopsNil (by kernel_rfl) knobsNil swapTwice_inPlace swapTwice_unfollowed swapTwice_recurses swapTwice_named
  (by kernel_rfl) (by kernel_rfl) (by kernel_rfl) (by kernel_rfl) (by kernel_rfl) (by kernel_rfl) (by kernel_rfl) (by kernel_rfl) (by kernel_rfl) plainKeysOk (by kernel_rfl) heard enters lifts makes (by kernel_rfl) (by kernel_rfl) (by kernel_rfl) (by kernel_rfl)
theorem swapTwice_lifted (os:Os) (started:os.Started) (H:Type) (enc:TypeId×Value→H) :
 ReturnsInHanded {} Tryz.checked os 7 .any (Rows.swapTwiceSpec.pre6 enc Tryz.prog Tryz.f7 Rows.swapTwiceRow.domain false) (Rows.swapTwiceSpec.post enc Tryz.prog Tryz.f7 false true false false) :=
 law_lifted (C:=Tryz.checked) (tb:=4) own started (by kernel_rfl) Tryz.func7 (ChangeSpec.witness6 (enc:=enc) (C:=Tryz.checked) false ⟨#[],#[.agg #[.int .i64 0,.int .i64 0,.slice none 0 0,.slice none 0 0,.slice none 0 0,.slice none 0 0,.slice none 0 0,.slice none 0 0],.int .i64 0,.int .i64 0],[]⟩ 8 (by kernel_rfl) (by kernel_rfl) (by kernel_rfl) (by kernel_rfl))
  ZzM.c_w7_SwapTwice rfl ZzM.swapTwice_law (by kernel_rfl) rfl (fun ds h=>by
   rw[show Tryz.f7.params.toList.length=3 from by kernel_rfl] at h
   rcases ds with _|⟨d1,_|⟨d2,_|⟨d3,_|⟨d4,ds⟩⟩⟩⟩<;>simp at h
   rfl) laidOut (by kernel_rfl) (by kernel_rfl) (by kernel_rfl)
theorem swapTwice_holds:Rows.SwapTwiceSaid :=
 OpenClaim.holds_of_wide 7 Tryz.f7 rfl rfl rfl rfl rfl rfl rfl ⟨rfl,rfl,rfl,rfl,rfl⟩ rfl rfl rfl rfl rfl (by kernel_rfl) Tryz.func7 swapTwice_joined
  (of_decide_eq_true (by kernel_rfl)) (by unfold Func.isWrapper; first|(rw[if_pos (by decide +kernel)]; kernel_rfl)|(rw[if_neg (by decide +kernel)]; exact⟨rfl,rfl⟩))
  (fun os started H enc _=>swapTwice_lifted os started H enc)
#print axioms swapTwice_holds
end Go.Proofs.YtdmegkgjpgcfgaaGreat
end