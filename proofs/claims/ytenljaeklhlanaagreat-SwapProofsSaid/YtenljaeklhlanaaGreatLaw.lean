/- for every case as in SwapCases, at most 160 chains, lists, and at most 70 lengths, CheckProof and CheckWay return what the specification returns, and Prove returns a proof, whose chains are those of chain.Clash, exactly if the case is not explained. Conditions: none. -/
import Derived.Test.YtenljaeklhlanaaGreatMdMA
import Derived.Test.YtenljaeklhlanaaGreatAmC
import Derived.Test.YtenljaeklhlanaaGreatPlC
import Derived.Test.YtenljaeklhlanaaGreatFactsA
import Derived.Test.YtenljaeklhlanaaGreatMdCA
set_option linter.all false
set_option linter.unusedSectionVars false
set_option linter.unusedVariables false
set_option linter.unusedSimpArgs false
noncomputable section
namespace Go.Proofs.ZzM
open Go Go.Am
theorem mixed_num {m:Val Â} (h:Go.Am.Rng Â m):∀g∈(m:Ň).1.2.1,I64 g.2.2.2.2.1.1:=fun g hg=>(h.1.2.1 g hg).2.2.2.2.1.1
theorem swapProofs_law:∀x:Val (tyL mH.ts),Go.Am.Rng (tyL mH.ts) x→mH.F x=some true:=fun x h=>afh (mixed_num h.1) x.2.1 x.2.2.1 x.2.2.2
end Go.Proofs.ZzM
end
noncomputable section
namespace Go.Proofs.YtenljaeklhlanaaGreat
open Go Go.Am
set_option maxRecDepth 100000
theorem swapProofs_inPlace:(Rows.swapProofsRow.inPlace==Tryz.prog.inPlace 5)=true:=by kernel_rfl
theorem swapProofs_unfollowed:(Rows.swapProofsRow.unfollowed==Tryz.prog.unfollowed 5)=true:=by kernel_rfl
theorem swapProofs_recurses:(Rows.swapProofsRow.recurses==Tryz.prog.recurses 5)=true:=by kernel_rfl
theorem swapProofs_named:(Rows.swapProofsRow.named==Tryz.prog.varsNamed 5)=true:=by kernel_rfl
theorem swapProofs_joined:joinedFacts Tryz.checked.prog 5 Tryz.f5 Rows.swapProofsSpec Rows.swapProofsRow=true :=
 joined_of (by kernel_rfl) laidOut mapsOk (by kernel_rfl) (by kernel_rfl) (by kernel_rfl) stopsNil (by kernel_rfl) knobsNil swapProofs_inPlace swapProofs_unfollowed swapProofs_recurses swapProofs_named
  (by kernel_rfl) (by kernel_rfl) (by kernel_rfl) (by kernel_rfl) (by kernel_rfl) (by kernel_rfl) (by kernel_rfl) (by kernel_rfl) (by kernel_rfl) plainKeysOk (by kernel_rfl) heard enters lifts makes (by kernel_rfl) (by kernel_rfl) (by kernel_rfl) (by kernel_rfl)
theorem swapProofs_lifted (os:Os) (started:os.Started) (H:Type) (enc:TypeId×Value→H) :
 ReturnsInHanded {} Tryz.checked os 5 .any (Rows.swapProofsSpec.pre6 enc Tryz.prog Tryz.f5 Rows.swapProofsRow.domain false) (Rows.swapProofsSpec.post enc Tryz.prog Tryz.f5 false true false false) :=
 law_lifted (C:=Tryz.checked) (tb:=4) own started (by kernel_rfl) Tryz.func5 (ChangeSpec.witness6 (enc:=enc) (C:=Tryz.checked) false ⟨#[],#[.agg #[.int .i64 0,.int .i64 0,.slice none 0 0,.slice none 0 0,.slice none 0 0,.slice none 0 0,.slice none 0 0,.slice none 0 0],.slice none 0 0,.slice none 0 0,.slice none 0 0],[]⟩ 8 (by kernel_rfl) (by kernel_rfl) (by kernel_rfl) (by kernel_rfl))
  ZzM.c_w7_SwapProofs rfl ZzM.swapProofs_law (by kernel_rfl) rfl (fun ds h=>by
   rw[show Tryz.f5.params.toList.length=4 from by kernel_rfl] at h
   rcases ds with _|⟨d1,_|⟨d2,_|⟨d3,_|⟨d4,_|⟨d5,ds⟩⟩⟩⟩⟩<;>simp at h
   rfl) laidOut (by kernel_rfl) (by kernel_rfl) (by kernel_rfl)
theorem swapProofs_holds:Rows.SwapProofsSaid :=
 OpenClaim.holds_of_wide 5 Tryz.f5 rfl rfl rfl rfl rfl rfl rfl ⟨rfl,rfl,rfl,rfl,rfl⟩ rfl rfl rfl rfl rfl (by kernel_rfl) Tryz.func5 swapProofs_joined
  (of_decide_eq_true (by kernel_rfl)) (by unfold Func.isWrapper; first|(rw[if_pos (by decide +kernel)]; kernel_rfl)|(rw[if_neg (by decide +kernel)]; exact⟨rfl,rfl⟩))
  (fun os started H enc _=>swapProofs_lifted os started H enc)
#print axioms swapProofs_holds
end Go.Proofs.YtenljaeklhlanaaGreat
end