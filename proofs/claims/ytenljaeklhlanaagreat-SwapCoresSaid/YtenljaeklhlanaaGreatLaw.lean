/- for every case as in SwapCases, at most 12 numbers, and a label, Explained, Withdrawn, Core and Shortest return what the specification returns. Conditions: none. -/
import Derived.Test.YtenljaeklhlanaaGreatMdMA
import Derived.Test.YtenljaeklhlanaaGreatAmC
import Derived.Test.YtenljaeklhlanaaGreatPlC
import Derived.Test.YtenljaeklhlanaaGreatFactsA
import Derived.Test.YtenljaeklhlanaaGreatMdCA
set_option linter.all false
set_option linter.unusedSectionVars false
set_option linter.unusedVariables false
set_option linter.unusedSimpArgs false
noncomputable section
namespace Go.Proofs.ZzM
open Go Go.Am
theorem mixed_num {m:Val Â} (h:Go.Am.Rng Â m):∀g∈(m:Ĭ).1.2.1,I64 g.2.2.2.2.1.1:=fun g hg=>(h.1.2.1 g hg).2.2.2.2.1.1
theorem swapCores_law:∀x:Val (tyL oe.ts),Go.Am.Rng (tyL oe.ts) x→oe.F x=some true:=fun x h=>aiz (mixed_num h.1) x.2.1 x.2.2
end Go.Proofs.ZzM
end
noncomputable section
namespace Go.Proofs.YtenljaeklhlanaaGreat
open Go Go.Am
set_option maxRecDepth 100000
theorem swapCores_inPlace:(Rows.swapCoresRow.inPlace==Tryz.prog.inPlace 3)=true:=by kernel_rfl
theorem swapCores_unfollowed:(Rows.swapCoresRow.unfollowed==Tryz.prog.unfollowed 3)=true:=by kernel_rfl
theorem swapCores_recurses:(Rows.swapCoresRow.recurses==Tryz.prog.recurses 3)=true:=by kernel_rfl
theorem swapCores_named:(Rows.swapCoresRow.named==Tryz.prog.varsNamed 3)=true:=by kernel_rfl
theorem swapCores_joined:joinedFacts Tryz.checked.prog 3 Tryz.f3 Rows.swapCoresSpec Rows.swapCoresRow=true :=
 joined_of (by kernel_rfl) laidOut mapsOk (by kernel_rfl) (by kernel_rfl) (by kernel_rfl) stopsNil (by kernel_rfl) knobsNil swapCores_inPlace swapCores_unfollowed swapCores_recurses swapCores_named
  (by kernel_rfl) (by kernel_rfl) (by kernel_rfl) (by kernel_rfl) (by kernel_rfl) (by kernel_rfl) (by kernel_rfl) (by kernel_rfl) (by kernel_rfl) plainKeysOk (by kernel_rfl) heard enters lifts makes (by kernel_rfl) (by kernel_rfl) (by kernel_rfl) (by kernel_rfl)
theorem swapCores_lifted (os:Os) (started:os.Started) (H:Type) (enc:TypeId×Value→H) :
 ReturnsInHanded {} Tryz.checked os 3 .any (Rows.swapCoresSpec.pre6 enc Tryz.prog Tryz.f3 Rows.swapCoresRow.domain false) (Rows.swapCoresSpec.post enc Tryz.prog Tryz.f3 false true false false) :=
 law_lifted (C:=Tryz.checked) (tb:=4) own started (by kernel_rfl) Tryz.func3 (ChangeSpec.witness6 (enc:=enc) (C:=Tryz.checked) false ⟨#[],#[.agg #[.int .i64 0,.int .i64 0,.slice none 0 0,.slice none 0 0,.slice none 0 0,.slice none 0 0,.slice none 0 0,.slice none 0 0],.slice none 0 0,.int .i64 0],[]⟩ 8 (by kernel_rfl) (by kernel_rfl) (by kernel_rfl) (by kernel_rfl))
  ZzM.c_w7_SwapCores rfl ZzM.swapCores_law (by kernel_rfl) rfl (fun ds h=>by
   rw[show Tryz.f3.params.toList.length=3 from by kernel_rfl] at h
   rcases ds with _|⟨d1,_|⟨d2,_|⟨d3,_|⟨d4,ds⟩⟩⟩⟩<;>simp at h
   rfl) laidOut (by kernel_rfl) (by kernel_rfl) (by kernel_rfl)
theorem swapCores_holds:Rows.SwapCoresSaid :=
 OpenClaim.holds_of_wide 3 Tryz.f3 rfl rfl rfl rfl rfl rfl rfl ⟨rfl,rfl,rfl,rfl,rfl⟩ rfl rfl rfl rfl rfl (by kernel_rfl) Tryz.func3 swapCores_joined
  (of_decide_eq_true (by kernel_rfl)) (by unfold Func.isWrapper; first|(rw[if_pos (by decide +kernel)]; kernel_rfl)|(rw[if_neg (by decide +kernel)]; exact⟨rfl,rfl⟩))
  (fun os started H enc _=>swapCores_lifted os started H enc)
#print axioms swapCores_holds
end Go.Proofs.YtenljaeklhlanaaGreat
end