/- for every case as in SwapCases, a label and a day, Coulds and Sure return what the specification returns. Conditions: none. -/
import Derived.Test.YtenljaeklhlanaaGreatMdMA
import Derived.Test.YtenljaeklhlanaaGreatAmC
import Derived.Test.YtenljaeklhlanaaGreatPlC
import Derived.Test.YtenljaeklhlanaaGreatFactsA
import Derived.Test.YtenljaeklhlanaaGreatMdCA
set_option linter.all false
set_option linter.unusedSectionVars false
set_option linter.unusedVariables false
set_option linter.unusedSimpArgs false
noncomputable section
namespace Go.Proofs.ZzM
open Go Go.Am
theorem mixed_num {m:Val Â} (h:Go.Am.Rng Â m):∀g∈(m:ł).1.2.1,I64 g.2.2.2.2.1.1:=fun g hg=>(h.1.2.1 g hg).2.2.2.2.1.1
theorem swapCoulds_law:∀x:Val (tyL ml.ts),Go.Am.Rng (tyL ml.ts) x→ml.F x=some true:=fun x h=>abh (mixed_num h.1) x.2.1 x.2.2
end Go.Proofs.ZzM
end
noncomputable section
namespace Go.Proofs.YtenljaeklhlanaaGreat
open Go Go.Am
set_option maxRecDepth 100000
theorem swapCoulds_inPlace:(Rows.swapCouldsRow.inPlace==Tryz.prog.inPlace 4)=true:=by kernel_rfl
theorem swapCoulds_unfollowed:(Rows.swapCouldsRow.unfollowed==Tryz.prog.unfollowed 4)=true:=by kernel_rfl
theorem swapCoulds_recurses:(Rows.swapCouldsRow.recurses==Tryz.prog.recurses 4)=true:=by kernel_rfl
theorem swapCoulds_named:(Rows.swapCouldsRow.named==Tryz.prog.varsNamed 4)=true:=by kernel_rfl
theorem swapCoulds_joined:joinedFacts Tryz.checked.prog 4 Tryz.f4 Rows.swapCouldsSpec Rows.swapCouldsRow=true :=
 joined_of (by kernel_rfl) laidOut mapsOk (by kernel_rfl) (by kernel_rfl) (by kernel_rfl) stopsNil (by kernel_rfl) knobsNil swapCoulds_inPlace swapCoulds_unfollowed swapCoulds_recurses swapCoulds_named
  (by kernel_rfl) (by kernel_rfl) (by kernel_rfl) (by kernel_rfl) (by kernel_rfl) (by kernel_rfl) (by kernel_rfl) (by kernel_rfl) (by kernel_rfl) plainKeysOk (by kernel_rfl) heard enters lifts makes (by kernel_rfl) (by kernel_rfl) (by kernel_rfl) (by kernel_rfl)
theorem swapCoulds_lifted (os:Os) (started:os.Started) (H:Type) (enc:TypeId×Value→H) :
 ReturnsInHanded {} Tryz.checked os 4 .any (Rows.swapCouldsSpec.pre6 enc Tryz.prog Tryz.f4 Rows.swapCouldsRow.domain false) (Rows.swapCouldsSpec.post enc Tryz.prog Tryz.f4 false true false false) :=
 law_lifted (C:=Tryz.checked) (tb:=4) own started (by kernel_rfl) Tryz.func4 (ChangeSpec.witness6 (enc:=enc) (C:=Tryz.checked) false ⟨#[],#[.agg #[.int .i64 0,.int .i64 0,.slice none 0 0,.slice none 0 0,.slice none 0 0,.slice none 0 0,.slice none 0 0,.slice none 0 0],.int .i64 0,.int .i64 0],[]⟩ 8 (by kernel_rfl) (by kernel_rfl) (by kernel_rfl) (by kernel_rfl))
  ZzM.c_w7_SwapCoulds rfl ZzM.swapCoulds_law (by kernel_rfl) rfl (fun ds h=>by
   rw[show Tryz.f4.params.toList.length=3 from by kernel_rfl] at h
   rcases ds with _|⟨d1,_|⟨d2,_|⟨d3,_|⟨d4,ds⟩⟩⟩⟩<;>simp at h
   rfl) laidOut (by kernel_rfl) (by kernel_rfl) (by kernel_rfl)
theorem swapCoulds_holds:Rows.SwapCouldsSaid :=
 OpenClaim.holds_of_wide 4 Tryz.f4 rfl rfl rfl rfl rfl rfl rfl ⟨rfl,rfl,rfl,rfl,rfl⟩ rfl rfl rfl rfl rfl (by kernel_rfl) Tryz.func4 swapCoulds_joined
  (of_decide_eq_true (by kernel_rfl)) (by unfold Func.isWrapper; first|(rw[if_pos (by decide +kernel)]; kernel_rfl)|(rw[if_neg (by decide +kernel)]; exact⟨rfl,rfl⟩))
  (fun os started H enc _=>swapCoulds_lifted os started H enc)
#print axioms swapCoulds_holds
end Go.Proofs.YtenljaeklhlanaaGreat
end