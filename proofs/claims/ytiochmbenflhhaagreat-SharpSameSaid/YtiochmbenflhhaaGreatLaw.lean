/- For every book of moderate size and two nodes of one day, the pile and the difference of single gauges are their interval and what lies between them, and each book is a part of itself. Conditions: none. -/
import Derived.Test.YtiochmbenflhhaaGreatMdMA
import Derived.Test.YtiochmbenflhhaaGreatAmC
import Derived.Test.YtiochmbenflhhaaGreatPlC
import Derived.Test.YtiochmbenflhhaaGreatFactsA
import Derived.Test.YtiochmbenflhhaaGreatMdCA
set_option linter.all false
set_option linter.unusedSectionVars false
set_option linter.unusedVariables false
set_option linter.unusedSimpArgs false
noncomputable section
namespace Go.Proofs.ZzM
open Go Go.Am
theorem book_num {b:Val Ä} (h:Go.Am.Rng Ä b):∀g∈(b:Þ).2.1,I64 g.2.2.2.2.1.1:=fun g hg=>(h.2.1 g hg).2.2.2.2.1.1
theorem sharpSame_law:∀x:Val (tyL mq.ts),Go.Am.Rng (tyL mq.ts) x→mq.F x=some true:=fun x h=>akL (book_num h.1) x.2.1 x.2.2.1 x.2.2.2
end Go.Proofs.ZzM
end
noncomputable section
namespace Go.Proofs.YtiochmbenflhhaaGreat
open Go Go.Am
set_option maxRecDepth 100000
theorem sharpSame_inPlace:(Rows.sharpSameRow.inPlace==Tryz.prog.inPlace 3)=true:=by kernel_rfl
theorem sharpSame_unfollowed:(Rows.sharpSameRow.unfollowed==Tryz.prog.unfollowed 3)=true:=by kernel_rfl
theorem sharpSame_recurses:(Rows.sharpSameRow.recurses==Tryz.prog.recurses 3)=true:=by kernel_rfl
theorem sharpSame_named:(Rows.sharpSameRow.named==Tryz.prog.varsNamed 3)=true:=by kernel_rfl
theorem sharpSame_joined:joinedFacts Tryz.checked.prog 3 Tryz.f3 Rows.sharpSameSpec Rows.sharpSameRow=true :=
 joined_of (by kernel_rfl) laidOut mapsOk (by kernel_rfl) (by kernel_rfl) (by kernel_rfl) stopsNil (by kernel_rfl) knobsNil sharpSame_inPlace sharpSame_unfollowed sharpSame_recurses sharpSame_named
  (by kernel_rfl) (by kernel_rfl) (by kernel_rfl) (by kernel_rfl) (by kernel_rfl) (by kernel_rfl) (by kernel_rfl) (by kernel_rfl) (by kernel_rfl) plainKeysOk (by kernel_rfl) heard enters lifts makes (by kernel_rfl) (by kernel_rfl) (by kernel_rfl) (by kernel_rfl)
theorem sharpSame_lifted (os:Os) (started:os.Started) (H:Type) (enc:TypeId×Value→H) :
 ReturnsInHanded {} Tryz.checked os 3 .any (Rows.sharpSameSpec.pre6 enc Tryz.prog Tryz.f3 Rows.sharpSameRow.domain false) (Rows.sharpSameSpec.post enc Tryz.prog Tryz.f3 false true false false) :=
 law_lifted (C:=Tryz.checked) (tb:=4) own started (by kernel_rfl) Tryz.func3 (ChangeSpec.witness6 (enc:=enc) (C:=Tryz.checked) false ⟨#[],#[.agg #[.int .i64 0,.int .i64 0,.slice none 0 0,.slice none 0 0,.slice none 0 0,.slice none 0 0,.slice none 0 0],.int .i64 0,.int .i64 0,.int .i64 0],[]⟩ 8 (by kernel_rfl) (by kernel_rfl) (by kernel_rfl) (by kernel_rfl))
  ZzM.c_w6_SharpSame rfl ZzM.sharpSame_law (by kernel_rfl) rfl (fun ds h=>by
   rw[show Tryz.f3.params.toList.length=4 from by kernel_rfl] at h
   rcases ds with _|⟨d1,_|⟨d2,_|⟨d3,_|⟨d4,_|⟨d5,ds⟩⟩⟩⟩⟩<;>simp at h
   rfl) laidOut (by kernel_rfl) (by kernel_rfl) (by kernel_rfl)
theorem sharpSame_holds:Rows.SharpSameSaid :=
 OpenClaim.holds_of_wide 3 Tryz.f3 rfl rfl rfl rfl rfl rfl rfl ⟨rfl,rfl,rfl,rfl,rfl⟩ rfl rfl rfl rfl rfl (by kernel_rfl) Tryz.func3 sharpSame_joined
  (of_decide_eq_true (by kernel_rfl)) (by unfold Func.isWrapper; first|(rw[if_pos (by decide +kernel)]; kernel_rfl)|(rw[if_neg (by decide +kernel)]; exact⟨rfl,rfl⟩))
  (fun os started H enc _=>sharpSame_lifted os started H enc)
#print axioms sharpSame_holds
end Go.Proofs.YtiochmbenflhhaaGreat
end