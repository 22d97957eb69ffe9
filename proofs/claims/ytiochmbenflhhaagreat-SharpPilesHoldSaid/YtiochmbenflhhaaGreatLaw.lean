/- For every book of moderate size, a day, two piles and lengths that fit, the sum of the one pile and its difference from the other one lie in Pile and Differ. Conditions: none. -/
import Derived.Test.YtiochmbenflhhaaGreatMdMA
import Derived.Test.YtiochmbenflhhaaGreatAmC
import Derived.Test.YtiochmbenflhhaaGreatPlB
import Derived.Test.YtiochmbenflhhaaGreatFactsA
import Derived.Test.YtiochmbenflhhaaGreatMdCA
set_option linter.all false
set_option linter.unusedSectionVars false
set_option linter.unusedVariables false
set_option linter.unusedSimpArgs false
noncomputable section
namespace Go.Proofs.ZzM
open Go Go.Am
theorem book_num {b:Val Ä} (h:Go.Am.Rng Ä b):∀g∈(b:Ü).2.1,I64 g.2.2.2.2.1.1:=fun g hg=>(h.2.1 g hg).2.2.2.2.1.1
theorem sharpPilesHold_law:∀x:Val (tyL hZ.ts),Go.Am.Rng (tyL hZ.ts) x→hZ.F x=some true:=fun x h=>Qv (book_num h.1) x.2.1 x.2.2.1 x.2.2.2.1 x.2.2.2.2.1 x.2.2.2.2.2
end Go.Proofs.ZzM
end
noncomputable section
namespace Go.Proofs.YtiochmbenflhhaaGreat
open Go Go.Am
set_option maxRecDepth 100000
theorem sharpPilesHold_inPlace:(Rows.sharpPilesHoldRow.inPlace==Tryz.prog.inPlace 5)=true:=by kernel_rfl
theorem sharpPilesHold_unfollowed:(Rows.sharpPilesHoldRow.unfollowed==Tryz.prog.unfollowed 5)=true:=by kernel_rfl
theorem sharpPilesHold_recurses:(Rows.sharpPilesHoldRow.recurses==Tryz.prog.recurses 5)=true:=by kernel_rfl
theorem sharpPilesHold_named:(Rows.sharpPilesHoldRow.named==Tryz.prog.varsNamed 5)=true:=by kernel_rfl
theorem sharpPilesHold_joined:joinedFacts Tryz.checked.prog 5 Tryz.f5 Rows.sharpPilesHoldSpec Rows.sharpPilesHoldRow=true :=
 joined_of (by kernel_rfl) laidOut mapsOk (by kernel_rfl) (by kernel_rfl) (by kernel_rfl) stopsNil (by kernel_rfl) knobsNil sharpPilesHold_inPlace sharpPilesHold_unfollowed sharpPilesHold_recurses sharpPilesHold_named
  (by kernel_rfl) (by kernel_rfl) (by kernel_rfl) (by kernel_rfl) (by kernel_rfl) (by kernel_rfl) (by kernel_rfl) (by kernel_rfl) (by kernel_rfl) plainKeysOk (by kernel_rfl) heard enters lifts makes (by kernel_rfl) (by kernel_rfl) (by kernel_rfl) (by kernel_rfl)
theorem sharpPilesHold_lifted (os:Os) (started:os.Started) (H:Type) (enc:TypeId×Value→H) :
 ReturnsInHanded {} Tryz.checked os 5 .any (Rows.sharpPilesHoldSpec.pre6 enc Tryz.prog Tryz.f5 Rows.sharpPilesHoldRow.domain false) (Rows.sharpPilesHoldSpec.post enc Tryz.prog Tryz.f5 false true false false) :=
 law_lifted (C:=Tryz.checked) (tb:=4) own started (by kernel_rfl) Tryz.func5 (ChangeSpec.witness6 (enc:=enc) (C:=Tryz.checked) false ⟨#[],#[.agg #[.int .i64 0,.int .i64 0,.slice none 0 0,.slice none 0 0,.slice none 0 0,.slice none 0 0,.slice none 0 0],.int .i64 0,.slice none 0 0,.slice none 0 0,.slice none 0 0,.bool false],[]⟩ 8 (by kernel_rfl) (by kernel_rfl) (by kernel_rfl) (by kernel_rfl))
  ZzM.c_w6_SharpPilesHold rfl ZzM.sharpPilesHold_law (by kernel_rfl) rfl (fun ds h=>by
   rw[show Tryz.f5.params.toList.length=6 from by kernel_rfl] at h
   rcases ds with _|⟨d1,_|⟨d2,_|⟨d3,_|⟨d4,_|⟨d5,_|⟨d6,_|⟨d7,ds⟩⟩⟩⟩⟩⟩⟩<;>simp at h
   rfl) laidOut (by kernel_rfl) (by kernel_rfl) (by kernel_rfl)
theorem sharpPilesHold_holds:Rows.SharpPilesHoldSaid :=
 OpenClaim.holds_of_wide 5 Tryz.f5 rfl rfl rfl rfl rfl rfl rfl ⟨rfl,rfl,rfl,rfl,rfl⟩ rfl rfl rfl rfl rfl (by kernel_rfl) Tryz.func5 sharpPilesHold_joined
  (of_decide_eq_true (by kernel_rfl)) (by unfold Func.isWrapper; first|(rw[if_pos (by decide +kernel)]; kernel_rfl)|(rw[if_neg (by decide +kernel)]; exact⟨rfl,rfl⟩))
  (fun os started H enc _=>sharpPilesHold_lifted os started H enc)
#print axioms sharpPilesHold_holds
end Go.Proofs.YtiochmbenflhhaaGreat
end