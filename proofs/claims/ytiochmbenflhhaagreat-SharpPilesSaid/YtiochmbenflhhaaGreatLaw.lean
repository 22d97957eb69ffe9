/- For every book of moderate size, a day and two lists of gauges, Pile and Differ return what the specification returns. Conditions: none. -/
import Derived.Test.YtiochmbenflhhaaGreatMdMB
import Derived.Test.YtiochmbenflhhaaGreatAmC
import Derived.Test.YtiochmbenflhhaaGreatPlC
import Derived.Test.YtiochmbenflhhaaGreatFactsA
import Derived.Test.YtiochmbenflhhaaGreatMdCA
set_option linter.all false
set_option linter.unusedSectionVars false
set_option linter.unusedVariables false
set_option linter.unusedSimpArgs false
noncomputable section
namespace Go.Proofs.ZzM
open Go Go.Am
theorem book_num {b:Val Ä} (h:Go.Am.Rng Ä b):∀g∈(b:ß).2.1,I64 g.2.2.2.2.1.1:=fun g hg=>(h.2.1 g hg).2.2.2.2.1.1
theorem sharpPiles_law:∀x:Val (tyL lM.ts),Go.Am.Rng (tyL lM.ts) x→lM.F x=some true:=fun x h=>al6 (book_num h.1) x.2.1 x.2.2.1 x.2.2.2
end Go.Proofs.ZzM
end
noncomputable section
namespace Go.Proofs.YtiochmbenflhhaaGreat
open Go Go.Am
set_option maxRecDepth 100000
theorem sharpPiles_inPlace:(Rows.sharpPilesRow.inPlace==Tryz.prog.inPlace 4)=true:=by kernel_rfl
theorem sharpPiles_unfollowed:(Rows.sharpPilesRow.unfollowed==Tryz.prog.unfollowed 4)=true:=by kernel_rfl
theorem sharpPiles_recurses:(Rows.sharpPilesRow.recurses==Tryz.prog.recurses 4)=true:=by kernel_rfl
theorem sharpPiles_named:(Rows.sharpPilesRow.named==Tryz.prog.varsNamed 4)=true:=by kernel_rfl
theorem sharpPiles_joined:joinedFacts Tryz.checked.prog 4 Tryz.f4 Rows.sharpPilesSpec Rows.sharpPilesRow=true :=
 joined_of (by kernel_rfl) laidOut mapsOk (by kernel_rfl) (by kernel_rfl) (by kernel_rfl) stopsNil (by kernel_rfl) knobsNil sharpPiles_inPlace sharpPiles_unfollowed sharpPiles_recurses sharpPiles_named
  (by kernel_rfl) (by kernel_rfl) (by kernel_rfl) (by kernel_rfl) (by kernel_rfl) (by kernel_rfl) (by kernel_rfl) (by kernel_rfl) (by kernel_rfl) plainKeysOk (by kernel_rfl) heard enters lifts makes (by kernel_rfl) (by kernel_rfl) (by kernel_rfl) (by kernel_rfl)
theorem sharpPiles_lifted (os:Os) (started:os.Started) (H:Type) (enc:TypeId×Value→H) :
 ReturnsInHanded {} Tryz.checked os 4 .any (Rows.sharpPilesSpec.pre6 enc Tryz.prog Tryz.f4 Rows.sharpPilesRow.domain false) (Rows.sharpPilesSpec.post enc Tryz.prog Tryz.f4 false true false false) :=
 law_lifted (C:=Tryz.checked) (tb:=4) own started (by kernel_rfl) Tryz.func4 (ChangeSpec.witness6 (enc:=enc) (C:=Tryz.checked) false ⟨#[],#[.agg #[.int .i64 0,.int .i64 0,.slice none 0 0,.slice none 0 0,.slice none 0 0,.slice none 0 0,.slice none 0 0],.int .i64 0,.slice none 0 0,.slice none 0 0],[]⟩ 8 (by kernel_rfl) (by kernel_rfl) (by kernel_rfl) (by kernel_rfl))
  ZzM.c_w6_SharpPiles rfl ZzM.sharpPiles_law (by kernel_rfl) rfl (fun ds h=>by
   rw[show Tryz.f4.params.toList.length=4 from by kernel_rfl] at h
   rcases ds with _|⟨d1,_|⟨d2,_|⟨d3,_|⟨d4,_|⟨d5,ds⟩⟩⟩⟩⟩<;>simp at h
   rfl) laidOut (by kernel_rfl) (by kernel_rfl) (by kernel_rfl)
theorem sharpPiles_holds:Rows.SharpPilesSaid :=
 OpenClaim.holds_of_wide 4 Tryz.f4 rfl rfl rfl rfl rfl rfl rfl ⟨rfl,rfl,rfl,rfl,rfl⟩ rfl rfl rfl rfl rfl (by kernel_rfl) Tryz.func4 sharpPiles_joined
  (of_decide_eq_true (by kernel_rfl)) (by unfold Func.isWrapper; first|(rw[if_pos (by decide +kernel)]; kernel_rfl)|(rw[if_neg (by decide +kernel)]; exact⟨rfl,rfl⟩))
  (fun os started H enc _=>sharpPiles_lifted os started H enc)
#print axioms sharpPiles_holds
end Go.Proofs.YtiochmbenflhhaaGreat
end