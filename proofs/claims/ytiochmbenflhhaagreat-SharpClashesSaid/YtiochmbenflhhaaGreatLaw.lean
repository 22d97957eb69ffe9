/- For every book of moderate size and a certificate, CheckClash returns what the specification returns, and Clash returns a certificate of a contradiction exactly if there is no history. Conditions: none. -/
import Derived.Test.YtiochmbenflhhaaGreatMdMB
import Derived.Test.YtiochmbenflhhaaGreatAmC
import Derived.Test.YtiochmbenflhhaaGreatPlC
import Derived.Test.YtiochmbenflhhaaGreatFactsA
import Derived.Test.YtiochmbenflhhaaGreatMdCA
set_option linter.all false
set_option linter.unusedSectionVars false
set_option linter.unusedVariables false
set_option linter.unusedSimpArgs false
noncomputable section
namespace Go.Proofs.ZzM
open Go Go.Am
theorem book_num {b:Val Ã} (h:Go.Am.Rng Ã b):∀g∈(b:Þ).2.1,I64 g.2.2.2.2.1.1:=fun g hg=>(h.2.1 g hg).2.2.2.2.1.1
theorem sharpClashes_law:∀x:Val (tyL jE.ts),Go.Am.Rng (tyL jE.ts) x→jE.F x=some true:=fun x h=>ahQ (book_num h.1) (book_num h.2.1.1) x.2.2.1 x.2.2.2
end Go.Proofs.ZzM
end
noncomputable section
namespace Go.Proofs.YtiochmbenflhhaaGreat
open Go Go.Am
set_option maxRecDepth 100000
theorem sharpClashes_inPlace:(Rows.sharpClashesRow.inPlace==Tryz.prog.inPlace 6)=true:=by kernel_rfl
theorem sharpClashes_unfollowed:(Rows.sharpClashesRow.unfollowed==Tryz.prog.unfollowed 6)=true:=by kernel_rfl
theorem sharpClashes_recurses:(Rows.sharpClashesRow.recurses==Tryz.prog.recurses 6)=true:=by kernel_rfl
theorem sharpClashes_named:(Rows.sharpClashesRow.named==Tryz.prog.varsNamed 6)=true:=by kernel_rfl
theorem sharpClashes_joined:joinedFacts Tryz.checked.prog 6 Tryz.f6 Rows.sharpClashesSpec Rows.sharpClashesRow=true :=
 joined_of (by kernel_rfl) laidOut mapsOk (by kernel_rfl) (by kernel_rfl) (by kernel_rfl) stopsNil (by kernel_rfl) knobsNil sharpClashes_inPlace sharpClashes_unfollowed sharpClashes_recurses sharpClashes_named
  (by kernel_rfl) (by kernel_rfl) (by kernel_rfl) (by kernel_rfl) (by kernel_rfl) (by kernel_rfl) (by kernel_rfl) (by kernel_rfl) (by kernel_rfl) plainKeysOk (by kernel_rfl) heard enters lifts makes (by kernel_rfl) (by kernel_rfl) (by kernel_rfl) (by kernel_rfl)
theorem sharpClashes_lifted (os:Os) (started:os.Started) (H:Type) (enc:TypeId×Value→H) :
 ReturnsInHanded {} Tryz.checked os 6 .any (Rows.sharpClashesSpec.pre6 enc Tryz.prog Tryz.f6 Rows.sharpClashesRow.domain false) (Rows.sharpClashesSpec.post enc Tryz.prog Tryz.f6 false true false false) :=
 law_lifted (C:=Tryz.checked) (tb:=4) own started (by kernel_rfl) Tryz.func6 (ChangeSpec.witness6 (enc:=enc) (C:=Tryz.checked) false ⟨#[],#[.agg #[.int .i64 0,.int .i64 0,.slice none 0 0,.slice none 0 0,.slice none 0 0,.slice none 0 0,.slice none 0 0],.agg #[.int .i64 0,.int .i64 0,.slice none 0 0,.slice none 0 0,.slice none 0 0,.slice none 0 0,.slice none 0 0,.int .i64 0,.int .i64 0,.bool false,.int .i64 0,.slice none 0 0],.int .u8 0,.int .i64 0],[]⟩ 8 (by kernel_rfl) (by kernel_rfl) (by kernel_rfl) (by kernel_rfl))
  ZzM.c_w6_SharpClashes rfl ZzM.sharpClashes_law (by kernel_rfl) rfl (fun ds h=>by
   rw[show Tryz.f6.params.toList.length=4 from by kernel_rfl] at h
   rcases ds with _|⟨d1,_|⟨d2,_|⟨d3,_|⟨d4,_|⟨d5,ds⟩⟩⟩⟩⟩<;>simp at h
   rfl) laidOut (by kernel_rfl) (by kernel_rfl) (by kernel_rfl)
theorem sharpClashes_holds:Rows.SharpClashesSaid :=
 OpenClaim.holds_of_wide 6 Tryz.f6 rfl rfl rfl rfl rfl rfl rfl ⟨rfl,rfl,rfl,rfl,rfl⟩ rfl rfl rfl rfl rfl (by kernel_rfl) Tryz.func6 sharpClashes_joined
  (of_decide_eq_true (by kernel_rfl)) (by unfold Func.isWrapper; first|(rw[if_pos (by decide +kernel)]; kernel_rfl)|(rw[if_neg (by decide +kernel)]; exact⟨rfl,rfl⟩))
  (fun os started H enc _=>sharpClashes_lifted os started H enc)
#print axioms sharpClashes_holds
end Go.Proofs.YtiochmbenflhhaaGreat
end