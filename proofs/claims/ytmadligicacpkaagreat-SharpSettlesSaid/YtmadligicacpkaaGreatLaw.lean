/- For every book of moderate size, a node, limits and a further comparison, Settles returns what the specification returns. Conditions: none. -/
import Derived.Test.YtmadligicacpkaaGreatMdMA
import Derived.Test.YtmadligicacpkaaGreatAmC
import Derived.Test.YtmadligicacpkaaGreatPlC
import Derived.Test.YtmadligicacpkaaGreatFactsA
import Derived.Test.YtmadligicacpkaaGreatMdCA
set_option linter.all false
set_option linter.unusedSectionVars false
set_option linter.unusedVariables false
set_option linter.unusedSimpArgs false
noncomputable section
namespace Go.Proofs.ZzM
open Go Go.Am
theorem book_num {b:Val Å} (h:Go.Am.Rng Å b):∀g∈(b:ß).2.1,I64 g.2.2.2.2.1.1:=fun g hg=>(h.2.1 g hg).2.2.2.2.1.1
theorem sharpSettles_law:∀x:Val (tyL jr.ts),Go.Am.Rng (tyL jr.ts) x→jr.F x=some true:=fun x h=>ac8 (book_num h.1) x.2.1 x.2.2.1 x.2.2.2
end Go.Proofs.ZzM
end
noncomputable section
namespace Go.Proofs.YtmadligicacpkaaGreat
open Go Go.Am
set_option maxRecDepth 100000
theorem sharpSettles_inPlace:(Rows.sharpSettlesRow.inPlace==Tryz.prog.inPlace 8)=true:=by kernel_rfl
theorem sharpSettles_unfollowed:(Rows.sharpSettlesRow.unfollowed==Tryz.prog.unfollowed 8)=true:=by kernel_rfl
theorem sharpSettles_recurses:(Rows.sharpSettlesRow.recurses==Tryz.prog.recurses 8)=true:=by kernel_rfl
theorem sharpSettles_named:(Rows.sharpSettlesRow.named==Tryz.prog.varsNamed 8)=true:=by kernel_rfl
theorem sharpSettles_joined:joinedFacts Tryz.checked.prog 8 Tryz.f8 Rows.sharpSettlesSpec Rows.sharpSettlesRow=true :=
 joined_of (by kernel_rfl) laidOut mapsOk (by kernel_rfl) (by kernel_rfl) (by kernel_rfl) stopsNil (by kernel_rfl) knobsNil sharpSettles_inPlace sharpSettles_unfollowed sharpSettles_recurses sharpSettles_named
  (by kernel_rfl) (by kernel_rfl) (by kernel_rfl) (by kernel_rfl) (by kernel_rfl) (by kernel_rfl) (by kernel_rfl) (by kernel_rfl) (by kernel_rfl) plainKeysOk (by kernel_rfl) heard enters lifts makes (by kernel_rfl) (by kernel_rfl) (by kernel_rfl) (by kernel_rfl)
theorem sharpSettles_lifted (os:Os) (started:os.Started) (H:Type) (enc:TypeId×Value→H) :
 ReturnsInHanded {} Tryz.checked os 8 .any (Rows.sharpSettlesSpec.pre6 enc Tryz.prog Tryz.f8 Rows.sharpSettlesRow.domain false) (Rows.sharpSettlesSpec.post enc Tryz.prog Tryz.f8 false true false false) :=
 law_lifted (C:=Tryz.checked) (tb:=4) own started (by kernel_rfl) Tryz.func8 (ChangeSpec.witness6 (enc:=enc) (C:=Tryz.checked) false ⟨#[],#[.agg #[.int .i64 0,.int .i64 0,.slice none 0 0,.slice none 0 0,.slice none 0 0,.slice none 0 0,.slice none 0 0],.agg #[.int .i64 0,.int .i64 0],.agg #[.int .i64 0,.int .i64 0],.agg #[.int .i64 0,.int .i64 0,.slice none 0 0,.slice none 0 0,.int .i64 0,.int .i64 0,.int .i64 0,.int .i64 0]],[]⟩ 8 (by kernel_rfl) (by kernel_rfl) (by kernel_rfl) (by kernel_rfl))
  ZzM.c_w6_SharpSettles rfl ZzM.sharpSettles_law (by kernel_rfl) rfl (fun ds h=>by
   rw[show Tryz.f8.params.toList.length=4 from by kernel_rfl] at h
   rcases ds with _|⟨d1,_|⟨d2,_|⟨d3,_|⟨d4,_|⟨d5,ds⟩⟩⟩⟩⟩<;>simp at h
   rfl) laidOut (by kernel_rfl) (by kernel_rfl) (by kernel_rfl)
theorem sharpSettles_holds:Rows.SharpSettlesSaid :=
 OpenClaim.holds_of_wide 8 Tryz.f8 rfl rfl rfl rfl rfl rfl rfl ⟨rfl,rfl,rfl,rfl,rfl⟩ rfl rfl rfl rfl rfl (by kernel_rfl) Tryz.func8 sharpSettles_joined
  (of_decide_eq_true (by kernel_rfl)) (by unfold Func.isWrapper; first|(rw[if_pos (by decide +kernel)]; kernel_rfl)|(rw[if_neg (by decide +kernel)]; exact⟨rfl,rfl⟩))
  (fun os started H enc _=>sharpSettles_lifted os started H enc)
#print axioms sharpSettles_holds
end Go.Proofs.YtmadligicacpkaaGreat
end