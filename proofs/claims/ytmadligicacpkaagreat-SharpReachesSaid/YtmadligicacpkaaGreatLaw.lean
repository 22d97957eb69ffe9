/- For every book of moderate size and a node, History returns lengths of a history in which the end of the interval is reached. Conditions: none. -/
import Derived.Test.YtmadligicacpkaaGreatMdMA
import Derived.Test.YtmadligicacpkaaGreatAmC
import Derived.Test.YtmadligicacpkaaGreatPlC
import Derived.Test.YtmadligicacpkaaGreatFactsA
import Derived.Test.YtmadligicacpkaaGreatMdCA
set_option linter.all false
set_option linter.unusedSectionVars false
set_option linter.unusedVariables false
set_option linter.unusedSimpArgs false
noncomputable section
namespace Go.Proofs.ZzM
open Go Go.Am
theorem book_num {b:Val Ä} (h:Go.Am.Rng Ä b):∀g∈(b:Ü).2.1,I64 g.2.2.2.2.1.1:=fun g hg=>(h.2.1 g hg).2.2.2.2.1.1
theorem sharpReaches_law:∀x:Val (tyL iZ.ts),Go.Am.Rng (tyL iZ.ts) x→iZ.F x=some true:=fun x h=>aca (book_num h.1) x.2.1 x.2.2
end Go.Proofs.ZzM
end
noncomputable section
namespace Go.Proofs.YtmadligicacpkaaGreat
open Go Go.Am
set_option maxRecDepth 100000
theorem sharpReaches_inPlace:(Rows.sharpReachesRow.inPlace==Tryz.prog.inPlace 4)=true:=by kernel_rfl
theorem sharpReaches_unfollowed:(Rows.sharpReachesRow.unfollowed==Tryz.prog.unfollowed 4)=true:=by kernel_rfl
theorem sharpReaches_recurses:(Rows.sharpReachesRow.recurses==Tryz.prog.recurses 4)=true:=by kernel_rfl
theorem sharpReaches_named:(Rows.sharpReachesRow.named==Tryz.prog.varsNamed 4)=true:=by kernel_rfl
theorem sharpReaches_joined:joinedFacts Tryz.checked.prog 4 Tryz.f4 Rows.sharpReachesSpec Rows.sharpReachesRow=true :=
 joined_of (by kernel_rfl) laidOut mapsOk (by kernel_rfl) (by kernel_rfl) (by kernel_rfl) stopsNil (by kernel_rfl) knobsNil sharpReaches_inPlace sharpReaches_unfollowed sharpReaches_recurses sharpReaches_named
  (by kernel_rfl) (by kernel_rfl) (by kernel_rfl) (by kernel_rfl) (by kernel_rfl) (by kernel_rfl) (by kernel_rfl) (by kernel_rfl) (by kernel_rfl) plainKeysOk (by kernel_rfl) heard enters lifts makes (by kernel_rfl) (by kernel_rfl) (by kernel_rfl) (by kernel_rfl)
theorem sharpReaches_lifted (os:Os) (started:os.Started) (H:Type) (enc:TypeId×Value→H) :
 ReturnsInHanded {} Tryz.checked os 4 .any (Rows.sharpReachesSpec.pre6 enc Tryz.prog Tryz.f4 Rows.sharpReachesRow.domain false) (Rows.sharpReachesSpec.post enc Tryz.prog Tryz.f4 false true false false) :=
 law_lifted (C:=Tryz.checked) (tb:=4) own started (by kernel_rfl) Tryz.func4 (ChangeSpec.witness6 (enc:=enc) (C:=Tryz.checked) false ⟨#[],#[.agg #[.int .i64 0,.int .i64 0,.slice none 0 0,.slice none 0 0,.slice none 0 0,.slice none 0 0,.slice none 0 0],.agg #[.int .i64 0,.int .i64 0],.bool false],[]⟩ 8 (by kernel_rfl) (by kernel_rfl) (by kernel_rfl) (by kernel_rfl))
  ZzM.c_w6_SharpReaches rfl ZzM.sharpReaches_law (by kernel_rfl) rfl (fun ds h=>by
   rw[show Tryz.f4.params.toList.length=3 from by kernel_rfl] at h
   rcases ds with _|⟨d1,_|⟨d2,_|⟨d3,_|⟨d4,ds⟩⟩⟩⟩<;>simp at h
   rfl) laidOut (by kernel_rfl) (by kernel_rfl) (by kernel_rfl)
theorem sharpReaches_holds:Rows.SharpReachesSaid :=
 OpenClaim.holds_of_wide 4 Tryz.f4 rfl rfl rfl rfl rfl rfl rfl ⟨rfl,rfl,rfl,rfl,rfl⟩ rfl rfl rfl rfl rfl (by kernel_rfl) Tryz.func4 sharpReaches_joined
  (of_decide_eq_true (by kernel_rfl)) (by unfold Func.isWrapper; first|(rw[if_pos (by decide +kernel)]; kernel_rfl)|(rw[if_neg (by decide +kernel)]; exact⟨rfl,rfl⟩))
  (fun os started H enc _=>sharpReaches_lifted os started H enc)
#print axioms sharpReaches_holds
end Go.Proofs.YtmadligicacpkaaGreat
end