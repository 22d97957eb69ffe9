/- for every book of moderate size and every node: Certify, History and the rest return memory of their own: what a caller writes into it changes nothing that they return later. Conditions: none. -/
import Derived.Test.YtbfmlbheofblcaaGreatMdRB
import Derived.Test.YtbfmlbheofblcaaGreatAmD
import Derived.Test.YtbfmlbheofblcaaGreatPlB
import Derived.Test.YtbfmlbheofblcaaGreatFactsA
set_option linter.all false
set_option linter.unusedSectionVars false
set_option linter.unusedVariables false
set_option linter.unusedSimpArgs false
noncomputable section
namespace Go.Proofs.ZzM
open Go Go.Am
theorem book_num {b:Val Å} (h:Go.Am.Rng Å b):∀g∈(b:ß).2.1,I64 g.2.2.2.2.1.1:=fun g hg=>(h.2.1 g hg).2.2.2.2.1.1
theorem sharpMemory_law:∀x:Val (tyL afR.ts),Go.Am.Rng (tyL afR.ts) x→afR.F x=some true:=fun x h=>if_pos (acD (book_num h.1) x.2)
end Go.Proofs.ZzM
end
noncomputable section
namespace Go.Proofs.YtbfmlbheofblcaaGreat
open Go Go.Am
set_option maxRecDepth 100000
theorem sharpMemory_inPlace:(Rows.sharpMemoryRow.inPlace==Tryz.prog.inPlace 3)=true:=by kernel_rfl
theorem sharpMemory_unfollowed:(Rows.sharpMemoryRow.unfollowed==Tryz.prog.unfollowed 3)=true:=by kernel_rfl
theorem sharpMemory_recurses:(Rows.sharpMemoryRow.recurses==Tryz.prog.recurses 3)=true:=by kernel_rfl
theorem sharpMemory_named:(Rows.sharpMemoryRow.named==Tryz.prog.varsNamed 3)=true:=by kernel_rfl
theorem sharpMemory_joined:joinedFacts Tryz.checked.prog 3 Tryz.f3 Rows.sharpMemorySpec Rows.sharpMemoryRow=true :=
 joined_of (by kernel_rfl) laidOut mapsOk (by kernel_rfl) (by kernel_rfl) (by kernel_rfl) stopsNil (by kernel_rfl) knobsNil sharpMemory_inPlace sharpMemory_unfollowed sharpMemory_recurses sharpMemory_named
  (by kernel_rfl) (by kernel_rfl) (by kernel_rfl) (by kernel_rfl) (by kernel_rfl) (by kernel_rfl) (by kernel_rfl) (by kernel_rfl) (by kernel_rfl) plainKeysOk (by kernel_rfl) heard enters lifts makes (by kernel_rfl) (by kernel_rfl) (by kernel_rfl) (by kernel_rfl)
theorem sharpMemory_lifted (os:Os) (started:os.Started) (H:Type) (enc:TypeId×Value→H) :
 ReturnsInHanded {} Tryz.checked os 3 .any (Rows.sharpMemorySpec.pre6 enc Tryz.prog Tryz.f3 Rows.sharpMemoryRow.domain false) (Rows.sharpMemorySpec.post enc Tryz.prog Tryz.f3 false true false false) :=
 letI:ZzM.NwE:=ZzM.E0
 law_lifted (C:=Tryz.checked) (tb:=4) (fun _=>trivial) (fun _ h=>h) own started (by kernel_rfl) Tryz.func3 (ChangeSpec.witness6 (enc:=enc) (C:=Tryz.checked) false ⟨#[],#[.agg #[.int .i64 0,.int .i64 0,.slice none 0 0,.slice none 0 0,.slice none 0 0,.slice none 0 0,.slice none 0 0],.agg #[.int .i64 0,.int .i64 0]],[]⟩ 8 (by kernel_rfl) (by kernel_rfl) (by kernel_rfl) (by kernel_rfl))
  ZzM.c_Mem rfl ZzM.sharpMemory_law (by kernel_rfl) rfl (fun ds h=>by
   rw[show Tryz.f3.params.toList.length=2 from by kernel_rfl] at h
   rcases ds with _|⟨d1,_|⟨d2,_|⟨d3,ds⟩⟩⟩<;>simp at h
   rfl) laidOut (by kernel_rfl) (by kernel_rfl) (by kernel_rfl)
theorem sharpMemory_holds:Rows.SharpMemorySaid :=
 OpenClaim.holds_of_wide 3 Tryz.f3 rfl rfl rfl rfl rfl rfl rfl ⟨rfl,rfl,rfl,rfl,rfl⟩ rfl rfl rfl rfl rfl (by kernel_rfl) Tryz.func3 sharpMemory_joined
  (of_decide_eq_true (by kernel_rfl)) (by unfold Func.isWrapper; first|(rw[if_pos (by decide +kernel)]; kernel_rfl)|(rw[if_neg (by decide +kernel)]; exact⟨rfl,rfl⟩))
  (fun os started H enc _=>sharpMemory_lifted os started H enc)
#print axioms sharpMemory_holds
end Go.Proofs.YtbfmlbheofblcaaGreat
end