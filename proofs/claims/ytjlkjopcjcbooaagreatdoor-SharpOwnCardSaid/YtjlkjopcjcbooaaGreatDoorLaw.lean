/- for every book of moderate size and a node, both certificates of Certify are accepted, stand for the book and say what Interval says, and their texts lead back. Conditions: none. -/
import Derived.Test.YtjlkjopcjcbooaaGreatDoorMdMA
import Derived.Test.YtjlkjopcjcbooaaGreatDoorAmC
import Derived.Test.YtjlkjopcjcbooaaGreatDoorPlB
import Derived.Test.YtjlkjopcjcbooaaGreatDoorFactsA
import Derived.Test.YtjlkjopcjcbooaaGreatDoorMdRG
import Derived.ProofKit
set_option linter.all false
set_option linter.unusedSectionVars false
set_option linter.unusedVariables false
set_option linter.unusedSimpArgs false
noncomputable section
namespace Go.Proofs.ZzM
open Go Go.Am
theorem book_num {b:Val Å} (h:Go.Am.Rng Å b):∀g∈(b:Ý).2.1,I64 g.2.2.2.2.1.1:=fun g hg=>(h.2.1 g hg).2.2.2.2.1.1
theorem sharpOwn_law:∀x:Val (tyL mA.ts),Go.Am.Rng (tyL mA.ts) x→mA.F x=some true:=fun x h=>acL rfl (book_num h.1) h.2.1 h.2.2
end Go.Proofs.ZzM
end
noncomputable section
namespace Go.Proofs.YtjlkjopcjcbooaaGreatDoor
open Go Go.Am Go.ChangeShapes Go.WideShapes Go.ChangeAt Go.RowKit
set_option maxRecDepth 100000
theorem sharpOwn_inPlace:(Rows.sharpOwnRow.inPlace==Tryz.prog.inPlace 4)=true:=by kernel_rfl
theorem sharpOwn_unfollowed:(Rows.sharpOwnRow.unfollowed==Tryz.prog.unfollowed 4)=true:=by kernel_rfl
theorem sharpOwn_recurses:(Rows.sharpOwnRow.recurses==Tryz.prog.recurses 4)=true:=by kernel_rfl
theorem sharpOwn_named:(Rows.sharpOwnRow.named==Tryz.prog.varsNamed 4)=true:=by kernel_rfl
theorem sharpOwn_joined:joinedFacts Tryz.checked.prog 4 Tryz.f4 (OpenSpec.ofChange Rows.sharpOwnSpec).bare Rows.sharpOwnRow=true :=
 joined_of (by kernel_rfl) laidOut mapsOk (by kernel_rfl) (by kernel_rfl) (by kernel_rfl) stopsNil (by kernel_rfl) knobsNil sharpOwn_inPlace sharpOwn_unfollowed sharpOwn_recurses sharpOwn_named
  (by kernel_rfl) (by kernel_rfl) (by kernel_rfl) (by kernel_rfl) (by kernel_rfl) (by kernel_rfl) (by kernel_rfl) (by kernel_rfl) (by kernel_rfl) plainKeysOk (by kernel_rfl) heard enters lifts makes (by kernel_rfl) (by kernel_rfl) (by kernel_rfl) (by kernel_rfl)
theorem sharpOwn_wit (os:Os) (H:Type) (enc:TypeId×Value→H):∃(w:World) (tape:Tape) (i:Input),w.os=os∧(w.forCall tape i).Shaped Tryz.checked.prog∧i.vars=[]∧Input.okWide Tryz.checked.prog (w.forCall tape i) .any w.heap.size 4 i ∧
 (OpenSpec.ofChange Rows.sharpOwnSpec).preRow enc Tryz.checked.prog Tryz.f4 Rows.sharpOwnRow.domain false Rows.sharpOwnRow.laid (w.forCall tape i).memory i.args∧({}:Assume).holds Tryz.checked.prog (lone (Frame.enter Tryz.checked.prog 4 i.args .normal) [] (w.forCall tape i)) :=
 witness_laid (enc:=enc) (C:=Tryz.checked) #[.agg #[.int .i64 0,.int .i64 0,.slice none 0 0,.slice none 0 0,.slice none 0 0,.slice none 0 0,.slice none 0 0],.agg #[.int .i64 0,.int .i64 0]] (by kernel_rfl) (by kernel_rfl) (by kernel_rfl) (by kernel_rfl) (by kernel_rfl) laidNone (by kernel_rfl) (by kernel_rfl)
theorem sharpOwn_lifted (os:Os) (started:os.Started) (H:Type) (enc:TypeId×Value→H) (F:Stop.Interp) :
 ReturnsInHanded {} Tryz.checked os 4 .any ((OpenSpec.ofChange Rows.sharpOwnSpec).preRow enc Tryz.prog Tryz.f4 Rows.sharpOwnRow.domain false Rows.sharpOwnRow.laid) (((OpenSpec.ofChange Rows.sharpOwnSpec).at F).post enc Tryz.prog Tryz.f4 false true false false) :=
 law_laid (C:=Tryz.checked) (tb:=4) globs own started (by kernel_rfl) Tryz.func4 (sharpOwn_wit os H enc)
  ZzM.c_w6_SharpOwn rfl ZzM.sharpOwn_law (by kernel_rfl) rfl (fun ds h=>by
   rw[show Tryz.f4.params.toList.length=2 from by kernel_rfl] at h
   rcases ds with _|⟨d1,_|⟨d2,_|⟨d3,ds⟩⟩⟩<;>simp at h
   rfl) laidOut (by kernel_rfl) (by kernel_rfl) (by kernel_rfl)
theorem sharpOwn_said:Rows.SharpOwnSaid :=
 OpenClaim.holds_of_cond 4 Tryz.f4 rfl rfl rfl rfl rfl rfl rfl ⟨rfl,rfl,rfl,rfl,rfl⟩ rfl rfl rfl rfl rfl (by kernel_rfl) Tryz.func4 sharpOwn_joined
  (of_decide_eq_true (by kernel_rfl)) (by unfold Func.isWrapper; first|(rw[if_pos (by decide +kernel)]; kernel_rfl)|(rw[if_neg (by decide +kernel)]; exact⟨rfl,rfl⟩))
  (fun os started H enc _ F=>by rw[OpenClaim.pre_eq_preRow]; exact sharpOwn_lifted os started H enc F)
theorem sharpOwn_wants:(Tryz.f4.params.toList.all fun t=>!Tryz.prog.wantsStandIn t)=true:=by kernel_rfl
theorem sharpOwn_plain (f : FuncId) (fn : Func) (hf : Tryz.pinned.checked.prog.funcNamed "wringing/wringinglaw06.SharpOwn" = some f) (hfn : Tryz.pinned.checked.prog.funcs[f]? = some fn) :
 true=Tryz.pinned.checked.prog.looks []∧∀(j:Nat) t,fn.params[j]?=some t→Tryz.pinned.checked.prog.wantsStandIn t=false:=by
 obtain rfl : f = 4 := Option.some.inj ((show Tryz.prog.funcNamed "wringing/wringinglaw06.SharpOwn" = some 4 by kernel_rfl).symm.trans hf) |>.symm
 obtain rfl:fn=Tryz.f4:=(Option.some.inj (Tryz.func4.symm.trans hfn)).symm;refine⟨by kernel_rfl,fun j t ht=>?_⟩;have:=List.all_eq_true.1 sharpOwn_wants t (List.mem_of_getElem? (i:=j) (by simpa using ht));exact(show Tryz.prog.wantsStandIn t=false by simpa using this)
theorem sharpOwn_holds:Rows.SharpOwnCardSaid :=
 Claim7.holds_tied_plain_at .later [] _ _ _ _ sharpOwn_said (fun _ h=>by cases h) (by kernel_rfl) (fun _ h=>by cases h) sharpOwn_row_tie rfl ⟨rfl,rfl⟩ (by kernel_rfl) rfl sharpOwn_plain (by kernel_rfl)
#print axioms sharpOwn_holds
end Go.Proofs.YtjlkjopcjcbooaaGreatDoor
end