/- for every book of moderate size, a gauge, two days, a further comparison and at most 70 lengths, the order of uses, loans and looks and the exchange of the piles of a comparison change nothing that Fits, Loss and Predict tell, Parse of Print is the book, and Print of Parse the text. Conditions: none. -/
import Derived.Test.YtbiecdpaididoaaGreatDoorMdMA
import Derived.Test.YtbiecdpaididoaaGreatDoorAmC
import Derived.Test.YtbiecdpaididoaaGreatDoorPlB
import Derived.Test.YtbiecdpaididoaaGreatDoorFactsA
import Derived.Test.YtbiecdpaididoaaGreatDoorMdCA
import Derived.ProofKit
set_option linter.all false
set_option linter.unusedSectionVars false
set_option linter.unusedVariables false
set_option linter.unusedSimpArgs false
noncomputable section
namespace Go.Proofs.ZzM
open Go Go.Am
theorem book_num {b:Val Ã} (h:Go.Am.Rng Ã b):∀g∈(b:à).2.1,I64 g.2.2.2.2.1.1:=fun g hg=>(h.2.1 g hg).2.2.2.2.1.1
theorem compareOrder_law:∀x:Val (tyL ŷ.ts),Go.Am.Rng (tyL ŷ.ts) x→ŷ.F x=some true:=fun x h=>L1 (book_num h.1) x.2.1 x.2.2.1 x.2.2.2.1 x.2.2.2.2.1 x.2.2.2.2.2.1 x.2.2.2.2.2.2.1 x.2.2.2.2.2.2.2
end Go.Proofs.ZzM
end
noncomputable section
namespace Go.Proofs.YtbiecdpaididoaaGreatDoor
open Go Go.Am Go.ChangeShapes Go.WideShapes Go.ChangeAt Go.RowKit
set_option maxRecDepth 100000
theorem compareOrder_inPlace:(Rows.compareOrderRow.inPlace==Tryz.prog.inPlace 4)=true:=by kernel_rfl
theorem compareOrder_unfollowed:(Rows.compareOrderRow.unfollowed==Tryz.prog.unfollowed 4)=true:=by kernel_rfl
theorem compareOrder_recurses:(Rows.compareOrderRow.recurses==Tryz.prog.recurses 4)=true:=by kernel_rfl
theorem compareOrder_named:(Rows.compareOrderRow.named==Tryz.prog.varsNamed 4)=true:=by kernel_rfl
theorem compareOrder_joined:joinedFacts Tryz.checked.prog 4 Tryz.f4 (OpenSpec.ofChange Rows.compareOrderSpec).bare Rows.compareOrderRow=true :=
 joined_of (by kernel_rfl) laidOut mapsOk (by kernel_rfl) (by kernel_rfl) (by kernel_rfl) stopsNil (by kernel_rfl) knobsNil compareOrder_inPlace compareOrder_unfollowed compareOrder_recurses compareOrder_named
  (by kernel_rfl) (by kernel_rfl) (by kernel_rfl) (by kernel_rfl) (by kernel_rfl) (by kernel_rfl) (by kernel_rfl) (by kernel_rfl) (by kernel_rfl) plainKeysOk (by kernel_rfl) heard enters lifts makes (by kernel_rfl) (by kernel_rfl) (by kernel_rfl) (by kernel_rfl)
theorem compareOrder_wit (os:Os) (H:Type) (enc:TypeId×Value→H):∃(w:World) (tape:Tape) (i:Input),w.os=os∧(w.forCall tape i).Shaped Tryz.checked.prog∧i.vars=[]∧Input.okWide Tryz.checked.prog (w.forCall tape i) .any w.heap.size 4 i ∧
 (OpenSpec.ofChange Rows.compareOrderSpec).preRow enc Tryz.checked.prog Tryz.f4 Rows.compareOrderRow.domain false Rows.compareOrderRow.laid (w.forCall tape i).memory i.args∧({}:Assume).holds Tryz.checked.prog (lone (Frame.enter Tryz.checked.prog 4 i.args .normal) [] (w.forCall tape i)) :=
 witness_laid (enc:=enc) (C:=Tryz.checked) #[.agg #[.int .i64 0,.int .i64 0,.slice none 0 0,.slice none 0 0,.slice none 0 0,.slice none 0 0,.slice none 0 0],.slice none 0 0,.int .i64 0,.int .i64 0,.int .i64 0,.int .i64 0,.agg #[.int .i64 0,.int .i64 0,.slice none 0 0,.slice none 0 0,.int .i64 0,.int .i64 0,.int .i64 0,.int .i64 0],.string ⟨#[]⟩] (by kernel_rfl) (by kernel_rfl) (by kernel_rfl) (by kernel_rfl) (by kernel_rfl) laidNone (by kernel_rfl) (by kernel_rfl)
theorem compareOrder_lifted (os:Os) (started:os.Started) (H:Type) (enc:TypeId×Value→H) (F:Stop.Interp) :
 ReturnsInHanded {} Tryz.checked os 4 .any ((OpenSpec.ofChange Rows.compareOrderSpec).preRow enc Tryz.prog Tryz.f4 Rows.compareOrderRow.domain false Rows.compareOrderRow.laid) (((OpenSpec.ofChange Rows.compareOrderSpec).at F).post enc Tryz.prog Tryz.f4 false true false false) :=
 law_laid (C:=Tryz.checked) (tb:=4) globs own started (by kernel_rfl) Tryz.func4 (compareOrder_wit os H enc)
  ZzM.c_w5_CompareOrder rfl ZzM.compareOrder_law (by kernel_rfl) rfl (fun ds h=>by
   rw[show Tryz.f4.params.toList.length=8 from by kernel_rfl] at h
   rcases ds with _|⟨d1,_|⟨d2,_|⟨d3,_|⟨d4,_|⟨d5,_|⟨d6,_|⟨d7,_|⟨d8,_|⟨d9,ds⟩⟩⟩⟩⟩⟩⟩⟩⟩<;>simp at h
   rfl) laidOut (by kernel_rfl) (by kernel_rfl) (by kernel_rfl)
theorem compareOrder_said:Rows.CompareOrderSaid :=
 OpenClaim.holds_of_cond 4 Tryz.f4 rfl rfl rfl rfl rfl rfl rfl ⟨rfl,rfl,rfl,rfl,rfl⟩ rfl rfl rfl rfl rfl (by kernel_rfl) Tryz.func4 compareOrder_joined
  (of_decide_eq_true (by kernel_rfl)) (by unfold Func.isWrapper; first|(rw[if_pos (by decide +kernel)]; kernel_rfl)|(rw[if_neg (by decide +kernel)]; exact⟨rfl,rfl⟩))
  (fun os started H enc _ F=>by rw[OpenClaim.pre_eq_preRow]; exact compareOrder_lifted os started H enc F)
theorem compareOrder_wants:(Tryz.f4.params.toList.all fun t=>!Tryz.prog.wantsStandIn t)=true:=by kernel_rfl
theorem compareOrder_plain (f : FuncId) (fn : Func) (hf : Tryz.pinned.checked.prog.funcNamed "wringing/wringinglaw05.CompareOrder" = some f) (hfn : Tryz.pinned.checked.prog.funcs[f]? = some fn) :
 true=Tryz.pinned.checked.prog.looks []∧∀(j:Nat) t,fn.params[j]?=some t→Tryz.pinned.checked.prog.wantsStandIn t=false:=by
 obtain rfl : f = 4 := Option.some.inj ((show Tryz.prog.funcNamed "wringing/wringinglaw05.CompareOrder" = some 4 by kernel_rfl).symm.trans hf) |>.symm
 obtain rfl:fn=Tryz.f4:=(Option.some.inj (Tryz.func4.symm.trans hfn)).symm;refine⟨by kernel_rfl,fun j t ht=>?_⟩;have:=List.all_eq_true.1 compareOrder_wants t (List.mem_of_getElem? (i:=j) (by simpa using ht));exact(show Tryz.prog.wantsStandIn t=false by simpa using this)
theorem compareOrder_holds:Rows.CompareOrderCardSaid :=
 Claim7.holds_tied_plain_at .later [] _ _ _ _ compareOrder_said (fun _ h=>by cases h) (by kernel_rfl) (fun _ h=>by cases h) compareOrder_row_tie rfl ⟨rfl,rfl⟩ (by kernel_rfl) rfl compareOrder_plain (by kernel_rfl)
#print axioms compareOrder_holds
end Go.Proofs.YtbiecdpaididoaaGreatDoor
end