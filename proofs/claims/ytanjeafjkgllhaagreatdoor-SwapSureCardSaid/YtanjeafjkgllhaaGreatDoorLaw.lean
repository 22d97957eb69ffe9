/- for every case of at most 6 gauges, 8 comparisons and 6 mix-ups, and every text of at most 2000 bytes: a label that is sure is on its gauge at the end by all ways that explain the case, and no other label is; Parse of Print is the case, Print of Parse the text. Conditions: none. -/
import Derived.Test.YtanjeafjkgllhaaGreatDoorMdMA
import Derived.Test.YtanjeafjkgllhaaGreatDoorAmC
import Derived.Test.YtanjeafjkgllhaaGreatDoorPlB
import Derived.Test.YtanjeafjkgllhaaGreatDoorFactsA
import Derived.Test.YtanjeafjkgllhaaGreatDoorMdRA
import Derived.ProofKit
set_option linter.all false
set_option linter.unusedSectionVars false
set_option linter.unusedVariables false
set_option linter.unusedSimpArgs false
noncomputable section
namespace Go.Proofs.ZzM
open Go Go.Am
theorem mixed_num {m:Val Â} (h:Go.Am.Rng Â m):∀g∈(m:ε).1.2.1,I64 g.2.2.2.2.1.1:=fun g hg=>(h.1.2.1 g hg).2.2.2.2.1.1
theorem swapSure_law:∀x:Val (tyL nS.ts),Go.Am.Rng (tyL nS.ts) x→nS.F x=some true:=fun x h=>ado rfl (mixed_num h.1) x.2
end Go.Proofs.ZzM
end
noncomputable section
namespace Go.Proofs.YtanjeafjkgllhaaGreatDoor
open Go Go.Am Go.ChangeShapes Go.WideShapes Go.ChangeAt Go.RowKit
set_option maxRecDepth 100000
theorem swapSure_inPlace:(Rows.swapSureRow.inPlace==Tryz.prog.inPlace 3)=true:=by kernel_rfl
theorem swapSure_unfollowed:(Rows.swapSureRow.unfollowed==Tryz.prog.unfollowed 3)=true:=by kernel_rfl
theorem swapSure_recurses:(Rows.swapSureRow.recurses==Tryz.prog.recurses 3)=true:=by kernel_rfl
theorem swapSure_named:(Rows.swapSureRow.named==Tryz.prog.varsNamed 3)=true:=by kernel_rfl
theorem swapSure_joined:joinedFacts Tryz.checked.prog 3 Tryz.f3 (OpenSpec.ofChange Rows.swapSureSpec).bare Rows.swapSureRow=true :=
 joined_of (by kernel_rfl) laidOut mapsOk (by kernel_rfl) (by kernel_rfl) (by kernel_rfl) stopsNil (by kernel_rfl) knobsNil swapSure_inPlace swapSure_unfollowed swapSure_recurses swapSure_named
  (by kernel_rfl) (by kernel_rfl) (by kernel_rfl) (by kernel_rfl) (by kernel_rfl) (by kernel_rfl) (by kernel_rfl) (by kernel_rfl) (by kernel_rfl) plainKeysOk (by kernel_rfl) heard enters lifts makes (by kernel_rfl) (by kernel_rfl) (by kernel_rfl) (by kernel_rfl)
theorem swapSure_wit (os:Os) (H:Type) (enc:TypeId×Value→H):∃(w:World) (tape:Tape) (i:Input),w.os=os∧(w.forCall tape i).Shaped Tryz.checked.prog∧i.vars=[]∧Input.okWide Tryz.checked.prog (w.forCall tape i) .any w.heap.size 3 i ∧
 (OpenSpec.ofChange Rows.swapSureSpec).preRow enc Tryz.checked.prog Tryz.f3 Rows.swapSureRow.domain false Rows.swapSureRow.laid (w.forCall tape i).memory i.args∧({}:Assume).holds Tryz.checked.prog (lone (Frame.enter Tryz.checked.prog 3 i.args .normal) [] (w.forCall tape i)) :=
 witness_laid (enc:=enc) (C:=Tryz.checked) #[.agg #[.int .i64 0,.int .i64 0,.slice none 0 0,.slice none 0 0,.slice none 0 0,.slice none 0 0,.slice none 0 0,.slice none 0 0],.string ⟨#[]⟩] (by kernel_rfl) (by kernel_rfl) (by kernel_rfl) (by kernel_rfl) (by kernel_rfl) laidNone (by kernel_rfl) (by kernel_rfl)
theorem swapSure_lifted (os:Os) (started:os.Started) (H:Type) (enc:TypeId×Value→H) (F:Stop.Interp) :
 ReturnsInHanded {} Tryz.checked os 3 .any ((OpenSpec.ofChange Rows.swapSureSpec).preRow enc Tryz.prog Tryz.f3 Rows.swapSureRow.domain false Rows.swapSureRow.laid) (((OpenSpec.ofChange Rows.swapSureSpec).at F).post enc Tryz.prog Tryz.f3 false true false false) :=
 law_laid (C:=Tryz.checked) (tb:=4) globs own started (by kernel_rfl) Tryz.func3 (swapSure_wit os H enc)
  ZzM.c_w7_SwapSure rfl ZzM.swapSure_law (by kernel_rfl) rfl (fun ds h=>by
   rw[show Tryz.f3.params.toList.length=2 from by kernel_rfl] at h
   rcases ds with _|⟨d1,_|⟨d2,_|⟨d3,ds⟩⟩⟩<;>simp at h
   rfl) laidOut (by kernel_rfl) (by kernel_rfl) (by kernel_rfl)
theorem swapSure_said:Rows.SwapSureSaid :=
 OpenClaim.holds_of_cond 3 Tryz.f3 rfl rfl rfl rfl rfl rfl rfl ⟨rfl,rfl,rfl,rfl,rfl⟩ rfl rfl rfl rfl rfl (by kernel_rfl) Tryz.func3 swapSure_joined
  (of_decide_eq_true (by kernel_rfl)) (by unfold Func.isWrapper; first|(rw[if_pos (by decide +kernel)]; kernel_rfl)|(rw[if_neg (by decide +kernel)]; exact⟨rfl,rfl⟩))
  (fun os started H enc _ F=>by rw[OpenClaim.pre_eq_preRow]; exact swapSure_lifted os started H enc F)
theorem swapSure_wants:(Tryz.f3.params.toList.all fun t=>!Tryz.prog.wantsStandIn t)=true:=by kernel_rfl
theorem swapSure_plain (f : FuncId) (fn : Func) (hf : Tryz.pinned.checked.prog.funcNamed "wringing/wringinglaw07.SwapSure" = some f) (hfn : Tryz.pinned.checked.prog.funcs[f]? = some fn) :
 true=Tryz.pinned.checked.prog.looks []∧∀(j:Nat) t,fn.params[j]?=some t→Tryz.pinned.checked.prog.wantsStandIn t=false:=by
 obtain rfl : f = 3 := Option.some.inj ((show Tryz.prog.funcNamed "wringing/wringinglaw07.SwapSure" = some 3 by kernel_rfl).symm.trans hf) |>.symm
 obtain rfl:fn=Tryz.f3:=(Option.some.inj (Tryz.func3.symm.trans hfn)).symm;refine⟨by kernel_rfl,fun j t ht=>?_⟩;have:=List.all_eq_true.1 swapSure_wants t (List.mem_of_getElem? (i:=j) (by simpa using ht));exact(show Tryz.prog.wantsStandIn t=false by simpa using this)
theorem swapSure_holds:Rows.SwapSureCardSaid :=
 Claim7.holds_tied_plain_at .later [] _ _ _ _ swapSure_said (fun _ h=>by cases h) (by kernel_rfl) (fun _ h=>by cases h) swapSure_row_tie rfl ⟨rfl,rfl⟩ (by kernel_rfl) rfl swapSure_plain (by kernel_rfl)
#print axioms swapSure_holds
end Go.Proofs.YtanjeafjkgllhaaGreatDoor
end