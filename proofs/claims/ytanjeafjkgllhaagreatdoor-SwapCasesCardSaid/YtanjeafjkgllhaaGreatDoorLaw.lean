/- for every case of at most 6 gauges, 8 comparisons and 6 mix-ups, one more mix-up, and every text of at most 2000 bytes: Check, With, Print and Parse return what the specification returns. Conditions: none. -/
import Derived.Test.YtanjeafjkgllhaaGreatDoorMdMB
import Derived.Test.YtanjeafjkgllhaaGreatDoorAmC
import Derived.Test.YtanjeafjkgllhaaGreatDoorPlB
import Derived.Test.YtanjeafjkgllhaaGreatDoorFactsA
import Derived.Test.YtanjeafjkgllhaaGreatDoorMdRA
import Derived.ProofKit
set_option linter.all false
set_option linter.unusedSectionVars false
set_option linter.unusedVariables false
set_option linter.unusedSimpArgs false
noncomputable section
namespace Go.Proofs.ZzM
open Go Go.Am
theorem mixed_num {m:Val Ä} (h:Go.Am.Rng Ä m):∀g∈(m:uW).1.2.1,I64 g.2.2.2.2.1.1:=fun g hg=>(h.1.2.1 g hg).2.2.2.2.1.1
theorem swapCases_law:∀x:Val (tyL mI.ts),Go.Am.Rng (tyL mI.ts) x→mI.F x=some true:=fun x h=>ai5 rfl (mixed_num h.1) x.2.1 x.2.2
end Go.Proofs.ZzM
end
noncomputable section
namespace Go.Proofs.YtanjeafjkgllhaaGreatDoor
open Go Go.Am Go.ChangeShapes Go.WideShapes Go.ChangeAt Go.RowKit
set_option maxRecDepth 100000
theorem swapCases_inPlace:(Rows.swapCasesRow.inPlace==Tryz.prog.inPlace 4)=true:=by kernel_rfl
theorem swapCases_unfollowed:(Rows.swapCasesRow.unfollowed==Tryz.prog.unfollowed 4)=true:=by kernel_rfl
theorem swapCases_recurses:(Rows.swapCasesRow.recurses==Tryz.prog.recurses 4)=true:=by kernel_rfl
theorem swapCases_named:(Rows.swapCasesRow.named==Tryz.prog.varsNamed 4)=true:=by kernel_rfl
theorem swapCases_joined:joinedFacts Tryz.checked.prog 4 Tryz.f4 (OpenSpec.ofChange Rows.swapCasesSpec).bare Rows.swapCasesRow=true :=
 joined_of (by kernel_rfl) laidOut mapsOk (by kernel_rfl) (by kernel_rfl) (by kernel_rfl) stopsNil (by kernel_rfl) knobsNil swapCases_inPlace swapCases_unfollowed swapCases_recurses swapCases_named
  (by kernel_rfl) (by kernel_rfl) (by kernel_rfl) (by kernel_rfl) (by kernel_rfl) (by kernel_rfl) (by kernel_rfl) (by kernel_rfl) (by kernel_rfl) plainKeysOk (by kernel_rfl) heard enters lifts makes (by kernel_rfl) (by kernel_rfl) (by kernel_rfl) (by kernel_rfl)
theorem swapCases_wit (os:Os) (H:Type) (enc:TypeId×Value→H):∃(w:World) (tape:Tape) (i:Input),w.os=os∧(w.forCall tape i).Shaped Tryz.checked.prog∧i.vars=[]∧Input.okWide Tryz.checked.prog (w.forCall tape i) .any w.heap.size 4 i ∧
 (OpenSpec.ofChange Rows.swapCasesSpec).preRow enc Tryz.checked.prog Tryz.f4 Rows.swapCasesRow.domain false Rows.swapCasesRow.laid (w.forCall tape i).memory i.args∧({}:Assume).holds Tryz.checked.prog (lone (Frame.enter Tryz.checked.prog 4 i.args .normal) [] (w.forCall tape i)) :=
 witness_laid (enc:=enc) (C:=Tryz.checked) #[.agg #[.int .i64 0,.int .i64 0,.slice none 0 0,.slice none 0 0,.slice none 0 0,.slice none 0 0,.slice none 0 0,.slice none 0 0],.agg #[.int .i64 0,.slice none 0 0],.string ⟨#[]⟩] (by kernel_rfl) (by kernel_rfl) (by kernel_rfl) (by kernel_rfl) (by kernel_rfl) laidNone (by kernel_rfl) (by kernel_rfl)
theorem swapCases_lifted (os:Os) (started:os.Started) (H:Type) (enc:TypeId×Value→H) (F:Stop.Interp) :
 ReturnsInHanded {} Tryz.checked os 4 .any ((OpenSpec.ofChange Rows.swapCasesSpec).preRow enc Tryz.prog Tryz.f4 Rows.swapCasesRow.domain false Rows.swapCasesRow.laid) (((OpenSpec.ofChange Rows.swapCasesSpec).at F).post enc Tryz.prog Tryz.f4 false true false false) :=
 law_laid (C:=Tryz.checked) (tb:=4) globs own started (by kernel_rfl) Tryz.func4 (swapCases_wit os H enc)
  ZzM.c_w7_SwapCases rfl ZzM.swapCases_law (by kernel_rfl) rfl (fun ds h=>by
   rw[show Tryz.f4.params.toList.length=3 from by kernel_rfl] at h
   rcases ds with _|⟨d1,_|⟨d2,_|⟨d3,_|⟨d4,ds⟩⟩⟩⟩<;>simp at h
   rfl) laidOut (by kernel_rfl) (by kernel_rfl) (by kernel_rfl)
theorem swapCases_said:Rows.SwapCasesSaid :=
 OpenClaim.holds_of_cond 4 Tryz.f4 rfl rfl rfl rfl rfl rfl rfl ⟨rfl,rfl,rfl,rfl,rfl⟩ rfl rfl rfl rfl rfl (by kernel_rfl) Tryz.func4 swapCases_joined
  (of_decide_eq_true (by kernel_rfl)) (by unfold Func.isWrapper; first|(rw[if_pos (by decide +kernel)]; kernel_rfl)|(rw[if_neg (by decide +kernel)]; exact⟨rfl,rfl⟩))
  (fun os started H enc _ F=>by rw[OpenClaim.pre_eq_preRow]; exact swapCases_lifted os started H enc F)
theorem swapCases_wants:(Tryz.f4.params.toList.all fun t=>!Tryz.prog.wantsStandIn t)=true:=by kernel_rfl
theorem swapCases_plain (f : FuncId) (fn : Func) (hf : Tryz.pinned.checked.prog.funcNamed "wringing/wringinglaw07.SwapCases" = some f) (hfn : Tryz.pinned.checked.prog.funcs[f]? = some fn) :
 true=Tryz.pinned.checked.prog.looks []∧∀(j:Nat) t,fn.params[j]?=some t→Tryz.pinned.checked.prog.wantsStandIn t=false:=by
 obtain rfl : f = 4 := Option.some.inj ((show Tryz.prog.funcNamed "wringing/wringinglaw07.SwapCases" = some 4 by kernel_rfl).symm.trans hf) |>.symm
 obtain rfl:fn=Tryz.f4:=(Option.some.inj (Tryz.func4.symm.trans hfn)).symm;refine⟨by kernel_rfl,fun j t ht=>?_⟩;have:=List.all_eq_true.1 swapCases_wants t (List.mem_of_getElem? (i:=j) (by simpa using ht));exact(show Tryz.prog.wantsStandIn t=false by simpa using this)
theorem swapCases_holds:Rows.SwapCasesCardSaid :=
 Claim7.holds_tied_plain_at .later [] _ _ _ _ swapCases_said (fun _ h=>by cases h) (by kernel_rfl) (fun _ h=>by cases h) swapCases_row_tie rfl ⟨rfl,rfl⟩ (by kernel_rfl) rfl swapCases_plain (by kernel_rfl)
#print axioms swapCases_holds
end Go.Proofs.YtanjeafjkgllhaaGreatDoor
end