/- for every certificate with a book of moderate size and at most 90 indices, Print returns what the specification returns, Parse leads back, and Parse of any text of at most 4000 bytes is refused or prints again to the text. Conditions: none. -/
import Derived.Test.YtjlkjopcjcbooaaGreatDoorMdMA
import Derived.Test.YtjlkjopcjcbooaaGreatDoorAmC
import Derived.Test.YtjlkjopcjcbooaaGreatDoorPlB
import Derived.Test.YtjlkjopcjcbooaaGreatDoorFactsA
import Derived.Test.YtjlkjopcjcbooaaGreatDoorMdRG
import Derived.ProofKit
set_option linter.all false
set_option linter.unusedSectionVars false
set_option linter.unusedVariables false
set_option linter.unusedSimpArgs false
noncomputable section
namespace Go.Proofs.ZzM
open Go Go.Am
theorem book_num {b:Val Ã} (h:Go.Am.Rng Ã b):∀g∈(b:ë).2.1,I64 g.2.2.2.2.1.1:=fun g hg=>(h.2.1 g hg).2.2.2.2.1.1
theorem sharpTexts_law:∀x:Val (tyL f7.ts),Go.Am.Rng (tyL f7.ts) x→f7.F x=some true:=fun x h=>PW rfl (book_num h.1.1) h.1.2.1.1 h.1.2.1.2 h.1.2.2.2.1 h.1.2.2.2.2 x.2
end Go.Proofs.ZzM
end
noncomputable section
namespace Go.Proofs.YtjlkjopcjcbooaaGreatDoor
open Go Go.Am Go.ChangeShapes Go.WideShapes Go.ChangeAt Go.RowKit
set_option maxRecDepth 100000
theorem sharpTexts_inPlace:(Rows.sharpTextsRow.inPlace==Tryz.prog.inPlace 3)=true:=by kernel_rfl
theorem sharpTexts_unfollowed:(Rows.sharpTextsRow.unfollowed==Tryz.prog.unfollowed 3)=true:=by kernel_rfl
theorem sharpTexts_recurses:(Rows.sharpTextsRow.recurses==Tryz.prog.recurses 3)=true:=by kernel_rfl
theorem sharpTexts_named:(Rows.sharpTextsRow.named==Tryz.prog.varsNamed 3)=true:=by kernel_rfl
theorem sharpTexts_joined:joinedFacts Tryz.checked.prog 3 Tryz.f3 (OpenSpec.ofChange Rows.sharpTextsSpec).bare Rows.sharpTextsRow=true :=
 joined_of (by kernel_rfl) laidOut mapsOk (by kernel_rfl) (by kernel_rfl) (by kernel_rfl) stopsNil (by kernel_rfl) knobsNil sharpTexts_inPlace sharpTexts_unfollowed sharpTexts_recurses sharpTexts_named
  (by kernel_rfl) (by kernel_rfl) (by kernel_rfl) (by kernel_rfl) (by kernel_rfl) (by kernel_rfl) (by kernel_rfl) (by kernel_rfl) (by kernel_rfl) plainKeysOk (by kernel_rfl) heard enters lifts makes (by kernel_rfl) (by kernel_rfl) (by kernel_rfl) (by kernel_rfl)
theorem sharpTexts_wit (os:Os) (H:Type) (enc:TypeId×Value→H):∃(w:World) (tape:Tape) (i:Input),w.os=os∧(w.forCall tape i).Shaped Tryz.checked.prog∧i.vars=[]∧Input.okWide Tryz.checked.prog (w.forCall tape i) .any w.heap.size 3 i ∧
 (OpenSpec.ofChange Rows.sharpTextsSpec).preRow enc Tryz.checked.prog Tryz.f3 Rows.sharpTextsRow.domain false Rows.sharpTextsRow.laid (w.forCall tape i).memory i.args∧({}:Assume).holds Tryz.checked.prog (lone (Frame.enter Tryz.checked.prog 3 i.args .normal) [] (w.forCall tape i)) :=
 witness_laid (enc:=enc) (C:=Tryz.checked) #[.agg #[.int .i64 0,.int .i64 0,.slice none 0 0,.slice none 0 0,.slice none 0 0,.slice none 0 0,.slice none 0 0,.int .i64 0,.int .i64 0,.bool false,.int .i64 0,.slice none 0 0],.string ⟨#[]⟩] (by kernel_rfl) (by kernel_rfl) (by kernel_rfl) (by kernel_rfl) (by kernel_rfl) laidNone (by kernel_rfl) (by kernel_rfl)
theorem sharpTexts_lifted (os:Os) (started:os.Started) (H:Type) (enc:TypeId×Value→H) (F:Stop.Interp) :
 ReturnsInHanded {} Tryz.checked os 3 .any ((OpenSpec.ofChange Rows.sharpTextsSpec).preRow enc Tryz.prog Tryz.f3 Rows.sharpTextsRow.domain false Rows.sharpTextsRow.laid) (((OpenSpec.ofChange Rows.sharpTextsSpec).at F).post enc Tryz.prog Tryz.f3 false true false false) :=
 law_laid (C:=Tryz.checked) (tb:=4) globs own started (by kernel_rfl) Tryz.func3 (sharpTexts_wit os H enc)
  ZzM.c_w6_SharpTexts rfl ZzM.sharpTexts_law (by kernel_rfl) rfl (fun ds h=>by
   rw[show Tryz.f3.params.toList.length=2 from by kernel_rfl] at h
   rcases ds with _|⟨d1,_|⟨d2,_|⟨d3,ds⟩⟩⟩<;>simp at h
   rfl) laidOut (by kernel_rfl) (by kernel_rfl) (by kernel_rfl)
theorem sharpTexts_said:Rows.SharpTextsSaid :=
 OpenClaim.holds_of_cond 3 Tryz.f3 rfl rfl rfl rfl rfl rfl rfl ⟨rfl,rfl,rfl,rfl,rfl⟩ rfl rfl rfl rfl rfl (by kernel_rfl) Tryz.func3 sharpTexts_joined
  (of_decide_eq_true (by kernel_rfl)) (by unfold Func.isWrapper; first|(rw[if_pos (by decide +kernel)]; kernel_rfl)|(rw[if_neg (by decide +kernel)]; exact⟨rfl,rfl⟩))
  (fun os started H enc _ F=>by rw[OpenClaim.pre_eq_preRow]; exact sharpTexts_lifted os started H enc F)
theorem sharpTexts_wants:(Tryz.f3.params.toList.all fun t=>!Tryz.prog.wantsStandIn t)=true:=by kernel_rfl
theorem sharpTexts_plain (f : FuncId) (fn : Func) (hf : Tryz.pinned.checked.prog.funcNamed "wringing/wringinglaw06.SharpTexts" = some f) (hfn : Tryz.pinned.checked.prog.funcs[f]? = some fn) :
 true=Tryz.pinned.checked.prog.looks []∧∀(j:Nat) t,fn.params[j]?=some t→Tryz.pinned.checked.prog.wantsStandIn t=false:=by
 obtain rfl : f = 3 := Option.some.inj ((show Tryz.prog.funcNamed "wringing/wringinglaw06.SharpTexts" = some 3 by kernel_rfl).symm.trans hf) |>.symm
 obtain rfl:fn=Tryz.f3:=(Option.some.inj (Tryz.func3.symm.trans hfn)).symm;refine⟨by kernel_rfl,fun j t ht=>?_⟩;have:=List.all_eq_true.1 sharpTexts_wants t (List.mem_of_getElem? (i:=j) (by simpa using ht));exact(show Tryz.prog.wantsStandIn t=false by simpa using this)
theorem sharpTexts_holds:Rows.SharpTextsCardSaid :=
 Claim7.holds_tied_plain_at .later [] _ _ _ _ sharpTexts_said (fun _ h=>by cases h) (by kernel_rfl) (fun _ h=>by cases h) sharpTexts_row_tie rfl ⟨rfl,rfl⟩ (by kernel_rfl) rfl sharpTexts_plain (by kernel_rfl)
#print axioms sharpTexts_holds
end Go.Proofs.YtjlkjopcjcbooaaGreatDoor
end