/- lemmas -/
import Derived.Test.YtanjeafjkgllhaaGreatDoorCards
import Derived.Test.YtanjeafjkgllhaaGreatDoorTie
import Derived.Test.YtanjeafjkgllhaaGreatDoorAmC
import Derived.Test.YtanjeafjkgllhaaGreatDoorMdCA
set_option linter.all false
set_option linter.unusedSectionVars false
set_option linter.unusedVariables false
set_option linter.unusedSimpArgs false
noncomputable section
namespace Go.Proofs.YtanjeafjkgllhaaGreatDoor
open Go Go.Am
set_option maxRecDepth 100000
theorem own : ownKnob Tryz.prog.godebug = none := by kernel_rfl
theorem laidOut : laidOutB Tryz.prog = true := by kernel_rfl
theorem mapsOk : mapsRowed Tryz.prog = true := by kernel_rfl
theorem stopsNil : (Tryz.prog.stops == []) = true := by kernel_rfl
theorem knobsNil : (Tryz.prog.stopKnobs == []) = true := by kernel_rfl
theorem plainKeysOk : (true == Tryz.prog.plainKeys) = true := by kernel_rfl
theorem heard : Tryz.prog.stopsHeard = true := by kernel_rfl
theorem enters : Tryz.prog.mayEnter = true := by kernel_rfl
theorem lifts : (Rows.swapCasesRow.lifted == Tryz.prog.liftsFinal) = true := by kernel_rfl
theorem makes : (Tryz.prog.make == some Rows.swapCasesRow.make) = true := by kernel_rfl
abbrev laidL : List (String × DataW Unit) := Rows.swapCasesRow.laid
theorem laidNone : (laidL.all fun x => x.2.handleName?.isNone) = true := by kernel_rfl
theorem pick_pow : (laidL.filter fun x => x.1 == "internal/strconv.uint64pow10") = [("internal/strconv.uint64pow10", Lib.tabData .u64 Lib.pow10Tab)] := by kernel_rfl
theorem pick_syn : (laidL.filter fun x => x.1 == "strconv.ErrSyntax") = [("strconv.ErrSyntax", Rows.laid_strconv_ErrSyntax)] := by kernel_rfl
theorem pick_rng : (laidL.filter fun x => x.1 == "strconv.ErrRange") = [("strconv.ErrRange", Rows.laid_strconv_ErrRange)] := by kernel_rfl
theorem all_cells : ((List.range Tryz.prog.globals.size).all fun g => (((begin Tryz.prog (fun _ _ => 0) default).world.heap[g]?).bind Obj.row?).isSome) = true := by kernel_rfl
theorem globs (W : World) (hL : laidMetH Tryz.checked.prog laidL W) (hs : W.ShapedOpen Tryz.checked.prog) : Globs.Φ W := by
  have h : laidMet Tryz.prog laidL W := (MakeChecks.laidMetH_plain _ _ _ laidNone) ▸ hL
  have h1 := h.filter fun x => x.1 == "internal/strconv.uint64pow10"
  have h2 := h.filter fun x => x.1 == "strconv.ErrSyntax"
  have h3 := h.filter fun x => x.1 == "strconv.ErrRange"
  rw [pick_pow] at h1
  rw [pick_syn] at h2
  rw [pick_rng] at h3
  exact ⟨Lib.tabIs_of_head (rest := []) (g := ZzM.gPow) (t := 339) (e := 288) (n := 20) (by kernel_rfl) (by kernel_rfl) (by kernel_rfl) (by kernel_rfl) (by kernel_rfl) (by kernel_rfl) h1,
    shaped_int hs (t := 3) (t' := 3) (zero := #[.int .i64 0]) (k := .i64) ZzM.gMax_lt (by kernel_rfl) rfl (by kernel_rfl) (by kernel_rfl) (by kernel_rfl),
    laid_iface h2 (g := ZzM.gSyn) (ti := 91) (ms := #[("Error", 242)]) (by kernel_rfl) (by kernel_rfl) (by kernel_rfl),
    laid_iface h3 (g := ZzM.gRng) (ti := 91) (ms := #[("Error", 242)]) (by kernel_rfl) (by kernel_rfl) (by kernel_rfl), shaped_cel hs all_cells⟩
end Go.Proofs.YtanjeafjkgllhaaGreatDoor
end
