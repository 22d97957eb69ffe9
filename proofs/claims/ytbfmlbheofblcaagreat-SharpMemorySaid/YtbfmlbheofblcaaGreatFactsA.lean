/- lemmas -/
import Derived.Test.YtbfmlbheofblcaaGreatRows
import Derived.Test.YtbfmlbheofblcaaGreatAmD
set_option linter.all false
set_option linter.unusedSectionVars false
set_option linter.unusedVariables false
set_option linter.unusedSimpArgs false
noncomputable section
namespace Go.Proofs.YtbfmlbheofblcaaGreat
open Go Go.Am
set_option maxRecDepth 100000
theorem own : ownKnob Tryz.prog.godebug = none := by kernel_rfl
theorem laidOut : laidOutB Tryz.prog = true := by kernel_rfl
theorem mapsOk : mapsRowed Tryz.prog = true := by kernel_rfl
theorem stopsNil : (Tryz.prog.stops == []) = true := by kernel_rfl
theorem knobsNil : (Tryz.prog.stopKnobs == []) = true := by kernel_rfl
theorem plainKeysOk : (true == Tryz.prog.plainKeys) = true := by kernel_rfl
theorem heard : Tryz.prog.stopsHeard = true := by kernel_rfl
theorem enters : Tryz.prog.mayEnter = true := by kernel_rfl
theorem lifts : (Rows.sharpMemoryRow.lifted == Tryz.prog.liftsFinal) = true := by kernel_rfl
theorem makes : (Tryz.prog.make == some Rows.sharpMemoryRow.make) = true := by kernel_rfl
end Go.Proofs.YtbfmlbheofblcaaGreat
end
