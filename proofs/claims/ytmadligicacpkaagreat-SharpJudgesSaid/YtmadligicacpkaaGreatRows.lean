/-
  No cell of these rows narrows 'for every input' (looked for: loops, veiled, ifaces, maps, wideKeys, modest, calm, conditions, laid).
  DERIVED. THE GIVEN ROWS OF THIS SEAT. 7 by the template 'for every input the law returns true; each argument reads behind the call as it read before'; 0 by the template 'total and deterministic' (their statements: YtmadligicacpkaaGreatTotals.lean).
  GIVEN WITH THE SEED: the statements are not yours to turn. If you find one false, say at which input.
  Laid BY PROGRAM, IN A SANDBOX (cutbox-rows.mjs): the forced cells as the released guide's own fill.sh prints them over the translation 8a012c7cf4759bd5… (all of the seat's roots in one cut). By AI agents, Wed Nov 11 2026. No macro, syntax, notation, axiom, sorry.
-/
import Derived.Test.YtmadligicacpkaaGreatChecked
import GoSem.Claim
import GoSem.ClaimJoined
import GoSem.ClaimMapViews
import Derived.JoinedTies
import Derived.KernelRfl
namespace Go.Proofs.YtmadligicacpkaaGreat
/- THE CELL 'sum', in the pinned program and in every row, IS THE sha256 OF THE DUMP (.gsa) THAT YtmadligicacpkaaGreatProg.lean LOADS. Nothing in Lean hashes anything: it is a label: what it is worth is what the hold of that sum in a sandbox is worth. -/
noncomputable def Tryz.pinned : Pinned := { name := "ytmadligicacpkaagreat", sum := "8a012c7cf4759bd537f2853db3abb7f0b44cd696b68037ce1f72cab6039f0f5f", checked := Tryz.checked }
namespace Rows
def none {H : Type} : Left H := { results := [], args := [] }

/-- 'wringinglaw06.SharpIntervals': WHATEVER THE INPUT: true; the input reads as it did. -/
def sharpIntervalsSpec : ChangeSpec := { name := "sharpIntervals", fn := fun _ => fun
  | [d1, d2, d3] => { results := [.lit (.bool true)], args := [d1, d2, d3] }
  | _ => none }
def sharpIntervalsRow : OpenClaim := { program := "ytmadligicacpkaagreat", sum := "8a012c7cf4759bd537f2853db3abb7f0b44cd696b68037ce1f72cab6039f0f5f", func := "wringing/wringinglaw06.SharpIntervals", spec := "sharpIntervals", unfollowed := true, recurses := true, apart := false }
def SharpIntervalsSaid : Prop := sharpIntervalsRow.holds Tryz.pinned (OpenSpec.ofChange sharpIntervalsSpec)

/-- ITS FALSE NEIGHBOUR: 'it returns false'. Refute it at one input. -/
def sharpIntervalsWrong : ChangeSpec := { name := "sharpIntervals", fn := fun _ => fun
  | [d1, d2, d3] => { results := [.lit (.bool false)], args := [d1, d2, d3] }
  | _ => none }
def SharpIntervalsWrongFalsely : Prop := sharpIntervalsRow.holds Tryz.pinned (OpenSpec.ofChange sharpIntervalsWrong)

/-- 'wringinglaw06.SharpReaches': WHATEVER THE INPUT: true; the input reads as it did. -/
def sharpReachesSpec : ChangeSpec := { name := "sharpReaches", fn := fun _ => fun
  | [d1, d2, d3] => { results := [.lit (.bool true)], args := [d1, d2, d3] }
  | _ => none }
def sharpReachesRow : OpenClaim := { program := "ytmadligicacpkaagreat", sum := "8a012c7cf4759bd537f2853db3abb7f0b44cd696b68037ce1f72cab6039f0f5f", func := "wringing/wringinglaw06.SharpReaches", spec := "sharpReaches", unfollowed := true, recurses := true, apart := false }
def SharpReachesSaid : Prop := sharpReachesRow.holds Tryz.pinned (OpenSpec.ofChange sharpReachesSpec)

/-- ITS FALSE NEIGHBOUR: 'it returns false'. Refute it at one input. -/
def sharpReachesWrong : ChangeSpec := { name := "sharpReaches", fn := fun _ => fun
  | [d1, d2, d3] => { results := [.lit (.bool false)], args := [d1, d2, d3] }
  | _ => none }
def SharpReachesWrongFalsely : Prop := sharpReachesRow.holds Tryz.pinned (OpenSpec.ofChange sharpReachesWrong)

/-- 'wringinglaw06.SharpJudges': WHATEVER THE INPUT: true; the input reads as it did. -/
def sharpJudgesSpec : ChangeSpec := { name := "sharpJudges", fn := fun _ => fun
  | [d1, d2, d3, d4] => { results := [.lit (.bool true)], args := [d1, d2, d3, d4] }
  | _ => none }
def sharpJudgesRow : OpenClaim := { program := "ytmadligicacpkaagreat", sum := "8a012c7cf4759bd537f2853db3abb7f0b44cd696b68037ce1f72cab6039f0f5f", func := "wringing/wringinglaw06.SharpJudges", spec := "sharpJudges", unfollowed := true, recurses := true, apart := false }
def SharpJudgesSaid : Prop := sharpJudgesRow.holds Tryz.pinned (OpenSpec.ofChange sharpJudgesSpec)

/-- ITS FALSE NEIGHBOUR: 'it returns false'. Refute it at one input. -/
def sharpJudgesWrong : ChangeSpec := { name := "sharpJudges", fn := fun _ => fun
  | [d1, d2, d3, d4] => { results := [.lit (.bool false)], args := [d1, d2, d3, d4] }
  | _ => none }
def SharpJudgesWrongFalsely : Prop := sharpJudgesRow.holds Tryz.pinned (OpenSpec.ofChange sharpJudgesWrong)

/-- 'wringinglaw06.SharpCerts': WHATEVER THE INPUT: true; the input reads as it did. -/
def sharpCertsSpec : ChangeSpec := { name := "sharpCerts", fn := fun _ => fun
  | [d1, d2, d3, d4, d5, d6] => { results := [.lit (.bool true)], args := [d1, d2, d3, d4, d5, d6] }
  | _ => none }
def sharpCertsRow : OpenClaim := { program := "ytmadligicacpkaagreat", sum := "8a012c7cf4759bd537f2853db3abb7f0b44cd696b68037ce1f72cab6039f0f5f", func := "wringing/wringinglaw06.SharpCerts", spec := "sharpCerts", unfollowed := true, recurses := true, apart := false }
def SharpCertsSaid : Prop := sharpCertsRow.holds Tryz.pinned (OpenSpec.ofChange sharpCertsSpec)

/-- ITS FALSE NEIGHBOUR: 'it returns false'. Refute it at one input. -/
def sharpCertsWrong : ChangeSpec := { name := "sharpCerts", fn := fun _ => fun
  | [d1, d2, d3, d4, d5, d6] => { results := [.lit (.bool false)], args := [d1, d2, d3, d4, d5, d6] }
  | _ => none }
def SharpCertsWrongFalsely : Prop := sharpCertsRow.holds Tryz.pinned (OpenSpec.ofChange sharpCertsWrong)

/-- 'wringinglaw06.SharpWorsts': WHATEVER THE INPUT: true; the input reads as it did. -/
def sharpWorstsSpec : ChangeSpec := { name := "sharpWorsts", fn := fun _ => fun
  | [d1, d2, d3, d4] => { results := [.lit (.bool true)], args := [d1, d2, d3, d4] }
  | _ => none }
def sharpWorstsRow : OpenClaim := { program := "ytmadligicacpkaagreat", sum := "8a012c7cf4759bd537f2853db3abb7f0b44cd696b68037ce1f72cab6039f0f5f", func := "wringing/wringinglaw06.SharpWorsts", spec := "sharpWorsts", unfollowed := true, recurses := true, apart := false }
def SharpWorstsSaid : Prop := sharpWorstsRow.holds Tryz.pinned (OpenSpec.ofChange sharpWorstsSpec)

/-- ITS FALSE NEIGHBOUR: 'it returns false'. Refute it at one input. -/
def sharpWorstsWrong : ChangeSpec := { name := "sharpWorsts", fn := fun _ => fun
  | [d1, d2, d3, d4] => { results := [.lit (.bool false)], args := [d1, d2, d3, d4] }
  | _ => none }
def SharpWorstsWrongFalsely : Prop := sharpWorstsRow.holds Tryz.pinned (OpenSpec.ofChange sharpWorstsWrong)

/-- 'wringinglaw06.SharpSettles': WHATEVER THE INPUT: true; the input reads as it did. -/
def sharpSettlesSpec : ChangeSpec := { name := "sharpSettles", fn := fun _ => fun
  | [d1, d2, d3, d4] => { results := [.lit (.bool true)], args := [d1, d2, d3, d4] }
  | _ => none }
def sharpSettlesRow : OpenClaim := { program := "ytmadligicacpkaagreat", sum := "8a012c7cf4759bd537f2853db3abb7f0b44cd696b68037ce1f72cab6039f0f5f", func := "wringing/wringinglaw06.SharpSettles", spec := "sharpSettles", unfollowed := true, recurses := true, apart := false }
def SharpSettlesSaid : Prop := sharpSettlesRow.holds Tryz.pinned (OpenSpec.ofChange sharpSettlesSpec)

/-- ITS FALSE NEIGHBOUR: 'it returns false'. Refute it at one input. -/
def sharpSettlesWrong : ChangeSpec := { name := "sharpSettles", fn := fun _ => fun
  | [d1, d2, d3, d4] => { results := [.lit (.bool false)], args := [d1, d2, d3, d4] }
  | _ => none }
def SharpSettlesWrongFalsely : Prop := sharpSettlesRow.holds Tryz.pinned (OpenSpec.ofChange sharpSettlesWrong)

/-- 'wringinglaw06.SharpClashes': WHATEVER THE INPUT: true; the input reads as it did. -/
def sharpClashesSpec : ChangeSpec := { name := "sharpClashes", fn := fun _ => fun
  | [d1, d2, d3, d4] => { results := [.lit (.bool true)], args := [d1, d2, d3, d4] }
  | _ => none }
def sharpClashesRow : OpenClaim := { program := "ytmadligicacpkaagreat", sum := "8a012c7cf4759bd537f2853db3abb7f0b44cd696b68037ce1f72cab6039f0f5f", func := "wringing/wringinglaw06.SharpClashes", spec := "sharpClashes", unfollowed := true, recurses := true, apart := false }
def SharpClashesSaid : Prop := sharpClashesRow.holds Tryz.pinned (OpenSpec.ofChange sharpClashesSpec)

/-- ITS FALSE NEIGHBOUR: 'it returns false'. Refute it at one input. -/
def sharpClashesWrong : ChangeSpec := { name := "sharpClashes", fn := fun _ => fun
  | [d1, d2, d3, d4] => { results := [.lit (.bool false)], args := [d1, d2, d3, d4] }
  | _ => none }
def SharpClashesWrongFalsely : Prop := sharpClashesRow.holds Tryz.pinned (OpenSpec.ofChange sharpClashesWrong)

/- THE SECOND FORM. 'bulk': how many values and letters a reading holds, each counted each time it is reached (what is shared counts as often as it is met; a slice's spare places count too). A statement '..UptoSaid' is the law's where the arguments, and the package variables that the reading takes, are together of bulk at most 1048576: NARROWER than '..Said'. Prove '..Said' where nothing that the law and all that it calls make is longer than what came in: it says more and counts as full. Else prove '..UptoSaid'. A law counts once. -/
mutual
def uptoBulk {H : Type} : DataW H → Nat
  | .lit (.string bytes) => bytes.length + 1
  | .lit _ => 1
  | .nil => 1
  | .ptr d => uptoBulk d + 1
  | .slice elems spare => uptoBulkAll elems + uptoBulkAll spare + 1
  | .agg parts => uptoBulkAll parts + 1
  | .iface _ d => uptoBulk d + 1
  | .map entries => uptoBulkEntries entries + 1
  | .held _ => 1
def uptoBulkAll {H : Type} : List (DataW H) → Nat
  | [] => 0
  | d :: r => uptoBulk d + uptoBulkAll r
def uptoBulkEntries {H : Type} : List (Lit × DataW H) → Nat
  | [] => 0
  | x :: r => uptoBulkEntry x + uptoBulkEntries r
def uptoBulkEntry {H : Type} : Lit × DataW H → Nat
  | (.string bytes, d) => bytes.length + uptoBulk d + 1
  | (_, d) => uptoBulk d + 1
 end
def uptoSmall : (H : Type) → List (DataW H) → Bool := fun _ ds => decide (uptoBulkAll ds ≤ 1048576)
def OpenSpec.upto (s : _root_.Go.ChangeSpec) : _root_.Go.OpenSpec := { _root_.Go.OpenSpec.ofChange s with cond := some uptoSmall }

/-- 'wringinglaw06.SharpIntervals', WHERE WHAT IT READS IS OF BULK AT MOST 1048576: true; the input reads as it did. -/
def sharpIntervalsUptoRow : OpenClaim := { program := "ytmadligicacpkaagreat", sum := "8a012c7cf4759bd537f2853db3abb7f0b44cd696b68037ce1f72cab6039f0f5f", func := "wringing/wringinglaw06.SharpIntervals", spec := "sharpIntervals", unfollowed := true, recurses := true, apart := false, narrowed := true }
def SharpIntervalsUptoSaid : Prop := sharpIntervalsUptoRow.holds Tryz.pinned (OpenSpec.upto sharpIntervalsSpec)

/-- 'wringinglaw06.SharpReaches', WHERE WHAT IT READS IS OF BULK AT MOST 1048576: true; the input reads as it did. -/
def sharpReachesUptoRow : OpenClaim := { program := "ytmadligicacpkaagreat", sum := "8a012c7cf4759bd537f2853db3abb7f0b44cd696b68037ce1f72cab6039f0f5f", func := "wringing/wringinglaw06.SharpReaches", spec := "sharpReaches", unfollowed := true, recurses := true, apart := false, narrowed := true }
def SharpReachesUptoSaid : Prop := sharpReachesUptoRow.holds Tryz.pinned (OpenSpec.upto sharpReachesSpec)

/-- 'wringinglaw06.SharpJudges', WHERE WHAT IT READS IS OF BULK AT MOST 1048576: true; the input reads as it did. -/
def sharpJudgesUptoRow : OpenClaim := { program := "ytmadligicacpkaagreat", sum := "8a012c7cf4759bd537f2853db3abb7f0b44cd696b68037ce1f72cab6039f0f5f", func := "wringing/wringinglaw06.SharpJudges", spec := "sharpJudges", unfollowed := true, recurses := true, apart := false, narrowed := true }
def SharpJudgesUptoSaid : Prop := sharpJudgesUptoRow.holds Tryz.pinned (OpenSpec.upto sharpJudgesSpec)

/-- 'wringinglaw06.SharpCerts', WHERE WHAT IT READS IS OF BULK AT MOST 1048576: true; the input reads as it did. -/
def sharpCertsUptoRow : OpenClaim := { program := "ytmadligicacpkaagreat", sum := "8a012c7cf4759bd537f2853db3abb7f0b44cd696b68037ce1f72cab6039f0f5f", func := "wringing/wringinglaw06.SharpCerts", spec := "sharpCerts", unfollowed := true, recurses := true, apart := false, narrowed := true }
def SharpCertsUptoSaid : Prop := sharpCertsUptoRow.holds Tryz.pinned (OpenSpec.upto sharpCertsSpec)

/-- 'wringinglaw06.SharpWorsts', WHERE WHAT IT READS IS OF BULK AT MOST 1048576: true; the input reads as it did. -/
def sharpWorstsUptoRow : OpenClaim := { program := "ytmadligicacpkaagreat", sum := "8a012c7cf4759bd537f2853db3abb7f0b44cd696b68037ce1f72cab6039f0f5f", func := "wringing/wringinglaw06.SharpWorsts", spec := "sharpWorsts", unfollowed := true, recurses := true, apart := false, narrowed := true }
def SharpWorstsUptoSaid : Prop := sharpWorstsUptoRow.holds Tryz.pinned (OpenSpec.upto sharpWorstsSpec)

/-- 'wringinglaw06.SharpSettles', WHERE WHAT IT READS IS OF BULK AT MOST 1048576: true; the input reads as it did. -/
def sharpSettlesUptoRow : OpenClaim := { program := "ytmadligicacpkaagreat", sum := "8a012c7cf4759bd537f2853db3abb7f0b44cd696b68037ce1f72cab6039f0f5f", func := "wringing/wringinglaw06.SharpSettles", spec := "sharpSettles", unfollowed := true, recurses := true, apart := false, narrowed := true }
def SharpSettlesUptoSaid : Prop := sharpSettlesUptoRow.holds Tryz.pinned (OpenSpec.upto sharpSettlesSpec)

/-- 'wringinglaw06.SharpClashes', WHERE WHAT IT READS IS OF BULK AT MOST 1048576: true; the input reads as it did. -/
def sharpClashesUptoRow : OpenClaim := { program := "ytmadligicacpkaagreat", sum := "8a012c7cf4759bd537f2853db3abb7f0b44cd696b68037ce1f72cab6039f0f5f", func := "wringing/wringinglaw06.SharpClashes", spec := "sharpClashes", unfollowed := true, recurses := true, apart := false, narrowed := true }
def SharpClashesUptoSaid : Prop := sharpClashesUptoRow.holds Tryz.pinned (OpenSpec.upto sharpClashesSpec)

end Rows
end Go.Proofs.YtmadligicacpkaaGreat
