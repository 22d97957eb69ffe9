/-
  No cell of these rows narrows 'for every input' (looked for: loops, veiled, ifaces, maps, wideKeys, modest, calm, conditions, laid).
  DERIVED. THE GIVEN ROWS OF THIS SEAT. 10 by the template 'for every input the law returns true; each argument reads behind the call as it read before'; 0 by the template 'total and deterministic' (their statements: YthhhehllmdfhiaaGreatTotals.lean).
  GIVEN WITH THE SEED: the statements are not yours to turn. If you find one false, say at which input.
  Laid BY PROGRAM, IN A SANDBOX (cutbox-rows.mjs): the forced cells as the released guide's own fill.sh prints them over the translation 5673976ebdea9fa6… (all of the seat's roots in one cut). By AI agents, Wed Nov 11 2026. No macro, syntax, notation, axiom, sorry.
-/
import Derived.Test.YthhhehllmdfhiaaGreatChecked
import GoSem.Claim
import GoSem.ClaimJoined
import GoSem.ClaimMapViews
import Derived.JoinedTies
import Derived.KernelRfl
namespace Go.Proofs.YthhhehllmdfhiaaGreat
/- THE CELL 'sum', in the pinned program and in every row, IS THE sha256 OF THE DUMP (.gsa) THAT YthhhehllmdfhiaaGreatProg.lean LOADS. Nothing in Lean hashes anything: it is a label: what it is worth is what the hold of that sum in a sandbox is worth. -/
noncomputable def Tryz.pinned : Pinned := { name := "ythhhehllmdfhiaagreat", sum := "5673976ebdea9fa6ab6ae83683c667ce0c8f93374112c2df71e9d7943589e1c5", checked := Tryz.checked }
namespace Rows
def none {H : Type} : Left H := { results := [], args := [] }

/-- 'wringinglaw06.SharpLater': WHATEVER THE INPUT: true; the input reads as it did. -/
def sharpLaterSpec : ChangeSpec := { name := "sharpLater", fn := fun _ => fun
  | [d1, d2, d3, d4] => { results := [.lit (.bool true)], args := [d1, d2, d3, d4] }
  | _ => none }
def sharpLaterRow : OpenClaim := { program := "ythhhehllmdfhiaagreat", sum := "5673976ebdea9fa6ab6ae83683c667ce0c8f93374112c2df71e9d7943589e1c5", func := "wringing/wringinglaw06.SharpLater", spec := "sharpLater", unfollowed := true, recurses := true, apart := false }
def SharpLaterSaid : Prop := sharpLaterRow.holds Tryz.pinned (OpenSpec.ofChange sharpLaterSpec)

/-- ITS FALSE NEIGHBOUR: 'it returns false'. Refute it at one input. -/
def sharpLaterWrong : ChangeSpec := { name := "sharpLater", fn := fun _ => fun
  | [d1, d2, d3, d4] => { results := [.lit (.bool false)], args := [d1, d2, d3, d4] }
  | _ => none }
def SharpLaterWrongFalsely : Prop := sharpLaterRow.holds Tryz.pinned (OpenSpec.ofChange sharpLaterWrong)

/-- 'wringinglaw06.SharpPilesReach': WHATEVER THE INPUT: true; the input reads as it did. -/
def sharpPilesReachSpec : ChangeSpec := { name := "sharpPilesReach", fn := fun _ => fun
  | [d1, d2, d3] => { results := [.lit (.bool true)], args := [d1, d2, d3] }
  | _ => none }
def sharpPilesReachRow : OpenClaim := { program := "ythhhehllmdfhiaagreat", sum := "5673976ebdea9fa6ab6ae83683c667ce0c8f93374112c2df71e9d7943589e1c5", func := "wringing/wringinglaw06.SharpPilesReach", spec := "sharpPilesReach", unfollowed := true, recurses := true, apart := false }
def SharpPilesReachSaid : Prop := sharpPilesReachRow.holds Tryz.pinned (OpenSpec.ofChange sharpPilesReachSpec)

/-- ITS FALSE NEIGHBOUR: 'it returns false'. Refute it at one input. -/
def sharpPilesReachWrong : ChangeSpec := { name := "sharpPilesReach", fn := fun _ => fun
  | [d1, d2, d3] => { results := [.lit (.bool false)], args := [d1, d2, d3] }
  | _ => none }
def SharpPilesReachWrongFalsely : Prop := sharpPilesReachRow.holds Tryz.pinned (OpenSpec.ofChange sharpPilesReachWrong)

/-- 'wringinglaw06.SharpWitnesses': WHATEVER THE INPUT: true; the input reads as it did. -/
def sharpWitnessesSpec : ChangeSpec := { name := "sharpWitnesses", fn := fun _ => fun
  | [d1, d2, d3] => { results := [.lit (.bool true)], args := [d1, d2, d3] }
  | _ => none }
def sharpWitnessesRow : OpenClaim := { program := "ythhhehllmdfhiaagreat", sum := "5673976ebdea9fa6ab6ae83683c667ce0c8f93374112c2df71e9d7943589e1c5", func := "wringing/wringinglaw06.SharpWitnesses", spec := "sharpWitnesses", unfollowed := true, recurses := true, apart := false }
def SharpWitnessesSaid : Prop := sharpWitnessesRow.holds Tryz.pinned (OpenSpec.ofChange sharpWitnessesSpec)

/-- ITS FALSE NEIGHBOUR: 'it returns false'. Refute it at one input. -/
def sharpWitnessesWrong : ChangeSpec := { name := "sharpWitnesses", fn := fun _ => fun
  | [d1, d2, d3] => { results := [.lit (.bool false)], args := [d1, d2, d3] }
  | _ => none }
def SharpWitnessesWrongFalsely : Prop := sharpWitnessesRow.holds Tryz.pinned (OpenSpec.ofChange sharpWitnessesWrong)

/-- 'wringinglaw06.SharpBests': WHATEVER THE INPUT: true; the input reads as it did. -/
def sharpBestsSpec : ChangeSpec := { name := "sharpBests", fn := fun _ => fun
  | [d1, d2, d3] => { results := [.lit (.bool true)], args := [d1, d2, d3] }
  | _ => none }
def sharpBestsRow : OpenClaim := { program := "ythhhehllmdfhiaagreat", sum := "5673976ebdea9fa6ab6ae83683c667ce0c8f93374112c2df71e9d7943589e1c5", func := "wringing/wringinglaw06.SharpBests", spec := "sharpBests", unfollowed := true, recurses := true, apart := false }
def SharpBestsSaid : Prop := sharpBestsRow.holds Tryz.pinned (OpenSpec.ofChange sharpBestsSpec)

/-- ITS FALSE NEIGHBOUR: 'it returns false'. Refute it at one input. -/
def sharpBestsWrong : ChangeSpec := { name := "sharpBests", fn := fun _ => fun
  | [d1, d2, d3] => { results := [.lit (.bool false)], args := [d1, d2, d3] }
  | _ => none }
def SharpBestsWrongFalsely : Prop := sharpBestsRow.holds Tryz.pinned (OpenSpec.ofChange sharpBestsWrong)

/-- 'wringinglaw06.SharpHolds': WHATEVER THE INPUT: true; the input reads as it did. -/
def sharpHoldsSpec : ChangeSpec := { name := "sharpHolds", fn := fun _ => fun
  | [d1, d2, d3, d4] => { results := [.lit (.bool true)], args := [d1, d2, d3, d4] }
  | _ => none }
def sharpHoldsRow : OpenClaim := { program := "ythhhehllmdfhiaagreat", sum := "5673976ebdea9fa6ab6ae83683c667ce0c8f93374112c2df71e9d7943589e1c5", func := "wringing/wringinglaw06.SharpHolds", spec := "sharpHolds", unfollowed := true, recurses := true, apart := false }
def SharpHoldsSaid : Prop := sharpHoldsRow.holds Tryz.pinned (OpenSpec.ofChange sharpHoldsSpec)

/-- ITS FALSE NEIGHBOUR: 'it returns false'. Refute it at one input. -/
def sharpHoldsWrong : ChangeSpec := { name := "sharpHolds", fn := fun _ => fun
  | [d1, d2, d3, d4] => { results := [.lit (.bool false)], args := [d1, d2, d3, d4] }
  | _ => none }
def SharpHoldsWrongFalsely : Prop := sharpHoldsRow.holds Tryz.pinned (OpenSpec.ofChange sharpHoldsWrong)

/-- 'wringinglaw06.SharpStranger': WHATEVER THE INPUT: true; the input reads as it did. -/
def sharpStrangerSpec : ChangeSpec := { name := "sharpStranger", fn := fun _ => fun
  | [d1, d2, d3, d4] => { results := [.lit (.bool true)], args := [d1, d2, d3, d4] }
  | _ => none }
def sharpStrangerRow : OpenClaim := { program := "ythhhehllmdfhiaagreat", sum := "5673976ebdea9fa6ab6ae83683c667ce0c8f93374112c2df71e9d7943589e1c5", func := "wringing/wringinglaw06.SharpStranger", spec := "sharpStranger", unfollowed := true, recurses := true, apart := false }
def SharpStrangerSaid : Prop := sharpStrangerRow.holds Tryz.pinned (OpenSpec.ofChange sharpStrangerSpec)

/-- ITS FALSE NEIGHBOUR: 'it returns false'. Refute it at one input. -/
def sharpStrangerWrong : ChangeSpec := { name := "sharpStranger", fn := fun _ => fun
  | [d1, d2, d3, d4] => { results := [.lit (.bool false)], args := [d1, d2, d3, d4] }
  | _ => none }
def SharpStrangerWrongFalsely : Prop := sharpStrangerRow.holds Tryz.pinned (OpenSpec.ofChange sharpStrangerWrong)

/-- 'wringinglaw06.SharpContradicts': WHATEVER THE INPUT: true; the input reads as it did. -/
def sharpContradictsSpec : ChangeSpec := { name := "sharpContradicts", fn := fun _ => fun
  | [d1, d2, d3] => { results := [.lit (.bool true)], args := [d1, d2, d3] }
  | _ => none }
def sharpContradictsRow : OpenClaim := { program := "ythhhehllmdfhiaagreat", sum := "5673976ebdea9fa6ab6ae83683c667ce0c8f93374112c2df71e9d7943589e1c5", func := "wringing/wringinglaw06.SharpContradicts", spec := "sharpContradicts", unfollowed := true, recurses := true, apart := false }
def SharpContradictsSaid : Prop := sharpContradictsRow.holds Tryz.pinned (OpenSpec.ofChange sharpContradictsSpec)

/-- ITS FALSE NEIGHBOUR: 'it returns false'. Refute it at one input. -/
def sharpContradictsWrong : ChangeSpec := { name := "sharpContradicts", fn := fun _ => fun
  | [d1, d2, d3] => { results := [.lit (.bool false)], args := [d1, d2, d3] }
  | _ => none }
def SharpContradictsWrongFalsely : Prop := sharpContradictsRow.holds Tryz.pinned (OpenSpec.ofChange sharpContradictsWrong)

/-- 'wringinglaw06.SharpNarrows': WHATEVER THE INPUT: true; the input reads as it did. -/
def sharpNarrowsSpec : ChangeSpec := { name := "sharpNarrows", fn := fun _ => fun
  | [d1, d2, d3, d4] => { results := [.lit (.bool true)], args := [d1, d2, d3, d4] }
  | _ => none }
def sharpNarrowsRow : OpenClaim := { program := "ythhhehllmdfhiaagreat", sum := "5673976ebdea9fa6ab6ae83683c667ce0c8f93374112c2df71e9d7943589e1c5", func := "wringing/wringinglaw06.SharpNarrows", spec := "sharpNarrows", unfollowed := true, recurses := true, apart := false }
def SharpNarrowsSaid : Prop := sharpNarrowsRow.holds Tryz.pinned (OpenSpec.ofChange sharpNarrowsSpec)

/-- ITS FALSE NEIGHBOUR: 'it returns false'. Refute it at one input. -/
def sharpNarrowsWrong : ChangeSpec := { name := "sharpNarrows", fn := fun _ => fun
  | [d1, d2, d3, d4] => { results := [.lit (.bool false)], args := [d1, d2, d3, d4] }
  | _ => none }
def SharpNarrowsWrongFalsely : Prop := sharpNarrowsRow.holds Tryz.pinned (OpenSpec.ofChange sharpNarrowsWrong)

/-- 'wringinglaw06.SharpMost': WHATEVER THE INPUT: true; the input reads as it did. -/
def sharpMostSpec : ChangeSpec := { name := "sharpMost", fn := fun _ => fun
  | [d1, d2, d3, d4] => { results := [.lit (.bool true)], args := [d1, d2, d3, d4] }
  | _ => none }
def sharpMostRow : OpenClaim := { program := "ythhhehllmdfhiaagreat", sum := "5673976ebdea9fa6ab6ae83683c667ce0c8f93374112c2df71e9d7943589e1c5", func := "wringing/wringinglaw06.SharpMost", spec := "sharpMost", unfollowed := true, recurses := true, apart := false }
def SharpMostSaid : Prop := sharpMostRow.holds Tryz.pinned (OpenSpec.ofChange sharpMostSpec)

/-- ITS FALSE NEIGHBOUR: 'it returns false'. Refute it at one input. -/
def sharpMostWrong : ChangeSpec := { name := "sharpMost", fn := fun _ => fun
  | [d1, d2, d3, d4] => { results := [.lit (.bool false)], args := [d1, d2, d3, d4] }
  | _ => none }
def SharpMostWrongFalsely : Prop := sharpMostRow.holds Tryz.pinned (OpenSpec.ofChange sharpMostWrong)

/-- 'wringinglaw06.SharpParts': WHATEVER THE INPUT: true; the input reads as it did. -/
def sharpPartsSpec : ChangeSpec := { name := "sharpParts", fn := fun _ => fun
  | [d1, d2, d3] => { results := [.lit (.bool true)], args := [d1, d2, d3] }
  | _ => none }
def sharpPartsRow : OpenClaim := { program := "ythhhehllmdfhiaagreat", sum := "5673976ebdea9fa6ab6ae83683c667ce0c8f93374112c2df71e9d7943589e1c5", func := "wringing/wringinglaw06.SharpParts", spec := "sharpParts", unfollowed := true, recurses := true, apart := false }
def SharpPartsSaid : Prop := sharpPartsRow.holds Tryz.pinned (OpenSpec.ofChange sharpPartsSpec)

/-- ITS FALSE NEIGHBOUR: 'it returns false'. Refute it at one input. -/
def sharpPartsWrong : ChangeSpec := { name := "sharpParts", fn := fun _ => fun
  | [d1, d2, d3] => { results := [.lit (.bool false)], args := [d1, d2, d3] }
  | _ => none }
def SharpPartsWrongFalsely : Prop := sharpPartsRow.holds Tryz.pinned (OpenSpec.ofChange sharpPartsWrong)

/- THE SECOND FORM. 'bulk': how many values and letters a reading holds, each counted each time it is reached (what is shared counts as often as it is met; a slice's spare places count too). A statement '..UptoSaid' is the law's where the arguments, and the package variables that the reading takes, are together of bulk at most 1048576: NARROWER than '..Said'. Prove '..Said' where nothing that the law and all that it calls make is longer than what came in: it says more and counts as full. Else prove '..UptoSaid'. A law counts once. -/
mutual
def uptoBulk {H : Type} : DataW H → Nat
  | .lit (.string bytes) => bytes.length + 1
  | .lit _ => 1
  | .nil => 1
  | .ptr d => uptoBulk d + 1
  | .slice elems spare => uptoBulkAll elems + uptoBulkAll spare + 1
  | .agg parts => uptoBulkAll parts + 1
  | .iface _ d => uptoBulk d + 1
  | .map entries => uptoBulkEntries entries + 1
  | .held _ => 1
def uptoBulkAll {H : Type} : List (DataW H) → Nat
  | [] => 0
  | d :: r => uptoBulk d + uptoBulkAll r
def uptoBulkEntries {H : Type} : List (Lit × DataW H) → Nat
  | [] => 0
  | x :: r => uptoBulkEntry x + uptoBulkEntries r
def uptoBulkEntry {H : Type} : Lit × DataW H → Nat
  | (.string bytes, d) => bytes.length + uptoBulk d + 1
  | (_, d) => uptoBulk d + 1
 end
def uptoSmall : (H : Type) → List (DataW H) → Bool := fun _ ds => decide (uptoBulkAll ds ≤ 1048576)
def OpenSpec.upto (s : _root_.Go.ChangeSpec) : _root_.Go.OpenSpec := { _root_.Go.OpenSpec.ofChange s with cond := some uptoSmall }

/-- 'wringinglaw06.SharpLater', WHERE WHAT IT READS IS OF BULK AT MOST 1048576: true; the input reads as it did. -/
def sharpLaterUptoRow : OpenClaim := { program := "ythhhehllmdfhiaagreat", sum := "5673976ebdea9fa6ab6ae83683c667ce0c8f93374112c2df71e9d7943589e1c5", func := "wringing/wringinglaw06.SharpLater", spec := "sharpLater", unfollowed := true, recurses := true, apart := false, narrowed := true }
def SharpLaterUptoSaid : Prop := sharpLaterUptoRow.holds Tryz.pinned (OpenSpec.upto sharpLaterSpec)

/-- 'wringinglaw06.SharpPilesReach', WHERE WHAT IT READS IS OF BULK AT MOST 1048576: true; the input reads as it did. -/
def sharpPilesReachUptoRow : OpenClaim := { program := "ythhhehllmdfhiaagreat", sum := "5673976ebdea9fa6ab6ae83683c667ce0c8f93374112c2df71e9d7943589e1c5", func := "wringing/wringinglaw06.SharpPilesReach", spec := "sharpPilesReach", unfollowed := true, recurses := true, apart := false, narrowed := true }
def SharpPilesReachUptoSaid : Prop := sharpPilesReachUptoRow.holds Tryz.pinned (OpenSpec.upto sharpPilesReachSpec)

/-- 'wringinglaw06.SharpWitnesses', WHERE WHAT IT READS IS OF BULK AT MOST 1048576: true; the input reads as it did. -/
def sharpWitnessesUptoRow : OpenClaim := { program := "ythhhehllmdfhiaagreat", sum := "5673976ebdea9fa6ab6ae83683c667ce0c8f93374112c2df71e9d7943589e1c5", func := "wringing/wringinglaw06.SharpWitnesses", spec := "sharpWitnesses", unfollowed := true, recurses := true, apart := false, narrowed := true }
def SharpWitnessesUptoSaid : Prop := sharpWitnessesUptoRow.holds Tryz.pinned (OpenSpec.upto sharpWitnessesSpec)

/-- 'wringinglaw06.SharpBests', WHERE WHAT IT READS IS OF BULK AT MOST 1048576: true; the input reads as it did. -/
def sharpBestsUptoRow : OpenClaim := { program := "ythhhehllmdfhiaagreat", sum := "5673976ebdea9fa6ab6ae83683c667ce0c8f93374112c2df71e9d7943589e1c5", func := "wringing/wringinglaw06.SharpBests", spec := "sharpBests", unfollowed := true, recurses := true, apart := false, narrowed := true }
def SharpBestsUptoSaid : Prop := sharpBestsUptoRow.holds Tryz.pinned (OpenSpec.upto sharpBestsSpec)

/-- 'wringinglaw06.SharpHolds', WHERE WHAT IT READS IS OF BULK AT MOST 1048576: true; the input reads as it did. -/
def sharpHoldsUptoRow : OpenClaim := { program := "ythhhehllmdfhiaagreat", sum := "5673976ebdea9fa6ab6ae83683c667ce0c8f93374112c2df71e9d7943589e1c5", func := "wringing/wringinglaw06.SharpHolds", spec := "sharpHolds", unfollowed := true, recurses := true, apart := false, narrowed := true }
def SharpHoldsUptoSaid : Prop := sharpHoldsUptoRow.holds Tryz.pinned (OpenSpec.upto sharpHoldsSpec)

/-- 'wringinglaw06.SharpStranger', WHERE WHAT IT READS IS OF BULK AT MOST 1048576: true; the input reads as it did. -/
def sharpStrangerUptoRow : OpenClaim := { program := "ythhhehllmdfhiaagreat", sum := "5673976ebdea9fa6ab6ae83683c667ce0c8f93374112c2df71e9d7943589e1c5", func := "wringing/wringinglaw06.SharpStranger", spec := "sharpStranger", unfollowed := true, recurses := true, apart := false, narrowed := true }
def SharpStrangerUptoSaid : Prop := sharpStrangerUptoRow.holds Tryz.pinned (OpenSpec.upto sharpStrangerSpec)

/-- 'wringinglaw06.SharpContradicts', WHERE WHAT IT READS IS OF BULK AT MOST 1048576: true; the input reads as it did. -/
def sharpContradictsUptoRow : OpenClaim := { program := "ythhhehllmdfhiaagreat", sum := "5673976ebdea9fa6ab6ae83683c667ce0c8f93374112c2df71e9d7943589e1c5", func := "wringing/wringinglaw06.SharpContradicts", spec := "sharpContradicts", unfollowed := true, recurses := true, apart := false, narrowed := true }
def SharpContradictsUptoSaid : Prop := sharpContradictsUptoRow.holds Tryz.pinned (OpenSpec.upto sharpContradictsSpec)

/-- 'wringinglaw06.SharpNarrows', WHERE WHAT IT READS IS OF BULK AT MOST 1048576: true; the input reads as it did. -/
def sharpNarrowsUptoRow : OpenClaim := { program := "ythhhehllmdfhiaagreat", sum := "5673976ebdea9fa6ab6ae83683c667ce0c8f93374112c2df71e9d7943589e1c5", func := "wringing/wringinglaw06.SharpNarrows", spec := "sharpNarrows", unfollowed := true, recurses := true, apart := false, narrowed := true }
def SharpNarrowsUptoSaid : Prop := sharpNarrowsUptoRow.holds Tryz.pinned (OpenSpec.upto sharpNarrowsSpec)

/-- 'wringinglaw06.SharpMost', WHERE WHAT IT READS IS OF BULK AT MOST 1048576: true; the input reads as it did. -/
def sharpMostUptoRow : OpenClaim := { program := "ythhhehllmdfhiaagreat", sum := "5673976ebdea9fa6ab6ae83683c667ce0c8f93374112c2df71e9d7943589e1c5", func := "wringing/wringinglaw06.SharpMost", spec := "sharpMost", unfollowed := true, recurses := true, apart := false, narrowed := true }
def SharpMostUptoSaid : Prop := sharpMostUptoRow.holds Tryz.pinned (OpenSpec.upto sharpMostSpec)

/-- 'wringinglaw06.SharpParts', WHERE WHAT IT READS IS OF BULK AT MOST 1048576: true; the input reads as it did. -/
def sharpPartsUptoRow : OpenClaim := { program := "ythhhehllmdfhiaagreat", sum := "5673976ebdea9fa6ab6ae83683c667ce0c8f93374112c2df71e9d7943589e1c5", func := "wringing/wringinglaw06.SharpParts", spec := "sharpParts", unfollowed := true, recurses := true, apart := false, narrowed := true }
def SharpPartsUptoSaid : Prop := sharpPartsUptoRow.holds Tryz.pinned (OpenSpec.upto sharpPartsSpec)

end Rows
end Go.Proofs.YthhhehllmdfhiaaGreat
