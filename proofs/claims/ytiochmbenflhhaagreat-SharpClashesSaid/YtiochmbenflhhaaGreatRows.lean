/-
  No cell of these rows narrows 'for every input' (looked for: loops, veiled, ifaces, maps, wideKeys, modest, calm, conditions, laid).
  DERIVED. THE GIVEN ROWS OF THIS SEAT. 4 by the template 'for every input the law returns true; each argument reads behind the call as it read before'; 0 by the template 'total and deterministic' (their statements: YtiochmbenflhhaaGreatTotals.lean).
  GIVEN WITH THE SEED: the statements are not yours to turn. If you find one false, say at which input.
  Laid BY PROGRAM, IN A SANDBOX (cutbox-rows.mjs): the forced cells as the released guide's own fill.sh prints them over the translation 5245c795c1851c15… (all of the seat's roots in one cut). By AI agents, Wed Nov 11 2026. No macro, syntax, notation, axiom, sorry.
-/
import Derived.Test.YtiochmbenflhhaaGreatChecked
import GoSem.Claim
import GoSem.ClaimJoined
import GoSem.ClaimMapViews
import Derived.JoinedTies
import Derived.KernelRfl
namespace Go.Proofs.YtiochmbenflhhaaGreat
/- THE CELL 'sum', in the pinned program and in every row, IS THE sha256 OF THE DUMP (.gsa) THAT YtiochmbenflhhaaGreatProg.lean LOADS. Nothing in Lean hashes anything: it is a label: what it is worth is what the hold of that sum in a sandbox is worth. -/
noncomputable def Tryz.pinned : Pinned := { name := "ytiochmbenflhhaagreat", sum := "5245c795c1851c15b9449be0daceffef39656916a029786f9ea33a023a1e5f70", checked := Tryz.checked }
namespace Rows
def none {H : Type} : Left H := { results := [], args := [] }

/-- 'wringinglaw06.SharpSame': WHATEVER THE INPUT: true; the input reads as it did. -/
def sharpSameSpec : ChangeSpec := { name := "sharpSame", fn := fun _ => fun
  | [d1, d2, d3, d4] => { results := [.lit (.bool true)], args := [d1, d2, d3, d4] }
  | _ => none }
def sharpSameRow : OpenClaim := { program := "ytiochmbenflhhaagreat", sum := "5245c795c1851c15b9449be0daceffef39656916a029786f9ea33a023a1e5f70", func := "wringing/wringinglaw06.SharpSame", spec := "sharpSame", unfollowed := true, recurses := true, apart := false }
def SharpSameSaid : Prop := sharpSameRow.holds Tryz.pinned (OpenSpec.ofChange sharpSameSpec)

/-- ITS FALSE NEIGHBOUR: 'it returns false'. Refute it at one input. -/
def sharpSameWrong : ChangeSpec := { name := "sharpSame", fn := fun _ => fun
  | [d1, d2, d3, d4] => { results := [.lit (.bool false)], args := [d1, d2, d3, d4] }
  | _ => none }
def SharpSameWrongFalsely : Prop := sharpSameRow.holds Tryz.pinned (OpenSpec.ofChange sharpSameWrong)

/-- 'wringinglaw06.SharpPiles': WHATEVER THE INPUT: true; the input reads as it did. -/
def sharpPilesSpec : ChangeSpec := { name := "sharpPiles", fn := fun _ => fun
  | [d1, d2, d3, d4] => { results := [.lit (.bool true)], args := [d1, d2, d3, d4] }
  | _ => none }
def sharpPilesRow : OpenClaim := { program := "ytiochmbenflhhaagreat", sum := "5245c795c1851c15b9449be0daceffef39656916a029786f9ea33a023a1e5f70", func := "wringing/wringinglaw06.SharpPiles", spec := "sharpPiles", unfollowed := true, recurses := true, apart := false }
def SharpPilesSaid : Prop := sharpPilesRow.holds Tryz.pinned (OpenSpec.ofChange sharpPilesSpec)

/-- ITS FALSE NEIGHBOUR: 'it returns false'. Refute it at one input. -/
def sharpPilesWrong : ChangeSpec := { name := "sharpPiles", fn := fun _ => fun
  | [d1, d2, d3, d4] => { results := [.lit (.bool false)], args := [d1, d2, d3, d4] }
  | _ => none }
def SharpPilesWrongFalsely : Prop := sharpPilesRow.holds Tryz.pinned (OpenSpec.ofChange sharpPilesWrong)

/-- 'wringinglaw06.SharpPilesHold': WHATEVER THE INPUT: true; the input reads as it did. -/
def sharpPilesHoldSpec : ChangeSpec := { name := "sharpPilesHold", fn := fun _ => fun
  | [d1, d2, d3, d4, d5, d6] => { results := [.lit (.bool true)], args := [d1, d2, d3, d4, d5, d6] }
  | _ => none }
def sharpPilesHoldRow : OpenClaim := { program := "ytiochmbenflhhaagreat", sum := "5245c795c1851c15b9449be0daceffef39656916a029786f9ea33a023a1e5f70", func := "wringing/wringinglaw06.SharpPilesHold", spec := "sharpPilesHold", unfollowed := true, recurses := true, apart := false }
def SharpPilesHoldSaid : Prop := sharpPilesHoldRow.holds Tryz.pinned (OpenSpec.ofChange sharpPilesHoldSpec)

/-- ITS FALSE NEIGHBOUR: 'it returns false'. Refute it at one input. -/
def sharpPilesHoldWrong : ChangeSpec := { name := "sharpPilesHold", fn := fun _ => fun
  | [d1, d2, d3, d4, d5, d6] => { results := [.lit (.bool false)], args := [d1, d2, d3, d4, d5, d6] }
  | _ => none }
def SharpPilesHoldWrongFalsely : Prop := sharpPilesHoldRow.holds Tryz.pinned (OpenSpec.ofChange sharpPilesHoldWrong)

/-- 'wringinglaw06.SharpClashes': WHATEVER THE INPUT: true; the input reads as it did. -/
def sharpClashesSpec : ChangeSpec := { name := "sharpClashes", fn := fun _ => fun
  | [d1, d2, d3, d4] => { results := [.lit (.bool true)], args := [d1, d2, d3, d4] }
  | _ => none }
def sharpClashesRow : OpenClaim := { program := "ytiochmbenflhhaagreat", sum := "5245c795c1851c15b9449be0daceffef39656916a029786f9ea33a023a1e5f70", func := "wringing/wringinglaw06.SharpClashes", spec := "sharpClashes", unfollowed := true, recurses := true, apart := false }
def SharpClashesSaid : Prop := sharpClashesRow.holds Tryz.pinned (OpenSpec.ofChange sharpClashesSpec)

/-- ITS FALSE NEIGHBOUR: 'it returns false'. Refute it at one input. -/
def sharpClashesWrong : ChangeSpec := { name := "sharpClashes", fn := fun _ => fun
  | [d1, d2, d3, d4] => { results := [.lit (.bool false)], args := [d1, d2, d3, d4] }
  | _ => none }
def SharpClashesWrongFalsely : Prop := sharpClashesRow.holds Tryz.pinned (OpenSpec.ofChange sharpClashesWrong)

/- THE SECOND FORM. 'bulk': how many values and letters a reading holds, each counted each time it is reached (what is shared counts as often as it is met; a slice's spare places count too). A statement '..UptoSaid' is the law's where the arguments, and the package variables that the reading takes, are together of bulk at most 1048576: NARROWER than '..Said'. Prove '..Said' where nothing that the law and all that it calls make is longer than what came in: it says more and counts as full. Else prove '..UptoSaid'. A law counts once. -/
mutual
def uptoBulk {H : Type} : DataW H → Nat
  | .lit (.string bytes) => bytes.length + 1
  | .lit _ => 1
  | .nil => 1
  | .ptr d => uptoBulk d + 1
  | .slice elems spare => uptoBulkAll elems + uptoBulkAll spare + 1
  | .agg parts => uptoBulkAll parts + 1
  | .iface _ d => uptoBulk d + 1
  | .map entries => uptoBulkEntries entries + 1
  | .held _ => 1
def uptoBulkAll {H : Type} : List (DataW H) → Nat
  | [] => 0
  | d :: r => uptoBulk d + uptoBulkAll r
def uptoBulkEntries {H : Type} : List (Lit × DataW H) → Nat
  | [] => 0
  | x :: r => uptoBulkEntry x + uptoBulkEntries r
def uptoBulkEntry {H : Type} : Lit × DataW H → Nat
  | (.string bytes, d) => bytes.length + uptoBulk d + 1
  | (_, d) => uptoBulk d + 1
 end
def uptoSmall : (H : Type) → List (DataW H) → Bool := fun _ ds => decide (uptoBulkAll ds ≤ 1048576)
def OpenSpec.upto (s : _root_.Go.ChangeSpec) : _root_.Go.OpenSpec := { _root_.Go.OpenSpec.ofChange s with cond := some uptoSmall }

/-- 'wringinglaw06.SharpSame', WHERE WHAT IT READS IS OF BULK AT MOST 1048576: true; the input reads as it did. -/
def sharpSameUptoRow : OpenClaim := { program := "ytiochmbenflhhaagreat", sum := "5245c795c1851c15b9449be0daceffef39656916a029786f9ea33a023a1e5f70", func := "wringing/wringinglaw06.SharpSame", spec := "sharpSame", unfollowed := true, recurses := true, apart := false, narrowed := true }
def SharpSameUptoSaid : Prop := sharpSameUptoRow.holds Tryz.pinned (OpenSpec.upto sharpSameSpec)

/-- 'wringinglaw06.SharpPiles', WHERE WHAT IT READS IS OF BULK AT MOST 1048576: true; the input reads as it did. -/
def sharpPilesUptoRow : OpenClaim := { program := "ytiochmbenflhhaagreat", sum := "5245c795c1851c15b9449be0daceffef39656916a029786f9ea33a023a1e5f70", func := "wringing/wringinglaw06.SharpPiles", spec := "sharpPiles", unfollowed := true, recurses := true, apart := false, narrowed := true }
def SharpPilesUptoSaid : Prop := sharpPilesUptoRow.holds Tryz.pinned (OpenSpec.upto sharpPilesSpec)

/-- 'wringinglaw06.SharpPilesHold', WHERE WHAT IT READS IS OF BULK AT MOST 1048576: true; the input reads as it did. -/
def sharpPilesHoldUptoRow : OpenClaim := { program := "ytiochmbenflhhaagreat", sum := "5245c795c1851c15b9449be0daceffef39656916a029786f9ea33a023a1e5f70", func := "wringing/wringinglaw06.SharpPilesHold", spec := "sharpPilesHold", unfollowed := true, recurses := true, apart := false, narrowed := true }
def SharpPilesHoldUptoSaid : Prop := sharpPilesHoldUptoRow.holds Tryz.pinned (OpenSpec.upto sharpPilesHoldSpec)

/-- 'wringinglaw06.SharpClashes', WHERE WHAT IT READS IS OF BULK AT MOST 1048576: true; the input reads as it did. -/
def sharpClashesUptoRow : OpenClaim := { program := "ytiochmbenflhhaagreat", sum := "5245c795c1851c15b9449be0daceffef39656916a029786f9ea33a023a1e5f70", func := "wringing/wringinglaw06.SharpClashes", spec := "sharpClashes", unfollowed := true, recurses := true, apart := false, narrowed := true }
def SharpClashesUptoSaid : Prop := sharpClashesUptoRow.holds Tryz.pinned (OpenSpec.upto sharpClashesSpec)

end Rows
end Go.Proofs.YtiochmbenflhhaaGreat
