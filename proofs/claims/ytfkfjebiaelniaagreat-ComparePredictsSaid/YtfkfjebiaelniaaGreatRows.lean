/-
  No cell of these rows narrows 'for every input' (looked for: loops, veiled, ifaces, maps, wideKeys, modest, calm, conditions, laid).
  DERIVED. THE GIVEN ROWS OF THIS SEAT. 14 by the template 'for every input the law returns true; each argument reads behind the call as it read before'; 0 by the template 'total and deterministic' (their statements: YtfkfjebiaelniaaGreatTotals.lean).
  GIVEN WITH THE SEED: the statements are not yours to turn. If you find one false, say at which input.
  Laid BY PROGRAM, IN A SANDBOX (cutbox-rows.mjs): the forced cells as the released guide's own fill.sh prints them over the translation f7df27dbeb6059ca… (all of the seat's roots in one cut). By AI agents, Wed Nov 11 2026. No macro, syntax, notation, axiom, sorry.
-/
import Derived.Test.YtfkfjebiaelniaaGreatChecked
import GoSem.Claim
import GoSem.ClaimJoined
import GoSem.ClaimMapViews
import Derived.JoinedTies
import Derived.KernelRfl
namespace Go.Proofs.YtfkfjebiaelniaaGreat
/- THE CELL 'sum', in the pinned program and in every row, IS THE sha256 OF THE DUMP (.gsa) THAT YtfkfjebiaelniaaGreatProg.lean LOADS. Nothing in Lean hashes anything: it is a label: what it is worth is what the hold of that sum in a sandbox is worth. -/
noncomputable def Tryz.pinned : Pinned := { name := "ytfkfjebiaelniaagreat", sum := "f7df27dbeb6059caae756f3deed6a177ee4c93c40bc560eaf2a004ed7d628838", checked := Tryz.checked }
namespace Rows
def none {H : Type} : Left H := { results := [], args := [] }

/-- 'wringinglaw05.ComparePredicts': WHATEVER THE INPUT: true; the input reads as it did. -/
def comparePredictsSpec : ChangeSpec := { name := "comparePredicts", fn := fun _ => fun
  | [d1, d2] => { results := [.lit (.bool true)], args := [d1, d2] }
  | _ => none }
def comparePredictsRow : OpenClaim := { program := "ytfkfjebiaelniaagreat", sum := "f7df27dbeb6059caae756f3deed6a177ee4c93c40bc560eaf2a004ed7d628838", func := "wringing/wringinglaw05.ComparePredicts", spec := "comparePredicts", unfollowed := true, recurses := true, apart := false }
def ComparePredictsSaid : Prop := comparePredictsRow.holds Tryz.pinned (OpenSpec.ofChange comparePredictsSpec)

/-- ITS FALSE NEIGHBOUR: 'it returns false'. Refute it at one input. -/
def comparePredictsWrong : ChangeSpec := { name := "comparePredicts", fn := fun _ => fun
  | [d1, d2] => { results := [.lit (.bool false)], args := [d1, d2] }
  | _ => none }
def ComparePredictsWrongFalsely : Prop := comparePredictsRow.holds Tryz.pinned (OpenSpec.ofChange comparePredictsWrong)

/-- 'wringinglaw05.CompareLattice': WHATEVER THE INPUT: true; the input reads as it did. -/
def compareLatticeSpec : ChangeSpec := { name := "compareLattice", fn := fun _ => fun
  | [d1, d2, d3] => { results := [.lit (.bool true)], args := [d1, d2, d3] }
  | _ => none }
def compareLatticeRow : OpenClaim := { program := "ytfkfjebiaelniaagreat", sum := "f7df27dbeb6059caae756f3deed6a177ee4c93c40bc560eaf2a004ed7d628838", func := "wringing/wringinglaw05.CompareLattice", spec := "compareLattice", unfollowed := true, recurses := true, apart := false }
def CompareLatticeSaid : Prop := compareLatticeRow.holds Tryz.pinned (OpenSpec.ofChange compareLatticeSpec)

/-- ITS FALSE NEIGHBOUR: 'it returns false'. Refute it at one input. -/
def compareLatticeWrong : ChangeSpec := { name := "compareLattice", fn := fun _ => fun
  | [d1, d2, d3] => { results := [.lit (.bool false)], args := [d1, d2, d3] }
  | _ => none }
def CompareLatticeWrongFalsely : Prop := compareLatticeRow.holds Tryz.pinned (OpenSpec.ofChange compareLatticeWrong)

/-- 'wringinglaw05.CompareChain': WHATEVER THE INPUT: true; the input reads as it did. -/
def compareChainSpec : ChangeSpec := { name := "compareChain", fn := fun _ => fun
  | [d1, d2, d3, d4, d5, d6] => { results := [.lit (.bool true)], args := [d1, d2, d3, d4, d5, d6] }
  | _ => none }
def compareChainRow : OpenClaim := { program := "ytfkfjebiaelniaagreat", sum := "f7df27dbeb6059caae756f3deed6a177ee4c93c40bc560eaf2a004ed7d628838", func := "wringing/wringinglaw05.CompareChain", spec := "compareChain", unfollowed := true, recurses := true, apart := false }
def CompareChainSaid : Prop := compareChainRow.holds Tryz.pinned (OpenSpec.ofChange compareChainSpec)

/-- ITS FALSE NEIGHBOUR: 'it returns false'. Refute it at one input. -/
def compareChainWrong : ChangeSpec := { name := "compareChain", fn := fun _ => fun
  | [d1, d2, d3, d4, d5, d6] => { results := [.lit (.bool false)], args := [d1, d2, d3, d4, d5, d6] }
  | _ => none }
def CompareChainWrongFalsely : Prop := compareChainRow.holds Tryz.pinned (OpenSpec.ofChange compareChainWrong)

/-- 'wringinglaw05.CompareRepeats': WHATEVER THE INPUT: true; the input reads as it did. -/
def compareRepeatsSpec : ChangeSpec := { name := "compareRepeats", fn := fun _ => fun
  | [d1, d2, d3, d4] => { results := [.lit (.bool true)], args := [d1, d2, d3, d4] }
  | _ => none }
def compareRepeatsRow : OpenClaim := { program := "ytfkfjebiaelniaagreat", sum := "f7df27dbeb6059caae756f3deed6a177ee4c93c40bc560eaf2a004ed7d628838", func := "wringing/wringinglaw05.CompareRepeats", spec := "compareRepeats", unfollowed := true, recurses := true, apart := false }
def CompareRepeatsSaid : Prop := compareRepeatsRow.holds Tryz.pinned (OpenSpec.ofChange compareRepeatsSpec)

/-- ITS FALSE NEIGHBOUR: 'it returns false'. Refute it at one input. -/
def compareRepeatsWrong : ChangeSpec := { name := "compareRepeats", fn := fun _ => fun
  | [d1, d2, d3, d4] => { results := [.lit (.bool false)], args := [d1, d2, d3, d4] }
  | _ => none }
def CompareRepeatsWrongFalsely : Prop := compareRepeatsRow.holds Tryz.pinned (OpenSpec.ofChange compareRepeatsWrong)

/-- 'wringinglaw05.CompareMore': WHATEVER THE INPUT: true; the input reads as it did. -/
def compareMoreSpec : ChangeSpec := { name := "compareMore", fn := fun _ => fun
  | [d1, d2, d3, d4, d5, d6] => { results := [.lit (.bool true)], args := [d1, d2, d3, d4, d5, d6] }
  | _ => none }
def compareMoreRow : OpenClaim := { program := "ytfkfjebiaelniaagreat", sum := "f7df27dbeb6059caae756f3deed6a177ee4c93c40bc560eaf2a004ed7d628838", func := "wringing/wringinglaw05.CompareMore", spec := "compareMore", unfollowed := true, recurses := true, apart := false }
def CompareMoreSaid : Prop := compareMoreRow.holds Tryz.pinned (OpenSpec.ofChange compareMoreSpec)

/-- ITS FALSE NEIGHBOUR: 'it returns false'. Refute it at one input. -/
def compareMoreWrong : ChangeSpec := { name := "compareMore", fn := fun _ => fun
  | [d1, d2, d3, d4, d5, d6] => { results := [.lit (.bool false)], args := [d1, d2, d3, d4, d5, d6] }
  | _ => none }
def CompareMoreWrongFalsely : Prop := compareMoreRow.holds Tryz.pinned (OpenSpec.ofChange compareMoreWrong)

/-- 'wringinglaw05.ComparePiles': WHATEVER THE INPUT: true; the input reads as it did. -/
def comparePilesSpec : ChangeSpec := { name := "comparePiles", fn := fun _ => fun
  | [d1, d2, d3, d4] => { results := [.lit (.bool true)], args := [d1, d2, d3, d4] }
  | _ => none }
def comparePilesRow : OpenClaim := { program := "ytfkfjebiaelniaagreat", sum := "f7df27dbeb6059caae756f3deed6a177ee4c93c40bc560eaf2a004ed7d628838", func := "wringing/wringinglaw05.ComparePiles", spec := "comparePiles", unfollowed := true, recurses := true, apart := false }
def ComparePilesSaid : Prop := comparePilesRow.holds Tryz.pinned (OpenSpec.ofChange comparePilesSpec)

/-- ITS FALSE NEIGHBOUR: 'it returns false'. Refute it at one input. -/
def comparePilesWrong : ChangeSpec := { name := "comparePiles", fn := fun _ => fun
  | [d1, d2, d3, d4] => { results := [.lit (.bool false)], args := [d1, d2, d3, d4] }
  | _ => none }
def ComparePilesWrongFalsely : Prop := comparePilesRow.holds Tryz.pinned (OpenSpec.ofChange comparePilesWrong)

/-- 'wringinglaw05.CompareSays': WHATEVER THE INPUT: true; the input reads as it did. -/
def compareSaysSpec : ChangeSpec := { name := "compareSays", fn := fun _ => fun
  | [d1, d2] => { results := [.lit (.bool true)], args := [d1, d2] }
  | _ => none }
def compareSaysRow : OpenClaim := { program := "ytfkfjebiaelniaagreat", sum := "f7df27dbeb6059caae756f3deed6a177ee4c93c40bc560eaf2a004ed7d628838", func := "wringing/wringinglaw05.CompareSays", spec := "compareSays", unfollowed := true, recurses := true, apart := false }
def CompareSaysSaid : Prop := compareSaysRow.holds Tryz.pinned (OpenSpec.ofChange compareSaysSpec)

/-- ITS FALSE NEIGHBOUR: 'it returns false'. Refute it at one input. -/
def compareSaysWrong : ChangeSpec := { name := "compareSays", fn := fun _ => fun
  | [d1, d2] => { results := [.lit (.bool false)], args := [d1, d2] }
  | _ => none }
def CompareSaysWrongFalsely : Prop := compareSaysRow.holds Tryz.pinned (OpenSpec.ofChange compareSaysWrong)

/-- 'wringinglaw05.CompareBooks': WHATEVER THE INPUT: true; the input reads as it did. -/
def compareBooksSpec : ChangeSpec := { name := "compareBooks", fn := fun _ => fun
  | [d1, d2, d3, d4] => { results := [.lit (.bool true)], args := [d1, d2, d3, d4] }
  | _ => none }
def compareBooksRow : OpenClaim := { program := "ytfkfjebiaelniaagreat", sum := "f7df27dbeb6059caae756f3deed6a177ee4c93c40bc560eaf2a004ed7d628838", func := "wringing/wringinglaw05.CompareBooks", spec := "compareBooks", unfollowed := true, recurses := true, apart := false }
def CompareBooksSaid : Prop := compareBooksRow.holds Tryz.pinned (OpenSpec.ofChange compareBooksSpec)

/-- ITS FALSE NEIGHBOUR: 'it returns false'. Refute it at one input. -/
def compareBooksWrong : ChangeSpec := { name := "compareBooks", fn := fun _ => fun
  | [d1, d2, d3, d4] => { results := [.lit (.bool false)], args := [d1, d2, d3, d4] }
  | _ => none }
def CompareBooksWrongFalsely : Prop := compareBooksRow.holds Tryz.pinned (OpenSpec.ofChange compareBooksWrong)

/-- 'wringinglaw05.CompareSystems': WHATEVER THE INPUT: true; the input reads as it did. -/
def compareSystemsSpec : ChangeSpec := { name := "compareSystems", fn := fun _ => fun
  | [d1, d2] => { results := [.lit (.bool true)], args := [d1, d2] }
  | _ => none }
def compareSystemsRow : OpenClaim := { program := "ytfkfjebiaelniaagreat", sum := "f7df27dbeb6059caae756f3deed6a177ee4c93c40bc560eaf2a004ed7d628838", func := "wringing/wringinglaw05.CompareSystems", spec := "compareSystems", unfollowed := true, recurses := true, apart := false }
def CompareSystemsSaid : Prop := compareSystemsRow.holds Tryz.pinned (OpenSpec.ofChange compareSystemsSpec)

/-- ITS FALSE NEIGHBOUR: 'it returns false'. Refute it at one input. -/
def compareSystemsWrong : ChangeSpec := { name := "compareSystems", fn := fun _ => fun
  | [d1, d2] => { results := [.lit (.bool false)], args := [d1, d2] }
  | _ => none }
def CompareSystemsWrongFalsely : Prop := compareSystemsRow.holds Tryz.pinned (OpenSpec.ofChange compareSystemsWrong)

/-- 'wringinglaw05.CompareDays': WHATEVER THE INPUT: true; the input reads as it did. -/
def compareDaysSpec : ChangeSpec := { name := "compareDays", fn := fun _ => fun
  | [d1, d2, d3, d4] => { results := [.lit (.bool true)], args := [d1, d2, d3, d4] }
  | _ => none }
def compareDaysRow : OpenClaim := { program := "ytfkfjebiaelniaagreat", sum := "f7df27dbeb6059caae756f3deed6a177ee4c93c40bc560eaf2a004ed7d628838", func := "wringing/wringinglaw05.CompareDays", spec := "compareDays", unfollowed := true, recurses := true, apart := false }
def CompareDaysSaid : Prop := compareDaysRow.holds Tryz.pinned (OpenSpec.ofChange compareDaysSpec)

/-- ITS FALSE NEIGHBOUR: 'it returns false'. Refute it at one input. -/
def compareDaysWrong : ChangeSpec := { name := "compareDays", fn := fun _ => fun
  | [d1, d2, d3, d4] => { results := [.lit (.bool false)], args := [d1, d2, d3, d4] }
  | _ => none }
def CompareDaysWrongFalsely : Prop := compareDaysRow.holds Tryz.pinned (OpenSpec.ofChange compareDaysWrong)

/-- 'wringinglaw05.CompareShown': WHATEVER THE INPUT: true; the input reads as it did. -/
def compareShownSpec : ChangeSpec := { name := "compareShown", fn := fun _ => fun
  | [d1, d2, d3, d4] => { results := [.lit (.bool true)], args := [d1, d2, d3, d4] }
  | _ => none }
def compareShownRow : OpenClaim := { program := "ytfkfjebiaelniaagreat", sum := "f7df27dbeb6059caae756f3deed6a177ee4c93c40bc560eaf2a004ed7d628838", func := "wringing/wringinglaw05.CompareShown", spec := "compareShown", unfollowed := true, recurses := true, apart := false }
def CompareShownSaid : Prop := compareShownRow.holds Tryz.pinned (OpenSpec.ofChange compareShownSpec)

/-- ITS FALSE NEIGHBOUR: 'it returns false'. Refute it at one input. -/
def compareShownWrong : ChangeSpec := { name := "compareShown", fn := fun _ => fun
  | [d1, d2, d3, d4] => { results := [.lit (.bool false)], args := [d1, d2, d3, d4] }
  | _ => none }
def CompareShownWrongFalsely : Prop := compareShownRow.holds Tryz.pinned (OpenSpec.ofChange compareShownWrong)

/-- 'wringinglaw05.CompareExactly': WHATEVER THE INPUT: true; the input reads as it did. -/
def compareExactlySpec : ChangeSpec := { name := "compareExactly", fn := fun _ => fun
  | [d1, d2] => { results := [.lit (.bool true)], args := [d1, d2] }
  | _ => none }
def compareExactlyRow : OpenClaim := { program := "ytfkfjebiaelniaagreat", sum := "f7df27dbeb6059caae756f3deed6a177ee4c93c40bc560eaf2a004ed7d628838", func := "wringing/wringinglaw05.CompareExactly", spec := "compareExactly", unfollowed := true, recurses := true, apart := false }
def CompareExactlySaid : Prop := compareExactlyRow.holds Tryz.pinned (OpenSpec.ofChange compareExactlySpec)

/-- ITS FALSE NEIGHBOUR: 'it returns false'. Refute it at one input. -/
def compareExactlyWrong : ChangeSpec := { name := "compareExactly", fn := fun _ => fun
  | [d1, d2] => { results := [.lit (.bool false)], args := [d1, d2] }
  | _ => none }
def CompareExactlyWrongFalsely : Prop := compareExactlyRow.holds Tryz.pinned (OpenSpec.ofChange compareExactlyWrong)

/-- 'wringinglaw05.CompareLosses': WHATEVER THE INPUT: true; the input reads as it did. -/
def compareLossesSpec : ChangeSpec := { name := "compareLosses", fn := fun _ => fun
  | [d1, d2, d3, d4, d5, d6] => { results := [.lit (.bool true)], args := [d1, d2, d3, d4, d5, d6] }
  | _ => none }
def compareLossesRow : OpenClaim := { program := "ytfkfjebiaelniaagreat", sum := "f7df27dbeb6059caae756f3deed6a177ee4c93c40bc560eaf2a004ed7d628838", func := "wringing/wringinglaw05.CompareLosses", spec := "compareLosses", unfollowed := true, recurses := true, apart := false }
def CompareLossesSaid : Prop := compareLossesRow.holds Tryz.pinned (OpenSpec.ofChange compareLossesSpec)

/-- ITS FALSE NEIGHBOUR: 'it returns false'. Refute it at one input. -/
def compareLossesWrong : ChangeSpec := { name := "compareLosses", fn := fun _ => fun
  | [d1, d2, d3, d4, d5, d6] => { results := [.lit (.bool false)], args := [d1, d2, d3, d4, d5, d6] }
  | _ => none }
def CompareLossesWrongFalsely : Prop := compareLossesRow.holds Tryz.pinned (OpenSpec.ofChange compareLossesWrong)

/-- 'wringinglaw05.CompareFits': WHATEVER THE INPUT: true; the input reads as it did. -/
def compareFitsSpec : ChangeSpec := { name := "compareFits", fn := fun _ => fun
  | [d1, d2, d3, d4] => { results := [.lit (.bool true)], args := [d1, d2, d3, d4] }
  | _ => none }
def compareFitsRow : OpenClaim := { program := "ytfkfjebiaelniaagreat", sum := "f7df27dbeb6059caae756f3deed6a177ee4c93c40bc560eaf2a004ed7d628838", func := "wringing/wringinglaw05.CompareFits", spec := "compareFits", unfollowed := true, recurses := true, apart := false }
def CompareFitsSaid : Prop := compareFitsRow.holds Tryz.pinned (OpenSpec.ofChange compareFitsSpec)

/-- ITS FALSE NEIGHBOUR: 'it returns false'. Refute it at one input. -/
def compareFitsWrong : ChangeSpec := { name := "compareFits", fn := fun _ => fun
  | [d1, d2, d3, d4] => { results := [.lit (.bool false)], args := [d1, d2, d3, d4] }
  | _ => none }
def CompareFitsWrongFalsely : Prop := compareFitsRow.holds Tryz.pinned (OpenSpec.ofChange compareFitsWrong)

/- THE SECOND FORM. 'bulk': how many values and letters a reading holds, each counted each time it is reached (what is shared counts as often as it is met; a slice's spare places count too). A statement '..UptoSaid' is the law's where the arguments, and the package variables that the reading takes, are together of bulk at most 1048576: NARROWER than '..Said'. Prove '..Said' where nothing that the law and all that it calls make is longer than what came in: it says more and counts as full. Else prove '..UptoSaid'. A law counts once. -/
mutual
def uptoBulk {H : Type} : DataW H → Nat
  | .lit (.string bytes) => bytes.length + 1
  | .lit _ => 1
  | .nil => 1
  | .ptr d => uptoBulk d + 1
  | .slice elems spare => uptoBulkAll elems + uptoBulkAll spare + 1
  | .agg parts => uptoBulkAll parts + 1
  | .iface _ d => uptoBulk d + 1
  | .map entries => uptoBulkEntries entries + 1
  | .held _ => 1
def uptoBulkAll {H : Type} : List (DataW H) → Nat
  | [] => 0
  | d :: r => uptoBulk d + uptoBulkAll r
def uptoBulkEntries {H : Type} : List (Lit × DataW H) → Nat
  | [] => 0
  | x :: r => uptoBulkEntry x + uptoBulkEntries r
def uptoBulkEntry {H : Type} : Lit × DataW H → Nat
  | (.string bytes, d) => bytes.length + uptoBulk d + 1
  | (_, d) => uptoBulk d + 1
 end
def uptoSmall : (H : Type) → List (DataW H) → Bool := fun _ ds => decide (uptoBulkAll ds ≤ 1048576)
def OpenSpec.upto (s : _root_.Go.ChangeSpec) : _root_.Go.OpenSpec := { _root_.Go.OpenSpec.ofChange s with cond := some uptoSmall }

/-- 'wringinglaw05.ComparePredicts', WHERE WHAT IT READS IS OF BULK AT MOST 1048576: true; the input reads as it did. -/
def comparePredictsUptoRow : OpenClaim := { program := "ytfkfjebiaelniaagreat", sum := "f7df27dbeb6059caae756f3deed6a177ee4c93c40bc560eaf2a004ed7d628838", func := "wringing/wringinglaw05.ComparePredicts", spec := "comparePredicts", unfollowed := true, recurses := true, apart := false, narrowed := true }
def ComparePredictsUptoSaid : Prop := comparePredictsUptoRow.holds Tryz.pinned (OpenSpec.upto comparePredictsSpec)

/-- 'wringinglaw05.CompareLattice', WHERE WHAT IT READS IS OF BULK AT MOST 1048576: true; the input reads as it did. -/
def compareLatticeUptoRow : OpenClaim := { program := "ytfkfjebiaelniaagreat", sum := "f7df27dbeb6059caae756f3deed6a177ee4c93c40bc560eaf2a004ed7d628838", func := "wringing/wringinglaw05.CompareLattice", spec := "compareLattice", unfollowed := true, recurses := true, apart := false, narrowed := true }
def CompareLatticeUptoSaid : Prop := compareLatticeUptoRow.holds Tryz.pinned (OpenSpec.upto compareLatticeSpec)

/-- 'wringinglaw05.CompareChain', WHERE WHAT IT READS IS OF BULK AT MOST 1048576: true; the input reads as it did. -/
def compareChainUptoRow : OpenClaim := { program := "ytfkfjebiaelniaagreat", sum := "f7df27dbeb6059caae756f3deed6a177ee4c93c40bc560eaf2a004ed7d628838", func := "wringing/wringinglaw05.CompareChain", spec := "compareChain", unfollowed := true, recurses := true, apart := false, narrowed := true }
def CompareChainUptoSaid : Prop := compareChainUptoRow.holds Tryz.pinned (OpenSpec.upto compareChainSpec)

/-- 'wringinglaw05.CompareRepeats', WHERE WHAT IT READS IS OF BULK AT MOST 1048576: true; the input reads as it did. -/
def compareRepeatsUptoRow : OpenClaim := { program := "ytfkfjebiaelniaagreat", sum := "f7df27dbeb6059caae756f3deed6a177ee4c93c40bc560eaf2a004ed7d628838", func := "wringing/wringinglaw05.CompareRepeats", spec := "compareRepeats", unfollowed := true, recurses := true, apart := false, narrowed := true }
def CompareRepeatsUptoSaid : Prop := compareRepeatsUptoRow.holds Tryz.pinned (OpenSpec.upto compareRepeatsSpec)

/-- 'wringinglaw05.CompareMore', WHERE WHAT IT READS IS OF BULK AT MOST 1048576: true; the input reads as it did. -/
def compareMoreUptoRow : OpenClaim := { program := "ytfkfjebiaelniaagreat", sum := "f7df27dbeb6059caae756f3deed6a177ee4c93c40bc560eaf2a004ed7d628838", func := "wringing/wringinglaw05.CompareMore", spec := "compareMore", unfollowed := true, recurses := true, apart := false, narrowed := true }
def CompareMoreUptoSaid : Prop := compareMoreUptoRow.holds Tryz.pinned (OpenSpec.upto compareMoreSpec)

/-- 'wringinglaw05.ComparePiles', WHERE WHAT IT READS IS OF BULK AT MOST 1048576: true; the input reads as it did. -/
def comparePilesUptoRow : OpenClaim := { program := "ytfkfjebiaelniaagreat", sum := "f7df27dbeb6059caae756f3deed6a177ee4c93c40bc560eaf2a004ed7d628838", func := "wringing/wringinglaw05.ComparePiles", spec := "comparePiles", unfollowed := true, recurses := true, apart := false, narrowed := true }
def ComparePilesUptoSaid : Prop := comparePilesUptoRow.holds Tryz.pinned (OpenSpec.upto comparePilesSpec)

/-- 'wringinglaw05.CompareSays', WHERE WHAT IT READS IS OF BULK AT MOST 1048576: true; the input reads as it did. -/
def compareSaysUptoRow : OpenClaim := { program := "ytfkfjebiaelniaagreat", sum := "f7df27dbeb6059caae756f3deed6a177ee4c93c40bc560eaf2a004ed7d628838", func := "wringing/wringinglaw05.CompareSays", spec := "compareSays", unfollowed := true, recurses := true, apart := false, narrowed := true }
def CompareSaysUptoSaid : Prop := compareSaysUptoRow.holds Tryz.pinned (OpenSpec.upto compareSaysSpec)

/-- 'wringinglaw05.CompareBooks', WHERE WHAT IT READS IS OF BULK AT MOST 1048576: true; the input reads as it did. -/
def compareBooksUptoRow : OpenClaim := { program := "ytfkfjebiaelniaagreat", sum := "f7df27dbeb6059caae756f3deed6a177ee4c93c40bc560eaf2a004ed7d628838", func := "wringing/wringinglaw05.CompareBooks", spec := "compareBooks", unfollowed := true, recurses := true, apart := false, narrowed := true }
def CompareBooksUptoSaid : Prop := compareBooksUptoRow.holds Tryz.pinned (OpenSpec.upto compareBooksSpec)

/-- 'wringinglaw05.CompareSystems', WHERE WHAT IT READS IS OF BULK AT MOST 1048576: true; the input reads as it did. -/
def compareSystemsUptoRow : OpenClaim := { program := "ytfkfjebiaelniaagreat", sum := "f7df27dbeb6059caae756f3deed6a177ee4c93c40bc560eaf2a004ed7d628838", func := "wringing/wringinglaw05.CompareSystems", spec := "compareSystems", unfollowed := true, recurses := true, apart := false, narrowed := true }
def CompareSystemsUptoSaid : Prop := compareSystemsUptoRow.holds Tryz.pinned (OpenSpec.upto compareSystemsSpec)

/-- 'wringinglaw05.CompareDays', WHERE WHAT IT READS IS OF BULK AT MOST 1048576: true; the input reads as it did. -/
def compareDaysUptoRow : OpenClaim := { program := "ytfkfjebiaelniaagreat", sum := "f7df27dbeb6059caae756f3deed6a177ee4c93c40bc560eaf2a004ed7d628838", func := "wringing/wringinglaw05.CompareDays", spec := "compareDays", unfollowed := true, recurses := true, apart := false, narrowed := true }
def CompareDaysUptoSaid : Prop := compareDaysUptoRow.holds Tryz.pinned (OpenSpec.upto compareDaysSpec)

/-- 'wringinglaw05.CompareShown', WHERE WHAT IT READS IS OF BULK AT MOST 1048576: true; the input reads as it did. -/
def compareShownUptoRow : OpenClaim := { program := "ytfkfjebiaelniaagreat", sum := "f7df27dbeb6059caae756f3deed6a177ee4c93c40bc560eaf2a004ed7d628838", func := "wringing/wringinglaw05.CompareShown", spec := "compareShown", unfollowed := true, recurses := true, apart := false, narrowed := true }
def CompareShownUptoSaid : Prop := compareShownUptoRow.holds Tryz.pinned (OpenSpec.upto compareShownSpec)

/-- 'wringinglaw05.CompareExactly', WHERE WHAT IT READS IS OF BULK AT MOST 1048576: true; the input reads as it did. -/
def compareExactlyUptoRow : OpenClaim := { program := "ytfkfjebiaelniaagreat", sum := "f7df27dbeb6059caae756f3deed6a177ee4c93c40bc560eaf2a004ed7d628838", func := "wringing/wringinglaw05.CompareExactly", spec := "compareExactly", unfollowed := true, recurses := true, apart := false, narrowed := true }
def CompareExactlyUptoSaid : Prop := compareExactlyUptoRow.holds Tryz.pinned (OpenSpec.upto compareExactlySpec)

/-- 'wringinglaw05.CompareLosses', WHERE WHAT IT READS IS OF BULK AT MOST 1048576: true; the input reads as it did. -/
def compareLossesUptoRow : OpenClaim := { program := "ytfkfjebiaelniaagreat", sum := "f7df27dbeb6059caae756f3deed6a177ee4c93c40bc560eaf2a004ed7d628838", func := "wringing/wringinglaw05.CompareLosses", spec := "compareLosses", unfollowed := true, recurses := true, apart := false, narrowed := true }
def CompareLossesUptoSaid : Prop := compareLossesUptoRow.holds Tryz.pinned (OpenSpec.upto compareLossesSpec)

/-- 'wringinglaw05.CompareFits', WHERE WHAT IT READS IS OF BULK AT MOST 1048576: true; the input reads as it did. -/
def compareFitsUptoRow : OpenClaim := { program := "ytfkfjebiaelniaagreat", sum := "f7df27dbeb6059caae756f3deed6a177ee4c93c40bc560eaf2a004ed7d628838", func := "wringing/wringinglaw05.CompareFits", spec := "compareFits", unfollowed := true, recurses := true, apart := false, narrowed := true }
def CompareFitsUptoSaid : Prop := compareFitsUptoRow.holds Tryz.pinned (OpenSpec.upto compareFitsSpec)

end Rows
end Go.Proofs.YtfkfjebiaelniaaGreat
