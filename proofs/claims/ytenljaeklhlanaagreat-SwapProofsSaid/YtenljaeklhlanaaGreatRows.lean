/-
  No cell of these rows narrows 'for every input' (looked for: loops, veiled, ifaces, maps, wideKeys, modest, calm, conditions, laid).
  DERIVED. THE GIVEN ROWS OF THIS SEAT. 3 by the template 'for every input the law returns true; each argument reads behind the call as it read before'; 0 by the template 'total and deterministic' (their statements: YtenljaeklhlanaaGreatTotals.lean).
  GIVEN WITH THE SEED: the statements are not yours to turn. If you find one false, say at which input.
  Laid BY PROGRAM, IN A SANDBOX (cutbox-rows.mjs): the forced cells as the released guide's own fill.sh prints them over the translation 4846f7c1bc8cd578… (all of the seat's roots in one cut). By AI agents, Wed Nov 11 2026. No macro, syntax, notation, axiom, sorry.
-/
import Derived.Test.YtenljaeklhlanaaGreatChecked
import GoSem.Claim
import GoSem.ClaimJoined
import GoSem.ClaimMapViews
import Derived.JoinedTies
import Derived.KernelRfl
namespace Go.Proofs.YtenljaeklhlanaaGreat
/- THE CELL 'sum', in the pinned program and in every row, IS THE sha256 OF THE DUMP (.gsa) THAT YtenljaeklhlanaaGreatProg.lean LOADS. Nothing in Lean hashes anything: it is a label: what it is worth is what the hold of that sum in a sandbox is worth. -/
noncomputable def Tryz.pinned : Pinned := { name := "ytenljaeklhlanaagreat", sum := "4846f7c1bc8cd5788b11359959f4db091368c0120ada5b940234b1d02cbc24e1", checked := Tryz.checked }
namespace Rows
def none {H : Type} : Left H := { results := [], args := [] }

/-- 'wringinglaw07.SwapCores': WHATEVER THE INPUT: true; the input reads as it did. -/
def swapCoresSpec : ChangeSpec := { name := "swapCores", fn := fun _ => fun
  | [d1, d2, d3] => { results := [.lit (.bool true)], args := [d1, d2, d3] }
  | _ => none }
def swapCoresRow : OpenClaim := { program := "ytenljaeklhlanaagreat", sum := "4846f7c1bc8cd5788b11359959f4db091368c0120ada5b940234b1d02cbc24e1", func := "wringing/wringinglaw07.SwapCores", spec := "swapCores", unfollowed := true, recurses := true, apart := false }
def SwapCoresSaid : Prop := swapCoresRow.holds Tryz.pinned (OpenSpec.ofChange swapCoresSpec)

/-- ITS FALSE NEIGHBOUR: 'it returns false'. Refute it at one input. -/
def swapCoresWrong : ChangeSpec := { name := "swapCores", fn := fun _ => fun
  | [d1, d2, d3] => { results := [.lit (.bool false)], args := [d1, d2, d3] }
  | _ => none }
def SwapCoresWrongFalsely : Prop := swapCoresRow.holds Tryz.pinned (OpenSpec.ofChange swapCoresWrong)

/-- 'wringinglaw07.SwapCoulds': WHATEVER THE INPUT: true; the input reads as it did. -/
def swapCouldsSpec : ChangeSpec := { name := "swapCoulds", fn := fun _ => fun
  | [d1, d2, d3] => { results := [.lit (.bool true)], args := [d1, d2, d3] }
  | _ => none }
def swapCouldsRow : OpenClaim := { program := "ytenljaeklhlanaagreat", sum := "4846f7c1bc8cd5788b11359959f4db091368c0120ada5b940234b1d02cbc24e1", func := "wringing/wringinglaw07.SwapCoulds", spec := "swapCoulds", unfollowed := true, recurses := true, apart := false }
def SwapCouldsSaid : Prop := swapCouldsRow.holds Tryz.pinned (OpenSpec.ofChange swapCouldsSpec)

/-- ITS FALSE NEIGHBOUR: 'it returns false'. Refute it at one input. -/
def swapCouldsWrong : ChangeSpec := { name := "swapCoulds", fn := fun _ => fun
  | [d1, d2, d3] => { results := [.lit (.bool false)], args := [d1, d2, d3] }
  | _ => none }
def SwapCouldsWrongFalsely : Prop := swapCouldsRow.holds Tryz.pinned (OpenSpec.ofChange swapCouldsWrong)

/-- 'wringinglaw07.SwapProofs': WHATEVER THE INPUT: true; the input reads as it did. -/
def swapProofsSpec : ChangeSpec := { name := "swapProofs", fn := fun _ => fun
  | [d1, d2, d3, d4] => { results := [.lit (.bool true)], args := [d1, d2, d3, d4] }
  | _ => none }
def swapProofsRow : OpenClaim := { program := "ytenljaeklhlanaagreat", sum := "4846f7c1bc8cd5788b11359959f4db091368c0120ada5b940234b1d02cbc24e1", func := "wringing/wringinglaw07.SwapProofs", spec := "swapProofs", unfollowed := true, recurses := true, apart := false }
def SwapProofsSaid : Prop := swapProofsRow.holds Tryz.pinned (OpenSpec.ofChange swapProofsSpec)

/-- ITS FALSE NEIGHBOUR: 'it returns false'. Refute it at one input. -/
def swapProofsWrong : ChangeSpec := { name := "swapProofs", fn := fun _ => fun
  | [d1, d2, d3, d4] => { results := [.lit (.bool false)], args := [d1, d2, d3, d4] }
  | _ => none }
def SwapProofsWrongFalsely : Prop := swapProofsRow.holds Tryz.pinned (OpenSpec.ofChange swapProofsWrong)

/- THE SECOND FORM. 'bulk': how many values and letters a reading holds, each counted each time it is reached (what is shared counts as often as it is met; a slice's spare places count too). A statement '..UptoSaid' is the law's where the arguments, and the package variables that the reading takes, are together of bulk at most 1048576: NARROWER than '..Said'. Prove '..Said' where nothing that the law and all that it calls make is longer than what came in: it says more and counts as full. Else prove '..UptoSaid'. A law counts once. -/
mutual
def uptoBulk {H : Type} : DataW H → Nat
  | .lit (.string bytes) => bytes.length + 1
  | .lit _ => 1
  | .nil => 1
  | .ptr d => uptoBulk d + 1
  | .slice elems spare => uptoBulkAll elems + uptoBulkAll spare + 1
  | .agg parts => uptoBulkAll parts + 1
  | .iface _ d => uptoBulk d + 1
  | .map entries => uptoBulkEntries entries + 1
  | .held _ => 1
def uptoBulkAll {H : Type} : List (DataW H) → Nat
  | [] => 0
  | d :: r => uptoBulk d + uptoBulkAll r
def uptoBulkEntries {H : Type} : List (Lit × DataW H) → Nat
  | [] => 0
  | x :: r => uptoBulkEntry x + uptoBulkEntries r
def uptoBulkEntry {H : Type} : Lit × DataW H → Nat
  | (.string bytes, d) => bytes.length + uptoBulk d + 1
  | (_, d) => uptoBulk d + 1
 end
def uptoSmall : (H : Type) → List (DataW H) → Bool := fun _ ds => decide (uptoBulkAll ds ≤ 1048576)
def OpenSpec.upto (s : _root_.Go.ChangeSpec) : _root_.Go.OpenSpec := { _root_.Go.OpenSpec.ofChange s with cond := some uptoSmall }

/-- 'wringinglaw07.SwapCores', WHERE WHAT IT READS IS OF BULK AT MOST 1048576: true; the input reads as it did. -/
def swapCoresUptoRow : OpenClaim := { program := "ytenljaeklhlanaagreat", sum := "4846f7c1bc8cd5788b11359959f4db091368c0120ada5b940234b1d02cbc24e1", func := "wringing/wringinglaw07.SwapCores", spec := "swapCores", unfollowed := true, recurses := true, apart := false, narrowed := true }
def SwapCoresUptoSaid : Prop := swapCoresUptoRow.holds Tryz.pinned (OpenSpec.upto swapCoresSpec)

/-- 'wringinglaw07.SwapCoulds', WHERE WHAT IT READS IS OF BULK AT MOST 1048576: true; the input reads as it did. -/
def swapCouldsUptoRow : OpenClaim := { program := "ytenljaeklhlanaagreat", sum := "4846f7c1bc8cd5788b11359959f4db091368c0120ada5b940234b1d02cbc24e1", func := "wringing/wringinglaw07.SwapCoulds", spec := "swapCoulds", unfollowed := true, recurses := true, apart := false, narrowed := true }
def SwapCouldsUptoSaid : Prop := swapCouldsUptoRow.holds Tryz.pinned (OpenSpec.upto swapCouldsSpec)

/-- 'wringinglaw07.SwapProofs', WHERE WHAT IT READS IS OF BULK AT MOST 1048576: true; the input reads as it did. -/
def swapProofsUptoRow : OpenClaim := { program := "ytenljaeklhlanaagreat", sum := "4846f7c1bc8cd5788b11359959f4db091368c0120ada5b940234b1d02cbc24e1", func := "wringing/wringinglaw07.SwapProofs", spec := "swapProofs", unfollowed := true, recurses := true, apart := false, narrowed := true }
def SwapProofsUptoSaid : Prop := swapProofsUptoRow.holds Tryz.pinned (OpenSpec.upto swapProofsSpec)

end Rows
end Go.Proofs.YtenljaeklhlanaaGreat
