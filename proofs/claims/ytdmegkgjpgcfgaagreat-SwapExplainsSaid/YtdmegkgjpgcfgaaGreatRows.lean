/-
  No cell of these rows narrows 'for every input' (looked for: loops, veiled, ifaces, maps, wideKeys, modest, calm, conditions, laid).
  DERIVED. THE GIVEN ROWS OF THIS SEAT. 12 by the template 'for every input the law returns true; each argument reads behind the call as it read before'; 0 by the template 'total and deterministic' (their statements: YtdmegkgjpgcfgaaGreatTotals.lean).
  GIVEN WITH THE SEED: the statements are not yours to turn. If you find one false, say at which input.
  Laid BY PROGRAM, IN A SANDBOX (cutbox-rows.mjs): the forced cells as the released guide's own fill.sh prints them over the translation 43ccc05c19061346… (all of the seat's roots in one cut). By AI agents, Wed Nov 11 2026. No macro, syntax, notation, axiom, sorry.
-/
import Derived.Test.YtdmegkgjpgcfgaaGreatChecked
import GoSem.Claim
import GoSem.ClaimJoined
import GoSem.ClaimMapViews
import Derived.JoinedTies
import Derived.KernelRfl
namespace Go.Proofs.YtdmegkgjpgcfgaaGreat
/- THE CELL 'sum', in the pinned program and in every row, IS THE sha256 OF THE DUMP (.gsa) THAT YtdmegkgjpgcfgaaGreatProg.lean LOADS. Nothing in Lean hashes anything: it is a label: what it is worth is what the hold of that sum in a sandbox is worth. -/
noncomputable def Tryz.pinned : Pinned := { name := "ytdmegkgjpgcfgaagreat", sum := "43ccc05c190613465b60028957840e94836f02f3a4615f5e15ed4d20a9d93a74", checked := Tryz.checked }
namespace Rows
def none {H : Type} : Left H := { results := [], args := [] }

/-- 'wringinglaw07.SwapExplains': WHATEVER THE INPUT: true; the input reads as it did. -/
def swapExplainsSpec : ChangeSpec := { name := "swapExplains", fn := fun _ => fun
  | [d1, d2] => { results := [.lit (.bool true)], args := [d1, d2] }
  | _ => none }
def swapExplainsRow : OpenClaim := { program := "ytdmegkgjpgcfgaagreat", sum := "43ccc05c190613465b60028957840e94836f02f3a4615f5e15ed4d20a9d93a74", func := "wringing/wringinglaw07.SwapExplains", spec := "swapExplains", unfollowed := true, recurses := true, apart := false }
def SwapExplainsSaid : Prop := swapExplainsRow.holds Tryz.pinned (OpenSpec.ofChange swapExplainsSpec)

/-- ITS FALSE NEIGHBOUR: 'it returns false'. Refute it at one input. -/
def swapExplainsWrong : ChangeSpec := { name := "swapExplains", fn := fun _ => fun
  | [d1, d2] => { results := [.lit (.bool false)], args := [d1, d2] }
  | _ => none }
def SwapExplainsWrongFalsely : Prop := swapExplainsRow.holds Tryz.pinned (OpenSpec.ofChange swapExplainsWrong)

/-- 'wringinglaw07.SwapCores': WHATEVER THE INPUT: true; the input reads as it did. -/
def swapCoresSpec : ChangeSpec := { name := "swapCores", fn := fun _ => fun
  | [d1, d2, d3] => { results := [.lit (.bool true)], args := [d1, d2, d3] }
  | _ => none }
def swapCoresRow : OpenClaim := { program := "ytdmegkgjpgcfgaagreat", sum := "43ccc05c190613465b60028957840e94836f02f3a4615f5e15ed4d20a9d93a74", func := "wringing/wringinglaw07.SwapCores", spec := "swapCores", unfollowed := true, recurses := true, apart := false }
def SwapCoresSaid : Prop := swapCoresRow.holds Tryz.pinned (OpenSpec.ofChange swapCoresSpec)

/-- ITS FALSE NEIGHBOUR: 'it returns false'. Refute it at one input. -/
def swapCoresWrong : ChangeSpec := { name := "swapCores", fn := fun _ => fun
  | [d1, d2, d3] => { results := [.lit (.bool false)], args := [d1, d2, d3] }
  | _ => none }
def SwapCoresWrongFalsely : Prop := swapCoresRow.holds Tryz.pinned (OpenSpec.ofChange swapCoresWrong)

/-- 'wringinglaw07.SwapNames': WHATEVER THE INPUT: true; the input reads as it did. -/
def swapNamesSpec : ChangeSpec := { name := "swapNames", fn := fun _ => fun
  | [d1, d2] => { results := [.lit (.bool true)], args := [d1, d2] }
  | _ => none }
def swapNamesRow : OpenClaim := { program := "ytdmegkgjpgcfgaagreat", sum := "43ccc05c190613465b60028957840e94836f02f3a4615f5e15ed4d20a9d93a74", func := "wringing/wringinglaw07.SwapNames", spec := "swapNames", unfollowed := true, recurses := true, apart := false }
def SwapNamesSaid : Prop := swapNamesRow.holds Tryz.pinned (OpenSpec.ofChange swapNamesSpec)

/-- ITS FALSE NEIGHBOUR: 'it returns false'. Refute it at one input. -/
def swapNamesWrong : ChangeSpec := { name := "swapNames", fn := fun _ => fun
  | [d1, d2] => { results := [.lit (.bool false)], args := [d1, d2] }
  | _ => none }
def SwapNamesWrongFalsely : Prop := swapNamesRow.holds Tryz.pinned (OpenSpec.ofChange swapNamesWrong)

/-- 'wringinglaw07.SwapCoulds': WHATEVER THE INPUT: true; the input reads as it did. -/
def swapCouldsSpec : ChangeSpec := { name := "swapCoulds", fn := fun _ => fun
  | [d1, d2, d3] => { results := [.lit (.bool true)], args := [d1, d2, d3] }
  | _ => none }
def swapCouldsRow : OpenClaim := { program := "ytdmegkgjpgcfgaagreat", sum := "43ccc05c190613465b60028957840e94836f02f3a4615f5e15ed4d20a9d93a74", func := "wringing/wringinglaw07.SwapCoulds", spec := "swapCoulds", unfollowed := true, recurses := true, apart := false }
def SwapCouldsSaid : Prop := swapCouldsRow.holds Tryz.pinned (OpenSpec.ofChange swapCouldsSpec)

/-- ITS FALSE NEIGHBOUR: 'it returns false'. Refute it at one input. -/
def swapCouldsWrong : ChangeSpec := { name := "swapCoulds", fn := fun _ => fun
  | [d1, d2, d3] => { results := [.lit (.bool false)], args := [d1, d2, d3] }
  | _ => none }
def SwapCouldsWrongFalsely : Prop := swapCouldsRow.holds Tryz.pinned (OpenSpec.ofChange swapCouldsWrong)

/-- 'wringinglaw07.SwapTwice': WHATEVER THE INPUT: true; the input reads as it did. -/
def swapTwiceSpec : ChangeSpec := { name := "swapTwice", fn := fun _ => fun
  | [d1, d2, d3] => { results := [.lit (.bool true)], args := [d1, d2, d3] }
  | _ => none }
def swapTwiceRow : OpenClaim := { program := "ytdmegkgjpgcfgaagreat", sum := "43ccc05c190613465b60028957840e94836f02f3a4615f5e15ed4d20a9d93a74", func := "wringing/wringinglaw07.SwapTwice", spec := "swapTwice", unfollowed := true, recurses := true, apart := false }
def SwapTwiceSaid : Prop := swapTwiceRow.holds Tryz.pinned (OpenSpec.ofChange swapTwiceSpec)

/-- ITS FALSE NEIGHBOUR: 'it returns false'. Refute it at one input. -/
def swapTwiceWrong : ChangeSpec := { name := "swapTwice", fn := fun _ => fun
  | [d1, d2, d3] => { results := [.lit (.bool false)], args := [d1, d2, d3] }
  | _ => none }
def SwapTwiceWrongFalsely : Prop := swapTwiceRow.holds Tryz.pinned (OpenSpec.ofChange swapTwiceWrong)

/-- 'wringinglaw07.SwapWays': WHATEVER THE INPUT: true; the input reads as it did. -/
def swapWaysSpec : ChangeSpec := { name := "swapWays", fn := fun _ => fun
  | [d1, d2, d3, d4] => { results := [.lit (.bool true)], args := [d1, d2, d3, d4] }
  | _ => none }
def swapWaysRow : OpenClaim := { program := "ytdmegkgjpgcfgaagreat", sum := "43ccc05c190613465b60028957840e94836f02f3a4615f5e15ed4d20a9d93a74", func := "wringing/wringinglaw07.SwapWays", spec := "swapWays", unfollowed := true, recurses := true, apart := false }
def SwapWaysSaid : Prop := swapWaysRow.holds Tryz.pinned (OpenSpec.ofChange swapWaysSpec)

/-- ITS FALSE NEIGHBOUR: 'it returns false'. Refute it at one input. -/
def swapWaysWrong : ChangeSpec := { name := "swapWays", fn := fun _ => fun
  | [d1, d2, d3, d4] => { results := [.lit (.bool false)], args := [d1, d2, d3, d4] }
  | _ => none }
def SwapWaysWrongFalsely : Prop := swapWaysRow.holds Tryz.pinned (OpenSpec.ofChange swapWaysWrong)

/-- 'wringinglaw07.SwapBack': WHATEVER THE INPUT: true; the input reads as it did. -/
def swapBackSpec : ChangeSpec := { name := "swapBack", fn := fun _ => fun
  | [d1, d2, d3] => { results := [.lit (.bool true)], args := [d1, d2, d3] }
  | _ => none }
def swapBackRow : OpenClaim := { program := "ytdmegkgjpgcfgaagreat", sum := "43ccc05c190613465b60028957840e94836f02f3a4615f5e15ed4d20a9d93a74", func := "wringing/wringinglaw07.SwapBack", spec := "swapBack", unfollowed := true, recurses := true, apart := false }
def SwapBackSaid : Prop := swapBackRow.holds Tryz.pinned (OpenSpec.ofChange swapBackSpec)

/-- ITS FALSE NEIGHBOUR: 'it returns false'. Refute it at one input. -/
def swapBackWrong : ChangeSpec := { name := "swapBack", fn := fun _ => fun
  | [d1, d2, d3] => { results := [.lit (.bool false)], args := [d1, d2, d3] }
  | _ => none }
def SwapBackWrongFalsely : Prop := swapBackRow.holds Tryz.pinned (OpenSpec.ofChange swapBackWrong)

/-- 'wringinglaw07.SwapFewer': WHATEVER THE INPUT: true; the input reads as it did. -/
def swapFewerSpec : ChangeSpec := { name := "swapFewer", fn := fun _ => fun
  | [d1, d2, d3, d4] => { results := [.lit (.bool true)], args := [d1, d2, d3, d4] }
  | _ => none }
def swapFewerRow : OpenClaim := { program := "ytdmegkgjpgcfgaagreat", sum := "43ccc05c190613465b60028957840e94836f02f3a4615f5e15ed4d20a9d93a74", func := "wringing/wringinglaw07.SwapFewer", spec := "swapFewer", unfollowed := true, recurses := true, apart := false }
def SwapFewerSaid : Prop := swapFewerRow.holds Tryz.pinned (OpenSpec.ofChange swapFewerSpec)

/-- ITS FALSE NEIGHBOUR: 'it returns false'. Refute it at one input. -/
def swapFewerWrong : ChangeSpec := { name := "swapFewer", fn := fun _ => fun
  | [d1, d2, d3, d4] => { results := [.lit (.bool false)], args := [d1, d2, d3, d4] }
  | _ => none }
def SwapFewerWrongFalsely : Prop := swapFewerRow.holds Tryz.pinned (OpenSpec.ofChange swapFewerWrong)

/-- 'wringinglaw07.SwapProofs': WHATEVER THE INPUT: true; the input reads as it did. -/
def swapProofsSpec : ChangeSpec := { name := "swapProofs", fn := fun _ => fun
  | [d1, d2, d3, d4] => { results := [.lit (.bool true)], args := [d1, d2, d3, d4] }
  | _ => none }
def swapProofsRow : OpenClaim := { program := "ytdmegkgjpgcfgaagreat", sum := "43ccc05c190613465b60028957840e94836f02f3a4615f5e15ed4d20a9d93a74", func := "wringing/wringinglaw07.SwapProofs", spec := "swapProofs", unfollowed := true, recurses := true, apart := false }
def SwapProofsSaid : Prop := swapProofsRow.holds Tryz.pinned (OpenSpec.ofChange swapProofsSpec)

/-- ITS FALSE NEIGHBOUR: 'it returns false'. Refute it at one input. -/
def swapProofsWrong : ChangeSpec := { name := "swapProofs", fn := fun _ => fun
  | [d1, d2, d3, d4] => { results := [.lit (.bool false)], args := [d1, d2, d3, d4] }
  | _ => none }
def SwapProofsWrongFalsely : Prop := swapProofsRow.holds Tryz.pinned (OpenSpec.ofChange swapProofsWrong)

/-- 'wringinglaw07.SwapExactly': WHATEVER THE INPUT: true; the input reads as it did. -/
def swapExactlySpec : ChangeSpec := { name := "swapExactly", fn := fun _ => fun
  | [d1, d2, d3] => { results := [.lit (.bool true)], args := [d1, d2, d3] }
  | _ => none }
def swapExactlyRow : OpenClaim := { program := "ytdmegkgjpgcfgaagreat", sum := "43ccc05c190613465b60028957840e94836f02f3a4615f5e15ed4d20a9d93a74", func := "wringing/wringinglaw07.SwapExactly", spec := "swapExactly", unfollowed := true, recurses := true, apart := false }
def SwapExactlySaid : Prop := swapExactlyRow.holds Tryz.pinned (OpenSpec.ofChange swapExactlySpec)

/-- ITS FALSE NEIGHBOUR: 'it returns false'. Refute it at one input. -/
def swapExactlyWrong : ChangeSpec := { name := "swapExactly", fn := fun _ => fun
  | [d1, d2, d3] => { results := [.lit (.bool false)], args := [d1, d2, d3] }
  | _ => none }
def SwapExactlyWrongFalsely : Prop := swapExactlyRow.holds Tryz.pinned (OpenSpec.ofChange swapExactlyWrong)

/-- 'wringinglaw07.SwapEnds': WHATEVER THE INPUT: true; the input reads as it did. -/
def swapEndsSpec : ChangeSpec := { name := "swapEnds", fn := fun _ => fun
  | [d1, d2, d3] => { results := [.lit (.bool true)], args := [d1, d2, d3] }
  | _ => none }
def swapEndsRow : OpenClaim := { program := "ytdmegkgjpgcfgaagreat", sum := "43ccc05c190613465b60028957840e94836f02f3a4615f5e15ed4d20a9d93a74", func := "wringing/wringinglaw07.SwapEnds", spec := "swapEnds", unfollowed := true, recurses := true, apart := false }
def SwapEndsSaid : Prop := swapEndsRow.holds Tryz.pinned (OpenSpec.ofChange swapEndsSpec)

/-- ITS FALSE NEIGHBOUR: 'it returns false'. Refute it at one input. -/
def swapEndsWrong : ChangeSpec := { name := "swapEnds", fn := fun _ => fun
  | [d1, d2, d3] => { results := [.lit (.bool false)], args := [d1, d2, d3] }
  | _ => none }
def SwapEndsWrongFalsely : Prop := swapEndsRow.holds Tryz.pinned (OpenSpec.ofChange swapEndsWrong)

/-- 'wringinglaw07.SwapTrue': WHATEVER THE INPUT: true; the input reads as it did. -/
def swapTrueSpec : ChangeSpec := { name := "swapTrue", fn := fun _ => fun
  | [d1, d2, d3, d4, d5] => { results := [.lit (.bool true)], args := [d1, d2, d3, d4, d5] }
  | _ => none }
def swapTrueRow : OpenClaim := { program := "ytdmegkgjpgcfgaagreat", sum := "43ccc05c190613465b60028957840e94836f02f3a4615f5e15ed4d20a9d93a74", func := "wringing/wringinglaw07.SwapTrue", spec := "swapTrue", unfollowed := true, recurses := true, apart := false }
def SwapTrueSaid : Prop := swapTrueRow.holds Tryz.pinned (OpenSpec.ofChange swapTrueSpec)

/-- ITS FALSE NEIGHBOUR: 'it returns false'. Refute it at one input. -/
def swapTrueWrong : ChangeSpec := { name := "swapTrue", fn := fun _ => fun
  | [d1, d2, d3, d4, d5] => { results := [.lit (.bool false)], args := [d1, d2, d3, d4, d5] }
  | _ => none }
def SwapTrueWrongFalsely : Prop := swapTrueRow.holds Tryz.pinned (OpenSpec.ofChange swapTrueWrong)

/- THE SECOND FORM. 'bulk': how many values and letters a reading holds, each counted each time it is reached (what is shared counts as often as it is met; a slice's spare places count too). A statement '..UptoSaid' is the law's where the arguments, and the package variables that the reading takes, are together of bulk at most 1048576: NARROWER than '..Said'. Prove '..Said' where nothing that the law and all that it calls make is longer than what came in: it says more and counts as full. Else prove '..UptoSaid'. A law counts once. -/
mutual
def uptoBulk {H : Type} : DataW H → Nat
  | .lit (.string bytes) => bytes.length + 1
  | .lit _ => 1
  | .nil => 1
  | .ptr d => uptoBulk d + 1
  | .slice elems spare => uptoBulkAll elems + uptoBulkAll spare + 1
  | .agg parts => uptoBulkAll parts + 1
  | .iface _ d => uptoBulk d + 1
  | .map entries => uptoBulkEntries entries + 1
  | .held _ => 1
def uptoBulkAll {H : Type} : List (DataW H) → Nat
  | [] => 0
  | d :: r => uptoBulk d + uptoBulkAll r
def uptoBulkEntries {H : Type} : List (Lit × DataW H) → Nat
  | [] => 0
  | x :: r => uptoBulkEntry x + uptoBulkEntries r
def uptoBulkEntry {H : Type} : Lit × DataW H → Nat
  | (.string bytes, d) => bytes.length + uptoBulk d + 1
  | (_, d) => uptoBulk d + 1
 end
def uptoSmall : (H : Type) → List (DataW H) → Bool := fun _ ds => decide (uptoBulkAll ds ≤ 1048576)
def OpenSpec.upto (s : _root_.Go.ChangeSpec) : _root_.Go.OpenSpec := { _root_.Go.OpenSpec.ofChange s with cond := some uptoSmall }

/-- 'wringinglaw07.SwapExplains', WHERE WHAT IT READS IS OF BULK AT MOST 1048576: true; the input reads as it did. -/
def swapExplainsUptoRow : OpenClaim := { program := "ytdmegkgjpgcfgaagreat", sum := "43ccc05c190613465b60028957840e94836f02f3a4615f5e15ed4d20a9d93a74", func := "wringing/wringinglaw07.SwapExplains", spec := "swapExplains", unfollowed := true, recurses := true, apart := false, narrowed := true }
def SwapExplainsUptoSaid : Prop := swapExplainsUptoRow.holds Tryz.pinned (OpenSpec.upto swapExplainsSpec)

/-- 'wringinglaw07.SwapCores', WHERE WHAT IT READS IS OF BULK AT MOST 1048576: true; the input reads as it did. -/
def swapCoresUptoRow : OpenClaim := { program := "ytdmegkgjpgcfgaagreat", sum := "43ccc05c190613465b60028957840e94836f02f3a4615f5e15ed4d20a9d93a74", func := "wringing/wringinglaw07.SwapCores", spec := "swapCores", unfollowed := true, recurses := true, apart := false, narrowed := true }
def SwapCoresUptoSaid : Prop := swapCoresUptoRow.holds Tryz.pinned (OpenSpec.upto swapCoresSpec)

/-- 'wringinglaw07.SwapNames', WHERE WHAT IT READS IS OF BULK AT MOST 1048576: true; the input reads as it did. -/
def swapNamesUptoRow : OpenClaim := { program := "ytdmegkgjpgcfgaagreat", sum := "43ccc05c190613465b60028957840e94836f02f3a4615f5e15ed4d20a9d93a74", func := "wringing/wringinglaw07.SwapNames", spec := "swapNames", unfollowed := true, recurses := true, apart := false, narrowed := true }
def SwapNamesUptoSaid : Prop := swapNamesUptoRow.holds Tryz.pinned (OpenSpec.upto swapNamesSpec)

/-- 'wringinglaw07.SwapCoulds', WHERE WHAT IT READS IS OF BULK AT MOST 1048576: true; the input reads as it did. -/
def swapCouldsUptoRow : OpenClaim := { program := "ytdmegkgjpgcfgaagreat", sum := "43ccc05c190613465b60028957840e94836f02f3a4615f5e15ed4d20a9d93a74", func := "wringing/wringinglaw07.SwapCoulds", spec := "swapCoulds", unfollowed := true, recurses := true, apart := false, narrowed := true }
def SwapCouldsUptoSaid : Prop := swapCouldsUptoRow.holds Tryz.pinned (OpenSpec.upto swapCouldsSpec)

/-- 'wringinglaw07.SwapTwice', WHERE WHAT IT READS IS OF BULK AT MOST 1048576: true; the input reads as it did. -/
def swapTwiceUptoRow : OpenClaim := { program := "ytdmegkgjpgcfgaagreat", sum := "43ccc05c190613465b60028957840e94836f02f3a4615f5e15ed4d20a9d93a74", func := "wringing/wringinglaw07.SwapTwice", spec := "swapTwice", unfollowed := true, recurses := true, apart := false, narrowed := true }
def SwapTwiceUptoSaid : Prop := swapTwiceUptoRow.holds Tryz.pinned (OpenSpec.upto swapTwiceSpec)

/-- 'wringinglaw07.SwapWays', WHERE WHAT IT READS IS OF BULK AT MOST 1048576: true; the input reads as it did. -/
def swapWaysUptoRow : OpenClaim := { program := "ytdmegkgjpgcfgaagreat", sum := "43ccc05c190613465b60028957840e94836f02f3a4615f5e15ed4d20a9d93a74", func := "wringing/wringinglaw07.SwapWays", spec := "swapWays", unfollowed := true, recurses := true, apart := false, narrowed := true }
def SwapWaysUptoSaid : Prop := swapWaysUptoRow.holds Tryz.pinned (OpenSpec.upto swapWaysSpec)

/-- 'wringinglaw07.SwapBack', WHERE WHAT IT READS IS OF BULK AT MOST 1048576: true; the input reads as it did. -/
def swapBackUptoRow : OpenClaim := { program := "ytdmegkgjpgcfgaagreat", sum := "43ccc05c190613465b60028957840e94836f02f3a4615f5e15ed4d20a9d93a74", func := "wringing/wringinglaw07.SwapBack", spec := "swapBack", unfollowed := true, recurses := true, apart := false, narrowed := true }
def SwapBackUptoSaid : Prop := swapBackUptoRow.holds Tryz.pinned (OpenSpec.upto swapBackSpec)

/-- 'wringinglaw07.SwapFewer', WHERE WHAT IT READS IS OF BULK AT MOST 1048576: true; the input reads as it did. -/
def swapFewerUptoRow : OpenClaim := { program := "ytdmegkgjpgcfgaagreat", sum := "43ccc05c190613465b60028957840e94836f02f3a4615f5e15ed4d20a9d93a74", func := "wringing/wringinglaw07.SwapFewer", spec := "swapFewer", unfollowed := true, recurses := true, apart := false, narrowed := true }
def SwapFewerUptoSaid : Prop := swapFewerUptoRow.holds Tryz.pinned (OpenSpec.upto swapFewerSpec)

/-- 'wringinglaw07.SwapProofs', WHERE WHAT IT READS IS OF BULK AT MOST 1048576: true; the input reads as it did. -/
def swapProofsUptoRow : OpenClaim := { program := "ytdmegkgjpgcfgaagreat", sum := "43ccc05c190613465b60028957840e94836f02f3a4615f5e15ed4d20a9d93a74", func := "wringing/wringinglaw07.SwapProofs", spec := "swapProofs", unfollowed := true, recurses := true, apart := false, narrowed := true }
def SwapProofsUptoSaid : Prop := swapProofsUptoRow.holds Tryz.pinned (OpenSpec.upto swapProofsSpec)

/-- 'wringinglaw07.SwapExactly', WHERE WHAT IT READS IS OF BULK AT MOST 1048576: true; the input reads as it did. -/
def swapExactlyUptoRow : OpenClaim := { program := "ytdmegkgjpgcfgaagreat", sum := "43ccc05c190613465b60028957840e94836f02f3a4615f5e15ed4d20a9d93a74", func := "wringing/wringinglaw07.SwapExactly", spec := "swapExactly", unfollowed := true, recurses := true, apart := false, narrowed := true }
def SwapExactlyUptoSaid : Prop := swapExactlyUptoRow.holds Tryz.pinned (OpenSpec.upto swapExactlySpec)

/-- 'wringinglaw07.SwapEnds', WHERE WHAT IT READS IS OF BULK AT MOST 1048576: true; the input reads as it did. -/
def swapEndsUptoRow : OpenClaim := { program := "ytdmegkgjpgcfgaagreat", sum := "43ccc05c190613465b60028957840e94836f02f3a4615f5e15ed4d20a9d93a74", func := "wringing/wringinglaw07.SwapEnds", spec := "swapEnds", unfollowed := true, recurses := true, apart := false, narrowed := true }
def SwapEndsUptoSaid : Prop := swapEndsUptoRow.holds Tryz.pinned (OpenSpec.upto swapEndsSpec)

/-- 'wringinglaw07.SwapTrue', WHERE WHAT IT READS IS OF BULK AT MOST 1048576: true; the input reads as it did. -/
def swapTrueUptoRow : OpenClaim := { program := "ytdmegkgjpgcfgaagreat", sum := "43ccc05c190613465b60028957840e94836f02f3a4615f5e15ed4d20a9d93a74", func := "wringing/wringinglaw07.SwapTrue", spec := "swapTrue", unfollowed := true, recurses := true, apart := false, narrowed := true }
def SwapTrueUptoSaid : Prop := swapTrueUptoRow.holds Tryz.pinned (OpenSpec.upto swapTrueSpec)

end Rows
end Go.Proofs.YtdmegkgjpgcfgaaGreat
