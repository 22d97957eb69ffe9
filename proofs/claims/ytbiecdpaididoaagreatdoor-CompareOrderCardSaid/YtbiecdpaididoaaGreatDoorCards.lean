/-
  DERIVED. GIVEN WITH THE SEED: THE CARDS: each row of YtbiecdpaididoaaGreatDoorRows.lean that lists a variable, with what it lists TIED to the program's text (the seventh form; the later family's looks); each row that meets fmt, with fmt's text TOLD by the authors' own Lean function (tested against real Go, not proved from fmt's source: count such statements apart). THE CARD IS WHAT COUNTS. Prove the row's statement (the work); the ties are given (YtbiecdpaididoaaGreatDoorTie.lean); close each card by the builder's one call (the guide's Derived/Test/ToyasCard.lean, 'card_holds'). Laid BY PROGRAM, IN A SANDBOX (cutbox-door.mjs). By AI agents, Wed Nov 11 2026. No macro, syntax, notation, axiom, sorry.
-/
import Derived.Test.YtbiecdpaididoaaGreatDoorRows
import GoSem.ClaimSeven
namespace Go.Proofs.YtbiecdpaididoaaGreatDoor
namespace Rows

/-- THE TIED CARD OF 'wringinglaw05.CompareText'. -/
def compareTextCard : Claim7 := { stood := { row := compareTextRow, standIns := [], harness := (true, "6ed313a471a186d1386a34123be5993a08b7f853c2a8e07ddd9a3fb7eef4e817"), looks := true }, kinds := [], alts := [], laidByText := true, laidKinds := [.data, .data, .data, .data, .sentinel, .sentinel, .pinned], laidTests := true, laidLooks := .later }
def CompareTextCardSaid : Prop := Claim7.holds Tryz.pinned (.plain (OpenSpec.ofChange compareTextSpec)) compareTextCard

/-- THE TIED CARD OF 'wringinglaw05.CompareOrder'. -/
def compareOrderCard : Claim7 := { stood := { row := compareOrderRow, standIns := [], harness := (true, "6ed313a471a186d1386a34123be5993a08b7f853c2a8e07ddd9a3fb7eef4e817"), looks := true }, kinds := [], alts := [], laidByText := true, laidKinds := [.data, .data, .data, .data, .sentinel, .sentinel, .pinned], laidTests := true, laidLooks := .later }
def CompareOrderCardSaid : Prop := Claim7.holds Tryz.pinned (.plain (OpenSpec.ofChange compareOrderSpec)) compareOrderCard

/-- THE SECOND FORM's CARD OF 'wringinglaw05.CompareText'. -/
def compareTextUptoCard : Claim7 := { stood := { row := compareTextUptoRow, standIns := [], harness := (true, "6ed313a471a186d1386a34123be5993a08b7f853c2a8e07ddd9a3fb7eef4e817"), looks := true }, kinds := [], alts := [], laidByText := true, laidKinds := [.data, .data, .data, .data, .sentinel, .sentinel, .pinned], laidTests := true, laidLooks := .later }
def CompareTextUptoCardSaid : Prop := Claim7.holds Tryz.pinned (.plain (OpenSpec.upto compareTextSpec)) compareTextUptoCard

/-- THE SECOND FORM's CARD OF 'wringinglaw05.CompareOrder'. -/
def compareOrderUptoCard : Claim7 := { stood := { row := compareOrderUptoRow, standIns := [], harness := (true, "6ed313a471a186d1386a34123be5993a08b7f853c2a8e07ddd9a3fb7eef4e817"), looks := true }, kinds := [], alts := [], laidByText := true, laidKinds := [.data, .data, .data, .data, .sentinel, .sentinel, .pinned], laidTests := true, laidLooks := .later }
def CompareOrderUptoCardSaid : Prop := Claim7.holds Tryz.pinned (.plain (OpenSpec.upto compareOrderSpec)) compareOrderUptoCard
end Rows
end Go.Proofs.YtbiecdpaididoaaGreatDoor
