/-
  DERIVED. GIVEN WITH THE SEED: THE CARDS: each row of YtjlkjopcjcbooaaGreatDoorRows.lean that lists a variable, with what it lists TIED to the program's text (the seventh form; the later family's looks); each row that meets fmt, with fmt's text TOLD by the authors' own Lean function (tested against real Go, not proved from fmt's source: count such statements apart). THE CARD IS WHAT COUNTS. Prove the row's statement (the work); the ties are given (YtjlkjopcjcbooaaGreatDoorTie.lean); close each card by the builder's one call (the guide's Derived/Test/ToyasCard.lean, 'card_holds'). Laid BY PROGRAM, IN A SANDBOX (cutbox-door.mjs). By AI agents, Wed Nov 11 2026. No macro, syntax, notation, axiom, sorry.
-/
import Derived.Test.YtjlkjopcjcbooaaGreatDoorRows
import GoSem.ClaimSeven
namespace Go.Proofs.YtjlkjopcjcbooaaGreatDoor
namespace Rows

/-- THE TIED CARD OF 'wringinglaw06.SharpTexts'. -/
def sharpTextsCard : Claim7 := { stood := { row := sharpTextsRow, standIns := [], harness := (true, "d47a9a06ce3ea45cb49eb6e1f0ec544a2da683d5c5bdc777758b37419a7d9f0c"), looks := true }, kinds := [], alts := [], laidByText := true, laidKinds := [.data, .data, .data, .data, .sentinel, .sentinel, .pinned], laidTests := true, laidLooks := .later }
def SharpTextsCardSaid : Prop := Claim7.holds Tryz.pinned (.plain (OpenSpec.ofChange sharpTextsSpec)) sharpTextsCard

/-- THE TIED CARD OF 'wringinglaw06.SharpOwn'. -/
def sharpOwnCard : Claim7 := { stood := { row := sharpOwnRow, standIns := [], harness := (true, "d47a9a06ce3ea45cb49eb6e1f0ec544a2da683d5c5bdc777758b37419a7d9f0c"), looks := true }, kinds := [], alts := [], laidByText := true, laidKinds := [.data, .data, .data, .data, .sentinel, .sentinel, .pinned], laidTests := true, laidLooks := .later }
def SharpOwnCardSaid : Prop := Claim7.holds Tryz.pinned (.plain (OpenSpec.ofChange sharpOwnSpec)) sharpOwnCard

/-- THE SECOND FORM's CARD OF 'wringinglaw06.SharpTexts'. -/
def sharpTextsUptoCard : Claim7 := { stood := { row := sharpTextsUptoRow, standIns := [], harness := (true, "d47a9a06ce3ea45cb49eb6e1f0ec544a2da683d5c5bdc777758b37419a7d9f0c"), looks := true }, kinds := [], alts := [], laidByText := true, laidKinds := [.data, .data, .data, .data, .sentinel, .sentinel, .pinned], laidTests := true, laidLooks := .later }
def SharpTextsUptoCardSaid : Prop := Claim7.holds Tryz.pinned (.plain (OpenSpec.upto sharpTextsSpec)) sharpTextsUptoCard

/-- THE SECOND FORM's CARD OF 'wringinglaw06.SharpOwn'. -/
def sharpOwnUptoCard : Claim7 := { stood := { row := sharpOwnUptoRow, standIns := [], harness := (true, "d47a9a06ce3ea45cb49eb6e1f0ec544a2da683d5c5bdc777758b37419a7d9f0c"), looks := true }, kinds := [], alts := [], laidByText := true, laidKinds := [.data, .data, .data, .data, .sentinel, .sentinel, .pinned], laidTests := true, laidLooks := .later }
def SharpOwnUptoCardSaid : Prop := Claim7.holds Tryz.pinned (.plain (OpenSpec.upto sharpOwnSpec)) sharpOwnUptoCard
end Rows
end Go.Proofs.YtjlkjopcjcbooaaGreatDoor
