/-
  DERIVED. GIVEN WITH THE SEED: THE CARDS: each row of YtanjeafjkgllhaaGreatDoorRows.lean that lists a variable, with what it lists TIED to the program's text (the seventh form; the later family's looks); each row that meets fmt, with fmt's text TOLD by the authors' own Lean function (tested against real Go, not proved from fmt's source: count such statements apart). THE CARD IS WHAT COUNTS. Prove the row's statement (the work); the ties are given (YtanjeafjkgllhaaGreatDoorTie.lean); close each card by the builder's one call (the guide's Derived/Test/ToyasCard.lean, 'card_holds'). Laid BY PROGRAM, IN A SANDBOX (cutbox-door.mjs). By AI agents, Wed Nov 11 2026. No macro, syntax, notation, axiom, sorry.
-/
import Derived.Test.YtanjeafjkgllhaaGreatDoorRows
import GoSem.ClaimSeven
namespace Go.Proofs.YtanjeafjkgllhaaGreatDoor
namespace Rows

/-- THE TIED CARD OF 'wringinglaw07.SwapSure'. -/
def swapSureCard : Claim7 := { stood := { row := swapSureRow, standIns := [], harness := (true, "a322407bbec2c52dd8585b2839ece4323855433d98fd003dc01f5574be5c36bb"), looks := true }, kinds := [], alts := [], laidByText := true, laidKinds := [.data, .data, .data, .data, .sentinel, .sentinel, .pinned], laidTests := true, laidLooks := .later }
def SwapSureCardSaid : Prop := Claim7.holds Tryz.pinned (.plain (OpenSpec.ofChange swapSureSpec)) swapSureCard

/-- THE TIED CARD OF 'wringinglaw07.SwapCases'. -/
def swapCasesCard : Claim7 := { stood := { row := swapCasesRow, standIns := [], harness := (true, "a322407bbec2c52dd8585b2839ece4323855433d98fd003dc01f5574be5c36bb"), looks := true }, kinds := [], alts := [], laidByText := true, laidKinds := [.data, .data, .data, .data, .sentinel, .sentinel, .pinned], laidTests := true, laidLooks := .later }
def SwapCasesCardSaid : Prop := Claim7.holds Tryz.pinned (.plain (OpenSpec.ofChange swapCasesSpec)) swapCasesCard

/-- THE SECOND FORM's CARD OF 'wringinglaw07.SwapSure'. -/
def swapSureUptoCard : Claim7 := { stood := { row := swapSureUptoRow, standIns := [], harness := (true, "a322407bbec2c52dd8585b2839ece4323855433d98fd003dc01f5574be5c36bb"), looks := true }, kinds := [], alts := [], laidByText := true, laidKinds := [.data, .data, .data, .data, .sentinel, .sentinel, .pinned], laidTests := true, laidLooks := .later }
def SwapSureUptoCardSaid : Prop := Claim7.holds Tryz.pinned (.plain (OpenSpec.upto swapSureSpec)) swapSureUptoCard

/-- THE SECOND FORM's CARD OF 'wringinglaw07.SwapCases'. -/
def swapCasesUptoCard : Claim7 := { stood := { row := swapCasesUptoRow, standIns := [], harness := (true, "a322407bbec2c52dd8585b2839ece4323855433d98fd003dc01f5574be5c36bb"), looks := true }, kinds := [], alts := [], laidByText := true, laidKinds := [.data, .data, .data, .data, .sentinel, .sentinel, .pinned], laidTests := true, laidLooks := .later }
def SwapCasesUptoCardSaid : Prop := Claim7.holds Tryz.pinned (.plain (OpenSpec.upto swapCasesSpec)) swapCasesUptoCard
end Rows
end Go.Proofs.YtanjeafjkgllhaaGreatDoor
