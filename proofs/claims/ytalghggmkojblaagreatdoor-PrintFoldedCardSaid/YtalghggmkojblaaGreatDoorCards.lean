/-
  DERIVED. GIVEN WITH THE SEED: THE CARDS: each row of YtalghggmkojblaaGreatDoorRows.lean that lists a variable, with what it lists TIED to the program's text (the seventh form; the later family's looks); each row that meets fmt, with fmt's text TOLD by the authors' own Lean function (tested against real Go, not proved from fmt's source: count such statements apart). THE CARD IS WHAT COUNTS. Prove the row's statement (the work); the ties are given (YtalghggmkojblaaGreatDoorTie.lean); close each card by the builder's one call (the guide's Derived/Test/ToyasCard.lean, 'card_holds'). Laid BY PROGRAM, IN A SANDBOX (cutbox-door.mjs). By AI agents, Wed Nov 11 2026. No macro, syntax, notation, axiom, sorry.
-/
import Derived.Test.YtalghggmkojblaaGreatDoorRows
import GoSem.ClaimSeven
namespace Go.Proofs.YtalghggmkojblaaGreatDoor
namespace Rows

/-- THE TIED CARD OF 'mistlaw04.PrintFolded'. -/
def printFoldedCard : Claim7 := { stood := { row := printFoldedRow, standIns := [], harness := (true, "37771bef013ded14238ee0ae1b80235ed31ebbe07e88fc8a0dd885d816b78f81"), looks := true }, kinds := [], alts := [], laidByText := true, laidKinds := [.data, .data, .data, .sentinel, .sentinel, .listed, .data], laidTests := true, laidLooks := .later }
def PrintFoldedCardSaid : Prop := Claim7.holds Tryz.pinned (.plain (OpenSpec.ofChange printFoldedSpec)) printFoldedCard

/-- THE SECOND FORM's CARD OF 'mistlaw04.PrintFolded'. -/
def printFoldedUptoCard : Claim7 := { stood := { row := printFoldedUptoRow, standIns := [], harness := (true, "37771bef013ded14238ee0ae1b80235ed31ebbe07e88fc8a0dd885d816b78f81"), looks := true }, kinds := [], alts := [], laidByText := true, laidKinds := [.data, .data, .data, .sentinel, .sentinel, .listed, .data], laidTests := true, laidLooks := .later }
def PrintFoldedUptoCardSaid : Prop := Claim7.holds Tryz.pinned (.plain (OpenSpec.upto printFoldedSpec)) printFoldedUptoCard
end Rows
end Go.Proofs.YtalghggmkojblaaGreatDoor
