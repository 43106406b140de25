/-
  DERIVED. GIVEN WITH THE SEED: THE CARDS: each row of YtflnfhhgamldhaaGreatDoorRows.lean that lists a variable, with what it lists TIED to the program's text (the seventh form; the later family's looks); each row that meets fmt, with fmt's text TOLD by the authors' own Lean function (tested against real Go, not proved from fmt's source: count such statements apart). THE CARD IS WHAT COUNTS. Prove the row's statement (the work); the ties are given (YtflnfhhgamldhaaGreatDoorTie.lean); close each card by the builder's one call (the guide's Derived/Test/ToyasCard.lean, 'card_holds'). Laid BY PROGRAM, IN A SANDBOX (cutbox-door.mjs). By AI agents, Wed Nov 11 2026. No macro, syntax, notation, axiom, sorry.
-/
import Derived.Test.YtflnfhhgamldhaaGreatDoorRows
import GoSem.ClaimSeven
namespace Go.Proofs.YtflnfhhgamldhaaGreatDoor
namespace Rows

/-- THE TIED CARD OF 'mistlaw04.PrintSames'. -/
def printSamesCard : Claim7 := { stood := { row := printSamesRow, standIns := [], harness := (true, "1cae387ebe11c1817660773e374ac61a1c3a6f8f1899ab37724117e515e8dee4"), looks := true }, kinds := [], alts := [], laidByText := true, laidKinds := [.data, .data, .data, .sentinel, .sentinel, .listed, .data], laidTests := true, laidLooks := .later }
def PrintSamesCardSaid : Prop := Claim7.holds Tryz.pinned (.plain (OpenSpec.ofChange printSamesSpec)) printSamesCard

/-- THE SECOND FORM's CARD OF 'mistlaw04.PrintSames'. -/
def printSamesUptoCard : Claim7 := { stood := { row := printSamesUptoRow, standIns := [], harness := (true, "1cae387ebe11c1817660773e374ac61a1c3a6f8f1899ab37724117e515e8dee4"), looks := true }, kinds := [], alts := [], laidByText := true, laidKinds := [.data, .data, .data, .sentinel, .sentinel, .listed, .data], laidTests := true, laidLooks := .later }
def PrintSamesUptoCardSaid : Prop := Claim7.holds Tryz.pinned (.plain (OpenSpec.upto printSamesSpec)) printSamesUptoCard
end Rows
end Go.Proofs.YtflnfhhgamldhaaGreatDoor
