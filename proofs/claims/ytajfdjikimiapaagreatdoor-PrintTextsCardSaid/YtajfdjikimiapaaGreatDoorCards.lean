/-
  DERIVED. GIVEN WITH THE SEED: THE CARDS: each row of YtajfdjikimiapaaGreatDoorRows.lean that lists a variable, with what it lists TIED to the program's text (the seventh form; the later family's looks); each row that meets fmt, with fmt's text TOLD by the authors' own Lean function (tested against real Go, not proved from fmt's source: count such statements apart). THE CARD IS WHAT COUNTS. Prove the row's statement (the work); the ties are given (YtajfdjikimiapaaGreatDoorTie.lean); close each card by the builder's one call (the guide's Derived/Test/ToyasCard.lean, 'card_holds'). Laid BY PROGRAM, IN A SANDBOX (cutbox-door.mjs). By AI agents, Wed Nov 11 2026. No macro, syntax, notation, axiom, sorry.
-/
import Derived.Test.YtajfdjikimiapaaGreatDoorRows
import GoSem.ClaimSeven
namespace Go.Proofs.YtajfdjikimiapaaGreatDoor
namespace Rows

/-- THE TIED CARD OF 'mistlaw04.PrintFolds'. -/
def printFoldsCard : Claim7 := { stood := { row := printFoldsRow, standIns := [], harness := (true, "dced9aa2cef21ff1927132982bf1538a30495a84a459fedb6b2f37b78633f4a3"), looks := true }, kinds := [], alts := [], laidByText := true, laidKinds := [.data, .data, .data, .sentinel, .sentinel, .listed, .data], laidTests := true, laidLooks := .later }
def PrintFoldsCardSaid : Prop := Claim7.holds Tryz.pinned (.plain (OpenSpec.ofChange printFoldsSpec)) printFoldsCard

/-- THE TIED CARD OF 'mistlaw04.PrintTexts'. -/
def printTextsCard : Claim7 := { stood := { row := printTextsRow, standIns := [], harness := (true, "dced9aa2cef21ff1927132982bf1538a30495a84a459fedb6b2f37b78633f4a3"), looks := true }, kinds := [], alts := [], laidByText := true, laidKinds := [.data, .data, .data, .sentinel, .sentinel, .listed, .data], laidTests := true, laidLooks := .later }
def PrintTextsCardSaid : Prop := Claim7.holds Tryz.pinned (.plain (OpenSpec.ofChange printTextsSpec)) printTextsCard

/-- THE SECOND FORM's CARD OF 'mistlaw04.PrintFolds'. -/
def printFoldsUptoCard : Claim7 := { stood := { row := printFoldsUptoRow, standIns := [], harness := (true, "dced9aa2cef21ff1927132982bf1538a30495a84a459fedb6b2f37b78633f4a3"), looks := true }, kinds := [], alts := [], laidByText := true, laidKinds := [.data, .data, .data, .sentinel, .sentinel, .listed, .data], laidTests := true, laidLooks := .later }
def PrintFoldsUptoCardSaid : Prop := Claim7.holds Tryz.pinned (.plain (OpenSpec.upto printFoldsSpec)) printFoldsUptoCard

/-- THE SECOND FORM's CARD OF 'mistlaw04.PrintTexts'. -/
def printTextsUptoCard : Claim7 := { stood := { row := printTextsUptoRow, standIns := [], harness := (true, "dced9aa2cef21ff1927132982bf1538a30495a84a459fedb6b2f37b78633f4a3"), looks := true }, kinds := [], alts := [], laidByText := true, laidKinds := [.data, .data, .data, .sentinel, .sentinel, .listed, .data], laidTests := true, laidLooks := .later }
def PrintTextsUptoCardSaid : Prop := Claim7.holds Tryz.pinned (.plain (OpenSpec.upto printTextsSpec)) printTextsUptoCard
end Rows
end Go.Proofs.YtajfdjikimiapaaGreatDoor
