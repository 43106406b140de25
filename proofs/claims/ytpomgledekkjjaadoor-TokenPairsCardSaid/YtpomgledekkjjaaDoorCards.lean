/-
  DERIVED. GIVEN WITH THE SEED: THE CARDS: each row of YtpomgledekkjjaaDoorRows.lean that lists a variable, with what it lists TIED to the program's text (the seventh form; the later family's looks); each row that meets fmt, with fmt's text TOLD by the authors' own Lean function (tested against real Go, not proved from fmt's source: count such statements apart). THE CARD IS WHAT COUNTS. Prove the row's statement (the work); the ties are given (YtpomgledekkjjaaDoorTie.lean); close each card by the builder's one call (the guide's Derived/Test/ToyasCard.lean, 'card_holds'). Laid BY PROGRAM, IN A SANDBOX (cutbox-door.mjs). By AI agents, Wed Nov 11 2026. No macro, syntax, notation, axiom, sorry.
-/
import Derived.Test.YtpomgledekkjjaaDoorRows
import GoSem.ClaimSeven
namespace Go.Proofs.YtpomgledekkjjaaDoor
namespace Rows

/-- THE TIED CARD OF 'mistlaw02.TokenPairs'. -/
def tokenPairsCard : Claim7 := { stood := { row := tokenPairsRow, standIns := [], harness := (true, "a1068231d1a1c1739dd6bb1150448691332b7b1f4e132dd42b04216dc083ce8d"), looks := false }, kinds := [], alts := [], laidByText := true, laidKinds := [.listed, .data], laidTests := true, laidLooks := .later }
def TokenPairsCardSaid : Prop := Claim7.holds Tryd.pinned (.plain (OpenSpec.ofChange tokenPairsSpec)) tokenPairsCard

/-- THE SECOND FORM's CARD OF 'mistlaw02.TokenPairs'. -/
def tokenPairsUptoCard : Claim7 := { stood := { row := tokenPairsUptoRow, standIns := [], harness := (true, "a1068231d1a1c1739dd6bb1150448691332b7b1f4e132dd42b04216dc083ce8d"), looks := false }, kinds := [], alts := [], laidByText := true, laidKinds := [.listed, .data], laidTests := true, laidLooks := .later }
def TokenPairsUptoCardSaid : Prop := Claim7.holds Tryd.pinned (.plain (OpenSpec.upto tokenPairsSpec)) tokenPairsUptoCard
end Rows
end Go.Proofs.YtpomgledekkjjaaDoor
