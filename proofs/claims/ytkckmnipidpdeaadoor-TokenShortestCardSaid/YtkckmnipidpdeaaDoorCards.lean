/-
  DERIVED. GIVEN WITH THE SEED: THE CARDS: each row of YtkckmnipidpdeaaDoorRows.lean that lists a variable, with what it lists TIED to the program's text (the seventh form; the later family's looks); each row that meets fmt, with fmt's text TOLD by the authors' own Lean function (tested against real Go, not proved from fmt's source: count such statements apart). THE CARD IS WHAT COUNTS. Prove the row's statement (the work); the ties are given (YtkckmnipidpdeaaDoorTie.lean); close each card by the builder's one call (the guide's Derived/Test/ToyasCard.lean, 'card_holds'). Laid BY PROGRAM, IN A SANDBOX (cutbox-door.mjs). By AI agents, Wed Nov 11 2026. No macro, syntax, notation, axiom, sorry.
-/
import Derived.Test.YtkckmnipidpdeaaDoorRows
import GoSem.ClaimSeven
namespace Go.Proofs.YtkckmnipidpdeaaDoor
namespace Rows

/-- THE TIED CARD OF 'mistlaw02.TokenReads'. -/
def tokenReadsCard : Claim7 := { stood := { row := tokenReadsRow, standIns := [], harness := (true, "29c40ae2b209cd264dca89519d0cdf020e0f5c9318416cd46bba1de4762b25fd"), looks := true }, kinds := [], alts := [], laidByText := true, laidKinds := [.listed, .data], laidTests := true, laidLooks := .later }
def TokenReadsCardSaid : Prop := Claim7.holds Tryd.pinned (.plain (OpenSpec.ofChange tokenReadsSpec)) tokenReadsCard

/-- THE TIED CARD OF 'mistlaw02.TokenGlues'. -/
def tokenGluesCard : Claim7 := { stood := { row := tokenGluesRow, standIns := [], harness := (true, "29c40ae2b209cd264dca89519d0cdf020e0f5c9318416cd46bba1de4762b25fd"), looks := true }, kinds := [], alts := [], laidByText := true, laidKinds := [.listed, .data], laidTests := true, laidLooks := .later }
def TokenGluesCardSaid : Prop := Claim7.holds Tryd.pinned (.plain (OpenSpec.ofChange tokenGluesSpec)) tokenGluesCard

/-- THE TIED CARD OF 'mistlaw02.TokenMatches'. -/
def tokenMatchesCard : Claim7 := { stood := { row := tokenMatchesRow, standIns := [], harness := (true, "29c40ae2b209cd264dca89519d0cdf020e0f5c9318416cd46bba1de4762b25fd"), looks := true }, kinds := [], alts := [], laidByText := true, laidKinds := [.listed, .data], laidTests := true, laidLooks := .later }
def TokenMatchesCardSaid : Prop := Claim7.holds Tryd.pinned (.plain (OpenSpec.ofChange tokenMatchesSpec)) tokenMatchesCard

/-- THE TIED CARD OF 'mistlaw02.TokenPlaces'. -/
def tokenPlacesCard : Claim7 := { stood := { row := tokenPlacesRow, standIns := [], harness := (true, "29c40ae2b209cd264dca89519d0cdf020e0f5c9318416cd46bba1de4762b25fd"), looks := true }, kinds := [], alts := [], laidByText := true, laidKinds := [.listed, .data], laidTests := true, laidLooks := .later }
def TokenPlacesCardSaid : Prop := Claim7.holds Tryd.pinned (.plain (OpenSpec.ofChange tokenPlacesSpec)) tokenPlacesCard

/-- THE TIED CARD OF 'mistlaw02.TokenShortest'. -/
def tokenShortestCard : Claim7 := { stood := { row := tokenShortestRow, standIns := [], harness := (true, "29c40ae2b209cd264dca89519d0cdf020e0f5c9318416cd46bba1de4762b25fd"), looks := true }, kinds := [], alts := [], laidByText := true, laidKinds := [.listed, .data], laidTests := true, laidLooks := .later }
def TokenShortestCardSaid : Prop := Claim7.holds Tryd.pinned (.plain (OpenSpec.ofChange tokenShortestSpec)) tokenShortestCard

/-- THE TIED CARD OF 'mistlaw02.TokenPairs'. -/
def tokenPairsCard : Claim7 := { stood := { row := tokenPairsRow, standIns := [], harness := (true, "29c40ae2b209cd264dca89519d0cdf020e0f5c9318416cd46bba1de4762b25fd"), looks := true }, kinds := [], alts := [], laidByText := true, laidKinds := [.listed, .data], laidTests := true, laidLooks := .later }
def TokenPairsCardSaid : Prop := Claim7.holds Tryd.pinned (.plain (OpenSpec.ofChange tokenPairsSpec)) tokenPairsCard

/-- THE TIED CARD OF 'mistlaw02.TokenTexts'. -/
def tokenTextsCard : Claim7 := { stood := { row := tokenTextsRow, standIns := [], harness := (true, "29c40ae2b209cd264dca89519d0cdf020e0f5c9318416cd46bba1de4762b25fd"), looks := true }, kinds := [], alts := [], laidByText := true, laidKinds := [.listed, .data], laidTests := true, laidLooks := .later }
def TokenTextsCardSaid : Prop := Claim7.holds Tryd.pinned (.plain (OpenSpec.ofChange tokenTextsSpec)) tokenTextsCard

/-- THE TIED CARD OF 'mistlaw02.TokenSames'. -/
def tokenSamesCard : Claim7 := { stood := { row := tokenSamesRow, standIns := [], harness := (true, "29c40ae2b209cd264dca89519d0cdf020e0f5c9318416cd46bba1de4762b25fd"), looks := true }, kinds := [], alts := [], laidByText := true, laidKinds := [.listed, .data], laidTests := true, laidLooks := .later }
def TokenSamesCardSaid : Prop := Claim7.holds Tryd.pinned (.plain (OpenSpec.ofChange tokenSamesSpec)) tokenSamesCard

/-- THE TIED CARD OF 'mistlaw02.TokenGaps'. -/
def tokenGapsCard : Claim7 := { stood := { row := tokenGapsRow, standIns := [], harness := (true, "29c40ae2b209cd264dca89519d0cdf020e0f5c9318416cd46bba1de4762b25fd"), looks := true }, kinds := [], alts := [], laidByText := true, laidKinds := [.listed, .data], laidTests := true, laidLooks := .later }
def TokenGapsCardSaid : Prop := Claim7.holds Tryd.pinned (.plain (OpenSpec.ofChange tokenGapsSpec)) tokenGapsCard

/-- THE TIED CARD OF 'mistlaw02.TokenAgain'. -/
def tokenAgainCard : Claim7 := { stood := { row := tokenAgainRow, standIns := [], harness := (true, "29c40ae2b209cd264dca89519d0cdf020e0f5c9318416cd46bba1de4762b25fd"), looks := true }, kinds := [], alts := [], laidByText := true, laidKinds := [.listed, .data], laidTests := true, laidLooks := .later }
def TokenAgainCardSaid : Prop := Claim7.holds Tryd.pinned (.plain (OpenSpec.ofChange tokenAgainSpec)) tokenAgainCard

/-- THE TIED CARD OF 'mistlaw02.TokenKinds'. -/
def tokenKindsCard : Claim7 := { stood := { row := tokenKindsRow, standIns := [], harness := (true, "29c40ae2b209cd264dca89519d0cdf020e0f5c9318416cd46bba1de4762b25fd"), looks := true }, kinds := [], alts := [], laidByText := true, laidKinds := [.data, .data, .data, .sentinel, .sentinel, .listed, .data], laidTests := true, laidLooks := .later }
def TokenKindsCardSaid : Prop := Claim7.holds Tryd.pinned (.plain (OpenSpec.ofChange tokenKindsSpec)) tokenKindsCard

/-- THE SECOND FORM's CARD OF 'mistlaw02.TokenReads'. -/
def tokenReadsUptoCard : Claim7 := { stood := { row := tokenReadsUptoRow, standIns := [], harness := (true, "29c40ae2b209cd264dca89519d0cdf020e0f5c9318416cd46bba1de4762b25fd"), looks := true }, kinds := [], alts := [], laidByText := true, laidKinds := [.listed, .data], laidTests := true, laidLooks := .later }
def TokenReadsUptoCardSaid : Prop := Claim7.holds Tryd.pinned (.plain (OpenSpec.upto tokenReadsSpec)) tokenReadsUptoCard

/-- THE SECOND FORM's CARD OF 'mistlaw02.TokenGlues'. -/
def tokenGluesUptoCard : Claim7 := { stood := { row := tokenGluesUptoRow, standIns := [], harness := (true, "29c40ae2b209cd264dca89519d0cdf020e0f5c9318416cd46bba1de4762b25fd"), looks := true }, kinds := [], alts := [], laidByText := true, laidKinds := [.listed, .data], laidTests := true, laidLooks := .later }
def TokenGluesUptoCardSaid : Prop := Claim7.holds Tryd.pinned (.plain (OpenSpec.upto tokenGluesSpec)) tokenGluesUptoCard

/-- THE SECOND FORM's CARD OF 'mistlaw02.TokenMatches'. -/
def tokenMatchesUptoCard : Claim7 := { stood := { row := tokenMatchesUptoRow, standIns := [], harness := (true, "29c40ae2b209cd264dca89519d0cdf020e0f5c9318416cd46bba1de4762b25fd"), looks := true }, kinds := [], alts := [], laidByText := true, laidKinds := [.listed, .data], laidTests := true, laidLooks := .later }
def TokenMatchesUptoCardSaid : Prop := Claim7.holds Tryd.pinned (.plain (OpenSpec.upto tokenMatchesSpec)) tokenMatchesUptoCard

/-- THE SECOND FORM's CARD OF 'mistlaw02.TokenPlaces'. -/
def tokenPlacesUptoCard : Claim7 := { stood := { row := tokenPlacesUptoRow, standIns := [], harness := (true, "29c40ae2b209cd264dca89519d0cdf020e0f5c9318416cd46bba1de4762b25fd"), looks := true }, kinds := [], alts := [], laidByText := true, laidKinds := [.listed, .data], laidTests := true, laidLooks := .later }
def TokenPlacesUptoCardSaid : Prop := Claim7.holds Tryd.pinned (.plain (OpenSpec.upto tokenPlacesSpec)) tokenPlacesUptoCard

/-- THE SECOND FORM's CARD OF 'mistlaw02.TokenShortest'. -/
def tokenShortestUptoCard : Claim7 := { stood := { row := tokenShortestUptoRow, standIns := [], harness := (true, "29c40ae2b209cd264dca89519d0cdf020e0f5c9318416cd46bba1de4762b25fd"), looks := true }, kinds := [], alts := [], laidByText := true, laidKinds := [.listed, .data], laidTests := true, laidLooks := .later }
def TokenShortestUptoCardSaid : Prop := Claim7.holds Tryd.pinned (.plain (OpenSpec.upto tokenShortestSpec)) tokenShortestUptoCard

/-- THE SECOND FORM's CARD OF 'mistlaw02.TokenPairs'. -/
def tokenPairsUptoCard : Claim7 := { stood := { row := tokenPairsUptoRow, standIns := [], harness := (true, "29c40ae2b209cd264dca89519d0cdf020e0f5c9318416cd46bba1de4762b25fd"), looks := true }, kinds := [], alts := [], laidByText := true, laidKinds := [.listed, .data], laidTests := true, laidLooks := .later }
def TokenPairsUptoCardSaid : Prop := Claim7.holds Tryd.pinned (.plain (OpenSpec.upto tokenPairsSpec)) tokenPairsUptoCard

/-- THE SECOND FORM's CARD OF 'mistlaw02.TokenTexts'. -/
def tokenTextsUptoCard : Claim7 := { stood := { row := tokenTextsUptoRow, standIns := [], harness := (true, "29c40ae2b209cd264dca89519d0cdf020e0f5c9318416cd46bba1de4762b25fd"), looks := true }, kinds := [], alts := [], laidByText := true, laidKinds := [.listed, .data], laidTests := true, laidLooks := .later }
def TokenTextsUptoCardSaid : Prop := Claim7.holds Tryd.pinned (.plain (OpenSpec.upto tokenTextsSpec)) tokenTextsUptoCard

/-- THE SECOND FORM's CARD OF 'mistlaw02.TokenSames'. -/
def tokenSamesUptoCard : Claim7 := { stood := { row := tokenSamesUptoRow, standIns := [], harness := (true, "29c40ae2b209cd264dca89519d0cdf020e0f5c9318416cd46bba1de4762b25fd"), looks := true }, kinds := [], alts := [], laidByText := true, laidKinds := [.listed, .data], laidTests := true, laidLooks := .later }
def TokenSamesUptoCardSaid : Prop := Claim7.holds Tryd.pinned (.plain (OpenSpec.upto tokenSamesSpec)) tokenSamesUptoCard

/-- THE SECOND FORM's CARD OF 'mistlaw02.TokenGaps'. -/
def tokenGapsUptoCard : Claim7 := { stood := { row := tokenGapsUptoRow, standIns := [], harness := (true, "29c40ae2b209cd264dca89519d0cdf020e0f5c9318416cd46bba1de4762b25fd"), looks := true }, kinds := [], alts := [], laidByText := true, laidKinds := [.listed, .data], laidTests := true, laidLooks := .later }
def TokenGapsUptoCardSaid : Prop := Claim7.holds Tryd.pinned (.plain (OpenSpec.upto tokenGapsSpec)) tokenGapsUptoCard

/-- THE SECOND FORM's CARD OF 'mistlaw02.TokenAgain'. -/
def tokenAgainUptoCard : Claim7 := { stood := { row := tokenAgainUptoRow, standIns := [], harness := (true, "29c40ae2b209cd264dca89519d0cdf020e0f5c9318416cd46bba1de4762b25fd"), looks := true }, kinds := [], alts := [], laidByText := true, laidKinds := [.listed, .data], laidTests := true, laidLooks := .later }
def TokenAgainUptoCardSaid : Prop := Claim7.holds Tryd.pinned (.plain (OpenSpec.upto tokenAgainSpec)) tokenAgainUptoCard

/-- THE SECOND FORM's CARD OF 'mistlaw02.TokenKinds'. -/
def tokenKindsUptoCard : Claim7 := { stood := { row := tokenKindsUptoRow, standIns := [], harness := (true, "29c40ae2b209cd264dca89519d0cdf020e0f5c9318416cd46bba1de4762b25fd"), looks := true }, kinds := [], alts := [], laidByText := true, laidKinds := [.data, .data, .data, .sentinel, .sentinel, .listed, .data], laidTests := true, laidLooks := .later }
def TokenKindsUptoCardSaid : Prop := Claim7.holds Tryd.pinned (.plain (OpenSpec.upto tokenKindsSpec)) tokenKindsUptoCard
end Rows
end Go.Proofs.YtkckmnipidpdeaaDoor
