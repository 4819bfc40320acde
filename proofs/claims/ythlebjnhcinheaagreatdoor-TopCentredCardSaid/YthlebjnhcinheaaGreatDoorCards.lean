/-
  DERIVED. GIVEN WITH THE SEED: THE CARDS: each row of YthlebjnhcinheaaGreatDoorRows.lean that lists a variable, with what it lists TIED to the program's text (the seventh form; the later family's looks); each row that meets fmt, with fmt's text TOLD by the authors' own Lean function (tested against real Go, not proved from fmt's source: count such statements apart). THE CARD IS WHAT COUNTS. Prove the row's statement (the work); the ties are given (YthlebjnhcinheaaGreatDoorTie.lean); close each card by the builder's one call (the guide's Derived/Test/ToyasCard.lean, 'card_holds'). Laid BY PROGRAM, IN A SANDBOX (cutbox-door.mjs). By AI agents, Wed Nov 11 2026. No macro, syntax, notation, axiom, sorry.
-/
import Derived.Test.YthlebjnhcinheaaGreatDoorRows
import GoSem.ClaimSeven
namespace Go.Proofs.YthlebjnhcinheaaGreatDoor
namespace Rows

/-- THE TIED CARD OF 'deadwaxtop.TopRound'. -/
def topRoundCard : Claim7 := { stood := { row := topRoundRow, standIns := [], harness := (true, "278b544c7bbe029d8ca56c1be111aef23cacbc8ad750aa12770f0ccc0a1e2e7b"), looks := true }, kinds := [], alts := [], laidByText := true, laidKinds := [.data, .pinned], laidTests := true, laidLooks := .later }
def TopRoundCardSaid : Prop := Claim7.holds Tryz.pinned (.plain (OpenSpec.ofChange topRoundSpec)) topRoundCard

/-- THE TIED CARD OF 'deadwaxtop.TopHalves'. -/
def topHalvesCard : Claim7 := { stood := { row := topHalvesRow, standIns := [], harness := (true, "278b544c7bbe029d8ca56c1be111aef23cacbc8ad750aa12770f0ccc0a1e2e7b"), looks := true }, kinds := [], alts := [], laidByText := true, laidKinds := [.data, .pinned], laidTests := true, laidLooks := .later }
def TopHalvesCardSaid : Prop := Claim7.holds Tryz.pinned (.plain (OpenSpec.ofChange topHalvesSpec)) topHalvesCard

/-- THE TIED CARD OF 'deadwaxtop.TopPeaks'. -/
def topPeaksCard : Claim7 := { stood := { row := topPeaksRow, standIns := [], harness := (true, "278b544c7bbe029d8ca56c1be111aef23cacbc8ad750aa12770f0ccc0a1e2e7b"), looks := true }, kinds := [], alts := [], laidByText := true, laidKinds := [.data, .pinned], laidTests := true, laidLooks := .later }
def TopPeaksCardSaid : Prop := Claim7.holds Tryz.pinned (.plain (OpenSpec.ofChange topPeaksSpec)) topPeaksCard

/-- THE TIED CARD OF 'deadwaxtop.TopEdges'. -/
def topEdgesCard : Claim7 := { stood := { row := topEdgesRow, standIns := [], harness := (true, "278b544c7bbe029d8ca56c1be111aef23cacbc8ad750aa12770f0ccc0a1e2e7b"), looks := true }, kinds := [], alts := [], laidByText := true, laidKinds := [.data, .pinned], laidTests := true, laidLooks := .later }
def TopEdgesCardSaid : Prop := Claim7.holds Tryz.pinned (.plain (OpenSpec.ofChange topEdgesSpec)) topEdgesCard

/-- THE TIED CARD OF 'deadwaxtop.TopSilent'. -/
def topSilentCard : Claim7 := { stood := { row := topSilentRow, standIns := [], harness := (true, "278b544c7bbe029d8ca56c1be111aef23cacbc8ad750aa12770f0ccc0a1e2e7b"), looks := true }, kinds := [], alts := [], laidByText := true, laidKinds := [.data, .pinned], laidTests := true, laidLooks := .later }
def TopSilentCardSaid : Prop := Claim7.holds Tryz.pinned (.plain (OpenSpec.ofChange topSilentSpec)) topSilentCard

/-- THE TIED CARD OF 'deadwaxtop.TopSided'. -/
def topSidedCard : Claim7 := { stood := { row := topSidedRow, standIns := [], harness := (true, "278b544c7bbe029d8ca56c1be111aef23cacbc8ad750aa12770f0ccc0a1e2e7b"), looks := true }, kinds := [], alts := [], laidByText := true, laidKinds := [.data, .pinned], laidTests := true, laidLooks := .later }
def TopSidedCardSaid : Prop := Claim7.holds Tryz.pinned (.plain (OpenSpec.ofChange topSidedSpec)) topSidedCard

/-- THE TIED CARD OF 'deadwaxtop.TopLimited'. -/
def topLimitedCard : Claim7 := { stood := { row := topLimitedRow, standIns := [], harness := (true, "278b544c7bbe029d8ca56c1be111aef23cacbc8ad750aa12770f0ccc0a1e2e7b"), looks := true }, kinds := [], alts := [], laidByText := true, laidKinds := [.data, .pinned], laidTests := true, laidLooks := .later }
def TopLimitedCardSaid : Prop := Claim7.holds Tryz.pinned (.plain (OpenSpec.ofChange topLimitedSpec)) topLimitedCard

/-- THE TIED CARD OF 'deadwaxtop.TopCovered'. -/
def topCoveredCard : Claim7 := { stood := { row := topCoveredRow, standIns := [], harness := (true, "278b544c7bbe029d8ca56c1be111aef23cacbc8ad750aa12770f0ccc0a1e2e7b"), looks := true }, kinds := [], alts := [], laidByText := true, laidKinds := [.data, .pinned], laidTests := true, laidLooks := .later }
def TopCoveredCardSaid : Prop := Claim7.holds Tryz.pinned (.plain (OpenSpec.ofChange topCoveredSpec)) topCoveredCard

/-- THE TIED CARD OF 'deadwaxtop.TopArranged'. -/
def topArrangedCard : Claim7 := { stood := { row := topArrangedRow, standIns := [], harness := (true, "278b544c7bbe029d8ca56c1be111aef23cacbc8ad750aa12770f0ccc0a1e2e7b"), looks := true }, kinds := [], alts := [], laidByText := true, laidKinds := [.data, .pinned], laidTests := true, laidLooks := .later }
def TopArrangedCardSaid : Prop := Claim7.holds Tryz.pinned (.plain (OpenSpec.ofChange topArrangedSpec)) topArrangedCard

/-- THE TIED CARD OF 'deadwaxtop.TopMatched'. -/
def topMatchedCard : Claim7 := { stood := { row := topMatchedRow, standIns := [], harness := (true, "278b544c7bbe029d8ca56c1be111aef23cacbc8ad750aa12770f0ccc0a1e2e7b"), looks := true }, kinds := [], alts := [], laidByText := true, laidKinds := [.data, .pinned], laidTests := true, laidLooks := .later }
def TopMatchedCardSaid : Prop := Claim7.holds Tryz.pinned (.plain (OpenSpec.ofChange topMatchedSpec)) topMatchedCard

/-- THE TIED CARD OF 'deadwaxtop.TopFaces'. -/
def topFacesCard : Claim7 := { stood := { row := topFacesRow, standIns := [], harness := (true, "278b544c7bbe029d8ca56c1be111aef23cacbc8ad750aa12770f0ccc0a1e2e7b"), looks := true }, kinds := [], alts := [], laidByText := true, laidKinds := [.data, .data, .pinned], laidTests := true, laidLooks := .later }
def TopFacesCardSaid : Prop := Claim7.holds Tryz.pinned (.plain (OpenSpec.ofChange topFacesSpec)) topFacesCard

/-- THE TIED CARD OF 'deadwaxtop.TopVertical'. -/
def topVerticalCard : Claim7 := { stood := { row := topVerticalRow, standIns := [], harness := (true, "278b544c7bbe029d8ca56c1be111aef23cacbc8ad750aa12770f0ccc0a1e2e7b"), looks := true }, kinds := [], alts := [], laidByText := true, laidKinds := [.data, .pinned], laidTests := true, laidLooks := .later }
def TopVerticalCardSaid : Prop := Claim7.holds Tryz.pinned (.plain (OpenSpec.ofChange topVerticalSpec)) topVerticalCard

/-- THE TIED CARD OF 'deadwaxtop.TopCone'. -/
def topConeCard : Claim7 := { stood := { row := topConeRow, standIns := [], harness := (true, "278b544c7bbe029d8ca56c1be111aef23cacbc8ad750aa12770f0ccc0a1e2e7b"), looks := true }, kinds := [], alts := [], laidByText := true, laidKinds := [.data, .pinned], laidTests := true, laidLooks := .later }
def TopConeCardSaid : Prop := Claim7.holds Tryz.pinned (.plain (OpenSpec.ofChange topConeSpec)) topConeCard

/-- THE TIED CARD OF 'deadwaxtop.TopVariable'. -/
def topVariableCard : Claim7 := { stood := { row := topVariableRow, standIns := [], harness := (true, "278b544c7bbe029d8ca56c1be111aef23cacbc8ad750aa12770f0ccc0a1e2e7b"), looks := true }, kinds := [], alts := [], laidByText := true, laidKinds := [.data, .pinned], laidTests := true, laidLooks := .later }
def TopVariableCardSaid : Prop := Claim7.holds Tryz.pinned (.plain (OpenSpec.ofChange topVariableSpec)) topVariableCard

/-- THE TIED CARD OF 'deadwaxtop.TopPitched'. -/
def topPitchedCard : Claim7 := { stood := { row := topPitchedRow, standIns := [], harness := (true, "278b544c7bbe029d8ca56c1be111aef23cacbc8ad750aa12770f0ccc0a1e2e7b"), looks := true }, kinds := [], alts := [], laidByText := true, laidKinds := [.data, .pinned], laidTests := true, laidLooks := .later }
def TopPitchedCardSaid : Prop := Claim7.holds Tryz.pinned (.plain (OpenSpec.ofChange topPitchedSpec)) topPitchedCard

/-- THE TIED CARD OF 'deadwaxtop.TopCeiled'. -/
def topCeiledCard : Claim7 := { stood := { row := topCeiledRow, standIns := [], harness := (true, "278b544c7bbe029d8ca56c1be111aef23cacbc8ad750aa12770f0ccc0a1e2e7b"), looks := true }, kinds := [], alts := [], laidByText := true, laidKinds := [.data, .pinned], laidTests := true, laidLooks := .later }
def TopCeiledCardSaid : Prop := Claim7.holds Tryz.pinned (.plain (OpenSpec.ofChange topCeiledSpec)) topCeiledCard

/-- THE TIED CARD OF 'deadwaxtop.TopSpared'. -/
def topSparedCard : Claim7 := { stood := { row := topSparedRow, standIns := [], harness := (true, "278b544c7bbe029d8ca56c1be111aef23cacbc8ad750aa12770f0ccc0a1e2e7b"), looks := true }, kinds := [], alts := [], laidByText := true, laidKinds := [.data, .pinned], laidTests := true, laidLooks := .later }
def TopSparedCardSaid : Prop := Claim7.holds Tryz.pinned (.plain (OpenSpec.ofChange topSparedSpec)) topSparedCard

/-- THE TIED CARD OF 'deadwaxtop.TopCentred'. -/
def topCentredCard : Claim7 := { stood := { row := topCentredRow, standIns := [], harness := (true, "278b544c7bbe029d8ca56c1be111aef23cacbc8ad750aa12770f0ccc0a1e2e7b"), looks := true }, kinds := [], alts := [], laidByText := true, laidKinds := [.data, .pinned], laidTests := true, laidLooks := .later }
def TopCentredCardSaid : Prop := Claim7.holds Tryz.pinned (.plain (OpenSpec.ofChange topCentredSpec)) topCentredCard

/-- THE TIED CARD OF 'deadwaxtop.TopOwned'. -/
def topOwnedCard : Claim7 := { stood := { row := topOwnedRow, standIns := [], harness := (true, "278b544c7bbe029d8ca56c1be111aef23cacbc8ad750aa12770f0ccc0a1e2e7b"), looks := true }, kinds := [], alts := [], laidByText := true, laidKinds := [.data, .pinned], laidTests := true, laidLooks := .later }
def TopOwnedCardSaid : Prop := Claim7.holds Tryz.pinned (.plain (OpenSpec.ofChange topOwnedSpec)) topOwnedCard

/-- THE SECOND FORM's CARD OF 'deadwaxtop.TopRound'. -/
def topRoundUptoCard : Claim7 := { stood := { row := topRoundUptoRow, standIns := [], harness := (true, "278b544c7bbe029d8ca56c1be111aef23cacbc8ad750aa12770f0ccc0a1e2e7b"), looks := true }, kinds := [], alts := [], laidByText := true, laidKinds := [.data, .pinned], laidTests := true, laidLooks := .later }
def TopRoundUptoCardSaid : Prop := Claim7.holds Tryz.pinned (.plain (OpenSpec.upto topRoundSpec)) topRoundUptoCard

/-- THE SECOND FORM's CARD OF 'deadwaxtop.TopHalves'. -/
def topHalvesUptoCard : Claim7 := { stood := { row := topHalvesUptoRow, standIns := [], harness := (true, "278b544c7bbe029d8ca56c1be111aef23cacbc8ad750aa12770f0ccc0a1e2e7b"), looks := true }, kinds := [], alts := [], laidByText := true, laidKinds := [.data, .pinned], laidTests := true, laidLooks := .later }
def TopHalvesUptoCardSaid : Prop := Claim7.holds Tryz.pinned (.plain (OpenSpec.upto topHalvesSpec)) topHalvesUptoCard

/-- THE SECOND FORM's CARD OF 'deadwaxtop.TopPeaks'. -/
def topPeaksUptoCard : Claim7 := { stood := { row := topPeaksUptoRow, standIns := [], harness := (true, "278b544c7bbe029d8ca56c1be111aef23cacbc8ad750aa12770f0ccc0a1e2e7b"), looks := true }, kinds := [], alts := [], laidByText := true, laidKinds := [.data, .pinned], laidTests := true, laidLooks := .later }
def TopPeaksUptoCardSaid : Prop := Claim7.holds Tryz.pinned (.plain (OpenSpec.upto topPeaksSpec)) topPeaksUptoCard

/-- THE SECOND FORM's CARD OF 'deadwaxtop.TopEdges'. -/
def topEdgesUptoCard : Claim7 := { stood := { row := topEdgesUptoRow, standIns := [], harness := (true, "278b544c7bbe029d8ca56c1be111aef23cacbc8ad750aa12770f0ccc0a1e2e7b"), looks := true }, kinds := [], alts := [], laidByText := true, laidKinds := [.data, .pinned], laidTests := true, laidLooks := .later }
def TopEdgesUptoCardSaid : Prop := Claim7.holds Tryz.pinned (.plain (OpenSpec.upto topEdgesSpec)) topEdgesUptoCard

/-- THE SECOND FORM's CARD OF 'deadwaxtop.TopSilent'. -/
def topSilentUptoCard : Claim7 := { stood := { row := topSilentUptoRow, standIns := [], harness := (true, "278b544c7bbe029d8ca56c1be111aef23cacbc8ad750aa12770f0ccc0a1e2e7b"), looks := true }, kinds := [], alts := [], laidByText := true, laidKinds := [.data, .pinned], laidTests := true, laidLooks := .later }
def TopSilentUptoCardSaid : Prop := Claim7.holds Tryz.pinned (.plain (OpenSpec.upto topSilentSpec)) topSilentUptoCard

/-- THE SECOND FORM's CARD OF 'deadwaxtop.TopSided'. -/
def topSidedUptoCard : Claim7 := { stood := { row := topSidedUptoRow, standIns := [], harness := (true, "278b544c7bbe029d8ca56c1be111aef23cacbc8ad750aa12770f0ccc0a1e2e7b"), looks := true }, kinds := [], alts := [], laidByText := true, laidKinds := [.data, .pinned], laidTests := true, laidLooks := .later }
def TopSidedUptoCardSaid : Prop := Claim7.holds Tryz.pinned (.plain (OpenSpec.upto topSidedSpec)) topSidedUptoCard

/-- THE SECOND FORM's CARD OF 'deadwaxtop.TopLimited'. -/
def topLimitedUptoCard : Claim7 := { stood := { row := topLimitedUptoRow, standIns := [], harness := (true, "278b544c7bbe029d8ca56c1be111aef23cacbc8ad750aa12770f0ccc0a1e2e7b"), looks := true }, kinds := [], alts := [], laidByText := true, laidKinds := [.data, .pinned], laidTests := true, laidLooks := .later }
def TopLimitedUptoCardSaid : Prop := Claim7.holds Tryz.pinned (.plain (OpenSpec.upto topLimitedSpec)) topLimitedUptoCard

/-- THE SECOND FORM's CARD OF 'deadwaxtop.TopCovered'. -/
def topCoveredUptoCard : Claim7 := { stood := { row := topCoveredUptoRow, standIns := [], harness := (true, "278b544c7bbe029d8ca56c1be111aef23cacbc8ad750aa12770f0ccc0a1e2e7b"), looks := true }, kinds := [], alts := [], laidByText := true, laidKinds := [.data, .pinned], laidTests := true, laidLooks := .later }
def TopCoveredUptoCardSaid : Prop := Claim7.holds Tryz.pinned (.plain (OpenSpec.upto topCoveredSpec)) topCoveredUptoCard

/-- THE SECOND FORM's CARD OF 'deadwaxtop.TopArranged'. -/
def topArrangedUptoCard : Claim7 := { stood := { row := topArrangedUptoRow, standIns := [], harness := (true, "278b544c7bbe029d8ca56c1be111aef23cacbc8ad750aa12770f0ccc0a1e2e7b"), looks := true }, kinds := [], alts := [], laidByText := true, laidKinds := [.data, .pinned], laidTests := true, laidLooks := .later }
def TopArrangedUptoCardSaid : Prop := Claim7.holds Tryz.pinned (.plain (OpenSpec.upto topArrangedSpec)) topArrangedUptoCard

/-- THE SECOND FORM's CARD OF 'deadwaxtop.TopMatched'. -/
def topMatchedUptoCard : Claim7 := { stood := { row := topMatchedUptoRow, standIns := [], harness := (true, "278b544c7bbe029d8ca56c1be111aef23cacbc8ad750aa12770f0ccc0a1e2e7b"), looks := true }, kinds := [], alts := [], laidByText := true, laidKinds := [.data, .pinned], laidTests := true, laidLooks := .later }
def TopMatchedUptoCardSaid : Prop := Claim7.holds Tryz.pinned (.plain (OpenSpec.upto topMatchedSpec)) topMatchedUptoCard

/-- THE SECOND FORM's CARD OF 'deadwaxtop.TopFaces'. -/
def topFacesUptoCard : Claim7 := { stood := { row := topFacesUptoRow, standIns := [], harness := (true, "278b544c7bbe029d8ca56c1be111aef23cacbc8ad750aa12770f0ccc0a1e2e7b"), looks := true }, kinds := [], alts := [], laidByText := true, laidKinds := [.data, .data, .pinned], laidTests := true, laidLooks := .later }
def TopFacesUptoCardSaid : Prop := Claim7.holds Tryz.pinned (.plain (OpenSpec.upto topFacesSpec)) topFacesUptoCard

/-- THE SECOND FORM's CARD OF 'deadwaxtop.TopVertical'. -/
def topVerticalUptoCard : Claim7 := { stood := { row := topVerticalUptoRow, standIns := [], harness := (true, "278b544c7bbe029d8ca56c1be111aef23cacbc8ad750aa12770f0ccc0a1e2e7b"), looks := true }, kinds := [], alts := [], laidByText := true, laidKinds := [.data, .pinned], laidTests := true, laidLooks := .later }
def TopVerticalUptoCardSaid : Prop := Claim7.holds Tryz.pinned (.plain (OpenSpec.upto topVerticalSpec)) topVerticalUptoCard

/-- THE SECOND FORM's CARD OF 'deadwaxtop.TopCone'. -/
def topConeUptoCard : Claim7 := { stood := { row := topConeUptoRow, standIns := [], harness := (true, "278b544c7bbe029d8ca56c1be111aef23cacbc8ad750aa12770f0ccc0a1e2e7b"), looks := true }, kinds := [], alts := [], laidByText := true, laidKinds := [.data, .pinned], laidTests := true, laidLooks := .later }
def TopConeUptoCardSaid : Prop := Claim7.holds Tryz.pinned (.plain (OpenSpec.upto topConeSpec)) topConeUptoCard

/-- THE SECOND FORM's CARD OF 'deadwaxtop.TopVariable'. -/
def topVariableUptoCard : Claim7 := { stood := { row := topVariableUptoRow, standIns := [], harness := (true, "278b544c7bbe029d8ca56c1be111aef23cacbc8ad750aa12770f0ccc0a1e2e7b"), looks := true }, kinds := [], alts := [], laidByText := true, laidKinds := [.data, .pinned], laidTests := true, laidLooks := .later }
def TopVariableUptoCardSaid : Prop := Claim7.holds Tryz.pinned (.plain (OpenSpec.upto topVariableSpec)) topVariableUptoCard

/-- THE SECOND FORM's CARD OF 'deadwaxtop.TopPitched'. -/
def topPitchedUptoCard : Claim7 := { stood := { row := topPitchedUptoRow, standIns := [], harness := (true, "278b544c7bbe029d8ca56c1be111aef23cacbc8ad750aa12770f0ccc0a1e2e7b"), looks := true }, kinds := [], alts := [], laidByText := true, laidKinds := [.data, .pinned], laidTests := true, laidLooks := .later }
def TopPitchedUptoCardSaid : Prop := Claim7.holds Tryz.pinned (.plain (OpenSpec.upto topPitchedSpec)) topPitchedUptoCard

/-- THE SECOND FORM's CARD OF 'deadwaxtop.TopCeiled'. -/
def topCeiledUptoCard : Claim7 := { stood := { row := topCeiledUptoRow, standIns := [], harness := (true, "278b544c7bbe029d8ca56c1be111aef23cacbc8ad750aa12770f0ccc0a1e2e7b"), looks := true }, kinds := [], alts := [], laidByText := true, laidKinds := [.data, .pinned], laidTests := true, laidLooks := .later }
def TopCeiledUptoCardSaid : Prop := Claim7.holds Tryz.pinned (.plain (OpenSpec.upto topCeiledSpec)) topCeiledUptoCard

/-- THE SECOND FORM's CARD OF 'deadwaxtop.TopSpared'. -/
def topSparedUptoCard : Claim7 := { stood := { row := topSparedUptoRow, standIns := [], harness := (true, "278b544c7bbe029d8ca56c1be111aef23cacbc8ad750aa12770f0ccc0a1e2e7b"), looks := true }, kinds := [], alts := [], laidByText := true, laidKinds := [.data, .pinned], laidTests := true, laidLooks := .later }
def TopSparedUptoCardSaid : Prop := Claim7.holds Tryz.pinned (.plain (OpenSpec.upto topSparedSpec)) topSparedUptoCard

/-- THE SECOND FORM's CARD OF 'deadwaxtop.TopCentred'. -/
def topCentredUptoCard : Claim7 := { stood := { row := topCentredUptoRow, standIns := [], harness := (true, "278b544c7bbe029d8ca56c1be111aef23cacbc8ad750aa12770f0ccc0a1e2e7b"), looks := true }, kinds := [], alts := [], laidByText := true, laidKinds := [.data, .pinned], laidTests := true, laidLooks := .later }
def TopCentredUptoCardSaid : Prop := Claim7.holds Tryz.pinned (.plain (OpenSpec.upto topCentredSpec)) topCentredUptoCard

/-- THE SECOND FORM's CARD OF 'deadwaxtop.TopOwned'. -/
def topOwnedUptoCard : Claim7 := { stood := { row := topOwnedUptoRow, standIns := [], harness := (true, "278b544c7bbe029d8ca56c1be111aef23cacbc8ad750aa12770f0ccc0a1e2e7b"), looks := true }, kinds := [], alts := [], laidByText := true, laidKinds := [.data, .pinned], laidTests := true, laidLooks := .later }
def TopOwnedUptoCardSaid : Prop := Claim7.holds Tryz.pinned (.plain (OpenSpec.upto topOwnedSpec)) topOwnedUptoCard
end Rows
end Go.Proofs.YthlebjnhcinheaaGreatDoor
