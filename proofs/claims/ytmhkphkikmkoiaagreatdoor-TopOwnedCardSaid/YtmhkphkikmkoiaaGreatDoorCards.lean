/-
  DERIVED. GIVEN WITH THE SEED: THE CARDS: each row of YtmhkphkikmkoiaaGreatDoorRows.lean that lists a variable, with what it lists TIED to the program's text (the seventh form; the later family's looks); each row that meets fmt, with fmt's text TOLD by the authors' own Lean function (tested against real Go, not proved from fmt's source: count such statements apart). THE CARD IS WHAT COUNTS. Prove the row's statement (the work); the ties are given (YtmhkphkikmkoiaaGreatDoorTie.lean); close each card by the builder's one call (the guide's Derived/Test/ToyasCard.lean, 'card_holds'). Laid BY PROGRAM, IN A SANDBOX (cutbox-door.mjs). By AI agents, Wed Nov 11 2026. No macro, syntax, notation, axiom, sorry.
-/
import Derived.Test.YtmhkphkikmkoiaaGreatDoorRows
import GoSem.ClaimSeven
namespace Go.Proofs.YtmhkphkikmkoiaaGreatDoor
namespace Rows

/-- THE TIED CARD OF 'deadwaxtop.TopOwned'. -/
def topOwnedCard : Claim7 := { stood := { row := topOwnedRow, standIns := [], harness := (true, "bce495ca22c372b06ea214a551b299737a8c39773db9f7fb94327ee21409b7b6"), looks := true }, kinds := [], alts := [], laidByText := true, laidKinds := [.data, .pinned], laidTests := true, laidLooks := .later }
def TopOwnedCardSaid : Prop := Claim7.holds Tryz.pinned (.plain (OpenSpec.ofChange topOwnedSpec)) topOwnedCard

/-- THE SECOND FORM's CARD OF 'deadwaxtop.TopOwned'. -/
def topOwnedUptoCard : Claim7 := { stood := { row := topOwnedUptoRow, standIns := [], harness := (true, "bce495ca22c372b06ea214a551b299737a8c39773db9f7fb94327ee21409b7b6"), looks := true }, kinds := [], alts := [], laidByText := true, laidKinds := [.data, .pinned], laidTests := true, laidLooks := .later }
def TopOwnedUptoCardSaid : Prop := Claim7.holds Tryz.pinned (.plain (OpenSpec.upto topOwnedSpec)) topOwnedUptoCard
end Rows
end Go.Proofs.YtmhkphkikmkoiaaGreatDoor
