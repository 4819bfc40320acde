/-
  DERIVED. GIVEN WITH THE SEED: THE CARDS: each row of YteodcncppchhnaaGreatDoorRows.lean that lists a variable, with what it lists TIED to the program's text (the seventh form; the later family's looks); each row that meets fmt, with fmt's text TOLD by the authors' own Lean function (tested against real Go, not proved from fmt's source: count such statements apart). THE CARD IS WHAT COUNTS. Prove the row's statement (the work); the ties are given (YteodcncppchhnaaGreatDoorTie.lean); close each card by the builder's one call (the guide's Derived/Test/ToyasCard.lean, 'card_holds'). Laid BY PROGRAM, IN A SANDBOX (cutbox-door.mjs). By AI agents, Wed Nov 11 2026. No macro, syntax, notation, axiom, sorry.
-/
import Derived.Test.YteodcncppchhnaaGreatDoorRows
import GoSem.ClaimSeven
namespace Go.Proofs.YteodcncppchhnaaGreatDoor
namespace Rows

/-- THE TIED CARD OF 'deadwaxtop.TopFaces'. -/
def topFacesCard : Claim7 := { stood := { row := topFacesRow, standIns := [], harness := (true, "3b32bd40e5468bc1cf5889e540d55183ea09659f7b06c49bd15a25d559b69c53"), looks := false }, kinds := [], alts := [], laidByText := true, laidKinds := [.data, .data, .pinned], laidTests := true, laidLooks := .later }
def TopFacesCardSaid : Prop := Claim7.holds Tryz.pinned (.plain (OpenSpec.ofChange topFacesSpec)) topFacesCard

/-- THE SECOND FORM's CARD OF 'deadwaxtop.TopFaces'. -/
def topFacesUptoCard : Claim7 := { stood := { row := topFacesUptoRow, standIns := [], harness := (true, "3b32bd40e5468bc1cf5889e540d55183ea09659f7b06c49bd15a25d559b69c53"), looks := false }, kinds := [], alts := [], laidByText := true, laidKinds := [.data, .data, .pinned], laidTests := true, laidLooks := .later }
def TopFacesUptoCardSaid : Prop := Claim7.holds Tryz.pinned (.plain (OpenSpec.upto topFacesSpec)) topFacesUptoCard
end Rows
end Go.Proofs.YteodcncppchhnaaGreatDoor
