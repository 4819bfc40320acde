/-
  DERIVED. GIVEN WITH THE SEED: THE CARDS: each row of YthlebjnhcinheaaDoorRows.lean that lists a variable, with what it lists TIED to the program's text (the seventh form; the later family's looks); each row that meets fmt, with fmt's text TOLD by the authors' own Lean function (tested against real Go, not proved from fmt's source: count such statements apart). THE CARD IS WHAT COUNTS. Prove the row's statement (the work); the ties are given (YthlebjnhcinheaaDoorTie.lean); close each card by the builder's one call (the guide's Derived/Test/ToyasCard.lean, 'card_holds'). Laid BY PROGRAM, IN A SANDBOX (cutbox-door.mjs). By AI agents, Wed Nov 11 2026. No macro, syntax, notation, axiom, sorry.
-/
import Derived.Test.YthlebjnhcinheaaDoorRows
import GoSem.ClaimSeven
namespace Go.Proofs.YthlebjnhcinheaaDoor
namespace Rows

/-- THE TIED CARD OF 'deadwaxtop.TopTamed'. -/
def topTamedCard : Claim7 := { stood := { row := topTamedRow, standIns := [], harness := (true, "7bac6b45aa015728ca75af97eca7ff058d448c72b3d7b1e04a2f6c030b8771fd"), looks := false }, kinds := [], alts := [], laidByText := true, laidKinds := [.data, .pinned], laidTests := true, laidLooks := .later }
def TopTamedCardSaid : Prop := Claim7.holds Tryd.pinned (.plain (OpenSpec.ofChange topTamedSpec)) topTamedCard

/-- THE SECOND FORM's CARD OF 'deadwaxtop.TopTamed'. -/
def topTamedUptoCard : Claim7 := { stood := { row := topTamedUptoRow, standIns := [], harness := (true, "7bac6b45aa015728ca75af97eca7ff058d448c72b3d7b1e04a2f6c030b8771fd"), looks := false }, kinds := [], alts := [], laidByText := true, laidKinds := [.data, .pinned], laidTests := true, laidLooks := .later }
def TopTamedUptoCardSaid : Prop := Claim7.holds Tryd.pinned (.plain (OpenSpec.upto topTamedSpec)) topTamedUptoCard
end Rows
end Go.Proofs.YthlebjnhcinheaaDoor
