/-
  DERIVED. GIVEN WITH THE SEED: THE CARDS: each row of YtaehphnchiffnaaDoorRows.lean that lists a variable, with what it lists TIED to the program's text (the seventh form; the later family's looks); each row that meets fmt, with fmt's text TOLD by the authors' own Lean function (tested against real Go, not proved from fmt's source: count such statements apart). THE CARD IS WHAT COUNTS. Prove the row's statement (the work); the ties are given (YtaehphnchiffnaaDoorTie.lean); close each card by the builder's one call (the guide's Derived/Test/ToyasCard.lean, 'card_holds'). Laid BY PROGRAM, IN A SANDBOX (cutbox-door.mjs). By AI agents, Wed Nov 11 2026. No macro, syntax, notation, axiom, sorry.
-/
import Derived.Test.YtaehphnchiffnaaDoorRows
import GoSem.ClaimSeven
namespace Go.Proofs.YtaehphnchiffnaaDoor
namespace Rows

/-- THE TIED CARD OF 'deadwaxlaw04.SideForms'. -/
def sideFormsCard : Claim7 := { stood := { row := sideFormsRow, standIns := [], harness := (true, "6dc2daffb95c571ead266799d4087aa6ac5d3a56204d49d6a8d298ab455f389b"), looks := false }, kinds := [], alts := [], laidByText := true, laidKinds := [.data], laidTests := true, laidLooks := .later }
def SideFormsCardSaid : Prop := Claim7.holds Tryd.pinned (.plain (OpenSpec.ofChange sideFormsSpec)) sideFormsCard

/-- THE TIED CARD OF 'deadwaxlaw04.SideAlbums'. -/
def sideAlbumsCard : Claim7 := { stood := { row := sideAlbumsRow, standIns := [], harness := (true, "6dc2daffb95c571ead266799d4087aa6ac5d3a56204d49d6a8d298ab455f389b"), looks := false }, kinds := [], alts := [], laidByText := true, laidKinds := [.data], laidTests := true, laidLooks := .later }
def SideAlbumsCardSaid : Prop := Claim7.holds Tryd.pinned (.plain (OpenSpec.ofChange sideAlbumsSpec)) sideAlbumsCard

/-- THE TIED CARD OF 'deadwaxlaw04.SideCheaper'. -/
def sideCheaperCard : Claim7 := { stood := { row := sideCheaperRow, standIns := [], harness := (true, "6dc2daffb95c571ead266799d4087aa6ac5d3a56204d49d6a8d298ab455f389b"), looks := false }, kinds := [], alts := [], laidByText := true, laidKinds := [.data], laidTests := true, laidLooks := .later }
def SideCheaperCardSaid : Prop := Claim7.holds Tryd.pinned (.plain (OpenSpec.ofChange sideCheaperSpec)) sideCheaperCard

/-- THE TIED CARD OF 'deadwaxlaw04.SideMore'. -/
def sideMoreCard : Claim7 := { stood := { row := sideMoreRow, standIns := [], harness := (true, "6dc2daffb95c571ead266799d4087aa6ac5d3a56204d49d6a8d298ab455f389b"), looks := false }, kinds := [], alts := [], laidByText := true, laidKinds := [.data], laidTests := true, laidLooks := .later }
def SideMoreCardSaid : Prop := Claim7.holds Tryd.pinned (.plain (OpenSpec.ofChange sideMoreSpec)) sideMoreCard

/-- THE TIED CARD OF 'deadwaxlaw04.SideExamples'. -/
def sideExamplesCard : Claim7 := { stood := { row := sideExamplesRow, standIns := [], harness := (true, "6dc2daffb95c571ead266799d4087aa6ac5d3a56204d49d6a8d298ab455f389b"), looks := false }, kinds := [], alts := [], laidByText := true, laidKinds := [.data, .data], laidTests := true, laidLooks := .later }
def SideExamplesCardSaid : Prop := Claim7.holds Tryd.pinned (.plain (OpenSpec.ofChange sideExamplesSpec)) sideExamplesCard

/-- THE SECOND FORM's CARD OF 'deadwaxlaw04.SideForms'. -/
def sideFormsUptoCard : Claim7 := { stood := { row := sideFormsUptoRow, standIns := [], harness := (true, "6dc2daffb95c571ead266799d4087aa6ac5d3a56204d49d6a8d298ab455f389b"), looks := false }, kinds := [], alts := [], laidByText := true, laidKinds := [.data], laidTests := true, laidLooks := .later }
def SideFormsUptoCardSaid : Prop := Claim7.holds Tryd.pinned (.plain (OpenSpec.upto sideFormsSpec)) sideFormsUptoCard

/-- THE SECOND FORM's CARD OF 'deadwaxlaw04.SideAlbums'. -/
def sideAlbumsUptoCard : Claim7 := { stood := { row := sideAlbumsUptoRow, standIns := [], harness := (true, "6dc2daffb95c571ead266799d4087aa6ac5d3a56204d49d6a8d298ab455f389b"), looks := false }, kinds := [], alts := [], laidByText := true, laidKinds := [.data], laidTests := true, laidLooks := .later }
def SideAlbumsUptoCardSaid : Prop := Claim7.holds Tryd.pinned (.plain (OpenSpec.upto sideAlbumsSpec)) sideAlbumsUptoCard

/-- THE SECOND FORM's CARD OF 'deadwaxlaw04.SideCheaper'. -/
def sideCheaperUptoCard : Claim7 := { stood := { row := sideCheaperUptoRow, standIns := [], harness := (true, "6dc2daffb95c571ead266799d4087aa6ac5d3a56204d49d6a8d298ab455f389b"), looks := false }, kinds := [], alts := [], laidByText := true, laidKinds := [.data], laidTests := true, laidLooks := .later }
def SideCheaperUptoCardSaid : Prop := Claim7.holds Tryd.pinned (.plain (OpenSpec.upto sideCheaperSpec)) sideCheaperUptoCard

/-- THE SECOND FORM's CARD OF 'deadwaxlaw04.SideMore'. -/
def sideMoreUptoCard : Claim7 := { stood := { row := sideMoreUptoRow, standIns := [], harness := (true, "6dc2daffb95c571ead266799d4087aa6ac5d3a56204d49d6a8d298ab455f389b"), looks := false }, kinds := [], alts := [], laidByText := true, laidKinds := [.data], laidTests := true, laidLooks := .later }
def SideMoreUptoCardSaid : Prop := Claim7.holds Tryd.pinned (.plain (OpenSpec.upto sideMoreSpec)) sideMoreUptoCard

/-- THE SECOND FORM's CARD OF 'deadwaxlaw04.SideExamples'. -/
def sideExamplesUptoCard : Claim7 := { stood := { row := sideExamplesUptoRow, standIns := [], harness := (true, "6dc2daffb95c571ead266799d4087aa6ac5d3a56204d49d6a8d298ab455f389b"), looks := false }, kinds := [], alts := [], laidByText := true, laidKinds := [.data, .data], laidTests := true, laidLooks := .later }
def SideExamplesUptoCardSaid : Prop := Claim7.holds Tryd.pinned (.plain (OpenSpec.upto sideExamplesSpec)) sideExamplesUptoCard
end Rows
end Go.Proofs.YtaehphnchiffnaaDoor
