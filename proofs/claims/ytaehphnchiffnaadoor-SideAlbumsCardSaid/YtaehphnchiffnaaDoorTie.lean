/-
  DERIVED. GIVEN WITH THE SEED: THE PROGRAM's TIES (one call each: nine closed facts by the kernel) AND EACH ROW's TIE, after the 31st guide's Derived/Test/Toyas{Tie, Card}.lean. No idea stands in it: it is a product of the set-up. Laid BY PROGRAM, IN A SANDBOX (cutbox-door.mjs). By AI agents, Wed Nov 11 2026. No macro, syntax, notation, axiom, sorry.
-/
import Derived.Test.YtaehphnchiffnaaDoorRows
import Derived.LaidByTextLater
import Derived.SevenTiedAt
import Derived.LaidSub
import Derived.LaidOnce
namespace Go.Proofs.YtaehphnchiffnaaDoor
open Go
set_option maxRecDepth 100000
theorem seatTie1 : Tryd.prog.laidByTextLater [("deadwax/side.none", Rows.laid_deadwax_side_none), ("deadwax/side.known", Rows.laid_deadwax_side_known)] [.data, .data] true :=
  Program.laidByTextLater_by_one 22 8 25 (by kernel_rfl) (by kernel_rfl) (by kernel_rfl) (by kernel_rfl) (by kernel_rfl) (by kernel_rfl) (fun _ _ => by kernel_rfl)
theorem noOwnUnsafe : Tryd.pinned.checked.prog.headLifts.contains "ownunsafe" = false := by kernel_rfl
theorem tie : Tryd.prog.laidByTextLater [("deadwax/side.known", Rows.laid_deadwax_side_known)] [.data] true :=
  Program.laidByTextLater.sub seatTie1 ["deadwax/side.known"] (by kernel_rfl) (by kernel_rfl)
theorem sideForms_row_tie : Rows.sideFormsRow.laidByTextAt .later Tryd.pinned [.data] true :=
  OpenClaim.laidByTextAt_later rfl rfl tie noOwnUnsafe
theorem tie2 : Tryd.prog.laidByTextLater [("deadwax/side.none", Rows.laid_deadwax_side_none)] [.data] true :=
  Program.laidByTextLater.sub seatTie1 ["deadwax/side.none"] (by kernel_rfl) (by kernel_rfl)
theorem sideAlbums_row_tie : Rows.sideAlbumsRow.laidByTextAt .later Tryd.pinned [.data] true :=
  OpenClaim.laidByTextAt_later rfl rfl tie2 noOwnUnsafe
theorem sideCheaper_row_tie : Rows.sideCheaperRow.laidByTextAt .later Tryd.pinned [.data] true :=
  OpenClaim.laidByTextAt_later rfl rfl tie2 noOwnUnsafe
theorem sideMore_row_tie : Rows.sideMoreRow.laidByTextAt .later Tryd.pinned [.data] true :=
  OpenClaim.laidByTextAt_later rfl rfl tie2 noOwnUnsafe
theorem tie3 : Tryd.prog.laidByTextLater [("deadwax/side.none", Rows.laid_deadwax_side_none), ("deadwax/side.known", Rows.laid_deadwax_side_known)] [.data, .data] true :=
  Program.laidByTextLater.sub seatTie1 ["deadwax/side.none", "deadwax/side.known"] (by kernel_rfl) (by kernel_rfl)
theorem sideExamples_row_tie : Rows.sideExamplesRow.laidByTextAt .later Tryd.pinned [.data, .data] true :=
  OpenClaim.laidByTextAt_later rfl rfl tie3 noOwnUnsafe
theorem sideFormsUpto_row_tie : Rows.sideFormsUptoRow.laidByTextAt .later Tryd.pinned [.data] true :=
  OpenClaim.laidByTextAt_later rfl rfl tie noOwnUnsafe
theorem sideAlbumsUpto_row_tie : Rows.sideAlbumsUptoRow.laidByTextAt .later Tryd.pinned [.data] true :=
  OpenClaim.laidByTextAt_later rfl rfl tie2 noOwnUnsafe
theorem sideCheaperUpto_row_tie : Rows.sideCheaperUptoRow.laidByTextAt .later Tryd.pinned [.data] true :=
  OpenClaim.laidByTextAt_later rfl rfl tie2 noOwnUnsafe
theorem sideMoreUpto_row_tie : Rows.sideMoreUptoRow.laidByTextAt .later Tryd.pinned [.data] true :=
  OpenClaim.laidByTextAt_later rfl rfl tie2 noOwnUnsafe
theorem sideExamplesUpto_row_tie : Rows.sideExamplesUptoRow.laidByTextAt .later Tryd.pinned [.data, .data] true :=
  OpenClaim.laidByTextAt_later rfl rfl tie3 noOwnUnsafe
end Go.Proofs.YtaehphnchiffnaaDoor
