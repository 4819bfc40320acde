import Derived.Test.YtaehphnchiffnaaDoorRows
import Derived.ProofKit
import Derived.JoinedOf
import Derived.SevenTiedAt
namespace Go.Proofs.YtaehphnchiffnaaDoor
open Go
set_option maxRecDepth 100000
theorem sideCheaper_k10 : (Rows.sideCheaperRow.inPlace == Tryd.prog.inPlace 5) = true := by kernel_rfl
theorem sideCheaper_k11 : (Rows.sideCheaperRow.unfollowed == Tryd.prog.unfollowed 5) = true := by kernel_rfl
theorem sideCheaper_k12 : (Rows.sideCheaperRow.recurses == Tryd.prog.recurses 5) = true := by kernel_rfl
theorem sideCheaper_goes : false = Rows.sideCheaperRow.goesBy Tryd.prog := by kernel_rfl
theorem sideCheaper_k13 : (Rows.sideCheaperRow.named == Tryd.prog.varsNamed 5) = true := by kernel_rfl
end Go.Proofs.YtaehphnchiffnaaDoor
