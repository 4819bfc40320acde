import Derived.Test.YthlebjnhcinheaaGreatDoorRows
import Derived.ProofKit
import Derived.JoinedOf
import Derived.SevenTiedAt
namespace Go.Proofs.YthlebjnhcinheaaGreatDoor
open Go
set_option maxRecDepth 100000
theorem topPeaks_k10 : (Rows.topPeaksRow.inPlace == Tryz.prog.inPlace 5) = true := by kernel_rfl
theorem topPeaks_k11 : (Rows.topPeaksRow.unfollowed == Tryz.prog.unfollowed 5) = true := by kernel_rfl
theorem topPeaks_k12 : (Rows.topPeaksRow.recurses == Tryz.prog.recurses 5) = true := by kernel_rfl
theorem topPeaks_goes : false = Rows.topPeaksRow.goesBy Tryz.prog := by kernel_rfl
theorem topPeaks_k13 : (Rows.topPeaksRow.named == Tryz.prog.varsNamed 5) = true := by kernel_rfl
end Go.Proofs.YthlebjnhcinheaaGreatDoor
