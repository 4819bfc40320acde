import Derived.Test.YthlebjnhcinheaaGreatDoorRows
import Derived.ProofKit
import Derived.JoinedOf
import Derived.SevenTiedAt
namespace Go.Proofs.YthlebjnhcinheaaGreatDoor
open Go
set_option maxRecDepth 100000
theorem topSided_k10 : (Rows.topSidedRow.inPlace == Tryz.prog.inPlace 8) = true := by kernel_rfl
theorem topSided_k11 : (Rows.topSidedRow.unfollowed == Tryz.prog.unfollowed 8) = true := by kernel_rfl
theorem topSided_k12 : (Rows.topSidedRow.recurses == Tryz.prog.recurses 8) = true := by kernel_rfl
theorem topSided_goes : false = Rows.topSidedRow.goesBy Tryz.prog := by kernel_rfl
theorem topSided_k13 : (Rows.topSidedRow.named == Tryz.prog.varsNamed 8) = true := by kernel_rfl
end Go.Proofs.YthlebjnhcinheaaGreatDoor
