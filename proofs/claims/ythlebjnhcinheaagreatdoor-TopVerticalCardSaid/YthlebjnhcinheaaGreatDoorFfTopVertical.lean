import Derived.Test.YthlebjnhcinheaaGreatDoorRows
import Derived.ProofKit
import Derived.JoinedOf
import Derived.SevenTiedAt
namespace Go.Proofs.YthlebjnhcinheaaGreatDoor
open Go
set_option maxRecDepth 100000
theorem topVertical_k10 : (Rows.topVerticalRow.inPlace == Tryz.prog.inPlace 14) = true := by kernel_rfl
theorem topVertical_k11 : (Rows.topVerticalRow.unfollowed == Tryz.prog.unfollowed 14) = true := by kernel_rfl
theorem topVertical_k12 : (Rows.topVerticalRow.recurses == Tryz.prog.recurses 14) = true := by kernel_rfl
theorem topVertical_goes : false = Rows.topVerticalRow.goesBy Tryz.prog := by kernel_rfl
theorem topVertical_k13 : (Rows.topVerticalRow.named == Tryz.prog.varsNamed 14) = true := by kernel_rfl
end Go.Proofs.YthlebjnhcinheaaGreatDoor
