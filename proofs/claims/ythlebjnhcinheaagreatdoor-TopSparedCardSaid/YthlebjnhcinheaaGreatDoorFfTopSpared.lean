import Derived.Test.YthlebjnhcinheaaGreatDoorRows
import Derived.ProofKit
import Derived.JoinedOf
import Derived.SevenTiedAt
namespace Go.Proofs.YthlebjnhcinheaaGreatDoor
open Go
set_option maxRecDepth 100000
theorem topSpared_k10 : (Rows.topSparedRow.inPlace == Tryz.prog.inPlace 19) = true := by kernel_rfl
theorem topSpared_k11 : (Rows.topSparedRow.unfollowed == Tryz.prog.unfollowed 19) = true := by kernel_rfl
theorem topSpared_k12 : (Rows.topSparedRow.recurses == Tryz.prog.recurses 19) = true := by kernel_rfl
theorem topSpared_goes : false = Rows.topSparedRow.goesBy Tryz.prog := by kernel_rfl
theorem topSpared_k13 : (Rows.topSparedRow.named == Tryz.prog.varsNamed 19) = true := by kernel_rfl
end Go.Proofs.YthlebjnhcinheaaGreatDoor
