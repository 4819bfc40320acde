import Derived.Test.YthlebjnhcinheaaGreatDoorRows
import Derived.ProofKit
import Derived.JoinedOf
import Derived.SevenTiedAt
namespace Go.Proofs.YthlebjnhcinheaaGreatDoor
open Go
set_option maxRecDepth 100000
theorem topVariable_k10 : (Rows.topVariableRow.inPlace == Tryz.prog.inPlace 16) = true := by kernel_rfl
theorem topVariable_k11 : (Rows.topVariableRow.unfollowed == Tryz.prog.unfollowed 16) = true := by kernel_rfl
theorem topVariable_k12 : (Rows.topVariableRow.recurses == Tryz.prog.recurses 16) = true := by kernel_rfl
theorem topVariable_goes : false = Rows.topVariableRow.goesBy Tryz.prog := by kernel_rfl
theorem topVariable_k13 : (Rows.topVariableRow.named == Tryz.prog.varsNamed 16) = true := by kernel_rfl
end Go.Proofs.YthlebjnhcinheaaGreatDoor
