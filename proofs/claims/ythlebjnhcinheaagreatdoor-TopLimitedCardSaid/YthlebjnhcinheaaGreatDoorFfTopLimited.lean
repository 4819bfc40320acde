import Derived.Test.YthlebjnhcinheaaGreatDoorRows
import Derived.ProofKit
import Derived.JoinedOf
import Derived.SevenTiedAt
namespace Go.Proofs.YthlebjnhcinheaaGreatDoor
open Go
set_option maxRecDepth 100000
theorem topLimited_k10 : (Rows.topLimitedRow.inPlace == Tryz.prog.inPlace 9) = true := by kernel_rfl
theorem topLimited_k11 : (Rows.topLimitedRow.unfollowed == Tryz.prog.unfollowed 9) = true := by kernel_rfl
theorem topLimited_k12 : (Rows.topLimitedRow.recurses == Tryz.prog.recurses 9) = true := by kernel_rfl
theorem topLimited_goes : false = Rows.topLimitedRow.goesBy Tryz.prog := by kernel_rfl
theorem topLimited_k13 : (Rows.topLimitedRow.named == Tryz.prog.varsNamed 9) = true := by kernel_rfl
end Go.Proofs.YthlebjnhcinheaaGreatDoor
