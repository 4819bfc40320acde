import Derived.Test.YthlebjnhcinheaaGreatDoorRows
import Derived.ProofKit
import Derived.JoinedOf
import Derived.SevenTiedAt
namespace Go.Proofs.YthlebjnhcinheaaGreatDoor
open Go
set_option maxRecDepth 100000
theorem topCeiled_k10 : (Rows.topCeiledRow.inPlace == Tryz.prog.inPlace 18) = true := by kernel_rfl
theorem topCeiled_k11 : (Rows.topCeiledRow.unfollowed == Tryz.prog.unfollowed 18) = true := by kernel_rfl
theorem topCeiled_k12 : (Rows.topCeiledRow.recurses == Tryz.prog.recurses 18) = true := by kernel_rfl
theorem topCeiled_goes : false = Rows.topCeiledRow.goesBy Tryz.prog := by kernel_rfl
theorem topCeiled_k13 : (Rows.topCeiledRow.named == Tryz.prog.varsNamed 18) = true := by kernel_rfl
end Go.Proofs.YthlebjnhcinheaaGreatDoor
