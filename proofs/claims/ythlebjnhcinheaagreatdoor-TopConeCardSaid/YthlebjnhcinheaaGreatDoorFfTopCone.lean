import Derived.Test.YthlebjnhcinheaaGreatDoorRows
import Derived.ProofKit
import Derived.JoinedOf
import Derived.SevenTiedAt
namespace Go.Proofs.YthlebjnhcinheaaGreatDoor
open Go
set_option maxRecDepth 100000
theorem topCone_k10 : (Rows.topConeRow.inPlace == Tryz.prog.inPlace 15) = true := by kernel_rfl
theorem topCone_k11 : (Rows.topConeRow.unfollowed == Tryz.prog.unfollowed 15) = true := by kernel_rfl
theorem topCone_k12 : (Rows.topConeRow.recurses == Tryz.prog.recurses 15) = true := by kernel_rfl
theorem topCone_goes : false = Rows.topConeRow.goesBy Tryz.prog := by kernel_rfl
theorem topCone_k13 : (Rows.topConeRow.named == Tryz.prog.varsNamed 15) = true := by kernel_rfl
end Go.Proofs.YthlebjnhcinheaaGreatDoor
