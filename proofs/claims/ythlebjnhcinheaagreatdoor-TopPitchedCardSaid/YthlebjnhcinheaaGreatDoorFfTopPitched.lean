import Derived.Test.YthlebjnhcinheaaGreatDoorRows
import Derived.ProofKit
import Derived.JoinedOf
import Derived.SevenTiedAt
namespace Go.Proofs.YthlebjnhcinheaaGreatDoor
open Go
set_option maxRecDepth 100000
theorem topPitched_k10 : (Rows.topPitchedRow.inPlace == Tryz.prog.inPlace 17) = true := by kernel_rfl
theorem topPitched_k11 : (Rows.topPitchedRow.unfollowed == Tryz.prog.unfollowed 17) = true := by kernel_rfl
theorem topPitched_k12 : (Rows.topPitchedRow.recurses == Tryz.prog.recurses 17) = true := by kernel_rfl
theorem topPitched_goes : false = Rows.topPitchedRow.goesBy Tryz.prog := by kernel_rfl
theorem topPitched_k13 : (Rows.topPitchedRow.named == Tryz.prog.varsNamed 17) = true := by kernel_rfl
end Go.Proofs.YthlebjnhcinheaaGreatDoor
