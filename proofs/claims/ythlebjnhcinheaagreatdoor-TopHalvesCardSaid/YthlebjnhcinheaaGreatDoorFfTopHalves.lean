import Derived.Test.YthlebjnhcinheaaGreatDoorRows
import Derived.ProofKit
import Derived.JoinedOf
import Derived.SevenTiedAt
namespace Go.Proofs.YthlebjnhcinheaaGreatDoor
open Go
set_option maxRecDepth 100000
theorem topHalves_k10 : (Rows.topHalvesRow.inPlace == Tryz.prog.inPlace 4) = true := by kernel_rfl
theorem topHalves_k11 : (Rows.topHalvesRow.unfollowed == Tryz.prog.unfollowed 4) = true := by kernel_rfl
theorem topHalves_k12 : (Rows.topHalvesRow.recurses == Tryz.prog.recurses 4) = true := by kernel_rfl
theorem topHalves_goes : false = Rows.topHalvesRow.goesBy Tryz.prog := by kernel_rfl
theorem topHalves_k13 : (Rows.topHalvesRow.named == Tryz.prog.varsNamed 4) = true := by kernel_rfl
end Go.Proofs.YthlebjnhcinheaaGreatDoor
