import Derived.Test.YthlebjnhcinheaaGreatDoorRows
import Derived.ProofKit
import Derived.JoinedOf
import Derived.SevenTiedAt
namespace Go.Proofs.YthlebjnhcinheaaGreatDoor
open Go
set_option maxRecDepth 100000
theorem topSilent_k10 : (Rows.topSilentRow.inPlace == Tryz.prog.inPlace 7) = true := by kernel_rfl
theorem topSilent_k11 : (Rows.topSilentRow.unfollowed == Tryz.prog.unfollowed 7) = true := by kernel_rfl
theorem topSilent_k12 : (Rows.topSilentRow.recurses == Tryz.prog.recurses 7) = true := by kernel_rfl
theorem topSilent_goes : false = Rows.topSilentRow.goesBy Tryz.prog := by kernel_rfl
theorem topSilent_k13 : (Rows.topSilentRow.named == Tryz.prog.varsNamed 7) = true := by kernel_rfl
end Go.Proofs.YthlebjnhcinheaaGreatDoor
