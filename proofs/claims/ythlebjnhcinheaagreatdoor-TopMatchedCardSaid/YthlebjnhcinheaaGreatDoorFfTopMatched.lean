import Derived.Test.YthlebjnhcinheaaGreatDoorRows
import Derived.ProofKit
import Derived.JoinedOf
import Derived.SevenTiedAt
namespace Go.Proofs.YthlebjnhcinheaaGreatDoor
open Go
set_option maxRecDepth 100000
theorem topMatched_k10 : (Rows.topMatchedRow.inPlace == Tryz.prog.inPlace 12) = true := by kernel_rfl
theorem topMatched_k11 : (Rows.topMatchedRow.unfollowed == Tryz.prog.unfollowed 12) = true := by kernel_rfl
theorem topMatched_k12 : (Rows.topMatchedRow.recurses == Tryz.prog.recurses 12) = true := by kernel_rfl
theorem topMatched_goes : false = Rows.topMatchedRow.goesBy Tryz.prog := by kernel_rfl
theorem topMatched_k13 : (Rows.topMatchedRow.named == Tryz.prog.varsNamed 12) = true := by kernel_rfl
end Go.Proofs.YthlebjnhcinheaaGreatDoor
