import Derived.Test.YthlebjnhcinheaaGreatDoorRows
import Derived.ProofKit
import Derived.JoinedOf
import Derived.SevenTiedAt
namespace Go.Proofs.YthlebjnhcinheaaGreatDoor
open Go
set_option maxRecDepth 100000
theorem topCovered_k10 : (Rows.topCoveredRow.inPlace == Tryz.prog.inPlace 10) = true := by kernel_rfl
theorem topCovered_k11 : (Rows.topCoveredRow.unfollowed == Tryz.prog.unfollowed 10) = true := by kernel_rfl
theorem topCovered_k12 : (Rows.topCoveredRow.recurses == Tryz.prog.recurses 10) = true := by kernel_rfl
theorem topCovered_goes : false = Rows.topCoveredRow.goesBy Tryz.prog := by kernel_rfl
theorem topCovered_k13 : (Rows.topCoveredRow.named == Tryz.prog.varsNamed 10) = true := by kernel_rfl
end Go.Proofs.YthlebjnhcinheaaGreatDoor
