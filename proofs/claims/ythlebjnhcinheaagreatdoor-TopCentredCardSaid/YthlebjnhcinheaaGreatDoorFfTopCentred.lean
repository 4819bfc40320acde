import Derived.Test.YthlebjnhcinheaaGreatDoorRows
import Derived.ProofKit
import Derived.JoinedOf
import Derived.SevenTiedAt
namespace Go.Proofs.YthlebjnhcinheaaGreatDoor
open Go
set_option maxRecDepth 100000
theorem topCentred_k10 : (Rows.topCentredRow.inPlace == Tryz.prog.inPlace 20) = true := by kernel_rfl
theorem topCentred_k11 : (Rows.topCentredRow.unfollowed == Tryz.prog.unfollowed 20) = true := by kernel_rfl
theorem topCentred_k12 : (Rows.topCentredRow.recurses == Tryz.prog.recurses 20) = true := by kernel_rfl
theorem topCentred_goes : false = Rows.topCentredRow.goesBy Tryz.prog := by kernel_rfl
theorem topCentred_k13 : (Rows.topCentredRow.named == Tryz.prog.varsNamed 20) = true := by kernel_rfl
end Go.Proofs.YthlebjnhcinheaaGreatDoor
