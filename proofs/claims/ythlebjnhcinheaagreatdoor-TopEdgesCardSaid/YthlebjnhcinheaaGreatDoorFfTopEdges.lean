import Derived.Test.YthlebjnhcinheaaGreatDoorRows
import Derived.ProofKit
import Derived.JoinedOf
import Derived.SevenTiedAt
namespace Go.Proofs.YthlebjnhcinheaaGreatDoor
open Go
set_option maxRecDepth 100000
theorem topEdges_k10 : (Rows.topEdgesRow.inPlace == Tryz.prog.inPlace 6) = true := by kernel_rfl
theorem topEdges_k11 : (Rows.topEdgesRow.unfollowed == Tryz.prog.unfollowed 6) = true := by kernel_rfl
theorem topEdges_k12 : (Rows.topEdgesRow.recurses == Tryz.prog.recurses 6) = true := by kernel_rfl
theorem topEdges_goes : false = Rows.topEdgesRow.goesBy Tryz.prog := by kernel_rfl
theorem topEdges_k13 : (Rows.topEdgesRow.named == Tryz.prog.varsNamed 6) = true := by kernel_rfl
end Go.Proofs.YthlebjnhcinheaaGreatDoor
