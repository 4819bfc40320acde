import Derived.Test.YthlebjnhcinheaaGreatDoorRows
import Derived.ProofKit
import Derived.JoinedOf
import Derived.SevenTiedAt
namespace Go.Proofs.YthlebjnhcinheaaGreatDoor
open Go
set_option maxRecDepth 100000
theorem topArranged_k10 : (Rows.topArrangedRow.inPlace == Tryz.prog.inPlace 11) = true := by kernel_rfl
theorem topArranged_k11 : (Rows.topArrangedRow.unfollowed == Tryz.prog.unfollowed 11) = true := by kernel_rfl
theorem topArranged_k12 : (Rows.topArrangedRow.recurses == Tryz.prog.recurses 11) = true := by kernel_rfl
theorem topArranged_goes : false = Rows.topArrangedRow.goesBy Tryz.prog := by kernel_rfl
theorem topArranged_k13 : (Rows.topArrangedRow.named == Tryz.prog.varsNamed 11) = true := by kernel_rfl
end Go.Proofs.YthlebjnhcinheaaGreatDoor
