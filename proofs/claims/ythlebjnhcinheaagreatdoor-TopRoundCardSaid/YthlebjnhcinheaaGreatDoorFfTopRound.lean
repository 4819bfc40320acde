import Derived.Test.YthlebjnhcinheaaGreatDoorRows
import Derived.ProofKit
import Derived.JoinedOf
import Derived.SevenTiedAt
namespace Go.Proofs.YthlebjnhcinheaaGreatDoor
open Go
set_option maxRecDepth 100000
theorem topRound_k10 : (Rows.topRoundRow.inPlace == Tryz.prog.inPlace 3) = true := by kernel_rfl
theorem topRound_k11 : (Rows.topRoundRow.unfollowed == Tryz.prog.unfollowed 3) = true := by kernel_rfl
theorem topRound_k12 : (Rows.topRoundRow.recurses == Tryz.prog.recurses 3) = true := by kernel_rfl
theorem topRound_goes : false = Rows.topRoundRow.goesBy Tryz.prog := by kernel_rfl
theorem topRound_k13 : (Rows.topRoundRow.named == Tryz.prog.varsNamed 3) = true := by kernel_rfl
end Go.Proofs.YthlebjnhcinheaaGreatDoor
