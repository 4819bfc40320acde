import Derived.Test.YtmhkphkikmkoiaaGreatDoorRows
import Derived.ProofKit
import Derived.JoinedOf
import Derived.SevenTiedAt
namespace Go.Proofs.YtmhkphkikmkoiaaGreatDoor
open Go
set_option maxRecDepth 100000
theorem topOwned_k10 : (Rows.topOwnedRow.inPlace == Tryz.prog.inPlace 3) = true := by kernel_rfl
theorem topOwned_k11 : (Rows.topOwnedRow.unfollowed == Tryz.prog.unfollowed 3) = true := by kernel_rfl
theorem topOwned_k12 : (Rows.topOwnedRow.recurses == Tryz.prog.recurses 3) = true := by kernel_rfl
theorem topOwned_goes : false = Rows.topOwnedRow.goesBy Tryz.prog := by kernel_rfl
theorem topOwned_k13 : (Rows.topOwnedRow.named == Tryz.prog.varsNamed 3) = true := by kernel_rfl
end Go.Proofs.YtmhkphkikmkoiaaGreatDoor
