import Derived.Test.YteodcncppchhnaaGreatDoorRows
import Derived.ProofKit
import Derived.JoinedOf
import Derived.SevenTiedAt
namespace Go.Proofs.YteodcncppchhnaaGreatDoor
open Go
set_option maxRecDepth 100000
theorem topFaces_k10 : (Rows.topFacesRow.inPlace == Tryz.prog.inPlace 3) = true := by kernel_rfl
theorem topFaces_k11 : (Rows.topFacesRow.unfollowed == Tryz.prog.unfollowed 3) = true := by kernel_rfl
theorem topFaces_k12 : (Rows.topFacesRow.recurses == Tryz.prog.recurses 3) = true := by kernel_rfl
theorem topFaces_goes : false = Rows.topFacesRow.goesBy Tryz.prog := by kernel_rfl
theorem topFaces_k13 : (Rows.topFacesRow.named == Tryz.prog.varsNamed 3) = true := by kernel_rfl
end Go.Proofs.YteodcncppchhnaaGreatDoor
