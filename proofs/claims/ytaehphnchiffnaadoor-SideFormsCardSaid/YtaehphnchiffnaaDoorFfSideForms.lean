import Derived.Test.YtaehphnchiffnaaDoorRows
import Derived.ProofKit
import Derived.JoinedOf
import Derived.SevenTiedAt
namespace Go.Proofs.YtaehphnchiffnaaDoor
open Go
set_option maxRecDepth 100000
theorem sideForms_k10 : (Rows.sideFormsRow.inPlace == Tryd.prog.inPlace 3) = true := by kernel_rfl
theorem sideForms_k11 : (Rows.sideFormsRow.unfollowed == Tryd.prog.unfollowed 3) = true := by kernel_rfl
theorem sideForms_k12 : (Rows.sideFormsRow.recurses == Tryd.prog.recurses 3) = true := by kernel_rfl
theorem sideForms_goes : false = Rows.sideFormsRow.goesBy Tryd.prog := by kernel_rfl
theorem sideForms_k13 : (Rows.sideFormsRow.named == Tryd.prog.varsNamed 3) = true := by kernel_rfl
end Go.Proofs.YtaehphnchiffnaaDoor
