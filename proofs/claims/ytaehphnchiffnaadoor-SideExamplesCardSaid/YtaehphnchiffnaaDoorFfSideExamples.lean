import Derived.Test.YtaehphnchiffnaaDoorRows
import Derived.ProofKit
import Derived.JoinedOf
import Derived.SevenTiedAt
namespace Go.Proofs.YtaehphnchiffnaaDoor
open Go
set_option maxRecDepth 100000
theorem sideExamples_k10 : (Rows.sideExamplesRow.inPlace == Tryd.prog.inPlace 7) = true := by kernel_rfl
theorem sideExamples_k11 : (Rows.sideExamplesRow.unfollowed == Tryd.prog.unfollowed 7) = true := by kernel_rfl
theorem sideExamples_k12 : (Rows.sideExamplesRow.recurses == Tryd.prog.recurses 7) = true := by kernel_rfl
theorem sideExamples_goes : false = Rows.sideExamplesRow.goesBy Tryd.prog := by kernel_rfl
theorem sideExamples_k13 : (Rows.sideExamplesRow.named == Tryd.prog.varsNamed 7) = true := by kernel_rfl
end Go.Proofs.YtaehphnchiffnaaDoor
