import Derived.Test.YtaehphnchiffnaaDoorRows
import Derived.ProofKit
import Derived.JoinedOf
import Derived.SevenTiedAt
namespace Go.Proofs.YtaehphnchiffnaaDoor
open Go
set_option maxRecDepth 100000
theorem sideMore_k10 : (Rows.sideMoreRow.inPlace == Tryd.prog.inPlace 6) = true := by kernel_rfl
theorem sideMore_k11 : (Rows.sideMoreRow.unfollowed == Tryd.prog.unfollowed 6) = true := by kernel_rfl
theorem sideMore_k12 : (Rows.sideMoreRow.recurses == Tryd.prog.recurses 6) = true := by kernel_rfl
theorem sideMore_goes : false = Rows.sideMoreRow.goesBy Tryd.prog := by kernel_rfl
theorem sideMore_k13 : (Rows.sideMoreRow.named == Tryd.prog.varsNamed 6) = true := by kernel_rfl
end Go.Proofs.YtaehphnchiffnaaDoor
