import Derived.Test.YthlebjnhcinheaaGreatDoorRows
import Derived.ProofKit
import Derived.JoinedOf
namespace Go.Proofs.YthlebjnhcinheaaGreatDoor
open Go
set_option maxRecDepth 100000
/-! ### Closed facts of the program -/
theorem fact_enter : Tryz.prog.mayEnter = true := by kernel_rfl
end Go.Proofs.YthlebjnhcinheaaGreatDoor
