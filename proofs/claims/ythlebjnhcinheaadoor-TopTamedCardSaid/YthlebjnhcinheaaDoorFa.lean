import Derived.Test.YthlebjnhcinheaaDoorRows
import Derived.ProofKit
import Derived.JoinedOf
namespace Go.Proofs.YthlebjnhcinheaaDoor
open Go
set_option maxRecDepth 100000
/-! ### Closed facts of the program -/
theorem fact_enter : Tryd.prog.mayEnter = true := by kernel_rfl
end Go.Proofs.YthlebjnhcinheaaDoor
