import Derived.Test.YtaehphnchiffnaaDoorRows
import Derived.ProofKit
import Derived.JoinedOf
namespace Go.Proofs.YtaehphnchiffnaaDoor
open Go
set_option maxRecDepth 100000
/-! ### Closed facts of the program -/
theorem fact_enter : Tryd.prog.mayEnter = true := by kernel_rfl
end Go.Proofs.YtaehphnchiffnaaDoor
