import Derived.Test.YtmhkphkikmkoiaaGreatDoorRows
import Derived.ProofKit
import Derived.JoinedOf
namespace Go.Proofs.YtmhkphkikmkoiaaGreatDoor
open Go
set_option maxRecDepth 100000
/-! ### Closed facts of the program -/
theorem fact_enter : Tryz.prog.mayEnter = true := by kernel_rfl
end Go.Proofs.YtmhkphkikmkoiaaGreatDoor
