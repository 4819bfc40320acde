import Derived.Test.YtmhkphkikmkoiaaGreatDoorRows
import Derived.Test.YtmhkphkikmkoiaaGreatDoorCards
import Derived.ProofKit
import Derived.SevenTiedAt
namespace Go.Proofs.YtmhkphkikmkoiaaGreatDoor
open Go
set_option maxRecDepth 100000
/-! ### Closed facts of the program -/
theorem fact_main : Tryz.prog.mainIs = some (true, "bce495ca22c372b06ea214a551b299737a8c39773db9f7fb94327ee21409b7b6".toList) := by kernel_rfl
theorem fact_looks : true = Tryz.prog.looks [] := by kernel_rfl
end Go.Proofs.YtmhkphkikmkoiaaGreatDoor
