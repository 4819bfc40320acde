import Derived.Test.YtaehphnchiffnaaDoorRows
import Derived.Test.YtaehphnchiffnaaDoorCards
import Derived.ProofKit
import Derived.SevenTiedAt
namespace Go.Proofs.YtaehphnchiffnaaDoor
open Go
set_option maxRecDepth 100000
/-! ### Closed facts of the program -/
theorem fact_main : Tryd.prog.mainIs = some (true, "6dc2daffb95c571ead266799d4087aa6ac5d3a56204d49d6a8d298ab455f389b".toList) := by kernel_rfl
theorem fact_looks : false = Tryd.prog.looks [] := by kernel_rfl
end Go.Proofs.YtaehphnchiffnaaDoor
