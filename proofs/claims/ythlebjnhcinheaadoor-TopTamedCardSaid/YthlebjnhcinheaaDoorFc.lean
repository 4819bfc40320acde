import Derived.Test.YthlebjnhcinheaaDoorRows
import Derived.Test.YthlebjnhcinheaaDoorCards
import Derived.ProofKit
import Derived.SevenTiedAt
namespace Go.Proofs.YthlebjnhcinheaaDoor
open Go
set_option maxRecDepth 100000
/-! ### Closed facts of the program -/
theorem fact_main : Tryd.prog.mainIs = some (true, "7bac6b45aa015728ca75af97eca7ff058d448c72b3d7b1e04a2f6c030b8771fd".toList) := by kernel_rfl
theorem fact_looks : false = Tryd.prog.looks [] := by kernel_rfl
end Go.Proofs.YthlebjnhcinheaaDoor
