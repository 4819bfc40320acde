import Derived.Test.YthlebjnhcinheaaGreatDoorRows
import Derived.Test.YthlebjnhcinheaaGreatDoorCards
import Derived.ProofKit
import Derived.SevenTiedAt
namespace Go.Proofs.YthlebjnhcinheaaGreatDoor
open Go
set_option maxRecDepth 100000
/-! ### Closed facts of the program -/
theorem fact_main : Tryz.prog.mainIs = some (true, "278b544c7bbe029d8ca56c1be111aef23cacbc8ad750aa12770f0ccc0a1e2e7b".toList) := by kernel_rfl
theorem fact_looks : true = Tryz.prog.looks [] := by kernel_rfl
end Go.Proofs.YthlebjnhcinheaaGreatDoor
