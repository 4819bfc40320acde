import Derived.Test.YteodcncppchhnaaGreatDoorRows
import Derived.Test.YteodcncppchhnaaGreatDoorCards
import Derived.ProofKit
import Derived.SevenTiedAt
namespace Go.Proofs.YteodcncppchhnaaGreatDoor
open Go
set_option maxRecDepth 100000
/-! ### Closed facts of the program -/
theorem fact_main : Tryz.prog.mainIs = some (true, "3b32bd40e5468bc1cf5889e540d55183ea09659f7b06c49bd15a25d559b69c53".toList) := by kernel_rfl
theorem fact_looks : false = Tryz.prog.looks [] := by kernel_rfl
end Go.Proofs.YteodcncppchhnaaGreatDoor
