import Derived.Test.YtmhkphkikmkoiaaGreatDoorRows
import Derived.ProofKit
import Derived.JoinedOf
namespace Go.Proofs.YtmhkphkikmkoiaaGreatDoor
open Go
set_option maxRecDepth 100000
/-! ### Closed facts of the program -/
theorem fact_laid : laidOutB Tryz.prog = true := by kernel_rfl
theorem fact_lifts : (false == Tryz.prog.liftsFinal) = true := by kernel_rfl
theorem fact_rowed : mapsRowed Tryz.prog = true := by kernel_rfl
theorem fact_keys : (Rows.topOwnedRow.plainKeys == Tryz.prog.plainKeys) = true := by kernel_rfl
theorem fact_heard : Tryz.prog.stopsHeard = true := by kernel_rfl
end Go.Proofs.YtmhkphkikmkoiaaGreatDoor
