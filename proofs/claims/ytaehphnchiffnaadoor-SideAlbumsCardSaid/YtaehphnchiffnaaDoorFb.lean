import Derived.Test.YtaehphnchiffnaaDoorRows
import Derived.ProofKit
import Derived.JoinedOf
namespace Go.Proofs.YtaehphnchiffnaaDoor
open Go
set_option maxRecDepth 100000
/-! ### Closed facts of the program -/
theorem fact_laid : laidOutB Tryd.prog = true := by kernel_rfl
theorem fact_lifts : (false == Tryd.prog.liftsFinal) = true := by kernel_rfl
theorem fact_rowed : mapsRowed Tryd.prog = true := by kernel_rfl
theorem fact_keys : (Rows.sideCheaperRow.plainKeys == Tryd.prog.plainKeys) = true := by kernel_rfl
theorem fact_heard : Tryd.prog.stopsHeard = true := by kernel_rfl
end Go.Proofs.YtaehphnchiffnaaDoor
