/- As much of a groove without a signal fits on a blank as the longest track that is no wider than the blank and a land. -/
import Derived.Test.YthlebjnhcinheaaGreatDoorPrTopCoveredC
import Derived.Test.YthlebjnhcinheaaGreatDoorFa
import Derived.Test.YthlebjnhcinheaaGreatDoorFb
import Derived.Test.YthlebjnhcinheaaGreatDoorFc
import Derived.Test.YthlebjnhcinheaaGreatDoorFfTopCovered
import Derived.Test.YthlebjnhcinheaaGreatDoorXe
import Derived.Test.YthlebjnhcinheaaGreatDoorXf
import Derived.Test.YthlebjnhcinheaaGreatDoorCards
import Derived.Test.YthlebjnhcinheaaGreatDoorTie
import Derived.ProofKit
import Derived.OpenShut
import Derived.LaidMore
import Derived.Lay
import Derived.SevenTiedAt
import Derived.Stop.Joined
namespace Go.Sx
open Go Go.Proofs
theorem law10 (rows : List (List Cell)) (H0 : WfRows [(false, [.int .u16]), (false, [.int .u16]), (false, [.int .u16]), (false, [.int .u16]), (false, [.int .u8]), (false, [.int .u8])] rows) : PSpec Tryz.prog 10 (xvs [(false, [.int .u16]), (false, [.int .u16]), (false, [.int .u16]), (false, [.int .u16]), (false, [.int .u8]), (false, [.int .u8])] rows) (.x (.one (.prp True instDecidableTrue))) := by
  obtain ⟨a0, _, rfl, b0, H1⟩ := H0.int
  obtain ⟨a1, _, rfl, b1, H2⟩ := H1.int
  obtain ⟨a2, _, rfl, b2, H3⟩ := H2.int
  obtain ⟨a3, _, rfl, b3, H4⟩ := H3.int
  obtain ⟨a4, _, rfl, b4, H5⟩ := H4.int
  obtain ⟨a5, _, rfl, b5, H6⟩ := H5.int
  cases H6.nil_inv
  exact s10 a0 a1 a2 a3 a4 a5 b0 b1 b2 b3 b4 b5
end Go.Sx
namespace Go.Proofs.YthlebjnhcinheaaGreatDoor
open Go.Sx
theorem topCovered_own : ownKnob Tryz.prog.godebug = none := by kernel_rfl
theorem topCovered_closed : joinedFacts Tryz.prog 10 Tryz.f10 Rows.topCoveredSpec Rows.topCoveredRow = true :=
  joined_of (by kernel_rfl) fact_laid fact_rowed (by kernel_rfl) (by kernel_rfl) (by kernel_rfl) (by kernel_rfl) (by kernel_rfl) (by kernel_rfl) topCovered_k10 topCovered_k11 topCovered_k12 topCovered_k13 (by kernel_rfl) (by kernel_rfl) (by kernel_rfl) (by kernel_rfl) (by kernel_rfl) (by kernel_rfl) (by kernel_rfl) (by kernel_rfl) (by kernel_rfl) fact_keys (by kernel_rfl) fact_heard fact_enter fact_lifts (by kernel_rfl) (by kernel_rfl) (by kernel_rfl) (by kernel_rfl) (by kernel_rfl)
theorem topCovered_shaped (os : Os) : (World.laidAll Tryz.prog os Rows.topCoveredRow.laid).Shaped Tryz.prog := World.shaped_of_ZipB (by kernel_rfl) (by kernel_rfl)
set_option maxRecDepth 100000 in
theorem topCovered_lifted (os : Os) (started : os.Started) (H : Type) (enc : TypeId × Value → H) :
    ReturnsInHanded {} Tryz.checked os 10 .any (fun w args => (Rows.topCoveredSpec.pre enc Tryz.prog Tryz.f10 Rows.topCoveredRow.domain false w args ∧ laidMetH Tryz.prog Rows.topCoveredRow.laid w) ∧ sizedMet enc Tryz.prog Tryz.f10 (OpenSpec.ofChange Rows.topCoveredSpec) false w args)
      (Rows.topCoveredSpec.post enc Tryz.prog Tryz.f10 false true false false) :=
  lifted_trueX (X := fun w _ => laidMetH Tryz.prog Rows.topCoveredRow.laid w) (fun _ _ _ hh h => h.of_heap hh) topCovered_own started fact_laid (by kernel_rfl) Tryz.func10 e10 4 rfl Tryz.underlying4 (by kernel_rfl) rfl
    (fun ds h => match ds, h with | [_, _, _, _, _, _], _ => rfl) _ (by kernel_rfl) law10
    (ChangeSpec.witness_shaped (enc := enc) (C := Tryz.checked) (os := os) (X := fun w _ => laidMetH Tryz.prog Rows.topCoveredRow.laid w) false (World.laidAll Tryz.prog os Rows.topCoveredRow.laid) #[.int .u16 0, .int .u16 0, .int .u16 0, .int .u16 0, .int .u8 0, .int .u8 0] 8 (World.laidAll_os _ _ _)
      (topCovered_shaped os) (by kernel_rfl) (by kernel_rfl) (by kernel_rfl)
      (by rw [MakeChecks.laidMetH_plain _ _ _ (by kernel_rfl)]; exact laidMet_laidAll _ (by kernel_rfl) (by kernel_rfl)))
theorem topCovered_row : Rows.TopCoveredSaid :=
  OpenClaim.holds_of_wide 10 Tryz.f10 rfl rfl rfl rfl rfl rfl rfl ⟨rfl, rfl, rfl, rfl, rfl⟩ rfl rfl rfl rfl rfl (by kernel_rfl) Tryz.func10 topCovered_closed
    (of_decide_eq_true (by kernel_rfl)) (by unfold Func.isWrapper; first | (rw [if_pos (by decide +kernel)]; kernel_rfl) | (rw [if_neg (by decide +kernel)]; exact ⟨rfl, rfl⟩))
    (fun os started H enc _ => topCovered_lifted os started H enc)
theorem topCovered_holds : Rows.TopCoveredCardSaid :=
  Claim7.holds_tied_plain_at .later [] [.data, .pinned] true (true, "278b544c7bbe029d8ca56c1be111aef23cacbc8ad750aa12770f0ccc0a1e2e7b") true topCovered_row (fun _ h => by cases h) (by kernel_rfl) (fun _ h => by cases h) topCovered_row_tie rfl ⟨rfl, rfl⟩ fact_main rfl
    (fun f fn hf hfn => by
      obtain rfl : f = 10 := Option.some.inj ((show Tryz.prog.funcNamed "deadwax/deadwaxtop.TopCovered" = some 10 by kernel_rfl).symm.trans hf) |>.symm
      obtain rfl : fn = Tryz.f10 := (Option.some.inj (Tryz.func10.symm.trans hfn)).symm
      exact ⟨fact_looks, fun j t ht => by
        rw [Tryz.params10] at ht
        have hm : t ∈ [88, 88, 88, 88, 5, 5] := by simpa using Array.mem_of_getElem? ht
        have hall : ([88, 88, 88, 88, 5, 5].all fun u => !Tryz.prog.wantsStandIn u) = true := by kernel_rfl
        exact (show Tryz.prog.wantsStandIn t = false by simpa using List.all_eq_true.1 hall t hm)⟩)
    topCovered_goes
end Go.Proofs.YthlebjnhcinheaaGreatDoor
