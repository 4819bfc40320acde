/- The curve with which a mono groove was filtered is found from its points, or one before it that gives the same; undone by it the groove is the signal again. -/
import Derived.Test.YthlebjnhcinheaaGreatDoorPrTopMatchedC
import Derived.Test.YthlebjnhcinheaaGreatDoorFa
import Derived.Test.YthlebjnhcinheaaGreatDoorFb
import Derived.Test.YthlebjnhcinheaaGreatDoorFc
import Derived.Test.YthlebjnhcinheaaGreatDoorFfTopMatched
import Derived.Test.YthlebjnhcinheaaGreatDoorXe
import Derived.Test.YthlebjnhcinheaaGreatDoorXf
import Derived.Test.YthlebjnhcinheaaGreatDoorCards
import Derived.Test.YthlebjnhcinheaaGreatDoorTie
import Derived.ProofKit
import Derived.OpenShut
import Derived.LaidMore
import Derived.Lay
import Derived.SevenTiedAt
import Derived.Stop.Joined
namespace Go.Sx
open Go Go.Proofs
theorem law12 (rows : List (List Cell)) (H0 : WfRows [(false, [.sl KC]), (false, [.sl [.int .i64]]), (true, [.int .i64, .int .i64, .int .i64, .int .i64, .int .i64, .int .i64, .int .i64]), (false, [.int .u8])] rows) : PSpec Tryz.prog 12 (xvs [(false, [.sl KC]), (false, [.sl [.int .i64]]), (true, [.int .i64, .int .i64, .int .i64, .int .i64, .int .i64, .int .i64, .int .i64]), (false, [.int .u8])] rows) (.x (.one (.prp True instDecidableTrue))) := by
  obtain ⟨x0, _, rfl, w0, H1⟩ := H0.sl
  obtain ⟨a0, rfl⟩ := wf_crvs w0
  obtain ⟨x1, _, rfl, w1, H2⟩ := H1.sl
  obtain ⟨a1, rfl, h1⟩ := wf_ints w1
  obtain ⟨r2, _, rfl, k2_0, H3⟩ := H2.inv
  obtain ⟨c2_0, _, rfl, g2_0, k2_1⟩ := k2_0.inv
  obtain ⟨n2_0, rfl, _⟩ := g2_0.int_inv
  obtain ⟨c2_1, _, rfl, g2_1, k2_2⟩ := k2_1.inv
  obtain ⟨n2_1, rfl, _⟩ := g2_1.int_inv
  obtain ⟨c2_2, _, rfl, g2_2, k2_3⟩ := k2_2.inv
  obtain ⟨n2_2, rfl, _⟩ := g2_2.int_inv
  obtain ⟨c2_3, _, rfl, g2_3, k2_4⟩ := k2_3.inv
  obtain ⟨n2_3, rfl, _⟩ := g2_3.int_inv
  obtain ⟨c2_4, _, rfl, g2_4, k2_5⟩ := k2_4.inv
  obtain ⟨n2_4, rfl, _⟩ := g2_4.int_inv
  obtain ⟨c2_5, _, rfl, g2_5, k2_6⟩ := k2_5.inv
  obtain ⟨n2_5, rfl, _⟩ := g2_5.int_inv
  obtain ⟨c2_6, _, rfl, g2_6, k2_7⟩ := k2_6.inv
  obtain ⟨n2_6, rfl, _⟩ := g2_6.int_inv
  cases k2_7.nil_inv
  obtain ⟨a3, _, rfl, b3, H4⟩ := H3.int
  cases H4.nil_inv
  exact s12 a0 a1 ⟨n2_0, n2_1, n2_2, n2_3, n2_4, n2_5, n2_6⟩ a3 b3
end Go.Sx
namespace Go.Proofs.YthlebjnhcinheaaGreatDoor
open Go.Sx
theorem topMatched_own : ownKnob Tryz.prog.godebug = none := by kernel_rfl
theorem topMatched_closed : joinedFacts Tryz.prog 12 Tryz.f12 Rows.topMatchedSpec Rows.topMatchedRow = true :=
  joined_of (by kernel_rfl) fact_laid fact_rowed (by kernel_rfl) (by kernel_rfl) (by kernel_rfl) (by kernel_rfl) (by kernel_rfl) (by kernel_rfl) topMatched_k10 topMatched_k11 topMatched_k12 topMatched_k13 (by kernel_rfl) (by kernel_rfl) (by kernel_rfl) (by kernel_rfl) (by kernel_rfl) (by kernel_rfl) (by kernel_rfl) (by kernel_rfl) (by kernel_rfl) fact_keys (by kernel_rfl) fact_heard fact_enter fact_lifts (by kernel_rfl) (by kernel_rfl) (by kernel_rfl) (by kernel_rfl) (by kernel_rfl)
theorem topMatched_shaped (os : Os) : (World.laidAll Tryz.prog os Rows.topMatchedRow.laid).Shaped Tryz.prog := World.shaped_of_ZipB (by kernel_rfl) (by kernel_rfl)
set_option maxRecDepth 100000 in
theorem topMatched_lifted (os : Os) (started : os.Started) (H : Type) (enc : TypeId × Value → H) :
    ReturnsInHanded {} Tryz.checked os 12 .any (fun w args => (Rows.topMatchedSpec.pre enc Tryz.prog Tryz.f12 Rows.topMatchedRow.domain false w args ∧ laidMetH Tryz.prog Rows.topMatchedRow.laid w) ∧ sizedMet enc Tryz.prog Tryz.f12 (OpenSpec.ofChange Rows.topMatchedSpec) false w args)
      (Rows.topMatchedSpec.post enc Tryz.prog Tryz.f12 false true false false) :=
  lifted_trueX (X := fun w _ => laidMetH Tryz.prog Rows.topMatchedRow.laid w) (fun _ _ _ hh h => h.of_heap hh) topMatched_own started fact_laid (by kernel_rfl) Tryz.func12 e12 4 rfl Tryz.underlying4 (by kernel_rfl) rfl
    (fun ds h => match ds, h with | [_, _, _, _], _ => rfl) _ (by kernel_rfl) law12
    (ChangeSpec.witness_shaped (enc := enc) (C := Tryz.checked) (os := os) (X := fun w _ => laidMetH Tryz.prog Rows.topMatchedRow.laid w) false (World.laidAll Tryz.prog os Rows.topMatchedRow.laid) #[.slice none 0 0, .slice none 0 0, .agg #[.int .i64 0, .int .i64 0, .int .i64 0, .int .i64 0, .int .i64 0, .int .i64 0, .int .i64 0], .int .u8 0] 8 (World.laidAll_os _ _ _)
      (topMatched_shaped os) (by kernel_rfl) (by kernel_rfl) (by kernel_rfl)
      (by rw [MakeChecks.laidMetH_plain _ _ _ (by kernel_rfl)]; exact laidMet_laidAll _ (by kernel_rfl) (by kernel_rfl)))
theorem topMatched_row : Rows.TopMatchedSaid :=
  OpenClaim.holds_of_wide 12 Tryz.f12 rfl rfl rfl rfl rfl rfl rfl ⟨rfl, rfl, rfl, rfl, rfl⟩ rfl rfl rfl rfl rfl (by kernel_rfl) Tryz.func12 topMatched_closed
    (of_decide_eq_true (by kernel_rfl)) (by unfold Func.isWrapper; first | (rw [if_pos (by decide +kernel)]; kernel_rfl) | (rw [if_neg (by decide +kernel)]; exact ⟨rfl, rfl⟩))
    (fun os started H enc _ => topMatched_lifted os started H enc)
theorem topMatched_holds : Rows.TopMatchedCardSaid :=
  Claim7.holds_tied_plain_at .later [] [.data, .pinned] true (true, "278b544c7bbe029d8ca56c1be111aef23cacbc8ad750aa12770f0ccc0a1e2e7b") true topMatched_row (fun _ h => by cases h) (by kernel_rfl) (fun _ h => by cases h) topMatched_row_tie rfl ⟨rfl, rfl⟩ fact_main rfl
    (fun f fn hf hfn => by
      obtain rfl : f = 12 := Option.some.inj ((show Tryz.prog.funcNamed "deadwax/deadwaxtop.TopMatched" = some 12 by kernel_rfl).symm.trans hf) |>.symm
      obtain rfl : fn = Tryz.f12 := (Option.some.inj (Tryz.func12.symm.trans hfn)).symm
      exact ⟨fact_looks, fun j t ht => by
        rw [Tryz.params12] at ht
        have hm : t ∈ [24, 37, 26, 5] := by simpa using Array.mem_of_getElem? ht
        have hall : ([24, 37, 26, 5].all fun u => !Tryz.prog.wantsStandIn u) = true := by kernel_rfl
        exact (show Tryz.prog.wantsStandIn t = false by simpa using List.all_eq_true.1 hall t hm)⟩)
    topMatched_goes
end Go.Proofs.YthlebjnhcinheaaGreatDoor
