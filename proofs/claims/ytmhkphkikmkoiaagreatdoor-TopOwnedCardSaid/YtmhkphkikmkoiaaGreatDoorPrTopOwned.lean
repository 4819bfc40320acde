/- From the press to the ear: the discs of a press, with the numbers of six stampers of a mother, can be listened to, and what begins on a stamper with its first disc on a side is heard on both sides together on just those discs that the press tells of this stamper (any machine; at most 40 acts, whose stampers are taken from the six; which of them). -/
import Derived.Test.YtmhkphkikmkoiaaGreatDoorPrTopOwnedC
import Derived.Test.YtmhkphkikmkoiaaGreatDoorFa
import Derived.Test.YtmhkphkikmkoiaaGreatDoorFb
import Derived.Test.YtmhkphkikmkoiaaGreatDoorFc
import Derived.Test.YtmhkphkikmkoiaaGreatDoorFfTopOwned
import Derived.Test.YtmhkphkikmkoiaaGreatDoorXw
import Derived.Test.YtmhkphkikmkoiaaGreatDoorXx
import Derived.Test.YtmhkphkikmkoiaaGreatDoorCards
import Derived.Test.YtmhkphkikmkoiaaGreatDoorTie
import Derived.ProofKit
import Derived.OpenShut
import Derived.LaidMore
import Derived.Lay
import Derived.SevenTiedAt
import Derived.Stop.Joined
namespace Go.Sx
open Go Go.Proofs
theorem law3 (rows : List (List Cell)) (H0 : WfRows [(true, [.int .i64, .int .i64, .int .i64, .int .i64, .int .i64, .int .i64, .int .i64, .int .i64, .int .i64]), (false, [.sl [.int .i64, .int .i64, .int .i64]]), (false, [.int .u8])] rows) : PSpec Tryz.prog 3 (xvs [(true, [.int .i64, .int .i64, .int .i64, .int .i64, .int .i64, .int .i64, .int .i64, .int .i64, .int .i64]), (false, [.sl [.int .i64, .int .i64, .int .i64]]), (false, [.int .u8])] rows) (.x (.one (.prp True instDecidableTrue))) := by
  obtain ⟨r0, _, rfl, k0_0, H1⟩ := H0.inv
  obtain ⟨c0_0, _, rfl, g0_0, k0_1⟩ := k0_0.inv
  obtain ⟨n0_0, rfl, _⟩ := g0_0.int_inv
  obtain ⟨c0_1, _, rfl, g0_1, k0_2⟩ := k0_1.inv
  obtain ⟨n0_1, rfl, _⟩ := g0_1.int_inv
  obtain ⟨c0_2, _, rfl, g0_2, k0_3⟩ := k0_2.inv
  obtain ⟨n0_2, rfl, _⟩ := g0_2.int_inv
  obtain ⟨c0_3, _, rfl, g0_3, k0_4⟩ := k0_3.inv
  obtain ⟨n0_3, rfl, _⟩ := g0_3.int_inv
  obtain ⟨c0_4, _, rfl, g0_4, k0_5⟩ := k0_4.inv
  obtain ⟨n0_4, rfl, _⟩ := g0_4.int_inv
  obtain ⟨c0_5, _, rfl, g0_5, k0_6⟩ := k0_5.inv
  obtain ⟨n0_5, rfl, _⟩ := g0_5.int_inv
  obtain ⟨c0_6, _, rfl, g0_6, k0_7⟩ := k0_6.inv
  obtain ⟨n0_6, rfl, _⟩ := g0_6.int_inv
  obtain ⟨c0_7, _, rfl, g0_7, k0_8⟩ := k0_7.inv
  obtain ⟨n0_7, rfl, _⟩ := g0_7.int_inv
  obtain ⟨c0_8, _, rfl, g0_8, k0_9⟩ := k0_8.inv
  obtain ⟨n0_8, rfl, _⟩ := g0_8.int_inv
  cases k0_9.nil_inv
  obtain ⟨a1, _, rfl, _, H2⟩ := H1.sl
  obtain ⟨a2, _, rfl, b2, H3⟩ := H2.int
  cases H3.nil_inv
  exact Ls.s3 ⟨n0_0, n0_1, n0_2, n0_3, n0_4, n0_5, n0_6, n0_7, n0_8⟩ a1 a2 b2
end Go.Sx
namespace Go.Proofs.YtmhkphkikmkoiaaGreatDoor
open Go.Sx
theorem topOwned_own : ownKnob Tryz.prog.godebug = none := by kernel_rfl
theorem topOwned_closed : joinedFacts Tryz.prog 3 Tryz.f3 Rows.topOwnedSpec Rows.topOwnedRow = true :=
  joined_of (by kernel_rfl) fact_laid fact_rowed (by kernel_rfl) (by kernel_rfl) (by kernel_rfl) (by kernel_rfl) (by kernel_rfl) (by kernel_rfl) topOwned_k10 topOwned_k11 topOwned_k12 topOwned_k13 (by kernel_rfl) (by kernel_rfl) (by kernel_rfl) (by kernel_rfl) (by kernel_rfl) (by kernel_rfl) (by kernel_rfl) (by kernel_rfl) (by kernel_rfl) fact_keys (by kernel_rfl) fact_heard fact_enter fact_lifts (by kernel_rfl) (by kernel_rfl) (by kernel_rfl) (by kernel_rfl) (by kernel_rfl)
theorem topOwned_shaped (os : Os) : (World.laidAll Tryz.prog os Rows.topOwnedRow.laid).Shaped Tryz.prog := World.shaped_of_ZipB (by kernel_rfl) (by kernel_rfl)
set_option maxRecDepth 100000 in
theorem topOwned_lifted (os : Os) (started : os.Started) (H : Type) (enc : TypeId × Value → H) :
    ReturnsInHanded {} Tryz.checked os 3 .any (fun w args => (Rows.topOwnedSpec.pre enc Tryz.prog Tryz.f3 Rows.topOwnedRow.domain false w args ∧ laidMetH Tryz.prog Rows.topOwnedRow.laid w) ∧ sizedMet enc Tryz.prog Tryz.f3 (OpenSpec.ofChange Rows.topOwnedSpec) false w args)
      (Rows.topOwnedSpec.post enc Tryz.prog Tryz.f3 false true false false) :=
  lifted_trueX (X := fun w _ => laidMetH Tryz.prog Rows.topOwnedRow.laid w) (fun _ _ _ hh h => h.of_heap hh) topOwned_own started fact_laid (by kernel_rfl) Tryz.func3 Ls.e3 4 rfl Tryz.underlying4 (by kernel_rfl) rfl
    (fun ds h => match ds, h with | [_, _, _], _ => rfl) _ (by kernel_rfl) law3
    (ChangeSpec.witness_shaped (enc := enc) (C := Tryz.checked) (os := os) (X := fun w _ => laidMetH Tryz.prog Rows.topOwnedRow.laid w) false (World.laidAll Tryz.prog os Rows.topOwnedRow.laid) #[.agg #[.int .i64 0, .int .i64 0, .int .i64 0, .int .i64 0, .int .i64 0, .int .i64 0, .int .i64 0, .int .i64 0, .int .i64 0], .slice none 0 0, .int .u8 0] 8 (World.laidAll_os _ _ _)
      (topOwned_shaped os) (by kernel_rfl) (by kernel_rfl) (by kernel_rfl)
      (by rw [MakeChecks.laidMetH_plain _ _ _ (by kernel_rfl)]; exact laidMet_laidAll _ (by kernel_rfl) (by kernel_rfl)))
theorem topOwned_row : Rows.TopOwnedSaid :=
  OpenClaim.holds_of_wide 3 Tryz.f3 rfl rfl rfl rfl rfl rfl rfl ⟨rfl, rfl, rfl, rfl, rfl⟩ rfl rfl rfl rfl rfl (by kernel_rfl) Tryz.func3 topOwned_closed
    (of_decide_eq_true (by kernel_rfl)) (by unfold Func.isWrapper; first | (rw [if_pos (by decide +kernel)]; kernel_rfl) | (rw [if_neg (by decide +kernel)]; exact ⟨rfl, rfl⟩))
    (fun os started H enc _ => topOwned_lifted os started H enc)
theorem topOwned_holds : Rows.TopOwnedCardSaid :=
  Claim7.holds_tied_plain_at .later [] [.data, .pinned] true (true, "bce495ca22c372b06ea214a551b299737a8c39773db9f7fb94327ee21409b7b6") true topOwned_row (fun _ h => by cases h) (by kernel_rfl) (fun _ h => by cases h) topOwned_row_tie rfl ⟨rfl, rfl⟩ fact_main rfl
    (fun f fn hf hfn => by
      obtain rfl : f = 3 := Option.some.inj ((show Tryz.prog.funcNamed "deadwax/deadwaxtop.TopOwned" = some 3 by kernel_rfl).symm.trans hf) |>.symm
      obtain rfl : fn = Tryz.f3 := (Option.some.inj (Tryz.func3.symm.trans hfn)).symm
      exact ⟨fact_looks, fun j t ht => by
        rw [Tryz.params3] at ht
        have hm : t ∈ [23, 24, 5] := by simpa using Array.mem_of_getElem? ht
        have hall : ([23, 24, 5].all fun u => !Tryz.prog.wantsStandIn u) = true := by kernel_rfl
        exact (show Tryz.prog.wantsStandIn t = false by simpa using List.all_eq_true.1 hall t hm)⟩)
    topOwned_goes
end Go.Proofs.YtmhkphkikmkoiaaGreatDoor
