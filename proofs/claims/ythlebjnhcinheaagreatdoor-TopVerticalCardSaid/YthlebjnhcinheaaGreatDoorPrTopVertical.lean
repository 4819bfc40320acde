/- With opposite channels the best arm needs no force and no arm lets the tip go that pulls no more than it holds; with equal channels the force that is needed is the one of the left channel alone, doubled, or 1 less. -/
import Derived.Test.YthlebjnhcinheaaGreatDoorPrTopVerticalB
import Derived.Test.YthlebjnhcinheaaGreatDoorFa
import Derived.Test.YthlebjnhcinheaaGreatDoorFb
import Derived.Test.YthlebjnhcinheaaGreatDoorFc
import Derived.Test.YthlebjnhcinheaaGreatDoorFfTopVertical
import Derived.Test.YthlebjnhcinheaaGreatDoorXe
import Derived.Test.YthlebjnhcinheaaGreatDoorXf
import Derived.Test.YthlebjnhcinheaaGreatDoorCards
import Derived.Test.YthlebjnhcinheaaGreatDoorTie
import Derived.ProofKit
import Derived.OpenShut
import Derived.LaidMore
import Derived.Lay
import Derived.SevenTiedAt
import Derived.Stop.Joined
namespace Go.Sx
open Go Go.Proofs
theorem law14 (rows : List (List Cell)) (H0 : WfRows [(false, [.sl [.int .i64]]), (true, [.int .i64, .int .i64, .int .i64, .int .i64, .int .i64, .int .i64, .int .i64]), (true, [.int .i64, .int .i64])] rows) : PSpec Tryz.prog 14 (xvs [(false, [.sl [.int .i64]]), (true, [.int .i64, .int .i64, .int .i64, .int .i64, .int .i64, .int .i64, .int .i64]), (true, [.int .i64, .int .i64])] rows) (.x (.one (.prp True instDecidableTrue))) := by
  obtain ⟨x0, _, rfl, w0, H1⟩ := H0.sl
  obtain ⟨a0, rfl, h0⟩ := wf_ints w0
  obtain ⟨r1, _, rfl, k1_0, H2⟩ := H1.inv
  obtain ⟨c1_0, _, rfl, g1_0, k1_1⟩ := k1_0.inv
  obtain ⟨n1_0, rfl, _⟩ := g1_0.int_inv
  obtain ⟨c1_1, _, rfl, g1_1, k1_2⟩ := k1_1.inv
  obtain ⟨n1_1, rfl, _⟩ := g1_1.int_inv
  obtain ⟨c1_2, _, rfl, g1_2, k1_3⟩ := k1_2.inv
  obtain ⟨n1_2, rfl, _⟩ := g1_2.int_inv
  obtain ⟨c1_3, _, rfl, g1_3, k1_4⟩ := k1_3.inv
  obtain ⟨n1_3, rfl, _⟩ := g1_3.int_inv
  obtain ⟨c1_4, _, rfl, g1_4, k1_5⟩ := k1_4.inv
  obtain ⟨n1_4, rfl, _⟩ := g1_4.int_inv
  obtain ⟨c1_5, _, rfl, g1_5, k1_6⟩ := k1_5.inv
  obtain ⟨n1_5, rfl, _⟩ := g1_5.int_inv
  obtain ⟨c1_6, _, rfl, g1_6, k1_7⟩ := k1_6.inv
  obtain ⟨n1_6, rfl, _⟩ := g1_6.int_inv
  cases k1_7.nil_inv
  obtain ⟨r2, _, rfl, k2_0, H3⟩ := H2.inv
  obtain ⟨c2_0, _, rfl, g2_0, k2_1⟩ := k2_0.inv
  obtain ⟨n2_0, rfl, _⟩ := g2_0.int_inv
  obtain ⟨c2_1, _, rfl, g2_1, k2_2⟩ := k2_1.inv
  obtain ⟨n2_1, rfl, _⟩ := g2_1.int_inv
  cases k2_2.nil_inv
  cases H3.nil_inv
  exact s14 a0 ⟨n1_0, n1_1, n1_2, n1_3, n1_4, n1_5, n1_6⟩ n2_0 n2_1
end Go.Sx
namespace Go.Proofs.YthlebjnhcinheaaGreatDoor
open Go.Sx
theorem topVertical_own : ownKnob Tryz.prog.godebug = none := by kernel_rfl
theorem topVertical_closed : joinedFacts Tryz.prog 14 Tryz.f14 Rows.topVerticalSpec Rows.topVerticalRow = true :=
  joined_of (by kernel_rfl) fact_laid fact_rowed (by kernel_rfl) (by kernel_rfl) (by kernel_rfl) (by kernel_rfl) (by kernel_rfl) (by kernel_rfl) topVertical_k10 topVertical_k11 topVertical_k12 topVertical_k13 (by kernel_rfl) (by kernel_rfl) (by kernel_rfl) (by kernel_rfl) (by kernel_rfl) (by kernel_rfl) (by kernel_rfl) (by kernel_rfl) (by kernel_rfl) fact_keys (by kernel_rfl) fact_heard fact_enter fact_lifts (by kernel_rfl) (by kernel_rfl) (by kernel_rfl) (by kernel_rfl) (by kernel_rfl)
theorem topVertical_shaped (os : Os) : (World.laidAll Tryz.prog os Rows.topVerticalRow.laid).Shaped Tryz.prog := World.shaped_of_ZipB (by kernel_rfl) (by kernel_rfl)
set_option maxRecDepth 100000 in
theorem topVertical_lifted (os : Os) (started : os.Started) (H : Type) (enc : TypeId × Value → H) :
    ReturnsInHanded {} Tryz.checked os 14 .any (fun w args => (Rows.topVerticalSpec.pre enc Tryz.prog Tryz.f14 Rows.topVerticalRow.domain false w args ∧ laidMetH Tryz.prog Rows.topVerticalRow.laid w) ∧ sizedMet enc Tryz.prog Tryz.f14 (OpenSpec.ofChange Rows.topVerticalSpec) false w args)
      (Rows.topVerticalSpec.post enc Tryz.prog Tryz.f14 false true false false) :=
  lifted_trueX (X := fun w _ => laidMetH Tryz.prog Rows.topVerticalRow.laid w) (fun _ _ _ hh h => h.of_heap hh) topVertical_own started fact_laid (by kernel_rfl) Tryz.func14 e14 4 rfl Tryz.underlying4 (by kernel_rfl) rfl
    (fun ds h => match ds, h with | [_, _, _], _ => rfl) _ (by kernel_rfl) law14
    (ChangeSpec.witness_shaped (enc := enc) (C := Tryz.checked) (os := os) (X := fun w _ => laidMetH Tryz.prog Rows.topVerticalRow.laid w) false (World.laidAll Tryz.prog os Rows.topVerticalRow.laid) #[.slice none 0 0, .agg #[.int .i64 0, .int .i64 0, .int .i64 0, .int .i64 0, .int .i64 0, .int .i64 0, .int .i64 0], .agg #[.int .i64 0, .int .i64 0]] 8 (World.laidAll_os _ _ _)
      (topVertical_shaped os) (by kernel_rfl) (by kernel_rfl) (by kernel_rfl)
      (by rw [MakeChecks.laidMetH_plain _ _ _ (by kernel_rfl)]; exact laidMet_laidAll _ (by kernel_rfl) (by kernel_rfl)))
theorem topVertical_row : Rows.TopVerticalSaid :=
  OpenClaim.holds_of_wide 14 Tryz.f14 rfl rfl rfl rfl rfl rfl rfl ⟨rfl, rfl, rfl, rfl, rfl⟩ rfl rfl rfl rfl rfl (by kernel_rfl) Tryz.func14 topVertical_closed
    (of_decide_eq_true (by kernel_rfl)) (by unfold Func.isWrapper; first | (rw [if_pos (by decide +kernel)]; kernel_rfl) | (rw [if_neg (by decide +kernel)]; exact ⟨rfl, rfl⟩))
    (fun os started H enc _ => topVertical_lifted os started H enc)
theorem topVertical_holds : Rows.TopVerticalCardSaid :=
  Claim7.holds_tied_plain_at .later [] [.data, .pinned] true (true, "278b544c7bbe029d8ca56c1be111aef23cacbc8ad750aa12770f0ccc0a1e2e7b") true topVertical_row (fun _ h => by cases h) (by kernel_rfl) (fun _ h => by cases h) topVertical_row_tie rfl ⟨rfl, rfl⟩ fact_main rfl
    (fun f fn hf hfn => by
      obtain rfl : f = 14 := Option.some.inj ((show Tryz.prog.funcNamed "deadwax/deadwaxtop.TopVertical" = some 14 by kernel_rfl).symm.trans hf) |>.symm
      obtain rfl : fn = Tryz.f14 := (Option.some.inj (Tryz.func14.symm.trans hfn)).symm
      exact ⟨fact_looks, fun j t ht => by
        rw [Tryz.params14] at ht
        have hm : t ∈ [37, 26, 130] := by simpa using Array.mem_of_getElem? ht
        have hall : ([37, 26, 130].all fun u => !Tryz.prog.wantsStandIn u) = true := by kernel_rfl
        exact (show Tryz.prog.wantsStandIn t = false by simpa using List.all_eq_true.1 hall t hm)⟩)
    topVertical_goes
end Go.Proofs.YthlebjnhcinheaaGreatDoor
