/- Whatever the samples, curve and cutter are, the law TopSided answers true and leaves its arguments as they were. -/
import Derived.Test.YthlebjnhcinheaaGreatDoorPrTopSidedB
import Derived.Test.YthlebjnhcinheaaGreatDoorFa
import Derived.Test.YthlebjnhcinheaaGreatDoorFb
import Derived.Test.YthlebjnhcinheaaGreatDoorFc
import Derived.Test.YthlebjnhcinheaaGreatDoorFfTopSided
import Derived.Test.YthlebjnhcinheaaGreatDoorXe
import Derived.Test.YthlebjnhcinheaaGreatDoorXf
import Derived.Test.YthlebjnhcinheaaGreatDoorCards
import Derived.Test.YthlebjnhcinheaaGreatDoorTie
import Derived.ProofKit
import Derived.OpenShut
import Derived.LaidMore
import Derived.Lay
import Derived.SevenTiedAt
import Derived.Stop.Joined
namespace Go.Sx
open Go Go.Proofs
theorem law8 (rows : List (List Cell)) (H0 : WfRows [(false, [.sl KS]), (true, [.sl [.int .i64], .sl [.int .i64], .int .i64]), (true, [.int .i64, .int .i64, .int .i64, .int .i64, .int .i64, .int .i64, .int .i64])] rows) : PSpec Tryz.prog 8 (xvs [(false, [.sl KS]), (true, [.sl [.int .i64], .sl [.int .i64], .int .i64]), (true, [.int .i64, .int .i64, .int .i64, .int .i64, .int .i64, .int .i64, .int .i64])] rows) (.x (.one (.prp True instDecidableTrue))) := by
  obtain ⟨x0, _, rfl, w0, H1⟩ := H0.sl
  obtain ⟨a0, rfl, h0⟩ := wf_smps w0
  obtain ⟨r1, _, rfl, k1_0, H2⟩ := H1.inv
  obtain ⟨c1_0, _, rfl, g1_0, k1_1⟩ := k1_0.inv
  obtain ⟨y1_0, rfl, v1_0⟩ := g1_0.sl_inv
  obtain ⟨z1_0, rfl, _⟩ := wf_ints v1_0
  obtain ⟨c1_1, _, rfl, g1_1, k1_2⟩ := k1_1.inv
  obtain ⟨y1_1, rfl, v1_1⟩ := g1_1.sl_inv
  obtain ⟨z1_1, rfl, _⟩ := wf_ints v1_1
  obtain ⟨c1_2, _, rfl, g1_2, k1_3⟩ := k1_2.inv
  obtain ⟨n1_2, rfl, _⟩ := g1_2.int_inv
  cases k1_3.nil_inv
  obtain ⟨r2, _, rfl, k2_0, H3⟩ := H2.inv
  obtain ⟨c2_0, _, rfl, g2_0, k2_1⟩ := k2_0.inv
  obtain ⟨n2_0, rfl, _⟩ := g2_0.int_inv
  obtain ⟨c2_1, _, rfl, g2_1, k2_2⟩ := k2_1.inv
  obtain ⟨n2_1, rfl, q2⟩ := g2_1.int_inv
  obtain ⟨c2_2, _, rfl, g2_2, k2_3⟩ := k2_2.inv
  obtain ⟨n2_2, rfl, _⟩ := g2_2.int_inv
  obtain ⟨c2_3, _, rfl, g2_3, k2_4⟩ := k2_3.inv
  obtain ⟨n2_3, rfl, _⟩ := g2_3.int_inv
  obtain ⟨c2_4, _, rfl, g2_4, k2_5⟩ := k2_4.inv
  obtain ⟨n2_4, rfl, _⟩ := g2_4.int_inv
  obtain ⟨c2_5, _, rfl, g2_5, k2_6⟩ := k2_5.inv
  obtain ⟨n2_5, rfl, _⟩ := g2_5.int_inv
  obtain ⟨c2_6, _, rfl, g2_6, k2_7⟩ := k2_6.inv
  obtain ⟨n2_6, rfl, _⟩ := g2_6.int_inv
  cases k2_7.nil_inv
  cases H3.nil_inv
  exact s8 a0 ⟨z1_0, z1_1, n1_2⟩ ⟨n2_0, n2_1, n2_2, n2_3, n2_4, n2_5, n2_6⟩ q2
end Go.Sx
namespace Go.Proofs.YthlebjnhcinheaaGreatDoor
open Go.Sx
theorem topSided_own : ownKnob Tryz.prog.godebug = none := by kernel_rfl
theorem topSided_closed : joinedFacts Tryz.prog 8 Tryz.f8 Rows.topSidedSpec Rows.topSidedRow = true :=
  joined_of (by kernel_rfl) fact_laid fact_rowed (by kernel_rfl) (by kernel_rfl) (by kernel_rfl) (by kernel_rfl) (by kernel_rfl) (by kernel_rfl) topSided_k10 topSided_k11 topSided_k12 topSided_k13 (by kernel_rfl) (by kernel_rfl) (by kernel_rfl) (by kernel_rfl) (by kernel_rfl) (by kernel_rfl) (by kernel_rfl) (by kernel_rfl) (by kernel_rfl) fact_keys (by kernel_rfl) fact_heard fact_enter fact_lifts (by kernel_rfl) (by kernel_rfl) (by kernel_rfl) (by kernel_rfl) (by kernel_rfl)
theorem topSided_shaped (os : Os) : (World.laidAll Tryz.prog os Rows.topSidedRow.laid).Shaped Tryz.prog := World.shaped_of_ZipB (by kernel_rfl) (by kernel_rfl)
set_option maxRecDepth 100000 in
theorem topSided_lifted (os : Os) (started : os.Started) (H : Type) (enc : TypeId × Value → H) :
    ReturnsInHanded {} Tryz.checked os 8 .any (fun w args => (Rows.topSidedSpec.pre enc Tryz.prog Tryz.f8 Rows.topSidedRow.domain false w args ∧ laidMetH Tryz.prog Rows.topSidedRow.laid w) ∧ sizedMet enc Tryz.prog Tryz.f8 (OpenSpec.ofChange Rows.topSidedSpec) false w args)
      (Rows.topSidedSpec.post enc Tryz.prog Tryz.f8 false true false false) :=
  lifted_trueX (X := fun w _ => laidMetH Tryz.prog Rows.topSidedRow.laid w) (fun _ _ _ hh h => h.of_heap hh) topSided_own started fact_laid (by kernel_rfl) Tryz.func8 e8 4 rfl Tryz.underlying4 (by kernel_rfl) rfl
    (fun ds h => match ds, h with | [_, _, _], _ => rfl) _ (by kernel_rfl) law8
    (ChangeSpec.witness_shaped (enc := enc) (C := Tryz.checked) (os := os) (X := fun w _ => laidMetH Tryz.prog Rows.topSidedRow.laid w) false (World.laidAll Tryz.prog os Rows.topSidedRow.laid) #[.slice none 0 0, .agg #[.slice none 0 0, .slice none 0 0, .int .i64 0], .agg #[.int .i64 0, .int .i64 0, .int .i64 0, .int .i64 0, .int .i64 0, .int .i64 0, .int .i64 0]] 8 (World.laidAll_os _ _ _)
      (topSided_shaped os) (by kernel_rfl) (by kernel_rfl) (by kernel_rfl)
      (by rw [MakeChecks.laidMetH_plain _ _ _ (by kernel_rfl)]; exact laidMet_laidAll _ (by kernel_rfl) (by kernel_rfl)))
theorem topSided_row : Rows.TopSidedSaid :=
  OpenClaim.holds_of_wide 8 Tryz.f8 rfl rfl rfl rfl rfl rfl rfl ⟨rfl, rfl, rfl, rfl, rfl⟩ rfl rfl rfl rfl rfl (by kernel_rfl) Tryz.func8 topSided_closed
    (of_decide_eq_true (by kernel_rfl)) (by unfold Func.isWrapper; first | (rw [if_pos (by decide +kernel)]; kernel_rfl) | (rw [if_neg (by decide +kernel)]; exact ⟨rfl, rfl⟩))
    (fun os started H enc _ => topSided_lifted os started H enc)
theorem topSided_holds : Rows.TopSidedCardSaid :=
  Claim7.holds_tied_plain_at .later [] [.data, .pinned] true (true, "278b544c7bbe029d8ca56c1be111aef23cacbc8ad750aa12770f0ccc0a1e2e7b") true topSided_row (fun _ h => by cases h) (by kernel_rfl) (fun _ h => by cases h) topSided_row_tie rfl ⟨rfl, rfl⟩ fact_main rfl
    (fun f fn hf hfn => by
      obtain rfl : f = 8 := Option.some.inj ((show Tryz.prog.funcNamed "deadwax/deadwaxtop.TopSided" = some 8 by kernel_rfl).symm.trans hf) |>.symm
      obtain rfl : fn = Tryz.f8 := (Option.some.inj (Tryz.func8.symm.trans hfn)).symm
      exact ⟨fact_looks, fun j t ht => by
        rw [Tryz.params8] at ht
        have hm : t ∈ [27, 80, 26] := by simpa using Array.mem_of_getElem? ht
        have hall : ([27, 80, 26].all fun u => !Tryz.prog.wantsStandIn u) = true := by kernel_rfl
        exact (show Tryz.prog.wantsStandIn t = false by simpa using List.all_eq_true.1 hall t hm)⟩)
    topSided_goes
end Go.Proofs.YthlebjnhcinheaaGreatDoor
