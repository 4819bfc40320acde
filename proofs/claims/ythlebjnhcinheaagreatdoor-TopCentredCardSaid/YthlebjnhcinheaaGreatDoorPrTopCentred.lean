/- If the centre of three spots of a disc is no farther from its hole than a limit, then what can be heard with the wow of the limit contains what can be heard with the wow of the least whole number of micrometres that reaches the centre. -/
import Derived.Test.YthlebjnhcinheaaGreatDoorPrTopCentredC
import Derived.Test.YthlebjnhcinheaaGreatDoorFa
import Derived.Test.YthlebjnhcinheaaGreatDoorFb
import Derived.Test.YthlebjnhcinheaaGreatDoorFc
import Derived.Test.YthlebjnhcinheaaGreatDoorFfTopCentred
import Derived.Test.YthlebjnhcinheaaGreatDoorXe
import Derived.Test.YthlebjnhcinheaaGreatDoorXf
import Derived.Test.YthlebjnhcinheaaGreatDoorCards
import Derived.Test.YthlebjnhcinheaaGreatDoorTie
import Derived.ProofKit
import Derived.OpenShut
import Derived.LaidMore
import Derived.Lay
import Derived.SevenTiedAt
import Derived.Stop.Joined
namespace Go.Sx
open Go Go.Proofs
theorem law20 (rows : List (List Cell)) (H0 : WfRows [(true, [.int .i16, .int .i16]), (true, [.int .i16, .int .i16]), (true, [.int .i16, .int .i16]), (false, [.int .u16]), (false, [.sl KS]), (true, [.sl [.int .i64]]), (false, [.int .i64]), (false, [.int .i64])] rows) : PSpec Tryz.prog 20 (xvs [(true, [.int .i16, .int .i16]), (true, [.int .i16, .int .i16]), (true, [.int .i16, .int .i16]), (false, [.int .u16]), (false, [.sl KS]), (true, [.sl [.int .i64]]), (false, [.int .i64]), (false, [.int .i64])] rows) (.x (.one (.prp True instDecidableTrue))) := by
  obtain ⟨r0, _, rfl, k0_0, H1⟩ := H0.inv
  obtain ⟨c0_0, _, rfl, g0_0, k0_1⟩ := k0_0.inv
  obtain ⟨n0_0, rfl, q0_0⟩ := g0_0.int_inv
  obtain ⟨c0_1, _, rfl, g0_1, k0_2⟩ := k0_1.inv
  obtain ⟨n0_1, rfl, q0_1⟩ := g0_1.int_inv
  cases k0_2.nil_inv
  obtain ⟨r1, _, rfl, k1_0, H2⟩ := H1.inv
  obtain ⟨c1_0, _, rfl, g1_0, k1_1⟩ := k1_0.inv
  obtain ⟨n1_0, rfl, q1_0⟩ := g1_0.int_inv
  obtain ⟨c1_1, _, rfl, g1_1, k1_2⟩ := k1_1.inv
  obtain ⟨n1_1, rfl, q1_1⟩ := g1_1.int_inv
  cases k1_2.nil_inv
  obtain ⟨r2, _, rfl, k2_0, H3⟩ := H2.inv
  obtain ⟨c2_0, _, rfl, g2_0, k2_1⟩ := k2_0.inv
  obtain ⟨n2_0, rfl, q2_0⟩ := g2_0.int_inv
  obtain ⟨c2_1, _, rfl, g2_1, k2_2⟩ := k2_1.inv
  obtain ⟨n2_1, rfl, q2_1⟩ := g2_1.int_inv
  cases k2_2.nil_inv
  obtain ⟨a3, _, rfl, b3, H4⟩ := H3.int
  obtain ⟨x4, _, rfl, w4, H5⟩ := H4.sl
  obtain ⟨a4, rfl, h4⟩ := wf_smps w4
  obtain ⟨r5, _, rfl, k5_0, H6⟩ := H5.inv
  obtain ⟨c5_0, _, rfl, g5_0, k5_1⟩ := k5_0.inv
  obtain ⟨y5_0, rfl, v5_0⟩ := g5_0.sl_inv
  obtain ⟨z5_0, rfl, _⟩ := wf_ints v5_0
  cases k5_1.nil_inv
  obtain ⟨a6, _, rfl, b6, H7⟩ := H6.int
  obtain ⟨a7, _, rfl, b7, H8⟩ := H7.int
  cases H8.nil_inv
  exact s20 ⟨n0_0, n0_1⟩ ⟨n1_0, n1_1⟩ ⟨n2_0, n2_1⟩ a3 a4 z5_0 a6 a7 ⟨q0_0, q0_1⟩ ⟨q1_0, q1_1⟩ ⟨q2_0, q2_1⟩ b3
end Go.Sx
namespace Go.Proofs.YthlebjnhcinheaaGreatDoor
open Go.Sx
theorem topCentred_own : ownKnob Tryz.prog.godebug = none := by kernel_rfl
theorem topCentred_closed : joinedFacts Tryz.prog 20 Tryz.f20 Rows.topCentredSpec Rows.topCentredRow = true :=
  joined_of (by kernel_rfl) fact_laid fact_rowed (by kernel_rfl) (by kernel_rfl) (by kernel_rfl) (by kernel_rfl) (by kernel_rfl) (by kernel_rfl) topCentred_k10 topCentred_k11 topCentred_k12 topCentred_k13 (by kernel_rfl) (by kernel_rfl) (by kernel_rfl) (by kernel_rfl) (by kernel_rfl) (by kernel_rfl) (by kernel_rfl) (by kernel_rfl) (by kernel_rfl) fact_keys (by kernel_rfl) fact_heard fact_enter fact_lifts (by kernel_rfl) (by kernel_rfl) (by kernel_rfl) (by kernel_rfl) (by kernel_rfl)
theorem topCentred_shaped (os : Os) : (World.laidAll Tryz.prog os Rows.topCentredRow.laid).Shaped Tryz.prog := World.shaped_of_ZipB (by kernel_rfl) (by kernel_rfl)
set_option maxRecDepth 100000 in
theorem topCentred_lifted (os : Os) (started : os.Started) (H : Type) (enc : TypeId × Value → H) :
    ReturnsInHanded {} Tryz.checked os 20 .any (fun w args => (Rows.topCentredSpec.pre enc Tryz.prog Tryz.f20 Rows.topCentredRow.domain false w args ∧ laidMetH Tryz.prog Rows.topCentredRow.laid w) ∧ sizedMet enc Tryz.prog Tryz.f20 (OpenSpec.ofChange Rows.topCentredSpec) false w args)
      (Rows.topCentredSpec.post enc Tryz.prog Tryz.f20 false true false false) :=
  lifted_trueX (X := fun w _ => laidMetH Tryz.prog Rows.topCentredRow.laid w) (fun _ _ _ hh h => h.of_heap hh) topCentred_own started fact_laid (by kernel_rfl) Tryz.func20 e20 4 rfl Tryz.underlying4 (by kernel_rfl) rfl
    (fun ds h => match ds, h with | [_, _, _, _, _, _, _, _], _ => rfl) _ (by kernel_rfl) law20
    (ChangeSpec.witness_shaped (enc := enc) (C := Tryz.checked) (os := os) (X := fun w _ => laidMetH Tryz.prog Rows.topCentredRow.laid w) false (World.laidAll Tryz.prog os Rows.topCentredRow.laid) #[.agg #[.int .i16 0, .int .i16 0], .agg #[.int .i16 0, .int .i16 0], .agg #[.int .i16 0, .int .i16 0], .int .u16 0, .slice none 0 0, .agg #[.slice none 0 0], .int .i64 0, .int .i64 0] 8 (World.laidAll_os _ _ _)
      (topCentred_shaped os) (by kernel_rfl) (by kernel_rfl) (by kernel_rfl)
      (by rw [MakeChecks.laidMetH_plain _ _ _ (by kernel_rfl)]; exact laidMet_laidAll _ (by kernel_rfl) (by kernel_rfl)))
theorem topCentred_row : Rows.TopCentredSaid :=
  OpenClaim.holds_of_wide 20 Tryz.f20 rfl rfl rfl rfl rfl rfl rfl ⟨rfl, rfl, rfl, rfl, rfl⟩ rfl rfl rfl rfl rfl (by kernel_rfl) Tryz.func20 topCentred_closed
    (of_decide_eq_true (by kernel_rfl)) (by unfold Func.isWrapper; first | (rw [if_pos (by decide +kernel)]; kernel_rfl) | (rw [if_neg (by decide +kernel)]; exact ⟨rfl, rfl⟩))
    (fun os started H enc _ => topCentred_lifted os started H enc)
theorem topCentred_holds : Rows.TopCentredCardSaid :=
  Claim7.holds_tied_plain_at .later [] [.data, .pinned] true (true, "278b544c7bbe029d8ca56c1be111aef23cacbc8ad750aa12770f0ccc0a1e2e7b") true topCentred_row (fun _ h => by cases h) (by kernel_rfl) (fun _ h => by cases h) topCentred_row_tie rfl ⟨rfl, rfl⟩ fact_main rfl
    (fun f fn hf hfn => by
      obtain rfl : f = 20 := Option.some.inj ((show Tryz.prog.funcNamed "deadwax/deadwaxtop.TopCentred" = some 20 by kernel_rfl).symm.trans hf) |>.symm
      obtain rfl : fn = Tryz.f20 := (Option.some.inj (Tryz.func20.symm.trans hfn)).symm
      exact ⟨fact_looks, fun j t ht => by
        rw [Tryz.params20] at ht
        have hm : t ∈ [155, 155, 155, 88, 42, 139, 2, 2] := by simpa using Array.mem_of_getElem? ht
        have hall : ([155, 155, 155, 88, 42, 139, 2, 2].all fun u => !Tryz.prog.wantsStandIn u) = true := by kernel_rfl
        exact (show Tryz.prog.wantsStandIn t = false by simpa using List.all_eq_true.1 hall t hm)⟩)
    topCentred_goes
end Go.Proofs.YthlebjnhcinheaaGreatDoor
