/- If the least of each track is the least radius of its groove, then in the possible order of a side no track has a fault at any radius of its band, and the radii at which it has one are farther in. -/
import Derived.Test.YthlebjnhcinheaaGreatDoorPrTopArrangedB
import Derived.Test.YthlebjnhcinheaaGreatDoorFa
import Derived.Test.YthlebjnhcinheaaGreatDoorFb
import Derived.Test.YthlebjnhcinheaaGreatDoorFc
import Derived.Test.YthlebjnhcinheaaGreatDoorFfTopArranged
import Derived.Test.YthlebjnhcinheaaGreatDoorXe
import Derived.Test.YthlebjnhcinheaaGreatDoorXf
import Derived.Test.YthlebjnhcinheaaGreatDoorCards
import Derived.Test.YthlebjnhcinheaaGreatDoorTie
import Derived.ProofKit
import Derived.OpenShut
import Derived.LaidMore
import Derived.Lay
import Derived.SevenTiedAt
import Derived.Stop.Joined
namespace Go.Sx
open Go Go.Proofs
theorem law11 (rows : List (List Cell)) (H0 : WfRows [(false, [.sl [.sl KS]]), (true, [.int .i64, .int .i64, .int .i64, .int .i64, .int .i64, .int .i64, .int .i64]), (true, [.str, .int .i64, .int .i64, .int .i64, .int .i64, .int .i64, .int .i64, .int .i64]), (false, [.sl [.int .u8]]), (false, [.int .u32])] rows) : PSpec Tryz.prog 11 (xvs [(false, [.sl [.sl KS]]), (true, [.int .i64, .int .i64, .int .i64, .int .i64, .int .i64, .int .i64, .int .i64]), (true, [.str, .int .i64, .int .i64, .int .i64, .int .i64, .int .i64, .int .i64, .int .i64]), (false, [.sl [.int .u8]]), (false, [.int .u32])] rows) (.x (.one (.prp True instDecidableTrue))) := by
  obtain ⟨x0, _, rfl, w0, H1⟩ := H0.sl
  obtain ⟨a0, rfl, h0⟩ := wf_grvs w0
  obtain ⟨r1, _, rfl, k1_0, H2⟩ := H1.inv
  obtain ⟨c1_0, _, rfl, g1_0, k1_1⟩ := k1_0.inv
  obtain ⟨n1_0, rfl, _⟩ := g1_0.int_inv
  obtain ⟨c1_1, _, rfl, g1_1, k1_2⟩ := k1_1.inv
  obtain ⟨n1_1, rfl, _⟩ := g1_1.int_inv
  obtain ⟨c1_2, _, rfl, g1_2, k1_3⟩ := k1_2.inv
  obtain ⟨n1_2, rfl, _⟩ := g1_2.int_inv
  obtain ⟨c1_3, _, rfl, g1_3, k1_4⟩ := k1_3.inv
  obtain ⟨n1_3, rfl, _⟩ := g1_3.int_inv
  obtain ⟨c1_4, _, rfl, g1_4, k1_5⟩ := k1_4.inv
  obtain ⟨n1_4, rfl, _⟩ := g1_4.int_inv
  obtain ⟨c1_5, _, rfl, g1_5, k1_6⟩ := k1_5.inv
  obtain ⟨n1_5, rfl, _⟩ := g1_5.int_inv
  obtain ⟨c1_6, _, rfl, g1_6, k1_7⟩ := k1_6.inv
  obtain ⟨n1_6, rfl, _⟩ := g1_6.int_inv
  cases k1_7.nil_inv
  obtain ⟨r2, _, rfl, k2_0, H3⟩ := H2.inv
  obtain ⟨c2_0, _, rfl, g2_0, k2_1⟩ := k2_0.inv
  obtain ⟨n2_0, rfl, _⟩ := g2_0.str_inv
  obtain ⟨c2_1, _, rfl, g2_1, k2_2⟩ := k2_1.inv
  obtain ⟨n2_1, rfl, _⟩ := g2_1.int_inv
  obtain ⟨c2_2, _, rfl, g2_2, k2_3⟩ := k2_2.inv
  obtain ⟨n2_2, rfl, _⟩ := g2_2.int_inv
  obtain ⟨c2_3, _, rfl, g2_3, k2_4⟩ := k2_3.inv
  obtain ⟨n2_3, rfl, _⟩ := g2_3.int_inv
  obtain ⟨c2_4, _, rfl, g2_4, k2_5⟩ := k2_4.inv
  obtain ⟨n2_4, rfl, _⟩ := g2_4.int_inv
  obtain ⟨c2_5, _, rfl, g2_5, k2_6⟩ := k2_5.inv
  obtain ⟨n2_5, rfl, _⟩ := g2_5.int_inv
  obtain ⟨c2_6, _, rfl, g2_6, k2_7⟩ := k2_6.inv
  obtain ⟨n2_6, rfl, _⟩ := g2_6.int_inv
  obtain ⟨c2_7, _, rfl, g2_7, k2_8⟩ := k2_7.inv
  obtain ⟨n2_7, rfl, _⟩ := g2_7.int_inv
  cases k2_8.nil_inv
  obtain ⟨x3, _, rfl, w3, H4⟩ := H3.sl
  obtain ⟨a3, rfl, h3⟩ := wf_ints w3
  obtain ⟨a4, _, rfl, b4, H5⟩ := H4.int
  cases H5.nil_inv
  exact s11 a0 ⟨n1_0, n1_1, n1_2, n1_3, n1_4, n1_5, n1_6⟩ ⟨n2_0, n2_1, n2_2, n2_3, n2_4, n2_5, n2_6, n2_7⟩ a3 a4 h0 (u8_getD h3) b4
end Go.Sx
namespace Go.Proofs.YthlebjnhcinheaaGreatDoor
open Go.Sx
theorem topArranged_own : ownKnob Tryz.prog.godebug = none := by kernel_rfl
theorem topArranged_closed : joinedFacts Tryz.prog 11 Tryz.f11 Rows.topArrangedSpec Rows.topArrangedRow = true :=
  joined_of (by kernel_rfl) fact_laid fact_rowed (by kernel_rfl) (by kernel_rfl) (by kernel_rfl) (by kernel_rfl) (by kernel_rfl) (by kernel_rfl) topArranged_k10 topArranged_k11 topArranged_k12 topArranged_k13 (by kernel_rfl) (by kernel_rfl) (by kernel_rfl) (by kernel_rfl) (by kernel_rfl) (by kernel_rfl) (by kernel_rfl) (by kernel_rfl) (by kernel_rfl) fact_keys (by kernel_rfl) fact_heard fact_enter fact_lifts (by kernel_rfl) (by kernel_rfl) (by kernel_rfl) (by kernel_rfl) (by kernel_rfl)
theorem topArranged_shaped (os : Os) : (World.laidAll Tryz.prog os Rows.topArrangedRow.laid).Shaped Tryz.prog := World.shaped_of_ZipB (by kernel_rfl) (by kernel_rfl)
set_option maxRecDepth 100000 in
theorem topArranged_lifted (os : Os) (started : os.Started) (H : Type) (enc : TypeId × Value → H) :
    ReturnsInHanded {} Tryz.checked os 11 .any (fun w args => (Rows.topArrangedSpec.pre enc Tryz.prog Tryz.f11 Rows.topArrangedRow.domain false w args ∧ laidMetH Tryz.prog Rows.topArrangedRow.laid w) ∧ sizedMet enc Tryz.prog Tryz.f11 (OpenSpec.ofChange Rows.topArrangedSpec) false w args)
      (Rows.topArrangedSpec.post enc Tryz.prog Tryz.f11 false true false false) :=
  lifted_trueX (X := fun w _ => laidMetH Tryz.prog Rows.topArrangedRow.laid w) (fun _ _ _ hh h => h.of_heap hh) topArranged_own started fact_laid (by kernel_rfl) Tryz.func11 e11 4 rfl Tryz.underlying4 (by kernel_rfl) rfl
    (fun ds h => match ds, h with | [_, _, _, _, _], _ => rfl) _ (by kernel_rfl) law11
    (ChangeSpec.witness_shaped (enc := enc) (C := Tryz.checked) (os := os) (X := fun w _ => laidMetH Tryz.prog Rows.topArrangedRow.laid w) false (World.laidAll Tryz.prog os Rows.topArrangedRow.laid) #[.slice none 0 0, .agg #[.int .i64 0, .int .i64 0, .int .i64 0, .int .i64 0, .int .i64 0, .int .i64 0, .int .i64 0], .agg #[.string ⟨#[]⟩, .int .i64 0, .int .i64 0, .int .i64 0, .int .i64 0, .int .i64 0, .int .i64 0, .int .i64 0], .slice none 0 0, .int .u32 0] 8 (World.laidAll_os _ _ _)
      (topArranged_shaped os) (by kernel_rfl) (by kernel_rfl) (by kernel_rfl)
      (by rw [MakeChecks.laidMetH_plain _ _ _ (by kernel_rfl)]; exact laidMet_laidAll _ (by kernel_rfl) (by kernel_rfl)))
theorem topArranged_row : Rows.TopArrangedSaid :=
  OpenClaim.holds_of_wide 11 Tryz.f11 rfl rfl rfl rfl rfl rfl rfl ⟨rfl, rfl, rfl, rfl, rfl⟩ rfl rfl rfl rfl rfl (by kernel_rfl) Tryz.func11 topArranged_closed
    (of_decide_eq_true (by kernel_rfl)) (by unfold Func.isWrapper; first | (rw [if_pos (by decide +kernel)]; kernel_rfl) | (rw [if_neg (by decide +kernel)]; exact ⟨rfl, rfl⟩))
    (fun os started H enc _ => topArranged_lifted os started H enc)
theorem topArranged_holds : Rows.TopArrangedCardSaid :=
  Claim7.holds_tied_plain_at .later [] [.data, .pinned] true (true, "278b544c7bbe029d8ca56c1be111aef23cacbc8ad750aa12770f0ccc0a1e2e7b") true topArranged_row (fun _ h => by cases h) (by kernel_rfl) (fun _ h => by cases h) topArranged_row_tie rfl ⟨rfl, rfl⟩ fact_main rfl
    (fun f fn hf hfn => by
      obtain rfl : f = 11 := Option.some.inj ((show Tryz.prog.funcNamed "deadwax/deadwaxtop.TopArranged" = some 11 by kernel_rfl).symm.trans hf) |>.symm
      obtain rfl : fn = Tryz.f11 := (Option.some.inj (Tryz.func11.symm.trans hfn)).symm
      exact ⟨fact_looks, fun j t ht => by
        rw [Tryz.params11] at ht
        have hm : t ∈ [104, 26, 99, 105, 106] := by simpa using Array.mem_of_getElem? ht
        have hall : ([104, 26, 99, 105, 106].all fun u => !Tryz.prog.wantsStandIn u) = true := by kernel_rfl
        exact (show Tryz.prog.wantsStandIn t = false by simpa using List.all_eq_true.1 hall t hm)⟩)
    topArranged_goes
end Go.Proofs.YthlebjnhcinheaaGreatDoor
