/- A limited programme fits in the band of a track whose pitch is twice the half width, twice the gain of the ceiling, and the land. -/
import Derived.Test.YthlebjnhcinheaaGreatDoorPrTopCeiledC
import Derived.Test.YthlebjnhcinheaaGreatDoorFa
import Derived.Test.YthlebjnhcinheaaGreatDoorFb
import Derived.Test.YthlebjnhcinheaaGreatDoorFc
import Derived.Test.YthlebjnhcinheaaGreatDoorFfTopCeiled
import Derived.Test.YthlebjnhcinheaaGreatDoorXe
import Derived.Test.YthlebjnhcinheaaGreatDoorXf
import Derived.Test.YthlebjnhcinheaaGreatDoorCards
import Derived.Test.YthlebjnhcinheaaGreatDoorTie
import Derived.ProofKit
import Derived.OpenShut
import Derived.LaidMore
import Derived.Lay
import Derived.SevenTiedAt
import Derived.Stop.Joined
namespace Go.Sx
open Go Go.Proofs
theorem law18 (rows : List (List Cell)) (H0 : WfRows [(false, [.sl KS]), (false, [.int .u16]), (false, [.int .u8]), (true, [.int .i64, .int .i64, .int .i64, .int .i64, .int .i64, .int .i64, .int .i64]), (false, [.int .u16]), (false, [.int .u32]), (false, [.int .u8])] rows) : PSpec Tryz.prog 18 (xvs [(false, [.sl KS]), (false, [.int .u16]), (false, [.int .u8]), (true, [.int .i64, .int .i64, .int .i64, .int .i64, .int .i64, .int .i64, .int .i64]), (false, [.int .u16]), (false, [.int .u32]), (false, [.int .u8])] rows) (.x (.one (.prp True instDecidableTrue))) := by
  obtain ⟨x0, _, rfl, w0, H1⟩ := H0.sl
  obtain ⟨a0, rfl, h0⟩ := wf_smps w0
  obtain ⟨a1, _, rfl, b1, H2⟩ := H1.int
  obtain ⟨a2, _, rfl, b2, H3⟩ := H2.int
  obtain ⟨r3, _, rfl, k3_0, H4⟩ := H3.inv
  obtain ⟨c3_0, _, rfl, g3_0, k3_1⟩ := k3_0.inv
  obtain ⟨n3_0, rfl, _⟩ := g3_0.int_inv
  obtain ⟨c3_1, _, rfl, g3_1, k3_2⟩ := k3_1.inv
  obtain ⟨n3_1, rfl, _⟩ := g3_1.int_inv
  obtain ⟨c3_2, _, rfl, g3_2, k3_3⟩ := k3_2.inv
  obtain ⟨n3_2, rfl, _⟩ := g3_2.int_inv
  obtain ⟨c3_3, _, rfl, g3_3, k3_4⟩ := k3_3.inv
  obtain ⟨n3_3, rfl, _⟩ := g3_3.int_inv
  obtain ⟨c3_4, _, rfl, g3_4, k3_5⟩ := k3_4.inv
  obtain ⟨n3_4, rfl, _⟩ := g3_4.int_inv
  obtain ⟨c3_5, _, rfl, g3_5, k3_6⟩ := k3_5.inv
  obtain ⟨n3_5, rfl, _⟩ := g3_5.int_inv
  obtain ⟨c3_6, _, rfl, g3_6, k3_7⟩ := k3_6.inv
  obtain ⟨n3_6, rfl, _⟩ := g3_6.int_inv
  cases k3_7.nil_inv
  obtain ⟨a4, _, rfl, b4, H5⟩ := H4.int
  obtain ⟨a5, _, rfl, b5, H6⟩ := H5.int
  obtain ⟨a6, _, rfl, b6, H7⟩ := H6.int
  cases H7.nil_inv
  exact s18 a0 a1 a2 ⟨n3_0, n3_1, n3_2, n3_3, n3_4, n3_5, n3_6⟩ a4 a5 a6 h0 b1 b2 b4 b5 b6
end Go.Sx
namespace Go.Proofs.YthlebjnhcinheaaGreatDoor
open Go.Sx
theorem topCeiled_own : ownKnob Tryz.prog.godebug = none := by kernel_rfl
theorem topCeiled_closed : joinedFacts Tryz.prog 18 Tryz.f18 Rows.topCeiledSpec Rows.topCeiledRow = true :=
  joined_of (by kernel_rfl) fact_laid fact_rowed (by kernel_rfl) (by kernel_rfl) (by kernel_rfl) (by kernel_rfl) (by kernel_rfl) (by kernel_rfl) topCeiled_k10 topCeiled_k11 topCeiled_k12 topCeiled_k13 (by kernel_rfl) (by kernel_rfl) (by kernel_rfl) (by kernel_rfl) (by kernel_rfl) (by kernel_rfl) (by kernel_rfl) (by kernel_rfl) (by kernel_rfl) fact_keys (by kernel_rfl) fact_heard fact_enter fact_lifts (by kernel_rfl) (by kernel_rfl) (by kernel_rfl) (by kernel_rfl) (by kernel_rfl)
theorem topCeiled_shaped (os : Os) : (World.laidAll Tryz.prog os Rows.topCeiledRow.laid).Shaped Tryz.prog := World.shaped_of_ZipB (by kernel_rfl) (by kernel_rfl)
set_option maxRecDepth 100000 in
theorem topCeiled_lifted (os : Os) (started : os.Started) (H : Type) (enc : TypeId × Value → H) :
    ReturnsInHanded {} Tryz.checked os 18 .any (fun w args => (Rows.topCeiledSpec.pre enc Tryz.prog Tryz.f18 Rows.topCeiledRow.domain false w args ∧ laidMetH Tryz.prog Rows.topCeiledRow.laid w) ∧ sizedMet enc Tryz.prog Tryz.f18 (OpenSpec.ofChange Rows.topCeiledSpec) false w args)
      (Rows.topCeiledSpec.post enc Tryz.prog Tryz.f18 false true false false) :=
  lifted_trueX (X := fun w _ => laidMetH Tryz.prog Rows.topCeiledRow.laid w) (fun _ _ _ hh h => h.of_heap hh) topCeiled_own started fact_laid (by kernel_rfl) Tryz.func18 e18 4 rfl Tryz.underlying4 (by kernel_rfl) rfl
    (fun ds h => match ds, h with | [_, _, _, _, _, _, _], _ => rfl) _ (by kernel_rfl) law18
    (ChangeSpec.witness_shaped (enc := enc) (C := Tryz.checked) (os := os) (X := fun w _ => laidMetH Tryz.prog Rows.topCeiledRow.laid w) false (World.laidAll Tryz.prog os Rows.topCeiledRow.laid) #[.slice none 0 0, .int .u16 0, .int .u8 0, .agg #[.int .i64 0, .int .i64 0, .int .i64 0, .int .i64 0, .int .i64 0, .int .i64 0, .int .i64 0], .int .u16 0, .int .u32 0, .int .u8 0] 8 (World.laidAll_os _ _ _)
      (topCeiled_shaped os) (by kernel_rfl) (by kernel_rfl) (by kernel_rfl)
      (by rw [MakeChecks.laidMetH_plain _ _ _ (by kernel_rfl)]; exact laidMet_laidAll _ (by kernel_rfl) (by kernel_rfl)))
theorem topCeiled_row : Rows.TopCeiledSaid :=
  OpenClaim.holds_of_wide 18 Tryz.f18 rfl rfl rfl rfl rfl rfl rfl ⟨rfl, rfl, rfl, rfl, rfl⟩ rfl rfl rfl rfl rfl (by kernel_rfl) Tryz.func18 topCeiled_closed
    (of_decide_eq_true (by kernel_rfl)) (by unfold Func.isWrapper; first | (rw [if_pos (by decide +kernel)]; kernel_rfl) | (rw [if_neg (by decide +kernel)]; exact ⟨rfl, rfl⟩))
    (fun os started H enc _ => topCeiled_lifted os started H enc)
theorem topCeiled_holds : Rows.TopCeiledCardSaid :=
  Claim7.holds_tied_plain_at .later [] [.data, .pinned] true (true, "278b544c7bbe029d8ca56c1be111aef23cacbc8ad750aa12770f0ccc0a1e2e7b") true topCeiled_row (fun _ h => by cases h) (by kernel_rfl) (fun _ h => by cases h) topCeiled_row_tie rfl ⟨rfl, rfl⟩ fact_main rfl
    (fun f fn hf hfn => by
      obtain rfl : f = 18 := Option.some.inj ((show Tryz.prog.funcNamed "deadwax/deadwaxtop.TopCeiled" = some 18 by kernel_rfl).symm.trans hf) |>.symm
      obtain rfl : fn = Tryz.f18 := (Option.some.inj (Tryz.func18.symm.trans hfn)).symm
      exact ⟨fact_looks, fun j t ht => by
        rw [Tryz.params18] at ht
        have hm : t ∈ [27, 88, 5, 26, 88, 106, 5] := by simpa using Array.mem_of_getElem? ht
        have hall : ([27, 88, 5, 26, 88, 106, 5].all fun u => !Tryz.prog.wantsStandIn u) = true := by kernel_rfl
        exact (show Tryz.prog.wantsStandIn t = false by simpa using List.all_eq_true.1 hall t hm)⟩)
    topCeiled_goes
end Go.Proofs.YthlebjnhcinheaaGreatDoor
