/- A mono signal after a tame curve fits in the band of a track whose pitch is twice the half width, twice the gain of the bound of the curve for its amounts, and the land. -/
import Derived.Test.YthlebjnhcinheaaGreatDoorPrTopPitchedC
import Derived.Test.YthlebjnhcinheaaGreatDoorFa
import Derived.Test.YthlebjnhcinheaaGreatDoorFb
import Derived.Test.YthlebjnhcinheaaGreatDoorFc
import Derived.Test.YthlebjnhcinheaaGreatDoorFfTopPitched
import Derived.Test.YthlebjnhcinheaaGreatDoorXe
import Derived.Test.YthlebjnhcinheaaGreatDoorXf
import Derived.Test.YthlebjnhcinheaaGreatDoorCards
import Derived.Test.YthlebjnhcinheaaGreatDoorTie
import Derived.ProofKit
import Derived.OpenShut
import Derived.LaidMore
import Derived.Lay
import Derived.SevenTiedAt
import Derived.Stop.Joined
namespace Go.Sx
open Go Go.Proofs
theorem law17 (rows : List (List Cell)) (H0 : WfRows [(false, [.sl [.int .i64]]), (true, [.sl [.int .i64], .sl [.int .i64], .int .i64]), (true, [.int .i64, .int .i64, .int .i64, .int .i64, .int .i64, .int .i64, .int .i64]), (false, [.int .u16]), (false, [.int .u32]), (false, [.int .u8])] rows) : PSpec Tryz.prog 17 (xvs [(false, [.sl [.int .i64]]), (true, [.sl [.int .i64], .sl [.int .i64], .int .i64]), (true, [.int .i64, .int .i64, .int .i64, .int .i64, .int .i64, .int .i64, .int .i64]), (false, [.int .u16]), (false, [.int .u32]), (false, [.int .u8])] rows) (.x (.one (.prp True instDecidableTrue))) := by
  obtain ⟨x0, _, rfl, w0, H1⟩ := H0.sl
  obtain ⟨a0, rfl, h0⟩ := wf_ints w0
  obtain ⟨r1, _, rfl, k1_0, H2⟩ := H1.inv
  obtain ⟨c1_0, _, rfl, g1_0, k1_1⟩ := k1_0.inv
  obtain ⟨y1_0, rfl, v1_0⟩ := g1_0.sl_inv
  obtain ⟨z1_0, rfl, _⟩ := wf_ints v1_0
  obtain ⟨c1_1, _, rfl, g1_1, k1_2⟩ := k1_1.inv
  obtain ⟨y1_1, rfl, v1_1⟩ := g1_1.sl_inv
  obtain ⟨z1_1, rfl, _⟩ := wf_ints v1_1
  obtain ⟨c1_2, _, rfl, g1_2, k1_3⟩ := k1_2.inv
  obtain ⟨n1_2, rfl, _⟩ := g1_2.int_inv
  cases k1_3.nil_inv
  obtain ⟨r2, _, rfl, k2_0, H3⟩ := H2.inv
  obtain ⟨c2_0, _, rfl, g2_0, k2_1⟩ := k2_0.inv
  obtain ⟨n2_0, rfl, _⟩ := g2_0.int_inv
  obtain ⟨c2_1, _, rfl, g2_1, k2_2⟩ := k2_1.inv
  obtain ⟨n2_1, rfl, _⟩ := g2_1.int_inv
  obtain ⟨c2_2, _, rfl, g2_2, k2_3⟩ := k2_2.inv
  obtain ⟨n2_2, rfl, _⟩ := g2_2.int_inv
  obtain ⟨c2_3, _, rfl, g2_3, k2_4⟩ := k2_3.inv
  obtain ⟨n2_3, rfl, _⟩ := g2_3.int_inv
  obtain ⟨c2_4, _, rfl, g2_4, k2_5⟩ := k2_4.inv
  obtain ⟨n2_4, rfl, _⟩ := g2_4.int_inv
  obtain ⟨c2_5, _, rfl, g2_5, k2_6⟩ := k2_5.inv
  obtain ⟨n2_5, rfl, _⟩ := g2_5.int_inv
  obtain ⟨c2_6, _, rfl, g2_6, k2_7⟩ := k2_6.inv
  obtain ⟨n2_6, rfl, _⟩ := g2_6.int_inv
  cases k2_7.nil_inv
  obtain ⟨a3, _, rfl, b3, H4⟩ := H3.int
  obtain ⟨a4, _, rfl, b4, H5⟩ := H4.int
  obtain ⟨a5, _, rfl, b5, H6⟩ := H5.int
  cases H6.nil_inv
  exact s17 a0 ⟨z1_0, z1_1, n1_2⟩ ⟨n2_0, n2_1, n2_2, n2_3, n2_4, n2_5, n2_6⟩ a3 a4 a5 b3 b4 b5
end Go.Sx
namespace Go.Proofs.YthlebjnhcinheaaGreatDoor
open Go.Sx
theorem topPitched_own : ownKnob Tryz.prog.godebug = none := by kernel_rfl
theorem topPitched_closed : joinedFacts Tryz.prog 17 Tryz.f17 Rows.topPitchedSpec Rows.topPitchedRow = true :=
  joined_of (by kernel_rfl) fact_laid fact_rowed (by kernel_rfl) (by kernel_rfl) (by kernel_rfl) (by kernel_rfl) (by kernel_rfl) (by kernel_rfl) topPitched_k10 topPitched_k11 topPitched_k12 topPitched_k13 (by kernel_rfl) (by kernel_rfl) (by kernel_rfl) (by kernel_rfl) (by kernel_rfl) (by kernel_rfl) (by kernel_rfl) (by kernel_rfl) (by kernel_rfl) fact_keys (by kernel_rfl) fact_heard fact_enter fact_lifts (by kernel_rfl) (by kernel_rfl) (by kernel_rfl) (by kernel_rfl) (by kernel_rfl)
theorem topPitched_shaped (os : Os) : (World.laidAll Tryz.prog os Rows.topPitchedRow.laid).Shaped Tryz.prog := World.shaped_of_ZipB (by kernel_rfl) (by kernel_rfl)
set_option maxRecDepth 100000 in
theorem topPitched_lifted (os : Os) (started : os.Started) (H : Type) (enc : TypeId × Value → H) :
    ReturnsInHanded {} Tryz.checked os 17 .any (fun w args => (Rows.topPitchedSpec.pre enc Tryz.prog Tryz.f17 Rows.topPitchedRow.domain false w args ∧ laidMetH Tryz.prog Rows.topPitchedRow.laid w) ∧ sizedMet enc Tryz.prog Tryz.f17 (OpenSpec.ofChange Rows.topPitchedSpec) false w args)
      (Rows.topPitchedSpec.post enc Tryz.prog Tryz.f17 false true false false) :=
  lifted_trueX (X := fun w _ => laidMetH Tryz.prog Rows.topPitchedRow.laid w) (fun _ _ _ hh h => h.of_heap hh) topPitched_own started fact_laid (by kernel_rfl) Tryz.func17 e17 4 rfl Tryz.underlying4 (by kernel_rfl) rfl
    (fun ds h => match ds, h with | [_, _, _, _, _, _], _ => rfl) _ (by kernel_rfl) law17
    (ChangeSpec.witness_shaped (enc := enc) (C := Tryz.checked) (os := os) (X := fun w _ => laidMetH Tryz.prog Rows.topPitchedRow.laid w) false (World.laidAll Tryz.prog os Rows.topPitchedRow.laid) #[.slice none 0 0, .agg #[.slice none 0 0, .slice none 0 0, .int .i64 0], .agg #[.int .i64 0, .int .i64 0, .int .i64 0, .int .i64 0, .int .i64 0, .int .i64 0, .int .i64 0], .int .u16 0, .int .u32 0, .int .u8 0] 8 (World.laidAll_os _ _ _)
      (topPitched_shaped os) (by kernel_rfl) (by kernel_rfl) (by kernel_rfl)
      (by rw [MakeChecks.laidMetH_plain _ _ _ (by kernel_rfl)]; exact laidMet_laidAll _ (by kernel_rfl) (by kernel_rfl)))
theorem topPitched_row : Rows.TopPitchedSaid :=
  OpenClaim.holds_of_wide 17 Tryz.f17 rfl rfl rfl rfl rfl rfl rfl ⟨rfl, rfl, rfl, rfl, rfl⟩ rfl rfl rfl rfl rfl (by kernel_rfl) Tryz.func17 topPitched_closed
    (of_decide_eq_true (by kernel_rfl)) (by unfold Func.isWrapper; first | (rw [if_pos (by decide +kernel)]; kernel_rfl) | (rw [if_neg (by decide +kernel)]; exact ⟨rfl, rfl⟩))
    (fun os started H enc _ => topPitched_lifted os started H enc)
theorem topPitched_holds : Rows.TopPitchedCardSaid :=
  Claim7.holds_tied_plain_at .later [] [.data, .pinned] true (true, "278b544c7bbe029d8ca56c1be111aef23cacbc8ad750aa12770f0ccc0a1e2e7b") true topPitched_row (fun _ h => by cases h) (by kernel_rfl) (fun _ h => by cases h) topPitched_row_tie rfl ⟨rfl, rfl⟩ fact_main rfl
    (fun f fn hf hfn => by
      obtain rfl : f = 17 := Option.some.inj ((show Tryz.prog.funcNamed "deadwax/deadwaxtop.TopPitched" = some 17 by kernel_rfl).symm.trans hf) |>.symm
      obtain rfl : fn = Tryz.f17 := (Option.some.inj (Tryz.func17.symm.trans hfn)).symm
      exact ⟨fact_looks, fun j t ht => by
        rw [Tryz.params17] at ht
        have hm : t ∈ [37, 80, 26, 88, 106, 5] := by simpa using Array.mem_of_getElem? ht
        have hall : ([37, 80, 26, 88, 106, 5].all fun u => !Tryz.prog.wantsStandIn u) = true := by kernel_rfl
        exact (show Tryz.prog.wantsStandIn t = false by simpa using List.all_eq_true.1 hall t hm)⟩)
    topPitched_goes
end Go.Proofs.YthlebjnhcinheaaGreatDoor
