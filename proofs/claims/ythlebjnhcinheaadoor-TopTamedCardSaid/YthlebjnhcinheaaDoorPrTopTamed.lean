/- A signal within the headroom of a tame curve is not too loud after it; cut on both channels alike it has a groove of the same width everywhere, whose edges move by no more than the gain of the curve's bound. -/
import Derived.Test.YthlebjnhcinheaaDoorPrTopTamedB
import Derived.Test.YthlebjnhcinheaaDoorFa
import Derived.Test.YthlebjnhcinheaaDoorFb
import Derived.Test.YthlebjnhcinheaaDoorFc
import Derived.Test.YthlebjnhcinheaaDoorFfTopTamed
import Derived.Test.YthlebjnhcinheaaDoorXe
import Derived.Test.YthlebjnhcinheaaDoorXf
import Derived.Test.YthlebjnhcinheaaDoorCards
import Derived.Test.YthlebjnhcinheaaDoorTie
import Derived.ProofKit
import Derived.OpenShut
import Derived.LaidMore
import Derived.Lay
import Derived.SevenTiedAt
import Derived.Stop.Joined
namespace Go.Sx
open Go Go.Proofs
theorem law3 (rows : List (List Cell)) (H0 : WfRows [(false, [.sl [.int .i64]]), (true, [.sl [.int .i64], .sl [.int .i64], .int .i64]), (true, [.int .i64, .int .i64, .int .i64, .int .i64, .int .i64, .int .i64, .int .i64])] rows) : PSpec Tryd.prog 3 (xvs [(false, [.sl [.int .i64]]), (true, [.sl [.int .i64], .sl [.int .i64], .int .i64]), (true, [.int .i64, .int .i64, .int .i64, .int .i64, .int .i64, .int .i64, .int .i64])] rows) (.x (.one (.prp True instDecidableTrue))) := by
  obtain ⟨x0, _, rfl, w0, H1⟩ := H0.sl
  obtain ⟨a0, rfl, h0⟩ := wf_ints w0
  obtain ⟨r1, _, rfl, k1_0, H2⟩ := H1.inv
  obtain ⟨c1_0, _, rfl, g1_0, k1_1⟩ := k1_0.inv
  obtain ⟨y1_0, rfl, v1_0⟩ := g1_0.sl_inv
  obtain ⟨z1_0, rfl, _⟩ := wf_ints v1_0
  obtain ⟨c1_1, _, rfl, g1_1, k1_2⟩ := k1_1.inv
  obtain ⟨y1_1, rfl, v1_1⟩ := g1_1.sl_inv
  obtain ⟨z1_1, rfl, _⟩ := wf_ints v1_1
  obtain ⟨c1_2, _, rfl, g1_2, k1_3⟩ := k1_2.inv
  obtain ⟨n1_2, rfl, _⟩ := g1_2.int_inv
  cases k1_3.nil_inv
  obtain ⟨r2, _, rfl, k2_0, H3⟩ := H2.inv
  obtain ⟨c2_0, _, rfl, g2_0, k2_1⟩ := k2_0.inv
  obtain ⟨n2_0, rfl, _⟩ := g2_0.int_inv
  obtain ⟨c2_1, _, rfl, g2_1, k2_2⟩ := k2_1.inv
  obtain ⟨n2_1, rfl, _⟩ := g2_1.int_inv
  obtain ⟨c2_2, _, rfl, g2_2, k2_3⟩ := k2_2.inv
  obtain ⟨n2_2, rfl, _⟩ := g2_2.int_inv
  obtain ⟨c2_3, _, rfl, g2_3, k2_4⟩ := k2_3.inv
  obtain ⟨n2_3, rfl, _⟩ := g2_3.int_inv
  obtain ⟨c2_4, _, rfl, g2_4, k2_5⟩ := k2_4.inv
  obtain ⟨n2_4, rfl, _⟩ := g2_4.int_inv
  obtain ⟨c2_5, _, rfl, g2_5, k2_6⟩ := k2_5.inv
  obtain ⟨n2_5, rfl, _⟩ := g2_5.int_inv
  obtain ⟨c2_6, _, rfl, g2_6, k2_7⟩ := k2_6.inv
  obtain ⟨n2_6, rfl, _⟩ := g2_6.int_inv
  cases k2_7.nil_inv
  cases H3.nil_inv
  exact s3 a0 ⟨z1_0, z1_1, n1_2⟩ ⟨n2_0, n2_1, n2_2, n2_3, n2_4, n2_5, n2_6⟩
end Go.Sx
namespace Go.Proofs.YthlebjnhcinheaaDoor
open Go.Sx
theorem topTamed_own : ownKnob Tryd.prog.godebug = none := by kernel_rfl
theorem topTamed_closed : joinedFacts Tryd.prog 3 Tryd.f3 Rows.topTamedSpec Rows.topTamedRow = true :=
  joined_of (by kernel_rfl) fact_laid fact_rowed (by kernel_rfl) (by kernel_rfl) (by kernel_rfl) (by kernel_rfl) (by kernel_rfl) (by kernel_rfl) topTamed_k10 topTamed_k11 topTamed_k12 topTamed_k13 (by kernel_rfl) (by kernel_rfl) (by kernel_rfl) (by kernel_rfl) (by kernel_rfl) (by kernel_rfl) (by kernel_rfl) (by kernel_rfl) (by kernel_rfl) fact_keys (by kernel_rfl) fact_heard fact_enter fact_lifts (by kernel_rfl) (by kernel_rfl) (by kernel_rfl) (by kernel_rfl) (by kernel_rfl)
theorem topTamed_shaped (os : Os) : (World.laidAll Tryd.prog os Rows.topTamedRow.laid).Shaped Tryd.prog := World.shaped_of_ZipB (by kernel_rfl) (by kernel_rfl)
set_option maxRecDepth 100000 in
theorem topTamed_lifted (os : Os) (started : os.Started) (H : Type) (enc : TypeId × Value → H) :
    ReturnsInHanded {} Tryd.checked os 3 .any (fun w args => (Rows.topTamedSpec.pre enc Tryd.prog Tryd.f3 Rows.topTamedRow.domain false w args ∧ laidMetH Tryd.prog Rows.topTamedRow.laid w) ∧ sizedMet enc Tryd.prog Tryd.f3 (OpenSpec.ofChange Rows.topTamedSpec) false w args)
      (Rows.topTamedSpec.post enc Tryd.prog Tryd.f3 false true false false) :=
  lifted_trueX (X := fun w _ => laidMetH Tryd.prog Rows.topTamedRow.laid w) (fun _ _ _ hh h => h.of_heap hh) topTamed_own started fact_laid (by kernel_rfl) Tryd.func3 e3 4 rfl Tryd.underlying4 (by kernel_rfl) rfl
    (fun ds h => match ds, h with | [_, _, _], _ => rfl) _ (by kernel_rfl) law3
    (ChangeSpec.witness_shaped (enc := enc) (C := Tryd.checked) (os := os) (X := fun w _ => laidMetH Tryd.prog Rows.topTamedRow.laid w) false (World.laidAll Tryd.prog os Rows.topTamedRow.laid) #[.slice none 0 0, .agg #[.slice none 0 0, .slice none 0 0, .int .i64 0], .agg #[.int .i64 0, .int .i64 0, .int .i64 0, .int .i64 0, .int .i64 0, .int .i64 0, .int .i64 0]] 8 (World.laidAll_os _ _ _)
      (topTamed_shaped os) (by kernel_rfl) (by kernel_rfl) (by kernel_rfl)
      (by rw [MakeChecks.laidMetH_plain _ _ _ (by kernel_rfl)]; exact laidMet_laidAll _ (by kernel_rfl) (by kernel_rfl)))
theorem topTamed_row : Rows.TopTamedSaid :=
  OpenClaim.holds_of_wide 3 Tryd.f3 rfl rfl rfl rfl rfl rfl rfl ⟨rfl, rfl, rfl, rfl, rfl⟩ rfl rfl rfl rfl rfl (by kernel_rfl) Tryd.func3 topTamed_closed
    (of_decide_eq_true (by kernel_rfl)) (by unfold Func.isWrapper; first | (rw [if_pos (by decide +kernel)]; kernel_rfl) | (rw [if_neg (by decide +kernel)]; exact ⟨rfl, rfl⟩))
    (fun os started H enc _ => topTamed_lifted os started H enc)
theorem topTamed_holds : Rows.TopTamedCardSaid :=
  Claim7.holds_tied_plain_at .later [] [.data, .pinned] true (true, "7bac6b45aa015728ca75af97eca7ff058d448c72b3d7b1e04a2f6c030b8771fd") false topTamed_row (fun _ h => by cases h) (by kernel_rfl) (fun _ h => by cases h) topTamed_row_tie rfl ⟨rfl, rfl⟩ fact_main rfl
    (fun f fn hf hfn => by
      obtain rfl : f = 3 := Option.some.inj ((show Tryd.prog.funcNamed "deadwax/deadwaxtop.TopTamed" = some 3 by kernel_rfl).symm.trans hf) |>.symm
      obtain rfl : fn = Tryd.f3 := (Option.some.inj (Tryd.func3.symm.trans hfn)).symm
      exact ⟨fact_looks, fun j t ht => by
        rw [Tryd.params3] at ht
        have hm : t ∈ [22, 24, 26] := by simpa using Array.mem_of_getElem? ht
        have hall : ([22, 24, 26].all fun u => !Tryd.prog.wantsStandIn u) = true := by kernel_rfl
        exact (show Tryd.prog.wantsStandIn t = false by simpa using List.all_eq_true.1 hall t hm)⟩)
    topTamed_goes
end Go.Proofs.YthlebjnhcinheaaDoor
