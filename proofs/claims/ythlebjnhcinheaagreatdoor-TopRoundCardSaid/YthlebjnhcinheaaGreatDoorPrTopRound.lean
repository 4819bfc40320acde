/- Whatever the takes, parts, chains of curves and cutter are, the law TopRound answers true and leaves its arguments as they were. -/
import Derived.Test.YthlebjnhcinheaaGreatDoorPrTopRoundC
import Derived.Test.YthlebjnhcinheaaGreatDoorFa
import Derived.Test.YthlebjnhcinheaaGreatDoorFb
import Derived.Test.YthlebjnhcinheaaGreatDoorFc
import Derived.Test.YthlebjnhcinheaaGreatDoorFfTopRound
import Derived.Test.YthlebjnhcinheaaGreatDoorXe
import Derived.Test.YthlebjnhcinheaaGreatDoorXf
import Derived.Test.YthlebjnhcinheaaGreatDoorCards
import Derived.Test.YthlebjnhcinheaaGreatDoorTie
import Derived.ProofKit
import Derived.OpenShut
import Derived.LaidMore
import Derived.Lay
import Derived.SevenTiedAt
import Derived.Stop.Joined
namespace Go.Sx
open Go Go.Proofs
theorem law3 (rows : List (List Cell)) (H0 : WfRows [(false, [.sl KT]), (false, [.sl K7i]), (false, [.sl KC]), (false, [.sl KC]), (true, [.int .i64, .int .i64, .int .i64, .int .i64, .int .i64, .int .i64, .int .i64])] rows) : PSpec Tryz.prog 3 (xvs [(false, [.sl KT]), (false, [.sl K7i]), (false, [.sl KC]), (false, [.sl KC]), (true, [.int .i64, .int .i64, .int .i64, .int .i64, .int .i64, .int .i64, .int .i64])] rows) (.x (.one (.prp True instDecidableTrue))) := by
  obtain ⟨a0, _, rfl, w0, H1⟩ := H0.sl
  obtain ⟨T, rfl, hT⟩ := wf_taks w0
  obtain ⟨a1, _, rfl, w1, H2⟩ := H1.sl
  obtain ⟨l, rfl⟩ := wf_prts w1
  obtain ⟨a2, _, rfl, w2, H3⟩ := H2.sl
  obtain ⟨L, rfl⟩ := wf_crvs w2
  obtain ⟨a3, _, rfl, w3, H4⟩ := H3.sl
  obtain ⟨R, rfl⟩ := wf_crvs w3
  obtain ⟨r4, _, rfl, k0, H5⟩ := H4.inv
  cases H5.nil_inv
  obtain ⟨c0, _, rfl, g0, k1⟩ := k0.inv
  obtain ⟨n0, rfl, _⟩ := g0.int_inv
  obtain ⟨c1, _, rfl, g1, k2⟩ := k1.inv
  obtain ⟨n1, rfl, _⟩ := g1.int_inv
  obtain ⟨c2, _, rfl, g2, k3⟩ := k2.inv
  obtain ⟨n2, rfl, _⟩ := g2.int_inv
  obtain ⟨c3, _, rfl, g3, k4⟩ := k3.inv
  obtain ⟨n3, rfl, _⟩ := g3.int_inv
  obtain ⟨c4, _, rfl, g4, k5⟩ := k4.inv
  obtain ⟨n4, rfl, _⟩ := g4.int_inv
  obtain ⟨c5, _, rfl, g5, k6⟩ := k5.inv
  obtain ⟨n5, rfl, _⟩ := g5.int_inv
  obtain ⟨c6, _, rfl, g6, k7⟩ := k6.inv
  obtain ⟨n6, rfl, _⟩ := g6.int_inv
  cases k7.nil_inv
  exact s3 T l L R ⟨n0, n1, n2, n3, n4, n5, n6⟩ hT
end Go.Sx
namespace Go.Proofs.YthlebjnhcinheaaGreatDoor
open Go.Sx
theorem topRound_own : ownKnob Tryz.prog.godebug = none := by kernel_rfl
theorem topRound_closed : joinedFacts Tryz.prog 3 Tryz.f3 Rows.topRoundSpec Rows.topRoundRow = true :=
  joined_of (by kernel_rfl) fact_laid fact_rowed (by kernel_rfl) (by kernel_rfl) (by kernel_rfl) (by kernel_rfl) (by kernel_rfl) (by kernel_rfl) topRound_k10 topRound_k11 topRound_k12 topRound_k13 (by kernel_rfl) (by kernel_rfl) (by kernel_rfl) (by kernel_rfl) (by kernel_rfl) (by kernel_rfl) (by kernel_rfl) (by kernel_rfl) (by kernel_rfl) fact_keys (by kernel_rfl) fact_heard fact_enter fact_lifts (by kernel_rfl) (by kernel_rfl) (by kernel_rfl) (by kernel_rfl) (by kernel_rfl)
theorem topRound_shaped (os : Os) : (World.laidAll Tryz.prog os Rows.topRoundRow.laid).Shaped Tryz.prog := World.shaped_of_ZipB (by kernel_rfl) (by kernel_rfl)
set_option maxRecDepth 100000 in
theorem topRound_lifted (os : Os) (started : os.Started) (H : Type) (enc : TypeId × Value → H) :
    ReturnsInHanded {} Tryz.checked os 3 .any (fun w args => (Rows.topRoundSpec.pre enc Tryz.prog Tryz.f3 Rows.topRoundRow.domain false w args ∧ laidMetH Tryz.prog Rows.topRoundRow.laid w) ∧ sizedMet enc Tryz.prog Tryz.f3 (OpenSpec.ofChange Rows.topRoundSpec) false w args)
      (Rows.topRoundSpec.post enc Tryz.prog Tryz.f3 false true false false) :=
  lifted_trueX (X := fun w _ => laidMetH Tryz.prog Rows.topRoundRow.laid w) (fun _ _ _ hh h => h.of_heap hh) topRound_own started fact_laid (by kernel_rfl) Tryz.func3 e3 4 rfl Tryz.underlying4 (by kernel_rfl) rfl
    (fun ds h => match ds, h with | [_, _, _, _, _], _ => rfl) _ (by kernel_rfl) law3
    (ChangeSpec.witness_shaped (enc := enc) (C := Tryz.checked) (os := os) (X := fun w _ => laidMetH Tryz.prog Rows.topRoundRow.laid w) false (World.laidAll Tryz.prog os Rows.topRoundRow.laid) #[.slice none 0 0, .slice none 0 0, .slice none 0 0, .slice none 0 0, .agg #[.int .i64 0, .int .i64 0, .int .i64 0, .int .i64 0, .int .i64 0, .int .i64 0, .int .i64 0]] 8 (World.laidAll_os _ _ _)
      (topRound_shaped os) (by kernel_rfl) (by kernel_rfl) (by kernel_rfl)
      (by rw [MakeChecks.laidMetH_plain _ _ _ (by kernel_rfl)]; exact laidMet_laidAll _ (by kernel_rfl) (by kernel_rfl)))
theorem topRound_row : Rows.TopRoundSaid :=
  OpenClaim.holds_of_wide 3 Tryz.f3 rfl rfl rfl rfl rfl rfl rfl ⟨rfl, rfl, rfl, rfl, rfl⟩ rfl rfl rfl rfl rfl (by kernel_rfl) Tryz.func3 topRound_closed
    (of_decide_eq_true (by kernel_rfl)) (by unfold Func.isWrapper; first | (rw [if_pos (by decide +kernel)]; kernel_rfl) | (rw [if_neg (by decide +kernel)]; exact ⟨rfl, rfl⟩))
    (fun os started H enc _ => topRound_lifted os started H enc)
theorem topRound_holds : Rows.TopRoundCardSaid :=
  Claim7.holds_tied_plain_at .later [] [.data, .pinned] true (true, "278b544c7bbe029d8ca56c1be111aef23cacbc8ad750aa12770f0ccc0a1e2e7b") true topRound_row (fun _ h => by cases h) (by kernel_rfl) (fun _ h => by cases h) topRound_row_tie rfl ⟨rfl, rfl⟩ fact_main rfl
    (fun f fn hf hfn => by
      obtain rfl : f = 3 := Option.some.inj ((show Tryz.prog.funcNamed "deadwax/deadwaxtop.TopRound" = some 3 by kernel_rfl).symm.trans hf) |>.symm
      obtain rfl : fn = Tryz.f3 := (Option.some.inj (Tryz.func3.symm.trans hfn)).symm
      exact ⟨fact_looks, fun j t ht => by
        rw [Tryz.params3] at ht
        have hm : t ∈ [22, 23, 24, 24, 26] := by simpa using Array.mem_of_getElem? ht
        have hall : ([22, 23, 24, 24, 26].all fun u => !Tryz.prog.wantsStandIn u) = true := by kernel_rfl
        exact (show Tryz.prog.wantsStandIn t = false by simpa using List.all_eq_true.1 hall t hm)⟩)
    topRound_goes
end Go.Proofs.YthlebjnhcinheaaGreatDoor
