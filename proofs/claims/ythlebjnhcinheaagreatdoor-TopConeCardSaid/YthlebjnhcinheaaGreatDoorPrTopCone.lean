/- A tip like a cone, whose flank is c farther behind with each sample, reads a groove exactly just if no edge moves by more than c in a sample; so it does if the groove keeps the slope of a cutter at a radius at which the slope allows no more than c. -/
import Derived.Test.YthlebjnhcinheaaGreatDoorPrTopConeB
import Derived.Test.YthlebjnhcinheaaGreatDoorFa
import Derived.Test.YthlebjnhcinheaaGreatDoorFb
import Derived.Test.YthlebjnhcinheaaGreatDoorFc
import Derived.Test.YthlebjnhcinheaaGreatDoorFfTopCone
import Derived.Test.YthlebjnhcinheaaGreatDoorXe
import Derived.Test.YthlebjnhcinheaaGreatDoorXf
import Derived.Test.YthlebjnhcinheaaGreatDoorCards
import Derived.Test.YthlebjnhcinheaaGreatDoorTie
import Derived.ProofKit
import Derived.OpenShut
import Derived.LaidMore
import Derived.Lay
import Derived.SevenTiedAt
import Derived.Stop.Joined
namespace Go.Sx
open Go Go.Proofs
theorem law15 (rows : List (List Cell)) (H0 : WfRows [(false, [.sl KS]), (true, [.int .i64, .int .i64, .int .i64, .int .i64, .int .i64, .int .i64, .int .i64]), (false, [.int .i64]), (false, [.int .i64]), (false, [.int .u8])] rows) : PSpec Tryz.prog 15 (xvs [(false, [.sl KS]), (true, [.int .i64, .int .i64, .int .i64, .int .i64, .int .i64, .int .i64, .int .i64]), (false, [.int .i64]), (false, [.int .i64]), (false, [.int .u8])] rows) (.x (.one (.prp True instDecidableTrue))) := by
  obtain ⟨x0, _, rfl, w0, H1⟩ := H0.sl
  obtain ⟨a0, rfl, h0⟩ := wf_smps w0
  obtain ⟨r1, _, rfl, k1_0, H2⟩ := H1.inv
  obtain ⟨c1_0, _, rfl, g1_0, k1_1⟩ := k1_0.inv
  obtain ⟨n1_0, rfl, _⟩ := g1_0.int_inv
  obtain ⟨c1_1, _, rfl, g1_1, k1_2⟩ := k1_1.inv
  obtain ⟨n1_1, rfl, _⟩ := g1_1.int_inv
  obtain ⟨c1_2, _, rfl, g1_2, k1_3⟩ := k1_2.inv
  obtain ⟨n1_2, rfl, _⟩ := g1_2.int_inv
  obtain ⟨c1_3, _, rfl, g1_3, k1_4⟩ := k1_3.inv
  obtain ⟨n1_3, rfl, _⟩ := g1_3.int_inv
  obtain ⟨c1_4, _, rfl, g1_4, k1_5⟩ := k1_4.inv
  obtain ⟨n1_4, rfl, _⟩ := g1_4.int_inv
  obtain ⟨c1_5, _, rfl, g1_5, k1_6⟩ := k1_5.inv
  obtain ⟨n1_5, rfl, _⟩ := g1_5.int_inv
  obtain ⟨c1_6, _, rfl, g1_6, k1_7⟩ := k1_6.inv
  obtain ⟨n1_6, rfl, _⟩ := g1_6.int_inv
  cases k1_7.nil_inv
  obtain ⟨a2, _, rfl, b2, H3⟩ := H2.int
  obtain ⟨a3, _, rfl, b3, H4⟩ := H3.int
  obtain ⟨a4, _, rfl, b4, H5⟩ := H4.int
  cases H5.nil_inv
  exact s15 a0 ⟨n1_0, n1_1, n1_2, n1_3, n1_4, n1_5, n1_6⟩ a2 a3 a4 b4
end Go.Sx
namespace Go.Proofs.YthlebjnhcinheaaGreatDoor
open Go.Sx
theorem topCone_own : ownKnob Tryz.prog.godebug = none := by kernel_rfl
theorem topCone_closed : joinedFacts Tryz.prog 15 Tryz.f15 Rows.topConeSpec Rows.topConeRow = true :=
  joined_of (by kernel_rfl) fact_laid fact_rowed (by kernel_rfl) (by kernel_rfl) (by kernel_rfl) (by kernel_rfl) (by kernel_rfl) (by kernel_rfl) topCone_k10 topCone_k11 topCone_k12 topCone_k13 (by kernel_rfl) (by kernel_rfl) (by kernel_rfl) (by kernel_rfl) (by kernel_rfl) (by kernel_rfl) (by kernel_rfl) (by kernel_rfl) (by kernel_rfl) fact_keys (by kernel_rfl) fact_heard fact_enter fact_lifts (by kernel_rfl) (by kernel_rfl) (by kernel_rfl) (by kernel_rfl) (by kernel_rfl)
theorem topCone_shaped (os : Os) : (World.laidAll Tryz.prog os Rows.topConeRow.laid).Shaped Tryz.prog := World.shaped_of_ZipB (by kernel_rfl) (by kernel_rfl)
set_option maxRecDepth 100000 in
theorem topCone_lifted (os : Os) (started : os.Started) (H : Type) (enc : TypeId × Value → H) :
    ReturnsInHanded {} Tryz.checked os 15 .any (fun w args => (Rows.topConeSpec.pre enc Tryz.prog Tryz.f15 Rows.topConeRow.domain false w args ∧ laidMetH Tryz.prog Rows.topConeRow.laid w) ∧ sizedMet enc Tryz.prog Tryz.f15 (OpenSpec.ofChange Rows.topConeSpec) false w args)
      (Rows.topConeSpec.post enc Tryz.prog Tryz.f15 false true false false) :=
  lifted_trueX (X := fun w _ => laidMetH Tryz.prog Rows.topConeRow.laid w) (fun _ _ _ hh h => h.of_heap hh) topCone_own started fact_laid (by kernel_rfl) Tryz.func15 e15 4 rfl Tryz.underlying4 (by kernel_rfl) rfl
    (fun ds h => match ds, h with | [_, _, _, _, _], _ => rfl) _ (by kernel_rfl) law15
    (ChangeSpec.witness_shaped (enc := enc) (C := Tryz.checked) (os := os) (X := fun w _ => laidMetH Tryz.prog Rows.topConeRow.laid w) false (World.laidAll Tryz.prog os Rows.topConeRow.laid) #[.slice none 0 0, .agg #[.int .i64 0, .int .i64 0, .int .i64 0, .int .i64 0, .int .i64 0, .int .i64 0, .int .i64 0], .int .i64 0, .int .i64 0, .int .u8 0] 8 (World.laidAll_os _ _ _)
      (topCone_shaped os) (by kernel_rfl) (by kernel_rfl) (by kernel_rfl)
      (by rw [MakeChecks.laidMetH_plain _ _ _ (by kernel_rfl)]; exact laidMet_laidAll _ (by kernel_rfl) (by kernel_rfl)))
theorem topCone_row : Rows.TopConeSaid :=
  OpenClaim.holds_of_wide 15 Tryz.f15 rfl rfl rfl rfl rfl rfl rfl ⟨rfl, rfl, rfl, rfl, rfl⟩ rfl rfl rfl rfl rfl (by kernel_rfl) Tryz.func15 topCone_closed
    (of_decide_eq_true (by kernel_rfl)) (by unfold Func.isWrapper; first | (rw [if_pos (by decide +kernel)]; kernel_rfl) | (rw [if_neg (by decide +kernel)]; exact ⟨rfl, rfl⟩))
    (fun os started H enc _ => topCone_lifted os started H enc)
theorem topCone_holds : Rows.TopConeCardSaid :=
  Claim7.holds_tied_plain_at .later [] [.data, .pinned] true (true, "278b544c7bbe029d8ca56c1be111aef23cacbc8ad750aa12770f0ccc0a1e2e7b") true topCone_row (fun _ h => by cases h) (by kernel_rfl) (fun _ h => by cases h) topCone_row_tie rfl ⟨rfl, rfl⟩ fact_main rfl
    (fun f fn hf hfn => by
      obtain rfl : f = 15 := Option.some.inj ((show Tryz.prog.funcNamed "deadwax/deadwaxtop.TopCone" = some 15 by kernel_rfl).symm.trans hf) |>.symm
      obtain rfl : fn = Tryz.f15 := (Option.some.inj (Tryz.func15.symm.trans hfn)).symm
      exact ⟨fact_looks, fun j t ht => by
        rw [Tryz.params15] at ht
        have hm : t ∈ [42, 26, 2, 2, 5] := by simpa using Array.mem_of_getElem? ht
        have hall : ([42, 26, 2, 2, 5].all fun u => !Tryz.prog.wantsStandIn u) = true := by kernel_rfl
        exact (show Tryz.prog.wantsStandIn t = false by simpa using List.all_eq_true.1 hall t hm)⟩)
    topCone_goes
end Go.Proofs.YthlebjnhcinheaaGreatDoor
