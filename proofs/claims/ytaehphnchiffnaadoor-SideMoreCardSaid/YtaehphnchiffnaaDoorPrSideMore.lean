/- SideMore: with a wider or deeper format, shorter or narrower tracks, or one more format, what is possible stays possible. No conditions. -/
import Derived.Test.YtaehphnchiffnaaDoorPrSideMoreB
import Derived.Test.YtaehphnchiffnaaDoorFa
import Derived.Test.YtaehphnchiffnaaDoorFb
import Derived.Test.YtaehphnchiffnaaDoorFc
import Derived.Test.YtaehphnchiffnaaDoorFfSideMore
import Derived.Test.YtaehphnchiffnaaDoorXe
import Derived.Test.YtaehphnchiffnaaDoorXg
import Derived.Test.YtaehphnchiffnaaDoorXf
import Derived.Test.YtaehphnchiffnaaDoorCards
import Derived.Test.YtaehphnchiffnaaDoorTie
import Derived.ProofKit
import Derived.OpenShut
import Derived.LaidMore
import Derived.Lay
import Derived.SevenTiedAt
import Derived.Stop.Joined
namespace Go.Sx
open Go Go.Proofs
theorem law6 (rows : List (List Cell)) (H0 : WfRows [(true, [.str, .int .i64, .int .i64, .int .i64, .int .i64, .int .i64, .int .i64, .int .i64]), (false, [.sl [.int .i64, .int .i64, .int .i64]]), (false, [.int .u16]), (false, [.int .u16]), (true, [.int .u8, .int .u8, .int .u8]), (true, [.str, .int .i64, .int .i64, .int .i64, .int .i64, .int .i64, .int .i64, .int .i64])] rows) : HSpec Tryd.prog 6 (xvs [(true, [.str, .int .i64, .int .i64, .int .i64, .int .i64, .int .i64, .int .i64, .int .i64]), (false, [.sl [.int .i64, .int .i64, .int .i64]]), (false, [.int .u16]), (false, [.int .u16]), (true, [.int .u8, .int .u8, .int .u8]), (true, [.str, .int .i64, .int .i64, .int .i64, .int .i64, .int .i64, .int .i64, .int .i64])] rows) [gNone] (fun r _ => r = .x (.one (.prp True instDecidableTrue))) := by
  obtain ⟨r0, _, rfl, k0_0, H1⟩ := H0.inv
  obtain ⟨c0_0, _, rfl, g0_0, k0_1⟩ := k0_0.inv
  obtain ⟨n0_0, rfl, z0⟩ := g0_0.str_inv
  obtain ⟨c0_1, _, rfl, g0_1, k0_2⟩ := k0_1.inv
  obtain ⟨n0_1, rfl, _⟩ := g0_1.int_inv
  obtain ⟨c0_2, _, rfl, g0_2, k0_3⟩ := k0_2.inv
  obtain ⟨n0_2, rfl, _⟩ := g0_2.int_inv
  obtain ⟨c0_3, _, rfl, g0_3, k0_4⟩ := k0_3.inv
  obtain ⟨n0_3, rfl, _⟩ := g0_3.int_inv
  obtain ⟨c0_4, _, rfl, g0_4, k0_5⟩ := k0_4.inv
  obtain ⟨n0_4, rfl, _⟩ := g0_4.int_inv
  obtain ⟨c0_5, _, rfl, g0_5, k0_6⟩ := k0_5.inv
  obtain ⟨n0_5, rfl, _⟩ := g0_5.int_inv
  obtain ⟨c0_6, _, rfl, g0_6, k0_7⟩ := k0_6.inv
  obtain ⟨n0_6, rfl, _⟩ := g0_6.int_inv
  obtain ⟨c0_7, _, rfl, g0_7, k0_8⟩ := k0_7.inv
  obtain ⟨n0_7, rfl, _⟩ := g0_7.int_inv
  cases k0_8.nil_inv
  obtain ⟨x1, _, rfl, w1, H2⟩ := H1.sl
  obtain ⟨a1, rfl, h1⟩ := wf_sngs w1
  obtain ⟨a2, _, rfl, b2, H3⟩ := H2.int
  obtain ⟨a3, _, rfl, b3, H4⟩ := H3.int
  obtain ⟨r4, _, rfl, k4_0, H5⟩ := H4.inv
  obtain ⟨c4_0, _, rfl, g4_0, k4_1⟩ := k4_0.inv
  obtain ⟨n4_0, rfl, q4_0⟩ := g4_0.int_inv
  obtain ⟨c4_1, _, rfl, g4_1, k4_2⟩ := k4_1.inv
  obtain ⟨n4_1, rfl, q4_1⟩ := g4_1.int_inv
  obtain ⟨c4_2, _, rfl, g4_2, k4_3⟩ := k4_2.inv
  obtain ⟨n4_2, rfl, q4_2⟩ := g4_2.int_inv
  cases k4_3.nil_inv
  obtain ⟨r5, _, rfl, k5_0, H6⟩ := H5.inv
  obtain ⟨c5_0, _, rfl, g5_0, k5_1⟩ := k5_0.inv
  obtain ⟨n5_0, rfl, z5⟩ := g5_0.str_inv
  obtain ⟨c5_1, _, rfl, g5_1, k5_2⟩ := k5_1.inv
  obtain ⟨n5_1, rfl, _⟩ := g5_1.int_inv
  obtain ⟨c5_2, _, rfl, g5_2, k5_3⟩ := k5_2.inv
  obtain ⟨n5_2, rfl, _⟩ := g5_2.int_inv
  obtain ⟨c5_3, _, rfl, g5_3, k5_4⟩ := k5_3.inv
  obtain ⟨n5_3, rfl, _⟩ := g5_3.int_inv
  obtain ⟨c5_4, _, rfl, g5_4, k5_5⟩ := k5_4.inv
  obtain ⟨n5_4, rfl, _⟩ := g5_4.int_inv
  obtain ⟨c5_5, _, rfl, g5_5, k5_6⟩ := k5_5.inv
  obtain ⟨n5_5, rfl, _⟩ := g5_5.int_inv
  obtain ⟨c5_6, _, rfl, g5_6, k5_7⟩ := k5_6.inv
  obtain ⟨n5_6, rfl, _⟩ := g5_6.int_inv
  obtain ⟨c5_7, _, rfl, g5_7, k5_8⟩ := k5_7.inv
  obtain ⟨n5_7, rfl, _⟩ := g5_7.int_inv
  cases k5_8.nil_inv
  cases H6.nil_inv
  exact s6 ⟨n0_0, n0_1, n0_2, n0_3, n0_4, n0_5, n0_6, n0_7⟩ ⟨n5_0, n5_1, n5_2, n5_3, n5_4, n5_5, n5_6, n5_7⟩ a1 a2 a3 n4_0 n4_1 n4_2 b2 b3 q4_0 q4_1 q4_2 (by show n5_0.size ≤ 9223372036854775807; exact z5)
end Go.Sx
namespace Go.Proofs.YtaehphnchiffnaaDoor
open Go.Sx
theorem sideMore_glob (w : World) (_ : Array Value) (h : laidMetH Tryd.prog Rows.sideMoreRow.laid w) : ∀ e, e ∈ [(⟨1, [.int .i64, .int .i64], [.int (-1), .int 0]⟩ : GVar)] → GlobAt w e := fun e he => by
  rw [List.mem_singleton.1 he]
  have h2 : laidMet Tryd.prog Rows.sideMoreRow.laid w := by
    rw [MakeChecks.laidMetH_plain _ _ _ (by kernel_rfl)] at h
    exact h
  exact glob_pair (P := Tryd.prog) (name := "deadwax/side.none") (g := 1) (t := 86) (e := 2) (by kernel_rfl) (by kernel_rfl) (by kernel_rfl) (by kernel_rfl) (by kernel_rfl) (Go.Lib.laidMet.reads h2 List.mem_cons_self)
theorem sideMore_own : ownKnob Tryd.prog.godebug = none := by kernel_rfl
theorem sideMore_closed : joinedFacts Tryd.prog 6 Tryd.f6 Rows.sideMoreSpec Rows.sideMoreRow = true :=
  joined_of (by kernel_rfl) fact_laid fact_rowed (by kernel_rfl) (by kernel_rfl) (by kernel_rfl) (by kernel_rfl) (by kernel_rfl) (by kernel_rfl) sideMore_k10 sideMore_k11 sideMore_k12 sideMore_k13 (by kernel_rfl) (by kernel_rfl) (by kernel_rfl) (by kernel_rfl) (by kernel_rfl) (by kernel_rfl) (by kernel_rfl) (by kernel_rfl) (by kernel_rfl) fact_keys (by kernel_rfl) fact_heard fact_enter fact_lifts (by kernel_rfl) (by kernel_rfl) (by kernel_rfl) (by kernel_rfl) (by kernel_rfl)
theorem sideMore_shaped (os : Os) : (World.laidAll Tryd.prog os Rows.sideMoreRow.laid).Shaped Tryd.prog := World.shaped_of_ZipB (by kernel_rfl) (by kernel_rfl)
set_option maxRecDepth 100000 in
theorem sideMore_lifted (os : Os) (started : os.Started) (H : Type) (enc : TypeId × Value → H) :
    ReturnsInHanded {} Tryd.checked os 6 .any (fun w args => (Rows.sideMoreSpec.pre enc Tryd.prog Tryd.f6 Rows.sideMoreRow.domain false w args ∧ laidMetH Tryd.prog Rows.sideMoreRow.laid w) ∧ sizedMet enc Tryd.prog Tryd.f6 (OpenSpec.ofChange Rows.sideMoreSpec) false w args)
      (Rows.sideMoreSpec.post enc Tryd.prog Tryd.f6 false true false false) :=
  lifted_trueG (X := fun w _ => laidMetH Tryd.prog Rows.sideMoreRow.laid w) (fun _ _ _ hh h => h.of_heap hh) [⟨1, [.int .i64, .int .i64], [.int (-1), .int 0]⟩] sideMore_glob sideMore_own started fact_laid (by kernel_rfl) Tryd.func6 e6 4 rfl Tryd.underlying4 (by kernel_rfl) rfl
    (fun ds h => match ds, h with | [_, _, _, _, _, _], _ => rfl) _ (by kernel_rfl) law6
    (ChangeSpec.witness_shaped (enc := enc) (C := Tryd.checked) (os := os) (X := fun w _ => laidMetH Tryd.prog Rows.sideMoreRow.laid w) false (World.laidAll Tryd.prog os Rows.sideMoreRow.laid) #[.agg #[.string ⟨#[]⟩, .int .i64 0, .int .i64 0, .int .i64 0, .int .i64 0, .int .i64 0, .int .i64 0, .int .i64 0], .slice none 0 0, .int .u16 0, .int .u16 0, .agg #[.int .u8 0, .int .u8 0, .int .u8 0], .agg #[.string ⟨#[]⟩, .int .i64 0, .int .i64 0, .int .i64 0, .int .i64 0, .int .i64 0, .int .i64 0, .int .i64 0]] 8 (World.laidAll_os _ _ _)
      (sideMore_shaped os) (by kernel_rfl) (by kernel_rfl) (by kernel_rfl)
      (by rw [MakeChecks.laidMetH_plain _ _ _ (by kernel_rfl)]; exact laidMet_laidAll _ (by kernel_rfl) (by kernel_rfl)))
theorem sideMore_row : Rows.SideMoreSaid :=
  OpenClaim.holds_of_wide 6 Tryd.f6 rfl rfl rfl rfl rfl rfl rfl ⟨rfl, rfl, rfl, rfl, rfl⟩ rfl rfl rfl rfl rfl (by kernel_rfl) Tryd.func6 sideMore_closed
    (of_decide_eq_true (by kernel_rfl)) (by unfold Func.isWrapper; first | (rw [if_pos (by decide +kernel)]; kernel_rfl) | (rw [if_neg (by decide +kernel)]; exact ⟨rfl, rfl⟩))
    (fun os started H enc _ => sideMore_lifted os started H enc)
theorem sideMore_holds : Rows.SideMoreCardSaid :=
  Claim7.holds_tied_plain_at .later [] [.data] true (true, "6dc2daffb95c571ead266799d4087aa6ac5d3a56204d49d6a8d298ab455f389b") false sideMore_row (fun _ h => by cases h) (by kernel_rfl) (fun _ h => by cases h) sideMore_row_tie rfl ⟨rfl, rfl⟩ fact_main rfl
    (fun f fn hf hfn => by
      obtain rfl : f = 6 := Option.some.inj ((show Tryd.prog.funcNamed "deadwax/deadwaxlaw04.SideMore" = some 6 by kernel_rfl).symm.trans hf) |>.symm
      obtain rfl : fn = Tryd.f6 := (Option.some.inj (Tryd.func6.symm.trans hfn)).symm
      exact ⟨fact_looks, fun j t ht => by
        rw [Tryd.params6] at ht
        have hm : t ∈ [23, 26, 52, 52, 53, 23] := by simpa using Array.mem_of_getElem? ht
        have hall : ([23, 26, 52, 52, 53, 23].all fun u => !Tryd.prog.wantsStandIn u) = true := by kernel_rfl
        exact (show Tryd.prog.wantsStandIn t = false by simpa using List.all_eq_true.1 hall t hm)⟩)
    sideMore_goes
end Go.Proofs.YtaehphnchiffnaaDoor
