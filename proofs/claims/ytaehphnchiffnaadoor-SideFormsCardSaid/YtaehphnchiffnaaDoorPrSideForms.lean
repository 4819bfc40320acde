/- The tied side seat, SideForms: which formats and tracks are valid, which formats are known, widths: walked once on both sides and joined. -/
import Derived.Test.YtaehphnchiffnaaDoorPrSideFormsA
import Derived.Test.YtaehphnchiffnaaDoorFa
import Derived.Test.YtaehphnchiffnaaDoorFb
import Derived.Test.YtaehphnchiffnaaDoorFc
import Derived.Test.YtaehphnchiffnaaDoorFfSideForms
import Derived.Test.YtaehphnchiffnaaDoorXe
import Derived.Test.YtaehphnchiffnaaDoorXg
import Derived.Test.YtaehphnchiffnaaDoorXf
import Derived.Test.YtaehphnchiffnaaDoorCards
import Derived.Test.YtaehphnchiffnaaDoorTie
import Derived.ProofKit
import Derived.OpenShut
import Derived.LaidMore
import Derived.Lay
import Derived.SevenTiedAt
import Derived.Stop.Joined
namespace Go.Sx
open Go Go.Proofs
theorem law3 (rows : List (List Cell)) (H0 : WfRows [(true, [.str, .int .i64, .int .i64, .int .i64, .int .i64, .int .i64, .int .i64, .int .i64]), (true, [.int .i64, .int .i64, .int .i64]), (false, [.sl [.int .i64, .int .i64, .int .i64]]), (false, [.str])] rows) : HSpec Tryd.prog 3 (xvs [(true, [.str, .int .i64, .int .i64, .int .i64, .int .i64, .int .i64, .int .i64, .int .i64]), (true, [.int .i64, .int .i64, .int .i64]), (false, [.sl [.int .i64, .int .i64, .int .i64]]), (false, [.str])] rows) [gKnown] (fun r _ => r = .x (.one (.prp True instDecidableTrue))) := by
  obtain ⟨r0, _, rfl, k0_0, H1⟩ := H0.inv
  obtain ⟨c0_0, _, rfl, g0_0, k0_1⟩ := k0_0.inv
  obtain ⟨n0_0, rfl, z0⟩ := g0_0.str_inv
  obtain ⟨c0_1, _, rfl, g0_1, k0_2⟩ := k0_1.inv
  obtain ⟨n0_1, rfl, _⟩ := g0_1.int_inv
  obtain ⟨c0_2, _, rfl, g0_2, k0_3⟩ := k0_2.inv
  obtain ⟨n0_2, rfl, _⟩ := g0_2.int_inv
  obtain ⟨c0_3, _, rfl, g0_3, k0_4⟩ := k0_3.inv
  obtain ⟨n0_3, rfl, _⟩ := g0_3.int_inv
  obtain ⟨c0_4, _, rfl, g0_4, k0_5⟩ := k0_4.inv
  obtain ⟨n0_4, rfl, _⟩ := g0_4.int_inv
  obtain ⟨c0_5, _, rfl, g0_5, k0_6⟩ := k0_5.inv
  obtain ⟨n0_5, rfl, _⟩ := g0_5.int_inv
  obtain ⟨c0_6, _, rfl, g0_6, k0_7⟩ := k0_6.inv
  obtain ⟨n0_6, rfl, _⟩ := g0_6.int_inv
  obtain ⟨c0_7, _, rfl, g0_7, k0_8⟩ := k0_7.inv
  obtain ⟨n0_7, rfl, _⟩ := g0_7.int_inv
  cases k0_8.nil_inv
  obtain ⟨r1, _, rfl, k1_0, H2⟩ := H1.inv
  obtain ⟨c1_0, _, rfl, g1_0, k1_1⟩ := k1_0.inv
  obtain ⟨n1_0, rfl, _⟩ := g1_0.int_inv
  obtain ⟨c1_1, _, rfl, g1_1, k1_2⟩ := k1_1.inv
  obtain ⟨n1_1, rfl, _⟩ := g1_1.int_inv
  obtain ⟨c1_2, _, rfl, g1_2, k1_3⟩ := k1_2.inv
  obtain ⟨n1_2, rfl, _⟩ := g1_2.int_inv
  cases k1_3.nil_inv
  obtain ⟨x2, _, rfl, w2, H3⟩ := H2.sl
  obtain ⟨a2, rfl, h2⟩ := wf_sngs w2
  obtain ⟨s3, _, rfl, z3, H4⟩ := H3.str
  cases H4.nil_inv
  exact s3k ⟨n0_0, n0_1, n0_2, n0_3, n0_4, n0_5, n0_6, n0_7⟩ ⟨n1_0, n1_1, n1_2⟩ a2 s3
end Go.Sx
namespace Go.Proofs.YtaehphnchiffnaaDoor
open Go.Sx
noncomputable def FS : Array Field := match Tryd.prog.underlying 23 with | some (.struct fs) => fs | _ => #[]
theorem sideForms_glob (w : World) (_ : Array Value) (h : laidMetH Tryd.prog Rows.sideFormsRow.laid w) : ∀ e, e ∈ [(⟨0, KKn, rKn⟩ : GVar)] → GlobAt w e := fun e he => by
  rw [List.mem_singleton.1 he]
  have h2 : laidMet Tryd.prog Rows.sideFormsRow.laid w := by
    rw [MakeChecks.laidMetH_plain _ _ _ (by kernel_rfl)] at h
    exact h
  exact glob_known (P := Tryd.prog) (name := "deadwax/side.known") (g := 0) (t := 72) (e := 23) (fs := FS) (by kernel_rfl) (by kernel_rfl) (by kernel_rfl) (by kernel_rfl) (by kernel_rfl) (by unfold FS8; kernel_rfl) (Go.Lib.laidMet.reads h2 List.mem_cons_self)
theorem sideForms_own : ownKnob Tryd.prog.godebug = none := by kernel_rfl
theorem sideForms_closed : joinedFacts Tryd.prog 3 Tryd.f3 Rows.sideFormsSpec Rows.sideFormsRow = true :=
  joined_of (by kernel_rfl) fact_laid fact_rowed (by kernel_rfl) (by kernel_rfl) (by kernel_rfl) (by kernel_rfl) (by kernel_rfl) (by kernel_rfl) sideForms_k10 sideForms_k11 sideForms_k12 sideForms_k13 (by kernel_rfl) (by kernel_rfl) (by kernel_rfl) (by kernel_rfl) (by kernel_rfl) (by kernel_rfl) (by kernel_rfl) (by kernel_rfl) (by kernel_rfl) fact_keys (by kernel_rfl) fact_heard fact_enter fact_lifts (by kernel_rfl) (by kernel_rfl) (by kernel_rfl) (by kernel_rfl) (by kernel_rfl)
theorem sideForms_shaped (os : Os) : (World.laidAll Tryd.prog os Rows.sideFormsRow.laid).Shaped Tryd.prog := World.shaped_of_ZipB (by kernel_rfl) (by kernel_rfl)
set_option maxRecDepth 100000 in
theorem sideForms_lifted (os : Os) (started : os.Started) (H : Type) (enc : TypeId × Value → H) :
    ReturnsInHanded {} Tryd.checked os 3 .any (fun w args => (Rows.sideFormsSpec.pre enc Tryd.prog Tryd.f3 Rows.sideFormsRow.domain false w args ∧ laidMetH Tryd.prog Rows.sideFormsRow.laid w) ∧ sizedMet enc Tryd.prog Tryd.f3 (OpenSpec.ofChange Rows.sideFormsSpec) false w args)
      (Rows.sideFormsSpec.post enc Tryd.prog Tryd.f3 false true false false) :=
  lifted_trueG (X := fun w _ => laidMetH Tryd.prog Rows.sideFormsRow.laid w) (fun _ _ _ hh h => h.of_heap hh) [⟨0, KKn, rKn⟩] sideForms_glob sideForms_own started fact_laid (by kernel_rfl) Tryd.func3 e3 4 rfl Tryd.underlying4 (by kernel_rfl) rfl
    (fun ds h => match ds, h with | [_, _, _, _], _ => rfl) _ (by kernel_rfl) law3
    (ChangeSpec.witness_shaped (enc := enc) (C := Tryd.checked) (os := os) (X := fun w _ => laidMetH Tryd.prog Rows.sideFormsRow.laid w) false (World.laidAll Tryd.prog os Rows.sideFormsRow.laid) #[.agg #[.string ⟨#[]⟩, .int .i64 0, .int .i64 0, .int .i64 0, .int .i64 0, .int .i64 0, .int .i64 0, .int .i64 0], .agg #[.int .i64 0, .int .i64 0, .int .i64 0], .slice none 0 0, .string ⟨#[]⟩] 8 (World.laidAll_os _ _ _)
      (sideForms_shaped os) (by kernel_rfl) (by kernel_rfl) (by kernel_rfl)
      (by rw [MakeChecks.laidMetH_plain _ _ _ (by kernel_rfl)]; exact laidMet_laidAll _ (by kernel_rfl) (by kernel_rfl)))
theorem sideForms_row : Rows.SideFormsSaid :=
  OpenClaim.holds_of_wide 3 Tryd.f3 rfl rfl rfl rfl rfl rfl rfl ⟨rfl, rfl, rfl, rfl, rfl⟩ rfl rfl rfl rfl rfl (by kernel_rfl) Tryd.func3 sideForms_closed
    (of_decide_eq_true (by kernel_rfl)) (by unfold Func.isWrapper; first | (rw [if_pos (by decide +kernel)]; kernel_rfl) | (rw [if_neg (by decide +kernel)]; exact ⟨rfl, rfl⟩))
    (fun os started H enc _ => sideForms_lifted os started H enc)
theorem sideForms_holds : Rows.SideFormsCardSaid :=
  Claim7.holds_tied_plain_at .later [] [.data] true (true, "6dc2daffb95c571ead266799d4087aa6ac5d3a56204d49d6a8d298ab455f389b") false sideForms_row (fun _ h => by cases h) (by kernel_rfl) (fun _ h => by cases h) sideForms_row_tie rfl ⟨rfl, rfl⟩ fact_main rfl
    (fun f fn hf hfn => by
      obtain rfl : f = 3 := Option.some.inj ((show Tryd.prog.funcNamed "deadwax/deadwaxlaw04.SideForms" = some 3 by kernel_rfl).symm.trans hf) |>.symm
      obtain rfl : fn = Tryd.f3 := (Option.some.inj (Tryd.func3.symm.trans hfn)).symm
      exact ⟨fact_looks, fun j t ht => by
        rw [Tryd.params3] at ht
        have hm : t ∈ [23, 25, 26, 9] := by simpa using Array.mem_of_getElem? ht
        have hall : ([23, 25, 26, 9].all fun u => !Tryd.prog.wantsStandIn u) = true := by kernel_rfl
        exact (show Tryd.prog.wantsStandIn t = false by simpa using List.all_eq_true.1 hall t hm)⟩)
    sideForms_goes
end Go.Proofs.YtaehphnchiffnaaDoor
