/- The tied side seat, SideCheaper: with one format more no album is dearer, walked once and joined with the plain law. -/
import Derived.Test.YtaehphnchiffnaaDoorPrSideCheaperB
import Derived.Test.YtaehphnchiffnaaDoorFa
import Derived.Test.YtaehphnchiffnaaDoorFb
import Derived.Test.YtaehphnchiffnaaDoorFc
import Derived.Test.YtaehphnchiffnaaDoorFfSideCheaper
import Derived.Test.YtaehphnchiffnaaDoorXe
import Derived.Test.YtaehphnchiffnaaDoorXg
import Derived.Test.YtaehphnchiffnaaDoorXf
import Derived.Test.YtaehphnchiffnaaDoorCards
import Derived.Test.YtaehphnchiffnaaDoorTie
import Derived.ProofKit
import Derived.OpenShut
import Derived.LaidMore
import Derived.Lay
import Derived.SevenTiedAt
import Derived.Stop.Joined
namespace Go.Sx
open Go Go.Proofs
theorem law5 (rows : List (List Cell)) (H0 : WfRows [(false, [.sl [.str, .int .i64, .int .i64, .int .i64, .int .i64, .int .i64, .int .i64, .int .i64]]), (false, [.sl [.int .i64, .int .i64, .int .i64]]), (false, [.sl [.int .i64, .int .i64]])] rows) : HSpec Tryd.prog 5 (xvs [(false, [.sl [.str, .int .i64, .int .i64, .int .i64, .int .i64, .int .i64, .int .i64, .int .i64]]), (false, [.sl [.int .i64, .int .i64, .int .i64]]), (false, [.sl [.int .i64, .int .i64]])] rows) [gNone] (fun r _ => r = .x (.one (.prp True instDecidableTrue))) := by
  obtain ⟨x0, _, rfl, u0, H1⟩ := H0.sl
  obtain ⟨a0, rfl, z0⟩ := wf_fmts u0
  obtain ⟨x1, _, rfl, u1, H2⟩ := H1.sl
  obtain ⟨a1, rfl, h1⟩ := wf_sngs u1
  obtain ⟨x2, _, rfl, u2, H3⟩ := H2.sl
  obtain ⟨a2, rfl, h2⟩ := wf_faces u2
  cases H3.nil_inv
  exact s5 a0 a1 a2
end Go.Sx
namespace Go.Proofs.YtaehphnchiffnaaDoor
open Go.Sx
theorem sideCheaper_glob (w : World) (_ : Array Value) (h : laidMetH Tryd.prog Rows.sideCheaperRow.laid w) : ∀ e, e ∈ [(⟨1, [.int .i64, .int .i64], [.int (-1), .int 0]⟩ : GVar)] → GlobAt w e := fun e he => by
  rw [List.mem_singleton.1 he]
  have h2 : laidMet Tryd.prog Rows.sideCheaperRow.laid w := by
    rw [MakeChecks.laidMetH_plain _ _ _ (by kernel_rfl)] at h
    exact h
  exact glob_pair (P := Tryd.prog) (name := "deadwax/side.none") (g := 1) (t := 86) (e := 2) (by kernel_rfl) (by kernel_rfl) (by kernel_rfl) (by kernel_rfl) (by kernel_rfl) (Go.Lib.laidMet.reads h2 List.mem_cons_self)
theorem sideCheaper_own : ownKnob Tryd.prog.godebug = none := by kernel_rfl
theorem sideCheaper_closed : joinedFacts Tryd.prog 5 Tryd.f5 Rows.sideCheaperSpec Rows.sideCheaperRow = true :=
  joined_of (by kernel_rfl) fact_laid fact_rowed (by kernel_rfl) (by kernel_rfl) (by kernel_rfl) (by kernel_rfl) (by kernel_rfl) (by kernel_rfl) sideCheaper_k10 sideCheaper_k11 sideCheaper_k12 sideCheaper_k13 (by kernel_rfl) (by kernel_rfl) (by kernel_rfl) (by kernel_rfl) (by kernel_rfl) (by kernel_rfl) (by kernel_rfl) (by kernel_rfl) (by kernel_rfl) fact_keys (by kernel_rfl) fact_heard fact_enter fact_lifts (by kernel_rfl) (by kernel_rfl) (by kernel_rfl) (by kernel_rfl) (by kernel_rfl)
theorem sideCheaper_shaped (os : Os) : (World.laidAll Tryd.prog os Rows.sideCheaperRow.laid).Shaped Tryd.prog := World.shaped_of_ZipB (by kernel_rfl) (by kernel_rfl)
set_option maxRecDepth 100000 in
theorem sideCheaper_lifted (os : Os) (started : os.Started) (H : Type) (enc : TypeId × Value → H) :
    ReturnsInHanded {} Tryd.checked os 5 .any (fun w args => (Rows.sideCheaperSpec.pre enc Tryd.prog Tryd.f5 Rows.sideCheaperRow.domain false w args ∧ laidMetH Tryd.prog Rows.sideCheaperRow.laid w) ∧ sizedMet enc Tryd.prog Tryd.f5 (OpenSpec.ofChange Rows.sideCheaperSpec) false w args)
      (Rows.sideCheaperSpec.post enc Tryd.prog Tryd.f5 false true false false) :=
  lifted_trueG (X := fun w _ => laidMetH Tryd.prog Rows.sideCheaperRow.laid w) (fun _ _ _ hh h => h.of_heap hh) [⟨1, [.int .i64, .int .i64], [.int (-1), .int 0]⟩] sideCheaper_glob sideCheaper_own started fact_laid (by kernel_rfl) Tryd.func5 e5 4 rfl Tryd.underlying4 (by kernel_rfl) rfl
    (fun ds h => match ds, h with | [_, _, _], _ => rfl) _ (by kernel_rfl) law5
    (ChangeSpec.witness_shaped (enc := enc) (C := Tryd.checked) (os := os) (X := fun w _ => laidMetH Tryd.prog Rows.sideCheaperRow.laid w) false (World.laidAll Tryd.prog os Rows.sideCheaperRow.laid) #[.slice none 0 0, .slice none 0 0, .slice none 0 0] 8 (World.laidAll_os _ _ _)
      (sideCheaper_shaped os) (by kernel_rfl) (by kernel_rfl) (by kernel_rfl)
      (by rw [MakeChecks.laidMetH_plain _ _ _ (by kernel_rfl)]; exact laidMet_laidAll _ (by kernel_rfl) (by kernel_rfl)))
theorem sideCheaper_row : Rows.SideCheaperSaid :=
  OpenClaim.holds_of_wide 5 Tryd.f5 rfl rfl rfl rfl rfl rfl rfl ⟨rfl, rfl, rfl, rfl, rfl⟩ rfl rfl rfl rfl rfl (by kernel_rfl) Tryd.func5 sideCheaper_closed
    (of_decide_eq_true (by kernel_rfl)) (by unfold Func.isWrapper; first | (rw [if_pos (by decide +kernel)]; kernel_rfl) | (rw [if_neg (by decide +kernel)]; exact ⟨rfl, rfl⟩))
    (fun os started H enc _ => sideCheaper_lifted os started H enc)
theorem sideCheaper_holds : Rows.SideCheaperCardSaid :=
  Claim7.holds_tied_plain_at .later [] [.data] true (true, "6dc2daffb95c571ead266799d4087aa6ac5d3a56204d49d6a8d298ab455f389b") false sideCheaper_row (fun _ h => by cases h) (by kernel_rfl) (fun _ h => by cases h) sideCheaper_row_tie rfl ⟨rfl, rfl⟩ fact_main rfl
    (fun f fn hf hfn => by
      obtain rfl : f = 5 := Option.some.inj ((show Tryd.prog.funcNamed "deadwax/deadwaxlaw04.SideCheaper" = some 5 by kernel_rfl).symm.trans hf) |>.symm
      obtain rfl : fn = Tryd.f5 := (Option.some.inj (Tryd.func5.symm.trans hfn)).symm
      exact ⟨fact_looks, fun j t ht => by
        rw [Tryd.params5] at ht
        have hm : t ∈ [36, 26, 37] := by simpa using Array.mem_of_getElem? ht
        have hall : ([36, 26, 37].all fun u => !Tryd.prog.wantsStandIn u) = true := by kernel_rfl
        exact (show Tryd.prog.wantsStandIn t = false by simpa using List.all_eq_true.1 hall t hm)⟩)
    sideCheaper_goes
end Go.Proofs.YtaehphnchiffnaaDoor
