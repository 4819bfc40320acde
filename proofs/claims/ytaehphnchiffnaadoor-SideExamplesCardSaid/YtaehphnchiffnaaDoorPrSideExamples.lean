/- the examples of the chapter. (a closed statement.) -/
import Derived.Test.YtaehphnchiffnaaDoorPrSideExamplesB
import Derived.Test.YtaehphnchiffnaaDoorFa
import Derived.Test.YtaehphnchiffnaaDoorFb
import Derived.Test.YtaehphnchiffnaaDoorFc
import Derived.Test.YtaehphnchiffnaaDoorFfSideExamples
import Derived.Test.YtaehphnchiffnaaDoorXw
import Derived.Test.YtaehphnchiffnaaDoorXy
import Derived.Test.YtaehphnchiffnaaDoorXx
import Derived.Test.YtaehphnchiffnaaDoorCards
import Derived.Test.YtaehphnchiffnaaDoorTie
import Derived.ProofKit
import Derived.OpenShut
import Derived.LaidMore
import Derived.Lay
import Derived.SevenTiedAt
import Derived.Stop.Joined
namespace Go.Sx
open Go Go.Proofs
theorem law7 (rows : List (List Cell)) (H0 : WfRows [] rows) : HSpec Tryd.prog 7 (xvs [] rows) [gKnown, gNone] (fun r _ => r = .x (.one (.prp True instDecidableTrue))) := by
  cases H0.nil_inv
  exact s7
end Go.Sx
namespace Go.Proofs.YtaehphnchiffnaaDoor
open Go.Sx
noncomputable def FS : Array Field := match Tryd.prog.underlying 23 with | some (.struct fs) => fs | _ => #[]
theorem sideExamples_glob (w : World) (_ : Array Value) (h : laidMetH Tryd.prog Rows.sideExamplesRow.laid w) : ∀ e, e ∈ [(⟨0, KKn, rKn⟩ : GVar), ⟨1, [.int .i64, .int .i64], [.int (-1), .int 0]⟩] → GlobAt w e := fun e he => by
  have h2 : laidMet Tryd.prog Rows.sideExamplesRow.laid w := by
    rw [MakeChecks.laidMetH_plain _ _ _ (by kernel_rfl)] at h
    exact h
  rcases List.mem_cons.1 he with rfl | he
  · exact glob_known (P := Tryd.prog) (name := "deadwax/side.known") (g := 0) (t := 72) (e := 23) (fs := FS) (by kernel_rfl) (by kernel_rfl) (by kernel_rfl) (by kernel_rfl) (by kernel_rfl) (by unfold FS8; kernel_rfl) (Go.Lib.laidMet.reads h2 (List.mem_cons_of_mem _ List.mem_cons_self))
  · rw [List.mem_singleton.1 he]
    exact glob_pair (P := Tryd.prog) (name := "deadwax/side.none") (g := 1) (t := 86) (e := 2) (by kernel_rfl) (by kernel_rfl) (by kernel_rfl) (by kernel_rfl) (by kernel_rfl) (Go.Lib.laidMet.reads h2 List.mem_cons_self)
theorem sideExamples_own : ownKnob Tryd.prog.godebug = none := by kernel_rfl
theorem sideExamples_closed : joinedFacts Tryd.prog 7 Tryd.f7 Rows.sideExamplesSpec Rows.sideExamplesRow = true :=
  joined_of (by kernel_rfl) fact_laid fact_rowed (by kernel_rfl) (by kernel_rfl) (by kernel_rfl) (by kernel_rfl) (by kernel_rfl) (by kernel_rfl) sideExamples_k10 sideExamples_k11 sideExamples_k12 sideExamples_k13 (by kernel_rfl) (by kernel_rfl) (by kernel_rfl) (by kernel_rfl) (by kernel_rfl) (by kernel_rfl) (by kernel_rfl) (by kernel_rfl) (by kernel_rfl) fact_keys (by kernel_rfl) fact_heard fact_enter fact_lifts (by kernel_rfl) (by kernel_rfl) (by kernel_rfl) (by kernel_rfl) (by kernel_rfl)
theorem sideExamples_shaped (os : Os) : (World.laidAll Tryd.prog os Rows.sideExamplesRow.laid).Shaped Tryd.prog := World.shaped_of_ZipB (by kernel_rfl) (by kernel_rfl)
set_option maxRecDepth 100000 in
theorem sideExamples_lifted (os : Os) (started : os.Started) (H : Type) (enc : TypeId × Value → H) :
    ReturnsInHanded {} Tryd.checked os 7 .any (fun w args => (Rows.sideExamplesSpec.pre enc Tryd.prog Tryd.f7 Rows.sideExamplesRow.domain false w args ∧ laidMetH Tryd.prog Rows.sideExamplesRow.laid w) ∧ sizedMet enc Tryd.prog Tryd.f7 (OpenSpec.ofChange Rows.sideExamplesSpec) false w args)
      (Rows.sideExamplesSpec.post enc Tryd.prog Tryd.f7 false true false false) :=
  lifted_trueG (X := fun w _ => laidMetH Tryd.prog Rows.sideExamplesRow.laid w) (fun _ _ _ hh h => h.of_heap hh) [⟨0, KKn, rKn⟩, ⟨1, [.int .i64, .int .i64], [.int (-1), .int 0]⟩] sideExamples_glob sideExamples_own started fact_laid (by kernel_rfl) Tryd.func7 e7 4 rfl Tryd.underlying4 (by kernel_rfl) rfl
    (fun ds h => match ds, h with | [], _ => rfl) _ (by kernel_rfl) law7
    (ChangeSpec.witness_shaped (enc := enc) (C := Tryd.checked) (os := os) (X := fun w _ => laidMetH Tryd.prog Rows.sideExamplesRow.laid w) false (World.laidAll Tryd.prog os Rows.sideExamplesRow.laid) #[] 8 (World.laidAll_os _ _ _)
      (sideExamples_shaped os) (by kernel_rfl) (by kernel_rfl) (by kernel_rfl)
      (by rw [MakeChecks.laidMetH_plain _ _ _ (by kernel_rfl)]; exact laidMet_laidAll _ (by kernel_rfl) (by kernel_rfl)))
theorem sideExamples_row : Rows.SideExamplesSaid :=
  OpenClaim.holds_of_wide 7 Tryd.f7 rfl rfl rfl rfl rfl rfl rfl ⟨rfl, rfl, rfl, rfl, rfl⟩ rfl rfl rfl rfl rfl (by kernel_rfl) Tryd.func7 sideExamples_closed
    (of_decide_eq_true (by kernel_rfl)) (by unfold Func.isWrapper; first | (rw [if_pos (by decide +kernel)]; kernel_rfl) | (rw [if_neg (by decide +kernel)]; exact ⟨rfl, rfl⟩))
    (fun os started H enc _ => sideExamples_lifted os started H enc)
theorem sideExamples_holds : Rows.SideExamplesCardSaid :=
  Claim7.holds_tied_plain_at .later [] [.data, .data] true (true, "6dc2daffb95c571ead266799d4087aa6ac5d3a56204d49d6a8d298ab455f389b") false sideExamples_row (fun _ h => by cases h) (by kernel_rfl) (fun _ h => by cases h) sideExamples_row_tie rfl ⟨rfl, rfl⟩ fact_main rfl
    (fun f fn hf hfn => by
      obtain rfl : f = 7 := Option.some.inj ((show Tryd.prog.funcNamed "deadwax/deadwaxlaw04.SideExamples" = some 7 by kernel_rfl).symm.trans hf) |>.symm
      obtain rfl : fn = Tryd.f7 := (Option.some.inj (Tryd.func7.symm.trans hfn)).symm
      exact ⟨fact_looks, fun j t ht => by
        rw [Tryd.params7] at ht
        simp at ht⟩)
    sideExamples_goes
end Go.Proofs.YtaehphnchiffnaaDoor
