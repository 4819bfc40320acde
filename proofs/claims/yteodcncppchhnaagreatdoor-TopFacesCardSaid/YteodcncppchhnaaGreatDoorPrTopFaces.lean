/- From albums to programmes: the best plan of the parts of a programme cuts it into one programme for each face; rendered one after another they are the whole. -/
import Derived.Test.YteodcncppchhnaaGreatDoorPrTopFacesB
import Derived.Test.YteodcncppchhnaaGreatDoorFa
import Derived.Test.YteodcncppchhnaaGreatDoorFb
import Derived.Test.YteodcncppchhnaaGreatDoorFc
import Derived.Test.YteodcncppchhnaaGreatDoorFfTopFaces
import Derived.Test.YteodcncppchhnaaGreatDoorXw
import Derived.Test.YteodcncppchhnaaGreatDoorXy
import Derived.Test.YteodcncppchhnaaGreatDoorXx
import Derived.Test.YteodcncppchhnaaGreatDoorCards
import Derived.Test.YteodcncppchhnaaGreatDoorTie
import Derived.ProofKit
import Derived.OpenShut
import Derived.LaidMore
import Derived.Lay
import Derived.SevenTiedAt
import Derived.Stop.Joined
namespace Go.Sx
open Go Go.Proofs
theorem u8_getD {l : List Int} (h : l.length ≤ maxLen ∧ ∀ x ∈ l, inR .u8 x) : ∀ j, 0 ≤ l.getD j 0 ∧ l.getD j 0 ≤ 255 :=
  mem_getD (p := fun x => 0 ≤ x ∧ x ≤ 255) (fun x hx => by have := h.2 x hx; simpa [inR] using this) (by decide)
theorem law3 (rows : List (List Cell)) (H0 : WfRows [(false, [.sl KT]), (false, [.sl K7i]), (false, [.sl Sd.KFm]), (false, [.sl [.int .u8]])] rows) : HSpec Tryz.prog 3 (xvs [(false, [.sl KT]), (false, [.sl K7i]), (false, [.sl Sd.KFm]), (false, [.sl [.int .u8]])] rows) [Sd.gNone] (fun r _ => r = .x (.one (.prp True instDecidableTrue))) := by
  obtain ⟨x0, _, rfl, u0, H1⟩ := H0.sl
  obtain ⟨a0, rfl, h0⟩ := wf_taks u0
  obtain ⟨x1, _, rfl, u1, H2⟩ := H1.sl
  obtain ⟨a1, rfl⟩ := wf_prts u1
  obtain ⟨x2, _, rfl, u2, H3⟩ := H2.sl
  obtain ⟨a2, rfl, z2⟩ := Sd.wf_fmts u2
  obtain ⟨x3, _, rfl, u3, H4⟩ := H3.sl
  obtain ⟨a3, rfl, h3⟩ := wf_ints u3
  cases H4.nil_inv
  exact s3 a0 a1 a2 a3 h0 (u8_getD h3) z2
end Go.Sx
namespace Go.Proofs.YteodcncppchhnaaGreatDoor
open Go.Sx
theorem topFaces_glob (w : World) (_ : Array Value) (h : laidMetH Tryz.prog Rows.topFacesRow.laid w) : ∀ e, e ∈ [(⟨0, [.int .i64, .int .i64], [.int (-1), .int 0]⟩ : GVar)] → GlobAt w e := fun e he => by
  rw [List.mem_singleton.1 he]
  have h2 : laidMet Tryz.prog Rows.topFacesRow.laid w := by
    rw [MakeChecks.laidMetH_plain _ _ _ (by kernel_rfl)] at h
    exact h
  exact glob_pair (P := Tryz.prog) (name := "deadwax/side.none") (g := 0) (t := 64) (e := 2) (by kernel_rfl) (by kernel_rfl) (by kernel_rfl) (by kernel_rfl) (by kernel_rfl) (Go.Lib.laidMet.reads h2 (List.mem_cons_of_mem _ List.mem_cons_self))
theorem topFaces_own : ownKnob Tryz.prog.godebug = none := by kernel_rfl
theorem topFaces_closed : joinedFacts Tryz.prog 3 Tryz.f3 Rows.topFacesSpec Rows.topFacesRow = true :=
  joined_of (by kernel_rfl) fact_laid fact_rowed (by kernel_rfl) (by kernel_rfl) (by kernel_rfl) (by kernel_rfl) (by kernel_rfl) (by kernel_rfl) topFaces_k10 topFaces_k11 topFaces_k12 topFaces_k13 (by kernel_rfl) (by kernel_rfl) (by kernel_rfl) (by kernel_rfl) (by kernel_rfl) (by kernel_rfl) (by kernel_rfl) (by kernel_rfl) (by kernel_rfl) fact_keys (by kernel_rfl) fact_heard fact_enter fact_lifts (by kernel_rfl) (by kernel_rfl) (by kernel_rfl) (by kernel_rfl) (by kernel_rfl)
theorem topFaces_shaped (os : Os) : (World.laidAll Tryz.prog os Rows.topFacesRow.laid).Shaped Tryz.prog := World.shaped_of_ZipB (by kernel_rfl) (by kernel_rfl)
set_option maxRecDepth 100000 in
theorem topFaces_lifted (os : Os) (started : os.Started) (H : Type) (enc : TypeId × Value → H) :
    ReturnsInHanded {} Tryz.checked os 3 .any (fun w args => (Rows.topFacesSpec.pre enc Tryz.prog Tryz.f3 Rows.topFacesRow.domain false w args ∧ laidMetH Tryz.prog Rows.topFacesRow.laid w) ∧ sizedMet enc Tryz.prog Tryz.f3 (OpenSpec.ofChange Rows.topFacesSpec) false w args)
      (Rows.topFacesSpec.post enc Tryz.prog Tryz.f3 false true false false) :=
  lifted_trueG (X := fun w _ => laidMetH Tryz.prog Rows.topFacesRow.laid w) (fun _ _ _ hh h => h.of_heap hh) [⟨0, [.int .i64, .int .i64], [.int (-1), .int 0]⟩] topFaces_glob topFaces_own started fact_laid (by kernel_rfl) Tryz.func3 e3 4 rfl Tryz.underlying4 (by kernel_rfl) rfl
    (fun ds h => match ds, h with | [_, _, _, _], _ => rfl) _ (by kernel_rfl) law3
    (ChangeSpec.witness_shaped (enc := enc) (C := Tryz.checked) (os := os) (X := fun w _ => laidMetH Tryz.prog Rows.topFacesRow.laid w) false (World.laidAll Tryz.prog os Rows.topFacesRow.laid) #[.slice none 0 0, .slice none 0 0, .slice none 0 0, .slice none 0 0] 8 (World.laidAll_os _ _ _)
      (topFaces_shaped os) (by kernel_rfl) (by kernel_rfl) (by kernel_rfl)
      (by rw [MakeChecks.laidMetH_plain _ _ _ (by kernel_rfl)]; exact laidMet_laidAll _ (by kernel_rfl) (by kernel_rfl)))
theorem topFaces_row : Rows.TopFacesSaid :=
  OpenClaim.holds_of_wide 3 Tryz.f3 rfl rfl rfl rfl rfl rfl rfl ⟨rfl, rfl, rfl, rfl, rfl⟩ rfl rfl rfl rfl rfl (by kernel_rfl) Tryz.func3 topFaces_closed
    (of_decide_eq_true (by kernel_rfl)) (by unfold Func.isWrapper; first | (rw [if_pos (by decide +kernel)]; kernel_rfl) | (rw [if_neg (by decide +kernel)]; exact ⟨rfl, rfl⟩))
    (fun os started H enc _ => topFaces_lifted os started H enc)
theorem topFaces_holds : Rows.TopFacesCardSaid :=
  Claim7.holds_tied_plain_at .later [] [.data, .data, .pinned] true (true, "3b32bd40e5468bc1cf5889e540d55183ea09659f7b06c49bd15a25d559b69c53") false topFaces_row (fun _ h => by cases h) (by kernel_rfl) (fun _ h => by cases h) topFaces_row_tie rfl ⟨rfl, rfl⟩ fact_main rfl
    (fun f fn hf hfn => by
      obtain rfl : f = 3 := Option.some.inj ((show Tryz.prog.funcNamed "deadwax/deadwaxtop.TopFaces" = some 3 by kernel_rfl).symm.trans hf) |>.symm
      obtain rfl : fn = Tryz.f3 := (Option.some.inj (Tryz.func3.symm.trans hfn)).symm
      exact ⟨fact_looks, fun j t ht => by
        rw [Tryz.params3] at ht
        have hm : t ∈ [22, 23, 24, 25] := by simpa using Array.mem_of_getElem? ht
        have hall : ([22, 23, 24, 25].all fun u => !Tryz.prog.wantsStandIn u) = true := by kernel_rfl
        exact (show Tryz.prog.wantsStandIn t = false by simpa using List.all_eq_true.1 hall t hm)⟩)
    topFaces_goes
end Go.Proofs.YteodcncppchhnaaGreatDoor
