/- best plans, the costs of plans, best prices, and which prices are right, are what the definitions say, or the error. (at most 12 formats; at most 8 tracks, or too many; at most 40 faces and prices.) -/
import Derived.Test.YtaehphnchiffnaaDoorPrSideAlbumsB
import Derived.Test.YtaehphnchiffnaaDoorFa
import Derived.Test.YtaehphnchiffnaaDoorFb
import Derived.Test.YtaehphnchiffnaaDoorFc
import Derived.Test.YtaehphnchiffnaaDoorFfSideAlbums
import Derived.Test.YtaehphnchiffnaaDoorXw
import Derived.Test.YtaehphnchiffnaaDoorXy
import Derived.Test.YtaehphnchiffnaaDoorXx
import Derived.Test.YtaehphnchiffnaaDoorCards
import Derived.Test.YtaehphnchiffnaaDoorTie
import Derived.ProofKit
import Derived.OpenShut
import Derived.LaidMore
import Derived.Lay
import Derived.SevenTiedAt
import Derived.Stop.Joined
namespace Go.Sx
open Go Go.Proofs
theorem law4 (rows : List (List Cell)) (H0 : WfRows [(false, [.sl [.str, .int .i64, .int .i64, .int .i64, .int .i64, .int .i64, .int .i64, .int .i64]]), (false, [.sl [.int .i64, .int .i64, .int .i64]]), (false, [.sl [.int .i64, .int .i64]]), (false, [.sl [.int .i64]])] rows) : HSpec Tryd.prog 4 (xvs [(false, [.sl [.str, .int .i64, .int .i64, .int .i64, .int .i64, .int .i64, .int .i64, .int .i64]]), (false, [.sl [.int .i64, .int .i64, .int .i64]]), (false, [.sl [.int .i64, .int .i64]]), (false, [.sl [.int .i64]])] rows) [gNone] (fun r _ => r = .x (.one (.prp True instDecidableTrue))) := by
  obtain ⟨x0, _, rfl, u0, H1⟩ := H0.sl
  obtain ⟨a0, rfl, z0⟩ := wf_fmts u0
  obtain ⟨x1, _, rfl, u1, H2⟩ := H1.sl
  obtain ⟨a1, rfl, h1⟩ := wf_sngs u1
  obtain ⟨x2, _, rfl, u2, H3⟩ := H2.sl
  obtain ⟨a2, rfl, h2⟩ := wf_faces u2
  obtain ⟨x3, _, rfl, u3, H4⟩ := H3.sl
  obtain ⟨a3, rfl, h3⟩ := wf_ints u3
  cases H4.nil_inv
  exact s4 a0 a1 a2 a3
end Go.Sx
namespace Go.Proofs.YtaehphnchiffnaaDoor
open Go.Sx
theorem sideAlbums_glob (w : World) (_ : Array Value) (h : laidMetH Tryd.prog Rows.sideAlbumsRow.laid w) : ∀ e, e ∈ [(⟨1, [.int .i64, .int .i64], [.int (-1), .int 0]⟩ : GVar)] → GlobAt w e := fun e he => by
  rw [List.mem_singleton.1 he]
  have h2 : laidMet Tryd.prog Rows.sideAlbumsRow.laid w := by
    rw [MakeChecks.laidMetH_plain _ _ _ (by kernel_rfl)] at h
    exact h
  exact glob_pair (P := Tryd.prog) (name := "deadwax/side.none") (g := 1) (t := 86) (e := 2) (by kernel_rfl) (by kernel_rfl) (by kernel_rfl) (by kernel_rfl) (by kernel_rfl) (Go.Lib.laidMet.reads h2 List.mem_cons_self)
theorem sideAlbums_own : ownKnob Tryd.prog.godebug = none := by kernel_rfl
theorem sideAlbums_closed : joinedFacts Tryd.prog 4 Tryd.f4 Rows.sideAlbumsSpec Rows.sideAlbumsRow = true :=
  joined_of (by kernel_rfl) fact_laid fact_rowed (by kernel_rfl) (by kernel_rfl) (by kernel_rfl) (by kernel_rfl) (by kernel_rfl) (by kernel_rfl) sideAlbums_k10 sideAlbums_k11 sideAlbums_k12 sideAlbums_k13 (by kernel_rfl) (by kernel_rfl) (by kernel_rfl) (by kernel_rfl) (by kernel_rfl) (by kernel_rfl) (by kernel_rfl) (by kernel_rfl) (by kernel_rfl) fact_keys (by kernel_rfl) fact_heard fact_enter fact_lifts (by kernel_rfl) (by kernel_rfl) (by kernel_rfl) (by kernel_rfl) (by kernel_rfl)
theorem sideAlbums_shaped (os : Os) : (World.laidAll Tryd.prog os Rows.sideAlbumsRow.laid).Shaped Tryd.prog := World.shaped_of_ZipB (by kernel_rfl) (by kernel_rfl)
set_option maxRecDepth 100000 in
theorem sideAlbums_lifted (os : Os) (started : os.Started) (H : Type) (enc : TypeId × Value → H) :
    ReturnsInHanded {} Tryd.checked os 4 .any (fun w args => (Rows.sideAlbumsSpec.pre enc Tryd.prog Tryd.f4 Rows.sideAlbumsRow.domain false w args ∧ laidMetH Tryd.prog Rows.sideAlbumsRow.laid w) ∧ sizedMet enc Tryd.prog Tryd.f4 (OpenSpec.ofChange Rows.sideAlbumsSpec) false w args)
      (Rows.sideAlbumsSpec.post enc Tryd.prog Tryd.f4 false true false false) :=
  lifted_trueG (X := fun w _ => laidMetH Tryd.prog Rows.sideAlbumsRow.laid w) (fun _ _ _ hh h => h.of_heap hh) [⟨1, [.int .i64, .int .i64], [.int (-1), .int 0]⟩] sideAlbums_glob sideAlbums_own started fact_laid (by kernel_rfl) Tryd.func4 e4 4 rfl Tryd.underlying4 (by kernel_rfl) rfl
    (fun ds h => match ds, h with | [_, _, _, _], _ => rfl) _ (by kernel_rfl) law4
    (ChangeSpec.witness_shaped (enc := enc) (C := Tryd.checked) (os := os) (X := fun w _ => laidMetH Tryd.prog Rows.sideAlbumsRow.laid w) false (World.laidAll Tryd.prog os Rows.sideAlbumsRow.laid) #[.slice none 0 0, .slice none 0 0, .slice none 0 0, .slice none 0 0] 8 (World.laidAll_os _ _ _)
      (sideAlbums_shaped os) (by kernel_rfl) (by kernel_rfl) (by kernel_rfl)
      (by rw [MakeChecks.laidMetH_plain _ _ _ (by kernel_rfl)]; exact laidMet_laidAll _ (by kernel_rfl) (by kernel_rfl)))
theorem sideAlbums_row : Rows.SideAlbumsSaid :=
  OpenClaim.holds_of_wide 4 Tryd.f4 rfl rfl rfl rfl rfl rfl rfl ⟨rfl, rfl, rfl, rfl, rfl⟩ rfl rfl rfl rfl rfl (by kernel_rfl) Tryd.func4 sideAlbums_closed
    (of_decide_eq_true (by kernel_rfl)) (by unfold Func.isWrapper; first | (rw [if_pos (by decide +kernel)]; kernel_rfl) | (rw [if_neg (by decide +kernel)]; exact ⟨rfl, rfl⟩))
    (fun os started H enc _ => sideAlbums_lifted os started H enc)
theorem sideAlbums_holds : Rows.SideAlbumsCardSaid :=
  Claim7.holds_tied_plain_at .later [] [.data] true (true, "6dc2daffb95c571ead266799d4087aa6ac5d3a56204d49d6a8d298ab455f389b") false sideAlbums_row (fun _ h => by cases h) (by kernel_rfl) (fun _ h => by cases h) sideAlbums_row_tie rfl ⟨rfl, rfl⟩ fact_main rfl
    (fun f fn hf hfn => by
      obtain rfl : f = 4 := Option.some.inj ((show Tryd.prog.funcNamed "deadwax/deadwaxlaw04.SideAlbums" = some 4 by kernel_rfl).symm.trans hf) |>.symm
      obtain rfl : fn = Tryd.f4 := (Option.some.inj (Tryd.func4.symm.trans hfn)).symm
      exact ⟨fact_looks, fun j t ht => by
        rw [Tryd.params4] at ht
        have hm : t ∈ [36, 26, 37, 38] := by simpa using Array.mem_of_getElem? ht
        have hall : ([36, 26, 37, 38].all fun u => !Tryd.prog.wantsStandIn u) = true := by kernel_rfl
        exact (show Tryd.prog.wantsStandIn t = false by simpa using List.all_eq_true.1 hall t hm)⟩)
    sideAlbums_goes
end Go.Proofs.YtaehphnchiffnaaDoor
