import Derived.Test.YthggkanmgibldaaPrPlatingAsksB
import Derived.Test.YthggkanmgibldaaPrPlatingAsksA
import Derived.Test.YthggkanmgibldaaXc
namespace Go.Sx
open Go Go.Proofs
set_option maxRecDepth 10000
set_option maxHeartbeats 8000000
theorem e11 : EntersF Try.prog 11 := enters_of Try.func11 (c := bodyOf Try.f11) (by kernel_rfl) rfl
/-! ### What is asked -/
/-- What is said of no list is said of nil. -/
theorem HSpec.nils {P : Program} {f : FuncId} {pre post : List XV} {m : List Blk} {Rs : AV → List (Option Blk) → Prop} {b : Bool} {ks : List CK} (h : HSpec P f (pre ++ .one (.lst b ks []) :: post) m Rs) : HSpec P f (pre ++ .one .nils :: post) m Rs := fun w R vs hv hm => by
  refine h w R vs ⟨by rw [hv.1]; simp, fun j x hx => ?_⟩ hm
  by_cases e : j = pre.length
  · subst e
    have h1 := hv.2 pre.length (.one .nils) (by simp)
    have h2 : x = .one (.lst b ks []) := by simpa using hx.symm
    subst h2
    have h3 : vs.getD pre.length undef = .slice none 0 0 := h1
    rw [h3]
    exact RepC.sl ks [] none 0 (fun _ _ => undef) (Nat.le_refl _) (fun r hr => absurd hr (by simp)) (fun hr => absurd rfl hr) (fun i r f c k hr => absurd hr (by simp))
  · refine hv.2 j x ?_
    rw [List.getElem?_append] at hx ⊢
    split
    · rename_i hj
      rw [if_pos hj] at hx
      exact hx
    · rename_i hj
      rw [if_neg hj] at hx
      obtain ⟨d, hd⟩ : ∃ d, j - pre.length = d + 1 := ⟨j - pre.length - 1, by omega⟩
      rw [hd] at hx ⊢
      exact hx
theorem s32n : PSpec Try.prog 32 [.one .nils, .one .nils] (xP (([] : List Int) = [])) :=
  HSpec.nils (pre := []) (b := true) (ks := [.int .i64]) (HSpec.nils (pre := [.one (.lst true [.int .i64] [])]) (post := []) (b := true) (ks := [.int .i64]) (s32 [] [] (by decide)))
theorem s11_any (r : Rcp) (l : List Act2) (i f : Int) (zs : List Int) (h : 60 < l.length ∨ 10 < zs.length ∨ ¬ RcpOK r) : PSpec Try.prog 11 [r.x, .one (.lst true KAc (acA l)), I i, I f, .one (.lst true [.int .i64] (i64s zs))] (xP True) := by
  have ll := acA_len l
  have lz := i64s_len zs
  have c16 := s16 r
  have c17 := s17
  by_cases hl : 60 < l.length
  · refine spec_of pMix (O := []) Try.func11 (c := bodyOf Try.f11) rfl (by kernel_rfl) (by kernel_rfl) Try.ntmps11 (res := [.tmp 10]) (by kernel_rfl) ?_
    repeat' ((conv => whnf); first | refine Rng.g ?_ | refine Ob.g ?_ | refine Ob.e ?_ | refine Ob.m ?_ | refine Ob.mk (Nat.le_of_ble_eq_true rfl) ?_ | refine JoinVC.on ?_ | refine Nils.mk (fun h => ?_) ?_ | refine Val.t ?_ | refine Val.d ?_ | refine Mm.mk ?_ | refine CallVC.pure rfl (c17) ?_ | refine CallVC0.pure rfl (c17) ?_ | (refine Br.mk (fun h => ?_) (fun h => ?_) <;> first | (exfalso; omega; done) | (exfalso; simp at h; done) | skip))
    repeat refine Mm.mk ?_
    refine EndVC.mk _ rfl _ _ ⟨rfl, rfl⟩ ?_
    refine ⟨[], rfl, rfl, ?_, ?_⟩ <;> repeat' (first | exact trivial | exact rfl | exact Iff.rfl | apply And.intro)
  by_cases hz : 10 < zs.length
  · refine spec_of pMix (O := []) Try.func11 (c := bodyOf Try.f11) rfl (by kernel_rfl) (by kernel_rfl) Try.ntmps11 (res := [.tmp 10]) (by kernel_rfl) ?_
    repeat' ((conv => whnf); first | refine Rng.g ?_ | refine Ob.g ?_ | refine Ob.e ?_ | refine Ob.m ?_ | refine Ob.mk (Nat.le_of_ble_eq_true rfl) ?_ | refine JoinVC.on ?_ | refine Nils.mk (fun h => ?_) ?_ | refine Val.t ?_ | refine Val.d ?_ | refine Mm.mk ?_ | refine CallVC.pure rfl (c17) ?_ | refine CallVC0.pure rfl (c17) ?_ | (refine Br.mk (fun h => ?_) (fun h => ?_) <;> first | (exfalso; omega; done) | (exfalso; simp at h; done) | skip))
    repeat refine Mm.mk ?_
    refine EndVC.mk _ rfl _ _ ⟨rfl, rfl⟩ ?_
    refine ⟨[], rfl, rfl, ?_, ?_⟩ <;> repeat' (first | exact trivial | exact rfl | exact Iff.rfl | apply And.intro)
  · have hr : ¬ RcpOK r := (h.resolve_left hl).resolve_left hz
    unfold rcpE at c16
    rw [if_neg hr] at c16
    refine spec_of pMix (O := []) Try.func11 (c := bodyOf Try.f11) rfl (by kernel_rfl) (by kernel_rfl) Try.ntmps11 (res := [.tmp 10]) (by kernel_rfl) ?_
    repeat' ((conv => whnf); first | refine Rng.g ?_ | refine Ob.g ?_ | refine Ob.e ?_ | refine Ob.m ?_ | refine Ob.mk (Nat.le_of_ble_eq_true rfl) ?_ | refine JoinVC.on ?_ | refine Nils.mk (fun h => ?_) ?_ | refine Val.t ?_ | refine Val.d ?_ | refine Mm.mk ?_ | refine CallVC.pure rfl (c16) ?_ | refine CallVC.pure rfl (c17) ?_ | refine CallVC0.pure rfl (c16) ?_ | refine CallVC0.pure rfl (c17) ?_ | (refine Br.mk (fun h => ?_) (fun h => ?_) <;> first | (exfalso; omega; done) | (exfalso; simp at h; done) | skip))
    repeat refine Mm.mk ?_
    refine EndVC.mk _ rfl _ _ ⟨rfl, rfl⟩ ?_
    refine ⟨[], rfl, rfl, ?_, ?_⟩ <;> repeat' (first | exact trivial | exact rfl | exact Iff.rfl | apply And.intro)
theorem s11_if (r : Rcp) (l : List Act2) (i f : Int) (zs : List Int) (hl : l.length ≤ 60) (hz : zs.length ≤ 10) (hr : RcpOK r) (hi : inP (aftS r l) i) (hf : inF (aftS r l) f) : PSpec Try.prog 11 [r.x, .one (.lst true KAc (acA l)), I i, I f, .one (.lst true [.int .i64] (i64s zs))] (xP True) := by
  have ll := acA_len l
  have lz := i64s_len zs
  have c16 := s16 r
  have c17 := s17
  unfold rcpE at c16
  rw [if_pos hr] at c16
  have c23 := s23 r l hr (by omega)
  have hS := aft_ok hr l
  generalize aftS r l = S at *
  refine spec_of pMix (O := []) Try.func11 (c := bodyOf Try.f11) rfl (by kernel_rfl) (by kernel_rfl) Try.ntmps11 (res := [.tmp 10]) (by kernel_rfl) ?_
  repeat' ((conv => whnf); first | refine Rng.g ?_ | refine Ob.g ?_ | refine Ob.e ?_ | refine Ob.m ?_ | refine Ob.mk (Nat.le_of_ble_eq_true rfl) ?_ | refine JoinVC.on ?_ | refine Nils.mk (fun h => ?_) ?_ | refine Val.t ?_ | refine Val.d ?_ | refine Mm.mk ?_ | refine CallVC.pure rfl (c16) ?_ | refine CallVC0.pure rfl (c16) ?_ | (refine Br.mk (fun h => ?_) (fun h => ?_) <;> first | (exfalso; omega; done) | (exfalso; simp at h; done) | skip))
  conv => whnf
  refine CallVC.mk [] _ _ _ rfl rfl rfl (c23) (fun r m' h' => ?_)
  obtain ⟨ms, hM, rfl, rfl⟩ := h'
  conv => whnf
  have c31 := s31_in S ms hS zs (by omega)
  have c45 := s45 S hS zs (by omega)
  have c38 := s38 S ms f
  have c30 := s30_ok S ms hS i hi
  have c41 := s41_ok S hS i hi
  have c40 := s40_ok S ms hS hM i hi
  have c42 := s42_ok S hS i hi
  have hi' := hi
  unfold inP at hi'
  have e : srt (S.b i) = flw (S.b i) S.fl.length := srt_flw hS (i := i.toNat) (by omega)
  rw [e] at c40
  have hup := up_len S i
  have hnp := hS.np
  have hfl := flw_len (S.b i) S.fl.length
  have hnf := hS.nf
  have c32a := s32 (S.up i).reverse (S.up i).reverse (by rw [List.length_reverse]; omega)
  have c32b := s32 (flw (S.b i) S.fl.length) (flw (S.b i) S.fl.length) (by omega)
  rw [if_pos hf] at c38
  have c43 : HSpec Try.prog 43 [.one (.ptr 0 0), I f] (rfM S) (fun r m' => r = .tup [I (S.f f).1, I (S.f f).2, I 0] ∧ m' = rfK S) := s43_ok S f hf
  have c39 := s39_ok S ms hS hM f hf
  have c44 := s44_ok S hS f hf
  have hbl := bear_len S.be f S.pl.length
  have hnp2 := hS.np
  have c32c := s32 (bear S.be f S.pl.length) (bear S.be f S.pl.length) (by omega)
  repeat' ((conv => whnf); first | refine Rng.g ?_ | refine Ob.g ?_ | refine Ob.e ?_ | refine Ob.m ?_ | refine Ob.mk (Nat.le_of_ble_eq_true rfl) ?_ | refine JoinVC.on ?_ | refine Nils.mk (fun h => ?_) ?_ | refine Val.t ?_ | refine Val.d ?_ | refine Mm.mk ?_ | (refine Br.mk (fun h => ?_) (fun h => ?_) <;> first | (exfalso; omega; done) | (exfalso; simp at h; done) | skip))
  conv => whnf
  first | refine CallVC.mk [1, 2, 3, 4, 5, 6] _ _ _ rfl rfl rfl (c30) (fun r m' h' => ?_) | refine CallVC0.same [1, 2, 3, 4, 5, 6] _ _ _ rfl rfl rfl rfl (c30) (fun r m' h' => (by obtain ⟨rfl, rfl⟩ := h'; rfl)) (fun r m' h' => ?_) | (refine CallVC0.rows [1, 2, 3, 4, 5, 6] _ _ _ rfl rfl rfl ?_ (c30) (fun r m' h' => (by obtain ⟨rfl, rfl⟩ := h'; rfl)) (fun r m' h' => ?_); · (repeat' ((conv => whnf); first | exact trivial | exact rfl | exact Nat.le_refl _ | apply And.intro)))
  obtain ⟨rfl, rfl⟩ := h'
  conv => whnf
  repeat' ((conv => whnf); first | refine Rng.g ?_ | refine Ob.g ?_ | refine Ob.e ?_ | refine Ob.m ?_ | refine Ob.mk (Nat.le_of_ble_eq_true rfl) ?_ | refine JoinVC.on ?_ | refine Nils.mk (fun h => ?_) ?_ | refine Val.t ?_ | refine Val.d ?_ | refine Mm.mk ?_ | (refine Br.mk (fun h => ?_) (fun h => ?_) <;> first | (exfalso; omega; done) | (exfalso; simp at h; done) | skip))
  conv => whnf
  first | refine CallVC.mk [7, 8, 9, 10, 11, 12] _ _ _ rfl rfl rfl (c41) (fun r m' h' => ?_) | refine CallVC0.same [7, 8, 9, 10, 11, 12] _ _ _ rfl rfl rfl rfl (c41) (fun r m' h' => (by obtain ⟨rfl, rfl⟩ := h'; rfl)) (fun r m' h' => ?_) | (refine CallVC0.rows [7, 8, 9, 10, 11, 12] _ _ _ rfl rfl rfl ?_ (c41) (fun r m' h' => (by obtain ⟨rfl, rfl⟩ := h'; rfl)) (fun r m' h' => ?_); · (repeat' ((conv => whnf); first | exact trivial | exact rfl | exact Nat.le_refl _ | apply And.intro)))
  obtain ⟨rfl, rfl⟩ := h'
  conv => whnf
  repeat' ((conv => whnf); first | refine Rng.g ?_ | refine Ob.g ?_ | refine Ob.e ?_ | refine Ob.m ?_ | refine Ob.mk (Nat.le_of_ble_eq_true rfl) ?_ | refine JoinVC.on ?_ | refine Nils.mk (fun h => ?_) ?_ | refine Val.t ?_ | refine Val.d ?_ | refine Mm.mk ?_ | (refine Br.mk (fun h => ?_) (fun h => ?_) <;> first | (exfalso; omega; done) | (exfalso; simp at h; done) | skip))
  conv => whnf
  first | refine CallVC.mk [1, 2, 3, 4, 5, 6] _ _ _ rfl rfl rfl (c40) (fun r m' h' => ?_) | refine CallVC0.same [1, 2, 3, 4, 5, 6] _ _ _ rfl rfl rfl rfl (c40) (fun r m' h' => (by obtain ⟨rfl, rfl⟩ := h'; rfl)) (fun r m' h' => ?_) | (refine CallVC0.rows [1, 2, 3, 4, 5, 6] _ _ _ rfl rfl rfl ?_ (c40) (fun r m' h' => (by obtain ⟨rfl, rfl⟩ := h'; rfl)) (fun r m' h' => ?_); · (repeat' ((conv => whnf); first | exact trivial | exact rfl | exact Nat.le_refl _ | apply And.intro)))
  obtain ⟨rfl, rfl⟩ := h'
  conv => whnf
  repeat' ((conv => whnf); first | refine Rng.g ?_ | refine Ob.g ?_ | refine Ob.e ?_ | refine Ob.m ?_ | refine Ob.mk (Nat.le_of_ble_eq_true rfl) ?_ | refine JoinVC.on ?_ | refine Nils.mk (fun h => ?_) ?_ | refine Val.t ?_ | refine Val.d ?_ | refine Mm.mk ?_ | (refine Br.mk (fun h => ?_) (fun h => ?_) <;> first | (exfalso; omega; done) | (exfalso; simp at h; done) | skip))
  conv => whnf
  first | refine CallVC.mk [7, 8, 9, 10, 11, 12] _ _ _ rfl rfl rfl (c42) (fun r m' h' => ?_) | refine CallVC0.same [7, 8, 9, 10, 11, 12] _ _ _ rfl rfl rfl rfl (c42) (fun r m' h' => (by obtain ⟨rfl, rfl⟩ := h'; rfl)) (fun r m' h' => ?_) | (refine CallVC0.rows [7, 8, 9, 10, 11, 12] _ _ _ rfl rfl rfl ?_ (c42) (fun r m' h' => (by obtain ⟨rfl, rfl⟩ := h'; rfl)) (fun r m' h' => ?_); · (repeat' ((conv => whnf); first | exact trivial | exact rfl | exact Nat.le_refl _ | apply And.intro)))
  obtain ⟨rfl, rfl⟩ := h'
  conv => whnf
  repeat' ((conv => whnf); first | refine Rng.g ?_ | refine Ob.g ?_ | refine Ob.e ?_ | refine Ob.m ?_ | refine Ob.mk (Nat.le_of_ble_eq_true rfl) ?_ | refine JoinVC.on ?_ | refine Nils.mk (fun h => ?_) ?_ | refine Val.t ?_ | refine Val.d ?_ | refine Mm.mk ?_ | (refine Br.mk (fun h => ?_) (fun h => ?_) <;> first | (exfalso; omega; done) | (exfalso; simp at h; done) | skip))
  conv => whnf
  first | refine CallVC.mk [1, 2, 3, 4, 5, 6] _ _ _ rfl rfl rfl (c38) (fun r m' h' => ?_) | refine CallVC0.same [1, 2, 3, 4, 5, 6] _ _ _ rfl rfl rfl rfl (c38) (fun r m' h' => (by obtain ⟨rfl, rfl⟩ := h'; rfl)) (fun r m' h' => ?_) | (refine CallVC0.rows [1, 2, 3, 4, 5, 6] _ _ _ rfl rfl rfl ?_ (c38) (fun r m' h' => (by obtain ⟨rfl, rfl⟩ := h'; rfl)) (fun r m' h' => ?_); · (repeat' ((conv => whnf); first | exact trivial | exact rfl | exact Nat.le_refl _ | apply And.intro)))
  obtain ⟨rfl, rfl⟩ := h'
  conv => whnf
  repeat' ((conv => whnf); first | refine Rng.g ?_ | refine Ob.g ?_ | refine Ob.e ?_ | refine Ob.m ?_ | refine Ob.mk (Nat.le_of_ble_eq_true rfl) ?_ | refine JoinVC.on ?_ | refine Nils.mk (fun h => ?_) ?_ | refine Val.t ?_ | refine Val.d ?_ | refine Mm.mk ?_ | (refine Br.mk (fun h => ?_) (fun h => ?_) <;> first | (exfalso; omega; done) | (exfalso; simp at h; done) | skip))
  conv => whnf
  first | refine CallVC.mk [7, 8, 9, 10, 11, 12] _ _ _ rfl rfl rfl (c43) (fun r m' h' => ?_) | refine CallVC0.same [7, 8, 9, 10, 11, 12] _ _ _ rfl rfl rfl rfl (c43) (fun r m' h' => (by obtain ⟨rfl, rfl⟩ := h'; rfl)) (fun r m' h' => ?_) | (refine CallVC0.rows [7, 8, 9, 10, 11, 12] _ _ _ rfl rfl rfl ?_ (c43) (fun r m' h' => (by obtain ⟨rfl, rfl⟩ := h'; rfl)) (fun r m' h' => ?_); · (repeat' ((conv => whnf); first | exact trivial | exact rfl | exact Nat.le_refl _ | apply And.intro)))
  obtain ⟨rfl, rfl⟩ := h'
  conv => whnf
  repeat' ((conv => whnf); first | refine Rng.g ?_ | refine Ob.g ?_ | refine Ob.e ?_ | refine Ob.m ?_ | refine Ob.mk (Nat.le_of_ble_eq_true rfl) ?_ | refine JoinVC.on ?_ | refine Nils.mk (fun h => ?_) ?_ | refine Val.t ?_ | refine Val.d ?_ | refine Mm.mk ?_ | (refine Br.mk (fun h => ?_) (fun h => ?_) <;> first | (exfalso; omega; done) | (exfalso; simp at h; done) | skip))
  conv => whnf
  first | refine CallVC.mk [1, 2, 3, 4, 5, 6] _ _ _ rfl rfl rfl (c39) (fun r m' h' => ?_) | refine CallVC0.same [1, 2, 3, 4, 5, 6] _ _ _ rfl rfl rfl rfl (c39) (fun r m' h' => (by obtain ⟨rfl, rfl⟩ := h'; rfl)) (fun r m' h' => ?_) | (refine CallVC0.rows [1, 2, 3, 4, 5, 6] _ _ _ rfl rfl rfl ?_ (c39) (fun r m' h' => (by obtain ⟨rfl, rfl⟩ := h'; rfl)) (fun r m' h' => ?_); · (repeat' ((conv => whnf); first | exact trivial | exact rfl | exact Nat.le_refl _ | apply And.intro)))
  obtain ⟨rfl, rfl⟩ := h'
  conv => whnf
  repeat' ((conv => whnf); first | refine Rng.g ?_ | refine Ob.g ?_ | refine Ob.e ?_ | refine Ob.m ?_ | refine Ob.mk (Nat.le_of_ble_eq_true rfl) ?_ | refine JoinVC.on ?_ | refine Nils.mk (fun h => ?_) ?_ | refine Val.t ?_ | refine Val.d ?_ | refine Mm.mk ?_ | (refine Br.mk (fun h => ?_) (fun h => ?_) <;> first | (exfalso; omega; done) | (exfalso; simp at h; done) | skip))
  conv => whnf
  first | refine CallVC.mk [7, 8, 9, 10, 11, 12] _ _ _ rfl rfl rfl (c44) (fun r m' h' => ?_) | refine CallVC0.same [7, 8, 9, 10, 11, 12] _ _ _ rfl rfl rfl rfl (c44) (fun r m' h' => (by obtain ⟨rfl, rfl⟩ := h'; rfl)) (fun r m' h' => ?_) | (refine CallVC0.rows [7, 8, 9, 10, 11, 12] _ _ _ rfl rfl rfl ?_ (c44) (fun r m' h' => (by obtain ⟨rfl, rfl⟩ := h'; rfl)) (fun r m' h' => ?_); · (repeat' ((conv => whnf); first | exact trivial | exact rfl | exact Nat.le_refl _ | apply And.intro)))
  obtain ⟨rfl, rfl⟩ := h'
  conv => whnf
  repeat' ((conv => whnf); first | refine Rng.g ?_ | refine Ob.g ?_ | refine Ob.e ?_ | refine Ob.m ?_ | refine Ob.mk (Nat.le_of_ble_eq_true rfl) ?_ | refine JoinVC.on ?_ | refine Nils.mk (fun h => ?_) ?_ | refine Val.t ?_ | refine Val.d ?_ | refine Mm.mk ?_ | refine CallVC.pure rfl (c32a) ?_ | refine CallVC.pure rfl (c32b) ?_ | refine CallVC.pure rfl (c32c) ?_ | refine CallVC0.pure rfl (c32a) ?_ | refine CallVC0.pure rfl (c32b) ?_ | refine CallVC0.pure rfl (c32c) ?_ | (refine Br.mk (fun h => ?_) (fun h => ?_) <;> first | (exfalso; omega; done) | (exfalso; simp at h; done) | skip))
  conv => whnf
  first | refine CallVC.mk [1, 2, 3, 4, 5, 6] _ _ _ rfl rfl rfl (c31) (fun r m' h' => ?_) | refine CallVC0.same [1, 2, 3, 4, 5, 6] _ _ _ rfl rfl rfl rfl (c31) (fun r m' h' => (by obtain ⟨rfl, rfl⟩ := h'; rfl)) (fun r m' h' => ?_) | (refine CallVC0.rows [1, 2, 3, 4, 5, 6] _ _ _ rfl rfl rfl ?_ (c31) (fun r m' h' => (by obtain ⟨rfl, rfl⟩ := h'; rfl)) (fun r m' h' => ?_); · (repeat' ((conv => whnf); first | exact trivial | exact rfl | exact Nat.le_refl _ | apply And.intro)))
  obtain ⟨rfl, rfl⟩ := h'
  conv => whnf
  repeat' ((conv => whnf); first | refine Rng.g ?_ | refine Ob.g ?_ | refine Ob.e ?_ | refine Ob.m ?_ | refine Ob.mk (Nat.le_of_ble_eq_true rfl) ?_ | refine JoinVC.on ?_ | refine Nils.mk (fun h => ?_) ?_ | refine Val.t ?_ | refine Val.d ?_ | refine Mm.mk ?_ | (refine Br.mk (fun h => ?_) (fun h => ?_) <;> first | (exfalso; omega; done) | (exfalso; simp at h; done) | skip))
  conv => whnf
  first | refine CallVC.mk [7, 8, 9, 10, 11, 12] _ _ _ rfl rfl rfl (c45) (fun r m' h' => ?_) | refine CallVC0.same [7, 8, 9, 10, 11, 12] _ _ _ rfl rfl rfl rfl (c45) (fun r m' h' => (by obtain ⟨rfl, rfl⟩ := h'; rfl)) (fun r m' h' => ?_) | (refine CallVC0.rows [7, 8, 9, 10, 11, 12] _ _ _ rfl rfl rfl ?_ (c45) (fun r m' h' => (by obtain ⟨rfl, rfl⟩ := h'; rfl)) (fun r m' h' => ?_); · (repeat' ((conv => whnf); first | exact trivial | exact rfl | exact Nat.le_refl _ | apply And.intro)))
  obtain ⟨rfl, rfl⟩ := h'
  conv => whnf
  repeat' ((conv => whnf); first | refine Rng.g ?_ | refine Ob.g ?_ | refine Ob.e ?_ | refine Ob.m ?_ | refine Ob.mk (Nat.le_of_ble_eq_true rfl) ?_ | refine JoinVC.on ?_ | refine Nils.mk (fun h => ?_) ?_ | refine Val.t ?_ | refine Val.d ?_ | refine Mm.mk ?_ | refine CallVC.pure rfl (c17) ?_ | refine CallVC0.pure rfl (c17) ?_ | (refine Br.mk (fun h => ?_) (fun h => ?_) <;> first | (exfalso; omega; done) | (exfalso; simp at h; done) | skip))
  repeat refine Mm.mk ?_
  refine EndVC.mk _ rfl _ _ ⟨rfl, rfl⟩ ?_
  refine ⟨[], rfl, rfl, ?_, ?_⟩ <;> repeat' (first | exact trivial | exact rfl | exact Iff.rfl | apply And.intro)
theorem s11_in (r : Rcp) (l : List Act2) (i f : Int) (zs : List Int) (hl : l.length ≤ 60) (hz : zs.length ≤ 10) (hr : RcpOK r) (hi : inP (aftS r l) i) (hf : ¬ inF (aftS r l) f) : PSpec Try.prog 11 [r.x, .one (.lst true KAc (acA l)), I i, I f, .one (.lst true [.int .i64] (i64s zs))] (xP True) := by
  have ll := acA_len l
  have lz := i64s_len zs
  have c16 := s16 r
  have c17 := s17
  unfold rcpE at c16
  rw [if_pos hr] at c16
  have c23 := s23 r l hr (by omega)
  have hS := aft_ok hr l
  generalize aftS r l = S at *
  refine spec_of pMix (O := []) Try.func11 (c := bodyOf Try.f11) rfl (by kernel_rfl) (by kernel_rfl) Try.ntmps11 (res := [.tmp 10]) (by kernel_rfl) ?_
  repeat' ((conv => whnf); first | refine Rng.g ?_ | refine Ob.g ?_ | refine Ob.e ?_ | refine Ob.m ?_ | refine Ob.mk (Nat.le_of_ble_eq_true rfl) ?_ | refine JoinVC.on ?_ | refine Nils.mk (fun h => ?_) ?_ | refine Val.t ?_ | refine Val.d ?_ | refine Mm.mk ?_ | refine CallVC.pure rfl (c16) ?_ | refine CallVC0.pure rfl (c16) ?_ | (refine Br.mk (fun h => ?_) (fun h => ?_) <;> first | (exfalso; omega; done) | (exfalso; simp at h; done) | skip))
  conv => whnf
  refine CallVC.mk [] _ _ _ rfl rfl rfl (c23) (fun r m' h' => ?_)
  obtain ⟨ms, hM, rfl, rfl⟩ := h'
  conv => whnf
  have c31 := s31_in S ms hS zs (by omega)
  have c45 := s45 S hS zs (by omega)
  have c38 := s38 S ms f
  have c30 := s30_ok S ms hS i hi
  have c41 := s41_ok S hS i hi
  have c40 := s40_ok S ms hS hM i hi
  have c42 := s42_ok S hS i hi
  have hi' := hi
  unfold inP at hi'
  have e : srt (S.b i) = flw (S.b i) S.fl.length := srt_flw hS (i := i.toNat) (by omega)
  rw [e] at c40
  have hup := up_len S i
  have hnp := hS.np
  have hfl := flw_len (S.b i) S.fl.length
  have hnf := hS.nf
  have c32a := s32 (S.up i).reverse (S.up i).reverse (by rw [List.length_reverse]; omega)
  have c32b := s32 (flw (S.b i) S.fl.length) (flw (S.b i) S.fl.length) (by omega)
  rw [if_neg hf] at c38
  have c43 := s43_no S f hf
  have c39 := s39_no S ms f hf
  have c44 := s44_no S f hf
  have c32n := s32n
  repeat' ((conv => whnf); first | refine Rng.g ?_ | refine Ob.g ?_ | refine Ob.e ?_ | refine Ob.m ?_ | refine Ob.mk (Nat.le_of_ble_eq_true rfl) ?_ | refine JoinVC.on ?_ | refine Nils.mk (fun h => ?_) ?_ | refine Val.t ?_ | refine Val.d ?_ | refine Mm.mk ?_ | (refine Br.mk (fun h => ?_) (fun h => ?_) <;> first | (exfalso; omega; done) | (exfalso; simp at h; done) | skip))
  conv => whnf
  first | refine CallVC.mk [1, 2, 3, 4, 5, 6] _ _ _ rfl rfl rfl (c30) (fun r m' h' => ?_) | refine CallVC0.same [1, 2, 3, 4, 5, 6] _ _ _ rfl rfl rfl rfl (c30) (fun r m' h' => (by obtain ⟨rfl, rfl⟩ := h'; rfl)) (fun r m' h' => ?_) | (refine CallVC0.rows [1, 2, 3, 4, 5, 6] _ _ _ rfl rfl rfl ?_ (c30) (fun r m' h' => (by obtain ⟨rfl, rfl⟩ := h'; rfl)) (fun r m' h' => ?_); · (repeat' ((conv => whnf); first | exact trivial | exact rfl | exact Nat.le_refl _ | apply And.intro)))
  obtain ⟨rfl, rfl⟩ := h'
  conv => whnf
  repeat' ((conv => whnf); first | refine Rng.g ?_ | refine Ob.g ?_ | refine Ob.e ?_ | refine Ob.m ?_ | refine Ob.mk (Nat.le_of_ble_eq_true rfl) ?_ | refine JoinVC.on ?_ | refine Nils.mk (fun h => ?_) ?_ | refine Val.t ?_ | refine Val.d ?_ | refine Mm.mk ?_ | (refine Br.mk (fun h => ?_) (fun h => ?_) <;> first | (exfalso; omega; done) | (exfalso; simp at h; done) | skip))
  conv => whnf
  first | refine CallVC.mk [7, 8, 9, 10, 11, 12] _ _ _ rfl rfl rfl (c41) (fun r m' h' => ?_) | refine CallVC0.same [7, 8, 9, 10, 11, 12] _ _ _ rfl rfl rfl rfl (c41) (fun r m' h' => (by obtain ⟨rfl, rfl⟩ := h'; rfl)) (fun r m' h' => ?_) | (refine CallVC0.rows [7, 8, 9, 10, 11, 12] _ _ _ rfl rfl rfl ?_ (c41) (fun r m' h' => (by obtain ⟨rfl, rfl⟩ := h'; rfl)) (fun r m' h' => ?_); · (repeat' ((conv => whnf); first | exact trivial | exact rfl | exact Nat.le_refl _ | apply And.intro)))
  obtain ⟨rfl, rfl⟩ := h'
  conv => whnf
  repeat' ((conv => whnf); first | refine Rng.g ?_ | refine Ob.g ?_ | refine Ob.e ?_ | refine Ob.m ?_ | refine Ob.mk (Nat.le_of_ble_eq_true rfl) ?_ | refine JoinVC.on ?_ | refine Nils.mk (fun h => ?_) ?_ | refine Val.t ?_ | refine Val.d ?_ | refine Mm.mk ?_ | (refine Br.mk (fun h => ?_) (fun h => ?_) <;> first | (exfalso; omega; done) | (exfalso; simp at h; done) | skip))
  conv => whnf
  first | refine CallVC.mk [1, 2, 3, 4, 5, 6] _ _ _ rfl rfl rfl (c40) (fun r m' h' => ?_) | refine CallVC0.same [1, 2, 3, 4, 5, 6] _ _ _ rfl rfl rfl rfl (c40) (fun r m' h' => (by obtain ⟨rfl, rfl⟩ := h'; rfl)) (fun r m' h' => ?_) | (refine CallVC0.rows [1, 2, 3, 4, 5, 6] _ _ _ rfl rfl rfl ?_ (c40) (fun r m' h' => (by obtain ⟨rfl, rfl⟩ := h'; rfl)) (fun r m' h' => ?_); · (repeat' ((conv => whnf); first | exact trivial | exact rfl | exact Nat.le_refl _ | apply And.intro)))
  obtain ⟨rfl, rfl⟩ := h'
  conv => whnf
  repeat' ((conv => whnf); first | refine Rng.g ?_ | refine Ob.g ?_ | refine Ob.e ?_ | refine Ob.m ?_ | refine Ob.mk (Nat.le_of_ble_eq_true rfl) ?_ | refine JoinVC.on ?_ | refine Nils.mk (fun h => ?_) ?_ | refine Val.t ?_ | refine Val.d ?_ | refine Mm.mk ?_ | (refine Br.mk (fun h => ?_) (fun h => ?_) <;> first | (exfalso; omega; done) | (exfalso; simp at h; done) | skip))
  conv => whnf
  first | refine CallVC.mk [7, 8, 9, 10, 11, 12] _ _ _ rfl rfl rfl (c42) (fun r m' h' => ?_) | refine CallVC0.same [7, 8, 9, 10, 11, 12] _ _ _ rfl rfl rfl rfl (c42) (fun r m' h' => (by obtain ⟨rfl, rfl⟩ := h'; rfl)) (fun r m' h' => ?_) | (refine CallVC0.rows [7, 8, 9, 10, 11, 12] _ _ _ rfl rfl rfl ?_ (c42) (fun r m' h' => (by obtain ⟨rfl, rfl⟩ := h'; rfl)) (fun r m' h' => ?_); · (repeat' ((conv => whnf); first | exact trivial | exact rfl | exact Nat.le_refl _ | apply And.intro)))
  obtain ⟨rfl, rfl⟩ := h'
  conv => whnf
  repeat' ((conv => whnf); first | refine Rng.g ?_ | refine Ob.g ?_ | refine Ob.e ?_ | refine Ob.m ?_ | refine Ob.mk (Nat.le_of_ble_eq_true rfl) ?_ | refine JoinVC.on ?_ | refine Nils.mk (fun h => ?_) ?_ | refine Val.t ?_ | refine Val.d ?_ | refine Mm.mk ?_ | (refine Br.mk (fun h => ?_) (fun h => ?_) <;> first | (exfalso; omega; done) | (exfalso; simp at h; done) | skip))
  conv => whnf
  first | refine CallVC.mk [1, 2, 3, 4, 5, 6] _ _ _ rfl rfl rfl (c38) (fun r m' h' => ?_) | refine CallVC0.same [1, 2, 3, 4, 5, 6] _ _ _ rfl rfl rfl rfl (c38) (fun r m' h' => (by obtain ⟨rfl, rfl⟩ := h'; rfl)) (fun r m' h' => ?_) | (refine CallVC0.rows [1, 2, 3, 4, 5, 6] _ _ _ rfl rfl rfl ?_ (c38) (fun r m' h' => (by obtain ⟨rfl, rfl⟩ := h'; rfl)) (fun r m' h' => ?_); · (repeat' ((conv => whnf); first | exact trivial | exact rfl | exact Nat.le_refl _ | apply And.intro)))
  obtain ⟨rfl, rfl⟩ := h'
  conv => whnf
  repeat' ((conv => whnf); first | refine Rng.g ?_ | refine Ob.g ?_ | refine Ob.e ?_ | refine Ob.m ?_ | refine Ob.mk (Nat.le_of_ble_eq_true rfl) ?_ | refine JoinVC.on ?_ | refine Nils.mk (fun h => ?_) ?_ | refine Val.t ?_ | refine Val.d ?_ | refine Mm.mk ?_ | (refine Br.mk (fun h => ?_) (fun h => ?_) <;> first | (exfalso; omega; done) | (exfalso; simp at h; done) | skip))
  conv => whnf
  first | refine CallVC.mk [7, 8, 9, 10, 11, 12] _ _ _ rfl rfl rfl (c43) (fun r m' h' => ?_) | refine CallVC0.same [7, 8, 9, 10, 11, 12] _ _ _ rfl rfl rfl rfl (c43) (fun r m' h' => (by obtain ⟨rfl, rfl⟩ := h'; rfl)) (fun r m' h' => ?_) | (refine CallVC0.rows [7, 8, 9, 10, 11, 12] _ _ _ rfl rfl rfl ?_ (c43) (fun r m' h' => (by obtain ⟨rfl, rfl⟩ := h'; rfl)) (fun r m' h' => ?_); · (repeat' ((conv => whnf); first | exact trivial | exact rfl | exact Nat.le_refl _ | apply And.intro)))
  obtain ⟨rfl, rfl⟩ := h'
  conv => whnf
  repeat' ((conv => whnf); first | refine Rng.g ?_ | refine Ob.g ?_ | refine Ob.e ?_ | refine Ob.m ?_ | refine Ob.mk (Nat.le_of_ble_eq_true rfl) ?_ | refine JoinVC.on ?_ | refine Nils.mk (fun h => ?_) ?_ | refine Val.t ?_ | refine Val.d ?_ | refine Mm.mk ?_ | (refine Br.mk (fun h => ?_) (fun h => ?_) <;> first | (exfalso; omega; done) | (exfalso; simp at h; done) | skip))
  conv => whnf
  first | refine CallVC.mk [1, 2, 3, 4, 5, 6] _ _ _ rfl rfl rfl (c39) (fun r m' h' => ?_) | refine CallVC0.same [1, 2, 3, 4, 5, 6] _ _ _ rfl rfl rfl rfl (c39) (fun r m' h' => (by obtain ⟨rfl, rfl⟩ := h'; rfl)) (fun r m' h' => ?_) | (refine CallVC0.rows [1, 2, 3, 4, 5, 6] _ _ _ rfl rfl rfl ?_ (c39) (fun r m' h' => (by obtain ⟨rfl, rfl⟩ := h'; rfl)) (fun r m' h' => ?_); · (repeat' ((conv => whnf); first | exact trivial | exact rfl | exact Nat.le_refl _ | apply And.intro)))
  obtain ⟨rfl, rfl⟩ := h'
  conv => whnf
  repeat' ((conv => whnf); first | refine Rng.g ?_ | refine Ob.g ?_ | refine Ob.e ?_ | refine Ob.m ?_ | refine Ob.mk (Nat.le_of_ble_eq_true rfl) ?_ | refine JoinVC.on ?_ | refine Nils.mk (fun h => ?_) ?_ | refine Val.t ?_ | refine Val.d ?_ | refine Mm.mk ?_ | (refine Br.mk (fun h => ?_) (fun h => ?_) <;> first | (exfalso; omega; done) | (exfalso; simp at h; done) | skip))
  conv => whnf
  first | refine CallVC.mk [7, 8, 9, 10, 11, 12] _ _ _ rfl rfl rfl (c44) (fun r m' h' => ?_) | refine CallVC0.same [7, 8, 9, 10, 11, 12] _ _ _ rfl rfl rfl rfl (c44) (fun r m' h' => (by obtain ⟨rfl, rfl⟩ := h'; rfl)) (fun r m' h' => ?_) | (refine CallVC0.rows [7, 8, 9, 10, 11, 12] _ _ _ rfl rfl rfl ?_ (c44) (fun r m' h' => (by obtain ⟨rfl, rfl⟩ := h'; rfl)) (fun r m' h' => ?_); · (repeat' ((conv => whnf); first | exact trivial | exact rfl | exact Nat.le_refl _ | apply And.intro)))
  obtain ⟨rfl, rfl⟩ := h'
  conv => whnf
  repeat' ((conv => whnf); first | refine Rng.g ?_ | refine Ob.g ?_ | refine Ob.e ?_ | refine Ob.m ?_ | refine Ob.mk (Nat.le_of_ble_eq_true rfl) ?_ | refine JoinVC.on ?_ | refine Nils.mk (fun h => ?_) ?_ | refine Val.t ?_ | refine Val.d ?_ | refine Mm.mk ?_ | refine CallVC.pure rfl (c32a) ?_ | refine CallVC.pure rfl (c32b) ?_ | refine CallVC.pure rfl (c32n) ?_ | refine CallVC0.pure rfl (c32a) ?_ | refine CallVC0.pure rfl (c32b) ?_ | refine CallVC0.pure rfl (c32n) ?_ | (refine Br.mk (fun h => ?_) (fun h => ?_) <;> first | (exfalso; omega; done) | (exfalso; simp at h; done) | skip))
  conv => whnf
  first | refine CallVC.mk [1, 2, 3, 4, 5, 6] _ _ _ rfl rfl rfl (c31) (fun r m' h' => ?_) | refine CallVC0.same [1, 2, 3, 4, 5, 6] _ _ _ rfl rfl rfl rfl (c31) (fun r m' h' => (by obtain ⟨rfl, rfl⟩ := h'; rfl)) (fun r m' h' => ?_) | (refine CallVC0.rows [1, 2, 3, 4, 5, 6] _ _ _ rfl rfl rfl ?_ (c31) (fun r m' h' => (by obtain ⟨rfl, rfl⟩ := h'; rfl)) (fun r m' h' => ?_); · (repeat' ((conv => whnf); first | exact trivial | exact rfl | exact Nat.le_refl _ | apply And.intro)))
  obtain ⟨rfl, rfl⟩ := h'
  conv => whnf
  repeat' ((conv => whnf); first | refine Rng.g ?_ | refine Ob.g ?_ | refine Ob.e ?_ | refine Ob.m ?_ | refine Ob.mk (Nat.le_of_ble_eq_true rfl) ?_ | refine JoinVC.on ?_ | refine Nils.mk (fun h => ?_) ?_ | refine Val.t ?_ | refine Val.d ?_ | refine Mm.mk ?_ | (refine Br.mk (fun h => ?_) (fun h => ?_) <;> first | (exfalso; omega; done) | (exfalso; simp at h; done) | skip))
  conv => whnf
  first | refine CallVC.mk [7, 8, 9, 10, 11, 12] _ _ _ rfl rfl rfl (c45) (fun r m' h' => ?_) | refine CallVC0.same [7, 8, 9, 10, 11, 12] _ _ _ rfl rfl rfl rfl (c45) (fun r m' h' => (by obtain ⟨rfl, rfl⟩ := h'; rfl)) (fun r m' h' => ?_) | (refine CallVC0.rows [7, 8, 9, 10, 11, 12] _ _ _ rfl rfl rfl ?_ (c45) (fun r m' h' => (by obtain ⟨rfl, rfl⟩ := h'; rfl)) (fun r m' h' => ?_); · (repeat' ((conv => whnf); first | exact trivial | exact rfl | exact Nat.le_refl _ | apply And.intro)))
  obtain ⟨rfl, rfl⟩ := h'
  conv => whnf
  repeat' ((conv => whnf); first | refine Rng.g ?_ | refine Ob.g ?_ | refine Ob.e ?_ | refine Ob.m ?_ | refine Ob.mk (Nat.le_of_ble_eq_true rfl) ?_ | refine JoinVC.on ?_ | refine Nils.mk (fun h => ?_) ?_ | refine Val.t ?_ | refine Val.d ?_ | refine Mm.mk ?_ | refine CallVC.pure rfl (c17) ?_ | refine CallVC0.pure rfl (c17) ?_ | (refine Br.mk (fun h => ?_) (fun h => ?_) <;> first | (exfalso; omega; done) | (exfalso; simp at h; done) | skip))
  repeat refine Mm.mk ?_
  refine EndVC.mk _ rfl _ _ ⟨rfl, rfl⟩ ?_
  refine ⟨[], rfl, rfl, ?_, ?_⟩ <;> repeat' (first | exact trivial | exact rfl | exact Iff.rfl | apply And.intro)
theorem s11_nf (r : Rcp) (l : List Act2) (i f : Int) (zs : List Int) (hl : l.length ≤ 60) (hz : zs.length ≤ 10) (hr : RcpOK r) (hi : ¬ inP (aftS r l) i) (hf : inF (aftS r l) f) : PSpec Try.prog 11 [r.x, .one (.lst true KAc (acA l)), I i, I f, .one (.lst true [.int .i64] (i64s zs))] (xP True) := by
  have ll := acA_len l
  have lz := i64s_len zs
  have c16 := s16 r
  have c17 := s17
  unfold rcpE at c16
  rw [if_pos hr] at c16
  have c23 := s23 r l hr (by omega)
  have hS := aft_ok hr l
  generalize aftS r l = S at *
  refine spec_of pMix (O := []) Try.func11 (c := bodyOf Try.f11) rfl (by kernel_rfl) (by kernel_rfl) Try.ntmps11 (res := [.tmp 10]) (by kernel_rfl) ?_
  repeat' ((conv => whnf); first | refine Rng.g ?_ | refine Ob.g ?_ | refine Ob.e ?_ | refine Ob.m ?_ | refine Ob.mk (Nat.le_of_ble_eq_true rfl) ?_ | refine JoinVC.on ?_ | refine Nils.mk (fun h => ?_) ?_ | refine Val.t ?_ | refine Val.d ?_ | refine Mm.mk ?_ | refine CallVC.pure rfl (c16) ?_ | refine CallVC0.pure rfl (c16) ?_ | (refine Br.mk (fun h => ?_) (fun h => ?_) <;> first | (exfalso; omega; done) | (exfalso; simp at h; done) | skip))
  conv => whnf
  refine CallVC.mk [] _ _ _ rfl rfl rfl (c23) (fun r m' h' => ?_)
  obtain ⟨ms, hM, rfl, rfl⟩ := h'
  conv => whnf
  have c31 := s31_in S ms hS zs (by omega)
  have c45 := s45 S hS zs (by omega)
  have c38 := s38 S ms f
  have c30 := s30_no S ms i hi
  have c41 := s41_no S i hi
  have c40 := s40_no S ms i hi
  have c42 := s42_no S i hi
  have c32n := s32n
  rw [if_pos hf] at c38
  have c43 : HSpec Try.prog 43 [.one (.ptr 0 0), I f] (rfM S) (fun r m' => r = .tup [I (S.f f).1, I (S.f f).2, I 0] ∧ m' = rfK S) := s43_ok S f hf
  have c39 := s39_ok S ms hS hM f hf
  have c44 := s44_ok S hS f hf
  have hbl := bear_len S.be f S.pl.length
  have hnp2 := hS.np
  have c32c := s32 (bear S.be f S.pl.length) (bear S.be f S.pl.length) (by omega)
  repeat' ((conv => whnf); first | refine Rng.g ?_ | refine Ob.g ?_ | refine Ob.e ?_ | refine Ob.m ?_ | refine Ob.mk (Nat.le_of_ble_eq_true rfl) ?_ | refine JoinVC.on ?_ | refine Nils.mk (fun h => ?_) ?_ | refine Val.t ?_ | refine Val.d ?_ | refine Mm.mk ?_ | (refine Br.mk (fun h => ?_) (fun h => ?_) <;> first | (exfalso; omega; done) | (exfalso; simp at h; done) | skip))
  conv => whnf
  first | refine CallVC.mk [1, 2, 3, 4, 5, 6] _ _ _ rfl rfl rfl (c30) (fun r m' h' => ?_) | refine CallVC0.same [1, 2, 3, 4, 5, 6] _ _ _ rfl rfl rfl rfl (c30) (fun r m' h' => (by obtain ⟨rfl, rfl⟩ := h'; rfl)) (fun r m' h' => ?_) | (refine CallVC0.rows [1, 2, 3, 4, 5, 6] _ _ _ rfl rfl rfl ?_ (c30) (fun r m' h' => (by obtain ⟨rfl, rfl⟩ := h'; rfl)) (fun r m' h' => ?_); · (repeat' ((conv => whnf); first | exact trivial | exact rfl | exact Nat.le_refl _ | apply And.intro)))
  obtain ⟨rfl, rfl⟩ := h'
  conv => whnf
  repeat' ((conv => whnf); first | refine Rng.g ?_ | refine Ob.g ?_ | refine Ob.e ?_ | refine Ob.m ?_ | refine Ob.mk (Nat.le_of_ble_eq_true rfl) ?_ | refine JoinVC.on ?_ | refine Nils.mk (fun h => ?_) ?_ | refine Val.t ?_ | refine Val.d ?_ | refine Mm.mk ?_ | (refine Br.mk (fun h => ?_) (fun h => ?_) <;> first | (exfalso; omega; done) | (exfalso; simp at h; done) | skip))
  conv => whnf
  first | refine CallVC.mk [7, 8, 9, 10, 11, 12] _ _ _ rfl rfl rfl (c41) (fun r m' h' => ?_) | refine CallVC0.same [7, 8, 9, 10, 11, 12] _ _ _ rfl rfl rfl rfl (c41) (fun r m' h' => (by obtain ⟨rfl, rfl⟩ := h'; rfl)) (fun r m' h' => ?_) | (refine CallVC0.rows [7, 8, 9, 10, 11, 12] _ _ _ rfl rfl rfl ?_ (c41) (fun r m' h' => (by obtain ⟨rfl, rfl⟩ := h'; rfl)) (fun r m' h' => ?_); · (repeat' ((conv => whnf); first | exact trivial | exact rfl | exact Nat.le_refl _ | apply And.intro)))
  obtain ⟨rfl, rfl⟩ := h'
  conv => whnf
  repeat' ((conv => whnf); first | refine Rng.g ?_ | refine Ob.g ?_ | refine Ob.e ?_ | refine Ob.m ?_ | refine Ob.mk (Nat.le_of_ble_eq_true rfl) ?_ | refine JoinVC.on ?_ | refine Nils.mk (fun h => ?_) ?_ | refine Val.t ?_ | refine Val.d ?_ | refine Mm.mk ?_ | (refine Br.mk (fun h => ?_) (fun h => ?_) <;> first | (exfalso; omega; done) | (exfalso; simp at h; done) | skip))
  conv => whnf
  first | refine CallVC.mk [1, 2, 3, 4, 5, 6] _ _ _ rfl rfl rfl (c40) (fun r m' h' => ?_) | refine CallVC0.same [1, 2, 3, 4, 5, 6] _ _ _ rfl rfl rfl rfl (c40) (fun r m' h' => (by obtain ⟨rfl, rfl⟩ := h'; rfl)) (fun r m' h' => ?_) | (refine CallVC0.rows [1, 2, 3, 4, 5, 6] _ _ _ rfl rfl rfl ?_ (c40) (fun r m' h' => (by obtain ⟨rfl, rfl⟩ := h'; rfl)) (fun r m' h' => ?_); · (repeat' ((conv => whnf); first | exact trivial | exact rfl | exact Nat.le_refl _ | apply And.intro)))
  obtain ⟨rfl, rfl⟩ := h'
  conv => whnf
  repeat' ((conv => whnf); first | refine Rng.g ?_ | refine Ob.g ?_ | refine Ob.e ?_ | refine Ob.m ?_ | refine Ob.mk (Nat.le_of_ble_eq_true rfl) ?_ | refine JoinVC.on ?_ | refine Nils.mk (fun h => ?_) ?_ | refine Val.t ?_ | refine Val.d ?_ | refine Mm.mk ?_ | (refine Br.mk (fun h => ?_) (fun h => ?_) <;> first | (exfalso; omega; done) | (exfalso; simp at h; done) | skip))
  conv => whnf
  first | refine CallVC.mk [7, 8, 9, 10, 11, 12] _ _ _ rfl rfl rfl (c42) (fun r m' h' => ?_) | refine CallVC0.same [7, 8, 9, 10, 11, 12] _ _ _ rfl rfl rfl rfl (c42) (fun r m' h' => (by obtain ⟨rfl, rfl⟩ := h'; rfl)) (fun r m' h' => ?_) | (refine CallVC0.rows [7, 8, 9, 10, 11, 12] _ _ _ rfl rfl rfl ?_ (c42) (fun r m' h' => (by obtain ⟨rfl, rfl⟩ := h'; rfl)) (fun r m' h' => ?_); · (repeat' ((conv => whnf); first | exact trivial | exact rfl | exact Nat.le_refl _ | apply And.intro)))
  obtain ⟨rfl, rfl⟩ := h'
  conv => whnf
  repeat' ((conv => whnf); first | refine Rng.g ?_ | refine Ob.g ?_ | refine Ob.e ?_ | refine Ob.m ?_ | refine Ob.mk (Nat.le_of_ble_eq_true rfl) ?_ | refine JoinVC.on ?_ | refine Nils.mk (fun h => ?_) ?_ | refine Val.t ?_ | refine Val.d ?_ | refine Mm.mk ?_ | (refine Br.mk (fun h => ?_) (fun h => ?_) <;> first | (exfalso; omega; done) | (exfalso; simp at h; done) | skip))
  conv => whnf
  first | refine CallVC.mk [1, 2, 3, 4, 5, 6] _ _ _ rfl rfl rfl (c38) (fun r m' h' => ?_) | refine CallVC0.same [1, 2, 3, 4, 5, 6] _ _ _ rfl rfl rfl rfl (c38) (fun r m' h' => (by obtain ⟨rfl, rfl⟩ := h'; rfl)) (fun r m' h' => ?_) | (refine CallVC0.rows [1, 2, 3, 4, 5, 6] _ _ _ rfl rfl rfl ?_ (c38) (fun r m' h' => (by obtain ⟨rfl, rfl⟩ := h'; rfl)) (fun r m' h' => ?_); · (repeat' ((conv => whnf); first | exact trivial | exact rfl | exact Nat.le_refl _ | apply And.intro)))
  obtain ⟨rfl, rfl⟩ := h'
  conv => whnf
  repeat' ((conv => whnf); first | refine Rng.g ?_ | refine Ob.g ?_ | refine Ob.e ?_ | refine Ob.m ?_ | refine Ob.mk (Nat.le_of_ble_eq_true rfl) ?_ | refine JoinVC.on ?_ | refine Nils.mk (fun h => ?_) ?_ | refine Val.t ?_ | refine Val.d ?_ | refine Mm.mk ?_ | (refine Br.mk (fun h => ?_) (fun h => ?_) <;> first | (exfalso; omega; done) | (exfalso; simp at h; done) | skip))
  conv => whnf
  first | refine CallVC.mk [7, 8, 9, 10, 11, 12] _ _ _ rfl rfl rfl (c43) (fun r m' h' => ?_) | refine CallVC0.same [7, 8, 9, 10, 11, 12] _ _ _ rfl rfl rfl rfl (c43) (fun r m' h' => (by obtain ⟨rfl, rfl⟩ := h'; rfl)) (fun r m' h' => ?_) | (refine CallVC0.rows [7, 8, 9, 10, 11, 12] _ _ _ rfl rfl rfl ?_ (c43) (fun r m' h' => (by obtain ⟨rfl, rfl⟩ := h'; rfl)) (fun r m' h' => ?_); · (repeat' ((conv => whnf); first | exact trivial | exact rfl | exact Nat.le_refl _ | apply And.intro)))
  obtain ⟨rfl, rfl⟩ := h'
  conv => whnf
  repeat' ((conv => whnf); first | refine Rng.g ?_ | refine Ob.g ?_ | refine Ob.e ?_ | refine Ob.m ?_ | refine Ob.mk (Nat.le_of_ble_eq_true rfl) ?_ | refine JoinVC.on ?_ | refine Nils.mk (fun h => ?_) ?_ | refine Val.t ?_ | refine Val.d ?_ | refine Mm.mk ?_ | (refine Br.mk (fun h => ?_) (fun h => ?_) <;> first | (exfalso; omega; done) | (exfalso; simp at h; done) | skip))
  conv => whnf
  first | refine CallVC.mk [1, 2, 3, 4, 5, 6] _ _ _ rfl rfl rfl (c39) (fun r m' h' => ?_) | refine CallVC0.same [1, 2, 3, 4, 5, 6] _ _ _ rfl rfl rfl rfl (c39) (fun r m' h' => (by obtain ⟨rfl, rfl⟩ := h'; rfl)) (fun r m' h' => ?_) | (refine CallVC0.rows [1, 2, 3, 4, 5, 6] _ _ _ rfl rfl rfl ?_ (c39) (fun r m' h' => (by obtain ⟨rfl, rfl⟩ := h'; rfl)) (fun r m' h' => ?_); · (repeat' ((conv => whnf); first | exact trivial | exact rfl | exact Nat.le_refl _ | apply And.intro)))
  obtain ⟨rfl, rfl⟩ := h'
  conv => whnf
  repeat' ((conv => whnf); first | refine Rng.g ?_ | refine Ob.g ?_ | refine Ob.e ?_ | refine Ob.m ?_ | refine Ob.mk (Nat.le_of_ble_eq_true rfl) ?_ | refine JoinVC.on ?_ | refine Nils.mk (fun h => ?_) ?_ | refine Val.t ?_ | refine Val.d ?_ | refine Mm.mk ?_ | (refine Br.mk (fun h => ?_) (fun h => ?_) <;> first | (exfalso; omega; done) | (exfalso; simp at h; done) | skip))
  conv => whnf
  first | refine CallVC.mk [7, 8, 9, 10, 11, 12] _ _ _ rfl rfl rfl (c44) (fun r m' h' => ?_) | refine CallVC0.same [7, 8, 9, 10, 11, 12] _ _ _ rfl rfl rfl rfl (c44) (fun r m' h' => (by obtain ⟨rfl, rfl⟩ := h'; rfl)) (fun r m' h' => ?_) | (refine CallVC0.rows [7, 8, 9, 10, 11, 12] _ _ _ rfl rfl rfl ?_ (c44) (fun r m' h' => (by obtain ⟨rfl, rfl⟩ := h'; rfl)) (fun r m' h' => ?_); · (repeat' ((conv => whnf); first | exact trivial | exact rfl | exact Nat.le_refl _ | apply And.intro)))
  obtain ⟨rfl, rfl⟩ := h'
  conv => whnf
  repeat' ((conv => whnf); first | refine Rng.g ?_ | refine Ob.g ?_ | refine Ob.e ?_ | refine Ob.m ?_ | refine Ob.mk (Nat.le_of_ble_eq_true rfl) ?_ | refine JoinVC.on ?_ | refine Nils.mk (fun h => ?_) ?_ | refine Val.t ?_ | refine Val.d ?_ | refine Mm.mk ?_ | refine CallVC.pure rfl (c32n) ?_ | refine CallVC.pure rfl (c32c) ?_ | refine CallVC0.pure rfl (c32n) ?_ | refine CallVC0.pure rfl (c32c) ?_ | (refine Br.mk (fun h => ?_) (fun h => ?_) <;> first | (exfalso; omega; done) | (exfalso; simp at h; done) | skip))
  conv => whnf
  first | refine CallVC.mk [1, 2, 3, 4, 5, 6] _ _ _ rfl rfl rfl (c31) (fun r m' h' => ?_) | refine CallVC0.same [1, 2, 3, 4, 5, 6] _ _ _ rfl rfl rfl rfl (c31) (fun r m' h' => (by obtain ⟨rfl, rfl⟩ := h'; rfl)) (fun r m' h' => ?_) | (refine CallVC0.rows [1, 2, 3, 4, 5, 6] _ _ _ rfl rfl rfl ?_ (c31) (fun r m' h' => (by obtain ⟨rfl, rfl⟩ := h'; rfl)) (fun r m' h' => ?_); · (repeat' ((conv => whnf); first | exact trivial | exact rfl | exact Nat.le_refl _ | apply And.intro)))
  obtain ⟨rfl, rfl⟩ := h'
  conv => whnf
  repeat' ((conv => whnf); first | refine Rng.g ?_ | refine Ob.g ?_ | refine Ob.e ?_ | refine Ob.m ?_ | refine Ob.mk (Nat.le_of_ble_eq_true rfl) ?_ | refine JoinVC.on ?_ | refine Nils.mk (fun h => ?_) ?_ | refine Val.t ?_ | refine Val.d ?_ | refine Mm.mk ?_ | (refine Br.mk (fun h => ?_) (fun h => ?_) <;> first | (exfalso; omega; done) | (exfalso; simp at h; done) | skip))
  conv => whnf
  first | refine CallVC.mk [7, 8, 9, 10, 11, 12] _ _ _ rfl rfl rfl (c45) (fun r m' h' => ?_) | refine CallVC0.same [7, 8, 9, 10, 11, 12] _ _ _ rfl rfl rfl rfl (c45) (fun r m' h' => (by obtain ⟨rfl, rfl⟩ := h'; rfl)) (fun r m' h' => ?_) | (refine CallVC0.rows [7, 8, 9, 10, 11, 12] _ _ _ rfl rfl rfl ?_ (c45) (fun r m' h' => (by obtain ⟨rfl, rfl⟩ := h'; rfl)) (fun r m' h' => ?_); · (repeat' ((conv => whnf); first | exact trivial | exact rfl | exact Nat.le_refl _ | apply And.intro)))
  obtain ⟨rfl, rfl⟩ := h'
  conv => whnf
  repeat' ((conv => whnf); first | refine Rng.g ?_ | refine Ob.g ?_ | refine Ob.e ?_ | refine Ob.m ?_ | refine Ob.mk (Nat.le_of_ble_eq_true rfl) ?_ | refine JoinVC.on ?_ | refine Nils.mk (fun h => ?_) ?_ | refine Val.t ?_ | refine Val.d ?_ | refine Mm.mk ?_ | refine CallVC.pure rfl (c17) ?_ | refine CallVC0.pure rfl (c17) ?_ | (refine Br.mk (fun h => ?_) (fun h => ?_) <;> first | (exfalso; omega; done) | (exfalso; simp at h; done) | skip))
  repeat refine Mm.mk ?_
  refine EndVC.mk _ rfl _ _ ⟨rfl, rfl⟩ ?_
  refine ⟨[], rfl, rfl, ?_, ?_⟩ <;> repeat' (first | exact trivial | exact rfl | exact Iff.rfl | apply And.intro)
theorem s11_nn (r : Rcp) (l : List Act2) (i f : Int) (zs : List Int) (hl : l.length ≤ 60) (hz : zs.length ≤ 10) (hr : RcpOK r) (hi : ¬ inP (aftS r l) i) (hf : ¬ inF (aftS r l) f) : PSpec Try.prog 11 [r.x, .one (.lst true KAc (acA l)), I i, I f, .one (.lst true [.int .i64] (i64s zs))] (xP True) := by
  have ll := acA_len l
  have lz := i64s_len zs
  have c16 := s16 r
  have c17 := s17
  unfold rcpE at c16
  rw [if_pos hr] at c16
  have c23 := s23 r l hr (by omega)
  have hS := aft_ok hr l
  generalize aftS r l = S at *
  refine spec_of pMix (O := []) Try.func11 (c := bodyOf Try.f11) rfl (by kernel_rfl) (by kernel_rfl) Try.ntmps11 (res := [.tmp 10]) (by kernel_rfl) ?_
  repeat' ((conv => whnf); first | refine Rng.g ?_ | refine Ob.g ?_ | refine Ob.e ?_ | refine Ob.m ?_ | refine Ob.mk (Nat.le_of_ble_eq_true rfl) ?_ | refine JoinVC.on ?_ | refine Nils.mk (fun h => ?_) ?_ | refine Val.t ?_ | refine Val.d ?_ | refine Mm.mk ?_ | refine CallVC.pure rfl (c16) ?_ | refine CallVC0.pure rfl (c16) ?_ | (refine Br.mk (fun h => ?_) (fun h => ?_) <;> first | (exfalso; omega; done) | (exfalso; simp at h; done) | skip))
  conv => whnf
  refine CallVC.mk [] _ _ _ rfl rfl rfl (c23) (fun r m' h' => ?_)
  obtain ⟨ms, hM, rfl, rfl⟩ := h'
  conv => whnf
  have c31 := s31_in S ms hS zs (by omega)
  have c45 := s45 S hS zs (by omega)
  have c38 := s38 S ms f
  have c30 := s30_no S ms i hi
  have c41 := s41_no S i hi
  have c40 := s40_no S ms i hi
  have c42 := s42_no S i hi
  have c32n := s32n
  rw [if_neg hf] at c38
  have c43 := s43_no S f hf
  have c39 := s39_no S ms f hf
  have c44 := s44_no S f hf
  repeat' ((conv => whnf); first | refine Rng.g ?_ | refine Ob.g ?_ | refine Ob.e ?_ | refine Ob.m ?_ | refine Ob.mk (Nat.le_of_ble_eq_true rfl) ?_ | refine JoinVC.on ?_ | refine Nils.mk (fun h => ?_) ?_ | refine Val.t ?_ | refine Val.d ?_ | refine Mm.mk ?_ | (refine Br.mk (fun h => ?_) (fun h => ?_) <;> first | (exfalso; omega; done) | (exfalso; simp at h; done) | skip))
  conv => whnf
  first | refine CallVC.mk [1, 2, 3, 4, 5, 6] _ _ _ rfl rfl rfl (c30) (fun r m' h' => ?_) | refine CallVC0.same [1, 2, 3, 4, 5, 6] _ _ _ rfl rfl rfl rfl (c30) (fun r m' h' => (by obtain ⟨rfl, rfl⟩ := h'; rfl)) (fun r m' h' => ?_) | (refine CallVC0.rows [1, 2, 3, 4, 5, 6] _ _ _ rfl rfl rfl ?_ (c30) (fun r m' h' => (by obtain ⟨rfl, rfl⟩ := h'; rfl)) (fun r m' h' => ?_); · (repeat' ((conv => whnf); first | exact trivial | exact rfl | exact Nat.le_refl _ | apply And.intro)))
  obtain ⟨rfl, rfl⟩ := h'
  conv => whnf
  repeat' ((conv => whnf); first | refine Rng.g ?_ | refine Ob.g ?_ | refine Ob.e ?_ | refine Ob.m ?_ | refine Ob.mk (Nat.le_of_ble_eq_true rfl) ?_ | refine JoinVC.on ?_ | refine Nils.mk (fun h => ?_) ?_ | refine Val.t ?_ | refine Val.d ?_ | refine Mm.mk ?_ | (refine Br.mk (fun h => ?_) (fun h => ?_) <;> first | (exfalso; omega; done) | (exfalso; simp at h; done) | skip))
  conv => whnf
  first | refine CallVC.mk [7, 8, 9, 10, 11, 12] _ _ _ rfl rfl rfl (c41) (fun r m' h' => ?_) | refine CallVC0.same [7, 8, 9, 10, 11, 12] _ _ _ rfl rfl rfl rfl (c41) (fun r m' h' => (by obtain ⟨rfl, rfl⟩ := h'; rfl)) (fun r m' h' => ?_) | (refine CallVC0.rows [7, 8, 9, 10, 11, 12] _ _ _ rfl rfl rfl ?_ (c41) (fun r m' h' => (by obtain ⟨rfl, rfl⟩ := h'; rfl)) (fun r m' h' => ?_); · (repeat' ((conv => whnf); first | exact trivial | exact rfl | exact Nat.le_refl _ | apply And.intro)))
  obtain ⟨rfl, rfl⟩ := h'
  conv => whnf
  repeat' ((conv => whnf); first | refine Rng.g ?_ | refine Ob.g ?_ | refine Ob.e ?_ | refine Ob.m ?_ | refine Ob.mk (Nat.le_of_ble_eq_true rfl) ?_ | refine JoinVC.on ?_ | refine Nils.mk (fun h => ?_) ?_ | refine Val.t ?_ | refine Val.d ?_ | refine Mm.mk ?_ | (refine Br.mk (fun h => ?_) (fun h => ?_) <;> first | (exfalso; omega; done) | (exfalso; simp at h; done) | skip))
  conv => whnf
  first | refine CallVC.mk [1, 2, 3, 4, 5, 6] _ _ _ rfl rfl rfl (c40) (fun r m' h' => ?_) | refine CallVC0.same [1, 2, 3, 4, 5, 6] _ _ _ rfl rfl rfl rfl (c40) (fun r m' h' => (by obtain ⟨rfl, rfl⟩ := h'; rfl)) (fun r m' h' => ?_) | (refine CallVC0.rows [1, 2, 3, 4, 5, 6] _ _ _ rfl rfl rfl ?_ (c40) (fun r m' h' => (by obtain ⟨rfl, rfl⟩ := h'; rfl)) (fun r m' h' => ?_); · (repeat' ((conv => whnf); first | exact trivial | exact rfl | exact Nat.le_refl _ | apply And.intro)))
  obtain ⟨rfl, rfl⟩ := h'
  conv => whnf
  repeat' ((conv => whnf); first | refine Rng.g ?_ | refine Ob.g ?_ | refine Ob.e ?_ | refine Ob.m ?_ | refine Ob.mk (Nat.le_of_ble_eq_true rfl) ?_ | refine JoinVC.on ?_ | refine Nils.mk (fun h => ?_) ?_ | refine Val.t ?_ | refine Val.d ?_ | refine Mm.mk ?_ | (refine Br.mk (fun h => ?_) (fun h => ?_) <;> first | (exfalso; omega; done) | (exfalso; simp at h; done) | skip))
  conv => whnf
  first | refine CallVC.mk [7, 8, 9, 10, 11, 12] _ _ _ rfl rfl rfl (c42) (fun r m' h' => ?_) | refine CallVC0.same [7, 8, 9, 10, 11, 12] _ _ _ rfl rfl rfl rfl (c42) (fun r m' h' => (by obtain ⟨rfl, rfl⟩ := h'; rfl)) (fun r m' h' => ?_) | (refine CallVC0.rows [7, 8, 9, 10, 11, 12] _ _ _ rfl rfl rfl ?_ (c42) (fun r m' h' => (by obtain ⟨rfl, rfl⟩ := h'; rfl)) (fun r m' h' => ?_); · (repeat' ((conv => whnf); first | exact trivial | exact rfl | exact Nat.le_refl _ | apply And.intro)))
  obtain ⟨rfl, rfl⟩ := h'
  conv => whnf
  repeat' ((conv => whnf); first | refine Rng.g ?_ | refine Ob.g ?_ | refine Ob.e ?_ | refine Ob.m ?_ | refine Ob.mk (Nat.le_of_ble_eq_true rfl) ?_ | refine JoinVC.on ?_ | refine Nils.mk (fun h => ?_) ?_ | refine Val.t ?_ | refine Val.d ?_ | refine Mm.mk ?_ | (refine Br.mk (fun h => ?_) (fun h => ?_) <;> first | (exfalso; omega; done) | (exfalso; simp at h; done) | skip))
  conv => whnf
  first | refine CallVC.mk [1, 2, 3, 4, 5, 6] _ _ _ rfl rfl rfl (c38) (fun r m' h' => ?_) | refine CallVC0.same [1, 2, 3, 4, 5, 6] _ _ _ rfl rfl rfl rfl (c38) (fun r m' h' => (by obtain ⟨rfl, rfl⟩ := h'; rfl)) (fun r m' h' => ?_) | (refine CallVC0.rows [1, 2, 3, 4, 5, 6] _ _ _ rfl rfl rfl ?_ (c38) (fun r m' h' => (by obtain ⟨rfl, rfl⟩ := h'; rfl)) (fun r m' h' => ?_); · (repeat' ((conv => whnf); first | exact trivial | exact rfl | exact Nat.le_refl _ | apply And.intro)))
  obtain ⟨rfl, rfl⟩ := h'
  conv => whnf
  repeat' ((conv => whnf); first | refine Rng.g ?_ | refine Ob.g ?_ | refine Ob.e ?_ | refine Ob.m ?_ | refine Ob.mk (Nat.le_of_ble_eq_true rfl) ?_ | refine JoinVC.on ?_ | refine Nils.mk (fun h => ?_) ?_ | refine Val.t ?_ | refine Val.d ?_ | refine Mm.mk ?_ | (refine Br.mk (fun h => ?_) (fun h => ?_) <;> first | (exfalso; omega; done) | (exfalso; simp at h; done) | skip))
  conv => whnf
  first | refine CallVC.mk [7, 8, 9, 10, 11, 12] _ _ _ rfl rfl rfl (c43) (fun r m' h' => ?_) | refine CallVC0.same [7, 8, 9, 10, 11, 12] _ _ _ rfl rfl rfl rfl (c43) (fun r m' h' => (by obtain ⟨rfl, rfl⟩ := h'; rfl)) (fun r m' h' => ?_) | (refine CallVC0.rows [7, 8, 9, 10, 11, 12] _ _ _ rfl rfl rfl ?_ (c43) (fun r m' h' => (by obtain ⟨rfl, rfl⟩ := h'; rfl)) (fun r m' h' => ?_); · (repeat' ((conv => whnf); first | exact trivial | exact rfl | exact Nat.le_refl _ | apply And.intro)))
  obtain ⟨rfl, rfl⟩ := h'
  conv => whnf
  repeat' ((conv => whnf); first | refine Rng.g ?_ | refine Ob.g ?_ | refine Ob.e ?_ | refine Ob.m ?_ | refine Ob.mk (Nat.le_of_ble_eq_true rfl) ?_ | refine JoinVC.on ?_ | refine Nils.mk (fun h => ?_) ?_ | refine Val.t ?_ | refine Val.d ?_ | refine Mm.mk ?_ | (refine Br.mk (fun h => ?_) (fun h => ?_) <;> first | (exfalso; omega; done) | (exfalso; simp at h; done) | skip))
  conv => whnf
  first | refine CallVC.mk [1, 2, 3, 4, 5, 6] _ _ _ rfl rfl rfl (c39) (fun r m' h' => ?_) | refine CallVC0.same [1, 2, 3, 4, 5, 6] _ _ _ rfl rfl rfl rfl (c39) (fun r m' h' => (by obtain ⟨rfl, rfl⟩ := h'; rfl)) (fun r m' h' => ?_) | (refine CallVC0.rows [1, 2, 3, 4, 5, 6] _ _ _ rfl rfl rfl ?_ (c39) (fun r m' h' => (by obtain ⟨rfl, rfl⟩ := h'; rfl)) (fun r m' h' => ?_); · (repeat' ((conv => whnf); first | exact trivial | exact rfl | exact Nat.le_refl _ | apply And.intro)))
  obtain ⟨rfl, rfl⟩ := h'
  conv => whnf
  repeat' ((conv => whnf); first | refine Rng.g ?_ | refine Ob.g ?_ | refine Ob.e ?_ | refine Ob.m ?_ | refine Ob.mk (Nat.le_of_ble_eq_true rfl) ?_ | refine JoinVC.on ?_ | refine Nils.mk (fun h => ?_) ?_ | refine Val.t ?_ | refine Val.d ?_ | refine Mm.mk ?_ | (refine Br.mk (fun h => ?_) (fun h => ?_) <;> first | (exfalso; omega; done) | (exfalso; simp at h; done) | skip))
  conv => whnf
  first | refine CallVC.mk [7, 8, 9, 10, 11, 12] _ _ _ rfl rfl rfl (c44) (fun r m' h' => ?_) | refine CallVC0.same [7, 8, 9, 10, 11, 12] _ _ _ rfl rfl rfl rfl (c44) (fun r m' h' => (by obtain ⟨rfl, rfl⟩ := h'; rfl)) (fun r m' h' => ?_) | (refine CallVC0.rows [7, 8, 9, 10, 11, 12] _ _ _ rfl rfl rfl ?_ (c44) (fun r m' h' => (by obtain ⟨rfl, rfl⟩ := h'; rfl)) (fun r m' h' => ?_); · (repeat' ((conv => whnf); first | exact trivial | exact rfl | exact Nat.le_refl _ | apply And.intro)))
  obtain ⟨rfl, rfl⟩ := h'
  conv => whnf
  repeat' ((conv => whnf); first | refine Rng.g ?_ | refine Ob.g ?_ | refine Ob.e ?_ | refine Ob.m ?_ | refine Ob.mk (Nat.le_of_ble_eq_true rfl) ?_ | refine JoinVC.on ?_ | refine Nils.mk (fun h => ?_) ?_ | refine Val.t ?_ | refine Val.d ?_ | refine Mm.mk ?_ | refine CallVC.pure rfl (c32n) ?_ | refine CallVC0.pure rfl (c32n) ?_ | (refine Br.mk (fun h => ?_) (fun h => ?_) <;> first | (exfalso; omega; done) | (exfalso; simp at h; done) | skip))
  conv => whnf
  first | refine CallVC.mk [1, 2, 3, 4, 5, 6] _ _ _ rfl rfl rfl (c31) (fun r m' h' => ?_) | refine CallVC0.same [1, 2, 3, 4, 5, 6] _ _ _ rfl rfl rfl rfl (c31) (fun r m' h' => (by obtain ⟨rfl, rfl⟩ := h'; rfl)) (fun r m' h' => ?_) | (refine CallVC0.rows [1, 2, 3, 4, 5, 6] _ _ _ rfl rfl rfl ?_ (c31) (fun r m' h' => (by obtain ⟨rfl, rfl⟩ := h'; rfl)) (fun r m' h' => ?_); · (repeat' ((conv => whnf); first | exact trivial | exact rfl | exact Nat.le_refl _ | apply And.intro)))
  obtain ⟨rfl, rfl⟩ := h'
  conv => whnf
  repeat' ((conv => whnf); first | refine Rng.g ?_ | refine Ob.g ?_ | refine Ob.e ?_ | refine Ob.m ?_ | refine Ob.mk (Nat.le_of_ble_eq_true rfl) ?_ | refine JoinVC.on ?_ | refine Nils.mk (fun h => ?_) ?_ | refine Val.t ?_ | refine Val.d ?_ | refine Mm.mk ?_ | (refine Br.mk (fun h => ?_) (fun h => ?_) <;> first | (exfalso; omega; done) | (exfalso; simp at h; done) | skip))
  conv => whnf
  first | refine CallVC.mk [7, 8, 9, 10, 11, 12] _ _ _ rfl rfl rfl (c45) (fun r m' h' => ?_) | refine CallVC0.same [7, 8, 9, 10, 11, 12] _ _ _ rfl rfl rfl rfl (c45) (fun r m' h' => (by obtain ⟨rfl, rfl⟩ := h'; rfl)) (fun r m' h' => ?_) | (refine CallVC0.rows [7, 8, 9, 10, 11, 12] _ _ _ rfl rfl rfl ?_ (c45) (fun r m' h' => (by obtain ⟨rfl, rfl⟩ := h'; rfl)) (fun r m' h' => ?_); · (repeat' ((conv => whnf); first | exact trivial | exact rfl | exact Nat.le_refl _ | apply And.intro)))
  obtain ⟨rfl, rfl⟩ := h'
  conv => whnf
  repeat' ((conv => whnf); first | refine Rng.g ?_ | refine Ob.g ?_ | refine Ob.e ?_ | refine Ob.m ?_ | refine Ob.mk (Nat.le_of_ble_eq_true rfl) ?_ | refine JoinVC.on ?_ | refine Nils.mk (fun h => ?_) ?_ | refine Val.t ?_ | refine Val.d ?_ | refine Mm.mk ?_ | refine CallVC.pure rfl (c17) ?_ | refine CallVC0.pure rfl (c17) ?_ | (refine Br.mk (fun h => ?_) (fun h => ?_) <;> first | (exfalso; omega; done) | (exfalso; simp at h; done) | skip))
  repeat refine Mm.mk ?_
  refine EndVC.mk _ rfl _ _ ⟨rfl, rfl⟩ ?_
  refine ⟨[], rfl, rfl, ?_, ?_⟩ <;> repeat' (first | exact trivial | exact rfl | exact Iff.rfl | apply And.intro)
theorem s11 (r : Rcp) (l : List Act2) (i f : Int) (zs : List Int) : PSpec Try.prog 11 [r.x, .one (.lst true KAc (acA l)), I i, I f, .one (.lst true [.int .i64] (i64s zs))] (xP True) := by
  by_cases h : 60 < l.length ∨ 10 < zs.length ∨ ¬ RcpOK r
  · exact s11_any r l i f zs h
  · have hr : RcpOK r := Classical.byContradiction fun hc => h (.inr (.inr hc))
    by_cases hi : inP (aftS r l) i
    · by_cases hf : inF (aftS r l) f
      · exact s11_if r l i f zs (by omega) (by omega) hr hi hf
      · exact s11_in r l i f zs (by omega) (by omega) hr hi hf
    · by_cases hf : inF (aftS r l) f
      · exact s11_nf r l i f zs (by omega) (by omega) hr hi hf
      · exact s11_nn r l i f zs (by omega) (by omega) hr hi hf
end Go.Sx

namespace Go.Sx
open Go Go.Proofs
set_option maxRecDepth 10000
/-! ### Rows read as acts -/
theorem wfr_of : ∀ {ks : List CK} {r : List Cell}, r.length = ks.length → (∀ (j : Nat) k c, ks[j]? = some k → r[j]? = some c → Wf k c) → WfR ks r
  | [], [], _, _ => .nil
  | [], _ :: _, h, _ => by simp at h
  | _ :: _, [], h, _ => by simp at h
  | k :: ks, c :: cs, h, hw => .cons (hw 0 k c rfl rfl) (wfr_of (by simpa using h) fun j k' c' h1 h2 => hw (j + 1) k' c' (by simpa using h1) (by simpa using h2))
theorem wf_map {α : Type} {ks : List CK} {row : α → List Cell} {p : α → Prop} (hrow : ∀ r, WfR ks r → ∃ x, r = row x ∧ p x) {a : Arr} (h : Wf (.sl ks) (.sl a)) : ∃ l : List α, a = l.map row ∧ ∀ x ∈ l, p x := by
  cases h with
  | sl hl hr hw =>
    clear hl
    induction a with
    | nil => exact ⟨[], rfl, fun x hx => by simp at hx⟩
    | cons r a ih =>
      obtain ⟨l, rfl, h2⟩ := ih (fun r h => hr r (List.mem_cons_of_mem _ h)) (fun r h => hw r (List.mem_cons_of_mem _ h))
      obtain ⟨x, rfl, h3⟩ := hrow r (wfr_of (hr r (List.mem_cons_self ..)) (hw r (List.mem_cons_self ..)))
      exact ⟨x :: l, rfl, fun y hy => by rcases List.mem_cons.1 hy with rfl | hy; (· exact h3); exact h2 y hy⟩
theorem wf_acts {a : Arr} (h : Wf (.sl KAc) (.sl a)) : ∃ l : List Act2, a = acA l := by
  obtain ⟨l, h1, _⟩ := wf_map (row := acC) (p := fun _ => True) (fun r hr => by
    obtain ⟨c0, _, rfl, g0, h1⟩ := hr.inv
    obtain ⟨n0, rfl, _⟩ := g0.int_inv
    obtain ⟨c1, _, rfl, g1, h2⟩ := h1.inv
    obtain ⟨n1, rfl, _⟩ := g1.int_inv
    obtain ⟨c2, _, rfl, g2, h3⟩ := h2.inv
    obtain ⟨n2, rfl, _⟩ := g2.int_inv
    obtain ⟨c3, _, rfl, g3, h4⟩ := h3.inv
    obtain ⟨n3, rfl, _⟩ := g3.int_inv
    obtain ⟨c4, _, rfl, g4, h5⟩ := h4.inv
    obtain ⟨n4, rfl, _⟩ := g4.int_inv
    obtain ⟨c5, _, rfl, g5, h6⟩ := h5.inv
    obtain ⟨n5, rfl, _⟩ := g5.int_inv
    obtain ⟨c6, _, rfl, g6, h7⟩ := h6.inv
    obtain ⟨n6, rfl, _⟩ := g6.int_inv
    obtain ⟨c7, _, rfl, g7, h8⟩ := h7.inv
    obtain ⟨n7, rfl, _⟩ := g7.int_inv
    obtain ⟨c8, _, rfl, g8, h9⟩ := h8.inv
    obtain ⟨n8, rfl, _⟩ := g8.int_inv
    obtain ⟨c9, _, rfl, g9, h10⟩ := h9.inv
    obtain ⟨n9, rfl, _⟩ := g9.int_inv
    obtain ⟨c10, _, rfl, g10, h11⟩ := h10.inv
    obtain ⟨n10, rfl, _⟩ := g10.int_inv
    obtain ⟨c11, _, rfl, g11, h12⟩ := h11.inv
    obtain ⟨n11, rfl, _⟩ := g11.int_inv
    obtain ⟨c12, _, rfl, g12, h13⟩ := h12.inv
    obtain ⟨n12, rfl, _⟩ := g12.int_inv
    cases h13.nil_inv
    exact ⟨⟨n0, n1, n2, n3, n4, n5, n6, n7, n8, n9, n10, n11, n12⟩, rfl, trivial⟩) h
  exact ⟨l, h1⟩
end Go.Sx
