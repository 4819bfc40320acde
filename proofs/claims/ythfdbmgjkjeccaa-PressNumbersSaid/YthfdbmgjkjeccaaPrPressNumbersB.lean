import Derived.Test.YthfdbmgjkjeccaaPrPressNumbersA
namespace Go.Sx
open Go Go.Proofs
set_option maxRecDepth 10000
set_option maxHeartbeats 2000000
theorem e12 : EntersF Try.prog 12 := enters_of Try.func12 (c := bodyOf Try.f12) (by kernel_rfl) rfl
@[reducible] def K3a : List CK := [.int .i64, .int .i64, .int .i64]
@[reducible] def lActs (A : Arr) : XV := .one (.lst true K3a A)
@[reducible] def bM (m : Mac) : Blk := .box 23 [.int .i64 m.room, .int .i64 m.melt, .int .i64 m.cool, .int .i64 m.top, .int .i64 m.heat, .int .i64 m.chill, .int .i64 m.drift, .int .i64 m.hold, .int .i64 m.life]
theorem s12 (m : Mac) (A : Arr) : PSpec Try.prog 12 [m.x, lActs A] (xP True) := by
  refine spec_of pMix (O := []) Try.func12 (c := bodyOf Try.f12) rfl (by kernel_rfl) (by kernel_rfl) Try.ntmps12 (res := [.tmp 4]) (by kernel_rfl) ?_
  repeat' (conv => whnf
           first
           | refine Rng.ok (by simp only [inR]; omega) ?_
           | refine Ob.mk (by first | omega | (simp; done) | decide | (simp; omega)) ?_
           | refine Ob.mk (show eqOK _ _ = true from by kernel_rfl) ?_
           | refine Ob.mk (show keyOK _ _ _ = true from by kernel_rfl) ?_
           | refine Val.mk _ (shr_val (by simp; rfl)) ?_
           | refine JoinVC.on ?_
           | refine Nils.mk (fun h => ?_) ?_
           | refine Val.mk _ (Int.tmod_eq_emod_of_nonneg (by omega)) ?_
           | refine Val.mk _ (Int.tdiv_eq_ediv_of_nonneg (by omega)) ?_
           | refine Mm.mk ?_
           | (refine Br.mk (fun h => ?_) (fun h => ?_) <;> first | (exfalso; omega; done) | (exfalso; simp at h; done) | skip))
  conv => whnf
  refine CallVC.mk [] _ _ _ rfl rfl rfl (s39 m) (fun r m' h' => ?_)
  obtain ⟨hm, rfl, rfl⟩ | ⟨hm, rfl, rfl⟩ := h'
  · repeat' (conv => whnf
             first
             | refine Rng.ok (by simp only [inR]; omega) ?_
             | refine Ob.mk (by first | omega | (simp; done) | decide | (simp; omega)) ?_
             | refine Ob.mk (show eqOK _ _ = true from by kernel_rfl) ?_
             | refine Ob.mk (show keyOK _ _ _ = true from by kernel_rfl) ?_
             | refine Val.mk _ (shr_val (by simp; rfl)) ?_
             | refine JoinVC.on ?_
             | refine Nils.mk (fun h => ?_) ?_
             | refine Val.mk _ (Int.tmod_eq_emod_of_nonneg (by omega)) ?_
             | refine Val.mk _ (Int.tdiv_eq_ediv_of_nonneg (by omega)) ?_
             | refine Mm.mk ?_
             | refine CallVC.pure rfl (s22) ?_
             | refine CallVC0.pure rfl (s22) ?_
             | (refine Br.mk (fun h => ?_) (fun h => ?_) <;> first | (exfalso; omega; done) | (exfalso; simp at h; done) | skip))
    repeat refine Mm.mk ?_
    refine EndVC.mk _ rfl _ _ ⟨rfl, rfl⟩ ?_
    refine ⟨[], rfl, rfl, ?_, ?_⟩ <;> repeat' (first | exact trivial | exact rfl | exact Iff.rfl | apply And.intro)
  repeat' (conv => whnf
           first
           | refine Rng.ok (by simp only [inR]; omega) ?_
           | refine Ob.mk (by first | omega | (simp; done) | decide | (simp; omega)) ?_
           | refine Ob.mk (show eqOK _ _ = true from by kernel_rfl) ?_
           | refine Ob.mk (show keyOK _ _ _ = true from by kernel_rfl) ?_
           | refine Val.mk _ (shr_val (by simp; rfl)) ?_
           | refine JoinVC.on ?_
           | refine Nils.mk (fun h => ?_) ?_
           | refine Val.mk _ (Int.tmod_eq_emod_of_nonneg (by omega)) ?_
           | refine Val.mk _ (Int.tdiv_eq_ediv_of_nonneg (by omega)) ?_
           | refine Mm.mk ?_
           | refine CallVC.pure rfl (s22) ?_
           | refine CallVC0.pure rfl (s22) ?_
           | (refine Br.mk (fun h => ?_) (fun h => ?_) <;> first | (exfalso; omega; done) | (exfalso; simp at h; done) | skip))
  · repeat refine Mm.mk ?_
    refine EndVC.mk _ rfl _ _ ⟨rfl, rfl⟩ ?_
    refine ⟨[], rfl, rfl, ?_, ?_⟩ <;> repeat' (first | exact trivial | exact rfl | exact Iff.rfl | apply And.intro)
  conv => whnf
  refine CallVC.mk [1, 2, 3, 4] _ _ _ rfl rfl rfl (s42 m _ [] []) (fun r m' h' => ?_)
  obtain ⟨rfl, rfl⟩ := h'
  conv => whnf
  repeat' (conv => whnf
           first
           | refine Rng.ok (by simp only [inR]; omega) ?_
           | refine Ob.mk (by first | omega | (simp; done) | decide | (simp; omega)) ?_
           | refine Ob.mk (show eqOK _ _ = true from by kernel_rfl) ?_
           | refine Ob.mk (show keyOK _ _ _ = true from by kernel_rfl) ?_
           | refine Val.mk _ (shr_val (by simp; rfl)) ?_
           | refine JoinVC.on ?_
           | refine Nils.mk (fun h => ?_) ?_
           | refine Val.mk _ (Int.tmod_eq_emod_of_nonneg (by omega)) ?_
           | refine Val.mk _ (Int.tdiv_eq_ediv_of_nonneg (by omega)) ?_
           | refine Mm.mk ?_
           | (refine Br.mk (fun h => ?_) (fun h => ?_) <;> first | (exfalso; omega; done) | (exfalso; simp at h; done) | skip))
  refine LoopVC.mk (fun n st => ∃ (i : Nat) (p : Pst) (L : List Disc) (l : MapL), i ≤ A.length ∧ n = A.length - i ∧ PInv m p L ∧ UsedOK l L ∧ st = ⟨0, envA 154 [(1, .x (lActs A)), (2, .x (.one (.ptr 0 0))), (5, .x (.one (.ptr 1 0))), (7, .x (.one (.ptr 5 0))), (8, .int .i64 (i : Int))], [some (bM m), some (bP 2), some (bW 3 4 m p), some (dRow L), some (mpU l), some (bS p)]⟩) _ _ ⟨0, _, [], [], Nat.zero_le _, rfl, pinv_new hm, fun k => rfl, rfl⟩ ?_ ?_
  · refine ⟨[some 0, some 1, some 2, some 3, some 4, some 5], rfl, rfl, ?_, ?_⟩ <;> repeat' (first | exact trivial | exact rfl | exact Iff.rfl | apply And.intro)
  rintro n _ ⟨i, p, L, l, hi, hn, hI, hU, rfl⟩
  by_cases hi' : i < A.length
  · repeat' (conv => whnf
             first
             | refine Rng.ok (by simp only [inR]; omega) ?_
             | refine Ob.mk (by first | omega | (simp; done) | decide | (simp; omega)) ?_
             | refine Ob.mk (show eqOK _ _ = true from by kernel_rfl) ?_
             | refine Ob.mk (show keyOK _ _ _ = true from by kernel_rfl) ?_
             | refine Val.mk _ (shr_val (by simp; rfl)) ?_
             | refine JoinVC.on ?_
             | refine Nils.mk (fun h => ?_) ?_
             | refine Val.mk _ (Int.tmod_eq_emod_of_nonneg (by omega)) ?_
             | refine Val.mk _ (Int.tdiv_eq_ediv_of_nonneg (by omega)) ?_
             | refine Mm.mk ?_
             | (refine Br.mk (fun h => ?_) (fun h => ?_) <;> first | (exfalso; omega; done) | (exfalso; simp at h; done) | skip))
    conv => whnf
    refine CallVC.mk [1, 2, 3, 4] _ _ _ rfl rfl rfl (s41 m p L l hU hI (rI A (i : Int).toNat 0) (rI A (i : Int).toNat 1) (rI A (i : Int).toNat 2)) (fun r m' h' => ?_)
    obtain ⟨e, l', hu, rfl, rfl⟩ | ⟨e, rfl, rfl⟩ := h'
    · have hI' := pinv_next hI e
      have hN := next_mono hI e
      generalize outD m p L (rI A (i : Int).toNat 0) = d at *
      generalize nextP m p (rI A (i : Int).toNat 0) (rI A (i : Int).toNat 1) (rI A (i : Int).toNat 2) = q at *
      generalize nextL m p L (rI A (i : Int).toNat 0) = L' at *
      have hI2 := hI'
      obtain ⟨q1, q2, q3, q4, q5, q6, q7, q8, q9, q10, q11, q12, q13, q14, q15⟩ := hI2
      conv => whnf
      conv => whnf
      refine CallVC.mk [1, 6, 7, 8] _ _ _ rfl rfl rfl (s42 m _ L' l') (fun r m' h' => ?_)
      obtain ⟨rfl, rfl⟩ := h'
      conv => whnf
      clear q5 q6 q8 q9 q10 q12 q13 q14 q15
      rcases Bool.eq_false_or_eq_true q.cl with hqc | hqc <;> rcases Bool.eq_false_or_eq_true q.ld with hql | hql <;> rcases Bool.eq_false_or_eq_true p.cl with hpc | hpc <;> simp only [hqc, hql, hpc, Bool.false_eq_true, Bool.true_eq_false, false_implies, imp_false, forall_const, and_true] at hN q3 q4 q11
      all_goals try exact absurd trivial q4
      all_goals
        repeat' (conv => whnf
                 first
                 | refine Rng.ok (by simp only [inR]; omega) ?_
                 | refine Ob.mk (by first | omega | (simp; done) | decide | (simp; omega)) ?_
                 | refine Ob.mk (show eqOK _ _ = true from by kernel_rfl) ?_
                 | refine Ob.mk (show keyOK _ _ _ = true from by kernel_rfl) ?_
                 | refine Val.mk _ (shr_val (by simp; rfl)) ?_
                 | refine JoinVC.on ?_
                 | refine Nils.mk (fun h => ?_) ?_
                 | refine Val.mk _ (Int.tmod_eq_emod_of_nonneg (by omega)) ?_
                 | refine Val.mk _ (Int.tdiv_eq_ediv_of_nonneg (by omega)) ?_
                 | refine Mm.mk ?_
                 | (refine Br.mk (fun h => ?_) (fun h => ?_) <;> first | (exfalso; omega; done) | (exfalso; simp at h; done) | (exfalso; simp [hqc, hql, hpc] at h; done) | skip))
      all_goals
        refine Back.mk (A.length - (i + 1)) _ (by omega) ⟨i + 1, _, L', l', by omega, rfl, hI', hu, rfl⟩ ?_
        refine ⟨[some 0, some 1, some 6, some 7, some 8, some 5], rfl, rfl, ?_, ?_⟩ <;> repeat' (first | exact trivial | exact rfl | exact Iff.rfl | apply And.intro)
    · conv => whnf
      refine CallVC.mk [1, 2, 3, 4] _ _ _ rfl rfl rfl (s42 m p L l) (fun r m' h' => ?_)
      obtain ⟨rfl, rfl⟩ := h'
      conv => whnf
      have hI2 := hI
      obtain ⟨q1, q2, q3, q4, q5, q6, q7, q8, q9, q10, q11, q12, q13, q14, q15⟩ := hI2
      clear q5 q6 q8 q9 q10 q12 q13 q14 q15
      rcases Bool.eq_false_or_eq_true p.cl with hqc | hqc <;> rcases Bool.eq_false_or_eq_true p.ld with hql | hql <;> simp only [hqc, hql, Bool.false_eq_true, false_implies, imp_false, forall_const] at q3 q4 q11
      all_goals try exact absurd trivial q4
      all_goals
        repeat' (conv => whnf
                 first
                 | refine Rng.ok (by simp only [inR]; omega) ?_
                 | refine Ob.mk (by first | omega | (simp; done) | decide | (simp; omega)) ?_
                 | refine Ob.mk (show eqOK _ _ = true from by kernel_rfl) ?_
                 | refine Ob.mk (show keyOK _ _ _ = true from by kernel_rfl) ?_
                 | refine Val.mk _ (shr_val (by simp; rfl)) ?_
                 | refine JoinVC.on ?_
                 | refine Nils.mk (fun h => ?_) ?_
                 | refine Val.mk _ (Int.tmod_eq_emod_of_nonneg (by omega)) ?_
                 | refine Val.mk _ (Int.tdiv_eq_ediv_of_nonneg (by omega)) ?_
                 | refine Mm.mk ?_
                 | (refine Br.mk (fun h => ?_) (fun h => ?_) <;> first | (exfalso; omega; done) | (exfalso; simp at h; done) | (exfalso; simp [hqc, hql] at h; done) | skip))
      all_goals
        refine Back.mk (A.length - (i + 1)) _ (by omega) ⟨i + 1, _, L, l, by omega, rfl, hI, hU, rfl⟩ ?_
        refine ⟨[some 0, some 1, some 2, some 3, some 4, some 5], rfl, rfl, ?_, ?_⟩ <;> repeat' (first | exact trivial | exact rfl | exact Iff.rfl | apply And.intro)
  · repeat' (conv => whnf
             first
             | refine Rng.ok (by simp only [inR]; omega) ?_
             | refine Ob.mk (by first | omega | (simp; done) | decide | (simp; omega)) ?_
             | refine Ob.mk (show eqOK _ _ = true from by kernel_rfl) ?_
             | refine Ob.mk (show keyOK _ _ _ = true from by kernel_rfl) ?_
             | refine Val.mk _ (shr_val (by simp; rfl)) ?_
             | refine JoinVC.on ?_
             | refine Nils.mk (fun h => ?_) ?_
             | refine Val.mk _ (Int.tmod_eq_emod_of_nonneg (by omega)) ?_
             | refine Val.mk _ (Int.tdiv_eq_ediv_of_nonneg (by omega)) ?_
             | refine Mm.mk ?_
             | refine CallVC.pure rfl (s22) ?_
             | refine CallVC0.pure rfl (s22) ?_
             | (refine Br.mk (fun h => ?_) (fun h => ?_) <;> first | (exfalso; omega; done) | (exfalso; simp at h; done) | skip))
    repeat refine Mm.mk ?_
    refine EndVC.mk _ rfl _ _ ⟨rfl, rfl⟩ ?_
    refine ⟨[], rfl, rfl, ?_, ?_⟩ <;> repeat' (first | exact trivial | exact rfl | exact Iff.rfl | apply And.intro)
end Go.Sx

namespace Go.Sx
open Go Go.Proofs
set_option maxRecDepth 10000
set_option maxHeartbeats 4000000
theorem e14 : EntersF Try.prog 14 := enters_of Try.func14 (c := bodyOf Try.f14) (by kernel_rfl) rfl
theorem e48 : EntersF Try.prog 48 := enters_of Try.func48 (c := bodyOf Try.f48) (by kernel_rfl) rfl
/-- One more disc, among those of a stamper. -/
theorem ofL_step {L : List Disc} {j : Nat} {d : Disc} (hd : L[j]? = some d) (k : Int) : (d.a = k ∨ d.b = k → i64s (ofL (L.take (j + 1)) k) = i64s (ofL (L.take j) k) ++ [[.int d.ser]]) ∧ (¬ (d.a = k ∨ d.b = k) → i64s (ofL (L.take (j + 1)) k) = i64s (ofL (L.take j) k)) := by
  have tk : L.take (j + 1) = L.take j ++ [d] := by rw [List.take_add_one, hd]; rfl
  refine ⟨fun h => ?_, fun h => ?_⟩
  · rw [tk]; unfold ofL; rw [List.filter_append]; simp [h, i64s]
  · rw [tk]; unfold ofL; rw [List.filter_append]; simp [h]
theorem s48 (m : Mac) (p : Pst) (L : List Disc) (l : MapL) (hlen : L.length ≤ 1000) (k f : Int) (hf : useC L k ≤ f) :
    HSpec Try.prog 48 [.one (.ptr 0 0), .one (.lst true K7 (discA L)), I k, I f] (mP m p L l) (fun r m' => r = xP True ∧ m' = mPs m p L l) := by
  have lL := discA_len L
  refine spec_of pMix (O := []) Try.func48 (c := bodyOf Try.f48) rfl (by kernel_rfl) (by kernel_rfl) Try.ntmps48 (res := [.tmp 8]) (by kernel_rfl) ?_
  repeat' (conv => whnf
           first
           | refine Rng.ok (by simp only [inR]; omega) ?_
           | refine Ob.mk (by first | omega | (simp; done) | decide | (simp; omega)) ?_
           | refine Ob.mk (show eqOK _ _ = true from by kernel_rfl) ?_
           | refine Ob.mk (show keyOK _ _ _ = true from by kernel_rfl) ?_
           | refine Val.mk _ (shr_val (by simp; rfl)) ?_
           | refine JoinVC.on ?_
           | refine Nils.mk (fun h => ?_) ?_
           | refine Val.mk _ (Int.tmod_eq_emod_of_nonneg (by omega)) ?_
           | refine Val.mk _ (Int.tdiv_eq_ediv_of_nonneg (by omega)) ?_
           | refine Mm.mk ?_
           | (refine Br.mk (fun h => ?_) (fun h => ?_) <;> first | (exfalso; omega; done) | (exfalso; simp at h; done) | skip))
  refine LoopVC.mk (fun n st => ∃ j : Nat, j ≤ L.length ∧ n = L.length - j ∧ st = ⟨4, envA 52 [(0, .x (.one (.ptr 0 0))), (1, .x (.one (.lst true K7 (discA L)))), (2, .x (I k)), (3, .x (I f)), (9, .x (.one (.own 4))), (10, .int .i64 (j : Int))], [some (bP 1), some (bW 2 3 m p), some (dRow L), some (mpU l), some (.row 2 false [.int .i64] (i64s (ofL (L.take j) k)))]⟩) _ _ ⟨0, by omega, rfl, rfl⟩ ?_ ?_
  · refine ⟨[some 0, some 1, some 2, some 3, none], rfl, rfl, ?_, ?_⟩ <;> repeat' (first | exact trivial | exact rfl | exact Iff.rfl | apply And.intro)
  rintro n _ ⟨j, hj, hn, rfl⟩
  have lo := i64s_len (ofL (L.take j) k)
  have lo2 := ofL_len (L.take j) k
  have lo3 : (L.take j).length = j := by rw [List.length_take]; omega
  by_cases hj' : j < L.length
  · obtain ⟨d, hd⟩ : ∃ d, L[j]? = some d := ⟨_, List.getElem?_eq_getElem hj'⟩
    have gd := discA_get L j hd
    obtain ⟨yes, no⟩ := ofL_step hd k
    have gd0 : rI (discA L) (j : Int).toNat 0 = d.ser := gd.1
    have gd1 : rI (discA L) (j : Int).toNat (0 + 1) = d.a := gd.2.1
    have gd2 : rI (discA L) (j : Int).toNat (0 + 1 + 1) = d.b := gd.2.2.1
    repeat' (conv => whnf
             first
             | refine Rng.ok (by simp only [inR]; omega) ?_
             | refine Ob.mk (by first | omega | (simp; done) | decide | (simp; omega)) ?_
             | refine Ob.mk (show eqOK _ _ = true from by kernel_rfl) ?_
             | refine Ob.mk (show keyOK _ _ _ = true from by kernel_rfl) ?_
             | refine Val.mk _ (shr_val (by simp; rfl)) ?_
             | refine JoinVC.on ?_
             | refine Nils.mk (fun h => ?_) ?_
             | refine Val.mk _ (Int.tmod_eq_emod_of_nonneg (by omega)) ?_
             | refine Val.mk _ (Int.tdiv_eq_ediv_of_nonneg (by omega)) ?_
             | refine Mm.mk ?_
             | (refine Br.mk (fun h => ?_) (fun h => ?_) <;> first | (exfalso; omega; done) | (exfalso; simp at h; done) | skip))
    · have y := yes (.inl (by rw [← gd1]; assumption))
      repeat refine Mm.mk ?_
      refine Ob.mk (by simp only [lo, eb, List.length_cons, List.length_nil]; omega) ?_
      repeat' (conv => whnf
               first
               | refine Rng.ok (by simp only [inR]; omega) ?_
               | refine Ob.mk (by first | omega | (simp; done) | decide | (simp; omega)) ?_
               | refine Ob.mk (show eqOK _ _ = true from by kernel_rfl) ?_
               | refine Ob.mk (show keyOK _ _ _ = true from by kernel_rfl) ?_
               | refine Val.mk _ (shr_val (by simp; rfl)) ?_
               | refine JoinVC.on ?_
               | refine Nils.mk (fun h => ?_) ?_
               | refine Val.mk _ (Int.tmod_eq_emod_of_nonneg (by omega)) ?_
               | refine Val.mk _ (Int.tdiv_eq_ediv_of_nonneg (by omega)) ?_
               | refine Mm.mk ?_
               | (refine Br.mk (fun h => ?_) (fun h => ?_) <;> first | (exfalso; omega; done) | (exfalso; simp at h; done) | skip))
      refine Back.mk (L.length - (j + 1)) _ (by omega) ⟨j + 1, by omega, rfl, rfl⟩ ?_
      refine ⟨[some 0, some 1, some 2, some 3, some 6], rfl, rfl, ?_, ?_⟩ <;> repeat' (first | exact trivial | exact rfl | exact Iff.rfl | apply And.intro)
      rw [← gd0] at y
      exact y.symm
    · have y := yes (.inr (by rw [← gd2]; assumption))
      repeat refine Mm.mk ?_
      refine Ob.mk (by simp only [lo, eb, List.length_cons, List.length_nil]; omega) ?_
      repeat' (conv => whnf
               first
               | refine Rng.ok (by simp only [inR]; omega) ?_
               | refine Ob.mk (by first | omega | (simp; done) | decide | (simp; omega)) ?_
               | refine Ob.mk (show eqOK _ _ = true from by kernel_rfl) ?_
               | refine Ob.mk (show keyOK _ _ _ = true from by kernel_rfl) ?_
               | refine Val.mk _ (shr_val (by simp; rfl)) ?_
               | refine JoinVC.on ?_
               | refine Nils.mk (fun h => ?_) ?_
               | refine Val.mk _ (Int.tmod_eq_emod_of_nonneg (by omega)) ?_
               | refine Val.mk _ (Int.tdiv_eq_ediv_of_nonneg (by omega)) ?_
               | refine Mm.mk ?_
               | (refine Br.mk (fun h => ?_) (fun h => ?_) <;> first | (exfalso; omega; done) | (exfalso; simp at h; done) | skip))
      refine Back.mk (L.length - (j + 1)) _ (by omega) ⟨j + 1, by omega, rfl, rfl⟩ ?_
      refine ⟨[some 0, some 1, some 2, some 3, some 6], rfl, rfl, ?_, ?_⟩ <;> repeat' (first | exact trivial | exact rfl | exact Iff.rfl | apply And.intro)
      rw [← gd0] at y
      exact y.symm
    · have y := no (fun h => h.elim (by rw [← gd1]; assumption) (by rw [← gd2]; assumption))
      refine Back.mk (L.length - (j + 1)) _ (by omega) ⟨j + 1, by omega, rfl, rfl⟩ ?_
      refine ⟨[some 0, some 1, some 2, some 3, some 4], rfl, rfl, ?_, ?_⟩ <;> repeat' (first | exact trivial | exact rfl | exact Iff.rfl | apply And.intro)
      exact y.symm
  · have e : L.take j = L := List.take_of_length_le (by omega)
    rw [e] at lo lo2 ⊢
    have hu := useC_of L k
    repeat' (conv => whnf
             first
             | refine Rng.ok (by simp only [inR]; omega) ?_
             | refine Ob.mk (by first | omega | (simp; done) | decide | (simp; omega)) ?_
             | refine Ob.mk (show eqOK _ _ = true from by kernel_rfl) ?_
             | refine Ob.mk (show keyOK _ _ _ = true from by kernel_rfl) ?_
             | refine Val.mk _ (shr_val (by simp; rfl)) ?_
             | refine JoinVC.on ?_
             | refine Nils.mk (fun h => ?_) ?_
             | refine Val.mk _ (Int.tmod_eq_emod_of_nonneg (by omega)) ?_
             | refine Val.mk _ (Int.tdiv_eq_ediv_of_nonneg (by omega)) ?_
             | refine Mm.mk ?_
             | (refine Br.mk (fun h => ?_) (fun h => ?_) <;> first | (exfalso; omega; done) | (exfalso; simp at h; done) | skip))
    conv => whnf
    refine CallVC.mk [0, 1, 2, 3] _ _ _ rfl rfl rfl (s49 m p L l hlen k) (fun r m' h' => ?_)
    obtain ⟨rfl, rfl⟩ := h'
    conv => whnf
    repeat' (conv => whnf
             first
             | refine Rng.ok (by simp only [inR]; omega) ?_
             | refine Ob.mk (by first | omega | (simp; done) | decide | (simp; omega)) ?_
             | refine Ob.mk (show eqOK _ _ = true from by kernel_rfl) ?_
             | refine Ob.mk (show keyOK _ _ _ = true from by kernel_rfl) ?_
             | refine Val.mk _ (shr_val (by simp; rfl)) ?_
             | refine JoinVC.on ?_
             | refine Nils.mk (fun h => ?_) ?_
             | refine Val.mk _ (Int.tmod_eq_emod_of_nonneg (by omega)) ?_
             | refine Val.mk _ (Int.tdiv_eq_ediv_of_nonneg (by omega)) ?_
             | refine Mm.mk ?_
             | refine CallVC.pure rfl (s27 (ofL L k) (ofL L k) (by omega)) ?_
             | refine CallVC0.pure rfl (s27 (ofL L k) (ofL L k) (by omega)) ?_
             | (refine Br.mk (fun h => ?_) (fun h => ?_) <;> first | (exfalso; omega; done) | (exfalso; simp at h; done) | skip))
    repeat refine Mm.mk ?_
    refine EndVC.mk _ rfl _ _ ⟨rfl, rfl⟩ ?_
    refine ⟨[some 0, some 1, some 2, some 3], rfl, rfl, ?_, ?_⟩ <;> repeat' (first | exact trivial | exact rfl | exact Iff.rfl | apply And.intro)
    change _ ↔ _
    simp only [iff_true]
    omega
/-- The times of the discs. -/
def TmOK (p : Pst) (L : List Disc) : Prop := ∀ (j : Nat) (d : Disc), L[j]? = some d → d.tm ≤ p.tm
theorem tm_next {m : Mac} {p : Pst} {L : List Disc} {k a b : Int} (h : PInv m p L) (ht : TmOK p L) (e : errD m p L k a b = 0) : TmOK (nextP m p k a b) (nextL m p L k) := by
  have hm := (next_mono h e).1
  intro j d hd
  unfold nextL at hd
  split at hd
  · rename_i hk
    rw [List.getElem?_append] at hd
    split at hd
    · exact Int.le_trans (ht j d hd) hm
    · rw [List.getElem?_singleton] at hd
      split at hd
      · cases hd; exact hm
      · cases hd
  · exact Int.le_trans (ht j d hd) hm
theorem s14 (m : Mac) (A : Arr) : PSpec Try.prog 14 [m.x, lActs A] (xP True) := by
  refine spec_of pMix (O := []) Try.func14 (c := bodyOf Try.f14) rfl (by kernel_rfl) (by kernel_rfl) Try.ntmps14 (res := [.tmp 4]) (by kernel_rfl) ?_
  repeat' (conv => whnf
           first
           | refine Rng.ok (by simp only [inR]; omega) ?_
           | refine Ob.mk (by first | omega | (simp; done) | decide | (simp; omega)) ?_
           | refine Ob.mk (show eqOK _ _ = true from by kernel_rfl) ?_
           | refine Ob.mk (show keyOK _ _ _ = true from by kernel_rfl) ?_
           | refine Val.mk _ (shr_val (by simp; rfl)) ?_
           | refine JoinVC.on ?_
           | refine Nils.mk (fun h => ?_) ?_
           | refine Val.mk _ (Int.tmod_eq_emod_of_nonneg (by omega)) ?_
           | refine Val.mk _ (Int.tdiv_eq_ediv_of_nonneg (by omega)) ?_
           | refine Mm.mk ?_
           | (refine Br.mk (fun h => ?_) (fun h => ?_) <;> first | (exfalso; omega; done) | (exfalso; simp at h; done) | skip))
  conv => whnf
  refine CallVC.mk [] _ _ _ rfl rfl rfl (s39 m) (fun r m' h' => ?_)
  obtain ⟨hm, rfl, rfl⟩ | ⟨hm, rfl, rfl⟩ := h'
  · repeat' (conv => whnf
             first
             | refine Rng.ok (by simp only [inR]; omega) ?_
             | refine Ob.mk (by first | omega | (simp; done) | decide | (simp; omega)) ?_
             | refine Ob.mk (show eqOK _ _ = true from by kernel_rfl) ?_
             | refine Ob.mk (show keyOK _ _ _ = true from by kernel_rfl) ?_
             | refine Val.mk _ (shr_val (by simp; rfl)) ?_
             | refine JoinVC.on ?_
             | refine Nils.mk (fun h => ?_) ?_
             | refine Val.mk _ (Int.tmod_eq_emod_of_nonneg (by omega)) ?_
             | refine Val.mk _ (Int.tdiv_eq_ediv_of_nonneg (by omega)) ?_
             | refine Mm.mk ?_
             | refine CallVC.pure rfl (s22) ?_
             | refine CallVC0.pure rfl (s22) ?_
             | (refine Br.mk (fun h => ?_) (fun h => ?_) <;> first | (exfalso; omega; done) | (exfalso; simp at h; done) | skip))
    repeat refine Mm.mk ?_
    refine EndVC.mk _ rfl _ _ ⟨rfl, rfl⟩ ?_
    refine ⟨[], rfl, rfl, ?_, ?_⟩ <;> repeat' (first | exact trivial | exact rfl | exact Iff.rfl | apply And.intro)
  repeat' (conv => whnf
           first
           | refine Rng.ok (by simp only [inR]; omega) ?_
           | refine Ob.mk (by first | omega | (simp; done) | decide | (simp; omega)) ?_
           | refine Ob.mk (show eqOK _ _ = true from by kernel_rfl) ?_
           | refine Ob.mk (show keyOK _ _ _ = true from by kernel_rfl) ?_
           | refine Val.mk _ (shr_val (by simp; rfl)) ?_
           | refine JoinVC.on ?_
           | refine Nils.mk (fun h => ?_) ?_
           | refine Val.mk _ (Int.tmod_eq_emod_of_nonneg (by omega)) ?_
           | refine Val.mk _ (Int.tdiv_eq_ediv_of_nonneg (by omega)) ?_
           | refine Mm.mk ?_
           | refine CallVC.pure rfl (s22) ?_
           | refine CallVC0.pure rfl (s22) ?_
           | (refine Br.mk (fun h => ?_) (fun h => ?_) <;> first | (exfalso; omega; done) | (exfalso; simp at h; done) | skip))
  · repeat refine Mm.mk ?_
    refine EndVC.mk _ rfl _ _ ⟨rfl, rfl⟩ ?_
    refine ⟨[], rfl, rfl, ?_, ?_⟩ <;> repeat' (first | exact trivial | exact rfl | exact Iff.rfl | apply And.intro)
  refine LoopVC.mk (fun n st => ∃ (i : Nat) (p : Pst) (L : List Disc) (l : MapL), i ≤ A.length ∧ n = A.length - i ∧ PInv m p L ∧ UsedOK l L ∧ TmOK p L ∧ st = ⟨0, envA 170 [(1, .x (lActs A)), (2, .x (.one (.ptr 0 0))), (5, .x (.one (.ptr 1 0))), (7, .x (.one (.own 5))), (8, .int .i64 (i : Int))], [some (bM m), some (bP 2), some (bW 3 4 m p), some (dRow L), some (mpU l), some (dRow L)]⟩) _ _ ⟨0, _, [], [], Nat.zero_le _, rfl, pinv_new hm, fun k => rfl, fun j d h => by simp at h, rfl⟩ ?_ ?_
  · refine ⟨[some 0, some 1, some 2, some 3, some 4, none], rfl, rfl, ?_, ?_⟩ <;> repeat' (first | exact trivial | exact rfl | exact Iff.rfl | apply And.intro)
  rintro n _ ⟨i, p, L, l, hi, hn, hI, hU, hT, rfl⟩
  have lL := discA_len L
  have hlen := hI.len
  have d1 : (discD m p L).ser = (L.length : Int) + 1 := rfl
  have d2 : (discD m p L).a = p.a := rfl
  have d3 : (discD m p L).b = p.b := rfl
  have d4 : (discD m p L).tm = p.tm := rfl
  have d5 : (discD m p L).h = p.h := rfl
  have d6 : (discD m p L).pk = p.pk := rfl
  have hlast : 0 < L.length → rI (discA L) (((discA L).length : Int) - 1).toNat (0 + 1 + 1 + 1) ≤ p.tm := fun h0 => by
    have hd : L[L.length - 1]? = some L[L.length - 1] := List.getElem?_eq_getElem (by omega)
    have e3 : (((discA L).length : Int) - 1).toNat = L.length - 1 := by omega
    rw [e3]
    have := hT _ _ hd
    have g : rI (discA L) (L.length - 1) (0 + 1 + 1 + 1) = L[L.length - 1].tm := (discA_get L _ hd).2.2.2.1
    omega
  by_cases hi' : i < A.length
  · repeat' (conv => whnf
             first
             | refine Rng.ok (by simp only [inR]; omega) ?_
             | refine Ob.mk (by first | omega | (simp; done) | decide | (simp; omega)) ?_
             | refine Ob.mk (show eqOK _ _ = true from by kernel_rfl) ?_
             | refine Ob.mk (show keyOK _ _ _ = true from by kernel_rfl) ?_
             | refine Val.mk _ (shr_val (by simp; rfl)) ?_
             | refine JoinVC.on ?_
             | refine Nils.mk (fun h => ?_) ?_
             | refine Val.mk _ (Int.tmod_eq_emod_of_nonneg (by omega)) ?_
             | refine Val.mk _ (Int.tdiv_eq_ediv_of_nonneg (by omega)) ?_
             | refine Mm.mk ?_
             | (refine Br.mk (fun h => ?_) (fun h => ?_) <;> first | (exfalso; omega; done) | (exfalso; simp at h; done) | skip))
    conv => whnf
    refine CallVC.mk [1, 2, 3, 4] _ _ _ rfl rfl rfl (s42 m p L l) (fun r m' h' => ?_)
    obtain ⟨rfl, rfl⟩ := h'
    conv => whnf
    repeat' (conv => whnf
             first
             | refine Rng.ok (by simp only [inR]; omega) ?_
             | refine Ob.mk (by first | omega | (simp; done) | decide | (simp; omega)) ?_
             | refine Ob.mk (show eqOK _ _ = true from by kernel_rfl) ?_
             | refine Ob.mk (show keyOK _ _ _ = true from by kernel_rfl) ?_
             | refine Val.mk _ (shr_val (by simp; rfl)) ?_
             | refine JoinVC.on ?_
             | refine Nils.mk (fun h => ?_) ?_
             | refine Val.mk _ (Int.tmod_eq_emod_of_nonneg (by omega)) ?_
             | refine Val.mk _ (Int.tdiv_eq_ediv_of_nonneg (by omega)) ?_
             | refine Mm.mk ?_
             | (refine Br.mk (fun h => ?_) (fun h => ?_) <;> first | (exfalso; omega; done) | (exfalso; simp at h; done) | skip))
    conv => whnf
    refine CallVC.mk [1, 2, 3, 4] _ _ _ rfl rfl rfl (s41 m p L l hU hI (rI A (i : Int).toNat 0) (rI A (i : Int).toNat 1) (rI A (i : Int).toNat 2)) (fun r m' h' => ?_)
    obtain ⟨e, l', hu, rfl, rfl⟩ | ⟨e, rfl, rfl⟩ := h'
    · have hI' := pinv_next hI e
      have hT' := tm_next hI hT e
      by_cases hk : rI A (i : Int).toNat 0 = 6
      · have e1 : outD m p L (rI A (i : Int).toNat 0) = discD m p L := by unfold outD; rw [if_pos hk]
        have e2 : nextL m p L (rI A (i : Int).toNat 0) = L ++ [discD m p L] := by unfold nextL; rw [if_pos hk]
        rw [e1, e2]
        rw [e2] at hu hI' hT'
        generalize nextP m p (rI A (i : Int).toNat 0) (rI A (i : Int).toNat 1) (rI A (i : Int).toNat 2) = q at *
        conv => whnf
        have hd : discA L ++ [[Cell.int (discD m p L).ser, Cell.int (discD m p L).a, Cell.int (discD m p L).b, Cell.int (discD m p L).tm, Cell.int (discD m p L).h, Cell.int (discD m p L).pk, Cell.bool (discD m p L).good]] = discA (L ++ [discD m p L]) := by simp [discA]
        repeat' (conv => whnf
                 first
                 | refine Rng.ok (by simp only [inR]; omega) ?_
                 | refine Ob.mk (by first | omega | (simp; done) | decide | (simp; omega)) ?_
                 | refine Ob.mk (show eqOK _ _ = true from by kernel_rfl) ?_
                 | refine Ob.mk (show keyOK _ _ _ = true from by kernel_rfl) ?_
                 | refine Val.mk _ (shr_val (by simp; rfl)) ?_
                 | refine JoinVC.on ?_
                 | refine Nils.mk (fun h => ?_) ?_
                 | refine Val.mk _ (Int.tmod_eq_emod_of_nonneg (by omega)) ?_
                 | refine Val.mk _ (Int.tdiv_eq_ediv_of_nonneg (by omega)) ?_
                 | refine Mm.mk ?_
                 | (refine Br.mk (fun h => ?_) (fun h => ?_) <;> first | (exfalso; omega; done) | (exfalso; simp at h; done) | skip))
        all_goals
          repeat refine Mm.mk ?_
          refine Ob.mk (by simp only [lL, eb70, List.length_cons, List.length_nil]; omega) ?_
        all_goals
          repeat' (conv => whnf
                   first
                   | refine Rng.ok (by simp only [inR]; omega) ?_
                   | refine Ob.mk (by first | omega | (simp; done) | decide | (simp; omega)) ?_
                   | refine Ob.mk (show eqOK _ _ = true from by kernel_rfl) ?_
                   | refine Ob.mk (show keyOK _ _ _ = true from by kernel_rfl) ?_
                   | refine Val.mk _ (shr_val (by simp; rfl)) ?_
                   | refine JoinVC.on ?_
                   | refine Nils.mk (fun h => ?_) ?_
                   | refine Val.mk _ (Int.tmod_eq_emod_of_nonneg (by omega)) ?_
                   | refine Val.mk _ (Int.tdiv_eq_ediv_of_nonneg (by omega)) ?_
                   | refine Mm.mk ?_
                   | (refine Br.mk (fun h => ?_) (fun h => ?_) <;> first | (exfalso; omega; done) | (exfalso; simp at h; done) | skip))
        all_goals
          refine Back.mk (A.length - (i + 1)) _ (by omega) ⟨i + 1, q, _, l', by omega, rfl, hI', hu, hT', rfl⟩ ?_
          refine ⟨[some 0, some 1, some 7, some 8, some 9, some 12], rfl, rfl, ?_, ?_⟩ <;> repeat' (first | exact trivial | exact rfl | exact Iff.rfl | apply And.intro)
          exact hd
      · have e1 : outD m p L (rI A (i : Int).toNat 0) = d0 := by unfold outD; rw [if_neg hk]
        have e2 : nextL m p L (rI A (i : Int).toNat 0) = L := by unfold nextL; rw [if_neg hk]
        rw [e1, e2]
        rw [e2] at hu hI' hT'
        generalize nextP m p (rI A (i : Int).toNat 0) (rI A (i : Int).toNat 1) (rI A (i : Int).toNat 2) = q at *
        conv => whnf
        repeat' (conv => whnf
                 first
                 | refine Rng.ok (by simp only [inR]; omega) ?_
                 | refine Ob.mk (by first | omega | (simp; done) | decide | (simp; omega)) ?_
                 | refine Ob.mk (show eqOK _ _ = true from by kernel_rfl) ?_
                 | refine Ob.mk (show keyOK _ _ _ = true from by kernel_rfl) ?_
                 | refine Val.mk _ (shr_val (by simp; rfl)) ?_
                 | refine JoinVC.on ?_
                 | refine Nils.mk (fun h => ?_) ?_
                 | refine Val.mk _ (Int.tmod_eq_emod_of_nonneg (by omega)) ?_
                 | refine Val.mk _ (Int.tdiv_eq_ediv_of_nonneg (by omega)) ?_
                 | refine Mm.mk ?_
                 | (refine Br.mk (fun h => ?_) (fun h => ?_) <;> first | (exfalso; omega; done) | (exfalso; simp at h; done) | skip))
        all_goals
          refine Back.mk (A.length - (i + 1)) _ (by omega) ⟨i + 1, q, L, l', by omega, rfl, hI', hu, hT', rfl⟩ ?_
          refine ⟨[some 0, some 1, some 7, some 8, some 9, some 5], rfl, rfl, ?_, ?_⟩ <;> repeat' (first | exact trivial | exact rfl | exact Iff.rfl | apply And.intro)
    · conv => whnf
      repeat' (conv => whnf
               first
               | refine Rng.ok (by simp only [inR]; omega) ?_
               | refine Ob.mk (by first | omega | (simp; done) | decide | (simp; omega)) ?_
               | refine Ob.mk (show eqOK _ _ = true from by kernel_rfl) ?_
               | refine Ob.mk (show keyOK _ _ _ = true from by kernel_rfl) ?_
               | refine Val.mk _ (shr_val (by simp; rfl)) ?_
               | refine JoinVC.on ?_
               | refine Nils.mk (fun h => ?_) ?_
               | refine Val.mk _ (Int.tmod_eq_emod_of_nonneg (by omega)) ?_
               | refine Val.mk _ (Int.tdiv_eq_ediv_of_nonneg (by omega)) ?_
               | refine Mm.mk ?_
               | (refine Br.mk (fun h => ?_) (fun h => ?_) <;> first | (exfalso; omega; done) | (exfalso; simp at h; done) | skip))
      all_goals
        refine Back.mk (A.length - (i + 1)) _ (by omega) ⟨i + 1, p, L, l, by omega, rfl, hI, hU, hT, rfl⟩ ?_
        refine ⟨[some 0, some 1, some 2, some 3, some 4, some 5], rfl, rfl, ?_, ?_⟩ <;> repeat' (first | exact trivial | exact rfl | exact Iff.rfl | apply And.intro)
  · repeat' (conv => whnf
             first
             | refine Rng.ok (by simp only [inR]; omega) ?_
             | refine Ob.mk (by first | omega | (simp; done) | decide | (simp; omega)) ?_
             | refine Ob.mk (show eqOK _ _ = true from by kernel_rfl) ?_
             | refine Ob.mk (show keyOK _ _ _ = true from by kernel_rfl) ?_
             | refine Val.mk _ (shr_val (by simp; rfl)) ?_
             | refine JoinVC.on ?_
             | refine Nils.mk (fun h => ?_) ?_
             | refine Val.mk _ (Int.tmod_eq_emod_of_nonneg (by omega)) ?_
             | refine Val.mk _ (Int.tdiv_eq_ediv_of_nonneg (by omega)) ?_
             | refine Mm.mk ?_
             | (refine Br.mk (fun h => ?_) (fun h => ?_) <;> first | (exfalso; omega; done) | (exfalso; simp at h; done) | skip))
    conv => whnf
    refine CallVC.mk [1, 2, 3, 4] _ _ _ rfl rfl rfl (s47 m p L l hlen) (fun r m' h' => ?_)
    obtain ⟨rfl, rfl⟩ := h'
    conv => whnf
    repeat' (conv => whnf
             first
             | refine Rng.ok (by simp only [inR]; omega) ?_
             | refine Ob.mk (by first | omega | (simp; done) | decide | (simp; omega)) ?_
             | refine Ob.mk (show eqOK _ _ = true from by kernel_rfl) ?_
             | refine Ob.mk (show keyOK _ _ _ = true from by kernel_rfl) ?_
             | refine Val.mk _ (shr_val (by simp; rfl)) ?_
             | refine JoinVC.on ?_
             | refine Nils.mk (fun h => ?_) ?_
             | refine Val.mk _ (Int.tmod_eq_emod_of_nonneg (by omega)) ?_
             | refine Val.mk _ (Int.tdiv_eq_ediv_of_nonneg (by omega)) ?_
             | refine Mm.mk ?_
             | refine CallVC.pure rfl (s46 L hlen) ?_
             | refine CallVC0.pure rfl (s46 L hlen) ?_
             | (refine Br.mk (fun h => ?_) (fun h => ?_) <;> first | (exfalso; omega; done) | (exfalso; simp at h; done) | skip))
    refine LoopVC.mk (fun n st => ∃ j : Nat, j ≤ L.length ∧ n = L.length - j ∧ st = ⟨0, envA 170 [(2, .x (.one (.ptr 0 0))), (5, .x (.one (.ptr 1 0))), (7, .x (.one (.own 5))), (13, .int .i64 (j : Int))], [some (bM m), some (bP 2), some (bW 3 4 m p), some (dRow L), some (mpU l), some (dRow L)]⟩) _ _ ⟨0, Nat.zero_le _, rfl, rfl⟩ ?_ ?_
    · refine ⟨[some 0, some 1, some 2, some 3, some 4, some 5], rfl, rfl, ?_, ?_⟩ <;> repeat' (first | exact trivial | exact rfl | exact Iff.rfl | apply And.intro)
    rintro n _ ⟨j, hj, hn, rfl⟩
    repeat' (conv => whnf
             first
             | refine Rng.ok (by simp only [inR]; omega) ?_
             | refine Ob.mk (by first | omega | (simp; done) | decide | (simp; omega)) ?_
             | refine Ob.mk (show eqOK _ _ = true from by kernel_rfl) ?_
             | refine Ob.mk (show keyOK _ _ _ = true from by kernel_rfl) ?_
             | refine Val.mk _ (shr_val (by simp; rfl)) ?_
             | refine JoinVC.on ?_
             | refine Nils.mk (fun h => ?_) ?_
             | refine Val.mk _ (Int.tmod_eq_emod_of_nonneg (by omega)) ?_
             | refine Val.mk _ (Int.tdiv_eq_ediv_of_nonneg (by omega)) ?_
             | refine Mm.mk ?_
             | refine CallVC.pure rfl (s22) ?_
             | refine CallVC0.pure rfl (s22) ?_
             | (refine Br.mk (fun h => ?_) (fun h => ?_) <;> first | (exfalso; omega; done) | (exfalso; simp at h; done) | skip))
    · conv => whnf
      refine CallVC.mk [1, 2, 3, 4] _ _ _ rfl rfl rfl (s48 m p L l hlen _ m.life (hI.use _)) (fun r m' h' => ?_)
      obtain ⟨rfl, rfl⟩ := h'
      conv => whnf
      repeat' (conv => whnf
               first
               | refine Rng.ok (by simp only [inR]; omega) ?_
               | refine Ob.mk (by first | omega | (simp; done) | decide | (simp; omega)) ?_
               | refine Ob.mk (show eqOK _ _ = true from by kernel_rfl) ?_
               | refine Ob.mk (show keyOK _ _ _ = true from by kernel_rfl) ?_
               | refine Val.mk _ (shr_val (by simp; rfl)) ?_
               | refine JoinVC.on ?_
               | refine Nils.mk (fun h => ?_) ?_
               | refine Val.mk _ (Int.tmod_eq_emod_of_nonneg (by omega)) ?_
               | refine Val.mk _ (Int.tdiv_eq_ediv_of_nonneg (by omega)) ?_
               | refine Mm.mk ?_
               | (refine Br.mk (fun h => ?_) (fun h => ?_) <;> first | (exfalso; omega; done) | (exfalso; simp at h; done) | skip))
      conv => whnf
      refine CallVC.mk [1, 2, 3, 4] _ _ _ rfl rfl rfl (s48 m p L l hlen _ m.life (hI.use _)) (fun r m' h' => ?_)
      obtain ⟨rfl, rfl⟩ := h'
      conv => whnf
      repeat' (conv => whnf
               first
               | refine Rng.ok (by simp only [inR]; omega) ?_
               | refine Ob.mk (by first | omega | (simp; done) | decide | (simp; omega)) ?_
               | refine Ob.mk (show eqOK _ _ = true from by kernel_rfl) ?_
               | refine Ob.mk (show keyOK _ _ _ = true from by kernel_rfl) ?_
               | refine Val.mk _ (shr_val (by simp; rfl)) ?_
               | refine JoinVC.on ?_
               | refine Nils.mk (fun h => ?_) ?_
               | refine Val.mk _ (Int.tmod_eq_emod_of_nonneg (by omega)) ?_
               | refine Val.mk _ (Int.tdiv_eq_ediv_of_nonneg (by omega)) ?_
               | refine Mm.mk ?_
               | (refine Br.mk (fun h => ?_) (fun h => ?_) <;> first | (exfalso; omega; done) | (exfalso; simp at h; done) | skip))
      refine Back.mk (L.length - (j + 1)) _ (by omega) ⟨j + 1, by omega, rfl, rfl⟩ ?_
      refine ⟨[some 0, some 1, some 2, some 3, some 4, some 5], rfl, rfl, ?_, ?_⟩ <;> repeat' (first | exact trivial | exact rfl | exact Iff.rfl | apply And.intro)
    · repeat refine Mm.mk ?_
      refine EndVC.mk _ rfl _ _ ⟨rfl, rfl⟩ ?_
      refine ⟨[], rfl, rfl, ?_, ?_⟩ <;> repeat' (first | exact trivial | exact rfl | exact Iff.rfl | apply And.intro)
end Go.Sx
