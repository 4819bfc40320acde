import Derived.Test.YthfdbmgjkjeccaaPrPressPlaysA
namespace Go.Sx
open Go Go.Proofs
set_option maxRecDepth 10000
set_option maxHeartbeats 2000000
theorem e12 : EntersF Try.prog 12 := enters_of Try.func12 (c := bodyOf Try.f12) (by kernel_rfl) rfl
@[reducible] def K3a : List CK := [.int .i64, .int .i64, .int .i64]
@[reducible] def lActs (A : Arr) : XV := .one (.lst true K3a A)
@[reducible] def bM (m : Mac) : Blk := .box 23 [.int .i64 m.room, .int .i64 m.melt, .int .i64 m.cool, .int .i64 m.top, .int .i64 m.heat, .int .i64 m.chill, .int .i64 m.drift, .int .i64 m.hold, .int .i64 m.life]
theorem s12 (m : Mac) (A : Arr) : PSpec Try.prog 12 [m.x, lActs A] (xP True) := by
  refine spec_of pMix (O := []) Try.func12 (c := bodyOf Try.f12) rfl (by kernel_rfl) (by kernel_rfl) Try.ntmps12 (res := [.tmp 4]) (by kernel_rfl) ?_
  repeat' (conv => whnf
           first
           | refine Rng.ok (by simp only [inR]; omega) ?_
           | refine Ob.mk (by first | omega | (simp; done) | decide | (simp; omega)) ?_
           | refine Ob.mk (show eqOK _ _ = true from by kernel_rfl) ?_
           | refine Ob.mk (show keyOK _ _ _ = true from by kernel_rfl) ?_
           | refine Val.mk _ (shr_val (by simp; rfl)) ?_
           | refine JoinVC.on ?_
           | refine Nils.mk (fun h => ?_) ?_
           | refine Val.mk _ (Int.tmod_eq_emod_of_nonneg (by omega)) ?_
           | refine Val.mk _ (Int.tdiv_eq_ediv_of_nonneg (by omega)) ?_
           | refine Mm.mk ?_
           | (refine Br.mk (fun h => ?_) (fun h => ?_) <;> first | (exfalso; omega; done) | (exfalso; simp at h; done) | skip))
  conv => whnf
  refine CallVC.mk [] _ _ _ rfl rfl rfl (s39 m) (fun r m' h' => ?_)
  obtain ⟨hm, rfl, rfl⟩ | ⟨hm, rfl, rfl⟩ := h'
  · repeat' (conv => whnf
             first
             | refine Rng.ok (by simp only [inR]; omega) ?_
             | refine Ob.mk (by first | omega | (simp; done) | decide | (simp; omega)) ?_
             | refine Ob.mk (show eqOK _ _ = true from by kernel_rfl) ?_
             | refine Ob.mk (show keyOK _ _ _ = true from by kernel_rfl) ?_
             | refine Val.mk _ (shr_val (by simp; rfl)) ?_
             | refine JoinVC.on ?_
             | refine Nils.mk (fun h => ?_) ?_
             | refine Val.mk _ (Int.tmod_eq_emod_of_nonneg (by omega)) ?_
             | refine Val.mk _ (Int.tdiv_eq_ediv_of_nonneg (by omega)) ?_
             | refine Mm.mk ?_
             | refine CallVC.pure rfl (s22) ?_
             | refine CallVC0.pure rfl (s22) ?_
             | (refine Br.mk (fun h => ?_) (fun h => ?_) <;> first | (exfalso; omega; done) | (exfalso; simp at h; done) | skip))
    repeat refine Mm.mk ?_
    refine EndVC.mk _ rfl _ _ ⟨rfl, rfl⟩ ?_
    refine ⟨[], rfl, rfl, ?_, ?_⟩ <;> repeat' (first | exact trivial | exact rfl | exact Iff.rfl | apply And.intro)
  repeat' (conv => whnf
           first
           | refine Rng.ok (by simp only [inR]; omega) ?_
           | refine Ob.mk (by first | omega | (simp; done) | decide | (simp; omega)) ?_
           | refine Ob.mk (show eqOK _ _ = true from by kernel_rfl) ?_
           | refine Ob.mk (show keyOK _ _ _ = true from by kernel_rfl) ?_
           | refine Val.mk _ (shr_val (by simp; rfl)) ?_
           | refine JoinVC.on ?_
           | refine Nils.mk (fun h => ?_) ?_
           | refine Val.mk _ (Int.tmod_eq_emod_of_nonneg (by omega)) ?_
           | refine Val.mk _ (Int.tdiv_eq_ediv_of_nonneg (by omega)) ?_
           | refine Mm.mk ?_
           | refine CallVC.pure rfl (s22) ?_
           | refine CallVC0.pure rfl (s22) ?_
           | (refine Br.mk (fun h => ?_) (fun h => ?_) <;> first | (exfalso; omega; done) | (exfalso; simp at h; done) | skip))
  · repeat refine Mm.mk ?_
    refine EndVC.mk _ rfl _ _ ⟨rfl, rfl⟩ ?_
    refine ⟨[], rfl, rfl, ?_, ?_⟩ <;> repeat' (first | exact trivial | exact rfl | exact Iff.rfl | apply And.intro)
  conv => whnf
  refine CallVC.mk [1, 2, 3, 4] _ _ _ rfl rfl rfl (s42 m _ [] []) (fun r m' h' => ?_)
  obtain ⟨rfl, rfl⟩ := h'
  conv => whnf
  repeat' (conv => whnf
           first
           | refine Rng.ok (by simp only [inR]; omega) ?_
           | refine Ob.mk (by first | omega | (simp; done) | decide | (simp; omega)) ?_
           | refine Ob.mk (show eqOK _ _ = true from by kernel_rfl) ?_
           | refine Ob.mk (show keyOK _ _ _ = true from by kernel_rfl) ?_
           | refine Val.mk _ (shr_val (by simp; rfl)) ?_
           | refine JoinVC.on ?_
           | refine Nils.mk (fun h => ?_) ?_
           | refine Val.mk _ (Int.tmod_eq_emod_of_nonneg (by omega)) ?_
           | refine Val.mk _ (Int.tdiv_eq_ediv_of_nonneg (by omega)) ?_
           | refine Mm.mk ?_
           | (refine Br.mk (fun h => ?_) (fun h => ?_) <;> first | (exfalso; omega; done) | (exfalso; simp at h; done) | skip))
  refine LoopVC.mk (fun n st => ∃ (i : Nat) (p : Pst) (L : List Disc) (l : MapL), i ≤ A.length ∧ n = A.length - i ∧ PInv m p L ∧ UsedOK l L ∧ st = ⟨0, envA 154 [(1, .x (lActs A)), (2, .x (.one (.ptr 0 0))), (5, .x (.one (.ptr 1 0))), (7, .x (.one (.ptr 5 0))), (8, .int .i64 (i : Int))], [some (bM m), some (bP 2), some (bW 3 4 m p), some (dRow L), some (mpU l), some (bS p)]⟩) _ _ ⟨0, _, [], [], Nat.zero_le _, rfl, pinv_new hm, fun k => rfl, rfl⟩ ?_ ?_
  · refine ⟨[some 0, some 1, some 2, some 3, some 4, some 5], rfl, rfl, ?_, ?_⟩ <;> repeat' (first | exact trivial | exact rfl | exact Iff.rfl | apply And.intro)
  rintro n _ ⟨i, p, L, l, hi, hn, hI, hU, rfl⟩
  by_cases hi' : i < A.length
  · repeat' (conv => whnf
             first
             | refine Rng.ok (by simp only [inR]; omega) ?_
             | refine Ob.mk (by first | omega | (simp; done) | decide | (simp; omega)) ?_
             | refine Ob.mk (show eqOK _ _ = true from by kernel_rfl) ?_
             | refine Ob.mk (show keyOK _ _ _ = true from by kernel_rfl) ?_
             | refine Val.mk _ (shr_val (by simp; rfl)) ?_
             | refine JoinVC.on ?_
             | refine Nils.mk (fun h => ?_) ?_
             | refine Val.mk _ (Int.tmod_eq_emod_of_nonneg (by omega)) ?_
             | refine Val.mk _ (Int.tdiv_eq_ediv_of_nonneg (by omega)) ?_
             | refine Mm.mk ?_
             | (refine Br.mk (fun h => ?_) (fun h => ?_) <;> first | (exfalso; omega; done) | (exfalso; simp at h; done) | skip))
    conv => whnf
    refine CallVC.mk [1, 2, 3, 4] _ _ _ rfl rfl rfl (s41 m p L l hU hI (rI A (i : Int).toNat 0) (rI A (i : Int).toNat 1) (rI A (i : Int).toNat 2)) (fun r m' h' => ?_)
    obtain ⟨e, l', hu, rfl, rfl⟩ | ⟨e, rfl, rfl⟩ := h'
    · have hI' := pinv_next hI e
      have hN := next_mono hI e
      generalize outD m p L (rI A (i : Int).toNat 0) = d at *
      generalize nextP m p (rI A (i : Int).toNat 0) (rI A (i : Int).toNat 1) (rI A (i : Int).toNat 2) = q at *
      generalize nextL m p L (rI A (i : Int).toNat 0) = L' at *
      have hI2 := hI'
      obtain ⟨q1, q2, q3, q4, q5, q6, q7, q8, q9, q10, q11, q12, q13, q14, q15⟩ := hI2
      conv => whnf
      conv => whnf
      refine CallVC.mk [1, 6, 7, 8] _ _ _ rfl rfl rfl (s42 m _ L' l') (fun r m' h' => ?_)
      obtain ⟨rfl, rfl⟩ := h'
      conv => whnf
      clear q5 q6 q8 q9 q10 q12 q13 q14 q15
      rcases Bool.eq_false_or_eq_true q.cl with hqc | hqc <;> rcases Bool.eq_false_or_eq_true q.ld with hql | hql <;> rcases Bool.eq_false_or_eq_true p.cl with hpc | hpc <;> simp only [hqc, hql, hpc, Bool.false_eq_true, Bool.true_eq_false, false_implies, imp_false, forall_const, and_true] at hN q3 q4 q11
      all_goals try exact absurd trivial q4
      all_goals
        repeat' (conv => whnf
                 first
                 | refine Rng.ok (by simp only [inR]; omega) ?_
                 | refine Ob.mk (by first | omega | (simp; done) | decide | (simp; omega)) ?_
                 | refine Ob.mk (show eqOK _ _ = true from by kernel_rfl) ?_
                 | refine Ob.mk (show keyOK _ _ _ = true from by kernel_rfl) ?_
                 | refine Val.mk _ (shr_val (by simp; rfl)) ?_
                 | refine JoinVC.on ?_
                 | refine Nils.mk (fun h => ?_) ?_
                 | refine Val.mk _ (Int.tmod_eq_emod_of_nonneg (by omega)) ?_
                 | refine Val.mk _ (Int.tdiv_eq_ediv_of_nonneg (by omega)) ?_
                 | refine Mm.mk ?_
                 | (refine Br.mk (fun h => ?_) (fun h => ?_) <;> first | (exfalso; omega; done) | (exfalso; simp at h; done) | (exfalso; simp [hqc, hql, hpc] at h; done) | skip))
      all_goals
        refine Back.mk (A.length - (i + 1)) _ (by omega) ⟨i + 1, _, L', l', by omega, rfl, hI', hu, rfl⟩ ?_
        refine ⟨[some 0, some 1, some 6, some 7, some 8, some 5], rfl, rfl, ?_, ?_⟩ <;> repeat' (first | exact trivial | exact rfl | exact Iff.rfl | apply And.intro)
    · conv => whnf
      refine CallVC.mk [1, 2, 3, 4] _ _ _ rfl rfl rfl (s42 m p L l) (fun r m' h' => ?_)
      obtain ⟨rfl, rfl⟩ := h'
      conv => whnf
      have hI2 := hI
      obtain ⟨q1, q2, q3, q4, q5, q6, q7, q8, q9, q10, q11, q12, q13, q14, q15⟩ := hI2
      clear q5 q6 q8 q9 q10 q12 q13 q14 q15
      rcases Bool.eq_false_or_eq_true p.cl with hqc | hqc <;> rcases Bool.eq_false_or_eq_true p.ld with hql | hql <;> simp only [hqc, hql, Bool.false_eq_true, false_implies, imp_false, forall_const] at q3 q4 q11
      all_goals try exact absurd trivial q4
      all_goals
        repeat' (conv => whnf
                 first
                 | refine Rng.ok (by simp only [inR]; omega) ?_
                 | refine Ob.mk (by first | omega | (simp; done) | decide | (simp; omega)) ?_
                 | refine Ob.mk (show eqOK _ _ = true from by kernel_rfl) ?_
                 | refine Ob.mk (show keyOK _ _ _ = true from by kernel_rfl) ?_
                 | refine Val.mk _ (shr_val (by simp; rfl)) ?_
                 | refine JoinVC.on ?_
                 | refine Nils.mk (fun h => ?_) ?_
                 | refine Val.mk _ (Int.tmod_eq_emod_of_nonneg (by omega)) ?_
                 | refine Val.mk _ (Int.tdiv_eq_ediv_of_nonneg (by omega)) ?_
                 | refine Mm.mk ?_
                 | (refine Br.mk (fun h => ?_) (fun h => ?_) <;> first | (exfalso; omega; done) | (exfalso; simp at h; done) | (exfalso; simp [hqc, hql] at h; done) | skip))
      all_goals
        refine Back.mk (A.length - (i + 1)) _ (by omega) ⟨i + 1, _, L, l, by omega, rfl, hI, hU, rfl⟩ ?_
        refine ⟨[some 0, some 1, some 2, some 3, some 4, some 5], rfl, rfl, ?_, ?_⟩ <;> repeat' (first | exact trivial | exact rfl | exact Iff.rfl | apply And.intro)
  · repeat' (conv => whnf
             first
             | refine Rng.ok (by simp only [inR]; omega) ?_
             | refine Ob.mk (by first | omega | (simp; done) | decide | (simp; omega)) ?_
             | refine Ob.mk (show eqOK _ _ = true from by kernel_rfl) ?_
             | refine Ob.mk (show keyOK _ _ _ = true from by kernel_rfl) ?_
             | refine Val.mk _ (shr_val (by simp; rfl)) ?_
             | refine JoinVC.on ?_
             | refine Nils.mk (fun h => ?_) ?_
             | refine Val.mk _ (Int.tmod_eq_emod_of_nonneg (by omega)) ?_
             | refine Val.mk _ (Int.tdiv_eq_ediv_of_nonneg (by omega)) ?_
             | refine Mm.mk ?_
             | refine CallVC.pure rfl (s22) ?_
             | refine CallVC0.pure rfl (s22) ?_
             | (refine Br.mk (fun h => ?_) (fun h => ?_) <;> first | (exfalso; omega; done) | (exfalso; simp at h; done) | skip))
    repeat refine Mm.mk ?_
    refine EndVC.mk _ rfl _ _ ⟨rfl, rfl⟩ ?_
    refine ⟨[], rfl, rfl, ?_, ?_⟩ <;> repeat' (first | exact trivial | exact rfl | exact Iff.rfl | apply And.intro)
end Go.Sx

namespace Go.Sx
open Go Go.Proofs
set_option maxRecDepth 10000
set_option maxHeartbeats 4000000
theorem i64s_app2 (xs : List Int) (a b : Int) : i64s (xs ++ [a, b]) = i64s xs ++ [[.int a], [.int b]] := by simp [i64s]
theorem s13 (m : Mac) (A : Arr) : PSpec Try.prog 13 [m.x, lActs A] (xP True) := by
  refine spec_of pMix (O := [(19, ([], [⟨0, [], []⟩, ⟨1, [], []⟩, ⟨2, [], []⟩, ⟨3, [], []⟩, ⟨4, [], []⟩, ⟨5, [], []⟩, ⟨6, [], []⟩, ⟨7, [], []⟩, ⟨8, [], []⟩, ⟨9, [], []⟩, ⟨10, [], [11]⟩, ⟨11, [], []⟩, ⟨12, [], []⟩, ⟨13, [], []⟩]))]) Try.func13 (c := bodyOf Try.f13) rfl (by kernel_rfl) (by kernel_rfl) Try.ntmps13 (res := [.tmp 4]) (by kernel_rfl) ?_
  repeat' (conv => whnf
           first
           | refine Rng.ok (by simp only [inR]; omega) ?_
           | refine Ob.mk (by first | omega | (simp; done) | decide | (simp; omega)) ?_
           | refine Ob.mk (show eqOK _ _ = true from by kernel_rfl) ?_
           | refine Ob.mk (show keyOK _ _ _ = true from by kernel_rfl) ?_
           | refine Val.mk _ (shr_val (by simp; rfl)) ?_
           | refine JoinVC.on ?_
           | refine Nils.mk (fun h => ?_) ?_
           | refine Val.mk _ (Int.tmod_eq_emod_of_nonneg (by omega)) ?_
           | refine Val.mk _ (Int.tdiv_eq_ediv_of_nonneg (by omega)) ?_
           | refine Mm.mk ?_
           | refine CallVC.pure rfl (s22) ?_
           | refine CallVC0.pure rfl (s22) ?_
           | (refine Br.mk (fun h => ?_) (fun h => ?_) <;> first | (exfalso; omega; done) | (exfalso; simp at h; done) | skip))
  · repeat refine Mm.mk ?_
    refine EndVC.mk _ rfl _ _ ⟨rfl, rfl⟩ ?_
    refine ⟨[], rfl, rfl, ?_, ?_⟩ <;> repeat' (first | exact trivial | exact rfl | exact Iff.rfl | apply And.intro)
  conv => whnf
  refine CallVC.mk [] _ _ _ rfl rfl rfl (s39 m) (fun r m' h' => ?_)
  obtain ⟨hm, rfl, rfl⟩ | ⟨hm, rfl, rfl⟩ := h'
  · conv => whnf
    conv => whnf
    refine CallVC.mk [] _ _ _ rfl rfl rfl (s43 m) (fun r m' h' => ?_)
    obtain ⟨hm, rfl, rfl⟩ | ⟨hm', rfl, rfl⟩ := h'
    · repeat' (conv => whnf
               first
               | refine Rng.ok (by simp only [inR]; omega) ?_
               | refine Ob.mk (by first | omega | (simp; done) | decide | (simp; omega)) ?_
               | refine Ob.mk (show eqOK _ _ = true from by kernel_rfl) ?_
               | refine Ob.mk (show keyOK _ _ _ = true from by kernel_rfl) ?_
               | refine Val.mk _ (shr_val (by simp; rfl)) ?_
               | refine JoinVC.on ?_
               | refine Nils.mk (fun h => ?_) ?_
               | refine Val.mk _ (Int.tmod_eq_emod_of_nonneg (by omega)) ?_
               | refine Val.mk _ (Int.tdiv_eq_ediv_of_nonneg (by omega)) ?_
               | refine Mm.mk ?_
               | refine CallVC.pure rfl (s22) ?_
               | refine CallVC0.pure rfl (s22) ?_
               | (refine Br.mk (fun h => ?_) (fun h => ?_) <;> first | (exfalso; omega; done) | (exfalso; simp at h; done) | skip))
      repeat refine Mm.mk ?_
      refine EndVC.mk _ rfl _ _ ⟨rfl, rfl⟩ ?_
      refine ⟨[], rfl, rfl, ?_, ?_⟩ <;> repeat' (first | exact trivial | exact rfl | exact Iff.rfl | apply And.intro)
    · exact absurd hm' hm
  conv => whnf
  conv => whnf
  refine CallVC.mk [] _ _ _ rfl rfl rfl (s43 m) (fun r m' h' => ?_)
  obtain ⟨hm', rfl, rfl⟩ | ⟨_, rfl, rfl⟩ := h'
  · exact absurd hm hm'
  repeat' (conv => whnf
           first
           | refine Rng.ok (by simp only [inR]; omega) ?_
           | refine Ob.mk (by first | omega | (simp; done) | decide | (simp; omega)) ?_
           | refine Ob.mk (show eqOK _ _ = true from by kernel_rfl) ?_
           | refine Ob.mk (show keyOK _ _ _ = true from by kernel_rfl) ?_
           | refine Val.mk _ (shr_val (by simp; rfl)) ?_
           | refine JoinVC.on ?_
           | refine Nils.mk (fun h => ?_) ?_
           | refine Val.mk _ (Int.tmod_eq_emod_of_nonneg (by omega)) ?_
           | refine Val.mk _ (Int.tdiv_eq_ediv_of_nonneg (by omega)) ?_
           | refine Mm.mk ?_
           | refine CallVC.pure rfl (s22) ?_
           | refine CallVC0.pure rfl (s22) ?_
           | (refine Br.mk (fun h => ?_) (fun h => ?_) <;> first | (exfalso; omega; done) | (exfalso; simp at h; done) | skip))
  refine LoopVC.mk (fun n st => ∃ (i : Nat) (p : Pst) (L : List Disc) (l : MapL) (xs : List Int), i ≤ A.length ∧ n = A.length - i ∧ PInv m p L ∧ UsedOK l L ∧ xs.length ≤ 2 * i ∧ st = ⟨0, envA 121 [(1, .x (lActs A)), (2, .x (.one (.ptr 0 0))), (5, .x (.one (.ptr 1 0))), (7, .x (.one (.ptr 5 0))), (9, .x (.one (.own 7))), (10, .int .i64 (i : Int))], [some (bM m), some (bP 2), some (bW 3 4 m p), some (dRow L), some (mpU l), some (bR 6 m p), some (dRow L), some (.row 2 false [.int .i64] (i64s xs))]⟩) _ _ ⟨0, _, [], [], [], Nat.zero_le _, rfl, pinv_new hm, fun k => rfl, Nat.zero_le _, rfl⟩ ?_ ?_
  · refine ⟨[some 0, some 1, some 2, some 3, some 4, some 5, some 6, none], rfl, rfl, ?_, ?_⟩ <;> repeat' (first | exact trivial | exact rfl | exact Iff.rfl | apply And.intro)
  rintro n _ ⟨i, p, L, l, xs, hi, hn, hI, hU, hxs, rfl⟩
  have lx := i64s_len xs
  by_cases hi' : i < A.length
  · repeat' (conv => whnf
             first
             | refine Rng.ok (by simp only [inR]; omega) ?_
             | refine Ob.mk (by first | omega | (simp; done) | decide | (simp; omega)) ?_
             | refine Ob.mk (show eqOK _ _ = true from by kernel_rfl) ?_
             | refine Ob.mk (show keyOK _ _ _ = true from by kernel_rfl) ?_
             | refine Val.mk _ (shr_val (by simp; rfl)) ?_
             | refine JoinVC.on ?_
             | refine Nils.mk (fun h => ?_) ?_
             | refine Val.mk _ (Int.tmod_eq_emod_of_nonneg (by omega)) ?_
             | refine Val.mk _ (Int.tdiv_eq_ediv_of_nonneg (by omega)) ?_
             | refine Mm.mk ?_
             | (refine Br.mk (fun h => ?_) (fun h => ?_) <;> first | (exfalso; omega; done) | (exfalso; simp at h; done) | skip))
    conv => whnf
    refine CallVC.mk [1, 2, 3, 4] _ _ _ rfl rfl rfl (s41 m p L l hU hI (rI A (i : Int).toNat 0) (rI A (i : Int).toNat 1) (rI A (i : Int).toNat 2)) (fun r m' h' => ?_)
    obtain ⟨e, l', hu, rfl, rfl⟩ | ⟨e, rfl, rfl⟩ := h'
    · conv => whnf
      repeat' (conv => whnf
               first
               | refine Rng.ok (by simp only [inR]; omega) ?_
               | refine Ob.mk (by first | omega | (simp; done) | decide | (simp; omega)) ?_
               | refine Ob.mk (show eqOK _ _ = true from by kernel_rfl) ?_
               | refine Ob.mk (show keyOK _ _ _ = true from by kernel_rfl) ?_
               | refine Val.mk _ (shr_val (by simp; rfl)) ?_
               | refine JoinVC.on ?_
               | refine Nils.mk (fun h => ?_) ?_
               | refine Val.mk _ (Int.tmod_eq_emod_of_nonneg (by omega)) ?_
               | refine Val.mk _ (Int.tdiv_eq_ediv_of_nonneg (by omega)) ?_
               | refine Mm.mk ?_
               | (refine Br.mk (fun h => ?_) (fun h => ?_) <;> first | (exfalso; omega; done) | (exfalso; simp at h; done) | skip))
      conv => whnf
      refine CallVC.mk [5, 6] _ _ _ rfl rfl rfl (s44 m p L hI (rI A (i : Int).toNat 0) (rI A (i : Int).toNat 1) (rI A (i : Int).toNat 2)) (fun r m' h' => ?_)
      obtain ⟨_, rfl, rfl | rfl⟩ | ⟨e', rfl, rfl⟩ := h'
      · have hI' := pinv_next hI e
        generalize outD m p L (rI A (i : Int).toNat 0) = d at *
        generalize nextP m p (rI A (i : Int).toNat 0) (rI A (i : Int).toNat 1) (rI A (i : Int).toNat 2) = q at *
        generalize nextL m p L (rI A (i : Int).toNat 0) = L' at *
        conv => whnf
        repeat' (conv => whnf
                 first
                 | refine Rng.ok (by simp only [inR]; omega) ?_
                 | refine Ob.mk (by first | omega | (simp; done) | decide | (simp; omega)) ?_
                 | refine Ob.mk (show eqOK _ _ = true from by kernel_rfl) ?_
                 | refine Ob.mk (show keyOK _ _ _ = true from by kernel_rfl) ?_
                 | refine Val.mk _ (shr_val (by simp; rfl)) ?_
                 | refine JoinVC.on ?_
                 | refine Nils.mk (fun h => ?_) ?_
                 | refine Val.mk _ (Int.tmod_eq_emod_of_nonneg (by omega)) ?_
                 | refine Val.mk _ (Int.tdiv_eq_ediv_of_nonneg (by omega)) ?_
                 | refine Mm.mk ?_
                 | (refine Br.mk (fun h => ?_) (fun h => ?_) <;> first | (exfalso; omega; done) | (exfalso; simp at h; done) | skip))
        conv => whnf
        refine CallVC.mk [1, 8, 9, 10] _ _ _ rfl rfl rfl (s42 m _ L' l') (fun r m' h' => ?_)
        obtain ⟨rfl, rfl⟩ := h'
        conv => whnf
        repeat' (conv => whnf
                 first
                 | refine Rng.ok (by simp only [inR]; omega) ?_
                 | refine Ob.mk (by first | omega | (simp; done) | decide | (simp; omega)) ?_
                 | refine Ob.mk (show eqOK _ _ = true from by kernel_rfl) ?_
                 | refine Ob.mk (show keyOK _ _ _ = true from by kernel_rfl) ?_
                 | refine Val.mk _ (shr_val (by simp; rfl)) ?_
                 | refine JoinVC.on ?_
                 | refine Nils.mk (fun h => ?_) ?_
                 | refine Val.mk _ (Int.tmod_eq_emod_of_nonneg (by omega)) ?_
                 | refine Val.mk _ (Int.tdiv_eq_ediv_of_nonneg (by omega)) ?_
                 | refine Mm.mk ?_
                 | (refine Br.mk (fun h => ?_) (fun h => ?_) <;> first | (exfalso; omega; done) | (exfalso; simp at h; done) | skip))
        · repeat refine Mm.mk ?_
          refine Ob.mk (by simp only [lx, eb, List.length_cons, List.length_nil]; omega) ?_
          repeat' (conv => whnf
                   first
                   | refine Rng.ok (by simp only [inR]; omega) ?_
                   | refine Ob.mk (by first | omega | (simp; done) | decide | (simp; omega)) ?_
                   | refine Ob.mk (show eqOK _ _ = true from by kernel_rfl) ?_
                   | refine Ob.mk (show keyOK _ _ _ = true from by kernel_rfl) ?_
                   | refine Val.mk _ (shr_val (by simp; rfl)) ?_
                   | refine JoinVC.on ?_
                   | refine Nils.mk (fun h => ?_) ?_
                   | refine Val.mk _ (Int.tmod_eq_emod_of_nonneg (by omega)) ?_
                   | refine Val.mk _ (Int.tdiv_eq_ediv_of_nonneg (by omega)) ?_
                   | refine Mm.mk ?_
                   | (refine Br.mk (fun h => ?_) (fun h => ?_) <;> first | (exfalso; omega; done) | (exfalso; simp at h; done) | skip))
          refine Back.mk (A.length - (i + 1)) _ (by omega) ⟨i + 1, _, L', l', xs ++ [rI A (i : Int).toNat (0 + 1), rI A (i : Int).toNat (0 + 1 + 1)], by omega, rfl, hI', hu, by simp only [List.length_append, List.length_cons, List.length_nil]; omega, rfl⟩ ?_
          refine ⟨[some 0, some 1, some 8, some 9, some 10, some 5, some 6, some 15], rfl, rfl, ?_, ?_⟩ <;> repeat' (first | exact trivial | exact rfl | exact Iff.rfl | apply And.intro)
          exact (i64s_app2 xs _ _).symm
        · refine Back.mk (A.length - (i + 1)) _ (by omega) ⟨i + 1, _, L', l', xs, by omega, rfl, hI', hu, by omega, rfl⟩ ?_
          refine ⟨[some 0, some 1, some 8, some 9, some 10, some 5, some 6, some 7], rfl, rfl, ?_, ?_⟩ <;> repeat' (first | exact trivial | exact rfl | exact Iff.rfl | apply And.intro)
      · have hI' := pinv_next hI e
        generalize outD m p L (rI A (i : Int).toNat 0) = d at *
        generalize nextP m p (rI A (i : Int).toNat 0) (rI A (i : Int).toNat 1) (rI A (i : Int).toNat 2) = q at *
        generalize nextL m p L (rI A (i : Int).toNat 0) = L' at *
        conv => whnf
        repeat' (conv => whnf
                 first
                 | refine Rng.ok (by simp only [inR]; omega) ?_
                 | refine Ob.mk (by first | omega | (simp; done) | decide | (simp; omega)) ?_
                 | refine Ob.mk (show eqOK _ _ = true from by kernel_rfl) ?_
                 | refine Ob.mk (show keyOK _ _ _ = true from by kernel_rfl) ?_
                 | refine Val.mk _ (shr_val (by simp; rfl)) ?_
                 | refine JoinVC.on ?_
                 | refine Nils.mk (fun h => ?_) ?_
                 | refine Val.mk _ (Int.tmod_eq_emod_of_nonneg (by omega)) ?_
                 | refine Val.mk _ (Int.tdiv_eq_ediv_of_nonneg (by omega)) ?_
                 | refine Mm.mk ?_
                 | (refine Br.mk (fun h => ?_) (fun h => ?_) <;> first | (exfalso; omega; done) | (exfalso; simp at h; done) | skip))
        conv => whnf
        refine CallVC.mk [1, 8, 9, 10] _ _ _ rfl rfl rfl (s42 m _ L' l') (fun r m' h' => ?_)
        obtain ⟨rfl, rfl⟩ := h'
        conv => whnf
        repeat' (conv => whnf
                 first
                 | refine Rng.ok (by simp only [inR]; omega) ?_
                 | refine Ob.mk (by first | omega | (simp; done) | decide | (simp; omega)) ?_
                 | refine Ob.mk (show eqOK _ _ = true from by kernel_rfl) ?_
                 | refine Ob.mk (show keyOK _ _ _ = true from by kernel_rfl) ?_
                 | refine Val.mk _ (shr_val (by simp; rfl)) ?_
                 | refine JoinVC.on ?_
                 | refine Nils.mk (fun h => ?_) ?_
                 | refine Val.mk _ (Int.tmod_eq_emod_of_nonneg (by omega)) ?_
                 | refine Val.mk _ (Int.tdiv_eq_ediv_of_nonneg (by omega)) ?_
                 | refine Mm.mk ?_
                 | (refine Br.mk (fun h => ?_) (fun h => ?_) <;> first | (exfalso; omega; done) | (exfalso; simp at h; done) | skip))
        · repeat refine Mm.mk ?_
          refine Ob.mk (by simp only [lx, eb, List.length_cons, List.length_nil]; omega) ?_
          repeat' (conv => whnf
                   first
                   | refine Rng.ok (by simp only [inR]; omega) ?_
                   | refine Ob.mk (by first | omega | (simp; done) | decide | (simp; omega)) ?_
                   | refine Ob.mk (show eqOK _ _ = true from by kernel_rfl) ?_
                   | refine Ob.mk (show keyOK _ _ _ = true from by kernel_rfl) ?_
                   | refine Val.mk _ (shr_val (by simp; rfl)) ?_
                   | refine JoinVC.on ?_
                   | refine Nils.mk (fun h => ?_) ?_
                   | refine Val.mk _ (Int.tmod_eq_emod_of_nonneg (by omega)) ?_
                   | refine Val.mk _ (Int.tdiv_eq_ediv_of_nonneg (by omega)) ?_
                   | refine Mm.mk ?_
                   | (refine Br.mk (fun h => ?_) (fun h => ?_) <;> first | (exfalso; omega; done) | (exfalso; simp at h; done) | skip))
          refine Back.mk (A.length - (i + 1)) _ (by omega) ⟨i + 1, _, L', l', xs ++ [rI A (i : Int).toNat (0 + 1), rI A (i : Int).toNat (0 + 1 + 1)], by omega, rfl, hI', hu, by simp only [List.length_append, List.length_cons, List.length_nil]; omega, rfl⟩ ?_
          refine ⟨[some 0, some 1, some 8, some 9, some 10, some 5, some 12, some 16], rfl, rfl, ?_, ?_⟩ <;> repeat' (first | exact trivial | exact rfl | exact Iff.rfl | apply And.intro)
          exact (i64s_app2 xs _ _).symm
        · refine Back.mk (A.length - (i + 1)) _ (by omega) ⟨i + 1, _, L', l', xs, by omega, rfl, hI', hu, by omega, rfl⟩ ?_
          refine ⟨[some 0, some 1, some 8, some 9, some 10, some 5, some 12, some 7], rfl, rfl, ?_, ?_⟩ <;> repeat' (first | exact trivial | exact rfl | exact Iff.rfl | apply And.intro)
      · exact absurd e e'
    · repeat' (conv => whnf
               first
               | refine Rng.ok (by simp only [inR]; omega) ?_
               | refine Ob.mk (by first | omega | (simp; done) | decide | (simp; omega)) ?_
               | refine Ob.mk (show eqOK _ _ = true from by kernel_rfl) ?_
               | refine Ob.mk (show keyOK _ _ _ = true from by kernel_rfl) ?_
               | refine Val.mk _ (shr_val (by simp; rfl)) ?_
               | refine JoinVC.on ?_
               | refine Nils.mk (fun h => ?_) ?_
               | refine Val.mk _ (Int.tmod_eq_emod_of_nonneg (by omega)) ?_
               | refine Val.mk _ (Int.tdiv_eq_ediv_of_nonneg (by omega)) ?_
               | refine Mm.mk ?_
               | (refine Br.mk (fun h => ?_) (fun h => ?_) <;> first | (exfalso; omega; done) | (exfalso; simp at h; done) | skip))
      conv => whnf
      refine CallVC.mk [5, 6] _ _ _ rfl rfl rfl (s44 m p L hI (rI A (i : Int).toNat 0) (rI A (i : Int).toNat 1) (rI A (i : Int).toNat 2)) (fun r m' h' => ?_)
      obtain ⟨e', _, _⟩ | ⟨e', rfl, rfl⟩ := h'
      · exact absurd e' e
      · conv => whnf
        repeat' (conv => whnf
                 first
                 | refine Rng.ok (by simp only [inR]; omega) ?_
                 | refine Ob.mk (by first | omega | (simp; done) | decide | (simp; omega)) ?_
                 | refine Ob.mk (show eqOK _ _ = true from by kernel_rfl) ?_
                 | refine Ob.mk (show keyOK _ _ _ = true from by kernel_rfl) ?_
                 | refine Val.mk _ (shr_val (by simp; rfl)) ?_
                 | refine JoinVC.on ?_
                 | refine Nils.mk (fun h => ?_) ?_
                 | refine Val.mk _ (Int.tmod_eq_emod_of_nonneg (by omega)) ?_
                 | refine Val.mk _ (Int.tdiv_eq_ediv_of_nonneg (by omega)) ?_
                 | refine Mm.mk ?_
                 | (refine Br.mk (fun h => ?_) (fun h => ?_) <;> first | (exfalso; omega; done) | (exfalso; simp at h; done) | skip))
        conv => whnf
        refine CallVC.mk [1, 2, 3, 4] _ _ _ rfl rfl rfl (s42 m _ L l) (fun r m' h' => ?_)
        obtain ⟨rfl, rfl⟩ := h'
        conv => whnf
        repeat' (conv => whnf
                 first
                 | refine Rng.ok (by simp only [inR]; omega) ?_
                 | refine Ob.mk (by first | omega | (simp; done) | decide | (simp; omega)) ?_
                 | refine Ob.mk (show eqOK _ _ = true from by kernel_rfl) ?_
                 | refine Ob.mk (show keyOK _ _ _ = true from by kernel_rfl) ?_
                 | refine Val.mk _ (shr_val (by simp; rfl)) ?_
                 | refine JoinVC.on ?_
                 | refine Nils.mk (fun h => ?_) ?_
                 | refine Val.mk _ (Int.tmod_eq_emod_of_nonneg (by omega)) ?_
                 | refine Val.mk _ (Int.tdiv_eq_ediv_of_nonneg (by omega)) ?_
                 | refine Mm.mk ?_
                 | (refine Br.mk (fun h => ?_) (fun h => ?_) <;> first | (exfalso; omega; done) | (exfalso; simp at h; done) | skip))
        · repeat refine Mm.mk ?_
          refine Ob.mk (by simp only [lx, eb, List.length_cons, List.length_nil]; omega) ?_
          repeat' (conv => whnf
                   first
                   | refine Rng.ok (by simp only [inR]; omega) ?_
                   | refine Ob.mk (by first | omega | (simp; done) | decide | (simp; omega)) ?_
                   | refine Ob.mk (show eqOK _ _ = true from by kernel_rfl) ?_
                   | refine Ob.mk (show keyOK _ _ _ = true from by kernel_rfl) ?_
                   | refine Val.mk _ (shr_val (by simp; rfl)) ?_
                   | refine JoinVC.on ?_
                   | refine Nils.mk (fun h => ?_) ?_
                   | refine Val.mk _ (Int.tmod_eq_emod_of_nonneg (by omega)) ?_
                   | refine Val.mk _ (Int.tdiv_eq_ediv_of_nonneg (by omega)) ?_
                   | refine Mm.mk ?_
                   | (refine Br.mk (fun h => ?_) (fun h => ?_) <;> first | (exfalso; omega; done) | (exfalso; simp at h; done) | skip))
          refine Back.mk (A.length - (i + 1)) _ (by omega) ⟨i + 1, _, L, l, xs ++ [rI A (i : Int).toNat (0 + 1), rI A (i : Int).toNat (0 + 1 + 1)], by omega, rfl, hI, hU, by simp only [List.length_append, List.length_cons, List.length_nil]; omega, rfl⟩ ?_
          refine ⟨[some 0, some 1, some 2, some 3, some 4, some 5, some 6, some 12], rfl, rfl, ?_, ?_⟩ <;> repeat' (first | exact trivial | exact rfl | exact Iff.rfl | apply And.intro)
          exact (i64s_app2 xs _ _).symm
        · refine Back.mk (A.length - (i + 1)) _ (by omega) ⟨i + 1, _, L, l, xs, by omega, rfl, hI, hU, by omega, rfl⟩ ?_
          refine ⟨[some 0, some 1, some 2, some 3, some 4, some 5, some 6, some 7], rfl, rfl, ?_, ?_⟩ <;> repeat' (first | exact trivial | exact rfl | exact Iff.rfl | apply And.intro)
  · repeat' (conv => whnf
             first
             | refine Rng.ok (by simp only [inR]; omega) ?_
             | refine Ob.mk (by first | omega | (simp; done) | decide | (simp; omega)) ?_
             | refine Ob.mk (show eqOK _ _ = true from by kernel_rfl) ?_
             | refine Ob.mk (show keyOK _ _ _ = true from by kernel_rfl) ?_
             | refine Val.mk _ (shr_val (by simp; rfl)) ?_
             | refine JoinVC.on ?_
             | refine Nils.mk (fun h => ?_) ?_
             | refine Val.mk _ (Int.tmod_eq_emod_of_nonneg (by omega)) ?_
             | refine Val.mk _ (Int.tdiv_eq_ediv_of_nonneg (by omega)) ?_
             | refine Mm.mk ?_
             | (refine Br.mk (fun h => ?_) (fun h => ?_) <;> first | (exfalso; omega; done) | (exfalso; simp at h; done) | skip))
    have hAl : A.length ≤ 60 := by omega
    repeat refine Mm.mk ?_
    refine Ob.mk (by simp only [lx, eb, List.length_cons, List.length_nil]; omega) ?_
    repeat' (conv => whnf
             first
             | refine Rng.ok (by simp only [inR]; omega) ?_
             | refine Ob.mk (by first | omega | (simp; done) | decide | (simp; omega)) ?_
             | refine Ob.mk (show eqOK _ _ = true from by kernel_rfl) ?_
             | refine Ob.mk (show keyOK _ _ _ = true from by kernel_rfl) ?_
             | refine Val.mk _ (shr_val (by simp; rfl)) ?_
             | refine JoinVC.on ?_
             | refine Nils.mk (fun h => ?_) ?_
             | refine Val.mk _ (Int.tmod_eq_emod_of_nonneg (by omega)) ?_
             | refine Val.mk _ (Int.tdiv_eq_ediv_of_nonneg (by omega)) ?_
             | refine Mm.mk ?_
             | (refine Br.mk (fun h => ?_) (fun h => ?_) <;> first | (exfalso; omega; done) | (exfalso; simp at h; done) | skip))
    have ha : i64s xs ++ [[Cell.int 0], [Cell.int 5]] = i64s (xs ++ [0, 5]) := (i64s_app2 xs 0 5).symm
    rw [ha]
    conv => whnf
    refine CallVC.mk [1, 2, 3, 4, 5, 6] _ _ _ rfl rfl rfl (s45 m p L l hI.len (xs ++ [0, 5]) (by simp only [List.length_append, List.length_cons, List.length_nil]; omega)) (fun r m' h' => ?_)
    obtain ⟨rfl, rfl⟩ := h'
    conv => whnf
    repeat' (conv => whnf
             first
             | refine Rng.ok (by simp only [inR]; omega) ?_
             | refine Ob.mk (by first | omega | (simp; done) | decide | (simp; omega)) ?_
             | refine Ob.mk (show eqOK _ _ = true from by kernel_rfl) ?_
             | refine Ob.mk (show keyOK _ _ _ = true from by kernel_rfl) ?_
             | refine Val.mk _ (shr_val (by simp; rfl)) ?_
             | refine JoinVC.on ?_
             | refine Nils.mk (fun h => ?_) ?_
             | refine Val.mk _ (Int.tmod_eq_emod_of_nonneg (by omega)) ?_
             | refine Val.mk _ (Int.tdiv_eq_ediv_of_nonneg (by omega)) ?_
             | refine Mm.mk ?_
             | refine CallVC.pure rfl (s22) ?_
             | refine CallVC0.pure rfl (s22) ?_
             | (refine Br.mk (fun h => ?_) (fun h => ?_) <;> first | (exfalso; omega; done) | (exfalso; simp at h; done) | skip))
    repeat refine Mm.mk ?_
    refine EndVC.mk _ rfl _ _ ⟨rfl, rfl⟩ ?_
    refine ⟨[], rfl, rfl, ?_, ?_⟩ <;> repeat' (first | exact trivial | exact rfl | exact Iff.rfl | apply And.intro)
end Go.Sx
