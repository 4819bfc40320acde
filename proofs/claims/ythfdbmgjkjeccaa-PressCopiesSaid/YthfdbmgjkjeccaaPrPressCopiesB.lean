import Derived.Test.YthfdbmgjkjeccaaPrPressCopiesA
namespace Go.Sx
open Go Go.Proofs
set_option maxRecDepth 10000
set_option maxHeartbeats 2000000
theorem e12 : EntersF Try.prog 12 := enters_of Try.func12 (c := bodyOf Try.f12) (by kernel_rfl) rfl
@[reducible] def K3a : List CK := [.int .i64, .int .i64, .int .i64]
@[reducible] def lActs (A : Arr) : XV := .one (.lst true K3a A)
@[reducible] def bM (m : Mac) : Blk := .box 23 [.int .i64 m.room, .int .i64 m.melt, .int .i64 m.cool, .int .i64 m.top, .int .i64 m.heat, .int .i64 m.chill, .int .i64 m.drift, .int .i64 m.hold, .int .i64 m.life]
theorem s12 (m : Mac) (A : Arr) : PSpec Try.prog 12 [m.x, lActs A] (xP True) := by
  refine spec_of pMix (O := []) Try.func12 (c := bodyOf Try.f12) rfl (by kernel_rfl) (by kernel_rfl) Try.ntmps12 (res := [.tmp 4]) (by kernel_rfl) ?_
  repeat' (conv => whnf
           first
           | refine Rng.ok (by simp only [inR]; omega) ?_
           | refine Ob.mk (by first | omega | (simp; done) | decide | (simp; omega)) ?_
           | refine Ob.mk (show eqOK _ _ = true from by kernel_rfl) ?_
           | refine Ob.mk (show keyOK _ _ _ = true from by kernel_rfl) ?_
           | refine Val.mk _ (shr_val (by simp; rfl)) ?_
           | refine JoinVC.on ?_
           | refine Nils.mk (fun h => ?_) ?_
           | refine Val.mk _ (Int.tmod_eq_emod_of_nonneg (by omega)) ?_
           | refine Val.mk _ (Int.tdiv_eq_ediv_of_nonneg (by omega)) ?_
           | refine Mm.mk ?_
           | (refine Br.mk (fun h => ?_) (fun h => ?_) <;> first | (exfalso; omega; done) | (exfalso; simp at h; done) | skip))
  conv => whnf
  refine CallVC.mk [] _ _ _ rfl rfl rfl (s39 m) (fun r m' h' => ?_)
  obtain ⟨hm, rfl, rfl⟩ | ⟨hm, rfl, rfl⟩ := h'
  · repeat' (conv => whnf
             first
             | refine Rng.ok (by simp only [inR]; omega) ?_
             | refine Ob.mk (by first | omega | (simp; done) | decide | (simp; omega)) ?_
             | refine Ob.mk (show eqOK _ _ = true from by kernel_rfl) ?_
             | refine Ob.mk (show keyOK _ _ _ = true from by kernel_rfl) ?_
             | refine Val.mk _ (shr_val (by simp; rfl)) ?_
             | refine JoinVC.on ?_
             | refine Nils.mk (fun h => ?_) ?_
             | refine Val.mk _ (Int.tmod_eq_emod_of_nonneg (by omega)) ?_
             | refine Val.mk _ (Int.tdiv_eq_ediv_of_nonneg (by omega)) ?_
             | refine Mm.mk ?_
             | refine CallVC.pure rfl (s22) ?_
             | refine CallVC0.pure rfl (s22) ?_
             | (refine Br.mk (fun h => ?_) (fun h => ?_) <;> first | (exfalso; omega; done) | (exfalso; simp at h; done) | skip))
    repeat refine Mm.mk ?_
    refine EndVC.mk _ rfl _ _ ⟨rfl, rfl⟩ ?_
    refine ⟨[], rfl, rfl, ?_, ?_⟩ <;> repeat' (first | exact trivial | exact rfl | exact Iff.rfl | apply And.intro)
  repeat' (conv => whnf
           first
           | refine Rng.ok (by simp only [inR]; omega) ?_
           | refine Ob.mk (by first | omega | (simp; done) | decide | (simp; omega)) ?_
           | refine Ob.mk (show eqOK _ _ = true from by kernel_rfl) ?_
           | refine Ob.mk (show keyOK _ _ _ = true from by kernel_rfl) ?_
           | refine Val.mk _ (shr_val (by simp; rfl)) ?_
           | refine JoinVC.on ?_
           | refine Nils.mk (fun h => ?_) ?_
           | refine Val.mk _ (Int.tmod_eq_emod_of_nonneg (by omega)) ?_
           | refine Val.mk _ (Int.tdiv_eq_ediv_of_nonneg (by omega)) ?_
           | refine Mm.mk ?_
           | refine CallVC.pure rfl (s22) ?_
           | refine CallVC0.pure rfl (s22) ?_
           | (refine Br.mk (fun h => ?_) (fun h => ?_) <;> first | (exfalso; omega; done) | (exfalso; simp at h; done) | skip))
  · repeat refine Mm.mk ?_
    refine EndVC.mk _ rfl _ _ ⟨rfl, rfl⟩ ?_
    refine ⟨[], rfl, rfl, ?_, ?_⟩ <;> repeat' (first | exact trivial | exact rfl | exact Iff.rfl | apply And.intro)
  conv => whnf
  refine CallVC.mk [1, 2, 3, 4] _ _ _ rfl rfl rfl (s42 m _ [] []) (fun r m' h' => ?_)
  obtain ⟨rfl, rfl⟩ := h'
  conv => whnf
  repeat' (conv => whnf
           first
           | refine Rng.ok (by simp only [inR]; omega) ?_
           | refine Ob.mk (by first | omega | (simp; done) | decide | (simp; omega)) ?_
           | refine Ob.mk (show eqOK _ _ = true from by kernel_rfl) ?_
           | refine Ob.mk (show keyOK _ _ _ = true from by kernel_rfl) ?_
           | refine Val.mk _ (shr_val (by simp; rfl)) ?_
           | refine JoinVC.on ?_
           | refine Nils.mk (fun h => ?_) ?_
           | refine Val.mk _ (Int.tmod_eq_emod_of_nonneg (by omega)) ?_
           | refine Val.mk _ (Int.tdiv_eq_ediv_of_nonneg (by omega)) ?_
           | refine Mm.mk ?_
           | (refine Br.mk (fun h => ?_) (fun h => ?_) <;> first | (exfalso; omega; done) | (exfalso; simp at h; done) | skip))
  refine LoopVC.mk (fun n st => ∃ (i : Nat) (p : Pst) (L : List Disc) (l : MapL), i ≤ A.length ∧ n = A.length - i ∧ PInv m p L ∧ UsedOK l L ∧ st = ⟨0, envA 154 [(1, .x (lActs A)), (2, .x (.one (.ptr 0 0))), (5, .x (.one (.ptr 1 0))), (7, .x (.one (.ptr 5 0))), (8, .int .i64 (i : Int))], [some (bM m), some (bP 2), some (bW 3 4 m p), some (dRow L), some (mpU l), some (bS p)]⟩) _ _ ⟨0, _, [], [], Nat.zero_le _, rfl, pinv_new hm, fun k => rfl, rfl⟩ ?_ ?_
  · refine ⟨[some 0, some 1, some 2, some 3, some 4, some 5], rfl, rfl, ?_, ?_⟩ <;> repeat' (first | exact trivial | exact rfl | exact Iff.rfl | apply And.intro)
  rintro n _ ⟨i, p, L, l, hi, hn, hI, hU, rfl⟩
  by_cases hi' : i < A.length
  · repeat' (conv => whnf
             first
             | refine Rng.ok (by simp only [inR]; omega) ?_
             | refine Ob.mk (by first | omega | (simp; done) | decide | (simp; omega)) ?_
             | refine Ob.mk (show eqOK _ _ = true from by kernel_rfl) ?_
             | refine Ob.mk (show keyOK _ _ _ = true from by kernel_rfl) ?_
             | refine Val.mk _ (shr_val (by simp; rfl)) ?_
             | refine JoinVC.on ?_
             | refine Nils.mk (fun h => ?_) ?_
             | refine Val.mk _ (Int.tmod_eq_emod_of_nonneg (by omega)) ?_
             | refine Val.mk _ (Int.tdiv_eq_ediv_of_nonneg (by omega)) ?_
             | refine Mm.mk ?_
             | (refine Br.mk (fun h => ?_) (fun h => ?_) <;> first | (exfalso; omega; done) | (exfalso; simp at h; done) | skip))
    conv => whnf
    refine CallVC.mk [1, 2, 3, 4] _ _ _ rfl rfl rfl (s41 m p L l hU hI (rI A (i : Int).toNat 0) (rI A (i : Int).toNat 1) (rI A (i : Int).toNat 2)) (fun r m' h' => ?_)
    obtain ⟨e, l', hu, rfl, rfl⟩ | ⟨e, rfl, rfl⟩ := h'
    · have hI' := pinv_next hI e
      have hN := next_mono hI e
      generalize outD m p L (rI A (i : Int).toNat 0) = d at *
      generalize nextP m p (rI A (i : Int).toNat 0) (rI A (i : Int).toNat 1) (rI A (i : Int).toNat 2) = q at *
      generalize nextL m p L (rI A (i : Int).toNat 0) = L' at *
      have hI2 := hI'
      obtain ⟨q1, q2, q3, q4, q5, q6, q7, q8, q9, q10, q11, q12, q13, q14, q15⟩ := hI2
      conv => whnf
      conv => whnf
      refine CallVC.mk [1, 6, 7, 8] _ _ _ rfl rfl rfl (s42 m _ L' l') (fun r m' h' => ?_)
      obtain ⟨rfl, rfl⟩ := h'
      conv => whnf
      clear q5 q6 q8 q9 q10 q12 q13 q14 q15
      rcases Bool.eq_false_or_eq_true q.cl with hqc | hqc <;> rcases Bool.eq_false_or_eq_true q.ld with hql | hql <;> rcases Bool.eq_false_or_eq_true p.cl with hpc | hpc <;> simp only [hqc, hql, hpc, Bool.false_eq_true, Bool.true_eq_false, false_implies, imp_false, forall_const, and_true] at hN q3 q4 q11
      all_goals try exact absurd trivial q4
      all_goals
        repeat' (conv => whnf
                 first
                 | refine Rng.ok (by simp only [inR]; omega) ?_
                 | refine Ob.mk (by first | omega | (simp; done) | decide | (simp; omega)) ?_
                 | refine Ob.mk (show eqOK _ _ = true from by kernel_rfl) ?_
                 | refine Ob.mk (show keyOK _ _ _ = true from by kernel_rfl) ?_
                 | refine Val.mk _ (shr_val (by simp; rfl)) ?_
                 | refine JoinVC.on ?_
                 | refine Nils.mk (fun h => ?_) ?_
                 | refine Val.mk _ (Int.tmod_eq_emod_of_nonneg (by omega)) ?_
                 | refine Val.mk _ (Int.tdiv_eq_ediv_of_nonneg (by omega)) ?_
                 | refine Mm.mk ?_
                 | (refine Br.mk (fun h => ?_) (fun h => ?_) <;> first | (exfalso; omega; done) | (exfalso; simp at h; done) | (exfalso; simp [hqc, hql, hpc] at h; done) | skip))
      all_goals
        refine Back.mk (A.length - (i + 1)) _ (by omega) ⟨i + 1, _, L', l', by omega, rfl, hI', hu, rfl⟩ ?_
        refine ⟨[some 0, some 1, some 6, some 7, some 8, some 5], rfl, rfl, ?_, ?_⟩ <;> repeat' (first | exact trivial | exact rfl | exact Iff.rfl | apply And.intro)
    · conv => whnf
      refine CallVC.mk [1, 2, 3, 4] _ _ _ rfl rfl rfl (s42 m p L l) (fun r m' h' => ?_)
      obtain ⟨rfl, rfl⟩ := h'
      conv => whnf
      have hI2 := hI
      obtain ⟨q1, q2, q3, q4, q5, q6, q7, q8, q9, q10, q11, q12, q13, q14, q15⟩ := hI2
      clear q5 q6 q8 q9 q10 q12 q13 q14 q15
      rcases Bool.eq_false_or_eq_true p.cl with hqc | hqc <;> rcases Bool.eq_false_or_eq_true p.ld with hql | hql <;> simp only [hqc, hql, Bool.false_eq_true, false_implies, imp_false, forall_const] at q3 q4 q11
      all_goals try exact absurd trivial q4
      all_goals
        repeat' (conv => whnf
                 first
                 | refine Rng.ok (by simp only [inR]; omega) ?_
                 | refine Ob.mk (by first | omega | (simp; done) | decide | (simp; omega)) ?_
                 | refine Ob.mk (show eqOK _ _ = true from by kernel_rfl) ?_
                 | refine Ob.mk (show keyOK _ _ _ = true from by kernel_rfl) ?_
                 | refine Val.mk _ (shr_val (by simp; rfl)) ?_
                 | refine JoinVC.on ?_
                 | refine Nils.mk (fun h => ?_) ?_
                 | refine Val.mk _ (Int.tmod_eq_emod_of_nonneg (by omega)) ?_
                 | refine Val.mk _ (Int.tdiv_eq_ediv_of_nonneg (by omega)) ?_
                 | refine Mm.mk ?_
                 | (refine Br.mk (fun h => ?_) (fun h => ?_) <;> first | (exfalso; omega; done) | (exfalso; simp at h; done) | (exfalso; simp [hqc, hql] at h; done) | skip))
      all_goals
        refine Back.mk (A.length - (i + 1)) _ (by omega) ⟨i + 1, _, L, l, by omega, rfl, hI, hU, rfl⟩ ?_
        refine ⟨[some 0, some 1, some 2, some 3, some 4, some 5], rfl, rfl, ?_, ?_⟩ <;> repeat' (first | exact trivial | exact rfl | exact Iff.rfl | apply And.intro)
  · repeat' (conv => whnf
             first
             | refine Rng.ok (by simp only [inR]; omega) ?_
             | refine Ob.mk (by first | omega | (simp; done) | decide | (simp; omega)) ?_
             | refine Ob.mk (show eqOK _ _ = true from by kernel_rfl) ?_
             | refine Ob.mk (show keyOK _ _ _ = true from by kernel_rfl) ?_
             | refine Val.mk _ (shr_val (by simp; rfl)) ?_
             | refine JoinVC.on ?_
             | refine Nils.mk (fun h => ?_) ?_
             | refine Val.mk _ (Int.tmod_eq_emod_of_nonneg (by omega)) ?_
             | refine Val.mk _ (Int.tdiv_eq_ediv_of_nonneg (by omega)) ?_
             | refine Mm.mk ?_
             | refine CallVC.pure rfl (s22) ?_
             | refine CallVC0.pure rfl (s22) ?_
             | (refine Br.mk (fun h => ?_) (fun h => ?_) <;> first | (exfalso; omega; done) | (exfalso; simp at h; done) | skip))
    repeat refine Mm.mk ?_
    refine EndVC.mk _ rfl _ _ ⟨rfl, rfl⟩ ?_
    refine ⟨[], rfl, rfl, ?_, ?_⟩ <;> repeat' (first | exact trivial | exact rfl | exact Iff.rfl | apply And.intro)
end Go.Sx

namespace Go.Sx
open Go Go.Proofs
set_option maxRecDepth 10000
set_option maxHeartbeats 4000000
theorem e40 : EntersF Try.prog 40 := enters_of Try.func40 (c := bodyOf Try.f40) (by kernel_rfl) rfl
theorem e11 : EntersF Try.prog 11 := enters_of Try.func11 (c := bodyOf Try.f11) (by kernel_rfl) rfl
theorem HSpec.mono {P : Program} {f : FuncId} {args : List XV} {m : List Blk} {Rs Rs' : AV → List (Option Blk) → Prop} (h : HSpec P f args m Rs) (hm : ∀ r m', Rs r m' → Rs' r m') : HSpec P f args m Rs' := by
  intro w R vs h1 h2
  have fin : ∀ (e : Ending) (w' : World), (∃ v r m' R', e = .returned v ∧ Rs r m' ∧ Fr w R (m.map some) w' R' m' ∧ RepA w' R' r v) → ∃ v r m' R', e = .returned v ∧ Rs' r m' ∧ Fr w R (m.map some) w' R' m' ∧ RepA w' R' r v := by
    rintro e w' ⟨v, r, m', R', g1, g2, g3, g4⟩
    exact ⟨v, r, m', R', g1, hm r m' g2, g3, g4⟩
  rcases h w R vs h1 h2 with ⟨q1, q2⟩ | ⟨v, w', q1, q2⟩
  · exact .inl ⟨q1, q2.mono fin⟩
  · exact .inr ⟨v, w', q1, fin _ _ q2⟩
/-- An act that is done. -/
theorem s41k {m : Mac} {p : Pst} {L : List Disc} {l : MapL} (hl : UsedOK l L) (hI : PInv m p L) {k a b : Int} (e : errD m p L k a b = 0) :
    HSpec Try.prog 41 [.one (.ptr 0 0), .agg [.int .i64 k, .int .i64 a, .int .i64 b]] [bP 1, bW 2 3 m p, dRow L, mpU l] (fun r m' => ∃ l', UsedOK l' (nextL m p L k) ∧ r = .tup [(outD m p L k).x, I 0] ∧ m' = [some (bP 4), none, none, none, some (bW 5 6 m (nextP m p k a b)), some (dRow (nextL m p L k)), some (mpU l')]) :=
  (s41 m p L l hl hI k a b).mono fun _ _ h => h.elim (fun h => h.2) (fun h => absurd e h.1)
/-- A press with two stampers, loaded and closed. -/
@[reducible] def begun (p : Pst) (a b : Int) : Pst := { p with a := a, b := b, ld := true, cl := true, h := 0, pk := p.t }
theorem begin_ok {m : Mac} {p : Pst} (hI : PInv m p []) (h1 : p.cl = false) (h2 : p.ld = false) {a b : Int} (ha : 1 ≤ a ∧ a ≤ 1073741824) (hb : 1 ≤ b ∧ b ≤ 1073741824) (hab : a ≠ b) :
    errD m p [] 1 a b = 0 ∧ errD m { p with a := a, b := b } [] 2 0 0 = 0 ∧ errD m { p with a := a, b := b, ld := true } [] 3 0 0 = 0 := by
  have hl := hI.ok.2.2.2.2.2.2.2.2.2.2.2.2.2.1
  have ho : ∀ a b, ¬ oldP m [] a b := fun a b => by unfold oldP; simp [useC]; omega
  refine ⟨?_, ?_, ?_⟩
  · rw [errD1, if_neg (by unfold outN; omega), if_neg hab, if_neg (by rw [h1]; decide), if_neg (by rw [h2]; decide), if_neg (ho _ _)]
  · rw [errD2, if_neg (by rw [h1]; decide), if_neg (by simp only [h2]; intro h; rcases h with h | h; cases h; omega), if_neg (ho _ _), if_neg (by decide)]
  · rw [errD3, if_neg (by simp only [h1]; simp)]
theorem s40 (m : Mac) (p : Pst) (l : MapL) (hU : UsedOK l []) (hI : PInv m p []) (h1 : p.cl = false) (h2 : p.ld = false) (a b : Int) (ha : 1 ≤ a ∧ a ≤ 1073741824) (hb : 1 ≤ b ∧ b ≤ 1073741824) (hab : a ≠ b) :
    HSpec Try.prog 40 [.one (.ptr 0 0), I a, I b] (mP m p [] l) (fun r m' => ∃ l', UsedOK l' [] ∧ PInv m (begun p a b) [] ∧ r = xP True ∧ m' = [some (bP 4), none, none, none, some (bW 5 6 m (begun p a b)), some (dRow []), some (mpU l')]) := by
  obtain ⟨e1, e2, e3⟩ := begin_ok hI h1 h2 ha hb hab
  have i1 : PInv m { p with a := a, b := b } [] := pinv_next hI e1
  have i2 : PInv m { p with a := a, b := b, ld := true } [] := pinv_next i1 e2
  have i3 : PInv m (begun p a b) [] := pinv_next i2 e3
  refine spec_of pMix (O := []) Try.func40 (c := bodyOf Try.f40) rfl (by kernel_rfl) (by kernel_rfl) Try.ntmps40 (res := [.tmp 6]) (by kernel_rfl) ?_
  repeat' (conv => whnf
           first
           | refine Rng.ok (by simp only [inR]; omega) ?_
           | refine Ob.mk (by first | omega | (simp; done) | decide | (simp; omega)) ?_
           | refine Ob.mk (show eqOK _ _ = true from by kernel_rfl) ?_
           | refine Ob.mk (show keyOK _ _ _ = true from by kernel_rfl) ?_
           | refine Val.mk _ (shr_val (by simp; rfl)) ?_
           | refine JoinVC.on ?_
           | refine Nils.mk (fun h => ?_) ?_
           | refine Val.mk _ (Int.tmod_eq_emod_of_nonneg (by omega)) ?_
           | refine Val.mk _ (Int.tdiv_eq_ediv_of_nonneg (by omega)) ?_
           | refine Mm.mk ?_
           | (refine Br.mk (fun h => ?_) (fun h => ?_) <;> first | (exfalso; omega; done) | (exfalso; simp at h; done) | skip))
  conv => whnf
  refine CallVC.mk [0, 1, 2, 3] _ _ _ rfl rfl rfl (s41k hU hI e1) (fun r m' h' => ?_)
  obtain ⟨l1, u1, rfl, rfl⟩ := h'
  conv => whnf
  repeat' (conv => whnf
           first
           | refine Rng.ok (by simp only [inR]; omega) ?_
           | refine Ob.mk (by first | omega | (simp; done) | decide | (simp; omega)) ?_
           | refine Ob.mk (show eqOK _ _ = true from by kernel_rfl) ?_
           | refine Ob.mk (show keyOK _ _ _ = true from by kernel_rfl) ?_
           | refine Val.mk _ (shr_val (by simp; rfl)) ?_
           | refine JoinVC.on ?_
           | refine Nils.mk (fun h => ?_) ?_
           | refine Val.mk _ (Int.tmod_eq_emod_of_nonneg (by omega)) ?_
           | refine Val.mk _ (Int.tdiv_eq_ediv_of_nonneg (by omega)) ?_
           | refine Mm.mk ?_
           | (refine Br.mk (fun h => ?_) (fun h => ?_) <;> first | (exfalso; omega; done) | (exfalso; simp at h; done) | skip))
  conv => whnf
  refine CallVC.mk [0, 4, 5, 6] _ _ _ rfl rfl rfl (s41k (p := { p with a := a, b := b }) u1 i1 e2) (fun r m' h' => ?_)
  obtain ⟨l2, u2, rfl, rfl⟩ := h'
  conv => whnf
  repeat' (conv => whnf
           first
           | refine Rng.ok (by simp only [inR]; omega) ?_
           | refine Ob.mk (by first | omega | (simp; done) | decide | (simp; omega)) ?_
           | refine Ob.mk (show eqOK _ _ = true from by kernel_rfl) ?_
           | refine Ob.mk (show keyOK _ _ _ = true from by kernel_rfl) ?_
           | refine Val.mk _ (shr_val (by simp; rfl)) ?_
           | refine JoinVC.on ?_
           | refine Nils.mk (fun h => ?_) ?_
           | refine Val.mk _ (Int.tmod_eq_emod_of_nonneg (by omega)) ?_
           | refine Val.mk _ (Int.tdiv_eq_ediv_of_nonneg (by omega)) ?_
           | refine Mm.mk ?_
           | (refine Br.mk (fun h => ?_) (fun h => ?_) <;> first | (exfalso; omega; done) | (exfalso; simp at h; done) | skip))
  conv => whnf
  refine CallVC.mk [0, 8, 9, 10] _ _ _ rfl rfl rfl (s41k (p := { p with a := a, b := b, ld := true }) u2 i2 e3) (fun r m' h' => ?_)
  obtain ⟨l3, u3, rfl, rfl⟩ := h'
  conv => whnf
  repeat' (conv => whnf
           first
           | refine Rng.ok (by simp only [inR]; omega) ?_
           | refine Ob.mk (by first | omega | (simp; done) | decide | (simp; omega)) ?_
           | refine Ob.mk (show eqOK _ _ = true from by kernel_rfl) ?_
           | refine Ob.mk (show keyOK _ _ _ = true from by kernel_rfl) ?_
           | refine Val.mk _ (shr_val (by simp; rfl)) ?_
           | refine JoinVC.on ?_
           | refine Nils.mk (fun h => ?_) ?_
           | refine Val.mk _ (Int.tmod_eq_emod_of_nonneg (by omega)) ?_
           | refine Val.mk _ (Int.tdiv_eq_ediv_of_nonneg (by omega)) ?_
           | refine Mm.mk ?_
           | (refine Br.mk (fun h => ?_) (fun h => ?_) <;> first | (exfalso; omega; done) | (exfalso; simp at h; done) | skip))
  repeat refine Mm.mk ?_
  conv => whnf
  refine EndVC.mk _ rfl _ _ (⟨l3, u3, i3, rfl, rfl⟩) ?_
  refine ⟨[some 0, none, none, none, some 12, some 13, some 14], rfl, rfl, ?_, ?_⟩ <;> repeat' (first | exact trivial | exact rfl | exact Iff.rfl | apply And.intro)
  change _ ↔ _
  simp
@[reducible] def lU (xs : List Int) : XV := .one (.lst true [.int .u8] (i64s xs))
/-- A press that was begun, after some ticks. -/
structure GInv (m : Mac) (q : Pst) : Prop where
  inv : PInv m q []
  cl : q.cl = true
  good : 1 ≤ q.h → m.melt ≤ q.pk
theorem GInv.valve {m : Mac} {q : Pst} (h : GInv m q) {v : Int} (hv : 0 ≤ v ∧ v ≤ 2) : errD m q [] 4 v 0 = 0 ∧ GInv m { q with v := v } := by
  have e : errD m q [] 4 v 0 = 0 := by rw [errD4, if_neg (by omega), if_neg (fun g => g.2 h.cl)]
  exact ⟨e, pinv_next h.inv e, h.cl, h.good⟩
theorem GInv.step {m : Mac} {q : Pst} (n : Nat) (hcl : q.cl = true) (hg : 1 ≤ q.h → m.melt ≤ q.pk) : ((waitS m n q).cl = true) ∧ (1 ≤ (waitS m n q).h → m.melt ≤ (waitS m n q).pk) := by
  induction n with
  | zero => exact ⟨hcl, hg⟩
  | succ n ih =>
    refine ⟨ih.1, fun h => ?_⟩
    simp only [waitS, tickS, ih.1, if_true, true_and] at h ⊢
    by_cases h1 : m.melt ≤ tickF m (waitS m n q).t (waitS m n q).v
    · omega
    · rw [if_neg h1] at h
      have := ih.2 h
      omega
theorem GInv.wait {m : Mac} {q : Pst} (h : GInv m q) {n : Int} (hn : 1 ≤ n ∧ n ≤ 1000) (ht : q.tm + n ≤ 1073741824) : errD m q [] 5 n 0 = 0 ∧ GInv m (nextP m q 5 n 0) := by
  have e : errD m q [] 5 n 0 = 0 := by rw [errD5, if_neg (by omega), if_neg (by omega)]
  have g := GInv.step (m := m) (q := { q with tm := q.tm + n }) n.toNat h.cl h.good
  exact ⟨e, pinv_next h.inv e, g.1, g.2⟩
theorem s18k {m : Mac} (hm : m.ok) {T v : Int} (ht : m.room ≤ T ∧ T ≤ m.top) (hv : 0 ≤ v ∧ v ≤ 2) : PSpec Try.prog 18 [m.x, I T, I v] (.tup [I (tickF m T v), I 0]) := by
  have h := s18 m T v
  obtain ⟨h1, h2⟩ := tick_in (m := m) (t := T) (v := v) (by rw [Mac.chk0 hm]; decide) (by unfold inTick; omega)
  rw [← h1, ← h2] at h
  exact h
theorem s11 (m : Mac) (xs ys : List Int) (hx : ∀ j, 0 ≤ xs.getD j 0 ∧ xs.getD j 0 ≤ 255) (hy : ∀ j, 0 ≤ ys.getD j 0 ∧ ys.getD j 0 ≤ 255) : PSpec Try.prog 11 [m.x, lU xs, lU ys] (xP True) := by
  have lx := i64s_len xs
  have ly := i64s_len ys
  by_cases hm : m.ok
  rotate_left
  · have hc := Mac.chk2 hm
    refine spec_of pMix (O := []) Try.func11 (c := bodyOf Try.f11) rfl (by kernel_rfl) (by kernel_rfl) Try.ntmps11 (res := [.tmp 6]) (by kernel_rfl) ?_
    repeat' (conv => whnf
             first
             | refine Rng.ok (by simp only [inR]; omega) ?_
             | refine Ob.mk (by first | omega | (simp; done) | decide | (simp; omega)) ?_
             | refine Ob.mk (show eqOK _ _ = true from by kernel_rfl) ?_
             | refine Ob.mk (show keyOK _ _ _ = true from by kernel_rfl) ?_
             | refine Val.mk _ (shr_val (by simp; rfl)) ?_
             | refine JoinVC.on ?_
             | refine Nils.mk (fun h => ?_) ?_
             | refine Val.mk _ (Int.tmod_eq_emod_of_nonneg (by omega)) ?_
             | refine Val.mk _ (Int.tdiv_eq_ediv_of_nonneg (by omega)) ?_
             | refine Mm.mk ?_
             | refine CallVC.pure rfl (s21 m) ?_
             | refine CallVC.pure rfl (s22) ?_
             | refine CallVC0.pure rfl (s21 m) ?_
             | refine CallVC0.pure rfl (s22) ?_
             | (refine Br.mk (fun h => ?_) (fun h => ?_) <;> first | (exfalso; omega; done) | (exfalso; simp at h; done) | skip))
    repeat refine Mm.mk ?_
    refine EndVC.mk _ rfl _ _ ⟨rfl, rfl⟩ ?_
    refine ⟨[], rfl, rfl, ?_, ?_⟩ <;> repeat' (first | exact trivial | exact rfl | exact Iff.rfl | apply And.intro)
  have hc := Mac.chk0 hm
  refine spec_of pMix (O := []) Try.func11 (c := bodyOf Try.f11) rfl (by kernel_rfl) (by kernel_rfl) Try.ntmps11 (res := [.tmp 6]) (by kernel_rfl) ?_
  repeat' (conv => whnf
           first
           | refine Rng.ok (by simp only [inR]; omega) ?_
           | refine Ob.mk (by first | omega | (simp; done) | decide | (simp; omega)) ?_
           | refine Ob.mk (show eqOK _ _ = true from by kernel_rfl) ?_
           | refine Ob.mk (show keyOK _ _ _ = true from by kernel_rfl) ?_
           | refine Val.mk _ (shr_val (by simp; rfl)) ?_
           | refine JoinVC.on ?_
           | refine Nils.mk (fun h => ?_) ?_
           | refine Val.mk _ (Int.tmod_eq_emod_of_nonneg (by omega)) ?_
           | refine Val.mk _ (Int.tdiv_eq_ediv_of_nonneg (by omega)) ?_
           | refine Mm.mk ?_
           | refine CallVC.pure rfl (s21 m) ?_
           | refine CallVC.pure rfl (s22) ?_
           | refine CallVC0.pure rfl (s21 m) ?_
           | refine CallVC0.pure rfl (s22) ?_
           | (refine Br.mk (fun h => ?_) (fun h => ?_) <;> first | (exfalso; omega; done) | (exfalso; simp at h; done) | skip))
  · repeat refine Mm.mk ?_
    refine EndVC.mk _ rfl _ _ ⟨rfl, rfl⟩ ?_
    refine ⟨[], rfl, rfl, ?_, ?_⟩ <;> repeat' (first | exact trivial | exact rfl | exact Iff.rfl | apply And.intro)
  conv => whnf
  refine CallVC.mk [] _ _ _ rfl rfl rfl (s39 m) (fun r m' h' => ?_)
  obtain ⟨hm', rfl, rfl⟩ | ⟨_, rfl, rfl⟩ := h'
  · exact absurd hm hm'
  repeat' (conv => whnf
           first
           | refine Rng.ok (by simp only [inR]; omega) ?_
           | refine Ob.mk (by first | omega | (simp; done) | decide | (simp; omega)) ?_
           | refine Ob.mk (show eqOK _ _ = true from by kernel_rfl) ?_
           | refine Ob.mk (show keyOK _ _ _ = true from by kernel_rfl) ?_
           | refine Val.mk _ (shr_val (by simp; rfl)) ?_
           | refine JoinVC.on ?_
           | refine Nils.mk (fun h => ?_) ?_
           | refine Val.mk _ (Int.tmod_eq_emod_of_nonneg (by omega)) ?_
           | refine Val.mk _ (Int.tdiv_eq_ediv_of_nonneg (by omega)) ?_
           | refine Mm.mk ?_
           | (refine Br.mk (fun h => ?_) (fun h => ?_) <;> first | (exfalso; omega; done) | (exfalso; simp at h; done) | skip))
  conv => whnf
  refine CallVC.mk [1, 2, 3, 4] _ _ _ rfl rfl rfl (s40 m _ [] (fun k => rfl) (pinv_new hm) rfl rfl 1 2 (by decide) (by decide) (by decide)) (fun r m' h' => ?_)
  obtain ⟨l1, u1, i1, rfl, rfl⟩ := h'
  conv => whnf
  repeat' (conv => whnf
           first
           | refine Rng.ok (by simp only [inR]; omega) ?_
           | refine Ob.mk (by first | omega | (simp; done) | decide | (simp; omega)) ?_
           | refine Ob.mk (show eqOK _ _ = true from by kernel_rfl) ?_
           | refine Ob.mk (show keyOK _ _ _ = true from by kernel_rfl) ?_
           | refine Val.mk _ (shr_val (by simp; rfl)) ?_
           | refine JoinVC.on ?_
           | refine Nils.mk (fun h => ?_) ?_
           | refine Val.mk _ (Int.tmod_eq_emod_of_nonneg (by omega)) ?_
           | refine Val.mk _ (Int.tdiv_eq_ediv_of_nonneg (by omega)) ?_
           | refine Mm.mk ?_
           | (refine Br.mk (fun h => ?_) (fun h => ?_) <;> first | (exfalso; omega; done) | (exfalso; simp at h; done) | skip))
  have g0 : GInv m (begun ⟨false, false, 0, m.room, 0, 0, 0, 0, 0⟩ 1 2) := ⟨i1, rfl, fun h => by simp at h⟩
  refine LoopVC.mk (fun n st => ∃ (i : Nat) (q : Pst) (l : MapL), i ≤ xs.length ∧ n = xs.length - i ∧ GInv m q ∧ UsedOK l [] ∧ q.tm ≤ 60 * i ∧ st = ⟨0, envA 186 [(1, .x (lU xs)), (2, .x (lU ys)), (3, .x (.one (.ptr 0 0))), (7, .x (.one (.ptr 1 0))), (9, .int .i64 q.t), (10, .int .i64 q.pk), (11, .int .i64 q.h), (12, .int .i64 (i : Int))], [some (bM m), some (bP 2), some (bW 3 4 m q), some (dRow []), some (mpU l)]⟩) _ _ ⟨0, _, l1, Nat.zero_le _, rfl, g0, u1, by simp, rfl⟩ ?_ ?_
  · refine ⟨[some 0, some 1, some 5, some 6, some 7], rfl, rfl, ?_, ?_⟩ <;> repeat' (first | exact trivial | exact rfl | exact Iff.rfl | apply And.intro)
  rintro n _ ⟨i, q, l, hi, hn, hG, hU, htm, rfl⟩
  have gx : rI (i64s xs) (i : Int).toNat 0 = xs.getD i 0 := by rw [Int.toNat_natCast, i64s_get]
  have gy : rI (i64s ys) (i : Int).toNat 0 = ys.getD i 0 := by rw [Int.toNat_natCast, i64s_get]
  have bx := hx i
  have by' := hy i
  by_cases hi' : i < xs.length
  · repeat' (conv => whnf
             first
             | refine Rng.ok (by simp only [inR]; omega) ?_
             | refine Ob.mk (by first | omega | (simp; done) | decide | (simp; omega)) ?_
             | refine Ob.mk (show eqOK _ _ = true from by kernel_rfl) ?_
             | refine Ob.mk (show keyOK _ _ _ = true from by kernel_rfl) ?_
             | refine Val.mk _ (shr_val (by simp; rfl)) ?_
             | refine Nils.mk (fun h => ?_) ?_
             | refine Val.mk _ (Int.tmod_eq_emod_of_nonneg (by omega)) ?_
             | refine Val.mk _ (Int.tdiv_eq_ediv_of_nonneg (by omega)) ?_
             | refine Mm.mk ?_
             | (refine Br.mk (fun h => ?_) (fun h => ?_) <;> first | (exfalso; omega; done) | (exfalso; simp at h; done) | skip))
    obtain ⟨v, hv⟩ : ∃ v, v = rI (i64s xs) (i : Int).toNat 0 % 3 := ⟨_, rfl⟩
    rw [← hv]
    have bv : 0 ≤ v ∧ v ≤ 2 := by omega
    clear hv
    refine JoinVC.cut (fun s => ∃ N : Int, 1 ≤ N ∧ N ≤ 60 ∧ s = ⟨0, envA 186 [(1, .x (lU xs)), (2, .x (lU ys)), (3, .x (.one (.ptr 0 0))), (7, .x (.one (.ptr 1 0))), (9, .int .i64 q.t), (10, .int .i64 q.pk), (11, .int .i64 q.h), (12, .int .i64 (i : Int)), (13, .int .i64 v), (14, .int .i64 N)], [some (bM m), some (bP 2), some (bW 3 4 m q), some (dRow []), some (mpU l)]⟩) ?_ ?_
    · repeat' (conv => whnf
               first
               | refine Rng.ok (by simp only [inR]; omega) ?_
               | refine Ob.mk (by first | omega | (simp; done) | decide | (simp; omega)) ?_
               | refine Ob.mk (show eqOK _ _ = true from by kernel_rfl) ?_
               | refine Ob.mk (show keyOK _ _ _ = true from by kernel_rfl) ?_
               | refine Val.mk _ (shr_val (by simp; rfl)) ?_
               | refine JoinVC.on ?_
               | refine Nils.mk (fun h => ?_) ?_
               | refine Val.mk _ (Int.tmod_eq_emod_of_nonneg (by omega)) ?_
               | refine Val.mk _ (Int.tdiv_eq_ediv_of_nonneg (by omega)) ?_
               | refine Mm.mk ?_
               | (refine Br.mk (fun h => ?_) (fun h => ?_) <;> first | (exfalso; omega; done) | (exfalso; simp at h; done) | skip))
      · refine Meet.mk _ ⟨1 + rI (i64s ys) (i : Int).toNat 0 % 60, by omega, by omega, rfl⟩ ?_
        refine ⟨[some 0, some 1, some 2, some 3, some 4], rfl, rfl, ?_, ?_⟩ <;> repeat' (first | exact trivial | exact rfl | exact Iff.rfl | apply And.intro)
      · refine Meet.mk _ ⟨1, by omega, by omega, rfl⟩ ?_
        refine ⟨[some 0, some 1, some 2, some 3, some 4], rfl, rfl, ?_, ?_⟩ <;> repeat' (first | exact trivial | exact rfl | exact Iff.rfl | apply And.intro)
    rintro _ ⟨N, n1, n2, rfl⟩
    obtain ⟨e1, G1⟩ := hG.valve bv
    obtain ⟨e2, G2⟩ := G1.wait (n := N) ⟨n1, by omega⟩ (by simp only; omega)
    repeat' (conv => whnf
             first
             | refine Rng.ok (by simp only [inR]; omega) ?_
             | refine Ob.mk (by first | omega | (simp; done) | decide | (simp; omega)) ?_
             | refine Ob.mk (show eqOK _ _ = true from by kernel_rfl) ?_
             | refine Ob.mk (show keyOK _ _ _ = true from by kernel_rfl) ?_
             | refine Val.mk _ (shr_val (by simp; rfl)) ?_
             | refine JoinVC.on ?_
             | refine Nils.mk (fun h => ?_) ?_
             | refine Val.mk _ (Int.tmod_eq_emod_of_nonneg (by omega)) ?_
             | refine Val.mk _ (Int.tdiv_eq_ediv_of_nonneg (by omega)) ?_
             | refine Mm.mk ?_
             | (refine Br.mk (fun h => ?_) (fun h => ?_) <;> first | (exfalso; omega; done) | (exfalso; simp at h; done) | skip))
    conv => whnf
    refine CallVC.mk [1, 2, 3, 4] _ _ _ rfl rfl rfl (s41k hU hG.inv e1) (fun r m' h' => ?_)
    obtain ⟨l1, u1, rfl, rfl⟩ := h'
    conv => whnf
    repeat' (conv => whnf
             first
             | refine Rng.ok (by simp only [inR]; omega) ?_
             | refine Ob.mk (by first | omega | (simp; done) | decide | (simp; omega)) ?_
             | refine Ob.mk (show eqOK _ _ = true from by kernel_rfl) ?_
             | refine Ob.mk (show keyOK _ _ _ = true from by kernel_rfl) ?_
             | refine Val.mk _ (shr_val (by simp; rfl)) ?_
             | refine JoinVC.on ?_
             | refine Nils.mk (fun h => ?_) ?_
             | refine Val.mk _ (Int.tmod_eq_emod_of_nonneg (by omega)) ?_
             | refine Val.mk _ (Int.tdiv_eq_ediv_of_nonneg (by omega)) ?_
             | refine Mm.mk ?_
             | (refine Br.mk (fun h => ?_) (fun h => ?_) <;> first | (exfalso; omega; done) | (exfalso; simp at h; done) | skip))
    conv => whnf
    refine CallVC.mk [1, 5, 6, 7] _ _ _ rfl rfl rfl (s41k (p := { q with v := v }) u1 G1.inv e2) (fun r m' h' => ?_)
    obtain ⟨l2, u2, rfl, rfl⟩ := h'
    conv => whnf
    repeat' (conv => whnf
             first
             | refine Rng.ok (by simp only [inR]; omega) ?_
             | refine Ob.mk (by first | omega | (simp; done) | decide | (simp; omega)) ?_
             | refine Ob.mk (show eqOK _ _ = true from by kernel_rfl) ?_
             | refine Ob.mk (show keyOK _ _ _ = true from by kernel_rfl) ?_
             | refine Val.mk _ (shr_val (by simp; rfl)) ?_
             | refine JoinVC.on ?_
             | refine Nils.mk (fun h => ?_) ?_
             | refine Val.mk _ (Int.tmod_eq_emod_of_nonneg (by omega)) ?_
             | refine Val.mk _ (Int.tdiv_eq_ediv_of_nonneg (by omega)) ?_
             | refine Mm.mk ?_
             | (refine Br.mk (fun h => ?_) (fun h => ?_) <;> first | (exfalso; omega; done) | (exfalso; simp at h; done) | skip))
    obtain ⟨f, hf⟩ : ∃ f : Pst, f = { q with v := v, tm := q.tm + N } := ⟨_, rfl⟩
    have hnx : nextP m { q with v := v } 5 N 0 = waitS m N.toNat f := by rw [hf]; rfl
    have G2' : GInv m (waitS m N.toNat f) := by rw [← hnx]; exact G2
    have hft : f.t = q.t ∧ f.h = q.h ∧ f.pk = q.pk ∧ f.cl = true ∧ f.v = v ∧ f.tm = q.tm + N := by rw [hf]; exact ⟨rfl, rfl, rfl, hG.cl, rfl, rfl⟩
    have hnl : nextL m { q with v := v } (nextL m q [] 4) 5 = [] := rfl
    rw [hnx, hnl]
    refine LoopVC.mk (fun n st => ∃ k : Nat, (k : Int) ≤ N ∧ n = N.toNat - k ∧ st = ⟨0, envA 186 [(1, .x (lU xs)), (2, .x (lU ys)), (3, .x (.one (.ptr 0 0))), (7, .x (.one (.ptr 1 0))), (9, .int .i64 (waitS m k f).t), (10, .int .i64 (waitS m k f).pk), (11, .int .i64 (waitS m k f).h), (12, .int .i64 (i : Int)), (13, .int .i64 v), (14, .int .i64 N), (19, .int .i64 (k : Int))], [some (bM m), some (bP 2), some (bW 3 4 m (waitS m N.toNat f)), some (dRow []), some (mpU l2)]⟩) _ _ ⟨0, by omega, rfl, rfl⟩ ?_ ?_
    · refine ⟨[some 0, some 1, some 9, some 10, some 11], rfl, rfl, ?_, ?_⟩ <;> repeat' (first | exact trivial | exact rfl | exact Iff.rfl | apply And.intro)
      · exact hft.1.symm
      · exact hft.2.2.1.symm
      · exact hft.2.1.symm
    rintro n _ ⟨k, hk, hn, rfl⟩
    have hW := waitK hm (p := f) (by rw [hft.1]; exact hG.inv.t) k
    have hS := GInv.step (m := m) (q := f) k hft.2.2.2.1 (by rw [hft.2.1, hft.2.2.1]; exact hG.good)
    have hh := hG.inv.h
    have h1 := hW.h
    have h2 := hW.pk
    have h3 := hW.v
    rw [hft.2.2.2.2.1] at h3
    have h4 := hft.2.1
    have h5 := hft.2.2.1
    have hT := tickF_bd hm (v := v) hW.t
    by_cases hk' : (k : Int) < N
    · have hq1 : waitS m (k + 1) f = tickS m (waitS m k f) := rfl
      have t1 : (tickS m (waitS m k f)).t = tickF m (waitS m k f).t v := by simp only [tickS, h3]
      have t2 : (tickS m (waitS m k f)).pk = max (waitS m k f).pk (tickF m (waitS m k f).t v) := by simp only [tickS, h3, hS.1, if_true]
      have t3 : (tickS m (waitS m k f)).h = if m.melt ≤ tickF m (waitS m k f).t v then (waitS m k f).h + 1 else (waitS m k f).h := by simp only [tickS, h3, hS.1, true_and]
      repeat' (conv => whnf
               first
               | refine Rng.ok (by simp only [inR]; omega) ?_
               | refine Ob.mk (by first | omega | (simp; done) | decide | (simp; omega)) ?_
               | refine Ob.mk (show eqOK _ _ = true from by kernel_rfl) ?_
               | refine Ob.mk (show keyOK _ _ _ = true from by kernel_rfl) ?_
               | refine Val.mk _ (shr_val (by simp; rfl)) ?_
               | refine JoinVC.on ?_
               | refine Nils.mk (fun h => ?_) ?_
               | refine Val.mk _ (Int.tmod_eq_emod_of_nonneg (by omega)) ?_
               | refine Val.mk _ (Int.tdiv_eq_ediv_of_nonneg (by omega)) ?_
               | refine Mm.mk ?_
               | refine CallVC.pure rfl (s18k hm hW.t bv) ?_
               | refine CallVC0.pure rfl (s18k hm hW.t bv) ?_
               | (refine Br.mk (fun h => ?_) (fun h => ?_) <;> first | (exfalso; omega; done) | (exfalso; simp at h; done) | skip))
      · refine Back.mk (N.toNat - (k + 1)) _ (by omega) ⟨k + 1, by omega, rfl, rfl⟩ ?_
        rw [hq1, t1, t2, t3]
        refine ⟨[some 0, some 1, some 2, some 3, some 4], rfl, rfl, ?_, ?_⟩ <;> repeat' (first | exact trivial | exact rfl | exact Iff.rfl | apply And.intro)
        all_goals (split <;> omega)
      · refine Back.mk (N.toNat - (k + 1)) _ (by omega) ⟨k + 1, by omega, rfl, rfl⟩ ?_
        rw [hq1, t1, t2, t3]
        refine ⟨[some 0, some 1, some 2, some 3, some 4], rfl, rfl, ?_, ?_⟩ <;> repeat' (first | exact trivial | exact rfl | exact Iff.rfl | apply And.intro)
        all_goals (split <;> omega)
    · have hkN : k = N.toNat := by omega
      subst hkN
      have h6 := hW.tm
      rw [hft.2.2.2.2.2] at h6
      repeat' (conv => whnf
               first
               | refine Rng.ok (by simp only [inR]; omega) ?_
               | refine Ob.mk (by first | omega | (simp; done) | decide | (simp; omega)) ?_
               | refine Ob.mk (show eqOK _ _ = true from by kernel_rfl) ?_
               | refine Ob.mk (show keyOK _ _ _ = true from by kernel_rfl) ?_
               | refine Val.mk _ (shr_val (by simp; rfl)) ?_
               | refine JoinVC.on ?_
               | refine Nils.mk (fun h => ?_) ?_
               | refine Val.mk _ (Int.tmod_eq_emod_of_nonneg (by omega)) ?_
               | refine Val.mk _ (Int.tdiv_eq_ediv_of_nonneg (by omega)) ?_
               | refine Mm.mk ?_
               | (refine Br.mk (fun h => ?_) (fun h => ?_) <;> first | (exfalso; omega; done) | (exfalso; simp at h; done) | skip))
      refine Back.mk (xs.length - (i + 1)) _ (by omega) ⟨i + 1, _, l2, by omega, rfl, G2', u2, by omega, rfl⟩ ?_
      refine ⟨[some 0, some 1, some 2, some 3, some 4], rfl, rfl, ?_, ?_⟩ <;> repeat' (first | exact trivial | exact rfl | exact Iff.rfl | apply And.intro)
  · obtain ⟨e1, G1⟩ := hG.valve (v := 2) (by decide)
    have hG1 := hG.good
    have hG2 := hG.inv.ok
    repeat' (conv => whnf
             first
             | refine Rng.ok (by simp only [inR]; omega) ?_
             | refine Ob.mk (by first | omega | (simp; done) | decide | (simp; omega)) ?_
             | refine Ob.mk (show eqOK _ _ = true from by kernel_rfl) ?_
             | refine Ob.mk (show keyOK _ _ _ = true from by kernel_rfl) ?_
             | refine Val.mk _ (shr_val (by simp; rfl)) ?_
             | refine JoinVC.on ?_
             | refine Nils.mk (fun h => ?_) ?_
             | refine Val.mk _ (Int.tmod_eq_emod_of_nonneg (by omega)) ?_
             | refine Val.mk _ (Int.tdiv_eq_ediv_of_nonneg (by omega)) ?_
             | refine Mm.mk ?_
             | (refine Br.mk (fun h => ?_) (fun h => ?_) <;> first | (exfalso; omega; done) | (exfalso; simp at h; done) | skip))
    conv => whnf
    refine CallVC.mk [1, 2, 3, 4] _ _ _ rfl rfl rfl (s41k hU hG.inv e1) (fun r m' h' => ?_)
    obtain ⟨l1, u1, rfl, rfl⟩ := h'
    conv => whnf
    repeat' (conv => whnf
             first
             | refine Rng.ok (by simp only [inR]; omega) ?_
             | refine Ob.mk (by first | omega | (simp; done) | decide | (simp; omega)) ?_
             | refine Ob.mk (show eqOK _ _ = true from by kernel_rfl) ?_
             | refine Ob.mk (show keyOK _ _ _ = true from by kernel_rfl) ?_
             | refine Val.mk _ (shr_val (by simp; rfl)) ?_
             | refine JoinVC.on ?_
             | refine Nils.mk (fun h => ?_) ?_
             | refine Val.mk _ (Int.tmod_eq_emod_of_nonneg (by omega)) ?_
             | refine Val.mk _ (Int.tdiv_eq_ediv_of_nonneg (by omega)) ?_
             | refine Mm.mk ?_
             | (refine Br.mk (fun h => ?_) (fun h => ?_) <;> first | (exfalso; omega; done) | (exfalso; simp at h; done) | skip))
    have e6 := errD6 m { q with v := 2 } [] 0 0
    rw [if_neg (fun h => h hG.cl)] at e6
    by_cases ht : m.cool < q.t
    · rw [if_pos (.inr ht)] at e6
      conv => whnf
      refine CallVC.mk [1, 5, 6, 7] _ _ _ rfl rfl rfl (s41 m { q with v := 2 } [] l1 u1 G1.inv 6 0 0) (fun r m' h' => ?_)
      obtain ⟨e7, _⟩ | ⟨e7, rfl, rfl⟩ := h'
      · rw [e6] at e7; cases e7
      rw [e6]
      repeat' (conv => whnf
               first
               | refine Rng.ok (by simp only [inR]; omega) ?_
               | refine Ob.mk (by first | omega | (simp; done) | decide | (simp; omega)) ?_
               | refine Ob.mk (show eqOK _ _ = true from by kernel_rfl) ?_
               | refine Ob.mk (show keyOK _ _ _ = true from by kernel_rfl) ?_
               | refine Val.mk _ (shr_val (by simp; rfl)) ?_
               | refine JoinVC.on ?_
               | refine Nils.mk (fun h => ?_) ?_
               | refine Val.mk _ (Int.tmod_eq_emod_of_nonneg (by omega)) ?_
               | refine Val.mk _ (Int.tdiv_eq_ediv_of_nonneg (by omega)) ?_
               | refine Mm.mk ?_
               | refine CallVC.pure rfl (s22) ?_
               | refine CallVC0.pure rfl (s22) ?_
               | (refine Br.mk (fun h => ?_) (fun h => ?_) <;> first | (exfalso; omega; done) | (exfalso; simp at h; done) | skip))
      repeat refine Mm.mk ?_
      refine EndVC.mk _ rfl _ _ ⟨rfl, rfl⟩ ?_
      refine ⟨[], rfl, rfl, ?_, ?_⟩ <;> repeat' (first | exact trivial | exact rfl | exact Iff.rfl | apply And.intro)
    · rw [if_neg (by simp only; omega)] at e6
      conv => whnf
      refine CallVC.mk [1, 5, 6, 7] _ _ _ rfl rfl rfl (s41k (p := { q with v := 2 }) u1 G1.inv e6) (fun r m' h' => ?_)
      obtain ⟨l2, u2, rfl, rfl⟩ := h'
      conv => whnf
      have d5 : (outD m { q with v := 2 } (nextL m q [] 4) 6).pk = q.pk := rfl
      have d4 : (outD m { q with v := 2 } (nextL m q [] 4) 6).h = q.h := rfl
      have d6 : (outD m { q with v := 2 } (nextL m q [] 4) 6).good = decide (m.hold ≤ q.h) := rfl
      generalize outD m { q with v := 2 } (nextL m q [] 4) 6 = d at *
      have hh1 := hG2.2.2.2.2.2.2.2.2.2.2.2.1
      by_cases hg : m.hold ≤ q.h
      · have d7 : d.good = true := by rw [d6]; simpa using hg
        have hpk := hG1 (by omega)
        repeat' (conv => whnf
                 first
                 | refine Rng.ok (by simp only [inR]; omega) ?_
                 | refine Ob.mk (by first | omega | (simp; done) | decide | (simp; omega)) ?_
                 | refine Ob.mk (show eqOK _ _ = true from by kernel_rfl) ?_
                 | refine Ob.mk (show keyOK _ _ _ = true from by kernel_rfl) ?_
                 | refine Val.mk _ (shr_val (by simp; rfl)) ?_
                 | refine JoinVC.on ?_
                 | refine Nils.mk (fun h => ?_) ?_
                 | refine Val.mk _ (Int.tmod_eq_emod_of_nonneg (by omega)) ?_
                 | refine Val.mk _ (Int.tdiv_eq_ediv_of_nonneg (by omega)) ?_
                 | refine Mm.mk ?_
                 | refine CallVC.pure rfl (s22) ?_
                 | refine CallVC0.pure rfl (s22) ?_
                 | (refine Br.mk (fun h => ?_) (fun h => ?_) <;> first | (exfalso; omega; done) | (exfalso; simp at h; done) | (exfalso; simp [d7, hg] at h; done) | skip))
        all_goals
          repeat refine Mm.mk ?_
          refine EndVC.mk _ rfl _ _ ⟨rfl, rfl⟩ ?_
          refine ⟨[], rfl, rfl, ?_, ?_⟩ <;> repeat' (first | exact trivial | exact rfl | exact Iff.rfl | apply And.intro)
      · have d7 : d.good = false := by rw [d6]; simpa using hg
        repeat' (conv => whnf
                 first
                 | refine Rng.ok (by simp only [inR]; omega) ?_
                 | refine Ob.mk (by first | omega | (simp; done) | decide | (simp; omega)) ?_
                 | refine Ob.mk (show eqOK _ _ = true from by kernel_rfl) ?_
                 | refine Ob.mk (show keyOK _ _ _ = true from by kernel_rfl) ?_
                 | refine Val.mk _ (shr_val (by simp; rfl)) ?_
                 | refine JoinVC.on ?_
                 | refine Nils.mk (fun h => ?_) ?_
                 | refine Val.mk _ (Int.tmod_eq_emod_of_nonneg (by omega)) ?_
                 | refine Val.mk _ (Int.tdiv_eq_ediv_of_nonneg (by omega)) ?_
                 | refine Mm.mk ?_
                 | refine CallVC.pure rfl (s22) ?_
                 | refine CallVC0.pure rfl (s22) ?_
                 | (refine Br.mk (fun h => ?_) (fun h => ?_) <;> first | (exfalso; omega; done) | (exfalso; simp at h; done) | (exfalso; simp [d7, hg] at h; done) | skip))
        all_goals
          repeat refine Mm.mk ?_
          refine EndVC.mk _ rfl _ _ ⟨rfl, rfl⟩ ?_
          refine ⟨[], rfl, rfl, ?_, ?_⟩ <;> repeat' (first | exact trivial | exact rfl | exact Iff.rfl | apply And.intro)
end Go.Sx

namespace Go.Sx
open Go Go.Proofs
set_option maxRecDepth 10000
set_option maxHeartbeats 4000000
theorem e15 : EntersF Try.prog 15 := enters_of Try.func15 (c := bodyOf Try.f15) (by kernel_rfl) rfl
/-! ### A press that is not valid -/
theorem n41 (k a b : Int) : HSpec Try.prog 41 [.one .nilp, .agg [.int .i64 k, .int .i64 a, .int .i64 b]] [] (fun r m' => r = .tup [d0.x, I 1] ∧ m' = []) := by
  refine spec_of pMix (O := [(7, ([10], [⟨0, [], []⟩, ⟨1, [], []⟩, ⟨2, [], []⟩, ⟨3, [], []⟩, ⟨4, [], []⟩, ⟨5, [], []⟩, ⟨6, [], []⟩, ⟨7, [], []⟩, ⟨8, [], []⟩, ⟨9, [], []⟩, ⟨10, [], []⟩, ⟨11, [9], []⟩, ⟨12, [], []⟩]))]) Try.func41 (c := bodyOf Try.f41) rfl (by kernel_rfl) (by kernel_rfl) Try.ntmps41 (res := [.cell 4 70, .tmp 5]) (by kernel_rfl) ?_
  repeat' (conv => whnf
           first
           | refine Rng.ok (by simp only [inR]; omega) ?_
           | refine Ob.mk (by first | omega | (simp; done) | decide | (simp; omega)) ?_
           | refine Ob.mk (show eqOK _ _ = true from by kernel_rfl) ?_
           | refine Ob.mk (show keyOK _ _ _ = true from by kernel_rfl) ?_
           | refine Val.mk _ (shr_val (by simp; rfl)) ?_
           | refine JoinVC.on ?_
           | refine Nils.mk (fun h => ?_) ?_
           | refine Val.mk _ (Int.tmod_eq_emod_of_nonneg (by omega)) ?_
           | refine Val.mk _ (Int.tdiv_eq_ediv_of_nonneg (by omega)) ?_
           | refine Mm.mk ?_
           | (refine Br.mk (fun h => ?_) (fun h => ?_) <;> first | (exfalso; omega; done) | (exfalso; simp at h; done) | skip))
  repeat refine Mm.mk ?_
  refine EndVC.mk _ rfl _ _ ⟨rfl, rfl⟩ ?_
  refine ⟨[], rfl, rfl, ?_, ?_⟩ <;> repeat' (first | exact trivial | exact rfl | exact Iff.rfl | apply And.intro)
theorem b41 (k a b : Int) : HSpec Try.prog 41 [.one (.ptr 0 0), .agg [.int .i64 k, .int .i64 a, .int .i64 b]] [.box 94 [.nilp]] (fun r m' => r = .tup [d0.x, I 1] ∧ m' = [some (.box 94 [.nilp])]) := by
  refine spec_of pMix (O := [(7, ([10], [⟨0, [], []⟩, ⟨1, [], []⟩, ⟨2, [], []⟩, ⟨3, [], []⟩, ⟨4, [], []⟩, ⟨5, [], []⟩, ⟨6, [], []⟩, ⟨7, [], []⟩, ⟨8, [], []⟩, ⟨9, [], []⟩, ⟨10, [], []⟩, ⟨11, [9], []⟩, ⟨12, [], []⟩]))]) Try.func41 (c := bodyOf Try.f41) rfl (by kernel_rfl) (by kernel_rfl) Try.ntmps41 (res := [.cell 4 70, .tmp 5]) (by kernel_rfl) ?_
  repeat' (conv => whnf
           first
           | refine Rng.ok (by simp only [inR]; omega) ?_
           | refine Ob.mk (by first | omega | (simp; done) | decide | (simp; omega)) ?_
           | refine Ob.mk (show eqOK _ _ = true from by kernel_rfl) ?_
           | refine Ob.mk (show keyOK _ _ _ = true from by kernel_rfl) ?_
           | refine Val.mk _ (shr_val (by simp; rfl)) ?_
           | refine JoinVC.on ?_
           | refine Nils.mk (fun h => ?_) ?_
           | refine Val.mk _ (Int.tmod_eq_emod_of_nonneg (by omega)) ?_
           | refine Val.mk _ (Int.tdiv_eq_ediv_of_nonneg (by omega)) ?_
           | refine Mm.mk ?_
           | (refine Br.mk (fun h => ?_) (fun h => ?_) <;> first | (exfalso; omega; done) | (exfalso; simp at h; done) | skip))
  repeat refine Mm.mk ?_
  refine EndVC.mk _ rfl _ _ ⟨rfl, rfl⟩ ?_
  refine ⟨[some 0], rfl, rfl, ?_, ?_⟩ <;> repeat' (first | exact trivial | exact rfl | exact Iff.rfl | apply And.intro)
theorem n42 : HSpec Try.prog 42 [.one .nilp] [] (fun r m' => r = .tup [.agg [.ff, .ff, .int .i64 0, .int .i64 0, .int .i64 0, .int .i64 0, .int .i64 0, .int .i64 0, .int .i64 0], I 1] ∧ m' = []) := by
  refine spec_of pMix (O := []) Try.func42 (c := bodyOf Try.f42) rfl (by kernel_rfl) (by kernel_rfl) Try.ntmps42 (res := [.cell 2 78, .tmp 3]) (by kernel_rfl) ?_
  repeat' (conv => whnf
           first
           | refine Rng.ok (by simp only [inR]; omega) ?_
           | refine Ob.mk (by first | omega | (simp; done) | decide | (simp; omega)) ?_
           | refine Ob.mk (show eqOK _ _ = true from by kernel_rfl) ?_
           | refine Ob.mk (show keyOK _ _ _ = true from by kernel_rfl) ?_
           | refine Val.mk _ (shr_val (by simp; rfl)) ?_
           | refine JoinVC.on ?_
           | refine Nils.mk (fun h => ?_) ?_
           | refine Val.mk _ (Int.tmod_eq_emod_of_nonneg (by omega)) ?_
           | refine Val.mk _ (Int.tdiv_eq_ediv_of_nonneg (by omega)) ?_
           | refine Mm.mk ?_
           | (refine Br.mk (fun h => ?_) (fun h => ?_) <;> first | (exfalso; omega; done) | (exfalso; simp at h; done) | skip))
  repeat refine Mm.mk ?_
  refine EndVC.mk _ rfl _ _ ⟨rfl, rfl⟩ ?_
  refine ⟨[], rfl, rfl, ?_, ?_⟩ <;> repeat' (first | exact trivial | exact rfl | exact Iff.rfl | apply And.intro)
theorem b42 : HSpec Try.prog 42 [.one (.ptr 0 0)] [.box 94 [.nilp]] (fun r m' => r = .tup [.agg [.ff, .ff, .int .i64 0, .int .i64 0, .int .i64 0, .int .i64 0, .int .i64 0, .int .i64 0, .int .i64 0], I 1] ∧ m' = [some (.box 94 [.nilp])]) := by
  refine spec_of pMix (O := []) Try.func42 (c := bodyOf Try.f42) rfl (by kernel_rfl) (by kernel_rfl) Try.ntmps42 (res := [.cell 2 78, .tmp 3]) (by kernel_rfl) ?_
  repeat' (conv => whnf
           first
           | refine Rng.ok (by simp only [inR]; omega) ?_
           | refine Ob.mk (by first | omega | (simp; done) | decide | (simp; omega)) ?_
           | refine Ob.mk (show eqOK _ _ = true from by kernel_rfl) ?_
           | refine Ob.mk (show keyOK _ _ _ = true from by kernel_rfl) ?_
           | refine Val.mk _ (shr_val (by simp; rfl)) ?_
           | refine JoinVC.on ?_
           | refine Nils.mk (fun h => ?_) ?_
           | refine Val.mk _ (Int.tmod_eq_emod_of_nonneg (by omega)) ?_
           | refine Val.mk _ (Int.tdiv_eq_ediv_of_nonneg (by omega)) ?_
           | refine Mm.mk ?_
           | (refine Br.mk (fun h => ?_) (fun h => ?_) <;> first | (exfalso; omega; done) | (exfalso; simp at h; done) | skip))
  repeat refine Mm.mk ?_
  refine EndVC.mk _ rfl _ _ ⟨rfl, rfl⟩ ?_
  refine ⟨[some 0], rfl, rfl, ?_, ?_⟩ <;> repeat' (first | exact trivial | exact rfl | exact Iff.rfl | apply And.intro)
theorem n47 : HSpec Try.prog 47 [.one .nilp] [] (fun r m' => r = .x (.one (.own 0)) ∧ m' = [some (dRow [])]) := by
  refine spec_of pMix (O := []) Try.func47 (c := bodyOf Try.f47) rfl (by kernel_rfl) (by kernel_rfl) Try.ntmps47 (res := [.tmp 2]) (by kernel_rfl) ?_
  repeat' (conv => whnf
           first
           | refine Rng.ok (by simp only [inR]; omega) ?_
           | refine Ob.mk (by first | omega | (simp; done) | decide | (simp; omega)) ?_
           | refine Ob.mk (show eqOK _ _ = true from by kernel_rfl) ?_
           | refine Ob.mk (show keyOK _ _ _ = true from by kernel_rfl) ?_
           | refine Val.mk _ (shr_val (by simp; rfl)) ?_
           | refine JoinVC.on ?_
           | refine Nils.mk (fun h => ?_) ?_
           | refine Val.mk _ (Int.tmod_eq_emod_of_nonneg (by omega)) ?_
           | refine Val.mk _ (Int.tdiv_eq_ediv_of_nonneg (by omega)) ?_
           | refine Mm.mk ?_
           | (refine Br.mk (fun h => ?_) (fun h => ?_) <;> first | (exfalso; omega; done) | (exfalso; simp at h; done) | skip))
  repeat refine Mm.mk ?_
  refine EndVC.mk _ rfl _ _ ⟨rfl, rfl⟩ ?_
  refine ⟨[none], rfl, rfl, ?_, ?_⟩ <;> repeat' (first | exact trivial | exact rfl | exact Iff.rfl | apply And.intro)
theorem b47 : HSpec Try.prog 47 [.one (.ptr 0 0)] [.box 94 [.nilp]] (fun r m' => r = .x (.one (.own 1)) ∧ m' = [some (.box 94 [.nilp]), some (dRow [])]) := by
  refine spec_of pMix (O := []) Try.func47 (c := bodyOf Try.f47) rfl (by kernel_rfl) (by kernel_rfl) Try.ntmps47 (res := [.tmp 2]) (by kernel_rfl) ?_
  repeat' (conv => whnf
           first
           | refine Rng.ok (by simp only [inR]; omega) ?_
           | refine Ob.mk (by first | omega | (simp; done) | decide | (simp; omega)) ?_
           | refine Ob.mk (show eqOK _ _ = true from by kernel_rfl) ?_
           | refine Ob.mk (show keyOK _ _ _ = true from by kernel_rfl) ?_
           | refine Val.mk _ (shr_val (by simp; rfl)) ?_
           | refine JoinVC.on ?_
           | refine Nils.mk (fun h => ?_) ?_
           | refine Val.mk _ (Int.tmod_eq_emod_of_nonneg (by omega)) ?_
           | refine Val.mk _ (Int.tdiv_eq_ediv_of_nonneg (by omega)) ?_
           | refine Mm.mk ?_
           | (refine Br.mk (fun h => ?_) (fun h => ?_) <;> first | (exfalso; omega; done) | (exfalso; simp at h; done) | skip))
  repeat refine Mm.mk ?_
  refine EndVC.mk _ rfl _ _ ⟨rfl, rfl⟩ ?_
  refine ⟨[some 0, none], rfl, rfl, ?_, ?_⟩ <;> repeat' (first | exact trivial | exact rfl | exact Iff.rfl | apply And.intro)
theorem n50 : HSpec Try.prog 50 [.one .nilp] [] (fun r m' => r = .x (.one .nilp) ∧ m' = []) := by
  refine spec_of pMix (O := []) Try.func50 (c := bodyOf Try.f50) rfl (by kernel_rfl) (by kernel_rfl) Try.ntmps50 (res := [.tmp 2]) (by kernel_rfl) ?_
  repeat' (conv => whnf
           first
           | refine Rng.ok (by simp only [inR]; omega) ?_
           | refine Ob.mk (by first | omega | (simp; done) | decide | (simp; omega)) ?_
           | refine Ob.mk (show eqOK _ _ = true from by kernel_rfl) ?_
           | refine Ob.mk (show keyOK _ _ _ = true from by kernel_rfl) ?_
           | refine Val.mk _ (shr_val (by simp; rfl)) ?_
           | refine JoinVC.on ?_
           | refine Nils.mk (fun h => ?_) ?_
           | refine Val.mk _ (Int.tmod_eq_emod_of_nonneg (by omega)) ?_
           | refine Val.mk _ (Int.tdiv_eq_ediv_of_nonneg (by omega)) ?_
           | refine Mm.mk ?_
           | (refine Br.mk (fun h => ?_) (fun h => ?_) <;> first | (exfalso; omega; done) | (exfalso; simp at h; done) | skip))
  repeat refine Mm.mk ?_
  refine EndVC.mk _ rfl _ _ ⟨rfl, rfl⟩ ?_
  refine ⟨[], rfl, rfl, ?_, ?_⟩ <;> repeat' (first | exact trivial | exact rfl | exact Iff.rfl | apply And.intro)
theorem b50 : HSpec Try.prog 50 [.one (.ptr 0 0)] [.box 94 [.nilp]] (fun r m' => r = .x (.one .nilp) ∧ m' = [some (.box 94 [.nilp])]) := by
  refine spec_of pMix (O := []) Try.func50 (c := bodyOf Try.f50) rfl (by kernel_rfl) (by kernel_rfl) Try.ntmps50 (res := [.tmp 2]) (by kernel_rfl) ?_
  repeat' (conv => whnf
           first
           | refine Rng.ok (by simp only [inR]; omega) ?_
           | refine Ob.mk (by first | omega | (simp; done) | decide | (simp; omega)) ?_
           | refine Ob.mk (show eqOK _ _ = true from by kernel_rfl) ?_
           | refine Ob.mk (show keyOK _ _ _ = true from by kernel_rfl) ?_
           | refine Val.mk _ (shr_val (by simp; rfl)) ?_
           | refine JoinVC.on ?_
           | refine Nils.mk (fun h => ?_) ?_
           | refine Val.mk _ (Int.tmod_eq_emod_of_nonneg (by omega)) ?_
           | refine Val.mk _ (Int.tdiv_eq_ediv_of_nonneg (by omega)) ?_
           | refine Mm.mk ?_
           | (refine Br.mk (fun h => ?_) (fun h => ?_) <;> first | (exfalso; omega; done) | (exfalso; simp at h; done) | skip))
  repeat refine Mm.mk ?_
  refine EndVC.mk _ rfl _ _ ⟨rfl, rfl⟩ ?_
  refine ⟨[some 0], rfl, rfl, ?_, ?_⟩ <;> repeat' (first | exact trivial | exact rfl | exact Iff.rfl | apply And.intro)
theorem n49 (k : Int) : HSpec Try.prog 49 [.one .nilp, I k] [] (fun r m' => r = .x (.one (.own 0)) ∧ m' = [some (.row 2 false [.int .i64] [])]) := by
  refine spec_of pMix (O := []) Try.func49 (c := bodyOf Try.f49) rfl (by kernel_rfl) (by kernel_rfl) Try.ntmps49 (res := [.tmp 4]) (by kernel_rfl) ?_
  repeat' (conv => whnf
           first
           | refine Rng.ok (by simp only [inR]; omega) ?_
           | refine Ob.mk (by first | omega | (simp; done) | decide | (simp; omega)) ?_
           | refine Ob.mk (show eqOK _ _ = true from by kernel_rfl) ?_
           | refine Ob.mk (show keyOK _ _ _ = true from by kernel_rfl) ?_
           | refine Val.mk _ (shr_val (by simp; rfl)) ?_
           | refine JoinVC.on ?_
           | refine Nils.mk (fun h => ?_) ?_
           | refine Val.mk _ (Int.tmod_eq_emod_of_nonneg (by omega)) ?_
           | refine Val.mk _ (Int.tdiv_eq_ediv_of_nonneg (by omega)) ?_
           | refine Mm.mk ?_
           | (refine Br.mk (fun h => ?_) (fun h => ?_) <;> first | (exfalso; omega; done) | (exfalso; simp at h; done) | skip))
  conv => whnf
  refine CallVC.mk [] _ _ _ rfl rfl rfl (n47) (fun r m' h' => ?_)
  obtain ⟨rfl, rfl⟩ := h'
  conv => whnf
  repeat' (conv => whnf
           first
           | refine Rng.ok (by simp only [inR]; omega) ?_
           | refine Ob.mk (by first | omega | (simp; done) | decide | (simp; omega)) ?_
           | refine Ob.mk (show eqOK _ _ = true from by kernel_rfl) ?_
           | refine Ob.mk (show keyOK _ _ _ = true from by kernel_rfl) ?_
           | refine Val.mk _ (shr_val (by simp; rfl)) ?_
           | refine JoinVC.on ?_
           | refine Nils.mk (fun h => ?_) ?_
           | refine Val.mk _ (Int.tmod_eq_emod_of_nonneg (by omega)) ?_
           | refine Val.mk _ (Int.tdiv_eq_ediv_of_nonneg (by omega)) ?_
           | refine Mm.mk ?_
           | (refine Br.mk (fun h => ?_) (fun h => ?_) <;> first | (exfalso; omega; done) | (exfalso; simp at h; done) | skip))
  have l0 : (discA []).length = 0 := rfl
  refine LoopVC.un 1 ?_
  repeat' (conv => whnf
           first
           | refine Rng.ok (by simp only [inR]; omega) ?_
           | refine Ob.mk (by first | omega | (simp; done) | decide | (simp; omega)) ?_
           | refine Ob.mk (show eqOK _ _ = true from by kernel_rfl) ?_
           | refine Ob.mk (show keyOK _ _ _ = true from by kernel_rfl) ?_
           | refine Val.mk _ (shr_val (by simp; rfl)) ?_
           | refine JoinVC.on ?_
           | refine Nils.mk (fun h => ?_) ?_
           | refine Val.mk _ (Int.tmod_eq_emod_of_nonneg (by omega)) ?_
           | refine Val.mk _ (Int.tdiv_eq_ediv_of_nonneg (by omega)) ?_
           | refine Mm.mk ?_
           | (refine Br.mk (fun h => ?_) (fun h => ?_) <;> first | (exfalso; omega; done) | (exfalso; simp at h; done) | skip))
  repeat refine Mm.mk ?_
  refine EndVC.mk _ rfl _ _ ⟨rfl, rfl⟩ ?_
  refine ⟨[none], rfl, rfl, ?_, ?_⟩ <;> repeat' (first | exact trivial | exact rfl | exact Iff.rfl | apply And.intro)
theorem b49 (k : Int) : HSpec Try.prog 49 [.one (.ptr 0 0), I k] [.box 94 [.nilp]] (fun r m' => r = .x (.one (.own 1)) ∧ m' = [some (.box 94 [.nilp]), some (.row 2 false [.int .i64] [])]) := by
  refine spec_of pMix (O := []) Try.func49 (c := bodyOf Try.f49) rfl (by kernel_rfl) (by kernel_rfl) Try.ntmps49 (res := [.tmp 4]) (by kernel_rfl) ?_
  repeat' (conv => whnf
           first
           | refine Rng.ok (by simp only [inR]; omega) ?_
           | refine Ob.mk (by first | omega | (simp; done) | decide | (simp; omega)) ?_
           | refine Ob.mk (show eqOK _ _ = true from by kernel_rfl) ?_
           | refine Ob.mk (show keyOK _ _ _ = true from by kernel_rfl) ?_
           | refine Val.mk _ (shr_val (by simp; rfl)) ?_
           | refine JoinVC.on ?_
           | refine Nils.mk (fun h => ?_) ?_
           | refine Val.mk _ (Int.tmod_eq_emod_of_nonneg (by omega)) ?_
           | refine Val.mk _ (Int.tdiv_eq_ediv_of_nonneg (by omega)) ?_
           | refine Mm.mk ?_
           | (refine Br.mk (fun h => ?_) (fun h => ?_) <;> first | (exfalso; omega; done) | (exfalso; simp at h; done) | skip))
  conv => whnf
  refine CallVC.mk [0] _ _ _ rfl rfl rfl (b47) (fun r m' h' => ?_)
  obtain ⟨rfl, rfl⟩ := h'
  conv => whnf
  repeat' (conv => whnf
           first
           | refine Rng.ok (by simp only [inR]; omega) ?_
           | refine Ob.mk (by first | omega | (simp; done) | decide | (simp; omega)) ?_
           | refine Ob.mk (show eqOK _ _ = true from by kernel_rfl) ?_
           | refine Ob.mk (show keyOK _ _ _ = true from by kernel_rfl) ?_
           | refine Val.mk _ (shr_val (by simp; rfl)) ?_
           | refine JoinVC.on ?_
           | refine Nils.mk (fun h => ?_) ?_
           | refine Val.mk _ (Int.tmod_eq_emod_of_nonneg (by omega)) ?_
           | refine Val.mk _ (Int.tdiv_eq_ediv_of_nonneg (by omega)) ?_
           | refine Mm.mk ?_
           | (refine Br.mk (fun h => ?_) (fun h => ?_) <;> first | (exfalso; omega; done) | (exfalso; simp at h; done) | skip))
  have l0 : (discA []).length = 0 := rfl
  refine LoopVC.un 1 ?_
  repeat' (conv => whnf
           first
           | refine Rng.ok (by simp only [inR]; omega) ?_
           | refine Ob.mk (by first | omega | (simp; done) | decide | (simp; omega)) ?_
           | refine Ob.mk (show eqOK _ _ = true from by kernel_rfl) ?_
           | refine Ob.mk (show keyOK _ _ _ = true from by kernel_rfl) ?_
           | refine Val.mk _ (shr_val (by simp; rfl)) ?_
           | refine JoinVC.on ?_
           | refine Nils.mk (fun h => ?_) ?_
           | refine Val.mk _ (Int.tmod_eq_emod_of_nonneg (by omega)) ?_
           | refine Val.mk _ (Int.tdiv_eq_ediv_of_nonneg (by omega)) ?_
           | refine Mm.mk ?_
           | (refine Br.mk (fun h => ?_) (fun h => ?_) <;> first | (exfalso; omega; done) | (exfalso; simp at h; done) | skip))
  repeat refine Mm.mk ?_
  refine EndVC.mk _ rfl _ _ ⟨rfl, rfl⟩ ?_
  refine ⟨[some 0, none], rfl, rfl, ?_, ?_⟩ <;> repeat' (first | exact trivial | exact rfl | exact Iff.rfl | apply And.intro)
theorem updRow_len (a : Arr) (i f : Nat) (cs : List Cell) : (updRow a i f cs).length = a.length := by unfold updRow; exact List.length_set
theorem s15 (m : Mac) (A B : Arr) : PSpec Try.prog 15 [m.x, lActs A, lActs B] (xP True) := by
  refine spec_of pMix (O := []) Try.func15 (c := bodyOf Try.f15) rfl (by kernel_rfl) (by kernel_rfl) Try.ntmps15 (res := [.tmp 6]) (by kernel_rfl) ?_
  repeat' (conv => whnf
           first
           | refine Rng.ok (by simp only [inR]; omega) ?_
           | refine Ob.mk (by first | omega | (simp; done) | decide | (simp; omega)) ?_
           | refine Ob.mk (show eqOK _ _ = true from by kernel_rfl) ?_
           | refine Ob.mk (show keyOK _ _ _ = true from by kernel_rfl) ?_
           | refine Val.mk _ (shr_val (by simp; rfl)) ?_
           | refine JoinVC.on ?_
           | refine Nils.mk (fun h => ?_) ?_
           | refine Val.mk _ (Int.tmod_eq_emod_of_nonneg (by omega)) ?_
           | refine Val.mk _ (Int.tdiv_eq_ediv_of_nonneg (by omega)) ?_
           | refine Mm.mk ?_
           | (refine Br.mk (fun h => ?_) (fun h => ?_) <;> first | (exfalso; omega; done) | (exfalso; simp at h; done) | skip))
  conv => whnf
  refine CallVC.mk [] _ _ _ rfl rfl rfl (n41 6 0 0) (fun r m' h' => ?_)
  obtain ⟨rfl, rfl⟩ := h'
  conv => whnf
  repeat' (conv => whnf
           first
           | refine Rng.ok (by simp only [inR]; omega) ?_
           | refine Ob.mk (by first | omega | (simp; done) | decide | (simp; omega)) ?_
           | refine Ob.mk (show eqOK _ _ = true from by kernel_rfl) ?_
           | refine Ob.mk (show keyOK _ _ _ = true from by kernel_rfl) ?_
           | refine Val.mk _ (shr_val (by simp; rfl)) ?_
           | refine JoinVC.on ?_
           | refine Nils.mk (fun h => ?_) ?_
           | refine Val.mk _ (Int.tmod_eq_emod_of_nonneg (by omega)) ?_
           | refine Val.mk _ (Int.tdiv_eq_ediv_of_nonneg (by omega)) ?_
           | refine Mm.mk ?_
           | (refine Br.mk (fun h => ?_) (fun h => ?_) <;> first | (exfalso; omega; done) | (exfalso; simp at h; done) | skip))
  conv => whnf
  refine CallVC.mk [] _ _ _ rfl rfl rfl (n42) (fun r m' h' => ?_)
  obtain ⟨rfl, rfl⟩ := h'
  conv => whnf
  repeat' (conv => whnf
           first
           | refine Rng.ok (by simp only [inR]; omega) ?_
           | refine Ob.mk (by first | omega | (simp; done) | decide | (simp; omega)) ?_
           | refine Ob.mk (show eqOK _ _ = true from by kernel_rfl) ?_
           | refine Ob.mk (show keyOK _ _ _ = true from by kernel_rfl) ?_
           | refine Val.mk _ (shr_val (by simp; rfl)) ?_
           | refine JoinVC.on ?_
           | refine Nils.mk (fun h => ?_) ?_
           | refine Val.mk _ (Int.tmod_eq_emod_of_nonneg (by omega)) ?_
           | refine Val.mk _ (Int.tdiv_eq_ediv_of_nonneg (by omega)) ?_
           | refine Mm.mk ?_
           | (refine Br.mk (fun h => ?_) (fun h => ?_) <;> first | (exfalso; omega; done) | (exfalso; simp at h; done) | skip))
  conv => whnf
  refine CallVC.mk [3] _ _ _ rfl rfl rfl (b41 0 0 0) (fun r m' h' => ?_)
  obtain ⟨rfl, rfl⟩ := h'
  conv => whnf
  repeat' (conv => whnf
           first
           | refine Rng.ok (by simp only [inR]; omega) ?_
           | refine Ob.mk (by first | omega | (simp; done) | decide | (simp; omega)) ?_
           | refine Ob.mk (show eqOK _ _ = true from by kernel_rfl) ?_
           | refine Ob.mk (show keyOK _ _ _ = true from by kernel_rfl) ?_
           | refine Val.mk _ (shr_val (by simp; rfl)) ?_
           | refine JoinVC.on ?_
           | refine Nils.mk (fun h => ?_) ?_
           | refine Val.mk _ (Int.tmod_eq_emod_of_nonneg (by omega)) ?_
           | refine Val.mk _ (Int.tdiv_eq_ediv_of_nonneg (by omega)) ?_
           | refine Mm.mk ?_
           | (refine Br.mk (fun h => ?_) (fun h => ?_) <;> first | (exfalso; omega; done) | (exfalso; simp at h; done) | skip))
  conv => whnf
  refine CallVC.mk [3] _ _ _ rfl rfl rfl (b42) (fun r m' h' => ?_)
  obtain ⟨rfl, rfl⟩ := h'
  conv => whnf
  have l0 : (discA []).length = 0 := rfl
  repeat' (conv => whnf
           first
           | refine Rng.ok (by simp only [inR]; omega) ?_
           | refine Ob.mk (by first | omega | (simp; done) | decide | (simp; omega)) ?_
           | refine Ob.mk (show eqOK _ _ = true from by kernel_rfl) ?_
           | refine Ob.mk (show keyOK _ _ _ = true from by kernel_rfl) ?_
           | refine Val.mk _ (shr_val (by simp; rfl)) ?_
           | refine JoinVC.on ?_
           | refine Nils.mk (fun h => ?_) ?_
           | refine Val.mk _ (Int.tmod_eq_emod_of_nonneg (by omega)) ?_
           | refine Val.mk _ (Int.tdiv_eq_ediv_of_nonneg (by omega)) ?_
           | refine Mm.mk ?_
           | (refine Br.mk (fun h => ?_) (fun h => ?_) <;> first | (exfalso; omega; done) | (exfalso; simp at h; done) | skip))
  conv => whnf
  refine CallVC.mk [] _ _ _ rfl rfl rfl (n47) (fun r m' h' => ?_)
  obtain ⟨rfl, rfl⟩ := h'
  conv => whnf
  repeat' (conv => whnf
           first
           | refine Rng.ok (by simp only [inR]; omega) ?_
           | refine Ob.mk (by first | omega | (simp; done) | decide | (simp; omega)) ?_
           | refine Ob.mk (show eqOK _ _ = true from by kernel_rfl) ?_
           | refine Ob.mk (show keyOK _ _ _ = true from by kernel_rfl) ?_
           | refine Val.mk _ (shr_val (by simp; rfl)) ?_
           | refine JoinVC.on ?_
           | refine Nils.mk (fun h => ?_) ?_
           | refine Val.mk _ (Int.tmod_eq_emod_of_nonneg (by omega)) ?_
           | refine Val.mk _ (Int.tdiv_eq_ediv_of_nonneg (by omega)) ?_
           | refine Mm.mk ?_
           | (refine Br.mk (fun h => ?_) (fun h => ?_) <;> first | (exfalso; omega; done) | (exfalso; simp at h; done) | skip))
  conv => whnf
  refine CallVC.mk [] _ _ _ rfl rfl rfl (n49 1) (fun r m' h' => ?_)
  obtain ⟨rfl, rfl⟩ := h'
  conv => whnf
  repeat' (conv => whnf
           first
           | refine Rng.ok (by simp only [inR]; omega) ?_
           | refine Ob.mk (by first | omega | (simp; done) | decide | (simp; omega)) ?_
           | refine Ob.mk (show eqOK _ _ = true from by kernel_rfl) ?_
           | refine Ob.mk (show keyOK _ _ _ = true from by kernel_rfl) ?_
           | refine Val.mk _ (shr_val (by simp; rfl)) ?_
           | refine JoinVC.on ?_
           | refine Nils.mk (fun h => ?_) ?_
           | refine Val.mk _ (Int.tmod_eq_emod_of_nonneg (by omega)) ?_
           | refine Val.mk _ (Int.tdiv_eq_ediv_of_nonneg (by omega)) ?_
           | refine Mm.mk ?_
           | (refine Br.mk (fun h => ?_) (fun h => ?_) <;> first | (exfalso; omega; done) | (exfalso; simp at h; done) | skip))
  conv => whnf
  refine CallVC.mk [] _ _ _ rfl rfl rfl (n50) (fun r m' h' => ?_)
  obtain ⟨rfl, rfl⟩ := h'
  conv => whnf
  repeat' (conv => whnf
           first
           | refine Rng.ok (by simp only [inR]; omega) ?_
           | refine Ob.mk (by first | omega | (simp; done) | decide | (simp; omega)) ?_
           | refine Ob.mk (show eqOK _ _ = true from by kernel_rfl) ?_
           | refine Ob.mk (show keyOK _ _ _ = true from by kernel_rfl) ?_
           | refine Val.mk _ (shr_val (by simp; rfl)) ?_
           | refine JoinVC.on ?_
           | refine Nils.mk (fun h => ?_) ?_
           | refine Val.mk _ (Int.tmod_eq_emod_of_nonneg (by omega)) ?_
           | refine Val.mk _ (Int.tdiv_eq_ediv_of_nonneg (by omega)) ?_
           | refine Mm.mk ?_
           | (refine Br.mk (fun h => ?_) (fun h => ?_) <;> first | (exfalso; omega; done) | (exfalso; simp at h; done) | skip))
  conv => whnf
  refine CallVC.mk [3] _ _ _ rfl rfl rfl (b47) (fun r m' h' => ?_)
  obtain ⟨rfl, rfl⟩ := h'
  conv => whnf
  repeat' (conv => whnf
           first
           | refine Rng.ok (by simp only [inR]; omega) ?_
           | refine Ob.mk (by first | omega | (simp; done) | decide | (simp; omega)) ?_
           | refine Ob.mk (show eqOK _ _ = true from by kernel_rfl) ?_
           | refine Ob.mk (show keyOK _ _ _ = true from by kernel_rfl) ?_
           | refine Val.mk _ (shr_val (by simp; rfl)) ?_
           | refine JoinVC.on ?_
           | refine Nils.mk (fun h => ?_) ?_
           | refine Val.mk _ (Int.tmod_eq_emod_of_nonneg (by omega)) ?_
           | refine Val.mk _ (Int.tdiv_eq_ediv_of_nonneg (by omega)) ?_
           | refine Mm.mk ?_
           | (refine Br.mk (fun h => ?_) (fun h => ?_) <;> first | (exfalso; omega; done) | (exfalso; simp at h; done) | skip))
  conv => whnf
  refine CallVC.mk [3] _ _ _ rfl rfl rfl (b49 1) (fun r m' h' => ?_)
  obtain ⟨rfl, rfl⟩ := h'
  conv => whnf
  repeat' (conv => whnf
           first
           | refine Rng.ok (by simp only [inR]; omega) ?_
           | refine Ob.mk (by first | omega | (simp; done) | decide | (simp; omega)) ?_
           | refine Ob.mk (show eqOK _ _ = true from by kernel_rfl) ?_
           | refine Ob.mk (show keyOK _ _ _ = true from by kernel_rfl) ?_
           | refine Val.mk _ (shr_val (by simp; rfl)) ?_
           | refine JoinVC.on ?_
           | refine Nils.mk (fun h => ?_) ?_
           | refine Val.mk _ (Int.tmod_eq_emod_of_nonneg (by omega)) ?_
           | refine Val.mk _ (Int.tdiv_eq_ediv_of_nonneg (by omega)) ?_
           | refine Mm.mk ?_
           | (refine Br.mk (fun h => ?_) (fun h => ?_) <;> first | (exfalso; omega; done) | (exfalso; simp at h; done) | skip))
  conv => whnf
  refine CallVC.mk [3] _ _ _ rfl rfl rfl (b50) (fun r m' h' => ?_)
  obtain ⟨rfl, rfl⟩ := h'
  conv => whnf
  repeat' (conv => whnf
           first
           | refine Rng.ok (by simp only [inR]; omega) ?_
           | refine Ob.mk (by first | omega | (simp; done) | decide | (simp; omega)) ?_
           | refine Ob.mk (show eqOK _ _ = true from by kernel_rfl) ?_
           | refine Ob.mk (show keyOK _ _ _ = true from by kernel_rfl) ?_
           | refine Val.mk _ (shr_val (by simp; rfl)) ?_
           | refine JoinVC.on ?_
           | refine Nils.mk (fun h => ?_) ?_
           | refine Val.mk _ (Int.tmod_eq_emod_of_nonneg (by omega)) ?_
           | refine Val.mk _ (Int.tdiv_eq_ediv_of_nonneg (by omega)) ?_
           | refine Mm.mk ?_
           | (refine Br.mk (fun h => ?_) (fun h => ?_) <;> first | (exfalso; omega; done) | (exfalso; simp at h; done) | skip))
  conv => whnf
  refine CallVC.mk [] _ _ _ rfl rfl rfl (s39 m) (fun r m' h' => ?_)
  obtain ⟨hm, rfl, rfl⟩ | ⟨hm, rfl, rfl⟩ := h'
  · repeat' (conv => whnf
             first
             | refine Rng.ok (by simp only [inR]; omega) ?_
             | refine Ob.mk (by first | omega | (simp; done) | decide | (simp; omega)) ?_
             | refine Ob.mk (show eqOK _ _ = true from by kernel_rfl) ?_
             | refine Ob.mk (show keyOK _ _ _ = true from by kernel_rfl) ?_
             | refine Val.mk _ (shr_val (by simp; rfl)) ?_
             | refine JoinVC.on ?_
             | refine Nils.mk (fun h => ?_) ?_
             | refine Val.mk _ (Int.tmod_eq_emod_of_nonneg (by omega)) ?_
             | refine Val.mk _ (Int.tdiv_eq_ediv_of_nonneg (by omega)) ?_
             | refine Mm.mk ?_
             | refine CallVC.pure rfl (s22) ?_
             | refine CallVC0.pure rfl (s22) ?_
             | (refine Br.mk (fun h => ?_) (fun h => ?_) <;> first | (exfalso; omega; done) | (exfalso; simp at h; done) | skip))
    repeat refine Mm.mk ?_
    refine EndVC.mk _ rfl _ _ ⟨rfl, rfl⟩ ?_
    refine ⟨[], rfl, rfl, ?_, ?_⟩ <;> repeat' (first | exact trivial | exact rfl | exact Iff.rfl | apply And.intro)
  repeat' (conv => whnf
           first
           | refine Rng.ok (by simp only [inR]; omega) ?_
           | refine Ob.mk (by first | omega | (simp; done) | decide | (simp; omega)) ?_
           | refine Ob.mk (show eqOK _ _ = true from by kernel_rfl) ?_
           | refine Ob.mk (show keyOK _ _ _ = true from by kernel_rfl) ?_
           | refine Val.mk _ (shr_val (by simp; rfl)) ?_
           | refine JoinVC.on ?_
           | refine Nils.mk (fun h => ?_) ?_
           | refine Val.mk _ (Int.tmod_eq_emod_of_nonneg (by omega)) ?_
           | refine Val.mk _ (Int.tdiv_eq_ediv_of_nonneg (by omega)) ?_
           | refine Mm.mk ?_
           | refine CallVC.pure rfl (s22) ?_
           | refine CallVC0.pure rfl (s22) ?_
           | (refine Br.mk (fun h => ?_) (fun h => ?_) <;> first | (exfalso; omega; done) | (exfalso; simp at h; done) | skip))
  · repeat refine Mm.mk ?_
    refine EndVC.mk _ rfl _ _ ⟨rfl, rfl⟩ ?_
    refine ⟨[], rfl, rfl, ?_, ?_⟩ <;> repeat' (first | exact trivial | exact rfl | exact Iff.rfl | apply And.intro)
  · repeat refine Mm.mk ?_
    refine EndVC.mk _ rfl _ _ ⟨rfl, rfl⟩ ?_
    refine ⟨[], rfl, rfl, ?_, ?_⟩ <;> repeat' (first | exact trivial | exact rfl | exact Iff.rfl | apply And.intro)
  conv => whnf
  refine CallVC.mk [] _ _ _ rfl rfl rfl (s43 m) (fun r m' h' => ?_)
  obtain ⟨hm', rfl, rfl⟩ | ⟨_, rfl, rfl⟩ := h'
  · exact absurd hm hm'
  repeat' (conv => whnf
           first
           | refine Rng.ok (by simp only [inR]; omega) ?_
           | refine Ob.mk (by first | omega | (simp; done) | decide | (simp; omega)) ?_
           | refine Ob.mk (show eqOK _ _ = true from by kernel_rfl) ?_
           | refine Ob.mk (show keyOK _ _ _ = true from by kernel_rfl) ?_
           | refine Val.mk _ (shr_val (by simp; rfl)) ?_
           | refine JoinVC.on ?_
           | refine Nils.mk (fun h => ?_) ?_
           | refine Val.mk _ (Int.tmod_eq_emod_of_nonneg (by omega)) ?_
           | refine Val.mk _ (Int.tdiv_eq_ediv_of_nonneg (by omega)) ?_
           | refine Mm.mk ?_
           | (refine Br.mk (fun h => ?_) (fun h => ?_) <;> first | (exfalso; omega; done) | (exfalso; simp at h; done) | skip))
  refine LoopVC.mk (fun n st => ∃ (i : Nat) (p : Pst) (L : List Disc) (l : MapL), i ≤ A.length ∧ n = A.length - i ∧ PInv m p L ∧ UsedOK l L ∧ st = ⟨0, envA 247 [(1, .x (lActs A)), (2, .x (lActs B)), (3, .x (.one (.ptr 0 0))), (17, .x (.one (.ptr 1 0))), (18, .x (.one (.ptr 5 0))), (19, .int .i64 (i : Int))], [some (bM m), some (bP 2), some (bW 3 4 m p), some (dRow L), some (mpU l), some (bR 6 m p), some (dRow L)]⟩) _ _ ⟨0, _, [], [], Nat.zero_le _, rfl, pinv_new hm, fun k => rfl, rfl⟩ ?_ ?_
  · refine ⟨[some 0, some 10, some 11, some 12, some 13, some 14, some 15], rfl, rfl, ?_, ?_⟩ <;> repeat' (first | exact trivial | exact rfl | exact Iff.rfl | apply And.intro)
  rintro n1 _ ⟨i1, p1, L1, l1, hi1, hn1, hI1, hU1, rfl⟩
  by_cases hi' : i1 < A.length
  · repeat' (conv => whnf
             first
             | refine Rng.ok (by simp only [inR]; omega) ?_
             | refine Ob.mk (by first | omega | (simp; done) | decide | (simp; omega)) ?_
             | refine Ob.mk (show eqOK _ _ = true from by kernel_rfl) ?_
             | refine Ob.mk (show keyOK _ _ _ = true from by kernel_rfl) ?_
             | refine Val.mk _ (shr_val (by simp; rfl)) ?_
             | refine JoinVC.on ?_
             | refine Nils.mk (fun h => ?_) ?_
             | refine Val.mk _ (Int.tmod_eq_emod_of_nonneg (by omega)) ?_
             | refine Val.mk _ (Int.tdiv_eq_ediv_of_nonneg (by omega)) ?_
             | refine Mm.mk ?_
             | (refine Br.mk (fun h => ?_) (fun h => ?_) <;> first | (exfalso; omega; done) | (exfalso; simp at h; done) | skip))
    conv => whnf
    refine CallVC.mk [1, 2, 3, 4] _ _ _ rfl rfl rfl (s41 m p1 L1 l1 hU1 hI1 (rI A (i1 : Int).toNat 0) (rI A (i1 : Int).toNat 1) (rI A (i1 : Int).toNat 2)) (fun r m' h' => ?_)
    obtain ⟨e, l', hu, rfl, rfl⟩ | ⟨e, rfl, rfl⟩ := h'
    · have hI' := pinv_next hI1 e
      conv => whnf
      repeat' (conv => whnf
               first
               | refine Rng.ok (by simp only [inR]; omega) ?_
               | refine Ob.mk (by first | omega | (simp; done) | decide | (simp; omega)) ?_
               | refine Ob.mk (show eqOK _ _ = true from by kernel_rfl) ?_
               | refine Ob.mk (show keyOK _ _ _ = true from by kernel_rfl) ?_
               | refine Val.mk _ (shr_val (by simp; rfl)) ?_
               | refine JoinVC.on ?_
               | refine Nils.mk (fun h => ?_) ?_
               | refine Val.mk _ (Int.tmod_eq_emod_of_nonneg (by omega)) ?_
               | refine Val.mk _ (Int.tdiv_eq_ediv_of_nonneg (by omega)) ?_
               | refine Mm.mk ?_
               | (refine Br.mk (fun h => ?_) (fun h => ?_) <;> first | (exfalso; omega; done) | (exfalso; simp at h; done) | skip))
      conv => whnf
      refine CallVC.mk [5, 6] _ _ _ rfl rfl rfl (s44 m p1 L1 hI1 (rI A (i1 : Int).toNat 0) (rI A (i1 : Int).toNat 1) (rI A (i1 : Int).toNat 2)) (fun r m' h' => ?_)
      obtain ⟨_, rfl, rfl | rfl⟩ | ⟨e', rfl, rfl⟩ := h'
      · conv => whnf
        repeat' (conv => whnf
                 first
                 | refine Rng.ok (by simp only [inR]; omega) ?_
                 | refine Ob.mk (by first | omega | (simp; done) | decide | (simp; omega)) ?_
                 | refine Ob.mk (show eqOK _ _ = true from by kernel_rfl) ?_
                 | refine Ob.mk (show keyOK _ _ _ = true from by kernel_rfl) ?_
                 | refine Val.mk _ (shr_val (by simp; rfl)) ?_
                 | refine JoinVC.on ?_
                 | refine Nils.mk (fun h => ?_) ?_
                 | refine Val.mk _ (Int.tmod_eq_emod_of_nonneg (by omega)) ?_
                 | refine Val.mk _ (Int.tdiv_eq_ediv_of_nonneg (by omega)) ?_
                 | refine Mm.mk ?_
                 | (refine Br.mk (fun h => ?_) (fun h => ?_) <;> first | (exfalso; omega; done) | (exfalso; simp at h; done) | skip))
        refine Back.mk (A.length - (i1 + 1)) _ (by omega) ⟨i1 + 1, _, _, l', by omega, rfl, hI', hu, rfl⟩ ?_
        refine ⟨[some 0, some 1, some 7, some 8, some 9, some 5, some 6], rfl, rfl, ?_, ?_⟩ <;> repeat' (first | exact trivial | exact rfl | exact Iff.rfl | apply And.intro)
      · conv => whnf
        repeat' (conv => whnf
                 first
                 | refine Rng.ok (by simp only [inR]; omega) ?_
                 | refine Ob.mk (by first | omega | (simp; done) | decide | (simp; omega)) ?_
                 | refine Ob.mk (show eqOK _ _ = true from by kernel_rfl) ?_
                 | refine Ob.mk (show keyOK _ _ _ = true from by kernel_rfl) ?_
                 | refine Val.mk _ (shr_val (by simp; rfl)) ?_
                 | refine JoinVC.on ?_
                 | refine Nils.mk (fun h => ?_) ?_
                 | refine Val.mk _ (Int.tmod_eq_emod_of_nonneg (by omega)) ?_
                 | refine Val.mk _ (Int.tdiv_eq_ediv_of_nonneg (by omega)) ?_
                 | refine Mm.mk ?_
                 | (refine Br.mk (fun h => ?_) (fun h => ?_) <;> first | (exfalso; omega; done) | (exfalso; simp at h; done) | skip))
        refine Back.mk (A.length - (i1 + 1)) _ (by omega) ⟨i1 + 1, _, _, l', by omega, rfl, hI', hu, rfl⟩ ?_
        refine ⟨[some 0, some 1, some 7, some 8, some 9, some 5, some 10], rfl, rfl, ?_, ?_⟩ <;> repeat' (first | exact trivial | exact rfl | exact Iff.rfl | apply And.intro)
      · exact absurd e e'
    · conv => whnf
      repeat' (conv => whnf
               first
               | refine Rng.ok (by simp only [inR]; omega) ?_
               | refine Ob.mk (by first | omega | (simp; done) | decide | (simp; omega)) ?_
               | refine Ob.mk (show eqOK _ _ = true from by kernel_rfl) ?_
               | refine Ob.mk (show keyOK _ _ _ = true from by kernel_rfl) ?_
               | refine Val.mk _ (shr_val (by simp; rfl)) ?_
               | refine JoinVC.on ?_
               | refine Nils.mk (fun h => ?_) ?_
               | refine Val.mk _ (Int.tmod_eq_emod_of_nonneg (by omega)) ?_
               | refine Val.mk _ (Int.tdiv_eq_ediv_of_nonneg (by omega)) ?_
               | refine Mm.mk ?_
               | (refine Br.mk (fun h => ?_) (fun h => ?_) <;> first | (exfalso; omega; done) | (exfalso; simp at h; done) | skip))
      conv => whnf
      refine CallVC.mk [5, 6] _ _ _ rfl rfl rfl (s44 m p1 L1 hI1 (rI A (i1 : Int).toNat 0) (rI A (i1 : Int).toNat 1) (rI A (i1 : Int).toNat 2)) (fun r m' h' => ?_)
      obtain ⟨e', _, _⟩ | ⟨e', rfl, rfl⟩ := h'
      · exact absurd e' e
      · conv => whnf
        repeat' (conv => whnf
                 first
                 | refine Rng.ok (by simp only [inR]; omega) ?_
                 | refine Ob.mk (by first | omega | (simp; done) | decide | (simp; omega)) ?_
                 | refine Ob.mk (show eqOK _ _ = true from by kernel_rfl) ?_
                 | refine Ob.mk (show keyOK _ _ _ = true from by kernel_rfl) ?_
                 | refine Val.mk _ (shr_val (by simp; rfl)) ?_
                 | refine JoinVC.on ?_
                 | refine Nils.mk (fun h => ?_) ?_
                 | refine Val.mk _ (Int.tmod_eq_emod_of_nonneg (by omega)) ?_
                 | refine Val.mk _ (Int.tdiv_eq_ediv_of_nonneg (by omega)) ?_
                 | refine Mm.mk ?_
                 | (refine Br.mk (fun h => ?_) (fun h => ?_) <;> first | (exfalso; omega; done) | (exfalso; simp at h; done) | skip))
        refine Back.mk (A.length - (i1 + 1)) _ (by omega) ⟨i1 + 1, _, _, l1, by omega, rfl, hI1, hU1, rfl⟩ ?_
        refine ⟨[some 0, some 1, some 2, some 3, some 4, some 5, some 6], rfl, rfl, ?_, ?_⟩ <;> repeat' (first | exact trivial | exact rfl | exact Iff.rfl | apply And.intro)
  repeat' (conv => whnf
           first
           | refine Rng.ok (by simp only [inR]; omega) ?_
           | refine Ob.mk (by first | omega | (simp; done) | decide | (simp; omega)) ?_
           | refine Ob.mk (show eqOK _ _ = true from by kernel_rfl) ?_
           | refine Ob.mk (show keyOK _ _ _ = true from by kernel_rfl) ?_
           | refine Val.mk _ (shr_val (by simp; rfl)) ?_
           | refine JoinVC.on ?_
           | refine Nils.mk (fun h => ?_) ?_
           | refine Val.mk _ (Int.tmod_eq_emod_of_nonneg (by omega)) ?_
           | refine Val.mk _ (Int.tdiv_eq_ediv_of_nonneg (by omega)) ?_
           | refine Mm.mk ?_
           | (refine Br.mk (fun h => ?_) (fun h => ?_) <;> first | (exfalso; omega; done) | (exfalso; simp at h; done) | skip))
  clear hi' hi1 hn1
  conv => whnf
  refine CallVC.mk [1, 2, 3, 4] _ _ _ rfl rfl rfl (s50 m p1 L1 l1 hI1.len) (fun r m' h' => ?_)
  obtain ⟨rfl, rfl⟩ := h'
  conv => whnf
  repeat' (conv => whnf
           first
           | refine Rng.ok (by simp only [inR]; omega) ?_
           | refine Ob.mk (by first | omega | (simp; done) | decide | (simp; omega)) ?_
           | refine Ob.mk (show eqOK _ _ = true from by kernel_rfl) ?_
           | refine Ob.mk (show keyOK _ _ _ = true from by kernel_rfl) ?_
           | refine Val.mk _ (shr_val (by simp; rfl)) ?_
           | refine JoinVC.on ?_
           | refine Nils.mk (fun h => ?_) ?_
           | refine Val.mk _ (Int.tmod_eq_emod_of_nonneg (by omega)) ?_
           | refine Val.mk _ (Int.tdiv_eq_ediv_of_nonneg (by omega)) ?_
           | refine Mm.mk ?_
           | (refine Br.mk (fun h => ?_) (fun h => ?_) <;> first | (exfalso; omega; done) | (exfalso; simp at h; done) | skip))
  conv => whnf
  refine CallVC.mk [5, 6] _ _ _ rfl rfl rfl (s51 m p1 L1 hI1.len) (fun r m' h' => ?_)
  obtain ⟨rfl, rfl⟩ := h'
  conv => whnf
  repeat' (conv => whnf
           first
           | refine Rng.ok (by simp only [inR]; omega) ?_
           | refine Ob.mk (by first | omega | (simp; done) | decide | (simp; omega)) ?_
           | refine Ob.mk (show eqOK _ _ = true from by kernel_rfl) ?_
           | refine Ob.mk (show keyOK _ _ _ = true from by kernel_rfl) ?_
           | refine Val.mk _ (shr_val (by simp; rfl)) ?_
           | refine JoinVC.on ?_
           | refine Nils.mk (fun h => ?_) ?_
           | refine Val.mk _ (Int.tmod_eq_emod_of_nonneg (by omega)) ?_
           | refine Val.mk _ (Int.tdiv_eq_ediv_of_nonneg (by omega)) ?_
           | refine Mm.mk ?_
           | (refine Br.mk (fun h => ?_) (fun h => ?_) <;> first | (exfalso; omega; done) | (exfalso; simp at h; done) | skip))
  refine LoopVC.mk (fun n st => ∃ (i : Nat) (p : Pst) (L : List Disc) (l : MapL), i ≤ B.length ∧ n = B.length - i ∧ PInv m p L ∧ UsedOK l L ∧ st = ⟨0, envA 247 [(1, .x (lActs A)), (2, .x (lActs B)), (3, .x (.one (.ptr 0 0))), (17, .x (.one (.ptr 1 0))), (18, .x (.one (.ptr 5 0))), (20, .x (.one (.ptr 7 0))), (21, .x (.one (.ptr 11 0))), (22, .int .i64 (i : Int))], [some (bM m), some (bP 2), some (bW 3 4 m p1), some (dRow L1), some (mpU l1), some (bR 6 m p1), some (dRow L1), some (bP 8), some (bW 9 10 m p), some (dRow L), some (mpU l), some (bR 12 m p), some (dRow L)]⟩) _ _ ⟨0, p1, L1, l1, Nat.zero_le _, rfl, hI1, hU1, rfl⟩ ?_ ?_
  · refine ⟨[some 0, some 1, some 2, some 3, some 4, some 5, some 6, some 7, some 8, some 9, some 10, some 11, some 12], rfl, rfl, ?_, ?_⟩ <;> repeat' (first | exact trivial | exact rfl | exact Iff.rfl | apply And.intro)
  rintro n2 _ ⟨i2, p2, L2, l2, hi2, hn2, hI2, hU2, rfl⟩
  by_cases hi' : i2 < B.length
  · repeat' (conv => whnf
             first
             | refine Rng.ok (by simp only [inR]; omega) ?_
             | refine Ob.mk (by first | omega | (simp; done) | decide | (simp; omega)) ?_
             | refine Ob.mk (show eqOK _ _ = true from by kernel_rfl) ?_
             | refine Ob.mk (show keyOK _ _ _ = true from by kernel_rfl) ?_
             | refine Val.mk _ (shr_val (by simp; rfl)) ?_
             | refine JoinVC.on ?_
             | refine Nils.mk (fun h => ?_) ?_
             | refine Val.mk _ (Int.tmod_eq_emod_of_nonneg (by omega)) ?_
             | refine Val.mk _ (Int.tdiv_eq_ediv_of_nonneg (by omega)) ?_
             | refine Mm.mk ?_
             | (refine Br.mk (fun h => ?_) (fun h => ?_) <;> first | (exfalso; omega; done) | (exfalso; simp at h; done) | skip))
    conv => whnf
    refine CallVC.mk [7, 8, 9, 10] _ _ _ rfl rfl rfl (s41 m p2 L2 l2 hU2 hI2 (rI B (i2 : Int).toNat 0) (rI B (i2 : Int).toNat 1) (rI B (i2 : Int).toNat 2)) (fun r m' h' => ?_)
    obtain ⟨e, l', hu, rfl, rfl⟩ | ⟨e, rfl, rfl⟩ := h'
    · have hI' := pinv_next hI2 e
      conv => whnf
      repeat' (conv => whnf
               first
               | refine Rng.ok (by simp only [inR]; omega) ?_
               | refine Ob.mk (by first | omega | (simp; done) | decide | (simp; omega)) ?_
               | refine Ob.mk (show eqOK _ _ = true from by kernel_rfl) ?_
               | refine Ob.mk (show keyOK _ _ _ = true from by kernel_rfl) ?_
               | refine Val.mk _ (shr_val (by simp; rfl)) ?_
               | refine JoinVC.on ?_
               | refine Nils.mk (fun h => ?_) ?_
               | refine Val.mk _ (Int.tmod_eq_emod_of_nonneg (by omega)) ?_
               | refine Val.mk _ (Int.tdiv_eq_ediv_of_nonneg (by omega)) ?_
               | refine Mm.mk ?_
               | (refine Br.mk (fun h => ?_) (fun h => ?_) <;> first | (exfalso; omega; done) | (exfalso; simp at h; done) | skip))
      conv => whnf
      refine CallVC.mk [11, 12] _ _ _ rfl rfl rfl (s44 m p2 L2 hI2 (rI B (i2 : Int).toNat 0) (rI B (i2 : Int).toNat 1) (rI B (i2 : Int).toNat 2)) (fun r m' h' => ?_)
      obtain ⟨_, rfl, rfl | rfl⟩ | ⟨e', rfl, rfl⟩ := h'
      · conv => whnf
        repeat' (conv => whnf
                 first
                 | refine Rng.ok (by simp only [inR]; omega) ?_
                 | refine Ob.mk (by first | omega | (simp; done) | decide | (simp; omega)) ?_
                 | refine Ob.mk (show eqOK _ _ = true from by kernel_rfl) ?_
                 | refine Ob.mk (show keyOK _ _ _ = true from by kernel_rfl) ?_
                 | refine Val.mk _ (shr_val (by simp; rfl)) ?_
                 | refine JoinVC.on ?_
                 | refine Nils.mk (fun h => ?_) ?_
                 | refine Val.mk _ (Int.tmod_eq_emod_of_nonneg (by omega)) ?_
                 | refine Val.mk _ (Int.tdiv_eq_ediv_of_nonneg (by omega)) ?_
                 | refine Mm.mk ?_
                 | (refine Br.mk (fun h => ?_) (fun h => ?_) <;> first | (exfalso; omega; done) | (exfalso; simp at h; done) | skip))
        refine Back.mk (B.length - (i2 + 1)) _ (by omega) ⟨i2 + 1, _, _, l', by omega, rfl, hI', hu, rfl⟩ ?_
        refine ⟨[some 0, some 1, some 2, some 3, some 4, some 5, some 6, some 7, some 13, some 14, some 15, some 11, some 12], rfl, rfl, ?_, ?_⟩ <;> repeat' (first | exact trivial | exact rfl | exact Iff.rfl | apply And.intro)
      · conv => whnf
        repeat' (conv => whnf
                 first
                 | refine Rng.ok (by simp only [inR]; omega) ?_
                 | refine Ob.mk (by first | omega | (simp; done) | decide | (simp; omega)) ?_
                 | refine Ob.mk (show eqOK _ _ = true from by kernel_rfl) ?_
                 | refine Ob.mk (show keyOK _ _ _ = true from by kernel_rfl) ?_
                 | refine Val.mk _ (shr_val (by simp; rfl)) ?_
                 | refine JoinVC.on ?_
                 | refine Nils.mk (fun h => ?_) ?_
                 | refine Val.mk _ (Int.tmod_eq_emod_of_nonneg (by omega)) ?_
                 | refine Val.mk _ (Int.tdiv_eq_ediv_of_nonneg (by omega)) ?_
                 | refine Mm.mk ?_
                 | (refine Br.mk (fun h => ?_) (fun h => ?_) <;> first | (exfalso; omega; done) | (exfalso; simp at h; done) | skip))
        refine Back.mk (B.length - (i2 + 1)) _ (by omega) ⟨i2 + 1, _, _, l', by omega, rfl, hI', hu, rfl⟩ ?_
        refine ⟨[some 0, some 1, some 2, some 3, some 4, some 5, some 6, some 7, some 13, some 14, some 15, some 11, some 16], rfl, rfl, ?_, ?_⟩ <;> repeat' (first | exact trivial | exact rfl | exact Iff.rfl | apply And.intro)
      · exact absurd e e'
    · conv => whnf
      repeat' (conv => whnf
               first
               | refine Rng.ok (by simp only [inR]; omega) ?_
               | refine Ob.mk (by first | omega | (simp; done) | decide | (simp; omega)) ?_
               | refine Ob.mk (show eqOK _ _ = true from by kernel_rfl) ?_
               | refine Ob.mk (show keyOK _ _ _ = true from by kernel_rfl) ?_
               | refine Val.mk _ (shr_val (by simp; rfl)) ?_
               | refine JoinVC.on ?_
               | refine Nils.mk (fun h => ?_) ?_
               | refine Val.mk _ (Int.tmod_eq_emod_of_nonneg (by omega)) ?_
               | refine Val.mk _ (Int.tdiv_eq_ediv_of_nonneg (by omega)) ?_
               | refine Mm.mk ?_
               | (refine Br.mk (fun h => ?_) (fun h => ?_) <;> first | (exfalso; omega; done) | (exfalso; simp at h; done) | skip))
      conv => whnf
      refine CallVC.mk [11, 12] _ _ _ rfl rfl rfl (s44 m p2 L2 hI2 (rI B (i2 : Int).toNat 0) (rI B (i2 : Int).toNat 1) (rI B (i2 : Int).toNat 2)) (fun r m' h' => ?_)
      obtain ⟨e', _, _⟩ | ⟨e', rfl, rfl⟩ := h'
      · exact absurd e' e
      · conv => whnf
        repeat' (conv => whnf
                 first
                 | refine Rng.ok (by simp only [inR]; omega) ?_
                 | refine Ob.mk (by first | omega | (simp; done) | decide | (simp; omega)) ?_
                 | refine Ob.mk (show eqOK _ _ = true from by kernel_rfl) ?_
                 | refine Ob.mk (show keyOK _ _ _ = true from by kernel_rfl) ?_
                 | refine Val.mk _ (shr_val (by simp; rfl)) ?_
                 | refine JoinVC.on ?_
                 | refine Nils.mk (fun h => ?_) ?_
                 | refine Val.mk _ (Int.tmod_eq_emod_of_nonneg (by omega)) ?_
                 | refine Val.mk _ (Int.tdiv_eq_ediv_of_nonneg (by omega)) ?_
                 | refine Mm.mk ?_
                 | (refine Br.mk (fun h => ?_) (fun h => ?_) <;> first | (exfalso; omega; done) | (exfalso; simp at h; done) | skip))
        refine Back.mk (B.length - (i2 + 1)) _ (by omega) ⟨i2 + 1, _, _, l2, by omega, rfl, hI2, hU2, rfl⟩ ?_
        refine ⟨[some 0, some 1, some 2, some 3, some 4, some 5, some 6, some 7, some 8, some 9, some 10, some 11, some 12], rfl, rfl, ?_, ?_⟩ <;> repeat' (first | exact trivial | exact rfl | exact Iff.rfl | apply And.intro)
  have hl2 := hI2.len
  repeat' (conv => whnf
           first
           | refine Rng.ok (by simp only [inR]; omega) ?_
           | refine Ob.mk (by first | omega | (simp; done) | decide | (simp; omega)) ?_
           | refine Ob.mk (show eqOK _ _ = true from by kernel_rfl) ?_
           | refine Ob.mk (show keyOK _ _ _ = true from by kernel_rfl) ?_
           | refine Val.mk _ (shr_val (by simp; rfl)) ?_
           | refine JoinVC.on ?_
           | refine Nils.mk (fun h => ?_) ?_
           | refine Val.mk _ (Int.tmod_eq_emod_of_nonneg (by omega)) ?_
           | refine Val.mk _ (Int.tdiv_eq_ediv_of_nonneg (by omega)) ?_
           | refine Mm.mk ?_
           | (refine Br.mk (fun h => ?_) (fun h => ?_) <;> first | (exfalso; omega; done) | (exfalso; simp at h; done) | skip))
  clear hi' hi2 hn2
  conv => whnf
  refine CallVC.mk [7, 8, 9, 10] _ _ _ rfl rfl rfl (s47 m p2 L2 l2 hI2.len) (fun r m' h' => ?_)
  obtain ⟨rfl, rfl⟩ := h'
  conv => whnf
  repeat' (conv => whnf
           first
           | refine Rng.ok (by simp only [inR]; omega) ?_
           | refine Ob.mk (by first | omega | (simp; done) | decide | (simp; omega)) ?_
           | refine Ob.mk (show eqOK _ _ = true from by kernel_rfl) ?_
           | refine Ob.mk (show keyOK _ _ _ = true from by kernel_rfl) ?_
           | refine Val.mk _ (shr_val (by simp; rfl)) ?_
           | refine JoinVC.on ?_
           | refine Nils.mk (fun h => ?_) ?_
           | refine Val.mk _ (Int.tmod_eq_emod_of_nonneg (by omega)) ?_
           | refine Val.mk _ (Int.tdiv_eq_ediv_of_nonneg (by omega)) ?_
           | refine Mm.mk ?_
           | (refine Br.mk (fun h => ?_) (fun h => ?_) <;> first | (exfalso; omega; done) | (exfalso; simp at h; done) | skip))
  conv => whnf
  refine CallVC.mk [7, 8, 9, 10] _ _ _ rfl rfl rfl (s49 m p2 L2 l2 hI2.len 7) (fun r m' h' => ?_)
  obtain ⟨rfl, rfl⟩ := h'
  conv => whnf
  repeat' (conv => whnf
           first
           | refine Rng.ok (by simp only [inR]; omega) ?_
           | refine Ob.mk (by first | omega | (simp; done) | decide | (simp; omega)) ?_
           | refine Ob.mk (show eqOK _ _ = true from by kernel_rfl) ?_
           | refine Ob.mk (show keyOK _ _ _ = true from by kernel_rfl) ?_
           | refine Val.mk _ (shr_val (by simp; rfl)) ?_
           | refine JoinVC.on ?_
           | refine Nils.mk (fun h => ?_) ?_
           | refine Val.mk _ (Int.tmod_eq_emod_of_nonneg (by omega)) ?_
           | refine Val.mk _ (Int.tdiv_eq_ediv_of_nonneg (by omega)) ?_
           | refine Mm.mk ?_
           | (refine Br.mk (fun h => ?_) (fun h => ?_) <;> first | (exfalso; omega; done) | (exfalso; simp at h; done) | skip))
  refine LoopVC.mk (fun n st => ∃ (i : Nat) (a : Arr), i ≤ a.length ∧ n = a.length - i ∧ a.length ≤ 1000 ∧ st = ⟨0, envA 247 [(1, .x (lActs A)), (2, .x (lActs B)), (3, .x (.one (.ptr 0 0))), (17, .x (.one (.ptr 1 0))), (18, .x (.one (.ptr 5 0))), (20, .x (.one (.ptr 7 0))), (21, .x (.one (.ptr 11 0))), (23, .x (.one (.own 13))), (24, .x (.one (.own 14))), (25, .int .i64 (i : Int))], [some (bM m), some (bP 2), some (bW 3 4 m p1), some (dRow L1), some (mpU l1), some (bR 6 m p1), some (dRow L1), some (bP 8), some (bW 9 10 m p2), some (dRow L2), some (mpU l2), some (bR 12 m p2), some (dRow L2), some (.row 70 false K7 a), some (.row 2 false [.int .i64] (i64s (ofL L2 7)))]⟩) _ _ ⟨0, discA L2, Nat.zero_le _, rfl, by rw [discA_len]; exact hl2, rfl⟩ ?_ ?_
  · refine ⟨[some 0, some 1, some 2, some 3, some 4, some 5, some 6, some 7, some 8, some 9, some 10, some 11, some 12, some 13, some 14], rfl, rfl, ?_, ?_⟩ <;> repeat' (first | exact trivial | exact rfl | exact Iff.rfl | apply And.intro)
  rintro n3 _ ⟨i3, a3, hi3, hn3, ha3, rfl⟩
  by_cases hi' : i3 < a3.length
  · repeat' (conv => whnf
             first
             | refine Rng.ok (by simp only [inR]; omega) ?_
             | refine Ob.mk (by first | omega | (simp; done) | decide | (simp; omega)) ?_
             | refine Ob.mk (show eqOK _ _ = true from by kernel_rfl) ?_
             | refine Ob.mk (show keyOK _ _ _ = true from by kernel_rfl) ?_
             | refine Val.mk _ (shr_val (by simp; rfl)) ?_
             | refine JoinVC.on ?_
             | refine Nils.mk (fun h => ?_) ?_
             | refine Val.mk _ (Int.tmod_eq_emod_of_nonneg (by omega)) ?_
             | refine Val.mk _ (Int.tdiv_eq_ediv_of_nonneg (by omega)) ?_
             | refine Mm.mk ?_
             | (refine Br.mk (fun h => ?_) (fun h => ?_) <;> first | (exfalso; omega; done) | (exfalso; simp at h; done) | skip))
    refine Back.mk (a3.length - (i3 + 1)) _ (by omega) ⟨i3 + 1, updRow a3 (i3 : Int).toNat (0 + 1) [.int 99], by rw [updRow_len]; omega, by rw [updRow_len], by rw [updRow_len]; exact ha3, rfl⟩ ?_
    refine ⟨[some 0, some 1, some 2, some 3, some 4, some 5, some 6, some 7, some 8, some 9, some 10, some 11, some 12, some 13, some 14], rfl, rfl, ?_, ?_⟩ <;> repeat' (first | exact trivial | exact rfl | exact Iff.rfl | apply And.intro)
  have hof := ofL_len L2 7
  repeat' (conv => whnf
           first
           | refine Rng.ok (by simp only [inR]; omega) ?_
           | refine Ob.mk (by first | omega | (simp; done) | decide | (simp; omega)) ?_
           | refine Ob.mk (show eqOK _ _ = true from by kernel_rfl) ?_
           | refine Ob.mk (show keyOK _ _ _ = true from by kernel_rfl) ?_
           | refine Val.mk _ (shr_val (by simp; rfl)) ?_
           | refine JoinVC.on ?_
           | refine Nils.mk (fun h => ?_) ?_
           | refine Val.mk _ (Int.tmod_eq_emod_of_nonneg (by omega)) ?_
           | refine Val.mk _ (Int.tdiv_eq_ediv_of_nonneg (by omega)) ?_
           | refine Mm.mk ?_
           | (refine Br.mk (fun h => ?_) (fun h => ?_) <;> first | (exfalso; omega; done) | (exfalso; simp at h; done) | skip))
  clear hi' hi3 hn3
  refine LoopVC.mk (fun n st => ∃ (i : Nat) (a : Arr), i ≤ a.length ∧ n = a.length - i ∧ a.length ≤ 1000 ∧ st = ⟨0, envA 247 [(1, .x (lActs A)), (2, .x (lActs B)), (3, .x (.one (.ptr 0 0))), (17, .x (.one (.ptr 1 0))), (18, .x (.one (.ptr 5 0))), (20, .x (.one (.ptr 7 0))), (21, .x (.one (.ptr 11 0))), (24, .x (.one (.own 13))), (26, .int .i64 (i : Int))], [some (bM m), some (bP 2), some (bW 3 4 m p1), some (dRow L1), some (mpU l1), some (bR 6 m p1), some (dRow L1), some (bP 8), some (bW 9 10 m p2), some (dRow L2), some (mpU l2), some (bR 12 m p2), some (dRow L2), some (.row 2 false [.int .i64] a)]⟩) _ _ ⟨0, i64s (ofL L2 7), Nat.zero_le _, rfl, by rw [i64s_len]; omega, rfl⟩ ?_ ?_
  · refine ⟨[some 0, some 1, some 2, some 3, some 4, some 5, some 6, some 7, some 8, some 9, some 10, some 11, some 12, some 14], rfl, rfl, ?_, ?_⟩ <;> repeat' (first | exact trivial | exact rfl | exact Iff.rfl | apply And.intro)
  rintro n4 _ ⟨i4, a4, hi4, hn4, ha4, rfl⟩
  by_cases hi' : i4 < a4.length
  · repeat' (conv => whnf
             first
             | refine Rng.ok (by simp only [inR]; omega) ?_
             | refine Ob.mk (by first | omega | (simp; done) | decide | (simp; omega)) ?_
             | refine Ob.mk (show eqOK _ _ = true from by kernel_rfl) ?_
             | refine Ob.mk (show keyOK _ _ _ = true from by kernel_rfl) ?_
             | refine Val.mk _ (shr_val (by simp; rfl)) ?_
             | refine JoinVC.on ?_
             | refine Nils.mk (fun h => ?_) ?_
             | refine Val.mk _ (Int.tmod_eq_emod_of_nonneg (by omega)) ?_
             | refine Val.mk _ (Int.tdiv_eq_ediv_of_nonneg (by omega)) ?_
             | refine Mm.mk ?_
             | (refine Br.mk (fun h => ?_) (fun h => ?_) <;> first | (exfalso; omega; done) | (exfalso; simp at h; done) | skip))
    refine Back.mk (a4.length - (i4 + 1)) _ (by omega) ⟨i4 + 1, updRow a4 (i4 : Int).toNat 0 [.int 99], by rw [updRow_len]; omega, by rw [updRow_len], by rw [updRow_len]; exact ha4, rfl⟩ ?_
    refine ⟨[some 0, some 1, some 2, some 3, some 4, some 5, some 6, some 7, some 8, some 9, some 10, some 11, some 12, some 13], rfl, rfl, ?_, ?_⟩ <;> repeat' (first | exact trivial | exact rfl | exact Iff.rfl | apply And.intro)
  repeat' (conv => whnf
           first
           | refine Rng.ok (by simp only [inR]; omega) ?_
           | refine Ob.mk (by first | omega | (simp; done) | decide | (simp; omega)) ?_
           | refine Ob.mk (show eqOK _ _ = true from by kernel_rfl) ?_
           | refine Ob.mk (show keyOK _ _ _ = true from by kernel_rfl) ?_
           | refine Val.mk _ (shr_val (by simp; rfl)) ?_
           | refine JoinVC.on ?_
           | refine Nils.mk (fun h => ?_) ?_
           | refine Val.mk _ (Int.tmod_eq_emod_of_nonneg (by omega)) ?_
           | refine Val.mk _ (Int.tdiv_eq_ediv_of_nonneg (by omega)) ?_
           | refine Mm.mk ?_
           | (refine Br.mk (fun h => ?_) (fun h => ?_) <;> first | (exfalso; omega; done) | (exfalso; simp at h; done) | skip))
  clear hi' hi4 hn4
  conv => whnf
  refine CallVC.mk [1, 2, 3, 4, 5, 6] _ _ _ rfl rfl rfl (s45 m p1 L1 l1 hI1.len [1, 7, 8, 99] (by decide)) (fun r m' h' => ?_)
  obtain ⟨rfl, rfl⟩ := h'
  conv => whnf
  repeat' (conv => whnf
           first
           | refine Rng.ok (by simp only [inR]; omega) ?_
           | refine Ob.mk (by first | omega | (simp; done) | decide | (simp; omega)) ?_
           | refine Ob.mk (show eqOK _ _ = true from by kernel_rfl) ?_
           | refine Ob.mk (show keyOK _ _ _ = true from by kernel_rfl) ?_
           | refine Val.mk _ (shr_val (by simp; rfl)) ?_
           | refine JoinVC.on ?_
           | refine Nils.mk (fun h => ?_) ?_
           | refine Val.mk _ (Int.tmod_eq_emod_of_nonneg (by omega)) ?_
           | refine Val.mk _ (Int.tdiv_eq_ediv_of_nonneg (by omega)) ?_
           | refine Mm.mk ?_
           | (refine Br.mk (fun h => ?_) (fun h => ?_) <;> first | (exfalso; omega; done) | (exfalso; simp at h; done) | skip))
  conv => whnf
  refine CallVC.mk [7, 8, 9, 10, 11, 12] _ _ _ rfl rfl rfl (s45 m p2 L2 l2 hI2.len [1, 7, 8, 99] (by decide)) (fun r m' h' => ?_)
  obtain ⟨rfl, rfl⟩ := h'
  conv => whnf
  repeat' (conv => whnf
           first
           | refine Rng.ok (by simp only [inR]; omega) ?_
           | refine Ob.mk (by first | omega | (simp; done) | decide | (simp; omega)) ?_
           | refine Ob.mk (show eqOK _ _ = true from by kernel_rfl) ?_
           | refine Ob.mk (show keyOK _ _ _ = true from by kernel_rfl) ?_
           | refine Val.mk _ (shr_val (by simp; rfl)) ?_
           | refine JoinVC.on ?_
           | refine Nils.mk (fun h => ?_) ?_
           | refine Val.mk _ (Int.tmod_eq_emod_of_nonneg (by omega)) ?_
           | refine Val.mk _ (Int.tdiv_eq_ediv_of_nonneg (by omega)) ?_
           | refine Mm.mk ?_
           | (refine Br.mk (fun h => ?_) (fun h => ?_) <;> first | (exfalso; omega; done) | (exfalso; simp at h; done) | skip))
  refine LoopVC.mk (fun n st => ∃ (i : Nat) (p : Pst) (L : List Disc) (l : MapL), i ≤ A.length ∧ n = A.length - i ∧ PInv m p L ∧ UsedOK l L ∧ st = ⟨0, envA 247 [(1, .x (lActs A)), (2, .x (lActs B)), (3, .x (.one (.ptr 0 0))), (17, .x (.one (.ptr 1 0))), (18, .x (.one (.ptr 5 0))), (20, .x (.one (.ptr 7 0))), (21, .x (.one (.ptr 11 0))), (27, .x (.one (.own 13))), (28, .int .i64 (i : Int))], [some (bM m), some (bP 2), some (bW 3 4 m p), some (dRow L), some (mpU l), some (bR 6 m p), some (dRow L), some (bP 8), some (bW 9 10 m p2), some (dRow L2), some (mpU l2), some (bR 12 m p2), some (dRow L2), some (.row 2 false [.int .i64] (i64s [1, 7, 8, 99]))]⟩) _ _ ⟨0, p1, L1, l1, Nat.zero_le _, rfl, hI1, hU1, rfl⟩ ?_ ?_
  · refine ⟨[some 0, some 1, some 2, some 3, some 4, some 5, some 6, some 7, some 8, some 9, some 10, some 11, some 12, some 14], rfl, rfl, ?_, ?_⟩ <;> repeat' (first | exact trivial | exact rfl | exact Iff.rfl | apply And.intro)
  rintro n5 _ ⟨i5, p5, L5, l5, hi5, hn5, hI5, hU5, rfl⟩
  by_cases hi' : i5 < A.length
  · repeat' (conv => whnf
             first
             | refine Rng.ok (by simp only [inR]; omega) ?_
             | refine Ob.mk (by first | omega | (simp; done) | decide | (simp; omega)) ?_
             | refine Ob.mk (show eqOK _ _ = true from by kernel_rfl) ?_
             | refine Ob.mk (show keyOK _ _ _ = true from by kernel_rfl) ?_
             | refine Val.mk _ (shr_val (by simp; rfl)) ?_
             | refine JoinVC.on ?_
             | refine Nils.mk (fun h => ?_) ?_
             | refine Val.mk _ (Int.tmod_eq_emod_of_nonneg (by omega)) ?_
             | refine Val.mk _ (Int.tdiv_eq_ediv_of_nonneg (by omega)) ?_
             | refine Mm.mk ?_
             | (refine Br.mk (fun h => ?_) (fun h => ?_) <;> first | (exfalso; omega; done) | (exfalso; simp at h; done) | skip))
    conv => whnf
    refine CallVC.mk [1, 2, 3, 4] _ _ _ rfl rfl rfl (s41 m p5 L5 l5 hU5 hI5 (rI A (i5 : Int).toNat 0) (rI A (i5 : Int).toNat 1) (rI A (i5 : Int).toNat 2)) (fun r m' h' => ?_)
    obtain ⟨e, l', hu, rfl, rfl⟩ | ⟨e, rfl, rfl⟩ := h'
    · have hI' := pinv_next hI5 e
      conv => whnf
      repeat' (conv => whnf
               first
               | refine Rng.ok (by simp only [inR]; omega) ?_
               | refine Ob.mk (by first | omega | (simp; done) | decide | (simp; omega)) ?_
               | refine Ob.mk (show eqOK _ _ = true from by kernel_rfl) ?_
               | refine Ob.mk (show keyOK _ _ _ = true from by kernel_rfl) ?_
               | refine Val.mk _ (shr_val (by simp; rfl)) ?_
               | refine JoinVC.on ?_
               | refine Nils.mk (fun h => ?_) ?_
               | refine Val.mk _ (Int.tmod_eq_emod_of_nonneg (by omega)) ?_
               | refine Val.mk _ (Int.tdiv_eq_ediv_of_nonneg (by omega)) ?_
               | refine Mm.mk ?_
               | (refine Br.mk (fun h => ?_) (fun h => ?_) <;> first | (exfalso; omega; done) | (exfalso; simp at h; done) | skip))
      conv => whnf
      refine CallVC.mk [5, 6] _ _ _ rfl rfl rfl (s44 m p5 L5 hI5 (rI A (i5 : Int).toNat 0) (rI A (i5 : Int).toNat 1) (rI A (i5 : Int).toNat 2)) (fun r m' h' => ?_)
      obtain ⟨_, rfl, rfl | rfl⟩ | ⟨e', rfl, rfl⟩ := h'
      · conv => whnf
        repeat' (conv => whnf
                 first
                 | refine Rng.ok (by simp only [inR]; omega) ?_
                 | refine Ob.mk (by first | omega | (simp; done) | decide | (simp; omega)) ?_
                 | refine Ob.mk (show eqOK _ _ = true from by kernel_rfl) ?_
                 | refine Ob.mk (show keyOK _ _ _ = true from by kernel_rfl) ?_
                 | refine Val.mk _ (shr_val (by simp; rfl)) ?_
                 | refine JoinVC.on ?_
                 | refine Nils.mk (fun h => ?_) ?_
                 | refine Val.mk _ (Int.tmod_eq_emod_of_nonneg (by omega)) ?_
                 | refine Val.mk _ (Int.tdiv_eq_ediv_of_nonneg (by omega)) ?_
                 | refine Mm.mk ?_
                 | (refine Br.mk (fun h => ?_) (fun h => ?_) <;> first | (exfalso; omega; done) | (exfalso; simp at h; done) | skip))
        refine Back.mk (A.length - (i5 + 1)) _ (by omega) ⟨i5 + 1, _, _, l', by omega, rfl, hI', hu, rfl⟩ ?_
        refine ⟨[some 0, some 1, some 14, some 15, some 16, some 5, some 6, some 7, some 8, some 9, some 10, some 11, some 12, some 13], rfl, rfl, ?_, ?_⟩ <;> repeat' (first | exact trivial | exact rfl | exact Iff.rfl | apply And.intro)
      · conv => whnf
        repeat' (conv => whnf
                 first
                 | refine Rng.ok (by simp only [inR]; omega) ?_
                 | refine Ob.mk (by first | omega | (simp; done) | decide | (simp; omega)) ?_
                 | refine Ob.mk (show eqOK _ _ = true from by kernel_rfl) ?_
                 | refine Ob.mk (show keyOK _ _ _ = true from by kernel_rfl) ?_
                 | refine Val.mk _ (shr_val (by simp; rfl)) ?_
                 | refine JoinVC.on ?_
                 | refine Nils.mk (fun h => ?_) ?_
                 | refine Val.mk _ (Int.tmod_eq_emod_of_nonneg (by omega)) ?_
                 | refine Val.mk _ (Int.tdiv_eq_ediv_of_nonneg (by omega)) ?_
                 | refine Mm.mk ?_
                 | (refine Br.mk (fun h => ?_) (fun h => ?_) <;> first | (exfalso; omega; done) | (exfalso; simp at h; done) | skip))
        refine Back.mk (A.length - (i5 + 1)) _ (by omega) ⟨i5 + 1, _, _, l', by omega, rfl, hI', hu, rfl⟩ ?_
        refine ⟨[some 0, some 1, some 14, some 15, some 16, some 5, some 17, some 7, some 8, some 9, some 10, some 11, some 12, some 13], rfl, rfl, ?_, ?_⟩ <;> repeat' (first | exact trivial | exact rfl | exact Iff.rfl | apply And.intro)
      · exact absurd e e'
    · conv => whnf
      repeat' (conv => whnf
               first
               | refine Rng.ok (by simp only [inR]; omega) ?_
               | refine Ob.mk (by first | omega | (simp; done) | decide | (simp; omega)) ?_
               | refine Ob.mk (show eqOK _ _ = true from by kernel_rfl) ?_
               | refine Ob.mk (show keyOK _ _ _ = true from by kernel_rfl) ?_
               | refine Val.mk _ (shr_val (by simp; rfl)) ?_
               | refine JoinVC.on ?_
               | refine Nils.mk (fun h => ?_) ?_
               | refine Val.mk _ (Int.tmod_eq_emod_of_nonneg (by omega)) ?_
               | refine Val.mk _ (Int.tdiv_eq_ediv_of_nonneg (by omega)) ?_
               | refine Mm.mk ?_
               | (refine Br.mk (fun h => ?_) (fun h => ?_) <;> first | (exfalso; omega; done) | (exfalso; simp at h; done) | skip))
      conv => whnf
      refine CallVC.mk [5, 6] _ _ _ rfl rfl rfl (s44 m p5 L5 hI5 (rI A (i5 : Int).toNat 0) (rI A (i5 : Int).toNat 1) (rI A (i5 : Int).toNat 2)) (fun r m' h' => ?_)
      obtain ⟨e', _, _⟩ | ⟨e', rfl, rfl⟩ := h'
      · exact absurd e' e
      · conv => whnf
        repeat' (conv => whnf
                 first
                 | refine Rng.ok (by simp only [inR]; omega) ?_
                 | refine Ob.mk (by first | omega | (simp; done) | decide | (simp; omega)) ?_
                 | refine Ob.mk (show eqOK _ _ = true from by kernel_rfl) ?_
                 | refine Ob.mk (show keyOK _ _ _ = true from by kernel_rfl) ?_
                 | refine Val.mk _ (shr_val (by simp; rfl)) ?_
                 | refine JoinVC.on ?_
                 | refine Nils.mk (fun h => ?_) ?_
                 | refine Val.mk _ (Int.tmod_eq_emod_of_nonneg (by omega)) ?_
                 | refine Val.mk _ (Int.tdiv_eq_ediv_of_nonneg (by omega)) ?_
                 | refine Mm.mk ?_
                 | (refine Br.mk (fun h => ?_) (fun h => ?_) <;> first | (exfalso; omega; done) | (exfalso; simp at h; done) | skip))
        refine Back.mk (A.length - (i5 + 1)) _ (by omega) ⟨i5 + 1, _, _, l5, by omega, rfl, hI5, hU5, rfl⟩ ?_
        refine ⟨[some 0, some 1, some 2, some 3, some 4, some 5, some 6, some 7, some 8, some 9, some 10, some 11, some 12, some 13], rfl, rfl, ?_, ?_⟩ <;> repeat' (first | exact trivial | exact rfl | exact Iff.rfl | apply And.intro)
  repeat' (conv => whnf
           first
           | refine Rng.ok (by simp only [inR]; omega) ?_
           | refine Ob.mk (by first | omega | (simp; done) | decide | (simp; omega)) ?_
           | refine Ob.mk (show eqOK _ _ = true from by kernel_rfl) ?_
           | refine Ob.mk (show keyOK _ _ _ = true from by kernel_rfl) ?_
           | refine Val.mk _ (shr_val (by simp; rfl)) ?_
           | refine JoinVC.on ?_
           | refine Nils.mk (fun h => ?_) ?_
           | refine Val.mk _ (Int.tmod_eq_emod_of_nonneg (by omega)) ?_
           | refine Val.mk _ (Int.tdiv_eq_ediv_of_nonneg (by omega)) ?_
           | refine Mm.mk ?_
           | (refine Br.mk (fun h => ?_) (fun h => ?_) <;> first | (exfalso; omega; done) | (exfalso; simp at h; done) | skip))
  conv => whnf
  refine CallVC.mk [1, 2, 3, 4, 5, 6] _ _ _ rfl rfl rfl (s45 m p5 L5 l5 hI5.len [1, 7, 8, 99] (by decide)) (fun r m' h' => ?_)
  obtain ⟨rfl, rfl⟩ := h'
  conv => whnf
  repeat' (conv => whnf
           first
           | refine Rng.ok (by simp only [inR]; omega) ?_
           | refine Ob.mk (by first | omega | (simp; done) | decide | (simp; omega)) ?_
           | refine Ob.mk (show eqOK _ _ = true from by kernel_rfl) ?_
           | refine Ob.mk (show keyOK _ _ _ = true from by kernel_rfl) ?_
           | refine Val.mk _ (shr_val (by simp; rfl)) ?_
           | refine JoinVC.on ?_
           | refine Nils.mk (fun h => ?_) ?_
           | refine Val.mk _ (Int.tmod_eq_emod_of_nonneg (by omega)) ?_
           | refine Val.mk _ (Int.tdiv_eq_ediv_of_nonneg (by omega)) ?_
           | refine Mm.mk ?_
           | (refine Br.mk (fun h => ?_) (fun h => ?_) <;> first | (exfalso; omega; done) | (exfalso; simp at h; done) | skip))
  conv => whnf
  refine CallVC.mk [7, 8, 9, 10, 11, 12] _ _ _ rfl rfl rfl (s45 m p2 L2 l2 hI2.len [1, 7, 8, 99] (by decide)) (fun r m' h' => ?_)
  obtain ⟨rfl, rfl⟩ := h'
  conv => whnf
  repeat' (conv => whnf
           first
           | refine Rng.ok (by simp only [inR]; omega) ?_
           | refine Ob.mk (by first | omega | (simp; done) | decide | (simp; omega)) ?_
           | refine Ob.mk (show eqOK _ _ = true from by kernel_rfl) ?_
           | refine Ob.mk (show keyOK _ _ _ = true from by kernel_rfl) ?_
           | refine Val.mk _ (shr_val (by simp; rfl)) ?_
           | refine JoinVC.on ?_
           | refine Nils.mk (fun h => ?_) ?_
           | refine Val.mk _ (Int.tmod_eq_emod_of_nonneg (by omega)) ?_
           | refine Val.mk _ (Int.tdiv_eq_ediv_of_nonneg (by omega)) ?_
           | refine Mm.mk ?_
           | refine CallVC.pure rfl (s22) ?_
           | refine CallVC0.pure rfl (s22) ?_
           | (refine Br.mk (fun h => ?_) (fun h => ?_) <;> first | (exfalso; omega; done) | (exfalso; simp at h; done) | skip))
  repeat refine Mm.mk ?_
  refine EndVC.mk _ rfl _ _ ⟨rfl, rfl⟩ ?_
  refine ⟨[], rfl, rfl, ?_, ?_⟩ <;> repeat' (first | exact trivial | exact rfl | exact Iff.rfl | apply And.intro)
end Go.Sx
