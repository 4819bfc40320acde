import Derived.Test.YthfdbmgjkjeccaaPrPressGoodA
namespace Go.Sx
open Go Go.Proofs
set_option maxRecDepth 10000
set_option maxHeartbeats 4000000
theorem e40 : EntersF Try.prog 40 := enters_of Try.func40 (c := bodyOf Try.f40) (by kernel_rfl) rfl
theorem e11 : EntersF Try.prog 11 := enters_of Try.func11 (c := bodyOf Try.f11) (by kernel_rfl) rfl
theorem HSpec.mono {P : Program} {f : FuncId} {args : List XV} {m : List Blk} {Rs Rs' : AV → List (Option Blk) → Prop} (h : HSpec P f args m Rs) (hm : ∀ r m', Rs r m' → Rs' r m') : HSpec P f args m Rs' := by
  intro w R vs h1 h2
  have fin : ∀ (e : Ending) (w' : World), (∃ v r m' R', e = .returned v ∧ Rs r m' ∧ Fr w R (m.map some) w' R' m' ∧ RepA w' R' r v) → ∃ v r m' R', e = .returned v ∧ Rs' r m' ∧ Fr w R (m.map some) w' R' m' ∧ RepA w' R' r v := by
    rintro e w' ⟨v, r, m', R', g1, g2, g3, g4⟩
    exact ⟨v, r, m', R', g1, hm r m' g2, g3, g4⟩
  rcases h w R vs h1 h2 with ⟨q1, q2⟩ | ⟨v, w', q1, q2⟩
  · exact .inl ⟨q1, q2.mono fin⟩
  · exact .inr ⟨v, w', q1, fin _ _ q2⟩
/-- An act that is done. -/
theorem s41k {m : Mac} {p : Pst} {L : List Disc} {l : MapL} (hl : UsedOK l L) (hI : PInv m p L) {k a b : Int} (e : errD m p L k a b = 0) :
    HSpec Try.prog 41 [.one (.ptr 0 0), .agg [.int .i64 k, .int .i64 a, .int .i64 b]] [bP 1, bW 2 3 m p, dRow L, mpU l] (fun r m' => ∃ l', UsedOK l' (nextL m p L k) ∧ r = .tup [(outD m p L k).x, I 0] ∧ m' = [some (bP 4), none, none, none, some (bW 5 6 m (nextP m p k a b)), some (dRow (nextL m p L k)), some (mpU l')]) :=
  (s41 m p L l hl hI k a b).mono fun _ _ h => h.elim (fun h => h.2) (fun h => absurd e h.1)
/-- A press with two stampers, loaded and closed. -/
@[reducible] def begun (p : Pst) (a b : Int) : Pst := { p with a := a, b := b, ld := true, cl := true, h := 0, pk := p.t }
theorem begin_ok {m : Mac} {p : Pst} (hI : PInv m p []) (h1 : p.cl = false) (h2 : p.ld = false) {a b : Int} (ha : 1 ≤ a ∧ a ≤ 1073741824) (hb : 1 ≤ b ∧ b ≤ 1073741824) (hab : a ≠ b) :
    errD m p [] 1 a b = 0 ∧ errD m { p with a := a, b := b } [] 2 0 0 = 0 ∧ errD m { p with a := a, b := b, ld := true } [] 3 0 0 = 0 := by
  have hl := hI.ok.2.2.2.2.2.2.2.2.2.2.2.2.2.1
  have ho : ∀ a b, ¬ oldP m [] a b := fun a b => by unfold oldP; simp [useC]; omega
  refine ⟨?_, ?_, ?_⟩
  · rw [errD1, if_neg (by unfold outN; omega), if_neg hab, if_neg (by rw [h1]; decide), if_neg (by rw [h2]; decide), if_neg (ho _ _)]
  · rw [errD2, if_neg (by rw [h1]; decide), if_neg (by simp only [h2]; intro h; rcases h with h | h; cases h; omega), if_neg (ho _ _), if_neg (by decide)]
  · rw [errD3, if_neg (by simp only [h1]; simp)]
theorem s40 (m : Mac) (p : Pst) (l : MapL) (hU : UsedOK l []) (hI : PInv m p []) (h1 : p.cl = false) (h2 : p.ld = false) (a b : Int) (ha : 1 ≤ a ∧ a ≤ 1073741824) (hb : 1 ≤ b ∧ b ≤ 1073741824) (hab : a ≠ b) :
    HSpec Try.prog 40 [.one (.ptr 0 0), I a, I b] (mP m p [] l) (fun r m' => ∃ l', UsedOK l' [] ∧ PInv m (begun p a b) [] ∧ r = xP True ∧ m' = [some (bP 4), none, none, none, some (bW 5 6 m (begun p a b)), some (dRow []), some (mpU l')]) := by
  obtain ⟨e1, e2, e3⟩ := begin_ok hI h1 h2 ha hb hab
  have i1 : PInv m { p with a := a, b := b } [] := pinv_next hI e1
  have i2 : PInv m { p with a := a, b := b, ld := true } [] := pinv_next i1 e2
  have i3 : PInv m (begun p a b) [] := pinv_next i2 e3
  refine spec_of pMix (O := []) Try.func40 (c := bodyOf Try.f40) rfl (by kernel_rfl) (by kernel_rfl) Try.ntmps40 (res := [.tmp 6]) (by kernel_rfl) ?_
  repeat' (conv => whnf
           first
           | refine Rng.ok (by simp only [inR]; omega) ?_
           | refine Ob.mk (by first | omega | (simp; done) | decide | (simp; omega)) ?_
           | refine Ob.mk (show eqOK _ _ = true from by kernel_rfl) ?_
           | refine Ob.mk (show keyOK _ _ _ = true from by kernel_rfl) ?_
           | refine Val.mk _ (shr_val (by simp; rfl)) ?_
           | refine JoinVC.on ?_
           | refine Nils.mk (fun h => ?_) ?_
           | refine Val.mk _ (Int.tmod_eq_emod_of_nonneg (by omega)) ?_
           | refine Val.mk _ (Int.tdiv_eq_ediv_of_nonneg (by omega)) ?_
           | refine Mm.mk ?_
           | (refine Br.mk (fun h => ?_) (fun h => ?_) <;> first | (exfalso; omega; done) | (exfalso; simp at h; done) | skip))
  conv => whnf
  refine CallVC.mk [0, 1, 2, 3] _ _ _ rfl rfl rfl (s41k hU hI e1) (fun r m' h' => ?_)
  obtain ⟨l1, u1, rfl, rfl⟩ := h'
  conv => whnf
  repeat' (conv => whnf
           first
           | refine Rng.ok (by simp only [inR]; omega) ?_
           | refine Ob.mk (by first | omega | (simp; done) | decide | (simp; omega)) ?_
           | refine Ob.mk (show eqOK _ _ = true from by kernel_rfl) ?_
           | refine Ob.mk (show keyOK _ _ _ = true from by kernel_rfl) ?_
           | refine Val.mk _ (shr_val (by simp; rfl)) ?_
           | refine JoinVC.on ?_
           | refine Nils.mk (fun h => ?_) ?_
           | refine Val.mk _ (Int.tmod_eq_emod_of_nonneg (by omega)) ?_
           | refine Val.mk _ (Int.tdiv_eq_ediv_of_nonneg (by omega)) ?_
           | refine Mm.mk ?_
           | (refine Br.mk (fun h => ?_) (fun h => ?_) <;> first | (exfalso; omega; done) | (exfalso; simp at h; done) | skip))
  conv => whnf
  refine CallVC.mk [0, 4, 5, 6] _ _ _ rfl rfl rfl (s41k (p := { p with a := a, b := b }) u1 i1 e2) (fun r m' h' => ?_)
  obtain ⟨l2, u2, rfl, rfl⟩ := h'
  conv => whnf
  repeat' (conv => whnf
           first
           | refine Rng.ok (by simp only [inR]; omega) ?_
           | refine Ob.mk (by first | omega | (simp; done) | decide | (simp; omega)) ?_
           | refine Ob.mk (show eqOK _ _ = true from by kernel_rfl) ?_
           | refine Ob.mk (show keyOK _ _ _ = true from by kernel_rfl) ?_
           | refine Val.mk _ (shr_val (by simp; rfl)) ?_
           | refine JoinVC.on ?_
           | refine Nils.mk (fun h => ?_) ?_
           | refine Val.mk _ (Int.tmod_eq_emod_of_nonneg (by omega)) ?_
           | refine Val.mk _ (Int.tdiv_eq_ediv_of_nonneg (by omega)) ?_
           | refine Mm.mk ?_
           | (refine Br.mk (fun h => ?_) (fun h => ?_) <;> first | (exfalso; omega; done) | (exfalso; simp at h; done) | skip))
  conv => whnf
  refine CallVC.mk [0, 8, 9, 10] _ _ _ rfl rfl rfl (s41k (p := { p with a := a, b := b, ld := true }) u2 i2 e3) (fun r m' h' => ?_)
  obtain ⟨l3, u3, rfl, rfl⟩ := h'
  conv => whnf
  repeat' (conv => whnf
           first
           | refine Rng.ok (by simp only [inR]; omega) ?_
           | refine Ob.mk (by first | omega | (simp; done) | decide | (simp; omega)) ?_
           | refine Ob.mk (show eqOK _ _ = true from by kernel_rfl) ?_
           | refine Ob.mk (show keyOK _ _ _ = true from by kernel_rfl) ?_
           | refine Val.mk _ (shr_val (by simp; rfl)) ?_
           | refine JoinVC.on ?_
           | refine Nils.mk (fun h => ?_) ?_
           | refine Val.mk _ (Int.tmod_eq_emod_of_nonneg (by omega)) ?_
           | refine Val.mk _ (Int.tdiv_eq_ediv_of_nonneg (by omega)) ?_
           | refine Mm.mk ?_
           | (refine Br.mk (fun h => ?_) (fun h => ?_) <;> first | (exfalso; omega; done) | (exfalso; simp at h; done) | skip))
  repeat refine Mm.mk ?_
  conv => whnf
  refine EndVC.mk _ rfl _ _ (⟨l3, u3, i3, rfl, rfl⟩) ?_
  refine ⟨[some 0, none, none, none, some 12, some 13, some 14], rfl, rfl, ?_, ?_⟩ <;> repeat' (first | exact trivial | exact rfl | exact Iff.rfl | apply And.intro)
  change _ ↔ _
  simp
@[reducible] def lU (xs : List Int) : XV := .one (.lst true [.int .u8] (i64s xs))
/-- A press that was begun, after some ticks. -/
structure GInv (m : Mac) (q : Pst) : Prop where
  inv : PInv m q []
  cl : q.cl = true
  good : 1 ≤ q.h → m.melt ≤ q.pk
theorem GInv.valve {m : Mac} {q : Pst} (h : GInv m q) {v : Int} (hv : 0 ≤ v ∧ v ≤ 2) : errD m q [] 4 v 0 = 0 ∧ GInv m { q with v := v } := by
  have e : errD m q [] 4 v 0 = 0 := by rw [errD4, if_neg (by omega), if_neg (fun g => g.2 h.cl)]
  exact ⟨e, pinv_next h.inv e, h.cl, h.good⟩
theorem GInv.step {m : Mac} {q : Pst} (n : Nat) (hcl : q.cl = true) (hg : 1 ≤ q.h → m.melt ≤ q.pk) : ((waitS m n q).cl = true) ∧ (1 ≤ (waitS m n q).h → m.melt ≤ (waitS m n q).pk) := by
  induction n with
  | zero => exact ⟨hcl, hg⟩
  | succ n ih =>
    refine ⟨ih.1, fun h => ?_⟩
    simp only [waitS, tickS, ih.1, if_true, true_and] at h ⊢
    by_cases h1 : m.melt ≤ tickF m (waitS m n q).t (waitS m n q).v
    · omega
    · rw [if_neg h1] at h
      have := ih.2 h
      omega
theorem GInv.wait {m : Mac} {q : Pst} (h : GInv m q) {n : Int} (hn : 1 ≤ n ∧ n ≤ 1000) (ht : q.tm + n ≤ 1073741824) : errD m q [] 5 n 0 = 0 ∧ GInv m (nextP m q 5 n 0) := by
  have e : errD m q [] 5 n 0 = 0 := by rw [errD5, if_neg (by omega), if_neg (by omega)]
  have g := GInv.step (m := m) (q := { q with tm := q.tm + n }) n.toNat h.cl h.good
  exact ⟨e, pinv_next h.inv e, g.1, g.2⟩
theorem s18k {m : Mac} (hm : m.ok) {T v : Int} (ht : m.room ≤ T ∧ T ≤ m.top) (hv : 0 ≤ v ∧ v ≤ 2) : PSpec Try.prog 18 [m.x, I T, I v] (.tup [I (tickF m T v), I 0]) := by
  have h := s18 m T v
  obtain ⟨h1, h2⟩ := tick_in (m := m) (t := T) (v := v) (by rw [Mac.chk0 hm]; decide) (by unfold inTick; omega)
  rw [← h1, ← h2] at h
  exact h
theorem s11 (m : Mac) (xs ys : List Int) (hx : ∀ j, 0 ≤ xs.getD j 0 ∧ xs.getD j 0 ≤ 255) (hy : ∀ j, 0 ≤ ys.getD j 0 ∧ ys.getD j 0 ≤ 255) : PSpec Try.prog 11 [m.x, lU xs, lU ys] (xP True) := by
  have lx := i64s_len xs
  have ly := i64s_len ys
  by_cases hm : m.ok
  rotate_left
  · have hc := Mac.chk2 hm
    refine spec_of pMix (O := []) Try.func11 (c := bodyOf Try.f11) rfl (by kernel_rfl) (by kernel_rfl) Try.ntmps11 (res := [.tmp 6]) (by kernel_rfl) ?_
    repeat' (conv => whnf
             first
             | refine Rng.ok (by simp only [inR]; omega) ?_
             | refine Ob.mk (by first | omega | (simp; done) | decide | (simp; omega)) ?_
             | refine Ob.mk (show eqOK _ _ = true from by kernel_rfl) ?_
             | refine Ob.mk (show keyOK _ _ _ = true from by kernel_rfl) ?_
             | refine Val.mk _ (shr_val (by simp; rfl)) ?_
             | refine JoinVC.on ?_
             | refine Nils.mk (fun h => ?_) ?_
             | refine Val.mk _ (Int.tmod_eq_emod_of_nonneg (by omega)) ?_
             | refine Val.mk _ (Int.tdiv_eq_ediv_of_nonneg (by omega)) ?_
             | refine Mm.mk ?_
             | refine CallVC.pure rfl (s21 m) ?_
             | refine CallVC.pure rfl (s22) ?_
             | refine CallVC0.pure rfl (s21 m) ?_
             | refine CallVC0.pure rfl (s22) ?_
             | (refine Br.mk (fun h => ?_) (fun h => ?_) <;> first | (exfalso; omega; done) | (exfalso; simp at h; done) | skip))
    repeat refine Mm.mk ?_
    refine EndVC.mk _ rfl _ _ ⟨rfl, rfl⟩ ?_
    refine ⟨[], rfl, rfl, ?_, ?_⟩ <;> repeat' (first | exact trivial | exact rfl | exact Iff.rfl | apply And.intro)
  have hc := Mac.chk0 hm
  refine spec_of pMix (O := []) Try.func11 (c := bodyOf Try.f11) rfl (by kernel_rfl) (by kernel_rfl) Try.ntmps11 (res := [.tmp 6]) (by kernel_rfl) ?_
  repeat' (conv => whnf
           first
           | refine Rng.ok (by simp only [inR]; omega) ?_
           | refine Ob.mk (by first | omega | (simp; done) | decide | (simp; omega)) ?_
           | refine Ob.mk (show eqOK _ _ = true from by kernel_rfl) ?_
           | refine Ob.mk (show keyOK _ _ _ = true from by kernel_rfl) ?_
           | refine Val.mk _ (shr_val (by simp; rfl)) ?_
           | refine JoinVC.on ?_
           | refine Nils.mk (fun h => ?_) ?_
           | refine Val.mk _ (Int.tmod_eq_emod_of_nonneg (by omega)) ?_
           | refine Val.mk _ (Int.tdiv_eq_ediv_of_nonneg (by omega)) ?_
           | refine Mm.mk ?_
           | refine CallVC.pure rfl (s21 m) ?_
           | refine CallVC.pure rfl (s22) ?_
           | refine CallVC0.pure rfl (s21 m) ?_
           | refine CallVC0.pure rfl (s22) ?_
           | (refine Br.mk (fun h => ?_) (fun h => ?_) <;> first | (exfalso; omega; done) | (exfalso; simp at h; done) | skip))
  · repeat refine Mm.mk ?_
    refine EndVC.mk _ rfl _ _ ⟨rfl, rfl⟩ ?_
    refine ⟨[], rfl, rfl, ?_, ?_⟩ <;> repeat' (first | exact trivial | exact rfl | exact Iff.rfl | apply And.intro)
  conv => whnf
  refine CallVC.mk [] _ _ _ rfl rfl rfl (s39 m) (fun r m' h' => ?_)
  obtain ⟨hm', rfl, rfl⟩ | ⟨_, rfl, rfl⟩ := h'
  · exact absurd hm hm'
  repeat' (conv => whnf
           first
           | refine Rng.ok (by simp only [inR]; omega) ?_
           | refine Ob.mk (by first | omega | (simp; done) | decide | (simp; omega)) ?_
           | refine Ob.mk (show eqOK _ _ = true from by kernel_rfl) ?_
           | refine Ob.mk (show keyOK _ _ _ = true from by kernel_rfl) ?_
           | refine Val.mk _ (shr_val (by simp; rfl)) ?_
           | refine JoinVC.on ?_
           | refine Nils.mk (fun h => ?_) ?_
           | refine Val.mk _ (Int.tmod_eq_emod_of_nonneg (by omega)) ?_
           | refine Val.mk _ (Int.tdiv_eq_ediv_of_nonneg (by omega)) ?_
           | refine Mm.mk ?_
           | (refine Br.mk (fun h => ?_) (fun h => ?_) <;> first | (exfalso; omega; done) | (exfalso; simp at h; done) | skip))
  conv => whnf
  refine CallVC.mk [1, 2, 3, 4] _ _ _ rfl rfl rfl (s40 m _ [] (fun k => rfl) (pinv_new hm) rfl rfl 1 2 (by decide) (by decide) (by decide)) (fun r m' h' => ?_)
  obtain ⟨l1, u1, i1, rfl, rfl⟩ := h'
  conv => whnf
  repeat' (conv => whnf
           first
           | refine Rng.ok (by simp only [inR]; omega) ?_
           | refine Ob.mk (by first | omega | (simp; done) | decide | (simp; omega)) ?_
           | refine Ob.mk (show eqOK _ _ = true from by kernel_rfl) ?_
           | refine Ob.mk (show keyOK _ _ _ = true from by kernel_rfl) ?_
           | refine Val.mk _ (shr_val (by simp; rfl)) ?_
           | refine JoinVC.on ?_
           | refine Nils.mk (fun h => ?_) ?_
           | refine Val.mk _ (Int.tmod_eq_emod_of_nonneg (by omega)) ?_
           | refine Val.mk _ (Int.tdiv_eq_ediv_of_nonneg (by omega)) ?_
           | refine Mm.mk ?_
           | (refine Br.mk (fun h => ?_) (fun h => ?_) <;> first | (exfalso; omega; done) | (exfalso; simp at h; done) | skip))
  have g0 : GInv m (begun ⟨false, false, 0, m.room, 0, 0, 0, 0, 0⟩ 1 2) := ⟨i1, rfl, fun h => by simp at h⟩
  refine LoopVC.mk (fun n st => ∃ (i : Nat) (q : Pst) (l : MapL), i ≤ xs.length ∧ n = xs.length - i ∧ GInv m q ∧ UsedOK l [] ∧ q.tm ≤ 60 * i ∧ st = ⟨0, envA 186 [(1, .x (lU xs)), (2, .x (lU ys)), (3, .x (.one (.ptr 0 0))), (7, .x (.one (.ptr 1 0))), (9, .int .i64 q.t), (10, .int .i64 q.pk), (11, .int .i64 q.h), (12, .int .i64 (i : Int))], [some (bM m), some (bP 2), some (bW 3 4 m q), some (dRow []), some (mpU l)]⟩) _ _ ⟨0, _, l1, Nat.zero_le _, rfl, g0, u1, by simp, rfl⟩ ?_ ?_
  · refine ⟨[some 0, some 1, some 5, some 6, some 7], rfl, rfl, ?_, ?_⟩ <;> repeat' (first | exact trivial | exact rfl | exact Iff.rfl | apply And.intro)
  rintro n _ ⟨i, q, l, hi, hn, hG, hU, htm, rfl⟩
  have gx : rI (i64s xs) (i : Int).toNat 0 = xs.getD i 0 := by rw [Int.toNat_natCast, i64s_get]
  have gy : rI (i64s ys) (i : Int).toNat 0 = ys.getD i 0 := by rw [Int.toNat_natCast, i64s_get]
  have bx := hx i
  have by' := hy i
  by_cases hi' : i < xs.length
  · repeat' (conv => whnf
             first
             | refine Rng.ok (by simp only [inR]; omega) ?_
             | refine Ob.mk (by first | omega | (simp; done) | decide | (simp; omega)) ?_
             | refine Ob.mk (show eqOK _ _ = true from by kernel_rfl) ?_
             | refine Ob.mk (show keyOK _ _ _ = true from by kernel_rfl) ?_
             | refine Val.mk _ (shr_val (by simp; rfl)) ?_
             | refine Nils.mk (fun h => ?_) ?_
             | refine Val.mk _ (Int.tmod_eq_emod_of_nonneg (by omega)) ?_
             | refine Val.mk _ (Int.tdiv_eq_ediv_of_nonneg (by omega)) ?_
             | refine Mm.mk ?_
             | (refine Br.mk (fun h => ?_) (fun h => ?_) <;> first | (exfalso; omega; done) | (exfalso; simp at h; done) | skip))
    obtain ⟨v, hv⟩ : ∃ v, v = rI (i64s xs) (i : Int).toNat 0 % 3 := ⟨_, rfl⟩
    rw [← hv]
    have bv : 0 ≤ v ∧ v ≤ 2 := by omega
    clear hv
    refine JoinVC.cut (fun s => ∃ N : Int, 1 ≤ N ∧ N ≤ 60 ∧ s = ⟨0, envA 186 [(1, .x (lU xs)), (2, .x (lU ys)), (3, .x (.one (.ptr 0 0))), (7, .x (.one (.ptr 1 0))), (9, .int .i64 q.t), (10, .int .i64 q.pk), (11, .int .i64 q.h), (12, .int .i64 (i : Int)), (13, .int .i64 v), (14, .int .i64 N)], [some (bM m), some (bP 2), some (bW 3 4 m q), some (dRow []), some (mpU l)]⟩) ?_ ?_
    · repeat' (conv => whnf
               first
               | refine Rng.ok (by simp only [inR]; omega) ?_
               | refine Ob.mk (by first | omega | (simp; done) | decide | (simp; omega)) ?_
               | refine Ob.mk (show eqOK _ _ = true from by kernel_rfl) ?_
               | refine Ob.mk (show keyOK _ _ _ = true from by kernel_rfl) ?_
               | refine Val.mk _ (shr_val (by simp; rfl)) ?_
               | refine JoinVC.on ?_
               | refine Nils.mk (fun h => ?_) ?_
               | refine Val.mk _ (Int.tmod_eq_emod_of_nonneg (by omega)) ?_
               | refine Val.mk _ (Int.tdiv_eq_ediv_of_nonneg (by omega)) ?_
               | refine Mm.mk ?_
               | (refine Br.mk (fun h => ?_) (fun h => ?_) <;> first | (exfalso; omega; done) | (exfalso; simp at h; done) | skip))
      · refine Meet.mk _ ⟨1 + rI (i64s ys) (i : Int).toNat 0 % 60, by omega, by omega, rfl⟩ ?_
        refine ⟨[some 0, some 1, some 2, some 3, some 4], rfl, rfl, ?_, ?_⟩ <;> repeat' (first | exact trivial | exact rfl | exact Iff.rfl | apply And.intro)
      · refine Meet.mk _ ⟨1, by omega, by omega, rfl⟩ ?_
        refine ⟨[some 0, some 1, some 2, some 3, some 4], rfl, rfl, ?_, ?_⟩ <;> repeat' (first | exact trivial | exact rfl | exact Iff.rfl | apply And.intro)
    rintro _ ⟨N, n1, n2, rfl⟩
    obtain ⟨e1, G1⟩ := hG.valve bv
    obtain ⟨e2, G2⟩ := G1.wait (n := N) ⟨n1, by omega⟩ (by simp only; omega)
    repeat' (conv => whnf
             first
             | refine Rng.ok (by simp only [inR]; omega) ?_
             | refine Ob.mk (by first | omega | (simp; done) | decide | (simp; omega)) ?_
             | refine Ob.mk (show eqOK _ _ = true from by kernel_rfl) ?_
             | refine Ob.mk (show keyOK _ _ _ = true from by kernel_rfl) ?_
             | refine Val.mk _ (shr_val (by simp; rfl)) ?_
             | refine JoinVC.on ?_
             | refine Nils.mk (fun h => ?_) ?_
             | refine Val.mk _ (Int.tmod_eq_emod_of_nonneg (by omega)) ?_
             | refine Val.mk _ (Int.tdiv_eq_ediv_of_nonneg (by omega)) ?_
             | refine Mm.mk ?_
             | (refine Br.mk (fun h => ?_) (fun h => ?_) <;> first | (exfalso; omega; done) | (exfalso; simp at h; done) | skip))
    conv => whnf
    refine CallVC.mk [1, 2, 3, 4] _ _ _ rfl rfl rfl (s41k hU hG.inv e1) (fun r m' h' => ?_)
    obtain ⟨l1, u1, rfl, rfl⟩ := h'
    conv => whnf
    repeat' (conv => whnf
             first
             | refine Rng.ok (by simp only [inR]; omega) ?_
             | refine Ob.mk (by first | omega | (simp; done) | decide | (simp; omega)) ?_
             | refine Ob.mk (show eqOK _ _ = true from by kernel_rfl) ?_
             | refine Ob.mk (show keyOK _ _ _ = true from by kernel_rfl) ?_
             | refine Val.mk _ (shr_val (by simp; rfl)) ?_
             | refine JoinVC.on ?_
             | refine Nils.mk (fun h => ?_) ?_
             | refine Val.mk _ (Int.tmod_eq_emod_of_nonneg (by omega)) ?_
             | refine Val.mk _ (Int.tdiv_eq_ediv_of_nonneg (by omega)) ?_
             | refine Mm.mk ?_
             | (refine Br.mk (fun h => ?_) (fun h => ?_) <;> first | (exfalso; omega; done) | (exfalso; simp at h; done) | skip))
    conv => whnf
    refine CallVC.mk [1, 5, 6, 7] _ _ _ rfl rfl rfl (s41k (p := { q with v := v }) u1 G1.inv e2) (fun r m' h' => ?_)
    obtain ⟨l2, u2, rfl, rfl⟩ := h'
    conv => whnf
    repeat' (conv => whnf
             first
             | refine Rng.ok (by simp only [inR]; omega) ?_
             | refine Ob.mk (by first | omega | (simp; done) | decide | (simp; omega)) ?_
             | refine Ob.mk (show eqOK _ _ = true from by kernel_rfl) ?_
             | refine Ob.mk (show keyOK _ _ _ = true from by kernel_rfl) ?_
             | refine Val.mk _ (shr_val (by simp; rfl)) ?_
             | refine JoinVC.on ?_
             | refine Nils.mk (fun h => ?_) ?_
             | refine Val.mk _ (Int.tmod_eq_emod_of_nonneg (by omega)) ?_
             | refine Val.mk _ (Int.tdiv_eq_ediv_of_nonneg (by omega)) ?_
             | refine Mm.mk ?_
             | (refine Br.mk (fun h => ?_) (fun h => ?_) <;> first | (exfalso; omega; done) | (exfalso; simp at h; done) | skip))
    obtain ⟨f, hf⟩ : ∃ f : Pst, f = { q with v := v, tm := q.tm + N } := ⟨_, rfl⟩
    have hnx : nextP m { q with v := v } 5 N 0 = waitS m N.toNat f := by rw [hf]; rfl
    have G2' : GInv m (waitS m N.toNat f) := by rw [← hnx]; exact G2
    have hft : f.t = q.t ∧ f.h = q.h ∧ f.pk = q.pk ∧ f.cl = true ∧ f.v = v ∧ f.tm = q.tm + N := by rw [hf]; exact ⟨rfl, rfl, rfl, hG.cl, rfl, rfl⟩
    have hnl : nextL m { q with v := v } (nextL m q [] 4) 5 = [] := rfl
    rw [hnx, hnl]
    refine LoopVC.mk (fun n st => ∃ k : Nat, (k : Int) ≤ N ∧ n = N.toNat - k ∧ st = ⟨0, envA 186 [(1, .x (lU xs)), (2, .x (lU ys)), (3, .x (.one (.ptr 0 0))), (7, .x (.one (.ptr 1 0))), (9, .int .i64 (waitS m k f).t), (10, .int .i64 (waitS m k f).pk), (11, .int .i64 (waitS m k f).h), (12, .int .i64 (i : Int)), (13, .int .i64 v), (14, .int .i64 N), (19, .int .i64 (k : Int))], [some (bM m), some (bP 2), some (bW 3 4 m (waitS m N.toNat f)), some (dRow []), some (mpU l2)]⟩) _ _ ⟨0, by omega, rfl, rfl⟩ ?_ ?_
    · refine ⟨[some 0, some 1, some 9, some 10, some 11], rfl, rfl, ?_, ?_⟩ <;> repeat' (first | exact trivial | exact rfl | exact Iff.rfl | apply And.intro)
      · exact hft.1.symm
      · exact hft.2.2.1.symm
      · exact hft.2.1.symm
    rintro n _ ⟨k, hk, hn, rfl⟩
    have hW := waitK hm (p := f) (by rw [hft.1]; exact hG.inv.t) k
    have hS := GInv.step (m := m) (q := f) k hft.2.2.2.1 (by rw [hft.2.1, hft.2.2.1]; exact hG.good)
    have hh := hG.inv.h
    have h1 := hW.h
    have h2 := hW.pk
    have h3 := hW.v
    rw [hft.2.2.2.2.1] at h3
    have h4 := hft.2.1
    have h5 := hft.2.2.1
    have hT := tickF_bd hm (v := v) hW.t
    by_cases hk' : (k : Int) < N
    · have hq1 : waitS m (k + 1) f = tickS m (waitS m k f) := rfl
      have t1 : (tickS m (waitS m k f)).t = tickF m (waitS m k f).t v := by simp only [tickS, h3]
      have t2 : (tickS m (waitS m k f)).pk = max (waitS m k f).pk (tickF m (waitS m k f).t v) := by simp only [tickS, h3, hS.1, if_true]
      have t3 : (tickS m (waitS m k f)).h = if m.melt ≤ tickF m (waitS m k f).t v then (waitS m k f).h + 1 else (waitS m k f).h := by simp only [tickS, h3, hS.1, true_and]
      repeat' (conv => whnf
               first
               | refine Rng.ok (by simp only [inR]; omega) ?_
               | refine Ob.mk (by first | omega | (simp; done) | decide | (simp; omega)) ?_
               | refine Ob.mk (show eqOK _ _ = true from by kernel_rfl) ?_
               | refine Ob.mk (show keyOK _ _ _ = true from by kernel_rfl) ?_
               | refine Val.mk _ (shr_val (by simp; rfl)) ?_
               | refine JoinVC.on ?_
               | refine Nils.mk (fun h => ?_) ?_
               | refine Val.mk _ (Int.tmod_eq_emod_of_nonneg (by omega)) ?_
               | refine Val.mk _ (Int.tdiv_eq_ediv_of_nonneg (by omega)) ?_
               | refine Mm.mk ?_
               | refine CallVC.pure rfl (s18k hm hW.t bv) ?_
               | refine CallVC0.pure rfl (s18k hm hW.t bv) ?_
               | (refine Br.mk (fun h => ?_) (fun h => ?_) <;> first | (exfalso; omega; done) | (exfalso; simp at h; done) | skip))
      · refine Back.mk (N.toNat - (k + 1)) _ (by omega) ⟨k + 1, by omega, rfl, rfl⟩ ?_
        rw [hq1, t1, t2, t3]
        refine ⟨[some 0, some 1, some 2, some 3, some 4], rfl, rfl, ?_, ?_⟩ <;> repeat' (first | exact trivial | exact rfl | exact Iff.rfl | apply And.intro)
        all_goals (split <;> omega)
      · refine Back.mk (N.toNat - (k + 1)) _ (by omega) ⟨k + 1, by omega, rfl, rfl⟩ ?_
        rw [hq1, t1, t2, t3]
        refine ⟨[some 0, some 1, some 2, some 3, some 4], rfl, rfl, ?_, ?_⟩ <;> repeat' (first | exact trivial | exact rfl | exact Iff.rfl | apply And.intro)
        all_goals (split <;> omega)
    · have hkN : k = N.toNat := by omega
      subst hkN
      have h6 := hW.tm
      rw [hft.2.2.2.2.2] at h6
      repeat' (conv => whnf
               first
               | refine Rng.ok (by simp only [inR]; omega) ?_
               | refine Ob.mk (by first | omega | (simp; done) | decide | (simp; omega)) ?_
               | refine Ob.mk (show eqOK _ _ = true from by kernel_rfl) ?_
               | refine Ob.mk (show keyOK _ _ _ = true from by kernel_rfl) ?_
               | refine Val.mk _ (shr_val (by simp; rfl)) ?_
               | refine JoinVC.on ?_
               | refine Nils.mk (fun h => ?_) ?_
               | refine Val.mk _ (Int.tmod_eq_emod_of_nonneg (by omega)) ?_
               | refine Val.mk _ (Int.tdiv_eq_ediv_of_nonneg (by omega)) ?_
               | refine Mm.mk ?_
               | (refine Br.mk (fun h => ?_) (fun h => ?_) <;> first | (exfalso; omega; done) | (exfalso; simp at h; done) | skip))
      refine Back.mk (xs.length - (i + 1)) _ (by omega) ⟨i + 1, _, l2, by omega, rfl, G2', u2, by omega, rfl⟩ ?_
      refine ⟨[some 0, some 1, some 2, some 3, some 4], rfl, rfl, ?_, ?_⟩ <;> repeat' (first | exact trivial | exact rfl | exact Iff.rfl | apply And.intro)
  · obtain ⟨e1, G1⟩ := hG.valve (v := 2) (by decide)
    have hG1 := hG.good
    have hG2 := hG.inv.ok
    repeat' (conv => whnf
             first
             | refine Rng.ok (by simp only [inR]; omega) ?_
             | refine Ob.mk (by first | omega | (simp; done) | decide | (simp; omega)) ?_
             | refine Ob.mk (show eqOK _ _ = true from by kernel_rfl) ?_
             | refine Ob.mk (show keyOK _ _ _ = true from by kernel_rfl) ?_
             | refine Val.mk _ (shr_val (by simp; rfl)) ?_
             | refine JoinVC.on ?_
             | refine Nils.mk (fun h => ?_) ?_
             | refine Val.mk _ (Int.tmod_eq_emod_of_nonneg (by omega)) ?_
             | refine Val.mk _ (Int.tdiv_eq_ediv_of_nonneg (by omega)) ?_
             | refine Mm.mk ?_
             | (refine Br.mk (fun h => ?_) (fun h => ?_) <;> first | (exfalso; omega; done) | (exfalso; simp at h; done) | skip))
    conv => whnf
    refine CallVC.mk [1, 2, 3, 4] _ _ _ rfl rfl rfl (s41k hU hG.inv e1) (fun r m' h' => ?_)
    obtain ⟨l1, u1, rfl, rfl⟩ := h'
    conv => whnf
    repeat' (conv => whnf
             first
             | refine Rng.ok (by simp only [inR]; omega) ?_
             | refine Ob.mk (by first | omega | (simp; done) | decide | (simp; omega)) ?_
             | refine Ob.mk (show eqOK _ _ = true from by kernel_rfl) ?_
             | refine Ob.mk (show keyOK _ _ _ = true from by kernel_rfl) ?_
             | refine Val.mk _ (shr_val (by simp; rfl)) ?_
             | refine JoinVC.on ?_
             | refine Nils.mk (fun h => ?_) ?_
             | refine Val.mk _ (Int.tmod_eq_emod_of_nonneg (by omega)) ?_
             | refine Val.mk _ (Int.tdiv_eq_ediv_of_nonneg (by omega)) ?_
             | refine Mm.mk ?_
             | (refine Br.mk (fun h => ?_) (fun h => ?_) <;> first | (exfalso; omega; done) | (exfalso; simp at h; done) | skip))
    have e6 := errD6 m { q with v := 2 } [] 0 0
    rw [if_neg (fun h => h hG.cl)] at e6
    by_cases ht : m.cool < q.t
    · rw [if_pos (.inr ht)] at e6
      conv => whnf
      refine CallVC.mk [1, 5, 6, 7] _ _ _ rfl rfl rfl (s41 m { q with v := 2 } [] l1 u1 G1.inv 6 0 0) (fun r m' h' => ?_)
      obtain ⟨e7, _⟩ | ⟨e7, rfl, rfl⟩ := h'
      · rw [e6] at e7; cases e7
      rw [e6]
      repeat' (conv => whnf
               first
               | refine Rng.ok (by simp only [inR]; omega) ?_
               | refine Ob.mk (by first | omega | (simp; done) | decide | (simp; omega)) ?_
               | refine Ob.mk (show eqOK _ _ = true from by kernel_rfl) ?_
               | refine Ob.mk (show keyOK _ _ _ = true from by kernel_rfl) ?_
               | refine Val.mk _ (shr_val (by simp; rfl)) ?_
               | refine JoinVC.on ?_
               | refine Nils.mk (fun h => ?_) ?_
               | refine Val.mk _ (Int.tmod_eq_emod_of_nonneg (by omega)) ?_
               | refine Val.mk _ (Int.tdiv_eq_ediv_of_nonneg (by omega)) ?_
               | refine Mm.mk ?_
               | refine CallVC.pure rfl (s22) ?_
               | refine CallVC0.pure rfl (s22) ?_
               | (refine Br.mk (fun h => ?_) (fun h => ?_) <;> first | (exfalso; omega; done) | (exfalso; simp at h; done) | skip))
      repeat refine Mm.mk ?_
      refine EndVC.mk _ rfl _ _ ⟨rfl, rfl⟩ ?_
      refine ⟨[], rfl, rfl, ?_, ?_⟩ <;> repeat' (first | exact trivial | exact rfl | exact Iff.rfl | apply And.intro)
    · rw [if_neg (by simp only; omega)] at e6
      conv => whnf
      refine CallVC.mk [1, 5, 6, 7] _ _ _ rfl rfl rfl (s41k (p := { q with v := 2 }) u1 G1.inv e6) (fun r m' h' => ?_)
      obtain ⟨l2, u2, rfl, rfl⟩ := h'
      conv => whnf
      have d5 : (outD m { q with v := 2 } (nextL m q [] 4) 6).pk = q.pk := rfl
      have d4 : (outD m { q with v := 2 } (nextL m q [] 4) 6).h = q.h := rfl
      have d6 : (outD m { q with v := 2 } (nextL m q [] 4) 6).good = decide (m.hold ≤ q.h) := rfl
      generalize outD m { q with v := 2 } (nextL m q [] 4) 6 = d at *
      have hh1 := hG2.2.2.2.2.2.2.2.2.2.2.2.1
      by_cases hg : m.hold ≤ q.h
      · have d7 : d.good = true := by rw [d6]; simpa using hg
        have hpk := hG1 (by omega)
        repeat' (conv => whnf
                 first
                 | refine Rng.ok (by simp only [inR]; omega) ?_
                 | refine Ob.mk (by first | omega | (simp; done) | decide | (simp; omega)) ?_
                 | refine Ob.mk (show eqOK _ _ = true from by kernel_rfl) ?_
                 | refine Ob.mk (show keyOK _ _ _ = true from by kernel_rfl) ?_
                 | refine Val.mk _ (shr_val (by simp; rfl)) ?_
                 | refine JoinVC.on ?_
                 | refine Nils.mk (fun h => ?_) ?_
                 | refine Val.mk _ (Int.tmod_eq_emod_of_nonneg (by omega)) ?_
                 | refine Val.mk _ (Int.tdiv_eq_ediv_of_nonneg (by omega)) ?_
                 | refine Mm.mk ?_
                 | refine CallVC.pure rfl (s22) ?_
                 | refine CallVC0.pure rfl (s22) ?_
                 | (refine Br.mk (fun h => ?_) (fun h => ?_) <;> first | (exfalso; omega; done) | (exfalso; simp at h; done) | (exfalso; simp [d7, hg] at h; done) | skip))
        all_goals
          repeat refine Mm.mk ?_
          refine EndVC.mk _ rfl _ _ ⟨rfl, rfl⟩ ?_
          refine ⟨[], rfl, rfl, ?_, ?_⟩ <;> repeat' (first | exact trivial | exact rfl | exact Iff.rfl | apply And.intro)
      · have d7 : d.good = false := by rw [d6]; simpa using hg
        repeat' (conv => whnf
                 first
                 | refine Rng.ok (by simp only [inR]; omega) ?_
                 | refine Ob.mk (by first | omega | (simp; done) | decide | (simp; omega)) ?_
                 | refine Ob.mk (show eqOK _ _ = true from by kernel_rfl) ?_
                 | refine Ob.mk (show keyOK _ _ _ = true from by kernel_rfl) ?_
                 | refine Val.mk _ (shr_val (by simp; rfl)) ?_
                 | refine JoinVC.on ?_
                 | refine Nils.mk (fun h => ?_) ?_
                 | refine Val.mk _ (Int.tmod_eq_emod_of_nonneg (by omega)) ?_
                 | refine Val.mk _ (Int.tdiv_eq_ediv_of_nonneg (by omega)) ?_
                 | refine Mm.mk ?_
                 | refine CallVC.pure rfl (s22) ?_
                 | refine CallVC0.pure rfl (s22) ?_
                 | (refine Br.mk (fun h => ?_) (fun h => ?_) <;> first | (exfalso; omega; done) | (exfalso; simp at h; done) | (exfalso; simp [d7, hg] at h; done) | skip))
        all_goals
          repeat refine Mm.mk ?_
          refine EndVC.mk _ rfl _ _ ⟨rfl, rfl⟩ ?_
          refine ⟨[], rfl, rfl, ?_, ?_⟩ <;> repeat' (first | exact trivial | exact rfl | exact Iff.rfl | apply And.intro)
end Go.Sx
