import Derived.Test.YtaehphnchiffnaaDoorPrSideCheaperA
import Derived.Test.YtaehphnchiffnaaDoorXc
namespace Go.Sx
open Go Go.Proofs
set_option maxRecDepth 10000
set_option maxHeartbeats 8000000
/-! ### The examples -/
open Classical in
theorem s26 (a b : List Int) (ha : a.length ≤ 1000000) : PSpec Tryd.prog 35 [.one (.lst true [.int .i64] (i64s a)), .one (.lst true [.int .i64] (i64s b))] (xP (a = b)) := by
  have la := i64s_len a
  have lb := i64s_len b
  by_cases hl : a.length = b.length
  rotate_left
  · refine spec_of pMix (O := []) Tryd.func35 (c := bodyOf Tryd.f35) rfl (by kernel_rfl) (by kernel_rfl) Tryd.ntmps35 (res := [.tmp 4]) (by kernel_rfl) ?_
    repeat' ((conv => whnf); first | refine Rng.g ?_ | refine Ob.g ?_ | refine Ob.e ?_ | refine Ob.m ?_ | refine Ob.mk (Nat.le_of_ble_eq_true rfl) ?_ | refine JoinVC.on ?_ | refine Nils.mk (fun h => ?_) ?_ | refine Val.t ?_ | refine Val.d ?_ | refine Mm.mk ?_ | (refine Br.mk (fun h => ?_) (fun h => ?_) <;> first | (exfalso; omega; done) | (exfalso; simp at h; done) | skip))
    repeat refine Mm.mk ?_
    refine EndVC.mk _ rfl _ _ ⟨rfl, rfl⟩ ?_
    refine ⟨[], rfl, rfl, ?_, ?_⟩ <;> repeat' (first | exact trivial | exact rfl | exact Iff.rfl | apply And.intro)
    exact fun h => hl (by rw [h])
  refine spec_of pMix (O := []) Tryd.func35 (c := bodyOf Tryd.f35) rfl (by kernel_rfl) (by kernel_rfl) Tryd.ntmps35 (res := [.tmp 4]) (by kernel_rfl) ?_
  repeat' ((conv => whnf); first | refine Rng.g ?_ | refine Ob.g ?_ | refine Ob.e ?_ | refine Ob.m ?_ | refine Ob.mk (Nat.le_of_ble_eq_true rfl) ?_ | refine JoinVC.on ?_ | refine Nils.mk (fun h => ?_) ?_ | refine Val.t ?_ | refine Val.d ?_ | refine Mm.mk ?_ | (refine Br.mk (fun h => ?_) (fun h => ?_) <;> first | (exfalso; omega; done) | (exfalso; simp at h; done) | skip))
  refine LoopVC.mk (fun n st => ∃ (i : Nat), i ≤ a.length ∧ n = a.length - i ∧ (∀ j, j < i → a.getD j 0 = b.getD j 0) ∧ st = ⟨0, envA 26 [(0, .x (.one (.lst true [.int .i64] (i64s a)))), (1, .x (.one (.lst true [.int .i64] (i64s b)))), (5, .int .i64 (i : Int))], []⟩) _ _ ⟨0, Nat.zero_le _, rfl, fun j hj => absurd hj (Nat.not_lt_zero j), rfl⟩ ?_ ?_
  · refine ⟨[], rfl, rfl, ?_, ?_⟩ <;> repeat' (first | exact trivial | exact rfl | exact Iff.rfl | apply And.intro)
  rintro n _ ⟨i, hi, hm, hj, rfl⟩
  have g1 : rI (i64s a) (i : Int).toNat 0 = a.getD i 0 := by rw [Int.toNat_natCast]; exact i64s_get a i
  have g2 : rI (i64s b) (i : Int).toNat 0 = b.getD i 0 := by rw [Int.toNat_natCast]; exact i64s_get b i
  by_cases hi' : i < a.length
  · by_cases he : a.getD i 0 = b.getD i 0
    · repeat' ((conv => whnf); first | refine Rng.g ?_ | refine Ob.g ?_ | refine Ob.e ?_ | refine Ob.m ?_ | refine Ob.mk (Nat.le_of_ble_eq_true rfl) ?_ | refine JoinVC.on ?_ | refine Nils.mk (fun h => ?_) ?_ | refine Val.t ?_ | refine Val.d ?_ | refine Mm.mk ?_ | (refine Br.mk (fun h => ?_) (fun h => ?_) <;> first | (exfalso; omega; done) | (exfalso; simp at h; done) | skip))
      refine Back.mk (a.length - (i + 1)) _ (by omega) ⟨i + 1, by omega, rfl, fun j hj' => ?_, rfl⟩ ?_
      · rcases Nat.lt_succ_iff_lt_or_eq.1 hj' with h' | rfl
        · exact hj j h'
        · exact he
      · refine ⟨[], rfl, rfl, ?_, ?_⟩ <;> repeat' (first | exact trivial | exact rfl | exact Iff.rfl | apply And.intro)
    · repeat' ((conv => whnf); first | refine Rng.g ?_ | refine Ob.g ?_ | refine Ob.e ?_ | refine Ob.m ?_ | refine Ob.mk (Nat.le_of_ble_eq_true rfl) ?_ | refine JoinVC.on ?_ | refine Nils.mk (fun h => ?_) ?_ | refine Val.t ?_ | refine Val.d ?_ | refine Mm.mk ?_ | (refine Br.mk (fun h => ?_) (fun h => ?_) <;> first | (exfalso; omega; done) | (exfalso; simp at h; done) | skip))
      repeat refine Mm.mk ?_
      refine EndVC.mk _ rfl _ _ ⟨rfl, rfl⟩ ?_
      refine ⟨[], rfl, rfl, ?_, ?_⟩ <;> repeat' (first | exact trivial | exact rfl | exact Iff.rfl | apply And.intro)
      exact fun h => he (by rw [h])
  · repeat' ((conv => whnf); first | refine Rng.g ?_ | refine Ob.g ?_ | refine Ob.e ?_ | refine Ob.m ?_ | refine Ob.mk (Nat.le_of_ble_eq_true rfl) ?_ | refine JoinVC.on ?_ | refine Nils.mk (fun h => ?_) ?_ | refine Val.t ?_ | refine Val.d ?_ | refine Mm.mk ?_ | (refine Br.mk (fun h => ?_) (fun h => ?_) <;> first | (exfalso; omega; done) | (exfalso; simp at h; done) | skip))
    repeat refine Mm.mk ?_
    refine EndVC.mk _ rfl _ _ ⟨rfl, rfl⟩ ?_
    refine ⟨[], rfl, rfl, ?_, ?_⟩ <;> repeat' (first | exact trivial | exact rfl | exact Iff.rfl | apply And.intro)
    exact list_ext_getD hl fun j hj' => hj j (by omega)
open Classical in
theorem s34 (a b : List Int) (ha : a.length ≤ 1000000) : PSpec Tryd.prog 27 [.one (.lst true [.int .i64] (i64s a)), .one (.lst true [.int .i64] (i64s b))] (xP (a = b)) := by
  have la := i64s_len a
  have lb := i64s_len b
  by_cases hl : a.length = b.length
  rotate_left
  · refine spec_of pMix (O := []) Tryd.func27 (c := bodyOf Tryd.f27) rfl (by kernel_rfl) (by kernel_rfl) Tryd.ntmps27 (res := [.tmp 4]) (by kernel_rfl) ?_
    repeat' ((conv => whnf); first | refine Rng.g ?_ | refine Ob.g ?_ | refine Ob.e ?_ | refine Ob.m ?_ | refine Ob.mk (Nat.le_of_ble_eq_true rfl) ?_ | refine JoinVC.on ?_ | refine Nils.mk (fun h => ?_) ?_ | refine Val.t ?_ | refine Val.d ?_ | refine Mm.mk ?_ | (refine Br.mk (fun h => ?_) (fun h => ?_) <;> first | (exfalso; omega; done) | (exfalso; simp at h; done) | skip))
    repeat refine Mm.mk ?_
    refine EndVC.mk _ rfl _ _ ⟨rfl, rfl⟩ ?_
    refine ⟨[], rfl, rfl, ?_, ?_⟩ <;> repeat' (first | exact trivial | exact rfl | exact Iff.rfl | apply And.intro)
    exact fun h => hl (by rw [h])
  refine spec_of pMix (O := []) Tryd.func27 (c := bodyOf Tryd.f27) rfl (by kernel_rfl) (by kernel_rfl) Tryd.ntmps27 (res := [.tmp 4]) (by kernel_rfl) ?_
  repeat' ((conv => whnf); first | refine Rng.g ?_ | refine Ob.g ?_ | refine Ob.e ?_ | refine Ob.m ?_ | refine Ob.mk (Nat.le_of_ble_eq_true rfl) ?_ | refine JoinVC.on ?_ | refine Nils.mk (fun h => ?_) ?_ | refine Val.t ?_ | refine Val.d ?_ | refine Mm.mk ?_ | (refine Br.mk (fun h => ?_) (fun h => ?_) <;> first | (exfalso; omega; done) | (exfalso; simp at h; done) | skip))
  refine LoopVC.mk (fun n st => ∃ (i : Nat), i ≤ a.length ∧ n = a.length - i ∧ (∀ j, j < i → a.getD j 0 = b.getD j 0) ∧ st = ⟨0, envA 26 [(0, .x (.one (.lst true [.int .i64] (i64s a)))), (1, .x (.one (.lst true [.int .i64] (i64s b)))), (5, .int .i64 (i : Int))], []⟩) _ _ ⟨0, Nat.zero_le _, rfl, fun j hj => absurd hj (Nat.not_lt_zero j), rfl⟩ ?_ ?_
  · refine ⟨[], rfl, rfl, ?_, ?_⟩ <;> repeat' (first | exact trivial | exact rfl | exact Iff.rfl | apply And.intro)
  rintro n _ ⟨i, hi, hm, hj, rfl⟩
  have g1 : rI (i64s a) (i : Int).toNat 0 = a.getD i 0 := by rw [Int.toNat_natCast]; exact i64s_get a i
  have g2 : rI (i64s b) (i : Int).toNat 0 = b.getD i 0 := by rw [Int.toNat_natCast]; exact i64s_get b i
  by_cases hi' : i < a.length
  · by_cases he : a.getD i 0 = b.getD i 0
    · repeat' ((conv => whnf); first | refine Rng.g ?_ | refine Ob.g ?_ | refine Ob.e ?_ | refine Ob.m ?_ | refine Ob.mk (Nat.le_of_ble_eq_true rfl) ?_ | refine JoinVC.on ?_ | refine Nils.mk (fun h => ?_) ?_ | refine Val.t ?_ | refine Val.d ?_ | refine Mm.mk ?_ | (refine Br.mk (fun h => ?_) (fun h => ?_) <;> first | (exfalso; omega; done) | (exfalso; simp at h; done) | skip))
      refine Back.mk (a.length - (i + 1)) _ (by omega) ⟨i + 1, by omega, rfl, fun j hj' => ?_, rfl⟩ ?_
      · rcases Nat.lt_succ_iff_lt_or_eq.1 hj' with h' | rfl
        · exact hj j h'
        · exact he
      · refine ⟨[], rfl, rfl, ?_, ?_⟩ <;> repeat' (first | exact trivial | exact rfl | exact Iff.rfl | apply And.intro)
    · repeat' ((conv => whnf); first | refine Rng.g ?_ | refine Ob.g ?_ | refine Ob.e ?_ | refine Ob.m ?_ | refine Ob.mk (Nat.le_of_ble_eq_true rfl) ?_ | refine JoinVC.on ?_ | refine Nils.mk (fun h => ?_) ?_ | refine Val.t ?_ | refine Val.d ?_ | refine Mm.mk ?_ | (refine Br.mk (fun h => ?_) (fun h => ?_) <;> first | (exfalso; omega; done) | (exfalso; simp at h; done) | skip))
      repeat refine Mm.mk ?_
      refine EndVC.mk _ rfl _ _ ⟨rfl, rfl⟩ ?_
      refine ⟨[], rfl, rfl, ?_, ?_⟩ <;> repeat' (first | exact trivial | exact rfl | exact Iff.rfl | apply And.intro)
      exact fun h => he (by rw [h])
  · repeat' ((conv => whnf); first | refine Rng.g ?_ | refine Ob.g ?_ | refine Ob.e ?_ | refine Ob.m ?_ | refine Ob.mk (Nat.le_of_ble_eq_true rfl) ?_ | refine JoinVC.on ?_ | refine Nils.mk (fun h => ?_) ?_ | refine Val.t ?_ | refine Val.d ?_ | refine Mm.mk ?_ | (refine Br.mk (fun h => ?_) (fun h => ?_) <;> first | (exfalso; omega; done) | (exfalso; simp at h; done) | skip))
    repeat refine Mm.mk ?_
    refine EndVC.mk _ rfl _ _ ⟨rfl, rfl⟩ ?_
    refine ⟨[], rfl, rfl, ?_, ?_⟩ <;> repeat' (first | exact trivial | exact rfl | exact Iff.rfl | apply And.intro)
    exact list_ext_getD hl fun j hj' => hj j (by omega)
theorem s32 : HSpec Tryd.prog 32 [] [] (fun r m' => r = .tup [f4.x, .one (.own 0)] ∧ m' = [some (.row 25 false KSng (sngA l4))]) := by
  refine spec_of pMix (O := []) Tryd.func32 (c := bodyOf Tryd.f32) rfl (by kernel_rfl) (by kernel_rfl) Tryd.ntmps32 (res := [.cell 0 23, .tmp 1]) (by kernel_rfl) ?_
  repeat' ((conv => whnf); first | refine Rng.g ?_ | refine Ob.g ?_ | refine Ob.e ?_ | refine Ob.m ?_ | refine Ob.mk (Nat.le_of_ble_eq_true rfl) ?_ | refine JoinVC.on ?_ | refine Nils.mk (fun h => ?_) ?_ | refine Val.t ?_ | refine Val.d ?_ | refine Mm.mk ?_ | (refine Br.mk (fun h => ?_) (fun h => ?_) <;> first | (exfalso; omega; done) | (exfalso; simp at h; done) | skip))
  repeat refine Mm.mk ?_
  refine EndVC.mk _ rfl _ _ ⟨rfl, rfl⟩ ?_
  refine ⟨[some 2], rfl, rfl, ?_, ?_⟩ <;> repeat' (first | exact trivial | exact rfl | exact Iff.rfl | apply And.intro)
instance (f : Fmt) (l : List Sng) (O : List Int) (i : Nat) : Decidable (okAt f l O i) := by unfold okAt; exact inferInstance
instance (f : Fmt) (l : List Sng) (O : List Int) : Decidable (LayOK f l O) := by unfold LayOK; exact inferInstance
theorem alb4 : AlbOK [f4] l4 := ⟨by decide, fun i hi => by
  have : i = 0 := by simp at hi; omega
  subst this
  exact f4_ok, l4_ok⟩
theorem face4 {k i j : Nat} : faceP [f4] l4 k i j ↔ k = 0 ∧ i < j ∧ j ≤ 3 ∧ LayOK f4 l4 (seqL i (j - i)) := by
  constructor
  · rintro ⟨h1, h2, h3, h4⟩
    have : k = 0 := by simp at h1; omega
    subst this
    exact ⟨rfl, h2, h3, h4⟩
  · rintro ⟨rfl, h2, h3, h4⟩
    exact ⟨by simp, h2, h3, h4⟩
theorem prc4 {p : List Int} (h : PrcOK [f4] l4 (Reach [f4] l4) p) : p = [0, 5, 10, 10] := by
  have f01 : faceP [f4] l4 0 0 1 := face4.2 ⟨rfl, by decide, by decide, by decide⟩
  have f12 : faceP [f4] l4 0 1 2 := face4.2 ⟨rfl, by decide, by decide, by decide⟩
  have f13 : faceP [f4] l4 0 1 3 := face4.2 ⟨rfl, by decide, by decide, by decide⟩
  have n02 : ∀ k, ¬ faceP [f4] l4 k 0 2 := fun k h => (by have := (face4.1 h).2.2.2; revert this; decide)
  have n03 : ∀ k, ¬ faceP [f4] l4 k 0 3 := fun k h => (by have := (face4.1 h).2.2.2; revert this; decide)
  have c : ([f4].getD 0 f0).cost = 5 := rfl
  have r1 : Reach [f4] l4 1 5 := by have := Reach.nil.step f01; rw [c] at this; exact this
  have r2 : Reach [f4] l4 2 10 := by have := r1.step f12; rw [c] at this; exact this
  have r3 : Reach [f4] l4 3 10 := by have := r1.step f13; rw [c] at this; exact this
  have b1 : ∀ x, Reach [f4] l4 1 x → 5 ≤ x := fun x hx => by
    cases hx with
    | @step i _ k c' h1 h2 =>
      have h3 := (reach_bd alb4 h1).1
      have h4 := (face4.1 h2).1
      subst h4
      rw [c]
      omega
  have bb : ∀ n x, (n = 2 ∨ n = 3) → Reach [f4] l4 n x → 10 ≤ x := fun n x hn hx => by
    cases hx with
    | nil => omega
    | @step i _ k c' h1 h2 =>
      have h5 := face4.1 h2
      have h4 := h5.1
      subst h4
      rw [c]
      have hi : i = 0 ∨ i = 1 ∨ i = 2 := by omega
      rcases hi with rfl | rfl | rfl
      · rcases hn with rfl | rfl
        · exact absurd h2 (n02 0)
        · exact absurd h2 (n03 0)
      · have := b1 _ h1
        omega
      · cases h1 with
        | @step i' _ k' c'' g1 g2 =>
          have g5 := face4.1 g2
          have g4 := g5.1
          subst g4
          rw [c]
          have := (reach_bd alb4 g1).1
          omega
  have u : ∀ n v x, n ≤ 3 → Reach [f4] l4 n v → (∀ y, Reach [f4] l4 n y → v ≤ y) → p.getD n 0 = x → x = v := fun n v x hn h1 h2 h3 => by
    rcases h.each n hn with ⟨h4, h5⟩ | ⟨h4, h5, h6⟩
    · exact absurd h1 (h5 v)
    · have a := h6 v h1
      have b := h2 _ h5
      omega
  have hlen : p.length = 4 := h.len
  match p, hlen with
  | [x0, x1, x2, x3], _ =>
    have e0 := u 0 0 x0 (by decide) .nil (fun y hy => (reach_bd alb4 hy).1) rfl
    have e1 := u 1 5 x1 (by decide) r1 b1 rfl
    have e2 := u 2 10 x2 (by decide) r2 (fun y hy => bb 2 y (.inl rfl) hy) rfl
    have e3 := u 3 10 x3 (by decide) r3 (fun y hy => bb 3 y (.inr rfl) hy) rfl
    rw [e0, e1, e2, e3]
theorem s11 : PSpec Tryd.prog 8 [] (xP True) := by
  have n4 : ∀ i, ([f4].getD i f0).nm.size ≤ 140737488355328 := fun i => by
    cases i with
    | zero => decide
    | succ n => exact (by decide : f0.nm.size ≤ 140737488355328)
  refine spec_of pMix (O := []) Tryd.func8 (c := bodyOf Tryd.f8) rfl (by kernel_rfl) (by kernel_rfl) Tryd.ntmps8 (res := [.tmp 0]) (by kernel_rfl) ?_
  repeat' ((conv => whnf); first | refine Rng.g ?_ | refine Ob.g ?_ | refine Ob.e ?_ | refine Ob.m ?_ | refine Ob.mk (Nat.le_of_ble_eq_true rfl) ?_ | refine JoinVC.on ?_ | refine Nils.mk (fun h => ?_) ?_ | refine Val.t ?_ | refine Val.d ?_ | refine Mm.mk ?_ | (refine Br.mk (fun h => ?_) (fun h => ?_) <;> first | (exfalso; omega; done) | (exfalso; simp at h; done) | skip))
  conv => whnf
  refine CallVC.mk [] _ _ _ rfl rfl rfl (s32) (fun r m' h' => ?_)
  obtain ⟨rfl, rfl⟩ := h'
  conv => whnf
  repeat' ((conv => whnf); first | refine Rng.g ?_ | refine Ob.g ?_ | refine Ob.e ?_ | refine Ob.m ?_ | refine Ob.mk (Nat.le_of_ble_eq_true rfl) ?_ | refine JoinVC.on ?_ | refine Nils.mk (fun h => ?_) ?_ | refine Val.t ?_ | refine Val.d ?_ | refine Mm.mk ?_ | (refine Br.mk (fun h => ?_) (fun h => ?_) <;> first | (exfalso; omega; done) | (exfalso; simp at h; done) | skip))
  conv => whnf
  refine CallVC.mk [] _ _ _ rfl rfl rfl (s18 f4 l4 (by decide) (by decide)) (fun r m' h' => ?_)
  cases h' with
  | bad h hr hm => exact absurd (bothE_ok f4_ok l4_ok) h
  | none _ _ hN hr hm => exact absurd lay4 hN
  | ok _ _ _ hr hm =>
    subst hr hm
    rw [allO4]
    repeat' ((conv => whnf); first | refine Rng.g ?_ | refine Ob.g ?_ | refine Ob.e ?_ | refine Ob.m ?_ | refine Ob.mk (Nat.le_of_ble_eq_true rfl) ?_ | refine JoinVC.on ?_ | refine Nils.mk (fun h => ?_) ?_ | refine Val.t ?_ | refine Val.d ?_ | refine Mm.mk ?_ | (refine Br.mk (fun h => ?_) (fun h => ?_) <;> first | (exfalso; omega; done) | (exfalso; simp at h; done) | skip))
    conv => whnf
    refine CallVC.mk [] _ _ _ rfl rfl rfl (s33 [f4] l4 n4) (fun r m' h' => ?_)
    rcases h' with ⟨he, rfl, rfl⟩ | ⟨_, p, hp, rfl, rfl⟩
    · exact absurd (fmsE_0.2 alb4) he
    rw [prc4 hp]
    have k1 := s26 [1, 0, 2] [1, 0, 2] (by decide)
    have k2 := s34 [0, 5, 10, 10] [0, 5, 10, 10] (by decide)
    repeat' ((conv => whnf); first | refine Rng.g ?_ | refine Ob.g ?_ | refine Ob.e ?_ | refine Ob.m ?_ | refine Ob.mk (Nat.le_of_ble_eq_true rfl) ?_ | refine JoinVC.on ?_ | refine Nils.mk (fun h => ?_) ?_ | refine Val.t ?_ | refine Val.d ?_ | refine Mm.mk ?_ | refine CallVC.pure rfl (k1) ?_ | refine CallVC.pure rfl (k2) ?_ | refine CallVC0.pure rfl (k1) ?_ | refine CallVC0.pure rfl (k2) ?_ | (refine Br.mk (fun h => ?_) (fun h => ?_) <;> first | (exfalso; omega; done) | (exfalso; simp at h; done) | skip))
    repeat refine Mm.mk ?_
    refine EndVC.mk _ rfl _ _ ⟨rfl, rfl⟩ ?_
    refine ⟨[], rfl, rfl, ?_, ?_⟩ <;> repeat' (first | exact trivial | exact rfl | exact Iff.rfl | apply And.intro)
    exact ⟨fun _ => trivial, fun _ => rfl⟩
end Go.Sx

namespace Go.Sx
open Go Go.Proofs
set_option maxRecDepth 10000
set_option maxHeartbeats 8000000
/-! ### Which prices are right -/
def outP (n : Int) : Prop := n < -1 ∨ n > 25165824
instance (n : Int) : Decidable (outP n) := by unfold outP; exact inferInstance
theorem s51 (n : Int) : PSpec Tryd.prog 56 [I n] (xP (outP n)) := by
  have c := s52 n (-1) 25165824
  refine spec_of pMix (O := []) Tryd.func56 (c := bodyOf Tryd.f56) rfl (by kernel_rfl) (by kernel_rfl) Tryd.ntmps56 (res := [.tmp 2]) (by kernel_rfl) ?_
  repeat' ((conv => whnf); first | refine Rng.g ?_ | refine Ob.g ?_ | refine Ob.e ?_ | refine Ob.m ?_ | refine Ob.mk (Nat.le_of_ble_eq_true rfl) ?_ | refine JoinVC.on ?_ | refine Nils.mk (fun h => ?_) ?_ | refine Val.t ?_ | refine Val.d ?_ | refine Mm.mk ?_ | refine CallVC.pure rfl (c) ?_ | refine CallVC0.pure rfl (c) ?_ | (refine Br.mk (fun h => ?_) (fun h => ?_) <;> first | (exfalso; omega; done) | (exfalso; simp at h; done) | skip))
  repeat refine Mm.mk ?_
  refine EndVC.mk _ rfl _ _ ⟨rfl, rfl⟩ ?_
  refine ⟨[], rfl, rfl, ?_, ?_⟩ <;> repeat' (first | exact trivial | exact rfl | exact Iff.rfl | apply And.intro)
theorem s75 (xs : List Int) (hl : xs.length ≤ 1000000) : HSpec Tryd.prog 70 [.one (.lst true [.int .i64] (i64s xs)), .one (.fn 56 [])] [] (fun r m' => ∃ k, r = .x (I k) ∧ m' = [] ∧ (k = -1 ∧ (∀ j, j < xs.length → ¬ outP (xs.getD j 0)) ∨ 0 ≤ k ∧ ∃ j, j < xs.length ∧ outP (xs.getD j 0))) := by
  have lo := i64s_len xs
  refine spec_of pMix (O := []) Tryd.func70 (c := bodyOf Tryd.f70) rfl (by kernel_rfl) (by kernel_rfl) Tryd.ntmps70 (res := [.tmp 4]) (by kernel_rfl) ?_
  repeat' ((conv => whnf); first | refine Rng.g ?_ | refine Ob.g ?_ | refine Ob.e ?_ | refine Ob.m ?_ | refine Ob.mk (Nat.le_of_ble_eq_true rfl) ?_ | refine JoinVC.on ?_ | refine Nils.mk (fun h => ?_) ?_ | refine Val.t ?_ | refine Val.d ?_ | refine Mm.mk ?_ | (refine Br.mk (fun h => ?_) (fun h => ?_) <;> first | (exfalso; omega; done) | (exfalso; simp at h; done) | skip))
  refine LoopVC.mk (fun n st => ∃ (i : Nat), i ≤ xs.length ∧ n = xs.length - i ∧ (∀ j, j < i → ¬ outP (xs.getD j 0)) ∧ st = ⟨0, envA 19 [(0, .x (.one (.lst true [.int .i64] (i64s xs)))), (1, .x (.one (.fn 56 []))), (6, .x (.one (.lst true [.int .i64] (i64s xs)))), (7, .int .i64 (xs.length : Int)), (8, .int .i64 (i : Int))], []⟩) _ _ ⟨0, Nat.zero_le _, rfl, fun j hj => absurd hj (Nat.not_lt_zero j), rfl⟩ ?_ ?_
  · refine ⟨[], rfl, rfl, ?_, ?_⟩ <;> repeat' (first | exact trivial | exact rfl | exact Iff.rfl | apply And.intro)
    all_goals exact congrArg Int.ofNat lo
  rintro n _ ⟨i, hi, hm, hj, rfl⟩
  have gi : rI (i64s xs) (i : Int).toNat 0 = xs.getD i 0 := by rw [Int.toNat_natCast]; exact i64s_get xs i
  have c := s51 (xs.getD i 0)
  by_cases hi' : i < xs.length
  · by_cases hv : outP (xs.getD i 0)
    · repeat' ((conv => whnf); first | rw [gi] | refine Rng.g ?_ | refine Ob.g ?_ | refine Ob.e ?_ | refine Ob.m ?_ | refine Ob.mk (Nat.le_of_ble_eq_true rfl) ?_ | refine JoinVC.on ?_ | refine Nils.mk (fun h => ?_) ?_ | refine Val.t ?_ | refine Val.d ?_ | refine Mm.mk ?_ | refine CallVC.pure rfl (c) ?_ | refine CallVC0.pure rfl (c) ?_ | (refine Br.mk (fun h => ?_) (fun h => ?_) <;> first | (exfalso; omega; done) | (exfalso; simp at h; done) | skip))
      · repeat refine Mm.mk ?_
        conv => whnf
        refine EndVC.mk _ rfl _ _ (⟨(i : Int), rfl, rfl, .inr ⟨by omega, i, hi', hv⟩⟩) ?_
        refine ⟨[], rfl, rfl, ?_, ?_⟩ <;> repeat' (first | exact trivial | exact rfl | exact Iff.rfl | apply And.intro)
      · exact absurd hv h
    · repeat' ((conv => whnf); first | rw [gi] | refine Rng.g ?_ | refine Ob.g ?_ | refine Ob.e ?_ | refine Ob.m ?_ | refine Ob.mk (Nat.le_of_ble_eq_true rfl) ?_ | refine JoinVC.on ?_ | refine Nils.mk (fun h => ?_) ?_ | refine Val.t ?_ | refine Val.d ?_ | refine Mm.mk ?_ | refine CallVC.pure rfl (c) ?_ | refine CallVC0.pure rfl (c) ?_ | (refine Br.mk (fun h => ?_) (fun h => ?_) <;> first | (exfalso; omega; done) | (exfalso; simp at h; done) | skip))
      · exact absurd h hv
      · refine Back.mk (xs.length - (i + 1)) _ (by omega) ⟨i + 1, by omega, rfl, fun j hj' => ?_, rfl⟩ ?_
        · rcases Nat.lt_succ_iff_lt_or_eq.1 hj' with h' | rfl
          · exact hj j h'
          · exact hv
        · refine ⟨[], rfl, rfl, ?_, ?_⟩ <;> repeat' (first | exact trivial | exact rfl | exact Iff.rfl | apply And.intro)
  · repeat' ((conv => whnf); first | refine Rng.g ?_ | refine Ob.g ?_ | refine Ob.e ?_ | refine Ob.m ?_ | refine Ob.mk (Nat.le_of_ble_eq_true rfl) ?_ | refine JoinVC.on ?_ | refine Nils.mk (fun h => ?_) ?_ | refine Val.t ?_ | refine Val.d ?_ | refine Mm.mk ?_ | (refine Br.mk (fun h => ?_) (fun h => ?_) <;> first | (exfalso; omega; done) | (exfalso; simp at h; done) | skip))
    repeat refine Mm.mk ?_
    conv => whnf
    refine EndVC.mk _ rfl _ _ (⟨-1, rfl, rfl, .inl ⟨rfl, fun j hj' => hj j (by omega)⟩⟩) ?_
    refine ⟨[], rfl, rfl, ?_, ?_⟩ <;> repeat' (first | exact trivial | exact rfl | exact Iff.rfl | apply And.intro)
open Classical in
theorem s50 (xs : List Int) (hl : xs.length ≤ 1000000) : PSpec Tryd.prog 55 [.one (.lst true [.int .i64] (i64s xs)), .one (.fn 56 [])] (xP (∃ j, j < xs.length ∧ outP (xs.getD j 0))) := by
  refine spec_of pMix (O := []) Tryd.func55 (c := bodyOf Tryd.f55) rfl (by kernel_rfl) (by kernel_rfl) Tryd.ntmps55 (res := [.tmp 4]) (by kernel_rfl) ?_
  repeat' ((conv => whnf); first | refine Rng.g ?_ | refine Ob.g ?_ | refine Ob.e ?_ | refine Ob.m ?_ | refine Ob.mk (Nat.le_of_ble_eq_true rfl) ?_ | refine JoinVC.on ?_ | refine Nils.mk (fun h => ?_) ?_ | refine Val.t ?_ | refine Val.d ?_ | refine Mm.mk ?_ | (refine Br.mk (fun h => ?_) (fun h => ?_) <;> first | (exfalso; omega; done) | (exfalso; simp at h; done) | skip))
  conv => whnf
  refine CallVC.mk [] _ _ _ rfl rfl rfl (s75 xs hl) (fun r m' h' => ?_)
  obtain ⟨k, rfl, rfl, hk⟩ := h'
  conv => whnf
  repeat' ((conv => whnf); first | refine Rng.g ?_ | refine Ob.g ?_ | refine Ob.e ?_ | refine Ob.m ?_ | refine Ob.mk (Nat.le_of_ble_eq_true rfl) ?_ | refine JoinVC.on ?_ | refine Nils.mk (fun h => ?_) ?_ | refine Val.t ?_ | refine Val.d ?_ | refine Mm.mk ?_ | (refine Br.mk (fun h => ?_) (fun h => ?_) <;> first | (exfalso; omega; done) | (exfalso; simp at h; done) | skip))
  repeat refine Mm.mk ?_
  refine EndVC.mk _ rfl _ _ ⟨rfl, rfl⟩ ?_
  refine ⟨[], rfl, rfl, ?_, ?_⟩ <;> repeat' (first | exact trivial | exact rfl | exact Iff.rfl | apply And.intro)
  show _ ↔ _
  rcases hk with ⟨rfl, h⟩ | ⟨h0, h⟩
  · exact ⟨fun h1 => absurd h1 (by decide), fun ⟨j, h1, h2⟩ => absurd h2 (h j h1)⟩
  · exact ⟨fun _ => h, fun _ => h0⟩
/-- A face that begins before i, or one of these, shows that the price of its end is not right. -/
def badP (F : List Fmt) (l : List Sng) (p : List Int) (i : Nat) (L : List (Nat × Nat)) (j : Nat) : Prop :=
  ∃ i' k, ((i' < i ∧ faceP F l k i' j) ∨ (i' = i ∧ (k, j) ∈ L)) ∧ 0 ≤ p.getD i' 0 ∧ (p.getD j 0 < 0 ∨ p.getD i' 0 + (F.getD k f0).cost < p.getD j 0)
structure WrgOK (n : Nat) (B : Nat → Prop) (a : Int) : Prop where
  rng : 1 ≤ a ∧ a ≤ n + 1
  bad : a ≤ n → B a.toNat
  least : ∀ j, B j → a ≤ j
def stepG (F : List Fmt) (p : List Int) (i : Nat) (a : Int) (q : Nat × Nat) : Int := if p.getD q.2 0 < 0 ∨ p.getD i 0 + (F.getD q.1 f0).cost < p.getD q.2 0 then (if (q.2 : Int) < a then (q.2 : Int) else a) else a
theorem stepG_ok {F : List Fmt} {l : List Sng} {p : List Int} {i : Nat} {L : List (Nat × Nat)} {a : Int} (h : WrgOK l.length (badP F l p i L) a) (h0 : 0 ≤ p.getD i 0) {q : Nat × Nat} (hq : faceP F l q.1 i q.2) : WrgOK l.length (badP F l p i (L ++ [q])) (stepG F p i a q) := by
  have hle := hq.le
  have hlt := hq.lt
  have up : ∀ j, badP F l p i L j → badP F l p i (L ++ [q]) j := fun j ⟨i', k, h1, h2⟩ => ⟨i', k, h1.imp id fun h => ⟨h.1, List.mem_append_left _ h.2⟩, h2⟩
  have dn : ∀ j, badP F l p i (L ++ [q]) j → badP F l p i L j ∨ (j = q.2 ∧ (p.getD q.2 0 < 0 ∨ p.getD i 0 + (F.getD q.1 f0).cost < p.getD q.2 0)) := fun j ⟨i', k, h1, h2, h3⟩ => by
    rcases h1 with h1 | ⟨rfl, h1⟩
    · exact .inl ⟨i', k, .inl h1, h2, h3⟩
    · rcases List.mem_append.1 h1 with h4 | h4
      · exact .inl ⟨i', k, .inr ⟨rfl, h4⟩, h2, h3⟩
      · have e := List.mem_singleton.1 h4
        have e1 : k = q.1 := congrArg Prod.fst e
        have e2 : j = q.2 := congrArg Prod.snd e
        subst e1 e2
        exact .inr ⟨rfl, h3⟩
  have hr := h.rng
  unfold stepG
  split
  · rename_i hb
    have hnew : badP F l p i (L ++ [q]) q.2 := ⟨i, q.1, .inr ⟨rfl, List.mem_append_right _ List.mem_cons_self⟩, h0, hb⟩
    split
    · rename_i hl
      refine ⟨by omega, fun _ => by rw [Int.toNat_natCast]; exact hnew, fun j hj => ?_⟩
      rcases dn j hj with h1 | ⟨rfl, _⟩
      · have := h.least j h1
        omega
      · exact Int.le_refl _
    · rename_i hl
      refine ⟨hr, fun hn => up _ (h.bad hn), fun j hj => ?_⟩
      rcases dn j hj with h1 | ⟨rfl, _⟩
      · exact h.least j h1
      · omega
  · rename_i hb
    refine ⟨hr, fun hn => up _ (h.bad hn), fun j hj => ?_⟩
    rcases dn j hj with h1 | ⟨rfl, h1⟩
    · exact h.least j h1
    · exact absurd h1 hb
theorem WrgOK.congr {n : Nat} {B B' : Nat → Prop} {a : Int} (h : WrgOK n B a) (e : ∀ j, B j ↔ B' j) : WrgOK n B' a := ⟨h.rng, fun hn => (e _).1 (h.bad hn), fun j hj => h.least j ((e j).2 hj)⟩
theorem badP_next {F : List Fmt} {l : List Sng} {p : List Int} {i : Nat} (j : Nat) : badP F l p i (facesL F l i) j ↔ badP F l p (i + 1) [] j := by
  constructor
  · rintro ⟨i', k, h1, h2⟩
    refine ⟨i', k, .inl ?_, h2⟩
    rcases h1 with h1 | ⟨rfl, h1⟩
    · exact ⟨by omega, h1.2⟩
    · exact ⟨Nat.lt_succ_self _, mem_faces.1 h1⟩
  · rintro ⟨i', k, h1, h2⟩
    refine ⟨i', k, ?_, h2⟩
    rcases h1 with h1 | ⟨_, h1⟩
    · by_cases e : i' = i
      · subst e
        exact .inr ⟨rfl, mem_faces.2 h1.2⟩
      · exact .inl ⟨by omega, h1.2⟩
    · simp at h1
theorem badP_skip {F : List Fmt} {l : List Sng} {p : List Int} {i : Nat} (h0 : p.getD i 0 < 0) (j : Nat) : badP F l p i [] j ↔ badP F l p (i + 1) [] j := by
  constructor
  · rintro ⟨i', k, h1, h2⟩
    refine ⟨i', k, .inl ?_, h2⟩
    rcases h1 with h1 | ⟨_, h1⟩
    · exact ⟨by omega, h1.2⟩
    · simp at h1
  · rintro ⟨i', k, h1, h2, h3⟩
    rcases h1 with h1 | ⟨_, h1⟩
    · refine ⟨i', k, .inl ⟨?_, h1.2⟩, h2, h3⟩
      have : i' ≠ i := fun e => by rw [e] at h2; omega
      omega
    · simp at h1
/-- What is wrong with prices. -/
def wrongP (F : List Fmt) (l : List Sng) (p : List Int) (j : Nat) : Prop := badP F l p l.length [] j
theorem wrg_start {F : List Fmt} {l : List Sng} {p : List Int} : WrgOK l.length (badP F l p 0 []) ((l.length : Int) + 1) := ⟨by omega, fun h => by omega, fun j ⟨i', k, h1, _⟩ => by
  rcases h1 with h1 | ⟨_, h1⟩
  · omega
  · simp at h1⟩
inductive CpRs (F : List Fmt) (l : List Sng) (p : List Int) (r : AV) : Prop
  | bad (h : fmsE F l ≠ 0) (hr : r = .tup [I 0, I (fmsE F l)])
  | len (hA : AlbOK F l) (h : p.length ≠ l.length + 1) (hr : r = .tup [I 0, I 17])
  | rng (hA : AlbOK F l) (hl : p.length = l.length + 1) (h : p.getD 0 0 ≠ 0 ∨ ∃ j, j < p.length ∧ outP (p.getD j 0)) (hr : r = .tup [I 0, I 3])
  | wrong (hA : AlbOK F l) (hl : p.length = l.length + 1) (hz : p.getD 0 0 = 0) (hin : ∀ j, j < p.length → ¬ outP (p.getD j 0)) (j : Nat) (hj : 1 ≤ j ∧ j ≤ l.length) (h : wrongP F l p j) (hm : ∀ j', wrongP F l p j' → j ≤ j') (hr : r = .tup [I (j : Int), I 16])
  | ok (hA : AlbOK F l) (hl : p.length = l.length + 1) (hz : p.getD 0 0 = 0) (hin : ∀ j, j < p.length → ¬ outP (p.getD j 0)) (h : ∀ j, ¬ wrongP F l p j) (hr : r = .tup [I 0, I 0])
end Go.Sx

namespace Go.Sx
open Go Go.Proofs
set_option maxRecDepth 10000
set_option maxHeartbeats 8000000
noncomputable def rf20 : Code := cB (cS (cS (cS (cB (cF (cS (cS (cL (cB (cS (cF (cS (cS (cS (cS (bodyOf Tryd.f25))))))))))))))))
theorem s20 (F : List Fmt) (l : List Sng) (p : List Int) (hI : ∀ i, (F.getD i f0).nm.size ≤ 140737488355328) (hpl : p.length ≤ 1000000) : HSpec Tryd.prog 25 [lFmt F, lSng l, .one (.lst true [.int .i64] (i64s p))] [] (fun r m' => CpRs F l p r ∧ m' = []) := by
  have ll := sngA_len l
  have lpi := i64s_len p
  refine spec_of pMix (O := []) Tryd.func25 (c := bodyOf Tryd.f25) rfl (by kernel_rfl) (by kernel_rfl) Tryd.ntmps25 (res := [.tmp 6, .tmp 7]) (by kernel_rfl) ?_
  repeat' ((conv => whnf); first | refine Rng.g ?_ | refine Ob.g ?_ | refine Ob.e ?_ | refine Ob.m ?_ | refine Ob.mk (Nat.le_of_ble_eq_true rfl) ?_ | refine JoinVC.on ?_ | refine Nils.mk (fun h => ?_) ?_ | refine Val.t ?_ | refine Val.d ?_ | refine Mm.mk ?_ | (refine Br.mk (fun h => ?_) (fun h => ?_) <;> first | (exfalso; omega; done) | (exfalso; simp at h; done) | skip))
  conv => whnf
  refine CallVC.mk [] _ _ _ rfl rfl rfl (s49 F l hI) (fun r m' h' => ?_)
  rcases h' with ⟨he, rfl, rfl⟩ | ⟨he, rfl, rfl⟩ | ⟨hA, rfl, rfl⟩
  · repeat' ((conv => whnf); first | refine Rng.g ?_ | refine Ob.g ?_ | refine Ob.e ?_ | refine Ob.m ?_ | refine Ob.mk (Nat.le_of_ble_eq_true rfl) ?_ | refine JoinVC.on ?_ | refine Nils.mk (fun h => ?_) ?_ | refine Val.t ?_ | refine Val.d ?_ | refine Mm.mk ?_ | (refine Br.mk (fun h => ?_) (fun h => ?_) <;> first | (exfalso; omega; done) | (exfalso; simp at h; done) | skip))
    repeat refine Mm.mk ?_
    conv => whnf
    refine EndVC.mk _ rfl _ _ (⟨.bad he rfl, rfl⟩) ?_
    refine ⟨[], rfl, rfl, ?_, ?_⟩ <;> repeat' (first | exact trivial | exact rfl | exact Iff.rfl | apply And.intro)
  · repeat' ((conv => whnf); first | refine Rng.g ?_ | refine Ob.g ?_ | refine Ob.e ?_ | refine Ob.m ?_ | refine Ob.mk (Nat.le_of_ble_eq_true rfl) ?_ | refine JoinVC.on ?_ | refine Nils.mk (fun h => ?_) ?_ | refine Val.t ?_ | refine Val.d ?_ | refine Mm.mk ?_ | (refine Br.mk (fun h => ?_) (fun h => ?_) <;> first | (exfalso; omega; done) | (exfalso; simp at h; done) | skip))
    repeat refine Mm.mk ?_
    conv => whnf
    refine EndVC.mk _ rfl _ _ (⟨.bad he rfl, rfl⟩) ?_
    refine ⟨[], rfl, rfl, ?_, ?_⟩ <;> repeat' (first | exact trivial | exact rfl | exact Iff.rfl | apply And.intro)
  have h24 := hA.sngs.len
  by_cases hl : p.length = l.length + 1
  rotate_left
  · repeat' ((conv => whnf); first | refine Rng.g ?_ | refine Ob.g ?_ | refine Ob.e ?_ | refine Ob.m ?_ | refine Ob.mk (Nat.le_of_ble_eq_true rfl) ?_ | refine JoinVC.on ?_ | refine Nils.mk (fun h => ?_) ?_ | refine Val.t ?_ | refine Val.d ?_ | refine Mm.mk ?_ | (refine Br.mk (fun h => ?_) (fun h => ?_) <;> first | (exfalso; omega; done) | (exfalso; simp at h; done) | skip))
    repeat refine Mm.mk ?_
    conv => whnf
    refine EndVC.mk _ rfl _ _ (⟨.len hA hl rfl, rfl⟩) ?_
    refine ⟨[], rfl, rfl, ?_, ?_⟩ <;> repeat' (first | exact trivial | exact rfl | exact Iff.rfl | apply And.intro)
  have gz : rI (i64s p) (Int.toNat 0) 0 = p.getD 0 0 := i64s_get p 0
  by_cases hz : p.getD 0 0 = 0
  rotate_left
  · repeat' ((conv => whnf); first | rw [gz] | refine Rng.g ?_ | refine Ob.g ?_ | refine Ob.e ?_ | refine Ob.m ?_ | refine Ob.mk (Nat.le_of_ble_eq_true rfl) ?_ | refine JoinVC.on ?_ | refine Nils.mk (fun h => ?_) ?_ | refine Val.t ?_ | refine Val.d ?_ | refine Mm.mk ?_ | (refine Br.mk (fun h => ?_) (fun h => ?_) <;> first | (exfalso; omega; done) | (exfalso; simp at h; done) | skip))
    repeat refine Mm.mk ?_
    conv => whnf
    refine EndVC.mk _ rfl _ _ (⟨.rng hA hl (.inl hz) rfl, rfl⟩) ?_
    refine ⟨[], rfl, rfl, ?_, ?_⟩ <;> repeat' (first | exact trivial | exact rfl | exact Iff.rfl | apply And.intro)
  have c50 := s50 p hpl
  by_cases hin : ∃ j, j < p.length ∧ outP (p.getD j 0)
  · repeat' ((conv => whnf); first | rw [gz] | refine Rng.g ?_ | refine Ob.g ?_ | refine Ob.e ?_ | refine Ob.m ?_ | refine Ob.mk (Nat.le_of_ble_eq_true rfl) ?_ | refine JoinVC.on ?_ | refine Nils.mk (fun h => ?_) ?_ | refine Val.t ?_ | refine Val.d ?_ | refine Mm.mk ?_ | refine CallVC.pure rfl (c50) ?_ | refine CallVC0.pure rfl (c50) ?_ | (refine Br.mk (fun h => ?_) (fun h => ?_) <;> first | (exfalso; omega; done) | (exfalso; simp at h; done) | skip))
    · repeat refine Mm.mk ?_
      conv => whnf
      refine EndVC.mk _ rfl _ _ (⟨.rng hA hl (.inr hin) rfl, rfl⟩) ?_
      refine ⟨[], rfl, rfl, ?_, ?_⟩ <;> repeat' (first | exact trivial | exact rfl | exact Iff.rfl | apply And.intro)
    · exact absurd hin h
  repeat' ((conv => whnf); first | rw [gz] | refine Rng.g ?_ | refine Ob.g ?_ | refine Ob.e ?_ | refine Ob.m ?_ | refine Ob.mk (Nat.le_of_ble_eq_true rfl) ?_ | refine JoinVC.on ?_ | refine Nils.mk (fun h => ?_) ?_ | refine Val.t ?_ | refine Val.d ?_ | refine Mm.mk ?_ | refine CallVC.pure rfl (c50) ?_ | refine CallVC0.pure rfl (c50) ?_ | (refine Br.mk (fun h => ?_) (fun h => ?_) <;> first | (exfalso; omega; done) | (exfalso; simp at h; done) | skip))
  · exact absurd h hin
  have hin' : ∀ j, j < p.length → ¬ outP (p.getD j 0) := fun j hj ho => hin ⟨j, hj, ho⟩
  have hbd : ∀ j, j < p.length → -1 ≤ p.getD j 0 ∧ p.getD j 0 ≤ 25165824 := fun j hj => by have := hin' j hj; unfold outP at this; omega
  refine LoopVC.mk (fun m st => ∃ (i : Nat) (a : Int), i ≤ l.length ∧ m = l.length - i ∧ WrgOK l.length (badP F l p i []) a ∧ st = ⟨0, envA 99 [(1, .x (lSng l)), (5, .x (.one (.ptr 0 0))), (8, .x (.one (.ptr 2 0))), (10, .x (.one (.ptr 3 0))), (44, .int .i64 (l.length : Int)), (45, .int .i64 (i : Int))], [some (.box 38 [.lst true [.int .i64] (i64s p)]), some (bAlb F l (l.length : Int)), some (.box 82 [.ptr 1 0]), some (.box 3 [.int .i64 a])]⟩) _ _ ⟨0, (l.length : Int) + 1, Nat.zero_le _, rfl, wrg_start, rfl⟩ ?_ ?_
  · refine ⟨[some 0, some 1, some 2, some 3], rfl, rfl, ?_, ?_⟩ <;> repeat' (first | exact trivial | exact rfl | exact Iff.rfl | apply And.intro)
    all_goals rw [ll]
  rintro m _ ⟨i, a, hi, hm, hW, rfl⟩
  have hWr := hW.rng
  by_cases hi' : i < l.length
  rotate_left
  · have ei : i = l.length := by omega
    subst ei
    by_cases ha : a ≤ l.length
    · repeat' ((conv => whnf); first | refine Rng.g ?_ | refine Ob.g ?_ | refine Ob.e ?_ | refine Ob.m ?_ | refine Ob.mk (Nat.le_of_ble_eq_true rfl) ?_ | refine JoinVC.on ?_ | refine Nils.mk (fun h => ?_) ?_ | refine Val.t ?_ | refine Val.d ?_ | refine Mm.mk ?_ | (refine Br.mk (fun h => ?_) (fun h => ?_) <;> first | (exfalso; omega; done) | (exfalso; simp at h; done) | skip))
      repeat refine Mm.mk ?_
      conv => whnf
      refine EndVC.mk _ rfl _ _ (⟨.wrong hA hl hz hin' a.toNat (by omega) (hW.bad ha) (fun j hj => (by have := hW.least j hj; omega)) rfl, rfl⟩) ?_
      refine ⟨[], rfl, rfl, ?_, ?_⟩ <;> repeat' (first | exact trivial | exact rfl | exact Iff.rfl | apply And.intro)
      omega
    · have hno : ∀ j, ¬ wrongP F l p j := fun j hj => by
        have h1 := hW.least j hj
        obtain ⟨i', k, h2, _⟩ := hj
        rcases h2 with ⟨_, h2⟩ | ⟨_, h2⟩
        · have := h2.le
          omega
        · simp at h2
      repeat' ((conv => whnf); first | refine Rng.g ?_ | refine Ob.g ?_ | refine Ob.e ?_ | refine Ob.m ?_ | refine Ob.mk (Nat.le_of_ble_eq_true rfl) ?_ | refine JoinVC.on ?_ | refine Nils.mk (fun h => ?_) ?_ | refine Val.t ?_ | refine Val.d ?_ | refine Mm.mk ?_ | (refine Br.mk (fun h => ?_) (fun h => ?_) <;> first | (exfalso; omega; done) | (exfalso; simp at h; done) | skip))
      repeat refine Mm.mk ?_
      conv => whnf
      refine EndVC.mk _ rfl _ _ (⟨.ok hA hl hz hin' hno rfl, rfl⟩) ?_
      refine ⟨[], rfl, rfl, ?_, ?_⟩ <;> repeat' (first | exact trivial | exact rfl | exact Iff.rfl | apply And.intro)
  have gi : rI (i64s p) (i : Int).toNat 0 = p.getD i 0 := by rw [Int.toNat_natCast]; exact i64s_get p i
  have hbi := hbd i (by omega)
  by_cases h0 : p.getD i 0 < 0
  · repeat' ((conv => whnf); first | rw [gi] | refine Rng.g ?_ | refine Ob.g ?_ | refine Ob.e ?_ | refine Ob.m ?_ | refine Ob.mk (Nat.le_of_ble_eq_true rfl) ?_ | refine JoinVC.on ?_ | refine Nils.mk (fun h => ?_) ?_ | refine Val.t ?_ | refine Val.d ?_ | refine Mm.mk ?_ | (refine Br.mk (fun h => ?_) (fun h => ?_) <;> first | (exfalso; omega; done) | (exfalso; simp at h; done) | skip))
    refine Back.mk (l.length - (i + 1)) _ (by omega) ⟨i + 1, a, by omega, rfl, hW.congr (badP_skip h0), rfl⟩ ?_
    refine ⟨[some 0, some 1, some 2, some 3], rfl, rfl, ?_, ?_⟩ <;> repeat' (first | exact trivial | exact rfl | exact Iff.rfl | apply And.intro)
  repeat' ((conv => whnf); first | rw [gi] | refine Rng.g ?_ | refine Ob.g ?_ | refine Ob.e ?_ | refine Ob.m ?_ | refine Ob.mk (Nat.le_of_ble_eq_true rfl) ?_ | refine JoinVC.on ?_ | refine Nils.mk (fun h => ?_) ?_ | refine Val.t ?_ | refine Val.d ?_ | refine Mm.mk ?_ | (refine Br.mk (fun h => ?_) (fun h => ?_) <;> first | (exfalso; omega; done) | (exfalso; simp at h; done) | skip))
  conv => whnf
  refine CallVC.mk [1] _ _ _ rfl rfl rfl (s53 F l (l.length : Int) (i : Int)) (fun r m' h' => ?_)
  obtain ⟨rfl, rfl⟩ := h'
  conv => whnf
  have lpl := plsA_len F l
  have h8 := hA.few
  repeat' ((conv => whnf); first | refine Rng.g ?_ | refine Ob.g ?_ | refine Ob.e ?_ | refine Ob.m ?_ | refine Ob.mk (Nat.le_of_ble_eq_true rfl) ?_ | refine JoinVC.on ?_ | refine Nils.mk (fun h => ?_) ?_ | refine Val.t ?_ | refine Val.d ?_ | refine Mm.mk ?_ | (refine Br.mk (fun h => ?_) (fun h => ?_) <;> first | (exfalso; omega; done) | (exfalso; simp at h; done) | skip))
  change RangeVC _ _ _ _ _
  refine RangeVC.mk e69 (isem_of_awp pMix [] Tryd.func69 (c := bodyOf Tryd.f69) rfl (by kernel_rfl) Tryd.ntmps69 (by kernel_rfl) ?_)
  repeat' ((conv => whnf); first | refine Rng.g ?_ | refine Ob.g ?_ | refine Ob.e ?_ | refine Ob.m ?_ | refine Ob.mk (Nat.le_of_ble_eq_true rfl) ?_ | refine JoinVC.on ?_ | refine Nils.mk (fun h => ?_) ?_ | refine Val.t ?_ | refine Val.d ?_ | refine Mm.mk ?_ | (refine Br.mk (fun h => ?_) (fun h => ?_) <;> first | (exfalso; omega; done) | (exfalso; simp at h; done) | skip))
  refine LoopVC.mk (fun n st => ∃ (k : Nat) (a : Int), k ≤ F.length ∧ n = F.length - k ∧ WrgOK l.length (badP F l p i (fcs F l i k)) a ∧ st = ⟨8, envA 43 [(0, .x (.one (.yld 7))), (1, .x (.one (.ptr 5 0))), (2, .x (.one (.ptr 6 0))), (10, .x (.one (.lst true [.pt KPl] (plsA F l)))), (11, .int .i64 (F.length : Int)), (12, .int .i64 (k : Int))], [some (.box 38 [.lst true [.int .i64] (i64s p)]), some (bAlb F l (l.length : Int)), some (.box 82 [.ptr 1 0]), some (.box 3 [.int .i64 a]), some (.box 3 [.int .i64 (i : Int)]), some (.box 82 [.ptr 1 0]), some (.box 3 [.int .i64 (i : Int)]), some (.loop [56] (cAs rf20) (cBo rf20) (envA 99 [(1, .x (lSng l)), (5, .x (.one (.ptr 0 0))), (8, .x (.one (.ptr 2 0))), (10, .x (.one (.ptr 3 0))), (11, .x (.one (.ptr 4 0))), (44, .int .i64 (l.length : Int)), (45, .int .i64 (i : Int))]) .ready)]⟩) _ _ ⟨0, a, Nat.zero_le _, rfl, hW, rfl⟩ ?_ ?_
  · refine ⟨[some 0, some 1, some 2, some 3, some 4, some 5, some 6, some 7], rfl, rfl, ?_, ?_⟩ <;> repeat' (first | exact trivial | exact rfl | exact Iff.rfl | apply And.intro)
    exact congrArg Int.ofNat lpl
  clear hW hWr
  rintro n _ ⟨k, a, hk, hn, hW, rfl⟩
  by_cases hk' : k < F.length
  rotate_left
  · have ek : k = F.length := by omega
    subst ek
    repeat' ((conv => whnf); first | refine Rng.g ?_ | refine Ob.g ?_ | refine Ob.e ?_ | refine Ob.m ?_ | refine Ob.mk (Nat.le_of_ble_eq_true rfl) ?_ | refine JoinVC.on ?_ | refine Nils.mk (fun h => ?_) ?_ | refine Val.t ?_ | refine Val.d ?_ | refine Mm.mk ?_ | (refine Br.mk (fun h => ?_) (fun h => ?_) <;> first | (exfalso; omega; done) | (exfalso; simp at h; done) | skip))
    refine Back.mk (l.length - (i + 1)) _ (by omega) ⟨i + 1, a, by omega, rfl, hW.congr badP_next, rfl⟩ ?_
    refine ⟨[some 0, some 1, some 2, some 3], rfl, rfl, ?_, ?_⟩ <;> repeat' (first | exact trivial | exact rfl | exact Iff.rfl | apply And.intro)
  have gk : rA (plsA F l) (k : Int).toNat 0 = plA (F.getD k f0) l := by rw [Int.toNat_natCast]; exact plsA_at F l k hk'
  have hf := hA.fmts k hk'
  repeat' ((conv => whnf); first | rw [gk] | refine Rng.g ?_ | refine Ob.g ?_ | refine Ob.e ?_ | refine Ob.m ?_ | refine Ob.mk (Nat.le_of_ble_eq_true rfl) ?_ | refine JoinVC.on ?_ | refine Nils.mk (fun h => ?_) ?_ | refine Val.t ?_ | refine Val.d ?_ | refine Mm.mk ?_ | (refine Br.mk (fun h => ?_) (fun h => ?_) <;> first | (exfalso; omega; done) | (exfalso; simp at h; done) | skip))
  refine LoopVC.mk (fun n st => ∃ (j : Nat) (a : Int), i < j ∧ j ≤ l.length + 1 ∧ n = l.length + 1 - j ∧ WrgOK l.length (badP F l p i (fcs F l i k ++ fcj F l i k j)) a ∧ st = ⟨8, envA 43 [(0, .x (.one (.yld 7))), (1, .x (.one (.ptr 5 0))), (2, .x (.one (.ptr 6 0))), (4, .int .i64 (k : Int)), (5, .x (plX (F.getD k f0) l)), (6, .int .i64 (j : Int)), (10, .x (.one (.lst true [.pt KPl] (plsA F l)))), (11, .int .i64 (F.length : Int)), (12, .int .i64 (k : Int))], [some (.box 38 [.lst true [.int .i64] (i64s p)]), some (bAlb F l (l.length : Int)), some (.box 82 [.ptr 1 0]), some (.box 3 [.int .i64 a]), some (.box 3 [.int .i64 (i : Int)]), some (.box 82 [.ptr 1 0]), some (.box 3 [.int .i64 (i : Int)]), some (.loop [56] (cAs rf20) (cBo rf20) (envA 99 [(1, .x (lSng l)), (5, .x (.one (.ptr 0 0))), (8, .x (.one (.ptr 2 0))), (10, .x (.one (.ptr 3 0))), (11, .x (.one (.ptr 4 0))), (44, .int .i64 (l.length : Int)), (45, .int .i64 (i : Int))]) .ready)]⟩) _ _ ⟨i + 1, a, by omega, by omega, rfl, by rw [fcj_lo _ (Nat.le_refl _), List.append_nil]; exact hW, rfl⟩ ?_ ?_
  · refine ⟨[some 0, some 1, some 2, some 3, some 4, some 5, some 6, some 7], rfl, rfl, ?_, ?_⟩ <;> repeat' (first | exact trivial | exact rfl | exact Iff.rfl | apply And.intro)
  clear hW
  rintro n2 _ ⟨j, a, hij, hj, hn2, hW, rfl⟩
  have c54 := s54g i j (by omega)
  by_cases hj' : j ≤ l.length
  rotate_left
  · have ej : j = l.length + 1 := by omega
    subst ej
    repeat' ((conv => whnf); first | refine Rng.g ?_ | refine Ob.g ?_ | refine Ob.e ?_ | refine Ob.m ?_ | refine Ob.mk (Nat.le_of_ble_eq_true rfl) ?_ | refine JoinVC.on ?_ | refine Nils.mk (fun h => ?_) ?_ | refine Val.t ?_ | refine Val.d ?_ | refine Mm.mk ?_ | (refine Br.mk (fun h => ?_) (fun h => ?_) <;> first | (exfalso; omega; done) | (exfalso; simp at h; done) | skip))
    refine Back.mk (F.length - (k + 1)) _ (by omega) ⟨k + 1, a, by omega, rfl, hW, rfl⟩ ?_
    refine ⟨[some 0, some 1, some 2, some 3, some 4, some 5, some 6, some 7], rfl, rfl, ?_, ?_⟩ <;> repeat' (first | exact trivial | exact rfl | exact Iff.rfl | apply And.intro)
  have c47 := s47p (F.getD k f0) l (seqL i (j - i)) hf hA.sngs (fun x hx => by rw [seqL_len] at hx; rw [seqL_get _ _ _ hx]; omega) (by rw [seqL_len]; omega)
  repeat' ((conv => whnf); first | refine Rng.g ?_ | refine Ob.g ?_ | refine Ob.e ?_ | refine Ob.m ?_ | refine Ob.mk (Nat.le_of_ble_eq_true rfl) ?_ | refine JoinVC.on ?_ | refine Nils.mk (fun h => ?_) ?_ | refine Val.t ?_ | refine Val.d ?_ | refine Mm.mk ?_ | (refine Br.mk (fun h => ?_) (fun h => ?_) <;> first | (exfalso; omega; done) | (exfalso; simp at h; done) | skip))
  conv => whnf
  refine CallVC.mk [] _ _ _ rfl rfl rfl (c54) (fun r m' h' => ?_)
  obtain ⟨rfl, rfl⟩ := h'
  conv => whnf
  repeat' ((conv => whnf); first | refine Rng.g ?_ | refine Ob.g ?_ | refine Ob.e ?_ | refine Ob.m ?_ | refine Ob.mk (Nat.le_of_ble_eq_true rfl) ?_ | refine JoinVC.on ?_ | refine Nils.mk (fun h => ?_) ?_ | refine Val.t ?_ | refine Val.d ?_ | refine Mm.mk ?_ | (refine Br.mk (fun h => ?_) (fun h => ?_) <;> first | (exfalso; omega; done) | (exfalso; simp at h; done) | skip))
  conv => whnf
  refine CallVC.mk [] _ _ _ rfl rfl rfl (c47) (fun r m' h' => ?_)
  obtain ⟨rfl, rfl⟩ := h'
  conv => whnf
  repeat refine Mm.mk ?_
  try refine JoinVC.on ?_
  refine Br.mk (fun hL => ?_) (fun hL => ?_)
  rotate_left
  · have hnf : ¬ faceP F l k i j := fun h => hL h.lay
    rw [fcj_end hA hij hnf hj] at hW
    repeat' ((conv => whnf); first | refine Rng.g ?_ | refine Ob.g ?_ | refine Ob.e ?_ | refine Ob.m ?_ | refine Ob.mk (Nat.le_of_ble_eq_true rfl) ?_ | refine JoinVC.on ?_ | refine Nils.mk (fun h => ?_) ?_ | refine Val.t ?_ | refine Val.d ?_ | refine Mm.mk ?_ | (refine Br.mk (fun h => ?_) (fun h => ?_) <;> first | (exfalso; omega; done) | (exfalso; simp at h; done) | skip))
    refine Back.mk (F.length - (k + 1)) _ (by omega) ⟨k + 1, a, by omega, rfl, hW, rfl⟩ ?_
    refine ⟨[some 0, some 1, some 2, some 3, some 4, some 5, some 6, some 7], rfl, rfl, ?_, ?_⟩ <;> repeat' (first | exact trivial | exact rfl | exact Iff.rfl | apply And.intro)
  have hface : faceP F l k i j := ⟨hk', hij, hj', hL⟩
  have hW' := stepG_ok hW (by omega) (q := (k, j)) hface
  have hbj := hbd j (by omega)
  have hco := hf.cost
  have gc : rI (rA (plsA F l) (k : Int).toNat 0) 0 (0 + 0 + (0 + 1 + 1 + 1 + 1 + 1 + 1 + 1)) = (F.getD k f0).cost := by rw [gk]; rfl
  have et : ((i : Int) + ((j : Int) - i)).toNat = j := by omega
  have gj : rI (i64s p) ((i : Int) + ((j : Int) - i)).toNat 0 = p.getD j 0 := by rw [et]; exact i64s_get p j
  have fin : WrgOK l.length (badP F l p i (fcs F l i k ++ fcj F l i k (j + 1))) (stepG F p i a (k, j)) := by rw [fcj_yes hface, ← List.append_assoc]; exact hW'
  repeat' ((conv => whnf); first | refine Rng.g ?_ | refine Ob.g ?_ | refine Ob.e ?_ | refine Ob.m ?_ | refine Ob.mk (Nat.le_of_ble_eq_true rfl) ?_ | refine JoinVC.on ?_ | refine Nils.mk (fun h => ?_) ?_ | refine Val.t ?_ | refine Val.d ?_ | refine Mm.mk ?_ | (refine Br.mk (fun h => ?_) (fun h => ?_) <;> first | (exfalso; omega; done) | (exfalso; simp at h; done) | skip))
  change YieldVC _ _ _ _ _
  refine YieldVC.mk (rsem_of_awp pMix [] rfl (by kernel_rfl) ?_)
  repeat' ((conv => whnf); first | refine Rng.g ?_ | refine Ob.g ?_ | refine Ob.e ?_ | refine Ob.m ?_ | refine Ob.mk (Nat.le_of_ble_eq_true rfl) ?_ | refine JoinVC.on ?_ | refine Nils.mk (fun h => ?_) ?_ | refine Val.t ?_ | refine Val.d ?_ | refine Mm.mk ?_ | (refine Br.mk (fun h => ?_) (fun h => ?_) <;> first | (exfalso; omega; done) | (exfalso; simp at h; done) | skip))
  · have e : stepG F p i a (k, j) = if ((i : Int) + ((j : Int) - i)) < a then ((i : Int) + ((j : Int) - i)) else a := by
      rw [show (i : Int) + ((j : Int) - i) = j by omega]
      exact if_pos (.inl (by show p.getD j 0 < 0; omega))
    refine Back.mk (l.length + 1 - (j + 1)) _ (by omega) ⟨j + 1, _, by omega, by omega, rfl, fin, rfl⟩ ?_
    rw [e]
    refine ⟨[some 0, some 1, some 2, some 3, some 4, some 5, some 6, some 7], rfl, rfl, ?_, ?_⟩ <;> repeat' (first | exact trivial | exact rfl | exact Iff.rfl | apply And.intro)
  · have e : stepG F p i a (k, j) = if ((i : Int) + ((j : Int) - i)) < a then ((i : Int) + ((j : Int) - i)) else a := by
      rw [show (i : Int) + ((j : Int) - i) = j by omega]
      exact if_pos (.inr (by show p.getD i 0 + (F.getD k f0).cost < p.getD j 0; omega))
    refine Back.mk (l.length + 1 - (j + 1)) _ (by omega) ⟨j + 1, _, by omega, by omega, rfl, fin, rfl⟩ ?_
    rw [e]
    refine ⟨[some 0, some 1, some 2, some 3, some 4, some 5, some 6, some 7], rfl, rfl, ?_, ?_⟩ <;> repeat' (first | exact trivial | exact rfl | exact Iff.rfl | apply And.intro)
  · have e : stepG F p i a (k, j) = a := if_neg (by show ¬ (p.getD j 0 < 0 ∨ p.getD i 0 + (F.getD k f0).cost < p.getD j 0); omega)
    refine Back.mk (l.length + 1 - (j + 1)) _ (by omega) ⟨j + 1, _, by omega, by omega, rfl, fin, rfl⟩ ?_
    rw [e]
    refine ⟨[some 0, some 1, some 2, some 3, some 4, some 5, some 6, some 7], rfl, rfl, ?_, ?_⟩ <;> repeat' (first | exact trivial | exact rfl | exact Iff.rfl | apply And.intro)
end Go.Sx

namespace Go.Sx
open Go Go.Proofs
set_option maxRecDepth 10000
set_option maxHeartbeats 8000000
/-! ### SidePriced -/
theorem s48 (F : List Fmt) (l : List Sng) : PSpec Tryd.prog 47 [lFmt F, lSng l] (.x (I (fmsE F l))) := by
  have lF := fmtA_len F
  have ll := sngA_len l
  by_cases h8 : F.length = 0 ∨ 8 < F.length
  · rw [fmsE_many h8]
    refine spec_of pMix (O := []) Tryd.func47 (c := bodyOf Tryd.f47) rfl (by kernel_rfl) (by kernel_rfl) Tryd.ntmps47 (res := [.tmp 4]) (by kernel_rfl) ?_
    repeat' ((conv => whnf); first | refine Rng.g ?_ | refine Ob.g ?_ | refine Ob.e ?_ | refine Ob.m ?_ | refine Ob.mk (Nat.le_of_ble_eq_true rfl) ?_ | refine JoinVC.on ?_ | refine Nils.mk (fun h => ?_) ?_ | refine Val.t ?_ | refine Val.d ?_ | refine Mm.mk ?_ | (refine Br.mk (fun h => ?_) (fun h => ?_) <;> first | (exfalso; omega; done) | (exfalso; simp at h; done) | skip))
    all_goals
      repeat refine Mm.mk ?_
      refine EndVC.mk _ rfl _ _ ⟨rfl, rfl⟩ ?_
      refine ⟨[], rfl, rfl, ?_, ?_⟩ <;> repeat' (first | exact trivial | exact rfl | exact Iff.rfl | apply And.intro)
  refine spec_of pMix (O := []) Tryd.func47 (c := bodyOf Tryd.f47) rfl (by kernel_rfl) (by kernel_rfl) Tryd.ntmps47 (res := [.tmp 4]) (by kernel_rfl) ?_
  repeat' ((conv => whnf); first | refine Rng.g ?_ | refine Ob.g ?_ | refine Ob.e ?_ | refine Ob.m ?_ | refine Ob.mk (Nat.le_of_ble_eq_true rfl) ?_ | refine JoinVC.on ?_ | refine Nils.mk (fun h => ?_) ?_ | refine Val.t ?_ | refine Val.d ?_ | refine Mm.mk ?_ | (refine Br.mk (fun h => ?_) (fun h => ?_) <;> first | (exfalso; omega; done) | (exfalso; simp at h; done) | skip))
  refine LoopVC.mk (fun n st => ∃ (i : Nat), i ≤ F.length ∧ n = F.length - i ∧ (∀ j, j < i → FmtOK (F.getD j f0)) ∧ st = ⟨0, envA 31 [(0, .x (lFmt F)), (1, .x (lSng l)), (5, .int .i64 (i : Int))], []⟩) _ _ ⟨0, Nat.zero_le _, rfl, fun j hj => absurd hj (Nat.not_lt_zero j), rfl⟩ ?_ ?_
  · refine ⟨[], rfl, rfl, ?_, ?_⟩ <;> repeat' (first | exact trivial | exact rfl | exact Iff.rfl | apply And.intro)
  rintro n _ ⟨i, hi, hn, hj, rfl⟩
  by_cases hi' : i < F.length
  · obtain ⟨g0', g1, g2, g3, g4, g5, g6, g7⟩ := fmt_at F i hi'
    have et : (i : Int).toNat = i := Int.toNat_natCast i
    obtain ⟨f, hfe⟩ : ∃ f, F.getD i f0 = f := ⟨_, rfl⟩
    rw [hfe] at g0' g1 g2 g3 g4 g5 g6 g7
    have k0 := s41 f
    by_cases h0 : FmtOK f
    · rw [fmtE_ok h0] at k0
      repeat' ((conv => whnf); first | rw [et] | rw [g0'] | rw [g1] | rw [g2] | rw [g3] | rw [g4] | rw [g5] | rw [g6] | rw [g7] | refine Rng.g ?_ | refine Ob.g ?_ | refine Ob.e ?_ | refine Ob.m ?_ | refine Ob.mk (Nat.le_of_ble_eq_true rfl) ?_ | refine JoinVC.on ?_ | refine Nils.mk (fun h => ?_) ?_ | refine Val.t ?_ | refine Val.d ?_ | refine Mm.mk ?_ | refine CallVC.pure rfl (k0) ?_ | refine CallVC0.pure rfl (k0) ?_ | (refine Br.mk (fun h => ?_) (fun h => ?_) <;> first | (exfalso; omega; done) | (exfalso; simp at h; done) | skip))
      refine Back.mk (F.length - (i + 1)) _ (by omega) ⟨i + 1, by omega, rfl, fun j hj' => ?_, rfl⟩ ?_
      · rcases Nat.lt_succ_iff_lt_or_eq.1 hj' with h' | rfl
        · exact hj j h'
        · rw [hfe]; exact h0
      · refine ⟨[], rfl, rfl, ?_, ?_⟩ <;> repeat' (first | exact trivial | exact rfl | exact Iff.rfl | apply And.intro)
    · rw [fmtE_no h0] at k0
      have he : fmsE F l = 2 := fmsE_bad h8 hi' (by rw [hfe]; exact h0)
      rw [he]
      repeat' ((conv => whnf); first | rw [et] | rw [g0'] | rw [g1] | rw [g2] | rw [g3] | rw [g4] | rw [g5] | rw [g6] | rw [g7] | refine Rng.g ?_ | refine Ob.g ?_ | refine Ob.e ?_ | refine Ob.m ?_ | refine Ob.mk (Nat.le_of_ble_eq_true rfl) ?_ | refine JoinVC.on ?_ | refine Nils.mk (fun h => ?_) ?_ | refine Val.t ?_ | refine Val.d ?_ | refine Mm.mk ?_ | refine CallVC.pure rfl (k0) ?_ | refine CallVC0.pure rfl (k0) ?_ | (refine Br.mk (fun h => ?_) (fun h => ?_) <;> first | (exfalso; omega; done) | (exfalso; simp at h; done) | skip))
      repeat refine Mm.mk ?_
      refine EndVC.mk _ rfl _ _ ⟨rfl, rfl⟩ ?_
      refine ⟨[], rfl, rfl, ?_, ?_⟩ <;> repeat' (first | exact trivial | exact rfl | exact Iff.rfl | apply And.intro)
  · have ei : i = F.length := by omega
    subst ei
    have k1 := s42 l
    have he := fmsE_trk (l := l) h8 hj
    rw [he]
    repeat' ((conv => whnf); first | refine Rng.g ?_ | refine Ob.g ?_ | refine Ob.e ?_ | refine Ob.m ?_ | refine Ob.mk (Nat.le_of_ble_eq_true rfl) ?_ | refine JoinVC.on ?_ | refine Nils.mk (fun h => ?_) ?_ | refine Val.t ?_ | refine Val.d ?_ | refine Mm.mk ?_ | refine CallVC.pure rfl (k1) ?_ | refine CallVC0.pure rfl (k1) ?_ | (refine Br.mk (fun h => ?_) (fun h => ?_) <;> first | (exfalso; omega; done) | (exfalso; simp at h; done) | skip))
    repeat refine Mm.mk ?_
    refine EndVC.mk _ rfl _ _ ⟨rfl, rfl⟩ ?_
    refine ⟨[], rfl, rfl, ?_, ?_⟩ <;> repeat' (first | exact trivial | exact rfl | exact Iff.rfl | apply And.intro)
open Classical in
theorem s19 (F : List Fmt) (l : List Sng) (m : Int) : PSpec Tryd.prog 28 [lFmt F, lSng l, I m] (xP ((l.length : Int) ≤ m ∧ AlbOK F l)) := by
  have ll := sngA_len l
  have k := s48 F l
  by_cases hm : (l.length : Int) ≤ m
  · refine spec_of pMix (O := []) Tryd.func28 (c := bodyOf Tryd.f28) rfl (by kernel_rfl) (by kernel_rfl) Tryd.ntmps28 (res := [.tmp 6]) (by kernel_rfl) ?_
    repeat' ((conv => whnf); first | refine Rng.g ?_ | refine Ob.g ?_ | refine Ob.e ?_ | refine Ob.m ?_ | refine Ob.mk (Nat.le_of_ble_eq_true rfl) ?_ | refine JoinVC.on ?_ | refine Nils.mk (fun h => ?_) ?_ | refine Val.t ?_ | refine Val.d ?_ | refine Mm.mk ?_ | refine CallVC.pure rfl (k) ?_ | refine CallVC0.pure rfl (k) ?_ | (refine Br.mk (fun h => ?_) (fun h => ?_) <;> first | (exfalso; omega; done) | (exfalso; simp at h; done) | skip))
    repeat refine Mm.mk ?_
    refine EndVC.mk _ rfl _ _ ⟨rfl, rfl⟩ ?_
    refine ⟨[], rfl, rfl, ?_, ?_⟩ <;> repeat' (first | exact trivial | exact rfl | exact Iff.rfl | apply And.intro)
    exact ⟨fun h => ⟨hm, fmsE_0.1 h⟩, fun h => fmsE_0.2 h.2⟩
  · refine spec_of pMix (O := []) Tryd.func28 (c := bodyOf Tryd.f28) rfl (by kernel_rfl) (by kernel_rfl) Tryd.ntmps28 (res := [.tmp 6]) (by kernel_rfl) ?_
    repeat' ((conv => whnf); first | refine Rng.g ?_ | refine Ob.g ?_ | refine Ob.e ?_ | refine Ob.m ?_ | refine Ob.mk (Nat.le_of_ble_eq_true rfl) ?_ | refine JoinVC.on ?_ | refine Nils.mk (fun h => ?_) ?_ | refine Val.t ?_ | refine Val.d ?_ | refine Mm.mk ?_ | (refine Br.mk (fun h => ?_) (fun h => ?_) <;> first | (exfalso; omega; done) | (exfalso; simp at h; done) | skip))
    repeat refine Mm.mk ?_
    refine EndVC.mk _ rfl _ _ ⟨rfl, rfl⟩ ?_
    refine ⟨[], rfl, rfl, ?_, ?_⟩ <;> repeat' (first | exact trivial | exact rfl | exact Iff.rfl | apply And.intro)
    exact fun h => hm h.1
end Go.Sx

namespace Go.Sx
open Go Go.Proofs
set_option maxRecDepth 10000
set_option maxHeartbeats 16000000
theorem e5 : EntersF Tryd.prog 5 := enters_of Tryd.func5 (c := bodyOf Tryd.f5) (by kernel_rfl) rfl
/-! ### SideCheaper -/
theorem cosE_0 {F : List Fmt} {l : List Sng} {P : List Fc} (h : cosE F l P = 0) : AlbOK F l ∧ P.length ≤ 24 ∧ AllF F P ∧ PlanOK F l 0 (plnP P) := by
  by_cases hA : AlbOK F l
  · by_cases h1 : 24 < P.length
    · rw [cosE_many hA h1] at h; cases h
    · by_cases h2 : AllF F P
      · by_cases h3 : sumM P P.length = (l.length : Int)
        · by_cases h4 : PlanOK F l 0 (plnP P)
          · exact ⟨hA, by omega, h2, h4⟩
          · rw [cosE_plan hA h1 h2 h3 h4] at h; cases h
        · rw [cosE_eq hA h1 h2 h3] at h; cases h
      · rw [cosE_rng hA h1 h2] at h; cases h
  · have h0 : fmsE F l ≠ 0 := fun h => hA (fmsE_0.1 h)
    rw [cosE_bad h0] at h
    exact absurd h h0
/-- A plan is possible if each of its faces is. -/
def fcOf (p : Nat × Nat) : Fc := ⟨p.1, p.2⟩
theorem plnP_of (P : List (Nat × Nat)) : plnP (P.map fcOf) = P := by
  unfold plnP
  rw [List.map_map]
  conv => rhs; rw [← List.map_id P]
  exact List.map_congr_left fun p _ => by simp [fcOf, Fc.p]
theorem fcsA_fac (P : List (Nat × Nat)) : fcsA P = facA (P.map fcOf) := by simp [fcsA, facA, fcOf]
theorem fcOf_at (P : List (Nat × Nat)) (i : Nat) (h : i < P.length) : (P.map fcOf).getD i fc0 = fcOf (P.getD i (0, 0)) := by simp [List.getD_eq_getElem?_getD, h]
theorem plan_all {F : List Fmt} {l : List Sng} (hA : AlbOK F l) {P : List (Nat × Nat)} (h : PlanOK F l 0 P) : AllF F (P.map fcOf) ∧ sumM (P.map fcOf) (P.map fcOf).length = (l.length : Int) ∧ P.length ≤ 24 := by
  have h24 := hA.sngs.len
  obtain ⟨h1, h2⟩ := (planOK_iff P 0).1 h
  have hall : AllF F (P.map fcOf) := fun i hi => by
    rw [List.length_map] at hi
    rw [fcOf_at P i hi]
    have h3 := h1 i hi
    have h4 := h3.lt
    have h5 := h3.le
    have h6 := h3.fmt
    unfold fcOf
    refine ⟨⟨?_, ?_⟩, ?_, ?_⟩ <;> simp only <;> omega
  have hs := sumM_N hall (P.map fcOf).length (Nat.le_refl _)
  have e : (P.map fcOf).map Fc.p = P := plnP_of P
  rw [e, List.length_map] at hs
  have hb := (sumM_bd (P := P.map fcOf) (n := F.length) (P.map fcOf).length hall (P.map fcOf).length (Nat.le_refl _)).1
  rw [List.length_map] at hb
  rw [List.length_map]
  refine ⟨hall, ?_, ?_⟩ <;> omega
theorem cos_plan {F : List Fmt} {l : List Sng} (hA : AlbOK F l) {P : List (Nat × Nat)} (h : PlanOK F l 0 P) : cosE F l (P.map fcOf) = 0 ∧ cosN F l (P.map fcOf) = costP F P := by
  obtain ⟨h1, h2, h3⟩ := plan_all hA h
  have e := cosE_ok hA (by rw [List.length_map]; omega) h1 h2 (by rw [plnP_of]; exact h)
  refine ⟨e, ?_⟩
  unfold cosN
  rw [if_pos e, plnP_of]
theorem right_no {F : List Fmt} {l : List Sng} {p : List Int} (h : RightP F l p) (j : Nat) : ¬ wrongP F l p j := by
  rintro ⟨i, k, h1, h2, h3⟩
  have hf : faceP F l k i j := by
    rcases h1 with ⟨_, h1⟩ | h1
    · exact h1
    · exact absurd h1 (by simp)
  have := h.step k i j h2 hf
  omega
theorem prc_in {F : List Fmt} {l : List Sng} (hA : AlbOK F l) {p : List Int} (h : PrcOK F l (Reach F l) p) (j : Nat) (hj : j < p.length) : ¬ outP (p.getD j 0) := by
  have hl := h.len
  have h24 := hA.sngs.len
  unfold outP
  rcases h.each j (by omega) with ⟨h1, _⟩ | ⟨h1, h2, _⟩
  · omega
  · have := reach_bd hA h2
    omega
theorem s5 (F : List Fmt) (l : List Sng) (P : List Fc) : HSpec Tryd.prog 5 [lFmt F, lSng l, lFac P] [gNone] (fun r _ => r = xP True) := by
  have hw := s11
  have ll := sngA_len l
  have lF := fmtA_len F
  have lP := facA_len P
  have c19 := s19 F l 24
  by_cases hV : (l.length : Int) ≤ 24 ∧ AlbOK F l
  rotate_left
  · refine spec_of pMix (O := []) Tryd.func5 (c := bodyOf Tryd.f5) rfl (by kernel_rfl) (by kernel_rfl) Tryd.ntmps5 (res := [.tmp 6]) (by kernel_rfl) ?_
    repeat' ((conv => whnf); first | refine Rng.g ?_ | refine Ob.g ?_ | refine Ob.e ?_ | refine Ob.m ?_ | refine Ob.mk (Nat.le_of_ble_eq_true rfl) ?_ | refine JoinVC.on ?_ | refine Nils.mk (fun h => ?_) ?_ | refine Val.t ?_ | refine Val.d ?_ | refine Mm.mk ?_ | refine CallVC.pure rfl (c19) ?_ | refine CallVC.pure rfl (hw) ?_ | refine CallVC0.pure rfl (c19) ?_ | refine CallVC0.pure rfl (hw) ?_ | (refine Br.mk (fun h => ?_) (fun h => ?_) <;> first | (exfalso; omega; done) | (exfalso; simp at h; done) | (exfalso; simp [hV] at h; done) | skip))
    all_goals
      conv => whnf
      refine EndVC.mk _ rfl (xP True) [some gNone] rfl ?_
      refine ⟨[some 0], rfl, rfl, ?_, ?_⟩ <;> repeat' (first | exact trivial | exact rfl | exact Iff.rfl | apply And.intro)
  obtain ⟨h24, hA⟩ := hV
  by_cases hP : 24 < P.length
  · refine spec_of pMix (O := []) Tryd.func5 (c := bodyOf Tryd.f5) rfl (by kernel_rfl) (by kernel_rfl) Tryd.ntmps5 (res := [.tmp 6]) (by kernel_rfl) ?_
    repeat' ((conv => whnf); first | refine Rng.g ?_ | refine Ob.g ?_ | refine Ob.e ?_ | refine Ob.m ?_ | refine Ob.mk (Nat.le_of_ble_eq_true rfl) ?_ | refine JoinVC.on ?_ | refine Nils.mk (fun h => ?_) ?_ | refine Val.t ?_ | refine Val.d ?_ | refine Mm.mk ?_ | refine CallVC.pure rfl (c19) ?_ | refine CallVC.pure rfl (hw) ?_ | refine CallVC0.pure rfl (c19) ?_ | refine CallVC0.pure rfl (hw) ?_ | (refine Br.mk (fun h => ?_) (fun h => ?_) <;> first | (exfalso; omega; done) | (exfalso; simp at h; done) | (exfalso; simp [h24, hA] at h; done) | skip))
    all_goals
      conv => whnf
      refine EndVC.mk _ rfl (xP True) [some gNone] rfl ?_
      refine ⟨[some 0], rfl, rfl, ?_, ?_⟩ <;> repeat' (first | exact trivial | exact rfl | exact Iff.rfl | apply And.intro)
  have hI : ∀ i, (F.getD i f0).nm.size ≤ 140737488355328 := fun i => by
    by_cases hi : i < F.length
    · have := (hA.fmts i hi).nm.2.1; omega
    · rw [show F.getD i f0 = f0 by simp [List.getD_eq_getElem?_getD, List.getElem?_eq_none (show F.length ≤ i by omega)]]; decide
  have c21 := s21 F l P hI
  have hle := fun (h : cosE F l P = 0) => plan_le (F := F) (l := l) (plnP P) 0 (Nat.zero_le _) (cosE_0 h).2.2.2
  have hcN : cosE F l P = 0 → cosN F l P = costP F (plnP P) := fun h => by unfold cosN; rw [if_pos h]
  have hpl : (plnP P).length = P.length := by unfold plnP; rw [List.length_map]
  have hbest := bst_best (F := F) (l := l) fun k => by
    by_cases hk : k < F.length
    · exact (hA.fmts k hk).cost.1
    · rw [show F.getD k f0 = f0 by simp [List.getD_eq_getElem?_getD, List.getElem?_eq_none (show F.length ≤ k by omega)]]; decide
  obtain ⟨E, hE⟩ : ∃ E, cosE F l P = E := ⟨_, rfl⟩
  obtain ⟨N, hN⟩ : ∃ N, cosN F l P = N := ⟨_, rfl⟩
  rw [hE, hN] at c21
  rw [hE] at hle hcN
  rw [hN] at hcN
  refine spec_of pMix (O := []) Tryd.func5 (c := bodyOf Tryd.f5) rfl (by kernel_rfl) (by kernel_rfl) Tryd.ntmps5 (res := [.tmp 6]) (by kernel_rfl) ?_
  repeat' ((conv => whnf); first | refine Rng.g ?_ | refine Ob.g ?_ | refine Ob.e ?_ | refine Ob.m ?_ | refine Ob.mk (Nat.le_of_ble_eq_true rfl) ?_ | refine JoinVC.on ?_ | refine Nils.mk (fun h => ?_) ?_ | refine Val.t ?_ | refine Val.d ?_ | refine Mm.mk ?_ | refine CallVC.pure rfl (c19) ?_ | refine CallVC0.pure rfl (c19) ?_ | (refine Br.mk (fun h => ?_) (fun h => ?_) <;> first | (exfalso; omega; done) | (exfalso; simp at h; done) | (exfalso; simp [h24, hA] at h; done) | skip))
  conv => whnf
  refine CallVC.mk [0] _ _ _ rfl rfl rfl (s18a F l hI) (fun r m' h' => ?_)
  cases h' with
  | bad he hr hm => exact absurd (fmsE_0.2 hA) he
  | none _ hb hr hm =>
    subst hr hm
    rw [hb] at hbest
    have hE0 : E ≠ 0 := fun h => by
      obtain ⟨w, q, h1, _⟩ := hle h
      rw [hb] at h1
      cases h1
    repeat' ((conv => whnf); first | refine Rng.g ?_ | refine Ob.g ?_ | refine Ob.e ?_ | refine Ob.m ?_ | refine Ob.mk (Nat.le_of_ble_eq_true rfl) ?_ | refine JoinVC.on ?_ | refine Nils.mk (fun h => ?_) ?_ | refine Val.t ?_ | refine Val.d ?_ | refine Mm.mk ?_ | refine CallVC.pure rfl (c21) ?_ | refine CallVC0.pure rfl (c21) ?_ | (refine Br.mk (fun h => ?_) (fun h => ?_) <;> first | (exfalso; omega; done) | (exfalso; simp at h; done) | skip))
    conv => whnf
    refine CallVC.mk [] _ _ _ rfl rfl rfl (s33 F l hI) (fun r m' h' => ?_)
    rcases h' with ⟨he, _, _⟩ | ⟨_, p, hp, rfl, rfl⟩
    · exact absurd (fmsE_0.2 hA) he
    have hpl2 := hp.len
    have lpi := i64s_len p
    have hrt := prc_right hA hp
    have hpn := BestC.uniq (hp.each l.length (Nat.le_refl _)) hbest
    have e24 : ((sngA l).length : Int) = (l.length : Int) := by rw [ll]
    have gp : rI (i64s p) (l.length : Int).toNat 0 = p.getD l.length 0 := by rw [Int.toNat_natCast]; exact i64s_get p _
    rw [hpn] at gp
    repeat' ((conv => whnf); first | rw [e24] | refine Rng.g ?_ | refine Ob.g ?_ | refine Ob.e ?_ | refine Ob.m ?_ | refine Ob.mk (Nat.le_of_ble_eq_true rfl) ?_ | refine JoinVC.on ?_ | refine Nils.mk (fun h => ?_) ?_ | refine Val.t ?_ | refine Val.d ?_ | refine Mm.mk ?_ | (refine Br.mk (fun h => ?_) (fun h => ?_) <;> first | (exfalso; omega; done) | (exfalso; simp at h; done) | skip))
    conv => whnf
    refine CallVC.mk [] _ _ _ rfl rfl rfl (s20 F l p hI (by omega)) (fun r m' h' => ?_)
    obtain ⟨hc, rfl⟩ := h'
    cases hc with
    | bad he _ => exact absurd (fmsE_0.2 hA) he
    | len _ he _ => exact absurd hpl2 he
    | rng _ _ he _ =>
      rcases he with he | ⟨j, h1, h2⟩
      · exact absurd hrt.zero he
      · exact absurd h2 (prc_in hA hp j h1)
    | wrong _ _ _ _ j _ he _ _ => exact absurd he (right_no hrt j)
    | ok _ _ _ _ _ hr =>
      subst hr
      repeat' ((conv => whnf); first | rw [e24] | rw [gp] | refine Rng.g ?_ | refine Ob.g ?_ | refine Ob.e ?_ | refine Ob.m ?_ | refine Ob.mk (Nat.le_of_ble_eq_true rfl) ?_ | refine JoinVC.on ?_ | refine Nils.mk (fun h => ?_) ?_ | refine Val.t ?_ | refine Val.d ?_ | refine Mm.mk ?_ | refine CallVC.pure rfl (hw) ?_ | refine CallVC0.pure rfl (hw) ?_ | (refine Br.mk (fun h => ?_) (fun h => ?_) <;> first | (exfalso; omega; done) | (exfalso; simp at h; done) | skip))
      all_goals
        conv => whnf
        refine EndVC.mk _ rfl (xP True) [some gNone] rfl ?_
        refine ⟨[some 0], rfl, rfl, ?_, ?_⟩ <;> repeat' (first | exact trivial | exact rfl | exact Iff.rfl | apply And.intro)
  | ok _ w q hb hr hm =>
    rw [fcsA_fac] at hr
    subst hr hm
    rw [hb] at hbest
    obtain ⟨q1, q2, q3⟩ := planB_ok (F := F) l.length 0 w q (by omega) (Nat.zero_le _) hb
    obtain ⟨B, hB⟩ : ∃ B, planB F l l.length 0 = B := ⟨_, rfl⟩
    rw [hB] at q1 q2 q3
    rw [hB]
    have c21b := s21 F l (B.map fcOf) hI
    obtain ⟨k1, k2⟩ := cos_plan hA q1
    rw [k1, k2, q2] at c21b
    have lB : (facA (B.map fcOf)).length = B.length := by rw [facA_len, List.length_map]
    have hfin : E = 0 → N > w.1 ∨ N = w.1 ∧ (B.length : Int) ≤ (P.length : Int) := fun h => by
      obtain ⟨w', q', h1, h2⟩ := hle h
      rw [hb] at h1
      cases h1
      have h3 := hcN h
      rw [← h3, hpl] at h2
      unfold ltW at h2
      simp only at h2
      omega
    repeat' ((conv => whnf); first | refine Rng.g ?_ | refine Ob.g ?_ | refine Ob.e ?_ | refine Ob.m ?_ | refine Ob.mk (Nat.le_of_ble_eq_true rfl) ?_ | refine JoinVC.on ?_ | refine Nils.mk (fun h => ?_) ?_ | refine Val.t ?_ | refine Val.d ?_ | refine Mm.mk ?_ | refine CallVC.pure rfl (c21) ?_ | refine CallVC0.pure rfl (c21) ?_ | (refine Br.mk (fun h => ?_) (fun h => ?_) <;> first | (exfalso; omega; done) | (exfalso; simp at h; done) | skip))
    conv => whnf
    refine CallVC.mk [] _ _ _ rfl rfl rfl (s33 F l hI) (fun r m' h' => ?_)
    rcases h' with ⟨he, _, _⟩ | ⟨_, p, hp, rfl, rfl⟩
    · exact absurd (fmsE_0.2 hA) he
    have hpl2 := hp.len
    have lpi := i64s_len p
    have hrt := prc_right hA hp
    have hpn := BestC.uniq (hp.each l.length (Nat.le_refl _)) hbest
    have e24 : ((sngA l).length : Int) = (l.length : Int) := by rw [ll]
    have gp : rI (i64s p) (l.length : Int).toNat 0 = p.getD l.length 0 := by rw [Int.toNat_natCast]; exact i64s_get p _
    rw [hpn] at gp
    repeat' ((conv => whnf); first | rw [e24] | refine Rng.g ?_ | refine Ob.g ?_ | refine Ob.e ?_ | refine Ob.m ?_ | refine Ob.mk (Nat.le_of_ble_eq_true rfl) ?_ | refine JoinVC.on ?_ | refine Nils.mk (fun h => ?_) ?_ | refine Val.t ?_ | refine Val.d ?_ | refine Mm.mk ?_ | (refine Br.mk (fun h => ?_) (fun h => ?_) <;> first | (exfalso; omega; done) | (exfalso; simp at h; done) | skip))
    conv => whnf
    refine CallVC.mk [] _ _ _ rfl rfl rfl (s20 F l p hI (by omega)) (fun r m' h' => ?_)
    obtain ⟨hc, rfl⟩ := h'
    cases hc with
    | bad he _ => exact absurd (fmsE_0.2 hA) he
    | len _ he _ => exact absurd hpl2 he
    | rng _ _ he _ =>
      rcases he with he | ⟨j, h1, h2⟩
      · exact absurd hrt.zero he
      · exact absurd h2 (prc_in hA hp j h1)
    | wrong _ _ _ _ j _ he _ _ => exact absurd he (right_no hrt j)
    | ok _ _ _ _ _ hr =>
      subst hr
      by_cases hE0 : E = 0
      · have hf := hfin hE0
        repeat' ((conv => whnf); first | rw [e24] | rw [gp] | refine Rng.g ?_ | refine Ob.g ?_ | refine Ob.e ?_ | refine Ob.m ?_ | refine Ob.mk (Nat.le_of_ble_eq_true rfl) ?_ | refine JoinVC.on ?_ | refine Nils.mk (fun h => ?_) ?_ | refine Val.t ?_ | refine Val.d ?_ | refine Mm.mk ?_ | refine CallVC.pure rfl (c21b) ?_ | refine CallVC.pure rfl (hw) ?_ | refine CallVC0.pure rfl (c21b) ?_ | refine CallVC0.pure rfl (hw) ?_ | (refine Br.mk (fun h => ?_) (fun h => ?_) <;> first | (exfalso; omega; done) | (exfalso; simp at h; done) | skip))
        all_goals
          conv => whnf
          refine EndVC.mk _ rfl (xP True) [some gNone] rfl ?_
          refine ⟨[some 0], rfl, rfl, ?_, ?_⟩ <;> repeat' (first | exact trivial | exact rfl | exact Iff.rfl | apply And.intro)
      · repeat' ((conv => whnf); first | rw [e24] | rw [gp] | refine Rng.g ?_ | refine Ob.g ?_ | refine Ob.e ?_ | refine Ob.m ?_ | refine Ob.mk (Nat.le_of_ble_eq_true rfl) ?_ | refine JoinVC.on ?_ | refine Nils.mk (fun h => ?_) ?_ | refine Val.t ?_ | refine Val.d ?_ | refine Mm.mk ?_ | refine CallVC.pure rfl (c21b) ?_ | refine CallVC.pure rfl (hw) ?_ | refine CallVC0.pure rfl (c21b) ?_ | refine CallVC0.pure rfl (hw) ?_ | (refine Br.mk (fun h => ?_) (fun h => ?_) <;> first | (exfalso; omega; done) | (exfalso; simp at h; done) | skip))
        all_goals
          conv => whnf
          refine EndVC.mk _ rfl (xP True) [some gNone] rfl ?_
          refine ⟨[some 0], rfl, rfl, ?_, ?_⟩ <;> repeat' (first | exact trivial | exact rfl | exact Iff.rfl | apply And.intro)
end Go.Sx

namespace Go.Sx
open Go Go.Proofs
set_option maxRecDepth 10000
/-! ### Rows read as tracks, formats, faces -/
theorem wfr_of : ∀ {ks : List CK} {r : List Cell}, r.length = ks.length → (∀ (j : Nat) k c, ks[j]? = some k → r[j]? = some c → Wf k c) → WfR ks r
  | [], [], _, _ => .nil
  | [], _ :: _, h, _ => by simp at h
  | _ :: _, [], h, _ => by simp at h
  | k :: ks, c :: cs, h, hw => .cons (hw 0 k c rfl rfl) (wfr_of (by simpa using h) fun j k' c' h1 h2 => hw (j + 1) k' c' (by simpa using h1) (by simpa using h2))
theorem wf_map {α : Type} {ks : List CK} {row : α → List Cell} {p : α → Prop} (hrow : ∀ r, WfR ks r → ∃ x, r = row x ∧ p x) {a : Arr} (h : Wf (.sl ks) (.sl a)) : ∃ l : List α, a = l.map row ∧ ∀ x ∈ l, p x := by
  cases h with
  | sl hl hr hw =>
    clear hl
    induction a with
    | nil => exact ⟨[], rfl, fun x hx => by simp at hx⟩
    | cons r a ih =>
      obtain ⟨l, rfl, h2⟩ := ih (fun r h => hr r (List.mem_cons_of_mem _ h)) (fun r h => hw r (List.mem_cons_of_mem _ h))
      obtain ⟨x, rfl, h3⟩ := hrow r (wfr_of (hr r (List.mem_cons_self ..)) (hw r (List.mem_cons_self ..)))
      exact ⟨x :: l, rfl, fun y hy => by rcases List.mem_cons.1 hy with rfl | hy; (· exact h3); exact h2 y hy⟩
theorem mem_getD {α : Type} {p : α → Prop} {l : List α} {d : α} (h : ∀ x ∈ l, p x) (hd : p d) (j : Nat) : p (l.getD j d) := by
  rw [List.getD_eq_getElem?_getD]
  cases hx : l[j]? with
  | none => exact hd
  | some x => exact h x (List.mem_of_getElem? hx)
def Sng.inR (g : Sng) : Prop := Go.Sx.inR .i64 g.long ∧ Go.Sx.inR .i64 g.pitch ∧ Go.Sx.inR .i64 g.least
theorem wf_sngs {a : Arr} (h : Wf (.sl KSng) (.sl a)) : ∃ l : List Sng, a = sngA l ∧ ∀ g ∈ l, g.inR := by
  obtain ⟨l, h1, h2⟩ := wf_map (row := fun g : Sng => [.int g.long, .int g.pitch, .int g.least]) (p := Sng.inR) (fun r hr => by
    obtain ⟨c0, _, rfl, g0, h1⟩ := hr.inv
    obtain ⟨n0, rfl, i0⟩ := g0.int_inv
    obtain ⟨c1, _, rfl, g1, h2⟩ := h1.inv
    obtain ⟨n1, rfl, i1⟩ := g1.int_inv
    obtain ⟨c2, _, rfl, g2, h3⟩ := h2.inv
    obtain ⟨n2, rfl, i2⟩ := g2.int_inv
    cases h3.nil_inv
    exact ⟨⟨n0, n1, n2⟩, rfl, i0, i1, i2⟩) h
  exact ⟨l, h1, h2⟩
theorem wf_fmts {a : Arr} (h : Wf (.sl KFm) (.sl a)) : ∃ F : List Fmt, a = fmtA F ∧ ∀ i, (F.getD i f0).nm.size ≤ maxLen := by
  obtain ⟨l, h1, h2⟩ := wf_map (row := fun f : Fmt => [.str f.nm, .int f.outer, .int f.inner, .int f.per, .int f.lead, .int f.gap, .int f.tail, .int f.cost]) (p := fun f => f.nm.size ≤ maxLen) (fun r hr => by
    obtain ⟨c0, _, rfl, g0, h1⟩ := hr.inv
    obtain ⟨n0, rfl, z0⟩ := g0.str_inv
    obtain ⟨c1, _, rfl, g1, h2⟩ := h1.inv
    obtain ⟨n1, rfl, _⟩ := g1.int_inv
    obtain ⟨c2, _, rfl, g2, h3⟩ := h2.inv
    obtain ⟨n2, rfl, _⟩ := g2.int_inv
    obtain ⟨c3, _, rfl, g3, h4⟩ := h3.inv
    obtain ⟨n3, rfl, _⟩ := g3.int_inv
    obtain ⟨c4, _, rfl, g4, h5⟩ := h4.inv
    obtain ⟨n4, rfl, _⟩ := g4.int_inv
    obtain ⟨c5, _, rfl, g5, h6⟩ := h5.inv
    obtain ⟨n5, rfl, _⟩ := g5.int_inv
    obtain ⟨c6, _, rfl, g6, h7⟩ := h6.inv
    obtain ⟨n6, rfl, _⟩ := g6.int_inv
    obtain ⟨c7, _, rfl, g7, h8⟩ := h7.inv
    obtain ⟨n7, rfl, _⟩ := g7.int_inv
    cases h8.nil_inv
    exact ⟨⟨n0, n1, n2, n3, n4, n5, n6, n7⟩, rfl, z0⟩) h
  exact ⟨l, h1, mem_getD h2 (by decide)⟩
end Go.Sx

namespace Go.Sx
open Go Go.Proofs
set_option maxRecDepth 10000
theorem wf_faces {a : Arr} (h : Wf (.sl KFc) (.sl a)) : ∃ l : List Fc, a = facA l ∧ ∀ g ∈ l, inR .i64 g.fm ∧ inR .i64 g.mn := by
  obtain ⟨l, h1, h2⟩ := wf_map (row := fun g : Fc => [.int g.fm, .int g.mn]) (p := fun g => inR .i64 g.fm ∧ inR .i64 g.mn) (fun r hr => by
    obtain ⟨c0, _, rfl, g0, h1⟩ := hr.inv
    obtain ⟨n0, rfl, i0⟩ := g0.int_inv
    obtain ⟨c1, _, rfl, g1, h2⟩ := h1.inv
    obtain ⟨n1, rfl, i1⟩ := g1.int_inv
    cases h2.nil_inv
    exact ⟨⟨n0, n1⟩, rfl, i0, i1⟩) h
  exact ⟨l, h1, h2⟩
end Go.Sx
