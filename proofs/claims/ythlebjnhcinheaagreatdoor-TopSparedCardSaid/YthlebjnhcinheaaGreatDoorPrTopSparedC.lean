import Derived.Test.YthlebjnhcinheaaGreatDoorPrTopSparedB
import Derived.Test.YthlebjnhcinheaaGreatDoorXc
namespace Go.Sx
open Go Go.Proofs
set_option maxRecDepth 10000
set_option maxHeartbeats 16000000
theorem e260 : EntersF Tryz.prog 260 := enters_of Tryz.func260 (c := bodyOf Tryz.f260) (by kernel_rfl) rfl
theorem e243 : EntersF Tryz.prog 243 := enters_of Tryz.func243 (c := bodyOf Tryz.f243) (by kernel_rfl) rfl
/-! ### A walk with a tip: the rounds of 'fold' and of the walk -/
noncomputable def rf244 : Code := cB (cS (cF (cS (bodyOf Tryz.f244))))
noncomputable def rf243 : Code := cB (cS (cS (bodyOf Tryz.f243)))
/-- The better of two. -/
def btF (sg : Bool) (x a : Int) : Int := match sg with
  | true => if x > a then x else a
  | false => if x < a then x else a
def btN : Bool → FuncId
  | true => 245
  | false => 246
@[reducible] noncomputable def MA7 (S H : List Int) (sg : Bool) (i a0 a : Int) : List (Option Blk) := [some (.box 3 [.int .i64 i]), some (.box 37 [.lst true [.int .i64] (i64s H)]), some (bTip S), some (.box 4 [bv sg]), some (.box 2 [.int .i64 a]), some (.box 382 [.fn (btN sg) []]), some (.loop [9] (cAs rf244) (cBo rf244) (envA 16 [(0, .x (I a0)), (1, .x (.one (.fn 243 [(0, 0), (1, 0), (2, 0), (3, 0)]))), (2, .x (.one (.fn (btN sg) []))), (3, .x (.one (.ptr 4 0))), (5, .x (.one (.ptr 5 0))), (6, .x (I 0)), (8, .x (.one (.fn 243 [(0, 0), (1, 0), (2, 0), (3, 0)])))]) .ready)]
@[reducible] noncomputable def MA12 (S H : List Int) (sg : Bool) (i a0 a : Int) : List (Option Blk) := [some (.box 3 [.int .i64 i]), some (.box 37 [.lst true [.int .i64] (i64s H)]), some (bTip S), some (.box 4 [bv sg]), some (.box 2 [.int .i64 a]), some (.box 382 [.fn (btN sg) []]), some (.loop [9] (cAs rf244) (cBo rf244) (envA 16 [(0, .x (I a0)), (1, .x (.one (.fn 243 [(0, 0), (1, 0), (2, 0), (3, 0)]))), (2, .x (.one (.fn (btN sg) []))), (3, .x (.one (.ptr 4 0))), (5, .x (.one (.ptr 5 0))), (6, .x (I 0)), (8, .x (.one (.fn 243 [(0, 0), (1, 0), (2, 0), (3, 0)])))]) .ready), some (.box 213 [.yld 6]), some (.box 3 [.int .i64 i]), some (.box 3 [.int .i64 (H.length : Int)]), some (.box 3 [.int .i64 (S.length : Int)]), some (.loop [16, 17] (cAs rf243) (cBo rf243) (envA 35 [(0, .x (.one (.yld 6))), (1, .x (.one (.ptr 0 0))), (2, .x (.one (.ptr 1 0))), (3, .x (.one (.ptr 2 0))), (4, .x (.one (.ptr 3 0))), (5, .x (.one (.ptr 7 0))), (9, .x (I i)), (10, .x (lL H)), (11, .x (I (H.length : Int))), (12, .x (.one (.ptr 2 0))), (13, .x (lL S)), (14, .x (I (S.length : Int))), (15, .x (.one (.fn 260 [(8, 0), (10, 0), (9, 0)])))]) .ready)]
@[reducible] noncomputable def MAb (S H : List Int) (sg : Bool) (i a0 a : Int) : List (Option Blk) := [some (.box 3 [.int .i64 i]), some (.box 37 [.lst true [.int .i64] (i64s H)]), some (bTip S), some (.box 4 [bv sg]), some (.box 2 [.int .i64 a]), some (.box 382 [.fn (btN sg) []]), some (.loop [9] (cAs rf244) (cBo rf244) (envA 16 [(0, .x (I a0)), (1, .x (.one (.fn 243 [(0, 0), (1, 0), (2, 0), (3, 0)]))), (2, .x (.one (.fn (btN sg) []))), (3, .x (.one (.ptr 4 0))), (5, .x (.one (.ptr 5 0))), (6, .x (I 0)), (8, .x (.one (.fn 243 [(0, 0), (1, 0), (2, 0), (3, 0)])))]) .ready), some (.box 213 [.yld 6]), some (.box 3 [.int .i64 i]), some (.box 3 [.int .i64 (H.length : Int)]), some (.box 3 [.int .i64 (S.length : Int)]), some (.loop [16, 17] (cAs rf243) (cBo rf243) (envA 35 [(0, .x (.one (.yld 6))), (1, .x (.one (.ptr 0 0))), (2, .x (.one (.ptr 1 0))), (3, .x (.one (.ptr 2 0))), (4, .x (.one (.ptr 3 0))), (5, .x (.one (.ptr 7 0))), (9, .x (I i)), (10, .x (lL H)), (11, .x (I (H.length : Int))), (12, .x (.one (.ptr 2 0))), (13, .x (lL S)), (14, .x (I (S.length : Int))), (15, .x (.one (.fn 260 [(8, 0), (10, 0), (9, 0)])))]) .busy)]
/-- A round of 'fold', within a round of the walk. -/
theorem rnd244 (S H : List Int) (i a0 a x : Int) : RSem Tryz.prog 6 [I x] (MAb S H false i a0 a) (fun bb m' => bb = true ∧ m' = MAb S H false i a0 (btF false x a)) := by
  refine RSem.le (rsem_of_awp (Q := fun bb m' => ∃ m2, (bb = true ∧ m2 = MAb S H false i a0 (btF false x a)) ∧ Le ⟨(MAb S H false i a0 a).length, [], m'⟩ ⟨(MAb S H false i a0 a).length, [], m2⟩) pMix [] rfl (by kernel_rfl) ?_) (fun bb m' h => by obtain ⟨m2, h1, h2⟩ := h; exact ⟨m2, h1, h2⟩)
  have k := s246 x a
  by_cases hc : x < a
  · have e1 : btF false x a = x := if_pos hc
    rw [e1]
    repeat' ((conv => whnf); first | refine Rng.g ?_ | refine Ob.g ?_ | refine Ob.e ?_ | refine Ob.m ?_ | refine Ob.mk (Nat.le_of_ble_eq_true rfl) ?_ | refine JoinVC.on ?_ | refine Nils.mk (fun h => ?_) ?_ | refine Val.t ?_ | refine Val.d ?_ | refine Mm.mk ?_ | refine CallVC.pure rfl (k) ?_ | refine CallVC0.pure rfl (k) ?_ | (refine Br.mk (fun h => ?_) (fun h => ?_) <;> first | (exfalso; omega; done) | (exfalso; simp at h; done) | skip))
    refine ⟨_, ⟨rfl, rfl⟩, [some 0, some 1, some 2, some 3, some 4, some 5, some 6, some 7, some 8, some 9, some 10, some 11], rfl, rfl, ?_, ?_⟩ <;> repeat' (first | exact trivial | exact rfl | exact Iff.rfl | apply And.intro)
  · have e1 : btF false x a = a := if_neg hc
    rw [e1]
    repeat' ((conv => whnf); first | refine Rng.g ?_ | refine Ob.g ?_ | refine Ob.e ?_ | refine Ob.m ?_ | refine Ob.mk (Nat.le_of_ble_eq_true rfl) ?_ | refine JoinVC.on ?_ | refine Nils.mk (fun h => ?_) ?_ | refine Val.t ?_ | refine Val.d ?_ | refine Mm.mk ?_ | refine CallVC.pure rfl (k) ?_ | refine CallVC0.pure rfl (k) ?_ | (refine Br.mk (fun h => ?_) (fun h => ?_) <;> first | (exfalso; omega; done) | (exfalso; simp at h; done) | skip))
    refine ⟨_, ⟨rfl, rfl⟩, [some 0, some 1, some 2, some 3, some 4, some 5, some 6, some 7, some 8, some 9, some 10, some 11], rfl, rfl, ?_, ?_⟩ <;> repeat' (first | exact trivial | exact rfl | exact Iff.rfl | apply And.intro)
/-- A round of the walk: what is at a place that is near. -/
theorem rnd243 (S H : List Int) (i a0 a : Int) (u d : Nat) (hu : u < H.length) (hd : d < S.length) (hH : ∀ j, -100000000 ≤ H.getD j 0 ∧ H.getD j 0 ≤ 100000000) (hS : ∀ j, 0 ≤ S.getD j 0 ∧ S.getD j 0 ≤ 4194304) : RSem Tryz.prog 11 [I (u : Int), I (d : Int)] (MA12 S H false i a0 a) (fun bb m' => bb = true ∧ m' = MA12 S H false i a0 (btF false (H.getD u 0 + S.getD d 0) a)) := by
  have lH := i64s_len H
  have lS := i64s_len S
  have gH : rI (i64s H) (u : Int).toNat 0 = H.getD u 0 := by rw [Int.toNat_natCast, i64s_get]
  have gS : rI (i64s S) (d : Int).toNat 0 = S.getD d 0 := by rw [Int.toNat_natCast, i64s_get]
  have bH := hH u
  have bS := hS d
  refine RSem.le (rsem_of_awp (Q := fun bb m' => ∃ m2, (bb = true ∧ m2 = MA12 S H false i a0 (btF false (H.getD u 0 + S.getD d 0) a)) ∧ Le ⟨(MA12 S H false i a0 a).length, [], m'⟩ ⟨(MA12 S H false i a0 a).length, [], m2⟩) pMix [] rfl (by kernel_rfl) ?_) (fun bb m' h => by obtain ⟨m2, h1, h2⟩ := h; exact ⟨m2, h1, h2⟩)
  repeat' ((conv => whnf); first | rw [gH] | rw [gS] | refine Rng.g ?_ | refine Ob.g ?_ | refine Ob.e ?_ | refine Ob.m ?_ | refine Ob.mk (Nat.le_of_ble_eq_true rfl) ?_ | refine JoinVC.on ?_ | refine Nils.mk (fun h => ?_) ?_ | refine Val.t ?_ | refine Val.d ?_ | refine Mm.mk ?_ | (refine Br.mk (fun h => ?_) (fun h => ?_) <;> first | (exfalso; omega; done) | (exfalso; simp at h; done) | skip))
  refine YieldVC.of (rnd244 S H i a0 a (H.getD u 0 + S.getD d 0)) ?_
  repeat' ((conv => whnf); first | refine Rng.g ?_ | refine Ob.g ?_ | refine Ob.e ?_ | refine Ob.m ?_ | refine Ob.mk (Nat.le_of_ble_eq_true rfl) ?_ | refine JoinVC.on ?_ | refine Nils.mk (fun h => ?_) ?_ | refine Val.t ?_ | refine Val.d ?_ | refine Mm.mk ?_ | (refine Br.mk (fun h => ?_) (fun h => ?_) <;> first | (exfalso; omega; done) | (exfalso; simp at h; done) | skip))
  refine ⟨_, ⟨rfl, rfl⟩, [some 0, some 1, some 2, some 3, some 4, some 5, some 6, some 7, some 8, some 9, some 10, some 11], rfl, rfl, ?_, ?_⟩ <;> repeat' (first | exact trivial | exact rfl | exact Iff.rfl | apply And.intro)
/-- What is near: the places that a tip reaches. -/
def lo0 (i : Nat) (m : Nat) : Nat := i + 1 - m
theorem win_succ (i k m : Nat) : winL i (k + 1) m = winL i k m ++ (if i < k + m ∧ k < i + m then [k] else []) := by
  unfold winL
  rw [List.range_succ, List.filter_append]
  by_cases h : i < k + m ∧ k < i + m
  · simp [h]
  · simp [h]
theorem win_lo (i m : Nat) : ∀ k, k ≤ lo0 i m → winL i k m = []
  | 0, _ => rfl
  | k + 1, h => by
    unfold lo0 at h
    rw [win_succ, win_lo i m k (by unfold lo0; omega), if_neg (by omega)]
    rfl
theorem win_hi (i m h : Nat) (hh : i + m ≤ h) : ∀ d, winL i (h + d) m = winL i h m
  | 0 => rfl
  | d + 1 => by
    rw [show h + (d + 1) = h + d + 1 by omega, win_succ, win_hi i m h hh d, if_neg (by omega)]
    simp
theorem it260 (S H : List Int) (i : Nat) (a0 a : Int) (hi : i < H.length) (hH4 : H.length ≤ 4096) (hS6 : 1 ≤ S.length ∧ S.length ≤ 64) (hH : ∀ j, -100000000 ≤ H.getD j 0 ∧ H.getD j 0 ≤ 100000000) (hS : ∀ j, 0 ≤ S.getD j 0 ∧ S.getD j 0 ≤ 4194304) : ISem Tryz.prog 260 [.one (.yld 11), .one (.ptr 8 0), .one (.ptr 10 0), .one (.ptr 9 0)] (MA12 S H false (i : Int) a0 a) (fun m' => ∃ z, z = ((winL i H.length S.length).map fun u => H.getD u 0 + S.getD (dst i u) 0).foldl (fun a x => btF false x a) a ∧ m' = MA12 S H false (i : Int) a0 z) := by
  refine ISem.le (isem_of_awp (Q := fun m' => ∃ m2, (∃ z, z = ((winL i H.length S.length).map fun u => H.getD u 0 + S.getD (dst i u) 0).foldl (fun a x => btF false x a) a ∧ m2 = MA12 S H false (i : Int) a0 z) ∧ Le ⟨(MA12 S H false (i : Int) a0 a).length, [], m'⟩ ⟨(MA12 S H false (i : Int) a0 a).length, [], m2⟩) pMix [] Tryz.func260 (c := bodyOf Tryz.f260) rfl (by kernel_rfl) Tryz.ntmps260 (by kernel_rfl) ?_) (fun _ h => h)
  repeat' ((conv => whnf); first | refine Rng.g ?_ | refine Ob.g ?_ | refine Ob.e ?_ | refine Ob.m ?_ | refine Ob.mk (Nat.le_of_ble_eq_true rfl) ?_ | refine JoinVC.on ?_ | refine Nils.mk (fun h => ?_) ?_ | refine Val.t ?_ | refine Val.d ?_ | (refine Br.mk (fun h => ?_) (fun h => ?_) <;> first | (exfalso; omega; done) | (exfalso; simp at h; done) | skip))
  conv => whnf
  refine Mm.nm (fun st hst => ?_)
  have hst2 : st = ((lo0 i S.length : Nat) : Int) := by rw [hst]; unfold lo0; split <;> omega
  clear hst
  subst hst2
  repeat' ((conv => whnf); first | refine Rng.g ?_ | refine Ob.g ?_ | refine Ob.e ?_ | refine Ob.m ?_ | refine Ob.mk (Nat.le_of_ble_eq_true rfl) ?_ | refine JoinVC.on ?_ | refine Nils.mk (fun h => ?_) ?_ | refine Val.t ?_ | refine Val.d ?_ | refine Mm.mk ?_ | (refine Br.mk (fun h => ?_) (fun h => ?_) <;> first | (exfalso; omega; done) | (exfalso; simp at h; done) | skip))
  refine LoopVC.mk (fun n st => ∃ (k : Nat) (z : Int), lo0 i S.length ≤ k ∧ k ≤ H.length ∧ k ≤ i + S.length ∧ n = H.length - k ∧ z = ((winL i k S.length).map fun u => H.getD u 0 + S.getD (dst i u) 0).foldl (fun a x => btF false x a) a ∧ st = ⟨12, envA 31 [(0, .x (.one (.yld 11))), (1, .x (.one (.ptr 8 0))), (2, .x (.one (.ptr 10 0))), (3, .x (.one (.ptr 9 0))), (5, .int .i64 (k : Int))], [some (.box 3 [.int .i64 (i : Int)]), some (.box 37 [.lst true [.int .i64] (i64s H)]), some (bTip S), some (.box 4 [.ff]), some (.box 2 [.int .i64 z]), some (.box 382 [.fn (btN false) []]), some (.loop [9] (cAs rf244) (cBo rf244) (envA 16 [(0, .x (I a0)), (1, .x (.one (.fn 243 [(0, 0), (1, 0), (2, 0), (3, 0)]))), (2, .x (.one (.fn (btN false) []))), (3, .x (.one (.ptr 4 0))), (5, .x (.one (.ptr 5 0))), (6, .x (I 0)), (8, .x (.one (.fn 243 [(0, 0), (1, 0), (2, 0), (3, 0)])))]) .ready), some (.box 213 [.yld 6]), some (.box 3 [.int .i64 (i : Int)]), some (.box 3 [.int .i64 (H.length : Int)]), some (.box 3 [.int .i64 (S.length : Int)]), some (.loop [16, 17] (cAs rf243) (cBo rf243) (envA 35 [(0, .x (.one (.yld 6))), (1, .x (.one (.ptr 0 0))), (2, .x (.one (.ptr 1 0))), (3, .x (.one (.ptr 2 0))), (4, .x (.one (.ptr 3 0))), (5, .x (.one (.ptr 7 0))), (9, .x (I (i : Int))), (10, .x (lL H)), (11, .x (I (H.length : Int))), (12, .x (.one (.ptr 2 0))), (13, .x (lL S)), (14, .x (I (S.length : Int))), (15, .x (.one (.fn 260 [(8, 0), (10, 0), (9, 0)])))]) .ready)]⟩) _ _ ⟨lo0 i S.length, a, Nat.le_refl _, by unfold lo0; omega, by unfold lo0; omega, rfl, by rw [win_lo _ _ _ (Nat.le_refl _)]; rfl, rfl⟩ ?_ ?_
  · refine ⟨[some 0, some 1, some 2, some 3, some 4, some 5, some 6, some 7, some 8, some 9, some 10, some 11], rfl, rfl, ?_, ?_⟩ <;> repeat' (first | exact trivial | exact rfl | exact Iff.rfl | apply And.intro)
  rintro n _ ⟨k, z, hk1, hk2, hk3, hn, hz, rfl⟩
  unfold lo0 at hk1
  by_cases hk : k < H.length ∧ k < i + S.length
  · repeat' ((conv => whnf); first | refine Rng.g ?_ | refine Ob.g ?_ | refine Ob.e ?_ | refine Ob.m ?_ | refine Ob.mk (Nat.le_of_ble_eq_true rfl) ?_ | refine JoinVC.on ?_ | refine Nils.mk (fun h => ?_) ?_ | refine Val.t ?_ | refine Val.d ?_ | (refine Br.mk (fun h => ?_) (fun h => ?_) <;> first | (exfalso; omega; done) | (exfalso; simp at h; done) | skip))
    conv => whnf
    refine Mm.nm (fun e0 he0 => ?_)
    have he3 : (k : Int) < e0 := by rw [he0]; split <;> omega
    clear he0
    repeat' ((conv => whnf); first | refine Rng.g ?_ | refine Ob.g ?_ | refine Ob.e ?_ | refine Ob.m ?_ | refine Ob.mk (Nat.le_of_ble_eq_true rfl) ?_ | refine JoinVC.on ?_ | refine Nils.mk (fun h => ?_) ?_ | refine Val.t ?_ | refine Val.d ?_ | (refine Br.mk (fun h => ?_) (fun h => ?_) <;> first | (exfalso; omega; done) | (exfalso; simp at h; done) | skip))
    conv => whnf
    refine Mm.nm (fun e1 he1 => ?_)
    have he2 : e1 = ((dst i k : Nat) : Int) := by rw [he1]; unfold dst; split <;> split <;> omega
    clear he1
    have hd : dst i k < S.length := by unfold dst; split <;> omega
    subst he2
    repeat' ((conv => whnf); first | refine Rng.g ?_ | refine Ob.g ?_ | refine Ob.e ?_ | refine Ob.m ?_ | refine Ob.mk (Nat.le_of_ble_eq_true rfl) ?_ | refine JoinVC.on ?_ | refine Nils.mk (fun h => ?_) ?_ | refine Val.t ?_ | refine Val.d ?_ | refine Mm.mk ?_ | (refine Br.mk (fun h => ?_) (fun h => ?_) <;> first | (exfalso; omega; done) | (exfalso; simp at h; done) | skip))
    refine YieldVC.of (rnd243 S H i a0 z k (dst i k) hk.1 hd hH hS) ?_
    repeat' ((conv => whnf); first | refine Rng.g ?_ | refine Ob.g ?_ | refine Ob.e ?_ | refine Ob.m ?_ | refine Ob.mk (Nat.le_of_ble_eq_true rfl) ?_ | refine JoinVC.on ?_ | refine Nils.mk (fun h => ?_) ?_ | refine Val.t ?_ | refine Val.d ?_ | refine Mm.mk ?_ | (refine Br.mk (fun h => ?_) (fun h => ?_) <;> first | (exfalso; omega; done) | (exfalso; simp at h; done) | skip))
    refine Back.mk (H.length - (k + 1)) _ (by omega) ⟨k + 1, btF false (H.getD k 0 + S.getD (dst i k) 0) z, by unfold lo0; omega, by omega, by omega, rfl, ?_, rfl⟩ ?_
    · rw [win_succ, if_pos (by omega), List.map_append, List.foldl_append, ← hz]
      rfl
    · refine ⟨[some 0, some 1, some 2, some 3, some 4, some 5, some 6, some 7, some 8, some 9, some 10, some 11], rfl, rfl, ?_, ?_⟩ <;> repeat' (first | exact trivial | exact rfl | exact Iff.rfl | apply And.intro)
  · repeat' ((conv => whnf); first | refine Rng.g ?_ | refine Ob.g ?_ | refine Ob.e ?_ | refine Ob.m ?_ | refine Ob.mk (Nat.le_of_ble_eq_true rfl) ?_ | refine JoinVC.on ?_ | refine Nils.mk (fun h => ?_) ?_ | refine Val.t ?_ | refine Val.d ?_ | (refine Br.mk (fun h => ?_) (fun h => ?_) <;> first | (exfalso; omega; done) | (exfalso; simp at h; done) | skip))
    conv => whnf
    refine Mm.nm (fun e0 he0 => ?_)
    have he3 : ¬ (k : Int) < e0 := by rw [he0]; split <;> omega
    clear he0
    have hw : winL i k S.length = winL i H.length S.length := by
      rcases Nat.lt_or_ge k H.length with h | h
      · have h2 := win_hi i S.length k (by omega) (H.length - k)
        rw [show k + (H.length - k) = H.length by omega] at h2
        exact h2.symm
      · rw [show k = H.length by omega]
    rw [hw] at hz
    repeat' ((conv => whnf); first | refine Rng.g ?_ | refine Ob.g ?_ | refine Ob.e ?_ | refine Ob.m ?_ | refine Ob.mk (Nat.le_of_ble_eq_true rfl) ?_ | refine JoinVC.on ?_ | refine Nils.mk (fun h => ?_) ?_ | refine Val.t ?_ | refine Val.d ?_ | refine Mm.mk ?_ | (refine Br.mk (fun h => ?_) (fun h => ?_) <;> first | (exfalso; omega; done) | (exfalso; simp at h; done) | skip))
    refine ⟨_, ⟨z, hz, rfl⟩, [some 0, some 1, some 2, some 3, some 4, some 5, some 6, some 7, some 8, some 9, some 10, some 11], rfl, rfl, ?_, ?_⟩ <;> repeat' (first | exact trivial | exact rfl | exact Iff.rfl | apply And.intro)
end Go.Sx

namespace Go.Sx
open Go Go.Proofs
set_option maxRecDepth 10000
set_option maxHeartbeats 16000000
@[reducible] def wkL (S H : List Int) (i : Nat) : List Int := (winL i H.length S.length).map fun u => H.getD u 0 + S.getD (dst i u) 0
theorem it243 (S H : List Int) (i : Nat) (a0 a : Int) (hi : i < H.length) (hH4 : H.length ≤ 4096) (hS6 : 1 ≤ S.length ∧ S.length ≤ 64) (hH : ∀ j, -100000000 ≤ H.getD j 0 ∧ H.getD j 0 ≤ 100000000) (hS : ∀ j, 0 ≤ S.getD j 0 ∧ S.getD j 0 ≤ 4194304) : ISem Tryz.prog 243 [.one (.yld 6), .one (.ptr 0 0), .one (.ptr 1 0), .one (.ptr 2 0), .one (.ptr 3 0)] (MA7 S H false (i : Int) a0 a) (fun m' => ∃ z, z = (wkL S H i).foldl (fun a x => btF false x a) a ∧ m' = MA7 S H false (i : Int) a0 z) := by
  have lH := i64s_len H
  have lS := i64s_len S
  refine ISem.le (isem_of_awp (Q := fun m' => ∃ m2, (∃ z, z = (wkL S H i).foldl (fun a x => btF false x a) a ∧ m2 = MA7 S H false (i : Int) a0 z) ∧ Le ⟨(MA7 S H false (i : Int) a0 a).length, [], m'⟩ ⟨(MA7 S H false (i : Int) a0 a).length, [], m2⟩) pMix [] Tryz.func243 (c := bodyOf Tryz.f243) rfl (by kernel_rfl) Tryz.ntmps243 (by kernel_rfl) ?_) (fun _ h => h)
  repeat' ((conv => whnf); first | rw [lH] | rw [lS] | refine Rng.g ?_ | refine Ob.g ?_ | refine Ob.e ?_ | refine Ob.m ?_ | refine Ob.mk (Nat.le_of_ble_eq_true rfl) ?_ | refine JoinVC.on ?_ | refine Nils.mk (fun h => ?_) ?_ | refine Val.t ?_ | refine Val.d ?_ | refine Mm.mk ?_ | (refine Br.mk (fun h => ?_) (fun h => ?_) <;> first | (exfalso; omega; done) | (exfalso; simp at h; done) | skip))
  conv => whnf
  refine CallVC.mk [] _ _ _ rfl rfl rfl (s177 i H.length S.length) (fun r m' h' => ?_)
  obtain ⟨rfl, rfl⟩ := h'
  conv => whnf
  repeat' ((conv => whnf); first | refine Rng.g ?_ | refine Ob.g ?_ | refine Ob.e ?_ | refine Ob.m ?_ | refine Ob.mk (Nat.le_of_ble_eq_true rfl) ?_ | refine JoinVC.on ?_ | refine Nils.mk (fun h => ?_) ?_ | refine Val.t ?_ | refine Val.d ?_ | refine Mm.mk ?_ | (refine Br.mk (fun h => ?_) (fun h => ?_) <;> first | (exfalso; omega; done) | (exfalso; simp at h; done) | skip))
  change RangeVC _ _ _ _ _
  refine RangeVC.of e260 (it260 S H i a0 a hi hH4 hS6 hH hS) ?_
  rintro _ ⟨z, hz, rfl⟩
  repeat' ((conv => whnf); first | refine Rng.g ?_ | refine Ob.g ?_ | refine Ob.e ?_ | refine Ob.m ?_ | refine Ob.mk (Nat.le_of_ble_eq_true rfl) ?_ | refine JoinVC.on ?_ | refine Nils.mk (fun h => ?_) ?_ | refine Val.t ?_ | refine Val.d ?_ | refine Mm.mk ?_ | (refine Br.mk (fun h => ?_) (fun h => ?_) <;> first | (exfalso; omega; done) | (exfalso; simp at h; done) | skip))
  refine ⟨_, ⟨z, hz, rfl⟩, [some 0, some 1, some 2, some 3, some 4, some 5, some 6], rfl, rfl, ?_, ?_⟩ <;> repeat' (first | exact trivial | exact rfl | exact Iff.rfl | apply And.intro)
/-- What is least near a place: 'fold' over the walk. -/
theorem s244 (S H : List Int) (i : Nat) (a : Int) (hi : i < H.length) (hH4 : H.length ≤ 4096) (hS6 : 1 ≤ S.length ∧ S.length ≤ 64) (hH : ∀ j, -100000000 ≤ H.getD j 0 ∧ H.getD j 0 ≤ 100000000) (hS : ∀ j, 0 ≤ S.getD j 0 ∧ S.getD j 0 ≤ 4194304) : HSpec Tryz.prog 244 [I a, .one (.fn 243 [(0, 0), (1, 0), (2, 0), (3, 0)]), .one (.fn 246 [])] [.box 3 [.int .i64 (i : Int)], .box 37 [.lst true [.int .i64] (i64s H)], bTip S, .box 4 [.ff]] (fun r m' => ∃ z, z = (wkL S H i).foldl (fun a x => btF false x a) a ∧ r = .x (I z) ∧ m' = [some (.box 3 [.int .i64 (i : Int)]), some (.box 37 [.lst true [.int .i64] (i64s H)]), some (bTip S), some (.box 4 [.ff])]) := by
  refine spec_of pMix (O := []) Tryz.func244 (c := bodyOf Tryz.f244) rfl (by kernel_rfl) (by kernel_rfl) Tryz.ntmps244 (res := [.tmp 6]) (by kernel_rfl) ?_
  repeat' ((conv => whnf); first | refine Rng.g ?_ | refine Ob.g ?_ | refine Ob.e ?_ | refine Ob.m ?_ | refine Ob.mk (Nat.le_of_ble_eq_true rfl) ?_ | refine JoinVC.on ?_ | refine Nils.mk (fun h => ?_) ?_ | refine Val.t ?_ | refine Val.d ?_ | refine Mm.mk ?_ | (refine Br.mk (fun h => ?_) (fun h => ?_) <;> first | (exfalso; omega; done) | (exfalso; simp at h; done) | skip))
  change RangeVC _ _ _ _ _
  refine RangeVC.of e243 (it243 S H i a a hi hH4 hS6 hH hS) ?_
  rintro _ ⟨z, hz, rfl⟩
  repeat' ((conv => whnf); first | refine Rng.g ?_ | refine Ob.g ?_ | refine Ob.e ?_ | refine Ob.m ?_ | refine Ob.mk (Nat.le_of_ble_eq_true rfl) ?_ | refine JoinVC.on ?_ | refine Nils.mk (fun h => ?_) ?_ | refine Val.t ?_ | refine Val.d ?_ | refine Mm.mk ?_ | (refine Br.mk (fun h => ?_) (fun h => ?_) <;> first | (exfalso; omega; done) | (exfalso; simp at h; done) | skip))
  repeat refine Mm.mk ?_
  conv => whnf
  refine EndVC.mk _ rfl _ _ (⟨z, hz, rfl, rfl⟩) ?_
  refine ⟨[some 0, some 1, some 2, some 3], rfl, rfl, ?_, ?_⟩ <;> repeat' (first | exact trivial | exact rfl | exact Iff.rfl | apply And.intro)
end Go.Sx

namespace Go.Sx
open Go Go.Proofs
set_option maxRecDepth 10000
set_option maxHeartbeats 16000000
/-! ### Rows that are filled one after another -/
def accW (f : Nat → Int) (n k : Nat) : List Int := (List.range n).map fun j => if j < k then f j else 0
theorem accW_len (f : Nat → Int) (n k : Nat) : (accW f n k).length = n := by simp [accW]
theorem accW_0 (f : Nat → Int) (n : Nat) : List.replicate n [Cell.int 0] = i64s (accW f n 0) := by
  apply List.ext_getElem
  · simp [accW, i64s]
  · intro j h1 h2
    simp [accW, i64s]
theorem accW_n (f : Nat → Int) (n : Nat) : accW f n n = (List.range n).map f := by
  unfold accW
  apply List.map_congr_left
  intro j hj
  rw [if_pos (List.mem_range.1 hj)]
theorem accW_set (f : Nat → Int) (n k : Nat) : (accW f n k).set k (f k) = accW f n (k + 1) := by
  apply List.ext_getElem
  · simp [accW]
  · intro j h1 h2
    simp only [accW, List.getElem_set, List.getElem_map, List.getElem_range]
    by_cases e : k = j
    · subst e
      rw [if_pos rfl, if_pos (Nat.lt_succ_self k)]
    · rw [if_neg e]
      by_cases h : j < k
      · rw [if_pos h, if_pos (by omega)]
      · rw [if_neg h, if_neg (by omega)]
theorem accW_upd (f : Nat → Int) (n k : Nat) (v : Int) (hk : k < n) (hv : v = f k) : updRow (i64s (accW f n k)) (k : Int).toNat 0 [.int v] = i64s (accW f n (k + 1)) := by
  rw [Int.toNat_natCast, i64s_upd _ _ _ (by rw [accW_len]; exact hk), hv, accW_set]
theorem ero_eq (S H : List Int) (i : Nat) : (wkL S H i).foldl (fun a x => btF false x a) (H.getD i 0) = eroF S H i := rfl
theorem s165 (S H : List Int) (hH4 : H.length ≤ 4096) (hS6 : 1 ≤ S.length ∧ S.length ≤ 64) (hH : ∀ j, -100000000 ≤ H.getD j 0 ∧ H.getD j 0 ≤ 100000000) (hS : ∀ j, 0 ≤ S.getD j 0 ∧ S.getD j 0 ≤ 4194304) : HSpec Tryz.prog 165 [tipX S, lL H, .one .ff] [] (fun r m' => r = .x (.one (.own 0)) ∧ m' = [some (rowL (eroL S H))]) := by
  have lH := i64s_len H
  refine spec_of pMix (O := [(7, ([], [⟨0, [], []⟩, ⟨1, [], []⟩, ⟨2, [], []⟩, ⟨3, [], []⟩, ⟨4, [0, 1], []⟩, ⟨5, [], []⟩, ⟨6, [], []⟩])), (8, ([], [⟨0, [], []⟩, ⟨1, [], []⟩, ⟨2, [], []⟩, ⟨3, [], []⟩, ⟨4, [0, 1], []⟩, ⟨5, [], []⟩, ⟨6, [], []⟩]))]) Tryz.func165 (c := bodyOf Tryz.f165) rfl (by kernel_rfl) (by kernel_rfl) Tryz.ntmps165 (res := [.tmp 6]) (by kernel_rfl) ?_
  have z0 : List.replicate ((i64s H).length : Int).toNat (zeroRow [CK.int IntKind.i64]) = i64s (accW (eroF S H) H.length 0) := by
    rw [Int.toNat_natCast, lH]
    exact accW_0 _ _
  repeat' ((conv => whnf); first | refine Rng.g ?_ | refine Ob.g ?_ | refine Ob.e ?_ | refine Ob.m ?_ | refine Ob.mk (Nat.le_of_ble_eq_true rfl) ?_ | refine JoinVC.on ?_ | refine Nils.mk (fun h => ?_) ?_ | refine Val.t ?_ | refine Val.d ?_ | refine Mm.mk ?_ | (refine Br.mk (fun h => ?_) (fun h => ?_) <;> first | (exfalso; omega; done) | (exfalso; simp at h; done) | skip))
  repeat refine Mm.mk ?_
  refine Ob.mk (by rw [eb2, lH]; omega) ?_
  repeat' ((conv => whnf); first | rw [z0] | refine Rng.g ?_ | refine Ob.g ?_ | refine Ob.e ?_ | refine Ob.m ?_ | refine Ob.mk (Nat.le_of_ble_eq_true rfl) ?_ | refine JoinVC.on ?_ | refine Nils.mk (fun h => ?_) ?_ | refine Val.t ?_ | refine Val.d ?_ | refine Mm.mk ?_ | (refine Br.mk (fun h => ?_) (fun h => ?_) <;> first | (exfalso; omega; done) | (exfalso; simp at h; done) | skip))
  refine LoopVC.mk (fun n st => ∃ (k : Nat), k ≤ H.length ∧ n = H.length - k ∧ st = ⟨0, envA 37 [(3, .x (.one (.ptr 0 0))), (4, .x (.one (.ptr 1 0))), (5, .x (.one (.ptr 2 0))), (7, .x (.one (.own 3))), (14, .x (lL H)), (15, .int .i64 ((i64s H).length : Int)), (16, .int .i64 (k : Int))], [some (bTip S), some (.box 37 [.lst true [.int .i64] (i64s H)]), some (.box 4 [.ff]), some (rowL (accW (eroF S H) H.length k))]⟩) _ _ ⟨0, Nat.zero_le _, rfl, rfl⟩ ?_ ?_
  · refine ⟨[some 0, some 1, some 2, some 3], rfl, rfl, ?_, ?_⟩ <;> repeat' (first | exact trivial | exact rfl | exact Iff.rfl | apply And.intro)
  rintro n _ ⟨k, hk, hn, rfl⟩
  have gH : rI (i64s H) (k : Int).toNat 0 = H.getD k 0 := by rw [Int.toNat_natCast, i64s_get]
  have lA : (i64s (accW (eroF S H) H.length k)).length = H.length := by rw [i64s_len, accW_len]
  by_cases hk' : k < H.length
  · repeat' ((conv => whnf); first | rw [gH] | refine Rng.g ?_ | refine Ob.g ?_ | refine Ob.e ?_ | refine Ob.m ?_ | refine Ob.mk (Nat.le_of_ble_eq_true rfl) ?_ | refine JoinVC.on ?_ | refine Nils.mk (fun h => ?_) ?_ | refine Val.t ?_ | refine Val.d ?_ | refine Mm.mk ?_ | (refine Br.mk (fun h => ?_) (fun h => ?_) <;> first | (exfalso; omega; done) | (exfalso; simp at h; done) | skip))
    conv => whnf
    refine CallVC0.same [4, 1, 0, 2] _ _ _ rfl rfl rfl rfl (s244 S H k (H.getD k 0) hk' hH4 hS6 hH hS) (fun r m' h' => (by obtain ⟨z, hz, rfl, rfl⟩ := h'; rfl)) (fun r m' h' => ?_)
    obtain ⟨z, hz, rfl, rfl⟩ := h'
    conv => whnf
    have u := accW_upd (eroF S H) H.length k z hk' (hz.trans (ero_eq S H k))
    repeat' ((conv => whnf); first | rw [u] | refine Rng.g ?_ | refine Ob.g ?_ | refine Ob.e ?_ | refine Ob.m ?_ | refine Ob.mk (Nat.le_of_ble_eq_true rfl) ?_ | refine JoinVC.on ?_ | refine Nils.mk (fun h => ?_) ?_ | refine Val.t ?_ | refine Val.d ?_ | refine Mm.mk ?_ | (refine Br.mk (fun h => ?_) (fun h => ?_) <;> first | (exfalso; omega; done) | (exfalso; simp at h; done) | skip))
    refine Back.mk (H.length - (k + 1)) _ (by omega) ⟨k + 1, by omega, rfl, rfl⟩ ?_
    refine ⟨[some 0, some 1, some 2, some 3], rfl, rfl, ?_, ?_⟩ <;> repeat' (first | exact trivial | exact rfl | exact Iff.rfl | apply And.intro)
  · have ek : k = H.length := by omega
    subst ek
    rw [show accW (eroF S H) H.length H.length = eroL S H from accW_n _ _]
    repeat' ((conv => whnf); first | refine Rng.g ?_ | refine Ob.g ?_ | refine Ob.e ?_ | refine Ob.m ?_ | refine Ob.mk (Nat.le_of_ble_eq_true rfl) ?_ | refine JoinVC.on ?_ | refine Nils.mk (fun h => ?_) ?_ | refine Val.t ?_ | refine Val.d ?_ | refine Mm.mk ?_ | (refine Br.mk (fun h => ?_) (fun h => ?_) <;> first | (exfalso; omega; done) | (exfalso; simp at h; done) | skip))
    repeat refine Mm.mk ?_
    conv => whnf
    refine EndVC.mk _ rfl _ _ (⟨rfl, rfl⟩) ?_
    refine ⟨[some 3], rfl, rfl, ?_, ?_⟩ <;> repeat' (first | exact trivial | exact rfl | exact Iff.rfl | apply And.intro)
end Go.Sx

namespace Go.Sx
open Go Go.Proofs
set_option maxRecDepth 10000
set_option maxHeartbeats 16000000
/-! ### The walk with 'more': the shape is taken off -/
/-- A round of 'fold', within a round of the walk. -/
theorem rnd244t (S H : List Int) (i a0 a x : Int) : RSem Tryz.prog 6 [I x] (MAb S H true i a0 a) (fun bb m' => bb = true ∧ m' = MAb S H true i a0 (btF true x a)) := by
  refine RSem.le (rsem_of_awp (Q := fun bb m' => ∃ m2, (bb = true ∧ m2 = MAb S H true i a0 (btF true x a)) ∧ Le ⟨(MAb S H true i a0 a).length, [], m'⟩ ⟨(MAb S H true i a0 a).length, [], m2⟩) pMix [] rfl (by kernel_rfl) ?_) (fun bb m' h => by obtain ⟨m2, h1, h2⟩ := h; exact ⟨m2, h1, h2⟩)
  have k := s245 x a
  by_cases hc : x > a
  · have e1 : btF true x a = x := if_pos hc
    rw [e1]
    repeat' ((conv => whnf); first | refine Rng.g ?_ | refine Ob.g ?_ | refine Ob.e ?_ | refine Ob.m ?_ | refine Ob.mk (Nat.le_of_ble_eq_true rfl) ?_ | refine JoinVC.on ?_ | refine Nils.mk (fun h => ?_) ?_ | refine Val.t ?_ | refine Val.d ?_ | refine Mm.mk ?_ | refine CallVC.pure rfl (k) ?_ | refine CallVC0.pure rfl (k) ?_ | (refine Br.mk (fun h => ?_) (fun h => ?_) <;> first | (exfalso; omega; done) | (exfalso; simp at h; done) | skip))
    refine ⟨_, ⟨rfl, rfl⟩, [some 0, some 1, some 2, some 3, some 4, some 5, some 6, some 7, some 8, some 9, some 10, some 11], rfl, rfl, ?_, ?_⟩ <;> repeat' (first | exact trivial | exact rfl | exact Iff.rfl | apply And.intro)
  · have e1 : btF true x a = a := if_neg hc
    rw [e1]
    repeat' ((conv => whnf); first | refine Rng.g ?_ | refine Ob.g ?_ | refine Ob.e ?_ | refine Ob.m ?_ | refine Ob.mk (Nat.le_of_ble_eq_true rfl) ?_ | refine JoinVC.on ?_ | refine Nils.mk (fun h => ?_) ?_ | refine Val.t ?_ | refine Val.d ?_ | refine Mm.mk ?_ | refine CallVC.pure rfl (k) ?_ | refine CallVC0.pure rfl (k) ?_ | (refine Br.mk (fun h => ?_) (fun h => ?_) <;> first | (exfalso; omega; done) | (exfalso; simp at h; done) | skip))
    refine ⟨_, ⟨rfl, rfl⟩, [some 0, some 1, some 2, some 3, some 4, some 5, some 6, some 7, some 8, some 9, some 10, some 11], rfl, rfl, ?_, ?_⟩ <;> repeat' (first | exact trivial | exact rfl | exact Iff.rfl | apply And.intro)
/-- A round of the walk: what is at a place that is near. -/
theorem rnd243t (S H : List Int) (i a0 a : Int) (u d : Nat) (hu : u < H.length) (hd : d < S.length) (hH : ∀ j, -100000000 ≤ H.getD j 0 ∧ H.getD j 0 ≤ 100000000) (hS : ∀ j, 0 ≤ S.getD j 0 ∧ S.getD j 0 ≤ 4194304) : RSem Tryz.prog 11 [I (u : Int), I (d : Int)] (MA12 S H true i a0 a) (fun bb m' => bb = true ∧ m' = MA12 S H true i a0 (btF true (H.getD u 0 + (0 - S.getD d 0)) a)) := by
  have lH := i64s_len H
  have lS := i64s_len S
  have gH : rI (i64s H) (u : Int).toNat 0 = H.getD u 0 := by rw [Int.toNat_natCast, i64s_get]
  have gS : rI (i64s S) (d : Int).toNat 0 = S.getD d 0 := by rw [Int.toNat_natCast, i64s_get]
  have bH := hH u
  have bS := hS d
  refine RSem.le (rsem_of_awp (Q := fun bb m' => ∃ m2, (bb = true ∧ m2 = MA12 S H true i a0 (btF true (H.getD u 0 + (0 - S.getD d 0)) a)) ∧ Le ⟨(MA12 S H true i a0 a).length, [], m'⟩ ⟨(MA12 S H true i a0 a).length, [], m2⟩) pMix [] rfl (by kernel_rfl) ?_) (fun bb m' h => by obtain ⟨m2, h1, h2⟩ := h; exact ⟨m2, h1, h2⟩)
  repeat' ((conv => whnf); first | rw [gH] | rw [gS] | refine Rng.g ?_ | refine Ob.g ?_ | refine Ob.e ?_ | refine Ob.m ?_ | refine Ob.mk (Nat.le_of_ble_eq_true rfl) ?_ | refine JoinVC.on ?_ | refine Nils.mk (fun h => ?_) ?_ | refine Val.t ?_ | refine Val.d ?_ | refine Mm.mk ?_ | (refine Br.mk (fun h => ?_) (fun h => ?_) <;> first | (exfalso; omega; done) | (exfalso; simp at h; done) | skip))
  refine YieldVC.of (rnd244t S H i a0 a (H.getD u 0 + (0 - S.getD d 0))) ?_
  repeat' ((conv => whnf); first | refine Rng.g ?_ | refine Ob.g ?_ | refine Ob.e ?_ | refine Ob.m ?_ | refine Ob.mk (Nat.le_of_ble_eq_true rfl) ?_ | refine JoinVC.on ?_ | refine Nils.mk (fun h => ?_) ?_ | refine Val.t ?_ | refine Val.d ?_ | refine Mm.mk ?_ | (refine Br.mk (fun h => ?_) (fun h => ?_) <;> first | (exfalso; omega; done) | (exfalso; simp at h; done) | skip))
  refine ⟨_, ⟨rfl, rfl⟩, [some 0, some 1, some 2, some 3, some 4, some 5, some 6, some 7, some 8, some 9, some 10, some 11], rfl, rfl, ?_, ?_⟩ <;> repeat' (first | exact trivial | exact rfl | exact Iff.rfl | apply And.intro)
theorem it260t (S H : List Int) (i : Nat) (a0 a : Int) (hi : i < H.length) (hH4 : H.length ≤ 4096) (hS6 : 1 ≤ S.length ∧ S.length ≤ 64) (hH : ∀ j, -100000000 ≤ H.getD j 0 ∧ H.getD j 0 ≤ 100000000) (hS : ∀ j, 0 ≤ S.getD j 0 ∧ S.getD j 0 ≤ 4194304) : ISem Tryz.prog 260 [.one (.yld 11), .one (.ptr 8 0), .one (.ptr 10 0), .one (.ptr 9 0)] (MA12 S H true (i : Int) a0 a) (fun m' => ∃ z, z = ((winL i H.length S.length).map fun u => H.getD u 0 + (0 - S.getD (dst i u) 0)).foldl (fun a x => btF true x a) a ∧ m' = MA12 S H true (i : Int) a0 z) := by
  refine ISem.le (isem_of_awp (Q := fun m' => ∃ m2, (∃ z, z = ((winL i H.length S.length).map fun u => H.getD u 0 + (0 - S.getD (dst i u) 0)).foldl (fun a x => btF true x a) a ∧ m2 = MA12 S H true (i : Int) a0 z) ∧ Le ⟨(MA12 S H true (i : Int) a0 a).length, [], m'⟩ ⟨(MA12 S H true (i : Int) a0 a).length, [], m2⟩) pMix [] Tryz.func260 (c := bodyOf Tryz.f260) rfl (by kernel_rfl) Tryz.ntmps260 (by kernel_rfl) ?_) (fun _ h => h)
  repeat' ((conv => whnf); first | refine Rng.g ?_ | refine Ob.g ?_ | refine Ob.e ?_ | refine Ob.m ?_ | refine Ob.mk (Nat.le_of_ble_eq_true rfl) ?_ | refine JoinVC.on ?_ | refine Nils.mk (fun h => ?_) ?_ | refine Val.t ?_ | refine Val.d ?_ | (refine Br.mk (fun h => ?_) (fun h => ?_) <;> first | (exfalso; omega; done) | (exfalso; simp at h; done) | skip))
  conv => whnf
  refine Mm.nm (fun st hst => ?_)
  have hst2 : st = ((lo0 i S.length : Nat) : Int) := by rw [hst]; unfold lo0; split <;> omega
  clear hst
  subst hst2
  repeat' ((conv => whnf); first | refine Rng.g ?_ | refine Ob.g ?_ | refine Ob.e ?_ | refine Ob.m ?_ | refine Ob.mk (Nat.le_of_ble_eq_true rfl) ?_ | refine JoinVC.on ?_ | refine Nils.mk (fun h => ?_) ?_ | refine Val.t ?_ | refine Val.d ?_ | refine Mm.mk ?_ | (refine Br.mk (fun h => ?_) (fun h => ?_) <;> first | (exfalso; omega; done) | (exfalso; simp at h; done) | skip))
  refine LoopVC.mk (fun n st => ∃ (k : Nat) (z : Int), lo0 i S.length ≤ k ∧ k ≤ H.length ∧ k ≤ i + S.length ∧ n = H.length - k ∧ z = ((winL i k S.length).map fun u => H.getD u 0 + (0 - S.getD (dst i u) 0)).foldl (fun a x => btF true x a) a ∧ st = ⟨12, envA 31 [(0, .x (.one (.yld 11))), (1, .x (.one (.ptr 8 0))), (2, .x (.one (.ptr 10 0))), (3, .x (.one (.ptr 9 0))), (5, .int .i64 (k : Int))], [some (.box 3 [.int .i64 (i : Int)]), some (.box 37 [.lst true [.int .i64] (i64s H)]), some (bTip S), some (.box 4 [.tt]), some (.box 2 [.int .i64 z]), some (.box 382 [.fn (btN true) []]), some (.loop [9] (cAs rf244) (cBo rf244) (envA 16 [(0, .x (I a0)), (1, .x (.one (.fn 243 [(0, 0), (1, 0), (2, 0), (3, 0)]))), (2, .x (.one (.fn (btN true) []))), (3, .x (.one (.ptr 4 0))), (5, .x (.one (.ptr 5 0))), (6, .x (I 0)), (8, .x (.one (.fn 243 [(0, 0), (1, 0), (2, 0), (3, 0)])))]) .ready), some (.box 213 [.yld 6]), some (.box 3 [.int .i64 (i : Int)]), some (.box 3 [.int .i64 (H.length : Int)]), some (.box 3 [.int .i64 (S.length : Int)]), some (.loop [16, 17] (cAs rf243) (cBo rf243) (envA 35 [(0, .x (.one (.yld 6))), (1, .x (.one (.ptr 0 0))), (2, .x (.one (.ptr 1 0))), (3, .x (.one (.ptr 2 0))), (4, .x (.one (.ptr 3 0))), (5, .x (.one (.ptr 7 0))), (9, .x (I (i : Int))), (10, .x (lL H)), (11, .x (I (H.length : Int))), (12, .x (.one (.ptr 2 0))), (13, .x (lL S)), (14, .x (I (S.length : Int))), (15, .x (.one (.fn 260 [(8, 0), (10, 0), (9, 0)])))]) .ready)]⟩) _ _ ⟨lo0 i S.length, a, Nat.le_refl _, by unfold lo0; omega, by unfold lo0; omega, rfl, by rw [win_lo _ _ _ (Nat.le_refl _)]; rfl, rfl⟩ ?_ ?_
  · refine ⟨[some 0, some 1, some 2, some 3, some 4, some 5, some 6, some 7, some 8, some 9, some 10, some 11], rfl, rfl, ?_, ?_⟩ <;> repeat' (first | exact trivial | exact rfl | exact Iff.rfl | apply And.intro)
  rintro n _ ⟨k, z, hk1, hk2, hk3, hn, hz, rfl⟩
  unfold lo0 at hk1
  by_cases hk : k < H.length ∧ k < i + S.length
  · repeat' ((conv => whnf); first | refine Rng.g ?_ | refine Ob.g ?_ | refine Ob.e ?_ | refine Ob.m ?_ | refine Ob.mk (Nat.le_of_ble_eq_true rfl) ?_ | refine JoinVC.on ?_ | refine Nils.mk (fun h => ?_) ?_ | refine Val.t ?_ | refine Val.d ?_ | (refine Br.mk (fun h => ?_) (fun h => ?_) <;> first | (exfalso; omega; done) | (exfalso; simp at h; done) | skip))
    conv => whnf
    refine Mm.nm (fun e0 he0 => ?_)
    have he3 : (k : Int) < e0 := by rw [he0]; split <;> omega
    clear he0
    repeat' ((conv => whnf); first | refine Rng.g ?_ | refine Ob.g ?_ | refine Ob.e ?_ | refine Ob.m ?_ | refine Ob.mk (Nat.le_of_ble_eq_true rfl) ?_ | refine JoinVC.on ?_ | refine Nils.mk (fun h => ?_) ?_ | refine Val.t ?_ | refine Val.d ?_ | (refine Br.mk (fun h => ?_) (fun h => ?_) <;> first | (exfalso; omega; done) | (exfalso; simp at h; done) | skip))
    conv => whnf
    refine Mm.nm (fun e1 he1 => ?_)
    have he2 : e1 = ((dst i k : Nat) : Int) := by rw [he1]; unfold dst; split <;> split <;> omega
    clear he1
    have hd : dst i k < S.length := by unfold dst; split <;> omega
    subst he2
    repeat' ((conv => whnf); first | refine Rng.g ?_ | refine Ob.g ?_ | refine Ob.e ?_ | refine Ob.m ?_ | refine Ob.mk (Nat.le_of_ble_eq_true rfl) ?_ | refine JoinVC.on ?_ | refine Nils.mk (fun h => ?_) ?_ | refine Val.t ?_ | refine Val.d ?_ | refine Mm.mk ?_ | (refine Br.mk (fun h => ?_) (fun h => ?_) <;> first | (exfalso; omega; done) | (exfalso; simp at h; done) | skip))
    refine YieldVC.of (rnd243t S H i a0 z k (dst i k) hk.1 hd hH hS) ?_
    repeat' ((conv => whnf); first | refine Rng.g ?_ | refine Ob.g ?_ | refine Ob.e ?_ | refine Ob.m ?_ | refine Ob.mk (Nat.le_of_ble_eq_true rfl) ?_ | refine JoinVC.on ?_ | refine Nils.mk (fun h => ?_) ?_ | refine Val.t ?_ | refine Val.d ?_ | refine Mm.mk ?_ | (refine Br.mk (fun h => ?_) (fun h => ?_) <;> first | (exfalso; omega; done) | (exfalso; simp at h; done) | skip))
    refine Back.mk (H.length - (k + 1)) _ (by omega) ⟨k + 1, btF true (H.getD k 0 + (0 - S.getD (dst i k) 0)) z, by unfold lo0; omega, by omega, by omega, rfl, ?_, rfl⟩ ?_
    · rw [win_succ, if_pos (by omega), List.map_append, List.foldl_append, ← hz]
      rfl
    · refine ⟨[some 0, some 1, some 2, some 3, some 4, some 5, some 6, some 7, some 8, some 9, some 10, some 11], rfl, rfl, ?_, ?_⟩ <;> repeat' (first | exact trivial | exact rfl | exact Iff.rfl | apply And.intro)
  · repeat' ((conv => whnf); first | refine Rng.g ?_ | refine Ob.g ?_ | refine Ob.e ?_ | refine Ob.m ?_ | refine Ob.mk (Nat.le_of_ble_eq_true rfl) ?_ | refine JoinVC.on ?_ | refine Nils.mk (fun h => ?_) ?_ | refine Val.t ?_ | refine Val.d ?_ | (refine Br.mk (fun h => ?_) (fun h => ?_) <;> first | (exfalso; omega; done) | (exfalso; simp at h; done) | skip))
    conv => whnf
    refine Mm.nm (fun e0 he0 => ?_)
    have he3 : ¬ (k : Int) < e0 := by rw [he0]; split <;> omega
    clear he0
    have hw : winL i k S.length = winL i H.length S.length := by
      rcases Nat.lt_or_ge k H.length with h | h
      · have h2 := win_hi i S.length k (by omega) (H.length - k)
        rw [show k + (H.length - k) = H.length by omega] at h2
        exact h2.symm
      · rw [show k = H.length by omega]
    rw [hw] at hz
    repeat' ((conv => whnf); first | refine Rng.g ?_ | refine Ob.g ?_ | refine Ob.e ?_ | refine Ob.m ?_ | refine Ob.mk (Nat.le_of_ble_eq_true rfl) ?_ | refine JoinVC.on ?_ | refine Nils.mk (fun h => ?_) ?_ | refine Val.t ?_ | refine Val.d ?_ | refine Mm.mk ?_ | (refine Br.mk (fun h => ?_) (fun h => ?_) <;> first | (exfalso; omega; done) | (exfalso; simp at h; done) | skip))
    refine ⟨_, ⟨z, hz, rfl⟩, [some 0, some 1, some 2, some 3, some 4, some 5, some 6, some 7, some 8, some 9, some 10, some 11], rfl, rfl, ?_, ?_⟩ <;> repeat' (first | exact trivial | exact rfl | exact Iff.rfl | apply And.intro)
@[reducible] def wkT (S H : List Int) (i : Nat) : List Int := (winL i H.length S.length).map fun u => H.getD u 0 + (0 - S.getD (dst i u) 0)
theorem it243t (S H : List Int) (i : Nat) (a0 a : Int) (hi : i < H.length) (hH4 : H.length ≤ 4096) (hS6 : 1 ≤ S.length ∧ S.length ≤ 64) (hH : ∀ j, -100000000 ≤ H.getD j 0 ∧ H.getD j 0 ≤ 100000000) (hS : ∀ j, 0 ≤ S.getD j 0 ∧ S.getD j 0 ≤ 4194304) : ISem Tryz.prog 243 [.one (.yld 6), .one (.ptr 0 0), .one (.ptr 1 0), .one (.ptr 2 0), .one (.ptr 3 0)] (MA7 S H true (i : Int) a0 a) (fun m' => ∃ z, z = (wkT S H i).foldl (fun a x => btF true x a) a ∧ m' = MA7 S H true (i : Int) a0 z) := by
  have lH := i64s_len H
  have lS := i64s_len S
  refine ISem.le (isem_of_awp (Q := fun m' => ∃ m2, (∃ z, z = (wkT S H i).foldl (fun a x => btF true x a) a ∧ m2 = MA7 S H true (i : Int) a0 z) ∧ Le ⟨(MA7 S H true (i : Int) a0 a).length, [], m'⟩ ⟨(MA7 S H true (i : Int) a0 a).length, [], m2⟩) pMix [] Tryz.func243 (c := bodyOf Tryz.f243) rfl (by kernel_rfl) Tryz.ntmps243 (by kernel_rfl) ?_) (fun _ h => h)
  repeat' ((conv => whnf); first | rw [lH] | rw [lS] | refine Rng.g ?_ | refine Ob.g ?_ | refine Ob.e ?_ | refine Ob.m ?_ | refine Ob.mk (Nat.le_of_ble_eq_true rfl) ?_ | refine JoinVC.on ?_ | refine Nils.mk (fun h => ?_) ?_ | refine Val.t ?_ | refine Val.d ?_ | refine Mm.mk ?_ | (refine Br.mk (fun h => ?_) (fun h => ?_) <;> first | (exfalso; omega; done) | (exfalso; simp at h; done) | skip))
  conv => whnf
  refine CallVC.mk [] _ _ _ rfl rfl rfl (s177 i H.length S.length) (fun r m' h' => ?_)
  obtain ⟨rfl, rfl⟩ := h'
  conv => whnf
  repeat' ((conv => whnf); first | refine Rng.g ?_ | refine Ob.g ?_ | refine Ob.e ?_ | refine Ob.m ?_ | refine Ob.mk (Nat.le_of_ble_eq_true rfl) ?_ | refine JoinVC.on ?_ | refine Nils.mk (fun h => ?_) ?_ | refine Val.t ?_ | refine Val.d ?_ | refine Mm.mk ?_ | (refine Br.mk (fun h => ?_) (fun h => ?_) <;> first | (exfalso; omega; done) | (exfalso; simp at h; done) | skip))
  change RangeVC _ _ _ _ _
  refine RangeVC.of e260 (it260t S H i a0 a hi hH4 hS6 hH hS) ?_
  rintro _ ⟨z, hz, rfl⟩
  repeat' ((conv => whnf); first | refine Rng.g ?_ | refine Ob.g ?_ | refine Ob.e ?_ | refine Ob.m ?_ | refine Ob.mk (Nat.le_of_ble_eq_true rfl) ?_ | refine JoinVC.on ?_ | refine Nils.mk (fun h => ?_) ?_ | refine Val.t ?_ | refine Val.d ?_ | refine Mm.mk ?_ | (refine Br.mk (fun h => ?_) (fun h => ?_) <;> first | (exfalso; omega; done) | (exfalso; simp at h; done) | skip))
  refine ⟨_, ⟨z, hz, rfl⟩, [some 0, some 1, some 2, some 3, some 4, some 5, some 6], rfl, rfl, ?_, ?_⟩ <;> repeat' (first | exact trivial | exact rfl | exact Iff.rfl | apply And.intro)
/-- What is greatest near a place: 'fold' over the walk. -/
theorem s244t (S H : List Int) (i : Nat) (a : Int) (hi : i < H.length) (hH4 : H.length ≤ 4096) (hS6 : 1 ≤ S.length ∧ S.length ≤ 64) (hH : ∀ j, -100000000 ≤ H.getD j 0 ∧ H.getD j 0 ≤ 100000000) (hS : ∀ j, 0 ≤ S.getD j 0 ∧ S.getD j 0 ≤ 4194304) : HSpec Tryz.prog 244 [I a, .one (.fn 243 [(0, 0), (1, 0), (2, 0), (3, 0)]), .one (.fn 245 [])] [.box 3 [.int .i64 (i : Int)], .box 37 [.lst true [.int .i64] (i64s H)], bTip S, .box 4 [.tt]] (fun r m' => ∃ z, z = (wkT S H i).foldl (fun a x => btF true x a) a ∧ r = .x (I z) ∧ m' = [some (.box 3 [.int .i64 (i : Int)]), some (.box 37 [.lst true [.int .i64] (i64s H)]), some (bTip S), some (.box 4 [.tt])]) := by
  refine spec_of pMix (O := []) Tryz.func244 (c := bodyOf Tryz.f244) rfl (by kernel_rfl) (by kernel_rfl) Tryz.ntmps244 (res := [.tmp 6]) (by kernel_rfl) ?_
  repeat' ((conv => whnf); first | refine Rng.g ?_ | refine Ob.g ?_ | refine Ob.e ?_ | refine Ob.m ?_ | refine Ob.mk (Nat.le_of_ble_eq_true rfl) ?_ | refine JoinVC.on ?_ | refine Nils.mk (fun h => ?_) ?_ | refine Val.t ?_ | refine Val.d ?_ | refine Mm.mk ?_ | (refine Br.mk (fun h => ?_) (fun h => ?_) <;> first | (exfalso; omega; done) | (exfalso; simp at h; done) | skip))
  change RangeVC _ _ _ _ _
  refine RangeVC.of e243 (it243t S H i a a hi hH4 hS6 hH hS) ?_
  rintro _ ⟨z, hz, rfl⟩
  repeat' ((conv => whnf); first | refine Rng.g ?_ | refine Ob.g ?_ | refine Ob.e ?_ | refine Ob.m ?_ | refine Ob.mk (Nat.le_of_ble_eq_true rfl) ?_ | refine JoinVC.on ?_ | refine Nils.mk (fun h => ?_) ?_ | refine Val.t ?_ | refine Val.d ?_ | refine Mm.mk ?_ | (refine Br.mk (fun h => ?_) (fun h => ?_) <;> first | (exfalso; omega; done) | (exfalso; simp at h; done) | skip))
  repeat refine Mm.mk ?_
  conv => whnf
  refine EndVC.mk _ rfl _ _ (⟨z, hz, rfl, rfl⟩) ?_
  refine ⟨[some 0, some 1, some 2, some 3], rfl, rfl, ?_, ?_⟩ <;> repeat' (first | exact trivial | exact rfl | exact Iff.rfl | apply And.intro)
theorem dil_eq (S H : List Int) (i : Nat) : (wkT S H i).foldl (fun a x => btF true x a) (H.getD i 0) = dilF S H i := by
  unfold dilF wkT
  simp only [Int.zero_sub]
  rfl
theorem s165t (S H : List Int) (hH4 : H.length ≤ 4096) (hS6 : 1 ≤ S.length ∧ S.length ≤ 64) (hH : ∀ j, -100000000 ≤ H.getD j 0 ∧ H.getD j 0 ≤ 100000000) (hS : ∀ j, 0 ≤ S.getD j 0 ∧ S.getD j 0 ≤ 4194304) : HSpec Tryz.prog 165 [tipX S, lL H, .one .tt] [] (fun r m' => r = .x (.one (.own 0)) ∧ m' = [some (rowL (dilL S H))]) := by
  have lH := i64s_len H
  refine spec_of pMix (O := [(7, ([], [⟨0, [], []⟩, ⟨1, [], []⟩, ⟨2, [], []⟩, ⟨3, [], []⟩, ⟨4, [0, 1], []⟩, ⟨5, [], []⟩, ⟨6, [], []⟩])), (8, ([], [⟨0, [], []⟩, ⟨1, [], []⟩, ⟨2, [], []⟩, ⟨3, [], []⟩, ⟨4, [0, 1], []⟩, ⟨5, [], []⟩, ⟨6, [], []⟩]))]) Tryz.func165 (c := bodyOf Tryz.f165) rfl (by kernel_rfl) (by kernel_rfl) Tryz.ntmps165 (res := [.tmp 6]) (by kernel_rfl) ?_
  have z0 : List.replicate ((i64s H).length : Int).toNat (zeroRow [CK.int IntKind.i64]) = i64s (accW (dilF S H) H.length 0) := by
    rw [Int.toNat_natCast, lH]
    exact accW_0 _ _
  repeat' ((conv => whnf); first | refine Rng.g ?_ | refine Ob.g ?_ | refine Ob.e ?_ | refine Ob.m ?_ | refine Ob.mk (Nat.le_of_ble_eq_true rfl) ?_ | refine JoinVC.on ?_ | refine Nils.mk (fun h => ?_) ?_ | refine Val.t ?_ | refine Val.d ?_ | refine Mm.mk ?_ | (refine Br.mk (fun h => ?_) (fun h => ?_) <;> first | (exfalso; omega; done) | (exfalso; simp at h; done) | skip))
  repeat refine Mm.mk ?_
  refine Ob.mk (by rw [eb2, lH]; omega) ?_
  repeat' ((conv => whnf); first | rw [z0] | refine Rng.g ?_ | refine Ob.g ?_ | refine Ob.e ?_ | refine Ob.m ?_ | refine Ob.mk (Nat.le_of_ble_eq_true rfl) ?_ | refine JoinVC.on ?_ | refine Nils.mk (fun h => ?_) ?_ | refine Val.t ?_ | refine Val.d ?_ | refine Mm.mk ?_ | (refine Br.mk (fun h => ?_) (fun h => ?_) <;> first | (exfalso; omega; done) | (exfalso; simp at h; done) | skip))
  refine LoopVC.mk (fun n st => ∃ (k : Nat), k ≤ H.length ∧ n = H.length - k ∧ st = ⟨0, envA 37 [(3, .x (.one (.ptr 0 0))), (4, .x (.one (.ptr 1 0))), (5, .x (.one (.ptr 2 0))), (7, .x (.one (.own 3))), (14, .x (lL H)), (15, .int .i64 ((i64s H).length : Int)), (16, .int .i64 (k : Int))], [some (bTip S), some (.box 37 [.lst true [.int .i64] (i64s H)]), some (.box 4 [.tt]), some (rowL (accW (dilF S H) H.length k))]⟩) _ _ ⟨0, Nat.zero_le _, rfl, rfl⟩ ?_ ?_
  · refine ⟨[some 0, some 1, some 2, some 3], rfl, rfl, ?_, ?_⟩ <;> repeat' (first | exact trivial | exact rfl | exact Iff.rfl | apply And.intro)
  rintro n _ ⟨k, hk, hn, rfl⟩
  have gH : rI (i64s H) (k : Int).toNat 0 = H.getD k 0 := by rw [Int.toNat_natCast, i64s_get]
  have lA : (i64s (accW (dilF S H) H.length k)).length = H.length := by rw [i64s_len, accW_len]
  by_cases hk' : k < H.length
  · repeat' ((conv => whnf); first | rw [gH] | refine Rng.g ?_ | refine Ob.g ?_ | refine Ob.e ?_ | refine Ob.m ?_ | refine Ob.mk (Nat.le_of_ble_eq_true rfl) ?_ | refine JoinVC.on ?_ | refine Nils.mk (fun h => ?_) ?_ | refine Val.t ?_ | refine Val.d ?_ | refine Mm.mk ?_ | (refine Br.mk (fun h => ?_) (fun h => ?_) <;> first | (exfalso; omega; done) | (exfalso; simp at h; done) | skip))
    conv => whnf
    refine CallVC0.same [4, 1, 0, 2] _ _ _ rfl rfl rfl rfl (s244t S H k (H.getD k 0) hk' hH4 hS6 hH hS) (fun r m' h' => (by obtain ⟨z, hz, rfl, rfl⟩ := h'; rfl)) (fun r m' h' => ?_)
    obtain ⟨z, hz, rfl, rfl⟩ := h'
    conv => whnf
    have u := accW_upd (dilF S H) H.length k z hk' (hz.trans (dil_eq S H k))
    repeat' ((conv => whnf); first | rw [u] | refine Rng.g ?_ | refine Ob.g ?_ | refine Ob.e ?_ | refine Ob.m ?_ | refine Ob.mk (Nat.le_of_ble_eq_true rfl) ?_ | refine JoinVC.on ?_ | refine Nils.mk (fun h => ?_) ?_ | refine Val.t ?_ | refine Val.d ?_ | refine Mm.mk ?_ | (refine Br.mk (fun h => ?_) (fun h => ?_) <;> first | (exfalso; omega; done) | (exfalso; simp at h; done) | skip))
    refine Back.mk (H.length - (k + 1)) _ (by omega) ⟨k + 1, by omega, rfl, rfl⟩ ?_
    refine ⟨[some 0, some 1, some 2, some 3], rfl, rfl, ?_, ?_⟩ <;> repeat' (first | exact trivial | exact rfl | exact Iff.rfl | apply And.intro)
  · have ek : k = H.length := by omega
    subst ek
    rw [show accW (dilF S H) H.length H.length = dilL S H from accW_n _ _]
    repeat' ((conv => whnf); first | refine Rng.g ?_ | refine Ob.g ?_ | refine Ob.e ?_ | refine Ob.m ?_ | refine Ob.mk (Nat.le_of_ble_eq_true rfl) ?_ | refine JoinVC.on ?_ | refine Nils.mk (fun h => ?_) ?_ | refine Val.t ?_ | refine Val.d ?_ | refine Mm.mk ?_ | (refine Br.mk (fun h => ?_) (fun h => ?_) <;> first | (exfalso; omega; done) | (exfalso; simp at h; done) | skip))
    repeat refine Mm.mk ?_
    conv => whnf
    refine EndVC.mk _ rfl _ _ (⟨rfl, rfl⟩) ?_
    refine ⟨[some 3], rfl, rfl, ?_, ?_⟩ <;> repeat' (first | exact trivial | exact rfl | exact Iff.rfl | apply And.intro)
end Go.Sx

namespace Go.Sx
open Go Go.Proofs
set_option maxRecDepth 10000
set_option maxHeartbeats 4000000
/-! ### Bends of channels that are opposite or equal -/
def negL (x : List Int) : List Int := x.map fun y => 0 - y
theorem negL_len (x : List Int) : (negL x).length = x.length := by simp [negL]
theorem negL_get (x : List Int) (i : Nat) (h : i < x.length) : (negL x).getD i 0 = 0 - x.getD i 0 := by simp [negL, List.getD_eq_getElem?_getD, h]
/-! ### A tip like a cone -/
/-! ### What is swept fits where the groove fits -/
theorem feas_in {b : Blnk} {p q : List Smp} {y : Nat → Int} (hl : q.length = p.length) (hpq : ∀ i, i < p.length → (q.getD i s0).r ≤ (p.getD i s0).r ∧ (p.getD i s0).l ≤ (q.getD i s0).l) (hb : 1 ≤ b.per) (h : Feas b p y) : Feas b q y := fun i hi => by
  rw [hl] at hi
  obtain ⟨h1, h2, h3, h4⟩ := h i hi
  obtain ⟨g1, g2⟩ := hpq i hi
  refine ⟨by omega, by omega, h3, fun h5 => ?_⟩
  have g3 := hpq ((i : Int) - b.per).toNat (by omega)
  have := h4 h5
  omega
theorem feas_take {b : Blnk} {p : List Smp} {y : Nat → Int} (hb : 1 ≤ b.per) {k a : Nat} (hk : k ≤ a) (h : Feas b (p.take a) y) : Feas b (p.take k) y := fun i hi => by
  rw [List.length_take] at hi
  have e : ∀ j, j < k → (p.take k).getD j s0 = (p.take a).getD j s0 := fun j hj => by
    simp [List.getD_eq_getElem?_getD, hj, show j < a by omega]
  have h1 := h i (by rw [List.length_take]; omega)
  rw [← e i (by omega)] at h1
  refine ⟨h1.1, h1.2.1, h1.2.2.1, fun h5 => ?_⟩
  have h6 := h1.2.2.2 h5
  rw [← e _ (by omega)] at h6
  exact h6
theorem fit_in {b : Blnk} {p q : List Smp} (hl : q.length = p.length) (hpq : ∀ i, i < p.length → (q.getD i s0).r ≤ (p.getD i s0).r ∧ (p.getD i s0).l ≤ (q.getD i s0).l) (hb : 1 ≤ b.per) {a k : Nat} (h1 : FitK b p a) (h2 : FitK b q k) : a ≤ k := by
  refine Classical.byContradiction fun hc => ?_
  have hle := h1.le
  obtain ⟨y, hy⟩ := h1.fit (by omega)
  refine h2.no (by omega) y ?_
  have hy' := feas_take hb (show k + 1 ≤ a by omega) hy
  refine feas_in (p := p.take (k + 1)) (by rw [List.length_take, List.length_take, hl]) (fun i hi => ?_) hb hy'
  rw [List.length_take] at hi
  have e : ∀ (z : List Smp), (z.take (k + 1)).getD i s0 = z.getD i s0 := fun z => by
    simp [List.getD_eq_getElem?_getD, show i < k + 1 by omega]
  rw [e, e]
  exact hpq i (by omega)
theorem feas_nil {b : Blnk} (y : Nat → Int) : Feas b [] y := fun i hi => absurd hi (Nat.not_lt_zero i)
end Go.Sx

namespace Go.Sx
open Go Go.Proofs
set_option maxRecDepth 10000
set_option maxHeartbeats 16000000
/-! ### Bounds of what is read and swept -/
theorem oob {l : List Int} {j : Nat} (h : l.length ≤ j) : l.getD j 0 = 0 := by simp [List.getD_eq_getElem?_getD, List.getElem?_eq_none h]
theorem TipOK.all {S : List Int} (h : TipOK S) (j : Nat) : 0 ≤ S.getD j 0 ∧ S.getD j 0 ≤ 4194304 := by
  rcases Nat.lt_or_ge j S.length with hj | hj
  · exact h.rng j hj
  · rw [oob hj]
    omega
def inB (H : List Int) : Prop := ∀ j, -4194304 ≤ H.getD j 0 ∧ H.getD j 0 ≤ 4194304
theorem inB.big {H : List Int} (h : inB H) (j : Nat) : -100000000 ≤ H.getD j 0 ∧ H.getD j 0 ≤ 100000000 := by
  have := h j
  omega
theorem ero_bd {S H : List Int} (hS : TipOK S) (hH : inB H) : inB (eroL S H) := fun j => by
  rcases Nat.lt_or_ge j H.length with hj | hj
  · rw [eroL_get _ _ _ hj]
    have h1 := hH j
    have h2 := ero_self S H j
    refine ⟨ero_ge h1.1 fun u _ _ => ?_, by omega⟩
    have h3 := hH u
    have h4 := hS.all (dst j u)
    omega
  · rw [oob (by rw [eroL_len]; exact hj)]
    omega
theorem dil_bd {S H : List Int} (hS : TipOK S) (hH : inB H) : inB (dilL S H) := fun j => by
  rcases Nat.lt_or_ge j H.length with hj | hj
  · rw [dilL_get _ _ _ hj]
    have h1 := hH j
    have h2 := dil_self S H j
    refine ⟨by omega, dil_le h1.2 fun u _ _ => ?_⟩
    have h3 := hH u
    have h4 := hS.all (dst j u)
    omega
  · rw [oob (by rw [dilL_len]; exact hj)]
    omega
theorem outs_bd {p : List Smp} (hp : PtsOK p) : inB (outs p) := fun j => by
  rcases Nat.lt_or_ge j p.length with hj | hj
  · rw [outs_get _ _ hj]
    have := hp.each j hj
    unfold edgeP at this
    omega
  · rw [oob (by rw [outs_len]; exact hj)]
    omega
theorem inns_bd {p : List Smp} (hp : PtsOK p) : inB (inns p) := fun j => by
  rcases Nat.lt_or_ge j p.length with hj | hj
  · rw [inns_get _ _ hj]
    have := hp.each j hj
    unfold edgeP at this
    omega
  · rw [oob (by rw [inns_len]; exact hj)]
    omega
theorem wall_ok {O N : List Int} {n : Nat} (hn : n ≤ 4096) (hO : inB O) (hN : inB N) : PtsOK (wallF O N n) := ⟨by rw [wallF_len]; exact hn, fun j hj => by
  rw [wallF_len] at hj
  rw [wallF_get _ _ _ _ hj]
  have h1 := hO j
  have h2 := hN j
  unfold edgeP
  simp only
  omega⟩
theorem sweep_ok {S : List Int} {p : List Smp} (hS : TipOK S) (hp : PtsOK p) : PtsOK (sweepF S p) := wall_ok hp.len (dil_bd hS (ero_bd hS (outs_bd hp))) (dil_bd hS (ero_bd hS (inns_bd hp)))
end Go.Sx

namespace Go.Sx
open Go Go.Proofs
set_option maxRecDepth 10000
set_option maxHeartbeats 16000000
/-! ### Rows that are turned one after another -/
def mixW (L : List Int) (k : Nat) : List Int := (List.range L.length).map fun j => if j < k then 0 - L.getD j 0 else L.getD j 0
theorem mixW_len (L : List Int) (k : Nat) : (mixW L k).length = L.length := by simp [mixW]
theorem mixW_at (L : List Int) (k j : Nat) (h : j < L.length) : (mixW L k).getD j 0 = if j < k then 0 - L.getD j 0 else L.getD j 0 := by simp [mixW, List.getD_eq_getElem?_getD, List.getElem?_range h, h]
theorem mixW_0 (L : List Int) : mixW L 0 = L := getD_ext (mixW_len L 0) fun j hj => by
  rw [mixW_len] at hj
  rw [mixW_at _ _ _ hj, if_neg (by omega)]
theorem mixW_n (L : List Int) : mixW L L.length = negL L := getD_ext (by rw [mixW_len, negL_len]) fun j hj => by
  rw [mixW_len] at hj
  rw [mixW_at _ _ _ hj, if_pos hj, negL_get _ _ hj]
theorem set_get (l : List Int) (k j : Nat) (v : Int) (h : k < l.length) : (l.set k v).getD j 0 = if k = j then v else l.getD j 0 := by
  simp only [List.getD_eq_getElem?_getD, List.getElem?_set]
  by_cases e : k = j
  · subst e
    simp [h]
  · simp [e]
theorem mixW_upd (L : List Int) (k : Nat) (hk : k < L.length) : updRow (i64s (mixW L k)) (k : Int).toNat 0 [.int (0 - L.getD k 0)] = i64s (mixW L (k + 1)) := by
  rw [Int.toNat_natCast, i64s_upd _ _ _ (by rw [mixW_len]; exact hk)]
  congr 1
  refine getD_ext (by rw [List.length_set, mixW_len, mixW_len]) fun j hj => ?_
  rw [List.length_set, mixW_len] at hj
  rw [set_get _ _ _ _ (by rw [mixW_len]; exact hk), mixW_at _ _ _ hj, mixW_at _ _ _ hj]
  by_cases e : k = j
  · subst e
    rw [if_pos rfl, if_pos (by omega)]
  · rw [if_neg e]
    by_cases h : j < k
    · rw [if_pos h, if_pos (by omega)]
    · rw [if_neg h, if_neg (by omega)]
theorem same_upd (L : List Int) (k : Nat) (hk : k < L.length) : updRow (i64s L) (k : Int).toNat 0 [.int (L.getD k 0)] = i64s L := by
  rw [Int.toNat_natCast, i64s_upd _ _ _ hk]
  congr 1
  refine getD_ext (by rw [List.length_set]) fun j hj => ?_
  rw [set_get _ _ _ _ hk]
  by_cases e : k = j
  · rw [if_pos e, e]
  · rw [if_neg e]
theorem takeL_snoc (x : List Int) (i : Nat) (h : i < x.length) : i64s (x.take i) ++ [[.int (x.getD i 0)]] = i64s (x.take (i + 1)) := by
  rw [take_snoc x i 0 h, i64s_snoc]
theorem wall_take (O N : List Int) (n i : Nat) (h : i < n) : smpA ((wallF O N n).take i) ++ [[.int (-N.getD i 0), .int (O.getD i 0)]] = smpA ((wallF O N n).take (i + 1)) := by
  rw [take_snoc (wallF O N n) i s0 (by rw [wallF_len]; exact h), smpA_snoc, wallF_get _ _ _ _ h]
/-! ### What goes through a closure -/
theorem s247 (S H : List Int) (hS : TipOK S) (hH4 : H.length ≤ 4096) (hH : inB H) : HSpec Tryz.prog 247 [.one (.own 1), .one (.ptr 0 0)] [bTip S, rowL H] (fun r m' => r = .x (.one (.own 2)) ∧ m' = [some (bTip S), some (rowL H), some (rowL (eroL S H))]) := by
  refine spec_of pMix (O := []) Tryz.func247 (c := bodyOf Tryz.f247) rfl (by kernel_rfl) (by kernel_rfl) Tryz.ntmps247 (res := [.tmp 3]) (by kernel_rfl) ?_
  repeat' ((conv => whnf); first | refine Rng.g ?_ | refine Ob.g ?_ | refine Ob.e ?_ | refine Ob.m ?_ | refine Ob.mk (Nat.le_of_ble_eq_true rfl) ?_ | refine JoinVC.on ?_ | refine Nils.mk (fun h => ?_) ?_ | refine Val.t ?_ | refine Val.d ?_ | refine Mm.mk ?_ | (refine Br.mk (fun h => ?_) (fun h => ?_) <;> first | (exfalso; omega; done) | (exfalso; simp at h; done) | skip))
  conv => whnf
  refine CallVC.mk [] _ _ _ rfl rfl rfl (s165 S H hH4 hS.len hH.big hS.all) (fun r m' h' => ?_)
  obtain ⟨rfl, rfl⟩ := h'
  conv => whnf
  repeat' ((conv => whnf); first | refine Rng.g ?_ | refine Ob.g ?_ | refine Ob.e ?_ | refine Ob.m ?_ | refine Ob.mk (Nat.le_of_ble_eq_true rfl) ?_ | refine JoinVC.on ?_ | refine Nils.mk (fun h => ?_) ?_ | refine Val.t ?_ | refine Val.d ?_ | refine Mm.mk ?_ | (refine Br.mk (fun h => ?_) (fun h => ?_) <;> first | (exfalso; omega; done) | (exfalso; simp at h; done) | skip))
  repeat refine Mm.mk ?_
  conv => whnf
  refine EndVC.mk _ rfl _ _ (⟨rfl, rfl⟩) ?_
  refine ⟨[some 0, some 1, some 2], rfl, rfl, ?_, ?_⟩ <;> repeat' (first | exact trivial | exact rfl | exact Iff.rfl | apply And.intro)
theorem s164 (S H : List Int) (hS : TipOK S) (hH4 : H.length ≤ 4096) (hH : inB H) : HSpec Tryz.prog 164 [.one (.own 1), .one (.ptr 0 0)] [bTip S, rowL H] (fun r m' => r = .x (.one (.own 2)) ∧ m' = [some (bTip S), some (rowL H), some (rowL (dilL S (eroL S H)))]) := by
  have he := ero_bd hS hH
  have hl := eroL_len S H
  refine spec_of pMix (O := [(1, ([], [⟨0, [], []⟩, ⟨1, [], []⟩, ⟨2, [], []⟩, ⟨3, [0], []⟩, ⟨4, [], []⟩, ⟨5, [], []⟩]))]) Tryz.func164 (c := bodyOf Tryz.f164) rfl (by kernel_rfl) (by kernel_rfl) Tryz.ntmps164 (res := [.tmp 3]) (by kernel_rfl) ?_
  repeat' ((conv => whnf); first | refine Rng.g ?_ | refine Ob.g ?_ | refine Ob.e ?_ | refine Ob.m ?_ | refine Ob.mk (Nat.le_of_ble_eq_true rfl) ?_ | refine JoinVC.on ?_ | refine Nils.mk (fun h => ?_) ?_ | refine Val.t ?_ | refine Val.d ?_ | refine Mm.mk ?_ | (refine Br.mk (fun h => ?_) (fun h => ?_) <;> first | (exfalso; omega; done) | (exfalso; simp at h; done) | skip))
  conv => whnf
  refine CallVC0.mk _ _ rfl (s165 S H hH4 hS.len hH.big hS.all) (fun r m' h' => ?_)
  obtain ⟨rfl, rfl⟩ := h'
  conv => whnf
  repeat' ((conv => whnf); first | refine Rng.g ?_ | refine Ob.g ?_ | refine Ob.e ?_ | refine Ob.m ?_ | refine Ob.mk (Nat.le_of_ble_eq_true rfl) ?_ | refine JoinVC.on ?_ | refine Nils.mk (fun h => ?_) ?_ | refine Val.t ?_ | refine Val.d ?_ | refine Mm.mk ?_ | (refine Br.mk (fun h => ?_) (fun h => ?_) <;> first | (exfalso; omega; done) | (exfalso; simp at h; done) | skip))
  conv => whnf
  refine CallVC.mk [] _ _ _ rfl rfl rfl (s165t S (eroL S H) (by omega) hS.len he.big hS.all) (fun r m' h' => ?_)
  obtain ⟨rfl, rfl⟩ := h'
  conv => whnf
  repeat' ((conv => whnf); first | refine Rng.g ?_ | refine Ob.g ?_ | refine Ob.e ?_ | refine Ob.m ?_ | refine Ob.mk (Nat.le_of_ble_eq_true rfl) ?_ | refine JoinVC.on ?_ | refine Nils.mk (fun h => ?_) ?_ | refine Val.t ?_ | refine Val.d ?_ | refine Mm.mk ?_ | (refine Br.mk (fun h => ?_) (fun h => ?_) <;> first | (exfalso; omega; done) | (exfalso; simp at h; done) | skip))
  repeat refine Mm.mk ?_
  conv => whnf
  refine EndVC.mk _ rfl _ _ (⟨rfl, rfl⟩) ?_
  refine ⟨[some 0, some 1, some 3], rfl, rfl, ?_, ?_⟩ <;> repeat' (first | exact trivial | exact rfl | exact Iff.rfl | apply And.intro)
theorem s242or (S : List Int) (p : List Smp) (hS : TipOK S) (hp : PtsOK p) : HSpec Tryz.prog 242 [.one (.ifc 378), .one (.ptr 0 0), .one (.ptr 1 0)] [bPs p, .box 278 [.fn 247 [(2, 0)]], bTip S] (fun r m' => r = .x (.one (.own 3)) ∧ m' = [some (bPs p), some (.box 278 [.fn 247 [(2, 0)]]), some (bTip S), some (rowL (eroL S (outs p)))]) := by
  have lp := smpA_len p
  have hl := hp.len
  have lH := outs_len p
  have hHB := outs_bd hp
  have lE : (eroL S (outs p)).length = p.length := by rw [eroL_len, lH]
  have bE : inB (eroL S (outs p)) := ero_bd hS hHB
  obtain ⟨Z, hZ⟩ : ∃ Z, Z = (eroL S (outs p)) := ⟨_, rfl⟩
  rw [← hZ] at lE bE
  have lZ := i64s_len Z
  refine spec_of pMix (O := []) Tryz.func242 (c := bodyOf Tryz.f242) rfl (by kernel_rfl) (by kernel_rfl) Tryz.ntmps242 (res := [.tmp 4]) (by kernel_rfl) ?_
  repeat' ((conv => whnf); first | refine Rng.g ?_ | refine Ob.g ?_ | refine Ob.e ?_ | refine Ob.m ?_ | refine Ob.mk (Nat.le_of_ble_eq_true rfl) ?_ | refine JoinVC.on ?_ | refine Nils.mk (fun h => ?_) ?_ | refine Val.t ?_ | refine Val.d ?_ | refine Mm.mk ?_ | (refine Br.mk (fun h => ?_) (fun h => ?_) <;> first | (exfalso; omega; done) | (exfalso; simp at h; done) | skip))
  refine LoopVC.mk (fun n st => ∃ (i : Nat), i ≤ p.length ∧ n = p.length - i ∧ st = ⟨3, envA 49 [(0, .x (.one (.ifc 378))), (1, .x (.one (.ptr 0 0))), (2, .x (.one (.ptr 1 0))), (5, .x (.one (.mth 378 "deadwax/play.of"))), (6, .x (.one (.mth 378 "deadwax/play.back"))), (7, .x (.one (.own 3))), (17, .x (lS p)), (18, .int .i64 (p.length : Int)), (19, .int .i64 (i : Int))], [some (bPs p), some (.box 278 [.fn 247 [(2, 0)]]), some (bTip S), some (rowL ((outs p).take i))]⟩) _ _ ⟨0, Nat.zero_le _, rfl, rfl⟩ ?_ ?_
  · refine ⟨[some 0, some 1, some 2, none], rfl, rfl, ?_, ?_⟩ <;> repeat' (first | exact trivial | exact rfl | exact Iff.rfl | apply And.intro)
    all_goals exact congrArg Int.ofNat lp
  rintro n _ ⟨i, hi, hn, rfl⟩
  by_cases hi' : i < p.length
  · have e1 : (i64s ((outs p).take i)).length = i := by rw [i64s_len, List.length_take]; omega
    have g0 : rI (smpA p) (i : Int).toNat 0 = (p.getD i s0).l := by rw [Int.toNat_natCast]; exact smpA_l p i
    have g1 : rI (smpA p) (i : Int).toNat (0 + 1) = (p.getD i s0).r := by rw [Int.toNat_natCast]; exact smpA_r p i
    have hed := hp.each i hi'
    unfold edgeP at hed
    have u1 := takeL_snoc (outs p) i (by omega)
    rw [outs_get p i hi'] at u1
    skip
    have c1 : PSpec Tryz.prog 400 [.agg [], smpX p i] (.x (I ((p.getD i s0).r))) := smpX_eq p i ▸ s400 (p.getD i s0)
    repeat' ((conv => whnf); first | refine Mth.mk _ m_ou_of ?_ | refine Rng.g ?_ | refine Ob.g ?_ | refine Ob.e ?_ | refine Ob.m ?_ | refine Ob.mk (Nat.le_of_ble_eq_true rfl) ?_ | refine JoinVC.on ?_ | refine Nils.mk (fun h => ?_) ?_ | refine Val.t ?_ | refine Val.d ?_ | refine Mm.mk ?_ | refine CallVC.pure rfl (c1) ?_ | refine CallVC0.pure rfl (c1) ?_ | (refine Br.mk (fun h => ?_) (fun h => ?_) <;> first | (exfalso; omega; done) | (exfalso; simp at h; done) | skip))
    repeat refine Mm.mk ?_
    refine Ob.mk (by simp only [eb2, e1, List.length_cons, List.length_nil]; omega) ?_
    repeat' ((conv => whnf); first | rw [u1] | refine Rng.g ?_ | refine Ob.g ?_ | refine Ob.e ?_ | refine Ob.m ?_ | refine Ob.mk (Nat.le_of_ble_eq_true rfl) ?_ | refine JoinVC.on ?_ | refine Nils.mk (fun h => ?_) ?_ | refine Val.t ?_ | refine Val.d ?_ | refine Mm.mk ?_ | (refine Br.mk (fun h => ?_) (fun h => ?_) <;> first | (exfalso; omega; done) | (exfalso; simp at h; done) | skip))
    refine Back.mk (p.length - (i + 1)) _ (by omega) ⟨i + 1, by omega, rfl, rfl⟩ ?_
    refine ⟨[some 0, some 1, some 2, some 6], rfl, rfl, ?_, ?_⟩ <;> repeat' (first | exact trivial | exact rfl | exact Iff.rfl | apply And.intro)
  have ei : i = p.length := by omega
  subst ei
  rw [show (outs p).take p.length = outs p from List.take_of_length_le (by omega)]
  repeat' ((conv => whnf); first | refine Rng.g ?_ | refine Ob.g ?_ | refine Ob.e ?_ | refine Ob.m ?_ | refine Ob.mk (Nat.le_of_ble_eq_true rfl) ?_ | refine JoinVC.on ?_ | refine Nils.mk (fun h => ?_) ?_ | refine Val.t ?_ | refine Val.d ?_ | refine Mm.mk ?_ | (refine Br.mk (fun h => ?_) (fun h => ?_) <;> first | (exfalso; omega; done) | (exfalso; simp at h; done) | skip))
  conv => whnf
  refine CallVC.mk [2, 3] _ _ _ rfl rfl rfl (s247 S (outs p) hS (by omega) hHB) (fun r m' h' => ?_)
  obtain ⟨rfl, rfl⟩ := h'
  conv => whnf
  rw [← hZ]
  repeat' ((conv => whnf); first | refine Rng.g ?_ | refine Ob.g ?_ | refine Ob.e ?_ | refine Ob.m ?_ | refine Ob.mk (Nat.le_of_ble_eq_true rfl) ?_ | refine JoinVC.on ?_ | refine Nils.mk (fun h => ?_) ?_ | refine Val.t ?_ | refine Val.d ?_ | refine Mm.mk ?_ | (refine Br.mk (fun h => ?_) (fun h => ?_) <;> first | (exfalso; omega; done) | (exfalso; simp at h; done) | skip))
  refine LoopVC.mk (fun n st => ∃ (i : Nat), i ≤ p.length ∧ n = p.length - i ∧ st = ⟨3, envA 49 [(0, .x (.one (.ifc 378))), (1, .x (.one (.ptr 0 0))), (2, .x (.one (.ptr 1 0))), (6, .x (.one (.mth 378 "deadwax/play.back"))), (7, .x (.one (.own 3))), (34, .int .i64 (p.length : Int)), (35, .int .i64 (i : Int))], [some (bPs p), some (.box 278 [.fn 247 [(2, 0)]]), some (bTip S), some (rowL (Z))]⟩) _ _ ⟨0, Nat.zero_le _, rfl, rfl⟩ ?_ ?_
  · refine ⟨[some 0, some 1, some 2, some 4], rfl, rfl, ?_, ?_⟩ <;> repeat' (first | exact trivial | exact rfl | exact Iff.rfl | apply And.intro)
    all_goals first | (exact congrArg Int.ofNat (lZ.trans lE)) | (rfl)
  rintro n _ ⟨i, hi, hn, rfl⟩
  have lM : (i64s (Z)).length = p.length := by rw [i64s_len, lE]
  by_cases hi' : i < p.length
  · have g0 : rI (i64s (Z)) (i : Int).toNat 0 = Z.getD i 0 := by rw [Int.toNat_natCast, i64s_get]
    have hb := bE i
    have u1 := same_upd Z i (by omega)
    have c1 := s399 (Z.getD i 0)
    repeat' ((conv => whnf); first | rw [g0] | rw [u1] | refine Mth.mk _ m_ou_bk ?_ | refine Rng.g ?_ | refine Ob.g ?_ | refine Ob.e ?_ | refine Ob.m ?_ | refine Ob.mk (Nat.le_of_ble_eq_true rfl) ?_ | refine JoinVC.on ?_ | refine Nils.mk (fun h => ?_) ?_ | refine Val.t ?_ | refine Val.d ?_ | refine Mm.mk ?_ | refine CallVC.pure rfl (c1) ?_ | refine CallVC0.pure rfl (c1) ?_ | (refine Br.mk (fun h => ?_) (fun h => ?_) <;> first | (exfalso; omega; done) | (exfalso; simp at h; done) | skip))
    refine Back.mk (p.length - (i + 1)) _ (by omega) ⟨i + 1, by omega, rfl, rfl⟩ ?_
    refine ⟨[some 0, some 1, some 2, some 3], rfl, rfl, ?_, ?_⟩ <;> repeat' (first | exact trivial | exact rfl | exact Iff.rfl | apply And.intro)
  have ei : i = p.length := by omega
  subst ei
  skip
  rw [hZ]
  repeat' ((conv => whnf); first | refine Rng.g ?_ | refine Ob.g ?_ | refine Ob.e ?_ | refine Ob.m ?_ | refine Ob.mk (Nat.le_of_ble_eq_true rfl) ?_ | refine JoinVC.on ?_ | refine Nils.mk (fun h => ?_) ?_ | refine Val.t ?_ | refine Val.d ?_ | refine Mm.mk ?_ | (refine Br.mk (fun h => ?_) (fun h => ?_) <;> first | (exfalso; omega; done) | (exfalso; simp at h; done) | skip))
  repeat refine Mm.mk ?_
  conv => whnf
  refine EndVC.mk _ rfl _ _ (⟨rfl, rfl⟩) ?_
  refine ⟨[some 0, some 1, some 2, some 3], rfl, rfl, ?_, ?_⟩ <;> repeat' (first | exact trivial | exact rfl | exact Iff.rfl | apply And.intro)
theorem s242ir (S : List Int) (p : List Smp) (hS : TipOK S) (hp : PtsOK p) : HSpec Tryz.prog 242 [.one (.ifc 379), .one (.ptr 0 0), .one (.ptr 1 0)] [bPs p, .box 278 [.fn 247 [(2, 0)]], bTip S] (fun r m' => r = .x (.one (.own 3)) ∧ m' = [some (bPs p), some (.box 278 [.fn 247 [(2, 0)]]), some (bTip S), some (rowL (negL (eroL S (inns p))))]) := by
  have lp := smpA_len p
  have hl := hp.len
  have lH := inns_len p
  have hHB := inns_bd hp
  have lE : (eroL S (inns p)).length = p.length := by rw [eroL_len, lH]
  have bE : inB (eroL S (inns p)) := ero_bd hS hHB
  obtain ⟨Z, hZ⟩ : ∃ Z, Z = (eroL S (inns p)) := ⟨_, rfl⟩
  rw [← hZ] at lE bE
  have lZ := i64s_len Z
  refine spec_of pMix (O := []) Tryz.func242 (c := bodyOf Tryz.f242) rfl (by kernel_rfl) (by kernel_rfl) Tryz.ntmps242 (res := [.tmp 4]) (by kernel_rfl) ?_
  repeat' ((conv => whnf); first | refine Rng.g ?_ | refine Ob.g ?_ | refine Ob.e ?_ | refine Ob.m ?_ | refine Ob.mk (Nat.le_of_ble_eq_true rfl) ?_ | refine JoinVC.on ?_ | refine Nils.mk (fun h => ?_) ?_ | refine Val.t ?_ | refine Val.d ?_ | refine Mm.mk ?_ | (refine Br.mk (fun h => ?_) (fun h => ?_) <;> first | (exfalso; omega; done) | (exfalso; simp at h; done) | skip))
  refine LoopVC.mk (fun n st => ∃ (i : Nat), i ≤ p.length ∧ n = p.length - i ∧ st = ⟨3, envA 49 [(0, .x (.one (.ifc 379))), (1, .x (.one (.ptr 0 0))), (2, .x (.one (.ptr 1 0))), (5, .x (.one (.mth 379 "deadwax/play.of"))), (6, .x (.one (.mth 379 "deadwax/play.back"))), (7, .x (.one (.own 3))), (17, .x (lS p)), (18, .int .i64 (p.length : Int)), (19, .int .i64 (i : Int))], [some (bPs p), some (.box 278 [.fn 247 [(2, 0)]]), some (bTip S), some (rowL ((inns p).take i))]⟩) _ _ ⟨0, Nat.zero_le _, rfl, rfl⟩ ?_ ?_
  · refine ⟨[some 0, some 1, some 2, none], rfl, rfl, ?_, ?_⟩ <;> repeat' (first | exact trivial | exact rfl | exact Iff.rfl | apply And.intro)
    all_goals exact congrArg Int.ofNat lp
  rintro n _ ⟨i, hi, hn, rfl⟩
  by_cases hi' : i < p.length
  · have e1 : (i64s ((inns p).take i)).length = i := by rw [i64s_len, List.length_take]; omega
    have g0 : rI (smpA p) (i : Int).toNat 0 = (p.getD i s0).l := by rw [Int.toNat_natCast]; exact smpA_l p i
    have g1 : rI (smpA p) (i : Int).toNat (0 + 1) = (p.getD i s0).r := by rw [Int.toNat_natCast]; exact smpA_r p i
    have hed := hp.each i hi'
    unfold edgeP at hed
    have u1 := takeL_snoc (inns p) i (by omega)
    rw [inns_get p i hi'] at u1
    rw [← Int.zero_sub] at u1
    have c1 : PSpec Tryz.prog 402 [.agg [], smpX p i] (.x (I (0 - (p.getD i s0).l))) := smpX_eq p i ▸ s402 (p.getD i s0) (by omega)
    repeat' ((conv => whnf); first | refine Mth.mk _ m_in_of ?_ | refine Rng.g ?_ | refine Ob.g ?_ | refine Ob.e ?_ | refine Ob.m ?_ | refine Ob.mk (Nat.le_of_ble_eq_true rfl) ?_ | refine JoinVC.on ?_ | refine Nils.mk (fun h => ?_) ?_ | refine Val.t ?_ | refine Val.d ?_ | refine Mm.mk ?_ | refine CallVC.pure rfl (c1) ?_ | refine CallVC0.pure rfl (c1) ?_ | (refine Br.mk (fun h => ?_) (fun h => ?_) <;> first | (exfalso; omega; done) | (exfalso; simp at h; done) | skip))
    repeat refine Mm.mk ?_
    refine Ob.mk (by simp only [eb2, e1, List.length_cons, List.length_nil]; omega) ?_
    repeat' ((conv => whnf); first | rw [u1] | refine Rng.g ?_ | refine Ob.g ?_ | refine Ob.e ?_ | refine Ob.m ?_ | refine Ob.mk (Nat.le_of_ble_eq_true rfl) ?_ | refine JoinVC.on ?_ | refine Nils.mk (fun h => ?_) ?_ | refine Val.t ?_ | refine Val.d ?_ | refine Mm.mk ?_ | (refine Br.mk (fun h => ?_) (fun h => ?_) <;> first | (exfalso; omega; done) | (exfalso; simp at h; done) | skip))
    refine Back.mk (p.length - (i + 1)) _ (by omega) ⟨i + 1, by omega, rfl, rfl⟩ ?_
    refine ⟨[some 0, some 1, some 2, some 6], rfl, rfl, ?_, ?_⟩ <;> repeat' (first | exact trivial | exact rfl | exact Iff.rfl | apply And.intro)
  have ei : i = p.length := by omega
  subst ei
  rw [show (inns p).take p.length = inns p from List.take_of_length_le (by omega)]
  repeat' ((conv => whnf); first | refine Rng.g ?_ | refine Ob.g ?_ | refine Ob.e ?_ | refine Ob.m ?_ | refine Ob.mk (Nat.le_of_ble_eq_true rfl) ?_ | refine JoinVC.on ?_ | refine Nils.mk (fun h => ?_) ?_ | refine Val.t ?_ | refine Val.d ?_ | refine Mm.mk ?_ | (refine Br.mk (fun h => ?_) (fun h => ?_) <;> first | (exfalso; omega; done) | (exfalso; simp at h; done) | skip))
  conv => whnf
  refine CallVC.mk [2, 3] _ _ _ rfl rfl rfl (s247 S (inns p) hS (by omega) hHB) (fun r m' h' => ?_)
  obtain ⟨rfl, rfl⟩ := h'
  conv => whnf
  rw [← hZ]
  repeat' ((conv => whnf); first | refine Rng.g ?_ | refine Ob.g ?_ | refine Ob.e ?_ | refine Ob.m ?_ | refine Ob.mk (Nat.le_of_ble_eq_true rfl) ?_ | refine JoinVC.on ?_ | refine Nils.mk (fun h => ?_) ?_ | refine Val.t ?_ | refine Val.d ?_ | refine Mm.mk ?_ | (refine Br.mk (fun h => ?_) (fun h => ?_) <;> first | (exfalso; omega; done) | (exfalso; simp at h; done) | skip))
  refine LoopVC.mk (fun n st => ∃ (i : Nat), i ≤ p.length ∧ n = p.length - i ∧ st = ⟨3, envA 49 [(0, .x (.one (.ifc 379))), (1, .x (.one (.ptr 0 0))), (2, .x (.one (.ptr 1 0))), (6, .x (.one (.mth 379 "deadwax/play.back"))), (7, .x (.one (.own 3))), (34, .int .i64 (p.length : Int)), (35, .int .i64 (i : Int))], [some (bPs p), some (.box 278 [.fn 247 [(2, 0)]]), some (bTip S), some (rowL (mixW Z i))]⟩) _ _ ⟨0, Nat.zero_le _, rfl, rfl⟩ ?_ ?_
  · refine ⟨[some 0, some 1, some 2, some 4], rfl, rfl, ?_, ?_⟩ <;> repeat' (first | exact trivial | exact rfl | exact Iff.rfl | apply And.intro)
    all_goals first | (exact congrArg Int.ofNat (lZ.trans lE)) | (exact (congrArg i64s (mixW_0 Z)).symm)
  rintro n _ ⟨i, hi, hn, rfl⟩
  have lM : (i64s (mixW Z i)).length = p.length := by rw [i64s_len, mixW_len, lE]
  by_cases hi' : i < p.length
  · have g0 : rI (i64s (mixW Z i)) (i : Int).toNat 0 = Z.getD i 0 := by rw [Int.toNat_natCast, i64s_get]; rw [mixW_at _ _ _ (by omega), if_neg (Nat.lt_irrefl i)]
    have hb := bE i
    have u1 := mixW_upd Z i (by omega)
    have c1 := s401 (Z.getD i 0) (by omega)
    repeat' ((conv => whnf); first | rw [g0] | rw [u1] | refine Mth.mk _ m_in_bk ?_ | refine Rng.g ?_ | refine Ob.g ?_ | refine Ob.e ?_ | refine Ob.m ?_ | refine Ob.mk (Nat.le_of_ble_eq_true rfl) ?_ | refine JoinVC.on ?_ | refine Nils.mk (fun h => ?_) ?_ | refine Val.t ?_ | refine Val.d ?_ | refine Mm.mk ?_ | refine CallVC.pure rfl (c1) ?_ | refine CallVC0.pure rfl (c1) ?_ | (refine Br.mk (fun h => ?_) (fun h => ?_) <;> first | (exfalso; omega; done) | (exfalso; simp at h; done) | skip))
    refine Back.mk (p.length - (i + 1)) _ (by omega) ⟨i + 1, by omega, rfl, rfl⟩ ?_
    refine ⟨[some 0, some 1, some 2, some 3], rfl, rfl, ?_, ?_⟩ <;> repeat' (first | exact trivial | exact rfl | exact Iff.rfl | apply And.intro)
  have ei : i = p.length := by omega
  subst ei
  rw [show mixW Z p.length = negL Z by rw [← lE]; exact mixW_n Z]
  rw [hZ]
  repeat' ((conv => whnf); first | refine Rng.g ?_ | refine Ob.g ?_ | refine Ob.e ?_ | refine Ob.m ?_ | refine Ob.mk (Nat.le_of_ble_eq_true rfl) ?_ | refine JoinVC.on ?_ | refine Nils.mk (fun h => ?_) ?_ | refine Val.t ?_ | refine Val.d ?_ | refine Mm.mk ?_ | (refine Br.mk (fun h => ?_) (fun h => ?_) <;> first | (exfalso; omega; done) | (exfalso; simp at h; done) | skip))
  repeat refine Mm.mk ?_
  conv => whnf
  refine EndVC.mk _ rfl _ _ (⟨rfl, rfl⟩) ?_
  refine ⟨[some 0, some 1, some 2, some 3], rfl, rfl, ?_, ?_⟩ <;> repeat' (first | exact trivial | exact rfl | exact Iff.rfl | apply And.intro)
theorem s163r (S : List Int) (p : List Smp) (hS : TipOK S) (hp : PtsOK p) : HSpec Tryz.prog 163 [lS p, .one (.fn 247 [(0, 0)])] [bTip S] (fun r m' => r = .x (.one (.own 1)) ∧ m' = [some (bTip S), some (rowP (readF S p))]) := by
  have lp := smpA_len p
  have hl := hp.len
  obtain ⟨O, hO⟩ : ∃ O, O = eroL S (outs p) := ⟨_, rfl⟩
  obtain ⟨N, hN⟩ : ∃ N, N = eroL S (inns p) := ⟨_, rfl⟩
  have lO : O.length = p.length := by rw [hO, eroL_len, outs_len]
  have lN : N.length = p.length := by rw [hN, eroL_len, inns_len]
  have bO : inB O := by rw [hO]; have hHB := outs_bd hp; exact ero_bd hS hHB
  have bN : inB N := by rw [hN]; have hHB := inns_bd hp; exact ero_bd hS hHB
  have ln := negL_len N
  have l1 := i64s_len O
  have l2 := i64s_len (negL N)
  have eW : readF S p = wallF O N p.length := by rw [hO, hN]; rfl
  rw [eW]
  refine spec_of pMix (O := [(7, ([], [⟨0, [], []⟩, ⟨1, [], []⟩, ⟨2, [], []⟩, ⟨3, [], []⟩, ⟨4, [], []⟩, ⟨5, [], []⟩, ⟨6, [], []⟩, ⟨7, [], []⟩, ⟨8, [], []⟩, ⟨9, [], [10]⟩, ⟨10, [], []⟩, ⟨11, [], []⟩, ⟨12, [], []⟩]))]) Tryz.func163 (c := bodyOf Tryz.f163) rfl (by kernel_rfl) (by kernel_rfl) Tryz.ntmps163 (res := [.tmp 4]) (by kernel_rfl) ?_
  repeat' ((conv => whnf); first | refine Rng.g ?_ | refine Ob.g ?_ | refine Ob.e ?_ | refine Ob.m ?_ | refine Ob.mk (Nat.le_of_ble_eq_true rfl) ?_ | refine JoinVC.on ?_ | refine Nils.mk (fun h => ?_) ?_ | refine Val.t ?_ | refine Val.d ?_ | refine Mm.mk ?_ | (refine Br.mk (fun h => ?_) (fun h => ?_) <;> first | (exfalso; omega; done) | (exfalso; simp at h; done) | skip))
  conv => whnf
  refine CallVC.mk [1, 2, 0] _ _ _ rfl rfl rfl (s242or S p hS hp) (fun r m' h' => ?_)
  obtain ⟨rfl, rfl⟩ := h'
  conv => whnf
  rw [← hO]
  repeat' ((conv => whnf); first | refine Rng.g ?_ | refine Ob.g ?_ | refine Ob.e ?_ | refine Ob.m ?_ | refine Ob.mk (Nat.le_of_ble_eq_true rfl) ?_ | refine JoinVC.on ?_ | refine Nils.mk (fun h => ?_) ?_ | refine Val.t ?_ | refine Val.d ?_ | refine Mm.mk ?_ | (refine Br.mk (fun h => ?_) (fun h => ?_) <;> first | (exfalso; omega; done) | (exfalso; simp at h; done) | skip))
  conv => whnf
  refine CallVC.mk [1, 2, 0] _ _ _ rfl rfl rfl (s242ir S p hS hp) (fun r m' h' => ?_)
  obtain ⟨rfl, rfl⟩ := h'
  conv => whnf
  rw [← hN]
  repeat' ((conv => whnf); first | refine Rng.g ?_ | refine Ob.g ?_ | refine Ob.e ?_ | refine Ob.m ?_ | refine Ob.mk (Nat.le_of_ble_eq_true rfl) ?_ | refine JoinVC.on ?_ | refine Nils.mk (fun h => ?_) ?_ | refine Val.t ?_ | refine Val.d ?_ | refine Mm.mk ?_ | (refine Br.mk (fun h => ?_) (fun h => ?_) <;> first | (exfalso; omega; done) | (exfalso; simp at h; done) | skip))
  refine LoopVC.mk (fun n st => ∃ (i : Nat), i ≤ p.length ∧ n = p.length - i ∧ st = ⟨1, envA 38 [(2, .x (.one (.ptr 1 0))), (3, .x (.one (.ptr 2 0))), (6, .x (.one (.own 3))), (7, .x (.one (.own 4))), (8, .x (.one (.own 5))), (20, .int .i64 (p.length : Int)), (21, .int .i64 (i : Int))], [some (bTip S), some (bPs p), some (.box 278 [.fn 247 [(0, 0)]]), some (rowL O), some (rowL (negL N)), some (rowP ((wallF O N p.length).take i))]⟩) _ _ ⟨0, Nat.zero_le _, rfl, rfl⟩ ?_ ?_
  · refine ⟨[some 0, some 1, some 2, some 3, some 4, none], rfl, rfl, ?_, ?_⟩ <;> repeat' (first | exact trivial | exact rfl | exact Iff.rfl | apply And.intro)
    all_goals exact congrArg Int.ofNat lp
  rintro n _ ⟨i, hi, hn, rfl⟩
  by_cases hi' : i < p.length
  · have e1 : (smpA ((wallF O N p.length).take i)).length = i := by rw [smpA_len, List.length_take, wallF_len]; omega
    have g0 : rI (i64s O) (i : Int).toNat 0 = O.getD i 0 := by rw [Int.toNat_natCast, i64s_get]
    have g1 : rI (i64s (negL N)) (i : Int).toNat 0 = -N.getD i 0 := by rw [Int.toNat_natCast, i64s_get, negL_get _ _ (by omega), Int.zero_sub]
    have u1 := wall_take O N p.length i hi'
    repeat' ((conv => whnf); first | rw [g0] | rw [g1] | refine Rng.g ?_ | refine Ob.g ?_ | refine Ob.e ?_ | refine Ob.m ?_ | refine Ob.mk (Nat.le_of_ble_eq_true rfl) ?_ | refine JoinVC.on ?_ | refine Nils.mk (fun h => ?_) ?_ | refine Val.t ?_ | refine Val.d ?_ | refine Mm.mk ?_ | (refine Br.mk (fun h => ?_) (fun h => ?_) <;> first | (exfalso; omega; done) | (exfalso; simp at h; done) | skip))
    repeat refine Mm.mk ?_
    refine Ob.mk (by simp only [eb51, e1, List.length_cons, List.length_nil]; omega) ?_
    repeat' ((conv => whnf); first | rw [g0] | rw [g1] | rw [u1] | refine Rng.g ?_ | refine Ob.g ?_ | refine Ob.e ?_ | refine Ob.m ?_ | refine Ob.mk (Nat.le_of_ble_eq_true rfl) ?_ | refine JoinVC.on ?_ | refine Nils.mk (fun h => ?_) ?_ | refine Val.t ?_ | refine Val.d ?_ | refine Mm.mk ?_ | (refine Br.mk (fun h => ?_) (fun h => ?_) <;> first | (exfalso; omega; done) | (exfalso; simp at h; done) | skip))
    refine Back.mk (p.length - (i + 1)) _ (by omega) ⟨i + 1, by omega, rfl, rfl⟩ ?_
    refine ⟨[some 0, some 1, some 2, some 3, some 4, some 7], rfl, rfl, ?_, ?_⟩ <;> repeat' (first | exact trivial | exact rfl | exact Iff.rfl | apply And.intro)
  have ei : i = p.length := by omega
  subst ei
  rw [show (wallF O N p.length).take p.length = wallF O N p.length from List.take_of_length_le (by rw [wallF_len]; omega)]
  repeat' ((conv => whnf); first | refine Rng.g ?_ | refine Ob.g ?_ | refine Ob.e ?_ | refine Ob.m ?_ | refine Ob.mk (Nat.le_of_ble_eq_true rfl) ?_ | refine JoinVC.on ?_ | refine Nils.mk (fun h => ?_) ?_ | refine Val.t ?_ | refine Val.d ?_ | refine Mm.mk ?_ | (refine Br.mk (fun h => ?_) (fun h => ?_) <;> first | (exfalso; omega; done) | (exfalso; simp at h; done) | skip))
  repeat refine Mm.mk ?_
  conv => whnf
  refine EndVC.mk _ rfl _ _ (⟨rfl, rfl⟩) ?_
  refine ⟨[some 0, some 5], rfl, rfl, ?_, ?_⟩ <;> repeat' (first | exact trivial | exact rfl | exact Iff.rfl | apply And.intro)
theorem s242os (S : List Int) (p : List Smp) (hS : TipOK S) (hp : PtsOK p) : HSpec Tryz.prog 242 [.one (.ifc 378), .one (.ptr 0 0), .one (.ptr 1 0)] [bPs p, .box 278 [.fn 164 [(2, 0)]], bTip S] (fun r m' => r = .x (.one (.own 3)) ∧ m' = [some (bPs p), some (.box 278 [.fn 164 [(2, 0)]]), some (bTip S), some (rowL (dilL S (eroL S (outs p))))]) := by
  have lp := smpA_len p
  have hl := hp.len
  have lH := outs_len p
  have hHB := outs_bd hp
  have lE : (dilL S (eroL S (outs p))).length = p.length := by rw [dilL_len, eroL_len, lH]
  have bE : inB (dilL S (eroL S (outs p))) := dil_bd hS (ero_bd hS hHB)
  obtain ⟨Z, hZ⟩ : ∃ Z, Z = (dilL S (eroL S (outs p))) := ⟨_, rfl⟩
  rw [← hZ] at lE bE
  have lZ := i64s_len Z
  refine spec_of pMix (O := []) Tryz.func242 (c := bodyOf Tryz.f242) rfl (by kernel_rfl) (by kernel_rfl) Tryz.ntmps242 (res := [.tmp 4]) (by kernel_rfl) ?_
  repeat' ((conv => whnf); first | refine Rng.g ?_ | refine Ob.g ?_ | refine Ob.e ?_ | refine Ob.m ?_ | refine Ob.mk (Nat.le_of_ble_eq_true rfl) ?_ | refine JoinVC.on ?_ | refine Nils.mk (fun h => ?_) ?_ | refine Val.t ?_ | refine Val.d ?_ | refine Mm.mk ?_ | (refine Br.mk (fun h => ?_) (fun h => ?_) <;> first | (exfalso; omega; done) | (exfalso; simp at h; done) | skip))
  refine LoopVC.mk (fun n st => ∃ (i : Nat), i ≤ p.length ∧ n = p.length - i ∧ st = ⟨3, envA 49 [(0, .x (.one (.ifc 378))), (1, .x (.one (.ptr 0 0))), (2, .x (.one (.ptr 1 0))), (5, .x (.one (.mth 378 "deadwax/play.of"))), (6, .x (.one (.mth 378 "deadwax/play.back"))), (7, .x (.one (.own 3))), (17, .x (lS p)), (18, .int .i64 (p.length : Int)), (19, .int .i64 (i : Int))], [some (bPs p), some (.box 278 [.fn 164 [(2, 0)]]), some (bTip S), some (rowL ((outs p).take i))]⟩) _ _ ⟨0, Nat.zero_le _, rfl, rfl⟩ ?_ ?_
  · refine ⟨[some 0, some 1, some 2, none], rfl, rfl, ?_, ?_⟩ <;> repeat' (first | exact trivial | exact rfl | exact Iff.rfl | apply And.intro)
    all_goals exact congrArg Int.ofNat lp
  rintro n _ ⟨i, hi, hn, rfl⟩
  by_cases hi' : i < p.length
  · have e1 : (i64s ((outs p).take i)).length = i := by rw [i64s_len, List.length_take]; omega
    have g0 : rI (smpA p) (i : Int).toNat 0 = (p.getD i s0).l := by rw [Int.toNat_natCast]; exact smpA_l p i
    have g1 : rI (smpA p) (i : Int).toNat (0 + 1) = (p.getD i s0).r := by rw [Int.toNat_natCast]; exact smpA_r p i
    have hed := hp.each i hi'
    unfold edgeP at hed
    have u1 := takeL_snoc (outs p) i (by omega)
    rw [outs_get p i hi'] at u1
    skip
    have c1 : PSpec Tryz.prog 400 [.agg [], smpX p i] (.x (I ((p.getD i s0).r))) := smpX_eq p i ▸ s400 (p.getD i s0)
    repeat' ((conv => whnf); first | refine Mth.mk _ m_ou_of ?_ | refine Rng.g ?_ | refine Ob.g ?_ | refine Ob.e ?_ | refine Ob.m ?_ | refine Ob.mk (Nat.le_of_ble_eq_true rfl) ?_ | refine JoinVC.on ?_ | refine Nils.mk (fun h => ?_) ?_ | refine Val.t ?_ | refine Val.d ?_ | refine Mm.mk ?_ | refine CallVC.pure rfl (c1) ?_ | refine CallVC0.pure rfl (c1) ?_ | (refine Br.mk (fun h => ?_) (fun h => ?_) <;> first | (exfalso; omega; done) | (exfalso; simp at h; done) | skip))
    repeat refine Mm.mk ?_
    refine Ob.mk (by simp only [eb2, e1, List.length_cons, List.length_nil]; omega) ?_
    repeat' ((conv => whnf); first | rw [u1] | refine Rng.g ?_ | refine Ob.g ?_ | refine Ob.e ?_ | refine Ob.m ?_ | refine Ob.mk (Nat.le_of_ble_eq_true rfl) ?_ | refine JoinVC.on ?_ | refine Nils.mk (fun h => ?_) ?_ | refine Val.t ?_ | refine Val.d ?_ | refine Mm.mk ?_ | (refine Br.mk (fun h => ?_) (fun h => ?_) <;> first | (exfalso; omega; done) | (exfalso; simp at h; done) | skip))
    refine Back.mk (p.length - (i + 1)) _ (by omega) ⟨i + 1, by omega, rfl, rfl⟩ ?_
    refine ⟨[some 0, some 1, some 2, some 6], rfl, rfl, ?_, ?_⟩ <;> repeat' (first | exact trivial | exact rfl | exact Iff.rfl | apply And.intro)
  have ei : i = p.length := by omega
  subst ei
  rw [show (outs p).take p.length = outs p from List.take_of_length_le (by omega)]
  repeat' ((conv => whnf); first | refine Rng.g ?_ | refine Ob.g ?_ | refine Ob.e ?_ | refine Ob.m ?_ | refine Ob.mk (Nat.le_of_ble_eq_true rfl) ?_ | refine JoinVC.on ?_ | refine Nils.mk (fun h => ?_) ?_ | refine Val.t ?_ | refine Val.d ?_ | refine Mm.mk ?_ | (refine Br.mk (fun h => ?_) (fun h => ?_) <;> first | (exfalso; omega; done) | (exfalso; simp at h; done) | skip))
  conv => whnf
  refine CallVC.mk [2, 3] _ _ _ rfl rfl rfl (s164 S (outs p) hS (by omega) hHB) (fun r m' h' => ?_)
  obtain ⟨rfl, rfl⟩ := h'
  conv => whnf
  rw [← hZ]
  repeat' ((conv => whnf); first | refine Rng.g ?_ | refine Ob.g ?_ | refine Ob.e ?_ | refine Ob.m ?_ | refine Ob.mk (Nat.le_of_ble_eq_true rfl) ?_ | refine JoinVC.on ?_ | refine Nils.mk (fun h => ?_) ?_ | refine Val.t ?_ | refine Val.d ?_ | refine Mm.mk ?_ | (refine Br.mk (fun h => ?_) (fun h => ?_) <;> first | (exfalso; omega; done) | (exfalso; simp at h; done) | skip))
  refine LoopVC.mk (fun n st => ∃ (i : Nat), i ≤ p.length ∧ n = p.length - i ∧ st = ⟨3, envA 49 [(0, .x (.one (.ifc 378))), (1, .x (.one (.ptr 0 0))), (2, .x (.one (.ptr 1 0))), (6, .x (.one (.mth 378 "deadwax/play.back"))), (7, .x (.one (.own 3))), (34, .int .i64 (p.length : Int)), (35, .int .i64 (i : Int))], [some (bPs p), some (.box 278 [.fn 164 [(2, 0)]]), some (bTip S), some (rowL (Z))]⟩) _ _ ⟨0, Nat.zero_le _, rfl, rfl⟩ ?_ ?_
  · refine ⟨[some 0, some 1, some 2, some 4], rfl, rfl, ?_, ?_⟩ <;> repeat' (first | exact trivial | exact rfl | exact Iff.rfl | apply And.intro)
    all_goals first | (exact congrArg Int.ofNat (lZ.trans lE)) | (rfl)
  rintro n _ ⟨i, hi, hn, rfl⟩
  have lM : (i64s (Z)).length = p.length := by rw [i64s_len, lE]
  by_cases hi' : i < p.length
  · have g0 : rI (i64s (Z)) (i : Int).toNat 0 = Z.getD i 0 := by rw [Int.toNat_natCast, i64s_get]
    have hb := bE i
    have u1 := same_upd Z i (by omega)
    have c1 := s399 (Z.getD i 0)
    repeat' ((conv => whnf); first | rw [g0] | rw [u1] | refine Mth.mk _ m_ou_bk ?_ | refine Rng.g ?_ | refine Ob.g ?_ | refine Ob.e ?_ | refine Ob.m ?_ | refine Ob.mk (Nat.le_of_ble_eq_true rfl) ?_ | refine JoinVC.on ?_ | refine Nils.mk (fun h => ?_) ?_ | refine Val.t ?_ | refine Val.d ?_ | refine Mm.mk ?_ | refine CallVC.pure rfl (c1) ?_ | refine CallVC0.pure rfl (c1) ?_ | (refine Br.mk (fun h => ?_) (fun h => ?_) <;> first | (exfalso; omega; done) | (exfalso; simp at h; done) | skip))
    refine Back.mk (p.length - (i + 1)) _ (by omega) ⟨i + 1, by omega, rfl, rfl⟩ ?_
    refine ⟨[some 0, some 1, some 2, some 3], rfl, rfl, ?_, ?_⟩ <;> repeat' (first | exact trivial | exact rfl | exact Iff.rfl | apply And.intro)
  have ei : i = p.length := by omega
  subst ei
  skip
  rw [hZ]
  repeat' ((conv => whnf); first | refine Rng.g ?_ | refine Ob.g ?_ | refine Ob.e ?_ | refine Ob.m ?_ | refine Ob.mk (Nat.le_of_ble_eq_true rfl) ?_ | refine JoinVC.on ?_ | refine Nils.mk (fun h => ?_) ?_ | refine Val.t ?_ | refine Val.d ?_ | refine Mm.mk ?_ | (refine Br.mk (fun h => ?_) (fun h => ?_) <;> first | (exfalso; omega; done) | (exfalso; simp at h; done) | skip))
  repeat refine Mm.mk ?_
  conv => whnf
  refine EndVC.mk _ rfl _ _ (⟨rfl, rfl⟩) ?_
  refine ⟨[some 0, some 1, some 2, some 3], rfl, rfl, ?_, ?_⟩ <;> repeat' (first | exact trivial | exact rfl | exact Iff.rfl | apply And.intro)
theorem s242is (S : List Int) (p : List Smp) (hS : TipOK S) (hp : PtsOK p) : HSpec Tryz.prog 242 [.one (.ifc 379), .one (.ptr 0 0), .one (.ptr 1 0)] [bPs p, .box 278 [.fn 164 [(2, 0)]], bTip S] (fun r m' => r = .x (.one (.own 3)) ∧ m' = [some (bPs p), some (.box 278 [.fn 164 [(2, 0)]]), some (bTip S), some (rowL (negL (dilL S (eroL S (inns p)))))]) := by
  have lp := smpA_len p
  have hl := hp.len
  have lH := inns_len p
  have hHB := inns_bd hp
  have lE : (dilL S (eroL S (inns p))).length = p.length := by rw [dilL_len, eroL_len, lH]
  have bE : inB (dilL S (eroL S (inns p))) := dil_bd hS (ero_bd hS hHB)
  obtain ⟨Z, hZ⟩ : ∃ Z, Z = (dilL S (eroL S (inns p))) := ⟨_, rfl⟩
  rw [← hZ] at lE bE
  have lZ := i64s_len Z
  refine spec_of pMix (O := []) Tryz.func242 (c := bodyOf Tryz.f242) rfl (by kernel_rfl) (by kernel_rfl) Tryz.ntmps242 (res := [.tmp 4]) (by kernel_rfl) ?_
  repeat' ((conv => whnf); first | refine Rng.g ?_ | refine Ob.g ?_ | refine Ob.e ?_ | refine Ob.m ?_ | refine Ob.mk (Nat.le_of_ble_eq_true rfl) ?_ | refine JoinVC.on ?_ | refine Nils.mk (fun h => ?_) ?_ | refine Val.t ?_ | refine Val.d ?_ | refine Mm.mk ?_ | (refine Br.mk (fun h => ?_) (fun h => ?_) <;> first | (exfalso; omega; done) | (exfalso; simp at h; done) | skip))
  refine LoopVC.mk (fun n st => ∃ (i : Nat), i ≤ p.length ∧ n = p.length - i ∧ st = ⟨3, envA 49 [(0, .x (.one (.ifc 379))), (1, .x (.one (.ptr 0 0))), (2, .x (.one (.ptr 1 0))), (5, .x (.one (.mth 379 "deadwax/play.of"))), (6, .x (.one (.mth 379 "deadwax/play.back"))), (7, .x (.one (.own 3))), (17, .x (lS p)), (18, .int .i64 (p.length : Int)), (19, .int .i64 (i : Int))], [some (bPs p), some (.box 278 [.fn 164 [(2, 0)]]), some (bTip S), some (rowL ((inns p).take i))]⟩) _ _ ⟨0, Nat.zero_le _, rfl, rfl⟩ ?_ ?_
  · refine ⟨[some 0, some 1, some 2, none], rfl, rfl, ?_, ?_⟩ <;> repeat' (first | exact trivial | exact rfl | exact Iff.rfl | apply And.intro)
    all_goals exact congrArg Int.ofNat lp
  rintro n _ ⟨i, hi, hn, rfl⟩
  by_cases hi' : i < p.length
  · have e1 : (i64s ((inns p).take i)).length = i := by rw [i64s_len, List.length_take]; omega
    have g0 : rI (smpA p) (i : Int).toNat 0 = (p.getD i s0).l := by rw [Int.toNat_natCast]; exact smpA_l p i
    have g1 : rI (smpA p) (i : Int).toNat (0 + 1) = (p.getD i s0).r := by rw [Int.toNat_natCast]; exact smpA_r p i
    have hed := hp.each i hi'
    unfold edgeP at hed
    have u1 := takeL_snoc (inns p) i (by omega)
    rw [inns_get p i hi'] at u1
    rw [← Int.zero_sub] at u1
    have c1 : PSpec Tryz.prog 402 [.agg [], smpX p i] (.x (I (0 - (p.getD i s0).l))) := smpX_eq p i ▸ s402 (p.getD i s0) (by omega)
    repeat' ((conv => whnf); first | refine Mth.mk _ m_in_of ?_ | refine Rng.g ?_ | refine Ob.g ?_ | refine Ob.e ?_ | refine Ob.m ?_ | refine Ob.mk (Nat.le_of_ble_eq_true rfl) ?_ | refine JoinVC.on ?_ | refine Nils.mk (fun h => ?_) ?_ | refine Val.t ?_ | refine Val.d ?_ | refine Mm.mk ?_ | refine CallVC.pure rfl (c1) ?_ | refine CallVC0.pure rfl (c1) ?_ | (refine Br.mk (fun h => ?_) (fun h => ?_) <;> first | (exfalso; omega; done) | (exfalso; simp at h; done) | skip))
    repeat refine Mm.mk ?_
    refine Ob.mk (by simp only [eb2, e1, List.length_cons, List.length_nil]; omega) ?_
    repeat' ((conv => whnf); first | rw [u1] | refine Rng.g ?_ | refine Ob.g ?_ | refine Ob.e ?_ | refine Ob.m ?_ | refine Ob.mk (Nat.le_of_ble_eq_true rfl) ?_ | refine JoinVC.on ?_ | refine Nils.mk (fun h => ?_) ?_ | refine Val.t ?_ | refine Val.d ?_ | refine Mm.mk ?_ | (refine Br.mk (fun h => ?_) (fun h => ?_) <;> first | (exfalso; omega; done) | (exfalso; simp at h; done) | skip))
    refine Back.mk (p.length - (i + 1)) _ (by omega) ⟨i + 1, by omega, rfl, rfl⟩ ?_
    refine ⟨[some 0, some 1, some 2, some 6], rfl, rfl, ?_, ?_⟩ <;> repeat' (first | exact trivial | exact rfl | exact Iff.rfl | apply And.intro)
  have ei : i = p.length := by omega
  subst ei
  rw [show (inns p).take p.length = inns p from List.take_of_length_le (by omega)]
  repeat' ((conv => whnf); first | refine Rng.g ?_ | refine Ob.g ?_ | refine Ob.e ?_ | refine Ob.m ?_ | refine Ob.mk (Nat.le_of_ble_eq_true rfl) ?_ | refine JoinVC.on ?_ | refine Nils.mk (fun h => ?_) ?_ | refine Val.t ?_ | refine Val.d ?_ | refine Mm.mk ?_ | (refine Br.mk (fun h => ?_) (fun h => ?_) <;> first | (exfalso; omega; done) | (exfalso; simp at h; done) | skip))
  conv => whnf
  refine CallVC.mk [2, 3] _ _ _ rfl rfl rfl (s164 S (inns p) hS (by omega) hHB) (fun r m' h' => ?_)
  obtain ⟨rfl, rfl⟩ := h'
  conv => whnf
  rw [← hZ]
  repeat' ((conv => whnf); first | refine Rng.g ?_ | refine Ob.g ?_ | refine Ob.e ?_ | refine Ob.m ?_ | refine Ob.mk (Nat.le_of_ble_eq_true rfl) ?_ | refine JoinVC.on ?_ | refine Nils.mk (fun h => ?_) ?_ | refine Val.t ?_ | refine Val.d ?_ | refine Mm.mk ?_ | (refine Br.mk (fun h => ?_) (fun h => ?_) <;> first | (exfalso; omega; done) | (exfalso; simp at h; done) | skip))
  refine LoopVC.mk (fun n st => ∃ (i : Nat), i ≤ p.length ∧ n = p.length - i ∧ st = ⟨3, envA 49 [(0, .x (.one (.ifc 379))), (1, .x (.one (.ptr 0 0))), (2, .x (.one (.ptr 1 0))), (6, .x (.one (.mth 379 "deadwax/play.back"))), (7, .x (.one (.own 3))), (34, .int .i64 (p.length : Int)), (35, .int .i64 (i : Int))], [some (bPs p), some (.box 278 [.fn 164 [(2, 0)]]), some (bTip S), some (rowL (mixW Z i))]⟩) _ _ ⟨0, Nat.zero_le _, rfl, rfl⟩ ?_ ?_
  · refine ⟨[some 0, some 1, some 2, some 4], rfl, rfl, ?_, ?_⟩ <;> repeat' (first | exact trivial | exact rfl | exact Iff.rfl | apply And.intro)
    all_goals first | (exact congrArg Int.ofNat (lZ.trans lE)) | (exact (congrArg i64s (mixW_0 Z)).symm)
  rintro n _ ⟨i, hi, hn, rfl⟩
  have lM : (i64s (mixW Z i)).length = p.length := by rw [i64s_len, mixW_len, lE]
  by_cases hi' : i < p.length
  · have g0 : rI (i64s (mixW Z i)) (i : Int).toNat 0 = Z.getD i 0 := by rw [Int.toNat_natCast, i64s_get]; rw [mixW_at _ _ _ (by omega), if_neg (Nat.lt_irrefl i)]
    have hb := bE i
    have u1 := mixW_upd Z i (by omega)
    have c1 := s401 (Z.getD i 0) (by omega)
    repeat' ((conv => whnf); first | rw [g0] | rw [u1] | refine Mth.mk _ m_in_bk ?_ | refine Rng.g ?_ | refine Ob.g ?_ | refine Ob.e ?_ | refine Ob.m ?_ | refine Ob.mk (Nat.le_of_ble_eq_true rfl) ?_ | refine JoinVC.on ?_ | refine Nils.mk (fun h => ?_) ?_ | refine Val.t ?_ | refine Val.d ?_ | refine Mm.mk ?_ | refine CallVC.pure rfl (c1) ?_ | refine CallVC0.pure rfl (c1) ?_ | (refine Br.mk (fun h => ?_) (fun h => ?_) <;> first | (exfalso; omega; done) | (exfalso; simp at h; done) | skip))
    refine Back.mk (p.length - (i + 1)) _ (by omega) ⟨i + 1, by omega, rfl, rfl⟩ ?_
    refine ⟨[some 0, some 1, some 2, some 3], rfl, rfl, ?_, ?_⟩ <;> repeat' (first | exact trivial | exact rfl | exact Iff.rfl | apply And.intro)
  have ei : i = p.length := by omega
  subst ei
  rw [show mixW Z p.length = negL Z by rw [← lE]; exact mixW_n Z]
  rw [hZ]
  repeat' ((conv => whnf); first | refine Rng.g ?_ | refine Ob.g ?_ | refine Ob.e ?_ | refine Ob.m ?_ | refine Ob.mk (Nat.le_of_ble_eq_true rfl) ?_ | refine JoinVC.on ?_ | refine Nils.mk (fun h => ?_) ?_ | refine Val.t ?_ | refine Val.d ?_ | refine Mm.mk ?_ | (refine Br.mk (fun h => ?_) (fun h => ?_) <;> first | (exfalso; omega; done) | (exfalso; simp at h; done) | skip))
  repeat refine Mm.mk ?_
  conv => whnf
  refine EndVC.mk _ rfl _ _ (⟨rfl, rfl⟩) ?_
  refine ⟨[some 0, some 1, some 2, some 3], rfl, rfl, ?_, ?_⟩ <;> repeat' (first | exact trivial | exact rfl | exact Iff.rfl | apply And.intro)
theorem s163s (S : List Int) (p : List Smp) (hS : TipOK S) (hp : PtsOK p) : HSpec Tryz.prog 163 [lS p, .one (.fn 164 [(0, 0)])] [bTip S] (fun r m' => r = .x (.one (.own 1)) ∧ m' = [some (bTip S), some (rowP (sweepF S p))]) := by
  have lp := smpA_len p
  have hl := hp.len
  obtain ⟨O, hO⟩ : ∃ O, O = dilL S (eroL S (outs p)) := ⟨_, rfl⟩
  obtain ⟨N, hN⟩ : ∃ N, N = dilL S (eroL S (inns p)) := ⟨_, rfl⟩
  have lO : O.length = p.length := by rw [hO, dilL_len, eroL_len, outs_len]
  have lN : N.length = p.length := by rw [hN, dilL_len, eroL_len, inns_len]
  have bO : inB O := by rw [hO]; have hHB := outs_bd hp; exact dil_bd hS (ero_bd hS hHB)
  have bN : inB N := by rw [hN]; have hHB := inns_bd hp; exact dil_bd hS (ero_bd hS hHB)
  have ln := negL_len N
  have l1 := i64s_len O
  have l2 := i64s_len (negL N)
  have eW : sweepF S p = wallF O N p.length := by rw [hO, hN]; rfl
  rw [eW]
  refine spec_of pMix (O := [(7, ([], [⟨0, [], []⟩, ⟨1, [], []⟩, ⟨2, [], []⟩, ⟨3, [], []⟩, ⟨4, [], []⟩, ⟨5, [], []⟩, ⟨6, [], []⟩, ⟨7, [], []⟩, ⟨8, [], []⟩, ⟨9, [], [10]⟩, ⟨10, [], []⟩, ⟨11, [], []⟩, ⟨12, [], []⟩]))]) Tryz.func163 (c := bodyOf Tryz.f163) rfl (by kernel_rfl) (by kernel_rfl) Tryz.ntmps163 (res := [.tmp 4]) (by kernel_rfl) ?_
  repeat' ((conv => whnf); first | refine Rng.g ?_ | refine Ob.g ?_ | refine Ob.e ?_ | refine Ob.m ?_ | refine Ob.mk (Nat.le_of_ble_eq_true rfl) ?_ | refine JoinVC.on ?_ | refine Nils.mk (fun h => ?_) ?_ | refine Val.t ?_ | refine Val.d ?_ | refine Mm.mk ?_ | (refine Br.mk (fun h => ?_) (fun h => ?_) <;> first | (exfalso; omega; done) | (exfalso; simp at h; done) | skip))
  conv => whnf
  refine CallVC.mk [1, 2, 0] _ _ _ rfl rfl rfl (s242os S p hS hp) (fun r m' h' => ?_)
  obtain ⟨rfl, rfl⟩ := h'
  conv => whnf
  rw [← hO]
  repeat' ((conv => whnf); first | refine Rng.g ?_ | refine Ob.g ?_ | refine Ob.e ?_ | refine Ob.m ?_ | refine Ob.mk (Nat.le_of_ble_eq_true rfl) ?_ | refine JoinVC.on ?_ | refine Nils.mk (fun h => ?_) ?_ | refine Val.t ?_ | refine Val.d ?_ | refine Mm.mk ?_ | (refine Br.mk (fun h => ?_) (fun h => ?_) <;> first | (exfalso; omega; done) | (exfalso; simp at h; done) | skip))
  conv => whnf
  refine CallVC.mk [1, 2, 0] _ _ _ rfl rfl rfl (s242is S p hS hp) (fun r m' h' => ?_)
  obtain ⟨rfl, rfl⟩ := h'
  conv => whnf
  rw [← hN]
  repeat' ((conv => whnf); first | refine Rng.g ?_ | refine Ob.g ?_ | refine Ob.e ?_ | refine Ob.m ?_ | refine Ob.mk (Nat.le_of_ble_eq_true rfl) ?_ | refine JoinVC.on ?_ | refine Nils.mk (fun h => ?_) ?_ | refine Val.t ?_ | refine Val.d ?_ | refine Mm.mk ?_ | (refine Br.mk (fun h => ?_) (fun h => ?_) <;> first | (exfalso; omega; done) | (exfalso; simp at h; done) | skip))
  refine LoopVC.mk (fun n st => ∃ (i : Nat), i ≤ p.length ∧ n = p.length - i ∧ st = ⟨1, envA 38 [(2, .x (.one (.ptr 1 0))), (3, .x (.one (.ptr 2 0))), (6, .x (.one (.own 3))), (7, .x (.one (.own 4))), (8, .x (.one (.own 5))), (20, .int .i64 (p.length : Int)), (21, .int .i64 (i : Int))], [some (bTip S), some (bPs p), some (.box 278 [.fn 164 [(0, 0)]]), some (rowL O), some (rowL (negL N)), some (rowP ((wallF O N p.length).take i))]⟩) _ _ ⟨0, Nat.zero_le _, rfl, rfl⟩ ?_ ?_
  · refine ⟨[some 0, some 1, some 2, some 3, some 4, none], rfl, rfl, ?_, ?_⟩ <;> repeat' (first | exact trivial | exact rfl | exact Iff.rfl | apply And.intro)
    all_goals exact congrArg Int.ofNat lp
  rintro n _ ⟨i, hi, hn, rfl⟩
  by_cases hi' : i < p.length
  · have e1 : (smpA ((wallF O N p.length).take i)).length = i := by rw [smpA_len, List.length_take, wallF_len]; omega
    have g0 : rI (i64s O) (i : Int).toNat 0 = O.getD i 0 := by rw [Int.toNat_natCast, i64s_get]
    have g1 : rI (i64s (negL N)) (i : Int).toNat 0 = -N.getD i 0 := by rw [Int.toNat_natCast, i64s_get, negL_get _ _ (by omega), Int.zero_sub]
    have u1 := wall_take O N p.length i hi'
    repeat' ((conv => whnf); first | rw [g0] | rw [g1] | refine Rng.g ?_ | refine Ob.g ?_ | refine Ob.e ?_ | refine Ob.m ?_ | refine Ob.mk (Nat.le_of_ble_eq_true rfl) ?_ | refine JoinVC.on ?_ | refine Nils.mk (fun h => ?_) ?_ | refine Val.t ?_ | refine Val.d ?_ | refine Mm.mk ?_ | (refine Br.mk (fun h => ?_) (fun h => ?_) <;> first | (exfalso; omega; done) | (exfalso; simp at h; done) | skip))
    repeat refine Mm.mk ?_
    refine Ob.mk (by simp only [eb51, e1, List.length_cons, List.length_nil]; omega) ?_
    repeat' ((conv => whnf); first | rw [g0] | rw [g1] | rw [u1] | refine Rng.g ?_ | refine Ob.g ?_ | refine Ob.e ?_ | refine Ob.m ?_ | refine Ob.mk (Nat.le_of_ble_eq_true rfl) ?_ | refine JoinVC.on ?_ | refine Nils.mk (fun h => ?_) ?_ | refine Val.t ?_ | refine Val.d ?_ | refine Mm.mk ?_ | (refine Br.mk (fun h => ?_) (fun h => ?_) <;> first | (exfalso; omega; done) | (exfalso; simp at h; done) | skip))
    refine Back.mk (p.length - (i + 1)) _ (by omega) ⟨i + 1, by omega, rfl, rfl⟩ ?_
    refine ⟨[some 0, some 1, some 2, some 3, some 4, some 7], rfl, rfl, ?_, ?_⟩ <;> repeat' (first | exact trivial | exact rfl | exact Iff.rfl | apply And.intro)
  have ei : i = p.length := by omega
  subst ei
  rw [show (wallF O N p.length).take p.length = wallF O N p.length from List.take_of_length_le (by rw [wallF_len]; omega)]
  repeat' ((conv => whnf); first | refine Rng.g ?_ | refine Ob.g ?_ | refine Ob.e ?_ | refine Ob.m ?_ | refine Ob.mk (Nat.le_of_ble_eq_true rfl) ?_ | refine JoinVC.on ?_ | refine Nils.mk (fun h => ?_) ?_ | refine Val.t ?_ | refine Val.d ?_ | refine Mm.mk ?_ | (refine Br.mk (fun h => ?_) (fun h => ?_) <;> first | (exfalso; omega; done) | (exfalso; simp at h; done) | skip))
  repeat refine Mm.mk ?_
  conv => whnf
  refine EndVC.mk _ rfl _ _ (⟨rfl, rfl⟩) ?_
  refine ⟨[some 0, some 5], rfl, rfl, ?_, ?_⟩ <;> repeat' (first | exact trivial | exact rfl | exact Iff.rfl | apply And.intro)
theorem s166 (S : List Int) (p : List Smp) (hS : TipOK S) (hp : PtsOK p) : HSpec Tryz.prog 166 [tipX S, lS p] [] (fun r m' => r = .x (.one (.own 0)) ∧ m' = [some (rowP (readF S p))]) := by
  refine spec_of pMix (O := []) Tryz.func166 (c := bodyOf Tryz.f166) rfl (by kernel_rfl) (by kernel_rfl) Tryz.ntmps166 (res := [.tmp 4]) (by kernel_rfl) ?_
  repeat' ((conv => whnf); first | refine Rng.g ?_ | refine Ob.g ?_ | refine Ob.e ?_ | refine Ob.m ?_ | refine Ob.mk (Nat.le_of_ble_eq_true rfl) ?_ | refine JoinVC.on ?_ | refine Nils.mk (fun h => ?_) ?_ | refine Val.t ?_ | refine Val.d ?_ | refine Mm.mk ?_ | (refine Br.mk (fun h => ?_) (fun h => ?_) <;> first | (exfalso; omega; done) | (exfalso; simp at h; done) | skip))
  conv => whnf
  refine CallVC.mk [0] _ _ _ rfl rfl rfl (s163r S p hS hp) (fun r m' h' => ?_)
  obtain ⟨rfl, rfl⟩ := h'
  conv => whnf
  repeat' ((conv => whnf); first | refine Rng.g ?_ | refine Ob.g ?_ | refine Ob.e ?_ | refine Ob.m ?_ | refine Ob.mk (Nat.le_of_ble_eq_true rfl) ?_ | refine JoinVC.on ?_ | refine Nils.mk (fun h => ?_) ?_ | refine Val.t ?_ | refine Val.d ?_ | refine Mm.mk ?_ | (refine Br.mk (fun h => ?_) (fun h => ?_) <;> first | (exfalso; omega; done) | (exfalso; simp at h; done) | skip))
  repeat refine Mm.mk ?_
  conv => whnf
  refine EndVC.mk _ rfl _ _ (⟨rfl, rfl⟩) ?_
  refine ⟨[some 1], rfl, rfl, ?_, ?_⟩ <;> repeat' (first | exact trivial | exact rfl | exact Iff.rfl | apply And.intro)
/-- What a tip reads. -/
theorem s80 (S : List Int) (p : List Smp) (hS : TipOK S) (hp : PtsOK p) : HSpec Tryz.prog 80 [tipX S, lS p] [] (fun r m' => r = .tup [lS (readF S p), I 0] ∧ m' = []) := by
  refine spec_of pMix (O := []) Tryz.func80 (c := bodyOf Tryz.f80) rfl (by kernel_rfl) (by kernel_rfl) Tryz.ntmps80 (res := [.tmp 4, .tmp 5]) (by kernel_rfl) ?_
  repeat' ((conv => whnf); first | refine Rng.g ?_ | refine Ob.g ?_ | refine Ob.e ?_ | refine Ob.m ?_ | refine Ob.mk (Nat.le_of_ble_eq_true rfl) ?_ | refine JoinVC.on ?_ | refine Nils.mk (fun h => ?_) ?_ | refine Val.t ?_ | refine Val.d ?_ | refine Mm.mk ?_ | (refine Br.mk (fun h => ?_) (fun h => ?_) <;> first | (exfalso; omega; done) | (exfalso; simp at h; done) | skip))
  conv => whnf
  refine CallVC.mk [] _ _ _ rfl rfl rfl (s158 S p) (fun r m' h' => ?_)
  obtain ⟨e, rfl, rfl, he⟩ := h'
  conv => whnf
  cases he.2 ⟨hS, hp⟩
  repeat' ((conv => whnf); first | refine Rng.g ?_ | refine Ob.g ?_ | refine Ob.e ?_ | refine Ob.m ?_ | refine Ob.mk (Nat.le_of_ble_eq_true rfl) ?_ | refine JoinVC.on ?_ | refine Nils.mk (fun h => ?_) ?_ | refine Val.t ?_ | refine Val.d ?_ | refine Mm.mk ?_ | (refine Br.mk (fun h => ?_) (fun h => ?_) <;> first | (exfalso; omega; done) | (exfalso; simp at h; done) | skip))
  conv => whnf
  refine CallVC.mk [] _ _ _ rfl rfl rfl (s166 S p hS hp) (fun r m' h' => ?_)
  obtain ⟨rfl, rfl⟩ := h'
  conv => whnf
  repeat' ((conv => whnf); first | refine Rng.g ?_ | refine Ob.g ?_ | refine Ob.e ?_ | refine Ob.m ?_ | refine Ob.mk (Nat.le_of_ble_eq_true rfl) ?_ | refine JoinVC.on ?_ | refine Nils.mk (fun h => ?_) ?_ | refine Val.t ?_ | refine Val.d ?_ | refine Mm.mk ?_ | (refine Br.mk (fun h => ?_) (fun h => ?_) <;> first | (exfalso; omega; done) | (exfalso; simp at h; done) | skip))
  repeat refine Mm.mk ?_
  conv => whnf
  refine EndVC.mk _ rfl _ _ (⟨rfl, rfl⟩) ?_
  refine ⟨[], rfl, rfl, ?_, ?_⟩ <;> repeat' (first | exact trivial | exact rfl | exact Iff.rfl | apply And.intro)
theorem s80o (S : List Int) (p : List Smp) (hS : TipOK S) (hp : PtsOK p) : HSpec Tryz.prog 80 [tipX S, lS p] [] (fun r m' => r = .tup [.one (.own 0), I 0] ∧ m' = [some (rowP (readF S p))]) := by
  refine spec_of pMix (O := []) Tryz.func80 (c := bodyOf Tryz.f80) rfl (by kernel_rfl) (by kernel_rfl) Tryz.ntmps80 (res := [.tmp 4, .tmp 5]) (by kernel_rfl) ?_
  repeat' ((conv => whnf); first | refine Rng.g ?_ | refine Ob.g ?_ | refine Ob.e ?_ | refine Ob.m ?_ | refine Ob.mk (Nat.le_of_ble_eq_true rfl) ?_ | refine JoinVC.on ?_ | refine Nils.mk (fun h => ?_) ?_ | refine Val.t ?_ | refine Val.d ?_ | refine Mm.mk ?_ | (refine Br.mk (fun h => ?_) (fun h => ?_) <;> first | (exfalso; omega; done) | (exfalso; simp at h; done) | skip))
  conv => whnf
  refine CallVC.mk [] _ _ _ rfl rfl rfl (s158 S p) (fun r m' h' => ?_)
  obtain ⟨e, rfl, rfl, he⟩ := h'
  conv => whnf
  cases he.2 ⟨hS, hp⟩
  repeat' ((conv => whnf); first | refine Rng.g ?_ | refine Ob.g ?_ | refine Ob.e ?_ | refine Ob.m ?_ | refine Ob.mk (Nat.le_of_ble_eq_true rfl) ?_ | refine JoinVC.on ?_ | refine Nils.mk (fun h => ?_) ?_ | refine Val.t ?_ | refine Val.d ?_ | refine Mm.mk ?_ | (refine Br.mk (fun h => ?_) (fun h => ?_) <;> first | (exfalso; omega; done) | (exfalso; simp at h; done) | skip))
  conv => whnf
  refine CallVC.mk [] _ _ _ rfl rfl rfl (s166 S p hS hp) (fun r m' h' => ?_)
  obtain ⟨rfl, rfl⟩ := h'
  conv => whnf
  repeat' ((conv => whnf); first | refine Rng.g ?_ | refine Ob.g ?_ | refine Ob.e ?_ | refine Ob.m ?_ | refine Ob.mk (Nat.le_of_ble_eq_true rfl) ?_ | refine JoinVC.on ?_ | refine Nils.mk (fun h => ?_) ?_ | refine Val.t ?_ | refine Val.d ?_ | refine Mm.mk ?_ | (refine Br.mk (fun h => ?_) (fun h => ?_) <;> first | (exfalso; omega; done) | (exfalso; simp at h; done) | skip))
  repeat refine Mm.mk ?_
  conv => whnf
  refine EndVC.mk _ rfl _ _ (⟨rfl, rfl⟩) ?_
  refine ⟨[some 1], rfl, rfl, ?_, ?_⟩ <;> repeat' (first | exact trivial | exact rfl | exact Iff.rfl | apply And.intro)
/-- What a tip sweeps. -/
theorem s79 (S : List Int) (p : List Smp) (hS : TipOK S) (hp : PtsOK p) : HSpec Tryz.prog 79 [tipX S, lS p] [] (fun r m' => r = .tup [lS (sweepF S p), I 0] ∧ m' = []) := by
  refine spec_of pMix (O := []) Tryz.func79 (c := bodyOf Tryz.f79) rfl (by kernel_rfl) (by kernel_rfl) Tryz.ntmps79 (res := [.tmp 4, .tmp 5]) (by kernel_rfl) ?_
  repeat' ((conv => whnf); first | refine Rng.g ?_ | refine Ob.g ?_ | refine Ob.e ?_ | refine Ob.m ?_ | refine Ob.mk (Nat.le_of_ble_eq_true rfl) ?_ | refine JoinVC.on ?_ | refine Nils.mk (fun h => ?_) ?_ | refine Val.t ?_ | refine Val.d ?_ | refine Mm.mk ?_ | (refine Br.mk (fun h => ?_) (fun h => ?_) <;> first | (exfalso; omega; done) | (exfalso; simp at h; done) | skip))
  conv => whnf
  refine CallVC.mk [] _ _ _ rfl rfl rfl (s158 S p) (fun r m' h' => ?_)
  obtain ⟨e, rfl, rfl, he⟩ := h'
  conv => whnf
  cases he.2 ⟨hS, hp⟩
  repeat' ((conv => whnf); first | refine Rng.g ?_ | refine Ob.g ?_ | refine Ob.e ?_ | refine Ob.m ?_ | refine Ob.mk (Nat.le_of_ble_eq_true rfl) ?_ | refine JoinVC.on ?_ | refine Nils.mk (fun h => ?_) ?_ | refine Val.t ?_ | refine Val.d ?_ | refine Mm.mk ?_ | (refine Br.mk (fun h => ?_) (fun h => ?_) <;> first | (exfalso; omega; done) | (exfalso; simp at h; done) | skip))
  conv => whnf
  refine CallVC.mk [0] _ _ _ rfl rfl rfl (s163s S p hS hp) (fun r m' h' => ?_)
  obtain ⟨rfl, rfl⟩ := h'
  conv => whnf
  repeat' ((conv => whnf); first | refine Rng.g ?_ | refine Ob.g ?_ | refine Ob.e ?_ | refine Ob.m ?_ | refine Ob.mk (Nat.le_of_ble_eq_true rfl) ?_ | refine JoinVC.on ?_ | refine Nils.mk (fun h => ?_) ?_ | refine Val.t ?_ | refine Val.d ?_ | refine Mm.mk ?_ | (refine Br.mk (fun h => ?_) (fun h => ?_) <;> first | (exfalso; omega; done) | (exfalso; simp at h; done) | skip))
  repeat refine Mm.mk ?_
  conv => whnf
  refine EndVC.mk _ rfl _ _ (⟨rfl, rfl⟩) ?_
  refine ⟨[], rfl, rfl, ?_, ?_⟩ <;> repeat' (first | exact trivial | exact rfl | exact Iff.rfl | apply And.intro)
end Go.Sx

namespace Go.Sx
open Go Go.Proofs
set_option maxRecDepth 10000
set_option maxHeartbeats 8000000
def S6 : List Int := [0, 2, 10]
def p6 : List Smp := [⟨-100, 100⟩, ⟨-100, 90⟩, ⟨-95, 100⟩]
theorem S6_ok : TipOK S6 := ⟨by decide, rfl, fun k hk => by
  have hc : k = 0 ∨ k = 1 ∨ k = 2 := by
    have : k < 3 := hk
    omega
  rcases hc with rfl | rfl | rfl <;> decide, fun k hk => by
  have hc : k = 0 ∨ k = 1 := by
    have : k + 1 < 3 := hk
    omega
  rcases hc with rfl | rfl <;> decide⟩
theorem p6_ok : PtsOK p6 := ⟨by decide, fun j hj => by
  have hc : j = 0 ∨ j = 1 ∨ j = 2 := by
    have : j < 3 := hj
    omega
  rcases hc with rfl | rfl | rfl <;> (unfold edgeP; decide)⟩
theorem s68 : PSpec Tryz.prog 68 [] (xP True) := by
  have hw := s57
  have e1 : rI (smpA (readF S6 p6)) (Int.toNat 1) 0 = -97 := (smpA_l _ 1).trans rfl
  have e2 : rI (smpA (readF S6 p6)) (Int.toNat 1) (0 + 1) = 90 := (smpA_r _ 1).trans rfl
  have lr : (smpA (readF S6 p6)).length = 3 := rfl
  refine spec_of pMix (O := []) Tryz.func68 (c := bodyOf Tryz.f68) rfl (by kernel_rfl) (by kernel_rfl) Tryz.ntmps68 (res := [.tmp 0]) (by kernel_rfl) ?_
  repeat' ((conv => whnf); first | refine Rng.g ?_ | refine Ob.g ?_ | refine Ob.e ?_ | refine Ob.m ?_ | refine Ob.mk (Nat.le_of_ble_eq_true rfl) ?_ | refine JoinVC.on ?_ | refine Nils.mk (fun h => ?_) ?_ | refine Val.t ?_ | refine Val.d ?_ | refine Mm.mk ?_ | (refine Br.mk (fun h => ?_) (fun h => ?_) <;> first | (exfalso; omega; done) | (exfalso; simp at h; done) | skip))
  conv => whnf
  refine CallVC.mk [] _ _ _ rfl rfl rfl (s80o S6 p6 S6_ok p6_ok) (fun r m' h' => ?_)
  obtain ⟨rfl, rfl⟩ := h'
  conv => whnf
  repeat' ((conv => whnf); first | refine Rng.g ?_ | refine Ob.g ?_ | refine Ob.e ?_ | refine Ob.m ?_ | refine Ob.mk (Nat.le_of_ble_eq_true rfl) ?_ | refine JoinVC.on ?_ | refine Nils.mk (fun h => ?_) ?_ | refine Val.t ?_ | refine Val.d ?_ | refine Mm.mk ?_ | (refine Br.mk (fun h => ?_) (fun h => ?_) <;> first | (exfalso; omega; done) | (exfalso; simp at h; done) | skip))
  conv => whnf
  refine CallVC.mk [] _ _ _ rfl rfl rfl (s69 p6) (fun r m' h' => ?_)
  cases h' with
  | bad e h he hr hm => exact absurd p6_ok h
  | few _ h hr hm => exact absurd h (by decide)
  | ok _ _ mn mx hn hx hr hm =>
    subst hr hm
    obtain ⟨j1, hj1, f1⟩ := hn.att
    obtain ⟨j2, hj2, f2⟩ := hx.att
    have z1 : j1 = 0 := by have : j1 < 1 := hj1; omega
    have z2 : j2 = 0 := by have : j2 < 1 := hj2; omega
    subst z1 z2
    have g1 : mn = 25 := f1.trans rfl
    have g2 : mx = 25 := f2.trans rfl
    subst g1 g2
    repeat' ((conv => whnf); first | rw [e1] | rw [e2] | rw [lr] | refine Rng.g ?_ | refine Ob.g ?_ | refine Ob.e ?_ | refine Ob.m ?_ | refine Ob.mk (Nat.le_of_ble_eq_true rfl) ?_ | refine JoinVC.on ?_ | refine Nils.mk (fun h => ?_) ?_ | refine Val.t ?_ | refine Val.d ?_ | refine Mm.mk ?_ | refine CallVC.pure rfl (hw) ?_ | refine CallVC0.pure rfl (hw) ?_ | (refine Br.mk (fun h => ?_) (fun h => ?_) <;> first | (exfalso; omega; done) | (exfalso; simp at h; done) | skip))
    repeat refine Mm.mk ?_
    refine EndVC.mk _ rfl _ _ ⟨rfl, rfl⟩ ?_
    refine ⟨[], rfl, rfl, ?_, ?_⟩ <;> repeat' (first | exact trivial | exact rfl | exact Iff.rfl | apply And.intro)
end Go.Sx

namespace Go.Sx
open Go Go.Proofs
set_option maxRecDepth 10000
set_option maxHeartbeats 8000000
theorem e19 : EntersF Tryz.prog 19 := enters_of Tryz.func19 (c := bodyOf Tryz.f19) (by kernel_rfl) rfl
theorem s78 (S : List Int) : HSpec Tryz.prog 78 [tipX S] [] (fun r m' => ∃ e, r = .x (I e) ∧ m' = [] ∧ (e = 0 ↔ TipOK S)) := by
  have ls := i64s_len S
  have hT := tipOK_iff S
  by_cases hl : S.length = 0 ∨ 64 < S.length
  · refine spec_of pMix (O := []) Tryz.func78 (c := bodyOf Tryz.f78) rfl (by kernel_rfl) (by kernel_rfl) Tryz.ntmps78 (res := [.tmp 2]) (by kernel_rfl) ?_
    repeat' ((conv => whnf); first | refine Rng.g ?_ | refine Ob.g ?_ | refine Ob.e ?_ | refine Ob.m ?_ | refine Ob.mk (Nat.le_of_ble_eq_true rfl) ?_ | refine JoinVC.on ?_ | refine Nils.mk (fun h => ?_) ?_ | refine Val.t ?_ | refine Val.d ?_ | refine Mm.mk ?_ | (refine Br.mk (fun h => ?_) (fun h => ?_) <;> first | (exfalso; omega; done) | (exfalso; simp at h; done) | skip))
    all_goals
      repeat refine Mm.mk ?_
      conv => whnf
      refine EndVC.mk _ rfl _ _ (⟨6, rfl, rfl, ⟨fun h => (by cases h), fun hC => (by have := hC.len; omega)⟩⟩) ?_
      refine ⟨[], rfl, rfl, ?_, ?_⟩ <;> repeat' (first | exact trivial | exact rfl | exact Iff.rfl | apply And.intro)
  refine spec_of pMix (O := []) Tryz.func78 (c := bodyOf Tryz.f78) rfl (by kernel_rfl) (by kernel_rfl) Tryz.ntmps78 (res := [.tmp 2]) (by kernel_rfl) ?_
  repeat' ((conv => whnf); first | refine Rng.g ?_ | refine Ob.g ?_ | refine Ob.e ?_ | refine Ob.m ?_ | refine Ob.mk (Nat.le_of_ble_eq_true rfl) ?_ | refine JoinVC.on ?_ | refine Nils.mk (fun h => ?_) ?_ | refine Val.t ?_ | refine Val.d ?_ | refine Mm.mk ?_ | (refine Br.mk (fun h => ?_) (fun h => ?_) <;> first | (exfalso; omega; done) | (exfalso; simp at h; done) | skip))
  refine LoopVC.mk (fun n st => ∃ (i : Nat), i ≤ S.length ∧ n = S.length - i ∧ tipN S i ∧ st = ⟨0, envA 54 [(1, .x (.one (.ptr 0 0))), (3, .int .i64 (S.length : Int)), (4, .int .i64 (i : Int))], [some (bTip S)]⟩) _ _ ⟨0, Nat.zero_le _, rfl, fun j hj => absurd hj (Nat.not_lt_zero j), rfl⟩ ?_ ?_
  · refine ⟨[some 0], rfl, rfl, ?_, ?_⟩ <;> repeat' (first | exact trivial | exact rfl | exact Iff.rfl | apply And.intro)
    all_goals exact congrArg Int.ofNat ls
  rintro n _ ⟨i, hi, hn, ht, rfl⟩
  have gx : rI (i64s S) (i : Int).toNat 0 = S.getD i 0 := by rw [Int.toNat_natCast, i64s_get]
  have t1 : ((i : Int) - 1).toNat = i - 1 := by omega
  have gy : rI (i64s S) ((i : Int) - 1).toNat 0 = S.getD (i - 1) 0 := by rw [t1, i64s_get]
  have gz : rI (i64s S) (Int.toNat 0) 0 = S.getD 0 0 := i64s_get S 0
  by_cases hi' : i < S.length
  · have hbad : (S.getD i 0 < 0 ∨ (0 < i ∧ S.getD i 0 < S.getD (i - 1) 0) ∨ 4194304 < S.getD i 0 ∨ (i = 0 ∧ S.getD 0 0 ≠ 0)) → ¬ TipOK S := fun hb hC => by
      have h1 := (hT.1 hC).2 i hi'
      rcases hb with hb | hb | hb | hb
      · omega
      · have := h1.2.2 hb.1
        omega
      · omega
      · obtain ⟨rfl, hb⟩ := hb
        exact hb (h1.2.1 rfl)
    have hgood : ¬ ((0 < i ∧ S.getD i 0 < S.getD (i - 1) 0) ∨ 4194304 < S.getD i 0 ∨ (i = 0 ∧ S.getD 0 0 ≠ 0)) → tipN S (i + 1) := fun hb j hj => by
      rcases Nat.lt_succ_iff_lt_or_eq.1 hj with h' | rfl
      · exact ht j h'
      · rcases Nat.eq_zero_or_pos j with h0 | h0
        · subst h0
          have : S.getD 0 0 = 0 := Classical.byContradiction fun hc => hb (.inr (.inr ⟨rfl, hc⟩))
          refine ⟨by omega, fun _ => this, fun h => absurd h (Nat.lt_irrefl 0)⟩
        · have h2 := (ht (j - 1) (by omega)).1
          have h3 : ¬ S.getD j 0 < S.getD (j - 1) 0 := fun hc => hb (.inl ⟨h0, hc⟩)
          have h4 : ¬ 4194304 < S.getD j 0 := fun hc => hb (.inr (.inl hc))
          exact ⟨by omega, fun h => by omega, fun _ => by omega⟩
    by_cases hb : (0 < i ∧ S.getD i 0 < S.getD (i - 1) 0) ∨ 4194304 < S.getD i 0 ∨ (i = 0 ∧ S.getD 0 0 ≠ 0)
    · have hN := hbad (.inr hb)
      repeat' ((conv => whnf); first | rw [gx] | rw [gy] | rw [gz] | refine Rng.g ?_ | refine Ob.g ?_ | refine Ob.e ?_ | refine Ob.m ?_ | refine Ob.mk (Nat.le_of_ble_eq_true rfl) ?_ | refine JoinVC.on ?_ | refine Nils.mk (fun h => ?_) ?_ | refine Val.t ?_ | refine Val.d ?_ | refine Mm.mk ?_ | (refine Br.mk (fun h => ?_) (fun h => ?_) <;> first | (exfalso; omega; done) | (exfalso; simp at h; done) | skip))
      all_goals
        repeat refine Mm.mk ?_
        conv => whnf
        refine EndVC.mk _ rfl _ _ (⟨2, rfl, rfl, ⟨fun h => (by cases h), fun hC => absurd hC hN⟩⟩) ?_
        refine ⟨[], rfl, rfl, ?_, ?_⟩ <;> repeat' (first | exact trivial | exact rfl | exact Iff.rfl | apply And.intro)
    · have hG := hgood hb
      repeat' ((conv => whnf); first | rw [gx] | rw [gy] | rw [gz] | refine Rng.g ?_ | refine Ob.g ?_ | refine Ob.e ?_ | refine Ob.m ?_ | refine Ob.mk (Nat.le_of_ble_eq_true rfl) ?_ | refine JoinVC.on ?_ | refine Nils.mk (fun h => ?_) ?_ | refine Val.t ?_ | refine Val.d ?_ | refine Mm.mk ?_ | (refine Br.mk (fun h => ?_) (fun h => ?_) <;> first | (exfalso; omega; done) | (exfalso; simp at h; done) | skip))
      all_goals
        refine Back.mk (S.length - (i + 1)) _ (by omega) ⟨i + 1, by omega, rfl, hG, rfl⟩ ?_
        refine ⟨[some 0], rfl, rfl, ?_, ?_⟩ <;> repeat' (first | exact trivial | exact rfl | exact Iff.rfl | apply And.intro)
  · have ei : i = S.length := by omega
    subst ei
    repeat' ((conv => whnf); first | refine Rng.g ?_ | refine Ob.g ?_ | refine Ob.e ?_ | refine Ob.m ?_ | refine Ob.mk (Nat.le_of_ble_eq_true rfl) ?_ | refine JoinVC.on ?_ | refine Nils.mk (fun h => ?_) ?_ | refine Val.t ?_ | refine Val.d ?_ | refine Mm.mk ?_ | (refine Br.mk (fun h => ?_) (fun h => ?_) <;> first | (exfalso; omega; done) | (exfalso; simp at h; done) | skip))
    repeat refine Mm.mk ?_
    conv => whnf
    refine EndVC.mk _ rfl _ _ (⟨0, rfl, rfl, ⟨fun _ => hT.2 ⟨by omega, ht⟩, fun _ => rfl⟩⟩) ?_
    refine ⟨[], rfl, rfl, ?_, ?_⟩ <;> repeat' (first | exact trivial | exact rfl | exact Iff.rfl | apply And.intro)
theorem s162 (x a b : Int) : PSpec Tryz.prog 162 [I x, I a, I b] (xP (x ≥ a ∧ x ≤ b)) := by
  refine spec_of pMix (O := []) Tryz.func162 (c := bodyOf Tryz.f162) rfl (by kernel_rfl) (by kernel_rfl) Tryz.ntmps162 (res := [.tmp 6]) (by kernel_rfl) ?_
  repeat' ((conv => whnf); first | refine Rng.g ?_ | refine Ob.g ?_ | refine Ob.e ?_ | refine Ob.m ?_ | refine Ob.mk (Nat.le_of_ble_eq_true rfl) ?_ | refine JoinVC.on ?_ | refine Nils.mk (fun h => ?_) ?_ | refine Val.t ?_ | refine Val.d ?_ | refine Mm.mk ?_ | (refine Br.mk (fun h => ?_) (fun h => ?_) <;> first | (exfalso; omega; done) | (exfalso; simp at h; done) | skip))
  · repeat refine Mm.mk ?_
    refine EndVC.mk _ rfl _ _ ⟨rfl, rfl⟩ ?_
    refine ⟨[], rfl, rfl, ?_, ?_⟩ <;> repeat' (first | exact trivial | exact rfl | exact Iff.rfl | apply And.intro)
    exact ⟨fun h2 => ⟨h, h2⟩, fun h2 => h2.2⟩
  · repeat refine Mm.mk ?_
    refine EndVC.mk _ rfl _ _ ⟨rfl, rfl⟩ ?_
    refine ⟨[], rfl, rfl, ?_, ?_⟩ <;> repeat' (first | exact trivial | exact rfl | exact Iff.rfl | apply And.intro)
    exact fun h2 => h h2.1
theorem s77 (b : Blnk) : HSpec Tryz.prog 77 [b.x] [] (fun r m' => ∃ e, r = .x (I e) ∧ m' = [] ∧ (e = 0 ↔ BlnkOK b)) := by
  refine spec_of pMix (O := []) Tryz.func77 (c := bodyOf Tryz.f77) rfl (by kernel_rfl) (by kernel_rfl) Tryz.ntmps77 (res := [.tmp 2]) (by kernel_rfl) ?_
  repeat' ((conv => whnf); first | refine Rng.g ?_ | refine Ob.g ?_ | refine Ob.e ?_ | refine Ob.m ?_ | refine Ob.mk (Nat.le_of_ble_eq_true rfl) ?_ | refine JoinVC.on ?_ | refine Nils.mk (fun h => ?_) ?_ | refine Val.t ?_ | refine Val.d ?_ | refine Mm.mk ?_ | refine CallVC.pure rfl (s162 b.per 1 65536) ?_ | refine CallVC.pure rfl (s162 b.rim 0 4194304) ?_ | refine CallVC.pure rfl (s162 b.core 0 b.rim) ?_ | refine CallVC.pure rfl (s162 b.land 0 65536) ?_ | refine CallVC.pure rfl (s162 b.slow 0 b.fast) ?_ | refine CallVC0.pure rfl (s162 b.per 1 65536) ?_ | refine CallVC0.pure rfl (s162 b.rim 0 4194304) ?_ | refine CallVC0.pure rfl (s162 b.core 0 b.rim) ?_ | refine CallVC0.pure rfl (s162 b.land 0 65536) ?_ | refine CallVC0.pure rfl (s162 b.slow 0 b.fast) ?_ | (refine Br.mk (fun h => ?_) (fun h => ?_) <;> first | (exfalso; omega; done) | (exfalso; simp at h; done) | skip))
  rotate_right
  · repeat refine Mm.mk ?_
    conv => whnf
    refine EndVC.mk _ rfl _ _ (⟨0, rfl, rfl, ⟨fun _ => ⟨by omega, by omega, by omega, by omega, by omega, by omega⟩, fun _ => rfl⟩⟩) ?_
    refine ⟨[], rfl, rfl, ?_, ?_⟩ <;> repeat' (first | exact trivial | exact rfl | exact Iff.rfl | apply And.intro)
  all_goals
    repeat refine Mm.mk ?_
    conv => whnf
    refine EndVC.mk _ rfl _ _ (⟨2, rfl, rfl, ⟨fun h => (by cases h), fun hC => (by obtain ⟨h1, h2, h3, h4, h5, h6⟩ := hC; omega)⟩⟩) ?_
    refine ⟨[], rfl, rfl, ?_, ?_⟩ <;> repeat' (first | exact trivial | exact rfl | exact Iff.rfl | apply And.intro)
theorem s81 (a b : List Smp) (hla : a.length ≤ 1000000) : PSpec Tryz.prog 81 [lS a, lS b] (xP (a = b)) := by
  have la := smpA_len a
  have lb := smpA_len b
  by_cases hl : a.length = b.length
  · refine spec_of pMix (O := []) Tryz.func81 (c := bodyOf Tryz.f81) rfl (by kernel_rfl) (by kernel_rfl) Tryz.ntmps81 (res := [.tmp 4]) (by kernel_rfl) ?_
    repeat' ((conv => whnf); first | refine Rng.g ?_ | refine Ob.g ?_ | refine Ob.e ?_ | refine Ob.m ?_ | refine Ob.mk (Nat.le_of_ble_eq_true rfl) ?_ | refine JoinVC.on ?_ | refine Nils.mk (fun h => ?_) ?_ | refine Val.t ?_ | refine Val.d ?_ | refine Mm.mk ?_ | (refine Br.mk (fun h => ?_) (fun h => ?_) <;> first | (exfalso; omega; done) | (exfalso; simp at h; done) | skip))
    refine LoopVC.mk (fun n st => ∃ (i : Nat), i ≤ a.length ∧ n = a.length - i ∧ (∀ j, j < i → a.getD j s0 = b.getD j s0) ∧ st = ⟨0, envA 26 [(0, .x (lS a)), (1, .x (lS b)), (5, .int .i64 (i : Int))], []⟩) _ _ ⟨0, Nat.zero_le _, rfl, fun j hj => absurd hj (Nat.not_lt_zero j), rfl⟩ ?_ ?_
    · refine ⟨[], rfl, rfl, ?_, ?_⟩ <;> repeat' (first | exact trivial | exact rfl | exact Iff.rfl | apply And.intro)
    rintro n _ ⟨i, hi, hn, hj, rfl⟩
    have g0 : rI (smpA a) (i : Int).toNat 0 = (a.getD i s0).l := by rw [Int.toNat_natCast]; exact smpA_l a i
    have g1 : rI (smpA a) (i : Int).toNat (0 + 1) = (a.getD i s0).r := by rw [Int.toNat_natCast]; exact smpA_r a i
    have g2 : rI (smpA b) (i : Int).toNat 0 = (b.getD i s0).l := by rw [Int.toNat_natCast]; exact smpA_l b i
    have g3 : rI (smpA b) (i : Int).toNat (0 + 1) = (b.getD i s0).r := by rw [Int.toNat_natCast]; exact smpA_r b i
    by_cases hi' : i < a.length
    · repeat' ((conv => whnf); first | refine Rng.g ?_ | refine Ob.g ?_ | refine Ob.e ?_ | refine Ob.m ?_ | refine Ob.mk (Nat.le_of_ble_eq_true rfl) ?_ | refine JoinVC.on ?_ | refine Nils.mk (fun h => ?_) ?_ | refine Val.t ?_ | refine Val.d ?_ | refine Mm.mk ?_ | (refine Br.mk (fun h => ?_) (fun h => ?_) <;> first | (exfalso; omega; done) | (exfalso; simp at h; done) | skip))
      · repeat refine Mm.mk ?_
        refine EndVC.mk _ rfl _ _ ⟨rfl, rfl⟩ ?_
        refine ⟨[], rfl, rfl, ?_, ?_⟩ <;> repeat' (first | exact trivial | exact rfl | exact Iff.rfl | apply And.intro)
        refine fun e => h ?_
        show rI (smpA a) _ _ = rI (smpA b) _ _ ∧ rI (smpA a) _ _ = rI (smpA b) _ _ ∧ True
        rw [show a = b from e]
        exact ⟨rfl, rfl, trivial⟩
      · have h2 : rI (smpA a) (i : Int).toNat 0 = rI (smpA b) (i : Int).toNat 0 ∧ rI (smpA a) (i : Int).toNat (0 + 1) = rI (smpA b) (i : Int).toNat (0 + 1) ∧ True := Classical.not_not.1 h
        rw [g0, g1, g2, g3] at h2
        refine Back.mk (a.length - (i + 1)) _ (by omega) ⟨i + 1, by omega, rfl, fun j hj' => ?_, rfl⟩ ?_
        · rcases Nat.lt_succ_iff_lt_or_eq.1 hj' with h' | rfl
          · exact hj j h'
          · exact smp_ext h2.1 h2.2.1
        · refine ⟨[], rfl, rfl, ?_, ?_⟩ <;> repeat' (first | exact trivial | exact rfl | exact Iff.rfl | apply And.intro)
    · repeat' ((conv => whnf); first | refine Rng.g ?_ | refine Ob.g ?_ | refine Ob.e ?_ | refine Ob.m ?_ | refine Ob.mk (Nat.le_of_ble_eq_true rfl) ?_ | refine JoinVC.on ?_ | refine Nils.mk (fun h => ?_) ?_ | refine Val.t ?_ | refine Val.d ?_ | refine Mm.mk ?_ | (refine Br.mk (fun h => ?_) (fun h => ?_) <;> first | (exfalso; omega; done) | (exfalso; simp at h; done) | skip))
      repeat refine Mm.mk ?_
      refine EndVC.mk _ rfl _ _ ⟨rfl, rfl⟩ ?_
      refine ⟨[], rfl, rfl, ?_, ?_⟩ <;> repeat' (first | exact trivial | exact rfl | exact Iff.rfl | apply And.intro)
      exact list_ext' hl fun j hj' => hj j (by omega)
  · refine spec_of pMix (O := []) Tryz.func81 (c := bodyOf Tryz.f81) rfl (by kernel_rfl) (by kernel_rfl) Tryz.ntmps81 (res := [.tmp 4]) (by kernel_rfl) ?_
    repeat' ((conv => whnf); first | refine Rng.g ?_ | refine Ob.g ?_ | refine Ob.e ?_ | refine Ob.m ?_ | refine Ob.mk (Nat.le_of_ble_eq_true rfl) ?_ | refine JoinVC.on ?_ | refine Nils.mk (fun h => ?_) ?_ | refine Val.t ?_ | refine Val.d ?_ | refine Mm.mk ?_ | (refine Br.mk (fun h => ?_) (fun h => ?_) <;> first | (exfalso; omega; done) | (exfalso; simp at h; done) | skip))
    repeat refine Mm.mk ?_
    refine EndVC.mk _ rfl _ _ ⟨rfl, rfl⟩ ?_
    refine ⟨[], rfl, rfl, ?_, ?_⟩ <;> repeat' (first | exact trivial | exact rfl | exact Iff.rfl | apply And.intro)
    exact fun e => hl (by rw [show a = b from e])
/-- A groove that is kept: nothing writes into it any more. -/
theorem s30z (c : Cut) (l : List Smp) (hC : CutOK c) (hL : SmpsOK l) : HSpec Tryz.prog 30 [c.x, lS l] [] (fun r m' => r = .tup [lS (cutF c l), I 0] ∧ m' = []) := by
  have ll := smpA_len l
  have v1 := s105 c
  have v2 := s103 l
  rw [(smpE_iff l).2 hL] at v2
  have hl4 := hL.len
  refine spec_of pMix (O := []) Tryz.func30 (c := bodyOf Tryz.f30) rfl (by kernel_rfl) (by kernel_rfl) Tryz.ntmps30 (res := [.tmp 4, .tmp 5]) (by kernel_rfl) ?_
  repeat' ((conv => whnf); first | refine Rng.g ?_ | refine Ob.g ?_ | refine Ob.e ?_ | refine Ob.m ?_ | refine Ob.mk (Nat.le_of_ble_eq_true rfl) ?_ | refine JoinVC.on ?_ | refine Nils.mk (fun h => ?_) ?_ | refine Val.t ?_ | refine Val.d ?_ | refine Mm.mk ?_ | (refine Br.mk (fun h => ?_) (fun h => ?_) <;> first | (exfalso; omega; done) | (exfalso; simp at h; done) | skip))
  conv => whnf
  refine CallVC.mk [] _ _ _ rfl rfl rfl (v1) (fun r m' h' => ?_)
  obtain ⟨e, rfl, rfl, he⟩ := h'
  conv => whnf
  cases he.2 hC
  repeat' ((conv => whnf); first | refine Rng.g ?_ | refine Ob.g ?_ | refine Ob.e ?_ | refine Ob.m ?_ | refine Ob.mk (Nat.le_of_ble_eq_true rfl) ?_ | refine JoinVC.on ?_ | refine Nils.mk (fun h => ?_) ?_ | refine Val.t ?_ | refine Val.d ?_ | refine Mm.mk ?_ | refine CallVC.pure rfl (v2) ?_ | refine CallVC0.pure rfl (v2) ?_ | (refine Br.mk (fun h => ?_) (fun h => ?_) <;> first | (exfalso; omega; done) | (exfalso; simp at h; done) | skip))
  repeat refine Mm.mk ?_
  refine Ob.mk (by simp only [eb51]; omega) ?_
  repeat' ((conv => whnf); first | refine Rng.g ?_ | refine Ob.g ?_ | refine Ob.e ?_ | refine Ob.m ?_ | refine Ob.mk (Nat.le_of_ble_eq_true rfl) ?_ | refine JoinVC.on ?_ | refine Nils.mk (fun h => ?_) ?_ | refine Val.t ?_ | refine Val.d ?_ | refine Mm.mk ?_ | (refine Br.mk (fun h => ?_) (fun h => ?_) <;> first | (exfalso; omega; done) | (exfalso; simp at h; done) | skip))
  refine LoopVC.mk (fun n st => ∃ (i : Nat) (O : List Smp), i ≤ l.length ∧ n = l.length - i ∧ Fill (fun j => ptF c (l.getD j s0)) l.length O i ∧ st = ⟨0, envA 39 [(24, .x (lS l)), (2, .x (.one (.ptr 0 0))), (8, .x (.one (.own 1))), (25, .int .i64 (l.length : Int)), (26, .int .i64 (i : Int))], [some (.box 26 [.int .i64 c.half, .int .i64 c.gain, .int .i64 c.thin, .int .i64 c.wide, .int .i64 c.slope, .int .i64 c.jerk, .int .i64 c.sty]), some (rowP O)]⟩) _ _ ⟨0, List.replicate l.length s0, Nat.zero_le _, rfl, ⟨by simp, fun j hj => absurd hj (Nat.not_lt_zero j)⟩, rfl⟩ ?_ ?_
  · refine ⟨[some 0, some 1], rfl, rfl, ?_, ?_⟩ <;> repeat' (first | exact trivial | exact rfl | exact Iff.rfl | apply And.intro)
    · exact congrArg Int.ofNat ll
    · show List.replicate ((List.length (smpA l) : Int)).toNat _ = _
      rw [Int.toNat_natCast, ll]
      exact smpA_rep _
  rintro n _ ⟨i, O, hi, hn, hO, rfl⟩
  have lO := smpA_len O
  have hOl := hO.len
  by_cases hi' : i < l.length
  · have u1 : updRow (smpA O) (i : Int).toNat 0 [.int (ptF c (l.getD i s0)).l, .int (ptF c (l.getD i s0)).r] = smpA (O.set i (ptF c (l.getD i s0))) := by rw [Int.toNat_natCast]; exact smpA_set O i _ (by omega)
    have c1 : PSpec Tryz.prog 106 [c.x, smpX l i] (.x (ptF c (l.getD i s0)).x) := smpX_eq l i ▸ s106 c _ hC (hL.each i hi')
    repeat' ((conv => whnf); first | rw [u1] | refine Rng.g ?_ | refine Ob.g ?_ | refine Ob.e ?_ | refine Ob.m ?_ | refine Ob.mk (Nat.le_of_ble_eq_true rfl) ?_ | refine JoinVC.on ?_ | refine Nils.mk (fun h => ?_) ?_ | refine Val.t ?_ | refine Val.d ?_ | refine Mm.mk ?_ | refine CallVC.pure rfl (c1) ?_ | refine CallVC0.pure rfl (c1) ?_ | (refine Br.mk (fun h => ?_) (fun h => ?_) <;> first | (exfalso; omega; done) | (exfalso; simp at h; done) | skip))
    refine Back.mk (l.length - (i + 1)) _ (by omega) ⟨i + 1, _, by omega, rfl, hO.step hi', rfl⟩ ?_
    refine ⟨[some 0, some 1], rfl, rfl, ?_, ?_⟩ <;> repeat' (first | exact trivial | exact rfl | exact Iff.rfl | apply And.intro)
  · repeat' ((conv => whnf); first | refine Rng.g ?_ | refine Ob.g ?_ | refine Ob.e ?_ | refine Ob.m ?_ | refine Ob.mk (Nat.le_of_ble_eq_true rfl) ?_ | refine JoinVC.on ?_ | refine Nils.mk (fun h => ?_) ?_ | refine Val.t ?_ | refine Val.d ?_ | refine Mm.mk ?_ | (refine Br.mk (fun h => ?_) (fun h => ?_) <;> first | (exfalso; omega; done) | (exfalso; simp at h; done) | skip))
    have e1 : i = l.length := by omega
    rw [e1] at hO
    rw [hO.fin]
    repeat refine Mm.mk ?_
    conv => whnf
    refine EndVC.mk _ rfl _ _ (⟨rfl, rfl⟩) ?_
    refine ⟨[], rfl, rfl, ?_, ?_⟩ <;> repeat' (first | exact trivial | exact rfl | exact Iff.rfl | apply And.intro)
theorem pts_take {p : List Smp} (hp : PtsOK p) {a : Nat} : PtsOK (p.take a) := ⟨by rw [List.length_take]; have := hp.len; omega, fun j hj => by
  rw [List.length_take] at hj
  have e : (p.take a).getD j s0 = p.getD j s0 := by simp [List.getD_eq_getElem?_getD, show j < a by omega]
  rw [e]
  exact hp.each j (by omega)⟩
theorem s19 (s : List Smp) (c : Cut) (b : Blnk) (S : List Int) (hI : ∀ j, inI (s.getD j s0).l ∧ inI (s.getD j s0).r) : PSpec Tryz.prog 19 [lS s, c.x, b.x, tipX S] (xP True) := by
  have hw := s68
  have hk := s58 s hI
  have hsm := smpE_iff s
  have ls := smpA_len s
  by_cases hV : ¬ (s.length ≤ 40 ∧ CutOK c ∧ SmpsOK s ∧ BlnkOK b ∧ TipOK S)
  · by_cases h40 : 40 < s.length
    · refine spec_of pMix (O := []) Tryz.func19 (c := bodyOf Tryz.f19) rfl (by kernel_rfl) (by kernel_rfl) Tryz.ntmps19 (res := [.tmp 8]) (by kernel_rfl) ?_
      repeat' ((conv => whnf); first | refine Rng.g ?_ | refine Ob.g ?_ | refine Ob.e ?_ | refine Ob.m ?_ | refine Ob.mk (Nat.le_of_ble_eq_true rfl) ?_ | refine JoinVC.on ?_ | refine Nils.mk (fun h => ?_) ?_ | refine Val.t ?_ | refine Val.d ?_ | refine Mm.mk ?_ | refine CallVC.pure rfl (hw) ?_ | refine CallVC0.pure rfl (hw) ?_ | (refine Br.mk (fun h => ?_) (fun h => ?_) <;> first | (exfalso; omega; done) | (exfalso; simp at h; done) | skip))
      all_goals
        repeat refine Mm.mk ?_
        refine EndVC.mk _ rfl _ _ ⟨rfl, rfl⟩ ?_
        refine ⟨[], rfl, rfl, ?_, ?_⟩ <;> repeat' (first | exact trivial | exact rfl | exact Iff.rfl | apply And.intro)
    refine spec_of pMix (O := []) Tryz.func19 (c := bodyOf Tryz.f19) rfl (by kernel_rfl) (by kernel_rfl) Tryz.ntmps19 (res := [.tmp 8]) (by kernel_rfl) ?_
    repeat' ((conv => whnf); first | refine Rng.g ?_ | refine Ob.g ?_ | refine Ob.e ?_ | refine Ob.m ?_ | refine Ob.mk (Nat.le_of_ble_eq_true rfl) ?_ | refine JoinVC.on ?_ | refine Nils.mk (fun h => ?_) ?_ | refine Val.t ?_ | refine Val.d ?_ | refine Mm.mk ?_ | (refine Br.mk (fun h => ?_) (fun h => ?_) <;> first | (exfalso; omega; done) | (exfalso; simp at h; done) | skip))
    conv => whnf
    refine CallVC.mk [] _ _ _ rfl rfl rfl (s24 c) (fun r m' h' => ?_)
    obtain ⟨e2, rfl, rfl, he2⟩ := h'
    conv => whnf
    by_cases h2 : e2 = 0
    rotate_left
    · repeat' ((conv => whnf); first | refine Rng.g ?_ | refine Ob.g ?_ | refine Ob.e ?_ | refine Ob.m ?_ | refine Ob.mk (Nat.le_of_ble_eq_true rfl) ?_ | refine JoinVC.on ?_ | refine Nils.mk (fun h => ?_) ?_ | refine Val.t ?_ | refine Val.d ?_ | refine Mm.mk ?_ | refine CallVC.pure rfl (hw) ?_ | refine CallVC0.pure rfl (hw) ?_ | (refine Br.mk (fun h => ?_) (fun h => ?_) <;> first | (exfalso; omega; done) | (exfalso; simp at h; done) | skip))
      all_goals
        repeat refine Mm.mk ?_
        refine EndVC.mk _ rfl _ _ ⟨rfl, rfl⟩ ?_
        refine ⟨[], rfl, rfl, ?_, ?_⟩ <;> repeat' (first | exact trivial | exact rfl | exact Iff.rfl | apply And.intro)
    repeat' ((conv => whnf); first | refine Rng.g ?_ | refine Ob.g ?_ | refine Ob.e ?_ | refine Ob.m ?_ | refine Ob.mk (Nat.le_of_ble_eq_true rfl) ?_ | refine JoinVC.on ?_ | refine Nils.mk (fun h => ?_) ?_ | refine Val.t ?_ | refine Val.d ?_ | refine Mm.mk ?_ | (refine Br.mk (fun h => ?_) (fun h => ?_) <;> first | (exfalso; omega; done) | (exfalso; simp at h; done) | skip))
    by_cases h3 : smpE s = 0
    rotate_left
    · repeat' ((conv => whnf); first | refine Rng.g ?_ | refine Ob.g ?_ | refine Ob.e ?_ | refine Ob.m ?_ | refine Ob.mk (Nat.le_of_ble_eq_true rfl) ?_ | refine JoinVC.on ?_ | refine Nils.mk (fun h => ?_) ?_ | refine Val.t ?_ | refine Val.d ?_ | refine Mm.mk ?_ | refine CallVC.pure rfl (hk) ?_ | refine CallVC.pure rfl (hw) ?_ | refine CallVC0.pure rfl (hk) ?_ | refine CallVC0.pure rfl (hw) ?_ | (refine Br.mk (fun h => ?_) (fun h => ?_) <;> first | (exfalso; omega; done) | (exfalso; simp at h; done) | skip))
      all_goals
        repeat refine Mm.mk ?_
        refine EndVC.mk _ rfl _ _ ⟨rfl, rfl⟩ ?_
        refine ⟨[], rfl, rfl, ?_, ?_⟩ <;> repeat' (first | exact trivial | exact rfl | exact Iff.rfl | apply And.intro)
    repeat' ((conv => whnf); first | refine Rng.g ?_ | refine Ob.g ?_ | refine Ob.e ?_ | refine Ob.m ?_ | refine Ob.mk (Nat.le_of_ble_eq_true rfl) ?_ | refine JoinVC.on ?_ | refine Nils.mk (fun h => ?_) ?_ | refine Val.t ?_ | refine Val.d ?_ | refine Mm.mk ?_ | refine CallVC.pure rfl (hk) ?_ | refine CallVC0.pure rfl (hk) ?_ | (refine Br.mk (fun h => ?_) (fun h => ?_) <;> first | (exfalso; omega; done) | (exfalso; simp at h; done) | skip))
    conv => whnf
    refine CallVC.mk [] _ _ _ rfl rfl rfl (s77 b) (fun r m' h' => ?_)
    obtain ⟨e4, rfl, rfl, he4⟩ := h'
    conv => whnf
    by_cases h4 : e4 = 0
    rotate_left
    · repeat' ((conv => whnf); first | refine Rng.g ?_ | refine Ob.g ?_ | refine Ob.e ?_ | refine Ob.m ?_ | refine Ob.mk (Nat.le_of_ble_eq_true rfl) ?_ | refine JoinVC.on ?_ | refine Nils.mk (fun h => ?_) ?_ | refine Val.t ?_ | refine Val.d ?_ | refine Mm.mk ?_ | refine CallVC.pure rfl (hw) ?_ | refine CallVC0.pure rfl (hw) ?_ | (refine Br.mk (fun h => ?_) (fun h => ?_) <;> first | (exfalso; omega; done) | (exfalso; simp at h; done) | skip))
      all_goals
        repeat refine Mm.mk ?_
        refine EndVC.mk _ rfl _ _ ⟨rfl, rfl⟩ ?_
        refine ⟨[], rfl, rfl, ?_, ?_⟩ <;> repeat' (first | exact trivial | exact rfl | exact Iff.rfl | apply And.intro)
    repeat' ((conv => whnf); first | refine Rng.g ?_ | refine Ob.g ?_ | refine Ob.e ?_ | refine Ob.m ?_ | refine Ob.mk (Nat.le_of_ble_eq_true rfl) ?_ | refine JoinVC.on ?_ | refine Nils.mk (fun h => ?_) ?_ | refine Val.t ?_ | refine Val.d ?_ | refine Mm.mk ?_ | (refine Br.mk (fun h => ?_) (fun h => ?_) <;> first | (exfalso; omega; done) | (exfalso; simp at h; done) | skip))
    conv => whnf
    refine CallVC.mk [] _ _ _ rfl rfl rfl (s78 S) (fun r m' h' => ?_)
    obtain ⟨e5, rfl, rfl, he5⟩ := h'
    conv => whnf
    repeat' ((conv => whnf); first | refine Rng.g ?_ | refine Ob.g ?_ | refine Ob.e ?_ | refine Ob.m ?_ | refine Ob.mk (Nat.le_of_ble_eq_true rfl) ?_ | refine JoinVC.on ?_ | refine Nils.mk (fun h => ?_) ?_ | refine Val.t ?_ | refine Val.d ?_ | refine Mm.mk ?_ | refine CallVC.pure rfl (hw) ?_ | refine CallVC0.pure rfl (hw) ?_ | (refine Br.mk (fun h => ?_) (fun h => ?_) <;> first | (exfalso; omega; done) | (exfalso; simp at h; done) | skip))
    all_goals first | (exfalso; exact hV ⟨by omega, he2.1 h2, hsm.1 h3, he4.1 h4, he5.1 (by omega)⟩) | skip
    all_goals
      repeat refine Mm.mk ?_
      refine EndVC.mk _ rfl _ _ ⟨rfl, rfl⟩ ?_
      refine ⟨[], rfl, rfl, ?_, ?_⟩ <;> repeat' (first | exact trivial | exact rfl | exact Iff.rfl | apply And.intro)
  replace hV := Classical.not_not.1 hV
  obtain ⟨h40, hC, hs, hB, hS⟩ := hV
  have hsm0 := hsm.2 hs
  rw [hsm0] at hk
  obtain ⟨g, hg⟩ : ∃ g, g = cutF c s := ⟨_, rfl⟩
  have G : PtsOK g := by rw [hg]; exact cut_ok hC hs
  have kg : g.length = s.length := by rw [hg, cutF_len]
  obtain ⟨m, hm⟩ : ∃ m, m = sweepF S g := ⟨_, rfl⟩
  have M : PtsOK m := by rw [hm]; exact sweep_ok hS G
  have km : m.length = g.length := by rw [hm]; exact wallF_len _ _ _
  have hin : ∀ i, i < g.length → (m.getD i s0).r ≤ (g.getD i s0).r ∧ (g.getD i s0).l ≤ (m.getD i s0).l := fun i hi => by rw [hm]; exact sweep_in hi
  have hrd : readF S m = readF S g := by rw [hm]; exact read_sweep S g
  have krd : (readF S g).length = g.length := wallF_len _ _ _
  obtain ⟨x, hx⟩ : ∃ x, x = readF S g := ⟨_, rfl⟩
  rw [← hx] at hrd krd
  have lg := smpA_len g
  have lm := smpA_len m
  have eg : ∀ (p : List Smp) (a : Nat), ((smpA p).take (Int.toNat (a : Int))).drop (Int.toNat 0) = smpA (p.take a) := fun p a => by
    rw [Int.toNat_natCast]
    show (smpA p).take a = _
    unfold smpA
    rw [List.map_take]
  have h82 : ∀ (p : List Smp) (a : Nat), HSpec Tryz.prog 82 [b.x, .one (.lst true KS (((smpA p).take (Int.toNat (a : Int))).drop (Int.toNat 0)))] [] (OuRs b (p.take a)) := fun p a => by
    rw [eg]
    exact s82 b (p.take a)
  refine spec_of pMix (O := []) Tryz.func19 (c := bodyOf Tryz.f19) rfl (by kernel_rfl) (by kernel_rfl) Tryz.ntmps19 (res := [.tmp 8]) (by kernel_rfl) ?_
  repeat' ((conv => whnf); first | refine Rng.g ?_ | refine Ob.g ?_ | refine Ob.e ?_ | refine Ob.m ?_ | refine Ob.mk (Nat.le_of_ble_eq_true rfl) ?_ | refine JoinVC.on ?_ | refine Nils.mk (fun h => ?_) ?_ | refine Val.t ?_ | refine Val.d ?_ | refine Mm.mk ?_ | (refine Br.mk (fun h => ?_) (fun h => ?_) <;> first | (exfalso; omega; done) | (exfalso; simp at h; done) | skip))
  conv => whnf
  refine CallVC.mk [] _ _ _ rfl rfl rfl (s24 c) (fun r m' h' => ?_)
  obtain ⟨e2, rfl, rfl, he2⟩ := h'
  conv => whnf
  cases he2.2 hC
  repeat' ((conv => whnf); first | refine Rng.g ?_ | refine Ob.g ?_ | refine Ob.e ?_ | refine Ob.m ?_ | refine Ob.mk (Nat.le_of_ble_eq_true rfl) ?_ | refine JoinVC.on ?_ | refine Nils.mk (fun h => ?_) ?_ | refine Val.t ?_ | refine Val.d ?_ | refine Mm.mk ?_ | refine CallVC.pure rfl (hk) ?_ | refine CallVC0.pure rfl (hk) ?_ | (refine Br.mk (fun h => ?_) (fun h => ?_) <;> first | (exfalso; omega; done) | (exfalso; simp at h; done) | skip))
  conv => whnf
  refine CallVC.mk [] _ _ _ rfl rfl rfl (s77 b) (fun r m' h' => ?_)
  obtain ⟨e4, rfl, rfl, he4⟩ := h'
  conv => whnf
  cases he4.2 hB
  repeat' ((conv => whnf); first | refine Rng.g ?_ | refine Ob.g ?_ | refine Ob.e ?_ | refine Ob.m ?_ | refine Ob.mk (Nat.le_of_ble_eq_true rfl) ?_ | refine JoinVC.on ?_ | refine Nils.mk (fun h => ?_) ?_ | refine Val.t ?_ | refine Val.d ?_ | refine Mm.mk ?_ | (refine Br.mk (fun h => ?_) (fun h => ?_) <;> first | (exfalso; omega; done) | (exfalso; simp at h; done) | skip))
  conv => whnf
  refine CallVC.mk [] _ _ _ rfl rfl rfl (s78 S) (fun r m' h' => ?_)
  obtain ⟨e5, rfl, rfl, he5⟩ := h'
  conv => whnf
  cases he5.2 hS
  repeat' ((conv => whnf); first | refine Rng.g ?_ | refine Ob.g ?_ | refine Ob.e ?_ | refine Ob.m ?_ | refine Ob.mk (Nat.le_of_ble_eq_true rfl) ?_ | refine JoinVC.on ?_ | refine Nils.mk (fun h => ?_) ?_ | refine Val.t ?_ | refine Val.d ?_ | refine Mm.mk ?_ | (refine Br.mk (fun h => ?_) (fun h => ?_) <;> first | (exfalso; omega; done) | (exfalso; simp at h; done) | skip))
  conv => whnf
  refine CallVC.mk [] _ _ _ rfl rfl rfl (s30z c s hC hs) (fun r m' h' => ?_)
  obtain ⟨rfl, rfl⟩ := h'
  conv => whnf
  rw [← hg]
  repeat' ((conv => whnf); first | refine Rng.g ?_ | refine Ob.g ?_ | refine Ob.e ?_ | refine Ob.m ?_ | refine Ob.mk (Nat.le_of_ble_eq_true rfl) ?_ | refine JoinVC.on ?_ | refine Nils.mk (fun h => ?_) ?_ | refine Val.t ?_ | refine Val.d ?_ | refine Mm.mk ?_ | (refine Br.mk (fun h => ?_) (fun h => ?_) <;> first | (exfalso; omega; done) | (exfalso; simp at h; done) | skip))
  conv => whnf
  refine CallVC.mk [] _ _ _ rfl rfl rfl (s79 S g hS G) (fun r m' h' => ?_)
  obtain ⟨rfl, rfl⟩ := h'
  conv => whnf
  rw [← hm]
  repeat' ((conv => whnf); first | refine Rng.g ?_ | refine Ob.g ?_ | refine Ob.e ?_ | refine Ob.m ?_ | refine Ob.mk (Nat.le_of_ble_eq_true rfl) ?_ | refine JoinVC.on ?_ | refine Nils.mk (fun h => ?_) ?_ | refine Val.t ?_ | refine Val.d ?_ | refine Mm.mk ?_ | (refine Br.mk (fun h => ?_) (fun h => ?_) <;> first | (exfalso; omega; done) | (exfalso; simp at h; done) | skip))
  conv => whnf
  refine CallVC.mk [] _ _ _ rfl rfl rfl (s80 S g hS G) (fun r m' h' => ?_)
  obtain ⟨rfl, rfl⟩ := h'
  conv => whnf
  rw [← hx]
  repeat' ((conv => whnf); first | refine Rng.g ?_ | refine Ob.g ?_ | refine Ob.e ?_ | refine Ob.m ?_ | refine Ob.mk (Nat.le_of_ble_eq_true rfl) ?_ | refine JoinVC.on ?_ | refine Nils.mk (fun h => ?_) ?_ | refine Val.t ?_ | refine Val.d ?_ | refine Mm.mk ?_ | (refine Br.mk (fun h => ?_) (fun h => ?_) <;> first | (exfalso; omega; done) | (exfalso; simp at h; done) | skip))
  conv => whnf
  refine CallVC.mk [] _ _ _ rfl rfl rfl (s80 S m hS M) (fun r m' h' => ?_)
  obtain ⟨rfl, rfl⟩ := h'
  conv => whnf
  rw [hrd]
  repeat' ((conv => whnf); first | refine Rng.g ?_ | refine Ob.g ?_ | refine Ob.e ?_ | refine Ob.m ?_ | refine Ob.mk (Nat.le_of_ble_eq_true rfl) ?_ | refine JoinVC.on ?_ | refine Nils.mk (fun h => ?_) ?_ | refine Val.t ?_ | refine Val.d ?_ | refine Mm.mk ?_ | refine CallVC.pure rfl (s81 x x (by omega)) ?_ | refine CallVC0.pure rfl (s81 x x (by omega)) ?_ | (refine Br.mk (fun h => ?_) (fun h => ?_) <;> first | (exfalso; omega; done) | (exfalso; simp at h; done) | skip))
  conv => whnf
  refine CallVC.mk [] _ _ _ rfl rfl rfl (s52 b g hB G) (fun r m' h' => ?_)
  obtain ⟨a, ha, rfl, rfl⟩ := h'
  conv => whnf
  repeat' ((conv => whnf); first | refine Rng.g ?_ | refine Ob.g ?_ | refine Ob.e ?_ | refine Ob.m ?_ | refine Ob.mk (Nat.le_of_ble_eq_true rfl) ?_ | refine JoinVC.on ?_ | refine Nils.mk (fun h => ?_) ?_ | refine Val.t ?_ | refine Val.d ?_ | refine Mm.mk ?_ | (refine Br.mk (fun h => ?_) (fun h => ?_) <;> first | (exfalso; omega; done) | (exfalso; simp at h; done) | skip))
  conv => whnf
  refine CallVC.mk [] _ _ _ rfl rfl rfl (s52 b m hB M) (fun r m' h' => ?_)
  obtain ⟨k, hk', rfl, rfl⟩ := h'
  conv => whnf
  have hak := fit_in km hin hB.per.1 ha hk'
  have hF1 : ∃ y, Feas b (g.take a) y := by
    rcases Nat.eq_zero_or_pos a with h0 | h0
    · rw [h0]
      exact ⟨fun _ => 0, feas_nil _⟩
    · exact ha.fit h0
  have hF2 : ∃ y, Feas b (m.take a) y := by
    rcases Nat.eq_zero_or_pos a with h0 | h0
    · rw [h0]
      exact ⟨fun _ => 0, feas_nil _⟩
    · obtain ⟨y, hy⟩ := hk'.fit (by omega)
      exact ⟨y, feas_take hB.per.1 hak hy⟩
  have hal := ha.le
  have hkl := hk'.le
  repeat' ((conv => whnf); first | refine Rng.g ?_ | refine Ob.g ?_ | refine Ob.e ?_ | refine Ob.m ?_ | refine Ob.mk (Nat.le_of_ble_eq_true rfl) ?_ | refine JoinVC.on ?_ | refine Nils.mk (fun h => ?_) ?_ | refine Val.t ?_ | refine Val.d ?_ | refine Mm.mk ?_ | (refine Br.mk (fun h => ?_) (fun h => ?_) <;> first | (exfalso; omega; done) | (exfalso; simp at h; done) | skip))
  conv => whnf
  refine CallVC.mk [] _ _ _ rfl rfl rfl (h82 g a) (fun r m' h' => ?_)
  cases h' with
  | bad e h he hr hm => exact absurd ⟨hB, pts_take G⟩ h
  | none _ _ hN hr hm => exact (hF1.elim fun y hy => hN y hy).elim
  | ok _ _ U hU hr hm' =>
  subst hr hm'
  repeat' ((conv => whnf); first | refine Rng.g ?_ | refine Ob.g ?_ | refine Ob.e ?_ | refine Ob.m ?_ | refine Ob.mk (Nat.le_of_ble_eq_true rfl) ?_ | refine JoinVC.on ?_ | refine Nils.mk (fun h => ?_) ?_ | refine Val.t ?_ | refine Val.d ?_ | refine Mm.mk ?_ | (refine Br.mk (fun h => ?_) (fun h => ?_) <;> first | (exfalso; omega; done) | (exfalso; simp at h; done) | skip))
  conv => whnf
  refine CallVC.mk [] _ _ _ rfl rfl rfl (h82 m a) (fun r m' h' => ?_)
  cases h' with
  | bad e h he hr hm => exact absurd ⟨hB, pts_take M⟩ h
  | none _ _ hN hr hm => exact (hF2.elim fun y hy => hN y hy).elim
  | ok _ _ V hV hr hm' =>
  subst hr hm'
  have lU := i64s_len U
  have lV := i64s_len V
  have nU : U.length = a := by rw [hU.len, List.length_take]; omega
  have nV : V.length = a := by rw [hV.len, List.length_take]; omega
  have ek : ∀ (p : List Smp) (j : Nat), j < a → (p.take a).getD j s0 = p.getD j s0 := fun p j hj => by simp [List.getD_eq_getElem?_getD, show j < a by omega]
  have hUV : ∀ j, j < a → U.getD j 0 ≤ V.getD j 0 := fun j hj => by
    refine hV.best (fun i => U.getD i 0) (feas_in (p := g.take a) (by rw [List.length_take, List.length_take, km]) (fun i hi => ?_) hB.per.1 hU.ok) j (by rw [List.length_take]; omega)
    rw [List.length_take] at hi
    rw [ek _ _ (by omega), ek _ _ (by omega)]
    exact hin i (by omega)
  repeat' ((conv => whnf); first | refine Rng.g ?_ | refine Ob.g ?_ | refine Ob.e ?_ | refine Ob.m ?_ | refine Ob.mk (Nat.le_of_ble_eq_true rfl) ?_ | refine JoinVC.on ?_ | refine Nils.mk (fun h => ?_) ?_ | refine Val.t ?_ | refine Val.d ?_ | refine Mm.mk ?_ | (refine Br.mk (fun h => ?_) (fun h => ?_) <;> first | (exfalso; omega; done) | (exfalso; simp at h; done) | skip))
  refine LoopVC.mk (fun n st => ∃ (i : Nat), i ≤ a ∧ n = a - i ∧ st = ⟨0, envA 179 [(17, .x (I (a : Int))), (19, .x (.one (.own 0))), (20, .x (.one (.own 1))), (21, .int .i64 (i : Int))], [some (rowRd U), some (rowRd V)]⟩) _ _ ⟨0, Nat.zero_le _, rfl, rfl⟩ ?_ ?_
  · refine ⟨[some 3, some 4], rfl, rfl, ?_, ?_⟩ <;> repeat' (first | exact trivial | exact rfl | exact Iff.rfl | apply And.intro)
  rintro n _ ⟨i, hi, hn, rfl⟩
  have gU : rI (i64s U) (i : Int).toNat 0 = U.getD i 0 := by rw [Int.toNat_natCast, i64s_get]
  have gV : rI (i64s V) (i : Int).toNat 0 = V.getD i 0 := by rw [Int.toNat_natCast, i64s_get]
  by_cases hi' : i < a
  · have h5 := hUV i hi'
    repeat' ((conv => whnf); first | rw [gU] | rw [gV] | refine Rng.g ?_ | refine Ob.g ?_ | refine Ob.e ?_ | refine Ob.m ?_ | refine Ob.mk (Nat.le_of_ble_eq_true rfl) ?_ | refine JoinVC.on ?_ | refine Nils.mk (fun h => ?_) ?_ | refine Val.t ?_ | refine Val.d ?_ | refine Mm.mk ?_ | (refine Br.mk (fun h => ?_) (fun h => ?_) <;> first | (exfalso; omega; done) | (exfalso; simp at h; done) | skip))
    refine Back.mk (a - (i + 1)) _ (by omega) ⟨i + 1, by omega, rfl, rfl⟩ ?_
    refine ⟨[some 0, some 1], rfl, rfl, ?_, ?_⟩ <;> repeat' (first | exact trivial | exact rfl | exact Iff.rfl | apply And.intro)
  · repeat' ((conv => whnf); first | refine Rng.g ?_ | refine Ob.g ?_ | refine Ob.e ?_ | refine Ob.m ?_ | refine Ob.mk (Nat.le_of_ble_eq_true rfl) ?_ | refine JoinVC.on ?_ | refine Nils.mk (fun h => ?_) ?_ | refine Val.t ?_ | refine Val.d ?_ | refine Mm.mk ?_ | refine CallVC.pure rfl (hw) ?_ | refine CallVC0.pure rfl (hw) ?_ | (refine Br.mk (fun h => ?_) (fun h => ?_) <;> first | (exfalso; omega; done) | (exfalso; simp at h; done) | skip))
    repeat refine Mm.mk ?_
    refine EndVC.mk _ rfl _ _ ⟨rfl, rfl⟩ ?_
    refine ⟨[], rfl, rfl, ?_, ?_⟩ <;> repeat' (first | exact trivial | exact rfl | exact Iff.rfl | apply And.intro)
end Go.Sx

namespace Go.Sx
open Go Go.Proofs
set_option maxRecDepth 10000
/-! ### Rows read as takes, parts, curves, samples -/
theorem wfr_of : ∀ {ks : List CK} {r : List Cell}, r.length = ks.length → (∀ (j : Nat) k c, ks[j]? = some k → r[j]? = some c → Wf k c) → WfR ks r
  | [], [], _, _ => .nil
  | [], _ :: _, h, _ => by simp at h
  | _ :: _, [], h, _ => by simp at h
  | k :: ks, c :: cs, h, hw => .cons (hw 0 k c rfl rfl) (wfr_of (by simpa using h) fun j k' c' h1 h2 => hw (j + 1) k' c' (by simpa using h1) (by simpa using h2))
theorem wf_map {α : Type} {ks : List CK} {row : α → List Cell} {p : α → Prop} (hrow : ∀ r, WfR ks r → ∃ x, r = row x ∧ p x) {a : Arr} (h : Wf (.sl ks) (.sl a)) : ∃ l : List α, a = l.map row ∧ ∀ x ∈ l, p x := by
  cases h with
  | sl hl hr hw =>
    clear hl
    induction a with
    | nil => exact ⟨[], rfl, fun x hx => by simp at hx⟩
    | cons r a ih =>
      obtain ⟨l, rfl, h2⟩ := ih (fun r h => hr r (List.mem_cons_of_mem _ h)) (fun r h => hw r (List.mem_cons_of_mem _ h))
      obtain ⟨x, rfl, h3⟩ := hrow r (wfr_of (hr r (List.mem_cons_self ..)) (hw r (List.mem_cons_self ..)))
      exact ⟨x :: l, rfl, fun y hy => by rcases List.mem_cons.1 hy with rfl | hy; (· exact h3); exact h2 y hy⟩
theorem mem_getD {α : Type} {p : α → Prop} {l : List α} {d : α} (h : ∀ x ∈ l, p x) (hd : p d) (j : Nat) : p (l.getD j d) := by
  rw [List.getD_eq_getElem?_getD]
  cases hx : l[j]? with
  | none => exact hd
  | some x => exact h x (List.mem_of_getElem? hx)
theorem inI_0 : inI 0 := by unfold inI; omega
theorem wf_smps {a : Arr} (h : Wf (.sl KS) (.sl a)) : ∃ l : List Smp, a = smpA l ∧ SmpI l := by
  obtain ⟨l, h1, h2⟩ := wf_map (row := fun s : Smp => [.int s.l, .int s.r]) (p := fun s => inI s.l ∧ inI s.r) (fun r hr => by
    obtain ⟨c0, _, rfl, g0, h1⟩ := hr.inv
    obtain ⟨n0, rfl, i0⟩ := g0.int_inv
    obtain ⟨c1, _, rfl, g1, h2⟩ := h1.inv
    obtain ⟨n1, rfl, i1⟩ := g1.int_inv
    cases h2.nil_inv
    exact ⟨⟨n0, n1⟩, rfl, by simpa [inR, inI] using i0, by simpa [inR, inI] using i1⟩) h
  exact ⟨l, h1, mem_getD h2 ⟨inI_0, inI_0⟩⟩
end Go.Sx
