import Derived.Test.YthlebjnhcinheaaGreatDoorPrTopCoveredB
import Derived.Test.YthlebjnhcinheaaGreatDoorXc
namespace Go.Sx
open Go Go.Proofs
set_option maxRecDepth 10000
set_option maxHeartbeats 4000000
theorem s206L (t : Trk) (r0 r : Int) (ht : TrkOK (t.at r)) : HSpec Tryz.prog 206 [I r, .one (.ptr 0 0)] [.box 213 [.fn 207 [(1, 0), (2, 0)]], .box 214 [.ptr 3 0], .box 33 [.fn 115 [(4, 0)]], bTk (t.at r0), .box 214 [.ptr 3 0]] (fun x m' => x = xP (pL t r) ∧ m' = [some (.box 213 [.fn 207 [(1, 0), (2, 0)]]), some (.box 214 [.ptr 3 0]), some (.box 33 [.fn 115 [(4, 0)]]), some (bTk (t.at r)), some (.box 214 [.ptr 3 0])]) := by
  refine spec_of pMix (O := []) Tryz.func206 (c := bodyOf Tryz.f206) rfl (by kernel_rfl) (by kernel_rfl) Tryz.ntmps206 (res := [.tmp 3]) (by kernel_rfl) ?_
  repeat' ((conv => whnf); first | refine Rng.g ?_ | refine Ob.g ?_ | refine Ob.e ?_ | refine Ob.m ?_ | refine Ob.mk (Nat.le_of_ble_eq_true rfl) ?_ | refine JoinVC.on ?_ | refine Nils.mk (fun h => ?_) ?_ | refine Val.t ?_ | refine Val.d ?_ | refine Mm.mk ?_ | (refine Br.mk (fun h => ?_) (fun h => ?_) <;> first | (exfalso; omega; done) | (exfalso; simp at h; done) | skip))
  conv => whnf
  refine CallVC.mk [1, 2, 3, 4] _ _ _ rfl rfl rfl (s207 (t.at r0) r ht) (fun r m' h' => ?_)
  obtain ⟨rfl, rfl⟩ := h'
  conv => whnf
  repeat' ((conv => whnf); first | refine Rng.g ?_ | refine Ob.g ?_ | refine Ob.e ?_ | refine Ob.m ?_ | refine Ob.mk (Nat.le_of_ble_eq_true rfl) ?_ | refine JoinVC.on ?_ | refine Nils.mk (fun h => ?_) ?_ | refine Val.t ?_ | refine Val.d ?_ | refine Mm.mk ?_ | (refine Br.mk (fun h => ?_) (fun h => ?_) <;> first | (exfalso; omega; done) | (exfalso; simp at h; done) | skip))
  repeat refine Mm.mk ?_
  refine EndVC.mk _ rfl _ _ ⟨rfl, rfl⟩ ?_
  refine ⟨[some 0, some 1, some 2, some 3, some 4], rfl, rfl, ?_, ?_⟩ <;> repeat' (first | exact trivial | exact rfl | exact Iff.rfl | apply And.intro)
theorem s136L (t : Trk) (r0 : Int) (ht : ∀ r, 0 ≤ r → r ≤ 4194304 → TrkOK (t.at r)) : HSpec Tryz.prog 136 [I 4194305, .one (.fn 206 [(0, 0)])] [.box 213 [.fn 207 [(1, 0), (2, 0)]], .box 214 [.ptr 3 0], .box 33 [.fn 115 [(4, 0)]], bTk (t.at r0), .box 214 [.ptr 3 0]] (fun x m' => ∃ k r', Least (pL t) 4194305 k ∧ x = .x (I k) ∧ m' = [some (.box 213 [.fn 207 [(1, 0), (2, 0)]]), some (.box 214 [.ptr 3 0]), some (.box 33 [.fn 115 [(4, 0)]]), some (bTk (t.at r')), some (.box 214 [.ptr 3 0])]) := by
  have hc : CutOK t.c := (ht 0 (by decide) (by decide)).c
  have hp : 1 ≤ t.per := (ht 0 (by decide) (by decide)).per.1
  refine spec_of pMix (O := []) Tryz.func136 (c := bodyOf Tryz.f136) rfl (by kernel_rfl) (by kernel_rfl) Tryz.ntmps136 (res := [.tmp 4]) (by kernel_rfl) ?_
  repeat' ((conv => whnf); first | refine Rng.g ?_ | refine Ob.g ?_ | refine Ob.e ?_ | refine Ob.m ?_ | refine Ob.mk (Nat.le_of_ble_eq_true rfl) ?_ | refine JoinVC.on ?_ | refine Nils.mk (fun h => ?_) ?_ | refine Val.t ?_ | refine Val.d ?_ | refine Mm.mk ?_ | (refine Br.mk (fun h => ?_) (fun h => ?_) <;> first | (exfalso; omega; done) | (exfalso; simp at h; done) | skip))
  refine LoopVC.mk (fun n st => ∃ (i' j r1 : Int), (0 ≤ i' ∧ i' ≤ j ∧ j ≤ 4194305) ∧ n = (j - i').toNat ∧ (∀ q, 0 ≤ q → q < i' → ¬ pL t q) ∧ (j < 4194305 → pL t j) ∧ st = ⟨5, envA 26 [(1, .x (.one (.fn 206 [(0, 0)]))), (5, .int .i64 i'), (6, .int .i64 j)], [some (.box 213 [.fn 207 [(1, 0), (2, 0)]]), some (.box 214 [.ptr 3 0]), some (.box 33 [.fn 115 [(4, 0)]]), some (bTk (t.at r1)), some (.box 214 [.ptr 3 0])]⟩) _ _ ⟨0, 4194305, r0, by omega, rfl, fun q h1 h2 => by omega, fun h1 => by omega, rfl⟩ ?_ ?_
  · refine ⟨[some 0, some 1, some 2, some 3, some 4], rfl, rfl, ?_, ?_⟩ <;> repeat' (first | exact trivial | exact rfl | exact Iff.rfl | apply And.intro)
  rintro n _ ⟨i', j, r1, hij, hn, hno, hyes, rfl⟩
  by_cases hlt : i' < j
  · obtain ⟨g, hg⟩ : ∃ g, g = (i' + j) / 2 := ⟨_, rfl⟩
    have h1 : i' ≤ g ∧ g < j := by omega
    repeat' ((conv => whnf); first | refine Rng.g ?_ | refine Ob.g ?_ | refine Ob.e ?_ | refine Ob.m ?_ | refine Ob.mk (Nat.le_of_ble_eq_true rfl) ?_ | refine JoinVC.on ?_ | refine Nils.mk (fun h => ?_) ?_ | refine Val.t ?_ | refine Val.d ?_ | refine Mm.mk ?_ | (refine Br.mk (fun h => ?_) (fun h => ?_) <;> first | (exfalso; omega; done) | (exfalso; simp at h; done) | skip))
    refine Val.mk g (by rw [hg]; rfl) ?_
    repeat' ((conv => whnf); first | refine Rng.g ?_ | refine Ob.g ?_ | refine Ob.e ?_ | refine Ob.m ?_ | refine Ob.mk (Nat.le_of_ble_eq_true rfl) ?_ | refine JoinVC.on ?_ | refine Nils.mk (fun h => ?_) ?_ | refine Val.t ?_ | refine Val.d ?_ | refine Mm.mk ?_ | (refine Br.mk (fun h => ?_) (fun h => ?_) <;> first | (exfalso; omega; done) | (exfalso; simp at h; done) | skip))
    conv => whnf
    refine CallVC.mk [0, 1, 2, 3, 4] _ _ _ rfl rfl rfl (s206L t r1 g (ht g (by omega) (by omega))) (fun r m' h' => ?_)
    obtain ⟨rfl, rfl⟩ := h'
    conv => whnf
    repeat' ((conv => whnf); first | refine Rng.g ?_ | refine Ob.g ?_ | refine Ob.e ?_ | refine Ob.m ?_ | refine Ob.mk (Nat.le_of_ble_eq_true rfl) ?_ | refine JoinVC.on ?_ | refine Nils.mk (fun h => ?_) ?_ | refine Val.t ?_ | refine Val.d ?_ | refine Mm.mk ?_ | (refine Br.mk (fun h => ?_) (fun h => ?_) <;> first | (exfalso; omega; done) | (exfalso; simp at h; done) | skip))
    · refine Back.mk (j - (g + 1)).toNat _ (by omega) ⟨g + 1, j, g, by omega, rfl, fun q h2 h3 h4 => h (h4.mono hc hp h2 (by omega)), hyes, rfl⟩ ?_
      refine ⟨[some 0, some 1, some 2, some 3, some 4], rfl, rfl, ?_, ?_⟩ <;> repeat' (first | exact trivial | exact rfl | exact Iff.rfl | apply And.intro)
    · refine Back.mk (g - i').toNat _ (by omega) ⟨i', g, g, by omega, rfl, hno, fun _ => Classical.not_not.1 h, rfl⟩ ?_
      refine ⟨[some 0, some 1, some 2, some 3, some 4], rfl, rfl, ?_, ?_⟩ <;> repeat' (first | exact trivial | exact rfl | exact Iff.rfl | apply And.intro)
  · repeat' ((conv => whnf); first | refine Rng.g ?_ | refine Ob.g ?_ | refine Ob.e ?_ | refine Ob.m ?_ | refine Ob.mk (Nat.le_of_ble_eq_true rfl) ?_ | refine JoinVC.on ?_ | refine Nils.mk (fun h => ?_) ?_ | refine Val.t ?_ | refine Val.d ?_ | refine Mm.mk ?_ | (refine Br.mk (fun h => ?_) (fun h => ?_) <;> first | (exfalso; omega; done) | (exfalso; simp at h; done) | skip))
    have e : i' = j := by omega
    subst e
    repeat refine Mm.mk ?_
    conv => whnf
    refine EndVC.mk _ rfl _ _ (⟨i', r1, ⟨by omega, hno, hyes⟩, rfl, rfl⟩) ?_
    refine ⟨[some 0, some 1, some 2, some 3, some 4], rfl, rfl, ?_, ?_⟩ <;> repeat' (first | exact trivial | exact rfl | exact Iff.rfl | apply And.intro)
theorem s109L (t : Trk) (r0 : Int) (ht : ∀ r, 0 ≤ r → r ≤ 4194304 → TrkOK (t.at r)) : HSpec Tryz.prog 109 [I 4194304, .one (.fn 207 [(0, 0), (1, 0)])] [.box 214 [.ptr 2 0], .box 33 [.fn 115 [(3, 0)]], bTk (t.at r0), .box 214 [.ptr 2 0]] (fun x m' => ∃ k r', Least (pL t) 4194305 k ∧ x = .x (I k) ∧ m' = [some (.box 214 [.ptr 2 0]), some (.box 33 [.fn 115 [(3, 0)]]), some (bTk (t.at r')), some (.box 214 [.ptr 2 0])]) := by
  refine spec_of pMix (O := []) Tryz.func109 (c := bodyOf Tryz.f109) rfl (by kernel_rfl) (by kernel_rfl) Tryz.ntmps109 (res := [.tmp 4]) (by kernel_rfl) ?_
  repeat' ((conv => whnf); first | refine Rng.g ?_ | refine Ob.g ?_ | refine Ob.e ?_ | refine Ob.m ?_ | refine Ob.mk (Nat.le_of_ble_eq_true rfl) ?_ | refine JoinVC.on ?_ | refine Nils.mk (fun h => ?_) ?_ | refine Val.t ?_ | refine Val.d ?_ | refine Mm.mk ?_ | (refine Br.mk (fun h => ?_) (fun h => ?_) <;> first | (exfalso; omega; done) | (exfalso; simp at h; done) | skip))
  conv => whnf
  refine CallVC.mk [4, 0, 1, 2, 3] _ _ _ rfl rfl rfl (s136L t r0 ht) (fun r m' h' => ?_)
  obtain ⟨k, r', hk, rfl, rfl⟩ := h'
  conv => whnf
  have hk1 := hk.rng
  repeat' ((conv => whnf); first | refine Rng.g ?_ | refine Ob.g ?_ | refine Ob.e ?_ | refine Ob.m ?_ | refine Ob.mk (Nat.le_of_ble_eq_true rfl) ?_ | refine JoinVC.on ?_ | refine Nils.mk (fun h => ?_) ?_ | refine Val.t ?_ | refine Val.d ?_ | refine Mm.mk ?_ | (refine Br.mk (fun h => ?_) (fun h => ?_) <;> first | (exfalso; omega; done) | (exfalso; simp at h; done) | skip))
  repeat refine Mm.mk ?_
  conv => whnf
  refine EndVC.mk _ rfl _ _ (⟨k, r', hk, rfl, rfl⟩) ?_
  refine ⟨[some 0, some 1, some 2, some 3], rfl, rfl, ?_, ?_⟩ <;> repeat' (first | exact trivial | exact rfl | exact Iff.rfl | apply And.intro)
theorem s114L (t : Trk) (per0 : Int) (ht : ∀ r, 0 ≤ r → r ≤ 4194304 → TrkOK (t.at r)) : HSpec Tryz.prog 114 [.one (.ptr 0 0), I t.per, .one (.fn 115 [(1, 0)])] [bTk ⟨t.c, t.p, t.r, per0⟩, .box 214 [.ptr 0 0]] (fun x m' => ∃ k r', Least (pL t) 4194305 k ∧ ((4194304 < k ∧ x = .tup [I 0, I 14]) ∨ (k ≤ 4194304 ∧ x = .tup [I k, I 0])) ∧ m' = [some (bTk (t.at r')), some (.box 214 [.ptr 0 0])]) := by
  refine spec_of pMix (O := []) Tryz.func114 (c := bodyOf Tryz.f114) rfl (by kernel_rfl) (by kernel_rfl) Tryz.ntmps114 (res := [.tmp 6, .tmp 7]) (by kernel_rfl) ?_
  repeat' ((conv => whnf); first | refine Rng.g ?_ | refine Ob.g ?_ | refine Ob.e ?_ | refine Ob.m ?_ | refine Ob.mk (Nat.le_of_ble_eq_true rfl) ?_ | refine JoinVC.on ?_ | refine Nils.mk (fun h => ?_) ?_ | refine Val.t ?_ | refine Val.d ?_ | refine Mm.mk ?_ | (refine Br.mk (fun h => ?_) (fun h => ?_) <;> first | (exfalso; omega; done) | (exfalso; simp at h; done) | skip))
  conv => whnf
  refine CallVC.mk [2, 3, 0, 1] _ _ _ rfl rfl rfl (s109L t t.r ht) (fun r m' h' => ?_)
  obtain ⟨k, r', hk, rfl, rfl⟩ := h'
  conv => whnf
  have hk1 := hk.rng
  repeat' ((conv => whnf); first | refine Rng.g ?_ | refine Ob.g ?_ | refine Ob.e ?_ | refine Ob.m ?_ | refine Ob.mk (Nat.le_of_ble_eq_true rfl) ?_ | refine JoinVC.on ?_ | refine Nils.mk (fun h => ?_) ?_ | refine Val.t ?_ | refine Val.d ?_ | refine Mm.mk ?_ | (refine Br.mk (fun h => ?_) (fun h => ?_) <;> first | (exfalso; omega; done) | (exfalso; simp at h; done) | skip))
  · repeat refine Mm.mk ?_
    conv => whnf
    refine EndVC.mk _ rfl _ _ (⟨k, r', hk, .inl ⟨by omega, rfl⟩, rfl⟩) ?_
    refine ⟨[some 0, some 1], rfl, rfl, ?_, ?_⟩ <;> repeat' (first | exact trivial | exact rfl | exact Iff.rfl | apply And.intro)
  · repeat refine Mm.mk ?_
    conv => whnf
    refine EndVC.mk _ rfl _ _ (⟨k, r', hk, .inr ⟨by omega, rfl⟩, rfl⟩) ?_
    refine ⟨[some 0, some 1], rfl, rfl, ?_, ?_⟩ <;> repeat' (first | exact trivial | exact rfl | exact Iff.rfl | apply And.intro)
theorem s129h (t : Trk) (i : Nat) (b a : Bool) (hl : t.p.length ≤ 4096) (hi : i < t.p.length) (hb : b = true ↔ 0 < i) (ha : a = true ↔ i + 1 < t.p.length) : HSpec Tryz.prog 129 [.one (.ptr 0 0), I (i : Int)] [bTk t] (fun r m' => r = .x (nrX t.p i b a) ∧ m' = [some (bTk t)]) := by
  have lp := smpA_len t.p
  cases b
  all_goals
    have hb' : ¬ 0 < i ∨ 0 < i := by omega
    cases a
    all_goals
      simp only [true_iff, reduceCtorEq, false_iff] at hb ha
      refine spec_of pMix (O := []) Tryz.func129 (c := bodyOf Tryz.f129) rfl (by kernel_rfl) (by kernel_rfl) Tryz.ntmps129 (res := [.cell 4 234]) (by kernel_rfl) ?_
      repeat' ((conv => whnf); first | refine Rng.g ?_ | refine Ob.g ?_ | refine Ob.e ?_ | refine Ob.m ?_ | refine Ob.mk (Nat.le_of_ble_eq_true rfl) ?_ | refine JoinVC.on ?_ | refine Nils.mk (fun h => ?_) ?_ | refine Val.t ?_ | refine Val.d ?_ | refine Mm.mk ?_ | (refine Br.mk (fun h => ?_) (fun h => ?_) <;> first | (exfalso; omega; done) | (exfalso; simp at h; done) | skip))
      repeat refine Mm.mk ?_
      refine EndVC.mk _ rfl _ _ ⟨rfl, rfl⟩ ?_
      refine ⟨[some 0], rfl, rfl, ?_, ?_⟩ <;> repeat' (first | exact trivial | exact rfl | exact Iff.rfl | apply And.intro)
  all_goals omega
theorem s127 (t : Trk) (ht : TrkOK t) (i : Nat) (hi : i < t.p.length) : HSpec Tryz.prog 127 [.one (.ptr 0 0), .one (.ptr 1 0)] [.box 214 [.ptr 2 0], .box 3 [.int .i64 (i : Int)], bTk t] (fun r m' => r = xP (pN t i t.r) ∧ m' = [some (.box 214 [.ptr 2 0]), some (.box 3 [.int .i64 (i : Int)]), some (bTk t)]) := by
  have c1 := s129h t i (bB i) (aB t.p i) ht.p.len hi decide_eq_true_iff decide_eq_true_iff
  have c2 := s128 t i (bB i) (aB t.p i) ht (ht.near hi)
  have e : pN t i t.r ↔ ruleF t i (bB i) (aB t.p i) = 0 := Iff.rfl
  obtain ⟨b, hb⟩ : ∃ b, bB i = b := ⟨_, rfl⟩
  obtain ⟨a, ha⟩ : ∃ a, aB t.p i = a := ⟨_, rfl⟩
  rw [hb, ha] at c1 c2 e
  cases b
  all_goals
    cases a
    all_goals
      refine spec_of pMix (O := [(1, ([], [⟨0, [], []⟩, ⟨1, [], []⟩, ⟨2, [], []⟩, ⟨3, [0], []⟩, ⟨4, [], []⟩, ⟨5, [], []⟩, ⟨6, [], []⟩]))]) Tryz.func127 (c := bodyOf Tryz.f127) rfl (by kernel_rfl) (by kernel_rfl) Tryz.ntmps127 (res := [.tmp 2]) (by kernel_rfl) ?_
      repeat' ((conv => whnf); first | refine Rng.g ?_ | refine Ob.g ?_ | refine Ob.e ?_ | refine Ob.m ?_ | refine Ob.mk (Nat.le_of_ble_eq_true rfl) ?_ | refine JoinVC.on ?_ | refine Nils.mk (fun h => ?_) ?_ | refine Val.t ?_ | refine Val.d ?_ | refine Mm.mk ?_ | (refine Br.mk (fun h => ?_) (fun h => ?_) <;> first | (exfalso; omega; done) | (exfalso; simp at h; done) | skip))
      conv => whnf
      refine CallVC0.on [2] _ _ _ rfl rfl rfl rfl (c1) (fun r m' h' => ?_)
      obtain ⟨rfl, rfl⟩ := h'
      conv => whnf
      repeat' ((conv => whnf); first | refine Rng.g ?_ | refine Ob.g ?_ | refine Ob.e ?_ | refine Ob.m ?_ | refine Ob.mk (Nat.le_of_ble_eq_true rfl) ?_ | refine JoinVC.on ?_ | refine Nils.mk (fun h => ?_) ?_ | refine Val.t ?_ | refine Val.d ?_ | refine Mm.mk ?_ | refine CallVC.pure rfl (c2) ?_ | refine CallVC0.pure rfl (c2) ?_ | (refine Br.mk (fun h => ?_) (fun h => ?_) <;> first | (exfalso; omega; done) | (exfalso; simp at h; done) | skip))
      repeat refine Mm.mk ?_
      refine EndVC.mk _ rfl _ _ ⟨rfl, rfl⟩ ?_
      refine ⟨[some 0, some 1, some 2], rfl, rfl, ?_, ?_⟩ <;> repeat' (first | exact trivial | exact rfl | exact Iff.rfl | apply And.intro)
      exact e.symm
theorem s207N (t : Trk) (r : Int) (i : Nat) (hi : i < t.p.length) (ht : TrkOK (t.at r)) : HSpec Tryz.prog 207 [I r, .one (.ptr 0 0), .one (.ptr 1 0)] [.box 214 [.ptr 2 0], .box 33 [.fn 127 [(3, 0), (4, 0)]], bTk t, .box 214 [.ptr 2 0], .box 3 [.int .i64 (i : Int)]] (fun x m' => x = xP (pN t i r) ∧ m' = [some (.box 214 [.ptr 2 0]), some (.box 33 [.fn 127 [(3, 0), (4, 0)]]), some (bTk (t.at r)), some (.box 214 [.ptr 2 0]), some (.box 3 [.int .i64 (i : Int)])]) := by
  refine spec_of pMix (O := []) Tryz.func207 (c := bodyOf Tryz.f207) rfl (by kernel_rfl) (by kernel_rfl) Tryz.ntmps207 (res := [.tmp 4]) (by kernel_rfl) ?_
  repeat' ((conv => whnf); first | refine Rng.g ?_ | refine Ob.g ?_ | refine Ob.e ?_ | refine Ob.m ?_ | refine Ob.mk (Nat.le_of_ble_eq_true rfl) ?_ | refine JoinVC.on ?_ | refine Nils.mk (fun h => ?_) ?_ | refine Val.t ?_ | refine Val.d ?_ | refine Mm.mk ?_ | (refine Br.mk (fun h => ?_) (fun h => ?_) <;> first | (exfalso; omega; done) | (exfalso; simp at h; done) | skip))
  conv => whnf
  refine CallVC.mk [3, 4, 2] _ _ _ rfl rfl rfl (s127 (t.at r) ht i hi) (fun r m' h' => ?_)
  obtain ⟨rfl, rfl⟩ := h'
  conv => whnf
  repeat' ((conv => whnf); first | refine Rng.g ?_ | refine Ob.g ?_ | refine Ob.e ?_ | refine Ob.m ?_ | refine Ob.mk (Nat.le_of_ble_eq_true rfl) ?_ | refine JoinVC.on ?_ | refine Nils.mk (fun h => ?_) ?_ | refine Val.t ?_ | refine Val.d ?_ | refine Mm.mk ?_ | (refine Br.mk (fun h => ?_) (fun h => ?_) <;> first | (exfalso; omega; done) | (exfalso; simp at h; done) | skip))
  repeat refine Mm.mk ?_
  refine EndVC.mk _ rfl _ _ ⟨rfl, rfl⟩ ?_
  refine ⟨[some 0, some 1, some 2, some 3, some 4], rfl, rfl, ?_, ?_⟩ <;> repeat' (first | exact trivial | exact rfl | exact Iff.rfl | apply And.intro)
theorem s206N (t : Trk) (r0 r : Int) (i : Nat) (hi : i < t.p.length) (ht : TrkOK (t.at r)) : HSpec Tryz.prog 206 [I r, .one (.ptr 0 0)] [.box 213 [.fn 207 [(1, 0), (2, 0)]], .box 214 [.ptr 3 0], .box 33 [.fn 127 [(4, 0), (5, 0)]], bTk (t.at r0), .box 214 [.ptr 3 0], .box 3 [.int .i64 (i : Int)]] (fun x m' => x = xP (pN t i r) ∧ m' = [some (.box 213 [.fn 207 [(1, 0), (2, 0)]]), some (.box 214 [.ptr 3 0]), some (.box 33 [.fn 127 [(4, 0), (5, 0)]]), some (bTk (t.at r)), some (.box 214 [.ptr 3 0]), some (.box 3 [.int .i64 (i : Int)])]) := by
  refine spec_of pMix (O := []) Tryz.func206 (c := bodyOf Tryz.f206) rfl (by kernel_rfl) (by kernel_rfl) Tryz.ntmps206 (res := [.tmp 3]) (by kernel_rfl) ?_
  repeat' ((conv => whnf); first | refine Rng.g ?_ | refine Ob.g ?_ | refine Ob.e ?_ | refine Ob.m ?_ | refine Ob.mk (Nat.le_of_ble_eq_true rfl) ?_ | refine JoinVC.on ?_ | refine Nils.mk (fun h => ?_) ?_ | refine Val.t ?_ | refine Val.d ?_ | refine Mm.mk ?_ | (refine Br.mk (fun h => ?_) (fun h => ?_) <;> first | (exfalso; omega; done) | (exfalso; simp at h; done) | skip))
  conv => whnf
  refine CallVC.mk [1, 2, 3, 4, 5] _ _ _ rfl rfl rfl (s207N (t.at r0) r i hi ht) (fun r m' h' => ?_)
  obtain ⟨rfl, rfl⟩ := h'
  conv => whnf
  repeat' ((conv => whnf); first | refine Rng.g ?_ | refine Ob.g ?_ | refine Ob.e ?_ | refine Ob.m ?_ | refine Ob.mk (Nat.le_of_ble_eq_true rfl) ?_ | refine JoinVC.on ?_ | refine Nils.mk (fun h => ?_) ?_ | refine Val.t ?_ | refine Val.d ?_ | refine Mm.mk ?_ | (refine Br.mk (fun h => ?_) (fun h => ?_) <;> first | (exfalso; omega; done) | (exfalso; simp at h; done) | skip))
  repeat refine Mm.mk ?_
  refine EndVC.mk _ rfl _ _ ⟨rfl, rfl⟩ ?_
  refine ⟨[some 0, some 1, some 2, some 3, some 4, some 5], rfl, rfl, ?_, ?_⟩ <;> repeat' (first | exact trivial | exact rfl | exact Iff.rfl | apply And.intro)
theorem s136N (t : Trk) (r0 : Int) (i : Nat) (hi : i < t.p.length) (ht : ∀ r, 0 ≤ r → r ≤ 4194304 → TrkOK (t.at r)) : HSpec Tryz.prog 136 [I 4194305, .one (.fn 206 [(0, 0)])] [.box 213 [.fn 207 [(1, 0), (2, 0)]], .box 214 [.ptr 3 0], .box 33 [.fn 127 [(4, 0), (5, 0)]], bTk (t.at r0), .box 214 [.ptr 3 0], .box 3 [.int .i64 (i : Int)]] (fun x m' => ∃ k r', Least (pN t i) 4194305 k ∧ x = .x (I k) ∧ m' = [some (.box 213 [.fn 207 [(1, 0), (2, 0)]]), some (.box 214 [.ptr 3 0]), some (.box 33 [.fn 127 [(4, 0), (5, 0)]]), some (bTk (t.at r')), some (.box 214 [.ptr 3 0]), some (.box 3 [.int .i64 (i : Int)])]) := by
  have hc : CutOK t.c := (ht 0 (by decide) (by decide)).c
  have hp : 1 ≤ t.per := (ht 0 (by decide) (by decide)).per.1
  refine spec_of pMix (O := []) Tryz.func136 (c := bodyOf Tryz.f136) rfl (by kernel_rfl) (by kernel_rfl) Tryz.ntmps136 (res := [.tmp 4]) (by kernel_rfl) ?_
  repeat' ((conv => whnf); first | refine Rng.g ?_ | refine Ob.g ?_ | refine Ob.e ?_ | refine Ob.m ?_ | refine Ob.mk (Nat.le_of_ble_eq_true rfl) ?_ | refine JoinVC.on ?_ | refine Nils.mk (fun h => ?_) ?_ | refine Val.t ?_ | refine Val.d ?_ | refine Mm.mk ?_ | (refine Br.mk (fun h => ?_) (fun h => ?_) <;> first | (exfalso; omega; done) | (exfalso; simp at h; done) | skip))
  refine LoopVC.mk (fun n st => ∃ (i' j r1 : Int), (0 ≤ i' ∧ i' ≤ j ∧ j ≤ 4194305) ∧ n = (j - i').toNat ∧ (∀ q, 0 ≤ q → q < i' → ¬ pN t i q) ∧ (j < 4194305 → pN t i j) ∧ st = ⟨6, envA 26 [(1, .x (.one (.fn 206 [(0, 0)]))), (5, .int .i64 i'), (6, .int .i64 j)], [some (.box 213 [.fn 207 [(1, 0), (2, 0)]]), some (.box 214 [.ptr 3 0]), some (.box 33 [.fn 127 [(4, 0), (5, 0)]]), some (bTk (t.at r1)), some (.box 214 [.ptr 3 0]), some (.box 3 [.int .i64 (i : Int)])]⟩) _ _ ⟨0, 4194305, r0, by omega, rfl, fun q h1 h2 => by omega, fun h1 => by omega, rfl⟩ ?_ ?_
  · refine ⟨[some 0, some 1, some 2, some 3, some 4, some 5], rfl, rfl, ?_, ?_⟩ <;> repeat' (first | exact trivial | exact rfl | exact Iff.rfl | apply And.intro)
  rintro n _ ⟨i', j, r1, hij, hn, hno, hyes, rfl⟩
  by_cases hlt : i' < j
  · obtain ⟨g, hg⟩ : ∃ g, g = (i' + j) / 2 := ⟨_, rfl⟩
    have h1 : i' ≤ g ∧ g < j := by omega
    repeat' ((conv => whnf); first | refine Rng.g ?_ | refine Ob.g ?_ | refine Ob.e ?_ | refine Ob.m ?_ | refine Ob.mk (Nat.le_of_ble_eq_true rfl) ?_ | refine JoinVC.on ?_ | refine Nils.mk (fun h => ?_) ?_ | refine Val.t ?_ | refine Val.d ?_ | refine Mm.mk ?_ | (refine Br.mk (fun h => ?_) (fun h => ?_) <;> first | (exfalso; omega; done) | (exfalso; simp at h; done) | skip))
    refine Val.mk g (by rw [hg]; rfl) ?_
    repeat' ((conv => whnf); first | refine Rng.g ?_ | refine Ob.g ?_ | refine Ob.e ?_ | refine Ob.m ?_ | refine Ob.mk (Nat.le_of_ble_eq_true rfl) ?_ | refine JoinVC.on ?_ | refine Nils.mk (fun h => ?_) ?_ | refine Val.t ?_ | refine Val.d ?_ | refine Mm.mk ?_ | (refine Br.mk (fun h => ?_) (fun h => ?_) <;> first | (exfalso; omega; done) | (exfalso; simp at h; done) | skip))
    conv => whnf
    refine CallVC.mk [0, 1, 2, 3, 4, 5] _ _ _ rfl rfl rfl (s206N t r1 g i hi (ht g (by omega) (by omega))) (fun r m' h' => ?_)
    obtain ⟨rfl, rfl⟩ := h'
    conv => whnf
    repeat' ((conv => whnf); first | refine Rng.g ?_ | refine Ob.g ?_ | refine Ob.e ?_ | refine Ob.m ?_ | refine Ob.mk (Nat.le_of_ble_eq_true rfl) ?_ | refine JoinVC.on ?_ | refine Nils.mk (fun h => ?_) ?_ | refine Val.t ?_ | refine Val.d ?_ | refine Mm.mk ?_ | (refine Br.mk (fun h => ?_) (fun h => ?_) <;> first | (exfalso; omega; done) | (exfalso; simp at h; done) | skip))
    · refine Back.mk (j - (g + 1)).toNat _ (by omega) ⟨g + 1, j, g, by omega, rfl, fun q h2 h3 h4 => h (h4.mono hc hp h2 (by omega)), hyes, rfl⟩ ?_
      refine ⟨[some 0, some 1, some 2, some 3, some 4, some 5], rfl, rfl, ?_, ?_⟩ <;> repeat' (first | exact trivial | exact rfl | exact Iff.rfl | apply And.intro)
    · refine Back.mk (g - i').toNat _ (by omega) ⟨i', g, g, by omega, rfl, hno, fun _ => Classical.not_not.1 h, rfl⟩ ?_
      refine ⟨[some 0, some 1, some 2, some 3, some 4, some 5], rfl, rfl, ?_, ?_⟩ <;> repeat' (first | exact trivial | exact rfl | exact Iff.rfl | apply And.intro)
  · repeat' ((conv => whnf); first | refine Rng.g ?_ | refine Ob.g ?_ | refine Ob.e ?_ | refine Ob.m ?_ | refine Ob.mk (Nat.le_of_ble_eq_true rfl) ?_ | refine JoinVC.on ?_ | refine Nils.mk (fun h => ?_) ?_ | refine Val.t ?_ | refine Val.d ?_ | refine Mm.mk ?_ | (refine Br.mk (fun h => ?_) (fun h => ?_) <;> first | (exfalso; omega; done) | (exfalso; simp at h; done) | skip))
    have e : i' = j := by omega
    subst e
    repeat refine Mm.mk ?_
    conv => whnf
    refine EndVC.mk _ rfl _ _ (⟨i', r1, ⟨by omega, hno, hyes⟩, rfl, rfl⟩) ?_
    refine ⟨[some 0, some 1, some 2, some 3, some 4, some 5], rfl, rfl, ?_, ?_⟩ <;> repeat' (first | exact trivial | exact rfl | exact Iff.rfl | apply And.intro)
theorem s109N (t : Trk) (r0 : Int) (i : Nat) (hi : i < t.p.length) (ht : ∀ r, 0 ≤ r → r ≤ 4194304 → TrkOK (t.at r)) : HSpec Tryz.prog 109 [I 4194304, .one (.fn 207 [(0, 0), (1, 0)])] [.box 214 [.ptr 2 0], .box 33 [.fn 127 [(3, 0), (4, 0)]], bTk (t.at r0), .box 214 [.ptr 2 0], .box 3 [.int .i64 (i : Int)]] (fun x m' => ∃ k r', Least (pN t i) 4194305 k ∧ x = .x (I k) ∧ m' = [some (.box 214 [.ptr 2 0]), some (.box 33 [.fn 127 [(3, 0), (4, 0)]]), some (bTk (t.at r')), some (.box 214 [.ptr 2 0]), some (.box 3 [.int .i64 (i : Int)])]) := by
  refine spec_of pMix (O := []) Tryz.func109 (c := bodyOf Tryz.f109) rfl (by kernel_rfl) (by kernel_rfl) Tryz.ntmps109 (res := [.tmp 4]) (by kernel_rfl) ?_
  repeat' ((conv => whnf); first | refine Rng.g ?_ | refine Ob.g ?_ | refine Ob.e ?_ | refine Ob.m ?_ | refine Ob.mk (Nat.le_of_ble_eq_true rfl) ?_ | refine JoinVC.on ?_ | refine Nils.mk (fun h => ?_) ?_ | refine Val.t ?_ | refine Val.d ?_ | refine Mm.mk ?_ | (refine Br.mk (fun h => ?_) (fun h => ?_) <;> first | (exfalso; omega; done) | (exfalso; simp at h; done) | skip))
  conv => whnf
  refine CallVC.mk [5, 0, 1, 2, 3, 4] _ _ _ rfl rfl rfl (s136N t r0 i hi ht) (fun r m' h' => ?_)
  obtain ⟨k, r', hk, rfl, rfl⟩ := h'
  conv => whnf
  have hk1 := hk.rng
  repeat' ((conv => whnf); first | refine Rng.g ?_ | refine Ob.g ?_ | refine Ob.e ?_ | refine Ob.m ?_ | refine Ob.mk (Nat.le_of_ble_eq_true rfl) ?_ | refine JoinVC.on ?_ | refine Nils.mk (fun h => ?_) ?_ | refine Val.t ?_ | refine Val.d ?_ | refine Mm.mk ?_ | (refine Br.mk (fun h => ?_) (fun h => ?_) <;> first | (exfalso; omega; done) | (exfalso; simp at h; done) | skip))
  repeat refine Mm.mk ?_
  conv => whnf
  refine EndVC.mk _ rfl _ _ (⟨k, r', hk, rfl, rfl⟩) ?_
  refine ⟨[some 0, some 1, some 2, some 3, some 4], rfl, rfl, ?_, ?_⟩ <;> repeat' (first | exact trivial | exact rfl | exact Iff.rfl | apply And.intro)
theorem s114N (t : Trk) (per0 : Int) (i : Nat) (hi : i < t.p.length) (ht : ∀ r, 0 ≤ r → r ≤ 4194304 → TrkOK (t.at r)) : HSpec Tryz.prog 114 [.one (.ptr 0 0), I t.per, .one (.fn 127 [(1, 0), (2, 0)])] [bTk ⟨t.c, t.p, t.r, per0⟩, .box 214 [.ptr 0 0], .box 3 [.int .i64 (i : Int)]] (fun x m' => ∃ k r', Least (pN t i) 4194305 k ∧ ((4194304 < k ∧ x = .tup [I 0, I 14]) ∨ (k ≤ 4194304 ∧ x = .tup [I k, I 0])) ∧ m' = [some (bTk (t.at r')), some (.box 214 [.ptr 0 0]), some (.box 3 [.int .i64 (i : Int)])]) := by
  refine spec_of pMix (O := []) Tryz.func114 (c := bodyOf Tryz.f114) rfl (by kernel_rfl) (by kernel_rfl) Tryz.ntmps114 (res := [.tmp 6, .tmp 7]) (by kernel_rfl) ?_
  repeat' ((conv => whnf); first | refine Rng.g ?_ | refine Ob.g ?_ | refine Ob.e ?_ | refine Ob.m ?_ | refine Ob.mk (Nat.le_of_ble_eq_true rfl) ?_ | refine JoinVC.on ?_ | refine Nils.mk (fun h => ?_) ?_ | refine Val.t ?_ | refine Val.d ?_ | refine Mm.mk ?_ | (refine Br.mk (fun h => ?_) (fun h => ?_) <;> first | (exfalso; omega; done) | (exfalso; simp at h; done) | skip))
  conv => whnf
  refine CallVC.mk [3, 4, 0, 1, 2] _ _ _ rfl rfl rfl (s109N t t.r i hi ht) (fun r m' h' => ?_)
  obtain ⟨k, r', hk, rfl, rfl⟩ := h'
  conv => whnf
  have hk1 := hk.rng
  repeat' ((conv => whnf); first | refine Rng.g ?_ | refine Ob.g ?_ | refine Ob.e ?_ | refine Ob.m ?_ | refine Ob.mk (Nat.le_of_ble_eq_true rfl) ?_ | refine JoinVC.on ?_ | refine Nils.mk (fun h => ?_) ?_ | refine Val.t ?_ | refine Val.d ?_ | refine Mm.mk ?_ | (refine Br.mk (fun h => ?_) (fun h => ?_) <;> first | (exfalso; omega; done) | (exfalso; simp at h; done) | skip))
  · repeat refine Mm.mk ?_
    conv => whnf
    refine EndVC.mk _ rfl _ _ (⟨k, r', hk, .inl ⟨by omega, rfl⟩, rfl⟩) ?_
    refine ⟨[some 0, some 1, some 2], rfl, rfl, ?_, ?_⟩ <;> repeat' (first | exact trivial | exact rfl | exact Iff.rfl | apply And.intro)
  · repeat refine Mm.mk ?_
    conv => whnf
    refine EndVC.mk _ rfl _ _ (⟨k, r', hk, .inr ⟨by omega, rfl⟩, rfl⟩) ?_
    refine ⟨[some 0, some 1, some 2], rfl, rfl, ?_, ?_⟩ <;> repeat' (first | exact trivial | exact rfl | exact Iff.rfl | apply And.intro)
end Go.Sx

namespace Go.Sx
open Go Go.Proofs
set_option maxRecDepth 10000
set_option maxHeartbeats 4000000
/-- The least radius of a groove. -/
inductive LsRs (c : Cut) (l : List Smp) (per : Int) (r : AV) (m' : List (Option Blk)) : Prop
  | bad (e : Int) (h : ¬ (CutOK c ∧ PtsOK l ∧ 1 ≤ per ∧ per ≤ 65536)) (he : e ≠ 0) (hr : r = .tup [I 0, I e]) (hm : m' = [])
  | none (ht : ∀ r, 0 ≤ r → r ≤ 4194304 → TrkOK (Trk.at ⟨c, l, 0, per⟩ r)) (h : ¬ pL ⟨c, l, 0, per⟩ 4194304) (hr : r = .tup [I 0, I 14]) (hm : m' = [])
  | ok (ht : ∀ r, 0 ≤ r → r ≤ 4194304 → TrkOK (Trk.at ⟨c, l, 0, per⟩ r)) (k : Int) (hk : Least (pL ⟨c, l, 0, per⟩) 4194305 k) (hk' : k ≤ 4194304) (hr : r = .tup [I k, I 0]) (hm : m' = [])
theorem s35 (c : Cut) (l : List Smp) (per : Int) : HSpec Tryz.prog 35 [c.x, lS l, I per] [] (LsRs c l per) := by
  by_cases hb : ¬ (CutOK c ∧ PtsOK l)
  · refine spec_of pMix (O := []) Tryz.func35 (c := bodyOf Tryz.f35) rfl (by kernel_rfl) (by kernel_rfl) Tryz.ntmps35 (res := [.tmp 6, .tmp 7]) (by kernel_rfl) ?_
    repeat' ((conv => whnf); first | refine Rng.g ?_ | refine Ob.g ?_ | refine Ob.e ?_ | refine Ob.m ?_ | refine Ob.mk (Nat.le_of_ble_eq_true rfl) ?_ | refine JoinVC.on ?_ | refine Nils.mk (fun h => ?_) ?_ | refine Val.t ?_ | refine Val.d ?_ | refine Mm.mk ?_ | (refine Br.mk (fun h => ?_) (fun h => ?_) <;> first | (exfalso; omega; done) | (exfalso; simp at h; done) | skip))
    conv => whnf
    refine CallVC.mk [] _ _ _ rfl rfl rfl (s112 c l) (fun r m' h' => ?_)
    rcases h' with ⟨e, he, he0, rfl, rfl⟩ | ⟨h1, h2, rfl, rfl⟩
    · repeat' ((conv => whnf); first | refine Rng.g ?_ | refine Ob.g ?_ | refine Ob.e ?_ | refine Ob.m ?_ | refine Ob.mk (Nat.le_of_ble_eq_true rfl) ?_ | refine JoinVC.on ?_ | refine Nils.mk (fun h => ?_) ?_ | refine Val.t ?_ | refine Val.d ?_ | refine Mm.mk ?_ | (refine Br.mk (fun h => ?_) (fun h => ?_) <;> first | (exfalso; omega; done) | (exfalso; simp at h; done) | skip))
      repeat refine Mm.mk ?_
      conv => whnf
      refine EndVC.mk _ rfl _ _ (.bad e (fun h => he ⟨h.1, h.2.1⟩) he0 rfl rfl) ?_
      refine ⟨[], rfl, rfl, ?_, ?_⟩ <;> repeat' (first | exact trivial | exact rfl | exact Iff.rfl | apply And.intro)
    · exact absurd ⟨h1, h2⟩ hb
  replace hb := Classical.not_not.1 hb
  by_cases hp : 1 ≤ per ∧ per ≤ 65536
  · have c1 := s113 0 per
    rw [if_pos ⟨by decide, hp⟩] at c1
    have ht : ∀ r, 0 ≤ r → r ≤ 4194304 → TrkOK (Trk.at ⟨c, l, 0, per⟩ r) := fun r h1 h2 => ⟨hb.1, hb.2, ⟨h1, h2⟩, hp⟩
    refine spec_of pMix (O := []) Tryz.func35 (c := bodyOf Tryz.f35) rfl (by kernel_rfl) (by kernel_rfl) Tryz.ntmps35 (res := [.tmp 6, .tmp 7]) (by kernel_rfl) ?_
    repeat' ((conv => whnf); first | refine Rng.g ?_ | refine Ob.g ?_ | refine Ob.e ?_ | refine Ob.m ?_ | refine Ob.mk (Nat.le_of_ble_eq_true rfl) ?_ | refine JoinVC.on ?_ | refine Nils.mk (fun h => ?_) ?_ | refine Val.t ?_ | refine Val.d ?_ | refine Mm.mk ?_ | (refine Br.mk (fun h => ?_) (fun h => ?_) <;> first | (exfalso; omega; done) | (exfalso; simp at h; done) | skip))
    conv => whnf
    refine CallVC.mk [] _ _ _ rfl rfl rfl (s112 c l) (fun r m' h' => ?_)
    rcases h' with ⟨e, he, he0, rfl, rfl⟩ | ⟨h1, h2, rfl, rfl⟩
    · exact absurd hb he
    repeat' ((conv => whnf); first | refine Rng.g ?_ | refine Ob.g ?_ | refine Ob.e ?_ | refine Ob.m ?_ | refine Ob.mk (Nat.le_of_ble_eq_true rfl) ?_ | refine JoinVC.on ?_ | refine Nils.mk (fun h => ?_) ?_ | refine Val.t ?_ | refine Val.d ?_ | refine Mm.mk ?_ | refine CallVC.pure rfl (c1) ?_ | refine CallVC0.pure rfl (c1) ?_ | (refine Br.mk (fun h => ?_) (fun h => ?_) <;> first | (exfalso; omega; done) | (exfalso; simp at h; done) | skip))
    conv => whnf
    refine CallVC.mk [1, 2] _ _ _ rfl rfl rfl (s114L ⟨c, l, 0, per⟩ 0 ht) (fun r m' h' => ?_)
    obtain ⟨k, r', hk, hk2, rfl⟩ := h'
    rcases hk2 with ⟨hk3, rfl⟩ | ⟨hk3, rfl⟩
    · repeat' ((conv => whnf); first | refine Rng.g ?_ | refine Ob.g ?_ | refine Ob.e ?_ | refine Ob.m ?_ | refine Ob.mk (Nat.le_of_ble_eq_true rfl) ?_ | refine JoinVC.on ?_ | refine Nils.mk (fun h => ?_) ?_ | refine Val.t ?_ | refine Val.d ?_ | refine Mm.mk ?_ | (refine Br.mk (fun h => ?_) (fun h => ?_) <;> first | (exfalso; omega; done) | (exfalso; simp at h; done) | skip))
      repeat refine Mm.mk ?_
      conv => whnf
      refine EndVC.mk _ rfl _ _ (.none ht (hk.no 4194304 (by decide) hk3) rfl rfl) ?_
      refine ⟨[], rfl, rfl, ?_, ?_⟩ <;> repeat' (first | exact trivial | exact rfl | exact Iff.rfl | apply And.intro)
    · repeat' ((conv => whnf); first | refine Rng.g ?_ | refine Ob.g ?_ | refine Ob.e ?_ | refine Ob.m ?_ | refine Ob.mk (Nat.le_of_ble_eq_true rfl) ?_ | refine JoinVC.on ?_ | refine Nils.mk (fun h => ?_) ?_ | refine Val.t ?_ | refine Val.d ?_ | refine Mm.mk ?_ | (refine Br.mk (fun h => ?_) (fun h => ?_) <;> first | (exfalso; omega; done) | (exfalso; simp at h; done) | skip))
      repeat refine Mm.mk ?_
      conv => whnf
      refine EndVC.mk _ rfl _ _ (.ok ht k hk hk3 rfl rfl) ?_
      refine ⟨[], rfl, rfl, ?_, ?_⟩ <;> repeat' (first | exact trivial | exact rfl | exact Iff.rfl | apply And.intro)
  · have c1 := s113 0 per
    rw [if_neg (fun h => hp h.2)] at c1
    refine spec_of pMix (O := []) Tryz.func35 (c := bodyOf Tryz.f35) rfl (by kernel_rfl) (by kernel_rfl) Tryz.ntmps35 (res := [.tmp 6, .tmp 7]) (by kernel_rfl) ?_
    repeat' ((conv => whnf); first | refine Rng.g ?_ | refine Ob.g ?_ | refine Ob.e ?_ | refine Ob.m ?_ | refine Ob.mk (Nat.le_of_ble_eq_true rfl) ?_ | refine JoinVC.on ?_ | refine Nils.mk (fun h => ?_) ?_ | refine Val.t ?_ | refine Val.d ?_ | refine Mm.mk ?_ | (refine Br.mk (fun h => ?_) (fun h => ?_) <;> first | (exfalso; omega; done) | (exfalso; simp at h; done) | skip))
    conv => whnf
    refine CallVC.mk [] _ _ _ rfl rfl rfl (s112 c l) (fun r m' h' => ?_)
    rcases h' with ⟨e, he, he0, rfl, rfl⟩ | ⟨h1, h2, rfl, rfl⟩
    · exact absurd hb he
    repeat' ((conv => whnf); first | refine Rng.g ?_ | refine Ob.g ?_ | refine Ob.e ?_ | refine Ob.m ?_ | refine Ob.mk (Nat.le_of_ble_eq_true rfl) ?_ | refine JoinVC.on ?_ | refine Nils.mk (fun h => ?_) ?_ | refine Val.t ?_ | refine Val.d ?_ | refine Mm.mk ?_ | refine CallVC.pure rfl (c1) ?_ | refine CallVC0.pure rfl (c1) ?_ | (refine Br.mk (fun h => ?_) (fun h => ?_) <;> first | (exfalso; omega; done) | (exfalso; simp at h; done) | skip))
    repeat refine Mm.mk ?_
    conv => whnf
    refine EndVC.mk _ rfl _ _ (.bad 3 (fun h => hp h.2.2) (by decide) rfl rfl) ?_
    refine ⟨[], rfl, rfl, ?_, ?_⟩ <;> repeat' (first | exact trivial | exact rfl | exact Iff.rfl | apply And.intro)
theorem s44 (c : Cut) (l : List Smp) (per : Int) (i : Nat) (hC : CutOK c) (hP : PtsOK l) (hp : 1 ≤ per ∧ per ≤ 65536) (hi : i < l.length) : HSpec Tryz.prog 44 [c.x, lS l, I per, I (i : Int)] [] (fun r m' => ∃ k, Least (pN ⟨c, l, 0, per⟩ i) 4194305 k ∧ ((4194304 < k ∧ r = .tup [I 0, I 14]) ∨ (k ≤ 4194304 ∧ r = .tup [I k, I 0])) ∧ m' = []) := by
  have lp := smpA_len l
  have c1 := s113 0 per
  rw [if_pos ⟨by decide, hp⟩] at c1
  have ht : ∀ r, 0 ≤ r → r ≤ 4194304 → TrkOK (Trk.at ⟨c, l, 0, per⟩ r) := fun r h1 h2 => ⟨hC, hP, ⟨h1, h2⟩, hp⟩
  refine spec_of pMix (O := []) Tryz.func44 (c := bodyOf Tryz.f44) rfl (by kernel_rfl) (by kernel_rfl) Tryz.ntmps44 (res := [.tmp 8, .tmp 9]) (by kernel_rfl) ?_
  repeat' ((conv => whnf); first | refine Rng.g ?_ | refine Ob.g ?_ | refine Ob.e ?_ | refine Ob.m ?_ | refine Ob.mk (Nat.le_of_ble_eq_true rfl) ?_ | refine JoinVC.on ?_ | refine Nils.mk (fun h => ?_) ?_ | refine Val.t ?_ | refine Val.d ?_ | refine Mm.mk ?_ | (refine Br.mk (fun h => ?_) (fun h => ?_) <;> first | (exfalso; omega; done) | (exfalso; simp at h; done) | skip))
  conv => whnf
  refine CallVC.mk [] _ _ _ rfl rfl rfl (s112 c l) (fun r m' h' => ?_)
  rcases h' with ⟨e, he, he0, rfl, rfl⟩ | ⟨h1, h2, rfl, rfl⟩
  · exact absurd ⟨hC, hP⟩ he
  repeat' ((conv => whnf); first | refine Rng.g ?_ | refine Ob.g ?_ | refine Ob.e ?_ | refine Ob.m ?_ | refine Ob.mk (Nat.le_of_ble_eq_true rfl) ?_ | refine JoinVC.on ?_ | refine Nils.mk (fun h => ?_) ?_ | refine Val.t ?_ | refine Val.d ?_ | refine Mm.mk ?_ | refine CallVC.pure rfl (c1) ?_ | refine CallVC0.pure rfl (c1) ?_ | (refine Br.mk (fun h => ?_) (fun h => ?_) <;> first | (exfalso; omega; done) | (exfalso; simp at h; done) | skip))
  conv => whnf
  refine CallVC.mk [2, 3, 1] _ _ _ rfl rfl rfl (s114N ⟨c, l, 0, per⟩ 0 i hi ht) (fun r m' h' => ?_)
  obtain ⟨k, r', hk, hk2, rfl⟩ := h'
  rcases hk2 with ⟨hk3, rfl⟩ | ⟨hk3, rfl⟩
  · repeat' ((conv => whnf); first | refine Rng.g ?_ | refine Ob.g ?_ | refine Ob.e ?_ | refine Ob.m ?_ | refine Ob.mk (Nat.le_of_ble_eq_true rfl) ?_ | refine JoinVC.on ?_ | refine Nils.mk (fun h => ?_) ?_ | refine Val.t ?_ | refine Val.d ?_ | refine Mm.mk ?_ | (refine Br.mk (fun h => ?_) (fun h => ?_) <;> first | (exfalso; omega; done) | (exfalso; simp at h; done) | skip))
    repeat refine Mm.mk ?_
    conv => whnf
    refine EndVC.mk _ rfl _ _ (⟨k, hk, .inl ⟨hk3, rfl⟩, rfl⟩) ?_
    refine ⟨[], rfl, rfl, ?_, ?_⟩ <;> repeat' (first | exact trivial | exact rfl | exact Iff.rfl | apply And.intro)
  · repeat' ((conv => whnf); first | refine Rng.g ?_ | refine Ob.g ?_ | refine Ob.e ?_ | refine Ob.m ?_ | refine Ob.mk (Nat.le_of_ble_eq_true rfl) ?_ | refine JoinVC.on ?_ | refine Nils.mk (fun h => ?_) ?_ | refine Val.t ?_ | refine Val.d ?_ | refine Mm.mk ?_ | (refine Br.mk (fun h => ?_) (fun h => ?_) <;> first | (exfalso; omega; done) | (exfalso; simp at h; done) | skip))
    repeat refine Mm.mk ?_
    conv => whnf
    refine EndVC.mk _ rfl _ _ (⟨k, hk, .inr ⟨hk3, rfl⟩, rfl⟩) ?_
    refine ⟨[], rfl, rfl, ?_, ?_⟩ <;> repeat' (first | exact trivial | exact rfl | exact Iff.rfl | apply And.intro)
theorem s51 (c : Cut) (l : List Smp) (r per : Int) (hC : CutOK c) (hP : PtsOK l) (hr : 0 ≤ r ∧ r ≤ 4194304) (hp : 1 ≤ per ∧ per ≤ 65536) : HSpec Tryz.prog 51 [c.x, lS l, I r, I per] [] (fun x m' => ∃ (i : Nat) (k : Int), FaultIs ⟨c, l, r, per⟩ i k ∧ ((k = 0 ∧ x = .tup [I 0, I 0, I 5]) ∨ (k ≠ 0 ∧ x = .tup [I (i : Int), I k, I 0])) ∧ m' = []) := by
  have c1 := s113 r per
  rw [if_pos ⟨hr, hp⟩] at c1
  refine spec_of pMix (O := []) Tryz.func51 (c := bodyOf Tryz.f51) rfl (by kernel_rfl) (by kernel_rfl) Tryz.ntmps51 (res := [.tmp 8, .tmp 9, .tmp 10]) (by kernel_rfl) ?_
  repeat' ((conv => whnf); first | refine Rng.g ?_ | refine Ob.g ?_ | refine Ob.e ?_ | refine Ob.m ?_ | refine Ob.mk (Nat.le_of_ble_eq_true rfl) ?_ | refine JoinVC.on ?_ | refine Nils.mk (fun h => ?_) ?_ | refine Val.t ?_ | refine Val.d ?_ | refine Mm.mk ?_ | (refine Br.mk (fun h => ?_) (fun h => ?_) <;> first | (exfalso; omega; done) | (exfalso; simp at h; done) | skip))
  conv => whnf
  refine CallVC.mk [] _ _ _ rfl rfl rfl (s112 c l) (fun r m' h' => ?_)
  rcases h' with ⟨e, he, he0, rfl, rfl⟩ | ⟨h1, h2, rfl, rfl⟩
  · exact absurd ⟨hC, hP⟩ he
  repeat' ((conv => whnf); first | refine Rng.g ?_ | refine Ob.g ?_ | refine Ob.e ?_ | refine Ob.m ?_ | refine Ob.mk (Nat.le_of_ble_eq_true rfl) ?_ | refine JoinVC.on ?_ | refine Nils.mk (fun h => ?_) ?_ | refine Val.t ?_ | refine Val.d ?_ | refine Mm.mk ?_ | refine CallVC.pure rfl (c1) ?_ | refine CallVC0.pure rfl (c1) ?_ | (refine Br.mk (fun h => ?_) (fun h => ?_) <;> first | (exfalso; omega; done) | (exfalso; simp at h; done) | skip))
  conv => whnf
  refine CallVC.mk [] _ _ _ rfl rfl rfl (s116 ⟨c, l, r, per⟩ ⟨hC, hP, hr, hp⟩) (fun r m' h' => ?_)
  obtain ⟨i, k, hF, rfl, rfl⟩ := h'
  conv => whnf
  repeat' ((conv => whnf); first | refine Rng.g ?_ | refine Ob.g ?_ | refine Ob.e ?_ | refine Ob.m ?_ | refine Ob.mk (Nat.le_of_ble_eq_true rfl) ?_ | refine JoinVC.on ?_ | refine Nils.mk (fun h => ?_) ?_ | refine Val.t ?_ | refine Val.d ?_ | refine Mm.mk ?_ | (refine Br.mk (fun h => ?_) (fun h => ?_) <;> first | (exfalso; omega; done) | (exfalso; simp at h; done) | skip))
  · repeat refine Mm.mk ?_
    conv => whnf
    refine EndVC.mk _ rfl _ _ (⟨i, k, hF, .inl ⟨h, rfl⟩, rfl⟩) ?_
    refine ⟨[], rfl, rfl, ?_, ?_⟩ <;> repeat' (first | exact trivial | exact rfl | exact Iff.rfl | apply And.intro)
  · repeat refine Mm.mk ?_
    conv => whnf
    refine EndVC.mk _ rfl _ _ (⟨i, k, hF, .inr ⟨h, rfl⟩, rfl⟩) ?_
    refine ⟨[], rfl, rfl, ?_, ?_⟩ <;> repeat' (first | exact trivial | exact rfl | exact Iff.rfl | apply And.intro)
end Go.Sx

namespace Go.Sx
open Go Go.Proofs
set_option maxRecDepth 10000
set_option maxHeartbeats 4000000
theorem e22 : EntersF Tryz.prog 22 := enters_of Tryz.func22 (c := bodyOf Tryz.f22) (by kernel_rfl) rfl
theorem e25 : EntersF Tryz.prog 25 := enters_of Tryz.func25 (c := bodyOf Tryz.f25) (by kernel_rfl) rfl
theorem e27 : EntersF Tryz.prog 27 := enters_of Tryz.func27 (c := bodyOf Tryz.f27) (by kernel_rfl) rfl
theorem e28 : EntersF Tryz.prog 28 := enters_of Tryz.func28 (c := bodyOf Tryz.f28) (by kernel_rfl) rfl
theorem e31 : EntersF Tryz.prog 31 := enters_of Tryz.func31 (c := bodyOf Tryz.f31) (by kernel_rfl) rfl
theorem e3 : EntersF Tryz.prog 3 := enters_of Tryz.func3 (c := bodyOf Tryz.f3) (by kernel_rfl) rfl
theorem smp_ext {a b : Smp} (h1 : a.l = b.l) (h2 : a.r = b.r) : a = b := by cases a; cases b; cases h1; cases h2; rfl
theorem list_ext' {α : Type} {a b : List α} {d : α} (h1 : a.length = b.length) (h2 : ∀ j, j < a.length → a.getD j d = b.getD j d) : a = b := by
  refine List.ext_getElem h1 fun j h3 h4 => ?_
  have := h2 j h3
  simpa [List.getD_eq_getElem?_getD, h3, h4] using this
noncomputable instance (a b : List Smp) : Decidable (a = b) := Classical.propDecidable _
theorem s27 (a b : List Smp) (hla : a.length ≤ 1000000) : PSpec Tryz.prog 27 [lS a, lS b] (xP (a = b)) := by
  have la := smpA_len a
  have lb := smpA_len b
  by_cases hl : a.length = b.length
  · refine spec_of pMix (O := []) Tryz.func27 (c := bodyOf Tryz.f27) rfl (by kernel_rfl) (by kernel_rfl) Tryz.ntmps27 (res := [.tmp 4]) (by kernel_rfl) ?_
    repeat' ((conv => whnf); first | refine Rng.g ?_ | refine Ob.g ?_ | refine Ob.e ?_ | refine Ob.m ?_ | refine Ob.mk (Nat.le_of_ble_eq_true rfl) ?_ | refine JoinVC.on ?_ | refine Nils.mk (fun h => ?_) ?_ | refine Val.t ?_ | refine Val.d ?_ | refine Mm.mk ?_ | (refine Br.mk (fun h => ?_) (fun h => ?_) <;> first | (exfalso; omega; done) | (exfalso; simp at h; done) | skip))
    refine LoopVC.mk (fun n st => ∃ (i : Nat), i ≤ a.length ∧ n = a.length - i ∧ (∀ j, j < i → a.getD j s0 = b.getD j s0) ∧ st = ⟨0, envA 26 [(0, .x (lS a)), (1, .x (lS b)), (5, .int .i64 (i : Int))], []⟩) _ _ ⟨0, Nat.zero_le _, rfl, fun j hj => absurd hj (Nat.not_lt_zero j), rfl⟩ ?_ ?_
    · refine ⟨[], rfl, rfl, ?_, ?_⟩ <;> repeat' (first | exact trivial | exact rfl | exact Iff.rfl | apply And.intro)
    rintro n _ ⟨i, hi, hn, hj, rfl⟩
    have g0 : rI (smpA a) (i : Int).toNat 0 = (a.getD i s0).l := by rw [Int.toNat_natCast]; exact smpA_l a i
    have g1 : rI (smpA a) (i : Int).toNat (0 + 1) = (a.getD i s0).r := by rw [Int.toNat_natCast]; exact smpA_r a i
    have g2 : rI (smpA b) (i : Int).toNat 0 = (b.getD i s0).l := by rw [Int.toNat_natCast]; exact smpA_l b i
    have g3 : rI (smpA b) (i : Int).toNat (0 + 1) = (b.getD i s0).r := by rw [Int.toNat_natCast]; exact smpA_r b i
    by_cases hi' : i < a.length
    · repeat' ((conv => whnf); first | refine Rng.g ?_ | refine Ob.g ?_ | refine Ob.e ?_ | refine Ob.m ?_ | refine Ob.mk (Nat.le_of_ble_eq_true rfl) ?_ | refine JoinVC.on ?_ | refine Nils.mk (fun h => ?_) ?_ | refine Val.t ?_ | refine Val.d ?_ | refine Mm.mk ?_ | (refine Br.mk (fun h => ?_) (fun h => ?_) <;> first | (exfalso; omega; done) | (exfalso; simp at h; done) | skip))
      · repeat refine Mm.mk ?_
        refine EndVC.mk _ rfl _ _ ⟨rfl, rfl⟩ ?_
        refine ⟨[], rfl, rfl, ?_, ?_⟩ <;> repeat' (first | exact trivial | exact rfl | exact Iff.rfl | apply And.intro)
        refine fun e => h ?_
        show rI (smpA a) _ _ = rI (smpA b) _ _ ∧ rI (smpA a) _ _ = rI (smpA b) _ _ ∧ True
        rw [show a = b from e]
        exact ⟨rfl, rfl, trivial⟩
      · have h2 : rI (smpA a) (i : Int).toNat 0 = rI (smpA b) (i : Int).toNat 0 ∧ rI (smpA a) (i : Int).toNat (0 + 1) = rI (smpA b) (i : Int).toNat (0 + 1) ∧ True := Classical.not_not.1 h
        rw [g0, g1, g2, g3] at h2
        refine Back.mk (a.length - (i + 1)) _ (by omega) ⟨i + 1, by omega, rfl, fun j hj' => ?_, rfl⟩ ?_
        · rcases Nat.lt_succ_iff_lt_or_eq.1 hj' with h' | rfl
          · exact hj j h'
          · exact smp_ext h2.1 h2.2.1
        · refine ⟨[], rfl, rfl, ?_, ?_⟩ <;> repeat' (first | exact trivial | exact rfl | exact Iff.rfl | apply And.intro)
    · repeat' ((conv => whnf); first | refine Rng.g ?_ | refine Ob.g ?_ | refine Ob.e ?_ | refine Ob.m ?_ | refine Ob.mk (Nat.le_of_ble_eq_true rfl) ?_ | refine JoinVC.on ?_ | refine Nils.mk (fun h => ?_) ?_ | refine Val.t ?_ | refine Val.d ?_ | refine Mm.mk ?_ | (refine Br.mk (fun h => ?_) (fun h => ?_) <;> first | (exfalso; omega; done) | (exfalso; simp at h; done) | skip))
      repeat refine Mm.mk ?_
      refine EndVC.mk _ rfl _ _ ⟨rfl, rfl⟩ ?_
      refine ⟨[], rfl, rfl, ?_, ?_⟩ <;> repeat' (first | exact trivial | exact rfl | exact Iff.rfl | apply And.intro)
      exact list_ext' hl fun j hj' => hj j (by omega)
  · refine spec_of pMix (O := []) Tryz.func27 (c := bodyOf Tryz.f27) rfl (by kernel_rfl) (by kernel_rfl) Tryz.ntmps27 (res := [.tmp 4]) (by kernel_rfl) ?_
    repeat' ((conv => whnf); first | refine Rng.g ?_ | refine Ob.g ?_ | refine Ob.e ?_ | refine Ob.m ?_ | refine Ob.mk (Nat.le_of_ble_eq_true rfl) ?_ | refine JoinVC.on ?_ | refine Nils.mk (fun h => ?_) ?_ | refine Val.t ?_ | refine Val.d ?_ | refine Mm.mk ?_ | (refine Br.mk (fun h => ?_) (fun h => ?_) <;> first | (exfalso; omega; done) | (exfalso; simp at h; done) | skip))
    repeat refine Mm.mk ?_
    refine EndVC.mk _ rfl _ _ ⟨rfl, rfl⟩ ?_
    refine ⟨[], rfl, rfl, ?_, ?_⟩ <;> repeat' (first | exact trivial | exact rfl | exact Iff.rfl | apply And.intro)
    exact fun e => hl (by rw [show a = b from e])
@[reducible] def rowI (l : List Int) : Blk := rowL l
/-- Both channels. -/
def chL (s : List Smp) : List Int := s.map Smp.l
def chR (s : List Smp) : List Int := s.map Smp.r
theorem chL_take (s : List Smp) (i : Nat) (h : i < s.length) : i64s (chL (s.take i)) ++ [[.int (s.getD i s0).l]] = i64s (chL (s.take (i + 1))) := by
  rw [take_snoc s i s0 h, chL, chL, List.map_append]; exact (i64s_snoc _ _).symm
theorem chR_take (s : List Smp) (i : Nat) (h : i < s.length) : i64s (chR (s.take i)) ++ [[.int (s.getD i s0).r]] = i64s (chR (s.take (i + 1))) := by
  rw [take_snoc s i s0 h, chR, chR, List.map_append]; exact (i64s_snoc _ _).symm
theorem s28 (s : List Smp) (hl : s.length ≤ 100000) : HSpec Tryz.prog 28 [lS s] [] (fun r m' => r = .tup [.one (.own 0), .one (.own 1)] ∧ m' = [some (rowL (chL s)), some (rowL (chR s))]) := by
  have ls := smpA_len s
  refine spec_of pMix (O := [(5, ([], [⟨0, [], []⟩, ⟨1, [], []⟩, ⟨2, [], []⟩, ⟨3, [], []⟩, ⟨4, [], []⟩, ⟨5, [], [6]⟩, ⟨8, [], []⟩, ⟨9, [], []⟩, ⟨10, [], []⟩, ⟨11, [], []⟩, ⟨12, [], []⟩, ⟨13, [], [14]⟩, ⟨6, [], []⟩, ⟨7, [8, 9, 10, 11, 12, 13], []⟩, ⟨14, [], []⟩, ⟨15, [], []⟩, ⟨16, [], []⟩, ⟨17, [], []⟩]))]) Tryz.func28 (c := bodyOf Tryz.f28) rfl (by kernel_rfl) (by kernel_rfl) Tryz.ntmps28 (res := [.tmp 2, .tmp 3]) (by kernel_rfl) ?_
  repeat' ((conv => whnf); first | refine Rng.g ?_ | refine Ob.g ?_ | refine Ob.e ?_ | refine Ob.m ?_ | refine Ob.mk (Nat.le_of_ble_eq_true rfl) ?_ | refine JoinVC.on ?_ | refine Nils.mk (fun h => ?_) ?_ | refine Val.t ?_ | refine Val.d ?_ | refine Mm.mk ?_ | (refine Br.mk (fun h => ?_) (fun h => ?_) <;> first | (exfalso; omega; done) | (exfalso; simp at h; done) | skip))
  refine LoopVC.mk (fun n st => ∃ (i : Nat), i ≤ s.length ∧ n = s.length - i ∧ st = ⟨0, envA 31 [(0, .x (lS s)), (4, .x (.one (.own 0))), (5, .x (.one (.own 1))), (6, .int .i64 (i : Int))], [some (rowL (chL (s.take i))), some (rowL (chR (s.take i)))]⟩) _ _ ⟨0, Nat.zero_le _, rfl, rfl⟩ ?_ ?_
  · refine ⟨[none, none], rfl, rfl, ?_, ?_⟩ <;> repeat' (first | exact trivial | exact rfl | exact Iff.rfl | apply And.intro)
  rintro n _ ⟨i, hi, hn, rfl⟩
  have e1 : (i64s (chL (s.take i))).length = i := by rw [i64s_len, chL, List.length_map, List.length_take]; omega
  have e2 : (i64s (chR (s.take i))).length = i := by rw [i64s_len, chR, List.length_map, List.length_take]; omega
  by_cases hi' : i < s.length
  · have g0 : rI (smpA s) (i : Int).toNat (0 + 0) = (s.getD i s0).l := by rw [Int.toNat_natCast]; exact smpA_l s i
    have g1 : rI (smpA s) (i : Int).toNat (0 + (0 + 1)) = (s.getD i s0).r := by rw [Int.toNat_natCast]; exact smpA_r s i
    repeat' ((conv => whnf); first | refine Rng.g ?_ | refine Ob.g ?_ | refine Ob.e ?_ | refine Ob.m ?_ | refine Ob.mk (Nat.le_of_ble_eq_true rfl) ?_ | refine JoinVC.on ?_ | refine Nils.mk (fun h => ?_) ?_ | refine Val.t ?_ | refine Val.d ?_ | refine Mm.mk ?_ | (refine Br.mk (fun h => ?_) (fun h => ?_) <;> first | (exfalso; omega; done) | (exfalso; simp at h; done) | skip))
    repeat refine Mm.mk ?_
    refine Ob.mk (by simp only [e1, eb2, List.length_cons, List.length_nil]; omega) ?_
    repeat' ((conv => whnf); first | rw [g0] | refine Rng.g ?_ | refine Ob.g ?_ | refine Ob.e ?_ | refine Ob.m ?_ | refine Ob.mk (Nat.le_of_ble_eq_true rfl) ?_ | refine JoinVC.on ?_ | refine Nils.mk (fun h => ?_) ?_ | refine Val.t ?_ | refine Val.d ?_ | refine Mm.mk ?_ | (refine Br.mk (fun h => ?_) (fun h => ?_) <;> first | (exfalso; omega; done) | (exfalso; simp at h; done) | skip))
    repeat refine Mm.mk ?_
    refine Ob.mk (by simp only [e2, eb2, List.length_cons, List.length_nil]; omega) ?_
    repeat' ((conv => whnf); first | rw [g1] | refine Rng.g ?_ | refine Ob.g ?_ | refine Ob.e ?_ | refine Ob.m ?_ | refine Ob.mk (Nat.le_of_ble_eq_true rfl) ?_ | refine JoinVC.on ?_ | refine Nils.mk (fun h => ?_) ?_ | refine Val.t ?_ | refine Val.d ?_ | refine Mm.mk ?_ | (refine Br.mk (fun h => ?_) (fun h => ?_) <;> first | (exfalso; omega; done) | (exfalso; simp at h; done) | skip))
    refine Back.mk (s.length - (i + 1)) _ (by omega) ⟨i + 1, by omega, rfl, rfl⟩ ?_
    refine ⟨[some 3, some 5], rfl, rfl, ?_, ?_⟩ <;> repeat' (first | exact trivial | exact rfl | exact Iff.rfl | apply And.intro)
    · exact chL_take s i hi'
    · exact chR_take s i hi'
  · repeat' ((conv => whnf); first | refine Rng.g ?_ | refine Ob.g ?_ | refine Ob.e ?_ | refine Ob.m ?_ | refine Ob.mk (Nat.le_of_ble_eq_true rfl) ?_ | refine JoinVC.on ?_ | refine Nils.mk (fun h => ?_) ?_ | refine Val.t ?_ | refine Val.d ?_ | refine Mm.mk ?_ | (refine Br.mk (fun h => ?_) (fun h => ?_) <;> first | (exfalso; omega; done) | (exfalso; simp at h; done) | skip))
    have e : s.take i = s := List.take_of_length_le (by omega)
    rw [e]
    repeat refine Mm.mk ?_
    refine EndVC.mk _ rfl _ _ ⟨rfl, rfl⟩ ?_
    refine ⟨[some 0, some 1], rfl, rfl, ?_, ?_⟩ <;> repeat' (first | exact trivial | exact rfl | exact Iff.rfl | apply And.intro)
def joinS (a b : List Int) : List Smp := (List.range (min a.length b.length)).map fun i => ⟨a.getD i 0, b.getD i 0⟩
theorem joinS_len (a b : List Int) : (joinS a b).length = min a.length b.length := by simp [joinS]
theorem joinS_get (a b : List Int) (i : Nat) (h : i < min a.length b.length) : (joinS a b).getD i s0 = ⟨a.getD i 0, b.getD i 0⟩ := by simp only [joinS, List.getD_eq_getElem?_getD, List.getElem?_map, List.getElem?_range h]; rfl
theorem joinS_take (a b : List Int) (i : Nat) (h : i < min a.length b.length) : smpA ((joinS a b).take i) ++ [[.int (a.getD i 0), .int (b.getD i 0)]] = smpA ((joinS a b).take (i + 1)) := by
  rw [take_snoc (joinS a b) i s0 (by rw [joinS_len]; exact h), smpA_snoc, joinS_get a b i h]
theorem s31 (a b : List Int) (hl : a.length ≤ 100000) : HSpec Tryz.prog 31 [lL a, lL b] [] (fun r m' => r = .x (.one (.own 0)) ∧ m' = [some (rowS (joinS a b))]) := by
  have la := i64s_len a
  have lb := i64s_len b
  have lj := joinS_len a b
  refine spec_of pMix (O := [(5, ([], [⟨0, [], []⟩, ⟨1, [], []⟩, ⟨2, [], []⟩, ⟨3, [], []⟩, ⟨4, [], []⟩, ⟨5, [], []⟩, ⟨6, [], []⟩, ⟨7, [], []⟩, ⟨8, [], []⟩, ⟨9, [], [10]⟩, ⟨10, [], []⟩, ⟨11, [], []⟩, ⟨12, [], []⟩]))]) Tryz.func31 (c := bodyOf Tryz.f31) rfl (by kernel_rfl) (by kernel_rfl) Tryz.ntmps31 (res := [.tmp 4]) (by kernel_rfl) ?_
  repeat' ((conv => whnf); first | refine Rng.g ?_ | refine Ob.g ?_ | refine Ob.e ?_ | refine Ob.m ?_ | refine Ob.mk (Nat.le_of_ble_eq_true rfl) ?_ | refine JoinVC.on ?_ | refine Nils.mk (fun h => ?_) ?_ | refine Val.t ?_ | refine Val.d ?_ | refine Mm.mk ?_ | (refine Br.mk (fun h => ?_) (fun h => ?_) <;> first | (exfalso; omega; done) | (exfalso; simp at h; done) | skip))
  refine LoopVC.mk (fun n st => ∃ (i : Nat), i ≤ min a.length b.length ∧ n = min a.length b.length - i ∧ st = ⟨0, envA 32 [(0, .x (lL a)), (1, .x (lL b)), (5, .x (.one (.own 0))), (6, .int .i64 (i : Int))], [some (rowS ((joinS a b).take i))]⟩) _ _ ⟨0, Nat.zero_le _, rfl, rfl⟩ ?_ ?_
  · refine ⟨[none], rfl, rfl, ?_, ?_⟩ <;> repeat' (first | exact trivial | exact rfl | exact Iff.rfl | apply And.intro)
  rintro n _ ⟨i, hi, hn, rfl⟩
  have e1 : (smpA ((joinS a b).take i)).length = i := by rw [smpA_len, List.length_take]; omega
  by_cases hi' : i < min a.length b.length
  · have g0 : rI (i64s a) (i : Int).toNat 0 = a.getD i 0 := by rw [Int.toNat_natCast]; exact i64s_get a i
    have g1 : rI (i64s b) (i : Int).toNat 0 = b.getD i 0 := by rw [Int.toNat_natCast]; exact i64s_get b i
    repeat' ((conv => whnf); first | refine Rng.g ?_ | refine Ob.g ?_ | refine Ob.e ?_ | refine Ob.m ?_ | refine Ob.mk (Nat.le_of_ble_eq_true rfl) ?_ | refine JoinVC.on ?_ | refine Nils.mk (fun h => ?_) ?_ | refine Val.t ?_ | refine Val.d ?_ | refine Mm.mk ?_ | (refine Br.mk (fun h => ?_) (fun h => ?_) <;> first | (exfalso; omega; done) | (exfalso; simp at h; done) | skip))
    repeat refine Mm.mk ?_
    refine Ob.mk (by simp only [e1, eb47, List.length_cons, List.length_nil]; omega) ?_
    repeat' ((conv => whnf); first | rw [g0] | rw [g1] | refine Rng.g ?_ | refine Ob.g ?_ | refine Ob.e ?_ | refine Ob.m ?_ | refine Ob.mk (Nat.le_of_ble_eq_true rfl) ?_ | refine JoinVC.on ?_ | refine Nils.mk (fun h => ?_) ?_ | refine Val.t ?_ | refine Val.d ?_ | refine Mm.mk ?_ | (refine Br.mk (fun h => ?_) (fun h => ?_) <;> first | (exfalso; omega; done) | (exfalso; simp at h; done) | skip))
    refine Back.mk (min a.length b.length - (i + 1)) _ (by omega) ⟨i + 1, by omega, rfl, rfl⟩ ?_
    refine ⟨[some 2], rfl, rfl, ?_, ?_⟩ <;> repeat' (first | exact trivial | exact rfl | exact Iff.rfl | apply And.intro)
    exact joinS_take a b i hi'
  · have e : (joinS a b).take i = joinS a b := List.take_of_length_le (by omega)
    rw [e]
    repeat' ((conv => whnf); first | refine Rng.g ?_ | refine Ob.g ?_ | refine Ob.e ?_ | refine Ob.m ?_ | refine Ob.mk (Nat.le_of_ble_eq_true rfl) ?_ | refine JoinVC.on ?_ | refine Nils.mk (fun h => ?_) ?_ | refine Val.t ?_ | refine Val.d ?_ | refine Mm.mk ?_ | (refine Br.mk (fun h => ?_) (fun h => ?_) <;> first | (exfalso; omega; done) | (exfalso; simp at h; done) | skip))
    all_goals
      repeat refine Mm.mk ?_
      refine EndVC.mk _ rfl _ _ ⟨rfl, rfl⟩ ?_
      refine ⟨[some 0], rfl, rfl, ?_, ?_⟩ <;> repeat' (first | exact trivial | exact rfl | exact Iff.rfl | apply And.intro)
end Go.Sx

namespace Go.Sx
open Go Go.Proofs
set_option maxRecDepth 10000
set_option maxHeartbeats 4000000
/-- A programme that is not too long. -/
structure PgOK (T : List Tak) (l : List Prt) : Prop where
  len : l.length ≤ 6
  ok : ProgOK T l
  stop : endP l ≤ 200
  good : smpE (rend T l) = 0
inductive PgRs (T : List Tak) (l : List Prt) (r : AV) (m' : List (Option Blk)) : Prop
  | no (h : ¬ PgOK T l) (hr : r = .tup [.one .nils, .one (.prp False inferInstance)]) (hm : m' = [])
  | yes (h : PgOK T l) (hr : r = .tup [.one (.own 0), .one (.prp True inferInstance)]) (hm : m' = [some (rowS (rend T l))])
theorem s22 (T : List Tak) (l : List Prt) (hI : TakI T) : HSpec Tryz.prog 22 [lT T, lP l] [] (PgRs T l) := by
  have ll := prtA_len l
  by_cases h6 : l.length ≤ 6
  · by_cases hP : ProgOK T l
    · refine spec_of pMix (O := []) Tryz.func22 (c := bodyOf Tryz.f22) rfl (by kernel_rfl) (by kernel_rfl) Tryz.ntmps22 (res := [.tmp 4, .tmp 5]) (by kernel_rfl) ?_
      repeat' ((conv => whnf); first | refine Rng.g ?_ | refine Ob.g ?_ | refine Ob.e ?_ | refine Ob.m ?_ | refine Ob.mk (Nat.le_of_ble_eq_true rfl) ?_ | refine JoinVC.on ?_ | refine Nils.mk (fun h => ?_) ?_ | refine Val.t ?_ | refine Val.d ?_ | refine Mm.mk ?_ | (refine Br.mk (fun h => ?_) (fun h => ?_) <;> first | (exfalso; omega; done) | (exfalso; simp at h; done) | skip))
      conv => whnf
      refine CallVC.mk [] _ _ _ rfl rfl rfl (s36 T l hI) (fun r m' h' => ?_)
      obtain ⟨e, rfl, rfl, he⟩ := h'
      conv => whnf
      cases he.2 hP
      repeat' ((conv => whnf); first | refine Rng.g ?_ | refine Ob.g ?_ | refine Ob.e ?_ | refine Ob.m ?_ | refine Ob.mk (Nat.le_of_ble_eq_true rfl) ?_ | refine JoinVC.on ?_ | refine Nils.mk (fun h => ?_) ?_ | refine Val.t ?_ | refine Val.d ?_ | refine Mm.mk ?_ | (refine Br.mk (fun h => ?_) (fun h => ?_) <;> first | (exfalso; omega; done) | (exfalso; simp at h; done) | skip))
      conv => whnf
      refine CallVC.mk [] _ _ _ rfl rfl rfl (s37 T l hI hP) (fun r m' h' => ?_)
      obtain ⟨rfl, rfl⟩ := h'
      conv => whnf
      repeat' ((conv => whnf); first | refine Rng.g ?_ | refine Ob.g ?_ | refine Ob.e ?_ | refine Ob.m ?_ | refine Ob.mk (Nat.le_of_ble_eq_true rfl) ?_ | refine JoinVC.on ?_ | refine Nils.mk (fun h => ?_) ?_ | refine Val.t ?_ | refine Val.d ?_ | refine Mm.mk ?_ | (refine Br.mk (fun h => ?_) (fun h => ?_) <;> first | (exfalso; omega; done) | (exfalso; simp at h; done) | skip))
      · repeat refine Mm.mk ?_
        conv => whnf
        refine EndVC.mk _ rfl _ _ (.no (fun h2 => by have := h2.stop; omega) rfl rfl) ?_
        refine ⟨[], rfl, rfl, ?_, ?_⟩ <;> repeat' (first | exact trivial | exact rfl | exact Iff.rfl | apply And.intro)
        exact id
      · have h200 : endP l ≤ 200 := by omega
        conv => whnf
        refine CallVC.mk [] _ _ _ rfl rfl rfl (s98 T l hI hP) (fun r m' h' => ?_)
        rcases h' with ⟨h1, rfl, rfl⟩ | ⟨h1, rfl, rfl⟩
        · repeat' ((conv => whnf); first | refine Rng.g ?_ | refine Ob.g ?_ | refine Ob.e ?_ | refine Ob.m ?_ | refine Ob.mk (Nat.le_of_ble_eq_true rfl) ?_ | refine JoinVC.on ?_ | refine Nils.mk (fun h => ?_) ?_ | refine Val.t ?_ | refine Val.d ?_ | refine Mm.mk ?_ | (refine Br.mk (fun h => ?_) (fun h => ?_) <;> first | (exfalso; omega; done) | (exfalso; simp at h; done) | skip))
          repeat refine Mm.mk ?_
          conv => whnf
          refine EndVC.mk _ rfl _ _ (.yes ⟨h6, hP, h200, h1⟩ rfl rfl) ?_
          refine ⟨[some 1], rfl, rfl, ?_, ?_⟩ <;> repeat' (first | exact trivial | exact rfl | exact Iff.rfl | apply And.intro)
          exact ⟨fun _ => trivial, fun _ => rfl⟩
        · repeat' ((conv => whnf); first | refine Rng.g ?_ | refine Ob.g ?_ | refine Ob.e ?_ | refine Ob.m ?_ | refine Ob.mk (Nat.le_of_ble_eq_true rfl) ?_ | refine JoinVC.on ?_ | refine Nils.mk (fun h => ?_) ?_ | refine Val.t ?_ | refine Val.d ?_ | refine Mm.mk ?_ | (refine Br.mk (fun h => ?_) (fun h => ?_) <;> first | (exfalso; omega; done) | (exfalso; simp at h; done) | skip))
          repeat refine Mm.mk ?_
          conv => whnf
          refine EndVC.mk _ rfl _ _ (.no (fun h2 => h1 h2.good) rfl rfl) ?_
          refine ⟨[], rfl, rfl, ?_, ?_⟩ <;> repeat' (first | exact trivial | exact rfl | exact Iff.rfl | apply And.intro)
          exact ⟨fun h2 => absurd h2 (by decide), fun h2 => h2.elim⟩
    · refine spec_of pMix (O := []) Tryz.func22 (c := bodyOf Tryz.f22) rfl (by kernel_rfl) (by kernel_rfl) Tryz.ntmps22 (res := [.tmp 4, .tmp 5]) (by kernel_rfl) ?_
      repeat' ((conv => whnf); first | refine Rng.g ?_ | refine Ob.g ?_ | refine Ob.e ?_ | refine Ob.m ?_ | refine Ob.mk (Nat.le_of_ble_eq_true rfl) ?_ | refine JoinVC.on ?_ | refine Nils.mk (fun h => ?_) ?_ | refine Val.t ?_ | refine Val.d ?_ | refine Mm.mk ?_ | (refine Br.mk (fun h => ?_) (fun h => ?_) <;> first | (exfalso; omega; done) | (exfalso; simp at h; done) | skip))
      conv => whnf
      refine CallVC.mk [] _ _ _ rfl rfl rfl (s36 T l hI) (fun r m' h' => ?_)
      obtain ⟨e, rfl, rfl, he⟩ := h'
      conv => whnf
      have he0 : e ≠ 0 := fun h0 => hP (he.1 h0)
      repeat' ((conv => whnf); first | refine Rng.g ?_ | refine Ob.g ?_ | refine Ob.e ?_ | refine Ob.m ?_ | refine Ob.mk (Nat.le_of_ble_eq_true rfl) ?_ | refine JoinVC.on ?_ | refine Nils.mk (fun h => ?_) ?_ | refine Val.t ?_ | refine Val.d ?_ | refine Mm.mk ?_ | (refine Br.mk (fun h => ?_) (fun h => ?_) <;> first | (exfalso; omega; done) | (exfalso; simp at h; done) | skip))
      repeat refine Mm.mk ?_
      conv => whnf
      refine EndVC.mk _ rfl _ _ (.no (fun h2 => hP h2.ok) rfl rfl) ?_
      refine ⟨[], rfl, rfl, ?_, ?_⟩ <;> repeat' (first | exact trivial | exact rfl | exact Iff.rfl | apply And.intro)
      exact id
  · refine spec_of pMix (O := []) Tryz.func22 (c := bodyOf Tryz.f22) rfl (by kernel_rfl) (by kernel_rfl) Tryz.ntmps22 (res := [.tmp 4, .tmp 5]) (by kernel_rfl) ?_
    repeat' ((conv => whnf); first | refine Rng.g ?_ | refine Ob.g ?_ | refine Ob.e ?_ | refine Ob.m ?_ | refine Ob.mk (Nat.le_of_ble_eq_true rfl) ?_ | refine JoinVC.on ?_ | refine Nils.mk (fun h => ?_) ?_ | refine Val.t ?_ | refine Val.d ?_ | refine Mm.mk ?_ | (refine Br.mk (fun h => ?_) (fun h => ?_) <;> first | (exfalso; omega; done) | (exfalso; simp at h; done) | skip))
    repeat refine Mm.mk ?_
    conv => whnf
    refine EndVC.mk _ rfl _ _ (.no (fun h2 => h6 h2.len) rfl rfl) ?_
    refine ⟨[], rfl, rfl, ?_, ?_⟩ <;> repeat' (first | exact trivial | exact rfl | exact Iff.rfl | apply And.intro)
    exact id
end Go.Sx

namespace Go.Sx
open Go Go.Proofs
set_option maxRecDepth 10000
set_option maxHeartbeats 4000000
def c3 : Cut := ⟨400, 2000, 200, 2000, 1000, 1000, 100⟩
def l3 : List Smp := [⟨0, 0⟩, ⟨100, 100⟩, ⟨0, 0⟩]
theorem c3_ok : CutOK c3 := by constructor <;> decide
theorem all_lt {p : Nat → Prop} (n : Nat) [DecidablePred p] (h : ((List.range n).all fun j => decide (p j)) = true) : ∀ j, j < n → p j := fun j hj => of_decide_eq_true (List.all_eq_true.1 h j (List.mem_range.2 hj))
instance (s : Smp) : Decidable (s.ok) := by unfold Smp.ok; exact inferInstance
theorem l3_ok : SmpsOK l3 := ⟨by decide, all_lt 3 (by decide)⟩
theorem g3_ok : PtsOK (cutF c3 l3) := ⟨by decide, all_lt 3 (by decide)⟩
def t3 : Trk := ⟨c3, cutF c3 l3, 0, 1000⟩
theorem t3_yes : pL t3 31831 := all_lt 3 (by decide +kernel)
theorem t3_no : ¬ pN t3 0 31830 ∨ ¬ pN t3 1 31830 ∨ ¬ pN t3 2 31830 := by decide +kernel
theorem t3_least {k : Int} (hk : Least (pL t3) 4194305 k) : k = 31831 := by
  have h1 : ¬ 31831 < k := fun h => hk.no 31831 (by decide) h t3_yes
  have h2 : ¬ k ≤ 31830 := fun h => by
    have h3 := (hk.yes (by omega)).mono (t := t3) c3_ok (by decide) hk.rng.1 h
    rcases t3_no with h4 | h4 | h4
    · exact h4 (h3 0 (by decide))
    · exact h4 (h3 1 (by decide))
    · exact h4 (h3 2 (by decide))
  omega
/-! ### The curve of the example -/
def v3 : Crv := ⟨[64], [128], 256⟩
def x3 : List Int := [100, 0, 0, -3]
theorem v3_ok : CrvOK v3 := by
  refine ⟨⟨by decide, fun j => ?_⟩, ⟨by decide, fun j => ?_⟩, by decide⟩
  · match j with
    | 0 => decide
    | j + 1 => show -4096 ≤ (0 : Int) ∧ (0 : Int) ≤ 4096; decide
  · match j with
    | 0 => decide
    | j + 1 => show -4096 ≤ (0 : Int) ∧ (0 : Int) ≤ 4096; decide
theorem x3_ok : SigOK x3 := by
  refine ⟨by decide, fun j => ?_⟩
  match j with
  | 0 => decide
  | 1 => decide
  | 2 => decide
  | 3 => decide
  | j + 4 => show -32767 ≤ (0 : Int) ∧ (0 : Int) ≤ 32767; decide
theorem nextY_take (u : Bool) (c : Crv) (xs zs : List Int) (n i : Nat) (h : i ≤ n) : nextY u c xs (zs.take n) i = nextY u c xs zs i := by
  unfold nextY hiF hoF
  rw [List.take_take, Nat.min_eq_left h]
theorem Filt.uniq {u : Bool} {c : Crv} {most : Int} {xs ys zs : List Int} (hy : Filt u c most xs ys) (hz : Filt u c most xs zs) (hl : ys.length ≤ zs.length) : ys = zs.take ys.length := by
  have key : ∀ n, n ≤ ys.length → ys.take n = zs.take n := by
    intro n
    induction n with
    | zero => intro _; rfl
    | succ n ih =>
      intro hn
      rw [take_snoc ys n 0 (by omega), take_snoc zs n 0 (by omega), ih (by omega), (hy.each n (by omega)).1, (hz.each n (by omega)).1, ← nextY_take u c xs ys n n (Nat.le_refl _), ih (by omega), nextY_take u c xs zs n n (Nat.le_refl _)]
  have := key ys.length (Nat.le_refl _)
  rwa [List.take_length] at this
theorem Filt.same {u : Bool} {c : Crv} {most : Int} {xs ys zs : List Int} (hy : Filt u c most xs ys) (hz : Filt u c most xs zs) (h1 : ys.length = xs.length) (h2 : zs.length = xs.length) : ys = zs := by
  have := hy.uniq hz (by omega)
  rwa [List.take_of_length_le (by omega)] at this
theorem Filt.no_far {u : Bool} {c : Crv} {most : Int} {xs ys zs : List Int} (hy : Filt u c most xs ys) (h1 : ys.length < xs.length) (hb : bey (nextY u c xs ys ys.length) most) (hz : Filt u c most xs zs) (h2 : zs.length = xs.length) : False := by
  have e := hy.uniq hz (by omega)
  have h3 := hz.each ys.length (by omega)
  rw [e, List.length_take, Nat.min_eq_left (by omega), nextY_take _ _ _ _ _ _ (Nat.le_refl _), ← h3.1] at hb
  exact h3.2 hb
def y3 : List Int := [nextY false v3 x3 [] 0, nextY false v3 x3 [100] 1, nextY false v3 x3 [100, 75] 2, nextY false v3 x3 [100, 75, 37] 3]
instance (n m : Int) : Decidable (bey n m) := by unfold bey; exact inferInstance
theorem y3_filt : Filt false v3 32767 x3 y3 := ⟨by decide, all_lt 4 (by decide)⟩
theorem y3_1 : y3.getD 1 0 = 75 := by decide
/-! ### The programme of the example -/
def T3 : List Tak := [⟨⟨#[97]⟩, [⟨10, -10⟩, ⟨5, 0⟩]⟩]
def p3 : List Prt := [⟨0, 0, 2, 0, 0, 0, 500⟩]
theorem T3_name : nameOK ⟨#[97]⟩ := ⟨by decide, by decide, fun j hj => by
  have : j = 0 := by
    have : j < 1 := hj
    omega
  subst this
  exact .inl (by decide)⟩
theorem T3_ok : TaksOK T3 := by
  refine ⟨by decide, fun j hj => ?_, fun i j hi hj => ?_⟩
  · have : j = 0 := by
      have : j < 1 := hj
      omega
    subst this
    exact ⟨T3_name, by decide, by decide, by decide⟩
  · have : i < 1 := hi
    omega
theorem p3_ok : ProgOK T3 p3 := by
  refine ⟨T3_ok, by decide, fun j hj => ?_, ⟨fun _ => by decide, fun i h1 h2 => ?_, fun i h1 h2 => ?_, by decide⟩⟩
  · have : j = 0 := by
      have : j < 1 := hj
      omega
    subst this
    decide
  · have : i < 1 := h2
    omega
  · have : i < 1 := h2
    omega
theorem r3_ok : smpE (rend T3 p3) = 0 := (smpE_iff _).2 ⟨by decide, all_lt 2 (by decide +kernel)⟩
theorem s25 : PSpec Tryz.prog 25 [] (xP True) := by
  refine spec_of pMix (O := []) Tryz.func25 (c := bodyOf Tryz.f25) rfl (by kernel_rfl) (by kernel_rfl) Tryz.ntmps25 (res := [.tmp 0]) (by kernel_rfl) ?_
  repeat' ((conv => whnf); first | refine Rng.g ?_ | refine Ob.g ?_ | refine Ob.e ?_ | refine Ob.m ?_ | refine Ob.mk (Nat.le_of_ble_eq_true rfl) ?_ | refine JoinVC.on ?_ | refine Nils.mk (fun h => ?_) ?_ | refine Val.t ?_ | refine Val.d ?_ | refine Mm.mk ?_ | (refine Br.mk (fun h => ?_) (fun h => ?_) <;> first | (exfalso; omega; done) | (exfalso; simp at h; done) | skip))
  conv => whnf
  refine CallVC.mk [] _ _ _ rfl rfl rfl (s30 c3 l3) (fun r m' h' => ?_)
  cases h' with
  | bad e h he hr hm => exact absurd ⟨c3_ok, l3_ok⟩ h
  | ok hC hl hr hm =>
    subst hr hm
    repeat' ((conv => whnf); first | refine Rng.g ?_ | refine Ob.g ?_ | refine Ob.e ?_ | refine Ob.m ?_ | refine Ob.mk (Nat.le_of_ble_eq_true rfl) ?_ | refine JoinVC.on ?_ | refine Nils.mk (fun h => ?_) ?_ | refine Val.t ?_ | refine Val.d ?_ | refine Mm.mk ?_ | (refine Br.mk (fun h => ?_) (fun h => ?_) <;> first | (exfalso; omega; done) | (exfalso; simp at h; done) | skip))
    conv => whnf
    refine CallVC.mk [] _ _ _ rfl rfl rfl (s35 c3 (cutF c3 l3) 1000) (fun r m' h' => ?_)
    cases h' with
    | bad e h he hr hm => exact absurd ⟨c3_ok, g3_ok, by decide⟩ h
    | none ht h hr hm => exact absurd (t3_yes.mono (t := t3) c3_ok (by decide) (by decide) (by decide)) h
    | ok ht k hk hk' hr hm =>
      have hk3 := t3_least hk
      subst hk3 hr hm
      repeat' ((conv => whnf); first | refine Rng.g ?_ | refine Ob.g ?_ | refine Ob.e ?_ | refine Ob.m ?_ | refine Ob.mk (Nat.le_of_ble_eq_true rfl) ?_ | refine JoinVC.on ?_ | refine Nils.mk (fun h => ?_) ?_ | refine Val.t ?_ | refine Val.d ?_ | refine Mm.mk ?_ | (refine Br.mk (fun h => ?_) (fun h => ?_) <;> first | (exfalso; omega; done) | (exfalso; simp at h; done) | skip))
      conv => whnf
      refine CallVC.mk [] _ _ _ rfl rfl rfl (s49 v3 x3) (fun r m' h' => ?_)
      cases h' with
      | bad e h he hr hm => exact absurd ⟨v3_ok, x3_ok⟩ h
      | far hl hx ys h hs hb hr hm => exact (h.no_far hs hb y3_filt rfl).elim
      | ok hl hx ys h hs hr hm =>
        have hy := h.same y3_filt hs rfl
        subst hy hr hm
        repeat' ((conv => whnf); first | refine Rng.g ?_ | refine Ob.g ?_ | refine Ob.e ?_ | refine Ob.m ?_ | refine Ob.mk (Nat.le_of_ble_eq_true rfl) ?_ | refine JoinVC.on ?_ | refine Nils.mk (fun h => ?_) ?_ | refine Val.t ?_ | refine Val.d ?_ | refine Mm.mk ?_ | (refine Br.mk (fun h => ?_) (fun h => ?_) <;> first | (exfalso; omega; done) | (exfalso; simp at h; done) | skip))
        conv => whnf
        refine CallVC.mk [] _ _ _ rfl rfl rfl (s26 T3 p3 p3_ok) (fun r m' h' => ?_)
        rcases h' with ⟨h1, rfl, rfl⟩ | ⟨h1, rfl, rfl⟩
        · have q1 : (List.length (smpA (cutF c3 l3)) : Int) = 3 := by decide
          have q2 : rI (smpA (cutF c3 l3)) (Int.toNat 1) 0 = -200 := by decide
          have q3 : rI (smpA (cutF c3 l3)) (Int.toNat 1) (0 + 1) = 600 := by decide
          have q4 : (List.length (i64s y3) : Int) = 4 := by decide
          have q5 : rI (i64s y3) (Int.toNat 1) 0 = 75 := by decide
          have q6 : (List.length (smpA (rend T3 p3)) : Int) = 2 := by decide
          have q7 : rI (smpA (rend T3 p3)) (Int.toNat 0) 0 = 5 := by decide +kernel
          have q8 : rI (smpA (rend T3 p3)) (Int.toNat 0) (0 + 1) = -5 := by decide +kernel
          repeat' ((conv => whnf); first | refine Rng.g ?_ | refine Ob.g ?_ | refine Ob.e ?_ | refine Ob.m ?_ | refine Ob.mk (Nat.le_of_ble_eq_true rfl) ?_ | refine JoinVC.on ?_ | refine Nils.mk (fun h => ?_) ?_ | refine Val.t ?_ | refine Val.d ?_ | refine Mm.mk ?_ | (refine Br.mk (fun h => ?_) (fun h => ?_) <;> first | (exfalso; omega; done) | (exfalso; simp at h; done) | skip))
          all_goals first
            | exact absurd ⟨q2, q3, trivial⟩ h
            | exact absurd ⟨q7, q8, trivial⟩ h
            | skip
          repeat refine Mm.mk ?_
          refine EndVC.mk _ rfl _ _ ⟨rfl, rfl⟩ ?_
          refine ⟨[], rfl, rfl, ?_, ?_⟩ <;> repeat' (first | exact trivial | exact rfl | exact Iff.rfl | apply And.intro)
          exact ⟨fun _ => trivial, fun _ => ⟨q7, q8, trivial⟩⟩
        · exact absurd r3_ok h1
end Go.Sx

namespace Go.Sx
open Go Go.Proofs
set_option maxRecDepth 10000
set_option maxHeartbeats 8000000
theorem e10 : EntersF Tryz.prog 10 := enters_of Tryz.func10 (c := bodyOf Tryz.f10) (by kernel_rfl) rfl
def b5 : Blnk := ⟨2, 1000, 100, 10, 1, 100⟩
def p5 : List Smp := [⟨-20, 20⟩, ⟨-20, 20⟩, ⟨-20, 20⟩, ⟨-20, 50⟩, ⟨-20, 20⟩]
def y5 : List Int := [980, 979, 930, 899, 880]
theorem b5_ok : BlnkOK b5 := by constructor <;> decide
theorem p5_ok : PtsOK p5 := ⟨by decide, fun j hj => by
  have hc : j = 0 ∨ j = 1 ∨ j = 2 ∨ j = 3 ∨ j = 4 := by
    have : j < 5 := hj
    omega
  rcases hc with rfl | rfl | rfl | rfl | rfl <;> (unfold edgeP; decide)⟩
theorem y5_ok : Feas b5 p5 (fun i => y5.getD i 0) := by
  intro j hj
  have hc : j = 0 ∨ j = 1 ∨ j = 2 ∨ j = 3 ∨ j = 4 := by
    have : j < 5 := hj
    omega
  rcases hc with rfl | rfl | rfl | rfl | rfl <;> decide
theorem best5 {R : List Int} (h : Best b5 p5 R) : R.length = 5 ∧ R.getD 3 0 = 899 := by
  have h1 := h.best _ y5_ok 3 (by decide)
  have h2 := (h.ok 0 (by decide)).1
  have h3 := ((h.ok 1 (by decide)).2.2.1 (by decide)).1
  have h4 := (h.ok 3 (by decide)).2.2.2 (by decide)
  refine ⟨h.len, ?_⟩
  simp [b5, p5, y5] at h1 h2 h3 h4 ⊢
  omega
def f5 : Fmt := ⟨⟨#[102]⟩, 1000, 400, 10, 0, 0, 0, 0⟩
def g5 : Sng := ⟨95, 20, 0⟩
theorem f5_name : nameOK ⟨#[102]⟩ := ⟨by decide, by decide, fun j hj => by
  have : j = 0 := by
    have : j < 1 := hj
    omega
  subst this
  exact .inl (by decide)⟩
theorem f5_ok : FmtOK f5 := ⟨f5_name, by decide, by decide, by decide, by decide, by decide, by decide, by decide⟩
theorem g5_ok : g5.ok := by unfold Sng.ok; decide
theorem s55 : PSpec Tryz.prog 55 [] (xP True) := by
  have hw := s25
  refine spec_of pMix (O := []) Tryz.func55 (c := bodyOf Tryz.f55) rfl (by kernel_rfl) (by kernel_rfl) Tryz.ntmps55 (res := [.tmp 0]) (by kernel_rfl) ?_
  repeat' ((conv => whnf); first | refine Rng.g ?_ | refine Ob.g ?_ | refine Ob.e ?_ | refine Ob.m ?_ | refine Ob.mk (Nat.le_of_ble_eq_true rfl) ?_ | refine JoinVC.on ?_ | refine Nils.mk (fun h => ?_) ?_ | refine Val.t ?_ | refine Val.d ?_ | refine Mm.mk ?_ | (refine Br.mk (fun h => ?_) (fun h => ?_) <;> first | (exfalso; omega; done) | (exfalso; simp at h; done) | skip))
  conv => whnf
  refine CallVC.mk [] _ _ _ rfl rfl rfl (s82 b5 p5) (fun r m' h' => ?_)
  cases h' with
  | bad e h he hr hm => exact absurd ⟨b5_ok, p5_ok⟩ h
  | none _ _ hN hr hm => exact absurd y5_ok (hN _)
  | ok _ _ R hR hr hm =>
    subst hr hm
    obtain ⟨r1, r2⟩ := best5 hR
    have lr := i64s_len R
    have gr : rI (i64s R) (Int.toNat 3) 0 = 899 := (i64s_get R 3).trans r2
    repeat' ((conv => whnf); first | refine Rng.g ?_ | refine Ob.g ?_ | refine Ob.e ?_ | refine Ob.m ?_ | refine Ob.mk (Nat.le_of_ble_eq_true rfl) ?_ | refine JoinVC.on ?_ | refine Nils.mk (fun h => ?_) ?_ | refine Val.t ?_ | refine Val.d ?_ | refine Mm.mk ?_ | (refine Br.mk (fun h => ?_) (fun h => ?_) <;> first | (exfalso; omega; done) | (exfalso; simp at h; done) | skip))
    conv => whnf
    refine CallVC.mk [] _ _ _ rfl rfl rfl (s54 f5 g5 (by decide)) (fun r m' h' => ?_)
    cases h' with
    | bad e h he hr hm => exact absurd ⟨f5_ok, g5_ok⟩ h
    | ok _ _ hr hm =>
      subst hr hm
      have ew : widF f5 g5 = 200 := by decide
      rw [ew]
      repeat' ((conv => whnf); first | rw [gr] | refine Rng.g ?_ | refine Ob.g ?_ | refine Ob.e ?_ | refine Ob.m ?_ | refine Ob.mk (Nat.le_of_ble_eq_true rfl) ?_ | refine JoinVC.on ?_ | refine Nils.mk (fun h => ?_) ?_ | refine Val.t ?_ | refine Val.d ?_ | refine Mm.mk ?_ | refine CallVC.pure rfl (hw) ?_ | refine CallVC0.pure rfl (hw) ?_ | (refine Br.mk (fun h => ?_) (fun h => ?_) <;> first | (exfalso; omega; done) | (exfalso; simp at h; done) | skip))
      repeat refine Mm.mk ?_
      refine EndVC.mk _ rfl _ _ ⟨rfl, rfl⟩ ?_
      refine ⟨[], rfl, rfl, ?_, ?_⟩ <;> repeat' (first | exact trivial | exact rfl | exact Iff.rfl | apply And.intro)
/-! ### As much fits as the longest track that is not too wide -/
theorem cov_fit {per core room h d k : Int} {f : Fmt} {kn : Nat} (hp : 1 ≤ per) (hk : k = (kn : Int)) (hk1 : 1 ≤ kn) (hh : 0 ≤ h) (hd : 0 ≤ d) (hs : 2 * h + d ≤ 65536) (hf : f.per = per) : (∃ y, Feas ⟨per, core + room, core, d, 0, 65536⟩ (List.replicate kn ⟨-h, h⟩) y) ↔ widF f ⟨k, 2 * h + d, 0⟩ ≤ room + d := by
  rw [sil_feas (b := ⟨per, core + room, core, d, 0, 65536⟩) hk1 hp rfl (by simp only; omega) (by simp only; omega)]
  unfold widF
  simp only
  rw [hf, hk]
  have e := Int.add_mul_ediv_left ((kn : Int) - 1) 1 (show per ≠ 0 by omega)
  rw [show (kn : Int) - 1 + per * 1 = kn + per - 1 by omega] at e
  rw [e, Int.mul_add]
  obtain ⟨q, hq⟩ : ∃ q, (2 * h + d) * (((kn : Int) - 1) / per) = q := ⟨_, rfl⟩
  rw [hq]
  omega
theorem s10 (a0 a1 a2 a3 a4 a5 : Int) (h0 : 0 ≤ a0 ∧ a0 ≤ 65535) (h1 : 0 ≤ a1 ∧ a1 ≤ 65535) (h2 : 0 ≤ a2 ∧ a2 ≤ 65535) (h3 : 0 ≤ a3 ∧ a3 ≤ 65535) (h4 : 0 ≤ a4 ∧ a4 ≤ 255) (h5 : 0 ≤ a5 ∧ a5 ≤ 255) : PSpec Tryz.prog 10 [.one (.int .u16 a0), .one (.int .u16 a1), .one (.int .u16 a2), .one (.int .u16 a3), .one (.int .u8 a4), .one (.int .u8 a5)] (xP True) := by
  have hw := s55
  obtain ⟨hq1, hh⟩ : ∃ hq1, hq1 = 1 + a0 % 1000 := ⟨_, rfl⟩
  obtain ⟨d, hd⟩ : ∃ d, d = a1 % 1001 := ⟨_, rfl⟩
  obtain ⟨t, ht⟩ : ∃ t, t = 1 + a4 % 16 := ⟨_, rfl⟩
  obtain ⟨n, hn⟩ : ∃ n : Nat, (n : Int) = a5 % 61 := ⟨(a5 % 61).toNat, by omega⟩
  have hb : BlnkOK ⟨t, a2 + a3, a2, d, 0, 65536⟩ := by constructor <;> simp only <;> omega
  have hp : PtsOK (List.replicate n ⟨-hq1, hq1⟩) := ⟨by rw [List.length_replicate]; omega, fun j hj => by
    rw [List.length_replicate] at hj
    rw [rep_get _ hj]
    unfold edgeP
    simp only
    omega⟩
  have hf : FmtOK ⟨⟨#[102]⟩, 1, 0, t, 0, 0, 0, 0⟩ := ⟨f5_name, by simp only; omega, by simp only; omega, by simp only; omega, by simp only; omega, by simp only; omega, by simp only; omega, by simp only; omega⟩
  have lp := smpA_len (List.replicate n ⟨-hq1, hq1⟩)
  rw [List.length_replicate] at lp
  refine spec_of pMix (O := [(4, ([], [⟨0, [], []⟩, ⟨1, [], []⟩, ⟨2, [], []⟩, ⟨3, [0], []⟩, ⟨4, [], []⟩, ⟨5, [], []⟩, ⟨6, [], []⟩, ⟨7, [], []⟩, ⟨8, [], []⟩, ⟨9, [], []⟩]))]) Tryz.func10 (c := bodyOf Tryz.f10) rfl (by kernel_rfl) (by kernel_rfl) Tryz.ntmps10 (res := [.tmp 12]) (by kernel_rfl) ?_
  repeat' ((conv => whnf); first | rw [← hh] | rw [← hd] | rw [← ht] | rw [← hn] | refine Rng.g ?_ | refine Ob.g ?_ | refine Ob.e ?_ | refine Ob.m ?_ | refine Ob.mk (Nat.le_of_ble_eq_true rfl) ?_ | refine JoinVC.on ?_ | refine Nils.mk (fun h => ?_) ?_ | refine Val.t ?_ | refine Val.d ?_ | refine Mm.mk ?_ | (refine Br.mk (fun h => ?_) (fun h => ?_) <;> first | (exfalso; omega; done) | (exfalso; simp at h; done) | skip))
  conv => whnf
  refine CallVC0.mk _ _ rfl (s53 hq1 n (by omega) (by omega)) (fun r m' h' => ?_)
  obtain ⟨rfl, rfl⟩ := h'
  conv => whnf
  repeat' ((conv => whnf); first | refine Rng.g ?_ | refine Ob.g ?_ | refine Ob.e ?_ | refine Ob.m ?_ | refine Ob.mk (Nat.le_of_ble_eq_true rfl) ?_ | refine JoinVC.on ?_ | refine Nils.mk (fun h => ?_) ?_ | refine Val.t ?_ | refine Val.d ?_ | refine Mm.mk ?_ | (refine Br.mk (fun h => ?_) (fun h => ?_) <;> first | (exfalso; omega; done) | (exfalso; simp at h; done) | skip))
  conv => whnf
  refine CallVC.mk [] _ _ _ rfl rfl rfl (s52 ⟨t, a2 + a3, a2, d, 0, 65536⟩ (List.replicate n ⟨-hq1, hq1⟩) hb hp) (fun r m' h' => ?_)
  obtain ⟨k, hk, rfl, rfl⟩ := h'
  conv => whnf
  have hkl := hk.le
  rw [List.length_replicate] at hkl
  have F1 : 0 < k → widF ⟨⟨#[102]⟩, 1, 0, t, 0, 0, 0, 0⟩ ⟨(k : Int), 2 * hq1 + d, 0⟩ ≤ a3 + d := fun h6 => by
    obtain ⟨y, hy⟩ := hk.fit h6
    rw [List.take_replicate, Nat.min_eq_left hkl] at hy
    exact (cov_fit (per := t) (by omega) rfl (by omega) (by omega) (by omega) (by omega) rfl).1 ⟨y, hy⟩
  have F2 : k < n → ¬ widF ⟨⟨#[102]⟩, 1, 0, t, 0, 0, 0, 0⟩ ⟨(k : Int) + 1, 2 * hq1 + d, 0⟩ ≤ a3 + d := fun h6 h7 => by
    have h8 := hk.no (by rw [List.length_replicate]; exact h6)
    rw [List.take_replicate, Nat.min_eq_left (by omega)] at h8
    obtain ⟨y, hy⟩ := (cov_fit (per := t) (kn := k + 1) (by omega) (by omega) (by omega) (by omega) (by omega) (by omega) rfl).2 h7
    exact h8 y hy
  by_cases hk0 : 0 < k
  · have F1' := F1 hk0
    have G1 : Sng.ok ⟨(k : Int), 2 * hq1 + d, 0⟩ := by unfold Sng.ok; simp only; omega
    repeat' ((conv => whnf); first | refine Rng.g ?_ | refine Ob.g ?_ | refine Ob.e ?_ | refine Ob.m ?_ | refine Ob.mk (Nat.le_of_ble_eq_true rfl) ?_ | refine JoinVC.on ?_ | refine Nils.mk (fun h => ?_) ?_ | refine Val.t ?_ | refine Val.d ?_ | refine Mm.mk ?_ | (refine Br.mk (fun h => ?_) (fun h => ?_) <;> first | (exfalso; omega; done) | (exfalso; simp at h; done) | skip))
    conv => whnf
    refine CallVC.mk [] _ _ _ rfl rfl rfl (s54 ⟨⟨#[102]⟩, 1, 0, t, 0, 0, 0, 0⟩ ⟨(k : Int), 2 * hq1 + d, 0⟩ (by show (1 : Nat) ≤ 140737488355328; decide)) (fun r m' h' => ?_)
    cases h' with
    | bad e hq1 he hr hm => exact absurd ⟨hf, G1⟩ hq1
    | ok _ _ hr hm =>
      subst hr hm
      by_cases hkn : k < n
      · have F2' := F2 hkn
        have G2 : Sng.ok ⟨(k : Int) + 1, 2 * hq1 + d, 0⟩ := by unfold Sng.ok; simp only; omega
        repeat' ((conv => whnf); first | refine Rng.g ?_ | refine Ob.g ?_ | refine Ob.e ?_ | refine Ob.m ?_ | refine Ob.mk (Nat.le_of_ble_eq_true rfl) ?_ | refine JoinVC.on ?_ | refine Nils.mk (fun h => ?_) ?_ | refine Val.t ?_ | refine Val.d ?_ | refine Mm.mk ?_ | (refine Br.mk (fun h => ?_) (fun h => ?_) <;> first | (exfalso; omega; done) | (exfalso; simp at h; done) | skip))
        conv => whnf
        refine CallVC.mk [] _ _ _ rfl rfl rfl (s54 ⟨⟨#[102]⟩, 1, 0, t, 0, 0, 0, 0⟩ ⟨(k : Int) + 1, 2 * hq1 + d, 0⟩ (by show (1 : Nat) ≤ 140737488355328; decide)) (fun r m' h' => ?_)
        cases h' with
        | bad e hq1 he hr hm => exact absurd ⟨hf, G2⟩ hq1
        | ok _ _ hr hm =>
          subst hr hm
          repeat' ((conv => whnf); first | refine Rng.g ?_ | refine Ob.g ?_ | refine Ob.e ?_ | refine Ob.m ?_ | refine Ob.mk (Nat.le_of_ble_eq_true rfl) ?_ | refine JoinVC.on ?_ | refine Nils.mk (fun h => ?_) ?_ | refine Val.t ?_ | refine Val.d ?_ | refine Mm.mk ?_ | refine CallVC.pure rfl (hw) ?_ | refine CallVC0.pure rfl (hw) ?_ | (refine Br.mk (fun h => ?_) (fun h => ?_) <;> first | (exfalso; omega; done) | (exfalso; simp at h; done) | skip))
          repeat refine Mm.mk ?_
          refine EndVC.mk _ rfl _ _ ⟨rfl, rfl⟩ ?_
          refine ⟨[], rfl, rfl, ?_, ?_⟩ <;> repeat' (first | exact trivial | exact rfl | exact Iff.rfl | apply And.intro)
      · repeat' ((conv => whnf); first | refine Rng.g ?_ | refine Ob.g ?_ | refine Ob.e ?_ | refine Ob.m ?_ | refine Ob.mk (Nat.le_of_ble_eq_true rfl) ?_ | refine JoinVC.on ?_ | refine Nils.mk (fun h => ?_) ?_ | refine Val.t ?_ | refine Val.d ?_ | refine Mm.mk ?_ | refine CallVC.pure rfl (hw) ?_ | refine CallVC0.pure rfl (hw) ?_ | (refine Br.mk (fun h => ?_) (fun h => ?_) <;> first | (exfalso; omega; done) | (exfalso; simp at h; done) | skip))
        repeat refine Mm.mk ?_
        refine EndVC.mk _ rfl _ _ ⟨rfl, rfl⟩ ?_
        refine ⟨[], rfl, rfl, ?_, ?_⟩ <;> repeat' (first | exact trivial | exact rfl | exact Iff.rfl | apply And.intro)
  · by_cases hkn : k < n
    · have F2' := F2 hkn
      have G2 : Sng.ok ⟨(k : Int) + 1, 2 * hq1 + d, 0⟩ := by unfold Sng.ok; simp only; omega
      repeat' ((conv => whnf); first | refine Rng.g ?_ | refine Ob.g ?_ | refine Ob.e ?_ | refine Ob.m ?_ | refine Ob.mk (Nat.le_of_ble_eq_true rfl) ?_ | refine JoinVC.on ?_ | refine Nils.mk (fun h => ?_) ?_ | refine Val.t ?_ | refine Val.d ?_ | refine Mm.mk ?_ | (refine Br.mk (fun h => ?_) (fun h => ?_) <;> first | (exfalso; omega; done) | (exfalso; simp at h; done) | skip))
      conv => whnf
      refine CallVC.mk [] _ _ _ rfl rfl rfl (s54 ⟨⟨#[102]⟩, 1, 0, t, 0, 0, 0, 0⟩ ⟨(k : Int) + 1, 2 * hq1 + d, 0⟩ (by show (1 : Nat) ≤ 140737488355328; decide)) (fun r m' h' => ?_)
      cases h' with
      | bad e hq1 he hr hm => exact absurd ⟨hf, G2⟩ hq1
      | ok _ _ hr hm =>
        subst hr hm
        repeat' ((conv => whnf); first | refine Rng.g ?_ | refine Ob.g ?_ | refine Ob.e ?_ | refine Ob.m ?_ | refine Ob.mk (Nat.le_of_ble_eq_true rfl) ?_ | refine JoinVC.on ?_ | refine Nils.mk (fun h => ?_) ?_ | refine Val.t ?_ | refine Val.d ?_ | refine Mm.mk ?_ | refine CallVC.pure rfl (hw) ?_ | refine CallVC0.pure rfl (hw) ?_ | (refine Br.mk (fun h => ?_) (fun h => ?_) <;> first | (exfalso; omega; done) | (exfalso; simp at h; done) | skip))
        repeat refine Mm.mk ?_
        refine EndVC.mk _ rfl _ _ ⟨rfl, rfl⟩ ?_
        refine ⟨[], rfl, rfl, ?_, ?_⟩ <;> repeat' (first | exact trivial | exact rfl | exact Iff.rfl | apply And.intro)
    · repeat' ((conv => whnf); first | refine Rng.g ?_ | refine Ob.g ?_ | refine Ob.e ?_ | refine Ob.m ?_ | refine Ob.mk (Nat.le_of_ble_eq_true rfl) ?_ | refine JoinVC.on ?_ | refine Nils.mk (fun h => ?_) ?_ | refine Val.t ?_ | refine Val.d ?_ | refine Mm.mk ?_ | refine CallVC.pure rfl (hw) ?_ | refine CallVC0.pure rfl (hw) ?_ | (refine Br.mk (fun h => ?_) (fun h => ?_) <;> first | (exfalso; omega; done) | (exfalso; simp at h; done) | skip))
      repeat refine Mm.mk ?_
      refine EndVC.mk _ rfl _ _ ⟨rfl, rfl⟩ ?_
      refine ⟨[], rfl, rfl, ?_, ?_⟩ <;> repeat' (first | exact trivial | exact rfl | exact Iff.rfl | apply And.intro)
end Go.Sx

namespace Go.Sx
open Go Go.Proofs
set_option maxRecDepth 10000
/-! ### Rows read as takes, parts, curves, samples -/
theorem wfr_of : ∀ {ks : List CK} {r : List Cell}, r.length = ks.length → (∀ (j : Nat) k c, ks[j]? = some k → r[j]? = some c → Wf k c) → WfR ks r
  | [], [], _, _ => .nil
  | [], _ :: _, h, _ => by simp at h
  | _ :: _, [], h, _ => by simp at h
  | k :: ks, c :: cs, h, hw => .cons (hw 0 k c rfl rfl) (wfr_of (by simpa using h) fun j k' c' h1 h2 => hw (j + 1) k' c' (by simpa using h1) (by simpa using h2))
theorem wf_map {α : Type} {ks : List CK} {row : α → List Cell} {p : α → Prop} (hrow : ∀ r, WfR ks r → ∃ x, r = row x ∧ p x) {a : Arr} (h : Wf (.sl ks) (.sl a)) : ∃ l : List α, a = l.map row ∧ ∀ x ∈ l, p x := by
  cases h with
  | sl hl hr hw =>
    clear hl
    induction a with
    | nil => exact ⟨[], rfl, fun x hx => by simp at hx⟩
    | cons r a ih =>
      obtain ⟨l, rfl, h2⟩ := ih (fun r h => hr r (List.mem_cons_of_mem _ h)) (fun r h => hw r (List.mem_cons_of_mem _ h))
      obtain ⟨x, rfl, h3⟩ := hrow r (wfr_of (hr r (List.mem_cons_self ..)) (hw r (List.mem_cons_self ..)))
      exact ⟨x :: l, rfl, fun y hy => by rcases List.mem_cons.1 hy with rfl | hy; (· exact h3); exact h2 y hy⟩
theorem mem_getD {α : Type} {p : α → Prop} {l : List α} {d : α} (h : ∀ x ∈ l, p x) (hd : p d) (j : Nat) : p (l.getD j d) := by
  rw [List.getD_eq_getElem?_getD]
  cases hx : l[j]? with
  | none => exact hd
  | some x => exact h x (List.mem_of_getElem? hx)
theorem inI_0 : inI 0 := by unfold inI; omega
theorem wf_smps {a : Arr} (h : Wf (.sl KS) (.sl a)) : ∃ l : List Smp, a = smpA l ∧ SmpI l := by
  obtain ⟨l, h1, h2⟩ := wf_map (row := fun s : Smp => [.int s.l, .int s.r]) (p := fun s => inI s.l ∧ inI s.r) (fun r hr => by
    obtain ⟨c0, _, rfl, g0, h1⟩ := hr.inv
    obtain ⟨n0, rfl, i0⟩ := g0.int_inv
    obtain ⟨c1, _, rfl, g1, h2⟩ := h1.inv
    obtain ⟨n1, rfl, i1⟩ := g1.int_inv
    cases h2.nil_inv
    exact ⟨⟨n0, n1⟩, rfl, by simpa [inR, inI] using i0, by simpa [inR, inI] using i1⟩) h
  exact ⟨l, h1, mem_getD h2 ⟨inI_0, inI_0⟩⟩
theorem wf_taks {a : Arr} (h : Wf (.sl KT) (.sl a)) : ∃ T : List Tak, a = takA T ∧ TakI T := by
  obtain ⟨l, h1, h2⟩ := wf_map (row := fun t : Tak => [.str t.nm, .sl (smpA t.d)]) (p := fun t => SmpI t.d) (fun r hr => by
    obtain ⟨c0, _, rfl, g0, h1⟩ := hr.inv
    obtain ⟨n0, rfl, i0⟩ := g0.str_inv
    obtain ⟨c1, _, rfl, g1, h2⟩ := h1.inv
    obtain ⟨a1, rfl, w1⟩ := g1.sl_inv
    obtain ⟨d, rfl, hd⟩ := wf_smps w1
    cases h2.nil_inv
    exact ⟨⟨n0, d⟩, rfl, hd⟩) h
  exact ⟨l, h1, mem_getD h2 (fun j => ⟨inI_0, inI_0⟩)⟩
theorem wf_prts {a : Arr} (h : Wf (.sl K7i) (.sl a)) : ∃ l : List Prt, a = prtA l := by
  obtain ⟨l, h1, _⟩ := wf_map (row := Prt.row) (p := fun _ => True) (fun r hr => by
    obtain ⟨c0, _, rfl, g0, h1⟩ := hr.inv
    obtain ⟨n0, rfl, _⟩ := g0.int_inv
    obtain ⟨c1, _, rfl, g1, h2⟩ := h1.inv
    obtain ⟨n1, rfl, _⟩ := g1.int_inv
    obtain ⟨c2, _, rfl, g2, h3⟩ := h2.inv
    obtain ⟨n2, rfl, _⟩ := g2.int_inv
    obtain ⟨c3, _, rfl, g3, h4⟩ := h3.inv
    obtain ⟨n3, rfl, _⟩ := g3.int_inv
    obtain ⟨c4, _, rfl, g4, h5⟩ := h4.inv
    obtain ⟨n4, rfl, _⟩ := g4.int_inv
    obtain ⟨c5, _, rfl, g5, h6⟩ := h5.inv
    obtain ⟨n5, rfl, _⟩ := g5.int_inv
    obtain ⟨c6, _, rfl, g6, h7⟩ := h6.inv
    obtain ⟨n6, rfl, _⟩ := g6.int_inv
    cases h7.nil_inv
    exact ⟨⟨n0, n1, n2, n3, n4, n5, n6⟩, rfl, trivial⟩) h
  exact ⟨l, h1⟩
theorem wf_crvs {a : Arr} (h : Wf (.sl KC) (.sl a)) : ∃ l : List Crv, a = crvA l := by
  obtain ⟨l, h1, _⟩ := wf_map (row := Crv.row) (p := fun _ => True) (fun r hr => by
    obtain ⟨c0, _, rfl, g0, h1⟩ := hr.inv
    obtain ⟨a0, rfl, w0⟩ := g0.sl_inv
    obtain ⟨f, rfl, _⟩ := wf_ints w0
    obtain ⟨c1, _, rfl, g1, h2⟩ := h1.inv
    obtain ⟨a1, rfl, w1⟩ := g1.sl_inv
    obtain ⟨b, rfl, _⟩ := wf_ints w1
    obtain ⟨c2, _, rfl, g2, h3⟩ := h2.inv
    obtain ⟨n2, rfl, _⟩ := g2.int_inv
    cases h3.nil_inv
    exact ⟨⟨f, b, n2⟩, rfl, trivial⟩) h
  exact ⟨l, h1⟩
end Go.Sx
