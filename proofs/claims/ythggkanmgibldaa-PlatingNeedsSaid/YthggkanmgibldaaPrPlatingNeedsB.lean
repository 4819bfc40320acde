import Derived.Test.YthggkanmgibldaaPrPlatingNeedsA
import Derived.Test.YthggkanmgibldaaXa
import Derived.Test.YthggkanmgibldaaXc
import Derived.Shelf.Slices.In.SortNone
import Derived.Shelf.Slices.In.SortAlone
namespace Go.Sx
open Go Go.Proofs
set_option maxRecDepth 10000
set_option maxHeartbeats 8000000
/-! ### Replaying -/
/-- The shop after the first acts. -/
def repS (S : Sho) (l : List Act2) : Nat → Sho
  | 0 => S
  | i + 1 => doS (repS S l i) (l.getD i ac0)
theorem ShOK.repS {S : Sho} (hS : ShOK S) (l : List Act2) : ∀ i, ShOK (Go.Sx.repS S l i)
  | 0 => hS
  | i + 1 => ShOK.doS (ShOK.repS hS l i) _
def goodTo (S : Sho) (l : List Act2) (i : Nat) : Prop := ∀ j, j < i → doE (repS S l j) (l.getD j ac0) = 0
theorem goodTo.succ {S : Sho} {l : List Act2} {i : Nat} (h : goodTo S l i) (he : doE (repS S l i) (l.getD i ac0) = 0) : goodTo S l (i + 1) := fun j hj => by
  rcases Nat.lt_succ_iff_lt_or_eq.1 hj with h1 | rfl
  · exact h j h1
  · exact he
inductive RepR (r : Rcp) (l : List Act2) (v : AV) (m' : List (Option Blk)) : Prop
  | bad (h : ¬ RcpOK r) (hv : v = .tup [.one .nilp, I 0, I 2]) (hm : m' = [])
  | err (h : RcpOK r) (i : Nat) (hi : i < l.length) (hg : goodTo (shop0 r) l i) (e : Int) (he : doE (repS (shop0 r) l i) (l.getD i ac0) = e) (h0 : e ≠ 0) (hv : v = .tup [.one .nilp, I (i : Int), I e]) (hm : m' = [])
  | ok (h : RcpOK r) (hg : goodTo (shop0 r) l l.length) (ms : List MS) (hM : MsOK ms (repS (shop0 r) l l.length).be) (hv : v = .tup [.one (.ptr 0 0), I (l.length : Int), I 0]) (hm : m' = shK (repS (shop0 r) l l.length) ms)
theorem doS_r (S : Sho) (a : Act2) : (doS S a).r = S.r := by
  unfold doS
  split
  · unfold actS
    (repeat' split) <;> rfl
  · rfl
theorem repS_r (S : Sho) (l : List Act2) : ∀ i, (repS S l i).r = S.r
  | 0 => rfl
  | i + 1 => (doS_r _ _).trans (repS_r S l i)
section
variable (l : List Act2) (i : Nat)
theorem ac_0 : rI (acA l) i 0 = (l.getD i ac0).kd := map_rI acC ac0 l i 0 rfl
theorem ac_1 : rI (acA l) i ((0 + 1)) = (l.getD i ac0).cut := map_rI acC ac0 l i 1 rfl
theorem ac_2 : rI (acA l) i ((0 + 1 + 1)) = (l.getD i ac0).area := map_rI acC ac0 l i 2 rfl
theorem ac_3 : rI (acA l) i ((0 + 1 + 1 + 1)) = (l.getD i ac0).stock := map_rI acC ac0 l i 3 rfl
theorem ac_4 : rI (acA l) i ((0 + 1 + 1 + 1 + 1)) = (l.getD i ac0).yd := map_rI acC ac0 l i 4 rfl
theorem ac_5 : rI (acA l) i ((0 + 1 + 1 + 1 + 1 + 1)) = (l.getD i ac0).plate := map_rI acC ac0 l i 5 rfl
theorem ac_6 : rI (acA l) i ((0 + 1 + 1 + 1 + 1 + 1 + 1)) = (l.getD i ac0).bath := map_rI acC ac0 l i 6 rfl
theorem ac_7 : rI (acA l) i ((0 + 1 + 1 + 1 + 1 + 1 + 1 + 1)) = (l.getD i ac0).s0 := map_rI acC ac0 l i 7 rfl
theorem ac_8 : rI (acA l) i ((0 + 1 + 1 + 1 + 1 + 1 + 1 + 1 + 1)) = (l.getD i ac0).s1 := map_rI acC ac0 l i 8 rfl
theorem ac_9 : rI (acA l) i ((0 + 1 + 1 + 1 + 1 + 1 + 1 + 1 + 1 + 1)) = (l.getD i ac0).cur := map_rI acC ac0 l i 9 rfl
theorem ac_10 : rI (acA l) i ((0 + 1 + 1 + 1 + 1 + 1 + 1 + 1 + 1 + 1 + 1)) = (l.getD i ac0).sec := map_rI acC ac0 l i 10 rfl
theorem ac_11 : rI (acA l) i ((0 + 1 + 1 + 1 + 1 + 1 + 1 + 1 + 1 + 1 + 1 + 1)) = (l.getD i ac0).place := map_rI acC ac0 l i 11 rfl
theorem ac_12 : rI (acA l) i ((0 + 1 + 1 + 1 + 1 + 1 + 1 + 1 + 1 + 1 + 1 + 1 + 1)) = (l.getD i ac0).flaw := map_rI acC ac0 l i 12 rfl
end
/-- What is read at once of an act in a list. -/
@[reducible] def acX (A : Arr) (i : Nat) : XV := .agg [i6 (rI A i 0), i6 (rI A i ((0 + 1))), i6 (rI A i ((0 + 1 + 1))), i6 (rI A i ((0 + 1 + 1 + 1))), i6 (rI A i ((0 + 1 + 1 + 1 + 1))), i6 (rI A i ((0 + 1 + 1 + 1 + 1 + 1))), i6 (rI A i ((0 + 1 + 1 + 1 + 1 + 1 + 1))), i6 (rI A i ((0 + 1 + 1 + 1 + 1 + 1 + 1 + 1))), i6 (rI A i ((0 + 1 + 1 + 1 + 1 + 1 + 1 + 1 + 1))), i6 (rI A i ((0 + 1 + 1 + 1 + 1 + 1 + 1 + 1 + 1 + 1))), i6 (rI A i ((0 + 1 + 1 + 1 + 1 + 1 + 1 + 1 + 1 + 1 + 1))), i6 (rI A i ((0 + 1 + 1 + 1 + 1 + 1 + 1 + 1 + 1 + 1 + 1 + 1))), i6 (rI A i ((0 + 1 + 1 + 1 + 1 + 1 + 1 + 1 + 1 + 1 + 1 + 1 + 1)))]
theorem acX_eq (l : List Act2) (i : Nat) : acX (acA l) i = (l.getD i ac0).x := by
  unfold acX
  rw [ac_0, ac_1, ac_2, ac_3, ac_4, ac_5, ac_6, ac_7, ac_8, ac_9, ac_10, ac_11, ac_12]
theorem s34_no (r : Rcp) (l : List Act2) (hr : ¬ RcpOK r) : HSpec Try.prog 34 [r.x, .one (.lst true KAc (acA l))] [] (RepR r l) := by
  have c20 := s20_no r hr
  refine spec_of pMix (O := []) Try.func34 (c := bodyOf Try.f34) rfl (by kernel_rfl) (by kernel_rfl) Try.ntmps34 (res := [.tmp 4, .tmp 5, .tmp 6]) (by kernel_rfl) ?_
  repeat' ((conv => whnf); first | refine Rng.g ?_ | refine Ob.g ?_ | refine Ob.e ?_ | refine Ob.m ?_ | refine Ob.mk (Nat.le_of_ble_eq_true rfl) ?_ | refine JoinVC.on ?_ | refine Nils.mk (fun h => ?_) ?_ | refine Val.t ?_ | refine Val.d ?_ | refine Mm.mk ?_ | (refine Br.mk (fun h => ?_) (fun h => ?_) <;> first | (exfalso; omega; done) | (exfalso; simp at h; done) | skip))
  conv => whnf
  first | refine CallVC.mk [] _ _ _ rfl rfl rfl (c20) (fun r m' h' => ?_) | refine CallVC0.same [] _ _ _ rfl rfl rfl rfl (c20) (fun r m' h' => (by obtain ⟨rfl, rfl⟩ := h'; rfl)) (fun r m' h' => ?_) | (refine CallVC0.rows [] _ _ _ rfl rfl rfl ?_ (c20) (fun r m' h' => (by obtain ⟨rfl, rfl⟩ := h'; rfl)) (fun r m' h' => ?_); · (repeat' ((conv => whnf); first | exact trivial | exact rfl | exact Nat.le_refl _ | apply And.intro)))
  obtain ⟨rfl, rfl⟩ := h'
  conv => whnf
  repeat' ((conv => whnf); first | refine Rng.g ?_ | refine Ob.g ?_ | refine Ob.e ?_ | refine Ob.m ?_ | refine Ob.mk (Nat.le_of_ble_eq_true rfl) ?_ | refine JoinVC.on ?_ | refine Nils.mk (fun h => ?_) ?_ | refine Val.t ?_ | refine Val.d ?_ | refine Mm.mk ?_ | (refine Br.mk (fun h => ?_) (fun h => ?_) <;> first | (exfalso; omega; done) | (exfalso; simp at h; done) | skip))
  repeat refine Mm.mk ?_
  conv => whnf
  refine EndVC.mk _ rfl _ _ (.bad hr rfl rfl) ?_
  refine ⟨[], rfl, rfl, ?_, ?_⟩ <;> repeat' (first | exact trivial | exact rfl | exact Iff.rfl | apply And.intro)
theorem s34_ok (r : Rcp) (l : List Act2) (hr : RcpOK r) (hl : l.length ≤ 1000000) : HSpec Try.prog 34 [r.x, .one (.lst true KAc (acA l))] [] (RepR r l) := by
  have c20 := s20 r hr
  have ll := acA_len l
  have hS := ShOK.repS (ShOK.new hr) l
  refine spec_of pMix (O := []) Try.func34 (c := bodyOf Try.f34) rfl (by kernel_rfl) (by kernel_rfl) Try.ntmps34 (res := [.tmp 4, .tmp 5, .tmp 6]) (by kernel_rfl) ?_
  repeat' ((conv => whnf); first | refine Rng.g ?_ | refine Ob.g ?_ | refine Ob.e ?_ | refine Ob.m ?_ | refine Ob.mk (Nat.le_of_ble_eq_true rfl) ?_ | refine JoinVC.on ?_ | refine Nils.mk (fun h => ?_) ?_ | refine Val.t ?_ | refine Val.d ?_ | refine Mm.mk ?_ | (refine Br.mk (fun h => ?_) (fun h => ?_) <;> first | (exfalso; omega; done) | (exfalso; simp at h; done) | skip))
  conv => whnf
  first | refine CallVC.mk [] _ _ _ rfl rfl rfl (c20) (fun r m' h' => ?_) | refine CallVC0.same [] _ _ _ rfl rfl rfl rfl (c20) (fun r m' h' => (by obtain ⟨rfl, rfl⟩ := h'; rfl)) (fun r m' h' => ?_) | (refine CallVC0.rows [] _ _ _ rfl rfl rfl ?_ (c20) (fun r m' h' => (by obtain ⟨rfl, rfl⟩ := h'; rfl)) (fun r m' h' => ?_); · (repeat' ((conv => whnf); first | exact trivial | exact rfl | exact Nat.le_refl _ | apply And.intro)))
  obtain ⟨rfl, rfl⟩ := h'
  conv => whnf
  repeat' ((conv => whnf); first | refine Rng.g ?_ | refine Ob.g ?_ | refine Ob.e ?_ | refine Ob.m ?_ | refine Ob.mk (Nat.le_of_ble_eq_true rfl) ?_ | refine JoinVC.on ?_ | refine Nils.mk (fun h => ?_) ?_ | refine Val.t ?_ | refine Val.d ?_ | refine Mm.mk ?_ | (refine Br.mk (fun h => ?_) (fun h => ?_) <;> first | (exfalso; omega; done) | (exfalso; simp at h; done) | skip))
  refine LoopVC.mk (fun n st => ∃ (i : Nat) (ms : List MS), i ≤ l.length ∧ goodTo (shop0 r) l i ∧ MsOK ms (repS (shop0 r) l i).be ∧ n = l.length - i ∧ st = ⟨0, envA 42 [(1, .x (.one (.lst true KAc (acA l)))), (7, .x (.one (.ptr 0 0))), (21, .x (.one (.lst true KAc (acA l)))), (22, .int .i64 (l.length : Int)), (23, .int .i64 (i : Int))], shK (repS (shop0 r) l i) ms⟩) _ _ ⟨0, [], Nat.zero_le _, fun j hj => absurd hj (Nat.not_lt_zero j), MsOK.new, rfl, rfl⟩ ?_ ?_
  · refine ⟨[some 1, some 2, some 3, some 4, some 5, some 6], rfl, rfl, ?_, ?_⟩ <;> repeat' (first | exact trivial | exact rfl | exact Iff.rfl | apply And.intro)
    all_goals first
      | exact congrArg Int.ofNat ll
      | rfl
  rintro n _ ⟨i, ms, hi, hg, hM, hn, rfl⟩
  by_cases h' : i < l.length
  · have c21 : HSpec Try.prog 21 [.one (.ptr 0 0), acX (acA l) (i : Int).toNat] (shM (repS (shop0 r) l i) ms) (DoR (repS (shop0 r) l i) (l.getD i ac0)) := by
      rw [Int.toNat_natCast, acX_eq]
      exact s21 _ ms (hS i) hM _
    repeat' ((conv => whnf); first | refine Rng.g ?_ | refine Ob.g ?_ | refine Ob.e ?_ | refine Ob.m ?_ | refine Ob.mk (Nat.le_of_ble_eq_true rfl) ?_ | refine JoinVC.on ?_ | refine Nils.mk (fun h => ?_) ?_ | refine Val.t ?_ | refine Val.d ?_ | refine Mm.mk ?_ | (refine Br.mk (fun h => ?_) (fun h => ?_) <;> first | (exfalso; omega; done) | (exfalso; simp at h; done) | skip))
    conv => whnf
    first | refine CallVC.mk [0, 1, 2, 3, 4, 5] _ _ _ rfl rfl rfl (c21) (fun r m' h' => ?_) | refine CallVC0.same [0, 1, 2, 3, 4, 5] _ _ _ rfl rfl rfl rfl (c21) (fun r m' h' => (by obtain ⟨ms', hM', rfl, rfl⟩ := h'; rfl)) (fun r m' h' => ?_) | (refine CallVC0.rows [0, 1, 2, 3, 4, 5] _ _ _ rfl rfl rfl ?_ (c21) (fun r m' h' => (by obtain ⟨ms', hM', rfl, rfl⟩ := h'; rfl)) (fun r m' h' => ?_); · (repeat' ((conv => whnf); first | exact trivial | exact rfl | exact Nat.le_refl _ | apply And.intro)))
    obtain ⟨ms', hM', rfl, rfl⟩ := h'
    conv => whnf
    repeat' ((conv => whnf); first | refine Rng.g ?_ | refine Ob.g ?_ | refine Ob.e ?_ | refine Ob.m ?_ | refine Ob.mk (Nat.le_of_ble_eq_true rfl) ?_ | refine JoinVC.on ?_ | refine Nils.mk (fun h => ?_) ?_ | refine Val.t ?_ | refine Val.d ?_ | refine Mm.mk ?_ | (refine Br.mk (fun h => ?_) (fun h => ?_) <;> first | (exfalso; omega; done) | (exfalso; simp at h; done) | skip))
    · repeat refine Mm.mk ?_
      conv => whnf
      refine EndVC.mk _ rfl _ _ (.err hr i h' hg _ rfl ‹_› rfl rfl) ?_
      refine ⟨[], rfl, rfl, ?_, ?_⟩ <;> repeat' (first | exact trivial | exact rfl | exact Iff.rfl | apply And.intro)
    · have he := Classical.not_not.1 ‹¬¬doE (repS (shop0 r) l i) (l.getD i ac0) = 0›
      refine Back.mk (l.length - (i + 1)) _ (by omega) ⟨i + 1, ms', by omega, hg.succ he, hM', rfl, rfl⟩ ?_
      refine ⟨[some 0, some 7, some 2, some 8, some 9, some 10], rfl, rfl, ?_, ?_⟩ <;> repeat' (first | exact trivial | exact rfl | exact Iff.rfl | apply And.intro)
  · obtain rfl : i = l.length := by omega
    repeat' ((conv => whnf); first | refine Rng.g ?_ | refine Ob.g ?_ | refine Ob.e ?_ | refine Ob.m ?_ | refine Ob.mk (Nat.le_of_ble_eq_true rfl) ?_ | refine JoinVC.on ?_ | refine Nils.mk (fun h => ?_) ?_ | refine Val.t ?_ | refine Val.d ?_ | refine Mm.mk ?_ | (refine Br.mk (fun h => ?_) (fun h => ?_) <;> first | (exfalso; omega; done) | (exfalso; simp at h; done) | skip))
    repeat refine Mm.mk ?_
    conv => whnf
    refine EndVC.mk _ rfl _ _ (.ok hr hg ms hM rfl rfl) ?_
    refine ⟨[some 0, some 1, some 2, some 3, some 4, some 5], rfl, rfl, ?_, ?_⟩ <;> repeat' (first | exact trivial | exact rfl | exact Iff.rfl | apply And.intro)
    exact congrArg Int.ofNat ll
theorem s34 (r : Rcp) (l : List Act2) (hl : l.length ≤ 1000000) : HSpec Try.prog 34 [r.x, .one (.lst true KAc (acA l))] [] (RepR r l) := by
  by_cases h : RcpOK r
  · exact s34_ok r l h hl
  · exact s34_no r l h
/-! ### Copies -/
structure Hist (S : Sho) : Prop where
  g : goodTo (shop0 S.r) S.ac S.ac.length
  e : repS (shop0 S.r) S.ac S.ac.length = S
theorem Hist.new (r : Rcp) : Hist (shop0 r) := ⟨fun j hj => absurd hj (Nat.not_lt_zero j), rfl⟩
theorem repS_app (S : Sho) (l m : List Act2) : ∀ i, i ≤ l.length → repS S (l ++ m) i = repS S l i
  | 0, _ => rfl
  | i + 1, hi => by
    unfold repS
    rw [repS_app S l m i (by omega), List.getD_eq_getElem?_getD, List.getD_eq_getElem?_getD, List.getElem?_append_left (by omega)]
theorem Hist.doS {S : Sho} (h : Hist S) (a : Act2) : Hist (Go.Sx.doS S a) := by
  by_cases h0 : doE S a = 0
  · have hr := doS_r S a
    have hac : (Go.Sx.doS S a).ac = S.ac ++ [a] := by unfold Go.Sx.doS; rw [if_pos h0]
    have hl : (S.ac ++ [a]).getD S.ac.length ac0 = a := by rw [getD_app, if_neg (by omega), if_pos rfl]
    have hrep : repS (shop0 S.r) (S.ac ++ [a]) S.ac.length = S := (repS_app _ _ _ _ (Nat.le_refl _)).trans h.e
    constructor
    · rw [hr, hac, List.length_append, List.length_singleton]
      intro j hj
      rcases Nat.lt_succ_iff_lt_or_eq.1 hj with h1 | rfl
      · rw [repS_app _ _ _ _ (by omega), getD_app, if_pos h1]
        exact h.g j h1
      · rw [hrep, hl]
        exact h0
    · rw [hr, hac, List.length_append, List.length_singleton]
      unfold repS
      rw [hrep, hl]
  · have e : Go.Sx.doS S a = S := by unfold Go.Sx.doS; rw [if_neg h0]
    rw [e]
    exact h
theorem Hist.repS {S : Sho} (hS : Hist S) (l : List Act2) : ∀ i, Hist (Go.Sx.repS S l i)
  | 0 => hS
  | i + 1 => Hist.doS (Hist.repS hS l i) _
@[reducible] def shA (S : Sho) (ms : List MS) : List (Option Blk) := [some (bSh 7 9 10 11 S.r), some (.prow 90 8 S.pl.length), some (bFa S.pl ms), some (bTk S.tk), some (bFl S.fl), some (bAc S.ac)]
theorem s29 (S : Sho) (ms : List MS) (hS : ShOK S) (hH : Hist S) : HSpec Try.prog 29 [.one (.ptr 0 0)] (shM S ms) (fun r m' => ∃ ms', MsOK ms' S.be ∧ r = .x (.one (.ptr 6 0)) ∧ m' = shK S ms ++ shA S ms') := by
  have c53 := s53 S ms
  have c34 := s34 S.r S.ac (by have := hS.na; omega)
  refine spec_of pMix (O := []) Try.func29 (c := bodyOf Try.f29) rfl (by kernel_rfl) (by kernel_rfl) Try.ntmps29 (res := [.tmp 2]) (by kernel_rfl) ?_
  repeat' ((conv => whnf); first | refine Rng.g ?_ | refine Ob.g ?_ | refine Ob.e ?_ | refine Ob.m ?_ | refine Ob.mk (Nat.le_of_ble_eq_true rfl) ?_ | refine JoinVC.on ?_ | refine Nils.mk (fun h => ?_) ?_ | refine Val.t ?_ | refine Val.d ?_ | refine Mm.mk ?_ | (refine Br.mk (fun h => ?_) (fun h => ?_) <;> first | (exfalso; omega; done) | (exfalso; simp at h; done) | skip))
  conv => whnf
  first | refine CallVC.mk [0, 1, 2, 3, 4, 5] _ _ _ rfl rfl rfl (c53) (fun r m' h' => ?_) | refine CallVC0.same [0, 1, 2, 3, 4, 5] _ _ _ rfl rfl rfl rfl (c53) (fun r m' h' => (by obtain ⟨rfl, rfl⟩ := h'; rfl)) (fun r m' h' => ?_) | (refine CallVC0.rows [0, 1, 2, 3, 4, 5] _ _ _ rfl rfl rfl ?_ (c53) (fun r m' h' => (by obtain ⟨rfl, rfl⟩ := h'; rfl)) (fun r m' h' => ?_); · (repeat' ((conv => whnf); first | exact trivial | exact rfl | exact Nat.le_refl _ | apply And.intro)))
  obtain ⟨rfl, rfl⟩ := h'
  conv => whnf
  repeat' ((conv => whnf); first | refine Rng.g ?_ | refine Ob.g ?_ | refine Ob.e ?_ | refine Ob.m ?_ | refine Ob.mk (Nat.le_of_ble_eq_true rfl) ?_ | refine JoinVC.on ?_ | refine Nils.mk (fun h => ?_) ?_ | refine Val.t ?_ | refine Val.d ?_ | refine Mm.mk ?_ | (refine Br.mk (fun h => ?_) (fun h => ?_) <;> first | (exfalso; omega; done) | (exfalso; simp at h; done) | skip))
  conv => whnf
  refine CallVC.mk [] _ _ _ rfl rfl rfl (c34) (fun r m' h' => ?_)
  cases h' with
  | bad h hv hm => exact absurd hS.r h
  | err h i hi hg e he h0 hv hm => exact absurd (hH.g i hi) (by rw [he]; exact h0)
  | ok h hg ms' hM' hv hm =>
    rw [hH.e] at hm hM'
    subst hv hm
    repeat' ((conv => whnf); first | refine Rng.g ?_ | refine Ob.g ?_ | refine Ob.e ?_ | refine Ob.m ?_ | refine Ob.mk (Nat.le_of_ble_eq_true rfl) ?_ | refine JoinVC.on ?_ | refine Nils.mk (fun h => ?_) ?_ | refine Val.t ?_ | refine Val.d ?_ | refine Mm.mk ?_ | (refine Br.mk (fun h => ?_) (fun h => ?_) <;> first | (exfalso; omega; done) | (exfalso; simp at h; done) | skip))
    repeat refine Mm.mk ?_
    conv => whnf
    refine EndVC.mk _ rfl _ _ (⟨ms', hM', rfl, rfl⟩) ?_
    refine ⟨[some 0, some 1, some 2, some 3, some 4, some 5, some 6, some 7, some 8, some 9, some 10, some 11], rfl, rfl, ?_, ?_⟩ <;> repeat' (first | exact trivial | exact rfl | exact Iff.rfl | apply And.intro)
end Go.Sx

namespace Go.Sx
open Go Go.Proofs
set_option maxRecDepth 10000
set_option maxHeartbeats 8000000
/-! ### The example -/
@[reducible] def exR : Rcp := ⟨0, 100, 100, 200, 0, 900, 900, 900, 10, 50, 500, 2, 3⟩
@[reducible] def groA (i b : Int) : Act2 := ⟨3, 0, 0, 0, 0, i, b, 50, 1, 500, 1, 0, 0⟩
theorem s35 : PSpec Try.prog 35 [] (.x exR.x) := by
  refine spec_of pMix (O := []) Try.func35 (c := bodyOf Try.f35) rfl (by kernel_rfl) (by kernel_rfl) Try.ntmps35 (res := [.cell 0 24]) (by kernel_rfl) ?_
  repeat' ((conv => whnf); first | refine Rng.g ?_ | refine Ob.g ?_ | refine Ob.e ?_ | refine Ob.m ?_ | refine Ob.mk (Nat.le_of_ble_eq_true rfl) ?_ | refine JoinVC.on ?_ | refine Nils.mk (fun h => ?_) ?_ | refine Val.t ?_ | refine Val.d ?_ | refine Mm.mk ?_ | (refine Br.mk (fun h => ?_) (fun h => ?_) <;> first | (exfalso; omega; done) | (exfalso; simp at h; done) | skip))
  repeat refine Mm.mk ?_
  refine EndVC.mk _ rfl _ _ ⟨rfl, rfl⟩ ?_
  refine ⟨[], rfl, rfl, ?_, ?_⟩ <;> repeat' (first | exact trivial | exact rfl | exact Iff.rfl | apply And.intro)
theorem s37 (i b : Int) : PSpec Try.prog 37 [I i, I b] (.x (groA i b).x) := by
  refine spec_of pMix (O := []) Try.func37 (c := bodyOf Try.f37) rfl (by kernel_rfl) (by kernel_rfl) Try.ntmps37 (res := [.cell 4 43]) (by kernel_rfl) ?_
  repeat' ((conv => whnf); first | refine Rng.g ?_ | refine Ob.g ?_ | refine Ob.e ?_ | refine Ob.m ?_ | refine Ob.mk (Nat.le_of_ble_eq_true rfl) ?_ | refine JoinVC.on ?_ | refine Nils.mk (fun h => ?_) ?_ | refine Val.t ?_ | refine Val.d ?_ | refine Mm.mk ?_ | (refine Br.mk (fun h => ?_) (fun h => ?_) <;> first | (exfalso; omega; done) | (exfalso; simp at h; done) | skip))
  repeat refine Mm.mk ?_
  refine EndVC.mk _ rfl _ _ ⟨rfl, rfl⟩ ?_
  refine ⟨[], rfl, rfl, ?_, ?_⟩ <;> repeat' (first | exact trivial | exact rfl | exact Iff.rfl | apply And.intro)
@[reducible] def exA : List Act2 := [⟨1, 7, 1000, 0, 0, 0, 0, 0, 0, 0, 0, 0, 0⟩, ⟨2, 0, 0, 2000, 500, 0, 0, 0, 0, 0, 0, 0, 0⟩, groA 0 0, ⟨4, 0, 0, 0, 0, 1, 0, 0, 0, 0, 0, 9, 0⟩, groA 1 0, groA 2 0, ⟨5, 0, 0, 0, 0, 2, 0, 0, 0, 0, 0, 0, 0⟩, groA 2 0]
@[reducible] def exS0 : Sho := ⟨exR, [], [], [], [], []⟩
@[reducible] def exS1 : Sho := ⟨exR, [⟨0, -1, 7, 1000, 0, 0, false⟩], [[]], [], [], [⟨1, 7, 1000, 0, 0, 0, 0, 0, 0, 0, 0, 0, 0⟩]⟩
@[reducible] def exS2 : Sho := ⟨exR, [⟨0, -1, 7, 1000, 0, 0, false⟩], [[]], [⟨2000, 500, 0, 0⟩], [], [⟨1, 7, 1000, 0, 0, 0, 0, 0, 0, 0, 0, 0, 0⟩, ⟨2, 0, 0, 2000, 500, 0, 0, 0, 0, 0, 0, 0, 0⟩]⟩
@[reducible] def exS3 : Sho := ⟨exR, [⟨0, -1, 7, 1000, 0, 1, true⟩, ⟨1, 0, 7, 1000, 275, 0, false⟩], [[], []], [⟨1725, 500, 550, 275⟩], [], [⟨1, 7, 1000, 0, 0, 0, 0, 0, 0, 0, 0, 0, 0⟩, ⟨2, 0, 0, 2000, 500, 0, 0, 0, 0, 0, 0, 0, 0⟩, groA 0 0]⟩
@[reducible] def exS4 : Sho := ⟨exR, [⟨0, -1, 7, 1000, 0, 1, true⟩, ⟨1, 0, 7, 1000, 275, 0, false⟩], [[], [0]], [⟨1725, 500, 550, 275⟩], [(1, 9)], [⟨1, 7, 1000, 0, 0, 0, 0, 0, 0, 0, 0, 0, 0⟩, ⟨2, 0, 0, 2000, 500, 0, 0, 0, 0, 0, 0, 0, 0⟩, groA 0 0, ⟨4, 0, 0, 0, 0, 1, 0, 0, 0, 0, 0, 9, 0⟩]⟩
@[reducible] def exS5 : Sho := ⟨exR, [⟨0, -1, 7, 1000, 0, 1, true⟩, ⟨1, 0, 7, 1000, 275, 1, false⟩, ⟨2, 1, 7, 1000, 275, 0, false⟩], [[], [0], [0]], [⟨1450, 500, 1100, 550⟩], [(1, 9)], [⟨1, 7, 1000, 0, 0, 0, 0, 0, 0, 0, 0, 0, 0⟩, ⟨2, 0, 0, 2000, 500, 0, 0, 0, 0, 0, 0, 0, 0⟩, groA 0 0, ⟨4, 0, 0, 0, 0, 1, 0, 0, 0, 0, 0, 9, 0⟩, groA 1 0]⟩
@[reducible] def exS6 : Sho := ⟨exR, [⟨0, -1, 7, 1000, 0, 1, true⟩, ⟨1, 0, 7, 1000, 275, 1, false⟩, ⟨2, 1, 7, 1000, 275, 1, false⟩, ⟨3, 2, 7, 1000, 275, 0, false⟩], [[], [0], [0], [0]], [⟨1175, 500, 1650, 825⟩], [(1, 9)], [⟨1, 7, 1000, 0, 0, 0, 0, 0, 0, 0, 0, 0, 0⟩, ⟨2, 0, 0, 2000, 500, 0, 0, 0, 0, 0, 0, 0, 0⟩, groA 0 0, ⟨4, 0, 0, 0, 0, 1, 0, 0, 0, 0, 0, 9, 0⟩, groA 1 0, groA 2 0]⟩
@[reducible] def exS7 : Sho := ⟨exR, [⟨0, -1, 7, 1000, 0, 1, true⟩, ⟨1, 0, 7, 1000, 275, 1, false⟩, ⟨2, 1, 7, 1000, 275, 1, false⟩, ⟨3, 2, 7, 1000, 275, 0, false⟩], [[], [0], [], [0]], [⟨1175, 500, 1650, 825⟩], [(1, 9)], [⟨1, 7, 1000, 0, 0, 0, 0, 0, 0, 0, 0, 0, 0⟩, ⟨2, 0, 0, 2000, 500, 0, 0, 0, 0, 0, 0, 0, 0⟩, groA 0 0, ⟨4, 0, 0, 0, 0, 1, 0, 0, 0, 0, 0, 9, 0⟩, groA 1 0, groA 2 0, ⟨5, 0, 0, 0, 0, 2, 0, 0, 0, 0, 0, 0, 0⟩]⟩
@[reducible] def exS8 : Sho := ⟨exR, [⟨0, -1, 7, 1000, 0, 1, true⟩, ⟨1, 0, 7, 1000, 275, 1, false⟩, ⟨2, 1, 7, 1000, 275, 2, false⟩, ⟨3, 2, 7, 1000, 275, 0, false⟩, ⟨3, 2, 7, 1000, 275, 0, false⟩], [[], [0], [], [0], []], [⟨900, 500, 2200, 1100⟩], [(1, 9)], [⟨1, 7, 1000, 0, 0, 0, 0, 0, 0, 0, 0, 0, 0⟩, ⟨2, 0, 0, 2000, 500, 0, 0, 0, 0, 0, 0, 0, 0⟩, groA 0 0, ⟨4, 0, 0, 0, 0, 1, 0, 0, 0, 0, 0, 9, 0⟩, groA 1 0, groA 2 0, ⟨5, 0, 0, 0, 0, 2, 0, 0, 0, 0, 0, 0, 0⟩, groA 2 0]⟩
theorem exE0 : doE exS0 (exA.getD 0 ac0) = 0 := by kernel_rfl
theorem exD0 : doS exS0 (exA.getD 0 ac0) = exS1 := by kernel_rfl
theorem exE1 : doE exS1 (exA.getD 1 ac0) = 0 := by kernel_rfl
theorem exD1 : doS exS1 (exA.getD 1 ac0) = exS2 := by kernel_rfl
theorem exE2 : doE exS2 (exA.getD 2 ac0) = 0 := by kernel_rfl
theorem exD2 : doS exS2 (exA.getD 2 ac0) = exS3 := by kernel_rfl
theorem exE3 : doE exS3 (exA.getD 3 ac0) = 0 := by kernel_rfl
theorem exD3 : doS exS3 (exA.getD 3 ac0) = exS4 := by kernel_rfl
theorem exE4 : doE exS4 (exA.getD 4 ac0) = 0 := by kernel_rfl
theorem exD4 : doS exS4 (exA.getD 4 ac0) = exS5 := by kernel_rfl
theorem exE5 : doE exS5 (exA.getD 5 ac0) = 0 := by kernel_rfl
theorem exD5 : doS exS5 (exA.getD 5 ac0) = exS6 := by kernel_rfl
theorem exE6 : doE exS6 (exA.getD 6 ac0) = 0 := by kernel_rfl
theorem exD6 : doS exS6 (exA.getD 6 ac0) = exS7 := by kernel_rfl
theorem exE7 : doE exS7 (exA.getD 7 ac0) = 0 := by kernel_rfl
theorem exD7 : doS exS7 (exA.getD 7 ac0) = exS8 := by kernel_rfl
theorem exP0 : repS (shop0 exR) exA 0 = exS0 := rfl
theorem exP1 : repS (shop0 exR) exA 1 = exS1 := (congrArg (doS · (exA.getD 0 ac0)) exP0).trans exD0
theorem exP2 : repS (shop0 exR) exA 2 = exS2 := (congrArg (doS · (exA.getD 1 ac0)) exP1).trans exD1
theorem exP3 : repS (shop0 exR) exA 3 = exS3 := (congrArg (doS · (exA.getD 2 ac0)) exP2).trans exD2
theorem exP4 : repS (shop0 exR) exA 4 = exS4 := (congrArg (doS · (exA.getD 3 ac0)) exP3).trans exD3
theorem exP5 : repS (shop0 exR) exA 5 = exS5 := (congrArg (doS · (exA.getD 4 ac0)) exP4).trans exD4
theorem exP6 : repS (shop0 exR) exA 6 = exS6 := (congrArg (doS · (exA.getD 5 ac0)) exP5).trans exD5
theorem exP7 : repS (shop0 exR) exA 7 = exS7 := (congrArg (doS · (exA.getD 6 ac0)) exP6).trans exD6
theorem exP8 : repS (shop0 exR) exA 8 = exS8 := (congrArg (doS · (exA.getD 7 ac0)) exP7).trans exD7
theorem exG : goodTo (shop0 exR) exA 8 := fun j hj => by
  rcases (show j = 0 ∨ j = 1 ∨ j = 2 ∨ j = 3 ∨ j = 4 ∨ j = 5 ∨ j = 6 ∨ j = 7 by omega) with rfl | rfl | rfl | rfl | rfl | rfl | rfl | rfl
  · rw [exP0]; exact exE0
  · rw [exP1]; exact exE1
  · rw [exP2]; exact exE2
  · rw [exP3]; exact exE3
  · rw [exP4]; exact exE4
  · rw [exP5]; exact exE5
  · rw [exP6]; exact exE6
  · rw [exP7]; exact exE7
theorem exOK : RcpOK exR := ⟨by decide, by decide, by decide, by decide, by decide, by decide, by decide, by decide⟩
theorem exUp : exS8.up 4 = [4, 2, 1, 0] := by kernel_rfl
theorem exBe : bear exS8.be 0 5 = [1, 3] := by kernel_rfl
theorem exNe : needE exS8 0 6 = 0 := by kernel_rfl
theorem exNn : needN exS8 0 6 = 5 := by kernel_rfl
theorem s36 : HSpec Try.prog 36 [] [] (fun r m' => r = .x (.one (.lst false KAc (acA exA))) ∧ m' = []) := by
  have c0 := s37 0 0
  have c1 := s37 1 0
  have c2 := s37 2 0
  refine spec_of pMix (O := []) Try.func36 (c := bodyOf Try.f36) rfl (by kernel_rfl) (by kernel_rfl) Try.ntmps36 (res := [.tmp 0]) (by kernel_rfl) ?_
  repeat' ((conv => whnf); first | refine Rng.g ?_ | refine Ob.g ?_ | refine Ob.e ?_ | refine Ob.m ?_ | refine Ob.mk (Nat.le_of_ble_eq_true rfl) ?_ | refine JoinVC.on ?_ | refine Nils.mk (fun h => ?_) ?_ | refine Val.t ?_ | refine Val.d ?_ | refine Mm.mk ?_ | refine CallVC.pure rfl (c0) ?_ | refine CallVC.pure rfl (c1) ?_ | refine CallVC.pure rfl (c2) ?_ | refine CallVC0.pure rfl (c0) ?_ | refine CallVC0.pure rfl (c1) ?_ | refine CallVC0.pure rfl (c2) ?_ | (refine Br.mk (fun h => ?_) (fun h => ?_) <;> first | (exfalso; omega; done) | (exfalso; simp at h; done) | skip))
  repeat refine Mm.mk ?_
  refine EndVC.mk _ rfl _ _ ⟨rfl, rfl⟩ ?_
  refine ⟨[], rfl, rfl, ?_, ?_⟩ <;> repeat' (first | exact trivial | exact rfl | exact Iff.rfl | apply And.intro)
theorem s32 (xs ys : List Int) (hx : xs.length ≤ 1000000) : PSpec Try.prog 32 [.one (.lst true [.int .i64] (i64s xs)), .one (.lst true [.int .i64] (i64s ys))] (xP (xs = ys)) := by
  have lx := i64s_len xs
  have ly := i64s_len ys
  by_cases hl : xs.length = ys.length
  · refine spec_of pMix (O := []) Try.func32 (c := bodyOf Try.f32) rfl (by kernel_rfl) (by kernel_rfl) Try.ntmps32 (res := [.tmp 4]) (by kernel_rfl) ?_
    repeat' ((conv => whnf); first | refine Rng.g ?_ | refine Ob.g ?_ | refine Ob.e ?_ | refine Ob.m ?_ | refine Ob.mk (Nat.le_of_ble_eq_true rfl) ?_ | refine JoinVC.on ?_ | refine Nils.mk (fun h => ?_) ?_ | refine Val.t ?_ | refine Val.d ?_ | refine Mm.mk ?_ | (refine Br.mk (fun h => ?_) (fun h => ?_) <;> first | (exfalso; omega; done) | (exfalso; simp at h; done) | skip))
    refine LoopVC.mk (fun n st => ∃ (i : Nat), i ≤ xs.length ∧ n = xs.length - i ∧ (∀ j, j < i → xs.getD j 0 = ys.getD j 0) ∧ st = ⟨0, envA 26 [(0, .x (.one (.lst true [.int .i64] (i64s xs)))), (1, .x (.one (.lst true [.int .i64] (i64s ys)))), (5, .int .i64 (i : Int))], []⟩) _ _ ⟨0, Nat.zero_le _, rfl, fun j hj => absurd hj (Nat.not_lt_zero j), rfl⟩ ?_ ?_
    · refine ⟨[], rfl, rfl, ?_, ?_⟩ <;> repeat' (first | exact trivial | exact rfl | exact Iff.rfl | apply And.intro)
    rintro n _ ⟨i, hi, hn, hj, rfl⟩
    have g0 : rI (i64s xs) (i : Int).toNat 0 = xs.getD i 0 := by rw [Int.toNat_natCast, i64s_get]
    have g1 : rI (i64s ys) (i : Int).toNat 0 = ys.getD i 0 := by rw [Int.toNat_natCast, i64s_get]
    by_cases h' : i < xs.length
    · repeat' ((conv => whnf); first | rw [g0] | rw [g1] | refine Rng.g ?_ | refine Ob.g ?_ | refine Ob.e ?_ | refine Ob.m ?_ | refine Ob.mk (Nat.le_of_ble_eq_true rfl) ?_ | refine JoinVC.on ?_ | refine Nils.mk (fun h => ?_) ?_ | refine Val.t ?_ | refine Val.d ?_ | refine Mm.mk ?_ | (refine Br.mk (fun h => ?_) (fun h => ?_) <;> first | (exfalso; omega; done) | (exfalso; simp at h; done) | skip))
      · repeat refine Mm.mk ?_
        refine EndVC.mk _ rfl _ _ ⟨rfl, rfl⟩ ?_
        refine ⟨[], rfl, rfl, ?_, ?_⟩ <;> repeat' (first | exact trivial | exact rfl | exact Iff.rfl | apply And.intro)
        exact fun hc => h (by rw [hc])
      · refine Back.mk (xs.length - (i + 1)) _ (by omega) ⟨i + 1, by omega, rfl, fun j hj' => ?_, rfl⟩ ?_
        · rcases Nat.lt_succ_iff_lt_or_eq.1 hj' with h1 | rfl
          · exact hj j h1
          · exact Classical.not_not.1 h
        · refine ⟨[], rfl, rfl, ?_, ?_⟩ <;> repeat' (first | exact trivial | exact rfl | exact Iff.rfl | apply And.intro)
    · obtain rfl : i = xs.length := by omega
      repeat' ((conv => whnf); first | refine Rng.g ?_ | refine Ob.g ?_ | refine Ob.e ?_ | refine Ob.m ?_ | refine Ob.mk (Nat.le_of_ble_eq_true rfl) ?_ | refine JoinVC.on ?_ | refine Nils.mk (fun h => ?_) ?_ | refine Val.t ?_ | refine Val.d ?_ | refine Mm.mk ?_ | (refine Br.mk (fun h => ?_) (fun h => ?_) <;> first | (exfalso; omega; done) | (exfalso; simp at h; done) | skip))
      repeat refine Mm.mk ?_
      refine EndVC.mk _ rfl _ _ ⟨rfl, rfl⟩ ?_
      refine ⟨[], rfl, rfl, ?_, ?_⟩ <;> repeat' (first | exact trivial | exact rfl | exact Iff.rfl | apply And.intro)
      exact (List.ext_getElem hl fun k h1 h2 => by
        have := hj k h1
        rwa [List.getD_eq_getElem?_getD, List.getD_eq_getElem?_getD, List.getElem?_eq_getElem h1, List.getElem?_eq_getElem h2] at this)
  · refine spec_of pMix (O := []) Try.func32 (c := bodyOf Try.f32) rfl (by kernel_rfl) (by kernel_rfl) Try.ntmps32 (res := [.tmp 4]) (by kernel_rfl) ?_
    repeat' ((conv => whnf); first | refine Rng.g ?_ | refine Ob.g ?_ | refine Ob.e ?_ | refine Ob.m ?_ | refine Ob.mk (Nat.le_of_ble_eq_true rfl) ?_ | refine JoinVC.on ?_ | refine Nils.mk (fun h => ?_) ?_ | refine Val.t ?_ | refine Val.d ?_ | refine Mm.mk ?_ | (refine Br.mk (fun h => ?_) (fun h => ?_) <;> first | (exfalso; omega; done) | (exfalso; simp at h; done) | skip))
    repeat refine Mm.mk ?_
    refine EndVC.mk _ rfl _ _ ⟨rfl, rfl⟩ ?_
    refine ⟨[], rfl, rfl, ?_, ?_⟩ <;> repeat' (first | exact trivial | exact rfl | exact Iff.rfl | apply And.intro)
    exact fun h => hl (congrArg List.length h)
theorem PSpec.tt {P : Program} {f : FuncId} {args : List XV} {p : Prop} {d : Decidable p} (h : PSpec P f args (.x (.one (.prp p d)))) (hp : p) : PSpec P f args (.x (.one .tt)) := by
  intro w R vs h1 h2
  have key : ∀ (e : Ending) (w' : World), (∃ v r m' R', e = .returned v ∧ (r = .x (.one (.prp p d)) ∧ m' = []) ∧ Fr w R ([].map some) w' R' m' ∧ RepA w' R' r v) → ∃ v r m' R', e = .returned v ∧ (r = .x (.one .tt) ∧ m' = []) ∧ Fr w R ([].map some) w' R' m' ∧ RepA w' R' r v := by
    rintro e w' ⟨v, r, m', R', h3, ⟨rfl, rfl⟩, h5, h6⟩
    refine ⟨v, _, _, R', h3, ⟨rfl, rfl⟩, h5, ?_⟩
    have h6' : v = .bool (@decide p d) := h6
    exact h6'.trans (by rw [decide_eq_true hp])
  rcases h w R vs h1 h2 with ⟨h3, h4⟩ | ⟨v, w', h3, h4⟩
  · exact .inl ⟨h3, h4.mono key⟩
  · exact .inr ⟨v, w', h3, key _ _ h4⟩
theorem s17p : PSpec Try.prog 17 [] (xP ((5 : Int) = 5)) := by
  have c34 := s34 exR exA (by decide)
  have hS : ShOK exS8 := by have := ShOK.repS (ShOK.new exOK) exA 8; rwa [exP8] at this
  have lA : (acA exA).length = 8 := rfl
  have q1 := (s32 [4, 2, 1, 0].reverse [0, 1, 2, 4] (by decide)).tt rfl
  have q2 := (s32 [1, 3] [1, 3] (by decide)).tt rfl
  refine spec_of pMix (O := []) Try.func17 (c := bodyOf Try.f17) rfl (by kernel_rfl) (by kernel_rfl) Try.ntmps17 (res := [.tmp 0]) (by kernel_rfl) ?_
  repeat' ((conv => whnf); first | refine Rng.g ?_ | refine Ob.g ?_ | refine Ob.e ?_ | refine Ob.m ?_ | refine Ob.mk (Nat.le_of_ble_eq_true rfl) ?_ | refine JoinVC.on ?_ | refine Nils.mk (fun h => ?_) ?_ | refine Val.t ?_ | refine Val.d ?_ | refine Mm.mk ?_ | refine CallVC.pure rfl (s35) ?_ | refine CallVC0.pure rfl (s35) ?_ | (refine Br.mk (fun h => ?_) (fun h => ?_) <;> first | (exfalso; omega; done) | (exfalso; simp at h; done) | skip))
  conv => whnf
  refine CallVC.mk [] _ _ _ rfl rfl rfl (s36) (fun r m' h' => ?_)
  obtain ⟨rfl, rfl⟩ := h'
  conv => whnf
  repeat' ((conv => whnf); first | refine Rng.g ?_ | refine Ob.g ?_ | refine Ob.e ?_ | refine Ob.m ?_ | refine Ob.mk (Nat.le_of_ble_eq_true rfl) ?_ | refine JoinVC.on ?_ | refine Nils.mk (fun h => ?_) ?_ | refine Val.t ?_ | refine Val.d ?_ | refine Mm.mk ?_ | (refine Br.mk (fun h => ?_) (fun h => ?_) <;> first | (exfalso; omega; done) | (exfalso; simp at h; done) | skip))
  conv => whnf
  refine CallVC.mk [] _ _ _ rfl rfl rfl (c34) (fun r m' h' => ?_)
  cases h' with
  | bad h hv hm => exact absurd exOK h
  | err h i hi hg e he h0 hv hm => exact absurd (exG i hi) (by rw [he]; exact h0)
  | ok h hg ms hM hv hm =>
    have e8 : repS (shop0 exR) exA exA.length = exS8 := exP8
    rw [e8] at hm hM
    subst hv hm
    have c30 := s30_ok exS8 ms hS 4 (by decide)
    rw [exUp] at c30
    have c39 := s39_ok exS8 ms hS hM 0 (by decide)
    rw [show bear exS8.be 0 exS8.pl.length = [1, 3] from exBe] at c39
    have c26 := s26 exS8 ms hS 0 6
    rw [exNe, exNn] at c26
    repeat' ((conv => whnf); first | refine Rng.g ?_ | refine Ob.g ?_ | refine Ob.e ?_ | refine Ob.m ?_ | refine Ob.mk (Nat.le_of_ble_eq_true rfl) ?_ | refine JoinVC.on ?_ | refine Nils.mk (fun h => ?_) ?_ | refine Val.t ?_ | refine Val.d ?_ | refine Mm.mk ?_ | (refine Br.mk (fun h => ?_) (fun h => ?_) <;> first | (exfalso; omega; done) | (exfalso; simp at h; done) | skip))
    conv => whnf
    first | refine CallVC.mk [0, 1, 2, 3, 4, 5] _ _ _ rfl rfl rfl (c30) (fun r m' h' => ?_) | refine CallVC0.same [0, 1, 2, 3, 4, 5] _ _ _ rfl rfl rfl rfl (c30) (fun r m' h' => (by obtain ⟨rfl, rfl⟩ := h'; rfl)) (fun r m' h' => ?_) | (refine CallVC0.rows [0, 1, 2, 3, 4, 5] _ _ _ rfl rfl rfl ?_ (c30) (fun r m' h' => (by obtain ⟨rfl, rfl⟩ := h'; rfl)) (fun r m' h' => ?_); · (repeat' ((conv => whnf); first | exact trivial | exact rfl | exact Nat.le_refl _ | apply And.intro)))
    obtain ⟨rfl, rfl⟩ := h'
    conv => whnf
    repeat' ((conv => whnf); first | refine Rng.g ?_ | refine Ob.g ?_ | refine Ob.e ?_ | refine Ob.m ?_ | refine Ob.mk (Nat.le_of_ble_eq_true rfl) ?_ | refine JoinVC.on ?_ | refine Nils.mk (fun h => ?_) ?_ | refine Val.t ?_ | refine Val.d ?_ | refine Mm.mk ?_ | (refine Br.mk (fun h => ?_) (fun h => ?_) <;> first | (exfalso; omega; done) | (exfalso; simp at h; done) | skip))
    conv => whnf
    first | refine CallVC.mk [0, 1, 2, 3, 4, 5] _ _ _ rfl rfl rfl (c39) (fun r m' h' => ?_) | refine CallVC0.same [0, 1, 2, 3, 4, 5] _ _ _ rfl rfl rfl rfl (c39) (fun r m' h' => (by obtain ⟨rfl, rfl⟩ := h'; rfl)) (fun r m' h' => ?_) | (refine CallVC0.rows [0, 1, 2, 3, 4, 5] _ _ _ rfl rfl rfl ?_ (c39) (fun r m' h' => (by obtain ⟨rfl, rfl⟩ := h'; rfl)) (fun r m' h' => ?_); · (repeat' ((conv => whnf); first | exact trivial | exact rfl | exact Nat.le_refl _ | apply And.intro)))
    obtain ⟨rfl, rfl⟩ := h'
    conv => whnf
    repeat' ((conv => whnf); first | refine Rng.g ?_ | refine Ob.g ?_ | refine Ob.e ?_ | refine Ob.m ?_ | refine Ob.mk (Nat.le_of_ble_eq_true rfl) ?_ | refine JoinVC.on ?_ | refine Nils.mk (fun h => ?_) ?_ | refine Val.t ?_ | refine Val.d ?_ | refine Mm.mk ?_ | (refine Br.mk (fun h => ?_) (fun h => ?_) <;> first | (exfalso; omega; done) | (exfalso; simp at h; done) | skip))
    conv => whnf
    first | refine CallVC.mk [0, 1, 2, 3, 4, 5] _ _ _ rfl rfl rfl (c26) (fun r m' h' => ?_) | refine CallVC0.same [0, 1, 2, 3, 4, 5] _ _ _ rfl rfl rfl rfl (c26) (fun r m' h' => (by obtain ⟨rfl, rfl⟩ := h'; rfl)) (fun r m' h' => ?_) | (refine CallVC0.rows [0, 1, 2, 3, 4, 5] _ _ _ rfl rfl rfl ?_ (c26) (fun r m' h' => (by obtain ⟨rfl, rfl⟩ := h'; rfl)) (fun r m' h' => ?_); · (repeat' ((conv => whnf); first | exact trivial | exact rfl | exact Nat.le_refl _ | apply And.intro)))
    obtain ⟨rfl, rfl⟩ := h'
    conv => whnf
    repeat' ((conv => whnf); first | refine Rng.g ?_ | refine Ob.g ?_ | refine Ob.e ?_ | refine Ob.m ?_ | refine Ob.mk (Nat.le_of_ble_eq_true rfl) ?_ | refine JoinVC.on ?_ | refine Nils.mk (fun h => ?_) ?_ | refine Val.t ?_ | refine Val.d ?_ | refine Mm.mk ?_ | refine CallVC.pure rfl (q1) ?_ | refine CallVC.pure rfl (q2) ?_ | refine CallVC0.pure rfl (q1) ?_ | refine CallVC0.pure rfl (q2) ?_ | (refine Br.mk (fun h => ?_) (fun h => ?_) <;> first | (exfalso; omega; done) | (exfalso; simp at h; done) | skip))
    repeat refine Mm.mk ?_
    refine EndVC.mk _ rfl _ _ ⟨rfl, rfl⟩ ?_
    refine ⟨[], rfl, rfl, ?_, ?_⟩ <;> repeat' (first | exact trivial | exact rfl | exact Iff.rfl | apply And.intro)
theorem s17 : PSpec Try.prog 17 [] (.x (.one .tt)) := s17p.tt rfl
/-! ### A shop after some acts -/
theorem doN_no {S : Sho} {a : Act2} (h : ¬ doE S a = 0) : doN S a = 0 := if_neg h
def aftS (r : Rcp) (l : List Act2) : Sho := repS (shop0 r) l l.length
theorem aft_ok {r : Rcp} (h : RcpOK r) (l : List Act2) : ShOK (aftS r l) := ShOK.repS (ShOK.new h) l _
theorem aft_hist (r : Rcp) (l : List Act2) : Hist (aftS r l) := Hist.repS (Hist.new r) l _
theorem s18 (r : Rcp) (l : List Act2) (hr : RcpOK r) (hl : l.length ≤ 1000000) : HSpec Try.prog 18 [r.x, .one (.lst true KAc (acA l))] [] (fun v m' => ∃ ms, MsOK ms (aftS r l).be ∧ v = .tup [.one (.ptr 0 0), .one .tt] ∧ m' = shK (aftS r l) ms) := by
  have c20 := s20 r hr
  have ll := acA_len l
  have hS := ShOK.repS (ShOK.new hr) l
  refine spec_of pMix (O := []) Try.func18 (c := bodyOf Try.f18) rfl (by kernel_rfl) (by kernel_rfl) Try.ntmps18 (res := [.tmp 4, .tmp 5]) (by kernel_rfl) ?_
  repeat' ((conv => whnf); first | refine Rng.g ?_ | refine Ob.g ?_ | refine Ob.e ?_ | refine Ob.m ?_ | refine Ob.mk (Nat.le_of_ble_eq_true rfl) ?_ | refine JoinVC.on ?_ | refine Nils.mk (fun h => ?_) ?_ | refine Val.t ?_ | refine Val.d ?_ | refine Mm.mk ?_ | (refine Br.mk (fun h => ?_) (fun h => ?_) <;> first | (exfalso; omega; done) | (exfalso; simp at h; done) | skip))
  conv => whnf
  first | refine CallVC.mk [] _ _ _ rfl rfl rfl (c20) (fun r m' h' => ?_) | refine CallVC0.same [] _ _ _ rfl rfl rfl rfl (c20) (fun r m' h' => (by obtain ⟨rfl, rfl⟩ := h'; rfl)) (fun r m' h' => ?_) | (refine CallVC0.rows [] _ _ _ rfl rfl rfl ?_ (c20) (fun r m' h' => (by obtain ⟨rfl, rfl⟩ := h'; rfl)) (fun r m' h' => ?_); · (repeat' ((conv => whnf); first | exact trivial | exact rfl | exact Nat.le_refl _ | apply And.intro)))
  obtain ⟨rfl, rfl⟩ := h'
  conv => whnf
  repeat' ((conv => whnf); first | refine Rng.g ?_ | refine Ob.g ?_ | refine Ob.e ?_ | refine Ob.m ?_ | refine Ob.mk (Nat.le_of_ble_eq_true rfl) ?_ | refine JoinVC.on ?_ | refine Nils.mk (fun h => ?_) ?_ | refine Val.t ?_ | refine Val.d ?_ | refine Mm.mk ?_ | (refine Br.mk (fun h => ?_) (fun h => ?_) <;> first | (exfalso; omega; done) | (exfalso; simp at h; done) | skip))
  refine LoopVC.mk (fun n st => ∃ (i : Nat) (ms : List MS), i ≤ l.length ∧ MsOK ms (repS (shop0 r) l i).be ∧ n = l.length - i ∧ st = ⟨0, envA 45 [(1, .x (.one (.lst true KAc (acA l)))), (6, .x (.one (.ptr 0 0))), (8, .int .i64 (i : Int))], shK (repS (shop0 r) l i) ms⟩) _ _ ⟨0, [], Nat.zero_le _, MsOK.new, rfl, rfl⟩ ?_ ?_
  · refine ⟨[some 1, some 2, some 3, some 4, some 5, some 6], rfl, rfl, ?_, ?_⟩ <;> repeat' (first | exact trivial | exact rfl | exact Iff.rfl | apply And.intro)
  rintro n _ ⟨i, ms, hi, hM, hn, rfl⟩
  by_cases h' : i < l.length
  · have c21 : HSpec Try.prog 21 [.one (.ptr 0 0), acX (acA l) (i : Int).toNat] (shM (repS (shop0 r) l i) ms) (DoR (repS (shop0 r) l i) (l.getD i ac0)) := by
      rw [Int.toNat_natCast, acX_eq]
      exact s21 _ ms (hS i) hM _
    repeat' ((conv => whnf); first | refine Rng.g ?_ | refine Ob.g ?_ | refine Ob.e ?_ | refine Ob.m ?_ | refine Ob.mk (Nat.le_of_ble_eq_true rfl) ?_ | refine JoinVC.on ?_ | refine Nils.mk (fun h => ?_) ?_ | refine Val.t ?_ | refine Val.d ?_ | refine Mm.mk ?_ | (refine Br.mk (fun h => ?_) (fun h => ?_) <;> first | (exfalso; omega; done) | (exfalso; simp at h; done) | skip))
    conv => whnf
    first | refine CallVC.mk [0, 1, 2, 3, 4, 5] _ _ _ rfl rfl rfl (c21) (fun r m' h' => ?_) | refine CallVC0.same [0, 1, 2, 3, 4, 5] _ _ _ rfl rfl rfl rfl (c21) (fun r m' h' => (by obtain ⟨ms', hM', rfl, rfl⟩ := h'; rfl)) (fun r m' h' => ?_) | (refine CallVC0.rows [0, 1, 2, 3, 4, 5] _ _ _ rfl rfl rfl ?_ (c21) (fun r m' h' => (by obtain ⟨ms', hM', rfl, rfl⟩ := h'; rfl)) (fun r m' h' => ?_); · (repeat' ((conv => whnf); first | exact trivial | exact rfl | exact Nat.le_refl _ | apply And.intro)))
    obtain ⟨ms', hM', rfl, rfl⟩ := h'
    conv => whnf
    repeat' ((conv => whnf); first | refine Rng.g ?_ | refine Ob.g ?_ | refine Ob.e ?_ | refine Ob.m ?_ | refine Ob.mk (Nat.le_of_ble_eq_true rfl) ?_ | refine JoinVC.on ?_ | refine Nils.mk (fun h => ?_) ?_ | refine Val.t ?_ | refine Val.d ?_ | refine Mm.mk ?_ | (refine Br.mk (fun h => ?_) (fun h => ?_) <;> first | (exfalso; omega; done) | (exfalso; simp at h; done) | skip))
    · exact absurd (doN_no ‹_›) ‹_›
    all_goals
      refine Back.mk (l.length - (i + 1)) _ (by omega) ⟨i + 1, ms', by omega, hM', rfl, rfl⟩ ?_
      refine ⟨[some 0, some 6, some 2, some 7, some 8, some 9], rfl, rfl, ?_, ?_⟩ <;> repeat' (first | exact trivial | exact rfl | exact Iff.rfl | apply And.intro)
  · obtain rfl : i = l.length := by omega
    repeat' ((conv => whnf); first | refine Rng.g ?_ | refine Ob.g ?_ | refine Ob.e ?_ | refine Ob.m ?_ | refine Ob.mk (Nat.le_of_ble_eq_true rfl) ?_ | refine JoinVC.on ?_ | refine Nils.mk (fun h => ?_) ?_ | refine Val.t ?_ | refine Val.d ?_ | refine Mm.mk ?_ | (refine Br.mk (fun h => ?_) (fun h => ?_) <;> first | (exfalso; omega; done) | (exfalso; simp at h; done) | skip))
    repeat refine Mm.mk ?_
    conv => whnf
    refine EndVC.mk _ rfl _ _ (⟨ms, hM, rfl, rfl⟩) ?_
    refine ⟨[some 0, some 1, some 2, some 3, some 4, some 5], rfl, rfl, ?_, ?_⟩ <;> repeat' (first | exact trivial | exact rfl | exact Iff.rfl | apply And.intro)
end Go.Sx

/- for looks only (px '@dbgl'): never in a final text -/
namespace Go.Sx
open Go
end Go.Sx

namespace Go.Sx
open Go Go.Proofs
set_option maxRecDepth 10000
set_option maxHeartbeats 8000000
/-! ### The reference's shop -/
@[reducible] def bRf (i1 i2 i3 i4 i5 : Nat) (r : Rcp) : Blk := .box 105 [i6 r.n0, i6 r.n1, i6 r.n2, i6 r.n3, i6 r.k0, i6 r.k1, i6 r.k2, i6 r.k3, i6 r.seed, i6 r.soft, i6 r.hard, i6 r.mo, i6 r.sp, .own i1, .own i2, .own i3, .own i4, .own i5]
@[reducible] def KBe : List CK := [.sl [.int .i64]]
@[reducible] def bBe (l : List (List Int)) : Blk := .row 34 true KBe (beA l)
@[reducible] def bFr (l : List (Int × Int)) : Blk := .row 125 false KFl (flA l)
@[reducible] def rfO (S : Sho) : List (Option Blk) := [some (bRf 6 7 8 9 10 S.r), none, none, none, none, none, some (bPs S.pl), some (bBe S.be), some (bTk S.tk), some (bFr S.fl), some (bAc S.ac)]
end Go.Sx

namespace Go.Sx
open Go Go.Proofs
set_option maxRecDepth 10000
set_option maxHeartbeats 8000000
/-! ### Is a growth possible, and what does it lay? (the reference) -/
def lyE (S : Sho) (a : Act2) (r : AV) : Prop := r = .tup [I (if groE S a = 0 then allM S a else 0), I (if groE S a = 0 then thkM S a else 0), I (groE S a)]
theorem lyE.err {S : Sho} {a : Act2} {e : Int} (h : groE S a = e) (h0 : e ≠ 0) : lyE S a (.tup [I 0, I 0, I e]) := by
  subst h
  unfold lyE
  rw [if_neg h0, if_neg h0]
theorem lyE.ok {S : Sho} {a : Act2} (h : groE S a = 0) {x y : Int} (hx : x = allM S a) (hy : y = thkM S a) : lyE S a (.tup [I x, I y, I 0]) := by
  subst hx hy
  unfold lyE
  rw [if_pos h, if_pos h, h]
theorem lyE.mk {S : Sho} {a : Act2} {e x y : Int} (h : groE S a = e) (h1 : e = 0 → x = allM S a ∧ y = thkM S a) (h2 : e ≠ 0 → x = 0 ∧ y = 0) : lyE S a (.tup [I x, I y, I e]) := by
  by_cases h0 : e = 0
  · obtain ⟨rfl, rfl⟩ := h1 h0
    subst h0
    exact lyE.ok h rfl rfl
  · obtain ⟨rfl, rfl⟩ := h2 h0
    exact lyE.err h h0
end Go.Sx

namespace Go.Sx
open Go Go.Proofs
set_option maxRecDepth 10000
set_option maxHeartbeats 8000000
/-! ### The reference's growth -/
def RAc (S : Sho) (a : Act2) (r : AV) (m' : List (Option Blk)) : Prop := r = .tup [I (if actE S a = 0 then actN S a else 0), I (actE S a)] ∧ m' = rfO (actT S a)
theorem RAc.err {S : Sho} {a : Act2} {e : Int} (he : actE S a = e) (h0 : e ≠ 0) : RAc S a (.tup [I 0, I e]) (rfO S) := by
  subst he
  exact ⟨by rw [if_neg h0], by rw [show actT S a = S from if_neg h0]⟩
theorem RAc.ok {S : Sho} {a : Act2} (he : actE S a = 0) {S' : Sho} (hS : actS S a = S') {n : Int} (hn : actN S a = n) : RAc S a (.tup [I n, I 0]) (rfO S') := by
  have h1 : actT S a = S' := (if_pos he).trans hS
  exact ⟨by rw [if_pos he, he, hn], by rw [h1]⟩
end Go.Sx

namespace Go.Sx
open Go Go.Proofs
set_option maxRecDepth 10000
set_option maxHeartbeats 8000000
/-! ### The reference's acts -/
end Go.Sx

namespace Go.Proofs
open Go.Shelf
end Go.Proofs
namespace Go.Sx
open Go Go.Proofs
set_option maxRecDepth 10000
set_option maxHeartbeats 8000000
/-! ### The library's sort, over a row -/
@[reducible] def srt (l : List Int) : List Int := l.mergeSort fun x y => decide (x ≤ y)
end Go.Sx

namespace Go.Sx
open Go Go.Proofs
set_option maxRecDepth 10000
set_option maxHeartbeats 8000000
/-! ### Flaws -/
theorem srt_perm (l : List Int) : (srt l).Perm l := List.mergeSort_perm _ _
theorem srt_pw (l : List Int) : (srt l).Pairwise (fun x y => x ≤ y) := by
  have := List.pairwise_mergeSort (le := fun x y : Int => decide (x ≤ y)) (fun a b c h1 h2 => by simp at *; omega) (fun a b => by simp; omega) l
  exact this.imp fun h => by simpa using h
theorem srt_eq {l m : List Int} (h : l.Perm m) : srt l = srt m :=
  List.Perm.eq_of_pairwise (le := fun x y => x ≤ y) (fun a b _ _ h1 h2 => by omega) (srt_pw l) (srt_pw m) ((srt_perm l).trans (h.trans (srt_perm m).symm))
/-- Keys that were read from a set. -/
structure KeyI (m : MS) (seen : List Nat) (ks : List Int) : Prop where
  sub : ∀ b ∈ seen, ∃ k, (k, b) ∈ m.es
  nds : seen.Nodup
  mem : ∀ k, k ∈ ks ↔ ∃ b ∈ seen, (k, b) ∈ m.es
  nd : ks.Nodup
  len : ks.length = seen.length
theorem KeyI.nil (m : MS) : KeyI m [] [] := ⟨fun b hb => by simp at hb, by simp, fun k => by simp, by simp, rfl⟩
theorem KeyI.le {m : MS} {seen : List Nat} {ks : List Int} (h : KeyI m seen ks) : seen.length ≤ m.es.length := by
  have := nodup_le seen (m.es.map (·.2)) h.nds (fun b hb => by
    obtain ⟨k, hk⟩ := h.sub b hb
    exact List.mem_map.2 ⟨_, hk, rfl⟩)
  simpa using this
theorem KeyI.step {m : MS} {seen : List Nat} {ks : List Int} (h : KeyI m seen ks) (hn : m.ks.Nodup) (hs : (m.es.map (·.2)).Nodup) {k : Int} {b : Nat} (hk : (k, b) ∈ m.es) (hb : b ∉ seen) : KeyI m (seen ++ [b]) (ks ++ [k]) := by
  have hkn : k ∉ ks := fun hc => by
    obtain ⟨b', h1, h2⟩ := (h.mem k).1 hc
    exact hb (es_uniq hn hk h2 ▸ h1)
  refine ⟨fun b' hb' => ?_, ?_, fun k' => ?_, ?_, by simp [h.len]⟩
  · rcases List.mem_append.1 hb' with h1 | h1
    · exact h.sub b' h1
    · rw [List.mem_singleton.1 h1]; exact ⟨k, hk⟩
  · exact List.nodup_append.2 ⟨h.nds, by simp, fun x hx y hy => by simp at hy; subst hy; rintro rfl; exact hb hx⟩
  · rw [List.mem_append, List.mem_singleton, h.mem]
    constructor
    · rintro (⟨b', h1, h2⟩ | rfl)
      · exact ⟨b', List.mem_append_left _ h1, h2⟩
      · exact ⟨b, by simp, hk⟩
    · rintro ⟨b', h1, h2⟩
      rcases List.mem_append.1 h1 with h1 | h1
      · exact .inl ⟨b', h1, h2⟩
      · obtain rfl := List.mem_singleton.1 h1
        exact .inr (es_uniq2 hs h2 hk)
  · exact List.nodup_append.2 ⟨h.nd, by simp, fun x hx y hy => by simp at hy; subst hy; rintro rfl; exact hkn hx⟩
theorem KeyI.done {m : MS} {seen : List Nat} {ks : List Int} {l : List Int} (h : KeyI m seen ks) (hm : SetOK m l) (hl : l.Nodup) (ho : ∀ e ∈ m.es, e.2 ∈ seen) : srt ks = srt l := by
  refine srt_eq ((List.perm_ext_iff_of_nodup h.nd hl).2 fun k => ?_)
  rw [h.mem, ← hm.mem]
  constructor
  · rintro ⟨b, _, h2⟩
    exact List.mem_map.2 ⟨_, h2, rfl⟩
  · intro hk
    obtain ⟨e, he, rfl⟩ := List.mem_map.1 hk
    exact ⟨e.2, ho e he, he⟩
end Go.Sx

namespace Go.Sx
open Go Go.Proofs
set_option maxRecDepth 10000
set_option maxHeartbeats 4000000
/-! ### What holds of the plates -/
theorem getD_last {α : Type} (l : List α) (q d : α) : (l ++ [q]).getD l.length d = q := by rw [getD_app, if_neg (Nat.lt_irrefl _), if_pos rfl]
def kids (l : List Pl) (i : Int) : Nat → Int
  | 0 => 0
  | k + 1 => kids l i k + (if (l.getD k p0).pa = i then 1 else 0)
theorem kids_congr {l m : List Pl} {i : Int} : ∀ {k : Nat}, (∀ j, j < k → (m.getD j p0).pa = (l.getD j p0).pa) → kids m i k = kids l i k
  | 0, _ => rfl
  | k + 1, h => by unfold kids; rw [kids_congr (fun j hj => h j (by omega)), h k (by omega)]
theorem kids_zero {l : List Pl} {i : Int} : ∀ {k : Nat}, (∀ j, j < k → (l.getD j p0).pa ≠ i) → kids l i k = 0
  | 0, _ => rfl
  | k + 1, h => by unfold kids; rw [kids_zero (fun j hj => h j (by omega)), if_neg (h k (by omega))]; rfl
/-- What a plate is to the others. -/
structure TreeP (r : Rcp) (l : List Pl) (i : Nat) (p : Pl) : Prop where
  root : p.kd = 0 → p.pa = -1 ∧ p.thick = 0
  sub : p.kd ≠ 0 → 0 ≤ p.pa ∧ (l.getD p.pa.toNat p0).kd + 1 = p.kd ∧ (l.getD p.pa.toNat p0).cut = p.cut ∧ (l.getD p.pa.toNat p0).area = p.area ∧ r.thin p.kd ≤ p.thick ∧ p.thick ≤ r.thk p.kd
  kids : p.grown = kids l i l.length
  cap : p.grown ≤ capP r p.kd
  lacq : p.kd = 0 → 0 < p.grown → p.ret = true
def Tree (S : Sho) : Prop := ∀ i, i < S.pl.length → TreeP S.r S.pl i (S.pl.getD i p0)
theorem Tree.new (r : Rcp) : Tree (shop0 r) := fun i hi => by simp at hi
/-- Plates that are changed where the others do not look. -/
theorem TreeP.same {r : Rcp} {l m : List Pl} {i : Nat} {p : Pl} (h : TreeP r l i p) (hl : m.length = l.length) (hs : ∀ j, (m.getD j p0).kd = (l.getD j p0).kd ∧ (m.getD j p0).pa = (l.getD j p0).pa ∧ (m.getD j p0).cut = (l.getD j p0).cut ∧ (m.getD j p0).area = (l.getD j p0).area) : TreeP r m i p := by
  refine ⟨h.root, fun hk => ?_, ?_, h.cap, h.lacq⟩
  · obtain ⟨q1, q2, q3, q4, q5⟩ := h.sub hk
    obtain ⟨s1, s2, s3, s4⟩ := hs p.pa.toNat
    rw [s1, s3, s4]
    exact ⟨q1, q2, q3, q4, q5⟩
  · rw [h.kids, hl]
    exact (kids_congr fun j _ => (hs j).2.1).symm
/-- A plate more. -/
theorem TreeP.more {r : Rcp} {l : List Pl} {i : Nat} {p q : Pl} (h : TreeP r l i p) (hi : i < l.length) (hpa : p.pa < i) (hq : q.pa ≠ i) : TreeP r (l ++ [q]) i p := by
  refine ⟨h.root, fun hk => ?_, ?_, h.cap, h.lacq⟩
  · obtain ⟨q1, q2, q3, q4, q5⟩ := h.sub hk
    rw [getD_app, if_pos (by omega)]
    exact ⟨q1, q2, q3, q4, q5⟩
  · rw [h.kids, List.length_append, List.length_singleton]
    conv => rhs; unfold Go.Sx.kids
    rw [getD_last, if_neg hq, Int.add_zero]
    exact (kids_congr fun j hj => by rw [getD_app, if_pos hj]).symm
theorem Tree.doS {S : Sho} (hS : ShOK S) (hT : Tree S) (a : Act2) : Tree (doS S a) := by
  unfold Go.Sx.doS
  split
  case isFalse => exact hT
  rename_i hE
  unfold doE at hE
  split at hE
  · cases hE
  split at hE
  case isFalse => cases hE
  rename_i ha
  have hk := ha.kd
  have hpa : ∀ j, j < S.pl.length → -1 ≤ (S.pl.getD j p0).pa ∧ (S.pl.getD j p0).pa < j := fun j hj => (hS.pl j hj).pa
  rcases (show a.kd = 1 ∨ a.kd = 2 ∨ a.kd = 3 ∨ a.kd = 4 ∨ a.kd = 5 ∨ a.kd = 6 by omega) with h | h | h | h | h | h
  · have hs : actS S a = { S with pl := S.pl ++ [⟨0, -1, a.cut, a.area, 0, 0, false⟩], be := S.be ++ [[]] } := by unfold actS; rw [if_pos h]
    rw [hs]
    intro i hi
    dsimp only at hi ⊢
    simp only [List.length_append, List.length_singleton] at hi
    rw [getD_app]
    split
    · exact (hT i ‹_›).more ‹_› (hpa i ‹_›).2 (by simp only []; omega)
    · have e : i = S.pl.length := by omega
      subst e
      rw [if_pos rfl]
      refine ⟨fun _ => ⟨rfl, rfl⟩, fun hc => absurd rfl hc, ?_, ?_, fun _ hc => absurd hc (by simp)⟩
      · refine (kids_zero fun j hj => ?_).symm
        simp only [List.length_append, List.length_singleton] at hj
        rw [getD_app]
        split
        · have := hpa j ‹_›
          omega
        · rw [if_pos (by omega)]; simp only []; omega
      · simp only [capP, if_true]; omega
  · have hs : actS S a = { S with tk := S.tk ++ [⟨a.stock, a.yd, 0, 0⟩] } := by unfold actS; rw [if_neg (by omega), if_pos h]
    rw [hs]
    exact hT
  · have hs : actS S a = { S with pl := (S.pl ++ [newP S a]).set a.plate.toNat (oldP (S.p a.plate)), be := S.be ++ [S.b a.plate], tk := S.tk.set a.bath.toNat (newT S a) } := by unfold actS; rw [if_neg (by omega), if_neg (by omega), if_pos h]
    have hG : groE S a = 0 := by unfold actE at hE; rwa [if_neg (by omega), if_neg (by omega), if_pos h] at hE
    have h1 : herE S a = 0 := by
      unfold groE at hG
      split at hG
      · exact hG
      · exact Classical.byContradiction ‹_›
    have h2 : layE S a = 0 := by unfold groE at hG; rwa [if_neg (by omega)] at hG
    have hth : S.r.thin ((S.p a.plate).kd + 1) ≤ thkM S a ∧ thkM S a ≤ S.r.thk ((S.p a.plate).kd + 1) := by
      unfold layE at h2
      split at h2
      · cases h2
      · omega
    obtain ⟨hi, hb, hret, h256, hkd, hcap⟩ := herE_0 hS h1
    unfold inP at hi
    obtain ⟨hi1, hi2⟩ := hi
    have hpo := hS.pl a.plate.toNat (by omega)
    have hk0 : 0 ≤ (S.p a.plate).kd := hpo.kd.1
    have hg0 : 0 ≤ (S.p a.plate).grown := hpo.grown.1
    rw [hs]
    intro i hi
    dsimp only at hi ⊢
    simp only [List.length_set, List.length_append, List.length_singleton] at hi
    have hsame : ∀ j, (((S.pl ++ [newP S a]).set a.plate.toNat (oldP (S.p a.plate))).getD j p0).kd = ((S.pl ++ [newP S a]).getD j p0).kd ∧ (((S.pl ++ [newP S a]).set a.plate.toNat (oldP (S.p a.plate))).getD j p0).pa = ((S.pl ++ [newP S a]).getD j p0).pa ∧ (((S.pl ++ [newP S a]).set a.plate.toNat (oldP (S.p a.plate))).getD j p0).cut = ((S.pl ++ [newP S a]).getD j p0).cut ∧ (((S.pl ++ [newP S a]).set a.plate.toNat (oldP (S.p a.plate))).getD j p0).area = ((S.pl ++ [newP S a]).getD j p0).area := fun j => by
      rw [getD_set]
      split
      · rename_i hq
        obtain ⟨rfl, _⟩ := hq
        rw [getD_app, if_pos (by omega)]
        exact ⟨rfl, rfl, rfl, rfl⟩
      · exact ⟨rfl, rfl, rfl, rfl⟩
    refine TreeP.same (l := S.pl ++ [newP S a]) ?_ (List.length_set ..) hsame
    rw [getD_set]
    split
    · rename_i hq
      obtain ⟨rfl, _⟩ := hq
      have ht := hT a.plate.toNat (by omega)
      have hq : TreeP S.r S.pl a.plate.toNat (S.p a.plate) := ht
      refine ⟨hq.root, fun hk' => ?_, ?_, ?_, fun hk' _ => ?_⟩
      · obtain ⟨q1, q2, q3, q4, q5⟩ := hq.sub hk'
        have := hpo.pa
        have hpl : (S.p a.plate).pa < a.plate.toNat := this.2
        simp only [oldP] at *
        rw [getD_app, if_pos (by omega)]
        exact ⟨q1, q2, q3, q4, q5⟩
      · have e1 : (newP S a).pa = ((a.plate.toNat : Nat) : Int) := by simp only [newP]; omega
        rw [List.length_append, List.length_singleton]
        unfold Go.Sx.kids
        rw [getD_last, if_pos e1]
        have hk2 := hq.kids
        simp only [oldP]
        rw [hk2]
        congr 1
        exact (kids_congr fun j hj => by rw [getD_app, if_pos hj]).symm
      · simp only [oldP]; omega
      · simp only [oldP] at hk' ⊢
        exact decide_eq_true hk'
    · rename_i hne
      rw [getD_app]
      split
      · rename_i hil
        refine (hT i hil).more hil (hpa i hil).2 ?_
        simp only [newP]
        rintro hc
        exact hne ⟨by omega, by simp; omega⟩
      · have e : i = S.pl.length := by omega
        subst e
        rw [if_pos rfl]
        refine ⟨fun hc => ?_, fun _ => ?_, ?_, ?_, fun _ hc => absurd hc (by simp [newP])⟩
        · simp only [newP] at hc; omega
        · simp only [newP]
          rw [getD_app, if_pos (by omega)]
          exact ⟨hi1, rfl, rfl, rfl, hth⟩
        · refine (kids_zero fun j hj => ?_).symm
          simp only [List.length_append, List.length_singleton] at hj
          rw [getD_app]
          split
          · have := hpa j ‹_›
            omega
          · rw [if_pos (by omega)]; simp only [newP]; omega
        · have hmo := hS.r.mo
          have hsp := hS.r.sp
          simp only [newP]
          unfold capP
          (repeat' split) <;> omega
  · have hs : actS S a = { S with fl := S.fl ++ [(a.plate, a.place)], be := S.be.set a.plate.toNat (S.b a.plate ++ [(S.fl.length : Int)]) } := by unfold actS; rw [if_neg (by omega), if_neg (by omega), if_neg (by omega), if_pos h]
    rw [hs]
    exact hT
  · have hs : actS S a = { S with be := S.be.set a.plate.toNat ((S.b a.plate).filter fun x => decide (x ≠ a.flaw)) } := by unfold actS; rw [if_neg (by omega), if_neg (by omega), if_neg (by omega), if_neg (by omega), if_pos h]
    rw [hs]
    exact hT
  · have hs : actS S a = { S with pl := S.pl.set a.plate.toNat (retP (S.p a.plate)) } := by unfold actS; rw [if_neg (by omega), if_neg (by omega), if_neg (by omega), if_neg (by omega), if_neg (by omega)]
    rw [hs]
    intro i hi
    dsimp only at hi ⊢
    rw [List.length_set] at hi
    have hsame : ∀ j, ((S.pl.set a.plate.toNat (retP (S.p a.plate))).getD j p0).kd = (S.pl.getD j p0).kd ∧ ((S.pl.set a.plate.toNat (retP (S.p a.plate))).getD j p0).pa = (S.pl.getD j p0).pa ∧ ((S.pl.set a.plate.toNat (retP (S.p a.plate))).getD j p0).cut = (S.pl.getD j p0).cut ∧ ((S.pl.set a.plate.toNat (retP (S.p a.plate))).getD j p0).area = (S.pl.getD j p0).area := fun j => by
      rw [getD_set]
      split
      · rename_i hq
        obtain ⟨rfl, _⟩ := hq
        exact ⟨rfl, rfl, rfl, rfl⟩
      · exact ⟨rfl, rfl, rfl, rfl⟩
    refine TreeP.same (l := S.pl) ?_ (List.length_set ..) hsame
    rw [getD_set]
    split
    · rename_i hq
      obtain ⟨rfl, hq2⟩ := hq
      have ht : TreeP S.r S.pl a.plate.toNat (S.p a.plate) := hT a.plate.toNat hq2
      exact ⟨ht.root, ht.sub, ht.kids, ht.cap, fun _ _ => rfl⟩
    · exact hT i hi
theorem Tree.repS {S : Sho} (hS : ShOK S) (hT : Tree S) (l : List Act2) : ∀ i, Tree (Go.Sx.repS S l i)
  | 0 => hT
  | i + 1 => Tree.doS (ShOK.repS hS l i) (Tree.repS hS hT l i) _
end Go.Sx

namespace Go.Sx
open Go Go.Proofs
set_option maxRecDepth 10000
set_option maxHeartbeats 4000000
/-! ### Hands: from which plate a flaw comes -/
def fromT (o c : Int) : Int → List Int → Bool
  | _, [] => false
  | p, y :: ys => if y = o then decide (c ≤ p) else fromT o c y ys
def fromU (o c : Int) : List Int → Bool
  | [] => false
  | x :: xs => if x = o then true else fromT o c x xs
theorem up_same {S S' : Sho} (hS : ShOK S) (hS' : ShOK S') (hle : S.pl.length ≤ S'.pl.length) (h : ∀ j, j < S.pl.length → (S'.q j).pa = (S.q j).pa) : ∀ (n i : Nat), i < n → i < S.pl.length → S'.up i = S.up i
  | 0, _, h, _ => absurd h (Nat.not_lt_zero _)
  | n + 1, i, hn, hi => by
    have e : (S'.p (i : Int)).pa = (S.p (i : Int)).pa := by
      have := h i hi
      unfold Sho.q at this
      unfold Sho.p
      rwa [Int.toNat_natCast]
    have hp := (hS.pl i hi).pa
    have hp' : -1 ≤ (S.p (i : Int)).pa ∧ (S.p (i : Int)).pa < (i : Int) := by unfold Sho.p; rwa [Int.toNat_natCast]
    rw [up_step hS' (i := (i : Int)) (by omega) (by omega), up_step hS (i := (i : Int)) (by omega) (by omega), e]
    by_cases h0 : 0 ≤ (S.p (i : Int)).pa
    · have := up_same hS hS' hle h n ((S.p (i : Int)).pa.toNat) (by omega) (by omega)
      rw [show (((S.p (i : Int)).pa.toNat : Nat) : Int) = (S.p (i : Int)).pa by omega] at this
      rw [this]
    · rw [up_neg h0, up_neg h0]
structure HandI (S : Sho) (N : List Int) (M : List Bool) : Prop where
  ln : N.length = S.fl.length
  lm : M.length = S.fl.length
  org : ∀ f, f < S.fl.length → 0 ≤ (S.fl.getD f (0, 0)).1 ∧ (S.fl.getD f (0, 0)).1 < N.getD f 0 ∧ N.getD f 0 ≤ S.pl.length
  h1 : ∀ f p, f < S.fl.length → p < S.pl.length → (f : Int) ∈ S.be.getD p [] → fromU (S.fl.getD f (0, 0)).1 (N.getD f 0) (S.up p) = true
  h2 : ∀ f p, f < S.fl.length → p < S.pl.length → M.getD f true = false → fromU (S.fl.getD f (0, 0)).1 (N.getD f 0) (S.up p) = true → (f : Int) ∈ S.be.getD p []
theorem HandI.new (r : Rcp) : HandI (shop0 r) [] [] := ⟨rfl, rfl, fun f hf => absurd hf (Nat.not_lt_zero f), fun f _ hf => absurd hf (Nat.not_lt_zero f), fun f _ hf => absurd hf (Nat.not_lt_zero f)⟩
/-- What a step needs: plates and flaws as they were, or more. -/
theorem HandI.more {S S' : Sho} {N : List Int} {M M' : List Bool} (h : HandI S N M) (hS : ShOK S) (hS' : ShOK S') (hfl : S'.fl = S.fl) (hm : M'.length = M.length) (hmm : ∀ f, f < S.fl.length → M'.getD f true = false → M.getD f true = false)
    (hle : S.pl.length ≤ S'.pl.length) (hpa : ∀ j, j < S.pl.length → (S'.q j).pa = (S.q j).pa)
    (hb1 : ∀ f p, f < S.fl.length → p < S.pl.length → (f : Int) ∈ S'.be.getD p [] → (f : Int) ∈ S.be.getD p [])
    (hb2 : ∀ f p, f < S.fl.length → p < S.pl.length → M'.getD f true = false → (f : Int) ∈ S.be.getD p [] → (f : Int) ∈ S'.be.getD p [])
    (hn1 : ∀ f p, f < S.fl.length → S.pl.length ≤ p → p < S'.pl.length → (f : Int) ∈ S'.be.getD p [] → fromU (S.fl.getD f (0, 0)).1 (N.getD f 0) (S'.up p) = true)
    (hn2 : ∀ f p, f < S.fl.length → S.pl.length ≤ p → p < S'.pl.length → M'.getD f true = false → fromU (S.fl.getD f (0, 0)).1 (N.getD f 0) (S'.up p) = true → (f : Int) ∈ S'.be.getD p []) : HandI S' N M' := by
  have hup := fun i hi => up_same hS hS' hle hpa (i + 1) i (Nat.lt_succ_self i) hi
  refine ⟨by rw [hfl]; exact h.ln, by rw [hfl, hm]; exact h.lm, fun f hf => ?_, fun f p hf hp hb => ?_, fun f p hf hp hmf hu => ?_⟩
  · rw [hfl] at hf ⊢
    have := h.org f hf
    omega
  · rw [hfl] at hf ⊢
    by_cases hp' : p < S.pl.length
    · rw [hup p hp']
      exact h.h1 f p hf hp' (hb1 f p hf hp' hb)
    · exact hn1 f p hf (by omega) hp hb
  · rw [hfl] at hf hu
    by_cases hp' : p < S.pl.length
    · rw [hup p hp'] at hu
      exact hb2 f p hf hp' hmf (h.h2 f p hf hp' (hmm f hf hmf) hu)
    · exact hn2 f p hf (by omega) hp hmf hu
theorem getD_setD {α : Type} (l : List α) (i j : Nat) (a d : α) (h : i ≠ j) : (l.set i a).getD j d = l.getD j d := by rw [getD_set, if_neg (fun hc => h hc.1)]
/-! ### Bearers, one after another -/
end Go.Sx

namespace Go.Sx
open Go Go.Proofs
set_option maxRecDepth 10000
set_option maxHeartbeats 4000000
/-! ### Needs: what a growth changes (plain) -/
@[reducible] def gR (mo sp : Int) : Rcp := ⟨0, 0, 0, 0, 0, 1073741824, 1073741824, 1073741824, 0, 0, 0, mo, sp⟩
@[reducible] def gA (i b : Int) : Act2 := ⟨3, 0, 0, 0, 0, i, b, 0, 0, 0, 0, 0, 0⟩
theorem zB : (0 : Int) ≤ 0 ∧ (0 : Int) ≤ 1048576 := by decide
theorem gA_ok (i b : Int) : ActOK (gA i b) := .inr (.inr (.inl ⟨rfl, zB, zB, zB, zB⟩))
theorem gR_ok {mo sp : Int} (h1 : 1 ≤ mo ∧ mo ≤ 4) (h2 : 1 ≤ sp ∧ sp ≤ 4) : RcpOK (gR mo sp) :=
  ⟨(by decide : (0 : Int) ≤ 0 ∧ (0 : Int) ≤ 1073741824 ∧ (1073741824 : Int) ≤ 1073741824), (by decide : (0 : Int) ≤ 0 ∧ (0 : Int) ≤ 1073741824 ∧ (1073741824 : Int) ≤ 1073741824), (by decide : (0 : Int) ≤ 0 ∧ (0 : Int) ≤ 1073741824 ∧ (1073741824 : Int) ≤ 1073741824), (by decide : (0 : Int) ≤ 0 ∧ (0 : Int) ≤ 1073741824), zB, zB, by show 1 ≤ mo ∧ mo ≤ 16; omega, by show 1 ≤ sp ∧ sp ≤ 16; omega⟩
/-- When such a growth is done. -/
theorem gE {S : Sho} (hS : ShOK S) {mo sp : Int} (hr : S.r = gR mo sp) (ha : S.ac.length < 1000) (hp : S.pl.length < 256) (i b : Int) (hb : 0 ≤ b ∧ b < (S.tk.length : Int)) :
    doE S (gA i b) = 0 ↔ inP S i ∧ (S.p i).ret = false ∧ 0 < roomP S.r (S.p i) := by
  have hD : doE S (gA i b) = groE S (gA i b) := by
    unfold doE
    rw [if_neg (by omega), if_pos (gA_ok i b)]
    rfl
  rw [hD]
  have hfst : fstM S (gA i b) = 0 := by unfold fstM; simp
  have hall : allM S (gA i b) = 0 := by unfold allM; rw [hfst]; simp
  have hthk : thkM S (gA i b) = 0 := by unfold thkM; rw [hall]; simp
  have htk : 0 ≤ (S.t b).st := (hS.tk b.toNat (by omega)).1.1
  have hlay : layE S (gA i b) = 0 := by
    unfold layE
    rw [hfst, hthk, hall, hr]
    rw [if_neg, if_neg]
    · show ¬ (S.t b).st < 0
      omega
    · rintro (h | h | h)
      · simp at h
      · unfold Rcp.thin at h
        simp at h
      · have hkd : 0 ≤ (S.p i).kd := by
          by_cases hi : i.toNat < S.pl.length
          · exact (hS.pl i.toNat hi).kd.1
          · unfold Sho.p
            rw [List.getD_eq_getElem?_getD, List.getElem?_eq_none (by omega)]
            exact Int.le_refl _
        have h : (gR mo sp).thk ((S.p i).kd + 1) < 0 := h
        unfold Rcp.thk at h
        (repeat' split at h) <;> first | (change (1073741824 : Int) < 0 at h; omega) | omega
  have hg : groE S (gA i b) = herE S (gA i b) := by
    unfold groE
    by_cases h : herE S (gA i b) = 0
    · rw [if_neg (fun hc => hc h), h]; exact hlay
    · rw [if_pos h]
  rw [hg]
  have hher : herE S (gA i b) = if ¬ inP S i then 5 else if (S.p i).ret = true then 10 else if roomP S.r (S.p i) = 0 then 11 else 0 := by
    unfold herE
    show (if ¬ inP S i ∨ b < 0 ∨ (S.tk.length : Int) ≤ b then 5 else if (S.p i).ret = true then 10 else if roomP S.r (S.p i) = 0 ∨ 256 ≤ S.pl.length then 11 else if S.r.soft * (S.p i).area < 1000 * 0 ∨ S.r.hard * (S.p i).area < 1000 * 0 then 14 else 0) = _
    have e : S.r.soft * (S.p i).area = 0 ∧ S.r.hard * (S.p i).area = 0 := by rw [hr]; simp
    rw [e.1, e.2]
    by_cases h1 : inP S i
    · rw [if_neg (by rintro (h | h | h); exact h h1; omega; omega), if_neg (show ¬ ¬ inP S i from fun h => h h1)]
      by_cases h2 : (S.p i).ret = true
      · rw [if_pos h2, if_pos h2]
      · rw [if_neg h2, if_neg h2]
        by_cases h3 : roomP S.r (S.p i) = 0
        · rw [if_pos (.inl h3), if_pos h3]
        · rw [if_neg (by rintro (h | h); exact h3 h; omega), if_neg (show ¬ ((0 : Int) < 1000 * 0 ∨ (0 : Int) < 1000 * 0) by omega), if_neg h3]
    · rw [if_pos (.inl h1), if_pos h1]
  rw [hher]
  have hro : inP S i → 0 ≤ roomP S.r (S.p i) := fun _ => (room_B hS (k := i.toNat)).1
  by_cases h1 : inP S i
  · rw [if_neg (show ¬ ¬ inP S i from fun h => h h1)]
    have := hro h1
    by_cases h2 : (S.p i).ret = true
    · rw [if_pos h2]
      exact ⟨fun h => (by cases h), fun h => (by rw [h2] at h; cases h.2.1)⟩
    · rw [if_neg h2]
      have h2' : (S.p i).ret = false := by simpa using h2
      by_cases h3 : roomP S.r (S.p i) = 0
      · rw [if_pos h3]
        exact ⟨fun h => (by cases h), fun h => (by omega)⟩
      · rw [if_neg h3]
        exact ⟨fun _ => ⟨h1, h2', by omega⟩, fun _ => rfl⟩
  · rw [if_pos h1]
    exact ⟨fun h => (by cases h), fun h => absurd h.1 h1⟩
/-! ### What it changes -/
structure GrowS (S T : Sho) (q : Nat) : Prop where
  r : T.r = S.r
  len : T.pl.length = S.pl.length + 1
  pa : ∀ j, j < S.pl.length → (T.q j).pa = (S.q j).pa
  kd : ∀ j, j < S.pl.length → (T.q j).kd = (S.q j).kd
  ret : ∀ j, j < S.pl.length → (S.q j).kd = 3 → (T.q j).ret = (S.q j).ret
  room : ∀ j, j < S.pl.length → roomP S.r (T.q j) = roomP S.r (S.q j) - (if j = q then 1 else 0)
  new : (T.q S.pl.length).kd = (S.q q).kd + 1 ∧ (T.q S.pl.length).pa = (q : Int) ∧ (T.q S.pl.length).ret = false ∧ roomP S.r (T.q S.pl.length) = max 0 (capP S.r ((S.q q).kd + 1))
  tk : T.tk.length = S.tk.length
  ac : T.ac.length = S.ac.length + 1
theorem grow_S {S : Sho} (hS : ShOK S) {mo sp : Int} (hr : S.r = gR mo sp) (ha : S.ac.length < 1000) (hp : S.pl.length < 256) {q : Nat} {b : Int} (hb : 0 ≤ b ∧ b < (S.tk.length : Int)) (hE : doE S (gA (q : Int) b) = 0) : GrowS S (doS S (gA (q : Int) b)) q := by
  obtain ⟨hi, hret, hroom⟩ := (gE hS hr ha hp (q : Int) b hb).1 hE
  have hD : doS S (gA (q : Int) b) = { actS S (gA (q : Int) b) with ac := S.ac ++ [gA (q : Int) b] } := if_pos hE
  have hs : actS S (gA (q : Int) b) = { S with pl := (S.pl ++ [newP S (gA (q : Int) b)]).set (q : Int).toNat (oldP (S.p (q : Int))), be := S.be ++ [S.b (q : Int)], tk := S.tk.set b.toNat (newT S (gA (q : Int) b)) } := rfl
  rw [hs] at hD
  rw [Int.toNat_natCast] at hD
  have hq : q < S.pl.length := by have := hi.2; omega
  have hpq : S.p (q : Int) = S.q q := by unfold Sho.p Sho.q; rw [Int.toNat_natCast]
  rw [hpq] at hret hroom hD
  have hpl : (doS S (gA (q : Int) b)).pl = (S.pl ++ [newP S (gA (q : Int) b)]).set q (oldP (S.q q)) := by rw [hD]
  have hlen : (doS S (gA (q : Int) b)).pl.length = S.pl.length + 1 := by rw [hpl]; simp
  have hold : ∀ j, j < S.pl.length → (doS S (gA (q : Int) b)).q j = if j = q then oldP (S.q q) else S.q j := fun j hj => by
    show (doS S (gA (q : Int) b)).pl.getD j p0 = _
    rw [hpl, getD_set]
    by_cases e : q = j
    · rw [if_pos ⟨e, by simp; omega⟩, if_pos e.symm]
    · rw [if_neg (fun h => e h.1), if_neg (fun h => e h.symm), getD_app, if_pos hj]
      rfl
  have hnew : (doS S (gA (q : Int) b)).q S.pl.length = newP S (gA (q : Int) b) := by
    show (doS S (gA (q : Int) b)).pl.getD S.pl.length p0 = _
    rw [hpl, getD_setD _ _ _ _ _ (by omega), getD_app, if_neg (by omega), if_pos rfl]
  have hg : PlOK S q (S.q q) := hS.pl q hq
  have hkd := hg.kd
  have hgr := hg.grown
  refine ⟨by rw [hD], hlen, fun j hj => ?_, fun j hj => ?_, fun j hj h3 => ?_, fun j hj => ?_, ⟨?_, ?_, ?_, ?_⟩, ?_, ?_⟩
  · rw [hold j hj]; split
    · subst j; rfl
    · rfl
  · rw [hold j hj]; split
    · subst j; rfl
    · rfl
  · rw [hold j hj]; split
    · subst j
      show decide ((S.q q).kd = 0) = _
      rw [hret]
      exact decide_eq_false (by omega)
    · rfl
  · rw [hold j hj]; split
    · subst j
      have e : roomP S.r (S.q q) = max 0 (capP S.r (S.q q).kd - (S.q q).grown) := by unfold roomP; rw [if_neg (by rw [hret]; simp)]
      rw [e] at hroom ⊢
      unfold roomP
      by_cases h0 : (S.q q).kd = 0
      · rw [if_pos (show (oldP (S.q q)).ret = true from decide_eq_true h0)]
        have : capP S.r (S.q q).kd = 1 := by rw [h0]; rfl
        omega
      · rw [if_neg (show ¬ (oldP (S.q q)).ret = true by show ¬ decide ((S.q q).kd = 0) = true; simpa using h0)]
        show max 0 (capP S.r (S.q q).kd - ((S.q q).grown + 1)) = _
        omega
    · omega
  · rw [hnew]; show (S.p (q : Int)).kd + 1 = _; rw [hpq]
  · rw [hnew]; rfl
  · rw [hnew]; rfl
  · rw [hnew]
    unfold roomP
    rw [if_neg (by show ¬ false = true; simp)]
    show max 0 (capP S.r ((S.p (q : Int)).kd + 1) - 0) = _
    rw [hpq, Int.sub_zero]
  · rw [hD]; exact List.length_set ..
  · rw [hD]; simp
end Go.Sx

namespace Go.Sx
open Go Go.Proofs
set_option maxRecDepth 10000
set_option maxHeartbeats 4000000
/-! ### Needs: the counts behind a growth (plain) -/
theorem grow_up {S T : Sho} {q : Nat} (hS : ShOK S) (hT : ShOK T) (h : GrowS S T q) (hq : q < S.pl.length) : (∀ j, j < S.pl.length → T.up (j : Int) = S.up (j : Int)) ∧ T.up (S.pl.length : Int) = (S.pl.length : Int) :: S.up (q : Int) := by
  have hu := fun i hi => up_same hS hT (by have := h.len; omega) h.pa (i + 1) i (Nat.lt_succ_self i) hi
  refine ⟨hu, ?_⟩
  have hl := h.len
  have e : (T.p (S.pl.length : Int)).pa = (q : Int) := by
    have := h.new.2.1
    unfold Sho.q at this
    unfold Sho.p
    rwa [Int.toNat_natCast]
  rw [up_step hT (i := (S.pl.length : Int)) (by omega) (by omega), e, hu q hq]
theorem grow_R {S T : Sho} {q : Nat} (hS : ShOK S) (hT : ShOK T) (h : GrowS S T q) (hq : q < S.pl.length) (i c : Int) : ∀ k, k ≤ S.pl.length → needR T i c k = needR S i c k - (if q < k ∧ i ∈ S.up (q : Int) ∧ (S.q q).kd = c then 1 else 0)
  | 0, _ => by rw [if_neg (fun h => absurd h.1 (Nat.not_lt_zero q))]; rfl
  | k + 1, hk => by
    have ih := grow_R hS hT h hq i c k (by omega)
    have hu := (grow_up hS hT h hq).1 k (by omega)
    have hkd := h.kd k (by omega)
    have hro := h.room k (by omega)
    rw [needR, needR, ih, hu, hkd, h.r, hro]
    by_cases hc : i ∈ S.up (k : Int) ∧ (S.q k).kd = c
    · rw [if_pos hc, if_pos hc]
      by_cases e : k = q
      · subst e
        rw [if_neg (fun h => absurd h.1 (Nat.lt_irrefl k)), if_pos rfl, if_pos ⟨Nat.lt_succ_self k, hc⟩]
        omega
      · rw [if_neg e]
        by_cases h2 : q < k ∧ i ∈ S.up (q : Int) ∧ (S.q q).kd = c
        · rw [if_pos h2, if_pos ⟨by omega, h2.2⟩]; omega
        · rw [if_neg h2, if_neg (fun h => h2 ⟨by omega, h.2⟩)]; omega
    · rw [if_neg hc, if_neg hc]
      by_cases h2 : q < k ∧ i ∈ S.up (q : Int) ∧ (S.q q).kd = c
      · rw [if_pos h2, if_pos ⟨by omega, h2.2⟩]; omega
      · rw [if_neg h2, if_neg (show ¬ (q < k + 1 ∧ i ∈ S.up (q : Int) ∧ (S.q q).kd = c) from fun h5 => by
          by_cases e : q = k
          · subst e; exact hc h5.2
          · exact h2 ⟨by omega, h5.2⟩)]
        omega
theorem grow_L {S T : Sho} {q : Nat} (hS : ShOK S) (hT : ShOK T) (h : GrowS S T q) (hq : q < S.pl.length) (i : Int) : ∀ k, k ≤ S.pl.length → needL T i k = needL S i k
  | 0, _ => rfl
  | k + 1, hk => by
    have ih := grow_L hS hT h hq i k (by omega)
    have hu := (grow_up hS hT h hq).1 k (by omega)
    have hkd := h.kd k (by omega)
    have hret := h.ret k (by omega)
    rw [needL, needL, ih, hu, hkd]
    by_cases h3 : (S.q k).kd = 3
    · rw [hret h3]
    · rw [if_neg (fun h => h3 h.2.1), if_neg (fun h => h3 h.2.1)]
/-- The counts behind a growth under plate i, or not. -/
structure CntS (S T : Sho) (i : Int) (q : Nat) : Prop where
  out : ¬ i ∈ S.up (q : Int) → (∀ c, needR T i c T.pl.length = needR S i c S.pl.length) ∧ needL T i T.pl.length = needL S i S.pl.length
  in0 : i ∈ S.up (q : Int) → (S.q q).kd = 0 → needR T i 0 T.pl.length = needR S i 0 S.pl.length - 1 ∧ needR T i 1 T.pl.length = needR S i 1 S.pl.length + S.r.mo ∧ needR T i 2 T.pl.length = needR S i 2 S.pl.length ∧ needL T i T.pl.length = needL S i S.pl.length
  in1 : i ∈ S.up (q : Int) → (S.q q).kd = 1 → needR T i 0 T.pl.length = needR S i 0 S.pl.length ∧ needR T i 1 T.pl.length = needR S i 1 S.pl.length - 1 ∧ needR T i 2 T.pl.length = needR S i 2 S.pl.length + S.r.sp ∧ needL T i T.pl.length = needL S i S.pl.length
  in2 : i ∈ S.up (q : Int) → (S.q q).kd = 2 → needR T i 0 T.pl.length = needR S i 0 S.pl.length ∧ needR T i 1 T.pl.length = needR S i 1 S.pl.length ∧ needR T i 2 T.pl.length = needR S i 2 S.pl.length - 1 ∧ needL T i T.pl.length = needL S i S.pl.length + 1
theorem grow_C {S T : Sho} {q : Nat} (hS : ShOK S) (hT : ShOK T) (h : GrowS S T q) (hq : q < S.pl.length) {i : Int} (hi : inP S i) : CntS S T i q := by
  have hR := fun c => grow_R hS hT h hq i c S.pl.length (Nat.le_refl _)
  have hL := grow_L hS hT h hq i S.pl.length (Nat.le_refl _)
  have hu := (grow_up hS hT h hq).2
  obtain ⟨n1, n2, n3, n4⟩ := h.new
  have hl := h.len
  obtain ⟨hi1, hi2⟩ := hi
  have hmem : i ∈ T.up (S.pl.length : Int) ↔ i ∈ S.up (q : Int) := by
    rw [hu, List.mem_cons]
    exact ⟨fun h => h.resolve_left (by omega), .inr⟩
  have eR : ∀ c, needR T i c T.pl.length = needR S i c S.pl.length - (if q < S.pl.length ∧ i ∈ S.up (q : Int) ∧ (S.q q).kd = c then 1 else 0) + (if i ∈ S.up (q : Int) ∧ (S.q q).kd + 1 = c then max 0 (capP S.r ((S.q q).kd + 1)) else 0) := fun c => by
    rw [hl, needR, hR c, n1, h.r, n4]
    by_cases hm : i ∈ S.up (q : Int)
    · by_cases hc : (S.q q).kd + 1 = c
      · rw [if_pos (show i ∈ T.up (S.pl.length : Int) ∧ (S.q q).kd + 1 = c from ⟨hmem.2 hm, hc⟩), if_pos (show i ∈ S.up (q : Int) ∧ (S.q q).kd + 1 = c from ⟨hm, hc⟩)]
      · rw [if_neg (fun h : i ∈ T.up (S.pl.length : Int) ∧ (S.q q).kd + 1 = c => hc h.2), if_neg (fun h : i ∈ S.up (q : Int) ∧ (S.q q).kd + 1 = c => hc h.2)]
    · rw [if_neg (fun h : i ∈ T.up (S.pl.length : Int) ∧ (S.q q).kd + 1 = c => hm (hmem.1 h.1)), if_neg (fun h : i ∈ S.up (q : Int) ∧ (S.q q).kd + 1 = c => hm h.1)]
  have eL : needL T i T.pl.length = needL S i S.pl.length + (if i ∈ S.up (q : Int) ∧ (S.q q).kd + 1 = 3 then 1 else 0) := by
    rw [hl, needL, hL, n1, n3]
    by_cases hm : i ∈ S.up (q : Int) ∧ (S.q q).kd + 1 = 3
    · rw [if_pos hm, if_pos ⟨hmem.2 hm.1, hm.2, rfl⟩]
    · rw [if_neg hm, if_neg (fun h => hm ⟨hmem.1 h.1, h.2.1⟩)]
  have hmo := hS.r.mo
  have hsp := hS.r.sp
  refine ⟨fun hm => ⟨fun c => ?_, ?_⟩, fun hm hk => ?_, fun hm hk => ?_, fun hm hk => ?_⟩
  · rw [eR c, if_neg (fun h => hm h.2.1), if_neg (fun h => hm h.1)]; omega
  · rw [eL, if_neg (fun h => hm h.1)]; omega
  · have c1 : capP S.r 1 = S.r.mo := rfl
    rw [eR 0, eR 1, eR 2, eL, hk]
    rw [show (0 : Int) + 1 = 1 from rfl, c1]
    simp [hm, hq]
    omega
  · have c1 : capP S.r 2 = S.r.sp := rfl
    rw [eR 0, eR 1, eR 2, eL, hk]
    rw [show (1 : Int) + 1 = 2 from rfl, c1]
    simp [hm, hq]
    omega
  · have c1 : capP S.r 3 = 0 := rfl
    rw [eR 0, eR 1, eR 2, eL, hk]
    rw [show (2 : Int) + 1 = 3 from rfl, c1]
    simp [hm, hq]
/-- Where there is room, a plate has it. -/
theorem room_ex {S : Sho} (hS : ShOK S) (i c : Int) : ∀ k, k ≤ S.pl.length → 0 < needR S i c k → ∃ q, q < k ∧ i ∈ S.up (q : Int) ∧ (S.q q).kd = c ∧ 0 < roomP S.r (S.q q)
  | 0, _, h => absurd h (by show ¬ (0 : Int) < 0; omega)
  | k + 1, hk, h => by
    rw [needR] at h
    have hr := room_B hS (k := k)
    by_cases hc : i ∈ S.up (k : Int) ∧ (S.q k).kd = c
    · rw [if_pos hc] at h
      by_cases h0 : 0 < roomP S.r (S.q k)
      · exact ⟨k, Nat.lt_succ_self k, hc.1, hc.2, h0⟩
      · obtain ⟨q, h1, h2⟩ := room_ex hS i c k (by omega) (by omega)
        exact ⟨q, by omega, h2⟩
    · rw [if_neg hc] at h
      obtain ⟨q, h1, h2⟩ := room_ex hS i c k (by omega) (by omega)
      exact ⟨q, by omega, h2⟩
end Go.Sx

namespace Go.Sx
open Go Go.Proofs
set_option maxRecDepth 10000
set_option maxHeartbeats 4000000
/-! ### Needs: the numbers (plain) -/
theorem lackI_B2 {a b c : Int} (ha : 0 ≤ a) (hb : 0 ≤ b) (hc : 1 ≤ c) : 0 ≤ lackI a b c := (lackI_B ⟨ha, Int.le_refl a⟩ hb hc).1
theorem lack_1 (a b c : Int) : lackI (a - 1) (b - 1) c = lackI a b c := by
  unfold lackI
  by_cases h : a ≤ b
  · rw [if_pos h, if_pos (by omega)]
  · rw [if_neg h, if_neg (by omega), show a - 1 - (b - 1) + c - 1 = a - b + c - 1 by omega]
theorem lack_0 {b c : Int} (hb : 0 ≤ b) : lackI 0 b c = 0 := by unfold lackI; rw [if_pos hb]
theorem lack_pos {a b c : Int} (hc : 1 ≤ c) (h : b < a) : 0 < lackI a b c := by
  unfold lackI
  rw [if_neg (by omega)]
  have : 1 * c ≤ a - b + c - 1 := by omega
  have := (Int.le_ediv_iff_mul_le (by omega)).2 this
  omega
theorem lack_z {a b c : Int} (h : a ≤ b) : lackI a b c = 0 := by unfold lackI; rw [if_pos h]
theorem lack_c {a b c : Int} (hc : 1 ≤ c) (h : b < a) : lackI a (b + c) c = lackI a b c - 1 := by
  have e : (a - b + c - 1) / c = (a - b - 1) / c + 1 := by
    rw [show a - b + c - 1 = (a - b - 1) + 1 * c by omega, Int.add_mul_ediv_right _ _ (by omega)]
  unfold lackI
  rw [if_neg (show ¬ a ≤ b by omega), e]
  by_cases h2 : a ≤ b + c
  · rw [if_pos h2]
    have : (a - b - 1) / c = 0 := Int.ediv_eq_zero_of_lt (by omega) (by omega)
    omega
  · rw [if_neg h2, show a - (b + c) + c - 1 = a - b - 1 by omega]
    omega
theorem need_nn {S : Sho} (hS : ShOK S) (i n : Int) : 0 ≤ need3 S i n ∧ 0 ≤ need2 S i n ∧ 0 ≤ need1 S i n := by
  have h3 : 0 ≤ need3 S i n := by unfold need3; split <;> omega
  have h2 : 0 ≤ need2 S i n := lackI_B2 h3 (needR_B hS i 2 _).1 hS.r.sp.1
  exact ⟨h3, h2, lackI_B2 h2 (needR_B hS i 1 _).1 hS.r.mo.1⟩
theorem needE_0 {S : Sho} {i n : Int} (hi : inP S i) (hn : 0 ≤ n ∧ n ≤ 256) : needE S i n = 0 ↔ need1 S i n ≤ needR S i 0 S.pl.length := by
  unfold needE
  rw [if_neg (fun h => h hi), if_neg (by omega)]
  split <;> omega
theorem needN_0 {S : Sho} {i n : Int} (h : needE S i n = 0) : needN S i n = need3 S i n + need2 S i n + need1 S i n := if_pos h
/-- What the numbers are behind a growth. -/
theorem need_grow {S T : Sho} {i : Int} {q : Nat} (hS : ShOK S) (hT : ShOK T) (hr : T.r = S.r) (C : CntS S T i q) (hk : 0 ≤ (S.q q).kd ∧ (S.q q).kd ≤ 2) (n : Int) :
    let d3 := need3 T i n; let d2 := need2 T i n; let d1 := need1 T i n
    need3 S i n + need2 S i n + need1 S i n - 1 ≤ d3 + d2 + d1 := by
  have bR := fun c => (needR_B hS i c S.pl.length).1
  have bT := fun c => (needR_B hT i c T.pl.length).1
  have hmo := hS.r.mo
  have hsp := hS.r.sp
  obtain ⟨s3, s2, s1⟩ := need_nn hS i n
  obtain ⟨t3, t2, t1⟩ := need_nn hT i n
  show _ ≤ need3 T i n + need2 T i n + need1 T i n
  by_cases hm : i ∈ S.up (q : Int)
  · rcases (show (S.q q).kd = 0 ∨ (S.q q).kd = 1 ∨ (S.q q).kd = 2 by omega) with hk | hk | hk
    · obtain ⟨a0, a1, a2, aL⟩ := C.in0 hm hk
      have e3 : need3 T i n = need3 S i n := by unfold need3; rw [aL]
      have e2 : need2 T i n = need2 S i n := by unfold need2; rw [e3, a2, hr]
      have e1 : need1 S i n - 1 ≤ need1 T i n := by
        unfold need1 at s1 t1 ⊢
        rw [e2, a1, hr] at t1 ⊢
        by_cases h : needR S i 1 S.pl.length < need2 S i n
        · rw [lack_c hmo.1 h]; exact Int.le_refl _
        · rw [lack_z (a := need2 S i n) (b := needR S i 1 S.pl.length) (by omega)]; omega
      omega
    · obtain ⟨a0, a1, a2, aL⟩ := C.in1 hm hk
      have e3 : need3 T i n = need3 S i n := by unfold need3; rw [aL]
      by_cases h : needR S i 2 S.pl.length < need3 S i n
      · have e2 : need2 T i n = need2 S i n - 1 := by unfold need2; rw [e3, a2, hr, lack_c hsp.1 h]
        have e1 : need1 T i n = need1 S i n := by unfold need1; rw [e2, a1, hr, lack_1]
        omega
      · have e2 : need2 S i n = 0 := by unfold need2; exact lack_z (by omega)
        have e1 : need1 S i n = 0 := by unfold need1; rw [e2]; exact lack_0 (bR 1)
        omega
    · obtain ⟨a0, a1, a2, aL⟩ := C.in2 hm hk
      by_cases h : 0 < n - needL S i S.pl.length
      · have e0 : need3 S i n = n - needL S i S.pl.length := by unfold need3; rw [if_pos h]
        have e3 : need3 T i n = need3 S i n - 1 := by rw [e0]; unfold need3; rw [aL]; split <;> omega
        have e2 : need2 T i n = need2 S i n := by unfold need2; rw [e3, a2, hr, lack_1]
        have e1 : need1 T i n = need1 S i n := by unfold need1; rw [e2, a1, hr]
        omega
      · have e0 : need3 S i n = 0 := by unfold need3; rw [if_neg h]
        have e2 : need2 S i n = 0 := by unfold need2; rw [e0]; exact lack_0 (bR 2)
        have e1 : need1 S i n = 0 := by unfold need1; rw [e2]; exact lack_0 (bR 1)
        omega
  · obtain ⟨aR, aL⟩ := C.out hm
    have e3 : need3 T i n = need3 S i n := by unfold need3; rw [aL]
    have e2 : need2 T i n = need2 S i n := by unfold need2; rw [e3, aR, hr]
    have e1 : need1 T i n = need1 S i n := by unfold need1; rw [e2, aR, hr]
    omega
/-- The plate under which a growth is of use. -/
theorem need_best {S : Sho} (hS : ShOK S) {i n : Int} (hi : inP S i) (hn : 0 ≤ n ∧ n ≤ 256) (hE : needE S i n = 0) (hN : 0 < needN S i n) :
    ∃ q, q < S.pl.length ∧ (S.q q).kd ≤ 2 ∧ 0 < roomP S.r (S.q q) ∧ ∀ T, ShOK T → T.r = S.r → CntS S T i q → inP T i → needE T i n = 0 ∧ needN T i n = needN S i n - 1 := by
  have bR := fun c => (needR_B hS i c S.pl.length).1
  have hmo := hS.r.mo
  have hsp := hS.r.sp
  have h1 := (needE_0 hi hn).1 hE
  rw [needN_0 hE] at hN ⊢
  obtain ⟨s3, s2, s1⟩ := need_nn hS i n
  have h3 : 0 < need3 S i n := by
    refine Classical.byContradiction fun hc => ?_
    have e0 : need3 S i n = 0 := by omega
    have e2 : need2 S i n = 0 := by unfold need2; rw [e0]; exact lack_0 (bR 2)
    have e1 : need1 S i n = 0 := by unfold need1; rw [e2]; exact lack_0 (bR 1)
    omega
  have hL : need3 S i n = n - needL S i S.pl.length ∧ 0 < n - needL S i S.pl.length := by
    unfold need3 at h3 ⊢
    split at h3
    · rw [if_pos ‹_›]; exact ⟨rfl, ‹_›⟩
    · omega
  by_cases h2 : 0 < needR S i 2 S.pl.length
  · obtain ⟨q, q1, q2, q3, q4⟩ := room_ex hS i 2 S.pl.length (Nat.le_refl _) h2
    refine ⟨q, q1, by omega, q4, fun T hT hr C hiT => ?_⟩
    obtain ⟨a0, a1, a2, aL⟩ := C.in2 q2 q3
    have e3 : need3 T i n = need3 S i n - 1 := by rw [hL.1]; unfold need3; rw [aL]; split <;> omega
    have e2 : need2 T i n = need2 S i n := by unfold need2; rw [e3, a2, hr, lack_1]
    have e1 : need1 T i n = need1 S i n := by unfold need1; rw [e2, a1, hr]
    have hET : needE T i n = 0 := (needE_0 hiT hn).2 (by rw [e1, a0]; exact h1)
    exact ⟨hET, by rw [needN_0 hET]; omega⟩
  have p2 : needR S i 2 S.pl.length < need3 S i n := by have := bR 2; omega
  have d2 : 0 < need2 S i n := lack_pos hsp.1 p2
  by_cases h4 : 0 < needR S i 1 S.pl.length
  · obtain ⟨q, q1, q2, q3, q4⟩ := room_ex hS i 1 S.pl.length (Nat.le_refl _) h4
    refine ⟨q, q1, by omega, q4, fun T hT hr C hiT => ?_⟩
    obtain ⟨a0, a1, a2, aL⟩ := C.in1 q2 q3
    have e3 : need3 T i n = need3 S i n := by unfold need3; rw [aL]
    have e2 : need2 T i n = need2 S i n - 1 := by unfold need2; rw [e3, a2, hr, lack_c hsp.1 p2]
    have e1 : need1 T i n = need1 S i n := by unfold need1; rw [e2, a1, hr, lack_1]
    have hET : needE T i n = 0 := (needE_0 hiT hn).2 (by rw [e1, a0]; exact h1)
    exact ⟨hET, by rw [needN_0 hET]; omega⟩
  have p1 : needR S i 1 S.pl.length < need2 S i n := by have := bR 1; omega
  have d1 : 0 < need1 S i n := lack_pos hmo.1 p1
  obtain ⟨q, q1, q2, q3, q4⟩ := room_ex hS i 0 S.pl.length (Nat.le_refl _) (by omega)
  refine ⟨q, q1, by omega, q4, fun T hT hr C hiT => ?_⟩
  obtain ⟨a0, a1, a2, aL⟩ := C.in0 q2 q3
  have e3 : need3 T i n = need3 S i n := by unfold need3; rw [aL]
  have e2 : need2 T i n = need2 S i n := by unfold need2; rw [e3, a2, hr]
  have e1 : need1 T i n = need1 S i n - 1 := by unfold need1; rw [e2, a1, hr, lack_c hmo.1 p1]
  have hET : needE T i n = 0 := (needE_0 hiT hn).2 (by rw [e1, a0]; omega)
  exact ⟨hET, by rw [needN_0 hET]; omega⟩
/-- For as many as there are nothing is needed. -/
theorem need_live {S : Sho} (hS : ShOK S) {i : Int} (hi : inP S i) (hp : S.pl.length ≤ 256) : needE S i (needL S i S.pl.length) = 0 ∧ needN S i (needL S i S.pl.length) = 0 := by
  have bL := needL_B S i S.pl.length
  have e0 : need3 S i (needL S i S.pl.length) = 0 := by unfold need3; rw [if_neg (by omega)]
  have e2 : need2 S i (needL S i S.pl.length) = 0 := by unfold need2; rw [e0]; exact lack_0 (needR_B hS i 2 _).1
  have e1 : need1 S i (needL S i S.pl.length) = 0 := by unfold need1; rw [e2]; exact lack_0 (needR_B hS i 1 _).1
  have hE : needE S i (needL S i S.pl.length) = 0 := (needE_0 hi ⟨bL.1, by omega⟩).2 (by rw [e1]; exact (needR_B hS i 0 _).1)
  exact ⟨hE, by rw [needN_0 hE]; omega⟩
/-- More is more, or too much. -/
theorem need_more {S : Sho} (hS : ShOK S) {i n : Int} (hi : inP S i) (hn : 0 ≤ n ∧ n ≤ 256) : (needE S i n ≠ 0 → needE S i n = 15 ∧ needL S i S.pl.length < n) ∧ (needE S i n = 0 → n - needL S i S.pl.length ≤ needN S i n) := by
  obtain ⟨s3, s2, s1⟩ := need_nn hS i n
  constructor
  · intro h
    have h1 : ¬ need1 S i n ≤ needR S i 0 S.pl.length := fun hc => h ((needE_0 hi hn).2 hc)
    refine ⟨?_, ?_⟩
    · unfold needE
      rw [if_neg (fun h => h hi), if_neg (by omega), if_pos (by omega)]
    · refine Classical.byContradiction fun hc => ?_
      have e0 : need3 S i n = 0 := by unfold need3; rw [if_neg (by omega)]
      have e2 : need2 S i n = 0 := by unfold need2; rw [e0]; exact lack_0 (needR_B hS i 2 _).1
      have e1 : need1 S i n = 0 := by unfold need1; rw [e2]; exact lack_0 (needR_B hS i 1 _).1
      have := (needR_B hS i 0 S.pl.length).1
      omega
  · intro h
    rw [needN_0 h]
    have : n - needL S i S.pl.length ≤ need3 S i n := by unfold need3; split <;> omega
    omega
/-- Nothing is needed: there are as many. -/
theorem need_done {S : Sho} (hS : ShOK S) {i n : Int} (hE : needE S i n = 0) (hN : needN S i n = 0) : n ≤ needL S i S.pl.length := by
  rw [needN_0 hE] at hN
  obtain ⟨s3, s2, s1⟩ := need_nn hS i n
  have : need3 S i n = 0 := by omega
  unfold need3 at this
  split at this <;> omega
end Go.Sx

namespace Go.Sx
open Go Go.Proofs
set_option maxRecDepth 10000
set_option maxHeartbeats 8000000
theorem e8 : EntersF Try.prog 8 := enters_of Try.func8 (c := bodyOf Try.f8) (by kernel_rfl) rfl
/-! ### Seconds -/
@[reducible] def secA (a : Act2) (n : Int) : Act2 := ⟨a.kd, a.cut, a.area, a.stock, a.yd, a.plate, a.bath, a.s0, a.s1, a.cur, n, a.place, a.flaw⟩
def nedM (S : Sho) (a : Act2) : Int := (S.r.thin ((S.p a.plate).kd + 1) * (S.p a.plate).area + 999) / 1000 - fstM S a
def secX (S : Sho) (a : Act2) : Int := if 0 < nedM S a then ((1000 * nedM S a + (S.t a.bath).yd - 1) / (S.t a.bath).yd + a.cur - 1) / a.cur else 0
def secE (S : Sho) (a : Act2) : Int :=
  if a.kd ≠ 3 ∨ ¬ ActOK a then 2
  else if herE S a ≠ 0 then herE S a
  else if (0 < nedM S a ∧ a.cur = 0) ∨ 1048576 < secX S a ∨ layE S (secA a (secX S a)) ≠ 0 then 15
  else 0
def secN (S : Sho) (a : Act2) : Int := if secE S a = 0 then secX S a else 0
def secR (S : Sho) (ms : List MS) (a : Act2) (r : AV) (m' : List (Option Blk)) : Prop := r = .tup [I (secN S a), I (secE S a)] ∧ m' = shK S ms
theorem secR.err {S : Sho} {ms : List MS} {a : Act2} {e : Int} (h : secE S a = e) (h0 : e ≠ 0) : secR S ms a (.tup [I 0, I e]) (shK S ms) := by
  subst h
  exact ⟨by rw [secN, if_neg h0], rfl⟩
theorem secR.ok {S : Sho} {ms : List MS} {a : Act2} {n : Int} (h : secE S a = 0) (hn : secX S a = n) : secR S ms a (.tup [I n, I 0]) (shK S ms) := by
  subst hn
  exact ⟨by rw [secN, if_pos h, h], rfl⟩
end Go.Sx

namespace Go.Sx
open Go Go.Proofs
set_option maxRecDepth 10000
set_option maxHeartbeats 4000000
/-! ### Seconds: what they are good for -/
end Go.Sx

namespace Go.Sx
open Go Go.Proofs
set_option maxRecDepth 10000
set_option maxHeartbeats 8000000
/-! ### Seconds: the law -/
theorem doS_ac (S : Sho) (a : Act2) : (doS S a).ac.length ≤ S.ac.length + 1 := by
  unfold doS
  split
  · simp
  · omega
theorem repS_ac (S : Sho) (l : List Act2) : ∀ i, (repS S l i).ac.length ≤ S.ac.length + i
  | 0 => Nat.le_refl _
  | i + 1 => by
    have := doS_ac (repS S l i) (l.getD i ac0)
    have := repS_ac S l i
    unfold repS
    omega
theorem aft_ac (r : Rcp) (l : List Act2) : (aftS r l).ac.length ≤ l.length := by
  have := repS_ac (shop0 r) l l.length
  simpa [aftS] using this
theorem s21e (S : Sho) (ms : List MS) (hS : ShOK S) (hM : MsOK ms S.be) (a : Act2) {e : Int} (he : doE S a = e) : HSpec Try.prog 21 [.one (.ptr 0 0), a.x] (shM S ms) (fun r m' => ∃ ms', MsOK ms' (doS S a).be ∧ r = .tup [I (doN S a), I e] ∧ m' = shO (doS S a) ms') := by
  subst he
  exact s21 S ms hS hM a
end Go.Sx

namespace Go.Sx
open Go Go.Proofs
set_option maxRecDepth 10000
set_option maxHeartbeats 16000000
theorem e6 : EntersF Try.prog 6 := enters_of Try.func6 (c := bodyOf Try.f6) (by kernel_rfl) rfl
/-! ### Needs: living, the walk -/
def cntL (x : Int) : List Int → Int
  | [] => 0
  | y :: ys => (if y = x then 1 else 0) + cntL x ys
theorem cntL_app (x : Int) : ∀ l m : List Int, cntL x (l ++ m) = cntL x l + cntL x m
  | [], m => by simp [cntL]
  | y :: l, m => by rw [List.cons_append, cntL, cntL, cntL_app x l m]; omega
theorem cntL_not (x : Int) : ∀ l : List Int, x ∉ l → cntL x l = 0
  | [], _ => rfl
  | y :: l, h => by
    rw [cntL, cntL_not x l (fun hc => h (.tail _ hc)), if_neg (fun e : y = x => h (by rw [← e]; exact .head _))]
    rfl
theorem cntL_nd (x : Int) : ∀ l : List Int, l.Nodup → cntL x l = if x ∈ l then 1 else 0
  | [], _ => rfl
  | y :: l, h => by
    obtain ⟨h1, h2⟩ := List.nodup_cons.1 h
    rw [cntL]
    by_cases e : y = x
    · subst e
      rw [if_pos rfl, cntL_not y l h1, if_pos (.head _)]
      rfl
    · rw [if_neg e, cntL_nd x l h2]
      by_cases hm : x ∈ l
      · rw [if_pos hm, if_pos (.tail _ hm)]; rfl
      · rw [if_neg hm, if_neg (fun hc => by rcases List.mem_cons.1 hc with h | h; exact e h.symm; exact hm h)]; rfl
theorem cntL_le (x : Int) : ∀ l : List Int, 0 ≤ cntL x l ∧ cntL x l ≤ l.length
  | [] => ⟨Int.le_refl _, Int.le_refl _⟩
  | y :: l => by
    have := cntL_le x l
    rw [cntL, List.length_cons]
    split <;> omega
theorem takeD {l : List Int} {j : Nat} (h : j < l.length) : l.take (j + 1) = l.take j ++ [l.getD j 0] := by
  rw [List.take_add_one, List.getElem?_eq_getElem h, List.getD_eq_getElem?_getD, List.getElem?_eq_getElem h]; rfl
theorem s28 (S : Sho) (ms : List MS) (hS : ShOK S) (i : Int) : HSpec Try.prog 28 [.one (.ptr 0 0), I i] (shM S ms) (fun r m' => r = .x (I (needL S i S.pl.length)) ∧ m' = shK S ms) := by
  have c19 := s19 S ms hS
  have lp := plA_len S.pl
  have hnp := hS.np
  refine spec_of pMix (O := []) Try.func28 (c := bodyOf Try.f28) rfl (by kernel_rfl) (by kernel_rfl) Try.ntmps28 (res := [.tmp 4]) (by kernel_rfl) ?_
  repeat' ((conv => whnf); first | refine Rng.g ?_ | refine Ob.g ?_ | refine Ob.e ?_ | refine Ob.m ?_ | refine Ob.mk (Nat.le_of_ble_eq_true rfl) ?_ | refine JoinVC.on ?_ | refine Nils.mk (fun h => ?_) ?_ | refine Val.t ?_ | refine Val.d ?_ | refine Mm.mk ?_ | (refine Br.mk (fun h => ?_) (fun h => ?_) <;> first | (exfalso; omega; done) | (exfalso; simp at h; done) | skip))
  conv => whnf
  first | refine CallVC.mk [0, 1, 2, 3, 4, 5] _ _ _ rfl rfl rfl (c19) (fun r m' h' => ?_) | refine CallVC0.same [0, 1, 2, 3, 4, 5] _ _ _ rfl rfl rfl rfl (c19) (fun r m' h' => (by obtain ⟨rfl, rfl⟩ := h'; rfl)) (fun r m' h' => ?_) | (refine CallVC0.rows [0, 1, 2, 3, 4, 5] _ _ _ rfl rfl rfl ?_ (c19) (fun r m' h' => (by obtain ⟨rfl, rfl⟩ := h'; rfl)) (fun r m' h' => ?_); · (repeat' ((conv => whnf); first | exact trivial | exact rfl | exact Nat.le_refl _ | apply And.intro)))
  obtain ⟨rfl, rfl⟩ := h'
  conv => whnf
  repeat' ((conv => whnf); first | refine Rng.g ?_ | refine Ob.g ?_ | refine Ob.e ?_ | refine Ob.m ?_ | refine Ob.mk (Nat.le_of_ble_eq_true rfl) ?_ | refine JoinVC.on ?_ | refine Nils.mk (fun h => ?_) ?_ | refine Val.t ?_ | refine Val.d ?_ | refine Mm.mk ?_ | (refine Br.mk (fun h => ?_) (fun h => ?_) <;> first | (exfalso; omega; done) | (exfalso; simp at h; done) | skip))
  refine LoopVC.mk (fun n st => ∃ (k : Nat), k ≤ S.pl.length ∧ n = S.pl.length - k ∧ st = ⟨6, envA 57 [(0, .x (.one (.ptr 0 0))), (1, .x (I i)), (5, .x (.one (.lst false KPl (plA S.pl)))), (6, .int .i64 (needL S i k)), (7, .int .i64 (k : Int))], shK S ms⟩) _ _ ⟨0, Nat.zero_le _, rfl, rfl⟩ ?_ ?_
  · refine ⟨[some 0, some 1, some 2, some 3, some 4, some 5], rfl, rfl, ?_, ?_⟩ <;> repeat' (first | exact trivial | exact rfl | exact Iff.rfl | apply And.intro)
  rintro n _ ⟨k, hk, hn, rfl⟩
  by_cases hkl : k < S.pl.length
  · have c30 := s30_ok S ms hS (k : Int) ⟨by omega, by omega⟩
    have hup := up_len S (k : Int)
    have hnd := up_nodup hS _ (k : Int) (by omega) (Nat.le_refl _)
    have hcn := cntL_nd i (S.up (k : Int)).reverse ((List.reverse_perm _).nodup_iff.2 hnd)
    have hmr : i ∈ (S.up (k : Int)).reverse ↔ i ∈ S.up (k : Int) := List.mem_reverse
    have lL := i64s_len (S.up (k : Int)).reverse
    have hLl : (S.up (k : Int)).reverse.length ≤ 256 := by rw [List.length_reverse]; omega
    have bL := needL_B S i k
    have g0 : rI (plA S.pl) (k : Int).toNat 0 = (S.q k).kd := by rw [Int.toNat_natCast]; exact pl_0 S.pl k
    have g6 : rB (plA S.pl) (k : Int).toNat ((0 + 1 + 1 + 1 + 1 + 1 + 1)) = (S.q k).ret := by rw [Int.toNat_natCast]; exact pl_6 S.pl k
    by_cases hg : (S.q k).kd = 3 ∧ (S.q k).ret = false
    · have e : needL S i (k + 1) = needL S i k + cntL i (S.up (k : Int)).reverse := by
        rw [needL, hcn]
        by_cases hm : i ∈ S.up (k : Int)
        · rw [if_pos ⟨hm, hg⟩, if_pos (hmr.2 hm)]
        · rw [if_neg (fun h => hm h.1), if_neg (fun h => hm (hmr.1 h))]
      rw [hg.1] at g0
      rw [hg.2] at g6
      generalize (S.up (k : Int)).reverse = L at *
      have hcl := fun j => cntL_le i (L.take j)
      repeat' ((conv => whnf); first | refine Rng.g ?_ | refine Ob.g ?_ | refine Ob.e ?_ | refine Ob.m ?_ | refine Ob.mk (Nat.le_of_ble_eq_true rfl) ?_ | refine JoinVC.on ?_ | refine Nils.mk (fun h => ?_) ?_ | refine Val.t ?_ | refine Val.d ?_ | refine Mm.mk ?_ | (refine Br.mk (fun h => ?_) (fun h => ?_) <;> first | (exfalso; omega; done) | (exfalso; simp at h; done) | skip))
      conv => whnf
      first | refine CallVC.mk [0, 1, 2, 3, 4, 5] _ _ _ rfl rfl rfl (c30) (fun r m' h' => ?_) | refine CallVC0.same [0, 1, 2, 3, 4, 5] _ _ _ rfl rfl rfl rfl (c30) (fun r m' h' => (by obtain ⟨rfl, rfl⟩ := h'; rfl)) (fun r m' h' => ?_) | (refine CallVC0.rows [0, 1, 2, 3, 4, 5] _ _ _ rfl rfl rfl ?_ (c30) (fun r m' h' => (by obtain ⟨rfl, rfl⟩ := h'; rfl)) (fun r m' h' => ?_); · (repeat' ((conv => whnf); first | exact trivial | exact rfl | exact Nat.le_refl _ | apply And.intro)))
      obtain ⟨rfl, rfl⟩ := h'
      conv => whnf
      repeat' ((conv => whnf); first | rw [g0] | rw [g6] | refine Rng.g ?_ | refine Ob.g ?_ | refine Ob.e ?_ | refine Ob.m ?_ | refine Ob.mk (Nat.le_of_ble_eq_true rfl) ?_ | refine JoinVC.on ?_ | refine Nils.mk (fun h => ?_) ?_ | refine Val.t ?_ | refine Val.d ?_ | refine Mm.mk ?_ | (refine Br.mk (fun h => ?_) (fun h => ?_) <;> first | (exfalso; omega; done) | (exfalso; simp at h; done) | skip))
      refine LoopVC.mk (fun n st => ∃ (j : Nat), j ≤ L.length ∧ n = L.length - j ∧ st = ⟨6, envA 57 [(0, .x (.one (.ptr 0 0))), (1, .x (I i)), (5, .x (.one (.lst false KPl (plA S.pl)))), (6, .int .i64 (needL S i k + cntL i (L.take j))), (7, .int .i64 (k : Int)), (8, .x (.one (.lst false [.int .i64] (i64s L)))), (10, .int .i64 (j : Int))], shK S ms⟩) _ _ ⟨0, Nat.zero_le _, rfl, rfl⟩ ?_ ?_
      · refine ⟨[some 0, some 1, some 2, some 3, some 4, some 5], rfl, rfl, ?_, ?_⟩ <;> repeat' (first | exact trivial | exact rfl | exact Iff.rfl | apply And.intro)
        all_goals (show _ = _; simp [cntL])
      rintro n2 _ ⟨j, hj, hn2, rfl⟩
      have hc := hcl j
      have htl : ((L.take j).length : Int) ≤ 256 := by rw [List.length_take]; omega
      by_cases hjl : j < L.length
      · have gj : rI (i64s L) (j : Int).toNat 0 = L.getD j 0 := by rw [Int.toNat_natCast, i64s_get]
        have et : cntL i (L.take (j + 1)) = cntL i (L.take j) + (if L.getD j 0 = i then 1 else 0) := by rw [takeD hjl, cntL_app, cntL, cntL, Int.add_zero]
        by_cases h1 : L.getD j 0 = i
        · rw [if_pos h1] at et
          repeat' ((conv => whnf); first | rw [gj] | refine Rng.g ?_ | refine Ob.g ?_ | refine Ob.e ?_ | refine Ob.m ?_ | refine Ob.mk (Nat.le_of_ble_eq_true rfl) ?_ | refine JoinVC.on ?_ | refine Nils.mk (fun h => ?_) ?_ | refine Val.t ?_ | refine Val.d ?_ | refine Mm.mk ?_ | (refine Br.mk (fun h => ?_) (fun h => ?_) <;> first | (exfalso; omega; done) | (exfalso; simp at h; done) | skip))
          refine Back.mk (L.length - (j + 1)) _ (by omega) ⟨j + 1, by omega, rfl, rfl⟩ ?_
          rw [et, ← Int.add_assoc]
          refine ⟨[some 0, some 1, some 2, some 3, some 4, some 5], rfl, rfl, ?_, ?_⟩ <;> repeat' (first | exact trivial | exact rfl | exact Iff.rfl | apply And.intro)
        · rw [if_neg h1] at et
          repeat' ((conv => whnf); first | rw [gj] | refine Rng.g ?_ | refine Ob.g ?_ | refine Ob.e ?_ | refine Ob.m ?_ | refine Ob.mk (Nat.le_of_ble_eq_true rfl) ?_ | refine JoinVC.on ?_ | refine Nils.mk (fun h => ?_) ?_ | refine Val.t ?_ | refine Val.d ?_ | refine Mm.mk ?_ | (refine Br.mk (fun h => ?_) (fun h => ?_) <;> first | (exfalso; omega; done) | (exfalso; simp at h; done) | skip))
          refine Back.mk (L.length - (j + 1)) _ (by omega) ⟨j + 1, by omega, rfl, rfl⟩ ?_
          rw [et, Int.add_zero]
          refine ⟨[some 0, some 1, some 2, some 3, some 4, some 5], rfl, rfl, ?_, ?_⟩ <;> repeat' (first | exact trivial | exact rfl | exact Iff.rfl | apply And.intro)
      · obtain rfl : j = L.length := by omega
        repeat' ((conv => whnf); first | refine Rng.g ?_ | refine Ob.g ?_ | refine Ob.e ?_ | refine Ob.m ?_ | refine Ob.mk (Nat.le_of_ble_eq_true rfl) ?_ | refine JoinVC.on ?_ | refine Nils.mk (fun h => ?_) ?_ | refine Val.t ?_ | refine Val.d ?_ | refine Mm.mk ?_ | (refine Br.mk (fun h => ?_) (fun h => ?_) <;> first | (exfalso; omega; done) | (exfalso; simp at h; done) | skip))
        refine Back.mk (S.pl.length - (k + 1)) _ (by omega) ⟨k + 1, by omega, rfl, rfl⟩ ?_
        rw [e, List.take_length]
        refine ⟨[some 0, some 1, some 2, some 3, some 4, some 5], rfl, rfl, ?_, ?_⟩ <;> repeat' (first | exact trivial | exact rfl | exact Iff.rfl | apply And.intro)
    · have e : needL S i (k + 1) = needL S i k := by rw [needL, if_neg (fun h => hg h.2), Int.add_zero]
      cases hr : (S.q k).ret
      all_goals
        rw [hr] at g6 hg
        repeat' ((conv => whnf); first | refine Rng.g ?_ | refine Ob.g ?_ | refine Ob.e ?_ | refine Ob.m ?_ | refine Ob.mk (Nat.le_of_ble_eq_true rfl) ?_ | refine JoinVC.on ?_ | refine Nils.mk (fun h => ?_) ?_ | refine Val.t ?_ | refine Val.d ?_ | refine Mm.mk ?_ | (refine Br.mk (fun h => ?_) (fun h => ?_) <;> first | (exfalso; omega; done) | (exfalso; simp at h; done) | skip))
        conv => whnf
        first | refine CallVC.mk [0, 1, 2, 3, 4, 5] _ _ _ rfl rfl rfl (c30) (fun r m' h' => ?_) | refine CallVC0.same [0, 1, 2, 3, 4, 5] _ _ _ rfl rfl rfl rfl (c30) (fun r m' h' => (by obtain ⟨rfl, rfl⟩ := h'; rfl)) (fun r m' h' => ?_) | (refine CallVC0.rows [0, 1, 2, 3, 4, 5] _ _ _ rfl rfl rfl ?_ (c30) (fun r m' h' => (by obtain ⟨rfl, rfl⟩ := h'; rfl)) (fun r m' h' => ?_); · (repeat' ((conv => whnf); first | exact trivial | exact rfl | exact Nat.le_refl _ | apply And.intro)))
        obtain ⟨rfl, rfl⟩ := h'
        conv => whnf
        repeat' ((conv => whnf); first | rw [g0] | rw [g6] | refine Rng.g ?_ | refine Ob.g ?_ | refine Ob.e ?_ | refine Ob.m ?_ | refine Ob.mk (Nat.le_of_ble_eq_true rfl) ?_ | refine JoinVC.on ?_ | refine Nils.mk (fun h => ?_) ?_ | refine Val.t ?_ | refine Val.d ?_ | refine Mm.mk ?_ | (refine Br.mk (fun h => ?_) (fun h => ?_) <;> first | (exfalso; omega; done) | (exfalso; simp at h; done) | skip))
        all_goals first
          | (exfalso; exact hg ⟨by omega, rfl⟩)
          | skip
        all_goals
          refine Back.mk (S.pl.length - (k + 1)) _ (by omega) ⟨k + 1, by omega, rfl, rfl⟩ ?_
          rw [e]
          refine ⟨[some 0, some 1, some 2, some 3, some 4, some 5], rfl, rfl, ?_, ?_⟩ <;> repeat' (first | exact trivial | exact rfl | exact Iff.rfl | apply And.intro)
  · obtain rfl : k = S.pl.length := by omega
    repeat' ((conv => whnf); first | refine Rng.g ?_ | refine Ob.g ?_ | refine Ob.e ?_ | refine Ob.m ?_ | refine Ob.mk (Nat.le_of_ble_eq_true rfl) ?_ | refine JoinVC.on ?_ | refine Nils.mk (fun h => ?_) ?_ | refine Val.t ?_ | refine Val.d ?_ | refine Mm.mk ?_ | (refine Br.mk (fun h => ?_) (fun h => ?_) <;> first | (exfalso; omega; done) | (exfalso; simp at h; done) | skip))
    repeat refine Mm.mk ?_
    refine EndVC.mk _ rfl _ _ ⟨rfl, rfl⟩ ?_
    refine ⟨[some 0, some 1, some 2, some 3, some 4, some 5], rfl, rfl, ?_, ?_⟩ <;> repeat' (first | exact trivial | exact rfl | exact Iff.rfl | apply And.intro)
end Go.Sx

namespace Go.Sx
open Go Go.Proofs
set_option maxRecDepth 10000
set_option maxHeartbeats 8000000
/-! ### Which lists are lines -/
end Go.Sx

namespace Go.Sx
open Go Go.Proofs
set_option maxRecDepth 10000
set_option maxHeartbeats 8000000
/-! ### Lines -/
theorem doS_pl (S : Sho) (a : Act2) : (doS S a).pl.length ≤ S.pl.length + 1 := by
  unfold doS
  split
  · show (actS S a).pl.length ≤ _
    unfold actS
    (repeat' split) <;> simp
  · omega
theorem repS_pl (S : Sho) (l : List Act2) : ∀ i, (repS S l i).pl.length ≤ S.pl.length + i
  | 0 => Nat.le_refl _
  | i + 1 => by
    have := doS_pl (repS S l i) (l.getD i ac0)
    have := repS_pl S l i
    unfold repS
    omega
theorem aft_pl (r : Rcp) (l : List Act2) : (aftS r l).pl.length ≤ l.length := by
  have := repS_pl (shop0 r) l l.length
  simpa [aftS] using this
end Go.Sx

namespace Go.Sx
open Go Go.Proofs
set_option maxRecDepth 10000
set_option maxHeartbeats 16000000
/-! ### Needs: the law -/
theorem s6_any (u0 u1 u3 u4 : Int) (l : List Act2) (h : 30 < l.length) : PSpec Try.prog 6 [.one (.int .u8 u0), .one (.int .u8 u1), .one (.lst true KAc (acA l)), .one (.int .u8 u3), .one (.int .u8 u4)] (xP True) := by
  have ll := acA_len l
  have c17 := s17
  refine spec_of pMix (O := []) Try.func6 (c := bodyOf Try.f6) rfl (by kernel_rfl) (by kernel_rfl) Try.ntmps6 (res := [.tmp 10]) (by kernel_rfl) ?_
  repeat' ((conv => whnf); first | refine Rng.g ?_ | refine Ob.g ?_ | refine Ob.e ?_ | refine Ob.m ?_ | refine Ob.mk (Nat.le_of_ble_eq_true rfl) ?_ | refine JoinVC.on ?_ | refine Nils.mk (fun h => ?_) ?_ | refine Val.t ?_ | refine Val.d ?_ | refine Mm.mk ?_ | refine CallVC.pure rfl (c17) ?_ | refine CallVC0.pure rfl (c17) ?_ | (refine Br.mk (fun h => ?_) (fun h => ?_) <;> first | (exfalso; omega; done) | (exfalso; simp at h; done) | skip))
  repeat refine Mm.mk ?_
  refine EndVC.mk _ rfl _ _ ⟨rfl, rfl⟩ ?_
  refine ⟨[], rfl, rfl, ?_, ?_⟩ <;> repeat' (first | exact trivial | exact rfl | exact Iff.rfl | apply And.intro)
theorem up_pl {S T : Sho} (hp : T.pl = S.pl) (k : Int) : T.up k = S.up k := by unfold Sho.up; rw [hp]
theorem q_pl {S T : Sho} (hp : T.pl = S.pl) (k : Nat) : T.q k = S.q k := by unfold Sho.q; rw [hp]
theorem needL_same {S T : Sho} (hp : T.pl = S.pl) (i : Int) : ∀ k, needL T i k = needL S i k
  | 0 => rfl
  | k + 1 => by rw [needL, needL, needL_same hp i k, up_pl hp, q_pl hp]
theorem needR_same {S T : Sho} (hp : T.pl = S.pl) (hr : T.r = S.r) (i c : Int) : ∀ k, needR T i c k = needR S i c k
  | 0 => rfl
  | k + 1 => by rw [needR, needR, needR_same hp hr i c k, up_pl hp, q_pl hp, hr]
theorem need_same {S T : Sho} (hp : T.pl = S.pl) (hr : T.r = S.r) (i n : Int) : needE T i n = needE S i n ∧ needN T i n = needN S i n ∧ needL T i T.pl.length = needL S i S.pl.length := by
  have e3 : need3 T i n = need3 S i n := by unfold need3; rw [hp, needL_same hp]
  have e2 : need2 T i n = need2 S i n := by unfold need2; rw [e3, hp, needR_same hp hr, hr]
  have e1 : need1 T i n = need1 S i n := by unfold need1; rw [e2, hp, needR_same hp hr, hr]
  have hin : inP T i ↔ inP S i := by unfold inP; rw [hp]
  have eE : needE T i n = needE S i n := by
    unfold needE
    rw [e1, hp, needR_same hp hr]
    by_cases h : inP S i
    · rw [if_neg (show ¬ ¬ inP T i from fun hc => hc (hin.2 h)), if_neg (show ¬ ¬ inP S i from fun hc => hc h)]
    · rw [if_pos (fun hc => h (hin.1 hc)), if_pos h]
  exact ⟨eE, by unfold needN; rw [eE, e3, e2, e1], by rw [hp, needL_same hp]⟩
@[reducible] def bathA : Act2 := ⟨2, 0, 0, 0, 1, 0, 0, 0, 0, 0, 0, 0, 0⟩
theorem bath_E {S : Sho} (ha : S.ac.length < 1000) (ht : S.tk.length < 8) : doE S bathA = 0 := by
  unfold doE
  rw [if_neg (by omega), if_pos (.inr (.inl ⟨rfl, by decide, by decide, by decide⟩))]
  unfold actE
  rw [if_neg (by decide), if_pos rfl, if_neg (by omega)]
theorem bath_S {S : Sho} (h : doE S bathA = 0) : (doS S bathA).pl = S.pl ∧ (doS S bathA).r = S.r ∧ (doS S bathA).tk.length = S.tk.length + 1 ∧ (doS S bathA).ac.length = S.ac.length + 1 := by
  have hD : doS S bathA = { actS S bathA with ac := S.ac ++ [bathA] } := if_pos h
  have hs : actS S bathA = { S with tk := S.tk ++ [⟨0, 1, 0, 0⟩] } := rfl
  rw [hs] at hD
  rw [hD]
  exact ⟨rfl, rfl, by simp, by simp⟩
structure GroF (S T : Sho) (i w N : Int) (q : Nat) : Prop where
  ok : ShOK T
  hist : Hist T
  r : T.r = S.r
  len : T.pl.length = S.pl.length + 1
  tk : T.tk.length = S.tk.length
  ac : T.ac.length = S.ac.length + 1
  inp : inP T i
  cnt : CntS S T i q
  le : needE T i w = 0 → N - 1 ≤ needN T i w
theorem gro_f {S : Sho} (hS : ShOK S) (hH : Hist S) {mo sp : Int} (hr : S.r = gR mo sp) (ha : S.ac.length < 1000) (hp : S.pl.length < 256) {q : Nat} (hq : q < S.pl.length) {b : Int} (hb : 0 ≤ b ∧ b < (S.tk.length : Int)) {i w N : Int} (hi : inP S i) (he : needE S i w = 0) (hN : needN S i w = N) (hE : doE S (gA (q : Int) b) = 0) : GroF S (doS S (gA (q : Int) b)) i w N q := by
  have G := grow_S hS hr ha hp hb hE
  have hT := hS.doS (gA (q : Int) b)
  have hHT := hH.doS (gA (q : Int) b)
  generalize doS S (gA (q : Int) b) = T at *
  have C := grow_C hS hT G hq hi
  have k1 := (hS.pl q hq).kd
  have k2 := (hT.pl S.pl.length (by rw [G.len]; omega)).kd
  have k3 := G.new.1
  have law := need_grow hS hT G.r C (by show 0 ≤ (S.q q).kd ∧ (S.q q).kd ≤ 2; change 0 ≤ (S.q q).kd ∧ _ at k1; change 0 ≤ (T.q S.pl.length).kd ∧ (T.q S.pl.length).kd ≤ 3 at k2; omega) w
  refine ⟨hT, hHT, G.r, G.len, G.tk, G.ac, ?_, C, fun h => ?_⟩
  · unfold inP at hi ⊢
    rw [G.len]
    omega
  · rw [needN_0 h, ← hN, needN_0 he]
    exact law
/-- The best plate up to here. -/
def goodP (S : Sho) (i w N b : Int) (q : Nat) : Prop := doE S (gA (q : Int) b) = 0 ∧ needE (doS S (gA (q : Int) b)) i w = 0 ∧ needN (doS S (gA (q : Int) b)) i w = N - 1
structure BestI (S : Sho) (i w N b : Int) (k : Nat) (t : Int) : Prop where
  lo : -1 ≤ t
  hi : 0 ≤ t → ∃ q : Nat, t = (q : Int) ∧ q < k ∧ goodP S i w N b q
  all : ∀ q, q < k → goodP S i w N b q → 0 ≤ t
theorem BestI.new (S : Sho) (i w N b : Int) : BestI S i w N b 0 (-1) := ⟨Int.le_refl _, fun h => absurd h (by decide), fun _ h => absurd h (Nat.not_lt_zero _)⟩
theorem BestI.no {S : Sho} {i w N b : Int} {k : Nat} {t : Int} (h : BestI S i w N b k t) (hg : ¬ goodP S i w N b k) : BestI S i w N b (k + 1) t :=
  ⟨h.lo, fun ht => by obtain ⟨q, h1, h2, h3⟩ := h.hi ht; exact ⟨q, h1, by omega, h3⟩, fun q hq hgq => by
    by_cases e : q = k
    · subst e; exact absurd hgq hg
    · exact h.all q (by omega) hgq⟩
theorem BestI.yes {S : Sho} {i w N b : Int} {k : Nat} (hg : goodP S i w N b k) : BestI S i w N b (k + 1) (k : Int) :=
  ⟨by omega, fun _ => ⟨k, rfl, by omega, hg⟩, fun _ _ _ => by omega⟩
theorem best_ex {S : Sho} (hS : ShOK S) (hH : Hist S) {mo sp : Int} (hr : S.r = gR mo sp) (ha : S.ac.length < 1000) (hp : S.pl.length < 256) {b : Int} (hb : 0 ≤ b ∧ b < (S.tk.length : Int)) {i w N : Int} (hw : 0 ≤ w ∧ w ≤ 256) (hi : inP S i) (he : needE S i w = 0) (hN : needN S i w = N) (h0 : 0 < N) {t : Int} (hB : BestI S i w N b S.pl.length t) : 0 ≤ t := by
  obtain ⟨q, q1, q2, q3, q4⟩ := need_best hS hi hw he (by omega)
  have hE : doE S (gA (q : Int) b) = 0 := (gE hS hr ha hp (q : Int) b hb).2 ⟨⟨by omega, by omega⟩, ?_, q3⟩
  · have F := gro_f hS hH hr ha hp q1 hb hi he hN hE
    obtain ⟨e1, e2⟩ := q4 _ F.ok F.r F.cnt F.inp
    exact hB.all q q1 ⟨hE, e1, by rw [e2, hN]⟩
  · show (S.q q).ret = false
    unfold roomP at q3
    split at q3
    · omega
    · exact Bool.eq_false_iff.2 ‹_›
theorem s6_ok (u0 u1 u3 u4 : Int) (h0 : 0 ≤ u0 ∧ u0 ≤ 255) (h1 : 0 ≤ u1 ∧ u1 ≤ 255) (h3 : 0 ≤ u3 ∧ u3 ≤ 255) (h4 : 0 ≤ u4 ∧ u4 ≤ 255) (l : List Act2) (hl : l.length ≤ 30) : PSpec Try.prog 6 [.one (.int .u8 u0), .one (.int .u8 u1), .one (.lst true KAc (acA l)), .one (.int .u8 u3), .one (.int .u8 u4)] (xP True) := by
  have ll := acA_len l
  have c17 := s17
  have hmo : 1 ≤ 1 + u0 % 4 ∧ 1 + u0 % 4 ≤ 4 := by omega
  have hsp : 1 ≤ 1 + u1 % 4 ∧ 1 + u1 % 4 ≤ 4 := by omega
  have hr := gR_ok hmo hsp
  have c18 := s18 (gR (1 + u0 % 4) (1 + u1 % 4)) l hr (by omega)
  have hS := aft_ok hr l
  have hH := aft_hist (gR (1 + u0 % 4) (1 + u1 % 4)) l
  have hrr : (aftS (gR (1 + u0 % 4) (1 + u1 % 4)) l).r = gR (1 + u0 % 4) (1 + u1 % 4) := repS_r _ l _
  have hn30 := aft_pl (gR (1 + u0 % 4) (1 + u1 % 4)) l
  have hac := aft_ac (gR (1 + u0 % 4) (1 + u1 % 4)) l
  generalize aftS (gR (1 + u0 % 4) (1 + u1 % 4)) l = S at *
  have lp := plA_len S.pl
  refine spec_of pMix (O := []) Try.func6 (c := bodyOf Try.f6) rfl (by kernel_rfl) (by kernel_rfl) Try.ntmps6 (res := [.tmp 10]) (by kernel_rfl) ?_
  repeat' ((conv => whnf); first | refine Rng.g ?_ | refine Ob.g ?_ | refine Ob.e ?_ | refine Ob.m ?_ | refine Ob.mk (Nat.le_of_ble_eq_true rfl) ?_ | refine JoinVC.on ?_ | refine Nils.mk (fun h => ?_) ?_ | refine Val.t ?_ | refine Val.d ?_ | refine Mm.mk ?_ | (refine Br.mk (fun h => ?_) (fun h => ?_) <;> first | (exfalso; omega; done) | (exfalso; simp at h; done) | skip))
  conv => whnf
  refine CallVC.mk [] _ _ _ rfl rfl rfl (c18) (fun r m' h' => ?_)
  obtain ⟨ms, hM, rfl, rfl⟩ := h'
  conv => whnf
  have c19 := s19 S ms hS
  repeat' ((conv => whnf); first | refine Rng.g ?_ | refine Ob.g ?_ | refine Ob.e ?_ | refine Ob.m ?_ | refine Ob.mk (Nat.le_of_ble_eq_true rfl) ?_ | refine JoinVC.on ?_ | refine Nils.mk (fun h => ?_) ?_ | refine Val.t ?_ | refine Val.d ?_ | refine Mm.mk ?_ | (refine Br.mk (fun h => ?_) (fun h => ?_) <;> first | (exfalso; omega; done) | (exfalso; simp at h; done) | skip))
  conv => whnf
  first | refine CallVC.mk [1, 2, 3, 4, 5, 6] _ _ _ rfl rfl rfl (c19) (fun r m' h' => ?_) | refine CallVC0.same [1, 2, 3, 4, 5, 6] _ _ _ rfl rfl rfl rfl (c19) (fun r m' h' => (by obtain ⟨rfl, rfl⟩ := h'; rfl)) (fun r m' h' => ?_) | (refine CallVC0.rows [1, 2, 3, 4, 5, 6] _ _ _ rfl rfl rfl ?_ (c19) (fun r m' h' => (by obtain ⟨rfl, rfl⟩ := h'; rfl)) (fun r m' h' => ?_); · (repeat' ((conv => whnf); first | exact trivial | exact rfl | exact Nat.le_refl _ | apply And.intro)))
  obtain ⟨rfl, rfl⟩ := h'
  conv => whnf
  by_cases hz : S.pl.length = 0
  · repeat' ((conv => whnf); first | refine Rng.g ?_ | refine Ob.g ?_ | refine Ob.e ?_ | refine Ob.m ?_ | refine Ob.mk (Nat.le_of_ble_eq_true rfl) ?_ | refine JoinVC.on ?_ | refine Nils.mk (fun h => ?_) ?_ | refine Val.t ?_ | refine Val.d ?_ | refine Mm.mk ?_ | refine CallVC.pure rfl (c17) ?_ | refine CallVC0.pure rfl (c17) ?_ | (refine Br.mk (fun h => ?_) (fun h => ?_) <;> first | (exfalso; omega; done) | (exfalso; simp at h; done) | skip))
    repeat refine Mm.mk ?_
    refine EndVC.mk _ rfl _ _ ⟨rfl, rfl⟩ ?_
    refine ⟨[], rfl, rfl, ?_, ?_⟩ <;> repeat' (first | exact trivial | exact rfl | exact Iff.rfl | apply And.intro)
  obtain ⟨i, hii⟩ : ∃ i, u3 % (S.pl.length : Int) = i := ⟨_, rfl⟩
  have hiB : 0 ≤ i ∧ i < (S.pl.length : Int) := by
    rw [← hii]
    exact ⟨Int.emod_nonneg _ (by omega), Int.emod_lt_of_pos _ (by omega)⟩
  have hi : inP S i := hiB
  rw [← lp] at hii
  have c28 := s28 S ms hS i
  repeat' ((conv => whnf); first | rw [hii] | refine Rng.g ?_ | refine Ob.g ?_ | refine Ob.e ?_ | refine Ob.m ?_ | refine Ob.mk (Nat.le_of_ble_eq_true rfl) ?_ | refine JoinVC.on ?_ | refine Nils.mk (fun h => ?_) ?_ | refine Val.t ?_ | refine Val.d ?_ | refine Mm.mk ?_ | (refine Br.mk (fun h => ?_) (fun h => ?_) <;> first | (exfalso; omega; done) | (exfalso; simp at h; done) | skip))
  obtain ⟨L, hL⟩ : ∃ L, needL S i S.pl.length = L := ⟨_, rfl⟩
  have hLB := needL_B S i S.pl.length
  have hlive := need_live hS hi (by omega)
  rw [hL] at c28 hLB hlive
  obtain ⟨w, hw⟩ : ∃ w, L + u4 % 6 = w := ⟨_, rfl⟩
  have hwB : 0 ≤ w ∧ w ≤ 256 := by omega
  have hmore := need_more hS hi hwB
  rw [hL] at hmore
  have c26 := s26 S ms hS i L
  rw [hlive.1, hlive.2] at c26
  have d26 := s26 S ms hS i w
  have hN15 : needE S i w = 0 → 0 ≤ needN S i w ∧ needN S i w ≤ 15 := fun h => by
    have b3 : 0 ≤ need3 S i w ∧ need3 S i w ≤ 5 := by unfold need3; rw [hL]; split <;> omega
    have b2 : 0 ≤ need2 S i w ∧ need2 S i w ≤ 5 := lackI_B b3 (needR_B hS i 2 _).1 hS.r.sp.1
    have b1 : 0 ≤ need1 S i w ∧ need1 S i w ≤ 5 := lackI_B b2 (needR_B hS i 1 _).1 hS.r.mo.1
    rw [needN_0 h]
    omega
  obtain ⟨N, hN⟩ : ∃ N, needN S i w = N := ⟨_, rfl⟩
  obtain ⟨E, hE⟩ : ∃ E, needE S i w = E := ⟨_, rfl⟩
  rw [hN, hE] at d26 hmore hN15
  conv => whnf
  first | refine CallVC.mk [1, 2, 3, 4, 5, 6] _ _ _ rfl rfl rfl (c28) (fun r m' h' => ?_) | refine CallVC0.same [1, 2, 3, 4, 5, 6] _ _ _ rfl rfl rfl rfl (c28) (fun r m' h' => (by obtain ⟨rfl, rfl⟩ := h'; rfl)) (fun r m' h' => ?_) | (refine CallVC0.rows [1, 2, 3, 4, 5, 6] _ _ _ rfl rfl rfl ?_ (c28) (fun r m' h' => (by obtain ⟨rfl, rfl⟩ := h'; rfl)) (fun r m' h' => ?_); · (repeat' ((conv => whnf); first | exact trivial | exact rfl | exact Nat.le_refl _ | apply And.intro)))
  obtain ⟨rfl, rfl⟩ := h'
  conv => whnf
  repeat' ((conv => whnf); first | rw [hw] | refine Rng.g ?_ | refine Ob.g ?_ | refine Ob.e ?_ | refine Ob.m ?_ | refine Ob.mk (Nat.le_of_ble_eq_true rfl) ?_ | refine JoinVC.on ?_ | refine Nils.mk (fun h => ?_) ?_ | refine Val.t ?_ | refine Val.d ?_ | refine Mm.mk ?_ | (refine Br.mk (fun h => ?_) (fun h => ?_) <;> first | (exfalso; omega; done) | (exfalso; simp at h; done) | skip))
  conv => whnf
  first | refine CallVC.mk [1, 2, 3, 4, 5, 6] _ _ _ rfl rfl rfl (c26) (fun r m' h' => ?_) | refine CallVC0.same [1, 2, 3, 4, 5, 6] _ _ _ rfl rfl rfl rfl (c26) (fun r m' h' => (by obtain ⟨rfl, rfl⟩ := h'; rfl)) (fun r m' h' => ?_) | (refine CallVC0.rows [1, 2, 3, 4, 5, 6] _ _ _ rfl rfl rfl ?_ (c26) (fun r m' h' => (by obtain ⟨rfl, rfl⟩ := h'; rfl)) (fun r m' h' => ?_); · (repeat' ((conv => whnf); first | exact trivial | exact rfl | exact Nat.le_refl _ | apply And.intro)))
  obtain ⟨rfl, rfl⟩ := h'
  conv => whnf
  repeat' ((conv => whnf); first | refine Rng.g ?_ | refine Ob.g ?_ | refine Ob.e ?_ | refine Ob.m ?_ | refine Ob.mk (Nat.le_of_ble_eq_true rfl) ?_ | refine JoinVC.on ?_ | refine Nils.mk (fun h => ?_) ?_ | refine Val.t ?_ | refine Val.d ?_ | refine Mm.mk ?_ | (refine Br.mk (fun h => ?_) (fun h => ?_) <;> first | (exfalso; omega; done) | (exfalso; simp at h; done) | skip))
  conv => whnf
  first | refine CallVC.mk [1, 2, 3, 4, 5, 6] _ _ _ rfl rfl rfl (d26) (fun r m' h' => ?_) | refine CallVC0.same [1, 2, 3, 4, 5, 6] _ _ _ rfl rfl rfl rfl (d26) (fun r m' h' => (by obtain ⟨rfl, rfl⟩ := h'; rfl)) (fun r m' h' => ?_) | (refine CallVC0.rows [1, 2, 3, 4, 5, 6] _ _ _ rfl rfl rfl ?_ (d26) (fun r m' h' => (by obtain ⟨rfl, rfl⟩ := h'; rfl)) (fun r m' h' => ?_); · (repeat' ((conv => whnf); first | exact trivial | exact rfl | exact Nat.le_refl _ | apply And.intro)))
  obtain ⟨rfl, rfl⟩ := h'
  conv => whnf
  by_cases hE0 : E = 0
  rotate_left
  · obtain ⟨hE15, hLw⟩ := hmore.1 hE0
    subst hE15
    repeat' ((conv => whnf); first | refine Rng.g ?_ | refine Ob.g ?_ | refine Ob.e ?_ | refine Ob.m ?_ | refine Ob.mk (Nat.le_of_ble_eq_true rfl) ?_ | refine JoinVC.on ?_ | refine Nils.mk (fun h => ?_) ?_ | refine Val.t ?_ | refine Val.d ?_ | refine Mm.mk ?_ | refine CallVC.pure rfl (c17) ?_ | refine CallVC0.pure rfl (c17) ?_ | (refine Br.mk (fun h => ?_) (fun h => ?_) <;> first | (exfalso; omega; done) | (exfalso; simp at h; done) | skip))
    repeat refine Mm.mk ?_
    refine EndVC.mk _ rfl _ _ ⟨rfl, rfl⟩ ?_
    refine ⟨[], rfl, rfl, ?_, ?_⟩ <;> repeat' (first | exact trivial | exact rfl | exact Iff.rfl | apply And.intro)
  subst hE0
  have hNL := hmore.2 rfl
  have hN15 := hN15 rfl
  have c22 := s22 S ms hS
  have lt := tkA_len S.tk
  have hnt := hS.nt
  repeat' ((conv => whnf); first | refine Rng.g ?_ | refine Ob.g ?_ | refine Ob.e ?_ | refine Ob.m ?_ | refine Ob.mk (Nat.le_of_ble_eq_true rfl) ?_ | refine JoinVC.on ?_ | refine Nils.mk (fun h => ?_) ?_ | refine Val.t ?_ | refine Val.d ?_ | refine Mm.mk ?_ | (refine Br.mk (fun h => ?_) (fun h => ?_) <;> first | (exfalso; omega; done) | (exfalso; simp at h; done) | skip))
  conv => whnf
  first | refine CallVC.mk [1, 2, 3, 4, 5, 6] _ _ _ rfl rfl rfl (c22) (fun r m' h' => ?_) | refine CallVC0.same [1, 2, 3, 4, 5, 6] _ _ _ rfl rfl rfl rfl (c22) (fun r m' h' => (by obtain ⟨rfl, rfl⟩ := h'; rfl)) (fun r m' h' => ?_) | (refine CallVC0.rows [1, 2, 3, 4, 5, 6] _ _ _ rfl rfl rfl ?_ (c22) (fun r m' h' => (by obtain ⟨rfl, rfl⟩ := h'; rfl)) (fun r m' h' => ?_); · (repeat' ((conv => whnf); first | exact trivial | exact rfl | exact Nat.le_refl _ | apply And.intro)))
  obtain ⟨rfl, rfl⟩ := h'
  conv => whnf
  repeat' ((conv => whnf); first | refine Rng.g ?_ | refine Ob.g ?_ | refine Ob.e ?_ | refine Ob.m ?_ | refine Ob.mk (Nat.le_of_ble_eq_true rfl) ?_ | refine Nils.mk (fun h => ?_) ?_ | refine Val.t ?_ | refine Val.d ?_ | refine Mm.mk ?_ | (refine Br.mk (fun h => ?_) (fun h => ?_) <;> first | (exfalso; omega; done) | (exfalso; simp at h; done) | skip))
  refine JoinVC.cut (fun st => ∃ (T : Sho) (ms : List MS) (b : Int), ShOK T ∧ Hist T ∧ MsOK ms T.be ∧ T.r = gR (1 + u0 % 4) (1 + u1 % 4) ∧ inP T i ∧ needE T i w = 0 ∧ needN T i w = N ∧ (0 ≤ b ∧ b < (T.tk.length : Int)) ∧ T.pl.length ≤ 30 ∧ T.ac.length ≤ 31 ∧ st = ⟨0, envA 198 [(12, .x (.one (.ptr 0 0))), (15, .x (I i)), (17, .x (I w)), (20, .x (I N)), (22, .x (I b))], shK T ms⟩) ?_ ?_
  · by_cases h8 : S.tk.length < 8
    · have hbE := bath_E (S := S) (by omega) h8
      obtain ⟨b1, b2, b3, b4⟩ := bath_S hbE
      obtain ⟨nE, nN, nL⟩ := need_same b1 b2 i w
      have c21 := s21e S ms hS hM bathA hbE
      have hS' := hS.doS bathA
      have hH' := hH.doS bathA
      have hi' : inP (doS S bathA) i := by unfold inP at hi ⊢; rw [b1]; exact hi
      repeat' ((conv => whnf); first | refine Rng.g ?_ | refine Ob.g ?_ | refine Ob.e ?_ | refine Ob.m ?_ | refine Ob.mk (Nat.le_of_ble_eq_true rfl) ?_ | refine JoinVC.on ?_ | refine Nils.mk (fun h => ?_) ?_ | refine Val.t ?_ | refine Val.d ?_ | refine Mm.mk ?_ | (refine Br.mk (fun h => ?_) (fun h => ?_) <;> first | (exfalso; omega; done) | (exfalso; simp at h; done) | skip))
      conv => whnf
      first | refine CallVC.mk [1, 2, 3, 4, 5, 6] _ _ _ rfl rfl rfl (c21) (fun r m' h' => ?_) | refine CallVC0.same [1, 2, 3, 4, 5, 6] _ _ _ rfl rfl rfl rfl (c21) (fun r m' h' => (by obtain ⟨ms', hM', rfl, rfl⟩ := h'; rfl)) (fun r m' h' => ?_) | (refine CallVC0.rows [1, 2, 3, 4, 5, 6] _ _ _ rfl rfl rfl ?_ (c21) (fun r m' h' => (by obtain ⟨ms', hM', rfl, rfl⟩ := h'; rfl)) (fun r m' h' => ?_); · (repeat' ((conv => whnf); first | exact trivial | exact rfl | exact Nat.le_refl _ | apply And.intro)))
      obtain ⟨ms', hM', rfl, rfl⟩ := h'
      conv => whnf
      repeat' ((conv => whnf); first | refine Rng.g ?_ | refine Ob.g ?_ | refine Ob.e ?_ | refine Ob.m ?_ | refine Ob.mk (Nat.le_of_ble_eq_true rfl) ?_ | refine JoinVC.on ?_ | refine Nils.mk (fun h => ?_) ?_ | refine Val.t ?_ | refine Val.d ?_ | refine Mm.mk ?_ | (refine Br.mk (fun h => ?_) (fun h => ?_) <;> first | (exfalso; omega; done) | (exfalso; simp at h; done) | skip))
      refine Meet.mk _ ⟨doS S bathA, ms', ((tkA S.tk).length : Int), hS', hH', hM', b2.trans hrr, hi', nE.trans hE, nN.trans hN, by rw [b3, lt]; omega, by rw [b1]; omega, by rw [b4]; omega, rfl⟩ ?_
      refine ⟨[some 1, some 7, some 3, some 8, some 9, some 10], rfl, rfl, ?_, ?_⟩ <;> repeat' (first | exact trivial | exact rfl | exact Iff.rfl | apply And.intro)
    · repeat' ((conv => whnf); first | refine Rng.g ?_ | refine Ob.g ?_ | refine Ob.e ?_ | refine Ob.m ?_ | refine Ob.mk (Nat.le_of_ble_eq_true rfl) ?_ | refine JoinVC.on ?_ | refine Nils.mk (fun h => ?_) ?_ | refine Val.t ?_ | refine Val.d ?_ | refine Mm.mk ?_ | (refine Br.mk (fun h => ?_) (fun h => ?_) <;> first | (exfalso; omega; done) | (exfalso; simp at h; done) | skip))
      refine Meet.mk _ ⟨S, ms, 0, hS, hH, hM, hrr, hi, hE, hN, by omega, by omega, by omega, rfl⟩ ?_
      refine ⟨[some 1, some 2, some 3, some 4, some 5, some 6], rfl, rfl, ?_, ?_⟩ <;> repeat' (first | exact trivial | exact rfl | exact Iff.rfl | apply And.intro)
  rintro _ ⟨T, ms', b, hS', hH', hM', hr', hi', hE', hN', hb', hp', ha', rfl⟩
  clear hmore hlive c18 c19 c22 c26 d26 c28 lp lt hrr hnt hS hH hM hi hE hN hn30 hac hiB hL hLB hNL hii hz ll
  clear ms
  repeat' ((conv => whnf); first | refine Rng.g ?_ | refine Ob.g ?_ | refine Ob.e ?_ | refine Ob.m ?_ | refine Ob.mk (Nat.le_of_ble_eq_true rfl) ?_ | refine JoinVC.on ?_ | refine Nils.mk (fun h => ?_) ?_ | refine Val.t ?_ | refine Val.d ?_ | refine Mm.mk ?_ | (refine Br.mk (fun h => ?_) (fun h => ?_) <;> first | (exfalso; omega; done) | (exfalso; simp at h; done) | skip))
  refine LoopVC.mk (fun m st => ∃ (S : Sho) (ms : List MS) (b N : Int), ShOK S ∧ Hist S ∧ MsOK ms S.be ∧ S.r = gR (1 + u0 % 4) (1 + u1 % 4) ∧ inP S i ∧ needE S i w = 0 ∧ needN S i w = N ∧ (0 ≤ b ∧ b < (S.tk.length : Int)) ∧ S.pl.length + N ≤ 45 ∧ S.ac.length + N ≤ 46 ∧ 0 ≤ N ∧ m = N.toNat ∧ st = ⟨0, envA 198 [(12, .x (.one (.ptr 0 0))), (15, .x (I i)), (17, .x (I w)), (20, .x (I N)), (22, .x (I b))], shK S ms⟩) _ _ ⟨T, ms', b, N, hS', hH', hM', hr', hi', hE', hN', hb', by omega, by omega, by omega, rfl, rfl⟩ ?_ ?_
  · refine ⟨[some 0, some 1, some 2, some 3, some 4, some 5], rfl, rfl, ?_, ?_⟩ <;> repeat' (first | exact trivial | exact rfl | exact Iff.rfl | apply And.intro)
  clear hS' hH' hM' hr' hi' hE' hN' hb' hp' ha' hN15
  rintro m _ ⟨S, ms, b, N, hS, hH, hM, hr, hi, hE, hN, hb, hp, ha, hN0, hm, rfl⟩
  have lp := plA_len S.pl
  by_cases hpos : 0 < N
  rotate_left
  · have hdone := need_done hS hE (by omega)
    have c28 := s28 S ms hS i
    generalize needL S i S.pl.length = L at *
    repeat' ((conv => whnf); first | refine Rng.g ?_ | refine Ob.g ?_ | refine Ob.e ?_ | refine Ob.m ?_ | refine Ob.mk (Nat.le_of_ble_eq_true rfl) ?_ | refine JoinVC.on ?_ | refine Nils.mk (fun h => ?_) ?_ | refine Val.t ?_ | refine Val.d ?_ | refine Mm.mk ?_ | (refine Br.mk (fun h => ?_) (fun h => ?_) <;> first | (exfalso; omega; done) | (exfalso; simp at h; done) | skip))
    conv => whnf
    first | refine CallVC.mk [0, 1, 2, 3, 4, 5] _ _ _ rfl rfl rfl (c28) (fun r m' h' => ?_) | refine CallVC0.same [0, 1, 2, 3, 4, 5] _ _ _ rfl rfl rfl rfl (c28) (fun r m' h' => (by obtain ⟨rfl, rfl⟩ := h'; rfl)) (fun r m' h' => ?_) | (refine CallVC0.rows [0, 1, 2, 3, 4, 5] _ _ _ rfl rfl rfl ?_ (c28) (fun r m' h' => (by obtain ⟨rfl, rfl⟩ := h'; rfl)) (fun r m' h' => ?_); · (repeat' ((conv => whnf); first | exact trivial | exact rfl | exact Nat.le_refl _ | apply And.intro)))
    obtain ⟨rfl, rfl⟩ := h'
    conv => whnf
    repeat' ((conv => whnf); first | refine Rng.g ?_ | refine Ob.g ?_ | refine Ob.e ?_ | refine Ob.m ?_ | refine Ob.mk (Nat.le_of_ble_eq_true rfl) ?_ | refine JoinVC.on ?_ | refine Nils.mk (fun h => ?_) ?_ | refine Val.t ?_ | refine Val.d ?_ | refine Mm.mk ?_ | refine CallVC.pure rfl (c17) ?_ | refine CallVC0.pure rfl (c17) ?_ | (refine Br.mk (fun h => ?_) (fun h => ?_) <;> first | (exfalso; omega; done) | (exfalso; simp at h; done) | skip))
    repeat refine Mm.mk ?_
    refine EndVC.mk _ rfl _ _ ⟨rfl, rfl⟩ ?_
    refine ⟨[], rfl, rfl, ?_, ?_⟩ <;> repeat' (first | exact trivial | exact rfl | exact Iff.rfl | apply And.intro)
  have c19 := s19 S ms hS
  repeat' ((conv => whnf); first | refine Rng.g ?_ | refine Ob.g ?_ | refine Ob.e ?_ | refine Ob.m ?_ | refine Ob.mk (Nat.le_of_ble_eq_true rfl) ?_ | refine JoinVC.on ?_ | refine Nils.mk (fun h => ?_) ?_ | refine Val.t ?_ | refine Val.d ?_ | refine Mm.mk ?_ | (refine Br.mk (fun h => ?_) (fun h => ?_) <;> first | (exfalso; omega; done) | (exfalso; simp at h; done) | skip))
  conv => whnf
  first | refine CallVC.mk [0, 1, 2, 3, 4, 5] _ _ _ rfl rfl rfl (c19) (fun r m' h' => ?_) | refine CallVC0.same [0, 1, 2, 3, 4, 5] _ _ _ rfl rfl rfl rfl (c19) (fun r m' h' => (by obtain ⟨rfl, rfl⟩ := h'; rfl)) (fun r m' h' => ?_) | (refine CallVC0.rows [0, 1, 2, 3, 4, 5] _ _ _ rfl rfl rfl ?_ (c19) (fun r m' h' => (by obtain ⟨rfl, rfl⟩ := h'; rfl)) (fun r m' h' => ?_); · (repeat' ((conv => whnf); first | exact trivial | exact rfl | exact Nat.le_refl _ | apply And.intro)))
  obtain ⟨rfl, rfl⟩ := h'
  conv => whnf
  repeat' ((conv => whnf); first | refine Rng.g ?_ | refine Ob.g ?_ | refine Ob.e ?_ | refine Ob.m ?_ | refine Ob.mk (Nat.le_of_ble_eq_true rfl) ?_ | refine JoinVC.on ?_ | refine Nils.mk (fun h => ?_) ?_ | refine Val.t ?_ | refine Val.d ?_ | refine Mm.mk ?_ | (refine Br.mk (fun h => ?_) (fun h => ?_) <;> first | (exfalso; omega; done) | (exfalso; simp at h; done) | skip))
  refine LoopVC.cut (fun n st => ∃ (k : Nat) (t : Int), k ≤ S.pl.length ∧ BestI S i w N b k t ∧ n = S.pl.length - k ∧ st = ⟨0, envA 198 [(12, .x (.one (.ptr 0 0))), (15, .x (I i)), (17, .x (I w)), (20, .x (I N)), (22, .x (I b)), (23, .x (I (S.pl.length : Int))), (24, .x (I t)), (25, .int .i64 (k : Int))], shK S ms⟩) _ _ (fun e st => e = .exit 2 ∧ ∃ t : Int, BestI S i w N b S.pl.length t ∧ st = ⟨0, envA 198 [(12, .x (.one (.ptr 0 0))), (15, .x (I i)), (17, .x (I w)), (20, .x (I N)), (22, .x (I b)), (24, .x (I t))], shK S ms⟩) ⟨0, -1, by omega, BestI.new S i w N b, rfl, rfl⟩ ?_ ?_ ?_
  · rw [lp]
    refine ⟨[some 0, some 1, some 2, some 3, some 4, some 5], rfl, rfl, ?_, ?_⟩ <;> repeat' (first | exact trivial | exact rfl | exact Iff.rfl | apply And.intro)
  · rintro n _ ⟨k, t, hk, hB, hn, rfl⟩
    by_cases h' : k < S.pl.length
    · have c29 := s29 S ms hS hH
      repeat' ((conv => whnf); first | refine Rng.g ?_ | refine Ob.g ?_ | refine Ob.e ?_ | refine Ob.m ?_ | refine Ob.mk (Nat.le_of_ble_eq_true rfl) ?_ | refine JoinVC.on ?_ | refine Nils.mk (fun h => ?_) ?_ | refine Val.t ?_ | refine Val.d ?_ | refine Mm.mk ?_ | (refine Br.mk (fun h => ?_) (fun h => ?_) <;> first | (exfalso; omega; done) | (exfalso; simp at h; done) | skip))
      conv => whnf
      first | refine CallVC.mk [0, 1, 2, 3, 4, 5] _ _ _ rfl rfl rfl (c29) (fun r m' h' => ?_) | refine CallVC0.on [0, 1, 2, 3, 4, 5] _ _ _ rfl rfl rfl rfl (c29) (fun r m' h' => ?_)
      obtain ⟨ms2, hM2, rfl, rfl⟩ := h'
      conv => whnf
      repeat' ((conv => whnf); first | refine Rng.g ?_ | refine Ob.g ?_ | refine Ob.e ?_ | refine Ob.m ?_ | refine Ob.mk (Nat.le_of_ble_eq_true rfl) ?_ | refine JoinVC.on ?_ | refine Nils.mk (fun h => ?_) ?_ | refine Val.t ?_ | refine Val.d ?_ | refine Mm.mk ?_ | (refine Br.mk (fun h => ?_) (fun h => ?_) <;> first | (exfalso; omega; done) | (exfalso; simp at h; done) | skip))
      by_cases hD : doE S (gA (k : Int) b) = 0
      · have F := gro_f hS hH hr (by omega) (by omega) h' hb hi hE hN hD
        have hT := F.ok
        have hle := F.le
        have c21 := s21e S ms2 hS hM2 (gA (k : Int) b) hD
        have hnoE : ¬ needE (doS S (gA (k : Int) b)) i w = 0 → BestI S i w N b (k + 1) t := fun h => hB.no (fun hg => h hg.2.1)
        have hnoN : ¬ needN (doS S (gA (k : Int) b)) i w = N - 1 → BestI S i w N b (k + 1) t := fun h => hB.no (fun hg => h hg.2.2)
        have hyes : needE (doS S (gA (k : Int) b)) i w = 0 → needN (doS S (gA (k : Int) b)) i w = N - 1 → BestI S i w N b (k + 1) (k : Int) := fun h1 h2 => BestI.yes ⟨hD, h1, h2⟩
        generalize doN S (gA (k : Int) b) = dn at *
        generalize doS S (gA (k : Int) b) = T at *
        have c26 := fun ms => s26 T ms hT i w
        generalize needE T i w = E at *
        generalize needN T i w = M at *
        conv => whnf
        refine CallVC.mk [6, 7, 8, 9, 10, 11] _ _ _ rfl rfl rfl (c21) (fun r m' h' => ?_)
        obtain ⟨ms3, hM3, rfl, rfl⟩ := h'
        conv => whnf
        repeat' ((conv => whnf); first | refine Rng.g ?_ | refine Ob.g ?_ | refine Ob.e ?_ | refine Ob.m ?_ | refine Ob.mk (Nat.le_of_ble_eq_true rfl) ?_ | refine JoinVC.on ?_ | refine Nils.mk (fun h => ?_) ?_ | refine Val.t ?_ | refine Val.d ?_ | refine Mm.mk ?_ | (refine Br.mk (fun h => ?_) (fun h => ?_) <;> first | (exfalso; omega; done) | (exfalso; simp at h; done) | skip))
        conv => whnf
        first | refine CallVC.mk [6, 12, 8, 13, 14, 15] _ _ _ rfl rfl rfl (c26 ms3) (fun r m' h' => ?_) | refine CallVC0.same [6, 12, 8, 13, 14, 15] _ _ _ rfl rfl rfl rfl (c26 ms3) (fun r m' h' => (by obtain ⟨rfl, rfl⟩ := h'; rfl)) (fun r m' h' => ?_) | (refine CallVC0.rows [6, 12, 8, 13, 14, 15] _ _ _ rfl rfl rfl ?_ (c26 ms3) (fun r m' h' => (by obtain ⟨rfl, rfl⟩ := h'; rfl)) (fun r m' h' => ?_); · (repeat' ((conv => whnf); first | exact trivial | exact rfl | exact Nat.le_refl _ | apply And.intro)))
        obtain ⟨rfl, rfl⟩ := h'
        conv => whnf
        by_cases hE1 : E = 0
        · have hM1 := hle hE1
          by_cases hM2' : M = N - 1
          · have hB' := hyes hE1 hM2'
            repeat' ((conv => whnf); first | refine Rng.g ?_ | refine Ob.g ?_ | refine Ob.e ?_ | refine Ob.m ?_ | refine Ob.mk (Nat.le_of_ble_eq_true rfl) ?_ | refine JoinVC.on ?_ | refine Nils.mk (fun h => ?_) ?_ | refine Val.t ?_ | refine Val.d ?_ | refine Mm.mk ?_ | (refine Br.mk (fun h => ?_) (fun h => ?_) <;> first | (exfalso; omega; done) | (exfalso; simp at h; done) | skip))
            refine Back.mk (S.pl.length - (k + 1)) _ (by omega) ⟨k + 1, (k : Int), by omega, hB', rfl, rfl⟩ ?_
            refine ⟨[some 0, some 1, some 2, some 3, some 4, some 5], rfl, rfl, ?_, ?_⟩ <;> repeat' (first | exact trivial | exact rfl | exact Iff.rfl | apply And.intro)
          · have hB' := hnoN hM2'
            repeat' ((conv => whnf); first | refine Rng.g ?_ | refine Ob.g ?_ | refine Ob.e ?_ | refine Ob.m ?_ | refine Ob.mk (Nat.le_of_ble_eq_true rfl) ?_ | refine JoinVC.on ?_ | refine Nils.mk (fun h => ?_) ?_ | refine Val.t ?_ | refine Val.d ?_ | refine Mm.mk ?_ | (refine Br.mk (fun h => ?_) (fun h => ?_) <;> first | (exfalso; omega; done) | (exfalso; simp at h; done) | skip))
            refine Back.mk (S.pl.length - (k + 1)) _ (by omega) ⟨k + 1, t, by omega, hB', rfl, rfl⟩ ?_
            refine ⟨[some 0, some 1, some 2, some 3, some 4, some 5], rfl, rfl, ?_, ?_⟩ <;> repeat' (first | exact trivial | exact rfl | exact Iff.rfl | apply And.intro)
        · have hB' := hnoE hE1
          repeat' ((conv => whnf); first | refine Rng.g ?_ | refine Ob.g ?_ | refine Ob.e ?_ | refine Ob.m ?_ | refine Ob.mk (Nat.le_of_ble_eq_true rfl) ?_ | refine JoinVC.on ?_ | refine Nils.mk (fun h => ?_) ?_ | refine Val.t ?_ | refine Val.d ?_ | refine Mm.mk ?_ | (refine Br.mk (fun h => ?_) (fun h => ?_) <;> first | (exfalso; omega; done) | (exfalso; simp at h; done) | skip))
          refine Back.mk (S.pl.length - (k + 1)) _ (by omega) ⟨k + 1, t, by omega, hB', rfl, rfl⟩ ?_
          refine ⟨[some 0, some 1, some 2, some 3, some 4, some 5], rfl, rfl, ?_, ?_⟩ <;> repeat' (first | exact trivial | exact rfl | exact Iff.rfl | apply And.intro)
      · have c21 := s21 S ms2 hS hM2 (gA (k : Int) b)
        have hB' : BestI S i w N b (k + 1) t := hB.no (fun hg => hD hg.1)
        unfold DoR at c21
        generalize doE S (gA (k : Int) b) = D at *
        generalize doN S (gA (k : Int) b) = dn at *
        conv => whnf
        refine CallVC.mk [6, 7, 8, 9, 10, 11] _ _ _ rfl rfl rfl (c21) (fun r m' h' => ?_)
        obtain ⟨ms3, hM3, rfl, rfl⟩ := h'
        conv => whnf
        repeat' ((conv => whnf); first | refine Rng.g ?_ | refine Ob.g ?_ | refine Ob.e ?_ | refine Ob.m ?_ | refine Ob.mk (Nat.le_of_ble_eq_true rfl) ?_ | refine JoinVC.on ?_ | refine Nils.mk (fun h => ?_) ?_ | refine Val.t ?_ | refine Val.d ?_ | refine Mm.mk ?_ | (refine Br.mk (fun h => ?_) (fun h => ?_) <;> first | (exfalso; omega; done) | (exfalso; simp at h; done) | skip))
        refine Back.mk (S.pl.length - (k + 1)) _ (by omega) ⟨k + 1, t, by omega, hB', rfl, rfl⟩ ?_
        refine ⟨[some 0, some 1, some 2, some 3, some 4, some 5], rfl, rfl, ?_, ?_⟩ <;> repeat' (first | exact trivial | exact rfl | exact Iff.rfl | apply And.intro)
    · obtain rfl : k = S.pl.length := by omega
      repeat' ((conv => whnf); first | refine Rng.g ?_ | refine Ob.g ?_ | refine Ob.e ?_ | refine Ob.m ?_ | refine Ob.mk (Nat.le_of_ble_eq_true rfl) ?_ | refine JoinVC.on ?_ | refine Nils.mk (fun h => ?_) ?_ | refine Val.t ?_ | refine Val.d ?_ | refine Mm.mk ?_ | (refine Br.mk (fun h => ?_) (fun h => ?_) <;> first | (exfalso; omega; done) | (exfalso; simp at h; done) | skip))
      refine Meet.mk _ ⟨rfl, t, hB, rfl⟩ ?_
      refine ⟨[some 0, some 1, some 2, some 3, some 4, some 5], rfl, rfl, ?_, ?_⟩ <;> repeat' (first | exact trivial | exact rfl | exact Iff.rfl | apply And.intro)
  rintro _ _ ⟨rfl, t, hB, rfl⟩
  have ht0 := best_ex hS hH hr (by omega) (by omega) hb hwB hi hE hN hpos hB
  obtain ⟨q, rfl, hq, hD, hE', hN'⟩ := hB.hi ht0
  have F := gro_f hS hH hr (by omega) (by omega) hq hb hi hE hN hD
  have c21 := s21e S ms hS hM (gA (q : Int) b) hD
  repeat' ((conv => whnf); first | refine Rng.g ?_ | refine Ob.g ?_ | refine Ob.e ?_ | refine Ob.m ?_ | refine Ob.mk (Nat.le_of_ble_eq_true rfl) ?_ | refine JoinVC.on ?_ | refine Nils.mk (fun h => ?_) ?_ | refine Val.t ?_ | refine Val.d ?_ | refine Mm.mk ?_ | (refine Br.mk (fun h => ?_) (fun h => ?_) <;> first | (exfalso; omega; done) | (exfalso; simp at h; done) | skip))
  conv => whnf
  first | refine CallVC.mk [0, 1, 2, 3, 4, 5] _ _ _ rfl rfl rfl (c21) (fun r m' h' => ?_) | refine CallVC0.same [0, 1, 2, 3, 4, 5] _ _ _ rfl rfl rfl rfl (c21) (fun r m' h' => (by obtain ⟨ms4, hM4, rfl, rfl⟩ := h'; rfl)) (fun r m' h' => ?_) | (refine CallVC0.rows [0, 1, 2, 3, 4, 5] _ _ _ rfl rfl rfl ?_ (c21) (fun r m' h' => (by obtain ⟨ms4, hM4, rfl, rfl⟩ := h'; rfl)) (fun r m' h' => ?_); · (repeat' ((conv => whnf); first | exact trivial | exact rfl | exact Nat.le_refl _ | apply And.intro)))
  obtain ⟨ms4, hM4, rfl, rfl⟩ := h'
  conv => whnf
  repeat' ((conv => whnf); first | refine Rng.g ?_ | refine Ob.g ?_ | refine Ob.e ?_ | refine Ob.m ?_ | refine Ob.mk (Nat.le_of_ble_eq_true rfl) ?_ | refine JoinVC.on ?_ | refine Nils.mk (fun h => ?_) ?_ | refine Val.t ?_ | refine Val.d ?_ | refine Mm.mk ?_ | (refine Br.mk (fun h => ?_) (fun h => ?_) <;> first | (exfalso; omega; done) | (exfalso; simp at h; done) | skip))
  refine Back.mk (N - 1).toNat _ (by omega) ⟨doS S (gA (q : Int) b), ms4, b, N - 1, F.ok, F.hist, hM4, F.r.trans hr, F.inp, hE', hN', by rw [F.tk]; exact hb, by rw [F.len]; omega, by rw [F.ac]; omega, by omega, rfl, rfl⟩ ?_
  refine ⟨[some 0, some 6, some 2, some 7, some 8, some 9], rfl, rfl, ?_, ?_⟩ <;> repeat' (first | exact trivial | exact rfl | exact Iff.rfl | apply And.intro)
theorem s6 (u0 u1 : Int) (l : List Act2) (u3 u4 : Int) (h0 : inR .u8 u0) (h1 : inR .u8 u1) (h3 : inR .u8 u3) (h4 : inR .u8 u4) : PSpec Try.prog 6 [.one (.int .u8 u0), .one (.int .u8 u1), .one (.lst true KAc (acA l)), .one (.int .u8 u3), .one (.int .u8 u4)] (xP True) := by
  simp only [inR] at h0 h1 h3 h4
  by_cases hl : 30 < l.length
  · exact s6_any u0 u1 u3 u4 l hl
  · exact s6_ok u0 u1 u3 u4 (by omega) (by omega) (by omega) (by omega) l (by omega)
end Go.Sx

namespace Go.Sx
open Go Go.Proofs
set_option maxRecDepth 10000
/-! ### Rows read as acts -/
theorem wfr_of : ∀ {ks : List CK} {r : List Cell}, r.length = ks.length → (∀ (j : Nat) k c, ks[j]? = some k → r[j]? = some c → Wf k c) → WfR ks r
  | [], [], _, _ => .nil
  | [], _ :: _, h, _ => by simp at h
  | _ :: _, [], h, _ => by simp at h
  | k :: ks, c :: cs, h, hw => .cons (hw 0 k c rfl rfl) (wfr_of (by simpa using h) fun j k' c' h1 h2 => hw (j + 1) k' c' (by simpa using h1) (by simpa using h2))
theorem wf_map {α : Type} {ks : List CK} {row : α → List Cell} {p : α → Prop} (hrow : ∀ r, WfR ks r → ∃ x, r = row x ∧ p x) {a : Arr} (h : Wf (.sl ks) (.sl a)) : ∃ l : List α, a = l.map row ∧ ∀ x ∈ l, p x := by
  cases h with
  | sl hl hr hw =>
    clear hl
    induction a with
    | nil => exact ⟨[], rfl, fun x hx => by simp at hx⟩
    | cons r a ih =>
      obtain ⟨l, rfl, h2⟩ := ih (fun r h => hr r (List.mem_cons_of_mem _ h)) (fun r h => hw r (List.mem_cons_of_mem _ h))
      obtain ⟨x, rfl, h3⟩ := hrow r (wfr_of (hr r (List.mem_cons_self ..)) (hw r (List.mem_cons_self ..)))
      exact ⟨x :: l, rfl, fun y hy => by rcases List.mem_cons.1 hy with rfl | hy; (· exact h3); exact h2 y hy⟩
theorem wf_acts {a : Arr} (h : Wf (.sl KAc) (.sl a)) : ∃ l : List Act2, a = acA l := by
  obtain ⟨l, h1, _⟩ := wf_map (row := acC) (p := fun _ => True) (fun r hr => by
    obtain ⟨c0, _, rfl, g0, h1⟩ := hr.inv
    obtain ⟨n0, rfl, _⟩ := g0.int_inv
    obtain ⟨c1, _, rfl, g1, h2⟩ := h1.inv
    obtain ⟨n1, rfl, _⟩ := g1.int_inv
    obtain ⟨c2, _, rfl, g2, h3⟩ := h2.inv
    obtain ⟨n2, rfl, _⟩ := g2.int_inv
    obtain ⟨c3, _, rfl, g3, h4⟩ := h3.inv
    obtain ⟨n3, rfl, _⟩ := g3.int_inv
    obtain ⟨c4, _, rfl, g4, h5⟩ := h4.inv
    obtain ⟨n4, rfl, _⟩ := g4.int_inv
    obtain ⟨c5, _, rfl, g5, h6⟩ := h5.inv
    obtain ⟨n5, rfl, _⟩ := g5.int_inv
    obtain ⟨c6, _, rfl, g6, h7⟩ := h6.inv
    obtain ⟨n6, rfl, _⟩ := g6.int_inv
    obtain ⟨c7, _, rfl, g7, h8⟩ := h7.inv
    obtain ⟨n7, rfl, _⟩ := g7.int_inv
    obtain ⟨c8, _, rfl, g8, h9⟩ := h8.inv
    obtain ⟨n8, rfl, _⟩ := g8.int_inv
    obtain ⟨c9, _, rfl, g9, h10⟩ := h9.inv
    obtain ⟨n9, rfl, _⟩ := g9.int_inv
    obtain ⟨c10, _, rfl, g10, h11⟩ := h10.inv
    obtain ⟨n10, rfl, _⟩ := g10.int_inv
    obtain ⟨c11, _, rfl, g11, h12⟩ := h11.inv
    obtain ⟨n11, rfl, _⟩ := g11.int_inv
    obtain ⟨c12, _, rfl, g12, h13⟩ := h12.inv
    obtain ⟨n12, rfl, _⟩ := g12.int_inv
    cases h13.nil_inv
    exact ⟨⟨n0, n1, n2, n3, n4, n5, n6, n7, n8, n9, n10, n11, n12⟩, rfl, trivial⟩) h
  exact ⟨l, h1⟩
end Go.Sx
