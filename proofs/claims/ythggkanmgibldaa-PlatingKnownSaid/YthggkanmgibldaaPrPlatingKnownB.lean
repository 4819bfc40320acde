import Derived.Test.YthggkanmgibldaaPrPlatingKnownA
import Derived.Test.YthggkanmgibldaaXc
namespace Go.Sx
open Go Go.Proofs
set_option maxRecDepth 10000
set_option maxHeartbeats 8000000
/-! ### Replaying -/
/-- The shop after the first acts. -/
def repS (S : Sho) (l : List Act2) : Nat → Sho
  | 0 => S
  | i + 1 => doS (repS S l i) (l.getD i ac0)
theorem ShOK.repS {S : Sho} (hS : ShOK S) (l : List Act2) : ∀ i, ShOK (Go.Sx.repS S l i)
  | 0 => hS
  | i + 1 => ShOK.doS (ShOK.repS hS l i) _
def goodTo (S : Sho) (l : List Act2) (i : Nat) : Prop := ∀ j, j < i → doE (repS S l j) (l.getD j ac0) = 0
theorem goodTo.succ {S : Sho} {l : List Act2} {i : Nat} (h : goodTo S l i) (he : doE (repS S l i) (l.getD i ac0) = 0) : goodTo S l (i + 1) := fun j hj => by
  rcases Nat.lt_succ_iff_lt_or_eq.1 hj with h1 | rfl
  · exact h j h1
  · exact he
inductive RepR (r : Rcp) (l : List Act2) (v : AV) (m' : List (Option Blk)) : Prop
  | bad (h : ¬ RcpOK r) (hv : v = .tup [.one .nilp, I 0, I 2]) (hm : m' = [])
  | err (h : RcpOK r) (i : Nat) (hi : i < l.length) (hg : goodTo (shop0 r) l i) (e : Int) (he : doE (repS (shop0 r) l i) (l.getD i ac0) = e) (h0 : e ≠ 0) (hv : v = .tup [.one .nilp, I (i : Int), I e]) (hm : m' = [])
  | ok (h : RcpOK r) (hg : goodTo (shop0 r) l l.length) (ms : List MS) (hM : MsOK ms (repS (shop0 r) l l.length).be) (hv : v = .tup [.one (.ptr 0 0), I (l.length : Int), I 0]) (hm : m' = shK (repS (shop0 r) l l.length) ms)
theorem doS_r (S : Sho) (a : Act2) : (doS S a).r = S.r := by
  unfold doS
  split
  · unfold actS
    (repeat' split) <;> rfl
  · rfl
section
variable (l : List Act2) (i : Nat)
theorem ac_0 : rI (acA l) i 0 = (l.getD i ac0).kd := map_rI acC ac0 l i 0 rfl
theorem ac_1 : rI (acA l) i ((0 + 1)) = (l.getD i ac0).cut := map_rI acC ac0 l i 1 rfl
theorem ac_2 : rI (acA l) i ((0 + 1 + 1)) = (l.getD i ac0).area := map_rI acC ac0 l i 2 rfl
theorem ac_3 : rI (acA l) i ((0 + 1 + 1 + 1)) = (l.getD i ac0).stock := map_rI acC ac0 l i 3 rfl
theorem ac_4 : rI (acA l) i ((0 + 1 + 1 + 1 + 1)) = (l.getD i ac0).yd := map_rI acC ac0 l i 4 rfl
theorem ac_5 : rI (acA l) i ((0 + 1 + 1 + 1 + 1 + 1)) = (l.getD i ac0).plate := map_rI acC ac0 l i 5 rfl
theorem ac_6 : rI (acA l) i ((0 + 1 + 1 + 1 + 1 + 1 + 1)) = (l.getD i ac0).bath := map_rI acC ac0 l i 6 rfl
theorem ac_7 : rI (acA l) i ((0 + 1 + 1 + 1 + 1 + 1 + 1 + 1)) = (l.getD i ac0).s0 := map_rI acC ac0 l i 7 rfl
theorem ac_8 : rI (acA l) i ((0 + 1 + 1 + 1 + 1 + 1 + 1 + 1 + 1)) = (l.getD i ac0).s1 := map_rI acC ac0 l i 8 rfl
theorem ac_9 : rI (acA l) i ((0 + 1 + 1 + 1 + 1 + 1 + 1 + 1 + 1 + 1)) = (l.getD i ac0).cur := map_rI acC ac0 l i 9 rfl
theorem ac_10 : rI (acA l) i ((0 + 1 + 1 + 1 + 1 + 1 + 1 + 1 + 1 + 1 + 1)) = (l.getD i ac0).sec := map_rI acC ac0 l i 10 rfl
theorem ac_11 : rI (acA l) i ((0 + 1 + 1 + 1 + 1 + 1 + 1 + 1 + 1 + 1 + 1 + 1)) = (l.getD i ac0).place := map_rI acC ac0 l i 11 rfl
theorem ac_12 : rI (acA l) i ((0 + 1 + 1 + 1 + 1 + 1 + 1 + 1 + 1 + 1 + 1 + 1 + 1)) = (l.getD i ac0).flaw := map_rI acC ac0 l i 12 rfl
end
/-- What is read at once of an act in a list. -/
@[reducible] def acX (A : Arr) (i : Nat) : XV := .agg [i6 (rI A i 0), i6 (rI A i ((0 + 1))), i6 (rI A i ((0 + 1 + 1))), i6 (rI A i ((0 + 1 + 1 + 1))), i6 (rI A i ((0 + 1 + 1 + 1 + 1))), i6 (rI A i ((0 + 1 + 1 + 1 + 1 + 1))), i6 (rI A i ((0 + 1 + 1 + 1 + 1 + 1 + 1))), i6 (rI A i ((0 + 1 + 1 + 1 + 1 + 1 + 1 + 1))), i6 (rI A i ((0 + 1 + 1 + 1 + 1 + 1 + 1 + 1 + 1))), i6 (rI A i ((0 + 1 + 1 + 1 + 1 + 1 + 1 + 1 + 1 + 1))), i6 (rI A i ((0 + 1 + 1 + 1 + 1 + 1 + 1 + 1 + 1 + 1 + 1))), i6 (rI A i ((0 + 1 + 1 + 1 + 1 + 1 + 1 + 1 + 1 + 1 + 1 + 1))), i6 (rI A i ((0 + 1 + 1 + 1 + 1 + 1 + 1 + 1 + 1 + 1 + 1 + 1 + 1)))]
theorem acX_eq (l : List Act2) (i : Nat) : acX (acA l) i = (l.getD i ac0).x := by
  unfold acX
  rw [ac_0, ac_1, ac_2, ac_3, ac_4, ac_5, ac_6, ac_7, ac_8, ac_9, ac_10, ac_11, ac_12]
theorem s34_no (r : Rcp) (l : List Act2) (hr : ¬ RcpOK r) : HSpec Try.prog 34 [r.x, .one (.lst true KAc (acA l))] [] (RepR r l) := by
  have c20 := s20_no r hr
  refine spec_of pMix (O := []) Try.func34 (c := bodyOf Try.f34) rfl (by kernel_rfl) (by kernel_rfl) Try.ntmps34 (res := [.tmp 4, .tmp 5, .tmp 6]) (by kernel_rfl) ?_
  repeat' ((conv => whnf); first | refine Rng.g ?_ | refine Ob.g ?_ | refine Ob.e ?_ | refine Ob.m ?_ | refine Ob.mk (Nat.le_of_ble_eq_true rfl) ?_ | refine JoinVC.on ?_ | refine Nils.mk (fun h => ?_) ?_ | refine Val.t ?_ | refine Val.d ?_ | refine Mm.mk ?_ | (refine Br.mk (fun h => ?_) (fun h => ?_) <;> first | (exfalso; omega; done) | (exfalso; simp at h; done) | skip))
  conv => whnf
  first | refine CallVC.mk [] _ _ _ rfl rfl rfl (c20) (fun r m' h' => ?_) | refine CallVC0.same [] _ _ _ rfl rfl rfl rfl (c20) (fun r m' h' => (by obtain ⟨rfl, rfl⟩ := h'; rfl)) (fun r m' h' => ?_) | (refine CallVC0.rows [] _ _ _ rfl rfl rfl ?_ (c20) (fun r m' h' => (by obtain ⟨rfl, rfl⟩ := h'; rfl)) (fun r m' h' => ?_); · (repeat' ((conv => whnf); first | exact trivial | exact rfl | exact Nat.le_refl _ | apply And.intro)))
  obtain ⟨rfl, rfl⟩ := h'
  conv => whnf
  repeat' ((conv => whnf); first | refine Rng.g ?_ | refine Ob.g ?_ | refine Ob.e ?_ | refine Ob.m ?_ | refine Ob.mk (Nat.le_of_ble_eq_true rfl) ?_ | refine JoinVC.on ?_ | refine Nils.mk (fun h => ?_) ?_ | refine Val.t ?_ | refine Val.d ?_ | refine Mm.mk ?_ | (refine Br.mk (fun h => ?_) (fun h => ?_) <;> first | (exfalso; omega; done) | (exfalso; simp at h; done) | skip))
  repeat refine Mm.mk ?_
  conv => whnf
  refine EndVC.mk _ rfl _ _ (.bad hr rfl rfl) ?_
  refine ⟨[], rfl, rfl, ?_, ?_⟩ <;> repeat' (first | exact trivial | exact rfl | exact Iff.rfl | apply And.intro)
theorem s34_ok (r : Rcp) (l : List Act2) (hr : RcpOK r) (hl : l.length ≤ 1000000) : HSpec Try.prog 34 [r.x, .one (.lst true KAc (acA l))] [] (RepR r l) := by
  have c20 := s20 r hr
  have ll := acA_len l
  have hS := ShOK.repS (ShOK.new hr) l
  refine spec_of pMix (O := []) Try.func34 (c := bodyOf Try.f34) rfl (by kernel_rfl) (by kernel_rfl) Try.ntmps34 (res := [.tmp 4, .tmp 5, .tmp 6]) (by kernel_rfl) ?_
  repeat' ((conv => whnf); first | refine Rng.g ?_ | refine Ob.g ?_ | refine Ob.e ?_ | refine Ob.m ?_ | refine Ob.mk (Nat.le_of_ble_eq_true rfl) ?_ | refine JoinVC.on ?_ | refine Nils.mk (fun h => ?_) ?_ | refine Val.t ?_ | refine Val.d ?_ | refine Mm.mk ?_ | (refine Br.mk (fun h => ?_) (fun h => ?_) <;> first | (exfalso; omega; done) | (exfalso; simp at h; done) | skip))
  conv => whnf
  first | refine CallVC.mk [] _ _ _ rfl rfl rfl (c20) (fun r m' h' => ?_) | refine CallVC0.same [] _ _ _ rfl rfl rfl rfl (c20) (fun r m' h' => (by obtain ⟨rfl, rfl⟩ := h'; rfl)) (fun r m' h' => ?_) | (refine CallVC0.rows [] _ _ _ rfl rfl rfl ?_ (c20) (fun r m' h' => (by obtain ⟨rfl, rfl⟩ := h'; rfl)) (fun r m' h' => ?_); · (repeat' ((conv => whnf); first | exact trivial | exact rfl | exact Nat.le_refl _ | apply And.intro)))
  obtain ⟨rfl, rfl⟩ := h'
  conv => whnf
  repeat' ((conv => whnf); first | refine Rng.g ?_ | refine Ob.g ?_ | refine Ob.e ?_ | refine Ob.m ?_ | refine Ob.mk (Nat.le_of_ble_eq_true rfl) ?_ | refine JoinVC.on ?_ | refine Nils.mk (fun h => ?_) ?_ | refine Val.t ?_ | refine Val.d ?_ | refine Mm.mk ?_ | (refine Br.mk (fun h => ?_) (fun h => ?_) <;> first | (exfalso; omega; done) | (exfalso; simp at h; done) | skip))
  refine LoopVC.mk (fun n st => ∃ (i : Nat) (ms : List MS), i ≤ l.length ∧ goodTo (shop0 r) l i ∧ MsOK ms (repS (shop0 r) l i).be ∧ n = l.length - i ∧ st = ⟨0, envA 42 [(1, .x (.one (.lst true KAc (acA l)))), (7, .x (.one (.ptr 0 0))), (21, .x (.one (.lst true KAc (acA l)))), (22, .int .i64 (l.length : Int)), (23, .int .i64 (i : Int))], shK (repS (shop0 r) l i) ms⟩) _ _ ⟨0, [], Nat.zero_le _, fun j hj => absurd hj (Nat.not_lt_zero j), MsOK.new, rfl, rfl⟩ ?_ ?_
  · refine ⟨[some 1, some 2, some 3, some 4, some 5, some 6], rfl, rfl, ?_, ?_⟩ <;> repeat' (first | exact trivial | exact rfl | exact Iff.rfl | apply And.intro)
    all_goals first
      | exact congrArg Int.ofNat ll
      | rfl
  rintro n _ ⟨i, ms, hi, hg, hM, hn, rfl⟩
  by_cases h' : i < l.length
  · have c21 : HSpec Try.prog 21 [.one (.ptr 0 0), acX (acA l) (i : Int).toNat] (shM (repS (shop0 r) l i) ms) (DoR (repS (shop0 r) l i) (l.getD i ac0)) := by
      rw [Int.toNat_natCast, acX_eq]
      exact s21 _ ms (hS i) hM _
    repeat' ((conv => whnf); first | refine Rng.g ?_ | refine Ob.g ?_ | refine Ob.e ?_ | refine Ob.m ?_ | refine Ob.mk (Nat.le_of_ble_eq_true rfl) ?_ | refine JoinVC.on ?_ | refine Nils.mk (fun h => ?_) ?_ | refine Val.t ?_ | refine Val.d ?_ | refine Mm.mk ?_ | (refine Br.mk (fun h => ?_) (fun h => ?_) <;> first | (exfalso; omega; done) | (exfalso; simp at h; done) | skip))
    conv => whnf
    first | refine CallVC.mk [0, 1, 2, 3, 4, 5] _ _ _ rfl rfl rfl (c21) (fun r m' h' => ?_) | refine CallVC0.same [0, 1, 2, 3, 4, 5] _ _ _ rfl rfl rfl rfl (c21) (fun r m' h' => (by obtain ⟨ms', hM', rfl, rfl⟩ := h'; rfl)) (fun r m' h' => ?_) | (refine CallVC0.rows [0, 1, 2, 3, 4, 5] _ _ _ rfl rfl rfl ?_ (c21) (fun r m' h' => (by obtain ⟨ms', hM', rfl, rfl⟩ := h'; rfl)) (fun r m' h' => ?_); · (repeat' ((conv => whnf); first | exact trivial | exact rfl | exact Nat.le_refl _ | apply And.intro)))
    obtain ⟨ms', hM', rfl, rfl⟩ := h'
    conv => whnf
    repeat' ((conv => whnf); first | refine Rng.g ?_ | refine Ob.g ?_ | refine Ob.e ?_ | refine Ob.m ?_ | refine Ob.mk (Nat.le_of_ble_eq_true rfl) ?_ | refine JoinVC.on ?_ | refine Nils.mk (fun h => ?_) ?_ | refine Val.t ?_ | refine Val.d ?_ | refine Mm.mk ?_ | (refine Br.mk (fun h => ?_) (fun h => ?_) <;> first | (exfalso; omega; done) | (exfalso; simp at h; done) | skip))
    · repeat refine Mm.mk ?_
      conv => whnf
      refine EndVC.mk _ rfl _ _ (.err hr i h' hg _ rfl ‹_› rfl rfl) ?_
      refine ⟨[], rfl, rfl, ?_, ?_⟩ <;> repeat' (first | exact trivial | exact rfl | exact Iff.rfl | apply And.intro)
    · have he := Classical.not_not.1 ‹¬¬doE (repS (shop0 r) l i) (l.getD i ac0) = 0›
      refine Back.mk (l.length - (i + 1)) _ (by omega) ⟨i + 1, ms', by omega, hg.succ he, hM', rfl, rfl⟩ ?_
      refine ⟨[some 0, some 7, some 2, some 8, some 9, some 10], rfl, rfl, ?_, ?_⟩ <;> repeat' (first | exact trivial | exact rfl | exact Iff.rfl | apply And.intro)
  · obtain rfl : i = l.length := by omega
    repeat' ((conv => whnf); first | refine Rng.g ?_ | refine Ob.g ?_ | refine Ob.e ?_ | refine Ob.m ?_ | refine Ob.mk (Nat.le_of_ble_eq_true rfl) ?_ | refine JoinVC.on ?_ | refine Nils.mk (fun h => ?_) ?_ | refine Val.t ?_ | refine Val.d ?_ | refine Mm.mk ?_ | (refine Br.mk (fun h => ?_) (fun h => ?_) <;> first | (exfalso; omega; done) | (exfalso; simp at h; done) | skip))
    repeat refine Mm.mk ?_
    conv => whnf
    refine EndVC.mk _ rfl _ _ (.ok hr hg ms hM rfl rfl) ?_
    refine ⟨[some 0, some 1, some 2, some 3, some 4, some 5], rfl, rfl, ?_, ?_⟩ <;> repeat' (first | exact trivial | exact rfl | exact Iff.rfl | apply And.intro)
    exact congrArg Int.ofNat ll
theorem s34 (r : Rcp) (l : List Act2) (hl : l.length ≤ 1000000) : HSpec Try.prog 34 [r.x, .one (.lst true KAc (acA l))] [] (RepR r l) := by
  by_cases h : RcpOK r
  · exact s34_ok r l h hl
  · exact s34_no r l h
/-! ### Copies -/
structure Hist (S : Sho) : Prop where
  g : goodTo (shop0 S.r) S.ac S.ac.length
  e : repS (shop0 S.r) S.ac S.ac.length = S
theorem Hist.new (r : Rcp) : Hist (shop0 r) := ⟨fun j hj => absurd hj (Nat.not_lt_zero j), rfl⟩
theorem repS_app (S : Sho) (l m : List Act2) : ∀ i, i ≤ l.length → repS S (l ++ m) i = repS S l i
  | 0, _ => rfl
  | i + 1, hi => by
    unfold repS
    rw [repS_app S l m i (by omega), List.getD_eq_getElem?_getD, List.getD_eq_getElem?_getD, List.getElem?_append_left (by omega)]
theorem Hist.doS {S : Sho} (h : Hist S) (a : Act2) : Hist (Go.Sx.doS S a) := by
  by_cases h0 : doE S a = 0
  · have hr := doS_r S a
    have hac : (Go.Sx.doS S a).ac = S.ac ++ [a] := by unfold Go.Sx.doS; rw [if_pos h0]
    have hl : (S.ac ++ [a]).getD S.ac.length ac0 = a := by rw [getD_app, if_neg (by omega), if_pos rfl]
    have hrep : repS (shop0 S.r) (S.ac ++ [a]) S.ac.length = S := (repS_app _ _ _ _ (Nat.le_refl _)).trans h.e
    constructor
    · rw [hr, hac, List.length_append, List.length_singleton]
      intro j hj
      rcases Nat.lt_succ_iff_lt_or_eq.1 hj with h1 | rfl
      · rw [repS_app _ _ _ _ (by omega), getD_app, if_pos h1]
        exact h.g j h1
      · rw [hrep, hl]
        exact h0
    · rw [hr, hac, List.length_append, List.length_singleton]
      unfold repS
      rw [hrep, hl]
  · have e : Go.Sx.doS S a = S := by unfold Go.Sx.doS; rw [if_neg h0]
    rw [e]
    exact h
theorem Hist.repS {S : Sho} (hS : Hist S) (l : List Act2) : ∀ i, Hist (Go.Sx.repS S l i)
  | 0 => hS
  | i + 1 => Hist.doS (Hist.repS hS l i) _
end Go.Sx

namespace Go.Sx
open Go Go.Proofs
set_option maxRecDepth 10000
set_option maxHeartbeats 8000000
/-! ### The example -/
@[reducible] def exR : Rcp := ⟨0, 100, 100, 200, 0, 900, 900, 900, 10, 50, 500, 2, 3⟩
@[reducible] def groA (i b : Int) : Act2 := ⟨3, 0, 0, 0, 0, i, b, 50, 1, 500, 1, 0, 0⟩
theorem s35 : PSpec Try.prog 35 [] (.x exR.x) := by
  refine spec_of pMix (O := []) Try.func35 (c := bodyOf Try.f35) rfl (by kernel_rfl) (by kernel_rfl) Try.ntmps35 (res := [.cell 0 24]) (by kernel_rfl) ?_
  repeat' ((conv => whnf); first | refine Rng.g ?_ | refine Ob.g ?_ | refine Ob.e ?_ | refine Ob.m ?_ | refine Ob.mk (Nat.le_of_ble_eq_true rfl) ?_ | refine JoinVC.on ?_ | refine Nils.mk (fun h => ?_) ?_ | refine Val.t ?_ | refine Val.d ?_ | refine Mm.mk ?_ | (refine Br.mk (fun h => ?_) (fun h => ?_) <;> first | (exfalso; omega; done) | (exfalso; simp at h; done) | skip))
  repeat refine Mm.mk ?_
  refine EndVC.mk _ rfl _ _ ⟨rfl, rfl⟩ ?_
  refine ⟨[], rfl, rfl, ?_, ?_⟩ <;> repeat' (first | exact trivial | exact rfl | exact Iff.rfl | apply And.intro)
theorem s37 (i b : Int) : PSpec Try.prog 37 [I i, I b] (.x (groA i b).x) := by
  refine spec_of pMix (O := []) Try.func37 (c := bodyOf Try.f37) rfl (by kernel_rfl) (by kernel_rfl) Try.ntmps37 (res := [.cell 4 43]) (by kernel_rfl) ?_
  repeat' ((conv => whnf); first | refine Rng.g ?_ | refine Ob.g ?_ | refine Ob.e ?_ | refine Ob.m ?_ | refine Ob.mk (Nat.le_of_ble_eq_true rfl) ?_ | refine JoinVC.on ?_ | refine Nils.mk (fun h => ?_) ?_ | refine Val.t ?_ | refine Val.d ?_ | refine Mm.mk ?_ | (refine Br.mk (fun h => ?_) (fun h => ?_) <;> first | (exfalso; omega; done) | (exfalso; simp at h; done) | skip))
  repeat refine Mm.mk ?_
  refine EndVC.mk _ rfl _ _ ⟨rfl, rfl⟩ ?_
  refine ⟨[], rfl, rfl, ?_, ?_⟩ <;> repeat' (first | exact trivial | exact rfl | exact Iff.rfl | apply And.intro)
@[reducible] def exA : List Act2 := [⟨1, 7, 1000, 0, 0, 0, 0, 0, 0, 0, 0, 0, 0⟩, ⟨2, 0, 0, 2000, 500, 0, 0, 0, 0, 0, 0, 0, 0⟩, groA 0 0, ⟨4, 0, 0, 0, 0, 1, 0, 0, 0, 0, 0, 9, 0⟩, groA 1 0, groA 2 0, ⟨5, 0, 0, 0, 0, 2, 0, 0, 0, 0, 0, 0, 0⟩, groA 2 0]
@[reducible] def exS0 : Sho := ⟨exR, [], [], [], [], []⟩
@[reducible] def exS1 : Sho := ⟨exR, [⟨0, -1, 7, 1000, 0, 0, false⟩], [[]], [], [], [⟨1, 7, 1000, 0, 0, 0, 0, 0, 0, 0, 0, 0, 0⟩]⟩
@[reducible] def exS2 : Sho := ⟨exR, [⟨0, -1, 7, 1000, 0, 0, false⟩], [[]], [⟨2000, 500, 0, 0⟩], [], [⟨1, 7, 1000, 0, 0, 0, 0, 0, 0, 0, 0, 0, 0⟩, ⟨2, 0, 0, 2000, 500, 0, 0, 0, 0, 0, 0, 0, 0⟩]⟩
@[reducible] def exS3 : Sho := ⟨exR, [⟨0, -1, 7, 1000, 0, 1, true⟩, ⟨1, 0, 7, 1000, 275, 0, false⟩], [[], []], [⟨1725, 500, 550, 275⟩], [], [⟨1, 7, 1000, 0, 0, 0, 0, 0, 0, 0, 0, 0, 0⟩, ⟨2, 0, 0, 2000, 500, 0, 0, 0, 0, 0, 0, 0, 0⟩, groA 0 0]⟩
@[reducible] def exS4 : Sho := ⟨exR, [⟨0, -1, 7, 1000, 0, 1, true⟩, ⟨1, 0, 7, 1000, 275, 0, false⟩], [[], [0]], [⟨1725, 500, 550, 275⟩], [(1, 9)], [⟨1, 7, 1000, 0, 0, 0, 0, 0, 0, 0, 0, 0, 0⟩, ⟨2, 0, 0, 2000, 500, 0, 0, 0, 0, 0, 0, 0, 0⟩, groA 0 0, ⟨4, 0, 0, 0, 0, 1, 0, 0, 0, 0, 0, 9, 0⟩]⟩
@[reducible] def exS5 : Sho := ⟨exR, [⟨0, -1, 7, 1000, 0, 1, true⟩, ⟨1, 0, 7, 1000, 275, 1, false⟩, ⟨2, 1, 7, 1000, 275, 0, false⟩], [[], [0], [0]], [⟨1450, 500, 1100, 550⟩], [(1, 9)], [⟨1, 7, 1000, 0, 0, 0, 0, 0, 0, 0, 0, 0, 0⟩, ⟨2, 0, 0, 2000, 500, 0, 0, 0, 0, 0, 0, 0, 0⟩, groA 0 0, ⟨4, 0, 0, 0, 0, 1, 0, 0, 0, 0, 0, 9, 0⟩, groA 1 0]⟩
@[reducible] def exS6 : Sho := ⟨exR, [⟨0, -1, 7, 1000, 0, 1, true⟩, ⟨1, 0, 7, 1000, 275, 1, false⟩, ⟨2, 1, 7, 1000, 275, 1, false⟩, ⟨3, 2, 7, 1000, 275, 0, false⟩], [[], [0], [0], [0]], [⟨1175, 500, 1650, 825⟩], [(1, 9)], [⟨1, 7, 1000, 0, 0, 0, 0, 0, 0, 0, 0, 0, 0⟩, ⟨2, 0, 0, 2000, 500, 0, 0, 0, 0, 0, 0, 0, 0⟩, groA 0 0, ⟨4, 0, 0, 0, 0, 1, 0, 0, 0, 0, 0, 9, 0⟩, groA 1 0, groA 2 0]⟩
@[reducible] def exS7 : Sho := ⟨exR, [⟨0, -1, 7, 1000, 0, 1, true⟩, ⟨1, 0, 7, 1000, 275, 1, false⟩, ⟨2, 1, 7, 1000, 275, 1, false⟩, ⟨3, 2, 7, 1000, 275, 0, false⟩], [[], [0], [], [0]], [⟨1175, 500, 1650, 825⟩], [(1, 9)], [⟨1, 7, 1000, 0, 0, 0, 0, 0, 0, 0, 0, 0, 0⟩, ⟨2, 0, 0, 2000, 500, 0, 0, 0, 0, 0, 0, 0, 0⟩, groA 0 0, ⟨4, 0, 0, 0, 0, 1, 0, 0, 0, 0, 0, 9, 0⟩, groA 1 0, groA 2 0, ⟨5, 0, 0, 0, 0, 2, 0, 0, 0, 0, 0, 0, 0⟩]⟩
@[reducible] def exS8 : Sho := ⟨exR, [⟨0, -1, 7, 1000, 0, 1, true⟩, ⟨1, 0, 7, 1000, 275, 1, false⟩, ⟨2, 1, 7, 1000, 275, 2, false⟩, ⟨3, 2, 7, 1000, 275, 0, false⟩, ⟨3, 2, 7, 1000, 275, 0, false⟩], [[], [0], [], [0], []], [⟨900, 500, 2200, 1100⟩], [(1, 9)], [⟨1, 7, 1000, 0, 0, 0, 0, 0, 0, 0, 0, 0, 0⟩, ⟨2, 0, 0, 2000, 500, 0, 0, 0, 0, 0, 0, 0, 0⟩, groA 0 0, ⟨4, 0, 0, 0, 0, 1, 0, 0, 0, 0, 0, 9, 0⟩, groA 1 0, groA 2 0, ⟨5, 0, 0, 0, 0, 2, 0, 0, 0, 0, 0, 0, 0⟩, groA 2 0]⟩
theorem exE0 : doE exS0 (exA.getD 0 ac0) = 0 := by kernel_rfl
theorem exD0 : doS exS0 (exA.getD 0 ac0) = exS1 := by kernel_rfl
theorem exE1 : doE exS1 (exA.getD 1 ac0) = 0 := by kernel_rfl
theorem exD1 : doS exS1 (exA.getD 1 ac0) = exS2 := by kernel_rfl
theorem exE2 : doE exS2 (exA.getD 2 ac0) = 0 := by kernel_rfl
theorem exD2 : doS exS2 (exA.getD 2 ac0) = exS3 := by kernel_rfl
theorem exE3 : doE exS3 (exA.getD 3 ac0) = 0 := by kernel_rfl
theorem exD3 : doS exS3 (exA.getD 3 ac0) = exS4 := by kernel_rfl
theorem exE4 : doE exS4 (exA.getD 4 ac0) = 0 := by kernel_rfl
theorem exD4 : doS exS4 (exA.getD 4 ac0) = exS5 := by kernel_rfl
theorem exE5 : doE exS5 (exA.getD 5 ac0) = 0 := by kernel_rfl
theorem exD5 : doS exS5 (exA.getD 5 ac0) = exS6 := by kernel_rfl
theorem exE6 : doE exS6 (exA.getD 6 ac0) = 0 := by kernel_rfl
theorem exD6 : doS exS6 (exA.getD 6 ac0) = exS7 := by kernel_rfl
theorem exE7 : doE exS7 (exA.getD 7 ac0) = 0 := by kernel_rfl
theorem exD7 : doS exS7 (exA.getD 7 ac0) = exS8 := by kernel_rfl
theorem exP0 : repS (shop0 exR) exA 0 = exS0 := rfl
theorem exP1 : repS (shop0 exR) exA 1 = exS1 := (congrArg (doS · (exA.getD 0 ac0)) exP0).trans exD0
theorem exP2 : repS (shop0 exR) exA 2 = exS2 := (congrArg (doS · (exA.getD 1 ac0)) exP1).trans exD1
theorem exP3 : repS (shop0 exR) exA 3 = exS3 := (congrArg (doS · (exA.getD 2 ac0)) exP2).trans exD2
theorem exP4 : repS (shop0 exR) exA 4 = exS4 := (congrArg (doS · (exA.getD 3 ac0)) exP3).trans exD3
theorem exP5 : repS (shop0 exR) exA 5 = exS5 := (congrArg (doS · (exA.getD 4 ac0)) exP4).trans exD4
theorem exP6 : repS (shop0 exR) exA 6 = exS6 := (congrArg (doS · (exA.getD 5 ac0)) exP5).trans exD5
theorem exP7 : repS (shop0 exR) exA 7 = exS7 := (congrArg (doS · (exA.getD 6 ac0)) exP6).trans exD6
theorem exP8 : repS (shop0 exR) exA 8 = exS8 := (congrArg (doS · (exA.getD 7 ac0)) exP7).trans exD7
theorem exG : goodTo (shop0 exR) exA 8 := fun j hj => by
  rcases (show j = 0 ∨ j = 1 ∨ j = 2 ∨ j = 3 ∨ j = 4 ∨ j = 5 ∨ j = 6 ∨ j = 7 by omega) with rfl | rfl | rfl | rfl | rfl | rfl | rfl | rfl
  · rw [exP0]; exact exE0
  · rw [exP1]; exact exE1
  · rw [exP2]; exact exE2
  · rw [exP3]; exact exE3
  · rw [exP4]; exact exE4
  · rw [exP5]; exact exE5
  · rw [exP6]; exact exE6
  · rw [exP7]; exact exE7
theorem exOK : RcpOK exR := ⟨by decide, by decide, by decide, by decide, by decide, by decide, by decide, by decide⟩
theorem exUp : exS8.up 4 = [4, 2, 1, 0] := by kernel_rfl
theorem exBe : bear exS8.be 0 5 = [1, 3] := by kernel_rfl
theorem exNe : needE exS8 0 6 = 0 := by kernel_rfl
theorem exNn : needN exS8 0 6 = 5 := by kernel_rfl
theorem s36 : HSpec Try.prog 36 [] [] (fun r m' => r = .x (.one (.lst false KAc (acA exA))) ∧ m' = []) := by
  have c0 := s37 0 0
  have c1 := s37 1 0
  have c2 := s37 2 0
  refine spec_of pMix (O := []) Try.func36 (c := bodyOf Try.f36) rfl (by kernel_rfl) (by kernel_rfl) Try.ntmps36 (res := [.tmp 0]) (by kernel_rfl) ?_
  repeat' ((conv => whnf); first | refine Rng.g ?_ | refine Ob.g ?_ | refine Ob.e ?_ | refine Ob.m ?_ | refine Ob.mk (Nat.le_of_ble_eq_true rfl) ?_ | refine JoinVC.on ?_ | refine Nils.mk (fun h => ?_) ?_ | refine Val.t ?_ | refine Val.d ?_ | refine Mm.mk ?_ | refine CallVC.pure rfl (c0) ?_ | refine CallVC.pure rfl (c1) ?_ | refine CallVC.pure rfl (c2) ?_ | refine CallVC0.pure rfl (c0) ?_ | refine CallVC0.pure rfl (c1) ?_ | refine CallVC0.pure rfl (c2) ?_ | (refine Br.mk (fun h => ?_) (fun h => ?_) <;> first | (exfalso; omega; done) | (exfalso; simp at h; done) | skip))
  repeat refine Mm.mk ?_
  refine EndVC.mk _ rfl _ _ ⟨rfl, rfl⟩ ?_
  refine ⟨[], rfl, rfl, ?_, ?_⟩ <;> repeat' (first | exact trivial | exact rfl | exact Iff.rfl | apply And.intro)
theorem s32 (xs ys : List Int) (hx : xs.length ≤ 1000000) : PSpec Try.prog 32 [.one (.lst true [.int .i64] (i64s xs)), .one (.lst true [.int .i64] (i64s ys))] (xP (xs = ys)) := by
  have lx := i64s_len xs
  have ly := i64s_len ys
  by_cases hl : xs.length = ys.length
  · refine spec_of pMix (O := []) Try.func32 (c := bodyOf Try.f32) rfl (by kernel_rfl) (by kernel_rfl) Try.ntmps32 (res := [.tmp 4]) (by kernel_rfl) ?_
    repeat' ((conv => whnf); first | refine Rng.g ?_ | refine Ob.g ?_ | refine Ob.e ?_ | refine Ob.m ?_ | refine Ob.mk (Nat.le_of_ble_eq_true rfl) ?_ | refine JoinVC.on ?_ | refine Nils.mk (fun h => ?_) ?_ | refine Val.t ?_ | refine Val.d ?_ | refine Mm.mk ?_ | (refine Br.mk (fun h => ?_) (fun h => ?_) <;> first | (exfalso; omega; done) | (exfalso; simp at h; done) | skip))
    refine LoopVC.mk (fun n st => ∃ (i : Nat), i ≤ xs.length ∧ n = xs.length - i ∧ (∀ j, j < i → xs.getD j 0 = ys.getD j 0) ∧ st = ⟨0, envA 26 [(0, .x (.one (.lst true [.int .i64] (i64s xs)))), (1, .x (.one (.lst true [.int .i64] (i64s ys)))), (5, .int .i64 (i : Int))], []⟩) _ _ ⟨0, Nat.zero_le _, rfl, fun j hj => absurd hj (Nat.not_lt_zero j), rfl⟩ ?_ ?_
    · refine ⟨[], rfl, rfl, ?_, ?_⟩ <;> repeat' (first | exact trivial | exact rfl | exact Iff.rfl | apply And.intro)
    rintro n _ ⟨i, hi, hn, hj, rfl⟩
    have g0 : rI (i64s xs) (i : Int).toNat 0 = xs.getD i 0 := by rw [Int.toNat_natCast, i64s_get]
    have g1 : rI (i64s ys) (i : Int).toNat 0 = ys.getD i 0 := by rw [Int.toNat_natCast, i64s_get]
    by_cases h' : i < xs.length
    · repeat' ((conv => whnf); first | rw [g0] | rw [g1] | refine Rng.g ?_ | refine Ob.g ?_ | refine Ob.e ?_ | refine Ob.m ?_ | refine Ob.mk (Nat.le_of_ble_eq_true rfl) ?_ | refine JoinVC.on ?_ | refine Nils.mk (fun h => ?_) ?_ | refine Val.t ?_ | refine Val.d ?_ | refine Mm.mk ?_ | (refine Br.mk (fun h => ?_) (fun h => ?_) <;> first | (exfalso; omega; done) | (exfalso; simp at h; done) | skip))
      · repeat refine Mm.mk ?_
        refine EndVC.mk _ rfl _ _ ⟨rfl, rfl⟩ ?_
        refine ⟨[], rfl, rfl, ?_, ?_⟩ <;> repeat' (first | exact trivial | exact rfl | exact Iff.rfl | apply And.intro)
        exact fun hc => h (by rw [hc])
      · refine Back.mk (xs.length - (i + 1)) _ (by omega) ⟨i + 1, by omega, rfl, fun j hj' => ?_, rfl⟩ ?_
        · rcases Nat.lt_succ_iff_lt_or_eq.1 hj' with h1 | rfl
          · exact hj j h1
          · exact Classical.not_not.1 h
        · refine ⟨[], rfl, rfl, ?_, ?_⟩ <;> repeat' (first | exact trivial | exact rfl | exact Iff.rfl | apply And.intro)
    · obtain rfl : i = xs.length := by omega
      repeat' ((conv => whnf); first | refine Rng.g ?_ | refine Ob.g ?_ | refine Ob.e ?_ | refine Ob.m ?_ | refine Ob.mk (Nat.le_of_ble_eq_true rfl) ?_ | refine JoinVC.on ?_ | refine Nils.mk (fun h => ?_) ?_ | refine Val.t ?_ | refine Val.d ?_ | refine Mm.mk ?_ | (refine Br.mk (fun h => ?_) (fun h => ?_) <;> first | (exfalso; omega; done) | (exfalso; simp at h; done) | skip))
      repeat refine Mm.mk ?_
      refine EndVC.mk _ rfl _ _ ⟨rfl, rfl⟩ ?_
      refine ⟨[], rfl, rfl, ?_, ?_⟩ <;> repeat' (first | exact trivial | exact rfl | exact Iff.rfl | apply And.intro)
      exact (List.ext_getElem hl fun k h1 h2 => by
        have := hj k h1
        rwa [List.getD_eq_getElem?_getD, List.getD_eq_getElem?_getD, List.getElem?_eq_getElem h1, List.getElem?_eq_getElem h2] at this)
  · refine spec_of pMix (O := []) Try.func32 (c := bodyOf Try.f32) rfl (by kernel_rfl) (by kernel_rfl) Try.ntmps32 (res := [.tmp 4]) (by kernel_rfl) ?_
    repeat' ((conv => whnf); first | refine Rng.g ?_ | refine Ob.g ?_ | refine Ob.e ?_ | refine Ob.m ?_ | refine Ob.mk (Nat.le_of_ble_eq_true rfl) ?_ | refine JoinVC.on ?_ | refine Nils.mk (fun h => ?_) ?_ | refine Val.t ?_ | refine Val.d ?_ | refine Mm.mk ?_ | (refine Br.mk (fun h => ?_) (fun h => ?_) <;> first | (exfalso; omega; done) | (exfalso; simp at h; done) | skip))
    repeat refine Mm.mk ?_
    refine EndVC.mk _ rfl _ _ ⟨rfl, rfl⟩ ?_
    refine ⟨[], rfl, rfl, ?_, ?_⟩ <;> repeat' (first | exact trivial | exact rfl | exact Iff.rfl | apply And.intro)
    exact fun h => hl (congrArg List.length h)
theorem PSpec.tt {P : Program} {f : FuncId} {args : List XV} {p : Prop} {d : Decidable p} (h : PSpec P f args (.x (.one (.prp p d)))) (hp : p) : PSpec P f args (.x (.one .tt)) := by
  intro w R vs h1 h2
  have key : ∀ (e : Ending) (w' : World), (∃ v r m' R', e = .returned v ∧ (r = .x (.one (.prp p d)) ∧ m' = []) ∧ Fr w R ([].map some) w' R' m' ∧ RepA w' R' r v) → ∃ v r m' R', e = .returned v ∧ (r = .x (.one .tt) ∧ m' = []) ∧ Fr w R ([].map some) w' R' m' ∧ RepA w' R' r v := by
    rintro e w' ⟨v, r, m', R', h3, ⟨rfl, rfl⟩, h5, h6⟩
    refine ⟨v, _, _, R', h3, ⟨rfl, rfl⟩, h5, ?_⟩
    have h6' : v = .bool (@decide p d) := h6
    exact h6'.trans (by rw [decide_eq_true hp])
  rcases h w R vs h1 h2 with ⟨h3, h4⟩ | ⟨v, w', h3, h4⟩
  · exact .inl ⟨h3, h4.mono key⟩
  · exact .inr ⟨v, w', h3, key _ _ h4⟩
theorem s17p : PSpec Try.prog 17 [] (xP ((5 : Int) = 5)) := by
  have c34 := s34 exR exA (by decide)
  have hS : ShOK exS8 := by have := ShOK.repS (ShOK.new exOK) exA 8; rwa [exP8] at this
  have lA : (acA exA).length = 8 := rfl
  have q1 := (s32 [4, 2, 1, 0].reverse [0, 1, 2, 4] (by decide)).tt rfl
  have q2 := (s32 [1, 3] [1, 3] (by decide)).tt rfl
  refine spec_of pMix (O := []) Try.func17 (c := bodyOf Try.f17) rfl (by kernel_rfl) (by kernel_rfl) Try.ntmps17 (res := [.tmp 0]) (by kernel_rfl) ?_
  repeat' ((conv => whnf); first | refine Rng.g ?_ | refine Ob.g ?_ | refine Ob.e ?_ | refine Ob.m ?_ | refine Ob.mk (Nat.le_of_ble_eq_true rfl) ?_ | refine JoinVC.on ?_ | refine Nils.mk (fun h => ?_) ?_ | refine Val.t ?_ | refine Val.d ?_ | refine Mm.mk ?_ | refine CallVC.pure rfl (s35) ?_ | refine CallVC0.pure rfl (s35) ?_ | (refine Br.mk (fun h => ?_) (fun h => ?_) <;> first | (exfalso; omega; done) | (exfalso; simp at h; done) | skip))
  conv => whnf
  refine CallVC.mk [] _ _ _ rfl rfl rfl (s36) (fun r m' h' => ?_)
  obtain ⟨rfl, rfl⟩ := h'
  conv => whnf
  repeat' ((conv => whnf); first | refine Rng.g ?_ | refine Ob.g ?_ | refine Ob.e ?_ | refine Ob.m ?_ | refine Ob.mk (Nat.le_of_ble_eq_true rfl) ?_ | refine JoinVC.on ?_ | refine Nils.mk (fun h => ?_) ?_ | refine Val.t ?_ | refine Val.d ?_ | refine Mm.mk ?_ | (refine Br.mk (fun h => ?_) (fun h => ?_) <;> first | (exfalso; omega; done) | (exfalso; simp at h; done) | skip))
  conv => whnf
  refine CallVC.mk [] _ _ _ rfl rfl rfl (c34) (fun r m' h' => ?_)
  cases h' with
  | bad h hv hm => exact absurd exOK h
  | err h i hi hg e he h0 hv hm => exact absurd (exG i hi) (by rw [he]; exact h0)
  | ok h hg ms hM hv hm =>
    have e8 : repS (shop0 exR) exA exA.length = exS8 := exP8
    rw [e8] at hm hM
    subst hv hm
    have c30 := s30_ok exS8 ms hS 4 (by decide)
    rw [exUp] at c30
    have c39 := s39_ok exS8 ms hS hM 0 (by decide)
    rw [show bear exS8.be 0 exS8.pl.length = [1, 3] from exBe] at c39
    have c26 := s26 exS8 ms hS 0 6
    rw [exNe, exNn] at c26
    repeat' ((conv => whnf); first | refine Rng.g ?_ | refine Ob.g ?_ | refine Ob.e ?_ | refine Ob.m ?_ | refine Ob.mk (Nat.le_of_ble_eq_true rfl) ?_ | refine JoinVC.on ?_ | refine Nils.mk (fun h => ?_) ?_ | refine Val.t ?_ | refine Val.d ?_ | refine Mm.mk ?_ | (refine Br.mk (fun h => ?_) (fun h => ?_) <;> first | (exfalso; omega; done) | (exfalso; simp at h; done) | skip))
    conv => whnf
    first | refine CallVC.mk [0, 1, 2, 3, 4, 5] _ _ _ rfl rfl rfl (c30) (fun r m' h' => ?_) | refine CallVC0.same [0, 1, 2, 3, 4, 5] _ _ _ rfl rfl rfl rfl (c30) (fun r m' h' => (by obtain ⟨rfl, rfl⟩ := h'; rfl)) (fun r m' h' => ?_) | (refine CallVC0.rows [0, 1, 2, 3, 4, 5] _ _ _ rfl rfl rfl ?_ (c30) (fun r m' h' => (by obtain ⟨rfl, rfl⟩ := h'; rfl)) (fun r m' h' => ?_); · (repeat' ((conv => whnf); first | exact trivial | exact rfl | exact Nat.le_refl _ | apply And.intro)))
    obtain ⟨rfl, rfl⟩ := h'
    conv => whnf
    repeat' ((conv => whnf); first | refine Rng.g ?_ | refine Ob.g ?_ | refine Ob.e ?_ | refine Ob.m ?_ | refine Ob.mk (Nat.le_of_ble_eq_true rfl) ?_ | refine JoinVC.on ?_ | refine Nils.mk (fun h => ?_) ?_ | refine Val.t ?_ | refine Val.d ?_ | refine Mm.mk ?_ | (refine Br.mk (fun h => ?_) (fun h => ?_) <;> first | (exfalso; omega; done) | (exfalso; simp at h; done) | skip))
    conv => whnf
    first | refine CallVC.mk [0, 1, 2, 3, 4, 5] _ _ _ rfl rfl rfl (c39) (fun r m' h' => ?_) | refine CallVC0.same [0, 1, 2, 3, 4, 5] _ _ _ rfl rfl rfl rfl (c39) (fun r m' h' => (by obtain ⟨rfl, rfl⟩ := h'; rfl)) (fun r m' h' => ?_) | (refine CallVC0.rows [0, 1, 2, 3, 4, 5] _ _ _ rfl rfl rfl ?_ (c39) (fun r m' h' => (by obtain ⟨rfl, rfl⟩ := h'; rfl)) (fun r m' h' => ?_); · (repeat' ((conv => whnf); first | exact trivial | exact rfl | exact Nat.le_refl _ | apply And.intro)))
    obtain ⟨rfl, rfl⟩ := h'
    conv => whnf
    repeat' ((conv => whnf); first | refine Rng.g ?_ | refine Ob.g ?_ | refine Ob.e ?_ | refine Ob.m ?_ | refine Ob.mk (Nat.le_of_ble_eq_true rfl) ?_ | refine JoinVC.on ?_ | refine Nils.mk (fun h => ?_) ?_ | refine Val.t ?_ | refine Val.d ?_ | refine Mm.mk ?_ | (refine Br.mk (fun h => ?_) (fun h => ?_) <;> first | (exfalso; omega; done) | (exfalso; simp at h; done) | skip))
    conv => whnf
    first | refine CallVC.mk [0, 1, 2, 3, 4, 5] _ _ _ rfl rfl rfl (c26) (fun r m' h' => ?_) | refine CallVC0.same [0, 1, 2, 3, 4, 5] _ _ _ rfl rfl rfl rfl (c26) (fun r m' h' => (by obtain ⟨rfl, rfl⟩ := h'; rfl)) (fun r m' h' => ?_) | (refine CallVC0.rows [0, 1, 2, 3, 4, 5] _ _ _ rfl rfl rfl ?_ (c26) (fun r m' h' => (by obtain ⟨rfl, rfl⟩ := h'; rfl)) (fun r m' h' => ?_); · (repeat' ((conv => whnf); first | exact trivial | exact rfl | exact Nat.le_refl _ | apply And.intro)))
    obtain ⟨rfl, rfl⟩ := h'
    conv => whnf
    repeat' ((conv => whnf); first | refine Rng.g ?_ | refine Ob.g ?_ | refine Ob.e ?_ | refine Ob.m ?_ | refine Ob.mk (Nat.le_of_ble_eq_true rfl) ?_ | refine JoinVC.on ?_ | refine Nils.mk (fun h => ?_) ?_ | refine Val.t ?_ | refine Val.d ?_ | refine Mm.mk ?_ | refine CallVC.pure rfl (q1) ?_ | refine CallVC.pure rfl (q2) ?_ | refine CallVC0.pure rfl (q1) ?_ | refine CallVC0.pure rfl (q2) ?_ | (refine Br.mk (fun h => ?_) (fun h => ?_) <;> first | (exfalso; omega; done) | (exfalso; simp at h; done) | skip))
    repeat refine Mm.mk ?_
    refine EndVC.mk _ rfl _ _ ⟨rfl, rfl⟩ ?_
    refine ⟨[], rfl, rfl, ?_, ?_⟩ <;> repeat' (first | exact trivial | exact rfl | exact Iff.rfl | apply And.intro)
theorem s17 : PSpec Try.prog 17 [] (.x (.one .tt)) := s17p.tt rfl
/-! ### A shop after some acts -/
end Go.Sx

namespace Go.Sx
open Go Go.Proofs
set_option maxRecDepth 10000
set_option maxHeartbeats 8000000
theorem e8 : EntersF Try.prog 8 := enters_of Try.func8 (c := bodyOf Try.f8) (by kernel_rfl) rfl
/-! ### Seconds -/
@[reducible] def secA (a : Act2) (n : Int) : Act2 := ⟨a.kd, a.cut, a.area, a.stock, a.yd, a.plate, a.bath, a.s0, a.s1, a.cur, n, a.place, a.flaw⟩
def nedM (S : Sho) (a : Act2) : Int := (S.r.thin ((S.p a.plate).kd + 1) * (S.p a.plate).area + 999) / 1000 - fstM S a
def secX (S : Sho) (a : Act2) : Int := if 0 < nedM S a then ((1000 * nedM S a + (S.t a.bath).yd - 1) / (S.t a.bath).yd + a.cur - 1) / a.cur else 0
def secE (S : Sho) (a : Act2) : Int :=
  if a.kd ≠ 3 ∨ ¬ ActOK a then 2
  else if herE S a ≠ 0 then herE S a
  else if (0 < nedM S a ∧ a.cur = 0) ∨ 1048576 < secX S a ∨ layE S (secA a (secX S a)) ≠ 0 then 15
  else 0
def secN (S : Sho) (a : Act2) : Int := if secE S a = 0 then secX S a else 0
def secR (S : Sho) (ms : List MS) (a : Act2) (r : AV) (m' : List (Option Blk)) : Prop := r = .tup [I (secN S a), I (secE S a)] ∧ m' = shK S ms
theorem secR.err {S : Sho} {ms : List MS} {a : Act2} {e : Int} (h : secE S a = e) (h0 : e ≠ 0) : secR S ms a (.tup [I 0, I e]) (shK S ms) := by
  subst h
  exact ⟨by rw [secN, if_neg h0], rfl⟩
theorem secR.ok {S : Sho} {ms : List MS} {a : Act2} {n : Int} (h : secE S a = 0) (hn : secX S a = n) : secR S ms a (.tup [I n, I 0]) (shK S ms) := by
  subst hn
  exact ⟨by rw [secN, if_pos h, h], rfl⟩
theorem s24 (S : Sho) (ms : List MS) (hS : ShOK S) (a : Act2) : HSpec Try.prog 24 [.one (.ptr 0 0), a.x] (shM S ms) (secR S ms a) := by
  have c53 := s53 S ms
  have c54 := s54 a
  by_cases hv : a.kd ≠ 3 ∨ ¬ ActOK a
  · have hE : secE S a = 2 := by unfold secE; rw [if_pos hv]
    refine spec_of pMix (O := [(8, ([12], [⟨0, [], []⟩, ⟨1, [], []⟩, ⟨2, [], []⟩, ⟨4, [], []⟩, ⟨5, [], []⟩, ⟨6, [], []⟩, ⟨7, [], []⟩, ⟨8, [], []⟩, ⟨9, [], []⟩, ⟨10, [], []⟩, ⟨11, [], []⟩, ⟨3, [4, 5, 6, 7, 8, 9, 10, 11], []⟩, ⟨12, [], []⟩, ⟨13, [], []⟩, ⟨14, [], []⟩])), (10, ([], [⟨0, [], []⟩, ⟨1, [], []⟩, ⟨2, [], []⟩, ⟨3, [], []⟩, ⟨4, [], []⟩, ⟨5, [], []⟩, ⟨6, [], []⟩, ⟨7, [], []⟩, ⟨8, [], []⟩, ⟨9, [], []⟩, ⟨10, [], []⟩, ⟨11, [], []⟩, ⟨12, [], []⟩, ⟨13, [], []⟩, ⟨14, [], []⟩, ⟨15, [], []⟩, ⟨16, [], []⟩, ⟨17, [], []⟩, ⟨18, [], []⟩, ⟨19, [], []⟩, ⟨20, [], []⟩, ⟨21, [], []⟩, ⟨22, [0, 1, 2, 3, 4, 5, 6, 7, 8, 9, 10, 11, 12, 13, 14, 15, 16, 17, 18, 19], []⟩, ⟨23, [], []⟩, ⟨24, [], []⟩, ⟨25, [], []⟩]))]) Try.func24 (c := bodyOf Try.f24) rfl (by kernel_rfl) (by kernel_rfl) Try.ntmps24 (res := [.tmp 4, .tmp 5]) (by kernel_rfl) ?_
    repeat' ((conv => whnf); first | refine Rng.g ?_ | refine Ob.g ?_ | refine Ob.e ?_ | refine Ob.m ?_ | refine Ob.mk (Nat.le_of_ble_eq_true rfl) ?_ | refine JoinVC.on ?_ | refine Nils.mk (fun h => ?_) ?_ | refine Val.t ?_ | refine Val.d ?_ | refine Mm.mk ?_ | (refine Br.mk (fun h => ?_) (fun h => ?_) <;> first | (exfalso; omega; done) | (exfalso; simp at h; done) | skip))
    conv => whnf
    first | refine CallVC.mk [0, 1, 2, 3, 4, 5] _ _ _ rfl rfl rfl (c53) (fun r m' h' => ?_) | refine CallVC0.same [0, 1, 2, 3, 4, 5] _ _ _ rfl rfl rfl rfl (c53) (fun r m' h' => (by obtain ⟨rfl, rfl⟩ := h'; rfl)) (fun r m' h' => ?_) | (refine CallVC0.rows [0, 1, 2, 3, 4, 5] _ _ _ rfl rfl rfl ?_ (c53) (fun r m' h' => (by obtain ⟨rfl, rfl⟩ := h'; rfl)) (fun r m' h' => ?_); · (repeat' ((conv => whnf); first | exact trivial | exact rfl | exact Nat.le_refl _ | apply And.intro)))
    obtain ⟨rfl, rfl⟩ := h'
    conv => whnf
    repeat' ((conv => whnf); first | refine Rng.g ?_ | refine Ob.g ?_ | refine Ob.e ?_ | refine Ob.m ?_ | refine Ob.mk (Nat.le_of_ble_eq_true rfl) ?_ | refine JoinVC.on ?_ | refine Nils.mk (fun h => ?_) ?_ | refine Val.t ?_ | refine Val.d ?_ | refine Mm.mk ?_ | refine CallVC.pure rfl (c54) ?_ | refine CallVC0.pure rfl (c54) ?_ | (refine Br.mk (fun h => ?_) (fun h => ?_) <;> first | (exfalso; omega; done) | (exfalso; simp at h; done) | skip))
    all_goals first
      | (exfalso; rcases hv with h1 | h1 <;> contradiction; done)
      | skip
    all_goals
      repeat refine Mm.mk ?_
      conv => whnf
      refine EndVC.mk _ rfl _ _ (secR.err hE (by decide)) ?_
      refine ⟨[some 0, some 1, some 2, some 3, some 4, some 5], rfl, rfl, ?_, ?_⟩ <;> repeat' (first | exact trivial | exact rfl | exact Iff.rfl | apply And.intro)
  have hk : a.kd = 3 := by omega
  have ha : ActOK a := Classical.byContradiction fun hc => hv (.inr hc)
  have hg := ha.gro hk
  have c62 := s62 S ms hS a hg
  by_cases h1 : herE S a = 0
  rotate_left
  · have hE : secE S a = herE S a := by unfold secE; rw [if_neg hv, if_pos h1]
    refine spec_of pMix (O := [(8, ([12], [⟨0, [], []⟩, ⟨1, [], []⟩, ⟨2, [], []⟩, ⟨4, [], []⟩, ⟨5, [], []⟩, ⟨6, [], []⟩, ⟨7, [], []⟩, ⟨8, [], []⟩, ⟨9, [], []⟩, ⟨10, [], []⟩, ⟨11, [], []⟩, ⟨3, [4, 5, 6, 7, 8, 9, 10, 11], []⟩, ⟨12, [], []⟩, ⟨13, [], []⟩, ⟨14, [], []⟩])), (10, ([], [⟨0, [], []⟩, ⟨1, [], []⟩, ⟨2, [], []⟩, ⟨3, [], []⟩, ⟨4, [], []⟩, ⟨5, [], []⟩, ⟨6, [], []⟩, ⟨7, [], []⟩, ⟨8, [], []⟩, ⟨9, [], []⟩, ⟨10, [], []⟩, ⟨11, [], []⟩, ⟨12, [], []⟩, ⟨13, [], []⟩, ⟨14, [], []⟩, ⟨15, [], []⟩, ⟨16, [], []⟩, ⟨17, [], []⟩, ⟨18, [], []⟩, ⟨19, [], []⟩, ⟨20, [], []⟩, ⟨21, [], []⟩, ⟨22, [0, 1, 2, 3, 4, 5, 6, 7, 8, 9, 10, 11, 12, 13, 14, 15, 16, 17, 18, 19], []⟩, ⟨23, [], []⟩, ⟨24, [], []⟩, ⟨25, [], []⟩]))]) Try.func24 (c := bodyOf Try.f24) rfl (by kernel_rfl) (by kernel_rfl) Try.ntmps24 (res := [.tmp 4, .tmp 5]) (by kernel_rfl) ?_
    repeat' ((conv => whnf); first | refine Rng.g ?_ | refine Ob.g ?_ | refine Ob.e ?_ | refine Ob.m ?_ | refine Ob.mk (Nat.le_of_ble_eq_true rfl) ?_ | refine JoinVC.on ?_ | refine Nils.mk (fun h => ?_) ?_ | refine Val.t ?_ | refine Val.d ?_ | refine Mm.mk ?_ | (refine Br.mk (fun h => ?_) (fun h => ?_) <;> first | (exfalso; omega; done) | (exfalso; simp at h; done) | skip))
    conv => whnf
    first | refine CallVC.mk [0, 1, 2, 3, 4, 5] _ _ _ rfl rfl rfl (c53) (fun r m' h' => ?_) | refine CallVC0.same [0, 1, 2, 3, 4, 5] _ _ _ rfl rfl rfl rfl (c53) (fun r m' h' => (by obtain ⟨rfl, rfl⟩ := h'; rfl)) (fun r m' h' => ?_) | (refine CallVC0.rows [0, 1, 2, 3, 4, 5] _ _ _ rfl rfl rfl ?_ (c53) (fun r m' h' => (by obtain ⟨rfl, rfl⟩ := h'; rfl)) (fun r m' h' => ?_); · (repeat' ((conv => whnf); first | exact trivial | exact rfl | exact Nat.le_refl _ | apply And.intro)))
    obtain ⟨rfl, rfl⟩ := h'
    conv => whnf
    repeat' ((conv => whnf); first | refine Rng.g ?_ | refine Ob.g ?_ | refine Ob.e ?_ | refine Ob.m ?_ | refine Ob.mk (Nat.le_of_ble_eq_true rfl) ?_ | refine JoinVC.on ?_ | refine Nils.mk (fun h => ?_) ?_ | refine Val.t ?_ | refine Val.d ?_ | refine Mm.mk ?_ | refine CallVC.pure rfl (c54) ?_ | refine CallVC0.pure rfl (c54) ?_ | (refine Br.mk (fun h => ?_) (fun h => ?_) <;> first | (exfalso; omega; done) | (exfalso; simp at h; done) | (exfalso; simp [ha] at h; done) | skip))
    conv => whnf
    first | refine CallVC.mk [0, 1, 2, 3, 4, 5] _ _ _ rfl rfl rfl (c62) (fun r m' h' => ?_) | refine CallVC0.same [0, 1, 2, 3, 4, 5] _ _ _ rfl rfl rfl rfl (c62) (fun r m' h' => (by obtain ⟨rfl, rfl⟩ := h'; rfl)) (fun r m' h' => ?_) | (refine CallVC0.rows [0, 1, 2, 3, 4, 5] _ _ _ rfl rfl rfl ?_ (c62) (fun r m' h' => (by obtain ⟨rfl, rfl⟩ := h'; rfl)) (fun r m' h' => ?_); · (repeat' ((conv => whnf); first | exact trivial | exact rfl | exact Nat.le_refl _ | apply And.intro)))
    obtain ⟨rfl, rfl⟩ := h'
    conv => whnf
    repeat' ((conv => whnf); first | refine Rng.g ?_ | refine Ob.g ?_ | refine Ob.e ?_ | refine Ob.m ?_ | refine Ob.mk (Nat.le_of_ble_eq_true rfl) ?_ | refine JoinVC.on ?_ | refine Nils.mk (fun h => ?_) ?_ | refine Val.t ?_ | refine Val.d ?_ | refine Mm.mk ?_ | (refine Br.mk (fun h => ?_) (fun h => ?_) <;> first | (exfalso; omega; done) | (exfalso; simp at h; done) | skip))
    repeat refine Mm.mk ?_
    conv => whnf
    refine EndVC.mk _ rfl _ _ (secR.err hE h1) ?_
    refine ⟨[some 0, some 1, some 2, some 3, some 4, some 5], rfl, rfl, ?_, ?_⟩ <;> repeat' (first | exact trivial | exact rfl | exact Iff.rfl | apply And.intro)
  rw [h1] at c62
  obtain ⟨hi, hb, hret, h256, hkd, hcap⟩ := herE_0 hS h1
  have hg0 : GroOK (secA a 0) := ⟨hg.s0, hg.s1, hg.cur, by show (0 : Int) ≤ 0 ∧ (0 : Int) ≤ 1048576; omega⟩
  have c64 : HSpec Try.prog 64 [.one (.ptr 0 0), (secA a 0).x] (shM S ms) (fun r m' => r = .x (.agg [i6 (fstM S a), i6 (allM S (secA a 0)), i6 (chgM (secA a 0))]) ∧ m' = shK S ms) := s64 S ms hS (secA a 0) hg0 hb
  have c63 := s63 S ms a.plate
  rw [getR, if_pos hi] at c63
  have hB := thkB S hS a hg hi hb
  have hb' := hb
  have hi' := hi
  obtain ⟨hb1, hb2⟩ := hb'
  unfold inP at hi'
  obtain ⟨hi1, hi2⟩ := hi'
  have lt := tkA_len S.tk
  have hp := hS.pl a.plate.toNat (by omega)
  have hk0 : 0 ≤ (S.p a.plate).kd := hp.kd.1
  have har : 1 ≤ (S.p a.plate).area ∧ (S.p a.plate).area ≤ 1048576 := hp.area
  have hyd : 1 ≤ (S.t a.bath).yd ∧ (S.t a.bath).yd ≤ 1000 := (hS.tk a.bath.toNat (by omega)).2.1
  have g0 : rI (plA S.pl) a.plate.toNat 0 = (S.p a.plate).kd := pl_0 S.pl a.plate.toNat
  have g3 : rI (plA S.pl) a.plate.toNat ((0 + 1 + 1 + 1)) = (S.p a.plate).area := pl_3 S.pl a.plate.toNat
  have t1 : rI (tkA S.tk) a.bath.toNat ((0 + 1)) = (S.t a.bath).yd := tk_1 S.tk a.bath.toNat
  have hcur := hg.cur
  obtain ⟨hf, _⟩ := hB
  obtain ⟨th, hth⟩ : ∃ th, S.r.thin ((S.p a.plate).kd + 1) = th := ⟨_, rfl⟩
  have hned : nedM S a = (th * (S.p a.plate).area + 999) / 1000 - fstM S a := by unfold nedM; rw [hth]
  have hthB : 0 ≤ th ∧ th ≤ 1073741824 := by
    have := hS.r.a1
    have := hS.r.a2
    have := hS.r.a3
    rw [← hth]
    unfold Rcp.thin
    (repeat' split) <;> omega
  have hmB := mulB hthB (show 0 ≤ (S.p a.plate).area ∧ (S.p a.plate).area ≤ 1048576 by omega)
  have hk3 : ((S.p a.plate).kd = 0 ∧ S.r.n1 = th) ∨ ((S.p a.plate).kd = 1 ∧ S.r.n2 = th) ∨ ((S.p a.plate).kd = 2 ∧ S.r.n3 = th) := by
    rcases (show (S.p a.plate).kd = 0 ∨ (S.p a.plate).kd = 1 ∨ (S.p a.plate).kd = 2 by omega) with h | h | h
    · rw [h] at hth; exact .inl ⟨h, hth⟩
    · rw [h] at hth; exact .inr (.inl ⟨h, hth⟩)
    · rw [h] at hth; exact .inr (.inr ⟨h, hth⟩)
  have hh1 : ¬ herE S a ≠ 0 := by simpa using h1
  by_cases hn : 0 < nedM S a
  · have hdB := divB (a := 1000 * nedM S a + (S.t a.bath).yd - 1) (d := (S.t a.bath).yd) (B := 1125899906844672) ⟨by omega, by omega⟩ hyd.1
    by_cases hc : a.cur = 0
    · have hE : secE S a = 15 := by unfold secE; rw [if_neg hv, if_neg hh1, if_pos (.inl ⟨hn, hc⟩)]
      rw [hned] at hn hdB
      clear hth
      rcases hk3 with ⟨hk, ht⟩ | ⟨hk, ht⟩ | ⟨hk, ht⟩
      all_goals
        subst ht
        rw [hk] at g0
        refine spec_of pMix (O := [(8, ([12], [⟨0, [], []⟩, ⟨1, [], []⟩, ⟨2, [], []⟩, ⟨4, [], []⟩, ⟨5, [], []⟩, ⟨6, [], []⟩, ⟨7, [], []⟩, ⟨8, [], []⟩, ⟨9, [], []⟩, ⟨10, [], []⟩, ⟨11, [], []⟩, ⟨3, [4, 5, 6, 7, 8, 9, 10, 11], []⟩, ⟨12, [], []⟩, ⟨13, [], []⟩, ⟨14, [], []⟩])), (10, ([], [⟨0, [], []⟩, ⟨1, [], []⟩, ⟨2, [], []⟩, ⟨3, [], []⟩, ⟨4, [], []⟩, ⟨5, [], []⟩, ⟨6, [], []⟩, ⟨7, [], []⟩, ⟨8, [], []⟩, ⟨9, [], []⟩, ⟨10, [], []⟩, ⟨11, [], []⟩, ⟨12, [], []⟩, ⟨13, [], []⟩, ⟨14, [], []⟩, ⟨15, [], []⟩, ⟨16, [], []⟩, ⟨17, [], []⟩, ⟨18, [], []⟩, ⟨19, [], []⟩, ⟨20, [], []⟩, ⟨21, [], []⟩, ⟨22, [0, 1, 2, 3, 4, 5, 6, 7, 8, 9, 10, 11, 12, 13, 14, 15, 16, 17, 18, 19], []⟩, ⟨23, [], []⟩, ⟨24, [], []⟩, ⟨25, [], []⟩]))]) Try.func24 (c := bodyOf Try.f24) rfl (by kernel_rfl) (by kernel_rfl) Try.ntmps24 (res := [.tmp 4, .tmp 5]) (by kernel_rfl) ?_
        repeat' ((conv => whnf); first | refine Rng.g ?_ | refine Ob.g ?_ | refine Ob.e ?_ | refine Ob.m ?_ | refine Ob.mk (Nat.le_of_ble_eq_true rfl) ?_ | refine JoinVC.on ?_ | refine Nils.mk (fun h => ?_) ?_ | refine Val.t ?_ | refine Val.d ?_ | refine Mm.mk ?_ | (refine Br.mk (fun h => ?_) (fun h => ?_) <;> first | (exfalso; omega; done) | (exfalso; simp at h; done) | skip))
        conv => whnf
        first | refine CallVC.mk [0, 1, 2, 3, 4, 5] _ _ _ rfl rfl rfl (c53) (fun r m' h' => ?_) | refine CallVC0.same [0, 1, 2, 3, 4, 5] _ _ _ rfl rfl rfl rfl (c53) (fun r m' h' => (by obtain ⟨rfl, rfl⟩ := h'; rfl)) (fun r m' h' => ?_) | (refine CallVC0.rows [0, 1, 2, 3, 4, 5] _ _ _ rfl rfl rfl ?_ (c53) (fun r m' h' => (by obtain ⟨rfl, rfl⟩ := h'; rfl)) (fun r m' h' => ?_); · (repeat' ((conv => whnf); first | exact trivial | exact rfl | exact Nat.le_refl _ | apply And.intro)))
        obtain ⟨rfl, rfl⟩ := h'
        conv => whnf
        repeat' ((conv => whnf); first | refine Rng.g ?_ | refine Ob.g ?_ | refine Ob.e ?_ | refine Ob.m ?_ | refine Ob.mk (Nat.le_of_ble_eq_true rfl) ?_ | refine JoinVC.on ?_ | refine Nils.mk (fun h => ?_) ?_ | refine Val.t ?_ | refine Val.d ?_ | refine Mm.mk ?_ | refine CallVC.pure rfl (c54) ?_ | refine CallVC0.pure rfl (c54) ?_ | (refine Br.mk (fun h => ?_) (fun h => ?_) <;> first | (exfalso; omega; done) | (exfalso; simp at h; done) | (exfalso; simp [ha] at h; done) | skip))
        conv => whnf
        first | refine CallVC.mk [0, 1, 2, 3, 4, 5] _ _ _ rfl rfl rfl (c62) (fun r m' h' => ?_) | refine CallVC0.same [0, 1, 2, 3, 4, 5] _ _ _ rfl rfl rfl rfl (c62) (fun r m' h' => (by obtain ⟨rfl, rfl⟩ := h'; rfl)) (fun r m' h' => ?_) | (refine CallVC0.rows [0, 1, 2, 3, 4, 5] _ _ _ rfl rfl rfl ?_ (c62) (fun r m' h' => (by obtain ⟨rfl, rfl⟩ := h'; rfl)) (fun r m' h' => ?_); · (repeat' ((conv => whnf); first | exact trivial | exact rfl | exact Nat.le_refl _ | apply And.intro)))
        obtain ⟨rfl, rfl⟩ := h'
        conv => whnf
        repeat' ((conv => whnf); first | refine Rng.g ?_ | refine Ob.g ?_ | refine Ob.e ?_ | refine Ob.m ?_ | refine Ob.mk (Nat.le_of_ble_eq_true rfl) ?_ | refine JoinVC.on ?_ | refine Nils.mk (fun h => ?_) ?_ | refine Val.t ?_ | refine Val.d ?_ | refine Mm.mk ?_ | (refine Br.mk (fun h => ?_) (fun h => ?_) <;> first | (exfalso; omega; done) | (exfalso; simp at h; done) | skip))
        conv => whnf
        first | refine CallVC.mk [0, 1, 2, 3, 4, 5] _ _ _ rfl rfl rfl (c63) (fun r m' h' => ?_) | refine CallVC0.same [0, 1, 2, 3, 4, 5] _ _ _ rfl rfl rfl rfl (c63) (fun r m' h' => (by obtain ⟨rfl, rfl⟩ := h'; rfl)) (fun r m' h' => ?_) | (refine CallVC0.rows [0, 1, 2, 3, 4, 5] _ _ _ rfl rfl rfl ?_ (c63) (fun r m' h' => (by obtain ⟨rfl, rfl⟩ := h'; rfl)) (fun r m' h' => ?_); · (repeat' ((conv => whnf); first | exact trivial | exact rfl | exact Nat.le_refl _ | apply And.intro)))
        obtain ⟨rfl, rfl⟩ := h'
        conv => whnf
        repeat' ((conv => whnf); first | rw [g0] | rw [g3] | rw [t1] | refine Rng.g ?_ | refine Ob.g ?_ | refine Ob.e ?_ | refine Ob.m ?_ | refine Ob.mk (Nat.le_of_ble_eq_true rfl) ?_ | refine JoinVC.on ?_ | refine Nils.mk (fun h => ?_) ?_ | refine Val.t ?_ | refine Val.d ?_ | refine Mm.mk ?_ | (refine Br.mk (fun h => ?_) (fun h => ?_) <;> first | (exfalso; omega; done) | (exfalso; simp at h; done) | skip))
        conv => whnf
        first | refine CallVC.mk [0, 1, 2, 3, 4, 5] _ _ _ rfl rfl rfl (c64) (fun r m' h' => ?_) | refine CallVC0.same [0, 1, 2, 3, 4, 5] _ _ _ rfl rfl rfl rfl (c64) (fun r m' h' => (by obtain ⟨rfl, rfl⟩ := h'; rfl)) (fun r m' h' => ?_) | (refine CallVC0.rows [0, 1, 2, 3, 4, 5] _ _ _ rfl rfl rfl ?_ (c64) (fun r m' h' => (by obtain ⟨rfl, rfl⟩ := h'; rfl)) (fun r m' h' => ?_); · (repeat' ((conv => whnf); first | exact trivial | exact rfl | exact Nat.le_refl _ | apply And.intro)))
        obtain ⟨rfl, rfl⟩ := h'
        conv => whnf
        repeat' ((conv => whnf); first | rw [g0] | rw [g3] | rw [t1] | refine Rng.g ?_ | refine Ob.g ?_ | refine Ob.e ?_ | refine Ob.m ?_ | refine Ob.mk (Nat.le_of_ble_eq_true rfl) ?_ | refine JoinVC.on ?_ | refine Nils.mk (fun h => ?_) ?_ | refine Val.t ?_ | refine Val.d ?_ | refine Mm.mk ?_ | (refine Br.mk (fun h => ?_) (fun h => ?_) <;> first | (exfalso; omega; done) | (exfalso; simp at h; done) | skip))
        repeat refine Mm.mk ?_
        conv => whnf
        refine EndVC.mk _ rfl _ _ (secR.err hE (by decide)) ?_
        refine ⟨[some 0, some 1, some 2, some 3, some 4, some 5], rfl, rfl, ?_, ?_⟩ <;> repeat' (first | exact trivial | exact rfl | exact Iff.rfl | apply And.intro)
    · have hdC := divB (a := (1000 * nedM S a + (S.t a.bath).yd - 1) / (S.t a.bath).yd + a.cur - 1) (d := a.cur) (B := 1125899907893248) ⟨by omega, by omega⟩ (by omega)
      have hX : secX S a = ((1000 * nedM S a + (S.t a.bath).yd - 1) / (S.t a.bath).yd + a.cur - 1) / a.cur := by unfold secX; rw [if_pos hn]
      by_cases hbig : 1048576 < secX S a
      · have hE : secE S a = 15 := by unfold secE; rw [if_neg hv, if_neg hh1, if_pos (.inr (.inl hbig))]
        rw [hX] at hbig
        rw [hned] at hn hdB hdC hbig
        clear hth
        rcases hk3 with ⟨hk, ht⟩ | ⟨hk, ht⟩ | ⟨hk, ht⟩
        all_goals
          subst ht
          rw [hk] at g0
          refine spec_of pMix (O := [(8, ([12], [⟨0, [], []⟩, ⟨1, [], []⟩, ⟨2, [], []⟩, ⟨4, [], []⟩, ⟨5, [], []⟩, ⟨6, [], []⟩, ⟨7, [], []⟩, ⟨8, [], []⟩, ⟨9, [], []⟩, ⟨10, [], []⟩, ⟨11, [], []⟩, ⟨3, [4, 5, 6, 7, 8, 9, 10, 11], []⟩, ⟨12, [], []⟩, ⟨13, [], []⟩, ⟨14, [], []⟩])), (10, ([], [⟨0, [], []⟩, ⟨1, [], []⟩, ⟨2, [], []⟩, ⟨3, [], []⟩, ⟨4, [], []⟩, ⟨5, [], []⟩, ⟨6, [], []⟩, ⟨7, [], []⟩, ⟨8, [], []⟩, ⟨9, [], []⟩, ⟨10, [], []⟩, ⟨11, [], []⟩, ⟨12, [], []⟩, ⟨13, [], []⟩, ⟨14, [], []⟩, ⟨15, [], []⟩, ⟨16, [], []⟩, ⟨17, [], []⟩, ⟨18, [], []⟩, ⟨19, [], []⟩, ⟨20, [], []⟩, ⟨21, [], []⟩, ⟨22, [0, 1, 2, 3, 4, 5, 6, 7, 8, 9, 10, 11, 12, 13, 14, 15, 16, 17, 18, 19], []⟩, ⟨23, [], []⟩, ⟨24, [], []⟩, ⟨25, [], []⟩]))]) Try.func24 (c := bodyOf Try.f24) rfl (by kernel_rfl) (by kernel_rfl) Try.ntmps24 (res := [.tmp 4, .tmp 5]) (by kernel_rfl) ?_
          repeat' ((conv => whnf); first | refine Rng.g ?_ | refine Ob.g ?_ | refine Ob.e ?_ | refine Ob.m ?_ | refine Ob.mk (Nat.le_of_ble_eq_true rfl) ?_ | refine JoinVC.on ?_ | refine Nils.mk (fun h => ?_) ?_ | refine Val.t ?_ | refine Val.d ?_ | refine Mm.mk ?_ | (refine Br.mk (fun h => ?_) (fun h => ?_) <;> first | (exfalso; omega; done) | (exfalso; simp at h; done) | skip))
          conv => whnf
          first | refine CallVC.mk [0, 1, 2, 3, 4, 5] _ _ _ rfl rfl rfl (c53) (fun r m' h' => ?_) | refine CallVC0.same [0, 1, 2, 3, 4, 5] _ _ _ rfl rfl rfl rfl (c53) (fun r m' h' => (by obtain ⟨rfl, rfl⟩ := h'; rfl)) (fun r m' h' => ?_) | (refine CallVC0.rows [0, 1, 2, 3, 4, 5] _ _ _ rfl rfl rfl ?_ (c53) (fun r m' h' => (by obtain ⟨rfl, rfl⟩ := h'; rfl)) (fun r m' h' => ?_); · (repeat' ((conv => whnf); first | exact trivial | exact rfl | exact Nat.le_refl _ | apply And.intro)))
          obtain ⟨rfl, rfl⟩ := h'
          conv => whnf
          repeat' ((conv => whnf); first | refine Rng.g ?_ | refine Ob.g ?_ | refine Ob.e ?_ | refine Ob.m ?_ | refine Ob.mk (Nat.le_of_ble_eq_true rfl) ?_ | refine JoinVC.on ?_ | refine Nils.mk (fun h => ?_) ?_ | refine Val.t ?_ | refine Val.d ?_ | refine Mm.mk ?_ | refine CallVC.pure rfl (c54) ?_ | refine CallVC0.pure rfl (c54) ?_ | (refine Br.mk (fun h => ?_) (fun h => ?_) <;> first | (exfalso; omega; done) | (exfalso; simp at h; done) | (exfalso; simp [ha] at h; done) | skip))
          conv => whnf
          first | refine CallVC.mk [0, 1, 2, 3, 4, 5] _ _ _ rfl rfl rfl (c62) (fun r m' h' => ?_) | refine CallVC0.same [0, 1, 2, 3, 4, 5] _ _ _ rfl rfl rfl rfl (c62) (fun r m' h' => (by obtain ⟨rfl, rfl⟩ := h'; rfl)) (fun r m' h' => ?_) | (refine CallVC0.rows [0, 1, 2, 3, 4, 5] _ _ _ rfl rfl rfl ?_ (c62) (fun r m' h' => (by obtain ⟨rfl, rfl⟩ := h'; rfl)) (fun r m' h' => ?_); · (repeat' ((conv => whnf); first | exact trivial | exact rfl | exact Nat.le_refl _ | apply And.intro)))
          obtain ⟨rfl, rfl⟩ := h'
          conv => whnf
          repeat' ((conv => whnf); first | refine Rng.g ?_ | refine Ob.g ?_ | refine Ob.e ?_ | refine Ob.m ?_ | refine Ob.mk (Nat.le_of_ble_eq_true rfl) ?_ | refine JoinVC.on ?_ | refine Nils.mk (fun h => ?_) ?_ | refine Val.t ?_ | refine Val.d ?_ | refine Mm.mk ?_ | (refine Br.mk (fun h => ?_) (fun h => ?_) <;> first | (exfalso; omega; done) | (exfalso; simp at h; done) | skip))
          conv => whnf
          first | refine CallVC.mk [0, 1, 2, 3, 4, 5] _ _ _ rfl rfl rfl (c63) (fun r m' h' => ?_) | refine CallVC0.same [0, 1, 2, 3, 4, 5] _ _ _ rfl rfl rfl rfl (c63) (fun r m' h' => (by obtain ⟨rfl, rfl⟩ := h'; rfl)) (fun r m' h' => ?_) | (refine CallVC0.rows [0, 1, 2, 3, 4, 5] _ _ _ rfl rfl rfl ?_ (c63) (fun r m' h' => (by obtain ⟨rfl, rfl⟩ := h'; rfl)) (fun r m' h' => ?_); · (repeat' ((conv => whnf); first | exact trivial | exact rfl | exact Nat.le_refl _ | apply And.intro)))
          obtain ⟨rfl, rfl⟩ := h'
          conv => whnf
          repeat' ((conv => whnf); first | rw [g0] | rw [g3] | rw [t1] | refine Rng.g ?_ | refine Ob.g ?_ | refine Ob.e ?_ | refine Ob.m ?_ | refine Ob.mk (Nat.le_of_ble_eq_true rfl) ?_ | refine JoinVC.on ?_ | refine Nils.mk (fun h => ?_) ?_ | refine Val.t ?_ | refine Val.d ?_ | refine Mm.mk ?_ | (refine Br.mk (fun h => ?_) (fun h => ?_) <;> first | (exfalso; omega; done) | (exfalso; simp at h; done) | skip))
          conv => whnf
          first | refine CallVC.mk [0, 1, 2, 3, 4, 5] _ _ _ rfl rfl rfl (c64) (fun r m' h' => ?_) | refine CallVC0.same [0, 1, 2, 3, 4, 5] _ _ _ rfl rfl rfl rfl (c64) (fun r m' h' => (by obtain ⟨rfl, rfl⟩ := h'; rfl)) (fun r m' h' => ?_) | (refine CallVC0.rows [0, 1, 2, 3, 4, 5] _ _ _ rfl rfl rfl ?_ (c64) (fun r m' h' => (by obtain ⟨rfl, rfl⟩ := h'; rfl)) (fun r m' h' => ?_); · (repeat' ((conv => whnf); first | exact trivial | exact rfl | exact Nat.le_refl _ | apply And.intro)))
          obtain ⟨rfl, rfl⟩ := h'
          conv => whnf
          repeat' ((conv => whnf); first | rw [g0] | rw [g3] | rw [t1] | refine Rng.g ?_ | refine Ob.g ?_ | refine Ob.e ?_ | refine Ob.m ?_ | refine Ob.mk (Nat.le_of_ble_eq_true rfl) ?_ | refine JoinVC.on ?_ | refine Nils.mk (fun h => ?_) ?_ | refine Val.t ?_ | refine Val.d ?_ | refine Mm.mk ?_ | (refine Br.mk (fun h => ?_) (fun h => ?_) <;> first | (exfalso; omega; done) | (exfalso; simp at h; done) | skip))
          repeat refine Mm.mk ?_
          conv => whnf
          refine EndVC.mk _ rfl _ _ (secR.err hE (by decide)) ?_
          refine ⟨[some 0, some 1, some 2, some 3, some 4, some 5], rfl, rfl, ?_, ?_⟩ <;> repeat' (first | exact trivial | exact rfl | exact Iff.rfl | apply And.intro)
      · have c65 := s65 S ms hS (secA a (secX S a)) ⟨hg.s0, hg.s1, hg.cur, by show 0 ≤ secX S a ∧ secX S a ≤ 1048576; omega⟩ hi hb hkd
        by_cases hl : layE S (secA a (secX S a)) = 0
        · have hE : secE S a = 0 := by unfold secE; rw [if_neg hv, if_neg hh1, if_neg (by rintro (h | h | h); exact hc h.2; exact hbig h; exact h hl)]
          rw [hl, if_pos rfl] at c65
          generalize thkM S (secA a (secX S a)) = tk at c65
          rw [hX] at hbig c65
          rw [hned] at hn hdB hdC hbig hX c65
          clear hth
          rcases hk3 with ⟨hk, ht⟩ | ⟨hk, ht⟩ | ⟨hk, ht⟩
          all_goals
            subst ht
            rw [hk] at g0
            refine spec_of pMix (O := [(8, ([12], [⟨0, [], []⟩, ⟨1, [], []⟩, ⟨2, [], []⟩, ⟨4, [], []⟩, ⟨5, [], []⟩, ⟨6, [], []⟩, ⟨7, [], []⟩, ⟨8, [], []⟩, ⟨9, [], []⟩, ⟨10, [], []⟩, ⟨11, [], []⟩, ⟨3, [4, 5, 6, 7, 8, 9, 10, 11], []⟩, ⟨12, [], []⟩, ⟨13, [], []⟩, ⟨14, [], []⟩])), (10, ([], [⟨0, [], []⟩, ⟨1, [], []⟩, ⟨2, [], []⟩, ⟨3, [], []⟩, ⟨4, [], []⟩, ⟨5, [], []⟩, ⟨6, [], []⟩, ⟨7, [], []⟩, ⟨8, [], []⟩, ⟨9, [], []⟩, ⟨10, [], []⟩, ⟨11, [], []⟩, ⟨12, [], []⟩, ⟨13, [], []⟩, ⟨14, [], []⟩, ⟨15, [], []⟩, ⟨16, [], []⟩, ⟨17, [], []⟩, ⟨18, [], []⟩, ⟨19, [], []⟩, ⟨20, [], []⟩, ⟨21, [], []⟩, ⟨22, [0, 1, 2, 3, 4, 5, 6, 7, 8, 9, 10, 11, 12, 13, 14, 15, 16, 17, 18, 19], []⟩, ⟨23, [], []⟩, ⟨24, [], []⟩, ⟨25, [], []⟩]))]) Try.func24 (c := bodyOf Try.f24) rfl (by kernel_rfl) (by kernel_rfl) Try.ntmps24 (res := [.tmp 4, .tmp 5]) (by kernel_rfl) ?_
            repeat' ((conv => whnf); first | refine Rng.g ?_ | refine Ob.g ?_ | refine Ob.e ?_ | refine Ob.m ?_ | refine Ob.mk (Nat.le_of_ble_eq_true rfl) ?_ | refine JoinVC.on ?_ | refine Nils.mk (fun h => ?_) ?_ | refine Val.t ?_ | refine Val.d ?_ | refine Mm.mk ?_ | (refine Br.mk (fun h => ?_) (fun h => ?_) <;> first | (exfalso; omega; done) | (exfalso; simp at h; done) | skip))
            conv => whnf
            first | refine CallVC.mk [0, 1, 2, 3, 4, 5] _ _ _ rfl rfl rfl (c53) (fun r m' h' => ?_) | refine CallVC0.same [0, 1, 2, 3, 4, 5] _ _ _ rfl rfl rfl rfl (c53) (fun r m' h' => (by obtain ⟨rfl, rfl⟩ := h'; rfl)) (fun r m' h' => ?_) | (refine CallVC0.rows [0, 1, 2, 3, 4, 5] _ _ _ rfl rfl rfl ?_ (c53) (fun r m' h' => (by obtain ⟨rfl, rfl⟩ := h'; rfl)) (fun r m' h' => ?_); · (repeat' ((conv => whnf); first | exact trivial | exact rfl | exact Nat.le_refl _ | apply And.intro)))
            obtain ⟨rfl, rfl⟩ := h'
            conv => whnf
            repeat' ((conv => whnf); first | refine Rng.g ?_ | refine Ob.g ?_ | refine Ob.e ?_ | refine Ob.m ?_ | refine Ob.mk (Nat.le_of_ble_eq_true rfl) ?_ | refine JoinVC.on ?_ | refine Nils.mk (fun h => ?_) ?_ | refine Val.t ?_ | refine Val.d ?_ | refine Mm.mk ?_ | refine CallVC.pure rfl (c54) ?_ | refine CallVC0.pure rfl (c54) ?_ | (refine Br.mk (fun h => ?_) (fun h => ?_) <;> first | (exfalso; omega; done) | (exfalso; simp at h; done) | (exfalso; simp [ha] at h; done) | skip))
            conv => whnf
            first | refine CallVC.mk [0, 1, 2, 3, 4, 5] _ _ _ rfl rfl rfl (c62) (fun r m' h' => ?_) | refine CallVC0.same [0, 1, 2, 3, 4, 5] _ _ _ rfl rfl rfl rfl (c62) (fun r m' h' => (by obtain ⟨rfl, rfl⟩ := h'; rfl)) (fun r m' h' => ?_) | (refine CallVC0.rows [0, 1, 2, 3, 4, 5] _ _ _ rfl rfl rfl ?_ (c62) (fun r m' h' => (by obtain ⟨rfl, rfl⟩ := h'; rfl)) (fun r m' h' => ?_); · (repeat' ((conv => whnf); first | exact trivial | exact rfl | exact Nat.le_refl _ | apply And.intro)))
            obtain ⟨rfl, rfl⟩ := h'
            conv => whnf
            repeat' ((conv => whnf); first | refine Rng.g ?_ | refine Ob.g ?_ | refine Ob.e ?_ | refine Ob.m ?_ | refine Ob.mk (Nat.le_of_ble_eq_true rfl) ?_ | refine JoinVC.on ?_ | refine Nils.mk (fun h => ?_) ?_ | refine Val.t ?_ | refine Val.d ?_ | refine Mm.mk ?_ | (refine Br.mk (fun h => ?_) (fun h => ?_) <;> first | (exfalso; omega; done) | (exfalso; simp at h; done) | skip))
            conv => whnf
            first | refine CallVC.mk [0, 1, 2, 3, 4, 5] _ _ _ rfl rfl rfl (c63) (fun r m' h' => ?_) | refine CallVC0.same [0, 1, 2, 3, 4, 5] _ _ _ rfl rfl rfl rfl (c63) (fun r m' h' => (by obtain ⟨rfl, rfl⟩ := h'; rfl)) (fun r m' h' => ?_) | (refine CallVC0.rows [0, 1, 2, 3, 4, 5] _ _ _ rfl rfl rfl ?_ (c63) (fun r m' h' => (by obtain ⟨rfl, rfl⟩ := h'; rfl)) (fun r m' h' => ?_); · (repeat' ((conv => whnf); first | exact trivial | exact rfl | exact Nat.le_refl _ | apply And.intro)))
            obtain ⟨rfl, rfl⟩ := h'
            conv => whnf
            repeat' ((conv => whnf); first | rw [g0] | rw [g3] | rw [t1] | refine Rng.g ?_ | refine Ob.g ?_ | refine Ob.e ?_ | refine Ob.m ?_ | refine Ob.mk (Nat.le_of_ble_eq_true rfl) ?_ | refine JoinVC.on ?_ | refine Nils.mk (fun h => ?_) ?_ | refine Val.t ?_ | refine Val.d ?_ | refine Mm.mk ?_ | (refine Br.mk (fun h => ?_) (fun h => ?_) <;> first | (exfalso; omega; done) | (exfalso; simp at h; done) | skip))
            conv => whnf
            first | refine CallVC.mk [0, 1, 2, 3, 4, 5] _ _ _ rfl rfl rfl (c64) (fun r m' h' => ?_) | refine CallVC0.same [0, 1, 2, 3, 4, 5] _ _ _ rfl rfl rfl rfl (c64) (fun r m' h' => (by obtain ⟨rfl, rfl⟩ := h'; rfl)) (fun r m' h' => ?_) | (refine CallVC0.rows [0, 1, 2, 3, 4, 5] _ _ _ rfl rfl rfl ?_ (c64) (fun r m' h' => (by obtain ⟨rfl, rfl⟩ := h'; rfl)) (fun r m' h' => ?_); · (repeat' ((conv => whnf); first | exact trivial | exact rfl | exact Nat.le_refl _ | apply And.intro)))
            obtain ⟨rfl, rfl⟩ := h'
            conv => whnf
            repeat' ((conv => whnf); first | rw [g0] | rw [g3] | rw [t1] | refine Rng.g ?_ | refine Ob.g ?_ | refine Ob.e ?_ | refine Ob.m ?_ | refine Ob.mk (Nat.le_of_ble_eq_true rfl) ?_ | refine JoinVC.on ?_ | refine Nils.mk (fun h => ?_) ?_ | refine Val.t ?_ | refine Val.d ?_ | refine Mm.mk ?_ | (refine Br.mk (fun h => ?_) (fun h => ?_) <;> first | (exfalso; omega; done) | (exfalso; simp at h; done) | skip))
            conv => whnf
            first | refine CallVC.mk [0, 1, 2, 3, 4, 5] _ _ _ rfl rfl rfl (c65) (fun r m' h' => ?_) | refine CallVC0.same [0, 1, 2, 3, 4, 5] _ _ _ rfl rfl rfl rfl (c65) (fun r m' h' => (by obtain ⟨rfl, rfl⟩ := h'; rfl)) (fun r m' h' => ?_) | (refine CallVC0.rows [0, 1, 2, 3, 4, 5] _ _ _ rfl rfl rfl ?_ (c65) (fun r m' h' => (by obtain ⟨rfl, rfl⟩ := h'; rfl)) (fun r m' h' => ?_); · (repeat' ((conv => whnf); first | exact trivial | exact rfl | exact Nat.le_refl _ | apply And.intro)))
            obtain ⟨rfl, rfl⟩ := h'
            conv => whnf
            repeat' ((conv => whnf); first | refine Rng.g ?_ | refine Ob.g ?_ | refine Ob.e ?_ | refine Ob.m ?_ | refine Ob.mk (Nat.le_of_ble_eq_true rfl) ?_ | refine JoinVC.on ?_ | refine Nils.mk (fun h => ?_) ?_ | refine Val.t ?_ | refine Val.d ?_ | refine Mm.mk ?_ | (refine Br.mk (fun h => ?_) (fun h => ?_) <;> first | (exfalso; omega; done) | (exfalso; simp at h; done) | skip))
            repeat refine Mm.mk ?_
            conv => whnf
            refine EndVC.mk _ rfl _ _ (secR.ok hE hX) ?_
            refine ⟨[some 0, some 1, some 2, some 3, some 4, some 5], rfl, rfl, ?_, ?_⟩ <;> repeat' (first | exact trivial | exact rfl | exact Iff.rfl | apply And.intro)
        · have hE : secE S a = 15 := by unfold secE; rw [if_neg hv, if_neg hh1, if_pos (.inr (.inr hl))]
          rw [if_neg hl] at c65
          generalize layE S (secA a (secX S a)) = le at c65 hl
          rw [hX] at hbig c65
          rw [hned] at hn hdB hdC hbig c65
          clear hth
          rcases hk3 with ⟨hk, ht⟩ | ⟨hk, ht⟩ | ⟨hk, ht⟩
          all_goals
            subst ht
            rw [hk] at g0
            refine spec_of pMix (O := [(8, ([12], [⟨0, [], []⟩, ⟨1, [], []⟩, ⟨2, [], []⟩, ⟨4, [], []⟩, ⟨5, [], []⟩, ⟨6, [], []⟩, ⟨7, [], []⟩, ⟨8, [], []⟩, ⟨9, [], []⟩, ⟨10, [], []⟩, ⟨11, [], []⟩, ⟨3, [4, 5, 6, 7, 8, 9, 10, 11], []⟩, ⟨12, [], []⟩, ⟨13, [], []⟩, ⟨14, [], []⟩])), (10, ([], [⟨0, [], []⟩, ⟨1, [], []⟩, ⟨2, [], []⟩, ⟨3, [], []⟩, ⟨4, [], []⟩, ⟨5, [], []⟩, ⟨6, [], []⟩, ⟨7, [], []⟩, ⟨8, [], []⟩, ⟨9, [], []⟩, ⟨10, [], []⟩, ⟨11, [], []⟩, ⟨12, [], []⟩, ⟨13, [], []⟩, ⟨14, [], []⟩, ⟨15, [], []⟩, ⟨16, [], []⟩, ⟨17, [], []⟩, ⟨18, [], []⟩, ⟨19, [], []⟩, ⟨20, [], []⟩, ⟨21, [], []⟩, ⟨22, [0, 1, 2, 3, 4, 5, 6, 7, 8, 9, 10, 11, 12, 13, 14, 15, 16, 17, 18, 19], []⟩, ⟨23, [], []⟩, ⟨24, [], []⟩, ⟨25, [], []⟩]))]) Try.func24 (c := bodyOf Try.f24) rfl (by kernel_rfl) (by kernel_rfl) Try.ntmps24 (res := [.tmp 4, .tmp 5]) (by kernel_rfl) ?_
            repeat' ((conv => whnf); first | refine Rng.g ?_ | refine Ob.g ?_ | refine Ob.e ?_ | refine Ob.m ?_ | refine Ob.mk (Nat.le_of_ble_eq_true rfl) ?_ | refine JoinVC.on ?_ | refine Nils.mk (fun h => ?_) ?_ | refine Val.t ?_ | refine Val.d ?_ | refine Mm.mk ?_ | (refine Br.mk (fun h => ?_) (fun h => ?_) <;> first | (exfalso; omega; done) | (exfalso; simp at h; done) | skip))
            conv => whnf
            first | refine CallVC.mk [0, 1, 2, 3, 4, 5] _ _ _ rfl rfl rfl (c53) (fun r m' h' => ?_) | refine CallVC0.same [0, 1, 2, 3, 4, 5] _ _ _ rfl rfl rfl rfl (c53) (fun r m' h' => (by obtain ⟨rfl, rfl⟩ := h'; rfl)) (fun r m' h' => ?_) | (refine CallVC0.rows [0, 1, 2, 3, 4, 5] _ _ _ rfl rfl rfl ?_ (c53) (fun r m' h' => (by obtain ⟨rfl, rfl⟩ := h'; rfl)) (fun r m' h' => ?_); · (repeat' ((conv => whnf); first | exact trivial | exact rfl | exact Nat.le_refl _ | apply And.intro)))
            obtain ⟨rfl, rfl⟩ := h'
            conv => whnf
            repeat' ((conv => whnf); first | refine Rng.g ?_ | refine Ob.g ?_ | refine Ob.e ?_ | refine Ob.m ?_ | refine Ob.mk (Nat.le_of_ble_eq_true rfl) ?_ | refine JoinVC.on ?_ | refine Nils.mk (fun h => ?_) ?_ | refine Val.t ?_ | refine Val.d ?_ | refine Mm.mk ?_ | refine CallVC.pure rfl (c54) ?_ | refine CallVC0.pure rfl (c54) ?_ | (refine Br.mk (fun h => ?_) (fun h => ?_) <;> first | (exfalso; omega; done) | (exfalso; simp at h; done) | (exfalso; simp [ha] at h; done) | skip))
            conv => whnf
            first | refine CallVC.mk [0, 1, 2, 3, 4, 5] _ _ _ rfl rfl rfl (c62) (fun r m' h' => ?_) | refine CallVC0.same [0, 1, 2, 3, 4, 5] _ _ _ rfl rfl rfl rfl (c62) (fun r m' h' => (by obtain ⟨rfl, rfl⟩ := h'; rfl)) (fun r m' h' => ?_) | (refine CallVC0.rows [0, 1, 2, 3, 4, 5] _ _ _ rfl rfl rfl ?_ (c62) (fun r m' h' => (by obtain ⟨rfl, rfl⟩ := h'; rfl)) (fun r m' h' => ?_); · (repeat' ((conv => whnf); first | exact trivial | exact rfl | exact Nat.le_refl _ | apply And.intro)))
            obtain ⟨rfl, rfl⟩ := h'
            conv => whnf
            repeat' ((conv => whnf); first | refine Rng.g ?_ | refine Ob.g ?_ | refine Ob.e ?_ | refine Ob.m ?_ | refine Ob.mk (Nat.le_of_ble_eq_true rfl) ?_ | refine JoinVC.on ?_ | refine Nils.mk (fun h => ?_) ?_ | refine Val.t ?_ | refine Val.d ?_ | refine Mm.mk ?_ | (refine Br.mk (fun h => ?_) (fun h => ?_) <;> first | (exfalso; omega; done) | (exfalso; simp at h; done) | skip))
            conv => whnf
            first | refine CallVC.mk [0, 1, 2, 3, 4, 5] _ _ _ rfl rfl rfl (c63) (fun r m' h' => ?_) | refine CallVC0.same [0, 1, 2, 3, 4, 5] _ _ _ rfl rfl rfl rfl (c63) (fun r m' h' => (by obtain ⟨rfl, rfl⟩ := h'; rfl)) (fun r m' h' => ?_) | (refine CallVC0.rows [0, 1, 2, 3, 4, 5] _ _ _ rfl rfl rfl ?_ (c63) (fun r m' h' => (by obtain ⟨rfl, rfl⟩ := h'; rfl)) (fun r m' h' => ?_); · (repeat' ((conv => whnf); first | exact trivial | exact rfl | exact Nat.le_refl _ | apply And.intro)))
            obtain ⟨rfl, rfl⟩ := h'
            conv => whnf
            repeat' ((conv => whnf); first | rw [g0] | rw [g3] | rw [t1] | refine Rng.g ?_ | refine Ob.g ?_ | refine Ob.e ?_ | refine Ob.m ?_ | refine Ob.mk (Nat.le_of_ble_eq_true rfl) ?_ | refine JoinVC.on ?_ | refine Nils.mk (fun h => ?_) ?_ | refine Val.t ?_ | refine Val.d ?_ | refine Mm.mk ?_ | (refine Br.mk (fun h => ?_) (fun h => ?_) <;> first | (exfalso; omega; done) | (exfalso; simp at h; done) | skip))
            conv => whnf
            first | refine CallVC.mk [0, 1, 2, 3, 4, 5] _ _ _ rfl rfl rfl (c64) (fun r m' h' => ?_) | refine CallVC0.same [0, 1, 2, 3, 4, 5] _ _ _ rfl rfl rfl rfl (c64) (fun r m' h' => (by obtain ⟨rfl, rfl⟩ := h'; rfl)) (fun r m' h' => ?_) | (refine CallVC0.rows [0, 1, 2, 3, 4, 5] _ _ _ rfl rfl rfl ?_ (c64) (fun r m' h' => (by obtain ⟨rfl, rfl⟩ := h'; rfl)) (fun r m' h' => ?_); · (repeat' ((conv => whnf); first | exact trivial | exact rfl | exact Nat.le_refl _ | apply And.intro)))
            obtain ⟨rfl, rfl⟩ := h'
            conv => whnf
            repeat' ((conv => whnf); first | rw [g0] | rw [g3] | rw [t1] | refine Rng.g ?_ | refine Ob.g ?_ | refine Ob.e ?_ | refine Ob.m ?_ | refine Ob.mk (Nat.le_of_ble_eq_true rfl) ?_ | refine JoinVC.on ?_ | refine Nils.mk (fun h => ?_) ?_ | refine Val.t ?_ | refine Val.d ?_ | refine Mm.mk ?_ | (refine Br.mk (fun h => ?_) (fun h => ?_) <;> first | (exfalso; omega; done) | (exfalso; simp at h; done) | skip))
            conv => whnf
            first | refine CallVC.mk [0, 1, 2, 3, 4, 5] _ _ _ rfl rfl rfl (c65) (fun r m' h' => ?_) | refine CallVC0.same [0, 1, 2, 3, 4, 5] _ _ _ rfl rfl rfl rfl (c65) (fun r m' h' => (by obtain ⟨rfl, rfl⟩ := h'; rfl)) (fun r m' h' => ?_) | (refine CallVC0.rows [0, 1, 2, 3, 4, 5] _ _ _ rfl rfl rfl ?_ (c65) (fun r m' h' => (by obtain ⟨rfl, rfl⟩ := h'; rfl)) (fun r m' h' => ?_); · (repeat' ((conv => whnf); first | exact trivial | exact rfl | exact Nat.le_refl _ | apply And.intro)))
            obtain ⟨rfl, rfl⟩ := h'
            conv => whnf
            repeat' ((conv => whnf); first | refine Rng.g ?_ | refine Ob.g ?_ | refine Ob.e ?_ | refine Ob.m ?_ | refine Ob.mk (Nat.le_of_ble_eq_true rfl) ?_ | refine JoinVC.on ?_ | refine Nils.mk (fun h => ?_) ?_ | refine Val.t ?_ | refine Val.d ?_ | refine Mm.mk ?_ | (refine Br.mk (fun h => ?_) (fun h => ?_) <;> first | (exfalso; omega; done) | (exfalso; simp at h; done) | skip))
            repeat refine Mm.mk ?_
            conv => whnf
            refine EndVC.mk _ rfl _ _ (secR.err hE (by decide)) ?_
            refine ⟨[some 0, some 1, some 2, some 3, some 4, some 5], rfl, rfl, ?_, ?_⟩ <;> repeat' (first | exact trivial | exact rfl | exact Iff.rfl | apply And.intro)
  · have hX : secX S a = 0 := by unfold secX; rw [if_neg hn]
    have c65 := s65 S ms hS (secA a 0) hg0 hi hb hkd
    by_cases hl : layE S (secA a 0) = 0
    · have hE : secE S a = 0 := by unfold secE; rw [if_neg hv, if_neg hh1, if_neg (by rw [hX]; rintro (h | h | h); exact hn h.1; omega; exact h hl)]
      rw [hl, if_pos rfl] at c65
      generalize thkM S (secA a 0) = tk at c65
      rw [hned] at hn
      clear hth
      rcases hk3 with ⟨hk, ht⟩ | ⟨hk, ht⟩ | ⟨hk, ht⟩
      all_goals
        subst ht
        rw [hk] at g0
        refine spec_of pMix (O := [(8, ([12], [⟨0, [], []⟩, ⟨1, [], []⟩, ⟨2, [], []⟩, ⟨4, [], []⟩, ⟨5, [], []⟩, ⟨6, [], []⟩, ⟨7, [], []⟩, ⟨8, [], []⟩, ⟨9, [], []⟩, ⟨10, [], []⟩, ⟨11, [], []⟩, ⟨3, [4, 5, 6, 7, 8, 9, 10, 11], []⟩, ⟨12, [], []⟩, ⟨13, [], []⟩, ⟨14, [], []⟩])), (10, ([], [⟨0, [], []⟩, ⟨1, [], []⟩, ⟨2, [], []⟩, ⟨3, [], []⟩, ⟨4, [], []⟩, ⟨5, [], []⟩, ⟨6, [], []⟩, ⟨7, [], []⟩, ⟨8, [], []⟩, ⟨9, [], []⟩, ⟨10, [], []⟩, ⟨11, [], []⟩, ⟨12, [], []⟩, ⟨13, [], []⟩, ⟨14, [], []⟩, ⟨15, [], []⟩, ⟨16, [], []⟩, ⟨17, [], []⟩, ⟨18, [], []⟩, ⟨19, [], []⟩, ⟨20, [], []⟩, ⟨21, [], []⟩, ⟨22, [0, 1, 2, 3, 4, 5, 6, 7, 8, 9, 10, 11, 12, 13, 14, 15, 16, 17, 18, 19], []⟩, ⟨23, [], []⟩, ⟨24, [], []⟩, ⟨25, [], []⟩]))]) Try.func24 (c := bodyOf Try.f24) rfl (by kernel_rfl) (by kernel_rfl) Try.ntmps24 (res := [.tmp 4, .tmp 5]) (by kernel_rfl) ?_
        repeat' ((conv => whnf); first | refine Rng.g ?_ | refine Ob.g ?_ | refine Ob.e ?_ | refine Ob.m ?_ | refine Ob.mk (Nat.le_of_ble_eq_true rfl) ?_ | refine JoinVC.on ?_ | refine Nils.mk (fun h => ?_) ?_ | refine Val.t ?_ | refine Val.d ?_ | refine Mm.mk ?_ | (refine Br.mk (fun h => ?_) (fun h => ?_) <;> first | (exfalso; omega; done) | (exfalso; simp at h; done) | skip))
        conv => whnf
        first | refine CallVC.mk [0, 1, 2, 3, 4, 5] _ _ _ rfl rfl rfl (c53) (fun r m' h' => ?_) | refine CallVC0.same [0, 1, 2, 3, 4, 5] _ _ _ rfl rfl rfl rfl (c53) (fun r m' h' => (by obtain ⟨rfl, rfl⟩ := h'; rfl)) (fun r m' h' => ?_) | (refine CallVC0.rows [0, 1, 2, 3, 4, 5] _ _ _ rfl rfl rfl ?_ (c53) (fun r m' h' => (by obtain ⟨rfl, rfl⟩ := h'; rfl)) (fun r m' h' => ?_); · (repeat' ((conv => whnf); first | exact trivial | exact rfl | exact Nat.le_refl _ | apply And.intro)))
        obtain ⟨rfl, rfl⟩ := h'
        conv => whnf
        repeat' ((conv => whnf); first | refine Rng.g ?_ | refine Ob.g ?_ | refine Ob.e ?_ | refine Ob.m ?_ | refine Ob.mk (Nat.le_of_ble_eq_true rfl) ?_ | refine JoinVC.on ?_ | refine Nils.mk (fun h => ?_) ?_ | refine Val.t ?_ | refine Val.d ?_ | refine Mm.mk ?_ | refine CallVC.pure rfl (c54) ?_ | refine CallVC0.pure rfl (c54) ?_ | (refine Br.mk (fun h => ?_) (fun h => ?_) <;> first | (exfalso; omega; done) | (exfalso; simp at h; done) | (exfalso; simp [ha] at h; done) | skip))
        conv => whnf
        first | refine CallVC.mk [0, 1, 2, 3, 4, 5] _ _ _ rfl rfl rfl (c62) (fun r m' h' => ?_) | refine CallVC0.same [0, 1, 2, 3, 4, 5] _ _ _ rfl rfl rfl rfl (c62) (fun r m' h' => (by obtain ⟨rfl, rfl⟩ := h'; rfl)) (fun r m' h' => ?_) | (refine CallVC0.rows [0, 1, 2, 3, 4, 5] _ _ _ rfl rfl rfl ?_ (c62) (fun r m' h' => (by obtain ⟨rfl, rfl⟩ := h'; rfl)) (fun r m' h' => ?_); · (repeat' ((conv => whnf); first | exact trivial | exact rfl | exact Nat.le_refl _ | apply And.intro)))
        obtain ⟨rfl, rfl⟩ := h'
        conv => whnf
        repeat' ((conv => whnf); first | refine Rng.g ?_ | refine Ob.g ?_ | refine Ob.e ?_ | refine Ob.m ?_ | refine Ob.mk (Nat.le_of_ble_eq_true rfl) ?_ | refine JoinVC.on ?_ | refine Nils.mk (fun h => ?_) ?_ | refine Val.t ?_ | refine Val.d ?_ | refine Mm.mk ?_ | (refine Br.mk (fun h => ?_) (fun h => ?_) <;> first | (exfalso; omega; done) | (exfalso; simp at h; done) | skip))
        conv => whnf
        first | refine CallVC.mk [0, 1, 2, 3, 4, 5] _ _ _ rfl rfl rfl (c63) (fun r m' h' => ?_) | refine CallVC0.same [0, 1, 2, 3, 4, 5] _ _ _ rfl rfl rfl rfl (c63) (fun r m' h' => (by obtain ⟨rfl, rfl⟩ := h'; rfl)) (fun r m' h' => ?_) | (refine CallVC0.rows [0, 1, 2, 3, 4, 5] _ _ _ rfl rfl rfl ?_ (c63) (fun r m' h' => (by obtain ⟨rfl, rfl⟩ := h'; rfl)) (fun r m' h' => ?_); · (repeat' ((conv => whnf); first | exact trivial | exact rfl | exact Nat.le_refl _ | apply And.intro)))
        obtain ⟨rfl, rfl⟩ := h'
        conv => whnf
        repeat' ((conv => whnf); first | rw [g0] | rw [g3] | rw [t1] | refine Rng.g ?_ | refine Ob.g ?_ | refine Ob.e ?_ | refine Ob.m ?_ | refine Ob.mk (Nat.le_of_ble_eq_true rfl) ?_ | refine JoinVC.on ?_ | refine Nils.mk (fun h => ?_) ?_ | refine Val.t ?_ | refine Val.d ?_ | refine Mm.mk ?_ | (refine Br.mk (fun h => ?_) (fun h => ?_) <;> first | (exfalso; omega; done) | (exfalso; simp at h; done) | skip))
        conv => whnf
        first | refine CallVC.mk [0, 1, 2, 3, 4, 5] _ _ _ rfl rfl rfl (c64) (fun r m' h' => ?_) | refine CallVC0.same [0, 1, 2, 3, 4, 5] _ _ _ rfl rfl rfl rfl (c64) (fun r m' h' => (by obtain ⟨rfl, rfl⟩ := h'; rfl)) (fun r m' h' => ?_) | (refine CallVC0.rows [0, 1, 2, 3, 4, 5] _ _ _ rfl rfl rfl ?_ (c64) (fun r m' h' => (by obtain ⟨rfl, rfl⟩ := h'; rfl)) (fun r m' h' => ?_); · (repeat' ((conv => whnf); first | exact trivial | exact rfl | exact Nat.le_refl _ | apply And.intro)))
        obtain ⟨rfl, rfl⟩ := h'
        conv => whnf
        repeat' ((conv => whnf); first | rw [g0] | rw [g3] | rw [t1] | refine Rng.g ?_ | refine Ob.g ?_ | refine Ob.e ?_ | refine Ob.m ?_ | refine Ob.mk (Nat.le_of_ble_eq_true rfl) ?_ | refine JoinVC.on ?_ | refine Nils.mk (fun h => ?_) ?_ | refine Val.t ?_ | refine Val.d ?_ | refine Mm.mk ?_ | (refine Br.mk (fun h => ?_) (fun h => ?_) <;> first | (exfalso; omega; done) | (exfalso; simp at h; done) | skip))
        conv => whnf
        first | refine CallVC.mk [0, 1, 2, 3, 4, 5] _ _ _ rfl rfl rfl (c65) (fun r m' h' => ?_) | refine CallVC0.same [0, 1, 2, 3, 4, 5] _ _ _ rfl rfl rfl rfl (c65) (fun r m' h' => (by obtain ⟨rfl, rfl⟩ := h'; rfl)) (fun r m' h' => ?_) | (refine CallVC0.rows [0, 1, 2, 3, 4, 5] _ _ _ rfl rfl rfl ?_ (c65) (fun r m' h' => (by obtain ⟨rfl, rfl⟩ := h'; rfl)) (fun r m' h' => ?_); · (repeat' ((conv => whnf); first | exact trivial | exact rfl | exact Nat.le_refl _ | apply And.intro)))
        obtain ⟨rfl, rfl⟩ := h'
        conv => whnf
        repeat' ((conv => whnf); first | refine Rng.g ?_ | refine Ob.g ?_ | refine Ob.e ?_ | refine Ob.m ?_ | refine Ob.mk (Nat.le_of_ble_eq_true rfl) ?_ | refine JoinVC.on ?_ | refine Nils.mk (fun h => ?_) ?_ | refine Val.t ?_ | refine Val.d ?_ | refine Mm.mk ?_ | (refine Br.mk (fun h => ?_) (fun h => ?_) <;> first | (exfalso; omega; done) | (exfalso; simp at h; done) | skip))
        repeat refine Mm.mk ?_
        conv => whnf
        refine EndVC.mk _ rfl _ _ (secR.ok hE hX) ?_
        refine ⟨[some 0, some 1, some 2, some 3, some 4, some 5], rfl, rfl, ?_, ?_⟩ <;> repeat' (first | exact trivial | exact rfl | exact Iff.rfl | apply And.intro)
    · have hE : secE S a = 15 := by unfold secE; rw [if_neg hv, if_neg hh1, if_pos (.inr (.inr (by rw [hX]; exact hl)))]
      rw [if_neg hl] at c65
      generalize layE S (secA a 0) = le at c65 hl
      rw [hned] at hn
      clear hth
      rcases hk3 with ⟨hk, ht⟩ | ⟨hk, ht⟩ | ⟨hk, ht⟩
      all_goals
        subst ht
        rw [hk] at g0
        refine spec_of pMix (O := [(8, ([12], [⟨0, [], []⟩, ⟨1, [], []⟩, ⟨2, [], []⟩, ⟨4, [], []⟩, ⟨5, [], []⟩, ⟨6, [], []⟩, ⟨7, [], []⟩, ⟨8, [], []⟩, ⟨9, [], []⟩, ⟨10, [], []⟩, ⟨11, [], []⟩, ⟨3, [4, 5, 6, 7, 8, 9, 10, 11], []⟩, ⟨12, [], []⟩, ⟨13, [], []⟩, ⟨14, [], []⟩])), (10, ([], [⟨0, [], []⟩, ⟨1, [], []⟩, ⟨2, [], []⟩, ⟨3, [], []⟩, ⟨4, [], []⟩, ⟨5, [], []⟩, ⟨6, [], []⟩, ⟨7, [], []⟩, ⟨8, [], []⟩, ⟨9, [], []⟩, ⟨10, [], []⟩, ⟨11, [], []⟩, ⟨12, [], []⟩, ⟨13, [], []⟩, ⟨14, [], []⟩, ⟨15, [], []⟩, ⟨16, [], []⟩, ⟨17, [], []⟩, ⟨18, [], []⟩, ⟨19, [], []⟩, ⟨20, [], []⟩, ⟨21, [], []⟩, ⟨22, [0, 1, 2, 3, 4, 5, 6, 7, 8, 9, 10, 11, 12, 13, 14, 15, 16, 17, 18, 19], []⟩, ⟨23, [], []⟩, ⟨24, [], []⟩, ⟨25, [], []⟩]))]) Try.func24 (c := bodyOf Try.f24) rfl (by kernel_rfl) (by kernel_rfl) Try.ntmps24 (res := [.tmp 4, .tmp 5]) (by kernel_rfl) ?_
        repeat' ((conv => whnf); first | refine Rng.g ?_ | refine Ob.g ?_ | refine Ob.e ?_ | refine Ob.m ?_ | refine Ob.mk (Nat.le_of_ble_eq_true rfl) ?_ | refine JoinVC.on ?_ | refine Nils.mk (fun h => ?_) ?_ | refine Val.t ?_ | refine Val.d ?_ | refine Mm.mk ?_ | (refine Br.mk (fun h => ?_) (fun h => ?_) <;> first | (exfalso; omega; done) | (exfalso; simp at h; done) | skip))
        conv => whnf
        first | refine CallVC.mk [0, 1, 2, 3, 4, 5] _ _ _ rfl rfl rfl (c53) (fun r m' h' => ?_) | refine CallVC0.same [0, 1, 2, 3, 4, 5] _ _ _ rfl rfl rfl rfl (c53) (fun r m' h' => (by obtain ⟨rfl, rfl⟩ := h'; rfl)) (fun r m' h' => ?_) | (refine CallVC0.rows [0, 1, 2, 3, 4, 5] _ _ _ rfl rfl rfl ?_ (c53) (fun r m' h' => (by obtain ⟨rfl, rfl⟩ := h'; rfl)) (fun r m' h' => ?_); · (repeat' ((conv => whnf); first | exact trivial | exact rfl | exact Nat.le_refl _ | apply And.intro)))
        obtain ⟨rfl, rfl⟩ := h'
        conv => whnf
        repeat' ((conv => whnf); first | refine Rng.g ?_ | refine Ob.g ?_ | refine Ob.e ?_ | refine Ob.m ?_ | refine Ob.mk (Nat.le_of_ble_eq_true rfl) ?_ | refine JoinVC.on ?_ | refine Nils.mk (fun h => ?_) ?_ | refine Val.t ?_ | refine Val.d ?_ | refine Mm.mk ?_ | refine CallVC.pure rfl (c54) ?_ | refine CallVC0.pure rfl (c54) ?_ | (refine Br.mk (fun h => ?_) (fun h => ?_) <;> first | (exfalso; omega; done) | (exfalso; simp at h; done) | (exfalso; simp [ha] at h; done) | skip))
        conv => whnf
        first | refine CallVC.mk [0, 1, 2, 3, 4, 5] _ _ _ rfl rfl rfl (c62) (fun r m' h' => ?_) | refine CallVC0.same [0, 1, 2, 3, 4, 5] _ _ _ rfl rfl rfl rfl (c62) (fun r m' h' => (by obtain ⟨rfl, rfl⟩ := h'; rfl)) (fun r m' h' => ?_) | (refine CallVC0.rows [0, 1, 2, 3, 4, 5] _ _ _ rfl rfl rfl ?_ (c62) (fun r m' h' => (by obtain ⟨rfl, rfl⟩ := h'; rfl)) (fun r m' h' => ?_); · (repeat' ((conv => whnf); first | exact trivial | exact rfl | exact Nat.le_refl _ | apply And.intro)))
        obtain ⟨rfl, rfl⟩ := h'
        conv => whnf
        repeat' ((conv => whnf); first | refine Rng.g ?_ | refine Ob.g ?_ | refine Ob.e ?_ | refine Ob.m ?_ | refine Ob.mk (Nat.le_of_ble_eq_true rfl) ?_ | refine JoinVC.on ?_ | refine Nils.mk (fun h => ?_) ?_ | refine Val.t ?_ | refine Val.d ?_ | refine Mm.mk ?_ | (refine Br.mk (fun h => ?_) (fun h => ?_) <;> first | (exfalso; omega; done) | (exfalso; simp at h; done) | skip))
        conv => whnf
        first | refine CallVC.mk [0, 1, 2, 3, 4, 5] _ _ _ rfl rfl rfl (c63) (fun r m' h' => ?_) | refine CallVC0.same [0, 1, 2, 3, 4, 5] _ _ _ rfl rfl rfl rfl (c63) (fun r m' h' => (by obtain ⟨rfl, rfl⟩ := h'; rfl)) (fun r m' h' => ?_) | (refine CallVC0.rows [0, 1, 2, 3, 4, 5] _ _ _ rfl rfl rfl ?_ (c63) (fun r m' h' => (by obtain ⟨rfl, rfl⟩ := h'; rfl)) (fun r m' h' => ?_); · (repeat' ((conv => whnf); first | exact trivial | exact rfl | exact Nat.le_refl _ | apply And.intro)))
        obtain ⟨rfl, rfl⟩ := h'
        conv => whnf
        repeat' ((conv => whnf); first | rw [g0] | rw [g3] | rw [t1] | refine Rng.g ?_ | refine Ob.g ?_ | refine Ob.e ?_ | refine Ob.m ?_ | refine Ob.mk (Nat.le_of_ble_eq_true rfl) ?_ | refine JoinVC.on ?_ | refine Nils.mk (fun h => ?_) ?_ | refine Val.t ?_ | refine Val.d ?_ | refine Mm.mk ?_ | (refine Br.mk (fun h => ?_) (fun h => ?_) <;> first | (exfalso; omega; done) | (exfalso; simp at h; done) | skip))
        conv => whnf
        first | refine CallVC.mk [0, 1, 2, 3, 4, 5] _ _ _ rfl rfl rfl (c64) (fun r m' h' => ?_) | refine CallVC0.same [0, 1, 2, 3, 4, 5] _ _ _ rfl rfl rfl rfl (c64) (fun r m' h' => (by obtain ⟨rfl, rfl⟩ := h'; rfl)) (fun r m' h' => ?_) | (refine CallVC0.rows [0, 1, 2, 3, 4, 5] _ _ _ rfl rfl rfl ?_ (c64) (fun r m' h' => (by obtain ⟨rfl, rfl⟩ := h'; rfl)) (fun r m' h' => ?_); · (repeat' ((conv => whnf); first | exact trivial | exact rfl | exact Nat.le_refl _ | apply And.intro)))
        obtain ⟨rfl, rfl⟩ := h'
        conv => whnf
        repeat' ((conv => whnf); first | rw [g0] | rw [g3] | rw [t1] | refine Rng.g ?_ | refine Ob.g ?_ | refine Ob.e ?_ | refine Ob.m ?_ | refine Ob.mk (Nat.le_of_ble_eq_true rfl) ?_ | refine JoinVC.on ?_ | refine Nils.mk (fun h => ?_) ?_ | refine Val.t ?_ | refine Val.d ?_ | refine Mm.mk ?_ | (refine Br.mk (fun h => ?_) (fun h => ?_) <;> first | (exfalso; omega; done) | (exfalso; simp at h; done) | skip))
        conv => whnf
        first | refine CallVC.mk [0, 1, 2, 3, 4, 5] _ _ _ rfl rfl rfl (c65) (fun r m' h' => ?_) | refine CallVC0.same [0, 1, 2, 3, 4, 5] _ _ _ rfl rfl rfl rfl (c65) (fun r m' h' => (by obtain ⟨rfl, rfl⟩ := h'; rfl)) (fun r m' h' => ?_) | (refine CallVC0.rows [0, 1, 2, 3, 4, 5] _ _ _ rfl rfl rfl ?_ (c65) (fun r m' h' => (by obtain ⟨rfl, rfl⟩ := h'; rfl)) (fun r m' h' => ?_); · (repeat' ((conv => whnf); first | exact trivial | exact rfl | exact Nat.le_refl _ | apply And.intro)))
        obtain ⟨rfl, rfl⟩ := h'
        conv => whnf
        repeat' ((conv => whnf); first | refine Rng.g ?_ | refine Ob.g ?_ | refine Ob.e ?_ | refine Ob.m ?_ | refine Ob.mk (Nat.le_of_ble_eq_true rfl) ?_ | refine JoinVC.on ?_ | refine Nils.mk (fun h => ?_) ?_ | refine Val.t ?_ | refine Val.d ?_ | refine Mm.mk ?_ | (refine Br.mk (fun h => ?_) (fun h => ?_) <;> first | (exfalso; omega; done) | (exfalso; simp at h; done) | skip))
        repeat refine Mm.mk ?_
        conv => whnf
        refine EndVC.mk _ rfl _ _ (secR.err hE (by decide)) ?_
        refine ⟨[some 0, some 1, some 2, some 3, some 4, some 5], rfl, rfl, ?_, ?_⟩ <;> repeat' (first | exact trivial | exact rfl | exact Iff.rfl | apply And.intro)
end Go.Sx

namespace Go.Sx
open Go Go.Proofs
set_option maxRecDepth 10000
set_option maxHeartbeats 4000000
/-! ### Seconds: what they are good for -/
end Go.Sx

namespace Go.Sx
open Go Go.Proofs
set_option maxRecDepth 10000
set_option maxHeartbeats 8000000
/-! ### Seconds: the law -/
theorem s21e (S : Sho) (ms : List MS) (hS : ShOK S) (hM : MsOK ms S.be) (a : Act2) {e : Int} (he : doE S a = e) : HSpec Try.prog 21 [.one (.ptr 0 0), a.x] (shM S ms) (fun r m' => ∃ ms', MsOK ms' (doS S a).be ∧ r = .tup [I (doN S a), I e] ∧ m' = shO (doS S a) ms') := by
  subst he
  exact s21 S ms hS hM a
end Go.Sx

namespace Go.Sx
open Go Go.Proofs
set_option maxRecDepth 10000
set_option maxHeartbeats 8000000
theorem e9 : EntersF Try.prog 9 := enters_of Try.func9 (c := bodyOf Try.f9) (by kernel_rfl) rfl
/-! ### The chapter's examples -/
@[reducible] def exB : List Act2 := [⟨1, 7, 1000, 0, 0, 0, 0, 0, 0, 0, 0, 0, 0⟩, ⟨2, 0, 0, 2000, 500, 0, 0, 0, 0, 0, 0, 0, 0⟩, groA 0 0]
theorem exQ1 : repS (shop0 exR) exB 1 = exS1 := (congrArg (doS · (exA.getD 0 ac0)) exP0).trans exD0
theorem exQ2 : repS (shop0 exR) exB 2 = exS2 := (congrArg (doS · (exA.getD 1 ac0)) exQ1).trans exD1
theorem exQ3 : repS (shop0 exR) exB 3 = exS3 := (congrArg (doS · (exA.getD 2 ac0)) exQ2).trans exD2
theorem exGB : goodTo (shop0 exR) exB 3 := fun j hj => by
  rcases (show j = 0 ∨ j = 1 ∨ j = 2 by omega) with rfl | rfl | rfl
  · exact exE0
  · rw [exQ1]; exact exE1
  · rw [exQ2]; exact exE2
theorem kE : doE exS3 (groA 0 0) = 10 := by kernel_rfl
theorem kD : doS exS3 (groA 0 0) = exS3 := by kernel_rfl
@[reducible] def kA : Act2 := ⟨3, 0, 0, 0, 0, 1, 0, 50, 1, 100, 1, 0, 0⟩
theorem kS : secE exS3 kA = 0 := by decide +kernel
theorem kN : secN exS3 kA = 2 := by decide +kernel
theorem kN3 : needN exS8 0 3 = 1 := by kernel_rfl
theorem kE3 : needE exS8 0 3 = 0 := by kernel_rfl
theorem kN4 : needN exS8 0 4 = 3 := by kernel_rfl
theorem kE4 : needE exS8 0 4 = 0 := by kernel_rfl
theorem kN6 : needN exS8 0 6 = 5 := by kernel_rfl
theorem kE7 : needE exS8 0 7 = 15 := by kernel_rfl
theorem s9 : PSpec Try.prog 9 [] (xP True) := by
  have c34 := s34 exR exB (by decide)
  have hS3 : ShOK exS3 := by have := ShOK.repS (ShOK.new exOK) exB 3; rwa [exQ3] at this
  refine spec_of pMix (O := []) Try.func9 (c := bodyOf Try.f9) rfl (by kernel_rfl) (by kernel_rfl) Try.ntmps9 (res := [.tmp 0]) (by kernel_rfl) ?_
  repeat' ((conv => whnf); first | refine Rng.g ?_ | refine Ob.g ?_ | refine Ob.e ?_ | refine Ob.m ?_ | refine Ob.mk (Nat.le_of_ble_eq_true rfl) ?_ | refine JoinVC.on ?_ | refine Nils.mk (fun h => ?_) ?_ | refine Val.t ?_ | refine Val.d ?_ | refine Mm.mk ?_ | refine CallVC.pure rfl (s35) ?_ | refine CallVC0.pure rfl (s35) ?_ | (refine Br.mk (fun h => ?_) (fun h => ?_) <;> first | (exfalso; omega; done) | (exfalso; simp at h; done) | skip))
  conv => whnf
  refine CallVC.mk [] _ _ _ rfl rfl rfl (s36) (fun r m' h' => ?_)
  obtain ⟨rfl, rfl⟩ := h'
  conv => whnf
  repeat' ((conv => whnf); first | refine Rng.g ?_ | refine Ob.g ?_ | refine Ob.e ?_ | refine Ob.m ?_ | refine Ob.mk (Nat.le_of_ble_eq_true rfl) ?_ | refine JoinVC.on ?_ | refine Nils.mk (fun h => ?_) ?_ | refine Val.t ?_ | refine Val.d ?_ | refine Mm.mk ?_ | (refine Br.mk (fun h => ?_) (fun h => ?_) <;> first | (exfalso; omega; done) | (exfalso; simp at h; done) | skip))
  conv => whnf
  refine CallVC.mk [] _ _ _ rfl rfl rfl (c34) (fun r m' h' => ?_)
  cases h' with
  | bad h hv hm => exact absurd exOK h
  | err h i hi hg e he h0 hv hm => exact absurd (exGB i hi) (by rw [he]; exact h0)
  | ok h hg ms hM hv hm =>
    have e3 : repS (shop0 exR) exB exB.length = exS3 := exQ3
    rw [e3] at hm hM
    subst hv hm
    have c22 := s22 exS3 ms hS3
    have c19 := s19 exS3 ms hS3
    repeat' ((conv => whnf); first | refine Rng.g ?_ | refine Ob.g ?_ | refine Ob.e ?_ | refine Ob.m ?_ | refine Ob.mk (Nat.le_of_ble_eq_true rfl) ?_ | refine JoinVC.on ?_ | refine Nils.mk (fun h => ?_) ?_ | refine Val.t ?_ | refine Val.d ?_ | refine Mm.mk ?_ | (refine Br.mk (fun h => ?_) (fun h => ?_) <;> first | (exfalso; omega; done) | (exfalso; simp at h; done) | skip))
    conv => whnf
    first | refine CallVC.mk [0, 1, 2, 3, 4, 5] _ _ _ rfl rfl rfl (c22) (fun r m' h' => ?_) | refine CallVC0.same [0, 1, 2, 3, 4, 5] _ _ _ rfl rfl rfl rfl (c22) (fun r m' h' => (by obtain ⟨rfl, rfl⟩ := h'; rfl)) (fun r m' h' => ?_) | (refine CallVC0.rows [0, 1, 2, 3, 4, 5] _ _ _ rfl rfl rfl ?_ (c22) (fun r m' h' => (by obtain ⟨rfl, rfl⟩ := h'; rfl)) (fun r m' h' => ?_); · (repeat' ((conv => whnf); first | exact trivial | exact rfl | exact Nat.le_refl _ | apply And.intro)))
    obtain ⟨rfl, rfl⟩ := h'
    conv => whnf
    repeat' ((conv => whnf); first | refine Rng.g ?_ | refine Ob.g ?_ | refine Ob.e ?_ | refine Ob.m ?_ | refine Ob.mk (Nat.le_of_ble_eq_true rfl) ?_ | refine JoinVC.on ?_ | refine Nils.mk (fun h => ?_) ?_ | refine Val.t ?_ | refine Val.d ?_ | refine Mm.mk ?_ | (refine Br.mk (fun h => ?_) (fun h => ?_) <;> first | (exfalso; omega; done) | (exfalso; simp at h; done) | skip))
    conv => whnf
    first | refine CallVC.mk [0, 1, 2, 3, 4, 5] _ _ _ rfl rfl rfl (c19) (fun r m' h' => ?_) | refine CallVC0.same [0, 1, 2, 3, 4, 5] _ _ _ rfl rfl rfl rfl (c19) (fun r m' h' => (by obtain ⟨rfl, rfl⟩ := h'; rfl)) (fun r m' h' => ?_) | (refine CallVC0.rows [0, 1, 2, 3, 4, 5] _ _ _ rfl rfl rfl ?_ (c19) (fun r m' h' => (by obtain ⟨rfl, rfl⟩ := h'; rfl)) (fun r m' h' => ?_); · (repeat' ((conv => whnf); first | exact trivial | exact rfl | exact Nat.le_refl _ | apply And.intro)))
    obtain ⟨rfl, rfl⟩ := h'
    conv => whnf
    have t0 : rI (tkA exS3.tk) (0 : Int).toNat 0 = 1725 := rfl
    have t1 : rI (tkA exS3.tk) (0 : Int).toNat ((0 + 1)) = 500 := rfl
    have t2 : rI (tkA exS3.tk) (0 : Int).toNat ((0 + 1 + 1)) = 550 := rfl
    have t3 : rI (tkA exS3.tk) (0 : Int).toNat ((0 + 1 + 1 + 1)) = 275 := rfl
    have lt : (tkA exS3.tk).length = 1 := rfl
    have lp : (plA exS3.pl).length = 2 := rfl
    have lB : exB.length = 3 := rfl
    have c37a := s37 0 0
    have c37b := s37 1 0
    have c21 := s21e exS3 ms hS3 hM (groA 0 0) kE
    rw [kD] at c21
    repeat' ((conv => whnf); first | rw [t0] | rw [t1] | rw [t2] | rw [t3] | rw [lt] | rw [lp] | rw [lB] | refine Rng.g ?_ | refine Ob.g ?_ | refine Ob.e ?_ | refine Ob.m ?_ | refine Ob.mk (Nat.le_of_ble_eq_true rfl) ?_ | refine JoinVC.on ?_ | refine Nils.mk (fun h => ?_) ?_ | refine Val.t ?_ | refine Val.d ?_ | refine Mm.mk ?_ | refine CallVC.pure rfl (c37a) ?_ | refine CallVC.pure rfl (c37b) ?_ | refine CallVC0.pure rfl (c37a) ?_ | refine CallVC0.pure rfl (c37b) ?_ | (refine Br.mk (fun h => ?_) (fun h => ?_) <;> first | (exfalso; omega; done) | (exfalso; simp at h; done) | skip))
    all_goals first
      | (rename_i h; exact (h ⟨rfl, rfl, rfl, rfl, rfl, rfl, rfl, trivial⟩).elim)
      | skip
    conv => whnf
    refine CallVC.mk [0, 1, 2, 3, 4, 5] _ _ _ rfl rfl rfl (c21) (fun r m' h' => ?_)
    obtain ⟨ms2, hM2, rfl, rfl⟩ := h'
    conv => whnf
    have c24 := s24 exS3 ms2 hS3 kA
    unfold secR at c24
    rw [kS, kN] at c24
    repeat' ((conv => whnf); first | refine Rng.g ?_ | refine Ob.g ?_ | refine Ob.e ?_ | refine Ob.m ?_ | refine Ob.mk (Nat.le_of_ble_eq_true rfl) ?_ | refine JoinVC.on ?_ | refine Nils.mk (fun h => ?_) ?_ | refine Val.t ?_ | refine Val.d ?_ | refine Mm.mk ?_ | refine CallVC.pure rfl (c37a) ?_ | refine CallVC.pure rfl (c37b) ?_ | refine CallVC0.pure rfl (c37a) ?_ | refine CallVC0.pure rfl (c37b) ?_ | (refine Br.mk (fun h => ?_) (fun h => ?_) <;> first | (exfalso; omega; done) | (exfalso; simp at h; done) | skip))
    conv => whnf
    first | refine CallVC.mk [0, 6, 2, 7, 8, 9] _ _ _ rfl rfl rfl (c24) (fun r m' h' => ?_) | refine CallVC0.same [0, 6, 2, 7, 8, 9] _ _ _ rfl rfl rfl rfl (c24) (fun r m' h' => (by obtain ⟨rfl, rfl⟩ := h'; rfl)) (fun r m' h' => ?_) | (refine CallVC0.rows [0, 6, 2, 7, 8, 9] _ _ _ rfl rfl rfl ?_ (c24) (fun r m' h' => (by obtain ⟨rfl, rfl⟩ := h'; rfl)) (fun r m' h' => ?_); · (repeat' ((conv => whnf); first | exact trivial | exact rfl | exact Nat.le_refl _ | apply And.intro)))
    obtain ⟨rfl, rfl⟩ := h'
    conv => whnf
    repeat' ((conv => whnf); first | refine Rng.g ?_ | refine Ob.g ?_ | refine Ob.e ?_ | refine Ob.m ?_ | refine Ob.mk (Nat.le_of_ble_eq_true rfl) ?_ | refine JoinVC.on ?_ | refine Nils.mk (fun h => ?_) ?_ | refine Val.t ?_ | refine Val.d ?_ | refine Mm.mk ?_ | refine CallVC.pure rfl (s35) ?_ | refine CallVC0.pure rfl (s35) ?_ | (refine Br.mk (fun h => ?_) (fun h => ?_) <;> first | (exfalso; omega; done) | (exfalso; simp at h; done) | skip))
    conv => whnf
    refine CallVC.mk [] _ _ _ rfl rfl rfl (s36) (fun r m' h' => ?_)
    obtain ⟨rfl, rfl⟩ := h'
    conv => whnf
    have c34b := s34 exR exA (by decide)
    have hS : ShOK exS8 := by have := ShOK.repS (ShOK.new exOK) exA 8; rwa [exP8] at this
    repeat' ((conv => whnf); first | refine Rng.g ?_ | refine Ob.g ?_ | refine Ob.e ?_ | refine Ob.m ?_ | refine Ob.mk (Nat.le_of_ble_eq_true rfl) ?_ | refine JoinVC.on ?_ | refine Nils.mk (fun h => ?_) ?_ | refine Val.t ?_ | refine Val.d ?_ | refine Mm.mk ?_ | (refine Br.mk (fun h => ?_) (fun h => ?_) <;> first | (exfalso; omega; done) | (exfalso; simp at h; done) | skip))
    conv => whnf
    refine CallVC.mk [] _ _ _ rfl rfl rfl (c34b) (fun r m' h' => ?_)
    cases h' with
    | bad h hv hm => exact absurd exOK h
    | err h i hi hg e he h0 hv hm => exact absurd (exG i hi) (by rw [he]; exact h0)
    | ok h hg ms5 hM5 hv hm =>
      have e8 : repS (shop0 exR) exA exA.length = exS8 := exP8
      rw [e8] at hm hM5
      subst hv hm
      repeat' ((conv => whnf); first | refine Rng.g ?_ | refine Ob.g ?_ | refine Ob.e ?_ | refine Ob.m ?_ | refine Ob.mk (Nat.le_of_ble_eq_true rfl) ?_ | refine JoinVC.on ?_ | refine Nils.mk (fun h => ?_) ?_ | refine Val.t ?_ | refine Val.d ?_ | refine Mm.mk ?_ | (refine Br.mk (fun h => ?_) (fun h => ?_) <;> first | (exfalso; omega; done) | (exfalso; simp at h; done) | skip))
      refine LoopVC.mk (fun n st => ∃ (i : Nat), i ≤ 3 ∧ n = 3 - i ∧ st = ⟨0, envA 153 [(1, .x (.one (.ptr 0 0))), (11, .x (.one (.own 6))), (12, .int .i64 (i : Int))], shK exS8 ms5 ++ [some (rw [1, 3, 5])]⟩) _ _ ⟨0, by omega, rfl, rfl⟩ ?_ ?_
      · refine ⟨[some 11, some 12, some 13, some 14, some 15, some 16, some 17], rfl, rfl, ?_, ?_⟩ <;> repeat' (first | exact trivial | exact rfl | exact Iff.rfl | apply And.intro)
      rintro n _ ⟨i, hi, hn, rfl⟩
      have c3 := s26 exS8 ms5 hS 0 3
      rw [kN3, kE3] at c3
      have c4 := s26 exS8 ms5 hS 0 4
      rw [kN4, kE4] at c4
      have c6 := s26 exS8 ms5 hS 0 6
      rw [kN6, exNe] at c6
      have c7 := s26 exS8 ms5 hS 0 7
      rw [kE7] at c7
      have c38 : HSpec Try.prog 38 [.one (.ptr 0 0), I 0] (shM exS8 ms5) (fun r m' => r = .tup [I 1, I 9, I 0] ∧ m' = shK exS8 ms5) := by
        have c38 := s38 exS8 ms5 0
        rw [if_pos (by decide)] at c38
        exact c38
      have g0 : rI (i64s [1, 3, 5]) ((0 : Nat) : Int).toNat 0 = 1 := rfl
      have g1 : rI (i64s [1, 3, 5]) ((1 : Nat) : Int).toNat 0 = 3 := rfl
      have g2 : rI (i64s [1, 3, 5]) ((2 : Nat) : Int).toNat 0 = 5 := rfl
      have lr : (i64s [1, 3, 5]).length = 3 := rfl
      rcases (show i = 0 ∨ i = 1 ∨ i = 2 ∨ i = 3 by omega) with rfl | rfl | rfl | rfl
      · repeat' ((conv => whnf); first | refine Rng.g ?_ | refine Ob.g ?_ | refine Ob.e ?_ | refine Ob.m ?_ | refine Ob.mk (Nat.le_of_ble_eq_true rfl) ?_ | refine JoinVC.on ?_ | refine Nils.mk (fun h => ?_) ?_ | refine Val.t ?_ | refine Val.d ?_ | refine Mm.mk ?_ | (refine Br.mk (fun h => ?_) (fun h => ?_) <;> first | (exfalso; omega; done) | (exfalso; simp at h; done) | skip))
        conv => whnf
        first | refine CallVC.mk [0, 1, 2, 3, 4, 5] _ _ _ rfl rfl rfl (c3) (fun r m' h' => ?_) | refine CallVC0.same [0, 1, 2, 3, 4, 5] _ _ _ rfl rfl rfl rfl (c3) (fun r m' h' => (by obtain ⟨rfl, rfl⟩ := h'; rfl)) (fun r m' h' => ?_) | (refine CallVC0.rows [0, 1, 2, 3, 4, 5] _ _ _ rfl rfl rfl ?_ (c3) (fun r m' h' => (by obtain ⟨rfl, rfl⟩ := h'; rfl)) (fun r m' h' => ?_); · (repeat' ((conv => whnf); first | exact trivial | exact rfl | exact Nat.le_refl _ | apply And.intro)))
        obtain ⟨rfl, rfl⟩ := h'
        conv => whnf
        repeat' ((conv => whnf); first | rw [g0] | rw [lr] | refine Rng.g ?_ | refine Ob.g ?_ | refine Ob.e ?_ | refine Ob.m ?_ | refine Ob.mk (Nat.le_of_ble_eq_true rfl) ?_ | refine JoinVC.on ?_ | refine Nils.mk (fun h => ?_) ?_ | refine Val.t ?_ | refine Val.d ?_ | refine Mm.mk ?_ | (refine Br.mk (fun h => ?_) (fun h => ?_) <;> first | (exfalso; omega; done) | (exfalso; simp at h; done) | skip))
        refine Back.mk (3 - (0 + 1)) _ (by omega) ⟨0 + 1, by omega, rfl, rfl⟩ ?_
        refine ⟨[some 0, some 1, some 2, some 3, some 4, some 5, some 6], rfl, rfl, ?_, ?_⟩ <;> repeat' (first | exact trivial | exact rfl | exact Iff.rfl | apply And.intro)
      · repeat' ((conv => whnf); first | refine Rng.g ?_ | refine Ob.g ?_ | refine Ob.e ?_ | refine Ob.m ?_ | refine Ob.mk (Nat.le_of_ble_eq_true rfl) ?_ | refine JoinVC.on ?_ | refine Nils.mk (fun h => ?_) ?_ | refine Val.t ?_ | refine Val.d ?_ | refine Mm.mk ?_ | (refine Br.mk (fun h => ?_) (fun h => ?_) <;> first | (exfalso; omega; done) | (exfalso; simp at h; done) | skip))
        conv => whnf
        first | refine CallVC.mk [0, 1, 2, 3, 4, 5] _ _ _ rfl rfl rfl (c4) (fun r m' h' => ?_) | refine CallVC0.same [0, 1, 2, 3, 4, 5] _ _ _ rfl rfl rfl rfl (c4) (fun r m' h' => (by obtain ⟨rfl, rfl⟩ := h'; rfl)) (fun r m' h' => ?_) | (refine CallVC0.rows [0, 1, 2, 3, 4, 5] _ _ _ rfl rfl rfl ?_ (c4) (fun r m' h' => (by obtain ⟨rfl, rfl⟩ := h'; rfl)) (fun r m' h' => ?_); · (repeat' ((conv => whnf); first | exact trivial | exact rfl | exact Nat.le_refl _ | apply And.intro)))
        obtain ⟨rfl, rfl⟩ := h'
        conv => whnf
        repeat' ((conv => whnf); first | rw [g1] | rw [lr] | refine Rng.g ?_ | refine Ob.g ?_ | refine Ob.e ?_ | refine Ob.m ?_ | refine Ob.mk (Nat.le_of_ble_eq_true rfl) ?_ | refine JoinVC.on ?_ | refine Nils.mk (fun h => ?_) ?_ | refine Val.t ?_ | refine Val.d ?_ | refine Mm.mk ?_ | (refine Br.mk (fun h => ?_) (fun h => ?_) <;> first | (exfalso; omega; done) | (exfalso; simp at h; done) | skip))
        refine Back.mk (3 - (1 + 1)) _ (by omega) ⟨1 + 1, by omega, rfl, rfl⟩ ?_
        refine ⟨[some 0, some 1, some 2, some 3, some 4, some 5, some 6], rfl, rfl, ?_, ?_⟩ <;> repeat' (first | exact trivial | exact rfl | exact Iff.rfl | apply And.intro)
      · repeat' ((conv => whnf); first | refine Rng.g ?_ | refine Ob.g ?_ | refine Ob.e ?_ | refine Ob.m ?_ | refine Ob.mk (Nat.le_of_ble_eq_true rfl) ?_ | refine JoinVC.on ?_ | refine Nils.mk (fun h => ?_) ?_ | refine Val.t ?_ | refine Val.d ?_ | refine Mm.mk ?_ | (refine Br.mk (fun h => ?_) (fun h => ?_) <;> first | (exfalso; omega; done) | (exfalso; simp at h; done) | skip))
        conv => whnf
        first | refine CallVC.mk [0, 1, 2, 3, 4, 5] _ _ _ rfl rfl rfl (c6) (fun r m' h' => ?_) | refine CallVC0.same [0, 1, 2, 3, 4, 5] _ _ _ rfl rfl rfl rfl (c6) (fun r m' h' => (by obtain ⟨rfl, rfl⟩ := h'; rfl)) (fun r m' h' => ?_) | (refine CallVC0.rows [0, 1, 2, 3, 4, 5] _ _ _ rfl rfl rfl ?_ (c6) (fun r m' h' => (by obtain ⟨rfl, rfl⟩ := h'; rfl)) (fun r m' h' => ?_); · (repeat' ((conv => whnf); first | exact trivial | exact rfl | exact Nat.le_refl _ | apply And.intro)))
        obtain ⟨rfl, rfl⟩ := h'
        conv => whnf
        repeat' ((conv => whnf); first | rw [g2] | rw [lr] | refine Rng.g ?_ | refine Ob.g ?_ | refine Ob.e ?_ | refine Ob.m ?_ | refine Ob.mk (Nat.le_of_ble_eq_true rfl) ?_ | refine JoinVC.on ?_ | refine Nils.mk (fun h => ?_) ?_ | refine Val.t ?_ | refine Val.d ?_ | refine Mm.mk ?_ | (refine Br.mk (fun h => ?_) (fun h => ?_) <;> first | (exfalso; omega; done) | (exfalso; simp at h; done) | skip))
        refine Back.mk (3 - (2 + 1)) _ (by omega) ⟨2 + 1, by omega, rfl, rfl⟩ ?_
        refine ⟨[some 0, some 1, some 2, some 3, some 4, some 5, some 6], rfl, rfl, ?_, ?_⟩ <;> repeat' (first | exact trivial | exact rfl | exact Iff.rfl | apply And.intro)
      · repeat' ((conv => whnf); first | refine Rng.g ?_ | refine Ob.g ?_ | refine Ob.e ?_ | refine Ob.m ?_ | refine Ob.mk (Nat.le_of_ble_eq_true rfl) ?_ | refine JoinVC.on ?_ | refine Nils.mk (fun h => ?_) ?_ | refine Val.t ?_ | refine Val.d ?_ | refine Mm.mk ?_ | (refine Br.mk (fun h => ?_) (fun h => ?_) <;> first | (exfalso; omega; done) | (exfalso; simp at h; done) | skip))
        conv => whnf
        first | refine CallVC.mk [0, 1, 2, 3, 4, 5] _ _ _ rfl rfl rfl (c7) (fun r m' h' => ?_) | refine CallVC0.same [0, 1, 2, 3, 4, 5] _ _ _ rfl rfl rfl rfl (c7) (fun r m' h' => (by obtain ⟨rfl, rfl⟩ := h'; rfl)) (fun r m' h' => ?_) | (refine CallVC0.rows [0, 1, 2, 3, 4, 5] _ _ _ rfl rfl rfl ?_ (c7) (fun r m' h' => (by obtain ⟨rfl, rfl⟩ := h'; rfl)) (fun r m' h' => ?_); · (repeat' ((conv => whnf); first | exact trivial | exact rfl | exact Nat.le_refl _ | apply And.intro)))
        obtain ⟨rfl, rfl⟩ := h'
        conv => whnf
        repeat' ((conv => whnf); first | refine Rng.g ?_ | refine Ob.g ?_ | refine Ob.e ?_ | refine Ob.m ?_ | refine Ob.mk (Nat.le_of_ble_eq_true rfl) ?_ | refine JoinVC.on ?_ | refine Nils.mk (fun h => ?_) ?_ | refine Val.t ?_ | refine Val.d ?_ | refine Mm.mk ?_ | (refine Br.mk (fun h => ?_) (fun h => ?_) <;> first | (exfalso; omega; done) | (exfalso; simp at h; done) | skip))
        conv => whnf
        first | refine CallVC.mk [0, 1, 2, 3, 4, 5] _ _ _ rfl rfl rfl (c38) (fun r m' h' => ?_) | refine CallVC0.same [0, 1, 2, 3, 4, 5] _ _ _ rfl rfl rfl rfl (c38) (fun r m' h' => (by obtain ⟨rfl, rfl⟩ := h'; rfl)) (fun r m' h' => ?_) | (refine CallVC0.rows [0, 1, 2, 3, 4, 5] _ _ _ rfl rfl rfl ?_ (c38) (fun r m' h' => (by obtain ⟨rfl, rfl⟩ := h'; rfl)) (fun r m' h' => ?_); · (repeat' ((conv => whnf); first | exact trivial | exact rfl | exact Nat.le_refl _ | apply And.intro)))
        obtain ⟨rfl, rfl⟩ := h'
        conv => whnf
        repeat' ((conv => whnf); first | refine Rng.g ?_ | refine Ob.g ?_ | refine Ob.e ?_ | refine Ob.m ?_ | refine Ob.mk (Nat.le_of_ble_eq_true rfl) ?_ | refine JoinVC.on ?_ | refine Nils.mk (fun h => ?_) ?_ | refine Val.t ?_ | refine Val.d ?_ | refine Mm.mk ?_ | refine CallVC.pure rfl (s17) ?_ | refine CallVC0.pure rfl (s17) ?_ | (refine Br.mk (fun h => ?_) (fun h => ?_) <;> first | (exfalso; omega; done) | (exfalso; simp at h; done) | skip))
        repeat refine Mm.mk ?_
        refine EndVC.mk _ rfl _ _ ⟨rfl, rfl⟩ ?_
        refine ⟨[], rfl, rfl, ?_, ?_⟩ <;> repeat' (first | exact trivial | exact rfl | exact Iff.rfl | apply And.intro)
end Go.Sx

namespace Go.Sx
open Go Go.Proofs
set_option maxRecDepth 10000
/-! ### Rows read as acts -/
end Go.Sx
