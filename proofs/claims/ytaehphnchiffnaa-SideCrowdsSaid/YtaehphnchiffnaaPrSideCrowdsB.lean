import Derived.Test.YtaehphnchiffnaaPrSideCrowdsA
import Derived.Test.YtaehphnchiffnaaXc
namespace Go.Sx
open Go Go.Proofs
set_option maxRecDepth 10000
set_option maxHeartbeats 16000000
/-! ### Numbers for the sorts -/
/-- The number of bits. -/
def bl (n : Int) : Int := if n < 1 then 0 else if n < 2 then 1 else if n < 4 then 2 else if n < 8 then 3 else if n < 16 then 4 else 5
theorem s99b (n : Int) (hn : 0 ≤ n ∧ n ≤ 24) : HSpec Try.prog 99 [.one (.int .u64 n)] [] (fun r m' => r = .x (I (bl n)) ∧ m' = []) := by
  have hc : n = 0 ∨ n = 1 ∨ n = 2 ∨ n = 3 ∨ n = 4 ∨ n = 5 ∨ n = 6 ∨ n = 7 ∨ n = 8 ∨ n = 9 ∨ n = 10 ∨ n = 11 ∨ n = 12 ∨ n = 13 ∨ n = 14 ∨ n = 15 ∨ n = 16 ∨ n = 17 ∨ n = 18 ∨ n = 19 ∨ n = 20 ∨ n = 21 ∨ n = 22 ∨ n = 23 ∨ n = 24 := by omega
  rcases hc with rfl | rfl | rfl | rfl | rfl | rfl | rfl | rfl | rfl | rfl | rfl | rfl | rfl | rfl | rfl | rfl | rfl | rfl | rfl | rfl | rfl | rfl | rfl | rfl | rfl
  all_goals
    refine spec_of pMix (O := []) Try.func99 (c := bodyOf Try.f99) rfl (by kernel_rfl) (by kernel_rfl) Try.ntmps99 (res := [.tmp 2]) (by kernel_rfl) ?_
    repeat' ((conv => whnf); first | refine Rng.g ?_ | refine Ob.g ?_ | refine Ob.e ?_ | refine Ob.m ?_ | refine Ob.mk (Nat.le_of_ble_eq_true rfl) ?_ | refine JoinVC.on ?_ | refine Nils.mk (fun h => ?_) ?_ | refine Val.t ?_ | refine Val.d ?_ | refine Mm.mk ?_ | (refine Br.mk (fun h => ?_) (fun h => ?_) <;> first | (exfalso; omega; done) | (exfalso; simp at h; done) | skip))
    refine Rng.ok (rngU8 _) ?_
    repeat' ((conv => whnf); first | refine Rng.g ?_ | refine Ob.g ?_ | refine Ob.e ?_ | refine Ob.m ?_ | refine Ob.mk (Nat.le_of_ble_eq_true rfl) ?_ | refine JoinVC.on ?_ | refine Nils.mk (fun h => ?_) ?_ | refine Val.t ?_ | refine Val.d ?_ | refine Mm.mk ?_ | (refine Br.mk (fun h => ?_) (fun h => ?_) <;> first | (exfalso; omega; done) | (exfalso; simp at h; done) | skip))
    refine Rng.ok (rngU8' _) ?_
    repeat' ((conv => whnf); first | refine Rng.g ?_ | refine Ob.g ?_ | refine Ob.e ?_ | refine Ob.m ?_ | refine Ob.mk (Nat.le_of_ble_eq_true rfl) ?_ | refine JoinVC.on ?_ | refine Nils.mk (fun h => ?_) ?_ | refine Val.t ?_ | refine Val.d ?_ | refine Mm.mk ?_ | (refine Br.mk (fun h => ?_) (fun h => ?_) <;> first | (exfalso; omega; done) | (exfalso; simp at h; done) | skip))
    repeat refine Mm.mk ?_
    refine EndVC.mk _ rfl _ _ ⟨rfl, rfl⟩ ?_
    refine ⟨[], rfl, rfl, ?_, ?_⟩ <;> repeat' (first | exact trivial | exact rfl | exact Iff.rfl | apply And.intro)
    all_goals decide +kernel
theorem s80b (n : Int) (hn : 0 ≤ n ∧ n ≤ 24) : HSpec Try.prog 80 [.one (.int .u64 n)] [] (fun r m' => r = .x (I (bl n)) ∧ m' = []) := by
  refine spec_of pMix (O := []) Try.func80 (c := bodyOf Try.f80) rfl (by kernel_rfl) (by kernel_rfl) Try.ntmps80 (res := [.tmp 2]) (by kernel_rfl) ?_
  repeat' ((conv => whnf); first | refine Rng.g ?_ | refine Ob.g ?_ | refine Ob.e ?_ | refine Ob.m ?_ | refine Ob.mk (Nat.le_of_ble_eq_true rfl) ?_ | refine JoinVC.on ?_ | refine Nils.mk (fun h => ?_) ?_ | refine Val.t ?_ | refine Val.d ?_ | refine Mm.mk ?_ | (refine Br.mk (fun h => ?_) (fun h => ?_) <;> first | (exfalso; omega; done) | (exfalso; simp at h; done) | skip))
  conv => whnf
  refine CallVC.mk [] _ _ _ rfl rfl rfl (s99b n hn) (fun r m' h' => ?_)
  obtain ⟨rfl, rfl⟩ := h'
  conv => whnf
  repeat' ((conv => whnf); first | refine Rng.g ?_ | refine Ob.g ?_ | refine Ob.e ?_ | refine Ob.m ?_ | refine Ob.mk (Nat.le_of_ble_eq_true rfl) ?_ | refine JoinVC.on ?_ | refine Nils.mk (fun h => ?_) ?_ | refine Val.t ?_ | refine Val.d ?_ | refine Mm.mk ?_ | (refine Br.mk (fun h => ?_) (fun h => ?_) <;> first | (exfalso; omega; done) | (exfalso; simp at h; done) | skip))
  repeat refine Mm.mk ?_
  refine EndVC.mk _ rfl _ _ ⟨rfl, rfl⟩ ?_
  refine ⟨[], rfl, rfl, ?_, ?_⟩ <;> repeat' (first | exact trivial | exact rfl | exact Iff.rfl | apply And.intro)
theorem s115 (n : Int) (hn : 8 ≤ n ∧ n ≤ 24) : HSpec Try.prog 115 [I n] [] (fun r m' => ∃ v : Int, (v = 16 ∨ v = 32 ∧ 16 ≤ n) ∧ r = .x (U64 v) ∧ m' = []) := by
  have hb64 : ((IntKind.u64.bits : Nat) : Int) = 64 := rfl
  by_cases h16 : n < 16
  · have e : bl n = 4 := by unfold bl; (repeat' split) <;> omega
    have c := s80b n (by omega)
    rw [e] at c
    refine spec_of pMix (O := []) Try.func115 (c := bodyOf Try.f115) rfl (by kernel_rfl) (by kernel_rfl) Try.ntmps115 (res := [.tmp 2]) (by kernel_rfl) ?_
    repeat' ((conv => whnf); first | refine Rng.g ?_ | refine Ob.g ?_ | refine Ob.e ?_ | refine Ob.m ?_ | refine Ob.mk (Nat.le_of_ble_eq_true rfl) ?_ | refine JoinVC.on ?_ | refine Nils.mk (fun h => ?_) ?_ | refine Val.t ?_ | refine Val.d ?_ | refine Mm.mk ?_ | (refine Br.mk (fun h => ?_) (fun h => ?_) <;> first | (exfalso; omega; done) | (exfalso; simp at h; done) | skip))
    conv => whnf
    refine CallVC.mk [] _ _ _ rfl rfl rfl (c) (fun r m' h' => ?_)
    obtain ⟨rfl, rfl⟩ := h'
    conv => whnf
    repeat' ((conv => whnf); first | refine Rng.g ?_ | refine Ob.g ?_ | refine Ob.e ?_ | refine Ob.m ?_ | refine Ob.mk (Nat.le_of_ble_eq_true rfl) ?_ | refine JoinVC.on ?_ | refine Nils.mk (fun h => ?_) ?_ | refine Val.t ?_ | refine Val.d ?_ | refine Mm.mk ?_ | (refine Br.mk (fun h => ?_) (fun h => ?_) <;> first | (exfalso; omega; done) | (exfalso; simp at h; done) | skip))
    conv => whnf
    refine Val.mk (16) ((by decide)) ?_
    repeat' ((conv => whnf); first | refine Rng.g ?_ | refine Ob.g ?_ | refine Ob.e ?_ | refine Ob.m ?_ | refine Ob.mk (Nat.le_of_ble_eq_true rfl) ?_ | refine JoinVC.on ?_ | refine Nils.mk (fun h => ?_) ?_ | refine Val.t ?_ | refine Val.d ?_ | refine Mm.mk ?_ | (refine Br.mk (fun h => ?_) (fun h => ?_) <;> first | (exfalso; omega; done) | (exfalso; simp at h; done) | skip))
    repeat refine Mm.mk ?_
    conv => whnf
    refine EndVC.mk _ rfl _ _ (⟨16, .inl rfl, rfl, rfl⟩) ?_
    refine ⟨[], rfl, rfl, ?_, ?_⟩ <;> repeat' (first | exact trivial | exact rfl | exact Iff.rfl | apply And.intro)
  · have e : bl n = 5 := by unfold bl; (repeat' split) <;> omega
    have c := s80b n (by omega)
    rw [e] at c
    refine spec_of pMix (O := []) Try.func115 (c := bodyOf Try.f115) rfl (by kernel_rfl) (by kernel_rfl) Try.ntmps115 (res := [.tmp 2]) (by kernel_rfl) ?_
    repeat' ((conv => whnf); first | refine Rng.g ?_ | refine Ob.g ?_ | refine Ob.e ?_ | refine Ob.m ?_ | refine Ob.mk (Nat.le_of_ble_eq_true rfl) ?_ | refine JoinVC.on ?_ | refine Nils.mk (fun h => ?_) ?_ | refine Val.t ?_ | refine Val.d ?_ | refine Mm.mk ?_ | (refine Br.mk (fun h => ?_) (fun h => ?_) <;> first | (exfalso; omega; done) | (exfalso; simp at h; done) | skip))
    conv => whnf
    refine CallVC.mk [] _ _ _ rfl rfl rfl (c) (fun r m' h' => ?_)
    obtain ⟨rfl, rfl⟩ := h'
    conv => whnf
    repeat' ((conv => whnf); first | refine Rng.g ?_ | refine Ob.g ?_ | refine Ob.e ?_ | refine Ob.m ?_ | refine Ob.mk (Nat.le_of_ble_eq_true rfl) ?_ | refine JoinVC.on ?_ | refine Nils.mk (fun h => ?_) ?_ | refine Val.t ?_ | refine Val.d ?_ | refine Mm.mk ?_ | (refine Br.mk (fun h => ?_) (fun h => ?_) <;> first | (exfalso; omega; done) | (exfalso; simp at h; done) | skip))
    conv => whnf
    refine Val.mk (32) ((by decide)) ?_
    repeat' ((conv => whnf); first | refine Rng.g ?_ | refine Ob.g ?_ | refine Ob.e ?_ | refine Ob.m ?_ | refine Ob.mk (Nat.le_of_ble_eq_true rfl) ?_ | refine JoinVC.on ?_ | refine Nils.mk (fun h => ?_) ?_ | refine Val.t ?_ | refine Val.d ?_ | refine Mm.mk ?_ | (refine Br.mk (fun h => ?_) (fun h => ?_) <;> first | (exfalso; omega; done) | (exfalso; simp at h; done) | skip))
    repeat refine Mm.mk ?_
    conv => whnf
    refine EndVC.mk _ rfl _ _ (⟨32, .inr ⟨rfl, by omega⟩, rfl, rfl⟩) ?_
    refine ⟨[], rfl, rfl, ?_, ?_⟩ <;> repeat' (first | exact trivial | exact rfl | exact Iff.rfl | apply And.intro)
/-- What '&' gives. -/
theorem and_rng (x m : Int) (hm : 0 ≤ m ∧ m ≤ 1000) : 0 ≤ bits .and .u64 x m ∧ bits .and .u64 x m ≤ m := by
  have h2 : (BitVec.ofInt 64 m).toNat = m.toNat := by
    obtain ⟨k, rfl⟩ := Int.eq_ofNat_of_zero_le hm.1
    show (BitVec.ofInt 64 (k : Int)).toNat = k
    rw [BitVec.ofInt_natCast, BitVec.toNat_ofNat]
    exact Nat.mod_eq_of_lt (by omega)
  have h3 : bits .and .u64 x m = (((BitVec.ofInt 64 x).toNat &&& m.toNat : Nat) : Int) := by
    show IntKind.u64.wrap ((BitVec.ofInt 64 x &&& BitVec.ofInt 64 m).toNat : Int) = _
    rw [BitVec.toNat_and, h2, IntKind.wrap_u64]
    have h4 : (BitVec.ofInt 64 x).toNat &&& m.toNat ≤ m.toNat := Nat.and_le_right
    omega
  have h4 : (BitVec.ofInt 64 x).toNat &&& m.toNat ≤ m.toNat := Nat.and_le_right
  rw [h3]
  omega
theorem s116 (x : Int) : HSpec Try.prog 116 [.one (.ptr 0 0)] [.box 151 [.int .u64 x]] (fun r m' => ∃ v : Int, r = .x (U64 v) ∧ m' = [some (.box 151 [.int .u64 v])]) := by
  have hb64 : ((IntKind.u64.bits : Nat) : Int) = 64 := rfl
  refine spec_of pMix (O := []) Try.func116 (c := bodyOf Try.f116) rfl (by kernel_rfl) (by kernel_rfl) Try.ntmps116 (res := [.tmp 2]) (by kernel_rfl) ?_
  repeat' ((conv => whnf); first | refine Rng.wr ?_ | refine Ob.mk (by rw [hb64]; omega) ?_ | refine Val.nm (fun v _ => ?_))
  repeat refine Mm.mk ?_
  conv => whnf
  refine EndVC.mk _ rfl _ _ (⟨v, rfl, rfl⟩) ?_
  refine ⟨[some 0], rfl, rfl, ?_, ?_⟩ <;> repeat' (first | exact trivial | exact rfl | exact Iff.rfl | apply And.intro)
end Go.Sx

namespace Go.Sx
open Go Go.Proofs
set_option maxRecDepth 10000
set_option maxHeartbeats 16000000
/-! ### The pivot -/
theorem co2 (f : Fmt) (l : List Sng) (d : Array Int) (hz : d.size ≤ 1000) (hI : InA d l.length) (a b : Nat) (s : Int) (ha : a < d.size) (hb : b < d.size) (hs : 0 ≤ s ∧ s ≤ 100) : HSpec Try.prog 123 [.one (.own 0), I (a : Int), I (b : Int), .one (.ptr 1 0), .one (.bnd 74 false [.ptr 2 0])] [rowA (d), .box 3 [.int .i64 s], bPl f l] (fun r m' => ∃ (x y : Nat) (t : Int), ((x = a ∧ y = b) ∨ (x = b ∧ y = a)) ∧ s ≤ t ∧ t ≤ s + 1 ∧ r = .tup [I (x : Int), I (y : Int)] ∧ m' = [some (rowA (d)), some (.box 3 [.int .i64 t]), some (bPl f l)]) := by
  have la := arr_len d
  have hV : InA d l.length := hI
  have ga : rI (i64s d.toList) ((a : Int)).toNat 0 = d[a]! := by rw [show ((a : Int)).toNat = a by omega]; exact arr_get d _
  have gb : rI (i64s d.toList) ((b : Int)).toNat 0 = d[b]! := by rw [show ((b : Int)).toNat = b by omega]; exact arr_get d _
  refine spec_of pMix (O := []) Try.func123 (c := bodyOf Try.f123) rfl (by kernel_rfl) (by kernel_rfl) Try.ntmps123 (res := [.tmp 10, .tmp 11]) (by kernel_rfl) ?_
  repeat' ((conv => whnf); first | rw [ga] | rw [gb] | refine Rng.g ?_ | refine Ob.g ?_ | refine Ob.e ?_ | refine Ob.m ?_ | refine Ob.mk (Nat.le_of_ble_eq_true rfl) ?_ | refine JoinVC.on ?_ | refine Nils.mk (fun h => ?_) ?_ | refine Val.t ?_ | refine Val.d ?_ | refine Mm.mk ?_ | (refine Br.mk (fun h => ?_) (fun h => ?_) <;> first | (exfalso; omega; done) | (exfalso; simp at h; done) | skip))
  conv => whnf
  refine CallVC.mk [2] _ _ _ rfl rfl rfl (s74 f l d[b]! d[a]! (hV b (by omega)) (hV a (by omega))) (fun r m' h' => ?_)
  obtain ⟨rfl, rfl⟩ := h'
  conv => whnf
  repeat' ((conv => whnf); first | refine Rng.g ?_ | refine Ob.g ?_ | refine Ob.e ?_ | refine Ob.m ?_ | refine Ob.mk (Nat.le_of_ble_eq_true rfl) ?_ | refine JoinVC.on ?_ | refine Nils.mk (fun h => ?_) ?_ | refine Val.t ?_ | refine Val.d ?_ | refine Mm.mk ?_ | (refine Br.mk (fun h => ?_) (fun h => ?_) <;> first | (exfalso; omega; done) | (exfalso; simp at h; done) | skip))
  · repeat refine Mm.mk ?_
    conv => whnf
    refine EndVC.mk _ rfl _ _ (⟨b, a, s + 1, .inr ⟨rfl, rfl⟩, by omega, by omega, rfl, rfl⟩) ?_
    refine ⟨[some 0, some 1, some 2], rfl, rfl, ?_, ?_⟩ <;> repeat' (first | exact trivial | exact rfl | exact Iff.rfl | apply And.intro)
  · repeat refine Mm.mk ?_
    conv => whnf
    refine EndVC.mk _ rfl _ _ (⟨a, b, s, .inl ⟨rfl, rfl⟩, by omega, by omega, rfl, rfl⟩) ?_
    refine ⟨[some 0, some 1, some 2], rfl, rfl, ?_, ?_⟩ <;> repeat' (first | exact trivial | exact rfl | exact Iff.rfl | apply And.intro)
theorem cmed (f : Fmt) (l : List Sng) (d : Array Int) (hz : d.size ≤ 1000) (hI : InA d l.length) (a b c : Nat) (s : Int) (ha : a < d.size) (hb : b < d.size) (hc : c < d.size) (hs : 0 ≤ s ∧ s ≤ 90) : HSpec Try.prog 121 [.one (.own 0), I (a : Int), I (b : Int), I (c : Int), .one (.ptr 1 0), .one (.bnd 74 false [.ptr 2 0])] [rowA (d), .box 3 [.int .i64 s], bPl f l] (fun r m' => ∃ (x : Nat) (t : Int), (x = a ∨ x = b ∨ x = c) ∧ s ≤ t ∧ t ≤ s + 3 ∧ r = .x (I (x : Int)) ∧ m' = [some (rowA (d)), some (.box 3 [.int .i64 t]), some (bPl f l)]) := by
  refine spec_of pMix (O := []) Try.func121 (c := bodyOf Try.f121) rfl (by kernel_rfl) (by kernel_rfl) Try.ntmps121 (res := [.tmp 12]) (by kernel_rfl) ?_
  repeat' ((conv => whnf); first | refine Rng.g ?_ | refine Ob.g ?_ | refine Ob.e ?_ | refine Ob.m ?_ | refine Ob.mk (Nat.le_of_ble_eq_true rfl) ?_ | refine JoinVC.on ?_ | refine Nils.mk (fun h => ?_) ?_ | refine Val.t ?_ | refine Val.d ?_ | refine Mm.mk ?_ | (refine Br.mk (fun h => ?_) (fun h => ?_) <;> first | (exfalso; omega; done) | (exfalso; simp at h; done) | skip))
  conv => whnf
  refine CallVC.mk [0, 1, 2] _ _ _ rfl rfl rfl (co2 f l d hz hI a b s ha hb (by omega)) (fun r m' h' => ?_)
  obtain ⟨x1, y1, t1, h1, l1, l1', rfl, rfl⟩ := h'
  conv => whnf
  repeat' ((conv => whnf); first | refine Rng.g ?_ | refine Ob.g ?_ | refine Ob.e ?_ | refine Ob.m ?_ | refine Ob.mk (Nat.le_of_ble_eq_true rfl) ?_ | refine JoinVC.on ?_ | refine Nils.mk (fun h => ?_) ?_ | refine Val.t ?_ | refine Val.d ?_ | refine Mm.mk ?_ | (refine Br.mk (fun h => ?_) (fun h => ?_) <;> first | (exfalso; omega; done) | (exfalso; simp at h; done) | skip))
  conv => whnf
  refine CallVC.mk [0, 1, 2] _ _ _ rfl rfl rfl (co2 f l d hz hI y1 c t1 (by omega) hc (by omega)) (fun r m' h' => ?_)
  obtain ⟨x2, y2, t2, h2, l2, l2', rfl, rfl⟩ := h'
  conv => whnf
  repeat' ((conv => whnf); first | refine Rng.g ?_ | refine Ob.g ?_ | refine Ob.e ?_ | refine Ob.m ?_ | refine Ob.mk (Nat.le_of_ble_eq_true rfl) ?_ | refine JoinVC.on ?_ | refine Nils.mk (fun h => ?_) ?_ | refine Val.t ?_ | refine Val.d ?_ | refine Mm.mk ?_ | (refine Br.mk (fun h => ?_) (fun h => ?_) <;> first | (exfalso; omega; done) | (exfalso; simp at h; done) | skip))
  conv => whnf
  refine CallVC.mk [0, 1, 2] _ _ _ rfl rfl rfl (co2 f l d hz hI x1 x2 t2 (by omega) (by omega) (by omega)) (fun r m' h' => ?_)
  obtain ⟨x3, y3, t3, h3, l3, l3', rfl, rfl⟩ := h'
  conv => whnf
  repeat' ((conv => whnf); first | refine Rng.g ?_ | refine Ob.g ?_ | refine Ob.e ?_ | refine Ob.m ?_ | refine Ob.mk (Nat.le_of_ble_eq_true rfl) ?_ | refine JoinVC.on ?_ | refine Nils.mk (fun h => ?_) ?_ | refine Val.t ?_ | refine Val.d ?_ | refine Mm.mk ?_ | (refine Br.mk (fun h => ?_) (fun h => ?_) <;> first | (exfalso; omega; done) | (exfalso; simp at h; done) | skip))
  repeat refine Mm.mk ?_
  conv => whnf
  refine EndVC.mk _ rfl _ _ (⟨y3, t3, by omega, by omega, by omega, rfl, rfl⟩) ?_
  refine ⟨[some 0, some 1, some 2], rfl, rfl, ?_, ?_⟩ <;> repeat' (first | exact trivial | exact rfl | exact Iff.rfl | apply And.intro)
theorem cpiv (f : Fmt) (l : List Sng) (d : Array Int) (hz : d.size ≤ 1000) (hI : InA d l.length) (a b : Nat) (hab : 8 ≤ b - a) (hb50 : b - a < 50) (hb : b ≤ d.size) : HSpec Try.prog 105 [.one (.own 0), I (a : Int), I (b : Int), .one (.bnd 74 false [.ptr 1 0])] [rowA (d), bPl f l] (fun r m' => ∃ (x : Nat) (h : Int), (a ≤ x ∧ x < b) ∧ r = .tup [I (x : Int), I h] ∧ m' = [some (rowA (d)), some (bPl f l)]) := by
  obtain ⟨q, hq⟩ : ∃ q, (b - a) / 4 = q := ⟨_, rfl⟩
  have hq1 : ((b : Int) - (a : Int)).tdiv 4 = (q : Int) := by
    rw [Int.tdiv_eq_ediv_of_nonneg (by omega)]
    omega
  have e1 : (a : Int) + (q : Int) * 1 = ((a + q : Nat) : Int) := by omega
  have e2 : (a : Int) + (q : Int) * 2 = ((a + 2 * q : Nat) : Int) := by omega
  have e3 : (a : Int) + (q : Int) * 3 = ((a + 3 * q : Nat) : Int) := by omega
  refine spec_of pMix (O := []) Try.func105 (c := bodyOf Try.f105) rfl (by kernel_rfl) (by kernel_rfl) Try.ntmps105 (res := [.tmp 8, .tmp 9]) (by kernel_rfl) ?_
  repeat' ((conv => whnf); first | refine Rng.g ?_ | refine Ob.g ?_ | refine Val.mk (q : Int) hq1 ?_ | refine JoinVC.on ?_ | (refine Br.mk (fun h => ?_) (fun h => ?_) <;> first | (exfalso; omega; done) | skip))
  rw [e1, e2, e3]
  conv => whnf
  refine CallVC.mk [0, 2, 1] _ _ _ rfl rfl rfl (cmed f l d hz hI (a + q) (a + 2 * q) (a + 3 * q) 0 (by omega) (by omega) (by omega) (by omega)) (fun r m' h' => ?_)
  obtain ⟨x, t, hx, t1, t2, rfl, rfl⟩ := h'
  conv => whnf
  repeat' ((conv => whnf); first | refine Rng.g ?_ | refine Ob.g ?_ | refine Ob.e ?_ | refine Ob.m ?_ | refine Ob.mk (Nat.le_of_ble_eq_true rfl) ?_ | refine JoinVC.on ?_ | refine Nils.mk (fun h => ?_) ?_ | refine Val.t ?_ | refine Val.d ?_ | refine Mm.mk ?_ | (refine Br.mk (fun h => ?_) (fun h => ?_) <;> first | (exfalso; omega; done) | (exfalso; simp at h; done) | skip))
  · repeat refine Mm.mk ?_
    conv => whnf
    refine EndVC.mk _ rfl _ _ (⟨x, 1, by omega, rfl, rfl⟩) ?_
    refine ⟨[some 0, some 1], rfl, rfl, ?_, ?_⟩ <;> repeat' (first | exact trivial | exact rfl | exact Iff.rfl | apply And.intro)
  · repeat refine Mm.mk ?_
    conv => whnf
    refine EndVC.mk _ rfl _ _ (⟨x, 0, by omega, rfl, rfl⟩) ?_
    refine ⟨[some 0, some 1], rfl, rfl, ?_, ?_⟩ <;> repeat' (first | exact trivial | exact rfl | exact Iff.rfl | apply And.intro)
/-! ### Other parts -/
theorem crev (f : Fmt) (l : List Sng) (d : Array Int) (hz : d.size ≤ 1000) (_ : InA d l.length) (a b : Nat) (hab : a < b) (hb : b ≤ d.size) : HSpec Try.prog 106 [.one (.own 0), I (a : Int), I (b : Int), .one (.bnd 74 false [.ptr 1 0])] [rowA (d), bPl f l] (fun r m' => ∃ W : Array Int, Go.Sort.PermIn a b d W ∧ r = .tup [] ∧ m' = [some (rowA (W)), some (bPl f l)]) := by
  refine spec_of pMix (O := [(3, ([], [⟨0, [], []⟩, ⟨1, [], []⟩, ⟨2, [], []⟩, ⟨3, [], []⟩, ⟨4, [], []⟩, ⟨5, [], []⟩, ⟨6, [], []⟩, ⟨7, [], []⟩, ⟨8, [], []⟩, ⟨9, [], []⟩, ⟨10, [], []⟩, ⟨11, [], []⟩, ⟨12, [], []⟩, ⟨13, [2, 3], []⟩, ⟨14, [], []⟩, ⟨15, [], []⟩]))]) Try.func106 (c := bodyOf Try.f106) rfl (by kernel_rfl) (by kernel_rfl) Try.ntmps106 (res := []) (by kernel_rfl) ?_
  repeat' ((conv => whnf); first | refine Rng.g ?_ | refine Ob.g ?_ | refine Ob.e ?_ | refine Ob.m ?_ | refine Ob.mk (Nat.le_of_ble_eq_true rfl) ?_ | refine JoinVC.on ?_ | refine Nils.mk (fun h => ?_) ?_ | refine Val.t ?_ | refine Val.d ?_ | refine Mm.mk ?_ | (refine Br.mk (fun h => ?_) (fun h => ?_) <;> first | (exfalso; omega; done) | (exfalso; simp at h; done) | skip))
  refine LoopVC.mk (fun m st => ∃ (i j : Nat) (V : Array Int), a ≤ i ∧ i ≤ b ∧ j < b ∧ m = j - i ∧ Go.Sort.PermIn a b d V ∧ st = ⟨2, envA 34 [(0, .x (.one (.own 0))), (1, .x (I (a : Int))), (2, .x (I (b : Int))), (3, .x (.one (.bnd 74 false [.ptr 1 0]))), (8, .int .i64 (i : Int)), (9, .int .i64 (j : Int))], [some (rowA (V)), some (bPl f l)]⟩) _ _ ⟨a, b - 1, d, Nat.le_refl _, by omega, by omega, rfl, Go.Sort.permIn_refl d a b, rfl⟩ ?_ ?_
  · refine ⟨[some 0, some 1], rfl, rfl, ?_, ?_⟩ <;> repeat' (first | exact trivial | exact rfl | exact Iff.rfl | apply And.intro)
    all_goals omega
  rintro m _ ⟨i, j, V, h1, h2, h3, hm, hP, rfl⟩
  have la := arr_len V
  have ls := hP.1
  by_cases hij : i < j
  rotate_left
  · repeat' ((conv => whnf); first | refine Rng.g ?_ | refine Ob.g ?_ | refine Ob.e ?_ | refine Ob.m ?_ | refine Ob.mk (Nat.le_of_ble_eq_true rfl) ?_ | refine JoinVC.on ?_ | refine Nils.mk (fun h => ?_) ?_ | refine Val.t ?_ | refine Val.d ?_ | refine Mm.mk ?_ | (refine Br.mk (fun h => ?_) (fun h => ?_) <;> first | (exfalso; omega; done) | (exfalso; simp at h; done) | skip))
    repeat refine Mm.mk ?_
    conv => whnf
    refine EndVC.mk _ rfl _ _ (⟨V, hP, rfl, rfl⟩) ?_
    refine ⟨[some 0, some 1], rfl, rfl, ?_, ?_⟩ <;> repeat' (first | exact trivial | exact rfl | exact Iff.rfl | apply And.intro)
  have gi : rI (i64s V.toList) ((i : Int)).toNat 0 = V[i]! := by rw [show ((i : Int)).toNat = i by omega]; exact arr_get V _
  have gj : rI (i64s V.toList) ((j : Int)).toNat 0 = V[j]! := by rw [show ((j : Int)).toNat = j by omega]; exact arr_get V _
  have u1 : updRow (i64s V.toList) ((i : Int)).toNat 0 [Cell.int V[j]!] = i64s (V.toList.set (i) V[j]!) := by rw [show ((i : Int)).toNat = i by omega]; exact arr_up1 V _ _ (by omega)
  have u2 : updRow (i64s (V.toList.set (i) V[j]!)) ((j : Int)).toNat 0 [Cell.int V[i]!] = i64s (Go.Sort.swp V (i) (j)).toList := by rw [show ((j : Int)).toNat = j by omega]; exact arr_up2 V _ _ (by omega)
  have la1 := arr_l1 V (i) V[j]!
  have la2 := arr_len (Go.Sort.swp V (i) (j))
  have ls2 := Go.Sort.size_swp V (i) (j)
  repeat' ((conv => whnf); first | rw [gi] | rw [gj] | rw [u1] | rw [u2] | refine Rng.g ?_ | refine Ob.g ?_ | refine Ob.e ?_ | refine Ob.m ?_ | refine Ob.mk (Nat.le_of_ble_eq_true rfl) ?_ | refine JoinVC.on ?_ | refine Nils.mk (fun h => ?_) ?_ | refine Val.t ?_ | refine Val.d ?_ | refine Mm.mk ?_ | (refine Br.mk (fun h => ?_) (fun h => ?_) <;> first | (exfalso; omega; done) | (exfalso; simp at h; done) | skip))
  refine Back.mk (j - 1 - (i + 1)) _ (by omega) ⟨i + 1, j - 1, _, by omega, by omega, by omega, rfl, Go.Sort.permIn_trans _ _ _ a b hP (Go.Sort.swp_permIn V a b i j (by omega) (by omega) (by omega) (by omega) (by omega)), rfl⟩ ?_
  refine ⟨[some 0, some 1], rfl, rfl, ?_, ?_⟩ <;> repeat' (first | exact trivial | exact rfl | exact Iff.rfl | apply And.intro)
  all_goals omega
theorem cbrk (f : Fmt) (l : List Sng) (d : Array Int) (hz : d.size ≤ 1000) (_ : InA d l.length) (a b : Nat) (hab : 8 ≤ b - a) (hb24 : b - a ≤ 24) (hb : b ≤ d.size) : HSpec Try.prog 104 [.one (.own 0), I (a : Int), I (b : Int), .one (.bnd 74 false [.ptr 1 0])] [rowA (d), bPl f l] (fun r m' => ∃ W : Array Int, Go.Sort.PermIn a b d W ∧ r = .tup [] ∧ m' = [some (rowA (W)), some (bPl f l)]) := by
  obtain ⟨q, hq⟩ : ∃ q, (b - a) / 4 = q := ⟨_, rfl⟩
  have hq1 : ((b : Int) - (a : Int)).tdiv 4 = (q : Int) := by
    rw [Int.tdiv_eq_ediv_of_nonneg (by omega)]
    omega
  refine spec_of pMix (O := [(10, ([], [⟨0, [], []⟩, ⟨1, [], []⟩, ⟨2, [], []⟩, ⟨3, [], []⟩, ⟨4, [], []⟩, ⟨5, [], []⟩, ⟨6, [], []⟩, ⟨7, [], []⟩, ⟨8, [], []⟩, ⟨9, [], []⟩, ⟨10, [], []⟩, ⟨11, [], []⟩, ⟨12, [], []⟩, ⟨13, [], []⟩, ⟨14, [], []⟩, ⟨15, [], []⟩, ⟨16, [], []⟩, ⟨17, [2, 3, 4, 5], []⟩, ⟨18, [], []⟩, ⟨19, [], []⟩]))]) Try.func104 (c := bodyOf Try.f104) rfl (by kernel_rfl) (by kernel_rfl) Try.ntmps104 (res := []) (by kernel_rfl) ?_
  repeat' ((conv => whnf); first | refine Rng.g ?_ | refine Ob.g ?_ | refine Ob.e ?_ | refine Ob.m ?_ | refine Ob.mk (Nat.le_of_ble_eq_true rfl) ?_ | refine JoinVC.on ?_ | refine Nils.mk (fun h => ?_) ?_ | refine Val.t ?_ | refine Val.d ?_ | refine Mm.mk ?_ | (refine Br.mk (fun h => ?_) (fun h => ?_) <;> first | (exfalso; omega; done) | (exfalso; simp at h; done) | skip))
  conv => whnf
  refine CallVC.mk [] _ _ _ rfl rfl rfl (s115 ((b : Int) - (a : Int)) (by omega)) (fun r m' h' => ?_)
  obtain ⟨v, hv, rfl, rfl⟩ := h'
  conv => whnf
  repeat' ((conv => whnf); first | refine Rng.g ?_ | refine Ob.g ?_ | refine Val.mk (q : Int) hq1 ?_)
  refine LoopVC.mk (fun m st => ∃ (k : Nat) (V : Array Int) (x : Int), k ≤ 3 ∧ m = 3 - k ∧ Go.Sort.PermIn a b d V ∧ st = ⟨2, envA 67 [(0, .x (.one (.own 0))), (1, .x (I (a : Int))), (2, .x (I (b : Int))), (3, .x (.one (.bnd 74 false [.ptr 1 0]))), (8, .int .i64 ((b : Int) - (a : Int))), (9, .x (.one (.ptr 2 0))), (10, .x (U64 v)), (11, .int .i64 (((a + 2 * q + k : Nat) : Int) - 1))], [some (rowA (V)), some (bPl f l), some (.box 151 [.int .u64 x])]⟩) _ _ ⟨0, d, (b : Int) - (a : Int), by omega, rfl, Go.Sort.permIn_refl d a b, rfl⟩ ?_ ?_
  · refine ⟨[some 0, some 1, some 2], rfl, rfl, ?_, ?_⟩ <;> repeat' (first | exact trivial | exact rfl | exact Iff.rfl | apply And.intro)
    all_goals omega
  rintro m _ ⟨k, V, x, hk, hm, hP, rfl⟩
  have la := arr_len V
  have ls := hP.1
  by_cases hk3 : k < 3
  rotate_left
  · repeat' ((conv => whnf); first | refine Rng.g ?_ | refine Ob.g ?_ | refine Val.mk (q : Int) hq1 ?_ | (refine Br.mk (fun h => ?_) (fun h => ?_) <;> first | (exfalso; omega; done) | skip))
    repeat refine Mm.mk ?_
    conv => whnf
    refine EndVC.mk _ rfl _ _ (⟨V, hP, rfl, rfl⟩) ?_
    refine ⟨[some 0, some 1], rfl, rfl, ?_, ?_⟩ <;> repeat' (first | exact trivial | exact rfl | exact Iff.rfl | apply And.intro)
  repeat' ((conv => whnf); first | refine Rng.g ?_ | refine Ob.g ?_ | refine Val.mk (q : Int) hq1 ?_ | (refine Br.mk (fun h => ?_) (fun h => ?_) <;> first | (exfalso; omega; done) | skip))
  conv => whnf
  refine CallVC.mk [2] _ _ _ rfl rfl rfl (s116 x) (fun r m' h' => ?_)
  obtain ⟨w, rfl, rfl⟩ := h'
  conv => whnf
  repeat' ((conv => whnf); first | refine Rng.g ?_ | refine Ob.g ?_ | refine Ob.e ?_ | refine Ob.m ?_ | refine Ob.mk (Nat.le_of_ble_eq_true rfl) ?_ | refine JoinVC.on ?_ | refine Nils.mk (fun h => ?_) ?_ | refine Val.t ?_ | refine Val.d ?_ | refine Mm.mk ?_ | (refine Br.mk (fun h => ?_) (fun h => ?_) <;> first | (exfalso; omega; done) | (exfalso; simp at h; done) | skip))
  conv => whnf
  refine Val.nm (fun o ho => ?_)
  have hr := and_rng w (v - 1) (by omega)
  rw [← ho] at hr
  clear ho
  by_cases ho2 : (b : Int) - (a : Int) ≤ o
  · obtain ⟨z, hz2⟩ : ∃ z : Nat, o - ((b : Int) - (a : Int)) = (z : Int) := ⟨(o - ((b : Int) - (a : Int))).toNat, by omega⟩
    have gi : rI (i64s V.toList) (((a + 2 * q + k : Nat) : Int) - 1).toNat 0 = V[a + 2 * q + k - 1]! := by rw [show (((a + 2 * q + k : Nat) : Int) - 1).toNat = a + 2 * q + k - 1 by omega]; exact arr_get V _
    have gj : rI (i64s V.toList) ((a : Int) + (o - ((b : Int) - (a : Int)))).toNat 0 = V[a + z]! := by rw [show ((a : Int) + (o - ((b : Int) - (a : Int)))).toNat = a + z by omega]; exact arr_get V _
    have u1 : updRow (i64s V.toList) (((a + 2 * q + k : Nat) : Int) - 1).toNat 0 [Cell.int V[a + z]!] = i64s (V.toList.set (a + 2 * q + k - 1) V[a + z]!) := by rw [show (((a + 2 * q + k : Nat) : Int) - 1).toNat = a + 2 * q + k - 1 by omega]; exact arr_up1 V _ _ (by omega)
    have u2 : updRow (i64s (V.toList.set (a + 2 * q + k - 1) V[a + z]!)) ((a : Int) + (o - ((b : Int) - (a : Int)))).toNat 0 [Cell.int V[a + 2 * q + k - 1]!] = i64s (Go.Sort.swp V (a + 2 * q + k - 1) (a + z)).toList := by rw [show ((a : Int) + (o - ((b : Int) - (a : Int)))).toNat = a + z by omega]; exact arr_up2 V _ _ (by omega)
    have la1 := arr_l1 V (a + 2 * q + k - 1) V[a + z]!
    have la2 := arr_len (Go.Sort.swp V (a + 2 * q + k - 1) (a + z))
    have ls2 := Go.Sort.size_swp V (a + 2 * q + k - 1) (a + z)
    repeat' ((conv => whnf); first | rw [gi] | rw [gj] | rw [u1] | rw [u2] | refine Rng.g ?_ | refine Ob.g ?_ | refine Ob.e ?_ | refine Ob.m ?_ | refine Ob.mk (Nat.le_of_ble_eq_true rfl) ?_ | refine JoinVC.on ?_ | refine Nils.mk (fun h => ?_) ?_ | refine Val.t ?_ | refine Val.d ?_ | refine Mm.mk ?_ | (refine Br.mk (fun h => ?_) (fun h => ?_) <;> first | (exfalso; omega; done) | (exfalso; simp at h; done) | skip))
    refine Back.mk (3 - (k + 1)) _ (by omega) ⟨k + 1, _, w, by omega, rfl, Go.Sort.permIn_trans _ _ _ a b hP (Go.Sort.swp_permIn V a b (a + 2 * q + k - 1) (a + z) (by omega) (by omega) (by omega) (by omega) (by omega)), rfl⟩ ?_
    refine ⟨[some 0, some 1, some 2], rfl, rfl, ?_, ?_⟩ <;> repeat' (first | exact trivial | exact rfl | exact Iff.rfl | apply And.intro)
    all_goals omega
  · obtain ⟨z, rfl⟩ : ∃ z : Nat, o = (z : Int) := ⟨o.toNat, by omega⟩
    have gi : rI (i64s V.toList) (((a + 2 * q + k : Nat) : Int) - 1).toNat 0 = V[a + 2 * q + k - 1]! := by rw [show (((a + 2 * q + k : Nat) : Int) - 1).toNat = a + 2 * q + k - 1 by omega]; exact arr_get V _
    have gj : rI (i64s V.toList) ((a : Int) + (z : Int)).toNat 0 = V[a + z]! := by rw [show ((a : Int) + (z : Int)).toNat = a + z by omega]; exact arr_get V _
    have u1 : updRow (i64s V.toList) (((a + 2 * q + k : Nat) : Int) - 1).toNat 0 [Cell.int V[a + z]!] = i64s (V.toList.set (a + 2 * q + k - 1) V[a + z]!) := by rw [show (((a + 2 * q + k : Nat) : Int) - 1).toNat = a + 2 * q + k - 1 by omega]; exact arr_up1 V _ _ (by omega)
    have u2 : updRow (i64s (V.toList.set (a + 2 * q + k - 1) V[a + z]!)) ((a : Int) + (z : Int)).toNat 0 [Cell.int V[a + 2 * q + k - 1]!] = i64s (Go.Sort.swp V (a + 2 * q + k - 1) (a + z)).toList := by rw [show ((a : Int) + (z : Int)).toNat = a + z by omega]; exact arr_up2 V _ _ (by omega)
    have la1 := arr_l1 V (a + 2 * q + k - 1) V[a + z]!
    have la2 := arr_len (Go.Sort.swp V (a + 2 * q + k - 1) (a + z))
    have ls2 := Go.Sort.size_swp V (a + 2 * q + k - 1) (a + z)
    repeat' ((conv => whnf); first | rw [gi] | rw [gj] | rw [u1] | rw [u2] | refine Rng.g ?_ | refine Ob.g ?_ | refine Ob.e ?_ | refine Ob.m ?_ | refine Ob.mk (Nat.le_of_ble_eq_true rfl) ?_ | refine JoinVC.on ?_ | refine Nils.mk (fun h => ?_) ?_ | refine Val.t ?_ | refine Val.d ?_ | refine Mm.mk ?_ | (refine Br.mk (fun h => ?_) (fun h => ?_) <;> first | (exfalso; omega; done) | (exfalso; simp at h; done) | skip))
    refine Back.mk (3 - (k + 1)) _ (by omega) ⟨k + 1, _, w, by omega, rfl, Go.Sort.permIn_trans _ _ _ a b hP (Go.Sort.swp_permIn V a b (a + 2 * q + k - 1) (a + z) (by omega) (by omega) (by omega) (by omega) (by omega)), rfl⟩ ?_
    refine ⟨[some 0, some 1, some 2], rfl, rfl, ?_, ?_⟩ <;> repeat' (first | exact trivial | exact rfl | exact Iff.rfl | apply And.intro)
    all_goals omega
/-- Short rows are not shifted. -/
theorem cpis (f : Fmt) (l : List Sng) (d : Array Int) (hz : d.size ≤ 1000) (hI : InA d l.length) (a b : Nat) (hab : a < b) (hb50 : b - a < 50) (hb : b ≤ d.size) : HSpec Try.prog 107 [.one (.own 0), I (a : Int), I (b : Int), .one (.bnd 74 false [.ptr 1 0])] [rowA (d), bPl f l] (fun r m' => ∃ y : Bool, y = (Go.Sort.partialInsertionSort (usB l) d a b).2 ∧ (Go.Sort.partialInsertionSort (usB l) d a b).1 = d ∧ r = .x (.one (.bool y)) ∧ m' = [some (rowA (d)), some (bPl f l)]) := by
  have la := arr_len d
  have hV : InA d l.length := hI
  have hp := pi_short (lt := (usB l)) d hb50
  obtain ⟨Z, hZ⟩ : ∃ Z, Go.Sort.scanSorted (usB l) d b (a + 1) = Z := ⟨_, rfl⟩
  rw [hZ] at hp
  refine spec_of pMix (O := [(11, ([], [⟨0, [], []⟩, ⟨1, [], []⟩, ⟨2, [], []⟩, ⟨3, [], []⟩, ⟨4, [], []⟩, ⟨5, [], []⟩, ⟨6, [], []⟩, ⟨7, [], []⟩, ⟨8, [], []⟩, ⟨9, [], []⟩, ⟨10, [], []⟩, ⟨11, [], []⟩, ⟨12, [], []⟩, ⟨13, [], []⟩, ⟨14, [], []⟩, ⟨15, [2, 3, 4], []⟩, ⟨16, [], []⟩, ⟨17, [], []⟩])), (17, ([], [⟨0, [], []⟩, ⟨1, [], []⟩, ⟨2, [], []⟩, ⟨3, [], []⟩, ⟨4, [], []⟩, ⟨5, [], []⟩, ⟨6, [], []⟩, ⟨7, [], []⟩, ⟨8, [], []⟩, ⟨9, [], []⟩, ⟨10, [], []⟩, ⟨11, [], []⟩, ⟨12, [], []⟩, ⟨13, [], []⟩, ⟨14, [], []⟩, ⟨15, [2, 3, 4], []⟩, ⟨16, [], []⟩, ⟨17, [], []⟩])), (23, ([], [⟨0, [], []⟩, ⟨1, [], []⟩, ⟨2, [], []⟩, ⟨3, [], []⟩, ⟨4, [], []⟩, ⟨5, [], []⟩, ⟨6, [], []⟩, ⟨7, [], []⟩, ⟨8, [], []⟩, ⟨9, [], []⟩, ⟨10, [], []⟩, ⟨11, [], []⟩, ⟨12, [], []⟩, ⟨13, [], []⟩, ⟨14, [], []⟩, ⟨15, [2, 3, 4], []⟩, ⟨16, [], []⟩, ⟨17, [], []⟩]))]) Try.func107 (c := bodyOf Try.f107) rfl (by kernel_rfl) (by kernel_rfl) Try.ntmps107 (res := [.tmp 8]) (by kernel_rfl) ?_
  repeat' ((conv => whnf); first | refine Rng.g ?_ | refine Ob.g ?_ | refine Ob.e ?_ | refine Ob.m ?_ | refine Ob.mk (Nat.le_of_ble_eq_true rfl) ?_ | refine JoinVC.on ?_ | refine Nils.mk (fun h => ?_) ?_ | refine Val.t ?_ | refine Val.d ?_ | refine Mm.mk ?_ | (refine Br.mk (fun h => ?_) (fun h => ?_) <;> first | (exfalso; omega; done) | (exfalso; simp at h; done) | skip))
  refine LoopVC.un 1 ?_
  repeat' ((conv => whnf); first | refine Rng.g ?_ | refine Ob.g ?_ | refine Ob.e ?_ | refine Ob.m ?_ | refine Ob.mk (Nat.le_of_ble_eq_true rfl) ?_ | refine JoinVC.on ?_ | refine Nils.mk (fun h => ?_) ?_ | refine Val.t ?_ | refine Val.d ?_ | refine Mm.mk ?_ | (refine Br.mk (fun h => ?_) (fun h => ?_) <;> first | (exfalso; omega; done) | (exfalso; simp at h; done) | skip))
  refine LoopVC.cut (fun m st => ∃ i : Nat, a + 1 ≤ i ∧ i ≤ b ∧ m = b - i ∧ Go.Sort.scanSorted (usB l) d b i = Z ∧ st = ⟨2, envA 141 [(0, .x (.one (.own 0))), (1, .x (I (a : Int))), (2, .x (I (b : Int))), (3, .x (.one (.bnd 74 false [.ptr 1 0]))), (9, .int .i64 (i : Int)), (10, .int .i64 0)], [some (rowA (d)), some (bPl f l)]⟩) _ _ (fun e st => e = .exit 2 ∧ Z ≤ b ∧ st = ⟨2, envA 141 [(0, .x (.one (.own 0))), (1, .x (I (a : Int))), (2, .x (I (b : Int))), (3, .x (.one (.bnd 74 false [.ptr 1 0]))), (9, .int .i64 (Z : Int)), (10, .int .i64 0)], [some (rowA (d)), some (bPl f l)]⟩) ⟨a + 1, Nat.le_refl _, by omega, rfl, hZ, rfl⟩ ?_ ?_ ?_
  · refine ⟨[some 0, some 1], rfl, rfl, ?_, ?_⟩ <;> repeat' (first | exact trivial | exact rfl | exact Iff.rfl | apply And.intro)
  · rintro m _ ⟨i, h1, h2, hm, hi, rfl⟩
    by_cases hib : i < b
    rotate_left
    · rw [ss_no (fun h => hib h.1)] at hi
      subst hi
      repeat' ((conv => whnf); first | refine Rng.g ?_ | refine Ob.g ?_ | refine Ob.e ?_ | refine Ob.m ?_ | refine Ob.mk (Nat.le_of_ble_eq_true rfl) ?_ | refine JoinVC.on ?_ | refine Nils.mk (fun h => ?_) ?_ | refine Val.t ?_ | refine Val.d ?_ | refine Mm.mk ?_ | (refine Br.mk (fun h => ?_) (fun h => ?_) <;> first | (exfalso; omega; done) | (exfalso; simp at h; done) | skip))
      refine Meet.mk _ ⟨rfl, h2, rfl⟩ ?_
      refine ⟨[some 0, some 1], rfl, rfl, ?_, ?_⟩ <;> repeat' (first | exact trivial | exact rfl | exact Iff.rfl | apply And.intro)
    have gi : rI (i64s d.toList) ((i : Int)).toNat 0 = d[i]! := by rw [show ((i : Int)).toNat = i by omega]; exact arr_get d _
    have gj : rI (i64s d.toList) ((i : Int) - 1).toNat 0 = d[i - 1]! := by rw [show ((i : Int) - 1).toNat = i - 1 by omega]; exact arr_get d _
    repeat' ((conv => whnf); first | rw [gi] | rw [gj] | refine Rng.g ?_ | refine Ob.g ?_ | refine Ob.e ?_ | refine Ob.m ?_ | refine Ob.mk (Nat.le_of_ble_eq_true rfl) ?_ | refine JoinVC.on ?_ | refine Nils.mk (fun h => ?_) ?_ | refine Val.t ?_ | refine Val.d ?_ | refine Mm.mk ?_ | (refine Br.mk (fun h => ?_) (fun h => ?_) <;> first | (exfalso; omega; done) | (exfalso; simp at h; done) | skip))
    conv => whnf
    refine CallVC.mk [1] _ _ _ rfl rfl rfl (s74 f l d[i]! d[i - 1]! (hV i (by omega)) (hV (i - 1) (by omega))) (fun r m' h' => ?_)
    obtain ⟨rfl, rfl⟩ := h'
    conv => whnf
    by_cases hlt : (usB l) d[i]! d[i - 1]! = true
    · have hc := usF_yes hlt
      rw [ss_no (fun h => h.2 hlt)] at hi
      subst hi
      repeat' ((conv => whnf); first | rw [gi] | rw [gj] | refine Rng.g ?_ | refine Ob.g ?_ | refine Ob.e ?_ | refine Ob.m ?_ | refine Ob.mk (Nat.le_of_ble_eq_true rfl) ?_ | refine JoinVC.on ?_ | refine Nils.mk (fun h => ?_) ?_ | refine Val.t ?_ | refine Val.d ?_ | refine Mm.mk ?_ | (refine Br.mk (fun h => ?_) (fun h => ?_) <;> first | (exfalso; omega; done) | (exfalso; simp at h; done) | skip))
      refine Meet.mk _ ⟨rfl, h2, rfl⟩ ?_
      refine ⟨[some 0, some 1], rfl, rfl, ?_, ?_⟩ <;> repeat' (first | exact trivial | exact rfl | exact Iff.rfl | apply And.intro)
    · have hc := usF_no hlt
      rw [ss_yes hib hlt] at hi
      repeat' ((conv => whnf); first | rw [gi] | rw [gj] | refine Rng.g ?_ | refine Ob.g ?_ | refine Ob.e ?_ | refine Ob.m ?_ | refine Ob.mk (Nat.le_of_ble_eq_true rfl) ?_ | refine JoinVC.on ?_ | refine Nils.mk (fun h => ?_) ?_ | refine Val.t ?_ | refine Val.d ?_ | refine Mm.mk ?_ | (refine Br.mk (fun h => ?_) (fun h => ?_) <;> first | (exfalso; omega; done) | (exfalso; simp at h; done) | skip))
      refine Back.mk (b - (i + 1)) _ (by omega) ⟨i + 1, by omega, by omega, rfl, hi, rfl⟩ ?_
      refine ⟨[some 0, some 1], rfl, rfl, ?_, ?_⟩ <;> repeat' (first | exact trivial | exact rfl | exact Iff.rfl | apply And.intro)
  rintro e _ ⟨rfl, hZb, rfl⟩
  by_cases he : Z = b
  · have e1 : (Go.Sort.partialInsertionSort (usB l) d a b) = (d, true) := by rw [hp]; simp [he]
    repeat' ((conv => whnf); first | refine Rng.g ?_ | refine Ob.g ?_ | refine Ob.e ?_ | refine Ob.m ?_ | refine Ob.mk (Nat.le_of_ble_eq_true rfl) ?_ | refine JoinVC.on ?_ | refine Nils.mk (fun h => ?_) ?_ | refine Val.t ?_ | refine Val.d ?_ | refine Mm.mk ?_ | (refine Br.mk (fun h => ?_) (fun h => ?_) <;> first | (exfalso; omega; done) | (exfalso; simp at h; done) | skip))
    repeat refine Mm.mk ?_
    conv => whnf
    refine EndVC.mk _ rfl _ _ (⟨true, by rw [e1], by rw [e1], rfl, rfl⟩) ?_
    refine ⟨[some 0, some 1], rfl, rfl, ?_, ?_⟩ <;> repeat' (first | exact trivial | exact rfl | exact Iff.rfl | apply And.intro)
  · have e1 : (Go.Sort.partialInsertionSort (usB l) d a b) = (d, false) := by rw [hp]; simp [he]
    repeat' ((conv => whnf); first | refine Rng.g ?_ | refine Ob.g ?_ | refine Ob.e ?_ | refine Ob.m ?_ | refine Ob.mk (Nat.le_of_ble_eq_true rfl) ?_ | refine JoinVC.on ?_ | refine Nils.mk (fun h => ?_) ?_ | refine Val.t ?_ | refine Val.d ?_ | refine Mm.mk ?_ | (refine Br.mk (fun h => ?_) (fun h => ?_) <;> first | (exfalso; omega; done) | (exfalso; simp at h; done) | skip))
    repeat refine Mm.mk ?_
    conv => whnf
    refine EndVC.mk _ rfl _ _ (⟨false, by rw [e1], by rw [e1], rfl, rfl⟩) ?_
    refine ⟨[some 0, some 1], rfl, rfl, ?_, ?_⟩ <;> repeat' (first | exact trivial | exact rfl | exact Iff.rfl | apply And.intro)
end Go.Sx

namespace Go.Sx
open Go Go.Proofs
set_option maxRecDepth 10000
set_option maxHeartbeats 16000000
/-! ### The whole sort -/
theorem cpdq (f : Fmt) (l : List Sng) : ∀ (N0 : Nat) (d : Array Int) (_ : d.size ≤ 1000) (_ : InA d l.length) (a b lim : Nat), b - a = N0 → a ≤ b → b ≤ d.size → b - a ≤ 24 → lim ≤ 100 → Go.Sort.Below (usB l) a b d → HSpec Try.prog 83 [.one (.own 0), I (a : Int), I (b : Int), I (lim : Int), .one (.bnd 74 false [.ptr 1 0])] [rowA (d), bPl f l] (fun r m' => ∃ W : Array Int, Go.Sort.PermIn a b d W ∧ Go.Sort.SortedIn (usB l) a b W ∧ r = .tup [] ∧ m' = [some (rowA (W)), some (bPl f l)]) := by
  intro N0
  induction N0 using Nat.strongRecOn with
  | ind N0 ih =>
  intro d hz hI a b lim hN hab hb h24 hlim hB0
  refine spec_of pMix (O := []) Try.func83 (c := bodyOf Try.f83) rfl (by kernel_rfl) (by kernel_rfl) Try.ntmps83 (res := []) (by kernel_rfl) ?_
  repeat' ((conv => whnf); first | refine Rng.g ?_ | refine Ob.g ?_ | refine Ob.e ?_ | refine Ob.m ?_ | refine Ob.mk (Nat.le_of_ble_eq_true rfl) ?_ | refine JoinVC.on ?_ | refine Nils.mk (fun h => ?_) ?_ | refine Val.t ?_ | refine Val.d ?_ | refine Mm.mk ?_ | (refine Br.mk (fun h => ?_) (fun h => ?_) <;> first | (exfalso; omega; done) | (exfalso; simp at h; done) | skip))
  refine LoopVC.mk (fun m st => ∃ (x y lm : Nat) (wb wp : Bool) (V : Array Int), x ≤ y ∧ y ≤ d.size ∧ y - x ≤ b - a ∧ m = y - x ∧ V.size = d.size ∧ InA V l.length ∧ lm ≤ 100 ∧ Go.Sort.Below (usB l) x y V ∧ (∀ R, Go.Sort.PermIn x y V R → Go.Sort.SortedIn (usB l) x y R → Go.Sort.PermIn a b d R ∧ Go.Sort.SortedIn (usB l) a b R) ∧ st = ⟨2, envA 148 [(0, .x (.one (.own 0))), (1, .x (I (x : Int))), (2, .x (I (y : Int))), (3, .x (I (lm : Int))), (4, .x (.one (.bnd 74 false [.ptr 1 0]))), (10, .x (.one (.bool wb))), (11, .x (.one (.bool wp)))], [some (rowA (V)), some (bPl f l)]⟩) _ _ ⟨a, b, lim, true, true, d, hab, hb, Nat.le_refl _, rfl, rfl, hI, hlim, hB0, fun R h1 h2 => ⟨h1, h2⟩, rfl⟩ ?_ ?_
  · refine ⟨[some 0, some 1], rfl, rfl, ?_, ?_⟩ <;> repeat' (first | exact trivial | exact rfl | exact Iff.rfl | apply And.intro)
  rintro m _ ⟨x, y, lm, wb, wp, V, hxy, hyN, hle, hm, lV, hV, hlm, hB, hfin, rfl⟩
  by_cases h12 : y - x ≤ 12
  · repeat' ((conv => whnf); first | refine Rng.g ?_ | refine Ob.g ?_ | refine Ob.e ?_ | refine Ob.m ?_ | refine Ob.mk (Nat.le_of_ble_eq_true rfl) ?_ | refine JoinVC.on ?_ | refine Nils.mk (fun h => ?_) ?_ | refine Val.t ?_ | refine Val.d ?_ | refine Mm.mk ?_ | (refine Br.mk (fun h => ?_) (fun h => ?_) <;> first | (exfalso; omega; done) | (exfalso; simp at h; done) | skip))
    conv => whnf
    refine CallVC.mk [0, 1] _ _ _ rfl rfl rfl (cins f l V (by omega) hV x y hxy (by omega)) (fun r m' h' => ?_)
    obtain ⟨rfl, rfl⟩ := h'
    conv => whnf
    obtain ⟨p1, p2⟩ := Go.Sort.insertionSort_holds (lt := (usB l)) (swo_us l) V x y hxy (by omega)
    obtain ⟨q1, q2⟩ := hfin _ p1 p2
    repeat' ((conv => whnf); first | refine Rng.g ?_ | refine Ob.g ?_ | refine Ob.e ?_ | refine Ob.m ?_ | refine Ob.mk (Nat.le_of_ble_eq_true rfl) ?_ | refine JoinVC.on ?_ | refine Nils.mk (fun h => ?_) ?_ | refine Val.t ?_ | refine Val.d ?_ | refine Mm.mk ?_ | (refine Br.mk (fun h => ?_) (fun h => ?_) <;> first | (exfalso; omega; done) | (exfalso; simp at h; done) | skip))
    repeat refine Mm.mk ?_
    conv => whnf
    refine EndVC.mk _ rfl _ _ (⟨_, q1, q2, rfl, rfl⟩) ?_
    refine ⟨[some 0, some 1], rfl, rfl, ?_, ?_⟩ <;> repeat' (first | exact trivial | exact rfl | exact Iff.rfl | apply And.intro)
  by_cases h0 : lm = 0
  · subst h0
    repeat' ((conv => whnf); first | refine Rng.g ?_ | refine Ob.g ?_ | refine Ob.e ?_ | refine Ob.m ?_ | refine Ob.mk (Nat.le_of_ble_eq_true rfl) ?_ | refine JoinVC.on ?_ | refine Nils.mk (fun h => ?_) ?_ | refine Val.t ?_ | refine Val.d ?_ | refine Mm.mk ?_ | (refine Br.mk (fun h => ?_) (fun h => ?_) <;> first | (exfalso; omega; done) | (exfalso; simp at h; done) | skip))
    conv => whnf
    refine CallVC.mk [0, 1] _ _ _ rfl rfl rfl (cheap f l V (by omega) hV x y hxy (by omega)) (fun r m' h' => ?_)
    obtain ⟨rfl, rfl⟩ := h'
    conv => whnf
    obtain ⟨p1, p2⟩ := Go.Sort.heapSort_holds (lt := (usB l)) (swo_us l) V x y hxy (by omega)
    obtain ⟨q1, q2⟩ := hfin _ p1 p2
    repeat' ((conv => whnf); first | refine Rng.g ?_ | refine Ob.g ?_ | refine Ob.e ?_ | refine Ob.m ?_ | refine Ob.mk (Nat.le_of_ble_eq_true rfl) ?_ | refine JoinVC.on ?_ | refine Nils.mk (fun h => ?_) ?_ | refine Val.t ?_ | refine Val.d ?_ | refine Mm.mk ?_ | (refine Br.mk (fun h => ?_) (fun h => ?_) <;> first | (exfalso; omega; done) | (exfalso; simp at h; done) | skip))
    repeat refine Mm.mk ?_
    conv => whnf
    refine EndVC.mk _ rfl _ _ (⟨_, q1, q2, rfl, rfl⟩) ?_
    refine ⟨[some 0, some 1], rfl, rfl, ?_, ?_⟩ <;> repeat' (first | exact trivial | exact rfl | exact Iff.rfl | apply And.intro)
  repeat' ((conv => whnf); first | refine Rng.g ?_ | refine Ob.g ?_ | refine Ob.e ?_ | refine Ob.m ?_ | refine Ob.mk (Nat.le_of_ble_eq_true rfl) ?_ | refine Nils.mk (fun h => ?_) ?_ | refine Val.t ?_ | refine Val.d ?_ | refine Mm.mk ?_ | (refine Br.mk (fun h => ?_) (fun h => ?_) <;> first | (exfalso; omega; done) | (exfalso; simp at h; done) | skip))
  refine JoinVC.cut (fun st => ∃ (l2 : Nat) (W : Array Int), l2 ≤ 100 ∧ Go.Sort.PermIn x y V W ∧ st = ⟨2, envA 148 [(0, .x (.one (.own 0))), (1, .x (I (x : Int))), (2, .x (I (y : Int))), (3, .x (I (l2 : Int))), (4, .x (.one (.bnd 74 false [.ptr 1 0]))), (10, .x (.one (.bool wb))), (11, .x (.one (.bool wp))), (12, .int .i64 ((y : Int) - (x : Int)))], [some (rowA (W)), some (bPl f l)]⟩) ?_ ?_
  · cases wb with
    | true =>
      repeat' ((conv => whnf); first | refine Rng.g ?_ | refine Ob.g ?_ | refine Ob.e ?_ | refine Ob.m ?_ | refine Ob.mk (Nat.le_of_ble_eq_true rfl) ?_ | refine Nils.mk (fun h => ?_) ?_ | refine Val.t ?_ | refine Val.d ?_ | refine Mm.mk ?_ | (refine Br.mk (fun h => ?_) (fun h => ?_) <;> first | (exfalso; omega; done) | (exfalso; simp at h; done) | skip))
      refine Meet.mk _ ⟨lm, V, hlm, Go.Sort.permIn_refl _ _ _, rfl⟩ ?_
      refine ⟨[some 0, some 1], rfl, rfl, ?_, ?_⟩ <;> repeat' (first | exact trivial | exact rfl | exact Iff.rfl | apply And.intro)
    | false =>
      repeat' ((conv => whnf); first | refine Rng.g ?_ | refine Ob.g ?_ | refine Ob.e ?_ | refine Ob.m ?_ | refine Ob.mk (Nat.le_of_ble_eq_true rfl) ?_ | refine Nils.mk (fun h => ?_) ?_ | refine Val.t ?_ | refine Val.d ?_ | refine Mm.mk ?_ | (refine Br.mk (fun h => ?_) (fun h => ?_) <;> first | (exfalso; omega; done) | (exfalso; simp at h; done) | skip))
      conv => whnf
      refine CallVC.mk [0, 1] _ _ _ rfl rfl rfl (cbrk f l V (by omega) hV x y (by omega) (by omega) (by omega)) (fun r m' h' => ?_)
      obtain ⟨W, hW, rfl, rfl⟩ := h'
      conv => whnf
      repeat' ((conv => whnf); first | refine Rng.g ?_ | refine Ob.g ?_ | refine Ob.e ?_ | refine Ob.m ?_ | refine Ob.mk (Nat.le_of_ble_eq_true rfl) ?_ | refine Nils.mk (fun h => ?_) ?_ | refine Val.t ?_ | refine Val.d ?_ | refine Mm.mk ?_ | (refine Br.mk (fun h => ?_) (fun h => ?_) <;> first | (exfalso; omega; done) | (exfalso; simp at h; done) | skip))
      refine Meet.mk _ ⟨lm - 1, W, by omega, hW, rfl⟩ ?_
      refine ⟨[some 0, some 1], rfl, rfl, ?_, ?_⟩ <;> repeat' (first | exact trivial | exact rfl | exact Iff.rfl | apply And.intro)
      all_goals omega
  rintro _ ⟨l2, W, hl2, hPW, rfl⟩
  have lW := hPW.1
  have hW : InA W l.length := hV.perm (by omega) hPW
  repeat' ((conv => whnf); first | refine Rng.g ?_ | refine Ob.g ?_ | refine Ob.e ?_ | refine Ob.m ?_ | refine Ob.mk (Nat.le_of_ble_eq_true rfl) ?_ | refine Nils.mk (fun h => ?_) ?_ | refine Val.t ?_ | refine Val.d ?_ | refine Mm.mk ?_ | (refine Br.mk (fun h => ?_) (fun h => ?_) <;> first | (exfalso; omega; done) | (exfalso; simp at h; done) | skip))
  conv => whnf
  refine CallVC.mk [0, 1] _ _ _ rfl rfl rfl (cpiv f l W (by omega) hW x y (by omega) (by omega) (by omega)) (fun r m' h' => ?_)
  obtain ⟨p, gg, hp, rfl, rfl⟩ := h'
  conv => whnf
  repeat' ((conv => whnf); first | refine Rng.g ?_ | refine Ob.g ?_ | refine Ob.e ?_ | refine Ob.m ?_ | refine Ob.mk (Nat.le_of_ble_eq_true rfl) ?_ | refine Nils.mk (fun h => ?_) ?_ | refine Val.t ?_ | refine Val.d ?_ | refine Mm.mk ?_ | (refine Br.mk (fun h => ?_) (fun h => ?_) <;> first | (exfalso; omega; done) | (exfalso; simp at h; done) | skip))
  refine JoinVC.cut (fun st => ∃ (p2 : Nat) (h2 : Int) (W2 : Array Int), (x ≤ p2 ∧ p2 < y) ∧ Go.Sort.PermIn x y V W2 ∧ st = ⟨2, envA 148 [(0, .x (.one (.own 0))), (1, .x (I (x : Int))), (2, .x (I (y : Int))), (3, .x (I (l2 : Int))), (4, .x (.one (.bnd 74 false [.ptr 1 0]))), (10, .x (.one (.bool wb))), (11, .x (.one (.bool wp))), (12, .int .i64 ((y : Int) - (x : Int))), (13, .int .i64 (p2 : Int)), (14, .int .i64 h2)], [some (rowA (W2)), some (bPl f l)]⟩) ?_ ?_
  · by_cases hh : gg = 2
    · repeat' ((conv => whnf); first | refine Rng.g ?_ | refine Ob.g ?_ | refine Ob.e ?_ | refine Ob.m ?_ | refine Ob.mk (Nat.le_of_ble_eq_true rfl) ?_ | refine Nils.mk (fun h => ?_) ?_ | refine Val.t ?_ | refine Val.d ?_ | refine Mm.mk ?_ | (refine Br.mk (fun h => ?_) (fun h => ?_) <;> first | (exfalso; omega; done) | (exfalso; simp at h; done) | skip))
      conv => whnf
      refine CallVC.mk [0, 1] _ _ _ rfl rfl rfl (crev f l W (by omega) hW x y (by omega) (by omega)) (fun r m' h' => ?_)
      obtain ⟨W2, hW2, rfl, rfl⟩ := h'
      conv => whnf
      repeat' ((conv => whnf); first | refine Rng.g ?_ | refine Ob.g ?_ | refine Ob.e ?_ | refine Ob.m ?_ | refine Ob.mk (Nat.le_of_ble_eq_true rfl) ?_ | refine Nils.mk (fun h => ?_) ?_ | refine Val.t ?_ | refine Val.d ?_ | refine Mm.mk ?_ | (refine Br.mk (fun h => ?_) (fun h => ?_) <;> first | (exfalso; omega; done) | (exfalso; simp at h; done) | skip))
      refine Meet.mk _ ⟨(y - 1) - (p - x), 1, W2, by omega, Go.Sort.permIn_trans _ _ _ x y hPW hW2, rfl⟩ ?_
      refine ⟨[some 0, some 1], rfl, rfl, ?_, ?_⟩ <;> repeat' (first | exact trivial | exact rfl | exact Iff.rfl | apply And.intro)
      all_goals omega
    · repeat' ((conv => whnf); first | refine Rng.g ?_ | refine Ob.g ?_ | refine Ob.e ?_ | refine Ob.m ?_ | refine Ob.mk (Nat.le_of_ble_eq_true rfl) ?_ | refine Nils.mk (fun h => ?_) ?_ | refine Val.t ?_ | refine Val.d ?_ | refine Mm.mk ?_ | (refine Br.mk (fun h => ?_) (fun h => ?_) <;> first | (exfalso; omega; done) | (exfalso; simp at h; done) | skip))
      refine Meet.mk _ ⟨p, gg, W, hp, hPW, rfl⟩ ?_
      refine ⟨[some 0, some 1], rfl, rfl, ?_, ?_⟩ <;> repeat' (first | exact trivial | exact rfl | exact Iff.rfl | apply And.intro)
  clear hp hPW lW hW p gg W
  rintro _ ⟨p, gg, W2, hp, hPW2, rfl⟩
  have lW := hPW2.1
  have hW2 : InA W2 l.length := hV.perm (by omega) hPW2
  have hB2 := hB.perm (by omega) hPW2
  cases wb with
  | false =>
    obtain ⟨q8, hq8⟩ : ∃ q : Int, ((y : Int) - (x : Int)).tdiv 8 = q := ⟨_, rfl⟩
    have hq8r : 0 ≤ q8 ∧ q8 ≤ 3 := by
      rw [← hq8, Int.tdiv_eq_ediv_of_nonneg (by omega)]
      omega
    have la := arr_len W2
    by_cases hx0 : 0 < x
    rotate_left
    · repeat' ((conv => whnf); first | refine Rng.g ?_ | refine Ob.g ?_ | refine Ob.e ?_ | refine Ob.m ?_ | refine Ob.mk (Nat.le_of_ble_eq_true rfl) ?_ | refine JoinVC.on ?_ | refine Nils.mk (fun h => ?_) ?_ | refine Val.t ?_ | refine Val.d ?_ | refine Mm.mk ?_ | (refine Br.mk (fun h => ?_) (fun h => ?_) <;> first | (exfalso; omega; done) | (exfalso; simp at h; done) | skip))
      conv => whnf
      refine CallVC.mk [0, 1] _ _ _ rfl rfl rfl (cpart f l W2 (by omega) hW2 x y p hp (by omega)) (fun r m' h' => ?_)
      obtain ⟨mid, ap, W3, hx3, rfl, rfl⟩ := h'
      conv => whnf
      obtain ⟨g1, g2, hs4, hBa, hBr, hleft, hright⟩ := Go.Sort.round_part (swo_us l) (Go.Sort.partition_holds (usB l)) hp.1 hp.2 (by omega) hB2 hx3
      have hP3 := (Go.Sort.partition_holds (usB l) (swo_us l) W2 x y p hp.1 hp.2 (by omega)).2.2.1
      rw [hx3] at hP3
      have hW3 : InA W3 l.length := hW2.perm (by omega) hP3
      by_cases hlr : mid - x < y - mid
      · repeat' ((conv => whnf); first | refine Rng.g ?_ | refine Ob.g ?_ | refine Val.mk q8 hq8 ?_ | refine JoinVC.on ?_ | (refine Br.mk (fun h => ?_) (fun h => ?_) <;> first | (exfalso; omega; done) | skip))
        conv => whnf
        refine CallVC.mk [0, 1] _ _ _ rfl rfl rfl (ih (mid - x) (by omega) W3 (by omega) hW3 x mid l2 rfl (by omega) (by omega) (by omega) (by omega) hBa) (fun r m' h' => ?_)
        obtain ⟨L, k1, k2, rfl, rfl⟩ := h'
        conv => whnf
        have lL := k1.1
        obtain ⟨hBL, hf2⟩ := hleft L k1 k2
        repeat' ((conv => whnf); first | refine Rng.g ?_ | refine Ob.g ?_ | refine Val.mk q8 hq8 ?_ | refine JoinVC.on ?_ | (refine Br.mk (fun h => ?_) (fun h => ?_) <;> first | (exfalso; omega; done) | skip))
        refine Back.mk (y - (mid + 1)) _ (by omega) ⟨mid + 1, y, l2, decide (q8 ≤ (mid : Int) - (x : Int)), ap, L, by omega, by omega, by omega, rfl, by omega, hW3.perm (by omega) k1, by omega, hBL, fun R r1 r2 => hfin R (Go.Sort.permIn_trans _ _ _ x y hPW2 (hf2 R r1 r2).1) (hf2 R r1 r2).2, rfl⟩ ?_
        refine ⟨[some 0, some 1], rfl, rfl, ?_, ?_⟩ <;> repeat' (first | exact trivial | exact rfl | exact Iff.rfl | apply And.intro)
      · repeat' ((conv => whnf); first | refine Rng.g ?_ | refine Ob.g ?_ | refine Val.mk q8 hq8 ?_ | refine JoinVC.on ?_ | (refine Br.mk (fun h => ?_) (fun h => ?_) <;> first | (exfalso; omega; done) | skip))
        conv => whnf
        refine CallVC.mk [0, 1] _ _ _ rfl rfl rfl (ih (y - (mid + 1)) (by omega) W3 (by omega) hW3 (mid + 1) y l2 rfl (by omega) (by omega) (by omega) (by omega) hBr) (fun r m' h' => ?_)
        obtain ⟨L, k1, k2, rfl, rfl⟩ := h'
        conv => whnf
        have lL := k1.1
        obtain ⟨hBL, hf2⟩ := hright L k1 k2
        repeat' ((conv => whnf); first | refine Rng.g ?_ | refine Ob.g ?_ | refine Val.mk q8 hq8 ?_ | refine JoinVC.on ?_ | (refine Br.mk (fun h => ?_) (fun h => ?_) <;> first | (exfalso; omega; done) | skip))
        refine Back.mk (mid - x) _ (by omega) ⟨x, mid, l2, decide (q8 ≤ (y : Int) - (mid : Int)), ap, L, by omega, by omega, by omega, rfl, by omega, hW3.perm (by omega) k1, by omega, hBL, fun R r1 r2 => hfin R (Go.Sort.permIn_trans _ _ _ x y hPW2 (hf2 R r1 r2).1) (hf2 R r1 r2).2, rfl⟩ ?_
        refine ⟨[some 0, some 1], rfl, rfl, ?_, ?_⟩ <;> repeat' (first | exact trivial | exact rfl | exact Iff.rfl | apply And.intro)
    have gi : rI (i64s W2.toList) ((x : Int) - 1).toNat 0 = W2[x - 1]! := by rw [show ((x : Int) - 1).toNat = x - 1 by omega]; exact arr_get W2 _
    have gj : rI (i64s W2.toList) ((p : Int)).toNat 0 = W2[p]! := by rw [show ((p : Int)).toNat = p by omega]; exact arr_get W2 _
    repeat' ((conv => whnf); first | rw [gi] | rw [gj] | refine Rng.g ?_ | refine Ob.g ?_ | refine Ob.e ?_ | refine Ob.m ?_ | refine Ob.mk (Nat.le_of_ble_eq_true rfl) ?_ | refine JoinVC.on ?_ | refine Nils.mk (fun h => ?_) ?_ | refine Val.t ?_ | refine Val.d ?_ | refine Mm.mk ?_ | (refine Br.mk (fun h => ?_) (fun h => ?_) <;> first | (exfalso; omega; done) | (exfalso; simp at h; done) | skip))
    conv => whnf
    refine CallVC.mk [1] _ _ _ rfl rfl rfl (s74 f l W2[x - 1]! W2[p]! (hW2 (x - 1) (by omega)) (hW2 p (by omega))) (fun r m' h' => ?_)
    obtain ⟨rfl, rfl⟩ := h'
    conv => whnf
    by_cases hlt : (usB l) W2[x - 1]! W2[p]! = true
    · have hc := usF_yes hlt
      repeat' ((conv => whnf); first | refine Rng.g ?_ | refine Ob.g ?_ | refine Ob.e ?_ | refine Ob.m ?_ | refine Ob.mk (Nat.le_of_ble_eq_true rfl) ?_ | refine JoinVC.on ?_ | refine Nils.mk (fun h => ?_) ?_ | refine Val.t ?_ | refine Val.d ?_ | refine Mm.mk ?_ | (refine Br.mk (fun h => ?_) (fun h => ?_) <;> first | (exfalso; omega; done) | (exfalso; simp at h; done) | skip))
      conv => whnf
      refine CallVC.mk [0, 1] _ _ _ rfl rfl rfl (cpart f l W2 (by omega) hW2 x y p hp (by omega)) (fun r m' h' => ?_)
      obtain ⟨mid, ap, W3, hx3, rfl, rfl⟩ := h'
      conv => whnf
      obtain ⟨g1, g2, hs4, hBa, hBr, hleft, hright⟩ := Go.Sort.round_part (swo_us l) (Go.Sort.partition_holds (usB l)) hp.1 hp.2 (by omega) hB2 hx3
      have hP3 := (Go.Sort.partition_holds (usB l) (swo_us l) W2 x y p hp.1 hp.2 (by omega)).2.2.1
      rw [hx3] at hP3
      have hW3 : InA W3 l.length := hW2.perm (by omega) hP3
      by_cases hlr : mid - x < y - mid
      · repeat' ((conv => whnf); first | refine Rng.g ?_ | refine Ob.g ?_ | refine Val.mk q8 hq8 ?_ | refine JoinVC.on ?_ | (refine Br.mk (fun h => ?_) (fun h => ?_) <;> first | (exfalso; omega; done) | skip))
        conv => whnf
        refine CallVC.mk [0, 1] _ _ _ rfl rfl rfl (ih (mid - x) (by omega) W3 (by omega) hW3 x mid l2 rfl (by omega) (by omega) (by omega) (by omega) hBa) (fun r m' h' => ?_)
        obtain ⟨L, k1, k2, rfl, rfl⟩ := h'
        conv => whnf
        have lL := k1.1
        obtain ⟨hBL, hf2⟩ := hleft L k1 k2
        repeat' ((conv => whnf); first | refine Rng.g ?_ | refine Ob.g ?_ | refine Val.mk q8 hq8 ?_ | refine JoinVC.on ?_ | (refine Br.mk (fun h => ?_) (fun h => ?_) <;> first | (exfalso; omega; done) | skip))
        refine Back.mk (y - (mid + 1)) _ (by omega) ⟨mid + 1, y, l2, decide (q8 ≤ (mid : Int) - (x : Int)), ap, L, by omega, by omega, by omega, rfl, by omega, hW3.perm (by omega) k1, by omega, hBL, fun R r1 r2 => hfin R (Go.Sort.permIn_trans _ _ _ x y hPW2 (hf2 R r1 r2).1) (hf2 R r1 r2).2, rfl⟩ ?_
        refine ⟨[some 0, some 1], rfl, rfl, ?_, ?_⟩ <;> repeat' (first | exact trivial | exact rfl | exact Iff.rfl | apply And.intro)
      · repeat' ((conv => whnf); first | refine Rng.g ?_ | refine Ob.g ?_ | refine Val.mk q8 hq8 ?_ | refine JoinVC.on ?_ | (refine Br.mk (fun h => ?_) (fun h => ?_) <;> first | (exfalso; omega; done) | skip))
        conv => whnf
        refine CallVC.mk [0, 1] _ _ _ rfl rfl rfl (ih (y - (mid + 1)) (by omega) W3 (by omega) hW3 (mid + 1) y l2 rfl (by omega) (by omega) (by omega) (by omega) hBr) (fun r m' h' => ?_)
        obtain ⟨L, k1, k2, rfl, rfl⟩ := h'
        conv => whnf
        have lL := k1.1
        obtain ⟨hBL, hf2⟩ := hright L k1 k2
        repeat' ((conv => whnf); first | refine Rng.g ?_ | refine Ob.g ?_ | refine Val.mk q8 hq8 ?_ | refine JoinVC.on ?_ | (refine Br.mk (fun h => ?_) (fun h => ?_) <;> first | (exfalso; omega; done) | skip))
        refine Back.mk (mid - x) _ (by omega) ⟨x, mid, l2, decide (q8 ≤ (y : Int) - (mid : Int)), ap, L, by omega, by omega, by omega, rfl, by omega, hW3.perm (by omega) k1, by omega, hBL, fun R r1 r2 => hfin R (Go.Sort.permIn_trans _ _ _ x y hPW2 (hf2 R r1 r2).1) (hf2 R r1 r2).2, rfl⟩ ?_
        refine ⟨[some 0, some 1], rfl, rfl, ?_, ?_⟩ <;> repeat' (first | exact trivial | exact rfl | exact Iff.rfl | apply And.intro)
    · have hc := usF_no hlt
      repeat' ((conv => whnf); first | refine Rng.g ?_ | refine Ob.g ?_ | refine Ob.e ?_ | refine Ob.m ?_ | refine Ob.mk (Nat.le_of_ble_eq_true rfl) ?_ | refine JoinVC.on ?_ | refine Nils.mk (fun h => ?_) ?_ | refine Val.t ?_ | refine Val.d ?_ | refine Mm.mk ?_ | (refine Br.mk (fun h => ?_) (fun h => ?_) <;> first | (exfalso; omega; done) | (exfalso; simp at h; done) | skip))
      conv => whnf
      refine CallVC.mk [0, 1] _ _ _ rfl rfl rfl (cpeq f l W2 (by omega) hW2 x y p hp (by omega)) (fun r m' h' => ?_)
      obtain ⟨mid, W3, hx3, rfl, rfl⟩ := h'
      conv => whnf
      obtain ⟨g1, g2, hs4, hBm, hf2⟩ := Go.Sort.round_eq (swo_us l) (Go.Sort.partitionEqual_holds (usB l)) hx0 hp.1 hp.2 (by omega) hB2 (Bool.eq_false_iff.2 hlt) hx3
      have hP3 := (Go.Sort.partitionEqual_holds (usB l) (swo_us l) W2 x y p hp.1 hp.2 (by omega) (by
        intro i i1 i2
        rcases hB2 with e | e
        · omega
        · exact (swo_us l).ntrans _ _ _ (e i i1 i2) (Bool.eq_false_iff.2 hlt))).2.2.1
      rw [hx3] at hP3
      repeat' ((conv => whnf); first | refine Rng.g ?_ | refine Ob.g ?_ | refine Ob.e ?_ | refine Ob.m ?_ | refine Ob.mk (Nat.le_of_ble_eq_true rfl) ?_ | refine JoinVC.on ?_ | refine Nils.mk (fun h => ?_) ?_ | refine Val.t ?_ | refine Val.d ?_ | refine Mm.mk ?_ | (refine Br.mk (fun h => ?_) (fun h => ?_) <;> first | (exfalso; omega; done) | (exfalso; simp at h; done) | skip))
      refine Back.mk (y - mid) _ (by omega) ⟨mid, y, l2, false, wp, W3, by omega, by omega, by omega, rfl, by omega, hW2.perm (by omega) hP3, by omega, hBm, fun R r1 r2 => hfin R (Go.Sort.permIn_trans _ _ _ x y hPW2 (hf2 R r1 r2).1) (hf2 R r1 r2).2, rfl⟩ ?_
      refine ⟨[some 0, some 1], rfl, rfl, ?_, ?_⟩ <;> repeat' (first | exact trivial | exact rfl | exact Iff.rfl | apply And.intro)
  | true =>
    cases wp with
    | false =>
      obtain ⟨q8, hq8⟩ : ∃ q : Int, ((y : Int) - (x : Int)).tdiv 8 = q := ⟨_, rfl⟩
      have hq8r : 0 ≤ q8 ∧ q8 ≤ 3 := by
        rw [← hq8, Int.tdiv_eq_ediv_of_nonneg (by omega)]
        omega
      have la := arr_len W2
      by_cases hx0 : 0 < x
      rotate_left
      · repeat' ((conv => whnf); first | refine Rng.g ?_ | refine Ob.g ?_ | refine Ob.e ?_ | refine Ob.m ?_ | refine Ob.mk (Nat.le_of_ble_eq_true rfl) ?_ | refine JoinVC.on ?_ | refine Nils.mk (fun h => ?_) ?_ | refine Val.t ?_ | refine Val.d ?_ | refine Mm.mk ?_ | (refine Br.mk (fun h => ?_) (fun h => ?_) <;> first | (exfalso; omega; done) | (exfalso; simp at h; done) | skip))
        conv => whnf
        refine CallVC.mk [0, 1] _ _ _ rfl rfl rfl (cpart f l W2 (by omega) hW2 x y p hp (by omega)) (fun r m' h' => ?_)
        obtain ⟨mid, ap, W3, hx3, rfl, rfl⟩ := h'
        conv => whnf
        obtain ⟨g1, g2, hs4, hBa, hBr, hleft, hright⟩ := Go.Sort.round_part (swo_us l) (Go.Sort.partition_holds (usB l)) hp.1 hp.2 (by omega) hB2 hx3
        have hP3 := (Go.Sort.partition_holds (usB l) (swo_us l) W2 x y p hp.1 hp.2 (by omega)).2.2.1
        rw [hx3] at hP3
        have hW3 : InA W3 l.length := hW2.perm (by omega) hP3
        by_cases hlr : mid - x < y - mid
        · repeat' ((conv => whnf); first | refine Rng.g ?_ | refine Ob.g ?_ | refine Val.mk q8 hq8 ?_ | refine JoinVC.on ?_ | (refine Br.mk (fun h => ?_) (fun h => ?_) <;> first | (exfalso; omega; done) | skip))
          conv => whnf
          refine CallVC.mk [0, 1] _ _ _ rfl rfl rfl (ih (mid - x) (by omega) W3 (by omega) hW3 x mid l2 rfl (by omega) (by omega) (by omega) (by omega) hBa) (fun r m' h' => ?_)
          obtain ⟨L, k1, k2, rfl, rfl⟩ := h'
          conv => whnf
          have lL := k1.1
          obtain ⟨hBL, hf2⟩ := hleft L k1 k2
          repeat' ((conv => whnf); first | refine Rng.g ?_ | refine Ob.g ?_ | refine Val.mk q8 hq8 ?_ | refine JoinVC.on ?_ | (refine Br.mk (fun h => ?_) (fun h => ?_) <;> first | (exfalso; omega; done) | skip))
          refine Back.mk (y - (mid + 1)) _ (by omega) ⟨mid + 1, y, l2, decide (q8 ≤ (mid : Int) - (x : Int)), ap, L, by omega, by omega, by omega, rfl, by omega, hW3.perm (by omega) k1, by omega, hBL, fun R r1 r2 => hfin R (Go.Sort.permIn_trans _ _ _ x y hPW2 (hf2 R r1 r2).1) (hf2 R r1 r2).2, rfl⟩ ?_
          refine ⟨[some 0, some 1], rfl, rfl, ?_, ?_⟩ <;> repeat' (first | exact trivial | exact rfl | exact Iff.rfl | apply And.intro)
        · repeat' ((conv => whnf); first | refine Rng.g ?_ | refine Ob.g ?_ | refine Val.mk q8 hq8 ?_ | refine JoinVC.on ?_ | (refine Br.mk (fun h => ?_) (fun h => ?_) <;> first | (exfalso; omega; done) | skip))
          conv => whnf
          refine CallVC.mk [0, 1] _ _ _ rfl rfl rfl (ih (y - (mid + 1)) (by omega) W3 (by omega) hW3 (mid + 1) y l2 rfl (by omega) (by omega) (by omega) (by omega) hBr) (fun r m' h' => ?_)
          obtain ⟨L, k1, k2, rfl, rfl⟩ := h'
          conv => whnf
          have lL := k1.1
          obtain ⟨hBL, hf2⟩ := hright L k1 k2
          repeat' ((conv => whnf); first | refine Rng.g ?_ | refine Ob.g ?_ | refine Val.mk q8 hq8 ?_ | refine JoinVC.on ?_ | (refine Br.mk (fun h => ?_) (fun h => ?_) <;> first | (exfalso; omega; done) | skip))
          refine Back.mk (mid - x) _ (by omega) ⟨x, mid, l2, decide (q8 ≤ (y : Int) - (mid : Int)), ap, L, by omega, by omega, by omega, rfl, by omega, hW3.perm (by omega) k1, by omega, hBL, fun R r1 r2 => hfin R (Go.Sort.permIn_trans _ _ _ x y hPW2 (hf2 R r1 r2).1) (hf2 R r1 r2).2, rfl⟩ ?_
          refine ⟨[some 0, some 1], rfl, rfl, ?_, ?_⟩ <;> repeat' (first | exact trivial | exact rfl | exact Iff.rfl | apply And.intro)
      have gi : rI (i64s W2.toList) ((x : Int) - 1).toNat 0 = W2[x - 1]! := by rw [show ((x : Int) - 1).toNat = x - 1 by omega]; exact arr_get W2 _
      have gj : rI (i64s W2.toList) ((p : Int)).toNat 0 = W2[p]! := by rw [show ((p : Int)).toNat = p by omega]; exact arr_get W2 _
      repeat' ((conv => whnf); first | rw [gi] | rw [gj] | refine Rng.g ?_ | refine Ob.g ?_ | refine Ob.e ?_ | refine Ob.m ?_ | refine Ob.mk (Nat.le_of_ble_eq_true rfl) ?_ | refine JoinVC.on ?_ | refine Nils.mk (fun h => ?_) ?_ | refine Val.t ?_ | refine Val.d ?_ | refine Mm.mk ?_ | (refine Br.mk (fun h => ?_) (fun h => ?_) <;> first | (exfalso; omega; done) | (exfalso; simp at h; done) | skip))
      conv => whnf
      refine CallVC.mk [1] _ _ _ rfl rfl rfl (s74 f l W2[x - 1]! W2[p]! (hW2 (x - 1) (by omega)) (hW2 p (by omega))) (fun r m' h' => ?_)
      obtain ⟨rfl, rfl⟩ := h'
      conv => whnf
      by_cases hlt : (usB l) W2[x - 1]! W2[p]! = true
      · have hc := usF_yes hlt
        repeat' ((conv => whnf); first | refine Rng.g ?_ | refine Ob.g ?_ | refine Ob.e ?_ | refine Ob.m ?_ | refine Ob.mk (Nat.le_of_ble_eq_true rfl) ?_ | refine JoinVC.on ?_ | refine Nils.mk (fun h => ?_) ?_ | refine Val.t ?_ | refine Val.d ?_ | refine Mm.mk ?_ | (refine Br.mk (fun h => ?_) (fun h => ?_) <;> first | (exfalso; omega; done) | (exfalso; simp at h; done) | skip))
        conv => whnf
        refine CallVC.mk [0, 1] _ _ _ rfl rfl rfl (cpart f l W2 (by omega) hW2 x y p hp (by omega)) (fun r m' h' => ?_)
        obtain ⟨mid, ap, W3, hx3, rfl, rfl⟩ := h'
        conv => whnf
        obtain ⟨g1, g2, hs4, hBa, hBr, hleft, hright⟩ := Go.Sort.round_part (swo_us l) (Go.Sort.partition_holds (usB l)) hp.1 hp.2 (by omega) hB2 hx3
        have hP3 := (Go.Sort.partition_holds (usB l) (swo_us l) W2 x y p hp.1 hp.2 (by omega)).2.2.1
        rw [hx3] at hP3
        have hW3 : InA W3 l.length := hW2.perm (by omega) hP3
        by_cases hlr : mid - x < y - mid
        · repeat' ((conv => whnf); first | refine Rng.g ?_ | refine Ob.g ?_ | refine Val.mk q8 hq8 ?_ | refine JoinVC.on ?_ | (refine Br.mk (fun h => ?_) (fun h => ?_) <;> first | (exfalso; omega; done) | skip))
          conv => whnf
          refine CallVC.mk [0, 1] _ _ _ rfl rfl rfl (ih (mid - x) (by omega) W3 (by omega) hW3 x mid l2 rfl (by omega) (by omega) (by omega) (by omega) hBa) (fun r m' h' => ?_)
          obtain ⟨L, k1, k2, rfl, rfl⟩ := h'
          conv => whnf
          have lL := k1.1
          obtain ⟨hBL, hf2⟩ := hleft L k1 k2
          repeat' ((conv => whnf); first | refine Rng.g ?_ | refine Ob.g ?_ | refine Val.mk q8 hq8 ?_ | refine JoinVC.on ?_ | (refine Br.mk (fun h => ?_) (fun h => ?_) <;> first | (exfalso; omega; done) | skip))
          refine Back.mk (y - (mid + 1)) _ (by omega) ⟨mid + 1, y, l2, decide (q8 ≤ (mid : Int) - (x : Int)), ap, L, by omega, by omega, by omega, rfl, by omega, hW3.perm (by omega) k1, by omega, hBL, fun R r1 r2 => hfin R (Go.Sort.permIn_trans _ _ _ x y hPW2 (hf2 R r1 r2).1) (hf2 R r1 r2).2, rfl⟩ ?_
          refine ⟨[some 0, some 1], rfl, rfl, ?_, ?_⟩ <;> repeat' (first | exact trivial | exact rfl | exact Iff.rfl | apply And.intro)
        · repeat' ((conv => whnf); first | refine Rng.g ?_ | refine Ob.g ?_ | refine Val.mk q8 hq8 ?_ | refine JoinVC.on ?_ | (refine Br.mk (fun h => ?_) (fun h => ?_) <;> first | (exfalso; omega; done) | skip))
          conv => whnf
          refine CallVC.mk [0, 1] _ _ _ rfl rfl rfl (ih (y - (mid + 1)) (by omega) W3 (by omega) hW3 (mid + 1) y l2 rfl (by omega) (by omega) (by omega) (by omega) hBr) (fun r m' h' => ?_)
          obtain ⟨L, k1, k2, rfl, rfl⟩ := h'
          conv => whnf
          have lL := k1.1
          obtain ⟨hBL, hf2⟩ := hright L k1 k2
          repeat' ((conv => whnf); first | refine Rng.g ?_ | refine Ob.g ?_ | refine Val.mk q8 hq8 ?_ | refine JoinVC.on ?_ | (refine Br.mk (fun h => ?_) (fun h => ?_) <;> first | (exfalso; omega; done) | skip))
          refine Back.mk (mid - x) _ (by omega) ⟨x, mid, l2, decide (q8 ≤ (y : Int) - (mid : Int)), ap, L, by omega, by omega, by omega, rfl, by omega, hW3.perm (by omega) k1, by omega, hBL, fun R r1 r2 => hfin R (Go.Sort.permIn_trans _ _ _ x y hPW2 (hf2 R r1 r2).1) (hf2 R r1 r2).2, rfl⟩ ?_
          refine ⟨[some 0, some 1], rfl, rfl, ?_, ?_⟩ <;> repeat' (first | exact trivial | exact rfl | exact Iff.rfl | apply And.intro)
      · have hc := usF_no hlt
        repeat' ((conv => whnf); first | refine Rng.g ?_ | refine Ob.g ?_ | refine Ob.e ?_ | refine Ob.m ?_ | refine Ob.mk (Nat.le_of_ble_eq_true rfl) ?_ | refine JoinVC.on ?_ | refine Nils.mk (fun h => ?_) ?_ | refine Val.t ?_ | refine Val.d ?_ | refine Mm.mk ?_ | (refine Br.mk (fun h => ?_) (fun h => ?_) <;> first | (exfalso; omega; done) | (exfalso; simp at h; done) | skip))
        conv => whnf
        refine CallVC.mk [0, 1] _ _ _ rfl rfl rfl (cpeq f l W2 (by omega) hW2 x y p hp (by omega)) (fun r m' h' => ?_)
        obtain ⟨mid, W3, hx3, rfl, rfl⟩ := h'
        conv => whnf
        obtain ⟨g1, g2, hs4, hBm, hf2⟩ := Go.Sort.round_eq (swo_us l) (Go.Sort.partitionEqual_holds (usB l)) hx0 hp.1 hp.2 (by omega) hB2 (Bool.eq_false_iff.2 hlt) hx3
        have hP3 := (Go.Sort.partitionEqual_holds (usB l) (swo_us l) W2 x y p hp.1 hp.2 (by omega) (by
          intro i i1 i2
          rcases hB2 with e | e
          · omega
          · exact (swo_us l).ntrans _ _ _ (e i i1 i2) (Bool.eq_false_iff.2 hlt))).2.2.1
        rw [hx3] at hP3
        repeat' ((conv => whnf); first | refine Rng.g ?_ | refine Ob.g ?_ | refine Ob.e ?_ | refine Ob.m ?_ | refine Ob.mk (Nat.le_of_ble_eq_true rfl) ?_ | refine JoinVC.on ?_ | refine Nils.mk (fun h => ?_) ?_ | refine Val.t ?_ | refine Val.d ?_ | refine Mm.mk ?_ | (refine Br.mk (fun h => ?_) (fun h => ?_) <;> first | (exfalso; omega; done) | (exfalso; simp at h; done) | skip))
        refine Back.mk (y - mid) _ (by omega) ⟨mid, y, l2, true, false, W3, by omega, by omega, by omega, rfl, by omega, hW2.perm (by omega) hP3, by omega, hBm, fun R r1 r2 => hfin R (Go.Sort.permIn_trans _ _ _ x y hPW2 (hf2 R r1 r2).1) (hf2 R r1 r2).2, rfl⟩ ?_
        refine ⟨[some 0, some 1], rfl, rfl, ?_, ?_⟩ <;> repeat' (first | exact trivial | exact rfl | exact Iff.rfl | apply And.intro)
    | true =>
      by_cases hg1 : gg = 1
      rotate_left
      · skip
        obtain ⟨q8, hq8⟩ : ∃ q : Int, ((y : Int) - (x : Int)).tdiv 8 = q := ⟨_, rfl⟩
        have hq8r : 0 ≤ q8 ∧ q8 ≤ 3 := by
          rw [← hq8, Int.tdiv_eq_ediv_of_nonneg (by omega)]
          omega
        have la := arr_len W2
        by_cases hx0 : 0 < x
        rotate_left
        · repeat' ((conv => whnf); first | refine Rng.g ?_ | refine Ob.g ?_ | refine Ob.e ?_ | refine Ob.m ?_ | refine Ob.mk (Nat.le_of_ble_eq_true rfl) ?_ | refine JoinVC.on ?_ | refine Nils.mk (fun h => ?_) ?_ | refine Val.t ?_ | refine Val.d ?_ | refine Mm.mk ?_ | (refine Br.mk (fun h => ?_) (fun h => ?_) <;> first | (exfalso; omega; done) | (exfalso; simp at h; done) | skip))
          conv => whnf
          refine CallVC.mk [0, 1] _ _ _ rfl rfl rfl (cpart f l W2 (by omega) hW2 x y p hp (by omega)) (fun r m' h' => ?_)
          obtain ⟨mid, ap, W3, hx3, rfl, rfl⟩ := h'
          conv => whnf
          obtain ⟨g1, g2, hs4, hBa, hBr, hleft, hright⟩ := Go.Sort.round_part (swo_us l) (Go.Sort.partition_holds (usB l)) hp.1 hp.2 (by omega) hB2 hx3
          have hP3 := (Go.Sort.partition_holds (usB l) (swo_us l) W2 x y p hp.1 hp.2 (by omega)).2.2.1
          rw [hx3] at hP3
          have hW3 : InA W3 l.length := hW2.perm (by omega) hP3
          by_cases hlr : mid - x < y - mid
          · repeat' ((conv => whnf); first | refine Rng.g ?_ | refine Ob.g ?_ | refine Val.mk q8 hq8 ?_ | refine JoinVC.on ?_ | (refine Br.mk (fun h => ?_) (fun h => ?_) <;> first | (exfalso; omega; done) | skip))
            conv => whnf
            refine CallVC.mk [0, 1] _ _ _ rfl rfl rfl (ih (mid - x) (by omega) W3 (by omega) hW3 x mid l2 rfl (by omega) (by omega) (by omega) (by omega) hBa) (fun r m' h' => ?_)
            obtain ⟨L, k1, k2, rfl, rfl⟩ := h'
            conv => whnf
            have lL := k1.1
            obtain ⟨hBL, hf2⟩ := hleft L k1 k2
            repeat' ((conv => whnf); first | refine Rng.g ?_ | refine Ob.g ?_ | refine Val.mk q8 hq8 ?_ | refine JoinVC.on ?_ | (refine Br.mk (fun h => ?_) (fun h => ?_) <;> first | (exfalso; omega; done) | skip))
            refine Back.mk (y - (mid + 1)) _ (by omega) ⟨mid + 1, y, l2, decide (q8 ≤ (mid : Int) - (x : Int)), ap, L, by omega, by omega, by omega, rfl, by omega, hW3.perm (by omega) k1, by omega, hBL, fun R r1 r2 => hfin R (Go.Sort.permIn_trans _ _ _ x y hPW2 (hf2 R r1 r2).1) (hf2 R r1 r2).2, rfl⟩ ?_
            refine ⟨[some 0, some 1], rfl, rfl, ?_, ?_⟩ <;> repeat' (first | exact trivial | exact rfl | exact Iff.rfl | apply And.intro)
          · repeat' ((conv => whnf); first | refine Rng.g ?_ | refine Ob.g ?_ | refine Val.mk q8 hq8 ?_ | refine JoinVC.on ?_ | (refine Br.mk (fun h => ?_) (fun h => ?_) <;> first | (exfalso; omega; done) | skip))
            conv => whnf
            refine CallVC.mk [0, 1] _ _ _ rfl rfl rfl (ih (y - (mid + 1)) (by omega) W3 (by omega) hW3 (mid + 1) y l2 rfl (by omega) (by omega) (by omega) (by omega) hBr) (fun r m' h' => ?_)
            obtain ⟨L, k1, k2, rfl, rfl⟩ := h'
            conv => whnf
            have lL := k1.1
            obtain ⟨hBL, hf2⟩ := hright L k1 k2
            repeat' ((conv => whnf); first | refine Rng.g ?_ | refine Ob.g ?_ | refine Val.mk q8 hq8 ?_ | refine JoinVC.on ?_ | (refine Br.mk (fun h => ?_) (fun h => ?_) <;> first | (exfalso; omega; done) | skip))
            refine Back.mk (mid - x) _ (by omega) ⟨x, mid, l2, decide (q8 ≤ (y : Int) - (mid : Int)), ap, L, by omega, by omega, by omega, rfl, by omega, hW3.perm (by omega) k1, by omega, hBL, fun R r1 r2 => hfin R (Go.Sort.permIn_trans _ _ _ x y hPW2 (hf2 R r1 r2).1) (hf2 R r1 r2).2, rfl⟩ ?_
            refine ⟨[some 0, some 1], rfl, rfl, ?_, ?_⟩ <;> repeat' (first | exact trivial | exact rfl | exact Iff.rfl | apply And.intro)
        have gi : rI (i64s W2.toList) ((x : Int) - 1).toNat 0 = W2[x - 1]! := by rw [show ((x : Int) - 1).toNat = x - 1 by omega]; exact arr_get W2 _
        have gj : rI (i64s W2.toList) ((p : Int)).toNat 0 = W2[p]! := by rw [show ((p : Int)).toNat = p by omega]; exact arr_get W2 _
        repeat' ((conv => whnf); first | rw [gi] | rw [gj] | refine Rng.g ?_ | refine Ob.g ?_ | refine Ob.e ?_ | refine Ob.m ?_ | refine Ob.mk (Nat.le_of_ble_eq_true rfl) ?_ | refine JoinVC.on ?_ | refine Nils.mk (fun h => ?_) ?_ | refine Val.t ?_ | refine Val.d ?_ | refine Mm.mk ?_ | (refine Br.mk (fun h => ?_) (fun h => ?_) <;> first | (exfalso; omega; done) | (exfalso; simp at h; done) | skip))
        conv => whnf
        refine CallVC.mk [1] _ _ _ rfl rfl rfl (s74 f l W2[x - 1]! W2[p]! (hW2 (x - 1) (by omega)) (hW2 p (by omega))) (fun r m' h' => ?_)
        obtain ⟨rfl, rfl⟩ := h'
        conv => whnf
        by_cases hlt : (usB l) W2[x - 1]! W2[p]! = true
        · have hc := usF_yes hlt
          repeat' ((conv => whnf); first | refine Rng.g ?_ | refine Ob.g ?_ | refine Ob.e ?_ | refine Ob.m ?_ | refine Ob.mk (Nat.le_of_ble_eq_true rfl) ?_ | refine JoinVC.on ?_ | refine Nils.mk (fun h => ?_) ?_ | refine Val.t ?_ | refine Val.d ?_ | refine Mm.mk ?_ | (refine Br.mk (fun h => ?_) (fun h => ?_) <;> first | (exfalso; omega; done) | (exfalso; simp at h; done) | skip))
          conv => whnf
          refine CallVC.mk [0, 1] _ _ _ rfl rfl rfl (cpart f l W2 (by omega) hW2 x y p hp (by omega)) (fun r m' h' => ?_)
          obtain ⟨mid, ap, W3, hx3, rfl, rfl⟩ := h'
          conv => whnf
          obtain ⟨g1, g2, hs4, hBa, hBr, hleft, hright⟩ := Go.Sort.round_part (swo_us l) (Go.Sort.partition_holds (usB l)) hp.1 hp.2 (by omega) hB2 hx3
          have hP3 := (Go.Sort.partition_holds (usB l) (swo_us l) W2 x y p hp.1 hp.2 (by omega)).2.2.1
          rw [hx3] at hP3
          have hW3 : InA W3 l.length := hW2.perm (by omega) hP3
          by_cases hlr : mid - x < y - mid
          · repeat' ((conv => whnf); first | refine Rng.g ?_ | refine Ob.g ?_ | refine Val.mk q8 hq8 ?_ | refine JoinVC.on ?_ | (refine Br.mk (fun h => ?_) (fun h => ?_) <;> first | (exfalso; omega; done) | skip))
            conv => whnf
            refine CallVC.mk [0, 1] _ _ _ rfl rfl rfl (ih (mid - x) (by omega) W3 (by omega) hW3 x mid l2 rfl (by omega) (by omega) (by omega) (by omega) hBa) (fun r m' h' => ?_)
            obtain ⟨L, k1, k2, rfl, rfl⟩ := h'
            conv => whnf
            have lL := k1.1
            obtain ⟨hBL, hf2⟩ := hleft L k1 k2
            repeat' ((conv => whnf); first | refine Rng.g ?_ | refine Ob.g ?_ | refine Val.mk q8 hq8 ?_ | refine JoinVC.on ?_ | (refine Br.mk (fun h => ?_) (fun h => ?_) <;> first | (exfalso; omega; done) | skip))
            refine Back.mk (y - (mid + 1)) _ (by omega) ⟨mid + 1, y, l2, decide (q8 ≤ (mid : Int) - (x : Int)), ap, L, by omega, by omega, by omega, rfl, by omega, hW3.perm (by omega) k1, by omega, hBL, fun R r1 r2 => hfin R (Go.Sort.permIn_trans _ _ _ x y hPW2 (hf2 R r1 r2).1) (hf2 R r1 r2).2, rfl⟩ ?_
            refine ⟨[some 0, some 1], rfl, rfl, ?_, ?_⟩ <;> repeat' (first | exact trivial | exact rfl | exact Iff.rfl | apply And.intro)
          · repeat' ((conv => whnf); first | refine Rng.g ?_ | refine Ob.g ?_ | refine Val.mk q8 hq8 ?_ | refine JoinVC.on ?_ | (refine Br.mk (fun h => ?_) (fun h => ?_) <;> first | (exfalso; omega; done) | skip))
            conv => whnf
            refine CallVC.mk [0, 1] _ _ _ rfl rfl rfl (ih (y - (mid + 1)) (by omega) W3 (by omega) hW3 (mid + 1) y l2 rfl (by omega) (by omega) (by omega) (by omega) hBr) (fun r m' h' => ?_)
            obtain ⟨L, k1, k2, rfl, rfl⟩ := h'
            conv => whnf
            have lL := k1.1
            obtain ⟨hBL, hf2⟩ := hright L k1 k2
            repeat' ((conv => whnf); first | refine Rng.g ?_ | refine Ob.g ?_ | refine Val.mk q8 hq8 ?_ | refine JoinVC.on ?_ | (refine Br.mk (fun h => ?_) (fun h => ?_) <;> first | (exfalso; omega; done) | skip))
            refine Back.mk (mid - x) _ (by omega) ⟨x, mid, l2, decide (q8 ≤ (y : Int) - (mid : Int)), ap, L, by omega, by omega, by omega, rfl, by omega, hW3.perm (by omega) k1, by omega, hBL, fun R r1 r2 => hfin R (Go.Sort.permIn_trans _ _ _ x y hPW2 (hf2 R r1 r2).1) (hf2 R r1 r2).2, rfl⟩ ?_
            refine ⟨[some 0, some 1], rfl, rfl, ?_, ?_⟩ <;> repeat' (first | exact trivial | exact rfl | exact Iff.rfl | apply And.intro)
        · have hc := usF_no hlt
          repeat' ((conv => whnf); first | refine Rng.g ?_ | refine Ob.g ?_ | refine Ob.e ?_ | refine Ob.m ?_ | refine Ob.mk (Nat.le_of_ble_eq_true rfl) ?_ | refine JoinVC.on ?_ | refine Nils.mk (fun h => ?_) ?_ | refine Val.t ?_ | refine Val.d ?_ | refine Mm.mk ?_ | (refine Br.mk (fun h => ?_) (fun h => ?_) <;> first | (exfalso; omega; done) | (exfalso; simp at h; done) | skip))
          conv => whnf
          refine CallVC.mk [0, 1] _ _ _ rfl rfl rfl (cpeq f l W2 (by omega) hW2 x y p hp (by omega)) (fun r m' h' => ?_)
          obtain ⟨mid, W3, hx3, rfl, rfl⟩ := h'
          conv => whnf
          obtain ⟨g1, g2, hs4, hBm, hf2⟩ := Go.Sort.round_eq (swo_us l) (Go.Sort.partitionEqual_holds (usB l)) hx0 hp.1 hp.2 (by omega) hB2 (Bool.eq_false_iff.2 hlt) hx3
          have hP3 := (Go.Sort.partitionEqual_holds (usB l) (swo_us l) W2 x y p hp.1 hp.2 (by omega) (by
            intro i i1 i2
            rcases hB2 with e | e
            · omega
            · exact (swo_us l).ntrans _ _ _ (e i i1 i2) (Bool.eq_false_iff.2 hlt))).2.2.1
          rw [hx3] at hP3
          repeat' ((conv => whnf); first | refine Rng.g ?_ | refine Ob.g ?_ | refine Ob.e ?_ | refine Ob.m ?_ | refine Ob.mk (Nat.le_of_ble_eq_true rfl) ?_ | refine JoinVC.on ?_ | refine Nils.mk (fun h => ?_) ?_ | refine Val.t ?_ | refine Val.d ?_ | refine Mm.mk ?_ | (refine Br.mk (fun h => ?_) (fun h => ?_) <;> first | (exfalso; omega; done) | (exfalso; simp at h; done) | skip))
          refine Back.mk (y - mid) _ (by omega) ⟨mid, y, l2, true, true, W3, by omega, by omega, by omega, rfl, by omega, hW2.perm (by omega) hP3, by omega, hBm, fun R r1 r2 => hfin R (Go.Sort.permIn_trans _ _ _ x y hPW2 (hf2 R r1 r2).1) (hf2 R r1 r2).2, rfl⟩ ?_
          refine ⟨[some 0, some 1], rfl, rfl, ?_, ?_⟩ <;> repeat' (first | exact trivial | exact rfl | exact Iff.rfl | apply And.intro)
      subst hg1
      repeat' ((conv => whnf); first | refine Rng.g ?_ | refine Ob.g ?_ | refine Ob.e ?_ | refine Ob.m ?_ | refine Ob.mk (Nat.le_of_ble_eq_true rfl) ?_ | refine JoinVC.on ?_ | refine Nils.mk (fun h => ?_) ?_ | refine Val.t ?_ | refine Val.d ?_ | refine Mm.mk ?_ | (refine Br.mk (fun h => ?_) (fun h => ?_) <;> first | (exfalso; omega; done) | (exfalso; simp at h; done) | skip))
      conv => whnf
      refine CallVC.mk [0, 1] _ _ _ rfl rfl rfl (cpis f l W2 (by omega) hW2 x y (by omega) (by omega) (by omega)) (fun r m' h' => ?_)
      obtain ⟨yy, hy1, hy2, rfl, rfl⟩ := h'
      conv => whnf
      cases yy with
      | true =>
        have hs := (Go.Sort.partialInsertionSort_holds (lt := (usB l)) (swo_us l) W2 x y (by omega) (by omega) hB2).2 hy1.symm
        rw [hy2] at hs
        obtain ⟨q1, q2⟩ := hfin _ hPW2 hs
        repeat' ((conv => whnf); first | refine Rng.g ?_ | refine Ob.g ?_ | refine Ob.e ?_ | refine Ob.m ?_ | refine Ob.mk (Nat.le_of_ble_eq_true rfl) ?_ | refine JoinVC.on ?_ | refine Nils.mk (fun h => ?_) ?_ | refine Val.t ?_ | refine Val.d ?_ | refine Mm.mk ?_ | (refine Br.mk (fun h => ?_) (fun h => ?_) <;> first | (exfalso; omega; done) | (exfalso; simp at h; done) | skip))
        repeat refine Mm.mk ?_
        conv => whnf
        refine EndVC.mk _ rfl _ _ (⟨_, q1, q2, rfl, rfl⟩) ?_
        refine ⟨[some 0, some 1], rfl, rfl, ?_, ?_⟩ <;> repeat' (first | exact trivial | exact rfl | exact Iff.rfl | apply And.intro)
      | false =>
        obtain ⟨q8, hq8⟩ : ∃ q : Int, ((y : Int) - (x : Int)).tdiv 8 = q := ⟨_, rfl⟩
        have hq8r : 0 ≤ q8 ∧ q8 ≤ 3 := by
          rw [← hq8, Int.tdiv_eq_ediv_of_nonneg (by omega)]
          omega
        have la := arr_len W2
        by_cases hx0 : 0 < x
        rotate_left
        · repeat' ((conv => whnf); first | refine Rng.g ?_ | refine Ob.g ?_ | refine Ob.e ?_ | refine Ob.m ?_ | refine Ob.mk (Nat.le_of_ble_eq_true rfl) ?_ | refine JoinVC.on ?_ | refine Nils.mk (fun h => ?_) ?_ | refine Val.t ?_ | refine Val.d ?_ | refine Mm.mk ?_ | (refine Br.mk (fun h => ?_) (fun h => ?_) <;> first | (exfalso; omega; done) | (exfalso; simp at h; done) | skip))
          conv => whnf
          refine CallVC.mk [0, 1] _ _ _ rfl rfl rfl (cpart f l W2 (by omega) hW2 x y p hp (by omega)) (fun r m' h' => ?_)
          obtain ⟨mid, ap, W3, hx3, rfl, rfl⟩ := h'
          conv => whnf
          obtain ⟨g1, g2, hs4, hBa, hBr, hleft, hright⟩ := Go.Sort.round_part (swo_us l) (Go.Sort.partition_holds (usB l)) hp.1 hp.2 (by omega) hB2 hx3
          have hP3 := (Go.Sort.partition_holds (usB l) (swo_us l) W2 x y p hp.1 hp.2 (by omega)).2.2.1
          rw [hx3] at hP3
          have hW3 : InA W3 l.length := hW2.perm (by omega) hP3
          by_cases hlr : mid - x < y - mid
          · repeat' ((conv => whnf); first | refine Rng.g ?_ | refine Ob.g ?_ | refine Val.mk q8 hq8 ?_ | refine JoinVC.on ?_ | (refine Br.mk (fun h => ?_) (fun h => ?_) <;> first | (exfalso; omega; done) | skip))
            conv => whnf
            refine CallVC.mk [0, 1] _ _ _ rfl rfl rfl (ih (mid - x) (by omega) W3 (by omega) hW3 x mid l2 rfl (by omega) (by omega) (by omega) (by omega) hBa) (fun r m' h' => ?_)
            obtain ⟨L, k1, k2, rfl, rfl⟩ := h'
            conv => whnf
            have lL := k1.1
            obtain ⟨hBL, hf2⟩ := hleft L k1 k2
            repeat' ((conv => whnf); first | refine Rng.g ?_ | refine Ob.g ?_ | refine Val.mk q8 hq8 ?_ | refine JoinVC.on ?_ | (refine Br.mk (fun h => ?_) (fun h => ?_) <;> first | (exfalso; omega; done) | skip))
            refine Back.mk (y - (mid + 1)) _ (by omega) ⟨mid + 1, y, l2, decide (q8 ≤ (mid : Int) - (x : Int)), ap, L, by omega, by omega, by omega, rfl, by omega, hW3.perm (by omega) k1, by omega, hBL, fun R r1 r2 => hfin R (Go.Sort.permIn_trans _ _ _ x y hPW2 (hf2 R r1 r2).1) (hf2 R r1 r2).2, rfl⟩ ?_
            refine ⟨[some 0, some 1], rfl, rfl, ?_, ?_⟩ <;> repeat' (first | exact trivial | exact rfl | exact Iff.rfl | apply And.intro)
          · repeat' ((conv => whnf); first | refine Rng.g ?_ | refine Ob.g ?_ | refine Val.mk q8 hq8 ?_ | refine JoinVC.on ?_ | (refine Br.mk (fun h => ?_) (fun h => ?_) <;> first | (exfalso; omega; done) | skip))
            conv => whnf
            refine CallVC.mk [0, 1] _ _ _ rfl rfl rfl (ih (y - (mid + 1)) (by omega) W3 (by omega) hW3 (mid + 1) y l2 rfl (by omega) (by omega) (by omega) (by omega) hBr) (fun r m' h' => ?_)
            obtain ⟨L, k1, k2, rfl, rfl⟩ := h'
            conv => whnf
            have lL := k1.1
            obtain ⟨hBL, hf2⟩ := hright L k1 k2
            repeat' ((conv => whnf); first | refine Rng.g ?_ | refine Ob.g ?_ | refine Val.mk q8 hq8 ?_ | refine JoinVC.on ?_ | (refine Br.mk (fun h => ?_) (fun h => ?_) <;> first | (exfalso; omega; done) | skip))
            refine Back.mk (mid - x) _ (by omega) ⟨x, mid, l2, decide (q8 ≤ (y : Int) - (mid : Int)), ap, L, by omega, by omega, by omega, rfl, by omega, hW3.perm (by omega) k1, by omega, hBL, fun R r1 r2 => hfin R (Go.Sort.permIn_trans _ _ _ x y hPW2 (hf2 R r1 r2).1) (hf2 R r1 r2).2, rfl⟩ ?_
            refine ⟨[some 0, some 1], rfl, rfl, ?_, ?_⟩ <;> repeat' (first | exact trivial | exact rfl | exact Iff.rfl | apply And.intro)
        have gi : rI (i64s W2.toList) ((x : Int) - 1).toNat 0 = W2[x - 1]! := by rw [show ((x : Int) - 1).toNat = x - 1 by omega]; exact arr_get W2 _
        have gj : rI (i64s W2.toList) ((p : Int)).toNat 0 = W2[p]! := by rw [show ((p : Int)).toNat = p by omega]; exact arr_get W2 _
        repeat' ((conv => whnf); first | rw [gi] | rw [gj] | refine Rng.g ?_ | refine Ob.g ?_ | refine Ob.e ?_ | refine Ob.m ?_ | refine Ob.mk (Nat.le_of_ble_eq_true rfl) ?_ | refine JoinVC.on ?_ | refine Nils.mk (fun h => ?_) ?_ | refine Val.t ?_ | refine Val.d ?_ | refine Mm.mk ?_ | (refine Br.mk (fun h => ?_) (fun h => ?_) <;> first | (exfalso; omega; done) | (exfalso; simp at h; done) | skip))
        conv => whnf
        refine CallVC.mk [1] _ _ _ rfl rfl rfl (s74 f l W2[x - 1]! W2[p]! (hW2 (x - 1) (by omega)) (hW2 p (by omega))) (fun r m' h' => ?_)
        obtain ⟨rfl, rfl⟩ := h'
        conv => whnf
        by_cases hlt : (usB l) W2[x - 1]! W2[p]! = true
        · have hc := usF_yes hlt
          repeat' ((conv => whnf); first | refine Rng.g ?_ | refine Ob.g ?_ | refine Ob.e ?_ | refine Ob.m ?_ | refine Ob.mk (Nat.le_of_ble_eq_true rfl) ?_ | refine JoinVC.on ?_ | refine Nils.mk (fun h => ?_) ?_ | refine Val.t ?_ | refine Val.d ?_ | refine Mm.mk ?_ | (refine Br.mk (fun h => ?_) (fun h => ?_) <;> first | (exfalso; omega; done) | (exfalso; simp at h; done) | skip))
          conv => whnf
          refine CallVC.mk [0, 1] _ _ _ rfl rfl rfl (cpart f l W2 (by omega) hW2 x y p hp (by omega)) (fun r m' h' => ?_)
          obtain ⟨mid, ap, W3, hx3, rfl, rfl⟩ := h'
          conv => whnf
          obtain ⟨g1, g2, hs4, hBa, hBr, hleft, hright⟩ := Go.Sort.round_part (swo_us l) (Go.Sort.partition_holds (usB l)) hp.1 hp.2 (by omega) hB2 hx3
          have hP3 := (Go.Sort.partition_holds (usB l) (swo_us l) W2 x y p hp.1 hp.2 (by omega)).2.2.1
          rw [hx3] at hP3
          have hW3 : InA W3 l.length := hW2.perm (by omega) hP3
          by_cases hlr : mid - x < y - mid
          · repeat' ((conv => whnf); first | refine Rng.g ?_ | refine Ob.g ?_ | refine Val.mk q8 hq8 ?_ | refine JoinVC.on ?_ | (refine Br.mk (fun h => ?_) (fun h => ?_) <;> first | (exfalso; omega; done) | skip))
            conv => whnf
            refine CallVC.mk [0, 1] _ _ _ rfl rfl rfl (ih (mid - x) (by omega) W3 (by omega) hW3 x mid l2 rfl (by omega) (by omega) (by omega) (by omega) hBa) (fun r m' h' => ?_)
            obtain ⟨L, k1, k2, rfl, rfl⟩ := h'
            conv => whnf
            have lL := k1.1
            obtain ⟨hBL, hf2⟩ := hleft L k1 k2
            repeat' ((conv => whnf); first | refine Rng.g ?_ | refine Ob.g ?_ | refine Val.mk q8 hq8 ?_ | refine JoinVC.on ?_ | (refine Br.mk (fun h => ?_) (fun h => ?_) <;> first | (exfalso; omega; done) | skip))
            refine Back.mk (y - (mid + 1)) _ (by omega) ⟨mid + 1, y, l2, decide (q8 ≤ (mid : Int) - (x : Int)), ap, L, by omega, by omega, by omega, rfl, by omega, hW3.perm (by omega) k1, by omega, hBL, fun R r1 r2 => hfin R (Go.Sort.permIn_trans _ _ _ x y hPW2 (hf2 R r1 r2).1) (hf2 R r1 r2).2, rfl⟩ ?_
            refine ⟨[some 0, some 1], rfl, rfl, ?_, ?_⟩ <;> repeat' (first | exact trivial | exact rfl | exact Iff.rfl | apply And.intro)
          · repeat' ((conv => whnf); first | refine Rng.g ?_ | refine Ob.g ?_ | refine Val.mk q8 hq8 ?_ | refine JoinVC.on ?_ | (refine Br.mk (fun h => ?_) (fun h => ?_) <;> first | (exfalso; omega; done) | skip))
            conv => whnf
            refine CallVC.mk [0, 1] _ _ _ rfl rfl rfl (ih (y - (mid + 1)) (by omega) W3 (by omega) hW3 (mid + 1) y l2 rfl (by omega) (by omega) (by omega) (by omega) hBr) (fun r m' h' => ?_)
            obtain ⟨L, k1, k2, rfl, rfl⟩ := h'
            conv => whnf
            have lL := k1.1
            obtain ⟨hBL, hf2⟩ := hright L k1 k2
            repeat' ((conv => whnf); first | refine Rng.g ?_ | refine Ob.g ?_ | refine Val.mk q8 hq8 ?_ | refine JoinVC.on ?_ | (refine Br.mk (fun h => ?_) (fun h => ?_) <;> first | (exfalso; omega; done) | skip))
            refine Back.mk (mid - x) _ (by omega) ⟨x, mid, l2, decide (q8 ≤ (y : Int) - (mid : Int)), ap, L, by omega, by omega, by omega, rfl, by omega, hW3.perm (by omega) k1, by omega, hBL, fun R r1 r2 => hfin R (Go.Sort.permIn_trans _ _ _ x y hPW2 (hf2 R r1 r2).1) (hf2 R r1 r2).2, rfl⟩ ?_
            refine ⟨[some 0, some 1], rfl, rfl, ?_, ?_⟩ <;> repeat' (first | exact trivial | exact rfl | exact Iff.rfl | apply And.intro)
        · have hc := usF_no hlt
          repeat' ((conv => whnf); first | refine Rng.g ?_ | refine Ob.g ?_ | refine Ob.e ?_ | refine Ob.m ?_ | refine Ob.mk (Nat.le_of_ble_eq_true rfl) ?_ | refine JoinVC.on ?_ | refine Nils.mk (fun h => ?_) ?_ | refine Val.t ?_ | refine Val.d ?_ | refine Mm.mk ?_ | (refine Br.mk (fun h => ?_) (fun h => ?_) <;> first | (exfalso; omega; done) | (exfalso; simp at h; done) | skip))
          conv => whnf
          refine CallVC.mk [0, 1] _ _ _ rfl rfl rfl (cpeq f l W2 (by omega) hW2 x y p hp (by omega)) (fun r m' h' => ?_)
          obtain ⟨mid, W3, hx3, rfl, rfl⟩ := h'
          conv => whnf
          obtain ⟨g1, g2, hs4, hBm, hf2⟩ := Go.Sort.round_eq (swo_us l) (Go.Sort.partitionEqual_holds (usB l)) hx0 hp.1 hp.2 (by omega) hB2 (Bool.eq_false_iff.2 hlt) hx3
          have hP3 := (Go.Sort.partitionEqual_holds (usB l) (swo_us l) W2 x y p hp.1 hp.2 (by omega) (by
            intro i i1 i2
            rcases hB2 with e | e
            · omega
            · exact (swo_us l).ntrans _ _ _ (e i i1 i2) (Bool.eq_false_iff.2 hlt))).2.2.1
          rw [hx3] at hP3
          repeat' ((conv => whnf); first | refine Rng.g ?_ | refine Ob.g ?_ | refine Ob.e ?_ | refine Ob.m ?_ | refine Ob.mk (Nat.le_of_ble_eq_true rfl) ?_ | refine JoinVC.on ?_ | refine Nils.mk (fun h => ?_) ?_ | refine Val.t ?_ | refine Val.d ?_ | refine Mm.mk ?_ | (refine Br.mk (fun h => ?_) (fun h => ?_) <;> first | (exfalso; omega; done) | (exfalso; simp at h; done) | skip))
          refine Back.mk (y - mid) _ (by omega) ⟨mid, y, l2, true, true, W3, by omega, by omega, by omega, rfl, by omega, hW2.perm (by omega) hP3, by omega, hBm, fun R r1 r2 => hfin R (Go.Sort.permIn_trans _ _ _ x y hPW2 (hf2 R r1 r2).1) (hf2 R r1 r2).2, rfl⟩ ?_
          refine ⟨[some 0, some 1], rfl, rfl, ?_, ?_⟩ <;> repeat' (first | exact trivial | exact rfl | exact Iff.rfl | apply And.intro)
theorem s73u (f : Fmt) (l : List Sng) (O : List Int) (hO : OrdOK l.length O) (hl : O.length ≤ 24) : HSpec Try.prog 73 [.one (.own 0), .one (.bnd 74 false [.ptr 1 0])] [rowOd O, bPl f l] (fun r m' => r = .tup [] ∧ m' = [some (rowOd (usu l O)), some (bPl f l)]) := by
  have lo := i64s_len O
  have hbl : 0 ≤ bl (O.length : Int) ∧ bl (O.length : Int) ≤ 5 := by unfold bl; (repeat' split) <;> omega
  obtain ⟨k, hk⟩ : ∃ k : Nat, bl (O.length : Int) = (k : Int) := ⟨(bl (O.length : Int)).toNat, by omega⟩
  have c := s80b (O.length : Int) (by omega)
  rw [hk] at c
  have hIn : InA O.toArray l.length := fun i hi => by
    rw [← arr_getD]
    exact hO.rng i (by simpa using hi)
  have cp := cpdq f l O.length O.toArray (by simp; omega) hIn 0 O.length k (by omega) (by omega) (by simp) (by omega) (by omega) (.inl rfl)
  refine spec_of pMix (O := []) Try.func73 (c := bodyOf Try.f73) rfl (by kernel_rfl) (by kernel_rfl) Try.ntmps73 (res := []) (by kernel_rfl) ?_
  repeat' ((conv => whnf); first | rw [lo] | refine Rng.g ?_ | refine Ob.g ?_ | refine Ob.e ?_ | refine Ob.m ?_ | refine Ob.mk (Nat.le_of_ble_eq_true rfl) ?_ | refine JoinVC.on ?_ | refine Nils.mk (fun h => ?_) ?_ | refine Val.t ?_ | refine Val.d ?_ | refine Mm.mk ?_ | (refine Br.mk (fun h => ?_) (fun h => ?_) <;> first | (exfalso; omega; done) | (exfalso; simp at h; done) | skip))
  conv => whnf
  refine CallVC.mk [] _ _ _ rfl rfl rfl (c) (fun r m' h' => ?_)
  obtain ⟨rfl, rfl⟩ := h'
  conv => whnf
  repeat' ((conv => whnf); first | refine Rng.g ?_ | refine Ob.g ?_ | refine Ob.e ?_ | refine Ob.m ?_ | refine Ob.mk (Nat.le_of_ble_eq_true rfl) ?_ | refine JoinVC.on ?_ | refine Nils.mk (fun h => ?_) ?_ | refine Val.t ?_ | refine Val.d ?_ | refine Mm.mk ?_ | (refine Br.mk (fun h => ?_) (fun h => ?_) <;> first | (exfalso; omega; done) | (exfalso; simp at h; done) | skip))
  conv => whnf
  refine CallVC.mk [0, 1] _ _ _ rfl rfl rfl (cp) (fun r m' h' => ?_)
  obtain ⟨W, h1, h2, rfl, rfl⟩ := h'
  conv => whnf
  have hsz : W.size = O.length := by have := h1.1; simpa using this
  have hp : W.toList.Perm O := by
    have := perm_in (d := O.toArray) (d' := W) (by simpa using h1)
    simpa using this
  have hn : W.toList.Nodup := hp.nodup_iff.2 hO.nodup
  have hs : SrtU l W.toList := by
    unfold SrtU
    rw [List.pairwise_iff_getElem]
    intro i j hi hj hij
    have e1 : W.toList[i] = W[i]! := by rw [← arr_getD, List.getD_eq_getElem?_getD, List.getElem?_eq_getElem hi]; rfl
    have e2 : W.toList[j] = W[j]! := by rw [← arr_getD, List.getD_eq_getElem?_getD, List.getElem?_eq_getElem hj]; rfl
    have h3 := h2 i j (Nat.zero_le _) hij (by rw [Array.length_toList] at hj; omega)
    have hne : W[i]! ≠ W[j]! := fun e => by
      have := (List.getElem_inj hn (h₀ := hi) (h₁ := hj)).1 (by rw [e1, e2, e])
      omega
    rw [e1, e2]
    rcases usB_tot (l := l) hne with h | h
    · exact h
    · rw [h3] at h; cases h
  rw [usu_uniq hO.nodup hs hp]
  repeat' ((conv => whnf); first | refine Rng.g ?_ | refine Ob.g ?_ | refine Ob.e ?_ | refine Ob.m ?_ | refine Ob.mk (Nat.le_of_ble_eq_true rfl) ?_ | refine JoinVC.on ?_ | refine Nils.mk (fun h => ?_) ?_ | refine Val.t ?_ | refine Val.d ?_ | refine Mm.mk ?_ | (refine Br.mk (fun h => ?_) (fun h => ?_) <;> first | (exfalso; omega; done) | (exfalso; simp at h; done) | skip))
  repeat refine Mm.mk ?_
  refine EndVC.mk _ rfl _ _ ⟨rfl, rfl⟩ ?_
  refine ⟨[some 0, some 1], rfl, rfl, ?_, ?_⟩ <;> repeat' (first | exact trivial | exact rfl | exact Iff.rfl | apply And.intro)
end Go.Sx

namespace Go.Sx
open Go Go.Proofs
set_option maxRecDepth 10000
set_option maxHeartbeats 16000000
/-! ### Insertion -/
/-! ### Heaps -/
end Go.Sx

namespace Go.Sx
open Go Go.Proofs
set_option maxRecDepth 10000
set_option maxHeartbeats 16000000
/-! ### Partitions -/
end Go.Sx

namespace Go.Sx
open Go Go.Proofs
set_option maxRecDepth 10000
set_option maxHeartbeats 16000000
/-! ### The pivot -/
/-! ### Other parts -/
end Go.Sx

namespace Go.Sx
open Go Go.Proofs
set_option maxRecDepth 10000
set_option maxHeartbeats 16000000
/-! ### The whole sort -/
end Go.Sx

namespace Go.Sx
open Go Go.Proofs
set_option maxRecDepth 10000
set_option maxHeartbeats 4000000
/-! ### Best prices, forwards -/
def BestU (P : Int → Prop) (v : Int) : Prop := (v = -1 ∧ ∀ c, ¬ P c) ∨ (0 ≤ v ∧ P v ∧ ∀ c, P c → v ≤ c)
theorem BestU.congr {P Q : Int → Prop} {v : Int} (h : BestU P v) (e : ∀ c, P c ↔ Q c) : BestU Q v := by
  rcases h with ⟨h1, h2⟩ | ⟨h1, h2, h3⟩
  · exact .inl ⟨h1, fun c hc => h2 c ((e c).2 hc)⟩
  · exact .inr ⟨h1, (e v).1 h2, fun c hc => h3 c ((e c).2 hc)⟩
theorem BestU.add {P : Int → Prop} {v x : Int} (h : BestU P v) (hx : 0 ≤ x) {Q : Int → Prop} (hQx : Q x) (hQ : ∀ c, Q c → x ≤ c) : BestU (fun c => P c ∨ Q c) (if v < 0 ∨ x < v then x else v) := by
  rcases h with ⟨h1, h2⟩ | ⟨h1, h2, h3⟩
  · rw [if_pos (by omega)]
    exact .inr ⟨hx, .inr hQx, fun c hc => hc.elim (fun h => absurd h (h2 c)) (hQ c)⟩
  · split
    · exact .inr ⟨hx, .inr hQx, fun c hc => hc.elim (fun h => (by have := h3 c h; omega)) (hQ c)⟩
    · exact .inr ⟨h1, .inl h2, fun c hc => hc.elim (h3 c) (fun h => (by have := hQ c h; omega))⟩
/-- What the tracks before one may cost, if the last side begins before i. -/
def Cand (F : List Fmt) (l : List Sng) (i n : Nat) (c : Int) : Prop := (n = 0 ∧ c = 0) ∨ ∃ m k c', m < i ∧ Reach F l m c' ∧ faceP F l k m n ∧ c = c' + (F.getD k f0).cost
theorem cand_reach {F : List Fmt} {l : List Sng} {i n : Nat} (h : n ≤ i) (c : Int) : Cand F l i n c ↔ Reach F l n c := by
  constructor
  · rintro (⟨rfl, rfl⟩ | ⟨m, k, c', _, h2, h3, rfl⟩)
    · exact .nil
    · exact h2.step h3
  · intro hr
    cases hr with
    | nil => exact .inl ⟨rfl, rfl⟩
    | @step m _ k c' h1 h2 => exact .inr ⟨m, k, c', by have := h2.lt; omega, h1, h2, rfl⟩
/-- .. or with one of these faces from i on. -/
def CandL (F : List Fmt) (l : List Sng) (i : Nat) (L : List (Nat × Nat)) (n : Nat) (c : Int) : Prop := Cand F l i n c ∨ ∃ p, p ∈ L ∧ p.2 = n ∧ ∃ c', Reach F l i c' ∧ c = c' + (F.getD p.1 f0).cost
theorem candL_all {F : List Fmt} {l : List Sng} {i n : Nat} (c : Int) : CandL F l i (facesL F l i) n c ↔ Cand F l (i + 1) n c := by
  constructor
  · rintro ((h | ⟨m, k, c', h1, h2⟩) | ⟨p, h1, h2, c', h3, h4⟩)
    · exact .inl h
    · exact .inr ⟨m, k, c', by omega, h2⟩
    · exact .inr ⟨i, p.1, c', Nat.lt_succ_self i, h3, h2 ▸ mem_faces.1 h1, h4⟩
  · rintro (h | ⟨m, k, c', h1, h2, h3, h4⟩)
    · exact .inl (.inl h)
    · by_cases e : m = i
      · subst e
        exact .inr ⟨(k, n), mem_faces.2 h3, rfl, c', h2, h4⟩
      · exact .inl (.inr ⟨m, k, c', by omega, h2, h3, h4⟩)
theorem cand_skip {F : List Fmt} {l : List Sng} {i n : Nat} (h : ∀ c, ¬ Reach F l i c) (c : Int) : Cand F l i n c ↔ Cand F l (i + 1) n c := by
  rw [← candL_all]
  constructor
  · exact .inl
  · rintro (h1 | ⟨p, _, _, c', h3, _⟩)
    · exact h1
    · exact absurd h3 (h c')
/-- The prices, when the last side begins before i. -/
structure PrcOK (F : List Fmt) (l : List Sng) (P : Nat → Int → Prop) (p : List Int) : Prop where
  len : p.length = l.length + 1
  each : ∀ n, n ≤ l.length → BestU (P n) (p.getD n 0)
def stepP (F : List Fmt) (i : Nat) (p : List Int) (q : Nat × Nat) : List Int := if p.getD q.2 0 < 0 ∨ p.getD i 0 + (F.getD q.1 f0).cost < p.getD q.2 0 then p.set q.2 (p.getD i 0 + (F.getD q.1 f0).cost) else p
theorem stepP_ok {F : List Fmt} {l : List Sng} (hA : AlbOK F l) {i : Nat} (hi : i < l.length) {L : List (Nat × Nat)} {p : List Int} (h : PrcOK F l (CandL F l i L) p) (hL : ∀ q, q ∈ L → faceP F l q.1 i q.2) (h0 : 0 ≤ p.getD i 0) {q : Nat × Nat} (hq : faceP F l q.1 i q.2) : PrcOK F l (CandL F l i (L ++ [q])) (stepP F i p q) ∧ (stepP F i p q).getD i 0 = p.getD i 0 := by
  have hlt := hq.lt
  have hle := hq.le
  have hc := (hA.fmts q.1 hq.fmt).cost
  have hlen := h.len
  have hbi : BestU (Reach F l i) (p.getD i 0) := (h.each i (by omega)).congr fun c => by
    constructor
    · rintro (h1 | ⟨q', h1, h2, _⟩)
      · exact (cand_reach (Nat.le_refl i) c).1 h1
      · have := (hL q' h1).lt
        omega
    · exact fun h1 => .inl ((cand_reach (Nat.le_refl i) c).2 h1)
  obtain ⟨r1, r2⟩ : Reach F l i (p.getD i 0) ∧ ∀ c, Reach F l i c → p.getD i 0 ≤ c := by
    rcases hbi with ⟨h1, _⟩ | ⟨_, h1, h2⟩
    · omega
    · exact ⟨h1, h2⟩
  have key : ∀ n, n ≤ l.length → BestU (CandL F l i (L ++ [q]) n) (if n = q.2 then (if p.getD n 0 < 0 ∨ p.getD i 0 + (F.getD q.1 f0).cost < p.getD n 0 then p.getD i 0 + (F.getD q.1 f0).cost else p.getD n 0) else p.getD n 0) := fun n hn => by
    split
    · rename_i e
      subst e
      refine ((h.each q.2 hn).add (x := p.getD i 0 + (F.getD q.1 f0).cost) (Q := fun c => ∃ c', Reach F l i c' ∧ c = c' + (F.getD q.1 f0).cost) (by omega) ⟨_, r1, rfl⟩ fun c ⟨c', h1, h2⟩ => (by have := r2 c' h1; omega)).congr fun c => ?_
      constructor
      · rintro ((h1 | ⟨q', h1, h2⟩) | ⟨c', h1, h2⟩)
        · exact .inl h1
        · exact .inr ⟨q', List.mem_append_left _ h1, h2⟩
        · exact .inr ⟨q, List.mem_append_right _ List.mem_cons_self, rfl, c', h1, h2⟩
      · rintro (h1 | ⟨q', h1, h2, h3⟩)
        · exact .inl (.inl h1)
        · rcases List.mem_append.1 h1 with h4 | h4
          · exact .inl (.inr ⟨q', h4, h2, h3⟩)
          · rw [List.mem_singleton.1 h4] at h3
            exact .inr h3
    · rename_i e
      refine (h.each n hn).congr fun c => ?_
      constructor
      · rintro (h1 | ⟨q', h1, h2⟩)
        · exact .inl h1
        · exact .inr ⟨q', List.mem_append_left _ h1, h2⟩
      · rintro (h1 | ⟨q', h1, h2, h3⟩)
        · exact .inl h1
        · rcases List.mem_append.1 h1 with h4 | h4
          · exact .inr ⟨q', h4, h2, h3⟩
          · rw [List.mem_singleton.1 h4] at h2
            exact absurd h2.symm e
  have g : ∀ n, (stepP F i p q).getD n 0 = if n = q.2 then (if p.getD n 0 < 0 ∨ p.getD i 0 + (F.getD q.1 f0).cost < p.getD n 0 then p.getD i 0 + (F.getD q.1 f0).cost else p.getD n 0) else p.getD n 0 := fun n => by
    unfold stepP
    by_cases e : n = q.2
    · subst e
      rw [if_pos rfl]
      split
      · rw [gset _ _ _ _ _ (by omega), if_pos rfl]
      · rfl
    · rw [if_neg e]
      split
      · rw [gset _ _ _ _ _ (by omega), if_neg e]
      · rfl
  refine ⟨⟨?_, fun n hn => by rw [g]; exact key n hn⟩, ?_⟩
  · unfold stepP
    split
    · rw [List.length_set]; exact hlen
    · exact hlen
  · rw [g, if_neg (by omega)]
theorem reach_bd {F : List Fmt} {l : List Sng} (hA : AlbOK F l) {n : Nat} {c : Int} (h : Reach F l n c) : 0 ≤ c ∧ c ≤ 1048576 * (n : Int) := by
  induction h with
  | nil => omega
  | step h hf ih =>
    have h1 := (hA.fmts _ hf.fmt).cost
    have h2 := hf.lt
    omega
theorem candL_bd {F : List Fmt} {l : List Sng} (hA : AlbOK F l) {i n : Nat} {L : List (Nat × Nat)} (hL : ∀ q, q ∈ L → faceP F l q.1 i q.2) {c : Int} (h : CandL F l i L n c) : 0 ≤ c ∧ c ≤ 1048576 * (n : Int) := by
  rcases h with (⟨rfl, rfl⟩ | ⟨m, k, c', h1, h2, h3, rfl⟩) | ⟨q, h1, rfl, c', h2, rfl⟩
  · omega
  · exact reach_bd hA (h2.step h3)
  · exact reach_bd hA (h2.step (hL q h1))
theorem PrcOK.bd {F : List Fmt} {l : List Sng} (hA : AlbOK F l) {i : Nat} {L : List (Nat × Nat)} (hL : ∀ q, q ∈ L → faceP F l q.1 i q.2) {p : List Int} (h : PrcOK F l (CandL F l i L) p) {n : Nat} (hn : n ≤ l.length) : -1 ≤ p.getD n 0 ∧ p.getD n 0 ≤ 1048576 * (n : Int) := by
  rcases h.each n hn with ⟨h1, _⟩ | ⟨_, h1, _⟩
  · omega
  · have := candL_bd hA hL h1
    omega
theorem prc_nil {F : List Fmt} {l : List Sng} {i : Nat} {p : List Int} (h : PrcOK F l (Cand F l i) p) : PrcOK F l (CandL F l i []) p := ⟨h.len, fun n hn => (h.each n hn).congr fun c => ⟨.inl, fun h1 => h1.elim id fun ⟨q, h2, _⟩ => absurd h2 (by simp)⟩⟩
theorem prc_next {F : List Fmt} {l : List Sng} {i : Nat} {p : List Int} (h : PrcOK F l (CandL F l i (facesL F l i)) p) : PrcOK F l (Cand F l (i + 1)) p := ⟨h.len, fun n hn => (h.each n hn).congr fun c => candL_all c⟩
theorem prc_skip {F : List Fmt} {l : List Sng} {i : Nat} {p : List Int} (h : PrcOK F l (Cand F l i) p) (hi : i ≤ l.length) (h0 : p.getD i 0 < 0) : PrcOK F l (Cand F l (i + 1)) p := ⟨h.len, fun n hn => (h.each n hn).congr fun c => cand_skip (fun c hc => by
  rcases h.each i hi with ⟨_, h1⟩ | ⟨h1, _⟩
  · exact h1 c ((cand_reach (Nat.le_refl i) c).2 hc)
  · omega) c⟩
theorem prc_end {F : List Fmt} {l : List Sng} {p : List Int} (h : PrcOK F l (Cand F l l.length) p) : PrcOK F l (Reach F l) p := ⟨h.len, fun n hn => (h.each n hn).congr fun c => cand_reach hn c⟩
theorem prc_start {F : List Fmt} {l : List Sng} : PrcOK F l (Cand F l 0) ((List.replicate (l.length + 1) (-1)).set 0 0) := ⟨by simp, fun n hn => by
  rw [gset _ _ _ _ _ (by simp)]
  split
  · rename_i e
    subst e
    exact .inr ⟨Int.le_refl 0, .inl ⟨rfl, rfl⟩, fun c hc => (by
      rcases hc with ⟨_, rfl⟩ | ⟨m, k, c', h1, _⟩
      · exact Int.le_refl 0
      · omega)⟩
  · rename_i e
    have : (List.replicate (l.length + 1) (-1 : Int)).getD n 0 = -1 := by simp [List.getD_eq_getElem?_getD, show n < l.length + 1 by omega]
    rw [this]
    exact .inl ⟨rfl, fun c hc => (by
      rcases hc with ⟨h1, _⟩ | ⟨m, k, c', h1, _⟩
      · exact e h1
      · omega)⟩⟩
end Go.Sx

namespace Go.Sx
open Go Go.Proofs
set_option maxRecDepth 10000
set_option maxHeartbeats 8000000
theorem e76 : EntersF Try.prog 76 := enters_of Try.func76 (c := bodyOf Try.f76) (by kernel_rfl) rfl
theorem upd0 (n : Nat) : updRow (i64s (List.replicate (n + 1) (-1))) (Int.toNat 0) 0 [Cell.int 0] = i64s ((List.replicate (n + 1) (-1)).set 0 0) := i64s_upd' _ 0 0 (by simp)
noncomputable def rf33 : Code := cB (cS (cS (cS (cB (cF (cS (cS (cL (cB (cS (cF (cS (cS (cS (cS (cS (bodyOf Try.f33)))))))))))))))))
theorem s53 (F : List Fmt) (l : List Sng) (n : Int) (i : Int) : HSpec Try.prog 53 [.one (.ptr 0 0), I i] [bAlb F l n] (fun r m' => r = .x (.one (.fn 76 [(1, 0), (2, 0)])) ∧ m' = [some (bAlb F l n), some (.box 85 [.ptr 0 0]), some (.box 3 [.int .i64 i])]) := by
  refine spec_of pMix (O := []) Try.func53 (c := bodyOf Try.f53) rfl (by kernel_rfl) (by kernel_rfl) Try.ntmps53 (res := [.tmp 4]) (by kernel_rfl) ?_
  repeat' ((conv => whnf); first | refine Rng.g ?_ | refine Ob.g ?_ | refine Ob.e ?_ | refine Ob.m ?_ | refine Ob.mk (Nat.le_of_ble_eq_true rfl) ?_ | refine JoinVC.on ?_ | refine Nils.mk (fun h => ?_) ?_ | refine Val.t ?_ | refine Val.d ?_ | refine Mm.mk ?_ | (refine Br.mk (fun h => ?_) (fun h => ?_) <;> first | (exfalso; omega; done) | (exfalso; simp at h; done) | skip))
  repeat refine Mm.mk ?_
  conv => whnf
  refine EndVC.mk _ rfl _ _ (⟨rfl, rfl⟩) ?_
  refine ⟨[some 0, some 1, some 2], rfl, rfl, ?_, ?_⟩ <;> repeat' (first | exact trivial | exact rfl | exact Iff.rfl | apply And.intro)
theorem s33 (F : List Fmt) (l : List Sng) (hI : ∀ i, (F.getD i f0).nm.size ≤ 140737488355328) : HSpec Try.prog 33 [lFmt F, lSng l] [] (fun r m' => (fmsE F l ≠ 0 ∧ r = .tup [.one .nils, I (fmsE F l)] ∧ m' = []) ∨ (AlbOK F l ∧ ∃ p, PrcOK F l (Reach F l) p ∧ r = .tup [.one (.own 0), I 0] ∧ m' = [some (rowPr p)])) := by
  have ll := sngA_len l
  refine spec_of pMix (O := []) Try.func33 (c := bodyOf Try.f33) rfl (by kernel_rfl) (by kernel_rfl) Try.ntmps33 (res := [.tmp 4, .tmp 5]) (by kernel_rfl) ?_
  repeat' ((conv => whnf); first | refine Rng.g ?_ | refine Ob.g ?_ | refine Ob.e ?_ | refine Ob.m ?_ | refine Ob.mk (Nat.le_of_ble_eq_true rfl) ?_ | refine JoinVC.on ?_ | refine Nils.mk (fun h => ?_) ?_ | refine Val.t ?_ | refine Val.d ?_ | refine Mm.mk ?_ | (refine Br.mk (fun h => ?_) (fun h => ?_) <;> first | (exfalso; omega; done) | (exfalso; simp at h; done) | skip))
  conv => whnf
  refine CallVC.mk [] _ _ _ rfl rfl rfl (s49 F l hI) (fun r m' h' => ?_)
  rcases h' with ⟨he, rfl, rfl⟩ | ⟨he, rfl, rfl⟩ | ⟨hA, rfl, rfl⟩
  · repeat' ((conv => whnf); first | refine Rng.g ?_ | refine Ob.g ?_ | refine Ob.e ?_ | refine Ob.m ?_ | refine Ob.mk (Nat.le_of_ble_eq_true rfl) ?_ | refine JoinVC.on ?_ | refine Nils.mk (fun h => ?_) ?_ | refine Val.t ?_ | refine Val.d ?_ | refine Mm.mk ?_ | (refine Br.mk (fun h => ?_) (fun h => ?_) <;> first | (exfalso; omega; done) | (exfalso; simp at h; done) | skip))
    repeat refine Mm.mk ?_
    conv => whnf
    refine EndVC.mk _ rfl _ _ (.inl ⟨he, rfl, rfl⟩) ?_
    refine ⟨[], rfl, rfl, ?_, ?_⟩ <;> repeat' (first | exact trivial | exact rfl | exact Iff.rfl | apply And.intro)
  · repeat' ((conv => whnf); first | refine Rng.g ?_ | refine Ob.g ?_ | refine Ob.e ?_ | refine Ob.m ?_ | refine Ob.mk (Nat.le_of_ble_eq_true rfl) ?_ | refine JoinVC.on ?_ | refine Nils.mk (fun h => ?_) ?_ | refine Val.t ?_ | refine Val.d ?_ | refine Mm.mk ?_ | (refine Br.mk (fun h => ?_) (fun h => ?_) <;> first | (exfalso; omega; done) | (exfalso; simp at h; done) | skip))
    repeat refine Mm.mk ?_
    conv => whnf
    refine EndVC.mk _ rfl _ _ (.inl ⟨he, rfl, rfl⟩) ?_
    refine ⟨[], rfl, rfl, ?_, ?_⟩ <;> repeat' (first | exact trivial | exact rfl | exact Iff.rfl | apply And.intro)
  have h24 := hA.sngs.len
  have e1 : ((l.length + 1 : Nat) : Int) = (l.length : Int) + 1 := by omega
  have c66 := s66 (l.length + 1) (by omega)
  rw [e1] at c66
  have lr : (i64s (List.replicate (l.length + 1) (-1))).length = l.length + 1 := by rw [i64s_len, List.length_replicate]
  repeat' ((conv => whnf); first | rw [ll] | refine Rng.g ?_ | refine Ob.g ?_ | refine Ob.e ?_ | refine Ob.m ?_ | refine Ob.mk (Nat.le_of_ble_eq_true rfl) ?_ | refine JoinVC.on ?_ | refine Nils.mk (fun h => ?_) ?_ | refine Val.t ?_ | refine Val.d ?_ | refine Mm.mk ?_ | (refine Br.mk (fun h => ?_) (fun h => ?_) <;> first | (exfalso; omega; done) | (exfalso; simp at h; done) | skip))
  conv => whnf
  refine CallVC.mk [] _ _ _ rfl rfl rfl (c66) (fun r m' h' => ?_)
  obtain ⟨rfl, rfl⟩ := h'
  conv => whnf
  repeat' ((conv => whnf); first | refine Rng.g ?_ | refine Ob.g ?_ | refine Ob.e ?_ | refine Ob.m ?_ | refine Ob.mk (Nat.le_of_ble_eq_true rfl) ?_ | refine JoinVC.on ?_ | refine Nils.mk (fun h => ?_) ?_ | refine Val.t ?_ | refine Val.d ?_ | refine Mm.mk ?_ | (refine Br.mk (fun h => ?_) (fun h => ?_) <;> first | (exfalso; omega; done) | (exfalso; simp at h; done) | skip))
  refine LoopVC.mk (fun m st => ∃ (i : Nat) (p : List Int), i ≤ l.length ∧ m = l.length - i ∧ PrcOK F l (Cand F l i) p ∧ st = ⟨0, envA 83 [(6, .x (.one (.ptr 1 0))), (8, .x (.one (.ptr 3 0))), (30, .int .i64 (l.length : Int)), (31, .int .i64 (i : Int))], [some (bAlb F l (l.length : Int)), some (.box 85 [.ptr 0 0]), some (rowPr p), some (.box 48 [.own 2])]⟩) _ _ ⟨0, _, Nat.zero_le _, rfl, prc_start, rfl⟩ ?_ ?_
  · rw [upd0]
    refine ⟨[some 0, some 1, some 3, some 4], rfl, rfl, ?_, ?_⟩ <;> repeat' (first | exact trivial | exact rfl | exact Iff.rfl | apply And.intro)
    exact congrArg Int.ofNat ll
  rintro m _ ⟨i, p, hi, hm, hP, rfl⟩
  have lp := hP.len
  have lpi := i64s_len p
  by_cases hi' : i < l.length
  rotate_left
  · have ei : i = l.length := by omega
    subst ei
    repeat' ((conv => whnf); first | refine Rng.g ?_ | refine Ob.g ?_ | refine Ob.e ?_ | refine Ob.m ?_ | refine Ob.mk (Nat.le_of_ble_eq_true rfl) ?_ | refine JoinVC.on ?_ | refine Nils.mk (fun h => ?_) ?_ | refine Val.t ?_ | refine Val.d ?_ | refine Mm.mk ?_ | (refine Br.mk (fun h => ?_) (fun h => ?_) <;> first | (exfalso; omega; done) | (exfalso; simp at h; done) | skip))
    repeat refine Mm.mk ?_
    conv => whnf
    refine EndVC.mk _ rfl _ _ (.inr ⟨hA, p, prc_end hP, rfl, rfl⟩) ?_
    refine ⟨[some 2], rfl, rfl, ?_, ?_⟩ <;> repeat' (first | exact trivial | exact rfl | exact Iff.rfl | apply And.intro)
  have gi : rI (i64s p) (i : Int).toNat 0 = p.getD i 0 := by rw [Int.toNat_natCast]; exact i64s_get p i
  by_cases h0 : p.getD i 0 < 0
  · repeat' ((conv => whnf); first | rw [gi] | refine Rng.g ?_ | refine Ob.g ?_ | refine Ob.e ?_ | refine Ob.m ?_ | refine Ob.mk (Nat.le_of_ble_eq_true rfl) ?_ | refine JoinVC.on ?_ | refine Nils.mk (fun h => ?_) ?_ | refine Val.t ?_ | refine Val.d ?_ | refine Mm.mk ?_ | (refine Br.mk (fun h => ?_) (fun h => ?_) <;> first | (exfalso; omega; done) | (exfalso; simp at h; done) | skip))
    refine Back.mk (l.length - (i + 1)) _ (by omega) ⟨i + 1, p, by omega, rfl, prc_skip hP hi h0, rfl⟩ ?_
    refine ⟨[some 0, some 1, some 2, some 3], rfl, rfl, ?_, ?_⟩ <;> repeat' (first | exact trivial | exact rfl | exact Iff.rfl | apply And.intro)
  repeat' ((conv => whnf); first | rw [gi] | refine Rng.g ?_ | refine Ob.g ?_ | refine Ob.e ?_ | refine Ob.m ?_ | refine Ob.mk (Nat.le_of_ble_eq_true rfl) ?_ | refine JoinVC.on ?_ | refine Nils.mk (fun h => ?_) ?_ | refine Val.t ?_ | refine Val.d ?_ | refine Mm.mk ?_ | (refine Br.mk (fun h => ?_) (fun h => ?_) <;> first | (exfalso; omega; done) | (exfalso; simp at h; done) | skip))
  conv => whnf
  refine CallVC.mk [0] _ _ _ rfl rfl rfl (s53 F l (l.length : Int) (i : Int)) (fun r m' h' => ?_)
  obtain ⟨rfl, rfl⟩ := h'
  conv => whnf
  repeat' ((conv => whnf); first | refine Rng.g ?_ | refine Ob.g ?_ | refine Ob.e ?_ | refine Ob.m ?_ | refine Ob.mk (Nat.le_of_ble_eq_true rfl) ?_ | refine JoinVC.on ?_ | refine Nils.mk (fun h => ?_) ?_ | refine Val.t ?_ | refine Val.d ?_ | refine Mm.mk ?_ | (refine Br.mk (fun h => ?_) (fun h => ?_) <;> first | (exfalso; omega; done) | (exfalso; simp at h; done) | skip))
  have lpl := plsA_len F l
  have h8 := hA.few
  change RangeVC _ _ _ _ _
  refine RangeVC.mk e76 (isem_of_awp pMix [] Try.func76 (c := bodyOf Try.f76) rfl (by kernel_rfl) Try.ntmps76 (by kernel_rfl) ?_)
  repeat' ((conv => whnf); first | refine Rng.g ?_ | refine Ob.g ?_ | refine Ob.e ?_ | refine Ob.m ?_ | refine Ob.mk (Nat.le_of_ble_eq_true rfl) ?_ | refine JoinVC.on ?_ | refine Nils.mk (fun h => ?_) ?_ | refine Val.t ?_ | refine Val.d ?_ | refine Mm.mk ?_ | (refine Br.mk (fun h => ?_) (fun h => ?_) <;> first | (exfalso; omega; done) | (exfalso; simp at h; done) | skip))
  refine LoopVC.mk (fun n st => ∃ (k : Nat) (q : List Int), k ≤ F.length ∧ n = F.length - k ∧ PrcOK F l (CandL F l i (fcs F l i k)) q ∧ q.getD i 0 = p.getD i 0 ∧ st = ⟨8, envA 43 [(0, .x (.one (.yld 7))), (1, .x (.one (.ptr 5 0))), (2, .x (.one (.ptr 6 0))), (10, .x (.one (.lst true [.pt KPl] (plsA F l)))), (11, .int .i64 (F.length : Int)), (12, .int .i64 (k : Int))], [some (bAlb F l (l.length : Int)), some (.box 85 [.ptr 0 0]), some (rowPr q), some (.box 48 [.own 2]), some (.box 3 [.int .i64 (i : Int)]), some (.box 85 [.ptr 0 0]), some (.box 3 [.int .i64 (i : Int)]), some (.loop [42] (cAs rf33) (cBo rf33) (envA 83 [(6, .x (.one (.ptr 1 0))), (8, .x (.one (.ptr 3 0))), (9, .x (.one (.ptr 4 0))), (30, .int .i64 (l.length : Int)), (31, .int .i64 (i : Int))]) .ready)]⟩) _ _ ⟨0, p, Nat.zero_le _, rfl, prc_nil hP, rfl, rfl⟩ ?_ ?_
  · refine ⟨[some 0, some 1, some 2, some 3, some 4, some 5, some 6, some 7], rfl, rfl, ?_, ?_⟩ <;> repeat' (first | exact trivial | exact rfl | exact Iff.rfl | apply And.intro)
    exact congrArg Int.ofNat lpl
  rintro n _ ⟨k, q, hk, hn, hQ, hqi, rfl⟩
  by_cases hk' : k < F.length
  rotate_left
  · have ek : k = F.length := by omega
    subst ek
    repeat' ((conv => whnf); first | refine Rng.g ?_ | refine Ob.g ?_ | refine Ob.e ?_ | refine Ob.m ?_ | refine Ob.mk (Nat.le_of_ble_eq_true rfl) ?_ | refine JoinVC.on ?_ | refine Nils.mk (fun h => ?_) ?_ | refine Val.t ?_ | refine Val.d ?_ | refine Mm.mk ?_ | (refine Br.mk (fun h => ?_) (fun h => ?_) <;> first | (exfalso; omega; done) | (exfalso; simp at h; done) | skip))
    refine Back.mk (l.length - (i + 1)) _ (by omega) ⟨i + 1, q, by omega, rfl, prc_next hQ, rfl⟩ ?_
    refine ⟨[some 0, some 1, some 2, some 3], rfl, rfl, ?_, ?_⟩ <;> repeat' (first | exact trivial | exact rfl | exact Iff.rfl | apply And.intro)
  have gk : rA (plsA F l) (k : Int).toNat 0 = plA (F.getD k f0) l := by rw [Int.toNat_natCast]; exact plsA_at F l k hk'
  have hf := hA.fmts k hk'
  repeat' ((conv => whnf); first | rw [gk] | refine Rng.g ?_ | refine Ob.g ?_ | refine Ob.e ?_ | refine Ob.m ?_ | refine Ob.mk (Nat.le_of_ble_eq_true rfl) ?_ | refine JoinVC.on ?_ | refine Nils.mk (fun h => ?_) ?_ | refine Val.t ?_ | refine Val.d ?_ | refine Mm.mk ?_ | (refine Br.mk (fun h => ?_) (fun h => ?_) <;> first | (exfalso; omega; done) | (exfalso; simp at h; done) | skip))
  refine LoopVC.mk (fun n st => ∃ (j : Nat) (q : List Int), i < j ∧ j ≤ l.length + 1 ∧ n = l.length + 1 - j ∧ PrcOK F l (CandL F l i (fcs F l i k ++ fcj F l i k j)) q ∧ q.getD i 0 = p.getD i 0 ∧ st = ⟨8, envA 43 [(0, .x (.one (.yld 7))), (1, .x (.one (.ptr 5 0))), (2, .x (.one (.ptr 6 0))), (4, .int .i64 (k : Int)), (5, .x (plX (F.getD k f0) l)), (6, .int .i64 (j : Int)), (10, .x (.one (.lst true [.pt KPl] (plsA F l)))), (11, .int .i64 (F.length : Int)), (12, .int .i64 (k : Int))], [some (bAlb F l (l.length : Int)), some (.box 85 [.ptr 0 0]), some (rowPr q), some (.box 48 [.own 2]), some (.box 3 [.int .i64 (i : Int)]), some (.box 85 [.ptr 0 0]), some (.box 3 [.int .i64 (i : Int)]), some (.loop [42] (cAs rf33) (cBo rf33) (envA 83 [(6, .x (.one (.ptr 1 0))), (8, .x (.one (.ptr 3 0))), (9, .x (.one (.ptr 4 0))), (30, .int .i64 (l.length : Int)), (31, .int .i64 (i : Int))]) .ready)]⟩) _ _ ⟨i + 1, q, by omega, by omega, rfl, by rw [fcj_lo _ (Nat.le_refl _), List.append_nil]; exact hQ, hqi, rfl⟩ ?_ ?_
  · refine ⟨[some 0, some 1, some 2, some 3, some 4, some 5, some 6, some 7], rfl, rfl, ?_, ?_⟩ <;> repeat' (first | exact trivial | exact rfl | exact Iff.rfl | apply And.intro)
  clear hQ hqi q
  rintro n2 _ ⟨j, q, hij, hj, hn2, hQ, hqi, rfl⟩
  have c54 := s54g i j (by omega)
  by_cases hj' : j ≤ l.length
  rotate_left
  · have ej : j = l.length + 1 := by omega
    subst ej
    repeat' ((conv => whnf); first | refine Rng.g ?_ | refine Ob.g ?_ | refine Ob.e ?_ | refine Ob.m ?_ | refine Ob.mk (Nat.le_of_ble_eq_true rfl) ?_ | refine JoinVC.on ?_ | refine Nils.mk (fun h => ?_) ?_ | refine Val.t ?_ | refine Val.d ?_ | refine Mm.mk ?_ | (refine Br.mk (fun h => ?_) (fun h => ?_) <;> first | (exfalso; omega; done) | (exfalso; simp at h; done) | skip))
    refine Back.mk (F.length - (k + 1)) _ (by omega) ⟨k + 1, q, by omega, rfl, hQ, hqi, rfl⟩ ?_
    refine ⟨[some 0, some 1, some 2, some 3, some 4, some 5, some 6, some 7], rfl, rfl, ?_, ?_⟩ <;> repeat' (first | exact trivial | exact rfl | exact Iff.rfl | apply And.intro)
  have c47 := s47p (F.getD k f0) l (seqL i (j - i)) hf hA.sngs (fun x hx => by rw [seqL_len] at hx; rw [seqL_get _ _ _ hx]; omega) (by rw [seqL_len]; omega)
  repeat' ((conv => whnf); first | refine Rng.g ?_ | refine Ob.g ?_ | refine Ob.e ?_ | refine Ob.m ?_ | refine Ob.mk (Nat.le_of_ble_eq_true rfl) ?_ | refine JoinVC.on ?_ | refine Nils.mk (fun h => ?_) ?_ | refine Val.t ?_ | refine Val.d ?_ | refine Mm.mk ?_ | (refine Br.mk (fun h => ?_) (fun h => ?_) <;> first | (exfalso; omega; done) | (exfalso; simp at h; done) | skip))
  conv => whnf
  refine CallVC.mk [] _ _ _ rfl rfl rfl (c54) (fun r m' h' => ?_)
  obtain ⟨rfl, rfl⟩ := h'
  conv => whnf
  repeat' ((conv => whnf); first | refine Rng.g ?_ | refine Ob.g ?_ | refine Ob.e ?_ | refine Ob.m ?_ | refine Ob.mk (Nat.le_of_ble_eq_true rfl) ?_ | refine JoinVC.on ?_ | refine Nils.mk (fun h => ?_) ?_ | refine Val.t ?_ | refine Val.d ?_ | refine Mm.mk ?_ | (refine Br.mk (fun h => ?_) (fun h => ?_) <;> first | (exfalso; omega; done) | (exfalso; simp at h; done) | skip))
  conv => whnf
  refine CallVC.mk [] _ _ _ rfl rfl rfl (c47) (fun r m' h' => ?_)
  obtain ⟨rfl, rfl⟩ := h'
  conv => whnf
  repeat refine Mm.mk ?_
  try refine JoinVC.on ?_
  refine Br.mk (fun hL => ?_) (fun hL => ?_)
  rotate_left
  · have hnf : ¬ faceP F l k i j := fun h => hL h.lay
    rw [fcj_end hA hij hnf hj] at hQ
    repeat' ((conv => whnf); first | refine Rng.g ?_ | refine Ob.g ?_ | refine Ob.e ?_ | refine Ob.m ?_ | refine Ob.mk (Nat.le_of_ble_eq_true rfl) ?_ | refine JoinVC.on ?_ | refine Nils.mk (fun h => ?_) ?_ | refine Val.t ?_ | refine Val.d ?_ | refine Mm.mk ?_ | (refine Br.mk (fun h => ?_) (fun h => ?_) <;> first | (exfalso; omega; done) | (exfalso; simp at h; done) | skip))
    refine Back.mk (F.length - (k + 1)) _ (by omega) ⟨k + 1, q, by omega, rfl, hQ, hqi, rfl⟩ ?_
    refine ⟨[some 0, some 1, some 2, some 3, some 4, some 5, some 6, some 7], rfl, rfl, ?_, ?_⟩ <;> repeat' (first | exact trivial | exact rfl | exact Iff.rfl | apply And.intro)
  have hface : faceP F l k i j := ⟨hk', hij, hj', hL⟩
  have hLm : ∀ x, x ∈ fcs F l i k ++ fcj F l i k j → faceP F l x.1 i x.2 := fun x hx => by
    rcases List.mem_append.1 hx with h | h
    · exact (mem_fcs.1 h).2
    · have h3 := mem_fcj.1 h
      rw [h3.1]; exact h3.2.2
  obtain ⟨hQ', hqi'⟩ := stepP_ok hA hi' hQ hLm (by omega) (q := (k, j)) hface
  have hbd := hQ.bd hA hLm (n := i) (by omega)
  have hco := hf.cost
  have lq := hQ.len
  have lqi := i64s_len q
  have gc : rI (rA (plsA F l) (k : Int).toNat 0) 0 (0 + 0 + (0 + 1 + 1 + 1 + 1 + 1 + 1 + 1)) = (F.getD k f0).cost := by rw [gk]; rfl
  have ga : rI (i64s q) (i : Int).toNat 0 = q.getD i 0 := by rw [Int.toNat_natCast]; exact i64s_get q i
  have gj : rI (i64s q) ((i : Int) + ((j : Int) - i)).toNat 0 = q.getD j 0 := by rw [show ((i : Int) + ((j : Int) - i)).toNat = j by omega]; exact i64s_get q j
  have et : ((i : Int) + ((j : Int) - i)).toNat = j := by omega
  have upd : updRow (i64s q) ((i : Int) + ((j : Int) - i)).toNat 0 [Cell.int (rI (i64s q) (i : Int).toNat 0 + rI (rA (plsA F l) (k : Int).toNat 0) 0 (0 + 0 + (0 + 1 + 1 + 1 + 1 + 1 + 1 + 1)))] = i64s (q.set j (q.getD i 0 + (F.getD k f0).cost)) := by
    rw [gc, ga, et]
    exact i64s_upd' q j _ (by omega)
  have fin : PrcOK F l (CandL F l i (fcs F l i k ++ fcj F l i k (j + 1))) (stepP F i q (k, j)) := by rw [fcj_yes hface, ← List.append_assoc]; exact hQ'
  repeat' ((conv => whnf); first | refine Rng.g ?_ | refine Ob.g ?_ | refine Ob.e ?_ | refine Ob.m ?_ | refine Ob.mk (Nat.le_of_ble_eq_true rfl) ?_ | refine JoinVC.on ?_ | refine Nils.mk (fun h => ?_) ?_ | refine Val.t ?_ | refine Val.d ?_ | refine Mm.mk ?_ | (refine Br.mk (fun h => ?_) (fun h => ?_) <;> first | (exfalso; omega; done) | (exfalso; simp at h; done) | skip))
  change YieldVC _ _ _ _ _
  refine YieldVC.mk (rsem_of_awp pMix [] rfl (by kernel_rfl) ?_)
  repeat' ((conv => whnf); first | refine Rng.g ?_ | refine Ob.g ?_ | refine Ob.e ?_ | refine Ob.m ?_ | refine Ob.mk (Nat.le_of_ble_eq_true rfl) ?_ | refine JoinVC.on ?_ | refine Nils.mk (fun h => ?_) ?_ | refine Val.t ?_ | refine Val.d ?_ | refine Mm.mk ?_ | (refine Br.mk (fun h => ?_) (fun h => ?_) <;> first | (exfalso; omega; done) | (exfalso; simp at h; done) | skip))
  · have e : stepP F i q (k, j) = q.set j (q.getD i 0 + (F.getD k f0).cost) := if_pos (.inl (by show q.getD j 0 < 0; omega))
    refine Back.mk (l.length + 1 - (j + 1)) _ (by omega) ⟨j + 1, _, by omega, by omega, rfl, fin, by rw [hqi']; exact hqi, rfl⟩ ?_
    rw [e]
    refine ⟨[some 0, some 1, some 2, some 3, some 4, some 5, some 6, some 7], rfl, rfl, ?_, ?_⟩ <;> repeat' (first | exact trivial | exact rfl | exact Iff.rfl | apply And.intro)
    exact upd
  · have e : stepP F i q (k, j) = q.set j (q.getD i 0 + (F.getD k f0).cost) := if_pos (.inr (by show q.getD i 0 + (F.getD k f0).cost < q.getD j 0; omega))
    refine Back.mk (l.length + 1 - (j + 1)) _ (by omega) ⟨j + 1, _, by omega, by omega, rfl, fin, by rw [hqi']; exact hqi, rfl⟩ ?_
    rw [e]
    refine ⟨[some 0, some 1, some 2, some 3, some 4, some 5, some 6, some 7], rfl, rfl, ?_, ?_⟩ <;> repeat' (first | exact trivial | exact rfl | exact Iff.rfl | apply And.intro)
    exact upd
  · have e : stepP F i q (k, j) = q := if_neg (by show ¬ (q.getD j 0 < 0 ∨ q.getD i 0 + (F.getD k f0).cost < q.getD j 0); omega)
    refine Back.mk (l.length + 1 - (j + 1)) _ (by omega) ⟨j + 1, _, by omega, by omega, rfl, fin, by rw [hqi']; exact hqi, rfl⟩ ?_
    rw [e]
    refine ⟨[some 0, some 1, some 2, some 3, some 4, some 5, some 6, some 7], rfl, rfl, ?_, ?_⟩ <;> repeat' (first | exact trivial | exact rfl | exact Iff.rfl | apply And.intro)
end Go.Sx

namespace Go.Sx
open Go Go.Proofs
set_option maxRecDepth 10000
set_option maxHeartbeats 8000000
/-! ### An order is laid, as the document tells it -/
/-- How many of them end at or above their Least, up to the first one that does not. -/
structure Good (f : Fmt) (l : List Sng) (O : List Int) (g : Nat) : Prop where
  le : g ≤ O.length
  yes : ∀ j, j < g → okAt f l O j
  no : g < O.length → ¬ okAt f l O g
open Classical in
noncomputable def goodN (f : Fmt) (l : List Sng) (O : List Int) : Nat → Nat
  | 0 => 0
  | i + 1 => if goodN f l O i = i ∧ okAt f l O i then i + 1 else goodN f l O i
theorem goodN_lo {f : Fmt} {l : List Sng} {O : List Int} : ∀ n, (∀ j, j < n → okAt f l O j) → goodN f l O n = n
  | 0, _ => rfl
  | n + 1, h => if_pos ⟨goodN_lo n fun j hj => h j (by omega), h n (Nat.lt_succ_self n)⟩
open Classical in
theorem goodN_hi {f : Fmt} {l : List Sng} {O : List Int} {g : Nat} (h : ∀ j, j < g → okAt f l O j) (hn : ¬ okAt f l O g) : ∀ d, goodN f l O (g + d) = g
  | 0 => goodN_lo g h
  | d + 1 => by
    have ih := goodN_hi h hn d
    have e : ¬ (goodN f l O (g + d) = g + d ∧ okAt f l O (g + d)) := fun ⟨h1, h2⟩ => by
      rw [ih] at h1
      have : d = 0 := by omega
      subst this
      exact hn h2
    show (if goodN f l O (g + d) = g + d ∧ okAt f l O (g + d) then g + d + 1 else goodN f l O (g + d)) = g
    rw [if_neg e]
    exact ih
theorem Good.eq {f : Fmt} {l : List Sng} {O : List Int} {g : Nat} (h : Good f l O g) : goodN f l O O.length = g := by
  by_cases e : g = O.length
  · rw [e]
    exact goodN_lo _ fun j hj => h.yes j (by omega)
  · have h1 := h.le
    have := goodN_hi h.yes (h.no (by omega)) (O.length - g)
    rw [show g + (O.length - g) = O.length by omega] at this
    exact this
/-- How many of an order are good. -/
noncomputable def laN (f : Fmt) (l : List Sng) (O : List Int) : Int := if bothE f l ≠ 0 ∨ ordE l.length O ≠ 0 then 0 else (goodN f l O O.length : Int)
open Classical in
/-- The error of an order. -/
noncomputable def laE (f : Fmt) (l : List Sng) (O : List Int) : Int := if bothE f l ≠ 0 then bothE f l else if ordE l.length O ≠ 0 then ordE l.length O else if goodN f l O O.length < O.length then 20 else if LayOK f l O then 0 else 14
inductive LaS (f : Fmt) (l : List Sng) (O : List Int) (r : AV) (m' : List (Option Blk)) : Prop
  | bad (he : laE f l O ≠ 0) (hr : r = .tup [.one .nils, I (laN f l O), I (laE f l O)]) (hm : m' = [])
  | ok (hf : FmtOK f) (hg : SngsOK l) (hO : OrdOK l.length O) (h : LayOK f l O) (he : laE f l O = 0) (hn : laN f l O = O.length) (hr : r = .tup [.one (.own 0), I (laN f l O), I (laE f l O)]) (hm : m' = [some (rowB (bndA f l O O.length))])
theorem la_ok {f : Fmt} {l : List Sng} {O : List Int} (hf : FmtOK f) (hg : SngsOK l) (hO : OrdOK l.length O) (h : LayOK f l O) : laE f l O = 0 ∧ laN f l O = O.length := by
  have h1 := bothE_ok hf hg
  have h2 := ordE_0.2 hO
  have h3 := goodN_lo O.length h.1
  unfold laE laN
  rw [h1, h2, h3]
  simp [h]
theorem la_limit {f : Fmt} {l : List Sng} {O : List Int} (hf : FmtOK f) (hg : SngsOK l) (hO : OrdOK l.length O) (h : ∀ j, j < O.length → okAt f l O j) (hn : ¬ LayOK f l O) : laE f l O = 14 ∧ laN f l O = O.length := by
  have h1 := bothE_ok hf hg
  have h2 := ordE_0.2 hO
  have h3 := goodN_lo O.length h
  unfold laE laN
  rw [h1, h2, h3]
  simp [hn]
theorem la_rule {f : Fmt} {l : List Sng} {O : List Int} (hf : FmtOK f) (hg : SngsOK l) (hO : OrdOK l.length O) {i : Nat} (hi : i < O.length) (h : ∀ j, j < i → okAt f l O j) (hn : ¬ okAt f l O i) : laE f l O = 20 ∧ laN f l O = i := by
  have h1 := bothE_ok hf hg
  have h2 := ordE_0.2 hO
  have h3 := Good.eq (f := f) (l := l) (O := O) (g := i) ⟨by omega, h, fun _ => hn⟩
  unfold laE laN
  rw [h1, h2, h3]
  simp [hi]
theorem la_bad {f : Fmt} {l : List Sng} {O : List Int} (h : bothE f l ≠ 0) : laE f l O = bothE f l ∧ laN f l O = 0 := by
  unfold laE laN
  rw [if_pos h, if_pos (.inl h)]
  exact ⟨rfl, rfl⟩
theorem la_ord {f : Fmt} {l : List Sng} {O : List Int} (hf : FmtOK f) (hg : SngsOK l) (h : ordE l.length O ≠ 0) : laE f l O = ordE l.length O ∧ laN f l O = 0 := by
  have h1 := bothE_ok hf hg
  unfold laE laN
  rw [if_neg (by rw [h1]; simp), if_pos h, if_pos (.inr h)]
  exact ⟨rfl, rfl⟩
theorem LaRs.to {f : Fmt} {l : List Sng} {O : List Int} {r : AV} {m' : List (Option Blk)} (h : LaRs f l O r m') : LaS f l O r m' := by
  cases h with
  | bad h hr hm =>
    obtain ⟨h1, h2⟩ := la_bad (O := O) h
    exact .bad (by rw [h1]; exact h) (by rw [h1, h2]; exact hr) hm
  | ord hf hg h hr hm =>
    obtain ⟨h1, h2⟩ := la_ord hf hg h
    exact .bad (by rw [h1]; exact h) (by rw [h1, h2]; exact hr) hm
  | rule hf hg hO i hi h hn hr hm =>
    obtain ⟨h1, h2⟩ := la_rule hf hg hO hi h hn
    exact .bad (by rw [h1]; decide) (by rw [h1, h2]; exact hr) hm
  | limit hf hg hO h hn hr hm =>
    obtain ⟨h1, h2⟩ := la_limit hf hg hO h hn
    exact .bad (by rw [h1]; decide) (by rw [h1, h2]; exact hr) hm
  | ok hf hg hO h hr hm =>
    obtain ⟨h1, h2⟩ := la_ok hf hg hO h
    exact .ok hf hg hO h h1 h2 (by rw [h1, h2]; exact hr) hm
end Go.Sx

namespace Go.Sx
open Go Go.Proofs
set_option maxRecDepth 10000
set_option maxHeartbeats 8000000
/-! ### The examples -/
open Classical in
theorem s26 (a b : List Int) (ha : a.length ≤ 1000000) : PSpec Try.prog 26 [.one (.lst true [.int .i64] (i64s a)), .one (.lst true [.int .i64] (i64s b))] (xP (a = b)) := by
  have la := i64s_len a
  have lb := i64s_len b
  by_cases hl : a.length = b.length
  rotate_left
  · refine spec_of pMix (O := []) Try.func26 (c := bodyOf Try.f26) rfl (by kernel_rfl) (by kernel_rfl) Try.ntmps26 (res := [.tmp 4]) (by kernel_rfl) ?_
    repeat' ((conv => whnf); first | refine Rng.g ?_ | refine Ob.g ?_ | refine Ob.e ?_ | refine Ob.m ?_ | refine Ob.mk (Nat.le_of_ble_eq_true rfl) ?_ | refine JoinVC.on ?_ | refine Nils.mk (fun h => ?_) ?_ | refine Val.t ?_ | refine Val.d ?_ | refine Mm.mk ?_ | (refine Br.mk (fun h => ?_) (fun h => ?_) <;> first | (exfalso; omega; done) | (exfalso; simp at h; done) | skip))
    repeat refine Mm.mk ?_
    refine EndVC.mk _ rfl _ _ ⟨rfl, rfl⟩ ?_
    refine ⟨[], rfl, rfl, ?_, ?_⟩ <;> repeat' (first | exact trivial | exact rfl | exact Iff.rfl | apply And.intro)
    exact fun h => hl (by rw [h])
  refine spec_of pMix (O := []) Try.func26 (c := bodyOf Try.f26) rfl (by kernel_rfl) (by kernel_rfl) Try.ntmps26 (res := [.tmp 4]) (by kernel_rfl) ?_
  repeat' ((conv => whnf); first | refine Rng.g ?_ | refine Ob.g ?_ | refine Ob.e ?_ | refine Ob.m ?_ | refine Ob.mk (Nat.le_of_ble_eq_true rfl) ?_ | refine JoinVC.on ?_ | refine Nils.mk (fun h => ?_) ?_ | refine Val.t ?_ | refine Val.d ?_ | refine Mm.mk ?_ | (refine Br.mk (fun h => ?_) (fun h => ?_) <;> first | (exfalso; omega; done) | (exfalso; simp at h; done) | skip))
  refine LoopVC.mk (fun n st => ∃ (i : Nat), i ≤ a.length ∧ n = a.length - i ∧ (∀ j, j < i → a.getD j 0 = b.getD j 0) ∧ st = ⟨0, envA 26 [(0, .x (.one (.lst true [.int .i64] (i64s a)))), (1, .x (.one (.lst true [.int .i64] (i64s b)))), (5, .int .i64 (i : Int))], []⟩) _ _ ⟨0, Nat.zero_le _, rfl, fun j hj => absurd hj (Nat.not_lt_zero j), rfl⟩ ?_ ?_
  · refine ⟨[], rfl, rfl, ?_, ?_⟩ <;> repeat' (first | exact trivial | exact rfl | exact Iff.rfl | apply And.intro)
  rintro n _ ⟨i, hi, hm, hj, rfl⟩
  have g1 : rI (i64s a) (i : Int).toNat 0 = a.getD i 0 := by rw [Int.toNat_natCast]; exact i64s_get a i
  have g2 : rI (i64s b) (i : Int).toNat 0 = b.getD i 0 := by rw [Int.toNat_natCast]; exact i64s_get b i
  by_cases hi' : i < a.length
  · by_cases he : a.getD i 0 = b.getD i 0
    · repeat' ((conv => whnf); first | refine Rng.g ?_ | refine Ob.g ?_ | refine Ob.e ?_ | refine Ob.m ?_ | refine Ob.mk (Nat.le_of_ble_eq_true rfl) ?_ | refine JoinVC.on ?_ | refine Nils.mk (fun h => ?_) ?_ | refine Val.t ?_ | refine Val.d ?_ | refine Mm.mk ?_ | (refine Br.mk (fun h => ?_) (fun h => ?_) <;> first | (exfalso; omega; done) | (exfalso; simp at h; done) | skip))
      refine Back.mk (a.length - (i + 1)) _ (by omega) ⟨i + 1, by omega, rfl, fun j hj' => ?_, rfl⟩ ?_
      · rcases Nat.lt_succ_iff_lt_or_eq.1 hj' with h' | rfl
        · exact hj j h'
        · exact he
      · refine ⟨[], rfl, rfl, ?_, ?_⟩ <;> repeat' (first | exact trivial | exact rfl | exact Iff.rfl | apply And.intro)
    · repeat' ((conv => whnf); first | refine Rng.g ?_ | refine Ob.g ?_ | refine Ob.e ?_ | refine Ob.m ?_ | refine Ob.mk (Nat.le_of_ble_eq_true rfl) ?_ | refine JoinVC.on ?_ | refine Nils.mk (fun h => ?_) ?_ | refine Val.t ?_ | refine Val.d ?_ | refine Mm.mk ?_ | (refine Br.mk (fun h => ?_) (fun h => ?_) <;> first | (exfalso; omega; done) | (exfalso; simp at h; done) | skip))
      repeat refine Mm.mk ?_
      refine EndVC.mk _ rfl _ _ ⟨rfl, rfl⟩ ?_
      refine ⟨[], rfl, rfl, ?_, ?_⟩ <;> repeat' (first | exact trivial | exact rfl | exact Iff.rfl | apply And.intro)
      exact fun h => he (by rw [h])
  · repeat' ((conv => whnf); first | refine Rng.g ?_ | refine Ob.g ?_ | refine Ob.e ?_ | refine Ob.m ?_ | refine Ob.mk (Nat.le_of_ble_eq_true rfl) ?_ | refine JoinVC.on ?_ | refine Nils.mk (fun h => ?_) ?_ | refine Val.t ?_ | refine Val.d ?_ | refine Mm.mk ?_ | (refine Br.mk (fun h => ?_) (fun h => ?_) <;> first | (exfalso; omega; done) | (exfalso; simp at h; done) | skip))
    repeat refine Mm.mk ?_
    refine EndVC.mk _ rfl _ _ ⟨rfl, rfl⟩ ?_
    refine ⟨[], rfl, rfl, ?_, ?_⟩ <;> repeat' (first | exact trivial | exact rfl | exact Iff.rfl | apply And.intro)
    exact list_ext_getD hl fun j hj' => hj j (by omega)
open Classical in
theorem s34 (a b : List Int) (ha : a.length ≤ 1000000) : PSpec Try.prog 34 [.one (.lst true [.int .i64] (i64s a)), .one (.lst true [.int .i64] (i64s b))] (xP (a = b)) := by
  have la := i64s_len a
  have lb := i64s_len b
  by_cases hl : a.length = b.length
  rotate_left
  · refine spec_of pMix (O := []) Try.func34 (c := bodyOf Try.f34) rfl (by kernel_rfl) (by kernel_rfl) Try.ntmps34 (res := [.tmp 4]) (by kernel_rfl) ?_
    repeat' ((conv => whnf); first | refine Rng.g ?_ | refine Ob.g ?_ | refine Ob.e ?_ | refine Ob.m ?_ | refine Ob.mk (Nat.le_of_ble_eq_true rfl) ?_ | refine JoinVC.on ?_ | refine Nils.mk (fun h => ?_) ?_ | refine Val.t ?_ | refine Val.d ?_ | refine Mm.mk ?_ | (refine Br.mk (fun h => ?_) (fun h => ?_) <;> first | (exfalso; omega; done) | (exfalso; simp at h; done) | skip))
    repeat refine Mm.mk ?_
    refine EndVC.mk _ rfl _ _ ⟨rfl, rfl⟩ ?_
    refine ⟨[], rfl, rfl, ?_, ?_⟩ <;> repeat' (first | exact trivial | exact rfl | exact Iff.rfl | apply And.intro)
    exact fun h => hl (by rw [h])
  refine spec_of pMix (O := []) Try.func34 (c := bodyOf Try.f34) rfl (by kernel_rfl) (by kernel_rfl) Try.ntmps34 (res := [.tmp 4]) (by kernel_rfl) ?_
  repeat' ((conv => whnf); first | refine Rng.g ?_ | refine Ob.g ?_ | refine Ob.e ?_ | refine Ob.m ?_ | refine Ob.mk (Nat.le_of_ble_eq_true rfl) ?_ | refine JoinVC.on ?_ | refine Nils.mk (fun h => ?_) ?_ | refine Val.t ?_ | refine Val.d ?_ | refine Mm.mk ?_ | (refine Br.mk (fun h => ?_) (fun h => ?_) <;> first | (exfalso; omega; done) | (exfalso; simp at h; done) | skip))
  refine LoopVC.mk (fun n st => ∃ (i : Nat), i ≤ a.length ∧ n = a.length - i ∧ (∀ j, j < i → a.getD j 0 = b.getD j 0) ∧ st = ⟨0, envA 26 [(0, .x (.one (.lst true [.int .i64] (i64s a)))), (1, .x (.one (.lst true [.int .i64] (i64s b)))), (5, .int .i64 (i : Int))], []⟩) _ _ ⟨0, Nat.zero_le _, rfl, fun j hj => absurd hj (Nat.not_lt_zero j), rfl⟩ ?_ ?_
  · refine ⟨[], rfl, rfl, ?_, ?_⟩ <;> repeat' (first | exact trivial | exact rfl | exact Iff.rfl | apply And.intro)
  rintro n _ ⟨i, hi, hm, hj, rfl⟩
  have g1 : rI (i64s a) (i : Int).toNat 0 = a.getD i 0 := by rw [Int.toNat_natCast]; exact i64s_get a i
  have g2 : rI (i64s b) (i : Int).toNat 0 = b.getD i 0 := by rw [Int.toNat_natCast]; exact i64s_get b i
  by_cases hi' : i < a.length
  · by_cases he : a.getD i 0 = b.getD i 0
    · repeat' ((conv => whnf); first | refine Rng.g ?_ | refine Ob.g ?_ | refine Ob.e ?_ | refine Ob.m ?_ | refine Ob.mk (Nat.le_of_ble_eq_true rfl) ?_ | refine JoinVC.on ?_ | refine Nils.mk (fun h => ?_) ?_ | refine Val.t ?_ | refine Val.d ?_ | refine Mm.mk ?_ | (refine Br.mk (fun h => ?_) (fun h => ?_) <;> first | (exfalso; omega; done) | (exfalso; simp at h; done) | skip))
      refine Back.mk (a.length - (i + 1)) _ (by omega) ⟨i + 1, by omega, rfl, fun j hj' => ?_, rfl⟩ ?_
      · rcases Nat.lt_succ_iff_lt_or_eq.1 hj' with h' | rfl
        · exact hj j h'
        · exact he
      · refine ⟨[], rfl, rfl, ?_, ?_⟩ <;> repeat' (first | exact trivial | exact rfl | exact Iff.rfl | apply And.intro)
    · repeat' ((conv => whnf); first | refine Rng.g ?_ | refine Ob.g ?_ | refine Ob.e ?_ | refine Ob.m ?_ | refine Ob.mk (Nat.le_of_ble_eq_true rfl) ?_ | refine JoinVC.on ?_ | refine Nils.mk (fun h => ?_) ?_ | refine Val.t ?_ | refine Val.d ?_ | refine Mm.mk ?_ | (refine Br.mk (fun h => ?_) (fun h => ?_) <;> first | (exfalso; omega; done) | (exfalso; simp at h; done) | skip))
      repeat refine Mm.mk ?_
      refine EndVC.mk _ rfl _ _ ⟨rfl, rfl⟩ ?_
      refine ⟨[], rfl, rfl, ?_, ?_⟩ <;> repeat' (first | exact trivial | exact rfl | exact Iff.rfl | apply And.intro)
      exact fun h => he (by rw [h])
  · repeat' ((conv => whnf); first | refine Rng.g ?_ | refine Ob.g ?_ | refine Ob.e ?_ | refine Ob.m ?_ | refine Ob.mk (Nat.le_of_ble_eq_true rfl) ?_ | refine JoinVC.on ?_ | refine Nils.mk (fun h => ?_) ?_ | refine Val.t ?_ | refine Val.d ?_ | refine Mm.mk ?_ | (refine Br.mk (fun h => ?_) (fun h => ?_) <;> first | (exfalso; omega; done) | (exfalso; simp at h; done) | skip))
    repeat refine Mm.mk ?_
    refine EndVC.mk _ rfl _ _ ⟨rfl, rfl⟩ ?_
    refine ⟨[], rfl, rfl, ?_, ?_⟩ <;> repeat' (first | exact trivial | exact rfl | exact Iff.rfl | apply And.intro)
    exact list_ext_getD hl fun j hj' => hj j (by omega)
theorem s32 : HSpec Try.prog 32 [] [] (fun r m' => r = .tup [f4.x, .one (.own 0)] ∧ m' = [some (.row 40 false KSng (sngA l4))]) := by
  refine spec_of pMix (O := []) Try.func32 (c := bodyOf Try.f32) rfl (by kernel_rfl) (by kernel_rfl) Try.ntmps32 (res := [.cell 0 23, .tmp 1]) (by kernel_rfl) ?_
  repeat' ((conv => whnf); first | refine Rng.g ?_ | refine Ob.g ?_ | refine Ob.e ?_ | refine Ob.m ?_ | refine Ob.mk (Nat.le_of_ble_eq_true rfl) ?_ | refine JoinVC.on ?_ | refine Nils.mk (fun h => ?_) ?_ | refine Val.t ?_ | refine Val.d ?_ | refine Mm.mk ?_ | (refine Br.mk (fun h => ?_) (fun h => ?_) <;> first | (exfalso; omega; done) | (exfalso; simp at h; done) | skip))
  repeat refine Mm.mk ?_
  refine EndVC.mk _ rfl _ _ ⟨rfl, rfl⟩ ?_
  refine ⟨[some 2], rfl, rfl, ?_, ?_⟩ <;> repeat' (first | exact trivial | exact rfl | exact Iff.rfl | apply And.intro)
instance (f : Fmt) (l : List Sng) (O : List Int) (i : Nat) : Decidable (okAt f l O i) := by unfold okAt; exact inferInstance
instance (f : Fmt) (l : List Sng) (O : List Int) : Decidable (LayOK f l O) := by unfold LayOK; exact inferInstance
theorem alb4 : AlbOK [f4] l4 := ⟨by decide, fun i hi => by
  have : i = 0 := by simp at hi; omega
  subst this
  exact f4_ok, l4_ok⟩
theorem face4 {k i j : Nat} : faceP [f4] l4 k i j ↔ k = 0 ∧ i < j ∧ j ≤ 3 ∧ LayOK f4 l4 (seqL i (j - i)) := by
  constructor
  · rintro ⟨h1, h2, h3, h4⟩
    have : k = 0 := by simp at h1; omega
    subst this
    exact ⟨rfl, h2, h3, h4⟩
  · rintro ⟨rfl, h2, h3, h4⟩
    exact ⟨by simp, h2, h3, h4⟩
theorem prc4 {p : List Int} (h : PrcOK [f4] l4 (Reach [f4] l4) p) : p = [0, 5, 10, 10] := by
  have f01 : faceP [f4] l4 0 0 1 := face4.2 ⟨rfl, by decide, by decide, by decide⟩
  have f12 : faceP [f4] l4 0 1 2 := face4.2 ⟨rfl, by decide, by decide, by decide⟩
  have f13 : faceP [f4] l4 0 1 3 := face4.2 ⟨rfl, by decide, by decide, by decide⟩
  have n02 : ∀ k, ¬ faceP [f4] l4 k 0 2 := fun k h => (by have := (face4.1 h).2.2.2; revert this; decide)
  have n03 : ∀ k, ¬ faceP [f4] l4 k 0 3 := fun k h => (by have := (face4.1 h).2.2.2; revert this; decide)
  have c : ([f4].getD 0 f0).cost = 5 := rfl
  have r1 : Reach [f4] l4 1 5 := by have := Reach.nil.step f01; rw [c] at this; exact this
  have r2 : Reach [f4] l4 2 10 := by have := r1.step f12; rw [c] at this; exact this
  have r3 : Reach [f4] l4 3 10 := by have := r1.step f13; rw [c] at this; exact this
  have b1 : ∀ x, Reach [f4] l4 1 x → 5 ≤ x := fun x hx => by
    cases hx with
    | @step i _ k c' h1 h2 =>
      have h3 := (reach_bd alb4 h1).1
      have h4 := (face4.1 h2).1
      subst h4
      rw [c]
      omega
  have bb : ∀ n x, (n = 2 ∨ n = 3) → Reach [f4] l4 n x → 10 ≤ x := fun n x hn hx => by
    cases hx with
    | nil => omega
    | @step i _ k c' h1 h2 =>
      have h5 := face4.1 h2
      have h4 := h5.1
      subst h4
      rw [c]
      have hi : i = 0 ∨ i = 1 ∨ i = 2 := by omega
      rcases hi with rfl | rfl | rfl
      · rcases hn with rfl | rfl
        · exact absurd h2 (n02 0)
        · exact absurd h2 (n03 0)
      · have := b1 _ h1
        omega
      · cases h1 with
        | @step i' _ k' c'' g1 g2 =>
          have g5 := face4.1 g2
          have g4 := g5.1
          subst g4
          rw [c]
          have := (reach_bd alb4 g1).1
          omega
  have u : ∀ n v x, n ≤ 3 → Reach [f4] l4 n v → (∀ y, Reach [f4] l4 n y → v ≤ y) → p.getD n 0 = x → x = v := fun n v x hn h1 h2 h3 => by
    rcases h.each n hn with ⟨h4, h5⟩ | ⟨h4, h5, h6⟩
    · exact absurd h1 (h5 v)
    · have a := h6 v h1
      have b := h2 _ h5
      omega
  have hlen : p.length = 4 := h.len
  match p, hlen with
  | [x0, x1, x2, x3], _ =>
    have e0 := u 0 0 x0 (by decide) .nil (fun y hy => (reach_bd alb4 hy).1) rfl
    have e1 := u 1 5 x1 (by decide) r1 b1 rfl
    have e2 := u 2 10 x2 (by decide) r2 (fun y hy => bb 2 y (.inl rfl) hy) rfl
    have e3 := u 3 10 x3 (by decide) r3 (fun y hy => bb 3 y (.inr rfl) hy) rfl
    rw [e0, e1, e2, e3]
theorem s11 : PSpec Try.prog 11 [] (xP True) := by
  have n4 : ∀ i, ([f4].getD i f0).nm.size ≤ 140737488355328 := fun i => by
    cases i with
    | zero => decide
    | succ n => exact (by decide : f0.nm.size ≤ 140737488355328)
  refine spec_of pMix (O := []) Try.func11 (c := bodyOf Try.f11) rfl (by kernel_rfl) (by kernel_rfl) Try.ntmps11 (res := [.tmp 0]) (by kernel_rfl) ?_
  repeat' ((conv => whnf); first | refine Rng.g ?_ | refine Ob.g ?_ | refine Ob.e ?_ | refine Ob.m ?_ | refine Ob.mk (Nat.le_of_ble_eq_true rfl) ?_ | refine JoinVC.on ?_ | refine Nils.mk (fun h => ?_) ?_ | refine Val.t ?_ | refine Val.d ?_ | refine Mm.mk ?_ | (refine Br.mk (fun h => ?_) (fun h => ?_) <;> first | (exfalso; omega; done) | (exfalso; simp at h; done) | skip))
  conv => whnf
  refine CallVC.mk [] _ _ _ rfl rfl rfl (s32) (fun r m' h' => ?_)
  obtain ⟨rfl, rfl⟩ := h'
  conv => whnf
  repeat' ((conv => whnf); first | refine Rng.g ?_ | refine Ob.g ?_ | refine Ob.e ?_ | refine Ob.m ?_ | refine Ob.mk (Nat.le_of_ble_eq_true rfl) ?_ | refine JoinVC.on ?_ | refine Nils.mk (fun h => ?_) ?_ | refine Val.t ?_ | refine Val.d ?_ | refine Mm.mk ?_ | (refine Br.mk (fun h => ?_) (fun h => ?_) <;> first | (exfalso; omega; done) | (exfalso; simp at h; done) | skip))
  conv => whnf
  refine CallVC.mk [] _ _ _ rfl rfl rfl (s18 f4 l4 (by decide) (by decide)) (fun r m' h' => ?_)
  cases h' with
  | bad h hr hm => exact absurd (bothE_ok f4_ok l4_ok) h
  | none _ _ hN hr hm => exact absurd lay4 hN
  | ok _ _ _ hr hm =>
    subst hr hm
    rw [allO4]
    repeat' ((conv => whnf); first | refine Rng.g ?_ | refine Ob.g ?_ | refine Ob.e ?_ | refine Ob.m ?_ | refine Ob.mk (Nat.le_of_ble_eq_true rfl) ?_ | refine JoinVC.on ?_ | refine Nils.mk (fun h => ?_) ?_ | refine Val.t ?_ | refine Val.d ?_ | refine Mm.mk ?_ | (refine Br.mk (fun h => ?_) (fun h => ?_) <;> first | (exfalso; omega; done) | (exfalso; simp at h; done) | skip))
    conv => whnf
    refine CallVC.mk [] _ _ _ rfl rfl rfl (s33 [f4] l4 n4) (fun r m' h' => ?_)
    rcases h' with ⟨he, rfl, rfl⟩ | ⟨_, p, hp, rfl, rfl⟩
    · exact absurd (fmsE_0.2 alb4) he
    rw [prc4 hp]
    have k1 := s26 [1, 0, 2] [1, 0, 2] (by decide)
    have k2 := s34 [0, 5, 10, 10] [0, 5, 10, 10] (by decide)
    repeat' ((conv => whnf); first | refine Rng.g ?_ | refine Ob.g ?_ | refine Ob.e ?_ | refine Ob.m ?_ | refine Ob.mk (Nat.le_of_ble_eq_true rfl) ?_ | refine JoinVC.on ?_ | refine Nils.mk (fun h => ?_) ?_ | refine Val.t ?_ | refine Val.d ?_ | refine Mm.mk ?_ | refine CallVC.pure rfl (k1) ?_ | refine CallVC.pure rfl (k2) ?_ | refine CallVC0.pure rfl (k1) ?_ | refine CallVC0.pure rfl (k2) ?_ | (refine Br.mk (fun h => ?_) (fun h => ?_) <;> first | (exfalso; omega; done) | (exfalso; simp at h; done) | skip))
    repeat refine Mm.mk ?_
    refine EndVC.mk _ rfl _ _ ⟨rfl, rfl⟩ ?_
    refine ⟨[], rfl, rfl, ?_, ?_⟩ <;> repeat' (first | exact trivial | exact rfl | exact Iff.rfl | apply And.intro)
    exact ⟨fun _ => trivial, fun _ => rfl⟩
end Go.Sx

namespace Go.Sx
open Go Go.Proofs
set_option maxRecDepth 10000
set_option maxHeartbeats 8000000
/-! ### Orders by places -/
open Classical in
theorem s14 (f : Fmt) (l : List Sng) (m : Int) : PSpec Try.prog 14 [f.x, lSng l, I m] (xP ((l.length : Int) ≤ m ∧ FmtOK f ∧ SngsOK l)) := by
  have ll := sngA_len l
  have v1 := s41 f
  have v2 := s42 l
  by_cases hm : (l.length : Int) ≤ m
  rotate_left
  · refine spec_of pMix (O := []) Try.func14 (c := bodyOf Try.f14) rfl (by kernel_rfl) (by kernel_rfl) Try.ntmps14 (res := [.tmp 6]) (by kernel_rfl) ?_
    repeat' ((conv => whnf); first | refine Rng.g ?_ | refine Ob.g ?_ | refine Ob.e ?_ | refine Ob.m ?_ | refine Ob.mk (Nat.le_of_ble_eq_true rfl) ?_ | refine JoinVC.on ?_ | refine Nils.mk (fun h => ?_) ?_ | refine Val.t ?_ | refine Val.d ?_ | refine Mm.mk ?_ | (refine Br.mk (fun h => ?_) (fun h => ?_) <;> first | (exfalso; omega; done) | (exfalso; simp at h; done) | skip))
    repeat refine Mm.mk ?_
    refine EndVC.mk _ rfl _ _ ⟨rfl, rfl⟩ ?_
    refine ⟨[], rfl, rfl, ?_, ?_⟩ <;> repeat' (first | exact trivial | exact rfl | exact Iff.rfl | apply And.intro)
    exact fun h => hm h.1
  by_cases hf : FmtOK f
  rotate_left
  · rw [fmtE_no hf] at v1
    refine spec_of pMix (O := []) Try.func14 (c := bodyOf Try.f14) rfl (by kernel_rfl) (by kernel_rfl) Try.ntmps14 (res := [.tmp 6]) (by kernel_rfl) ?_
    repeat' ((conv => whnf); first | refine Rng.g ?_ | refine Ob.g ?_ | refine Ob.e ?_ | refine Ob.m ?_ | refine Ob.mk (Nat.le_of_ble_eq_true rfl) ?_ | refine JoinVC.on ?_ | refine Nils.mk (fun h => ?_) ?_ | refine Val.t ?_ | refine Val.d ?_ | refine Mm.mk ?_ | refine CallVC.pure rfl (v1) ?_ | refine CallVC0.pure rfl (v1) ?_ | (refine Br.mk (fun h => ?_) (fun h => ?_) <;> first | (exfalso; omega; done) | (exfalso; simp at h; done) | skip))
    repeat refine Mm.mk ?_
    refine EndVC.mk _ rfl _ _ ⟨rfl, rfl⟩ ?_
    refine ⟨[], rfl, rfl, ?_, ?_⟩ <;> repeat' (first | exact trivial | exact rfl | exact Iff.rfl | apply And.intro)
    exact fun h => absurd h.2.1 hf
  rw [fmtE_ok hf] at v1
  by_cases hg : SngsOK l
  · rw [trkE_ok hg] at v2
    refine spec_of pMix (O := []) Try.func14 (c := bodyOf Try.f14) rfl (by kernel_rfl) (by kernel_rfl) Try.ntmps14 (res := [.tmp 6]) (by kernel_rfl) ?_
    repeat' ((conv => whnf); first | refine Rng.g ?_ | refine Ob.g ?_ | refine Ob.e ?_ | refine Ob.m ?_ | refine Ob.mk (Nat.le_of_ble_eq_true rfl) ?_ | refine JoinVC.on ?_ | refine Nils.mk (fun h => ?_) ?_ | refine Val.t ?_ | refine Val.d ?_ | refine Mm.mk ?_ | refine CallVC.pure rfl (v1) ?_ | refine CallVC.pure rfl (v2) ?_ | refine CallVC0.pure rfl (v1) ?_ | refine CallVC0.pure rfl (v2) ?_ | (refine Br.mk (fun h => ?_) (fun h => ?_) <;> first | (exfalso; omega; done) | (exfalso; simp at h; done) | skip))
    repeat refine Mm.mk ?_
    refine EndVC.mk _ rfl _ _ ⟨rfl, rfl⟩ ?_
    refine ⟨[], rfl, rfl, ?_, ?_⟩ <;> repeat' (first | exact trivial | exact rfl | exact Iff.rfl | apply And.intro)
    exact ⟨fun _ => ⟨hm, hf, hg⟩, fun _ => rfl⟩
  · obtain ⟨e, he⟩ : ∃ e, trkE l = e := ⟨_, rfl⟩
    have h0 : e ≠ 0 := fun h => hg (trkE_0 (he.trans h))
    rw [he] at v2
    refine spec_of pMix (O := []) Try.func14 (c := bodyOf Try.f14) rfl (by kernel_rfl) (by kernel_rfl) Try.ntmps14 (res := [.tmp 6]) (by kernel_rfl) ?_
    repeat' ((conv => whnf); first | refine Rng.g ?_ | refine Ob.g ?_ | refine Ob.e ?_ | refine Ob.m ?_ | refine Ob.mk (Nat.le_of_ble_eq_true rfl) ?_ | refine JoinVC.on ?_ | refine Nils.mk (fun h => ?_) ?_ | refine Val.t ?_ | refine Val.d ?_ | refine Mm.mk ?_ | refine CallVC.pure rfl (v1) ?_ | refine CallVC.pure rfl (v2) ?_ | refine CallVC0.pure rfl (v1) ?_ | refine CallVC0.pure rfl (v2) ?_ | (refine Br.mk (fun h => ?_) (fun h => ?_) <;> first | (exfalso; omega; done) | (exfalso; simp at h; done) | skip))
    repeat refine Mm.mk ?_
    refine EndVC.mk _ rfl _ _ ⟨rfl, rfl⟩ ?_
    refine ⟨[], rfl, rfl, ?_, ?_⟩ <;> repeat' (first | exact trivial | exact rfl | exact Iff.rfl | apply And.intro)
    exact ⟨fun h => absurd h h0, fun h => absurd h.2.2 hg⟩
theorem ord_row (L : List Int) (q i : Int) : ([] ++ List.take q.toNat (List.drop 0 (i64s L))) ++ [[Cell.int i]] ++ List.take (((i64s L).length : Int).toNat - q.toNat) (List.drop q.toNat (i64s L)) = i64s (L.take q.toNat ++ i :: L.drop q.toNat) := by
  have h2 : List.take (((i64s L).length : Int).toNat - q.toNat) (List.drop q.toNat (i64s L)) = List.drop q.toNat (i64s L) := List.take_of_length_le (by rw [List.length_drop]; omega)
  rw [h2, List.drop_zero, List.nil_append]
  simp [i64s]
@[reducible] def lU (b : List Int) : XV := .one (.lst true [.int .u8] (i64s b))
theorem s15 (n : Nat) (b : List Int) (hn : n ≤ 24) (hb : ∀ j, 0 ≤ b.getD j 0 ∧ b.getD j 0 ≤ 255) : HSpec Try.prog 15 [I (n : Int), lU b] [] (fun r m' => r = .x (.one (.own 0)) ∧ m' = [some (rowOd (byO b n))]) := by
  have lb := i64s_len b
  refine spec_of pMix (O := [(8, ([0], [⟨1, [], []⟩, ⟨2, [], []⟩, ⟨3, [], []⟩, ⟨5, [], [6]⟩, ⟨8, [], []⟩, ⟨9, [], []⟩, ⟨10, [], []⟩, ⟨0, [], []⟩, ⟨4, [5, 8, 9, 10], []⟩, ⟨6, [], []⟩, ⟨7, [8, 9, 10], []⟩, ⟨11, [], []⟩, ⟨12, [], []⟩]))]) Try.func15 (c := bodyOf Try.f15) rfl (by kernel_rfl) (by kernel_rfl) Try.ntmps15 (res := [.tmp 4]) (by kernel_rfl) ?_
  repeat' ((conv => whnf); first | refine Rng.g ?_ | refine Ob.g ?_ | refine Ob.e ?_ | refine Ob.m ?_ | refine Ob.mk (Nat.le_of_ble_eq_true rfl) ?_ | refine JoinVC.on ?_ | refine Nils.mk (fun h => ?_) ?_ | refine Val.t ?_ | refine Val.d ?_ | refine Mm.mk ?_ | (refine Br.mk (fun h => ?_) (fun h => ?_) <;> first | (exfalso; omega; done) | (exfalso; simp at h; done) | skip))
  refine LoopVC.mk (fun m st => ∃ (i : Nat), i ≤ n ∧ m = n - i ∧ st = ⟨0, envA 38 [(0, .int .i64 (n : Int)), (1, .x (lU b)), (5, .x (.one (.own 0))), (6, .int .i64 (i : Int))], [some (rowOd (byO b i))]⟩) _ _ ⟨0, Nat.zero_le _, rfl, rfl⟩ ?_ ?_
  · refine ⟨[none], rfl, rfl, ?_, ?_⟩ <;> repeat' (first | exact trivial | exact rfl | exact Iff.rfl | apply And.intro)
  rintro m _ ⟨i, hi, hm, rfl⟩
  have lo := byO_len b i
  have lol := i64s_len (byO b i)
  by_cases hi' : i < n
  rotate_left
  · have ei : i = n := by omega
    subst ei
    repeat' ((conv => whnf); first | refine Rng.g ?_ | refine Ob.g ?_ | refine Ob.e ?_ | refine Ob.m ?_ | refine Ob.mk (Nat.le_of_ble_eq_true rfl) ?_ | refine JoinVC.on ?_ | refine Nils.mk (fun h => ?_) ?_ | refine Val.t ?_ | refine Val.d ?_ | refine Mm.mk ?_ | (refine Br.mk (fun h => ?_) (fun h => ?_) <;> first | (exfalso; omega; done) | (exfalso; simp at h; done) | skip))
    repeat refine Mm.mk ?_
    refine EndVC.mk _ rfl _ _ ⟨rfl, rfl⟩ ?_
    refine ⟨[some 0], rfl, rfl, ?_, ?_⟩ <;> repeat' (first | exact trivial | exact rfl | exact Iff.rfl | apply And.intro)
  have hbi := hb i
  have gi : rI (i64s b) (i : Int).toNat 0 = b.getD i 0 := by rw [Int.toNat_natCast]; exact i64s_get b i
  by_cases hib : i < b.length
  · have ea : atB b i = (b.getD i 0 % ((i : Int) + 1)).toNat := if_pos hib
    have h1 := Int.emod_lt_of_pos (b.getD i 0) (show 0 < (i : Int) + 1 by omega)
    have h2 := Int.emod_nonneg (b.getD i 0) (show (i : Int) + 1 ≠ 0 by omega)
    obtain ⟨q, hq⟩ : ∃ q, b.getD i 0 % ((i : Int) + 1) = q := ⟨_, rfl⟩
    rw [hq] at ea h1 h2
    have tl : (List.take ((some (q : Int)).getD ((i64s (byO b i)).length : Int)).toNat (List.drop 0 (i64s (byO b i)))).length ≤ i := by rw [List.length_take, List.length_drop]; omega
    have tr : (List.take (((none : Option Int).getD ((i64s (byO b i)).length : Int)).toNat - (q : Int).toNat) (List.drop (q : Int).toNat (i64s (byO b i)))).length ≤ i := by rw [List.length_take, List.length_drop]; omega
    have fin := ord_row (byO b i) q (i : Int)
    repeat' ((conv => whnf); first | rw [gi] | rw [hq] | refine Rng.g ?_ | refine Ob.g ?_ | refine Ob.e ?_ | refine Ob.m ?_ | refine Ob.mk (Nat.le_of_ble_eq_true rfl) ?_ | refine JoinVC.on ?_ | refine Nils.mk (fun h => ?_) ?_ | refine Val.t ?_ | refine Val.d ?_ | refine Mm.mk ?_ | (refine Br.mk (fun h => ?_) (fun h => ?_) <;> first | (exfalso; omega; done) | (exfalso; simp at h; done) | skip))
    repeat refine Mm.mk ?_
    refine Ob.mk (by rw [eb3]; simp only [List.length_nil]; omega) ?_
    repeat' ((conv => whnf); first | refine Rng.g ?_ | refine Ob.g ?_ | refine Ob.e ?_ | refine Ob.m ?_ | refine Ob.mk (Nat.le_of_ble_eq_true rfl) ?_ | refine JoinVC.on ?_ | refine Nils.mk (fun h => ?_) ?_ | refine Val.t ?_ | refine Val.d ?_ | refine Mm.mk ?_ | (refine Br.mk (fun h => ?_) (fun h => ?_) <;> first | (exfalso; omega; done) | (exfalso; simp at h; done) | skip))
    repeat refine Mm.mk ?_
    refine Ob.mk (by rw [eb3]; simp only [List.length_nil, List.length_append, List.length_cons]; omega) ?_
    repeat' ((conv => whnf); first | refine Rng.g ?_ | refine Ob.g ?_ | refine Ob.e ?_ | refine Ob.m ?_ | refine Ob.mk (Nat.le_of_ble_eq_true rfl) ?_ | refine JoinVC.on ?_ | refine Nils.mk (fun h => ?_) ?_ | refine Val.t ?_ | refine Val.d ?_ | refine Mm.mk ?_ | (refine Br.mk (fun h => ?_) (fun h => ?_) <;> first | (exfalso; omega; done) | (exfalso; simp at h; done) | skip))
    repeat refine Mm.mk ?_
    refine Ob.mk (by rw [eb3]; simp only [List.length_nil, List.length_append, List.length_cons]; omega) ?_
    repeat' ((conv => whnf); first | refine Rng.g ?_ | refine Ob.g ?_ | refine Ob.e ?_ | refine Ob.m ?_ | refine Ob.mk (Nat.le_of_ble_eq_true rfl) ?_ | refine JoinVC.on ?_ | refine Nils.mk (fun h => ?_) ?_ | refine Val.t ?_ | refine Val.d ?_ | refine Mm.mk ?_ | (refine Br.mk (fun h => ?_) (fun h => ?_) <;> first | (exfalso; omega; done) | (exfalso; simp at h; done) | skip))
    refine Back.mk (n - (i + 1)) _ (by omega) ⟨i + 1, by omega, rfl, rfl⟩ ?_
    refine ⟨[some 5], rfl, rfl, ?_, ?_⟩ <;> repeat' (first | exact trivial | exact rfl | exact Iff.rfl | apply And.intro)
    refine fin.trans ?_
    show _ = i64s ((byO b i).take (atB b i) ++ (i : Int) :: (byO b i).drop (atB b i))
    rw [ea]
  · have ea : atB b i = 0 := if_neg hib
    have tl : (List.take ((some (0 : Int)).getD ((i64s (byO b i)).length : Int)).toNat (List.drop 0 (i64s (byO b i)))).length ≤ i := by rw [List.length_take, List.length_drop]; omega
    have tr : (List.take (((none : Option Int).getD ((i64s (byO b i)).length : Int)).toNat - (0 : Int).toNat) (List.drop (0 : Int).toNat (i64s (byO b i)))).length ≤ i := by rw [List.length_take, List.length_drop]; omega
    have fin := ord_row (byO b i) 0 (i : Int)
    repeat' ((conv => whnf); first | refine Rng.g ?_ | refine Ob.g ?_ | refine Ob.e ?_ | refine Ob.m ?_ | refine Ob.mk (Nat.le_of_ble_eq_true rfl) ?_ | refine JoinVC.on ?_ | refine Nils.mk (fun h => ?_) ?_ | refine Val.t ?_ | refine Val.d ?_ | refine Mm.mk ?_ | (refine Br.mk (fun h => ?_) (fun h => ?_) <;> first | (exfalso; omega; done) | (exfalso; simp at h; done) | skip))
    repeat refine Mm.mk ?_
    refine Ob.mk (by rw [eb3]; simp only [List.length_nil, List.length_append, List.length_cons]; omega) ?_
    repeat' ((conv => whnf); first | refine Rng.g ?_ | refine Ob.g ?_ | refine Ob.e ?_ | refine Ob.m ?_ | refine Ob.mk (Nat.le_of_ble_eq_true rfl) ?_ | refine JoinVC.on ?_ | refine Nils.mk (fun h => ?_) ?_ | refine Val.t ?_ | refine Val.d ?_ | refine Mm.mk ?_ | (refine Br.mk (fun h => ?_) (fun h => ?_) <;> first | (exfalso; omega; done) | (exfalso; simp at h; done) | skip))
    refine Back.mk (n - (i + 1)) _ (by omega) ⟨i + 1, by omega, rfl, rfl⟩ ?_
    refine ⟨[some 5], rfl, rfl, ?_, ?_⟩ <;> repeat' (first | exact trivial | exact rfl | exact Iff.rfl | apply And.intro)
    refine fin.trans ?_
    show _ = i64s ((byO b i).take (atB b i) ++ (i : Int) :: (byO b i).drop (atB b i))
    rw [ea]
    rfl
end Go.Sx

namespace Go.Sx
open Go Go.Proofs
set_option maxRecDepth 10000
set_option maxHeartbeats 16000000
/-! ### The usual order of up to 24 tracks -/
theorem s45w (f : Fmt) (l : List Sng) (O : List Int) (hO : OrdOK l.length O) (hl : O.length ≤ 24) : HSpec Try.prog 45 [.one (.ptr 0 0), .one (.own 1)] [bPl f l, rowOd O] (fun r m' => r = .x (.one (.own 2)) ∧ m' = [some (bPl f l), some (rowOd O), some (rowOd (usu l O))]) := by
  refine spec_of pMix (O := []) Try.func45 (c := bodyOf Try.f45) rfl (by kernel_rfl) (by kernel_rfl) Try.ntmps45 (res := [.tmp 4]) (by kernel_rfl) ?_
  repeat' ((conv => whnf); first | refine Rng.g ?_ | refine Ob.g ?_ | refine Ob.e ?_ | refine Ob.m ?_ | refine Ob.mk (Nat.le_of_ble_eq_true rfl) ?_ | refine JoinVC.on ?_ | refine Nils.mk (fun h => ?_) ?_ | refine Val.t ?_ | refine Val.d ?_ | refine Mm.mk ?_ | (refine Br.mk (fun h => ?_) (fun h => ?_) <;> first | (exfalso; omega; done) | (exfalso; simp at h; done) | skip))
  conv => whnf
  refine CallVC.mk [] _ _ _ rfl rfl rfl (s72 O (by omega)) (fun r m' h' => ?_)
  obtain ⟨rfl, rfl⟩ := h'
  conv => whnf
  repeat' ((conv => whnf); first | refine Rng.g ?_ | refine Ob.g ?_ | refine Ob.e ?_ | refine Ob.m ?_ | refine Ob.mk (Nat.le_of_ble_eq_true rfl) ?_ | refine JoinVC.on ?_ | refine Nils.mk (fun h => ?_) ?_ | refine Val.t ?_ | refine Val.d ?_ | refine Mm.mk ?_ | (refine Br.mk (fun h => ?_) (fun h => ?_) <;> first | (exfalso; omega; done) | (exfalso; simp at h; done) | skip))
  conv => whnf
  refine CallVC.mk [2, 0] _ _ _ rfl rfl rfl (s73u f l O hO hl) (fun r m' h' => ?_)
  obtain ⟨rfl, rfl⟩ := h'
  conv => whnf
  repeat' ((conv => whnf); first | refine Rng.g ?_ | refine Ob.g ?_ | refine Ob.e ?_ | refine Ob.m ?_ | refine Ob.mk (Nat.le_of_ble_eq_true rfl) ?_ | refine JoinVC.on ?_ | refine Nils.mk (fun h => ?_) ?_ | refine Val.t ?_ | refine Val.d ?_ | refine Mm.mk ?_ | (refine Br.mk (fun h => ?_) (fun h => ?_) <;> first | (exfalso; omega; done) | (exfalso; simp at h; done) | skip))
  repeat refine Mm.mk ?_
  refine EndVC.mk _ rfl _ _ ⟨rfl, rfl⟩ ?_
  refine ⟨[some 0, some 1, some 2], rfl, rfl, ?_, ?_⟩ <;> repeat' (first | exact trivial | exact rfl | exact Iff.rfl | apply And.intro)
theorem s45l (f : Fmt) (l : List Sng) (O : List Int) (hO : OrdOK l.length O) (hl : O.length ≤ 24) : HSpec Try.prog 45 [.one (.ptr 0 0), .one (.lst true [.int .i64] (i64s O))] [bPl f l] (fun r m' => r = .x (.one (.own 1)) ∧ m' = [some (bPl f l), some (rowOd (usu l O))]) := by
  refine spec_of pMix (O := []) Try.func45 (c := bodyOf Try.f45) rfl (by kernel_rfl) (by kernel_rfl) Try.ntmps45 (res := [.tmp 4]) (by kernel_rfl) ?_
  repeat' ((conv => whnf); first | refine Rng.g ?_ | refine Ob.g ?_ | refine Ob.e ?_ | refine Ob.m ?_ | refine Ob.mk (Nat.le_of_ble_eq_true rfl) ?_ | refine JoinVC.on ?_ | refine Nils.mk (fun h => ?_) ?_ | refine Val.t ?_ | refine Val.d ?_ | refine Mm.mk ?_ | (refine Br.mk (fun h => ?_) (fun h => ?_) <;> first | (exfalso; omega; done) | (exfalso; simp at h; done) | skip))
  conv => whnf
  refine CallVC.mk [] _ _ _ rfl rfl rfl (s72 O (by omega)) (fun r m' h' => ?_)
  obtain ⟨rfl, rfl⟩ := h'
  conv => whnf
  repeat' ((conv => whnf); first | refine Rng.g ?_ | refine Ob.g ?_ | refine Ob.e ?_ | refine Ob.m ?_ | refine Ob.mk (Nat.le_of_ble_eq_true rfl) ?_ | refine JoinVC.on ?_ | refine Nils.mk (fun h => ?_) ?_ | refine Val.t ?_ | refine Val.d ?_ | refine Mm.mk ?_ | (refine Br.mk (fun h => ?_) (fun h => ?_) <;> first | (exfalso; omega; done) | (exfalso; simp at h; done) | skip))
  conv => whnf
  refine CallVC.mk [1, 0] _ _ _ rfl rfl rfl (s73u f l O hO hl) (fun r m' h' => ?_)
  obtain ⟨rfl, rfl⟩ := h'
  conv => whnf
  repeat' ((conv => whnf); first | refine Rng.g ?_ | refine Ob.g ?_ | refine Ob.e ?_ | refine Ob.m ?_ | refine Ob.mk (Nat.le_of_ble_eq_true rfl) ?_ | refine JoinVC.on ?_ | refine Nils.mk (fun h => ?_) ?_ | refine Val.t ?_ | refine Val.d ?_ | refine Mm.mk ?_ | (refine Br.mk (fun h => ?_) (fun h => ?_) <;> first | (exfalso; omega; done) | (exfalso; simp at h; done) | skip))
  repeat refine Mm.mk ?_
  refine EndVC.mk _ rfl _ _ ⟨rfl, rfl⟩ ?_
  refine ⟨[some 0, some 1], rfl, rfl, ?_, ?_⟩ <;> repeat' (first | exact trivial | exact rfl | exact Iff.rfl | apply And.intro)
theorem s46w (f : Fmt) (l : List Sng) (hl : l.length ≤ 24) : HSpec Try.prog 46 [.one (.ptr 0 0)] [bPl f l] (fun r m' => r = .x (.one (.own 1)) ∧ m' = [some (bPl f l), some (rowOd (allO l))]) := by
  have lp := sngA_len l
  have c := s45w f l (spanL 0 l.length) (span_ok _) (by rw [spanL_len]; exact hl)
  rw [← allO_usu] at c
  refine spec_of pMix (O := []) Try.func46 (c := bodyOf Try.f46) rfl (by kernel_rfl) (by kernel_rfl) Try.ntmps46 (res := [.tmp 2]) (by kernel_rfl) ?_
  repeat' ((conv => whnf); first | rw [lp] | refine Rng.g ?_ | refine Ob.g ?_ | refine Ob.e ?_ | refine Ob.m ?_ | refine Ob.mk (Nat.le_of_ble_eq_true rfl) ?_ | refine JoinVC.on ?_ | refine Nils.mk (fun h => ?_) ?_ | refine Val.t ?_ | refine Val.d ?_ | refine Mm.mk ?_ | (refine Br.mk (fun h => ?_) (fun h => ?_) <;> first | (exfalso; omega; done) | (exfalso; simp at h; done) | skip))
  conv => whnf
  refine CallVC.mk [] _ _ _ rfl rfl rfl (s54 l.length (by omega)) (fun r m' h' => ?_)
  obtain ⟨rfl, rfl⟩ := h'
  conv => whnf
  repeat' ((conv => whnf); first | refine Rng.g ?_ | refine Ob.g ?_ | refine Ob.e ?_ | refine Ob.m ?_ | refine Ob.mk (Nat.le_of_ble_eq_true rfl) ?_ | refine JoinVC.on ?_ | refine Nils.mk (fun h => ?_) ?_ | refine Val.t ?_ | refine Val.d ?_ | refine Mm.mk ?_ | (refine Br.mk (fun h => ?_) (fun h => ?_) <;> first | (exfalso; omega; done) | (exfalso; simp at h; done) | skip))
  conv => whnf
  refine CallVC.mk [0, 1] _ _ _ rfl rfl rfl (c) (fun r m' h' => ?_)
  obtain ⟨rfl, rfl⟩ := h'
  conv => whnf
  repeat' ((conv => whnf); first | refine Rng.g ?_ | refine Ob.g ?_ | refine Ob.e ?_ | refine Ob.m ?_ | refine Ob.mk (Nat.le_of_ble_eq_true rfl) ?_ | refine JoinVC.on ?_ | refine Nils.mk (fun h => ?_) ?_ | refine Val.t ?_ | refine Val.d ?_ | refine Mm.mk ?_ | (refine Br.mk (fun h => ?_) (fun h => ?_) <;> first | (exfalso; omega; done) | (exfalso; simp at h; done) | skip))
  repeat refine Mm.mk ?_
  refine EndVC.mk _ rfl _ _ ⟨rfl, rfl⟩ ?_
  refine ⟨[some 0, some 2], rfl, rfl, ?_, ?_⟩ <;> repeat' (first | exact trivial | exact rfl | exact Iff.rfl | apply And.intro)
/-! ### Crowds -/
/-- All of them together are a crowd. -/
def CrowdP (f : Fmt) (l : List Sng) (O : List Int) : Prop := atF f l O O.length - f.tail < f.inner ∨ ¬ okAt f l O (O.length - 1)
theorem crowd_no {f : Fmt} {l : List Sng} {O : List Int} (h0 : 0 < O.length) (h : CrowdP f l O) : ¬ LayOK f l O := fun hL => by
  rcases h with h | h
  · have := hL.2; omega
  · exact h (hL.1 _ (by omega))
open Classical in
theorem s44 (f : Fmt) (l : List Sng) (O : List Int) (hf : FmtOK f) (hg : SngsOK l) (hO : InR O l.length) (h0 : 0 < O.length) (hl : O.length ≤ 100) : HSpec Try.prog 44 [.one (.ptr 0 0), .one (.lst true [.int .i64] (i64s O))] [bPl f l] (fun r m' => r = xP (CrowdP f l O) ∧ m' = [some (bPl f l)]) := by
  have lo := i64s_len O
  have lg := sngA_len l
  have hbd := atF_bd hf hg hO
  have hf1 := hf.outer
  have hf2 := hf.lead
  have hf3 := hf.gap
  have hf4 := hf.tail
  have hf5 := hf.inner
  refine spec_of pMix (O := [(5, ([], [⟨0, [], []⟩, ⟨1, [], []⟩, ⟨2, [], []⟩, ⟨3, [], []⟩, ⟨4, [], []⟩, ⟨5, [], []⟩, ⟨6, [], []⟩, ⟨7, [], []⟩, ⟨8, [], []⟩, ⟨9, [], []⟩, ⟨10, [], []⟩, ⟨11, [], []⟩, ⟨12, [], []⟩, ⟨13, [], []⟩, ⟨14, [0, 1, 2, 3, 4, 5], []⟩, ⟨15, [], []⟩, ⟨16, [], []⟩, ⟨17, [], []⟩]))]) Try.func44 (c := bodyOf Try.f44) rfl (by kernel_rfl) (by kernel_rfl) Try.ntmps44 (res := [.tmp 4]) (by kernel_rfl) ?_
  repeat' ((conv => whnf); first | refine Rng.g ?_ | refine Ob.g ?_ | refine Ob.e ?_ | refine Ob.m ?_ | refine Ob.mk (Nat.le_of_ble_eq_true rfl) ?_ | refine JoinVC.on ?_ | refine Nils.mk (fun h => ?_) ?_ | refine Val.t ?_ | refine Val.d ?_ | refine Mm.mk ?_ | (refine Br.mk (fun h => ?_) (fun h => ?_) <;> first | (exfalso; omega; done) | (exfalso; simp at h; done) | skip))
  refine LoopVC.mk (fun n st => ∃ (i : Nat), i ≤ O.length ∧ n = O.length - i ∧ st = ⟨1, envA 79 [(0, .x (.one (.ptr 0 0))), (1, .x (.one (.lst true [.int .i64] (i64s O)))), (5, .int .i64 (atF f l O i + (if i = 0 then f.gap else 0))), (25, .x (.one (.lst true [.int .i64] (i64s O)))), (26, .int .i64 (O.length : Int)), (27, .int .i64 (i : Int))], [some (bPl f l)]⟩) _ _ ⟨0, Nat.zero_le _, rfl, rfl⟩ ?_ ?_
  · refine ⟨[some 0], rfl, rfl, ?_, ?_⟩ <;> repeat' (first | exact trivial | exact rfl | exact Iff.rfl | apply And.intro)
    exact congrArg Int.ofNat lo
  rintro n _ ⟨i, hi, hn, rfl⟩
  have gi : rI (i64s O) (i : Int).toNat 0 = O.getD i 0 := by rw [Int.toNat_natCast]; exact i64s_get O i
  have hbi := hbd i hi
  by_cases hi' : i < O.length
  · have hr := hO i hi'
    obtain ⟨q, hq⟩ : ∃ q, O.getD i 0 = q := ⟨_, rfl⟩
    have c0 : rI (sngA l) q.toNat 0 = (l.getD q.toNat g0).long := sngA_0 l _
    have c1 : rI (sngA l) q.toNat (0 + 1) = (l.getD q.toNat g0).pitch := sngA_1 l _
    have c2 : rI (sngA l) q.toNat (0 + 1 + 1) = (l.getD q.toNat g0).least := sngA_2 l _
    rw [hq] at gi hr
    have hgk := hg.each q.toNat (by omega)
    have hw := (wid_bd hf.per.1 hgk).2
    have ea : atF f l O (i + 1) = atF f l O i - (if 0 < i then f.gap else 0) - widF f (l.getD (O.getD i 0).toNat g0) := rfl
    rw [hq] at ea
    have hbi2 := hbd (i + 1) (by omega)
    have e1 : atF f l O i + (if i = 0 then f.gap else 0) - (f.gap + widF f (l.getD q.toNat g0)) = atF f l O (i + 1) + (if i + 1 = 0 then f.gap else 0) := by
      rw [ea, if_neg (Nat.succ_ne_zero i)]
      by_cases h : i = 0
      · rw [if_pos h, if_neg (by omega)]; omega
      · rw [if_neg h, if_pos (by omega)]; omega
    obtain ⟨A, hA⟩ : ∃ A, atF f l O i + (if i = 0 then f.gap else 0) = A := ⟨_, rfl⟩
    have hAb : A ≤ 8388608 ∧ -4194304 - 68723671040 * (i : Int) ≤ A := by
      rw [← hA]
      split <;> omega
    rw [hA] at e1
    rw [hA]
    repeat' ((conv => whnf); first | rw [gi] | rw [c0] | rw [c1] | rw [c2] | refine Rng.g ?_ | refine Ob.g ?_ | refine Ob.e ?_ | refine Ob.m ?_ | refine Ob.mk (Nat.le_of_ble_eq_true rfl) ?_ | refine JoinVC.on ?_ | refine Nils.mk (fun h => ?_) ?_ | refine Val.t ?_ | refine Val.d ?_ | refine Mm.mk ?_ | (refine Br.mk (fun h => ?_) (fun h => ?_) <;> first | (exfalso; omega; done) | (exfalso; simp at h; done) | skip))
    conv => whnf
    refine CallVC0.mk _ _ rfl (s43p f l (l.getD q.toNat g0) hf hgk) (fun r m' h' => ?_)
    obtain ⟨rfl, rfl⟩ := h'
    conv => whnf
    repeat' ((conv => whnf); first | rw [gi] | refine Rng.g ?_ | refine Ob.g ?_ | refine Ob.e ?_ | refine Ob.m ?_ | refine Ob.mk (Nat.le_of_ble_eq_true rfl) ?_ | refine JoinVC.on ?_ | refine Nils.mk (fun h => ?_) ?_ | refine Val.t ?_ | refine Val.d ?_ | refine Mm.mk ?_ | (refine Br.mk (fun h => ?_) (fun h => ?_) <;> first | (exfalso; omega; done) | (exfalso; simp at h; done) | skip))
    refine Back.mk (O.length - (i + 1)) _ (by omega) ⟨i + 1, by omega, rfl, rfl⟩ ?_
    refine ⟨[some 0], rfl, rfl, ?_, ?_⟩ <;> repeat' (first | exact trivial | exact rfl | exact Iff.rfl | apply And.intro)
    exact e1
  · have ei : i = O.length := by omega
    subst ei
    have gl : rI (i64s O) ((O.length : Int) - 1).toNat 0 = O.getD (O.length - 1) 0 := by rw [show ((O.length : Int) - 1).toNat = O.length - 1 by omega]; exact i64s_get O _
    have hr := hO (O.length - 1) (by omega)
    obtain ⟨q, hq⟩ : ∃ q, O.getD (O.length - 1) 0 = q := ⟨_, rfl⟩
    rw [hq] at gl hr
    have c2 : rI (sngA l) q.toNat (0 + 1 + 1) = (l.getD q.toNat g0).least := sngA_2 l _
    have c3 : rI (sngA l) q.toNat (0 + (0 + 1 + 1)) = (l.getD q.toNat g0).least := sngA_2 l _
    have eo : okAt f l O (O.length - 1) ↔ (l.getD q.toNat g0).least ≤ atF f l O O.length := by
      unfold okAt
      rw [hq, show O.length - 1 + 1 = O.length by omega]
    rw [if_neg (by omega), Int.add_zero]
    repeat' ((conv => whnf); first | rw [gl] | rw [c2] | rw [c3] | rw [lo] | refine Rng.g ?_ | refine Ob.g ?_ | refine Ob.e ?_ | refine Ob.m ?_ | refine Ob.mk (Nat.le_of_ble_eq_true rfl) ?_ | refine JoinVC.on ?_ | refine Nils.mk (fun h => ?_) ?_ | refine Val.t ?_ | refine Val.d ?_ | refine Mm.mk ?_ | (refine Br.mk (fun h => ?_) (fun h => ?_) <;> first | (exfalso; omega; done) | (exfalso; simp at h; done) | skip))
    · repeat refine Mm.mk ?_
      refine EndVC.mk _ rfl _ _ ⟨rfl, rfl⟩ ?_
      refine ⟨[some 0], rfl, rfl, ?_, ?_⟩ <;> repeat' (first | exact trivial | exact rfl | exact Iff.rfl | apply And.intro)
      exact .inl h
    · repeat refine Mm.mk ?_
      refine EndVC.mk _ rfl _ _ ⟨rfl, rfl⟩ ?_
      refine ⟨[some 0], rfl, rfl, ?_, ?_⟩ <;> repeat' (first | exact trivial | exact rfl | exact Iff.rfl | apply And.intro)
      show _ ↔ _
      exact ⟨fun h2 => .inr fun h3 => (by have := eo.1 h3; omega), fun h2 => (by
        rcases h2 with h2 | h2
        · exact absurd h2 h
        · exact Classical.byContradiction fun h3 => h2 (eo.2 (by omega)))⟩
/-- An element of an increasing set of tracks. -/
def incA (n : Nat) (S : List Int) (i : Nat) : Prop := (0 ≤ S.getD i 0 ∧ S.getD i 0 < n) ∧ (0 < i → S.getD (i - 1) 0 < S.getD i 0)
def IncS (n : Nat) (S : List Int) : Prop := ∀ j, j < S.length → incA n S j
theorem inc_lt {n : Nat} {S : List Int} (h : IncS n S) : ∀ d i, i + d + 1 < S.length → S.getD i 0 < S.getD (i + d + 1) 0
  | 0, i, hi => by
    have := (h (i + 1) hi).2 (Nat.succ_pos i)
    rw [Nat.add_sub_cancel] at this
    exact this
  | d + 1, i, hi => by
    have h1 := inc_lt h d i (by omega)
    have h2 := (h (i + (d + 1) + 1) hi).2 (Nat.succ_pos _)
    rw [Nat.add_sub_cancel] at h2
    rw [show i + (d + 1) = i + d + 1 by omega] at h2
    rw [show i + (d + 1) + 1 = i + d + 1 + 1 by omega]
    omega
theorem inc_lt' {n : Nat} {S : List Int} (h : IncS n S) {i j : Nat} (hij : i < j) (hj : j < S.length) : S.getD i 0 < S.getD j 0 := by
  have := inc_lt h (j - i - 1) i (by omega)
  rw [show i + (j - i - 1) + 1 = j by omega] at this
  exact this
theorem inc_ok {n : Nat} {S : List Int} (h : IncS n S) : OrdOK n S := ⟨fun i hi => (h i hi).1, fun i j hi hj e => by
  rcases Nat.lt_trichotomy i j with h1 | h1 | h1
  · have := inc_lt' h h1 hj; omega
  · exact h1
  · have := inc_lt' h h1 hi; omega⟩
theorem inc_ge {n : Nat} {S : List Int} (h : IncS n S) : ∀ i : Nat, i < S.length → (i : Int) ≤ S.getD i 0
  | 0, hi => (h 0 hi).1.1
  | i + 1, hi => by
    have h1 := inc_ge h i (by omega)
    have h2 := (h (i + 1) hi).2 (Nat.succ_pos i)
    rw [Nat.add_sub_cancel] at h2
    omega
theorem inc_len {n : Nat} {S : List Int} (h : IncS n S) : S.length ≤ n := Classical.byContradiction fun hc => by
  have h1 := inc_ge h n (by omega)
  have h2 := (h n (by omega)).1.2
  omega
open Classical in
/-- What is said of a set: is it a crowd? -/
noncomputable def ccE (f : Fmt) (l : List Sng) (S : List Int) : Int := if bothE f l ≠ 0 then bothE f l else if IncS l.length S ∧ 0 < S.length then (if CrowdP f l (usu l S) then 0 else 16) else 3
theorem ccE_bad {f : Fmt} {l : List Sng} {S : List Int} (h : bothE f l ≠ 0) : ccE f l S = bothE f l := if_pos h
theorem ccE_rng {f : Fmt} {l : List Sng} {S : List Int} (h : bothE f l = 0) (h2 : ¬ (IncS l.length S ∧ 0 < S.length)) : ccE f l S = 3 := (if_neg (fun h3 => h3 h)).trans (if_neg h2)
theorem ccE_yes {f : Fmt} {l : List Sng} {S : List Int} (h : bothE f l = 0) (h2 : IncS l.length S ∧ 0 < S.length) (h3 : CrowdP f l (usu l S)) : ccE f l S = 0 := ((if_neg (fun h3 => h3 h)).trans (if_pos h2)).trans (if_pos h3)
theorem ccE_no {f : Fmt} {l : List Sng} {S : List Int} (h : bothE f l = 0) (h2 : IncS l.length S ∧ 0 < S.length) (h3 : ¬ CrowdP f l (usu l S)) : ccE f l S = 16 := ((if_neg (fun h3 => h3 h)).trans (if_pos h2)).trans (if_neg h3)
theorem usu_in {l : List Sng} {n : Nat} {S : List Int} (h : OrdOK n S) : InR (usu l S) n := (usu_ord h).rng
theorem s17 (f : Fmt) (l : List Sng) (S : List Int) (hI : f.nm.size ≤ 140737488355328) (hS : S.length ≤ 1000000) : HSpec Try.prog 17 [f.x, lSng l, .one (.lst true [.int .i64] (i64s S))] [] (fun r m' => r = .x (I (ccE f l S)) ∧ m' = []) := by
  have lo := i64s_len S
  have lg := sngA_len l
  refine spec_of pMix (O := []) Try.func17 (c := bodyOf Try.f17) rfl (by kernel_rfl) (by kernel_rfl) Try.ntmps17 (res := [.tmp 6]) (by kernel_rfl) ?_
  repeat' ((conv => whnf); first | refine Rng.g ?_ | refine Ob.g ?_ | refine Ob.e ?_ | refine Ob.m ?_ | refine Ob.mk (Nat.le_of_ble_eq_true rfl) ?_ | refine JoinVC.on ?_ | refine Nils.mk (fun h => ?_) ?_ | refine Val.t ?_ | refine Val.d ?_ | refine Mm.mk ?_ | (refine Br.mk (fun h => ?_) (fun h => ?_) <;> first | (exfalso; omega; done) | (exfalso; simp at h; done) | skip))
  conv => whnf
  refine CallVC.mk [] _ _ _ rfl rfl rfl (s35 f l hI) (fun r m' h' => ?_)
  rcases h' with ⟨hn, rfl, rfl⟩ | ⟨hf, hg, rfl, rfl⟩
  · rw [ccE_bad hn]
    repeat' ((conv => whnf); first | refine Rng.g ?_ | refine Ob.g ?_ | refine Ob.e ?_ | refine Ob.m ?_ | refine Ob.mk (Nat.le_of_ble_eq_true rfl) ?_ | refine JoinVC.on ?_ | refine Nils.mk (fun h => ?_) ?_ | refine Val.t ?_ | refine Val.d ?_ | refine Mm.mk ?_ | (refine Br.mk (fun h => ?_) (fun h => ?_) <;> first | (exfalso; omega; done) | (exfalso; simp at h; done) | skip))
    repeat refine Mm.mk ?_
    refine EndVC.mk _ rfl _ _ ⟨rfl, rfl⟩ ?_
    refine ⟨[], rfl, rfl, ?_, ?_⟩ <;> repeat' (first | exact trivial | exact rfl | exact Iff.rfl | apply And.intro)
  have h24 := hg.len
  have hb := bothE_ok hf hg
  repeat' ((conv => whnf); first | refine Rng.g ?_ | refine Ob.g ?_ | refine Ob.e ?_ | refine Ob.m ?_ | refine Ob.mk (Nat.le_of_ble_eq_true rfl) ?_ | refine JoinVC.on ?_ | refine Nils.mk (fun h => ?_) ?_ | refine Val.t ?_ | refine Val.d ?_ | refine Mm.mk ?_ | (refine Br.mk (fun h => ?_) (fun h => ?_) <;> first | (exfalso; omega; done) | (exfalso; simp at h; done) | skip))
  refine LoopVC.mk (fun n st => ∃ (i : Nat) (x : Int), i ≤ S.length ∧ n = S.length - i ∧ (∀ j, j < i → incA l.length S j) ∧ (i = 0 ∧ x = -1 ∨ 0 < i ∧ x = S.getD (i - 1) 0) ∧ st = ⟨0, envA 46 [(1, .x (lSng l)), (2, .x (.one (.lst true [.int .i64] (i64s S)))), (7, .x (.one (.ptr 0 0))), (9, .int .i64 x), (21, .x (.one (.lst true [.int .i64] (i64s S)))), (22, .int .i64 (S.length : Int)), (23, .int .i64 (i : Int))], [some (bPl f l)]⟩) _ _ ⟨0, -1, Nat.zero_le _, rfl, fun j hj => absurd hj (Nat.not_lt_zero j), .inl ⟨rfl, rfl⟩, rfl⟩ ?_ ?_
  · refine ⟨[some 1], rfl, rfl, ?_, ?_⟩ <;> repeat' (first | exact trivial | exact rfl | exact Iff.rfl | apply And.intro)
    all_goals exact congrArg Int.ofNat lo
  rintro n _ ⟨i, x, hi, hn, hj, hx, rfl⟩
  have gi : rI (i64s S) (i : Int).toNat 0 = S.getD i 0 := by rw [Int.toNat_natCast]; exact i64s_get S i
  by_cases hi' : i < S.length
  · by_cases ha : incA l.length S i
    · have hlt : x < S.getD i 0 := by
        rcases hx with ⟨rfl, rfl⟩ | ⟨h1, rfl⟩
        · have := ha.1; omega
        · exact ha.2 h1
      have hr := ha.1
      repeat' ((conv => whnf); first | rw [gi] | refine Rng.g ?_ | refine Ob.g ?_ | refine Ob.e ?_ | refine Ob.m ?_ | refine Ob.mk (Nat.le_of_ble_eq_true rfl) ?_ | refine JoinVC.on ?_ | refine Nils.mk (fun h => ?_) ?_ | refine Val.t ?_ | refine Val.d ?_ | refine Mm.mk ?_ | (refine Br.mk (fun h => ?_) (fun h => ?_) <;> first | (exfalso; omega; done) | (exfalso; simp at h; done) | skip))
      refine Back.mk (S.length - (i + 1)) _ (by omega) ⟨i + 1, _, by omega, rfl, fun j hj' => ?_, .inr ⟨by omega, rfl⟩, rfl⟩ ?_
      · rcases Nat.lt_succ_iff_lt_or_eq.1 hj' with h' | rfl
        · exact hj j h'
        · exact ha
      · refine ⟨[some 0], rfl, rfl, ?_, ?_⟩ <;> repeat' (first | exact trivial | exact rfl | exact Iff.rfl | apply And.intro)
    · have hno : S.getD i 0 ≤ x ∨ (l.length : Int) ≤ S.getD i 0 := Classical.byContradiction fun hc => ha ⟨⟨by
          rcases hx with ⟨rfl, rfl⟩ | ⟨h1, rfl⟩
          · omega
          · have := (hj (i - 1) (by omega)).1; omega, by omega⟩, fun h1 => by
          rcases hx with ⟨rfl, rfl⟩ | ⟨_, rfl⟩
          · omega
          · omega⟩
      have he : ccE f l S = 3 := ccE_rng hb fun h => ha (h.1 i hi')
      rw [he]
      repeat' ((conv => whnf); first | rw [gi] | refine Rng.g ?_ | refine Ob.g ?_ | refine Ob.e ?_ | refine Ob.m ?_ | refine Ob.mk (Nat.le_of_ble_eq_true rfl) ?_ | refine JoinVC.on ?_ | refine Nils.mk (fun h => ?_) ?_ | refine Val.t ?_ | refine Val.d ?_ | refine Mm.mk ?_ | (refine Br.mk (fun h => ?_) (fun h => ?_) <;> first | (exfalso; omega; done) | (exfalso; simp at h; done) | skip))
      all_goals
        repeat refine Mm.mk ?_
        refine EndVC.mk _ rfl _ _ ⟨rfl, rfl⟩ ?_
        refine ⟨[], rfl, rfl, ?_, ?_⟩ <;> repeat' (first | exact trivial | exact rfl | exact Iff.rfl | apply And.intro)
  have ei : i = S.length := by omega
  subst ei
  by_cases h0 : S.length = 0
  · have he : ccE f l S = 3 := ccE_rng hb fun h => by omega
    rw [he]
    have hx0 : x = -1 := by
      rcases hx with ⟨_, h⟩ | ⟨h, _⟩
      · exact h
      · omega
    subst hx0
    repeat' ((conv => whnf); first | refine Rng.g ?_ | refine Ob.g ?_ | refine Ob.e ?_ | refine Ob.m ?_ | refine Ob.mk (Nat.le_of_ble_eq_true rfl) ?_ | refine JoinVC.on ?_ | refine Nils.mk (fun h => ?_) ?_ | refine Val.t ?_ | refine Val.d ?_ | refine Mm.mk ?_ | (refine Br.mk (fun h => ?_) (fun h => ?_) <;> first | (exfalso; omega; done) | (exfalso; simp at h; done) | skip))
    repeat refine Mm.mk ?_
    refine EndVC.mk _ rfl _ _ ⟨rfl, rfl⟩ ?_
    refine ⟨[], rfl, rfl, ?_, ?_⟩ <;> repeat' (first | exact trivial | exact rfl | exact Iff.rfl | apply And.intro)
  have hx0 : 0 ≤ x := by
    rcases hx with ⟨h, _⟩ | ⟨h, rfl⟩
    · omega
    · exact (hj _ (by omega)).1.1
  have hO := inc_ok hj
  have hl := inc_len hj
  have hul := usu_len l S
  repeat' ((conv => whnf); first | refine Rng.g ?_ | refine Ob.g ?_ | refine Ob.e ?_ | refine Ob.m ?_ | refine Ob.mk (Nat.le_of_ble_eq_true rfl) ?_ | refine JoinVC.on ?_ | refine Nils.mk (fun h => ?_) ?_ | refine Val.t ?_ | refine Val.d ?_ | refine Mm.mk ?_ | (refine Br.mk (fun h => ?_) (fun h => ?_) <;> first | (exfalso; omega; done) | (exfalso; simp at h; done) | skip))
  conv => whnf
  refine CallVC.mk [0] _ _ _ rfl rfl rfl (s45l f l S hO (by omega)) (fun r m' h' => ?_)
  obtain ⟨rfl, rfl⟩ := h'
  conv => whnf
  repeat' ((conv => whnf); first | refine Rng.g ?_ | refine Ob.g ?_ | refine Ob.e ?_ | refine Ob.m ?_ | refine Ob.mk (Nat.le_of_ble_eq_true rfl) ?_ | refine JoinVC.on ?_ | refine Nils.mk (fun h => ?_) ?_ | refine Val.t ?_ | refine Val.d ?_ | refine Mm.mk ?_ | (refine Br.mk (fun h => ?_) (fun h => ?_) <;> first | (exfalso; omega; done) | (exfalso; simp at h; done) | skip))
  conv => whnf
  refine CallVC.mk [0] _ _ _ rfl rfl rfl (s44 f l (usu l S) hf hg (usu_in hO) (by omega) (by omega)) (fun r m' h' => ?_)
  obtain ⟨rfl, rfl⟩ := h'
  conv => whnf
  by_cases hc : CrowdP f l (usu l S)
  · rw [ccE_yes hb ⟨hj, by omega⟩ hc]
    repeat' ((conv => whnf); first | refine Rng.g ?_ | refine Ob.g ?_ | refine Ob.e ?_ | refine Ob.m ?_ | refine Ob.mk (Nat.le_of_ble_eq_true rfl) ?_ | refine JoinVC.on ?_ | refine Nils.mk (fun h => ?_) ?_ | refine Val.t ?_ | refine Val.d ?_ | refine Mm.mk ?_ | (refine Br.mk (fun h => ?_) (fun h => ?_) <;> first | (exfalso; omega; done) | (exfalso; simp at h; done) | skip))
    all_goals first | (exfalso; contradiction) | skip
    repeat refine Mm.mk ?_
    refine EndVC.mk _ rfl _ _ ⟨rfl, rfl⟩ ?_
    refine ⟨[], rfl, rfl, ?_, ?_⟩ <;> repeat' (first | exact trivial | exact rfl | exact Iff.rfl | apply And.intro)
  · rw [ccE_no hb ⟨hj, by omega⟩ hc]
    repeat' ((conv => whnf); first | refine Rng.g ?_ | refine Ob.g ?_ | refine Ob.e ?_ | refine Ob.m ?_ | refine Ob.mk (Nat.le_of_ble_eq_true rfl) ?_ | refine JoinVC.on ?_ | refine Nils.mk (fun h => ?_) ?_ | refine Val.t ?_ | refine Val.d ?_ | refine Mm.mk ?_ | (refine Br.mk (fun h => ?_) (fun h => ?_) <;> first | (exfalso; omega; done) | (exfalso; simp at h; done) | skip))
    all_goals first | (exfalso; contradiction) | skip
    repeat refine Mm.mk ?_
    refine EndVC.mk _ rfl _ _ ⟨rfl, rfl⟩ ?_
    refine ⟨[], rfl, rfl, ?_, ?_⟩ <;> repeat' (first | exact trivial | exact rfl | exact Iff.rfl | apply And.intro)
end Go.Sx

namespace Go.Sx
open Go Go.Proofs
set_option maxRecDepth 10000
set_option maxHeartbeats 16000000
/-! ### Sorted numbers -/
end Go.Sx

namespace Go.Sx
open Go Go.Proofs
set_option maxRecDepth 10000
set_option maxHeartbeats 4000000
/-! ### Packings: plain laws -/
/-- The tracks of a side, by increasing indexes. -/
def onL (P : List Int) (k : Int) : List Int := ((List.range P.length).filter fun j => decide (P.getD j 0 = k)).map fun j : Nat => (j : Int)
theorem OrdOK.up {n m : Nat} {O : List Int} (h : OrdOK n O) (hm : n ≤ m) : OrdOK m O := ⟨fun i hi => by have := h.rng i hi; omega, h.inj⟩
/-- Have the tracks of a side a possible order? -/
def sideOK (f : Fmt) (l : List Sng) (P : List Int) (k : Int) : Prop := LayOK f l (usu l (onL P k))
/-- A possible packing. -/
structure Packd (f : Fmt) (l : List Sng) (P : List Int) (sides : Nat) : Prop where
  num : ∀ i, i < P.length → 0 ≤ P.getD i 0 ∧ P.getD i 0 < sides
  nxt : ∀ i, i < P.length → ∀ v : Nat, (v : Int) < P.getD i 0 → ∃ j, j < i ∧ P.getD j 0 = v
  all : ∀ v : Nat, v < sides → ∃ j, j < P.length ∧ P.getD j 0 = v
  len : P.length = l.length
  ok : ∀ k : Nat, k < sides → sideOK f l P k
end Go.Sx

namespace Go.Sx
open Go Go.Proofs
set_option maxRecDepth 10000
set_option maxHeartbeats 8000000
/-! ### Sets of tracks as bits -/
end Go.Sx

namespace Go.Sx
open Go Go.Proofs
set_option maxRecDepth 10000
set_option maxHeartbeats 16000000
/-! ### The search for a packing -/
end Go.Sx

namespace Go.Sx
open Go Go.Proofs
set_option maxRecDepth 10000
set_option maxHeartbeats 16000000
end Go.Sx

namespace Go.Sx
open Go Go.Proofs
set_option maxRecDepth 10000
set_option maxHeartbeats 16000000
end Go.Sx

namespace Go.Sx
open Go Go.Proofs
set_option maxRecDepth 10000
set_option maxHeartbeats 16000000
/-! ### The usual order, by insertion from the end -/
end Go.Sx

namespace Go.Sx
open Go Go.Proofs
set_option maxRecDepth 10000
set_option maxHeartbeats 16000000
end Go.Sx

namespace Go.Sx
open Go Go.Proofs
set_option maxRecDepth 10000
set_option maxHeartbeats 16000000
@[reducible] def bFm (f : Fmt) : Blk := .box 23 [.str f.nm, .int .i64 f.outer, .int .i64 f.inner, .int .i64 f.per, .int .i64 f.lead, .int .i64 f.gap, .int .i64 f.tail, .int .i64 f.cost]
/-- The first so many sides are numbered as they are first used. -/
structure NumN (P : List Int) (i used sides : Nat) : Prop where
  rng : ∀ j, j < i → 0 ≤ P.getD j 0 ∧ P.getD j 0 < used ∧ P.getD j 0 < sides
  nxt : ∀ j, j < i → ∀ v : Nat, (v : Int) < P.getD j 0 → ∃ p, p < j ∧ P.getD p 0 = v
  all : ∀ v : Nat, v < used → ∃ j, j < i ∧ P.getD j 0 = v
theorem NumN.no {f : Fmt} {l : List Sng} {P : List Int} {i used sides : Nat} (h : NumN P i used sides) (hi : i < P.length) (hb : (P.getD i 0 < 0 ∨ (used : Int) < P.getD i 0) ∨ (sides : Int) ≤ P.getD i 0) : ¬ Packd f l P sides := fun hp => by
  have h1 := hp.num i hi
  rcases hb with (hb | hb) | hb
  · omega
  · obtain ⟨j, h2, h3⟩ := hp.nxt i hi used hb
    have := (h.rng j h2).2.1
    omega
  · omega
theorem NumN.same {P : List Int} {i used sides : Nat} (h : NumN P i used sides) (h0 : 0 ≤ P.getD i 0) (h1 : P.getD i 0 < used) (h2 : P.getD i 0 < sides) : NumN P (i + 1) used sides where
  rng := fun j hj => by
    rcases Nat.lt_succ_iff_lt_or_eq.1 hj with h' | rfl
    · exact h.rng j h'
    · exact ⟨h0, h1, h2⟩
  nxt := fun j hj v hv => by
    rcases Nat.lt_succ_iff_lt_or_eq.1 hj with h' | rfl
    · exact h.nxt j h' v hv
    · exact h.all v (by omega)
  all := fun v hv => by
    obtain ⟨j, h3, h4⟩ := h.all v hv
    exact ⟨j, by omega, h4⟩
end Go.Sx

namespace Go.Sx
open Go Go.Proofs
set_option maxRecDepth 10000
set_option maxHeartbeats 16000000
/-! ### The document's answers -/
/-! ### The document's sort -/
end Go.Sx

namespace Go.Sx
open Go Go.Proofs
set_option maxRecDepth 10000
set_option maxHeartbeats 16000000
/-! ### The document's search for a packing -/
end Go.Sx

namespace Go.Sx
open Go Go.Proofs
set_option maxRecDepth 10000
set_option maxHeartbeats 16000000
theorem e24 : EntersF Try.prog 24 := enters_of Try.func24 (c := bodyOf Try.f24) (by kernel_rfl) rfl
/-! ### The least number of sides by width -/
end Go.Sx

namespace Go.Sx
open Go Go.Proofs
set_option maxRecDepth 10000
set_option maxHeartbeats 16000000
/-- What is said of no list is said of nil. -/
theorem HSpec.nils {P : Program} {f : FuncId} {pre post : List XV} {m : List Blk} {Rs : AV → List (Option Blk) → Prop} {b : Bool} {ks : List CK} (h : HSpec P f (pre ++ .one (.lst b ks []) :: post) m Rs) : HSpec P f (pre ++ .one .nils :: post) m Rs := fun w R vs hv hm => by
  refine h w R vs ⟨by rw [hv.1]; simp, fun j x hx => ?_⟩ hm
  by_cases e : j = pre.length
  · subst e
    have h1 := hv.2 pre.length (.one .nils) (by simp)
    have h2 : x = .one (.lst b ks []) := by simpa using hx.symm
    subst h2
    have h3 : vs.getD pre.length undef = .slice none 0 0 := h1
    rw [h3]
    exact RepC.sl ks [] none 0 (fun _ _ => undef) (Nat.le_refl _) (fun r hr => absurd hr (by simp)) (fun hr => absurd rfl hr) (fun i r f c k hr => absurd hr (by simp))
  · refine hv.2 j x ?_
    rw [List.getElem?_append] at hx ⊢
    split
    · rename_i hj
      rw [if_pos hj] at hx
      exact hx
    · rename_i hj
      rw [if_neg hj] at hx
      obtain ⟨d, hd⟩ : ∃ d, j - pre.length = d + 1 := ⟨j - pre.length - 1, by omega⟩
      rw [hd] at hx ⊢
      exact hx
end Go.Sx

namespace Go.Sx
open Go Go.Proofs
set_option maxRecDepth 10000
set_option maxHeartbeats 16000000
end Go.Sx

namespace Go.Sx
open Go Go.Proofs
set_option maxRecDepth 10000
set_option maxHeartbeats 16000000
/-- The answer about an order of all tracks. -/
inductive ArRl (f : Fmt) (l : List Sng) (r : AV) (m' : List (Option Blk)) : Prop
  | bad (h : bothE f l ≠ 0) (hr : r = .tup [.one .nils, I (bothE f l)]) (hm : m' = [])
  | none (hf : FmtOK f) (hg : SngsOK l) (hn : ¬ LayOK f l (allO l)) (hr : r = .tup [.one .nils, I 15]) (hm : m' = [])
  | ok (hf : FmtOK f) (hg : SngsOK l) (h : LayOK f l (allO l)) (hr : r = .tup [.one (.lst false [.int .i64] (i64s (allO l))), I 0]) (hm : m' = [])
theorem s18l (f : Fmt) (l : List Sng) (hI : f.nm.size ≤ 140737488355328) : HSpec Try.prog 18 [f.x, lSng l] [] (ArRl f l) := by
  refine spec_of pMix (O := []) Try.func18 (c := bodyOf Try.f18) rfl (by kernel_rfl) (by kernel_rfl) Try.ntmps18 (res := [.tmp 4, .tmp 5]) (by kernel_rfl) ?_
  repeat' ((conv => whnf); first | refine Rng.g ?_ | refine Ob.g ?_ | refine Ob.e ?_ | refine Ob.m ?_ | refine Ob.mk (Nat.le_of_ble_eq_true rfl) ?_ | refine JoinVC.on ?_ | refine Nils.mk (fun h => ?_) ?_ | refine Val.t ?_ | refine Val.d ?_ | refine Mm.mk ?_ | (refine Br.mk (fun h => ?_) (fun h => ?_) <;> first | (exfalso; omega; done) | (exfalso; simp at h; done) | skip))
  conv => whnf
  refine CallVC.mk [] _ _ _ rfl rfl rfl (s35 f l hI) (fun r m' h' => ?_)
  rcases h' with ⟨hn, rfl, rfl⟩ | ⟨hf, hg, rfl, rfl⟩
  · repeat' ((conv => whnf); first | refine Rng.g ?_ | refine Ob.g ?_ | refine Ob.e ?_ | refine Ob.m ?_ | refine Ob.mk (Nat.le_of_ble_eq_true rfl) ?_ | refine JoinVC.on ?_ | refine Nils.mk (fun h => ?_) ?_ | refine Val.t ?_ | refine Val.d ?_ | refine Mm.mk ?_ | (refine Br.mk (fun h => ?_) (fun h => ?_) <;> first | (exfalso; omega; done) | (exfalso; simp at h; done) | skip))
    repeat refine Mm.mk ?_
    conv => whnf
    refine EndVC.mk _ rfl _ _ (.bad hn rfl rfl) ?_
    refine ⟨[], rfl, rfl, ?_, ?_⟩ <;> repeat' (first | exact trivial | exact rfl | exact Iff.rfl | apply And.intro)
  · have h24 := hg.len
    repeat' ((conv => whnf); first | refine Rng.g ?_ | refine Ob.g ?_ | refine Ob.e ?_ | refine Ob.m ?_ | refine Ob.mk (Nat.le_of_ble_eq_true rfl) ?_ | refine JoinVC.on ?_ | refine Nils.mk (fun h => ?_) ?_ | refine Val.t ?_ | refine Val.d ?_ | refine Mm.mk ?_ | (refine Br.mk (fun h => ?_) (fun h => ?_) <;> first | (exfalso; omega; done) | (exfalso; simp at h; done) | skip))
    conv => whnf
    refine CallVC.mk [1] _ _ _ rfl rfl rfl (s46w f l h24) (fun r m' h' => ?_)
    obtain ⟨rfl, rfl⟩ := h'
    conv => whnf
    repeat' ((conv => whnf); first | refine Rng.g ?_ | refine Ob.g ?_ | refine Ob.e ?_ | refine Ob.m ?_ | refine Ob.mk (Nat.le_of_ble_eq_true rfl) ?_ | refine JoinVC.on ?_ | refine Nils.mk (fun h => ?_) ?_ | refine Val.t ?_ | refine Val.d ?_ | refine Mm.mk ?_ | (refine Br.mk (fun h => ?_) (fun h => ?_) <;> first | (exfalso; omega; done) | (exfalso; simp at h; done) | skip))
    conv => whnf
    refine CallVC.mk [1] _ _ _ rfl rfl rfl (s47 f l (allO l) hf hg (allO_in l) (by rw [(allO_idx l).len]; omega)) (fun r m' h' => ?_)
    obtain ⟨rfl, rfl⟩ := h'
    conv => whnf
    repeat' ((conv => whnf); first | refine Rng.g ?_ | refine Ob.g ?_ | refine Ob.e ?_ | refine Ob.m ?_ | refine Ob.mk (Nat.le_of_ble_eq_true rfl) ?_ | refine JoinVC.on ?_ | refine Nils.mk (fun h => ?_) ?_ | refine Val.t ?_ | refine Val.d ?_ | refine Mm.mk ?_ | (refine Br.mk (fun h => ?_) (fun h => ?_) <;> first | (exfalso; omega; done) | (exfalso; simp at h; done) | skip))
    · repeat refine Mm.mk ?_
      conv => whnf
      refine EndVC.mk _ rfl _ _ (.ok hf hg h rfl rfl) ?_
      refine ⟨[], rfl, rfl, ?_, ?_⟩ <;> repeat' (first | exact trivial | exact rfl | exact Iff.rfl | apply And.intro)
    · repeat refine Mm.mk ?_
      conv => whnf
      refine EndVC.mk _ rfl _ _ (.none hf hg h rfl rfl) ?_
      refine ⟨[], rfl, rfl, ?_, ?_⟩ <;> repeat' (first | exact trivial | exact rfl | exact Iff.rfl | apply And.intro)
end Go.Sx

namespace Go.Sx
open Go Go.Proofs
set_option maxRecDepth 10000
set_option maxHeartbeats 16000000
/-! ### If any order is possible, the usual one is -/
theorem inc_of_pw {n : Nat} {S : List Int} (h : S.Pairwise (· < ·)) (hO : OrdOK n S) : IncS n S := fun j hj => ⟨hO.rng j hj, fun h0 => by
  have := (List.pairwise_iff_getElem.1 h) (j - 1) j (by omega) hj (by omega)
  simpa [List.getD_eq_getElem?_getD, hj, show j - 1 < S.length by omega] using this⟩
end Go.Sx

namespace Go.Sx
open Go Go.Proofs
set_option maxRecDepth 10000
set_option maxHeartbeats 4000000
/-! ### No packing has fewer sides than by width -/
/-! ### The tracks of a side by themselves -/
theorem lay_map {f : Fmt} {l m : List Sng} {T : List Int} (hm : ∀ i, i < T.length → m.getD i g0 = l.getD (T.getD i 0).toNat g0) {O : List Int} (hO : InR O T.length) (h : LayOK f m O) : LayOK f l (O.map fun x => T.getD x.toNat 0) := by
  have hg : ∀ i, i < O.length → (O.map fun x => T.getD x.toNat 0).getD i 0 = T.getD (O.getD i 0).toNat 0 := fun i hi => by simp [List.getD_eq_getElem?_getD, hi]
  have ha : ∀ i, i ≤ O.length → atF f l (O.map fun x => T.getD x.toNat 0) i = atF f m O i := fun i => by
    induction i with
    | zero => exact fun _ => rfl
    | succ i ih =>
      intro hi
      have h1 := hO i (by omega)
      unfold atF
      rw [ih (by omega), hg i (by omega), hm _ (by omega)]
  refine ⟨fun i hi => ?_, ?_⟩
  · rw [List.length_map] at hi
    have h1 := h.1 i hi
    have h2 := hO i hi
    unfold okAt at h1 ⊢
    rw [ha _ (by omega), hg i hi, ← hm _ (by omega)]
    exact h1
  · rw [List.length_map, ha _ (Nat.le_refl _)]
    exact h.2
end Go.Sx

namespace Go.Sx
open Go Go.Proofs
set_option maxRecDepth 10000
set_option maxHeartbeats 16000000
theorem eb40 : Try.t40.bytes = 24 := by kernel_rfl
theorem sngA_snoc (l : List Sng) (g : Sng) : sngA (l ++ [g]) = sngA l ++ [[.int g.long, .int g.pitch, .int g.least]] := by simp [sngA]
end Go.Sx

namespace Go.Sx
open Go Go.Proofs
set_option maxRecDepth 10000
set_option maxHeartbeats 16000000
theorem e5 : EntersF Try.prog 5 := enters_of Try.func5 (c := bodyOf Try.f5) (by kernel_rfl) rfl
/-! ### Sets by bits -/
theorem u32_or (a b : Nat) (ha : a < 4294967296) (hb : b < 4294967296) : bits .or .u32 (a : Int) (b : Int) = ((a ||| b : Nat) : Int) := by
  have hx : a ||| b < 2 ^ 32 := Nat.or_lt_two_pow (by omega) (by omega)
  have h1 : (BitVec.ofInt 32 (a : Int)).toNat = a := by
    rw [BitVec.ofInt_natCast, BitVec.toNat_ofNat]; exact Nat.mod_eq_of_lt (by omega)
  have h2 : (BitVec.ofInt 32 (b : Int)).toNat = b := by
    rw [BitVec.ofInt_natCast, BitVec.toNat_ofNat]; exact Nat.mod_eq_of_lt (by omega)
  show IntKind.u32.wrap ((BitVec.ofInt 32 (a : Int) ||| BitVec.ofInt 32 (b : Int)).toNat : Int) = _
  rw [BitVec.toNat_or, h1, h2, IntKind.wrap_u32]
  omega
/-- The numbers below n that a property has. -/
def selN (p : Nat → Bool) (n : Nat) : List Int := ((List.range n).filter p).map fun j : Nat => (j : Int)
theorem selN_yes {p : Nat → Bool} {n : Nat} (h : p n = true) : selN p (n + 1) = selN p n ++ [(n : Int)] := by
  unfold selN
  rw [List.range_succ, List.filter_append, List.map_append]
  have e : [n].filter p = [n] := List.filter_cons_of_pos h
  rw [e]
  rfl
theorem selN_no {p : Nat → Bool} {n : Nat} (h : ¬ p n = true) : selN p (n + 1) = selN p n := by
  unfold selN
  rw [List.range_succ, List.filter_append, List.map_append]
  have e : [n].filter p = [] := List.filter_cons_of_neg h
  rw [e, List.map_nil, List.append_nil]
theorem mem_selN {p : Nat → Bool} {n : Nat} {x : Int} : x ∈ selN p n ↔ ∃ j : Nat, j < n ∧ p j = true ∧ x = j := by
  unfold selN
  simp only [List.mem_map, List.mem_filter, List.mem_range]
  constructor
  · rintro ⟨j, ⟨h1, h2⟩, rfl⟩; exact ⟨j, h1, h2, rfl⟩
  · rintro ⟨j, h1, h2, rfl⟩; exact ⟨j, ⟨h1, h2⟩, rfl⟩
theorem selN_len (p : Nat → Bool) (n : Nat) : (selN p n).length ≤ n := by
  unfold selN
  rw [List.length_map]
  exact Nat.le_trans (List.length_filter_le _ _) (by simp)
theorem selN_pw (p : Nat → Bool) : ∀ n, (selN p n).Pairwise (· < ·)
  | 0 => List.Pairwise.nil
  | n + 1 => by
    by_cases h : p n = true
    · rw [selN_yes h, List.pairwise_append]
      refine ⟨selN_pw p n, List.pairwise_singleton _ _, fun a ha b hb => ?_⟩
      obtain ⟨j, h1, _, rfl⟩ := mem_selN.1 ha
      rw [List.mem_singleton.1 hb]
      omega
    · rw [selN_no h]
      exact selN_pw p n
theorem selN_ord (p : Nat → Bool) (n : Nat) : OrdOK n (selN p n) := .of ((selN_pw p n).imp fun h => Int.ne_of_lt h) fun x hx => by
  obtain ⟨j, h1, _, rfl⟩ := mem_selN.1 hx
  omega
/-- A bit. -/
def bitB (a : Nat) (j : Nat) : Bool := decide ((a : Int) / 2 ^ j % 2 = 1)
theorem bitB_or {a b j : Nat} (h : bitB a j = true) : bitB (a ||| b) j = true := by
  have key : ∀ c : Nat, bitB c j = c.testBit j := fun c => by
    unfold bitB
    rw [Nat.testBit_eq_decide_div_mod_eq]
    have e : (c : Int) / 2 ^ j = ((c / 2 ^ j : Nat) : Int) := by
      rw [show ((2 : Int) ^ j) = ((2 ^ j : Nat) : Int) by simp]
      exact (Int.natCast_ediv _ _).symm
    rw [e]
    exact decide_eq_decide.2 (by omega)
  rw [key] at h ⊢
  rw [Nat.testBit_or, h, Bool.true_or]
/-- An order without the tracks that are not chosen. -/
def pickO (p : Nat → Bool) (O : List Int) (n : Nat) : List Int := (O.take n).filter fun x => p x.toNat
theorem pickO_yes {p : Nat → Bool} {O : List Int} {n : Nat} (hn : n < O.length) (h : p (O.getD n 0).toNat = true) : pickO p O (n + 1) = pickO p O n ++ [O.getD n 0] := by
  unfold pickO
  rw [take_at O n hn, List.filter_append]
  congr 1
  exact List.filter_cons_of_pos h
theorem pickO_no {p : Nat → Bool} {O : List Int} {n : Nat} (hn : n < O.length) (h : ¬ p (O.getD n 0).toNat = true) : pickO p O (n + 1) = pickO p O n := by
  unfold pickO
  rw [take_at O n hn, List.filter_append]
  have e : [O.getD n 0].filter (fun x => p x.toNat) = [] := List.filter_cons_of_neg h
  rw [e, List.append_nil]
theorem pickO_len (p : Nat → Bool) (O : List Int) (n : Nat) : (pickO p O n).length ≤ n := by
  unfold pickO
  exact Nat.le_trans (List.length_filter_le _ _) (by rw [List.length_take]; omega)
/-- The tracks of some numbers. -/
def trkL (l : List Sng) (G : List Int) (n : Nat) : List Sng := (G.take n).map fun x => l.getD x.toNat g0
theorem trkL_len (l : List Sng) (G : List Int) (n : Nat) (h : n ≤ G.length) : (trkL l G n).length = n := by
  unfold trkL
  rw [List.length_map, List.length_take]
  omega
theorem trkL_succ (l : List Sng) (G : List Int) (n : Nat) (h : n < G.length) : trkL l G (n + 1) = trkL l G n ++ [l.getD (G.getD n 0).toNat g0] := by
  unfold trkL
  rw [take_at G n h, List.map_append]
  rfl
theorem trkL_get (l : List Sng) (G : List Int) (i : Nat) (h : i < G.length) : (trkL l G G.length).getD i g0 = l.getD (G.getD i 0).toNat g0 := by
  unfold trkL
  rw [List.take_length]
  simp [List.getD_eq_getElem?_getD, h]
/-- A crowd: no order of all these tracks and others is possible. -/
theorem crowd_all {f : Fmt} {l : List Sng} (hf : FmtOK f) (hg : SngsOK l) {S P : List Int} (hS : S.Nodup) (h0 : 0 < S.length) (hc : CrowdP f l (usu l S)) (hs : ∀ x, x ∈ S → x ∈ P) (hr : ∀ y, y ∈ P → 0 ≤ y ∧ y < l.length) : ¬ LayOK f l P := fun hP =>
  crowd_no (by rw [usu_len]; exact h0) hc (usu_lay hf hg hS hs hr hP)
/-- .. nor one of some of the tracks by themselves. -/
theorem crowd_sub {f : Fmt} {l : List Sng} (hf : FmtOK f) (hg : SngsOK l) {S G : List Int} (hS : S.Nodup) (h0 : 0 < S.length) (hc : CrowdP f l (usu l S)) (hs : ∀ x, x ∈ S → x ∈ G) (hr : OrdOK l.length G) : ¬ LayOK f (trkL l G G.length) (allO (trkL l G G.length)) := fun h => by
  have hlen := trkL_len l G G.length (Nat.le_refl _)
  have hal := allO_in (trkL l G G.length)
  rw [hlen] at hal
  have h1 := lay_map (l := l) (T := G) (fun i hi => trkL_get l G i hi) hal h
  refine crowd_all hf hg hS h0 hc (fun x hx => ?_) (fun y hy => ?_) h1
  · obtain ⟨i, hi, rfl⟩ := mem_at (hs x hx)
    refine List.mem_map.2 ⟨(i : Int), ?_, by rw [Int.toNat_natCast]⟩
    rw [allO_usu, usu_mem, hlen]
    unfold spanL
    exact List.mem_map.2 ⟨i, List.mem_range.2 hi, by omega⟩
  · obtain ⟨x, hx, rfl⟩ := List.mem_map.1 hy
    obtain ⟨i, hi, rfl⟩ := mem_at hx
    have h2 := hal i hi
    exact hr.rng _ (by omega)
end Go.Sx

namespace Go.Sx
open Go Go.Proofs
set_option maxRecDepth 10000
set_option maxHeartbeats 16000000
theorem trk_ok {l : List Sng} (hg : SngsOK l) {G : List Int} (hG : OrdOK l.length G) (h24 : G.length ≤ 24) : SngsOK (trkL l G G.length) := by
  have hl := trkL_len l G G.length (Nat.le_refl _)
  refine ⟨by omega, fun j hj => ?_⟩
  rw [hl] at hj
  rw [trkL_get l G j hj]
  exact hg.each _ (by have := hG.rng j hj; omega)
theorem s5 (f : Fmt) (l : List Sng) (A B : Int) (b : List Int) (hA : 0 ≤ A ∧ A ≤ 4294967295) (hB : 0 ≤ B ∧ B ≤ 4294967295) (hb : ∀ j, 0 ≤ b.getD j 0 ∧ b.getD j 0 ≤ 255) : PSpec Try.prog 5 [f.x, lSng l, .one (.int .u32 A), .one (.int .u32 B), lU b] (xP True) := by
  obtain ⟨a1, rfl⟩ := Int.eq_ofNat_of_zero_le hA.1
  obtain ⟨a2, rfl⟩ := Int.eq_ofNat_of_zero_le hB.1
  have hw := s11
  have ll := sngA_len l
  have c14 := s14 f l 24
  by_cases hV : (l.length : Int) ≤ 24 ∧ FmtOK f ∧ SngsOK l
  rotate_left
  · refine spec_of pMix (O := []) Try.func5 (c := bodyOf Try.f5) rfl (by kernel_rfl) (by kernel_rfl) Try.ntmps5 (res := [.tmp 10]) (by kernel_rfl) ?_
    repeat' ((conv => whnf); first | refine Rng.g ?_ | refine Ob.g ?_ | refine Ob.e ?_ | refine Ob.m ?_ | refine Ob.mk (Nat.le_of_ble_eq_true rfl) ?_ | refine JoinVC.on ?_ | refine Nils.mk (fun h => ?_) ?_ | refine Val.t ?_ | refine Val.d ?_ | refine Mm.mk ?_ | refine CallVC.pure rfl (c14) ?_ | refine CallVC.pure rfl (hw) ?_ | refine CallVC0.pure rfl (c14) ?_ | refine CallVC0.pure rfl (hw) ?_ | (refine Br.mk (fun h => ?_) (fun h => ?_) <;> first | (exfalso; omega; done) | (exfalso; simp at h; done) | (exfalso; simp [hV] at h; done) | skip))
    all_goals
      repeat refine Mm.mk ?_
      refine EndVC.mk _ rfl _ _ ⟨rfl, rfl⟩ ?_
      refine ⟨[], rfl, rfl, ?_, ?_⟩ <;> repeat' (first | exact trivial | exact rfl | exact Iff.rfl | apply And.intro)
  obtain ⟨h24, hf, hg⟩ := hV
  have hI : f.nm.size ≤ 140737488355328 := by have := hf.nm.2.1; omega
  have hb32 : ((IntKind.u32.bits : Nat) : Int) = 32 := rfl
  have hor := u32_or a1 a2 (by omega) (by omega)
  obtain ⟨a3, ha3⟩ : ∃ a3, a1 ||| a2 = a3 := ⟨_, rfl⟩
  have hpp : ∀ j, bitB a1 j = true → bitB a3 j = true := fun j h => by rw [← ha3]; exact bitB_or h
  rw [ha3] at hor
  refine spec_of pMix (O := []) Try.func5 (c := bodyOf Try.f5) rfl (by kernel_rfl) (by kernel_rfl) Try.ntmps5 (res := [.tmp 10]) (by kernel_rfl) ?_
  repeat' ((conv => whnf); first | refine Rng.g ?_ | refine Ob.g ?_ | refine Ob.e ?_ | refine Ob.m ?_ | refine Ob.mk (Nat.le_of_ble_eq_true rfl) ?_ | refine JoinVC.on ?_ | refine Nils.mk (fun h => ?_) ?_ | refine Val.t ?_ | refine Val.d ?_ | refine Mm.mk ?_ | refine CallVC.pure rfl (c14) ?_ | refine CallVC0.pure rfl (c14) ?_ | (refine Br.mk (fun h => ?_) (fun h => ?_) <;> first | (exfalso; omega; done) | (exfalso; simp at h; done) | (exfalso; simp [h24, hf, hg] at h; done) | skip))
  refine LoopVC.mk (fun n st => ∃ (i : Nat), i ≤ l.length ∧ n = l.length - i ∧ st = ⟨0, envA 142 [(1, .x (lSng l)), (2, .x (.one (.int .u32 (a1 : Int)))), (3, .x (.one (.int .u32 (a2 : Int)))), (4, .x (lU b)), (5, .x (.one (.ptr 0 0))), (11, .x (.one (.own 1))), (12, .x (.one (.own 2))), (13, .int .i64 (i : Int))], [some (bFm f), some (rowOd (selN (bitB a1) i)), some (rowOd (selN (bitB a3) i))]⟩) _ _ ⟨0, Nat.zero_le _, rfl, rfl⟩ ?_ ?_
  · refine ⟨[some 0, none, none], rfl, rfl, ?_, ?_⟩ <;> repeat' (first | exact trivial | exact rfl | exact Iff.rfl | apply And.intro)
  rintro n _ ⟨i, hi, hn, rfl⟩
  have l1 := selN_len (bitB a1) i
  have l2 := selN_len (bitB a3) i
  have l1i := i64s_len (selN (bitB a1) i)
  have l2i := i64s_len (selN (bitB a3) i)
  by_cases hi' : i < l.length
  · obtain ⟨z1, hz1⟩ : ∃ z, (a1 : Int) / 2 ^ i = z := ⟨_, rfl⟩
    obtain ⟨z3, hz3⟩ : ∃ z, (a3 : Int) / 2 ^ i = z := ⟨_, rfl⟩
    have p1 : 0 ≤ z1 := by rw [← hz1]; exact Int.ediv_nonneg (by omega) (Int.pow_nonneg (by decide))
    have p3 : 0 ≤ z3 := by rw [← hz3]; exact Int.ediv_nonneg (by omega) (Int.pow_nonneg (by decide))
    have e1 : (a1 : Int) / 2 ^ (i : Int).toNat = z1 := by rw [Int.toNat_natCast]; exact hz1
    have e3 : (a3 : Int) / 2 ^ (i : Int).toNat = z3 := by rw [Int.toNat_natCast]; exact hz3
    have b1 : bitB a1 i = decide (z1 % 2 = 1) := by unfold bitB; rw [hz1]
    have b3 : bitB a3 i = decide (z3 % 2 = 1) := by unfold bitB; rw [hz3]
    have hp := hpp i
    have sy := fun h => (i64s_snoc (selN (bitB a1) i) (i : Int)).symm.trans (congrArg i64s (selN_yes (p := bitB a1) h).symm)
    have sy3 := fun h => (i64s_snoc (selN (bitB a3) i) (i : Int)).symm.trans (congrArg i64s (selN_yes (p := bitB a3) h).symm)
    have sn := selN_no (p := bitB a1) (n := i)
    have sn3 := selN_no (p := bitB a3) (n := i)
    rw [b1] at hp sy sn
    rw [b3] at hp sy3 sn3
    simp only [decide_eq_true_eq] at hp sy sy3 sn sn3
    by_cases h1 : z1 % 2 = 1
    · have h3 := hp h1
      have sy' := sy h1
      have sy3' := sy3 h3
      repeat' ((conv => whnf); first | refine Rng.g ?_ | refine Ob.g ?_ | refine Ob.e ?_ | refine Ob.m ?_ | refine Ob.mk (Nat.le_of_ble_eq_true rfl) ?_ | refine JoinVC.on ?_ | refine Nils.mk (fun h => ?_) ?_ | refine Val.t ?_ | refine Val.d ?_ | refine Mm.mk ?_ | (refine Br.mk (fun h => ?_) (fun h => ?_) <;> first | (exfalso; omega; done) | (exfalso; simp at h; done) | skip))
      conv => whnf
      refine Val.mk (z1) (e1) ?_
      repeat' ((conv => whnf); first | refine Rng.g ?_ | refine Ob.g ?_ | refine Ob.e ?_ | refine Ob.m ?_ | refine Ob.mk (Nat.le_of_ble_eq_true rfl) ?_ | refine JoinVC.on ?_ | refine Nils.mk (fun h => ?_) ?_ | refine Val.t ?_ | refine Val.d ?_ | refine Mm.mk ?_ | (refine Br.mk (fun h => ?_) (fun h => ?_) <;> first | (exfalso; omega; done) | (exfalso; simp at h; done) | skip))
      repeat refine Mm.mk ?_
      refine Ob.mk (by rw [eb3]; simp only [List.length_cons, List.length_nil]; omega) ?_
      repeat' ((conv => whnf); first | refine Rng.g ?_ | refine Ob.g ?_ | refine Ob.e ?_ | refine Ob.m ?_ | refine Ob.mk (Nat.le_of_ble_eq_true rfl) ?_ | refine JoinVC.on ?_ | refine Nils.mk (fun h => ?_) ?_ | refine Val.t ?_ | refine Val.d ?_ | refine Mm.mk ?_ | (refine Br.mk (fun h => ?_) (fun h => ?_) <;> first | (exfalso; omega; done) | (exfalso; simp at h; done) | skip))
      conv => whnf
      refine Val.mk ((a3:Int)) (hor) ?_
      repeat' ((conv => whnf); first | refine Rng.g ?_ | refine Ob.g ?_ | refine Ob.e ?_ | refine Ob.m ?_ | refine Ob.mk (Nat.le_of_ble_eq_true rfl) ?_ | refine JoinVC.on ?_ | refine Nils.mk (fun h => ?_) ?_ | refine Val.t ?_ | refine Val.d ?_ | refine Mm.mk ?_ | (refine Br.mk (fun h => ?_) (fun h => ?_) <;> first | (exfalso; omega; done) | (exfalso; simp at h; done) | skip))
      conv => whnf
      refine Val.mk (z3) (e3) ?_
      repeat' ((conv => whnf); first | refine Rng.g ?_ | refine Ob.g ?_ | refine Ob.e ?_ | refine Ob.m ?_ | refine Ob.mk (Nat.le_of_ble_eq_true rfl) ?_ | refine JoinVC.on ?_ | refine Nils.mk (fun h => ?_) ?_ | refine Val.t ?_ | refine Val.d ?_ | refine Mm.mk ?_ | (refine Br.mk (fun h => ?_) (fun h => ?_) <;> first | (exfalso; omega; done) | (exfalso; simp at h; done) | skip))
      repeat refine Mm.mk ?_
      refine Ob.mk (by rw [eb3]; simp only [List.length_cons, List.length_nil]; omega) ?_
      repeat' ((conv => whnf); first | rw [sy'] | rw [sy3'] | refine Rng.g ?_ | refine Ob.g ?_ | refine Ob.e ?_ | refine Ob.m ?_ | refine Ob.mk (Nat.le_of_ble_eq_true rfl) ?_ | refine JoinVC.on ?_ | refine Nils.mk (fun h => ?_) ?_ | refine Val.t ?_ | refine Val.d ?_ | refine Mm.mk ?_ | (refine Br.mk (fun h => ?_) (fun h => ?_) <;> first | (exfalso; omega; done) | (exfalso; simp at h; done) | skip))
      refine Back.mk (l.length - (i + 1)) _ (by omega) ⟨i + 1, by omega, rfl, rfl⟩ ?_
      refine ⟨[some 0, some 4, some 6], rfl, rfl, ?_, ?_⟩ <;> repeat' (first | exact trivial | exact rfl | exact Iff.rfl | apply And.intro)
    · have sn' := sn h1
      by_cases h3 : z3 % 2 = 1
      · have sy3' := sy3 h3
        repeat' ((conv => whnf); first | refine Rng.g ?_ | refine Ob.g ?_ | refine Ob.e ?_ | refine Ob.m ?_ | refine Ob.mk (Nat.le_of_ble_eq_true rfl) ?_ | refine JoinVC.on ?_ | refine Nils.mk (fun h => ?_) ?_ | refine Val.t ?_ | refine Val.d ?_ | refine Mm.mk ?_ | (refine Br.mk (fun h => ?_) (fun h => ?_) <;> first | (exfalso; omega; done) | (exfalso; simp at h; done) | skip))
        conv => whnf
        refine Val.mk (z1) (e1) ?_
        repeat' ((conv => whnf); first | refine Rng.g ?_ | refine Ob.g ?_ | refine Ob.e ?_ | refine Ob.m ?_ | refine Ob.mk (Nat.le_of_ble_eq_true rfl) ?_ | refine JoinVC.on ?_ | refine Nils.mk (fun h => ?_) ?_ | refine Val.t ?_ | refine Val.d ?_ | refine Mm.mk ?_ | (refine Br.mk (fun h => ?_) (fun h => ?_) <;> first | (exfalso; omega; done) | (exfalso; simp at h; done) | skip))
        conv => whnf
        refine Val.mk ((a3:Int)) (hor) ?_
        repeat' ((conv => whnf); first | refine Rng.g ?_ | refine Ob.g ?_ | refine Ob.e ?_ | refine Ob.m ?_ | refine Ob.mk (Nat.le_of_ble_eq_true rfl) ?_ | refine JoinVC.on ?_ | refine Nils.mk (fun h => ?_) ?_ | refine Val.t ?_ | refine Val.d ?_ | refine Mm.mk ?_ | (refine Br.mk (fun h => ?_) (fun h => ?_) <;> first | (exfalso; omega; done) | (exfalso; simp at h; done) | skip))
        conv => whnf
        refine Val.mk (z3) (e3) ?_
        repeat' ((conv => whnf); first | refine Rng.g ?_ | refine Ob.g ?_ | refine Ob.e ?_ | refine Ob.m ?_ | refine Ob.mk (Nat.le_of_ble_eq_true rfl) ?_ | refine JoinVC.on ?_ | refine Nils.mk (fun h => ?_) ?_ | refine Val.t ?_ | refine Val.d ?_ | refine Mm.mk ?_ | (refine Br.mk (fun h => ?_) (fun h => ?_) <;> first | (exfalso; omega; done) | (exfalso; simp at h; done) | skip))
        repeat refine Mm.mk ?_
        refine Ob.mk (by rw [eb3]; simp only [List.length_cons, List.length_nil]; omega) ?_
        repeat' ((conv => whnf); first | rw [sy3'] | refine Rng.g ?_ | refine Ob.g ?_ | refine Ob.e ?_ | refine Ob.m ?_ | refine Ob.mk (Nat.le_of_ble_eq_true rfl) ?_ | refine JoinVC.on ?_ | refine Nils.mk (fun h => ?_) ?_ | refine Val.t ?_ | refine Val.d ?_ | refine Mm.mk ?_ | (refine Br.mk (fun h => ?_) (fun h => ?_) <;> first | (exfalso; omega; done) | (exfalso; simp at h; done) | skip))
        refine Back.mk (l.length - (i + 1)) _ (by omega) ⟨i + 1, by omega, rfl, rfl⟩ ?_
        rw [sn']
        refine ⟨[some 0, some 1, some 4], rfl, rfl, ?_, ?_⟩ <;> repeat' (first | exact trivial | exact rfl | exact Iff.rfl | apply And.intro)
      · have sn3' := sn3 h3
        repeat' ((conv => whnf); first | refine Rng.g ?_ | refine Ob.g ?_ | refine Ob.e ?_ | refine Ob.m ?_ | refine Ob.mk (Nat.le_of_ble_eq_true rfl) ?_ | refine JoinVC.on ?_ | refine Nils.mk (fun h => ?_) ?_ | refine Val.t ?_ | refine Val.d ?_ | refine Mm.mk ?_ | (refine Br.mk (fun h => ?_) (fun h => ?_) <;> first | (exfalso; omega; done) | (exfalso; simp at h; done) | skip))
        conv => whnf
        refine Val.mk (z1) (e1) ?_
        repeat' ((conv => whnf); first | refine Rng.g ?_ | refine Ob.g ?_ | refine Ob.e ?_ | refine Ob.m ?_ | refine Ob.mk (Nat.le_of_ble_eq_true rfl) ?_ | refine JoinVC.on ?_ | refine Nils.mk (fun h => ?_) ?_ | refine Val.t ?_ | refine Val.d ?_ | refine Mm.mk ?_ | (refine Br.mk (fun h => ?_) (fun h => ?_) <;> first | (exfalso; omega; done) | (exfalso; simp at h; done) | skip))
        conv => whnf
        refine Val.mk ((a3:Int)) (hor) ?_
        repeat' ((conv => whnf); first | refine Rng.g ?_ | refine Ob.g ?_ | refine Ob.e ?_ | refine Ob.m ?_ | refine Ob.mk (Nat.le_of_ble_eq_true rfl) ?_ | refine JoinVC.on ?_ | refine Nils.mk (fun h => ?_) ?_ | refine Val.t ?_ | refine Val.d ?_ | refine Mm.mk ?_ | (refine Br.mk (fun h => ?_) (fun h => ?_) <;> first | (exfalso; omega; done) | (exfalso; simp at h; done) | skip))
        conv => whnf
        refine Val.mk (z3) (e3) ?_
        repeat' ((conv => whnf); first | refine Rng.g ?_ | refine Ob.g ?_ | refine Ob.e ?_ | refine Ob.m ?_ | refine Ob.mk (Nat.le_of_ble_eq_true rfl) ?_ | refine JoinVC.on ?_ | refine Nils.mk (fun h => ?_) ?_ | refine Val.t ?_ | refine Val.d ?_ | refine Mm.mk ?_ | (refine Br.mk (fun h => ?_) (fun h => ?_) <;> first | (exfalso; omega; done) | (exfalso; simp at h; done) | skip))
        refine Back.mk (l.length - (i + 1)) _ (by omega) ⟨i + 1, by omega, rfl, rfl⟩ ?_
        rw [sn', sn3']
        refine ⟨[some 0, some 1, some 2], rfl, rfl, ?_, ?_⟩ <;> repeat' (first | exact trivial | exact rfl | exact Iff.rfl | apply And.intro)
  have ei : i = l.length := by omega
  subst ei
  have hS : OrdOK l.length (selN (bitB a1) l.length) := selN_ord _ _
  have hG : OrdOK l.length (selN (bitB a3) l.length) := selN_ord _ _
  have hpw := selN_pw (bitB a1) l.length
  have hsub : ∀ x, x ∈ selN (bitB a1) l.length → x ∈ selN (bitB a3) l.length := fun x hx => by
    obtain ⟨j, h1, h2, h3⟩ := mem_selN.1 hx
    exact mem_selN.2 ⟨j, h1, hpp j h2, h3⟩
  have hmG : ∀ x : Int, x ∈ selN (bitB a1) l.length → bitB a3 x.toNat = true := fun x hx => by
    obtain ⟨j, h1, h2, rfl⟩ := mem_selN.1 hx
    rw [Int.toNat_natCast]
    exact hpp j h2
  obtain ⟨S, hSe⟩ : ∃ S, selN (bitB a1) l.length = S := ⟨_, rfl⟩
  obtain ⟨G, hGe⟩ : ∃ G, selN (bitB a3) l.length = G := ⟨_, rfl⟩
  rw [hSe] at l1 l1i hS hpw hsub hmG
  rw [hGe] at l2 l2i hG hsub
  rw [hSe, hGe]
  clear hi hn
  have hb0 := bothE_ok hf hg
  have hinc := inc_of_pw hpw hS
  have c17 : PSpec Try.prog 17 [f.x, lSng l, .one (.lst true [.int .i64] (i64s S))] (.x (I (ccE f l S))) := s17 f l S hI (by omega)
  by_cases h0 : S.length = 0
  · rw [ccE_rng hb0 (fun h => by omega)] at c17
    repeat' ((conv => whnf); first | refine Rng.g ?_ | refine Ob.g ?_ | refine Ob.e ?_ | refine Ob.m ?_ | refine Ob.mk (Nat.le_of_ble_eq_true rfl) ?_ | refine JoinVC.on ?_ | refine Nils.mk (fun h => ?_) ?_ | refine Val.t ?_ | refine Val.d ?_ | refine Mm.mk ?_ | refine CallVC.pure rfl (c17) ?_ | refine CallVC.pure rfl (hw) ?_ | refine CallVC0.pure rfl (c17) ?_ | refine CallVC0.pure rfl (hw) ?_ | (refine Br.mk (fun h => ?_) (fun h => ?_) <;> first | (exfalso; omega; done) | (exfalso; simp at h; done) | (exfalso; simp [l1i, h0] at h; done) | skip))
    all_goals
      repeat refine Mm.mk ?_
      refine EndVC.mk _ rfl _ _ ⟨rfl, rfl⟩ ?_
      refine ⟨[], rfl, rfl, ?_, ?_⟩ <;> repeat' (first | exact trivial | exact rfl | exact Iff.rfl | apply And.intro)
  by_cases hc : CrowdP f l (usu l S)
  rotate_left
  · rw [ccE_no hb0 ⟨hinc, by omega⟩ hc] at c17
    repeat' ((conv => whnf); first | refine Rng.g ?_ | refine Ob.g ?_ | refine Ob.e ?_ | refine Ob.m ?_ | refine Ob.mk (Nat.le_of_ble_eq_true rfl) ?_ | refine JoinVC.on ?_ | refine Nils.mk (fun h => ?_) ?_ | refine Val.t ?_ | refine Val.d ?_ | refine Mm.mk ?_ | refine CallVC.pure rfl (c17) ?_ | refine CallVC.pure rfl (hw) ?_ | refine CallVC0.pure rfl (c17) ?_ | refine CallVC0.pure rfl (hw) ?_ | (refine Br.mk (fun h => ?_) (fun h => ?_) <;> first | (exfalso; omega; done) | (exfalso; simp at h; done) | (exfalso; simp [l1i, h0] at h; done) | skip))
    all_goals
      repeat refine Mm.mk ?_
      refine EndVC.mk _ rfl _ _ ⟨rfl, rfl⟩ ?_
      refine ⟨[], rfl, rfl, ?_, ?_⟩ <;> repeat' (first | exact trivial | exact rfl | exact Iff.rfl | apply And.intro)
  rw [ccE_yes hb0 ⟨hinc, by omega⟩ hc] at c17
  repeat' ((conv => whnf); first | refine Rng.g ?_ | refine Ob.g ?_ | refine Ob.e ?_ | refine Ob.m ?_ | refine Ob.mk (Nat.le_of_ble_eq_true rfl) ?_ | refine JoinVC.on ?_ | refine Nils.mk (fun h => ?_) ?_ | refine Val.t ?_ | refine Val.d ?_ | refine Mm.mk ?_ | refine CallVC.pure rfl (c17) ?_ | refine CallVC0.pure rfl (c17) ?_ | (refine Br.mk (fun h => ?_) (fun h => ?_) <;> first | (exfalso; omega; done) | (exfalso; simp at h; done) | skip))
  refine LoopVC.mk (fun n st => ∃ (i : Nat), i ≤ G.length ∧ n = G.length - i ∧ st = ⟨0, envA 142 [(1, .x (lSng l)), (2, .x (.one (.int .u32 (a1 : Int)))), (3, .x (.one (.int .u32 (a2 : Int)))), (4, .x (lU b)), (5, .x (.one (.ptr 0 0))), (12, .x (.one (.own 1))), (15, .x (.one (.own 2))), (16, .int .i64 (i : Int))], [some (bFm f), some (rowOd G), some (.row 40 false KSng (sngA (trkL l G i)))]⟩) _ _ ⟨0, Nat.zero_le _, rfl, rfl⟩ ?_ ?_
  · refine ⟨[some 0, some 2, none], rfl, rfl, ?_, ?_⟩ <;> repeat' (first | exact trivial | exact rfl | exact Iff.rfl | apply And.intro)
  rintro n _ ⟨i, hi, hn, rfl⟩
  have lt := trkL_len l G i hi
  have lti := sngA_len (trkL l G i)
  by_cases hi' : i < G.length
  · have hr := hG.rng i hi'
    have gi : rI (i64s G) (i : Int).toNat 0 = G.getD i 0 := by rw [Int.toNat_natCast]; exact i64s_get G i
    have hsuc := (sngA_snoc (trkL l G i) (l.getD (G.getD i 0).toNat g0)).symm
    rw [← trkL_succ l G i hi'] at hsuc
    obtain ⟨q, hq⟩ : ∃ q, G.getD i 0 = q := ⟨_, rfl⟩
    rw [hq] at hr gi hsuc
    have c0 : rI (sngA l) q.toNat 0 = (l.getD q.toNat g0).long := sngA_0 l _
    have c1 : rI (sngA l) q.toNat (0 + 1) = (l.getD q.toNat g0).pitch := sngA_1 l _
    have c2 : rI (sngA l) q.toNat (0 + 1 + 1) = (l.getD q.toNat g0).least := sngA_2 l _
    repeat' ((conv => whnf); first | rw [gi] | rw [c0] | rw [c1] | rw [c2] | refine Rng.g ?_ | refine Ob.g ?_ | refine Ob.e ?_ | refine Ob.m ?_ | refine Ob.mk (Nat.le_of_ble_eq_true rfl) ?_ | refine JoinVC.on ?_ | refine Nils.mk (fun h => ?_) ?_ | refine Val.t ?_ | refine Val.d ?_ | refine Mm.mk ?_ | (refine Br.mk (fun h => ?_) (fun h => ?_) <;> first | (exfalso; omega; done) | (exfalso; simp at h; done) | skip))
    repeat refine Mm.mk ?_
    refine Ob.mk (by rw [eb40]; simp only [List.length_cons, List.length_nil]; omega) ?_
    repeat' ((conv => whnf); first | rw [hsuc] | refine Rng.g ?_ | refine Ob.g ?_ | refine Ob.e ?_ | refine Ob.m ?_ | refine Ob.mk (Nat.le_of_ble_eq_true rfl) ?_ | refine JoinVC.on ?_ | refine Nils.mk (fun h => ?_) ?_ | refine Val.t ?_ | refine Val.d ?_ | refine Mm.mk ?_ | (refine Br.mk (fun h => ?_) (fun h => ?_) <;> first | (exfalso; omega; done) | (exfalso; simp at h; done) | skip))
    refine Back.mk (G.length - (i + 1)) _ (by omega) ⟨i + 1, by omega, rfl, rfl⟩ ?_
    refine ⟨[some 0, some 1, some 4], rfl, rfl, ?_, ?_⟩ <;> repeat' (first | exact trivial | exact rfl | exact Iff.rfl | apply And.intro)
  have ei : i = G.length := by omega
  subst ei
  have c15 := s15 l.length b (by omega) hb
  have hOK := byO_ok b l.length
  have lO := byO_len b l.length
  have hmem := byO_mem b l.length
  obtain ⟨O, hO⟩ : ∃ O, byO b l.length = O := ⟨_, rfl⟩
  rw [hO] at c15 hOK lO hmem
  have lOi := i64s_len O
  have e24 : ((sngA l).length : Int) = (l.length : Int) := by rw [ll]
  repeat' ((conv => whnf); first | refine Rng.g ?_ | refine Ob.g ?_ | refine Ob.e ?_ | refine Ob.m ?_ | refine Ob.mk (Nat.le_of_ble_eq_true rfl) ?_ | refine JoinVC.on ?_ | refine Nils.mk (fun h => ?_) ?_ | refine Val.t ?_ | refine Val.d ?_ | refine Mm.mk ?_ | (refine Br.mk (fun h => ?_) (fun h => ?_) <;> first | (exfalso; omega; done) | (exfalso; simp at h; done) | skip))
  conv => whnf
  refine CallVC.mk [] _ _ _ rfl rfl rfl (s18l f (trkL l G G.length) hI) (fun r m' h' => ?_)
  cases h' with
  | bad he hr hm => exact absurd (bothE_ok hf (trk_ok hg hG (by omega))) he
  | ok _ _ hL hr hm => exact absurd hL (crowd_sub hf hg hS.nodup (by omega) hc hsub hG)
  | none _ _ _ hr hm =>
    subst hr hm
    repeat' ((conv => whnf); first | rw [e24] | refine Rng.g ?_ | refine Ob.g ?_ | refine Ob.e ?_ | refine Ob.m ?_ | refine Ob.mk (Nat.le_of_ble_eq_true rfl) ?_ | refine JoinVC.on ?_ | refine Nils.mk (fun h => ?_) ?_ | refine Val.t ?_ | refine Val.d ?_ | refine Mm.mk ?_ | (refine Br.mk (fun h => ?_) (fun h => ?_) <;> first | (exfalso; omega; done) | (exfalso; simp at h; done) | skip))
    conv => whnf
    refine CallVC.mk [] _ _ _ rfl rfl rfl (c15) (fun r m' h' => ?_)
    obtain ⟨rfl, rfl⟩ := h'
    conv => whnf
    repeat' ((conv => whnf); first | refine Rng.g ?_ | refine Ob.g ?_ | refine Ob.e ?_ | refine Ob.m ?_ | refine Ob.mk (Nat.le_of_ble_eq_true rfl) ?_ | refine JoinVC.on ?_ | refine Nils.mk (fun h => ?_) ?_ | refine Val.t ?_ | refine Val.d ?_ | refine Mm.mk ?_ | (refine Br.mk (fun h => ?_) (fun h => ?_) <;> first | (exfalso; omega; done) | (exfalso; simp at h; done) | skip))
    clear hi hn
    refine LoopVC.mk (fun n st => ∃ (i : Nat), i ≤ O.length ∧ n = O.length - i ∧ st = ⟨0, envA 142 [(1, .x (lSng l)), (2, .x (.one (.int .u32 (a1 : Int)))), (3, .x (.one (.int .u32 (a2 : Int)))), (5, .x (.one (.ptr 0 0))), (17, .x (.one (.own 1))), (18, .x (.one (.own 2))), (19, .int .i64 (i : Int))], [some (bFm f), some (rowOd (pickO (bitB a3) O i)), some (rowOd O)]⟩) _ _ ⟨0, Nat.zero_le _, rfl, rfl⟩ ?_ ?_
    · refine ⟨[some 0, none, some 3], rfl, rfl, ?_, ?_⟩ <;> repeat' (first | exact trivial | exact rfl | exact Iff.rfl | apply And.intro)
    rintro n _ ⟨i, hi, hn, rfl⟩
    have l3 := pickO_len (bitB a3) O i
    have l3i := i64s_len (pickO (bitB a3) O i)
    by_cases hi' : i < O.length
    · have hr := hOK.rng i hi'
      have gi : rI (i64s O) (i : Int).toNat 0 = O.getD i 0 := by rw [Int.toNat_natCast]; exact i64s_get O i
      have py := pickO_yes (p := bitB a3) hi'
      have pn := pickO_no (p := bitB a3) hi'
      obtain ⟨q, hq⟩ : ∃ q, O.getD i 0 = q := ⟨_, rfl⟩
      rw [hq] at hr gi py pn
      obtain ⟨z3, hz3⟩ : ∃ z, (a3 : Int) / 2 ^ q.toNat = z := ⟨_, rfl⟩
      have p3 : 0 ≤ z3 := by rw [← hz3]; exact Int.ediv_nonneg (by omega) (Int.pow_nonneg (by decide))
      have b3 : bitB a3 q.toNat = decide (z3 % 2 = 1) := by unfold bitB; rw [hz3]
      rw [b3, decide_eq_true_eq] at py pn
      by_cases h3 : z3 % 2 = 1
      · have py' := (i64s_snoc (pickO (bitB a3) O i) q).symm.trans (congrArg i64s (py h3).symm)
        repeat' ((conv => whnf); first | rw [gi] | refine Rng.g ?_ | refine Ob.g ?_ | refine Ob.e ?_ | refine Ob.m ?_ | refine Ob.mk (Nat.le_of_ble_eq_true rfl) ?_ | refine JoinVC.on ?_ | refine Nils.mk (fun h => ?_) ?_ | refine Val.t ?_ | refine Val.d ?_ | refine Mm.mk ?_ | (refine Br.mk (fun h => ?_) (fun h => ?_) <;> first | (exfalso; omega; done) | (exfalso; simp at h; done) | skip))
        conv => whnf
        refine Val.mk ((a3:Int)) (hor) ?_
        repeat' ((conv => whnf); first | rw [gi] | refine Rng.g ?_ | refine Ob.g ?_ | refine Ob.e ?_ | refine Ob.m ?_ | refine Ob.mk (Nat.le_of_ble_eq_true rfl) ?_ | refine JoinVC.on ?_ | refine Nils.mk (fun h => ?_) ?_ | refine Val.t ?_ | refine Val.d ?_ | refine Mm.mk ?_ | (refine Br.mk (fun h => ?_) (fun h => ?_) <;> first | (exfalso; omega; done) | (exfalso; simp at h; done) | skip))
        conv => whnf
        refine Val.mk (z3) (hz3) ?_
        repeat' ((conv => whnf); first | rw [gi] | refine Rng.g ?_ | refine Ob.g ?_ | refine Ob.e ?_ | refine Ob.m ?_ | refine Ob.mk (Nat.le_of_ble_eq_true rfl) ?_ | refine JoinVC.on ?_ | refine Nils.mk (fun h => ?_) ?_ | refine Val.t ?_ | refine Val.d ?_ | refine Mm.mk ?_ | (refine Br.mk (fun h => ?_) (fun h => ?_) <;> first | (exfalso; omega; done) | (exfalso; simp at h; done) | skip))
        repeat refine Mm.mk ?_
        refine Ob.mk (by rw [eb3]; simp only [List.length_cons, List.length_nil]; omega) ?_
        repeat' ((conv => whnf); first | rw [py'] | refine Rng.g ?_ | refine Ob.g ?_ | refine Ob.e ?_ | refine Ob.m ?_ | refine Ob.mk (Nat.le_of_ble_eq_true rfl) ?_ | refine JoinVC.on ?_ | refine Nils.mk (fun h => ?_) ?_ | refine Val.t ?_ | refine Val.d ?_ | refine Mm.mk ?_ | (refine Br.mk (fun h => ?_) (fun h => ?_) <;> first | (exfalso; omega; done) | (exfalso; simp at h; done) | skip))
        refine Back.mk (O.length - (i + 1)) _ (by omega) ⟨i + 1, by omega, rfl, rfl⟩ ?_
        refine ⟨[some 0, some 4, some 2], rfl, rfl, ?_, ?_⟩ <;> repeat' (first | exact trivial | exact rfl | exact Iff.rfl | apply And.intro)
      · have pn' := pn h3
        repeat' ((conv => whnf); first | rw [gi] | refine Rng.g ?_ | refine Ob.g ?_ | refine Ob.e ?_ | refine Ob.m ?_ | refine Ob.mk (Nat.le_of_ble_eq_true rfl) ?_ | refine JoinVC.on ?_ | refine Nils.mk (fun h => ?_) ?_ | refine Val.t ?_ | refine Val.d ?_ | refine Mm.mk ?_ | (refine Br.mk (fun h => ?_) (fun h => ?_) <;> first | (exfalso; omega; done) | (exfalso; simp at h; done) | skip))
        conv => whnf
        refine Val.mk ((a3:Int)) (hor) ?_
        repeat' ((conv => whnf); first | rw [gi] | refine Rng.g ?_ | refine Ob.g ?_ | refine Ob.e ?_ | refine Ob.m ?_ | refine Ob.mk (Nat.le_of_ble_eq_true rfl) ?_ | refine JoinVC.on ?_ | refine Nils.mk (fun h => ?_) ?_ | refine Val.t ?_ | refine Val.d ?_ | refine Mm.mk ?_ | (refine Br.mk (fun h => ?_) (fun h => ?_) <;> first | (exfalso; omega; done) | (exfalso; simp at h; done) | skip))
        conv => whnf
        refine Val.mk (z3) (hz3) ?_
        repeat' ((conv => whnf); first | rw [gi] | refine Rng.g ?_ | refine Ob.g ?_ | refine Ob.e ?_ | refine Ob.m ?_ | refine Ob.mk (Nat.le_of_ble_eq_true rfl) ?_ | refine JoinVC.on ?_ | refine Nils.mk (fun h => ?_) ?_ | refine Val.t ?_ | refine Val.d ?_ | refine Mm.mk ?_ | (refine Br.mk (fun h => ?_) (fun h => ?_) <;> first | (exfalso; omega; done) | (exfalso; simp at h; done) | skip))
        refine Back.mk (O.length - (i + 1)) _ (by omega) ⟨i + 1, by omega, rfl, rfl⟩ ?_
        rw [pn']
        refine ⟨[some 0, some 1, some 2], rfl, rfl, ?_, ?_⟩ <;> repeat' (first | exact trivial | exact rfl | exact Iff.rfl | apply And.intro)
    have ei : i = O.length := by omega
    subst ei
    have hPe : pickO (bitB a3) O O.length = O.filter fun x => bitB a3 x.toNat := by unfold pickO; rw [List.take_length]
    have hPO : OrdOK l.length (pickO (bitB a3) O O.length) := by
      rw [hPe]
      exact .of (hOK.nodup.sublist List.filter_sublist) fun x hx => hOK.mem x ((List.mem_filter.1 hx).1)
    have hSP : ∀ x, x ∈ S → x ∈ pickO (bitB a3) O O.length := fun x hx => by
      rw [hPe]
      exact List.mem_filter.2 ⟨(hmem x).2 (hS.mem x hx), hmG x hx⟩
    obtain ⟨P, hP⟩ : ∃ P, pickO (bitB a3) O O.length = P := ⟨_, rfl⟩
    rw [hP] at l3 l3i hPO hSP
    rw [hP]
    repeat' ((conv => whnf); first | refine Rng.g ?_ | refine Ob.g ?_ | refine Ob.e ?_ | refine Ob.m ?_ | refine Ob.mk (Nat.le_of_ble_eq_true rfl) ?_ | refine JoinVC.on ?_ | refine Nils.mk (fun h => ?_) ?_ | refine Val.t ?_ | refine Val.d ?_ | refine Mm.mk ?_ | (refine Br.mk (fun h => ?_) (fun h => ?_) <;> first | (exfalso; omega; done) | (exfalso; simp at h; done) | skip))
    conv => whnf
    refine CallVC.mk [] _ _ _ rfl rfl rfl (s12 f l P hI (by omega)) (fun r m' h' => ?_)
    cases h' with
    | bad h hr hm => exact absurd hb0 h
    | ord _ _ h hr hm => exact absurd (ordE_0.2 hPO) h
    | ok _ _ _ h hr hm => exact absurd h (crowd_all hf hg hS.nodup (by omega) hc hSP hPO.mem)
    | rule _ _ _ i hi h hno hr hm =>
      subst hr hm
      repeat' ((conv => whnf); first | refine Rng.g ?_ | refine Ob.g ?_ | refine Ob.e ?_ | refine Ob.m ?_ | refine Ob.mk (Nat.le_of_ble_eq_true rfl) ?_ | refine JoinVC.on ?_ | refine Nils.mk (fun h => ?_) ?_ | refine Val.t ?_ | refine Val.d ?_ | refine Mm.mk ?_ | refine CallVC.pure rfl (hw) ?_ | refine CallVC0.pure rfl (hw) ?_ | (refine Br.mk (fun h => ?_) (fun h => ?_) <;> first | (exfalso; omega; done) | (exfalso; simp at h; done) | skip))
      all_goals
        repeat refine Mm.mk ?_
        refine EndVC.mk _ rfl _ _ ⟨rfl, rfl⟩ ?_
        refine ⟨[], rfl, rfl, ?_, ?_⟩ <;> repeat' (first | exact trivial | exact rfl | exact Iff.rfl | apply And.intro)
    | limit _ _ _ h hno hr hm =>
      subst hr hm
      repeat' ((conv => whnf); first | refine Rng.g ?_ | refine Ob.g ?_ | refine Ob.e ?_ | refine Ob.m ?_ | refine Ob.mk (Nat.le_of_ble_eq_true rfl) ?_ | refine JoinVC.on ?_ | refine Nils.mk (fun h => ?_) ?_ | refine Val.t ?_ | refine Val.d ?_ | refine Mm.mk ?_ | refine CallVC.pure rfl (hw) ?_ | refine CallVC0.pure rfl (hw) ?_ | (refine Br.mk (fun h => ?_) (fun h => ?_) <;> first | (exfalso; omega; done) | (exfalso; simp at h; done) | skip))
      all_goals
        repeat refine Mm.mk ?_
        refine EndVC.mk _ rfl _ _ ⟨rfl, rfl⟩ ?_
        refine ⟨[], rfl, rfl, ?_, ?_⟩ <;> repeat' (first | exact trivial | exact rfl | exact Iff.rfl | apply And.intro)
end Go.Sx

namespace Go.Sx
open Go Go.Proofs
set_option maxRecDepth 10000
/-! ### Rows read as tracks, formats, faces -/
theorem wfr_of : ∀ {ks : List CK} {r : List Cell}, r.length = ks.length → (∀ (j : Nat) k c, ks[j]? = some k → r[j]? = some c → Wf k c) → WfR ks r
  | [], [], _, _ => .nil
  | [], _ :: _, h, _ => by simp at h
  | _ :: _, [], h, _ => by simp at h
  | k :: ks, c :: cs, h, hw => .cons (hw 0 k c rfl rfl) (wfr_of (by simpa using h) fun j k' c' h1 h2 => hw (j + 1) k' c' (by simpa using h1) (by simpa using h2))
theorem wf_map {α : Type} {ks : List CK} {row : α → List Cell} {p : α → Prop} (hrow : ∀ r, WfR ks r → ∃ x, r = row x ∧ p x) {a : Arr} (h : Wf (.sl ks) (.sl a)) : ∃ l : List α, a = l.map row ∧ ∀ x ∈ l, p x := by
  cases h with
  | sl hl hr hw =>
    clear hl
    induction a with
    | nil => exact ⟨[], rfl, fun x hx => by simp at hx⟩
    | cons r a ih =>
      obtain ⟨l, rfl, h2⟩ := ih (fun r h => hr r (List.mem_cons_of_mem _ h)) (fun r h => hw r (List.mem_cons_of_mem _ h))
      obtain ⟨x, rfl, h3⟩ := hrow r (wfr_of (hr r (List.mem_cons_self ..)) (hw r (List.mem_cons_self ..)))
      exact ⟨x :: l, rfl, fun y hy => by rcases List.mem_cons.1 hy with rfl | hy; (· exact h3); exact h2 y hy⟩
theorem mem_getD {α : Type} {p : α → Prop} {l : List α} {d : α} (h : ∀ x ∈ l, p x) (hd : p d) (j : Nat) : p (l.getD j d) := by
  rw [List.getD_eq_getElem?_getD]
  cases hx : l[j]? with
  | none => exact hd
  | some x => exact h x (List.mem_of_getElem? hx)
def Sng.inR (g : Sng) : Prop := Go.Sx.inR .i64 g.long ∧ Go.Sx.inR .i64 g.pitch ∧ Go.Sx.inR .i64 g.least
theorem wf_sngs {a : Arr} (h : Wf (.sl KSng) (.sl a)) : ∃ l : List Sng, a = sngA l ∧ ∀ g ∈ l, g.inR := by
  obtain ⟨l, h1, h2⟩ := wf_map (row := fun g : Sng => [.int g.long, .int g.pitch, .int g.least]) (p := Sng.inR) (fun r hr => by
    obtain ⟨c0, _, rfl, g0, h1⟩ := hr.inv
    obtain ⟨n0, rfl, i0⟩ := g0.int_inv
    obtain ⟨c1, _, rfl, g1, h2⟩ := h1.inv
    obtain ⟨n1, rfl, i1⟩ := g1.int_inv
    obtain ⟨c2, _, rfl, g2, h3⟩ := h2.inv
    obtain ⟨n2, rfl, i2⟩ := g2.int_inv
    cases h3.nil_inv
    exact ⟨⟨n0, n1, n2⟩, rfl, i0, i1, i2⟩) h
  exact ⟨l, h1, h2⟩
theorem u8_getD {l : List Int} (h : l.length ≤ maxLen ∧ ∀ x ∈ l, inR .u8 x) : ∀ j, 0 ≤ l.getD j 0 ∧ l.getD j 0 ≤ 255 :=
  mem_getD (p := fun x => 0 ≤ x ∧ x ≤ 255) (fun x hx => by have := h.2 x hx; simpa [inR] using this) (by decide)
end Go.Sx

namespace Go.Sx
open Go Go.Proofs
set_option maxRecDepth 10000
set_option maxHeartbeats 8000000
/-! ### The cost of a plan -/
structure Fc where
  fm : Int
  mn : Int
@[reducible] def Fc.x (a : Fc) : XV := .agg [.int .i64 a.fm, .int .i64 a.mn]
def Fc.ok (n : Nat) (a : Fc) : Prop := (0 ≤ a.fm ∧ a.fm < n) ∧ 1 ≤ a.mn ∧ a.mn ≤ 24
instance (n : Nat) (a : Fc) : Decidable (a.ok n) := by unfold Fc.ok; exact inferInstance
def Fc.p (a : Fc) : Nat × Nat := (a.fm.toNat, a.mn.toNat)
end Go.Sx

namespace Go.Sx
open Go Go.Proofs
set_option maxRecDepth 10000
end Go.Sx
