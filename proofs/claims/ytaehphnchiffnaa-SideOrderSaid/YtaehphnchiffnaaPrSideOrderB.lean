import Derived.Test.YtaehphnchiffnaaPrSideOrderA
namespace Go.Sx
open Go Go.Proofs
set_option maxRecDepth 10000
set_option maxHeartbeats 16000000
/-! ### Numbers for the sorts -/
/-- The number of bits. -/
def bl (n : Int) : Int := if n < 1 then 0 else if n < 2 then 1 else if n < 4 then 2 else if n < 8 then 3 else if n < 16 then 4 else 5
theorem s99b (n : Int) (hn : 0 ≤ n ∧ n ≤ 24) : HSpec Try.prog 99 [.one (.int .u64 n)] [] (fun r m' => r = .x (I (bl n)) ∧ m' = []) := by
  have hc : n = 0 ∨ n = 1 ∨ n = 2 ∨ n = 3 ∨ n = 4 ∨ n = 5 ∨ n = 6 ∨ n = 7 ∨ n = 8 ∨ n = 9 ∨ n = 10 ∨ n = 11 ∨ n = 12 ∨ n = 13 ∨ n = 14 ∨ n = 15 ∨ n = 16 ∨ n = 17 ∨ n = 18 ∨ n = 19 ∨ n = 20 ∨ n = 21 ∨ n = 22 ∨ n = 23 ∨ n = 24 := by omega
  rcases hc with rfl | rfl | rfl | rfl | rfl | rfl | rfl | rfl | rfl | rfl | rfl | rfl | rfl | rfl | rfl | rfl | rfl | rfl | rfl | rfl | rfl | rfl | rfl | rfl | rfl
  all_goals
    refine spec_of pMix (O := []) Try.func99 (c := bodyOf Try.f99) rfl (by kernel_rfl) (by kernel_rfl) Try.ntmps99 (res := [.tmp 2]) (by kernel_rfl) ?_
    repeat' ((conv => whnf); first | refine Rng.g ?_ | refine Ob.g ?_ | refine Ob.e ?_ | refine Ob.m ?_ | refine Ob.mk (Nat.le_of_ble_eq_true rfl) ?_ | refine JoinVC.on ?_ | refine Nils.mk (fun h => ?_) ?_ | refine Val.t ?_ | refine Val.d ?_ | refine Mm.mk ?_ | (refine Br.mk (fun h => ?_) (fun h => ?_) <;> first | (exfalso; omega; done) | (exfalso; simp at h; done) | skip))
    refine Rng.ok (rngU8 _) ?_
    repeat' ((conv => whnf); first | refine Rng.g ?_ | refine Ob.g ?_ | refine Ob.e ?_ | refine Ob.m ?_ | refine Ob.mk (Nat.le_of_ble_eq_true rfl) ?_ | refine JoinVC.on ?_ | refine Nils.mk (fun h => ?_) ?_ | refine Val.t ?_ | refine Val.d ?_ | refine Mm.mk ?_ | (refine Br.mk (fun h => ?_) (fun h => ?_) <;> first | (exfalso; omega; done) | (exfalso; simp at h; done) | skip))
    refine Rng.ok (rngU8' _) ?_
    repeat' ((conv => whnf); first | refine Rng.g ?_ | refine Ob.g ?_ | refine Ob.e ?_ | refine Ob.m ?_ | refine Ob.mk (Nat.le_of_ble_eq_true rfl) ?_ | refine JoinVC.on ?_ | refine Nils.mk (fun h => ?_) ?_ | refine Val.t ?_ | refine Val.d ?_ | refine Mm.mk ?_ | (refine Br.mk (fun h => ?_) (fun h => ?_) <;> first | (exfalso; omega; done) | (exfalso; simp at h; done) | skip))
    repeat refine Mm.mk ?_
    refine EndVC.mk _ rfl _ _ ⟨rfl, rfl⟩ ?_
    refine ⟨[], rfl, rfl, ?_, ?_⟩ <;> repeat' (first | exact trivial | exact rfl | exact Iff.rfl | apply And.intro)
    all_goals decide +kernel
theorem s80b (n : Int) (hn : 0 ≤ n ∧ n ≤ 24) : HSpec Try.prog 80 [.one (.int .u64 n)] [] (fun r m' => r = .x (I (bl n)) ∧ m' = []) := by
  refine spec_of pMix (O := []) Try.func80 (c := bodyOf Try.f80) rfl (by kernel_rfl) (by kernel_rfl) Try.ntmps80 (res := [.tmp 2]) (by kernel_rfl) ?_
  repeat' ((conv => whnf); first | refine Rng.g ?_ | refine Ob.g ?_ | refine Ob.e ?_ | refine Ob.m ?_ | refine Ob.mk (Nat.le_of_ble_eq_true rfl) ?_ | refine JoinVC.on ?_ | refine Nils.mk (fun h => ?_) ?_ | refine Val.t ?_ | refine Val.d ?_ | refine Mm.mk ?_ | (refine Br.mk (fun h => ?_) (fun h => ?_) <;> first | (exfalso; omega; done) | (exfalso; simp at h; done) | skip))
  conv => whnf
  refine CallVC.mk [] _ _ _ rfl rfl rfl (s99b n hn) (fun r m' h' => ?_)
  obtain ⟨rfl, rfl⟩ := h'
  conv => whnf
  repeat' ((conv => whnf); first | refine Rng.g ?_ | refine Ob.g ?_ | refine Ob.e ?_ | refine Ob.m ?_ | refine Ob.mk (Nat.le_of_ble_eq_true rfl) ?_ | refine JoinVC.on ?_ | refine Nils.mk (fun h => ?_) ?_ | refine Val.t ?_ | refine Val.d ?_ | refine Mm.mk ?_ | (refine Br.mk (fun h => ?_) (fun h => ?_) <;> first | (exfalso; omega; done) | (exfalso; simp at h; done) | skip))
  repeat refine Mm.mk ?_
  refine EndVC.mk _ rfl _ _ ⟨rfl, rfl⟩ ?_
  refine ⟨[], rfl, rfl, ?_, ?_⟩ <;> repeat' (first | exact trivial | exact rfl | exact Iff.rfl | apply And.intro)
theorem s115 (n : Int) (hn : 8 ≤ n ∧ n ≤ 24) : HSpec Try.prog 115 [I n] [] (fun r m' => ∃ v : Int, (v = 16 ∨ v = 32 ∧ 16 ≤ n) ∧ r = .x (U64 v) ∧ m' = []) := by
  have hb64 : ((IntKind.u64.bits : Nat) : Int) = 64 := rfl
  by_cases h16 : n < 16
  · have e : bl n = 4 := by unfold bl; (repeat' split) <;> omega
    have c := s80b n (by omega)
    rw [e] at c
    refine spec_of pMix (O := []) Try.func115 (c := bodyOf Try.f115) rfl (by kernel_rfl) (by kernel_rfl) Try.ntmps115 (res := [.tmp 2]) (by kernel_rfl) ?_
    repeat' ((conv => whnf); first | refine Rng.g ?_ | refine Ob.g ?_ | refine Ob.e ?_ | refine Ob.m ?_ | refine Ob.mk (Nat.le_of_ble_eq_true rfl) ?_ | refine JoinVC.on ?_ | refine Nils.mk (fun h => ?_) ?_ | refine Val.t ?_ | refine Val.d ?_ | refine Mm.mk ?_ | (refine Br.mk (fun h => ?_) (fun h => ?_) <;> first | (exfalso; omega; done) | (exfalso; simp at h; done) | skip))
    conv => whnf
    refine CallVC.mk [] _ _ _ rfl rfl rfl (c) (fun r m' h' => ?_)
    obtain ⟨rfl, rfl⟩ := h'
    conv => whnf
    repeat' ((conv => whnf); first | refine Rng.g ?_ | refine Ob.g ?_ | refine Ob.e ?_ | refine Ob.m ?_ | refine Ob.mk (Nat.le_of_ble_eq_true rfl) ?_ | refine JoinVC.on ?_ | refine Nils.mk (fun h => ?_) ?_ | refine Val.t ?_ | refine Val.d ?_ | refine Mm.mk ?_ | (refine Br.mk (fun h => ?_) (fun h => ?_) <;> first | (exfalso; omega; done) | (exfalso; simp at h; done) | skip))
    conv => whnf
    refine Val.mk (16) ((by decide)) ?_
    repeat' ((conv => whnf); first | refine Rng.g ?_ | refine Ob.g ?_ | refine Ob.e ?_ | refine Ob.m ?_ | refine Ob.mk (Nat.le_of_ble_eq_true rfl) ?_ | refine JoinVC.on ?_ | refine Nils.mk (fun h => ?_) ?_ | refine Val.t ?_ | refine Val.d ?_ | refine Mm.mk ?_ | (refine Br.mk (fun h => ?_) (fun h => ?_) <;> first | (exfalso; omega; done) | (exfalso; simp at h; done) | skip))
    repeat refine Mm.mk ?_
    conv => whnf
    refine EndVC.mk _ rfl _ _ (⟨16, .inl rfl, rfl, rfl⟩) ?_
    refine ⟨[], rfl, rfl, ?_, ?_⟩ <;> repeat' (first | exact trivial | exact rfl | exact Iff.rfl | apply And.intro)
  · have e : bl n = 5 := by unfold bl; (repeat' split) <;> omega
    have c := s80b n (by omega)
    rw [e] at c
    refine spec_of pMix (O := []) Try.func115 (c := bodyOf Try.f115) rfl (by kernel_rfl) (by kernel_rfl) Try.ntmps115 (res := [.tmp 2]) (by kernel_rfl) ?_
    repeat' ((conv => whnf); first | refine Rng.g ?_ | refine Ob.g ?_ | refine Ob.e ?_ | refine Ob.m ?_ | refine Ob.mk (Nat.le_of_ble_eq_true rfl) ?_ | refine JoinVC.on ?_ | refine Nils.mk (fun h => ?_) ?_ | refine Val.t ?_ | refine Val.d ?_ | refine Mm.mk ?_ | (refine Br.mk (fun h => ?_) (fun h => ?_) <;> first | (exfalso; omega; done) | (exfalso; simp at h; done) | skip))
    conv => whnf
    refine CallVC.mk [] _ _ _ rfl rfl rfl (c) (fun r m' h' => ?_)
    obtain ⟨rfl, rfl⟩ := h'
    conv => whnf
    repeat' ((conv => whnf); first | refine Rng.g ?_ | refine Ob.g ?_ | refine Ob.e ?_ | refine Ob.m ?_ | refine Ob.mk (Nat.le_of_ble_eq_true rfl) ?_ | refine JoinVC.on ?_ | refine Nils.mk (fun h => ?_) ?_ | refine Val.t ?_ | refine Val.d ?_ | refine Mm.mk ?_ | (refine Br.mk (fun h => ?_) (fun h => ?_) <;> first | (exfalso; omega; done) | (exfalso; simp at h; done) | skip))
    conv => whnf
    refine Val.mk (32) ((by decide)) ?_
    repeat' ((conv => whnf); first | refine Rng.g ?_ | refine Ob.g ?_ | refine Ob.e ?_ | refine Ob.m ?_ | refine Ob.mk (Nat.le_of_ble_eq_true rfl) ?_ | refine JoinVC.on ?_ | refine Nils.mk (fun h => ?_) ?_ | refine Val.t ?_ | refine Val.d ?_ | refine Mm.mk ?_ | (refine Br.mk (fun h => ?_) (fun h => ?_) <;> first | (exfalso; omega; done) | (exfalso; simp at h; done) | skip))
    repeat refine Mm.mk ?_
    conv => whnf
    refine EndVC.mk _ rfl _ _ (⟨32, .inr ⟨rfl, by omega⟩, rfl, rfl⟩) ?_
    refine ⟨[], rfl, rfl, ?_, ?_⟩ <;> repeat' (first | exact trivial | exact rfl | exact Iff.rfl | apply And.intro)
/-- What '&' gives. -/
theorem and_rng (x m : Int) (hm : 0 ≤ m ∧ m ≤ 1000) : 0 ≤ bits .and .u64 x m ∧ bits .and .u64 x m ≤ m := by
  have h2 : (BitVec.ofInt 64 m).toNat = m.toNat := by
    obtain ⟨k, rfl⟩ := Int.eq_ofNat_of_zero_le hm.1
    show (BitVec.ofInt 64 (k : Int)).toNat = k
    rw [BitVec.ofInt_natCast, BitVec.toNat_ofNat]
    exact Nat.mod_eq_of_lt (by omega)
  have h3 : bits .and .u64 x m = (((BitVec.ofInt 64 x).toNat &&& m.toNat : Nat) : Int) := by
    show IntKind.u64.wrap ((BitVec.ofInt 64 x &&& BitVec.ofInt 64 m).toNat : Int) = _
    rw [BitVec.toNat_and, h2, IntKind.wrap_u64]
    have h4 : (BitVec.ofInt 64 x).toNat &&& m.toNat ≤ m.toNat := Nat.and_le_right
    omega
  have h4 : (BitVec.ofInt 64 x).toNat &&& m.toNat ≤ m.toNat := Nat.and_le_right
  rw [h3]
  omega
theorem s116 (x : Int) : HSpec Try.prog 116 [.one (.ptr 0 0)] [.box 151 [.int .u64 x]] (fun r m' => ∃ v : Int, r = .x (U64 v) ∧ m' = [some (.box 151 [.int .u64 v])]) := by
  have hb64 : ((IntKind.u64.bits : Nat) : Int) = 64 := rfl
  refine spec_of pMix (O := []) Try.func116 (c := bodyOf Try.f116) rfl (by kernel_rfl) (by kernel_rfl) Try.ntmps116 (res := [.tmp 2]) (by kernel_rfl) ?_
  repeat' ((conv => whnf); first | refine Rng.wr ?_ | refine Ob.mk (by rw [hb64]; omega) ?_ | refine Val.nm (fun v _ => ?_))
  repeat refine Mm.mk ?_
  conv => whnf
  refine EndVC.mk _ rfl _ _ (⟨v, rfl, rfl⟩) ?_
  refine ⟨[some 0], rfl, rfl, ?_, ?_⟩ <;> repeat' (first | exact trivial | exact rfl | exact Iff.rfl | apply And.intro)
end Go.Sx

namespace Go.Sx
open Go Go.Proofs
set_option maxRecDepth 10000
set_option maxHeartbeats 16000000
/-! ### The pivot -/
theorem co2 (f : Fmt) (l : List Sng) (d : Array Int) (hz : d.size ≤ 1000) (hI : InA d l.length) (a b : Nat) (s : Int) (ha : a < d.size) (hb : b < d.size) (hs : 0 ≤ s ∧ s ≤ 100) : HSpec Try.prog 123 [.one (.own 0), I (a : Int), I (b : Int), .one (.ptr 1 0), .one (.bnd 74 false [.ptr 2 0])] [rowA (d), .box 3 [.int .i64 s], bPl f l] (fun r m' => ∃ (x y : Nat) (t : Int), ((x = a ∧ y = b) ∨ (x = b ∧ y = a)) ∧ s ≤ t ∧ t ≤ s + 1 ∧ r = .tup [I (x : Int), I (y : Int)] ∧ m' = [some (rowA (d)), some (.box 3 [.int .i64 t]), some (bPl f l)]) := by
  have la := arr_len d
  have hV : InA d l.length := hI
  have ga : rI (i64s d.toList) ((a : Int)).toNat 0 = d[a]! := by rw [show ((a : Int)).toNat = a by omega]; exact arr_get d _
  have gb : rI (i64s d.toList) ((b : Int)).toNat 0 = d[b]! := by rw [show ((b : Int)).toNat = b by omega]; exact arr_get d _
  refine spec_of pMix (O := []) Try.func123 (c := bodyOf Try.f123) rfl (by kernel_rfl) (by kernel_rfl) Try.ntmps123 (res := [.tmp 10, .tmp 11]) (by kernel_rfl) ?_
  repeat' ((conv => whnf); first | rw [ga] | rw [gb] | refine Rng.g ?_ | refine Ob.g ?_ | refine Ob.e ?_ | refine Ob.m ?_ | refine Ob.mk (Nat.le_of_ble_eq_true rfl) ?_ | refine JoinVC.on ?_ | refine Nils.mk (fun h => ?_) ?_ | refine Val.t ?_ | refine Val.d ?_ | refine Mm.mk ?_ | (refine Br.mk (fun h => ?_) (fun h => ?_) <;> first | (exfalso; omega; done) | (exfalso; simp at h; done) | skip))
  conv => whnf
  refine CallVC.mk [2] _ _ _ rfl rfl rfl (s74 f l d[b]! d[a]! (hV b (by omega)) (hV a (by omega))) (fun r m' h' => ?_)
  obtain ⟨rfl, rfl⟩ := h'
  conv => whnf
  repeat' ((conv => whnf); first | refine Rng.g ?_ | refine Ob.g ?_ | refine Ob.e ?_ | refine Ob.m ?_ | refine Ob.mk (Nat.le_of_ble_eq_true rfl) ?_ | refine JoinVC.on ?_ | refine Nils.mk (fun h => ?_) ?_ | refine Val.t ?_ | refine Val.d ?_ | refine Mm.mk ?_ | (refine Br.mk (fun h => ?_) (fun h => ?_) <;> first | (exfalso; omega; done) | (exfalso; simp at h; done) | skip))
  · repeat refine Mm.mk ?_
    conv => whnf
    refine EndVC.mk _ rfl _ _ (⟨b, a, s + 1, .inr ⟨rfl, rfl⟩, by omega, by omega, rfl, rfl⟩) ?_
    refine ⟨[some 0, some 1, some 2], rfl, rfl, ?_, ?_⟩ <;> repeat' (first | exact trivial | exact rfl | exact Iff.rfl | apply And.intro)
  · repeat refine Mm.mk ?_
    conv => whnf
    refine EndVC.mk _ rfl _ _ (⟨a, b, s, .inl ⟨rfl, rfl⟩, by omega, by omega, rfl, rfl⟩) ?_
    refine ⟨[some 0, some 1, some 2], rfl, rfl, ?_, ?_⟩ <;> repeat' (first | exact trivial | exact rfl | exact Iff.rfl | apply And.intro)
theorem cmed (f : Fmt) (l : List Sng) (d : Array Int) (hz : d.size ≤ 1000) (hI : InA d l.length) (a b c : Nat) (s : Int) (ha : a < d.size) (hb : b < d.size) (hc : c < d.size) (hs : 0 ≤ s ∧ s ≤ 90) : HSpec Try.prog 121 [.one (.own 0), I (a : Int), I (b : Int), I (c : Int), .one (.ptr 1 0), .one (.bnd 74 false [.ptr 2 0])] [rowA (d), .box 3 [.int .i64 s], bPl f l] (fun r m' => ∃ (x : Nat) (t : Int), (x = a ∨ x = b ∨ x = c) ∧ s ≤ t ∧ t ≤ s + 3 ∧ r = .x (I (x : Int)) ∧ m' = [some (rowA (d)), some (.box 3 [.int .i64 t]), some (bPl f l)]) := by
  refine spec_of pMix (O := []) Try.func121 (c := bodyOf Try.f121) rfl (by kernel_rfl) (by kernel_rfl) Try.ntmps121 (res := [.tmp 12]) (by kernel_rfl) ?_
  repeat' ((conv => whnf); first | refine Rng.g ?_ | refine Ob.g ?_ | refine Ob.e ?_ | refine Ob.m ?_ | refine Ob.mk (Nat.le_of_ble_eq_true rfl) ?_ | refine JoinVC.on ?_ | refine Nils.mk (fun h => ?_) ?_ | refine Val.t ?_ | refine Val.d ?_ | refine Mm.mk ?_ | (refine Br.mk (fun h => ?_) (fun h => ?_) <;> first | (exfalso; omega; done) | (exfalso; simp at h; done) | skip))
  conv => whnf
  refine CallVC.mk [0, 1, 2] _ _ _ rfl rfl rfl (co2 f l d hz hI a b s ha hb (by omega)) (fun r m' h' => ?_)
  obtain ⟨x1, y1, t1, h1, l1, l1', rfl, rfl⟩ := h'
  conv => whnf
  repeat' ((conv => whnf); first | refine Rng.g ?_ | refine Ob.g ?_ | refine Ob.e ?_ | refine Ob.m ?_ | refine Ob.mk (Nat.le_of_ble_eq_true rfl) ?_ | refine JoinVC.on ?_ | refine Nils.mk (fun h => ?_) ?_ | refine Val.t ?_ | refine Val.d ?_ | refine Mm.mk ?_ | (refine Br.mk (fun h => ?_) (fun h => ?_) <;> first | (exfalso; omega; done) | (exfalso; simp at h; done) | skip))
  conv => whnf
  refine CallVC.mk [0, 1, 2] _ _ _ rfl rfl rfl (co2 f l d hz hI y1 c t1 (by omega) hc (by omega)) (fun r m' h' => ?_)
  obtain ⟨x2, y2, t2, h2, l2, l2', rfl, rfl⟩ := h'
  conv => whnf
  repeat' ((conv => whnf); first | refine Rng.g ?_ | refine Ob.g ?_ | refine Ob.e ?_ | refine Ob.m ?_ | refine Ob.mk (Nat.le_of_ble_eq_true rfl) ?_ | refine JoinVC.on ?_ | refine Nils.mk (fun h => ?_) ?_ | refine Val.t ?_ | refine Val.d ?_ | refine Mm.mk ?_ | (refine Br.mk (fun h => ?_) (fun h => ?_) <;> first | (exfalso; omega; done) | (exfalso; simp at h; done) | skip))
  conv => whnf
  refine CallVC.mk [0, 1, 2] _ _ _ rfl rfl rfl (co2 f l d hz hI x1 x2 t2 (by omega) (by omega) (by omega)) (fun r m' h' => ?_)
  obtain ⟨x3, y3, t3, h3, l3, l3', rfl, rfl⟩ := h'
  conv => whnf
  repeat' ((conv => whnf); first | refine Rng.g ?_ | refine Ob.g ?_ | refine Ob.e ?_ | refine Ob.m ?_ | refine Ob.mk (Nat.le_of_ble_eq_true rfl) ?_ | refine JoinVC.on ?_ | refine Nils.mk (fun h => ?_) ?_ | refine Val.t ?_ | refine Val.d ?_ | refine Mm.mk ?_ | (refine Br.mk (fun h => ?_) (fun h => ?_) <;> first | (exfalso; omega; done) | (exfalso; simp at h; done) | skip))
  repeat refine Mm.mk ?_
  conv => whnf
  refine EndVC.mk _ rfl _ _ (⟨y3, t3, by omega, by omega, by omega, rfl, rfl⟩) ?_
  refine ⟨[some 0, some 1, some 2], rfl, rfl, ?_, ?_⟩ <;> repeat' (first | exact trivial | exact rfl | exact Iff.rfl | apply And.intro)
theorem cpiv (f : Fmt) (l : List Sng) (d : Array Int) (hz : d.size ≤ 1000) (hI : InA d l.length) (a b : Nat) (hab : 8 ≤ b - a) (hb50 : b - a < 50) (hb : b ≤ d.size) : HSpec Try.prog 105 [.one (.own 0), I (a : Int), I (b : Int), .one (.bnd 74 false [.ptr 1 0])] [rowA (d), bPl f l] (fun r m' => ∃ (x : Nat) (h : Int), (a ≤ x ∧ x < b) ∧ r = .tup [I (x : Int), I h] ∧ m' = [some (rowA (d)), some (bPl f l)]) := by
  obtain ⟨q, hq⟩ : ∃ q, (b - a) / 4 = q := ⟨_, rfl⟩
  have hq1 : ((b : Int) - (a : Int)).tdiv 4 = (q : Int) := by
    rw [Int.tdiv_eq_ediv_of_nonneg (by omega)]
    omega
  have e1 : (a : Int) + (q : Int) * 1 = ((a + q : Nat) : Int) := by omega
  have e2 : (a : Int) + (q : Int) * 2 = ((a + 2 * q : Nat) : Int) := by omega
  have e3 : (a : Int) + (q : Int) * 3 = ((a + 3 * q : Nat) : Int) := by omega
  refine spec_of pMix (O := []) Try.func105 (c := bodyOf Try.f105) rfl (by kernel_rfl) (by kernel_rfl) Try.ntmps105 (res := [.tmp 8, .tmp 9]) (by kernel_rfl) ?_
  repeat' ((conv => whnf); first | refine Rng.g ?_ | refine Ob.g ?_ | refine Val.mk (q : Int) hq1 ?_ | refine JoinVC.on ?_ | (refine Br.mk (fun h => ?_) (fun h => ?_) <;> first | (exfalso; omega; done) | skip))
  rw [e1, e2, e3]
  conv => whnf
  refine CallVC.mk [0, 2, 1] _ _ _ rfl rfl rfl (cmed f l d hz hI (a + q) (a + 2 * q) (a + 3 * q) 0 (by omega) (by omega) (by omega) (by omega)) (fun r m' h' => ?_)
  obtain ⟨x, t, hx, t1, t2, rfl, rfl⟩ := h'
  conv => whnf
  repeat' ((conv => whnf); first | refine Rng.g ?_ | refine Ob.g ?_ | refine Ob.e ?_ | refine Ob.m ?_ | refine Ob.mk (Nat.le_of_ble_eq_true rfl) ?_ | refine JoinVC.on ?_ | refine Nils.mk (fun h => ?_) ?_ | refine Val.t ?_ | refine Val.d ?_ | refine Mm.mk ?_ | (refine Br.mk (fun h => ?_) (fun h => ?_) <;> first | (exfalso; omega; done) | (exfalso; simp at h; done) | skip))
  · repeat refine Mm.mk ?_
    conv => whnf
    refine EndVC.mk _ rfl _ _ (⟨x, 1, by omega, rfl, rfl⟩) ?_
    refine ⟨[some 0, some 1], rfl, rfl, ?_, ?_⟩ <;> repeat' (first | exact trivial | exact rfl | exact Iff.rfl | apply And.intro)
  · repeat refine Mm.mk ?_
    conv => whnf
    refine EndVC.mk _ rfl _ _ (⟨x, 0, by omega, rfl, rfl⟩) ?_
    refine ⟨[some 0, some 1], rfl, rfl, ?_, ?_⟩ <;> repeat' (first | exact trivial | exact rfl | exact Iff.rfl | apply And.intro)
/-! ### Other parts -/
theorem crev (f : Fmt) (l : List Sng) (d : Array Int) (hz : d.size ≤ 1000) (_ : InA d l.length) (a b : Nat) (hab : a < b) (hb : b ≤ d.size) : HSpec Try.prog 106 [.one (.own 0), I (a : Int), I (b : Int), .one (.bnd 74 false [.ptr 1 0])] [rowA (d), bPl f l] (fun r m' => ∃ W : Array Int, Go.Sort.PermIn a b d W ∧ r = .tup [] ∧ m' = [some (rowA (W)), some (bPl f l)]) := by
  refine spec_of pMix (O := [(3, ([], [⟨0, [], []⟩, ⟨1, [], []⟩, ⟨2, [], []⟩, ⟨3, [], []⟩, ⟨4, [], []⟩, ⟨5, [], []⟩, ⟨6, [], []⟩, ⟨7, [], []⟩, ⟨8, [], []⟩, ⟨9, [], []⟩, ⟨10, [], []⟩, ⟨11, [], []⟩, ⟨12, [], []⟩, ⟨13, [2, 3], []⟩, ⟨14, [], []⟩, ⟨15, [], []⟩]))]) Try.func106 (c := bodyOf Try.f106) rfl (by kernel_rfl) (by kernel_rfl) Try.ntmps106 (res := []) (by kernel_rfl) ?_
  repeat' ((conv => whnf); first | refine Rng.g ?_ | refine Ob.g ?_ | refine Ob.e ?_ | refine Ob.m ?_ | refine Ob.mk (Nat.le_of_ble_eq_true rfl) ?_ | refine JoinVC.on ?_ | refine Nils.mk (fun h => ?_) ?_ | refine Val.t ?_ | refine Val.d ?_ | refine Mm.mk ?_ | (refine Br.mk (fun h => ?_) (fun h => ?_) <;> first | (exfalso; omega; done) | (exfalso; simp at h; done) | skip))
  refine LoopVC.mk (fun m st => ∃ (i j : Nat) (V : Array Int), a ≤ i ∧ i ≤ b ∧ j < b ∧ m = j - i ∧ Go.Sort.PermIn a b d V ∧ st = ⟨2, envA 34 [(0, .x (.one (.own 0))), (1, .x (I (a : Int))), (2, .x (I (b : Int))), (3, .x (.one (.bnd 74 false [.ptr 1 0]))), (8, .int .i64 (i : Int)), (9, .int .i64 (j : Int))], [some (rowA (V)), some (bPl f l)]⟩) _ _ ⟨a, b - 1, d, Nat.le_refl _, by omega, by omega, rfl, Go.Sort.permIn_refl d a b, rfl⟩ ?_ ?_
  · refine ⟨[some 0, some 1], rfl, rfl, ?_, ?_⟩ <;> repeat' (first | exact trivial | exact rfl | exact Iff.rfl | apply And.intro)
    all_goals omega
  rintro m _ ⟨i, j, V, h1, h2, h3, hm, hP, rfl⟩
  have la := arr_len V
  have ls := hP.1
  by_cases hij : i < j
  rotate_left
  · repeat' ((conv => whnf); first | refine Rng.g ?_ | refine Ob.g ?_ | refine Ob.e ?_ | refine Ob.m ?_ | refine Ob.mk (Nat.le_of_ble_eq_true rfl) ?_ | refine JoinVC.on ?_ | refine Nils.mk (fun h => ?_) ?_ | refine Val.t ?_ | refine Val.d ?_ | refine Mm.mk ?_ | (refine Br.mk (fun h => ?_) (fun h => ?_) <;> first | (exfalso; omega; done) | (exfalso; simp at h; done) | skip))
    repeat refine Mm.mk ?_
    conv => whnf
    refine EndVC.mk _ rfl _ _ (⟨V, hP, rfl, rfl⟩) ?_
    refine ⟨[some 0, some 1], rfl, rfl, ?_, ?_⟩ <;> repeat' (first | exact trivial | exact rfl | exact Iff.rfl | apply And.intro)
  have gi : rI (i64s V.toList) ((i : Int)).toNat 0 = V[i]! := by rw [show ((i : Int)).toNat = i by omega]; exact arr_get V _
  have gj : rI (i64s V.toList) ((j : Int)).toNat 0 = V[j]! := by rw [show ((j : Int)).toNat = j by omega]; exact arr_get V _
  have u1 : updRow (i64s V.toList) ((i : Int)).toNat 0 [Cell.int V[j]!] = i64s (V.toList.set (i) V[j]!) := by rw [show ((i : Int)).toNat = i by omega]; exact arr_up1 V _ _ (by omega)
  have u2 : updRow (i64s (V.toList.set (i) V[j]!)) ((j : Int)).toNat 0 [Cell.int V[i]!] = i64s (Go.Sort.swp V (i) (j)).toList := by rw [show ((j : Int)).toNat = j by omega]; exact arr_up2 V _ _ (by omega)
  have la1 := arr_l1 V (i) V[j]!
  have la2 := arr_len (Go.Sort.swp V (i) (j))
  have ls2 := Go.Sort.size_swp V (i) (j)
  repeat' ((conv => whnf); first | rw [gi] | rw [gj] | rw [u1] | rw [u2] | refine Rng.g ?_ | refine Ob.g ?_ | refine Ob.e ?_ | refine Ob.m ?_ | refine Ob.mk (Nat.le_of_ble_eq_true rfl) ?_ | refine JoinVC.on ?_ | refine Nils.mk (fun h => ?_) ?_ | refine Val.t ?_ | refine Val.d ?_ | refine Mm.mk ?_ | (refine Br.mk (fun h => ?_) (fun h => ?_) <;> first | (exfalso; omega; done) | (exfalso; simp at h; done) | skip))
  refine Back.mk (j - 1 - (i + 1)) _ (by omega) ⟨i + 1, j - 1, _, by omega, by omega, by omega, rfl, Go.Sort.permIn_trans _ _ _ a b hP (Go.Sort.swp_permIn V a b i j (by omega) (by omega) (by omega) (by omega) (by omega)), rfl⟩ ?_
  refine ⟨[some 0, some 1], rfl, rfl, ?_, ?_⟩ <;> repeat' (first | exact trivial | exact rfl | exact Iff.rfl | apply And.intro)
  all_goals omega
theorem cbrk (f : Fmt) (l : List Sng) (d : Array Int) (hz : d.size ≤ 1000) (_ : InA d l.length) (a b : Nat) (hab : 8 ≤ b - a) (hb24 : b - a ≤ 24) (hb : b ≤ d.size) : HSpec Try.prog 104 [.one (.own 0), I (a : Int), I (b : Int), .one (.bnd 74 false [.ptr 1 0])] [rowA (d), bPl f l] (fun r m' => ∃ W : Array Int, Go.Sort.PermIn a b d W ∧ r = .tup [] ∧ m' = [some (rowA (W)), some (bPl f l)]) := by
  obtain ⟨q, hq⟩ : ∃ q, (b - a) / 4 = q := ⟨_, rfl⟩
  have hq1 : ((b : Int) - (a : Int)).tdiv 4 = (q : Int) := by
    rw [Int.tdiv_eq_ediv_of_nonneg (by omega)]
    omega
  refine spec_of pMix (O := [(10, ([], [⟨0, [], []⟩, ⟨1, [], []⟩, ⟨2, [], []⟩, ⟨3, [], []⟩, ⟨4, [], []⟩, ⟨5, [], []⟩, ⟨6, [], []⟩, ⟨7, [], []⟩, ⟨8, [], []⟩, ⟨9, [], []⟩, ⟨10, [], []⟩, ⟨11, [], []⟩, ⟨12, [], []⟩, ⟨13, [], []⟩, ⟨14, [], []⟩, ⟨15, [], []⟩, ⟨16, [], []⟩, ⟨17, [2, 3, 4, 5], []⟩, ⟨18, [], []⟩, ⟨19, [], []⟩]))]) Try.func104 (c := bodyOf Try.f104) rfl (by kernel_rfl) (by kernel_rfl) Try.ntmps104 (res := []) (by kernel_rfl) ?_
  repeat' ((conv => whnf); first | refine Rng.g ?_ | refine Ob.g ?_ | refine Ob.e ?_ | refine Ob.m ?_ | refine Ob.mk (Nat.le_of_ble_eq_true rfl) ?_ | refine JoinVC.on ?_ | refine Nils.mk (fun h => ?_) ?_ | refine Val.t ?_ | refine Val.d ?_ | refine Mm.mk ?_ | (refine Br.mk (fun h => ?_) (fun h => ?_) <;> first | (exfalso; omega; done) | (exfalso; simp at h; done) | skip))
  conv => whnf
  refine CallVC.mk [] _ _ _ rfl rfl rfl (s115 ((b : Int) - (a : Int)) (by omega)) (fun r m' h' => ?_)
  obtain ⟨v, hv, rfl, rfl⟩ := h'
  conv => whnf
  repeat' ((conv => whnf); first | refine Rng.g ?_ | refine Ob.g ?_ | refine Val.mk (q : Int) hq1 ?_)
  refine LoopVC.mk (fun m st => ∃ (k : Nat) (V : Array Int) (x : Int), k ≤ 3 ∧ m = 3 - k ∧ Go.Sort.PermIn a b d V ∧ st = ⟨2, envA 67 [(0, .x (.one (.own 0))), (1, .x (I (a : Int))), (2, .x (I (b : Int))), (3, .x (.one (.bnd 74 false [.ptr 1 0]))), (8, .int .i64 ((b : Int) - (a : Int))), (9, .x (.one (.ptr 2 0))), (10, .x (U64 v)), (11, .int .i64 (((a + 2 * q + k : Nat) : Int) - 1))], [some (rowA (V)), some (bPl f l), some (.box 151 [.int .u64 x])]⟩) _ _ ⟨0, d, (b : Int) - (a : Int), by omega, rfl, Go.Sort.permIn_refl d a b, rfl⟩ ?_ ?_
  · refine ⟨[some 0, some 1, some 2], rfl, rfl, ?_, ?_⟩ <;> repeat' (first | exact trivial | exact rfl | exact Iff.rfl | apply And.intro)
    all_goals omega
  rintro m _ ⟨k, V, x, hk, hm, hP, rfl⟩
  have la := arr_len V
  have ls := hP.1
  by_cases hk3 : k < 3
  rotate_left
  · repeat' ((conv => whnf); first | refine Rng.g ?_ | refine Ob.g ?_ | refine Val.mk (q : Int) hq1 ?_ | (refine Br.mk (fun h => ?_) (fun h => ?_) <;> first | (exfalso; omega; done) | skip))
    repeat refine Mm.mk ?_
    conv => whnf
    refine EndVC.mk _ rfl _ _ (⟨V, hP, rfl, rfl⟩) ?_
    refine ⟨[some 0, some 1], rfl, rfl, ?_, ?_⟩ <;> repeat' (first | exact trivial | exact rfl | exact Iff.rfl | apply And.intro)
  repeat' ((conv => whnf); first | refine Rng.g ?_ | refine Ob.g ?_ | refine Val.mk (q : Int) hq1 ?_ | (refine Br.mk (fun h => ?_) (fun h => ?_) <;> first | (exfalso; omega; done) | skip))
  conv => whnf
  refine CallVC.mk [2] _ _ _ rfl rfl rfl (s116 x) (fun r m' h' => ?_)
  obtain ⟨w, rfl, rfl⟩ := h'
  conv => whnf
  repeat' ((conv => whnf); first | refine Rng.g ?_ | refine Ob.g ?_ | refine Ob.e ?_ | refine Ob.m ?_ | refine Ob.mk (Nat.le_of_ble_eq_true rfl) ?_ | refine JoinVC.on ?_ | refine Nils.mk (fun h => ?_) ?_ | refine Val.t ?_ | refine Val.d ?_ | refine Mm.mk ?_ | (refine Br.mk (fun h => ?_) (fun h => ?_) <;> first | (exfalso; omega; done) | (exfalso; simp at h; done) | skip))
  conv => whnf
  refine Val.nm (fun o ho => ?_)
  have hr := and_rng w (v - 1) (by omega)
  rw [← ho] at hr
  clear ho
  by_cases ho2 : (b : Int) - (a : Int) ≤ o
  · obtain ⟨z, hz2⟩ : ∃ z : Nat, o - ((b : Int) - (a : Int)) = (z : Int) := ⟨(o - ((b : Int) - (a : Int))).toNat, by omega⟩
    have gi : rI (i64s V.toList) (((a + 2 * q + k : Nat) : Int) - 1).toNat 0 = V[a + 2 * q + k - 1]! := by rw [show (((a + 2 * q + k : Nat) : Int) - 1).toNat = a + 2 * q + k - 1 by omega]; exact arr_get V _
    have gj : rI (i64s V.toList) ((a : Int) + (o - ((b : Int) - (a : Int)))).toNat 0 = V[a + z]! := by rw [show ((a : Int) + (o - ((b : Int) - (a : Int)))).toNat = a + z by omega]; exact arr_get V _
    have u1 : updRow (i64s V.toList) (((a + 2 * q + k : Nat) : Int) - 1).toNat 0 [Cell.int V[a + z]!] = i64s (V.toList.set (a + 2 * q + k - 1) V[a + z]!) := by rw [show (((a + 2 * q + k : Nat) : Int) - 1).toNat = a + 2 * q + k - 1 by omega]; exact arr_up1 V _ _ (by omega)
    have u2 : updRow (i64s (V.toList.set (a + 2 * q + k - 1) V[a + z]!)) ((a : Int) + (o - ((b : Int) - (a : Int)))).toNat 0 [Cell.int V[a + 2 * q + k - 1]!] = i64s (Go.Sort.swp V (a + 2 * q + k - 1) (a + z)).toList := by rw [show ((a : Int) + (o - ((b : Int) - (a : Int)))).toNat = a + z by omega]; exact arr_up2 V _ _ (by omega)
    have la1 := arr_l1 V (a + 2 * q + k - 1) V[a + z]!
    have la2 := arr_len (Go.Sort.swp V (a + 2 * q + k - 1) (a + z))
    have ls2 := Go.Sort.size_swp V (a + 2 * q + k - 1) (a + z)
    repeat' ((conv => whnf); first | rw [gi] | rw [gj] | rw [u1] | rw [u2] | refine Rng.g ?_ | refine Ob.g ?_ | refine Ob.e ?_ | refine Ob.m ?_ | refine Ob.mk (Nat.le_of_ble_eq_true rfl) ?_ | refine JoinVC.on ?_ | refine Nils.mk (fun h => ?_) ?_ | refine Val.t ?_ | refine Val.d ?_ | refine Mm.mk ?_ | (refine Br.mk (fun h => ?_) (fun h => ?_) <;> first | (exfalso; omega; done) | (exfalso; simp at h; done) | skip))
    refine Back.mk (3 - (k + 1)) _ (by omega) ⟨k + 1, _, w, by omega, rfl, Go.Sort.permIn_trans _ _ _ a b hP (Go.Sort.swp_permIn V a b (a + 2 * q + k - 1) (a + z) (by omega) (by omega) (by omega) (by omega) (by omega)), rfl⟩ ?_
    refine ⟨[some 0, some 1, some 2], rfl, rfl, ?_, ?_⟩ <;> repeat' (first | exact trivial | exact rfl | exact Iff.rfl | apply And.intro)
    all_goals omega
  · obtain ⟨z, rfl⟩ : ∃ z : Nat, o = (z : Int) := ⟨o.toNat, by omega⟩
    have gi : rI (i64s V.toList) (((a + 2 * q + k : Nat) : Int) - 1).toNat 0 = V[a + 2 * q + k - 1]! := by rw [show (((a + 2 * q + k : Nat) : Int) - 1).toNat = a + 2 * q + k - 1 by omega]; exact arr_get V _
    have gj : rI (i64s V.toList) ((a : Int) + (z : Int)).toNat 0 = V[a + z]! := by rw [show ((a : Int) + (z : Int)).toNat = a + z by omega]; exact arr_get V _
    have u1 : updRow (i64s V.toList) (((a + 2 * q + k : Nat) : Int) - 1).toNat 0 [Cell.int V[a + z]!] = i64s (V.toList.set (a + 2 * q + k - 1) V[a + z]!) := by rw [show (((a + 2 * q + k : Nat) : Int) - 1).toNat = a + 2 * q + k - 1 by omega]; exact arr_up1 V _ _ (by omega)
    have u2 : updRow (i64s (V.toList.set (a + 2 * q + k - 1) V[a + z]!)) ((a : Int) + (z : Int)).toNat 0 [Cell.int V[a + 2 * q + k - 1]!] = i64s (Go.Sort.swp V (a + 2 * q + k - 1) (a + z)).toList := by rw [show ((a : Int) + (z : Int)).toNat = a + z by omega]; exact arr_up2 V _ _ (by omega)
    have la1 := arr_l1 V (a + 2 * q + k - 1) V[a + z]!
    have la2 := arr_len (Go.Sort.swp V (a + 2 * q + k - 1) (a + z))
    have ls2 := Go.Sort.size_swp V (a + 2 * q + k - 1) (a + z)
    repeat' ((conv => whnf); first | rw [gi] | rw [gj] | rw [u1] | rw [u2] | refine Rng.g ?_ | refine Ob.g ?_ | refine Ob.e ?_ | refine Ob.m ?_ | refine Ob.mk (Nat.le_of_ble_eq_true rfl) ?_ | refine JoinVC.on ?_ | refine Nils.mk (fun h => ?_) ?_ | refine Val.t ?_ | refine Val.d ?_ | refine Mm.mk ?_ | (refine Br.mk (fun h => ?_) (fun h => ?_) <;> first | (exfalso; omega; done) | (exfalso; simp at h; done) | skip))
    refine Back.mk (3 - (k + 1)) _ (by omega) ⟨k + 1, _, w, by omega, rfl, Go.Sort.permIn_trans _ _ _ a b hP (Go.Sort.swp_permIn V a b (a + 2 * q + k - 1) (a + z) (by omega) (by omega) (by omega) (by omega) (by omega)), rfl⟩ ?_
    refine ⟨[some 0, some 1, some 2], rfl, rfl, ?_, ?_⟩ <;> repeat' (first | exact trivial | exact rfl | exact Iff.rfl | apply And.intro)
    all_goals omega
/-- Short rows are not shifted. -/
theorem cpis (f : Fmt) (l : List Sng) (d : Array Int) (hz : d.size ≤ 1000) (hI : InA d l.length) (a b : Nat) (hab : a < b) (hb50 : b - a < 50) (hb : b ≤ d.size) : HSpec Try.prog 107 [.one (.own 0), I (a : Int), I (b : Int), .one (.bnd 74 false [.ptr 1 0])] [rowA (d), bPl f l] (fun r m' => ∃ y : Bool, y = (Go.Sort.partialInsertionSort (usB l) d a b).2 ∧ (Go.Sort.partialInsertionSort (usB l) d a b).1 = d ∧ r = .x (.one (.bool y)) ∧ m' = [some (rowA (d)), some (bPl f l)]) := by
  have la := arr_len d
  have hV : InA d l.length := hI
  have hp := pi_short (lt := (usB l)) d hb50
  obtain ⟨Z, hZ⟩ : ∃ Z, Go.Sort.scanSorted (usB l) d b (a + 1) = Z := ⟨_, rfl⟩
  rw [hZ] at hp
  refine spec_of pMix (O := [(11, ([], [⟨0, [], []⟩, ⟨1, [], []⟩, ⟨2, [], []⟩, ⟨3, [], []⟩, ⟨4, [], []⟩, ⟨5, [], []⟩, ⟨6, [], []⟩, ⟨7, [], []⟩, ⟨8, [], []⟩, ⟨9, [], []⟩, ⟨10, [], []⟩, ⟨11, [], []⟩, ⟨12, [], []⟩, ⟨13, [], []⟩, ⟨14, [], []⟩, ⟨15, [2, 3, 4], []⟩, ⟨16, [], []⟩, ⟨17, [], []⟩])), (17, ([], [⟨0, [], []⟩, ⟨1, [], []⟩, ⟨2, [], []⟩, ⟨3, [], []⟩, ⟨4, [], []⟩, ⟨5, [], []⟩, ⟨6, [], []⟩, ⟨7, [], []⟩, ⟨8, [], []⟩, ⟨9, [], []⟩, ⟨10, [], []⟩, ⟨11, [], []⟩, ⟨12, [], []⟩, ⟨13, [], []⟩, ⟨14, [], []⟩, ⟨15, [2, 3, 4], []⟩, ⟨16, [], []⟩, ⟨17, [], []⟩])), (23, ([], [⟨0, [], []⟩, ⟨1, [], []⟩, ⟨2, [], []⟩, ⟨3, [], []⟩, ⟨4, [], []⟩, ⟨5, [], []⟩, ⟨6, [], []⟩, ⟨7, [], []⟩, ⟨8, [], []⟩, ⟨9, [], []⟩, ⟨10, [], []⟩, ⟨11, [], []⟩, ⟨12, [], []⟩, ⟨13, [], []⟩, ⟨14, [], []⟩, ⟨15, [2, 3, 4], []⟩, ⟨16, [], []⟩, ⟨17, [], []⟩]))]) Try.func107 (c := bodyOf Try.f107) rfl (by kernel_rfl) (by kernel_rfl) Try.ntmps107 (res := [.tmp 8]) (by kernel_rfl) ?_
  repeat' ((conv => whnf); first | refine Rng.g ?_ | refine Ob.g ?_ | refine Ob.e ?_ | refine Ob.m ?_ | refine Ob.mk (Nat.le_of_ble_eq_true rfl) ?_ | refine JoinVC.on ?_ | refine Nils.mk (fun h => ?_) ?_ | refine Val.t ?_ | refine Val.d ?_ | refine Mm.mk ?_ | (refine Br.mk (fun h => ?_) (fun h => ?_) <;> first | (exfalso; omega; done) | (exfalso; simp at h; done) | skip))
  refine LoopVC.un 1 ?_
  repeat' ((conv => whnf); first | refine Rng.g ?_ | refine Ob.g ?_ | refine Ob.e ?_ | refine Ob.m ?_ | refine Ob.mk (Nat.le_of_ble_eq_true rfl) ?_ | refine JoinVC.on ?_ | refine Nils.mk (fun h => ?_) ?_ | refine Val.t ?_ | refine Val.d ?_ | refine Mm.mk ?_ | (refine Br.mk (fun h => ?_) (fun h => ?_) <;> first | (exfalso; omega; done) | (exfalso; simp at h; done) | skip))
  refine LoopVC.cut (fun m st => ∃ i : Nat, a + 1 ≤ i ∧ i ≤ b ∧ m = b - i ∧ Go.Sort.scanSorted (usB l) d b i = Z ∧ st = ⟨2, envA 141 [(0, .x (.one (.own 0))), (1, .x (I (a : Int))), (2, .x (I (b : Int))), (3, .x (.one (.bnd 74 false [.ptr 1 0]))), (9, .int .i64 (i : Int)), (10, .int .i64 0)], [some (rowA (d)), some (bPl f l)]⟩) _ _ (fun e st => e = .exit 2 ∧ Z ≤ b ∧ st = ⟨2, envA 141 [(0, .x (.one (.own 0))), (1, .x (I (a : Int))), (2, .x (I (b : Int))), (3, .x (.one (.bnd 74 false [.ptr 1 0]))), (9, .int .i64 (Z : Int)), (10, .int .i64 0)], [some (rowA (d)), some (bPl f l)]⟩) ⟨a + 1, Nat.le_refl _, by omega, rfl, hZ, rfl⟩ ?_ ?_ ?_
  · refine ⟨[some 0, some 1], rfl, rfl, ?_, ?_⟩ <;> repeat' (first | exact trivial | exact rfl | exact Iff.rfl | apply And.intro)
  · rintro m _ ⟨i, h1, h2, hm, hi, rfl⟩
    by_cases hib : i < b
    rotate_left
    · rw [ss_no (fun h => hib h.1)] at hi
      subst hi
      repeat' ((conv => whnf); first | refine Rng.g ?_ | refine Ob.g ?_ | refine Ob.e ?_ | refine Ob.m ?_ | refine Ob.mk (Nat.le_of_ble_eq_true rfl) ?_ | refine JoinVC.on ?_ | refine Nils.mk (fun h => ?_) ?_ | refine Val.t ?_ | refine Val.d ?_ | refine Mm.mk ?_ | (refine Br.mk (fun h => ?_) (fun h => ?_) <;> first | (exfalso; omega; done) | (exfalso; simp at h; done) | skip))
      refine Meet.mk _ ⟨rfl, h2, rfl⟩ ?_
      refine ⟨[some 0, some 1], rfl, rfl, ?_, ?_⟩ <;> repeat' (first | exact trivial | exact rfl | exact Iff.rfl | apply And.intro)
    have gi : rI (i64s d.toList) ((i : Int)).toNat 0 = d[i]! := by rw [show ((i : Int)).toNat = i by omega]; exact arr_get d _
    have gj : rI (i64s d.toList) ((i : Int) - 1).toNat 0 = d[i - 1]! := by rw [show ((i : Int) - 1).toNat = i - 1 by omega]; exact arr_get d _
    repeat' ((conv => whnf); first | rw [gi] | rw [gj] | refine Rng.g ?_ | refine Ob.g ?_ | refine Ob.e ?_ | refine Ob.m ?_ | refine Ob.mk (Nat.le_of_ble_eq_true rfl) ?_ | refine JoinVC.on ?_ | refine Nils.mk (fun h => ?_) ?_ | refine Val.t ?_ | refine Val.d ?_ | refine Mm.mk ?_ | (refine Br.mk (fun h => ?_) (fun h => ?_) <;> first | (exfalso; omega; done) | (exfalso; simp at h; done) | skip))
    conv => whnf
    refine CallVC.mk [1] _ _ _ rfl rfl rfl (s74 f l d[i]! d[i - 1]! (hV i (by omega)) (hV (i - 1) (by omega))) (fun r m' h' => ?_)
    obtain ⟨rfl, rfl⟩ := h'
    conv => whnf
    by_cases hlt : (usB l) d[i]! d[i - 1]! = true
    · have hc := usF_yes hlt
      rw [ss_no (fun h => h.2 hlt)] at hi
      subst hi
      repeat' ((conv => whnf); first | rw [gi] | rw [gj] | refine Rng.g ?_ | refine Ob.g ?_ | refine Ob.e ?_ | refine Ob.m ?_ | refine Ob.mk (Nat.le_of_ble_eq_true rfl) ?_ | refine JoinVC.on ?_ | refine Nils.mk (fun h => ?_) ?_ | refine Val.t ?_ | refine Val.d ?_ | refine Mm.mk ?_ | (refine Br.mk (fun h => ?_) (fun h => ?_) <;> first | (exfalso; omega; done) | (exfalso; simp at h; done) | skip))
      refine Meet.mk _ ⟨rfl, h2, rfl⟩ ?_
      refine ⟨[some 0, some 1], rfl, rfl, ?_, ?_⟩ <;> repeat' (first | exact trivial | exact rfl | exact Iff.rfl | apply And.intro)
    · have hc := usF_no hlt
      rw [ss_yes hib hlt] at hi
      repeat' ((conv => whnf); first | rw [gi] | rw [gj] | refine Rng.g ?_ | refine Ob.g ?_ | refine Ob.e ?_ | refine Ob.m ?_ | refine Ob.mk (Nat.le_of_ble_eq_true rfl) ?_ | refine JoinVC.on ?_ | refine Nils.mk (fun h => ?_) ?_ | refine Val.t ?_ | refine Val.d ?_ | refine Mm.mk ?_ | (refine Br.mk (fun h => ?_) (fun h => ?_) <;> first | (exfalso; omega; done) | (exfalso; simp at h; done) | skip))
      refine Back.mk (b - (i + 1)) _ (by omega) ⟨i + 1, by omega, by omega, rfl, hi, rfl⟩ ?_
      refine ⟨[some 0, some 1], rfl, rfl, ?_, ?_⟩ <;> repeat' (first | exact trivial | exact rfl | exact Iff.rfl | apply And.intro)
  rintro e _ ⟨rfl, hZb, rfl⟩
  by_cases he : Z = b
  · have e1 : (Go.Sort.partialInsertionSort (usB l) d a b) = (d, true) := by rw [hp]; simp [he]
    repeat' ((conv => whnf); first | refine Rng.g ?_ | refine Ob.g ?_ | refine Ob.e ?_ | refine Ob.m ?_ | refine Ob.mk (Nat.le_of_ble_eq_true rfl) ?_ | refine JoinVC.on ?_ | refine Nils.mk (fun h => ?_) ?_ | refine Val.t ?_ | refine Val.d ?_ | refine Mm.mk ?_ | (refine Br.mk (fun h => ?_) (fun h => ?_) <;> first | (exfalso; omega; done) | (exfalso; simp at h; done) | skip))
    repeat refine Mm.mk ?_
    conv => whnf
    refine EndVC.mk _ rfl _ _ (⟨true, by rw [e1], by rw [e1], rfl, rfl⟩) ?_
    refine ⟨[some 0, some 1], rfl, rfl, ?_, ?_⟩ <;> repeat' (first | exact trivial | exact rfl | exact Iff.rfl | apply And.intro)
  · have e1 : (Go.Sort.partialInsertionSort (usB l) d a b) = (d, false) := by rw [hp]; simp [he]
    repeat' ((conv => whnf); first | refine Rng.g ?_ | refine Ob.g ?_ | refine Ob.e ?_ | refine Ob.m ?_ | refine Ob.mk (Nat.le_of_ble_eq_true rfl) ?_ | refine JoinVC.on ?_ | refine Nils.mk (fun h => ?_) ?_ | refine Val.t ?_ | refine Val.d ?_ | refine Mm.mk ?_ | (refine Br.mk (fun h => ?_) (fun h => ?_) <;> first | (exfalso; omega; done) | (exfalso; simp at h; done) | skip))
    repeat refine Mm.mk ?_
    conv => whnf
    refine EndVC.mk _ rfl _ _ (⟨false, by rw [e1], by rw [e1], rfl, rfl⟩) ?_
    refine ⟨[some 0, some 1], rfl, rfl, ?_, ?_⟩ <;> repeat' (first | exact trivial | exact rfl | exact Iff.rfl | apply And.intro)
end Go.Sx

namespace Go.Sx
open Go Go.Proofs
set_option maxRecDepth 10000
set_option maxHeartbeats 16000000
/-! ### The whole sort -/
theorem cpdq (f : Fmt) (l : List Sng) : ∀ (N0 : Nat) (d : Array Int) (_ : d.size ≤ 1000) (_ : InA d l.length) (a b lim : Nat), b - a = N0 → a ≤ b → b ≤ d.size → b - a ≤ 24 → lim ≤ 100 → Go.Sort.Below (usB l) a b d → HSpec Try.prog 83 [.one (.own 0), I (a : Int), I (b : Int), I (lim : Int), .one (.bnd 74 false [.ptr 1 0])] [rowA (d), bPl f l] (fun r m' => ∃ W : Array Int, Go.Sort.PermIn a b d W ∧ Go.Sort.SortedIn (usB l) a b W ∧ r = .tup [] ∧ m' = [some (rowA (W)), some (bPl f l)]) := by
  intro N0
  induction N0 using Nat.strongRecOn with
  | ind N0 ih =>
  intro d hz hI a b lim hN hab hb h24 hlim hB0
  refine spec_of pMix (O := []) Try.func83 (c := bodyOf Try.f83) rfl (by kernel_rfl) (by kernel_rfl) Try.ntmps83 (res := []) (by kernel_rfl) ?_
  repeat' ((conv => whnf); first | refine Rng.g ?_ | refine Ob.g ?_ | refine Ob.e ?_ | refine Ob.m ?_ | refine Ob.mk (Nat.le_of_ble_eq_true rfl) ?_ | refine JoinVC.on ?_ | refine Nils.mk (fun h => ?_) ?_ | refine Val.t ?_ | refine Val.d ?_ | refine Mm.mk ?_ | (refine Br.mk (fun h => ?_) (fun h => ?_) <;> first | (exfalso; omega; done) | (exfalso; simp at h; done) | skip))
  refine LoopVC.mk (fun m st => ∃ (x y lm : Nat) (wb wp : Bool) (V : Array Int), x ≤ y ∧ y ≤ d.size ∧ y - x ≤ b - a ∧ m = y - x ∧ V.size = d.size ∧ InA V l.length ∧ lm ≤ 100 ∧ Go.Sort.Below (usB l) x y V ∧ (∀ R, Go.Sort.PermIn x y V R → Go.Sort.SortedIn (usB l) x y R → Go.Sort.PermIn a b d R ∧ Go.Sort.SortedIn (usB l) a b R) ∧ st = ⟨2, envA 148 [(0, .x (.one (.own 0))), (1, .x (I (x : Int))), (2, .x (I (y : Int))), (3, .x (I (lm : Int))), (4, .x (.one (.bnd 74 false [.ptr 1 0]))), (10, .x (.one (.bool wb))), (11, .x (.one (.bool wp)))], [some (rowA (V)), some (bPl f l)]⟩) _ _ ⟨a, b, lim, true, true, d, hab, hb, Nat.le_refl _, rfl, rfl, hI, hlim, hB0, fun R h1 h2 => ⟨h1, h2⟩, rfl⟩ ?_ ?_
  · refine ⟨[some 0, some 1], rfl, rfl, ?_, ?_⟩ <;> repeat' (first | exact trivial | exact rfl | exact Iff.rfl | apply And.intro)
  rintro m _ ⟨x, y, lm, wb, wp, V, hxy, hyN, hle, hm, lV, hV, hlm, hB, hfin, rfl⟩
  by_cases h12 : y - x ≤ 12
  · repeat' ((conv => whnf); first | refine Rng.g ?_ | refine Ob.g ?_ | refine Ob.e ?_ | refine Ob.m ?_ | refine Ob.mk (Nat.le_of_ble_eq_true rfl) ?_ | refine JoinVC.on ?_ | refine Nils.mk (fun h => ?_) ?_ | refine Val.t ?_ | refine Val.d ?_ | refine Mm.mk ?_ | (refine Br.mk (fun h => ?_) (fun h => ?_) <;> first | (exfalso; omega; done) | (exfalso; simp at h; done) | skip))
    conv => whnf
    refine CallVC.mk [0, 1] _ _ _ rfl rfl rfl (cins f l V (by omega) hV x y hxy (by omega)) (fun r m' h' => ?_)
    obtain ⟨rfl, rfl⟩ := h'
    conv => whnf
    obtain ⟨p1, p2⟩ := Go.Sort.insertionSort_holds (lt := (usB l)) (swo_us l) V x y hxy (by omega)
    obtain ⟨q1, q2⟩ := hfin _ p1 p2
    repeat' ((conv => whnf); first | refine Rng.g ?_ | refine Ob.g ?_ | refine Ob.e ?_ | refine Ob.m ?_ | refine Ob.mk (Nat.le_of_ble_eq_true rfl) ?_ | refine JoinVC.on ?_ | refine Nils.mk (fun h => ?_) ?_ | refine Val.t ?_ | refine Val.d ?_ | refine Mm.mk ?_ | (refine Br.mk (fun h => ?_) (fun h => ?_) <;> first | (exfalso; omega; done) | (exfalso; simp at h; done) | skip))
    repeat refine Mm.mk ?_
    conv => whnf
    refine EndVC.mk _ rfl _ _ (⟨_, q1, q2, rfl, rfl⟩) ?_
    refine ⟨[some 0, some 1], rfl, rfl, ?_, ?_⟩ <;> repeat' (first | exact trivial | exact rfl | exact Iff.rfl | apply And.intro)
  by_cases h0 : lm = 0
  · subst h0
    repeat' ((conv => whnf); first | refine Rng.g ?_ | refine Ob.g ?_ | refine Ob.e ?_ | refine Ob.m ?_ | refine Ob.mk (Nat.le_of_ble_eq_true rfl) ?_ | refine JoinVC.on ?_ | refine Nils.mk (fun h => ?_) ?_ | refine Val.t ?_ | refine Val.d ?_ | refine Mm.mk ?_ | (refine Br.mk (fun h => ?_) (fun h => ?_) <;> first | (exfalso; omega; done) | (exfalso; simp at h; done) | skip))
    conv => whnf
    refine CallVC.mk [0, 1] _ _ _ rfl rfl rfl (cheap f l V (by omega) hV x y hxy (by omega)) (fun r m' h' => ?_)
    obtain ⟨rfl, rfl⟩ := h'
    conv => whnf
    obtain ⟨p1, p2⟩ := Go.Sort.heapSort_holds (lt := (usB l)) (swo_us l) V x y hxy (by omega)
    obtain ⟨q1, q2⟩ := hfin _ p1 p2
    repeat' ((conv => whnf); first | refine Rng.g ?_ | refine Ob.g ?_ | refine Ob.e ?_ | refine Ob.m ?_ | refine Ob.mk (Nat.le_of_ble_eq_true rfl) ?_ | refine JoinVC.on ?_ | refine Nils.mk (fun h => ?_) ?_ | refine Val.t ?_ | refine Val.d ?_ | refine Mm.mk ?_ | (refine Br.mk (fun h => ?_) (fun h => ?_) <;> first | (exfalso; omega; done) | (exfalso; simp at h; done) | skip))
    repeat refine Mm.mk ?_
    conv => whnf
    refine EndVC.mk _ rfl _ _ (⟨_, q1, q2, rfl, rfl⟩) ?_
    refine ⟨[some 0, some 1], rfl, rfl, ?_, ?_⟩ <;> repeat' (first | exact trivial | exact rfl | exact Iff.rfl | apply And.intro)
  repeat' ((conv => whnf); first | refine Rng.g ?_ | refine Ob.g ?_ | refine Ob.e ?_ | refine Ob.m ?_ | refine Ob.mk (Nat.le_of_ble_eq_true rfl) ?_ | refine Nils.mk (fun h => ?_) ?_ | refine Val.t ?_ | refine Val.d ?_ | refine Mm.mk ?_ | (refine Br.mk (fun h => ?_) (fun h => ?_) <;> first | (exfalso; omega; done) | (exfalso; simp at h; done) | skip))
  refine JoinVC.cut (fun st => ∃ (l2 : Nat) (W : Array Int), l2 ≤ 100 ∧ Go.Sort.PermIn x y V W ∧ st = ⟨2, envA 148 [(0, .x (.one (.own 0))), (1, .x (I (x : Int))), (2, .x (I (y : Int))), (3, .x (I (l2 : Int))), (4, .x (.one (.bnd 74 false [.ptr 1 0]))), (10, .x (.one (.bool wb))), (11, .x (.one (.bool wp))), (12, .int .i64 ((y : Int) - (x : Int)))], [some (rowA (W)), some (bPl f l)]⟩) ?_ ?_
  · cases wb with
    | true =>
      repeat' ((conv => whnf); first | refine Rng.g ?_ | refine Ob.g ?_ | refine Ob.e ?_ | refine Ob.m ?_ | refine Ob.mk (Nat.le_of_ble_eq_true rfl) ?_ | refine Nils.mk (fun h => ?_) ?_ | refine Val.t ?_ | refine Val.d ?_ | refine Mm.mk ?_ | (refine Br.mk (fun h => ?_) (fun h => ?_) <;> first | (exfalso; omega; done) | (exfalso; simp at h; done) | skip))
      refine Meet.mk _ ⟨lm, V, hlm, Go.Sort.permIn_refl _ _ _, rfl⟩ ?_
      refine ⟨[some 0, some 1], rfl, rfl, ?_, ?_⟩ <;> repeat' (first | exact trivial | exact rfl | exact Iff.rfl | apply And.intro)
    | false =>
      repeat' ((conv => whnf); first | refine Rng.g ?_ | refine Ob.g ?_ | refine Ob.e ?_ | refine Ob.m ?_ | refine Ob.mk (Nat.le_of_ble_eq_true rfl) ?_ | refine Nils.mk (fun h => ?_) ?_ | refine Val.t ?_ | refine Val.d ?_ | refine Mm.mk ?_ | (refine Br.mk (fun h => ?_) (fun h => ?_) <;> first | (exfalso; omega; done) | (exfalso; simp at h; done) | skip))
      conv => whnf
      refine CallVC.mk [0, 1] _ _ _ rfl rfl rfl (cbrk f l V (by omega) hV x y (by omega) (by omega) (by omega)) (fun r m' h' => ?_)
      obtain ⟨W, hW, rfl, rfl⟩ := h'
      conv => whnf
      repeat' ((conv => whnf); first | refine Rng.g ?_ | refine Ob.g ?_ | refine Ob.e ?_ | refine Ob.m ?_ | refine Ob.mk (Nat.le_of_ble_eq_true rfl) ?_ | refine Nils.mk (fun h => ?_) ?_ | refine Val.t ?_ | refine Val.d ?_ | refine Mm.mk ?_ | (refine Br.mk (fun h => ?_) (fun h => ?_) <;> first | (exfalso; omega; done) | (exfalso; simp at h; done) | skip))
      refine Meet.mk _ ⟨lm - 1, W, by omega, hW, rfl⟩ ?_
      refine ⟨[some 0, some 1], rfl, rfl, ?_, ?_⟩ <;> repeat' (first | exact trivial | exact rfl | exact Iff.rfl | apply And.intro)
      all_goals omega
  rintro _ ⟨l2, W, hl2, hPW, rfl⟩
  have lW := hPW.1
  have hW : InA W l.length := hV.perm (by omega) hPW
  repeat' ((conv => whnf); first | refine Rng.g ?_ | refine Ob.g ?_ | refine Ob.e ?_ | refine Ob.m ?_ | refine Ob.mk (Nat.le_of_ble_eq_true rfl) ?_ | refine Nils.mk (fun h => ?_) ?_ | refine Val.t ?_ | refine Val.d ?_ | refine Mm.mk ?_ | (refine Br.mk (fun h => ?_) (fun h => ?_) <;> first | (exfalso; omega; done) | (exfalso; simp at h; done) | skip))
  conv => whnf
  refine CallVC.mk [0, 1] _ _ _ rfl rfl rfl (cpiv f l W (by omega) hW x y (by omega) (by omega) (by omega)) (fun r m' h' => ?_)
  obtain ⟨p, gg, hp, rfl, rfl⟩ := h'
  conv => whnf
  repeat' ((conv => whnf); first | refine Rng.g ?_ | refine Ob.g ?_ | refine Ob.e ?_ | refine Ob.m ?_ | refine Ob.mk (Nat.le_of_ble_eq_true rfl) ?_ | refine Nils.mk (fun h => ?_) ?_ | refine Val.t ?_ | refine Val.d ?_ | refine Mm.mk ?_ | (refine Br.mk (fun h => ?_) (fun h => ?_) <;> first | (exfalso; omega; done) | (exfalso; simp at h; done) | skip))
  refine JoinVC.cut (fun st => ∃ (p2 : Nat) (h2 : Int) (W2 : Array Int), (x ≤ p2 ∧ p2 < y) ∧ Go.Sort.PermIn x y V W2 ∧ st = ⟨2, envA 148 [(0, .x (.one (.own 0))), (1, .x (I (x : Int))), (2, .x (I (y : Int))), (3, .x (I (l2 : Int))), (4, .x (.one (.bnd 74 false [.ptr 1 0]))), (10, .x (.one (.bool wb))), (11, .x (.one (.bool wp))), (12, .int .i64 ((y : Int) - (x : Int))), (13, .int .i64 (p2 : Int)), (14, .int .i64 h2)], [some (rowA (W2)), some (bPl f l)]⟩) ?_ ?_
  · by_cases hh : gg = 2
    · repeat' ((conv => whnf); first | refine Rng.g ?_ | refine Ob.g ?_ | refine Ob.e ?_ | refine Ob.m ?_ | refine Ob.mk (Nat.le_of_ble_eq_true rfl) ?_ | refine Nils.mk (fun h => ?_) ?_ | refine Val.t ?_ | refine Val.d ?_ | refine Mm.mk ?_ | (refine Br.mk (fun h => ?_) (fun h => ?_) <;> first | (exfalso; omega; done) | (exfalso; simp at h; done) | skip))
      conv => whnf
      refine CallVC.mk [0, 1] _ _ _ rfl rfl rfl (crev f l W (by omega) hW x y (by omega) (by omega)) (fun r m' h' => ?_)
      obtain ⟨W2, hW2, rfl, rfl⟩ := h'
      conv => whnf
      repeat' ((conv => whnf); first | refine Rng.g ?_ | refine Ob.g ?_ | refine Ob.e ?_ | refine Ob.m ?_ | refine Ob.mk (Nat.le_of_ble_eq_true rfl) ?_ | refine Nils.mk (fun h => ?_) ?_ | refine Val.t ?_ | refine Val.d ?_ | refine Mm.mk ?_ | (refine Br.mk (fun h => ?_) (fun h => ?_) <;> first | (exfalso; omega; done) | (exfalso; simp at h; done) | skip))
      refine Meet.mk _ ⟨(y - 1) - (p - x), 1, W2, by omega, Go.Sort.permIn_trans _ _ _ x y hPW hW2, rfl⟩ ?_
      refine ⟨[some 0, some 1], rfl, rfl, ?_, ?_⟩ <;> repeat' (first | exact trivial | exact rfl | exact Iff.rfl | apply And.intro)
      all_goals omega
    · repeat' ((conv => whnf); first | refine Rng.g ?_ | refine Ob.g ?_ | refine Ob.e ?_ | refine Ob.m ?_ | refine Ob.mk (Nat.le_of_ble_eq_true rfl) ?_ | refine Nils.mk (fun h => ?_) ?_ | refine Val.t ?_ | refine Val.d ?_ | refine Mm.mk ?_ | (refine Br.mk (fun h => ?_) (fun h => ?_) <;> first | (exfalso; omega; done) | (exfalso; simp at h; done) | skip))
      refine Meet.mk _ ⟨p, gg, W, hp, hPW, rfl⟩ ?_
      refine ⟨[some 0, some 1], rfl, rfl, ?_, ?_⟩ <;> repeat' (first | exact trivial | exact rfl | exact Iff.rfl | apply And.intro)
  clear hp hPW lW hW p gg W
  rintro _ ⟨p, gg, W2, hp, hPW2, rfl⟩
  have lW := hPW2.1
  have hW2 : InA W2 l.length := hV.perm (by omega) hPW2
  have hB2 := hB.perm (by omega) hPW2
  cases wb with
  | false =>
    obtain ⟨q8, hq8⟩ : ∃ q : Int, ((y : Int) - (x : Int)).tdiv 8 = q := ⟨_, rfl⟩
    have hq8r : 0 ≤ q8 ∧ q8 ≤ 3 := by
      rw [← hq8, Int.tdiv_eq_ediv_of_nonneg (by omega)]
      omega
    have la := arr_len W2
    by_cases hx0 : 0 < x
    rotate_left
    · repeat' ((conv => whnf); first | refine Rng.g ?_ | refine Ob.g ?_ | refine Ob.e ?_ | refine Ob.m ?_ | refine Ob.mk (Nat.le_of_ble_eq_true rfl) ?_ | refine JoinVC.on ?_ | refine Nils.mk (fun h => ?_) ?_ | refine Val.t ?_ | refine Val.d ?_ | refine Mm.mk ?_ | (refine Br.mk (fun h => ?_) (fun h => ?_) <;> first | (exfalso; omega; done) | (exfalso; simp at h; done) | skip))
      conv => whnf
      refine CallVC.mk [0, 1] _ _ _ rfl rfl rfl (cpart f l W2 (by omega) hW2 x y p hp (by omega)) (fun r m' h' => ?_)
      obtain ⟨mid, ap, W3, hx3, rfl, rfl⟩ := h'
      conv => whnf
      obtain ⟨g1, g2, hs4, hBa, hBr, hleft, hright⟩ := Go.Sort.round_part (swo_us l) (Go.Sort.partition_holds (usB l)) hp.1 hp.2 (by omega) hB2 hx3
      have hP3 := (Go.Sort.partition_holds (usB l) (swo_us l) W2 x y p hp.1 hp.2 (by omega)).2.2.1
      rw [hx3] at hP3
      have hW3 : InA W3 l.length := hW2.perm (by omega) hP3
      by_cases hlr : mid - x < y - mid
      · repeat' ((conv => whnf); first | refine Rng.g ?_ | refine Ob.g ?_ | refine Val.mk q8 hq8 ?_ | refine JoinVC.on ?_ | (refine Br.mk (fun h => ?_) (fun h => ?_) <;> first | (exfalso; omega; done) | skip))
        conv => whnf
        refine CallVC.mk [0, 1] _ _ _ rfl rfl rfl (ih (mid - x) (by omega) W3 (by omega) hW3 x mid l2 rfl (by omega) (by omega) (by omega) (by omega) hBa) (fun r m' h' => ?_)
        obtain ⟨L, k1, k2, rfl, rfl⟩ := h'
        conv => whnf
        have lL := k1.1
        obtain ⟨hBL, hf2⟩ := hleft L k1 k2
        repeat' ((conv => whnf); first | refine Rng.g ?_ | refine Ob.g ?_ | refine Val.mk q8 hq8 ?_ | refine JoinVC.on ?_ | (refine Br.mk (fun h => ?_) (fun h => ?_) <;> first | (exfalso; omega; done) | skip))
        refine Back.mk (y - (mid + 1)) _ (by omega) ⟨mid + 1, y, l2, decide (q8 ≤ (mid : Int) - (x : Int)), ap, L, by omega, by omega, by omega, rfl, by omega, hW3.perm (by omega) k1, by omega, hBL, fun R r1 r2 => hfin R (Go.Sort.permIn_trans _ _ _ x y hPW2 (hf2 R r1 r2).1) (hf2 R r1 r2).2, rfl⟩ ?_
        refine ⟨[some 0, some 1], rfl, rfl, ?_, ?_⟩ <;> repeat' (first | exact trivial | exact rfl | exact Iff.rfl | apply And.intro)
      · repeat' ((conv => whnf); first | refine Rng.g ?_ | refine Ob.g ?_ | refine Val.mk q8 hq8 ?_ | refine JoinVC.on ?_ | (refine Br.mk (fun h => ?_) (fun h => ?_) <;> first | (exfalso; omega; done) | skip))
        conv => whnf
        refine CallVC.mk [0, 1] _ _ _ rfl rfl rfl (ih (y - (mid + 1)) (by omega) W3 (by omega) hW3 (mid + 1) y l2 rfl (by omega) (by omega) (by omega) (by omega) hBr) (fun r m' h' => ?_)
        obtain ⟨L, k1, k2, rfl, rfl⟩ := h'
        conv => whnf
        have lL := k1.1
        obtain ⟨hBL, hf2⟩ := hright L k1 k2
        repeat' ((conv => whnf); first | refine Rng.g ?_ | refine Ob.g ?_ | refine Val.mk q8 hq8 ?_ | refine JoinVC.on ?_ | (refine Br.mk (fun h => ?_) (fun h => ?_) <;> first | (exfalso; omega; done) | skip))
        refine Back.mk (mid - x) _ (by omega) ⟨x, mid, l2, decide (q8 ≤ (y : Int) - (mid : Int)), ap, L, by omega, by omega, by omega, rfl, by omega, hW3.perm (by omega) k1, by omega, hBL, fun R r1 r2 => hfin R (Go.Sort.permIn_trans _ _ _ x y hPW2 (hf2 R r1 r2).1) (hf2 R r1 r2).2, rfl⟩ ?_
        refine ⟨[some 0, some 1], rfl, rfl, ?_, ?_⟩ <;> repeat' (first | exact trivial | exact rfl | exact Iff.rfl | apply And.intro)
    have gi : rI (i64s W2.toList) ((x : Int) - 1).toNat 0 = W2[x - 1]! := by rw [show ((x : Int) - 1).toNat = x - 1 by omega]; exact arr_get W2 _
    have gj : rI (i64s W2.toList) ((p : Int)).toNat 0 = W2[p]! := by rw [show ((p : Int)).toNat = p by omega]; exact arr_get W2 _
    repeat' ((conv => whnf); first | rw [gi] | rw [gj] | refine Rng.g ?_ | refine Ob.g ?_ | refine Ob.e ?_ | refine Ob.m ?_ | refine Ob.mk (Nat.le_of_ble_eq_true rfl) ?_ | refine JoinVC.on ?_ | refine Nils.mk (fun h => ?_) ?_ | refine Val.t ?_ | refine Val.d ?_ | refine Mm.mk ?_ | (refine Br.mk (fun h => ?_) (fun h => ?_) <;> first | (exfalso; omega; done) | (exfalso; simp at h; done) | skip))
    conv => whnf
    refine CallVC.mk [1] _ _ _ rfl rfl rfl (s74 f l W2[x - 1]! W2[p]! (hW2 (x - 1) (by omega)) (hW2 p (by omega))) (fun r m' h' => ?_)
    obtain ⟨rfl, rfl⟩ := h'
    conv => whnf
    by_cases hlt : (usB l) W2[x - 1]! W2[p]! = true
    · have hc := usF_yes hlt
      repeat' ((conv => whnf); first | refine Rng.g ?_ | refine Ob.g ?_ | refine Ob.e ?_ | refine Ob.m ?_ | refine Ob.mk (Nat.le_of_ble_eq_true rfl) ?_ | refine JoinVC.on ?_ | refine Nils.mk (fun h => ?_) ?_ | refine Val.t ?_ | refine Val.d ?_ | refine Mm.mk ?_ | (refine Br.mk (fun h => ?_) (fun h => ?_) <;> first | (exfalso; omega; done) | (exfalso; simp at h; done) | skip))
      conv => whnf
      refine CallVC.mk [0, 1] _ _ _ rfl rfl rfl (cpart f l W2 (by omega) hW2 x y p hp (by omega)) (fun r m' h' => ?_)
      obtain ⟨mid, ap, W3, hx3, rfl, rfl⟩ := h'
      conv => whnf
      obtain ⟨g1, g2, hs4, hBa, hBr, hleft, hright⟩ := Go.Sort.round_part (swo_us l) (Go.Sort.partition_holds (usB l)) hp.1 hp.2 (by omega) hB2 hx3
      have hP3 := (Go.Sort.partition_holds (usB l) (swo_us l) W2 x y p hp.1 hp.2 (by omega)).2.2.1
      rw [hx3] at hP3
      have hW3 : InA W3 l.length := hW2.perm (by omega) hP3
      by_cases hlr : mid - x < y - mid
      · repeat' ((conv => whnf); first | refine Rng.g ?_ | refine Ob.g ?_ | refine Val.mk q8 hq8 ?_ | refine JoinVC.on ?_ | (refine Br.mk (fun h => ?_) (fun h => ?_) <;> first | (exfalso; omega; done) | skip))
        conv => whnf
        refine CallVC.mk [0, 1] _ _ _ rfl rfl rfl (ih (mid - x) (by omega) W3 (by omega) hW3 x mid l2 rfl (by omega) (by omega) (by omega) (by omega) hBa) (fun r m' h' => ?_)
        obtain ⟨L, k1, k2, rfl, rfl⟩ := h'
        conv => whnf
        have lL := k1.1
        obtain ⟨hBL, hf2⟩ := hleft L k1 k2
        repeat' ((conv => whnf); first | refine Rng.g ?_ | refine Ob.g ?_ | refine Val.mk q8 hq8 ?_ | refine JoinVC.on ?_ | (refine Br.mk (fun h => ?_) (fun h => ?_) <;> first | (exfalso; omega; done) | skip))
        refine Back.mk (y - (mid + 1)) _ (by omega) ⟨mid + 1, y, l2, decide (q8 ≤ (mid : Int) - (x : Int)), ap, L, by omega, by omega, by omega, rfl, by omega, hW3.perm (by omega) k1, by omega, hBL, fun R r1 r2 => hfin R (Go.Sort.permIn_trans _ _ _ x y hPW2 (hf2 R r1 r2).1) (hf2 R r1 r2).2, rfl⟩ ?_
        refine ⟨[some 0, some 1], rfl, rfl, ?_, ?_⟩ <;> repeat' (first | exact trivial | exact rfl | exact Iff.rfl | apply And.intro)
      · repeat' ((conv => whnf); first | refine Rng.g ?_ | refine Ob.g ?_ | refine Val.mk q8 hq8 ?_ | refine JoinVC.on ?_ | (refine Br.mk (fun h => ?_) (fun h => ?_) <;> first | (exfalso; omega; done) | skip))
        conv => whnf
        refine CallVC.mk [0, 1] _ _ _ rfl rfl rfl (ih (y - (mid + 1)) (by omega) W3 (by omega) hW3 (mid + 1) y l2 rfl (by omega) (by omega) (by omega) (by omega) hBr) (fun r m' h' => ?_)
        obtain ⟨L, k1, k2, rfl, rfl⟩ := h'
        conv => whnf
        have lL := k1.1
        obtain ⟨hBL, hf2⟩ := hright L k1 k2
        repeat' ((conv => whnf); first | refine Rng.g ?_ | refine Ob.g ?_ | refine Val.mk q8 hq8 ?_ | refine JoinVC.on ?_ | (refine Br.mk (fun h => ?_) (fun h => ?_) <;> first | (exfalso; omega; done) | skip))
        refine Back.mk (mid - x) _ (by omega) ⟨x, mid, l2, decide (q8 ≤ (y : Int) - (mid : Int)), ap, L, by omega, by omega, by omega, rfl, by omega, hW3.perm (by omega) k1, by omega, hBL, fun R r1 r2 => hfin R (Go.Sort.permIn_trans _ _ _ x y hPW2 (hf2 R r1 r2).1) (hf2 R r1 r2).2, rfl⟩ ?_
        refine ⟨[some 0, some 1], rfl, rfl, ?_, ?_⟩ <;> repeat' (first | exact trivial | exact rfl | exact Iff.rfl | apply And.intro)
    · have hc := usF_no hlt
      repeat' ((conv => whnf); first | refine Rng.g ?_ | refine Ob.g ?_ | refine Ob.e ?_ | refine Ob.m ?_ | refine Ob.mk (Nat.le_of_ble_eq_true rfl) ?_ | refine JoinVC.on ?_ | refine Nils.mk (fun h => ?_) ?_ | refine Val.t ?_ | refine Val.d ?_ | refine Mm.mk ?_ | (refine Br.mk (fun h => ?_) (fun h => ?_) <;> first | (exfalso; omega; done) | (exfalso; simp at h; done) | skip))
      conv => whnf
      refine CallVC.mk [0, 1] _ _ _ rfl rfl rfl (cpeq f l W2 (by omega) hW2 x y p hp (by omega)) (fun r m' h' => ?_)
      obtain ⟨mid, W3, hx3, rfl, rfl⟩ := h'
      conv => whnf
      obtain ⟨g1, g2, hs4, hBm, hf2⟩ := Go.Sort.round_eq (swo_us l) (Go.Sort.partitionEqual_holds (usB l)) hx0 hp.1 hp.2 (by omega) hB2 (Bool.eq_false_iff.2 hlt) hx3
      have hP3 := (Go.Sort.partitionEqual_holds (usB l) (swo_us l) W2 x y p hp.1 hp.2 (by omega) (by
        intro i i1 i2
        rcases hB2 with e | e
        · omega
        · exact (swo_us l).ntrans _ _ _ (e i i1 i2) (Bool.eq_false_iff.2 hlt))).2.2.1
      rw [hx3] at hP3
      repeat' ((conv => whnf); first | refine Rng.g ?_ | refine Ob.g ?_ | refine Ob.e ?_ | refine Ob.m ?_ | refine Ob.mk (Nat.le_of_ble_eq_true rfl) ?_ | refine JoinVC.on ?_ | refine Nils.mk (fun h => ?_) ?_ | refine Val.t ?_ | refine Val.d ?_ | refine Mm.mk ?_ | (refine Br.mk (fun h => ?_) (fun h => ?_) <;> first | (exfalso; omega; done) | (exfalso; simp at h; done) | skip))
      refine Back.mk (y - mid) _ (by omega) ⟨mid, y, l2, false, wp, W3, by omega, by omega, by omega, rfl, by omega, hW2.perm (by omega) hP3, by omega, hBm, fun R r1 r2 => hfin R (Go.Sort.permIn_trans _ _ _ x y hPW2 (hf2 R r1 r2).1) (hf2 R r1 r2).2, rfl⟩ ?_
      refine ⟨[some 0, some 1], rfl, rfl, ?_, ?_⟩ <;> repeat' (first | exact trivial | exact rfl | exact Iff.rfl | apply And.intro)
  | true =>
    cases wp with
    | false =>
      obtain ⟨q8, hq8⟩ : ∃ q : Int, ((y : Int) - (x : Int)).tdiv 8 = q := ⟨_, rfl⟩
      have hq8r : 0 ≤ q8 ∧ q8 ≤ 3 := by
        rw [← hq8, Int.tdiv_eq_ediv_of_nonneg (by omega)]
        omega
      have la := arr_len W2
      by_cases hx0 : 0 < x
      rotate_left
      · repeat' ((conv => whnf); first | refine Rng.g ?_ | refine Ob.g ?_ | refine Ob.e ?_ | refine Ob.m ?_ | refine Ob.mk (Nat.le_of_ble_eq_true rfl) ?_ | refine JoinVC.on ?_ | refine Nils.mk (fun h => ?_) ?_ | refine Val.t ?_ | refine Val.d ?_ | refine Mm.mk ?_ | (refine Br.mk (fun h => ?_) (fun h => ?_) <;> first | (exfalso; omega; done) | (exfalso; simp at h; done) | skip))
        conv => whnf
        refine CallVC.mk [0, 1] _ _ _ rfl rfl rfl (cpart f l W2 (by omega) hW2 x y p hp (by omega)) (fun r m' h' => ?_)
        obtain ⟨mid, ap, W3, hx3, rfl, rfl⟩ := h'
        conv => whnf
        obtain ⟨g1, g2, hs4, hBa, hBr, hleft, hright⟩ := Go.Sort.round_part (swo_us l) (Go.Sort.partition_holds (usB l)) hp.1 hp.2 (by omega) hB2 hx3
        have hP3 := (Go.Sort.partition_holds (usB l) (swo_us l) W2 x y p hp.1 hp.2 (by omega)).2.2.1
        rw [hx3] at hP3
        have hW3 : InA W3 l.length := hW2.perm (by omega) hP3
        by_cases hlr : mid - x < y - mid
        · repeat' ((conv => whnf); first | refine Rng.g ?_ | refine Ob.g ?_ | refine Val.mk q8 hq8 ?_ | refine JoinVC.on ?_ | (refine Br.mk (fun h => ?_) (fun h => ?_) <;> first | (exfalso; omega; done) | skip))
          conv => whnf
          refine CallVC.mk [0, 1] _ _ _ rfl rfl rfl (ih (mid - x) (by omega) W3 (by omega) hW3 x mid l2 rfl (by omega) (by omega) (by omega) (by omega) hBa) (fun r m' h' => ?_)
          obtain ⟨L, k1, k2, rfl, rfl⟩ := h'
          conv => whnf
          have lL := k1.1
          obtain ⟨hBL, hf2⟩ := hleft L k1 k2
          repeat' ((conv => whnf); first | refine Rng.g ?_ | refine Ob.g ?_ | refine Val.mk q8 hq8 ?_ | refine JoinVC.on ?_ | (refine Br.mk (fun h => ?_) (fun h => ?_) <;> first | (exfalso; omega; done) | skip))
          refine Back.mk (y - (mid + 1)) _ (by omega) ⟨mid + 1, y, l2, decide (q8 ≤ (mid : Int) - (x : Int)), ap, L, by omega, by omega, by omega, rfl, by omega, hW3.perm (by omega) k1, by omega, hBL, fun R r1 r2 => hfin R (Go.Sort.permIn_trans _ _ _ x y hPW2 (hf2 R r1 r2).1) (hf2 R r1 r2).2, rfl⟩ ?_
          refine ⟨[some 0, some 1], rfl, rfl, ?_, ?_⟩ <;> repeat' (first | exact trivial | exact rfl | exact Iff.rfl | apply And.intro)
        · repeat' ((conv => whnf); first | refine Rng.g ?_ | refine Ob.g ?_ | refine Val.mk q8 hq8 ?_ | refine JoinVC.on ?_ | (refine Br.mk (fun h => ?_) (fun h => ?_) <;> first | (exfalso; omega; done) | skip))
          conv => whnf
          refine CallVC.mk [0, 1] _ _ _ rfl rfl rfl (ih (y - (mid + 1)) (by omega) W3 (by omega) hW3 (mid + 1) y l2 rfl (by omega) (by omega) (by omega) (by omega) hBr) (fun r m' h' => ?_)
          obtain ⟨L, k1, k2, rfl, rfl⟩ := h'
          conv => whnf
          have lL := k1.1
          obtain ⟨hBL, hf2⟩ := hright L k1 k2
          repeat' ((conv => whnf); first | refine Rng.g ?_ | refine Ob.g ?_ | refine Val.mk q8 hq8 ?_ | refine JoinVC.on ?_ | (refine Br.mk (fun h => ?_) (fun h => ?_) <;> first | (exfalso; omega; done) | skip))
          refine Back.mk (mid - x) _ (by omega) ⟨x, mid, l2, decide (q8 ≤ (y : Int) - (mid : Int)), ap, L, by omega, by omega, by omega, rfl, by omega, hW3.perm (by omega) k1, by omega, hBL, fun R r1 r2 => hfin R (Go.Sort.permIn_trans _ _ _ x y hPW2 (hf2 R r1 r2).1) (hf2 R r1 r2).2, rfl⟩ ?_
          refine ⟨[some 0, some 1], rfl, rfl, ?_, ?_⟩ <;> repeat' (first | exact trivial | exact rfl | exact Iff.rfl | apply And.intro)
      have gi : rI (i64s W2.toList) ((x : Int) - 1).toNat 0 = W2[x - 1]! := by rw [show ((x : Int) - 1).toNat = x - 1 by omega]; exact arr_get W2 _
      have gj : rI (i64s W2.toList) ((p : Int)).toNat 0 = W2[p]! := by rw [show ((p : Int)).toNat = p by omega]; exact arr_get W2 _
      repeat' ((conv => whnf); first | rw [gi] | rw [gj] | refine Rng.g ?_ | refine Ob.g ?_ | refine Ob.e ?_ | refine Ob.m ?_ | refine Ob.mk (Nat.le_of_ble_eq_true rfl) ?_ | refine JoinVC.on ?_ | refine Nils.mk (fun h => ?_) ?_ | refine Val.t ?_ | refine Val.d ?_ | refine Mm.mk ?_ | (refine Br.mk (fun h => ?_) (fun h => ?_) <;> first | (exfalso; omega; done) | (exfalso; simp at h; done) | skip))
      conv => whnf
      refine CallVC.mk [1] _ _ _ rfl rfl rfl (s74 f l W2[x - 1]! W2[p]! (hW2 (x - 1) (by omega)) (hW2 p (by omega))) (fun r m' h' => ?_)
      obtain ⟨rfl, rfl⟩ := h'
      conv => whnf
      by_cases hlt : (usB l) W2[x - 1]! W2[p]! = true
      · have hc := usF_yes hlt
        repeat' ((conv => whnf); first | refine Rng.g ?_ | refine Ob.g ?_ | refine Ob.e ?_ | refine Ob.m ?_ | refine Ob.mk (Nat.le_of_ble_eq_true rfl) ?_ | refine JoinVC.on ?_ | refine Nils.mk (fun h => ?_) ?_ | refine Val.t ?_ | refine Val.d ?_ | refine Mm.mk ?_ | (refine Br.mk (fun h => ?_) (fun h => ?_) <;> first | (exfalso; omega; done) | (exfalso; simp at h; done) | skip))
        conv => whnf
        refine CallVC.mk [0, 1] _ _ _ rfl rfl rfl (cpart f l W2 (by omega) hW2 x y p hp (by omega)) (fun r m' h' => ?_)
        obtain ⟨mid, ap, W3, hx3, rfl, rfl⟩ := h'
        conv => whnf
        obtain ⟨g1, g2, hs4, hBa, hBr, hleft, hright⟩ := Go.Sort.round_part (swo_us l) (Go.Sort.partition_holds (usB l)) hp.1 hp.2 (by omega) hB2 hx3
        have hP3 := (Go.Sort.partition_holds (usB l) (swo_us l) W2 x y p hp.1 hp.2 (by omega)).2.2.1
        rw [hx3] at hP3
        have hW3 : InA W3 l.length := hW2.perm (by omega) hP3
        by_cases hlr : mid - x < y - mid
        · repeat' ((conv => whnf); first | refine Rng.g ?_ | refine Ob.g ?_ | refine Val.mk q8 hq8 ?_ | refine JoinVC.on ?_ | (refine Br.mk (fun h => ?_) (fun h => ?_) <;> first | (exfalso; omega; done) | skip))
          conv => whnf
          refine CallVC.mk [0, 1] _ _ _ rfl rfl rfl (ih (mid - x) (by omega) W3 (by omega) hW3 x mid l2 rfl (by omega) (by omega) (by omega) (by omega) hBa) (fun r m' h' => ?_)
          obtain ⟨L, k1, k2, rfl, rfl⟩ := h'
          conv => whnf
          have lL := k1.1
          obtain ⟨hBL, hf2⟩ := hleft L k1 k2
          repeat' ((conv => whnf); first | refine Rng.g ?_ | refine Ob.g ?_ | refine Val.mk q8 hq8 ?_ | refine JoinVC.on ?_ | (refine Br.mk (fun h => ?_) (fun h => ?_) <;> first | (exfalso; omega; done) | skip))
          refine Back.mk (y - (mid + 1)) _ (by omega) ⟨mid + 1, y, l2, decide (q8 ≤ (mid : Int) - (x : Int)), ap, L, by omega, by omega, by omega, rfl, by omega, hW3.perm (by omega) k1, by omega, hBL, fun R r1 r2 => hfin R (Go.Sort.permIn_trans _ _ _ x y hPW2 (hf2 R r1 r2).1) (hf2 R r1 r2).2, rfl⟩ ?_
          refine ⟨[some 0, some 1], rfl, rfl, ?_, ?_⟩ <;> repeat' (first | exact trivial | exact rfl | exact Iff.rfl | apply And.intro)
        · repeat' ((conv => whnf); first | refine Rng.g ?_ | refine Ob.g ?_ | refine Val.mk q8 hq8 ?_ | refine JoinVC.on ?_ | (refine Br.mk (fun h => ?_) (fun h => ?_) <;> first | (exfalso; omega; done) | skip))
          conv => whnf
          refine CallVC.mk [0, 1] _ _ _ rfl rfl rfl (ih (y - (mid + 1)) (by omega) W3 (by omega) hW3 (mid + 1) y l2 rfl (by omega) (by omega) (by omega) (by omega) hBr) (fun r m' h' => ?_)
          obtain ⟨L, k1, k2, rfl, rfl⟩ := h'
          conv => whnf
          have lL := k1.1
          obtain ⟨hBL, hf2⟩ := hright L k1 k2
          repeat' ((conv => whnf); first | refine Rng.g ?_ | refine Ob.g ?_ | refine Val.mk q8 hq8 ?_ | refine JoinVC.on ?_ | (refine Br.mk (fun h => ?_) (fun h => ?_) <;> first | (exfalso; omega; done) | skip))
          refine Back.mk (mid - x) _ (by omega) ⟨x, mid, l2, decide (q8 ≤ (y : Int) - (mid : Int)), ap, L, by omega, by omega, by omega, rfl, by omega, hW3.perm (by omega) k1, by omega, hBL, fun R r1 r2 => hfin R (Go.Sort.permIn_trans _ _ _ x y hPW2 (hf2 R r1 r2).1) (hf2 R r1 r2).2, rfl⟩ ?_
          refine ⟨[some 0, some 1], rfl, rfl, ?_, ?_⟩ <;> repeat' (first | exact trivial | exact rfl | exact Iff.rfl | apply And.intro)
      · have hc := usF_no hlt
        repeat' ((conv => whnf); first | refine Rng.g ?_ | refine Ob.g ?_ | refine Ob.e ?_ | refine Ob.m ?_ | refine Ob.mk (Nat.le_of_ble_eq_true rfl) ?_ | refine JoinVC.on ?_ | refine Nils.mk (fun h => ?_) ?_ | refine Val.t ?_ | refine Val.d ?_ | refine Mm.mk ?_ | (refine Br.mk (fun h => ?_) (fun h => ?_) <;> first | (exfalso; omega; done) | (exfalso; simp at h; done) | skip))
        conv => whnf
        refine CallVC.mk [0, 1] _ _ _ rfl rfl rfl (cpeq f l W2 (by omega) hW2 x y p hp (by omega)) (fun r m' h' => ?_)
        obtain ⟨mid, W3, hx3, rfl, rfl⟩ := h'
        conv => whnf
        obtain ⟨g1, g2, hs4, hBm, hf2⟩ := Go.Sort.round_eq (swo_us l) (Go.Sort.partitionEqual_holds (usB l)) hx0 hp.1 hp.2 (by omega) hB2 (Bool.eq_false_iff.2 hlt) hx3
        have hP3 := (Go.Sort.partitionEqual_holds (usB l) (swo_us l) W2 x y p hp.1 hp.2 (by omega) (by
          intro i i1 i2
          rcases hB2 with e | e
          · omega
          · exact (swo_us l).ntrans _ _ _ (e i i1 i2) (Bool.eq_false_iff.2 hlt))).2.2.1
        rw [hx3] at hP3
        repeat' ((conv => whnf); first | refine Rng.g ?_ | refine Ob.g ?_ | refine Ob.e ?_ | refine Ob.m ?_ | refine Ob.mk (Nat.le_of_ble_eq_true rfl) ?_ | refine JoinVC.on ?_ | refine Nils.mk (fun h => ?_) ?_ | refine Val.t ?_ | refine Val.d ?_ | refine Mm.mk ?_ | (refine Br.mk (fun h => ?_) (fun h => ?_) <;> first | (exfalso; omega; done) | (exfalso; simp at h; done) | skip))
        refine Back.mk (y - mid) _ (by omega) ⟨mid, y, l2, true, false, W3, by omega, by omega, by omega, rfl, by omega, hW2.perm (by omega) hP3, by omega, hBm, fun R r1 r2 => hfin R (Go.Sort.permIn_trans _ _ _ x y hPW2 (hf2 R r1 r2).1) (hf2 R r1 r2).2, rfl⟩ ?_
        refine ⟨[some 0, some 1], rfl, rfl, ?_, ?_⟩ <;> repeat' (first | exact trivial | exact rfl | exact Iff.rfl | apply And.intro)
    | true =>
      by_cases hg1 : gg = 1
      rotate_left
      · skip
        obtain ⟨q8, hq8⟩ : ∃ q : Int, ((y : Int) - (x : Int)).tdiv 8 = q := ⟨_, rfl⟩
        have hq8r : 0 ≤ q8 ∧ q8 ≤ 3 := by
          rw [← hq8, Int.tdiv_eq_ediv_of_nonneg (by omega)]
          omega
        have la := arr_len W2
        by_cases hx0 : 0 < x
        rotate_left
        · repeat' ((conv => whnf); first | refine Rng.g ?_ | refine Ob.g ?_ | refine Ob.e ?_ | refine Ob.m ?_ | refine Ob.mk (Nat.le_of_ble_eq_true rfl) ?_ | refine JoinVC.on ?_ | refine Nils.mk (fun h => ?_) ?_ | refine Val.t ?_ | refine Val.d ?_ | refine Mm.mk ?_ | (refine Br.mk (fun h => ?_) (fun h => ?_) <;> first | (exfalso; omega; done) | (exfalso; simp at h; done) | skip))
          conv => whnf
          refine CallVC.mk [0, 1] _ _ _ rfl rfl rfl (cpart f l W2 (by omega) hW2 x y p hp (by omega)) (fun r m' h' => ?_)
          obtain ⟨mid, ap, W3, hx3, rfl, rfl⟩ := h'
          conv => whnf
          obtain ⟨g1, g2, hs4, hBa, hBr, hleft, hright⟩ := Go.Sort.round_part (swo_us l) (Go.Sort.partition_holds (usB l)) hp.1 hp.2 (by omega) hB2 hx3
          have hP3 := (Go.Sort.partition_holds (usB l) (swo_us l) W2 x y p hp.1 hp.2 (by omega)).2.2.1
          rw [hx3] at hP3
          have hW3 : InA W3 l.length := hW2.perm (by omega) hP3
          by_cases hlr : mid - x < y - mid
          · repeat' ((conv => whnf); first | refine Rng.g ?_ | refine Ob.g ?_ | refine Val.mk q8 hq8 ?_ | refine JoinVC.on ?_ | (refine Br.mk (fun h => ?_) (fun h => ?_) <;> first | (exfalso; omega; done) | skip))
            conv => whnf
            refine CallVC.mk [0, 1] _ _ _ rfl rfl rfl (ih (mid - x) (by omega) W3 (by omega) hW3 x mid l2 rfl (by omega) (by omega) (by omega) (by omega) hBa) (fun r m' h' => ?_)
            obtain ⟨L, k1, k2, rfl, rfl⟩ := h'
            conv => whnf
            have lL := k1.1
            obtain ⟨hBL, hf2⟩ := hleft L k1 k2
            repeat' ((conv => whnf); first | refine Rng.g ?_ | refine Ob.g ?_ | refine Val.mk q8 hq8 ?_ | refine JoinVC.on ?_ | (refine Br.mk (fun h => ?_) (fun h => ?_) <;> first | (exfalso; omega; done) | skip))
            refine Back.mk (y - (mid + 1)) _ (by omega) ⟨mid + 1, y, l2, decide (q8 ≤ (mid : Int) - (x : Int)), ap, L, by omega, by omega, by omega, rfl, by omega, hW3.perm (by omega) k1, by omega, hBL, fun R r1 r2 => hfin R (Go.Sort.permIn_trans _ _ _ x y hPW2 (hf2 R r1 r2).1) (hf2 R r1 r2).2, rfl⟩ ?_
            refine ⟨[some 0, some 1], rfl, rfl, ?_, ?_⟩ <;> repeat' (first | exact trivial | exact rfl | exact Iff.rfl | apply And.intro)
          · repeat' ((conv => whnf); first | refine Rng.g ?_ | refine Ob.g ?_ | refine Val.mk q8 hq8 ?_ | refine JoinVC.on ?_ | (refine Br.mk (fun h => ?_) (fun h => ?_) <;> first | (exfalso; omega; done) | skip))
            conv => whnf
            refine CallVC.mk [0, 1] _ _ _ rfl rfl rfl (ih (y - (mid + 1)) (by omega) W3 (by omega) hW3 (mid + 1) y l2 rfl (by omega) (by omega) (by omega) (by omega) hBr) (fun r m' h' => ?_)
            obtain ⟨L, k1, k2, rfl, rfl⟩ := h'
            conv => whnf
            have lL := k1.1
            obtain ⟨hBL, hf2⟩ := hright L k1 k2
            repeat' ((conv => whnf); first | refine Rng.g ?_ | refine Ob.g ?_ | refine Val.mk q8 hq8 ?_ | refine JoinVC.on ?_ | (refine Br.mk (fun h => ?_) (fun h => ?_) <;> first | (exfalso; omega; done) | skip))
            refine Back.mk (mid - x) _ (by omega) ⟨x, mid, l2, decide (q8 ≤ (y : Int) - (mid : Int)), ap, L, by omega, by omega, by omega, rfl, by omega, hW3.perm (by omega) k1, by omega, hBL, fun R r1 r2 => hfin R (Go.Sort.permIn_trans _ _ _ x y hPW2 (hf2 R r1 r2).1) (hf2 R r1 r2).2, rfl⟩ ?_
            refine ⟨[some 0, some 1], rfl, rfl, ?_, ?_⟩ <;> repeat' (first | exact trivial | exact rfl | exact Iff.rfl | apply And.intro)
        have gi : rI (i64s W2.toList) ((x : Int) - 1).toNat 0 = W2[x - 1]! := by rw [show ((x : Int) - 1).toNat = x - 1 by omega]; exact arr_get W2 _
        have gj : rI (i64s W2.toList) ((p : Int)).toNat 0 = W2[p]! := by rw [show ((p : Int)).toNat = p by omega]; exact arr_get W2 _
        repeat' ((conv => whnf); first | rw [gi] | rw [gj] | refine Rng.g ?_ | refine Ob.g ?_ | refine Ob.e ?_ | refine Ob.m ?_ | refine Ob.mk (Nat.le_of_ble_eq_true rfl) ?_ | refine JoinVC.on ?_ | refine Nils.mk (fun h => ?_) ?_ | refine Val.t ?_ | refine Val.d ?_ | refine Mm.mk ?_ | (refine Br.mk (fun h => ?_) (fun h => ?_) <;> first | (exfalso; omega; done) | (exfalso; simp at h; done) | skip))
        conv => whnf
        refine CallVC.mk [1] _ _ _ rfl rfl rfl (s74 f l W2[x - 1]! W2[p]! (hW2 (x - 1) (by omega)) (hW2 p (by omega))) (fun r m' h' => ?_)
        obtain ⟨rfl, rfl⟩ := h'
        conv => whnf
        by_cases hlt : (usB l) W2[x - 1]! W2[p]! = true
        · have hc := usF_yes hlt
          repeat' ((conv => whnf); first | refine Rng.g ?_ | refine Ob.g ?_ | refine Ob.e ?_ | refine Ob.m ?_ | refine Ob.mk (Nat.le_of_ble_eq_true rfl) ?_ | refine JoinVC.on ?_ | refine Nils.mk (fun h => ?_) ?_ | refine Val.t ?_ | refine Val.d ?_ | refine Mm.mk ?_ | (refine Br.mk (fun h => ?_) (fun h => ?_) <;> first | (exfalso; omega; done) | (exfalso; simp at h; done) | skip))
          conv => whnf
          refine CallVC.mk [0, 1] _ _ _ rfl rfl rfl (cpart f l W2 (by omega) hW2 x y p hp (by omega)) (fun r m' h' => ?_)
          obtain ⟨mid, ap, W3, hx3, rfl, rfl⟩ := h'
          conv => whnf
          obtain ⟨g1, g2, hs4, hBa, hBr, hleft, hright⟩ := Go.Sort.round_part (swo_us l) (Go.Sort.partition_holds (usB l)) hp.1 hp.2 (by omega) hB2 hx3
          have hP3 := (Go.Sort.partition_holds (usB l) (swo_us l) W2 x y p hp.1 hp.2 (by omega)).2.2.1
          rw [hx3] at hP3
          have hW3 : InA W3 l.length := hW2.perm (by omega) hP3
          by_cases hlr : mid - x < y - mid
          · repeat' ((conv => whnf); first | refine Rng.g ?_ | refine Ob.g ?_ | refine Val.mk q8 hq8 ?_ | refine JoinVC.on ?_ | (refine Br.mk (fun h => ?_) (fun h => ?_) <;> first | (exfalso; omega; done) | skip))
            conv => whnf
            refine CallVC.mk [0, 1] _ _ _ rfl rfl rfl (ih (mid - x) (by omega) W3 (by omega) hW3 x mid l2 rfl (by omega) (by omega) (by omega) (by omega) hBa) (fun r m' h' => ?_)
            obtain ⟨L, k1, k2, rfl, rfl⟩ := h'
            conv => whnf
            have lL := k1.1
            obtain ⟨hBL, hf2⟩ := hleft L k1 k2
            repeat' ((conv => whnf); first | refine Rng.g ?_ | refine Ob.g ?_ | refine Val.mk q8 hq8 ?_ | refine JoinVC.on ?_ | (refine Br.mk (fun h => ?_) (fun h => ?_) <;> first | (exfalso; omega; done) | skip))
            refine Back.mk (y - (mid + 1)) _ (by omega) ⟨mid + 1, y, l2, decide (q8 ≤ (mid : Int) - (x : Int)), ap, L, by omega, by omega, by omega, rfl, by omega, hW3.perm (by omega) k1, by omega, hBL, fun R r1 r2 => hfin R (Go.Sort.permIn_trans _ _ _ x y hPW2 (hf2 R r1 r2).1) (hf2 R r1 r2).2, rfl⟩ ?_
            refine ⟨[some 0, some 1], rfl, rfl, ?_, ?_⟩ <;> repeat' (first | exact trivial | exact rfl | exact Iff.rfl | apply And.intro)
          · repeat' ((conv => whnf); first | refine Rng.g ?_ | refine Ob.g ?_ | refine Val.mk q8 hq8 ?_ | refine JoinVC.on ?_ | (refine Br.mk (fun h => ?_) (fun h => ?_) <;> first | (exfalso; omega; done) | skip))
            conv => whnf
            refine CallVC.mk [0, 1] _ _ _ rfl rfl rfl (ih (y - (mid + 1)) (by omega) W3 (by omega) hW3 (mid + 1) y l2 rfl (by omega) (by omega) (by omega) (by omega) hBr) (fun r m' h' => ?_)
            obtain ⟨L, k1, k2, rfl, rfl⟩ := h'
            conv => whnf
            have lL := k1.1
            obtain ⟨hBL, hf2⟩ := hright L k1 k2
            repeat' ((conv => whnf); first | refine Rng.g ?_ | refine Ob.g ?_ | refine Val.mk q8 hq8 ?_ | refine JoinVC.on ?_ | (refine Br.mk (fun h => ?_) (fun h => ?_) <;> first | (exfalso; omega; done) | skip))
            refine Back.mk (mid - x) _ (by omega) ⟨x, mid, l2, decide (q8 ≤ (y : Int) - (mid : Int)), ap, L, by omega, by omega, by omega, rfl, by omega, hW3.perm (by omega) k1, by omega, hBL, fun R r1 r2 => hfin R (Go.Sort.permIn_trans _ _ _ x y hPW2 (hf2 R r1 r2).1) (hf2 R r1 r2).2, rfl⟩ ?_
            refine ⟨[some 0, some 1], rfl, rfl, ?_, ?_⟩ <;> repeat' (first | exact trivial | exact rfl | exact Iff.rfl | apply And.intro)
        · have hc := usF_no hlt
          repeat' ((conv => whnf); first | refine Rng.g ?_ | refine Ob.g ?_ | refine Ob.e ?_ | refine Ob.m ?_ | refine Ob.mk (Nat.le_of_ble_eq_true rfl) ?_ | refine JoinVC.on ?_ | refine Nils.mk (fun h => ?_) ?_ | refine Val.t ?_ | refine Val.d ?_ | refine Mm.mk ?_ | (refine Br.mk (fun h => ?_) (fun h => ?_) <;> first | (exfalso; omega; done) | (exfalso; simp at h; done) | skip))
          conv => whnf
          refine CallVC.mk [0, 1] _ _ _ rfl rfl rfl (cpeq f l W2 (by omega) hW2 x y p hp (by omega)) (fun r m' h' => ?_)
          obtain ⟨mid, W3, hx3, rfl, rfl⟩ := h'
          conv => whnf
          obtain ⟨g1, g2, hs4, hBm, hf2⟩ := Go.Sort.round_eq (swo_us l) (Go.Sort.partitionEqual_holds (usB l)) hx0 hp.1 hp.2 (by omega) hB2 (Bool.eq_false_iff.2 hlt) hx3
          have hP3 := (Go.Sort.partitionEqual_holds (usB l) (swo_us l) W2 x y p hp.1 hp.2 (by omega) (by
            intro i i1 i2
            rcases hB2 with e | e
            · omega
            · exact (swo_us l).ntrans _ _ _ (e i i1 i2) (Bool.eq_false_iff.2 hlt))).2.2.1
          rw [hx3] at hP3
          repeat' ((conv => whnf); first | refine Rng.g ?_ | refine Ob.g ?_ | refine Ob.e ?_ | refine Ob.m ?_ | refine Ob.mk (Nat.le_of_ble_eq_true rfl) ?_ | refine JoinVC.on ?_ | refine Nils.mk (fun h => ?_) ?_ | refine Val.t ?_ | refine Val.d ?_ | refine Mm.mk ?_ | (refine Br.mk (fun h => ?_) (fun h => ?_) <;> first | (exfalso; omega; done) | (exfalso; simp at h; done) | skip))
          refine Back.mk (y - mid) _ (by omega) ⟨mid, y, l2, true, true, W3, by omega, by omega, by omega, rfl, by omega, hW2.perm (by omega) hP3, by omega, hBm, fun R r1 r2 => hfin R (Go.Sort.permIn_trans _ _ _ x y hPW2 (hf2 R r1 r2).1) (hf2 R r1 r2).2, rfl⟩ ?_
          refine ⟨[some 0, some 1], rfl, rfl, ?_, ?_⟩ <;> repeat' (first | exact trivial | exact rfl | exact Iff.rfl | apply And.intro)
      subst hg1
      repeat' ((conv => whnf); first | refine Rng.g ?_ | refine Ob.g ?_ | refine Ob.e ?_ | refine Ob.m ?_ | refine Ob.mk (Nat.le_of_ble_eq_true rfl) ?_ | refine JoinVC.on ?_ | refine Nils.mk (fun h => ?_) ?_ | refine Val.t ?_ | refine Val.d ?_ | refine Mm.mk ?_ | (refine Br.mk (fun h => ?_) (fun h => ?_) <;> first | (exfalso; omega; done) | (exfalso; simp at h; done) | skip))
      conv => whnf
      refine CallVC.mk [0, 1] _ _ _ rfl rfl rfl (cpis f l W2 (by omega) hW2 x y (by omega) (by omega) (by omega)) (fun r m' h' => ?_)
      obtain ⟨yy, hy1, hy2, rfl, rfl⟩ := h'
      conv => whnf
      cases yy with
      | true =>
        have hs := (Go.Sort.partialInsertionSort_holds (lt := (usB l)) (swo_us l) W2 x y (by omega) (by omega) hB2).2 hy1.symm
        rw [hy2] at hs
        obtain ⟨q1, q2⟩ := hfin _ hPW2 hs
        repeat' ((conv => whnf); first | refine Rng.g ?_ | refine Ob.g ?_ | refine Ob.e ?_ | refine Ob.m ?_ | refine Ob.mk (Nat.le_of_ble_eq_true rfl) ?_ | refine JoinVC.on ?_ | refine Nils.mk (fun h => ?_) ?_ | refine Val.t ?_ | refine Val.d ?_ | refine Mm.mk ?_ | (refine Br.mk (fun h => ?_) (fun h => ?_) <;> first | (exfalso; omega; done) | (exfalso; simp at h; done) | skip))
        repeat refine Mm.mk ?_
        conv => whnf
        refine EndVC.mk _ rfl _ _ (⟨_, q1, q2, rfl, rfl⟩) ?_
        refine ⟨[some 0, some 1], rfl, rfl, ?_, ?_⟩ <;> repeat' (first | exact trivial | exact rfl | exact Iff.rfl | apply And.intro)
      | false =>
        obtain ⟨q8, hq8⟩ : ∃ q : Int, ((y : Int) - (x : Int)).tdiv 8 = q := ⟨_, rfl⟩
        have hq8r : 0 ≤ q8 ∧ q8 ≤ 3 := by
          rw [← hq8, Int.tdiv_eq_ediv_of_nonneg (by omega)]
          omega
        have la := arr_len W2
        by_cases hx0 : 0 < x
        rotate_left
        · repeat' ((conv => whnf); first | refine Rng.g ?_ | refine Ob.g ?_ | refine Ob.e ?_ | refine Ob.m ?_ | refine Ob.mk (Nat.le_of_ble_eq_true rfl) ?_ | refine JoinVC.on ?_ | refine Nils.mk (fun h => ?_) ?_ | refine Val.t ?_ | refine Val.d ?_ | refine Mm.mk ?_ | (refine Br.mk (fun h => ?_) (fun h => ?_) <;> first | (exfalso; omega; done) | (exfalso; simp at h; done) | skip))
          conv => whnf
          refine CallVC.mk [0, 1] _ _ _ rfl rfl rfl (cpart f l W2 (by omega) hW2 x y p hp (by omega)) (fun r m' h' => ?_)
          obtain ⟨mid, ap, W3, hx3, rfl, rfl⟩ := h'
          conv => whnf
          obtain ⟨g1, g2, hs4, hBa, hBr, hleft, hright⟩ := Go.Sort.round_part (swo_us l) (Go.Sort.partition_holds (usB l)) hp.1 hp.2 (by omega) hB2 hx3
          have hP3 := (Go.Sort.partition_holds (usB l) (swo_us l) W2 x y p hp.1 hp.2 (by omega)).2.2.1
          rw [hx3] at hP3
          have hW3 : InA W3 l.length := hW2.perm (by omega) hP3
          by_cases hlr : mid - x < y - mid
          · repeat' ((conv => whnf); first | refine Rng.g ?_ | refine Ob.g ?_ | refine Val.mk q8 hq8 ?_ | refine JoinVC.on ?_ | (refine Br.mk (fun h => ?_) (fun h => ?_) <;> first | (exfalso; omega; done) | skip))
            conv => whnf
            refine CallVC.mk [0, 1] _ _ _ rfl rfl rfl (ih (mid - x) (by omega) W3 (by omega) hW3 x mid l2 rfl (by omega) (by omega) (by omega) (by omega) hBa) (fun r m' h' => ?_)
            obtain ⟨L, k1, k2, rfl, rfl⟩ := h'
            conv => whnf
            have lL := k1.1
            obtain ⟨hBL, hf2⟩ := hleft L k1 k2
            repeat' ((conv => whnf); first | refine Rng.g ?_ | refine Ob.g ?_ | refine Val.mk q8 hq8 ?_ | refine JoinVC.on ?_ | (refine Br.mk (fun h => ?_) (fun h => ?_) <;> first | (exfalso; omega; done) | skip))
            refine Back.mk (y - (mid + 1)) _ (by omega) ⟨mid + 1, y, l2, decide (q8 ≤ (mid : Int) - (x : Int)), ap, L, by omega, by omega, by omega, rfl, by omega, hW3.perm (by omega) k1, by omega, hBL, fun R r1 r2 => hfin R (Go.Sort.permIn_trans _ _ _ x y hPW2 (hf2 R r1 r2).1) (hf2 R r1 r2).2, rfl⟩ ?_
            refine ⟨[some 0, some 1], rfl, rfl, ?_, ?_⟩ <;> repeat' (first | exact trivial | exact rfl | exact Iff.rfl | apply And.intro)
          · repeat' ((conv => whnf); first | refine Rng.g ?_ | refine Ob.g ?_ | refine Val.mk q8 hq8 ?_ | refine JoinVC.on ?_ | (refine Br.mk (fun h => ?_) (fun h => ?_) <;> first | (exfalso; omega; done) | skip))
            conv => whnf
            refine CallVC.mk [0, 1] _ _ _ rfl rfl rfl (ih (y - (mid + 1)) (by omega) W3 (by omega) hW3 (mid + 1) y l2 rfl (by omega) (by omega) (by omega) (by omega) hBr) (fun r m' h' => ?_)
            obtain ⟨L, k1, k2, rfl, rfl⟩ := h'
            conv => whnf
            have lL := k1.1
            obtain ⟨hBL, hf2⟩ := hright L k1 k2
            repeat' ((conv => whnf); first | refine Rng.g ?_ | refine Ob.g ?_ | refine Val.mk q8 hq8 ?_ | refine JoinVC.on ?_ | (refine Br.mk (fun h => ?_) (fun h => ?_) <;> first | (exfalso; omega; done) | skip))
            refine Back.mk (mid - x) _ (by omega) ⟨x, mid, l2, decide (q8 ≤ (y : Int) - (mid : Int)), ap, L, by omega, by omega, by omega, rfl, by omega, hW3.perm (by omega) k1, by omega, hBL, fun R r1 r2 => hfin R (Go.Sort.permIn_trans _ _ _ x y hPW2 (hf2 R r1 r2).1) (hf2 R r1 r2).2, rfl⟩ ?_
            refine ⟨[some 0, some 1], rfl, rfl, ?_, ?_⟩ <;> repeat' (first | exact trivial | exact rfl | exact Iff.rfl | apply And.intro)
        have gi : rI (i64s W2.toList) ((x : Int) - 1).toNat 0 = W2[x - 1]! := by rw [show ((x : Int) - 1).toNat = x - 1 by omega]; exact arr_get W2 _
        have gj : rI (i64s W2.toList) ((p : Int)).toNat 0 = W2[p]! := by rw [show ((p : Int)).toNat = p by omega]; exact arr_get W2 _
        repeat' ((conv => whnf); first | rw [gi] | rw [gj] | refine Rng.g ?_ | refine Ob.g ?_ | refine Ob.e ?_ | refine Ob.m ?_ | refine Ob.mk (Nat.le_of_ble_eq_true rfl) ?_ | refine JoinVC.on ?_ | refine Nils.mk (fun h => ?_) ?_ | refine Val.t ?_ | refine Val.d ?_ | refine Mm.mk ?_ | (refine Br.mk (fun h => ?_) (fun h => ?_) <;> first | (exfalso; omega; done) | (exfalso; simp at h; done) | skip))
        conv => whnf
        refine CallVC.mk [1] _ _ _ rfl rfl rfl (s74 f l W2[x - 1]! W2[p]! (hW2 (x - 1) (by omega)) (hW2 p (by omega))) (fun r m' h' => ?_)
        obtain ⟨rfl, rfl⟩ := h'
        conv => whnf
        by_cases hlt : (usB l) W2[x - 1]! W2[p]! = true
        · have hc := usF_yes hlt
          repeat' ((conv => whnf); first | refine Rng.g ?_ | refine Ob.g ?_ | refine Ob.e ?_ | refine Ob.m ?_ | refine Ob.mk (Nat.le_of_ble_eq_true rfl) ?_ | refine JoinVC.on ?_ | refine Nils.mk (fun h => ?_) ?_ | refine Val.t ?_ | refine Val.d ?_ | refine Mm.mk ?_ | (refine Br.mk (fun h => ?_) (fun h => ?_) <;> first | (exfalso; omega; done) | (exfalso; simp at h; done) | skip))
          conv => whnf
          refine CallVC.mk [0, 1] _ _ _ rfl rfl rfl (cpart f l W2 (by omega) hW2 x y p hp (by omega)) (fun r m' h' => ?_)
          obtain ⟨mid, ap, W3, hx3, rfl, rfl⟩ := h'
          conv => whnf
          obtain ⟨g1, g2, hs4, hBa, hBr, hleft, hright⟩ := Go.Sort.round_part (swo_us l) (Go.Sort.partition_holds (usB l)) hp.1 hp.2 (by omega) hB2 hx3
          have hP3 := (Go.Sort.partition_holds (usB l) (swo_us l) W2 x y p hp.1 hp.2 (by omega)).2.2.1
          rw [hx3] at hP3
          have hW3 : InA W3 l.length := hW2.perm (by omega) hP3
          by_cases hlr : mid - x < y - mid
          · repeat' ((conv => whnf); first | refine Rng.g ?_ | refine Ob.g ?_ | refine Val.mk q8 hq8 ?_ | refine JoinVC.on ?_ | (refine Br.mk (fun h => ?_) (fun h => ?_) <;> first | (exfalso; omega; done) | skip))
            conv => whnf
            refine CallVC.mk [0, 1] _ _ _ rfl rfl rfl (ih (mid - x) (by omega) W3 (by omega) hW3 x mid l2 rfl (by omega) (by omega) (by omega) (by omega) hBa) (fun r m' h' => ?_)
            obtain ⟨L, k1, k2, rfl, rfl⟩ := h'
            conv => whnf
            have lL := k1.1
            obtain ⟨hBL, hf2⟩ := hleft L k1 k2
            repeat' ((conv => whnf); first | refine Rng.g ?_ | refine Ob.g ?_ | refine Val.mk q8 hq8 ?_ | refine JoinVC.on ?_ | (refine Br.mk (fun h => ?_) (fun h => ?_) <;> first | (exfalso; omega; done) | skip))
            refine Back.mk (y - (mid + 1)) _ (by omega) ⟨mid + 1, y, l2, decide (q8 ≤ (mid : Int) - (x : Int)), ap, L, by omega, by omega, by omega, rfl, by omega, hW3.perm (by omega) k1, by omega, hBL, fun R r1 r2 => hfin R (Go.Sort.permIn_trans _ _ _ x y hPW2 (hf2 R r1 r2).1) (hf2 R r1 r2).2, rfl⟩ ?_
            refine ⟨[some 0, some 1], rfl, rfl, ?_, ?_⟩ <;> repeat' (first | exact trivial | exact rfl | exact Iff.rfl | apply And.intro)
          · repeat' ((conv => whnf); first | refine Rng.g ?_ | refine Ob.g ?_ | refine Val.mk q8 hq8 ?_ | refine JoinVC.on ?_ | (refine Br.mk (fun h => ?_) (fun h => ?_) <;> first | (exfalso; omega; done) | skip))
            conv => whnf
            refine CallVC.mk [0, 1] _ _ _ rfl rfl rfl (ih (y - (mid + 1)) (by omega) W3 (by omega) hW3 (mid + 1) y l2 rfl (by omega) (by omega) (by omega) (by omega) hBr) (fun r m' h' => ?_)
            obtain ⟨L, k1, k2, rfl, rfl⟩ := h'
            conv => whnf
            have lL := k1.1
            obtain ⟨hBL, hf2⟩ := hright L k1 k2
            repeat' ((conv => whnf); first | refine Rng.g ?_ | refine Ob.g ?_ | refine Val.mk q8 hq8 ?_ | refine JoinVC.on ?_ | (refine Br.mk (fun h => ?_) (fun h => ?_) <;> first | (exfalso; omega; done) | skip))
            refine Back.mk (mid - x) _ (by omega) ⟨x, mid, l2, decide (q8 ≤ (y : Int) - (mid : Int)), ap, L, by omega, by omega, by omega, rfl, by omega, hW3.perm (by omega) k1, by omega, hBL, fun R r1 r2 => hfin R (Go.Sort.permIn_trans _ _ _ x y hPW2 (hf2 R r1 r2).1) (hf2 R r1 r2).2, rfl⟩ ?_
            refine ⟨[some 0, some 1], rfl, rfl, ?_, ?_⟩ <;> repeat' (first | exact trivial | exact rfl | exact Iff.rfl | apply And.intro)
        · have hc := usF_no hlt
          repeat' ((conv => whnf); first | refine Rng.g ?_ | refine Ob.g ?_ | refine Ob.e ?_ | refine Ob.m ?_ | refine Ob.mk (Nat.le_of_ble_eq_true rfl) ?_ | refine JoinVC.on ?_ | refine Nils.mk (fun h => ?_) ?_ | refine Val.t ?_ | refine Val.d ?_ | refine Mm.mk ?_ | (refine Br.mk (fun h => ?_) (fun h => ?_) <;> first | (exfalso; omega; done) | (exfalso; simp at h; done) | skip))
          conv => whnf
          refine CallVC.mk [0, 1] _ _ _ rfl rfl rfl (cpeq f l W2 (by omega) hW2 x y p hp (by omega)) (fun r m' h' => ?_)
          obtain ⟨mid, W3, hx3, rfl, rfl⟩ := h'
          conv => whnf
          obtain ⟨g1, g2, hs4, hBm, hf2⟩ := Go.Sort.round_eq (swo_us l) (Go.Sort.partitionEqual_holds (usB l)) hx0 hp.1 hp.2 (by omega) hB2 (Bool.eq_false_iff.2 hlt) hx3
          have hP3 := (Go.Sort.partitionEqual_holds (usB l) (swo_us l) W2 x y p hp.1 hp.2 (by omega) (by
            intro i i1 i2
            rcases hB2 with e | e
            · omega
            · exact (swo_us l).ntrans _ _ _ (e i i1 i2) (Bool.eq_false_iff.2 hlt))).2.2.1
          rw [hx3] at hP3
          repeat' ((conv => whnf); first | refine Rng.g ?_ | refine Ob.g ?_ | refine Ob.e ?_ | refine Ob.m ?_ | refine Ob.mk (Nat.le_of_ble_eq_true rfl) ?_ | refine JoinVC.on ?_ | refine Nils.mk (fun h => ?_) ?_ | refine Val.t ?_ | refine Val.d ?_ | refine Mm.mk ?_ | (refine Br.mk (fun h => ?_) (fun h => ?_) <;> first | (exfalso; omega; done) | (exfalso; simp at h; done) | skip))
          refine Back.mk (y - mid) _ (by omega) ⟨mid, y, l2, true, true, W3, by omega, by omega, by omega, rfl, by omega, hW2.perm (by omega) hP3, by omega, hBm, fun R r1 r2 => hfin R (Go.Sort.permIn_trans _ _ _ x y hPW2 (hf2 R r1 r2).1) (hf2 R r1 r2).2, rfl⟩ ?_
          refine ⟨[some 0, some 1], rfl, rfl, ?_, ?_⟩ <;> repeat' (first | exact trivial | exact rfl | exact Iff.rfl | apply And.intro)
theorem s73u (f : Fmt) (l : List Sng) (O : List Int) (hO : OrdOK l.length O) (hl : O.length ≤ 24) : HSpec Try.prog 73 [.one (.own 0), .one (.bnd 74 false [.ptr 1 0])] [rowOd O, bPl f l] (fun r m' => r = .tup [] ∧ m' = [some (rowOd (usu l O)), some (bPl f l)]) := by
  have lo := i64s_len O
  have hbl : 0 ≤ bl (O.length : Int) ∧ bl (O.length : Int) ≤ 5 := by unfold bl; (repeat' split) <;> omega
  obtain ⟨k, hk⟩ : ∃ k : Nat, bl (O.length : Int) = (k : Int) := ⟨(bl (O.length : Int)).toNat, by omega⟩
  have c := s80b (O.length : Int) (by omega)
  rw [hk] at c
  have hIn : InA O.toArray l.length := fun i hi => by
    rw [← arr_getD]
    exact hO.rng i (by simpa using hi)
  have cp := cpdq f l O.length O.toArray (by simp; omega) hIn 0 O.length k (by omega) (by omega) (by simp) (by omega) (by omega) (.inl rfl)
  refine spec_of pMix (O := []) Try.func73 (c := bodyOf Try.f73) rfl (by kernel_rfl) (by kernel_rfl) Try.ntmps73 (res := []) (by kernel_rfl) ?_
  repeat' ((conv => whnf); first | rw [lo] | refine Rng.g ?_ | refine Ob.g ?_ | refine Ob.e ?_ | refine Ob.m ?_ | refine Ob.mk (Nat.le_of_ble_eq_true rfl) ?_ | refine JoinVC.on ?_ | refine Nils.mk (fun h => ?_) ?_ | refine Val.t ?_ | refine Val.d ?_ | refine Mm.mk ?_ | (refine Br.mk (fun h => ?_) (fun h => ?_) <;> first | (exfalso; omega; done) | (exfalso; simp at h; done) | skip))
  conv => whnf
  refine CallVC.mk [] _ _ _ rfl rfl rfl (c) (fun r m' h' => ?_)
  obtain ⟨rfl, rfl⟩ := h'
  conv => whnf
  repeat' ((conv => whnf); first | refine Rng.g ?_ | refine Ob.g ?_ | refine Ob.e ?_ | refine Ob.m ?_ | refine Ob.mk (Nat.le_of_ble_eq_true rfl) ?_ | refine JoinVC.on ?_ | refine Nils.mk (fun h => ?_) ?_ | refine Val.t ?_ | refine Val.d ?_ | refine Mm.mk ?_ | (refine Br.mk (fun h => ?_) (fun h => ?_) <;> first | (exfalso; omega; done) | (exfalso; simp at h; done) | skip))
  conv => whnf
  refine CallVC.mk [0, 1] _ _ _ rfl rfl rfl (cp) (fun r m' h' => ?_)
  obtain ⟨W, h1, h2, rfl, rfl⟩ := h'
  conv => whnf
  have hsz : W.size = O.length := by have := h1.1; simpa using this
  have hp : W.toList.Perm O := by
    have := perm_in (d := O.toArray) (d' := W) (by simpa using h1)
    simpa using this
  have hn : W.toList.Nodup := hp.nodup_iff.2 hO.nodup
  have hs : SrtU l W.toList := by
    unfold SrtU
    rw [List.pairwise_iff_getElem]
    intro i j hi hj hij
    have e1 : W.toList[i] = W[i]! := by rw [← arr_getD, List.getD_eq_getElem?_getD, List.getElem?_eq_getElem hi]; rfl
    have e2 : W.toList[j] = W[j]! := by rw [← arr_getD, List.getD_eq_getElem?_getD, List.getElem?_eq_getElem hj]; rfl
    have h3 := h2 i j (Nat.zero_le _) hij (by rw [Array.length_toList] at hj; omega)
    have hne : W[i]! ≠ W[j]! := fun e => by
      have := (List.getElem_inj hn (h₀ := hi) (h₁ := hj)).1 (by rw [e1, e2, e])
      omega
    rw [e1, e2]
    rcases usB_tot (l := l) hne with h | h
    · exact h
    · rw [h3] at h; cases h
  rw [usu_uniq hO.nodup hs hp]
  repeat' ((conv => whnf); first | refine Rng.g ?_ | refine Ob.g ?_ | refine Ob.e ?_ | refine Ob.m ?_ | refine Ob.mk (Nat.le_of_ble_eq_true rfl) ?_ | refine JoinVC.on ?_ | refine Nils.mk (fun h => ?_) ?_ | refine Val.t ?_ | refine Val.d ?_ | refine Mm.mk ?_ | (refine Br.mk (fun h => ?_) (fun h => ?_) <;> first | (exfalso; omega; done) | (exfalso; simp at h; done) | skip))
  repeat refine Mm.mk ?_
  refine EndVC.mk _ rfl _ _ ⟨rfl, rfl⟩ ?_
  refine ⟨[some 0, some 1], rfl, rfl, ?_, ?_⟩ <;> repeat' (first | exact trivial | exact rfl | exact Iff.rfl | apply And.intro)
end Go.Sx

namespace Go.Sx
open Go Go.Proofs
set_option maxRecDepth 10000
set_option maxHeartbeats 16000000
theorem s95 (x y : Int) : HSpec Try.prog 95 [I x, I y] [] (fun r m' => r = xP (x < y) ∧ m' = []) := by
  refine spec_of pMix (O := []) Try.func95 (c := bodyOf Try.f95) rfl (by kernel_rfl) (by kernel_rfl) Try.ntmps95 (res := [.tmp 4]) (by kernel_rfl) ?_
  repeat' ((conv => whnf); first | refine Rng.g ?_ | refine Ob.g ?_ | refine Ob.e ?_ | refine Ob.m ?_ | refine Ob.mk (Nat.le_of_ble_eq_true rfl) ?_ | refine JoinVC.on ?_ | refine Nils.mk (fun h => ?_) ?_ | refine Val.t ?_ | refine Val.d ?_ | refine Mm.mk ?_ | refine CallVC.pure rfl (s111 x) ?_ | refine CallVC.pure rfl (s111 y) ?_ | refine CallVC0.pure rfl (s111 x) ?_ | refine CallVC0.pure rfl (s111 y) ?_ | (refine Br.mk (fun h => ?_) (fun h => ?_) <;> first | (exfalso; omega; done) | (exfalso; simp at h; done) | skip))
  all_goals
    repeat refine Mm.mk ?_
    refine EndVC.mk _ rfl _ _ ⟨rfl, rfl⟩ ?_
    refine ⟨[], rfl, rfl, ?_, ?_⟩ <;> repeat' (first | exact trivial | exact rfl | exact Iff.rfl | apply And.intro)
/-! ### Insertion -/
theorem oins (fl : Bool) (n : Nat) (d : Array Int) (hz : d.size ≤ 1000) (hI : n ≤ d.size) (a b : Nat) (hab : a ≤ b) (hb : b ≤ n) : HSpec Try.prog 89 [.one (.vw 0 Try.t3.size 0 n fl), I (a : Int), I (b : Int)] [rowA (d)] (fun r m' => r = .tup [] ∧ m' = [some (rowA (Go.Sort.insertionSort Go.Sort.ltInt d a b))]) := by
  obtain ⟨Z, hZ⟩ : ∃ Z, Go.Sort.insOuter Go.Sort.ltInt a b (a + 1) d = Z := ⟨_, rfl⟩
  have hZ' : Go.Sort.insertionSort Go.Sort.ltInt d a b = Z := hZ
  rw [hZ']
  refine spec_of pMix (O := [(6, ([], [⟨0, [], []⟩, ⟨1, [], []⟩, ⟨2, [], []⟩, ⟨3, [], []⟩, ⟨4, [], []⟩, ⟨5, [], []⟩, ⟨6, [], []⟩, ⟨7, [], []⟩, ⟨8, [], []⟩, ⟨9, [], []⟩, ⟨10, [], []⟩, ⟨11, [], []⟩, ⟨12, [], []⟩, ⟨13, [], []⟩, ⟨14, [], []⟩, ⟨15, [2, 3, 4], []⟩, ⟨16, [], []⟩, ⟨17, [], []⟩]))]) Try.func89 (c := bodyOf Try.f89) rfl (by kernel_rfl) (by kernel_rfl) Try.ntmps89 (res := []) (by kernel_rfl) ?_
  repeat' ((conv => whnf); first | refine Rng.g ?_ | refine Ob.g ?_ | refine Ob.e ?_ | refine Ob.m ?_ | refine Ob.mk (Nat.le_of_ble_eq_true rfl) ?_ | refine JoinVC.on ?_ | refine Nils.mk (fun h => ?_) ?_ | refine Val.t ?_ | refine Val.d ?_ | refine Mm.mk ?_ | (refine Br.mk (fun h => ?_) (fun h => ?_) <;> first | (exfalso; omega; done) | (exfalso; simp at h; done) | skip))
  refine LoopVC.mk (fun m st => ∃ (i : Nat) (V : Array Int), a + 1 ≤ i ∧ i ≤ b + 1 ∧ m = b + 1 - i ∧ V.size = d.size ∧ n ≤ V.size ∧ Go.Sort.insOuter Go.Sort.ltInt a b i V = Z ∧ st = ⟨1, envA 49 [(0, .x (.one (.vw 0 Try.t3.size 0 n fl))), (1, .x (I (a : Int))), (2, .x (I (b : Int))), (6, .int .i64 (i : Int))], [some (rowA (V))]⟩) _ _ ⟨a + 1, d, Nat.le_refl _, by omega, rfl, rfl, hI, hZ, rfl⟩ ?_ ?_
  · refine ⟨[some 0], rfl, rfl, ?_, ?_⟩ <;> repeat' (first | exact trivial | exact rfl | exact Iff.rfl | apply And.intro)
  rintro m _ ⟨i, V, h1, h2, hm, lV, hV, hi, rfl⟩
  have la := arr_len V
  by_cases hib : i < b
  rotate_left
  · rw [insO_no V hib] at hi
    subst hi
    repeat' ((conv => whnf); first | refine Rng.g ?_ | refine Ob.g ?_ | refine Ob.e ?_ | refine Ob.m ?_ | refine Ob.mk (Nat.le_of_ble_eq_true rfl) ?_ | refine JoinVC.on ?_ | refine Nils.mk (fun h => ?_) ?_ | refine Val.t ?_ | refine Val.d ?_ | refine Mm.mk ?_ | (refine Br.mk (fun h => ?_) (fun h => ?_) <;> first | (exfalso; omega; done) | (exfalso; simp at h; done) | skip))
    repeat refine Mm.mk ?_
    refine EndVC.mk _ rfl _ _ ⟨rfl, rfl⟩ ?_
    refine ⟨[some 0], rfl, rfl, ?_, ?_⟩ <;> repeat' (first | exact trivial | exact rfl | exact Iff.rfl | apply And.intro)
  rw [insO_yes V hib] at hi
  obtain ⟨Y, hY⟩ : ∃ Y, Go.Sort.insInner Go.Sort.ltInt a i V = Y := ⟨_, rfl⟩
  rw [hY] at hi
  repeat' ((conv => whnf); first | refine Rng.g ?_ | refine Ob.g ?_ | refine Ob.e ?_ | refine Ob.m ?_ | refine Ob.mk (Nat.le_of_ble_eq_true rfl) ?_ | refine JoinVC.on ?_ | refine Nils.mk (fun h => ?_) ?_ | refine Val.t ?_ | refine Val.d ?_ | refine Mm.mk ?_ | (refine Br.mk (fun h => ?_) (fun h => ?_) <;> first | (exfalso; omega; done) | (exfalso; simp at h; done) | skip))
  refine LoopVC.mk (fun m st => ∃ (j : Nat) (W : Array Int), j ≤ i ∧ m = j ∧ W.size = d.size ∧ n ≤ W.size ∧ Go.Sort.insInner Go.Sort.ltInt a j W = Y ∧ st = ⟨1, envA 49 [(0, .x (.one (.vw 0 Try.t3.size 0 n fl))), (1, .x (I (a : Int))), (2, .x (I (b : Int))), (6, .int .i64 (i : Int)), (7, .int .i64 (j : Int))], [some (rowA (W))]⟩) _ _ ⟨i, V, Nat.le_refl _, rfl, lV, hV, hY, rfl⟩ ?_ ?_
  · refine ⟨[some 0], rfl, rfl, ?_, ?_⟩ <;> repeat' (first | exact trivial | exact rfl | exact Iff.rfl | apply And.intro)
  clear hY hV lV la V
  rintro m2 _ ⟨j, V, hj, hm2, lV, hV, hY, rfl⟩
  have la := arr_len V
  by_cases haj : a < j
  rotate_left
  · rw [insI_stop V (by omega)] at hY
    subst hY
    repeat' ((conv => whnf); first | refine Rng.g ?_ | refine Ob.g ?_ | refine Ob.e ?_ | refine Ob.m ?_ | refine Ob.mk (Nat.le_of_ble_eq_true rfl) ?_ | refine JoinVC.on ?_ | refine Nils.mk (fun h => ?_) ?_ | refine Val.t ?_ | refine Val.d ?_ | refine Mm.mk ?_ | (refine Br.mk (fun h => ?_) (fun h => ?_) <;> first | (exfalso; omega; done) | (exfalso; simp at h; done) | skip))
    refine Back.mk (b + 1 - (i + 1)) _ (by omega) ⟨i + 1, V, by omega, by omega, rfl, lV, hV, hi, rfl⟩ ?_
    refine ⟨[some 0], rfl, rfl, ?_, ?_⟩ <;> repeat' (first | exact trivial | exact rfl | exact Iff.rfl | apply And.intro)
  obtain ⟨k, rfl⟩ : ∃ k, j = k + 1 := ⟨j - 1, by omega⟩
  have g1 : rI (i64s V.toList) (((k + 1 : Nat) : Int)).toNat 0 = V[k + 1]! := by rw [show (((k + 1 : Nat) : Int)).toNat = k + 1 by omega]; exact arr_get V _
  have g2 : rI (i64s V.toList) (((k + 1 : Nat) : Int) - 1).toNat 0 = V[k]! := by rw [show (((k + 1 : Nat) : Int) - 1).toNat = k by omega]; exact arr_get V _
  repeat' ((conv => whnf); first | rw [g1] | rw [g2] | refine Rng.g ?_ | refine Ob.g ?_ | refine Ob.e ?_ | refine Ob.m ?_ | refine Ob.mk (Nat.le_of_ble_eq_true rfl) ?_ | refine JoinVC.on ?_ | refine Nils.mk (fun h => ?_) ?_ | refine Val.t ?_ | refine Val.d ?_ | refine Mm.mk ?_ | (refine Br.mk (fun h => ?_) (fun h => ?_) <;> first | (exfalso; omega; done) | (exfalso; simp at h; done) | skip))
  conv => whnf
  refine CallVC.mk [] _ _ _ rfl rfl rfl (s95 V[k + 1]! V[k]!) (fun r m' h' => ?_)
  obtain ⟨rfl, rfl⟩ := h'
  conv => whnf
  by_cases hlt : Go.Sort.ltInt V[k + 1]! V[k]! = true
  · have hc := int_yes hlt
    have u1 : updRow (i64s V.toList) (((k + 1 : Nat) : Int)).toNat 0 [Cell.int V[k]!] = i64s (V.toList.set (k + 1) V[k]!) := by rw [show (((k + 1 : Nat) : Int)).toNat = k + 1 by omega]; exact arr_up1 V _ _ (by omega)
    have u2 : updRow (i64s (V.toList.set (k + 1) V[k]!)) (((k + 1 : Nat) : Int) - 1).toNat 0 [Cell.int V[k + 1]!] = i64s (Go.Sort.swp V (k + 1) (k)).toList := by rw [show (((k + 1 : Nat) : Int) - 1).toNat = k by omega]; exact arr_up2 V _ _ (by omega)
    have la1 := arr_l1 V (k + 1) V[k]!
    have la2 := arr_len (Go.Sort.swp V (k + 1) (k))
    have ls2 := Go.Sort.size_swp V (k + 1) (k)
    rw [insI_yes V haj hlt] at hY
    repeat' ((conv => whnf); first | rw [g1] | rw [g2] | rw [u1] | rw [u2] | refine Rng.g ?_ | refine Ob.g ?_ | refine Ob.e ?_ | refine Ob.m ?_ | refine Ob.mk (Nat.le_of_ble_eq_true rfl) ?_ | refine JoinVC.on ?_ | refine Nils.mk (fun h => ?_) ?_ | refine Val.t ?_ | refine Val.d ?_ | refine Mm.mk ?_ | (refine Br.mk (fun h => ?_) (fun h => ?_) <;> first | (exfalso; omega; done) | (exfalso; simp at h; done) | skip))
    refine Back.mk k _ (by omega) ⟨k, Go.Sort.swp V (k + 1) k, by omega, rfl, by omega, by omega, hY, rfl⟩ ?_
    refine ⟨[some 0], rfl, rfl, ?_, ?_⟩ <;> repeat' (first | exact trivial | exact rfl | exact Iff.rfl | apply And.intro)
    all_goals omega
  · have hc := int_no hlt
    rw [insI_no V hlt] at hY
    subst hY
    repeat' ((conv => whnf); first | rw [g1] | rw [g2] | refine Rng.g ?_ | refine Ob.g ?_ | refine Ob.e ?_ | refine Ob.m ?_ | refine Ob.mk (Nat.le_of_ble_eq_true rfl) ?_ | refine JoinVC.on ?_ | refine Nils.mk (fun h => ?_) ?_ | refine Val.t ?_ | refine Val.d ?_ | refine Mm.mk ?_ | (refine Br.mk (fun h => ?_) (fun h => ?_) <;> first | (exfalso; omega; done) | (exfalso; simp at h; done) | skip))
    refine Back.mk (b + 1 - (i + 1)) _ (by omega) ⟨i + 1, V, by omega, by omega, rfl, lV, hV, hi, rfl⟩ ?_
    refine ⟨[some 0], rfl, rfl, ?_, ?_⟩ <;> repeat' (first | exact trivial | exact rfl | exact Iff.rfl | apply And.intro)
/-! ### Heaps -/
theorem osd (fl : Bool) (n : Nat) (d : Array Int) (hz : d.size ≤ 1000) (hI : n ≤ d.size) (lo hi first : Nat) (hf : first + hi ≤ n) (hl : lo ≤ 1000) : HSpec Try.prog 114 [.one (.vw 0 Try.t3.size 0 n fl), I (lo : Int), I (hi : Int), I (first : Int)] [rowA (d)] (fun r m' => r = .tup [] ∧ m' = [some (rowA (Go.Sort.siftDown Go.Sort.ltInt hi first lo d))]) := by
  obtain ⟨Z, hZ⟩ : ∃ Z, Go.Sort.siftDown Go.Sort.ltInt hi first lo d = Z := ⟨_, rfl⟩
  rw [hZ]
  refine spec_of pMix (O := [(6, ([], [⟨0, [], []⟩, ⟨1, [], []⟩, ⟨2, [], []⟩, ⟨3, [], []⟩, ⟨4, [], []⟩, ⟨5, [], []⟩, ⟨6, [], []⟩, ⟨7, [], []⟩, ⟨8, [], []⟩, ⟨9, [], []⟩, ⟨10, [], []⟩, ⟨11, [], []⟩, ⟨12, [], []⟩, ⟨13, [], []⟩, ⟨14, [], []⟩, ⟨15, [], []⟩, ⟨16, [], []⟩, ⟨17, [], []⟩, ⟨18, [], []⟩, ⟨19, [], []⟩, ⟨20, [], []⟩, ⟨21, [4, 5, 6, 7], []⟩, ⟨22, [], []⟩, ⟨23, [], []⟩]))]) Try.func114 (c := bodyOf Try.f114) rfl (by kernel_rfl) (by kernel_rfl) Try.ntmps114 (res := []) (by kernel_rfl) ?_
  repeat' ((conv => whnf); first | refine Rng.g ?_ | refine Ob.g ?_ | refine Ob.e ?_ | refine Ob.m ?_ | refine Ob.mk (Nat.le_of_ble_eq_true rfl) ?_ | refine JoinVC.on ?_ | refine Nils.mk (fun h => ?_) ?_ | refine Val.t ?_ | refine Val.d ?_ | refine Mm.mk ?_ | (refine Br.mk (fun h => ?_) (fun h => ?_) <;> first | (exfalso; omega; done) | (exfalso; simp at h; done) | skip))
  refine LoopVC.mk (fun m st => ∃ (root : Nat) (V : Array Int), (root = lo ∨ root < hi) ∧ m = hi - root ∧ V.size = d.size ∧ n ≤ V.size ∧ Go.Sort.siftDown Go.Sort.ltInt hi first root V = Z ∧ st = ⟨1, envA 76 [(0, .x (.one (.vw 0 Try.t3.size 0 n fl))), (1, .x (I (lo : Int))), (2, .x (I (hi : Int))), (3, .x (I (first : Int))), (8, .int .i64 (root : Int))], [some (rowA (V))]⟩) _ _ ⟨lo, d, .inl rfl, rfl, rfl, hI, hZ, rfl⟩ ?_ ?_
  · refine ⟨[some 0], rfl, rfl, ?_, ?_⟩ <;> repeat' (first | exact trivial | exact rfl | exact Iff.rfl | apply And.intro)
  clear hZ
  rintro m _ ⟨root, V, hr, hm, lV, hV, hZ, rfl⟩
  have la := arr_len V
  by_cases hs : 2 * root + 1 ≥ hi
  · rw [sd_stop V hs] at hZ
    subst hZ
    repeat' ((conv => whnf); first | refine Rng.g ?_ | refine Ob.g ?_ | refine Ob.e ?_ | refine Ob.m ?_ | refine Ob.mk (Nat.le_of_ble_eq_true rfl) ?_ | refine JoinVC.on ?_ | refine Nils.mk (fun h => ?_) ?_ | refine Val.t ?_ | refine Val.d ?_ | refine Mm.mk ?_ | (refine Br.mk (fun h => ?_) (fun h => ?_) <;> first | (exfalso; omega; done) | (exfalso; simp at h; done) | skip))
    repeat refine Mm.mk ?_
    refine EndVC.mk _ rfl _ _ ⟨rfl, rfl⟩ ?_
    refine ⟨[some 0], rfl, rfl, ?_, ?_⟩ <;> repeat' (first | exact trivial | exact rfl | exact Iff.rfl | apply And.intro)
  have hs' : 2 * root + 1 < hi := by omega
  have g0 : rI (i64s V.toList) ((first : Int) + (root : Int)).toNat 0 = V[first + root]! := by rw [show ((first : Int) + (root : Int)).toNat = first + root by omega]; exact arr_get V _
  have g1 : rI (i64s V.toList) ((first : Int) + (2 * (root : Int) + 1)).toNat 0 = V[first + (2 * root + 1)]! := by rw [show ((first : Int) + (2 * (root : Int) + 1)).toNat = first + (2 * root + 1) by omega]; exact arr_get V _
  have g2 : rI (i64s V.toList) ((first : Int) + (2 * (root : Int) + 1) + 1).toNat 0 = V[first + (2 * root + 1) + 1]! := by rw [show ((first : Int) + (2 * (root : Int) + 1) + 1).toNat = first + (2 * root + 1) + 1 by omega]; exact arr_get V _
  have g3 : rI (i64s V.toList) ((first : Int) + (2 * (root : Int) + 1 + 1)).toNat 0 = V[first + (2 * root + 2)]! := by rw [show ((first : Int) + (2 * (root : Int) + 1 + 1)).toNat = first + (2 * root + 2) by omega]; exact arr_get V _
  by_cases hr2 : 2 * root + 2 < hi
  rotate_left
  · have hno : ¬ (2 * root + 2 < hi ∧ Go.Sort.ltInt V[first + (2 * root + 1)]! V[first + (2 * root + 1) + 1]! = true) := fun h => hr2 h.1
    repeat' ((conv => whnf); first | rw [g0] | rw [g1] | refine Rng.g ?_ | refine Ob.g ?_ | refine Ob.e ?_ | refine Ob.m ?_ | refine Ob.mk (Nat.le_of_ble_eq_true rfl) ?_ | refine JoinVC.on ?_ | refine Nils.mk (fun h => ?_) ?_ | refine Val.t ?_ | refine Val.d ?_ | refine Mm.mk ?_ | (refine Br.mk (fun h => ?_) (fun h => ?_) <;> first | (exfalso; omega; done) | (exfalso; simp at h; done) | skip))
    conv => whnf
    refine CallVC.mk [] _ _ _ rfl rfl rfl (s95 V[first + root]! V[first + (2 * root + 1)]!) (fun r m' h' => ?_)
    obtain ⟨rfl, rfl⟩ := h'
    conv => whnf
    by_cases h2 : Go.Sort.ltInt V[first + root]! V[first + (2 * root + 1)]! = true
    · have hc := int_yes h2
      rw [sd_l V hs' hno h2] at hZ
      have u1 : updRow (i64s V.toList) ((first : Int) + (root : Int)).toNat 0 [Cell.int V[first + (2 * root + 1)]!] = i64s (V.toList.set (first + root) V[first + (2 * root + 1)]!) := by rw [show ((first : Int) + (root : Int)).toNat = first + root by omega]; exact arr_up1 V _ _ (by omega)
      have u2 : updRow (i64s (V.toList.set (first + root) V[first + (2 * root + 1)]!)) ((first : Int) + (2 * (root : Int) + 1)).toNat 0 [Cell.int V[first + root]!] = i64s (Go.Sort.swp V (first + root) (first + (2 * root + 1))).toList := by rw [show ((first : Int) + (2 * (root : Int) + 1)).toNat = first + (2 * root + 1) by omega]; exact arr_up2 V _ _ (by omega)
      have la1 := arr_l1 V (first + root) V[first + (2 * root + 1)]!
      have la2 := arr_len (Go.Sort.swp V (first + root) (first + (2 * root + 1)))
      have ls2 := Go.Sort.size_swp V (first + root) (first + (2 * root + 1))
      repeat' ((conv => whnf); first | rw [g0] | rw [g1] | rw [u1] | rw [u2] | refine Rng.g ?_ | refine Ob.g ?_ | refine Ob.e ?_ | refine Ob.m ?_ | refine Ob.mk (Nat.le_of_ble_eq_true rfl) ?_ | refine JoinVC.on ?_ | refine Nils.mk (fun h => ?_) ?_ | refine Val.t ?_ | refine Val.d ?_ | refine Mm.mk ?_ | (refine Br.mk (fun h => ?_) (fun h => ?_) <;> first | (exfalso; omega; done) | (exfalso; simp at h; done) | skip))
      refine Back.mk (hi - (2 * root + 1)) _ (by omega) ⟨2 * root + 1, _, .inr hs', rfl, by omega, by omega, hZ, rfl⟩ ?_
      refine ⟨[some 0], rfl, rfl, ?_, ?_⟩ <;> repeat' (first | exact trivial | exact rfl | exact Iff.rfl | apply And.intro)
    · have hc := int_no h2
      rw [sd_l0 V hs' hno h2] at hZ
      subst hZ
      repeat' ((conv => whnf); first | rw [g0] | rw [g1] | refine Rng.g ?_ | refine Ob.g ?_ | refine Ob.e ?_ | refine Ob.m ?_ | refine Ob.mk (Nat.le_of_ble_eq_true rfl) ?_ | refine JoinVC.on ?_ | refine Nils.mk (fun h => ?_) ?_ | refine Val.t ?_ | refine Val.d ?_ | refine Mm.mk ?_ | (refine Br.mk (fun h => ?_) (fun h => ?_) <;> first | (exfalso; omega; done) | (exfalso; simp at h; done) | skip))
      repeat refine Mm.mk ?_
      refine EndVC.mk _ rfl _ _ ⟨rfl, rfl⟩ ?_
      refine ⟨[some 0], rfl, rfl, ?_, ?_⟩ <;> repeat' (first | exact trivial | exact rfl | exact Iff.rfl | apply And.intro)
  repeat' ((conv => whnf); first | rw [g0] | rw [g1] | rw [g2] | refine Rng.g ?_ | refine Ob.g ?_ | refine Ob.e ?_ | refine Ob.m ?_ | refine Ob.mk (Nat.le_of_ble_eq_true rfl) ?_ | refine JoinVC.on ?_ | refine Nils.mk (fun h => ?_) ?_ | refine Val.t ?_ | refine Val.d ?_ | refine Mm.mk ?_ | (refine Br.mk (fun h => ?_) (fun h => ?_) <;> first | (exfalso; omega; done) | (exfalso; simp at h; done) | skip))
  conv => whnf
  refine CallVC.mk [] _ _ _ rfl rfl rfl (s95 V[first + (2 * root + 1)]! V[first + (2 * root + 1) + 1]!) (fun r m' h' => ?_)
  obtain ⟨rfl, rfl⟩ := h'
  conv => whnf
  by_cases h1 : Go.Sort.ltInt V[first + (2 * root + 1)]! V[first + (2 * root + 1) + 1]! = true
  · have hc1 := int_yes h1
    repeat' ((conv => whnf); first | rw [g0] | rw [g3] | refine Rng.g ?_ | refine Ob.g ?_ | refine Ob.e ?_ | refine Ob.m ?_ | refine Ob.mk (Nat.le_of_ble_eq_true rfl) ?_ | refine JoinVC.on ?_ | refine Nils.mk (fun h => ?_) ?_ | refine Val.t ?_ | refine Val.d ?_ | refine Mm.mk ?_ | (refine Br.mk (fun h => ?_) (fun h => ?_) <;> first | (exfalso; omega; done) | (exfalso; simp at h; done) | skip))
    conv => whnf
    refine CallVC.mk [] _ _ _ rfl rfl rfl (s95 V[first + root]! V[first + (2 * root + 2)]!) (fun r m' h' => ?_)
    obtain ⟨rfl, rfl⟩ := h'
    conv => whnf
    by_cases h2 : Go.Sort.ltInt V[first + root]! V[first + (2 * root + 2)]! = true
    · have hc := int_yes h2
      rw [sd_r V hr2 h1 h2] at hZ
      have u1 : updRow (i64s V.toList) ((first : Int) + (root : Int)).toNat 0 [Cell.int V[first + (2 * root + 2)]!] = i64s (V.toList.set (first + root) V[first + (2 * root + 2)]!) := by rw [show ((first : Int) + (root : Int)).toNat = first + root by omega]; exact arr_up1 V _ _ (by omega)
      have u2 : updRow (i64s (V.toList.set (first + root) V[first + (2 * root + 2)]!)) ((first : Int) + (2 * (root : Int) + 1 + 1)).toNat 0 [Cell.int V[first + root]!] = i64s (Go.Sort.swp V (first + root) (first + (2 * root + 2))).toList := by rw [show ((first : Int) + (2 * (root : Int) + 1 + 1)).toNat = first + (2 * root + 2) by omega]; exact arr_up2 V _ _ (by omega)
      have la1 := arr_l1 V (first + root) V[first + (2 * root + 2)]!
      have la2 := arr_len (Go.Sort.swp V (first + root) (first + (2 * root + 2)))
      have ls2 := Go.Sort.size_swp V (first + root) (first + (2 * root + 2))
      repeat' ((conv => whnf); first | rw [g0] | rw [g3] | rw [u1] | rw [u2] | refine Rng.g ?_ | refine Ob.g ?_ | refine Ob.e ?_ | refine Ob.m ?_ | refine Ob.mk (Nat.le_of_ble_eq_true rfl) ?_ | refine JoinVC.on ?_ | refine Nils.mk (fun h => ?_) ?_ | refine Val.t ?_ | refine Val.d ?_ | refine Mm.mk ?_ | (refine Br.mk (fun h => ?_) (fun h => ?_) <;> first | (exfalso; omega; done) | (exfalso; simp at h; done) | skip))
      refine Back.mk (hi - (2 * root + 2)) _ (by omega) ⟨2 * root + 2, _, .inr hr2, rfl, by omega, by omega, hZ, rfl⟩ ?_
      refine ⟨[some 0], rfl, rfl, ?_, ?_⟩ <;> repeat' (first | exact trivial | exact rfl | exact Iff.rfl | apply And.intro)
      all_goals omega
    · have hc := int_no h2
      rw [sd_r0 V hr2 h1 h2] at hZ
      subst hZ
      repeat' ((conv => whnf); first | rw [g0] | rw [g3] | refine Rng.g ?_ | refine Ob.g ?_ | refine Ob.e ?_ | refine Ob.m ?_ | refine Ob.mk (Nat.le_of_ble_eq_true rfl) ?_ | refine JoinVC.on ?_ | refine Nils.mk (fun h => ?_) ?_ | refine Val.t ?_ | refine Val.d ?_ | refine Mm.mk ?_ | (refine Br.mk (fun h => ?_) (fun h => ?_) <;> first | (exfalso; omega; done) | (exfalso; simp at h; done) | skip))
      repeat refine Mm.mk ?_
      refine EndVC.mk _ rfl _ _ ⟨rfl, rfl⟩ ?_
      refine ⟨[some 0], rfl, rfl, ?_, ?_⟩ <;> repeat' (first | exact trivial | exact rfl | exact Iff.rfl | apply And.intro)
  · have hc1 := int_no h1
    have hno : ¬ (2 * root + 2 < hi ∧ Go.Sort.ltInt V[first + (2 * root + 1)]! V[first + (2 * root + 1) + 1]! = true) := fun h => h1 h.2
    repeat' ((conv => whnf); first | rw [g0] | rw [g1] | refine Rng.g ?_ | refine Ob.g ?_ | refine Ob.e ?_ | refine Ob.m ?_ | refine Ob.mk (Nat.le_of_ble_eq_true rfl) ?_ | refine JoinVC.on ?_ | refine Nils.mk (fun h => ?_) ?_ | refine Val.t ?_ | refine Val.d ?_ | refine Mm.mk ?_ | (refine Br.mk (fun h => ?_) (fun h => ?_) <;> first | (exfalso; omega; done) | (exfalso; simp at h; done) | skip))
    conv => whnf
    refine CallVC.mk [] _ _ _ rfl rfl rfl (s95 V[first + root]! V[first + (2 * root + 1)]!) (fun r m' h' => ?_)
    obtain ⟨rfl, rfl⟩ := h'
    conv => whnf
    by_cases h2 : Go.Sort.ltInt V[first + root]! V[first + (2 * root + 1)]! = true
    · have hc := int_yes h2
      rw [sd_l V hs' hno h2] at hZ
      have u1 : updRow (i64s V.toList) ((first : Int) + (root : Int)).toNat 0 [Cell.int V[first + (2 * root + 1)]!] = i64s (V.toList.set (first + root) V[first + (2 * root + 1)]!) := by rw [show ((first : Int) + (root : Int)).toNat = first + root by omega]; exact arr_up1 V _ _ (by omega)
      have u2 : updRow (i64s (V.toList.set (first + root) V[first + (2 * root + 1)]!)) ((first : Int) + (2 * (root : Int) + 1)).toNat 0 [Cell.int V[first + root]!] = i64s (Go.Sort.swp V (first + root) (first + (2 * root + 1))).toList := by rw [show ((first : Int) + (2 * (root : Int) + 1)).toNat = first + (2 * root + 1) by omega]; exact arr_up2 V _ _ (by omega)
      have la1 := arr_l1 V (first + root) V[first + (2 * root + 1)]!
      have la2 := arr_len (Go.Sort.swp V (first + root) (first + (2 * root + 1)))
      have ls2 := Go.Sort.size_swp V (first + root) (first + (2 * root + 1))
      repeat' ((conv => whnf); first | rw [g0] | rw [g1] | rw [u1] | rw [u2] | refine Rng.g ?_ | refine Ob.g ?_ | refine Ob.e ?_ | refine Ob.m ?_ | refine Ob.mk (Nat.le_of_ble_eq_true rfl) ?_ | refine JoinVC.on ?_ | refine Nils.mk (fun h => ?_) ?_ | refine Val.t ?_ | refine Val.d ?_ | refine Mm.mk ?_ | (refine Br.mk (fun h => ?_) (fun h => ?_) <;> first | (exfalso; omega; done) | (exfalso; simp at h; done) | skip))
      refine Back.mk (hi - (2 * root + 1)) _ (by omega) ⟨2 * root + 1, _, .inr hs', rfl, by omega, by omega, hZ, rfl⟩ ?_
      refine ⟨[some 0], rfl, rfl, ?_, ?_⟩ <;> repeat' (first | exact trivial | exact rfl | exact Iff.rfl | apply And.intro)
    · have hc := int_no h2
      rw [sd_l0 V hs' hno h2] at hZ
      subst hZ
      repeat' ((conv => whnf); first | rw [g0] | rw [g1] | refine Rng.g ?_ | refine Ob.g ?_ | refine Ob.e ?_ | refine Ob.m ?_ | refine Ob.mk (Nat.le_of_ble_eq_true rfl) ?_ | refine JoinVC.on ?_ | refine Nils.mk (fun h => ?_) ?_ | refine Val.t ?_ | refine Val.d ?_ | refine Mm.mk ?_ | (refine Br.mk (fun h => ?_) (fun h => ?_) <;> first | (exfalso; omega; done) | (exfalso; simp at h; done) | skip))
      repeat refine Mm.mk ?_
      refine EndVC.mk _ rfl _ _ ⟨rfl, rfl⟩ ?_
      refine ⟨[some 0], rfl, rfl, ?_, ?_⟩ <;> repeat' (first | exact trivial | exact rfl | exact Iff.rfl | apply And.intro)
theorem osd_q {V : Array Int} {n : Nat} {hi first lo : Nat} (_ : first + hi ≤ V.size) (h : n ≤ V.size) : (Go.Sort.siftDown Go.Sort.ltInt hi first lo V).size = V.size ∧ n ≤ (Go.Sort.siftDown Go.Sort.ltInt hi first lo V).size := by
  have hsz := sd_size (lt := Go.Sort.ltInt) (hi := hi) (first := first) (hi - lo) lo V (Nat.le_refl _)
  refine ⟨hsz, ?_⟩
  omega
theorem oheap (fl : Bool) (n : Nat) (d : Array Int) (hz : d.size ≤ 1000) (hI : n ≤ d.size) (a b : Nat) (hab : a ≤ b) (hb : b ≤ n) : HSpec Try.prog 90 [.one (.vw 0 Try.t3.size 0 n fl), I (a : Int), I (b : Int)] [rowA (d)] (fun r m' => r = .tup [] ∧ m' = [some (rowA (Go.Sort.heapSort Go.Sort.ltInt d a b))]) := by
  obtain ⟨Y, hY⟩ : ∃ Y, Go.Sort.heapBuild Go.Sort.ltInt (b - a) a ((b - a - 1) / 2 + 1) d = Y := ⟨_, rfl⟩
  obtain ⟨Z, hZ⟩ : ∃ Z, Go.Sort.heapPop Go.Sort.ltInt a (b - a) Y = Z := ⟨_, rfl⟩
  have hZ' : Go.Sort.heapSort Go.Sort.ltInt d a b = Z := by rw [← hZ, ← hY]; rfl
  rw [hZ']
  have hq : ((b : Int) - (a : Int) - 1).tdiv 2 = (((b - a - 1) / 2 : Nat) : Int) := by
    by_cases h0 : b = a
    · subst h0
      rw [show ((b : Int) - (b : Int) - 1) = -1 by omega, show b - b - 1 = 0 by omega]
      decide
    · rw [Int.tdiv_eq_ediv_of_nonneg (by omega)]
      omega
  refine spec_of pMix (O := [(10, ([], [⟨0, [], []⟩, ⟨1, [], []⟩, ⟨2, [], []⟩, ⟨3, [], []⟩, ⟨4, [], []⟩, ⟨5, [], []⟩, ⟨6, [], []⟩, ⟨7, [], []⟩, ⟨8, [], []⟩, ⟨9, [], []⟩, ⟨10, [], []⟩, ⟨11, [], []⟩, ⟨12, [], []⟩, ⟨13, [], []⟩, ⟨14, [], []⟩, ⟨15, [], []⟩, ⟨16, [], []⟩, ⟨17, [2, 3, 4, 5], []⟩, ⟨18, [], []⟩, ⟨19, [], []⟩]))]) Try.func90 (c := bodyOf Try.f90) rfl (by kernel_rfl) (by kernel_rfl) Try.ntmps90 (res := []) (by kernel_rfl) ?_
  repeat' ((conv => whnf); first | refine Rng.g ?_ | refine Ob.g ?_ | refine Ob.e ?_ | refine Ob.m ?_ | refine Ob.mk (Nat.le_of_ble_eq_true rfl) ?_ | refine JoinVC.on ?_ | refine Nils.mk (fun h => ?_) ?_ | refine Val.t ?_ | refine Val.d ?_ | refine Mm.mk ?_ | (refine Br.mk (fun h => ?_) (fun h => ?_) <;> first | (exfalso; omega; done) | (exfalso; simp at h; done) | skip))
  conv => whnf
  refine Val.mk ((((b-a-1)/2:Nat):Int)) (hq) ?_
  repeat' ((conv => whnf); first | refine Rng.g ?_ | refine Ob.g ?_ | refine Ob.e ?_ | refine Ob.m ?_ | refine Ob.mk (Nat.le_of_ble_eq_true rfl) ?_ | refine JoinVC.on ?_ | refine Nils.mk (fun h => ?_) ?_ | refine Val.t ?_ | refine Val.d ?_ | refine Mm.mk ?_ | (refine Br.mk (fun h => ?_) (fun h => ?_) <;> first | (exfalso; omega; done) | (exfalso; simp at h; done) | skip))
  refine LoopVC.mk (fun m st => ∃ (k : Nat) (x : Int) (V : Array Int), x = (k : Int) - 1 ∧ k ≤ b - a + 1 ∧ m = k ∧ V.size = d.size ∧ n ≤ V.size ∧ Go.Sort.heapBuild Go.Sort.ltInt (b - a) a k V = Y ∧ st = ⟨1, envA 56 [(0, .x (.one (.vw 0 Try.t3.size 0 n fl))), (1, .x (I (a : Int))), (2, .x (I (b : Int))), (6, .int .i64 (a : Int)), (7, .int .i64 0), (8, .int .i64 ((b - a : Nat) : Int)), (9, .int .i64 x)], [some (rowA (V))]⟩) _ _ ⟨(b - a - 1) / 2 + 1, _, d, rfl, by omega, rfl, rfl, hI, hY, rfl⟩ ?_ ?_
  · refine ⟨[some 0], rfl, rfl, ?_, ?_⟩ <;> repeat' (first | exact trivial | exact rfl | exact Iff.rfl | apply And.intro)
    all_goals omega
  clear hY
  rintro m _ ⟨k, x, V, hx, hk, hm, lV, hV, hY, rfl⟩
  have la := arr_len V
  cases k with
  | succ k =>
    have ex : x = (k : Int) := by omega
    subst ex
    have hq2 := osd_q (V := V) (n := n) (hi := b - a) (first := a) (lo := k) (by omega) hV
    repeat' ((conv => whnf); first | refine Rng.g ?_ | refine Ob.g ?_ | refine Ob.e ?_ | refine Ob.m ?_ | refine Ob.mk (Nat.le_of_ble_eq_true rfl) ?_ | refine JoinVC.on ?_ | refine Nils.mk (fun h => ?_) ?_ | refine Val.t ?_ | refine Val.d ?_ | refine Mm.mk ?_ | (refine Br.mk (fun h => ?_) (fun h => ?_) <;> first | (exfalso; omega; done) | (exfalso; simp at h; done) | skip))
    conv => whnf
    refine CallVC.mk [0] _ _ _ rfl rfl rfl (osd fl n V (by omega) hV k (b - a) a (by omega) (by omega)) (fun r m' h' => ?_)
    obtain ⟨rfl, rfl⟩ := h'
    conv => whnf
    repeat' ((conv => whnf); first | refine Rng.g ?_ | refine Ob.g ?_ | refine Ob.e ?_ | refine Ob.m ?_ | refine Ob.mk (Nat.le_of_ble_eq_true rfl) ?_ | refine JoinVC.on ?_ | refine Nils.mk (fun h => ?_) ?_ | refine Val.t ?_ | refine Val.d ?_ | refine Mm.mk ?_ | (refine Br.mk (fun h => ?_) (fun h => ?_) <;> first | (exfalso; omega; done) | (exfalso; simp at h; done) | skip))
    refine Back.mk k _ (by omega) ⟨k, _, _, rfl, by omega, rfl, by rw [hq2.1]; exact lV, hq2.2, hY, rfl⟩ ?_
    refine ⟨[some 0], rfl, rfl, ?_, ?_⟩ <;> repeat' (first | exact trivial | exact rfl | exact Iff.rfl | apply And.intro)
  | zero =>
    have ex : x = -1 := by omega
    subst ex
    have hY' : V = Y := hY
    subst hY'
    repeat' ((conv => whnf); first | refine Rng.g ?_ | refine Ob.g ?_ | refine Ob.e ?_ | refine Ob.m ?_ | refine Ob.mk (Nat.le_of_ble_eq_true rfl) ?_ | refine JoinVC.on ?_ | refine Nils.mk (fun h => ?_) ?_ | refine Val.t ?_ | refine Val.d ?_ | refine Mm.mk ?_ | (refine Br.mk (fun h => ?_) (fun h => ?_) <;> first | (exfalso; omega; done) | (exfalso; simp at h; done) | skip))
    refine LoopVC.mk (fun m st => ∃ (k : Nat) (x : Int) (W : Array Int), x = (k : Int) - 1 ∧ k ≤ b - a ∧ m = k ∧ W.size = d.size ∧ n ≤ W.size ∧ Go.Sort.heapPop Go.Sort.ltInt a k W = Z ∧ st = ⟨1, envA 56 [(0, .x (.one (.vw 0 Try.t3.size 0 n fl))), (1, .x (I (a : Int))), (2, .x (I (b : Int))), (6, .int .i64 (a : Int)), (7, .int .i64 0), (8, .int .i64 ((b - a : Nat) : Int)), (10, .int .i64 x)], [some (rowA (W))]⟩) _ _ ⟨b - a, _, V, rfl, Nat.le_refl _, rfl, lV, hV, hZ, rfl⟩ ?_ ?_
    · refine ⟨[some 0], rfl, rfl, ?_, ?_⟩ <;> repeat' (first | exact trivial | exact rfl | exact Iff.rfl | apply And.intro)
    clear hY hZ la hV lV V
    rintro m _ ⟨k, x, V, hx, hk, hm, lV, hV, hZ, rfl⟩
    have la := arr_len V
    cases k with
    | zero =>
      have ex : x = -1 := by omega
      subst ex
      have hZ' : V = Z := hZ
      subst hZ'
      repeat' ((conv => whnf); first | refine Rng.g ?_ | refine Ob.g ?_ | refine Ob.e ?_ | refine Ob.m ?_ | refine Ob.mk (Nat.le_of_ble_eq_true rfl) ?_ | refine JoinVC.on ?_ | refine Nils.mk (fun h => ?_) ?_ | refine Val.t ?_ | refine Val.d ?_ | refine Mm.mk ?_ | (refine Br.mk (fun h => ?_) (fun h => ?_) <;> first | (exfalso; omega; done) | (exfalso; simp at h; done) | skip))
      repeat refine Mm.mk ?_
      refine EndVC.mk _ rfl _ _ ⟨rfl, rfl⟩ ?_
      refine ⟨[some 0], rfl, rfl, ?_, ?_⟩ <;> repeat' (first | exact trivial | exact rfl | exact Iff.rfl | apply And.intro)
    | succ k =>
      have ex : x = (k : Int) := by omega
      subst ex
      have g1 : rI (i64s V.toList) ((a : Int)).toNat 0 = V[a]! := by rw [show ((a : Int)).toNat = a by omega]; exact arr_get V _
      have g2 : rI (i64s V.toList) ((a : Int) + (k : Int)).toNat 0 = V[a + k]! := by rw [show ((a : Int) + (k : Int)).toNat = a + k by omega]; exact arr_get V _
      have u1 : updRow (i64s V.toList) ((a : Int)).toNat 0 [Cell.int V[a + k]!] = i64s (V.toList.set (a) V[a + k]!) := by rw [show ((a : Int)).toNat = a by omega]; exact arr_up1 V _ _ (by omega)
      have u2 : updRow (i64s (V.toList.set (a) V[a + k]!)) ((a : Int) + (k : Int)).toNat 0 [Cell.int V[a]!] = i64s (Go.Sort.swp V (a) (a + k)).toList := by rw [show ((a : Int) + (k : Int)).toNat = a + k by omega]; exact arr_up2 V _ _ (by omega)
      have la1 := arr_l1 V (a) V[a + k]!
      have la2 := arr_len (Go.Sort.swp V (a) (a + k))
      have ls2 := Go.Sort.size_swp V (a) (a + k)
      have hVs : n ≤ (Go.Sort.swp V a (a + k)).size := by omega
      have hq2 := osd_q (V := Go.Sort.swp V a (a + k)) (n := n) (hi := k) (first := a) (lo := 0) (by omega) hVs
      repeat' ((conv => whnf); first | rw [g1] | rw [g2] | rw [u1] | rw [u2] | refine Rng.g ?_ | refine Ob.g ?_ | refine Ob.e ?_ | refine Ob.m ?_ | refine Ob.mk (Nat.le_of_ble_eq_true rfl) ?_ | refine JoinVC.on ?_ | refine Nils.mk (fun h => ?_) ?_ | refine Val.t ?_ | refine Val.d ?_ | refine Mm.mk ?_ | (refine Br.mk (fun h => ?_) (fun h => ?_) <;> first | (exfalso; omega; done) | (exfalso; simp at h; done) | skip))
      conv => whnf
      refine CallVC.mk [0] _ _ _ rfl rfl rfl (osd fl n (Go.Sort.swp V a (a + k)) (by omega) hVs 0 k a (by omega) (by omega)) (fun r m' h' => ?_)
      obtain ⟨rfl, rfl⟩ := h'
      conv => whnf
      repeat' ((conv => whnf); first | refine Rng.g ?_ | refine Ob.g ?_ | refine Ob.e ?_ | refine Ob.m ?_ | refine Ob.mk (Nat.le_of_ble_eq_true rfl) ?_ | refine JoinVC.on ?_ | refine Nils.mk (fun h => ?_) ?_ | refine Val.t ?_ | refine Val.d ?_ | refine Mm.mk ?_ | (refine Br.mk (fun h => ?_) (fun h => ?_) <;> first | (exfalso; omega; done) | (exfalso; simp at h; done) | skip))
      refine Back.mk k _ (by omega) ⟨k, _, _, rfl, by omega, rfl, by rw [hq2.1]; omega, hq2.2, hZ, rfl⟩ ?_
      refine ⟨[some 0], rfl, rfl, ?_, ?_⟩ <;> repeat' (first | exact trivial | exact rfl | exact Iff.rfl | apply And.intro)
end Go.Sx

namespace Go.Sx
open Go Go.Proofs
set_option maxRecDepth 10000
set_option maxHeartbeats 16000000
/-! ### Partitions -/
theorem opart (fl : Bool) (n : Nat) (d : Array Int) (hz : d.size ≤ 1000) (hI : n ≤ d.size) (a b p : Nat) (hp : a ≤ p ∧ p < b) (hb : b ≤ n) : HSpec Try.prog 97 [.one (.vw 0 Try.t3.size 0 n fl), I (a : Int), I (b : Int), I (p : Int)] [rowA (d)] (fun r m' => ∃ (x : Nat) (y : Bool) (W : Array Int), Go.Sort.partition Go.Sort.ltInt d a b p = (x, y, W) ∧ r = .tup [I (x : Int), .one (.bool y)] ∧ m' = [some (rowA (W))]) := by
  have la := arr_len d
  have ga : rI (i64s d.toList) ((a : Int)).toNat 0 = d[a]! := by rw [show ((a : Int)).toNat = a by omega]; exact arr_get d _
  have gp : rI (i64s d.toList) ((p : Int)).toNat 0 = d[p]! := by rw [show ((p : Int)).toNat = p by omega]; exact arr_get d _
  have u1 : updRow (i64s d.toList) ((a : Int)).toNat 0 [Cell.int d[p]!] = i64s (d.toList.set (a) d[p]!) := by rw [show ((a : Int)).toNat = a by omega]; exact arr_up1 d _ _ (by omega)
  have u2 : updRow (i64s (d.toList.set (a) d[p]!)) ((p : Int)).toNat 0 [Cell.int d[a]!] = i64s (Go.Sort.swp d (a) (p)).toList := by rw [show ((p : Int)).toNat = p by omega]; exact arr_up2 d _ _ (by omega)
  have la1 := arr_l1 d (a) d[p]!
  have la2 := arr_len (Go.Sort.swp d (a) (p))
  have ls2 := Go.Sort.size_swp d (a) (p)
  have hV : n ≤ d.size := hI
  have hV0' : n ≤ (Go.Sort.swp d a p).size := by omega
  have pt := fun I J => part_t (lt := Go.Sort.ltInt) (d := d) (a := a) (b := b) (p := p) (I := I) (J := J)
  have pf := fun I J ZJ ZV => part_f (lt := Go.Sort.ltInt) (d := d) (a := a) (b := b) (p := p) (I := I) (J := J) (ZJ := ZJ) (ZV := ZV)
  refine spec_of pMix (O := [(1, ([], [⟨0, [], []⟩, ⟨1, [], []⟩, ⟨2, [], []⟩, ⟨3, [], []⟩, ⟨4, [], []⟩, ⟨5, [], []⟩, ⟨6, [], []⟩, ⟨7, [], []⟩, ⟨8, [], []⟩, ⟨9, [], []⟩, ⟨10, [], []⟩, ⟨11, [], []⟩, ⟨12, [], []⟩, ⟨13, [2, 3], []⟩, ⟨14, [], []⟩, ⟨15, [], []⟩])), (8, ([], [⟨0, [], []⟩, ⟨1, [], []⟩, ⟨2, [], []⟩, ⟨3, [], []⟩, ⟨4, [], []⟩, ⟨5, [], []⟩, ⟨6, [], []⟩, ⟨7, [], []⟩, ⟨8, [], []⟩, ⟨9, [], []⟩, ⟨10, [], []⟩, ⟨11, [], []⟩, ⟨12, [], []⟩, ⟨13, [2, 3], []⟩, ⟨14, [], []⟩, ⟨15, [], []⟩])), (10, ([], [⟨0, [], []⟩, ⟨1, [], []⟩, ⟨2, [], []⟩, ⟨3, [], []⟩, ⟨4, [], []⟩, ⟨5, [], []⟩, ⟨6, [], []⟩, ⟨7, [], []⟩, ⟨8, [], []⟩, ⟨9, [], []⟩, ⟨10, [], []⟩, ⟨11, [], []⟩, ⟨12, [], []⟩, ⟨13, [2, 3], []⟩, ⟨14, [], []⟩, ⟨15, [], []⟩])), (18, ([], [⟨0, [], []⟩, ⟨1, [], []⟩, ⟨2, [], []⟩, ⟨3, [], []⟩, ⟨4, [], []⟩, ⟨5, [], []⟩, ⟨6, [], []⟩, ⟨7, [], []⟩, ⟨8, [], []⟩, ⟨9, [], []⟩, ⟨10, [], []⟩, ⟨11, [], []⟩, ⟨12, [], []⟩, ⟨13, [2, 3], []⟩, ⟨14, [], []⟩, ⟨15, [], []⟩])), (21, ([], [⟨0, [], []⟩, ⟨1, [], []⟩, ⟨2, [], []⟩, ⟨3, [], []⟩, ⟨4, [], []⟩, ⟨5, [], []⟩, ⟨6, [], []⟩, ⟨7, [], []⟩, ⟨8, [], []⟩, ⟨9, [], []⟩, ⟨10, [], []⟩, ⟨11, [], []⟩, ⟨12, [], []⟩, ⟨13, [2, 3], []⟩, ⟨14, [], []⟩, ⟨15, [], []⟩]))]) Try.func97 (c := bodyOf Try.f97) rfl (by kernel_rfl) (by kernel_rfl) Try.ntmps97 (res := [.tmp 8, .tmp 9]) (by kernel_rfl) ?_
  repeat' ((conv => whnf); first | rw [ga] | rw [gp] | rw [u1] | rw [u2] | refine Rng.g ?_ | refine Ob.g ?_ | refine Ob.e ?_ | refine Ob.m ?_ | refine Ob.mk (Nat.le_of_ble_eq_true rfl) ?_ | refine JoinVC.on ?_ | refine Nils.mk (fun h => ?_) ?_ | refine Val.t ?_ | refine Val.d ?_ | refine Mm.mk ?_ | (refine Br.mk (fun h => ?_) (fun h => ?_) <;> first | (exfalso; omega; done) | (exfalso; simp at h; done) | skip))
  clear hV
  obtain ⟨V, hVe⟩ : ∃ V, Go.Sort.swp d a p = V := ⟨_, rfl⟩
  rw [hVe] at hV0' la2 ls2 u2 pt pf
  rw [hVe]
  have hV := hV0'
  obtain ⟨I1, hI1⟩ : ∃ I1, Go.Sort.scanUp (fun x => Go.Sort.ltInt x V[a]!) V (b - 1) (a + 1) = I1 := ⟨_, rfl⟩
  obtain ⟨J1, hJ1⟩ : ∃ J1, Go.Sort.scanDown (fun x => !Go.Sort.ltInt x V[a]!) V I1 (b - 1) = J1 := ⟨_, rfl⟩
  obtain ⟨sf1, sf2, sf3, sf4, sf5⟩ := scan_facts (fun _ => rfl) V (by omega) (by omega) hI1 hJ1
  clear ga
  have ga : rI (i64s V.toList) ((a : Int)).toNat 0 = V[a]! := by rw [show ((a : Int)).toNat = a by omega]; exact arr_get V _
  refine LoopVC.cut (fun m st => ∃ i : Nat, (a + 1) ≤ i ∧ i ≤ (b - 1) + 1 ∧ m = (b - 1) + 1 - i ∧ Go.Sort.scanUp (fun x => Go.Sort.ltInt x V[a]!) V (b - 1) i = I1 ∧ st = ⟨1, envA 168 [(0, .x (.one (.vw 0 Try.t3.size 0 n fl))), (1, .x (I (a : Int))), (2, .x (I (b : Int))), (10, .int .i64 (i : Int)), (11, .int .i64 (((b - 1) : Nat) : Int))], [some (rowA (V))]⟩) _ _ (fun e st => e = .exit 0 ∧ st = ⟨1, envA 168 [(0, .x (.one (.vw 0 Try.t3.size 0 n fl))), (1, .x (I (a : Int))), (2, .x (I (b : Int))), (10, .int .i64 (I1 : Int)), (11, .int .i64 (((b - 1) : Nat) : Int))], [some (rowA (V))]⟩) ⟨(a + 1), Nat.le_refl _, by omega, rfl, hI1, rfl⟩ ?_ ?_ ?_
  · refine ⟨[some 0], rfl, rfl, ?_, ?_⟩ <;> repeat' (first | exact trivial | exact rfl | exact Iff.rfl | apply And.intro)
    all_goals omega
  · rintro m _ ⟨i, i1, i2, hm, hi, rfl⟩
    by_cases hij : i ≤ (b - 1)
    rotate_left
    · rw [su_no (p := (fun x => Go.Sort.ltInt x V[a]!)) (fun h => hij h.1)] at hi
      subst hi
      repeat' ((conv => whnf); first | refine Rng.g ?_ | refine Ob.g ?_ | refine Ob.e ?_ | refine Ob.m ?_ | refine Ob.mk (Nat.le_of_ble_eq_true rfl) ?_ | refine JoinVC.on ?_ | refine Nils.mk (fun h => ?_) ?_ | refine Val.t ?_ | refine Val.d ?_ | refine Mm.mk ?_ | (refine Br.mk (fun h => ?_) (fun h => ?_) <;> first | (exfalso; omega; done) | (exfalso; simp at h; done) | skip))
      refine Meet.mk _ ⟨rfl, rfl⟩ ?_
      refine ⟨[some 0], rfl, rfl, ?_, ?_⟩ <;> repeat' (first | exact trivial | exact rfl | exact Iff.rfl | apply And.intro)
    have gi : rI (i64s V.toList) ((i : Int)).toNat 0 = V[i]! := by rw [show ((i : Int)).toNat = i by omega]; exact arr_get V _
    repeat' ((conv => whnf); first | rw [gi] | rw [ga] | refine Rng.g ?_ | refine Ob.g ?_ | refine Ob.e ?_ | refine Ob.m ?_ | refine Ob.mk (Nat.le_of_ble_eq_true rfl) ?_ | refine JoinVC.on ?_ | refine Nils.mk (fun h => ?_) ?_ | refine Val.t ?_ | refine Val.d ?_ | refine Mm.mk ?_ | (refine Br.mk (fun h => ?_) (fun h => ?_) <;> first | (exfalso; omega; done) | (exfalso; simp at h; done) | skip))
    conv => whnf
    refine CallVC.mk [] _ _ _ rfl rfl rfl (s95 V[i]! V[a]!) (fun r m' h' => ?_)
    obtain ⟨rfl, rfl⟩ := h'
    conv => whnf
    by_cases hlt : Go.Sort.ltInt V[i]! V[a]! = true
    · have hc := int_yes hlt
      rw [su_yes (p := (fun x => Go.Sort.ltInt x V[a]!)) hij hlt] at hi
      repeat' ((conv => whnf); first | rw [gi] | rw [ga] | refine Rng.g ?_ | refine Ob.g ?_ | refine Ob.e ?_ | refine Ob.m ?_ | refine Ob.mk (Nat.le_of_ble_eq_true rfl) ?_ | refine JoinVC.on ?_ | refine Nils.mk (fun h => ?_) ?_ | refine Val.t ?_ | refine Val.d ?_ | refine Mm.mk ?_ | (refine Br.mk (fun h => ?_) (fun h => ?_) <;> first | (exfalso; omega; done) | (exfalso; simp at h; done) | skip))
      refine Back.mk ((b - 1) + 1 - (i + 1)) _ (by omega) ⟨i + 1, by omega, by omega, rfl, hi, rfl⟩ ?_
      refine ⟨[some 0], rfl, rfl, ?_, ?_⟩ <;> repeat' (first | exact trivial | exact rfl | exact Iff.rfl | apply And.intro)
    · have hc := int_no hlt
      rw [su_no (p := (fun x => Go.Sort.ltInt x V[a]!)) (fun h => hlt h.2)] at hi
      subst hi
      repeat' ((conv => whnf); first | rw [gi] | rw [ga] | refine Rng.g ?_ | refine Ob.g ?_ | refine Ob.e ?_ | refine Ob.m ?_ | refine Ob.mk (Nat.le_of_ble_eq_true rfl) ?_ | refine JoinVC.on ?_ | refine Nils.mk (fun h => ?_) ?_ | refine Val.t ?_ | refine Val.d ?_ | refine Mm.mk ?_ | (refine Br.mk (fun h => ?_) (fun h => ?_) <;> first | (exfalso; omega; done) | (exfalso; simp at h; done) | skip))
      refine Meet.mk _ ⟨rfl, rfl⟩ ?_
      refine ⟨[some 0], rfl, rfl, ?_, ?_⟩ <;> repeat' (first | exact trivial | exact rfl | exact Iff.rfl | apply And.intro)
  rintro e _ ⟨rfl, rfl⟩
  repeat' ((conv => whnf); first | refine Rng.g ?_ | refine Ob.g ?_ | refine Ob.e ?_ | refine Ob.m ?_ | refine Ob.mk (Nat.le_of_ble_eq_true rfl) ?_ | refine JoinVC.on ?_ | refine Nils.mk (fun h => ?_) ?_ | refine Val.t ?_ | refine Val.d ?_ | refine Mm.mk ?_ | (refine Br.mk (fun h => ?_) (fun h => ?_) <;> first | (exfalso; omega; done) | (exfalso; simp at h; done) | skip))
  refine LoopVC.cut (fun m st => ∃ j : Nat, I1 ≤ j + 1 ∧ j ≤ (b - 1) ∧ m = j + 1 - I1 ∧ Go.Sort.scanDown (fun x => !Go.Sort.ltInt x V[a]!) V I1 j = J1 ∧ st = ⟨1, envA 168 [(0, .x (.one (.vw 0 Try.t3.size 0 n fl))), (1, .x (I (a : Int))), (2, .x (I (b : Int))), (10, .int .i64 (I1 : Int)), (11, .int .i64 (j : Int))], [some (rowA (V))]⟩) _ _ (fun e st => e = .exit 2 ∧ st = ⟨1, envA 168 [(0, .x (.one (.vw 0 Try.t3.size 0 n fl))), (1, .x (I (a : Int))), (2, .x (I (b : Int))), (10, .int .i64 (I1 : Int)), (11, .int .i64 (J1 : Int))], [some (rowA (V))]⟩) ⟨(b - 1), by omega, Nat.le_refl _, rfl, hJ1, rfl⟩ ?_ ?_ ?_
  · refine ⟨[some 0], rfl, rfl, ?_, ?_⟩ <;> repeat' (first | exact trivial | exact rfl | exact Iff.rfl | apply And.intro)
  · rintro m _ ⟨j, j1, j2, hm, hj, rfl⟩
    by_cases hij : I1 ≤ j
    rotate_left
    · rw [sn_no (p := (fun x => !Go.Sort.ltInt x V[a]!)) (fun h => hij h.1)] at hj
      subst hj
      repeat' ((conv => whnf); first | refine Rng.g ?_ | refine Ob.g ?_ | refine Ob.e ?_ | refine Ob.m ?_ | refine Ob.mk (Nat.le_of_ble_eq_true rfl) ?_ | refine JoinVC.on ?_ | refine Nils.mk (fun h => ?_) ?_ | refine Val.t ?_ | refine Val.d ?_ | refine Mm.mk ?_ | (refine Br.mk (fun h => ?_) (fun h => ?_) <;> first | (exfalso; omega; done) | (exfalso; simp at h; done) | skip))
      refine Meet.mk _ ⟨rfl, rfl⟩ ?_
      refine ⟨[some 0], rfl, rfl, ?_, ?_⟩ <;> repeat' (first | exact trivial | exact rfl | exact Iff.rfl | apply And.intro)
    obtain ⟨k, rfl⟩ : ∃ k, j = k + 1 := ⟨j - 1, by omega⟩
    have gj : rI (i64s V.toList) (((k + 1 : Nat) : Int)).toNat 0 = V[k + 1]! := by rw [show (((k + 1 : Nat) : Int)).toNat = k + 1 by omega]; exact arr_get V _
    repeat' ((conv => whnf); first | rw [gj] | rw [ga] | refine Rng.g ?_ | refine Ob.g ?_ | refine Ob.e ?_ | refine Ob.m ?_ | refine Ob.mk (Nat.le_of_ble_eq_true rfl) ?_ | refine JoinVC.on ?_ | refine Nils.mk (fun h => ?_) ?_ | refine Val.t ?_ | refine Val.d ?_ | refine Mm.mk ?_ | (refine Br.mk (fun h => ?_) (fun h => ?_) <;> first | (exfalso; omega; done) | (exfalso; simp at h; done) | skip))
    conv => whnf
    refine CallVC.mk [] _ _ _ rfl rfl rfl (s95 V[k + 1]! V[a]!) (fun r m' h' => ?_)
    obtain ⟨rfl, rfl⟩ := h'
    conv => whnf
    by_cases hlt : Go.Sort.ltInt V[k + 1]! V[a]! = true
    · have hc := int_yes hlt
      rw [sn_no (p := (fun x => !Go.Sort.ltInt x V[a]!)) (fun h => by simp [hlt] at h)] at hj
      subst hj
      repeat' ((conv => whnf); first | rw [gj] | rw [ga] | refine Rng.g ?_ | refine Ob.g ?_ | refine Ob.e ?_ | refine Ob.m ?_ | refine Ob.mk (Nat.le_of_ble_eq_true rfl) ?_ | refine JoinVC.on ?_ | refine Nils.mk (fun h => ?_) ?_ | refine Val.t ?_ | refine Val.d ?_ | refine Mm.mk ?_ | (refine Br.mk (fun h => ?_) (fun h => ?_) <;> first | (exfalso; omega; done) | (exfalso; simp at h; done) | skip))
      refine Meet.mk _ ⟨rfl, rfl⟩ ?_
      refine ⟨[some 0], rfl, rfl, ?_, ?_⟩ <;> repeat' (first | exact trivial | exact rfl | exact Iff.rfl | apply And.intro)
    · have hc := int_no hlt
      rw [sn_yes (p := (fun x => !Go.Sort.ltInt x V[a]!)) hij (by simp [hlt])] at hj
      repeat' ((conv => whnf); first | rw [gj] | rw [ga] | refine Rng.g ?_ | refine Ob.g ?_ | refine Ob.e ?_ | refine Ob.m ?_ | refine Ob.mk (Nat.le_of_ble_eq_true rfl) ?_ | refine JoinVC.on ?_ | refine Nils.mk (fun h => ?_) ?_ | refine Val.t ?_ | refine Val.d ?_ | refine Mm.mk ?_ | (refine Br.mk (fun h => ?_) (fun h => ?_) <;> first | (exfalso; omega; done) | (exfalso; simp at h; done) | skip))
      refine Back.mk (k + 1 - I1) _ (by omega) ⟨k, by omega, by omega, rfl, hj, rfl⟩ ?_
      refine ⟨[some 0], rfl, rfl, ?_, ?_⟩ <;> repeat' (first | exact trivial | exact rfl | exact Iff.rfl | apply And.intro)
      all_goals omega
  rintro e _ ⟨rfl, rfl⟩
  repeat' ((conv => whnf); first | refine Rng.g ?_ | refine Ob.g ?_ | refine Ob.e ?_ | refine Ob.m ?_ | refine Ob.mk (Nat.le_of_ble_eq_true rfl) ?_ | refine JoinVC.on ?_ | refine Nils.mk (fun h => ?_) ?_ | refine Val.t ?_ | refine Val.d ?_ | refine Mm.mk ?_ | (refine Br.mk (fun h => ?_) (fun h => ?_) <;> first | (exfalso; omega; done) | (exfalso; simp at h; done) | skip))
  · have e1 := pt _ _ hI1 hJ1 (by omega)
    have gj : rI (i64s V.toList) ((J1 : Int)).toNat 0 = V[J1]! := by rw [show ((J1 : Int)).toNat = J1 by omega]; exact arr_get V _
    clear u1 u2 la1
    have u1 : updRow (i64s V.toList) ((J1 : Int)).toNat 0 [Cell.int V[a]!] = i64s (V.toList.set (J1) V[a]!) := by rw [show ((J1 : Int)).toNat = J1 by omega]; exact arr_up1 V _ _ (by omega)
    have u2 : updRow (i64s (V.toList.set (J1) V[a]!)) ((a : Int)).toNat 0 [Cell.int V[J1]!] = i64s (Go.Sort.swp V (J1) (a)).toList := by rw [show ((a : Int)).toNat = a by omega]; exact arr_up2 V _ _ (by omega)
    have la1 := arr_l1 V (J1) V[a]!
    have la2 := arr_len (Go.Sort.swp V (J1) (a))
    have ls2 := Go.Sort.size_swp V (J1) (a)
    repeat' ((conv => whnf); first | rw [ga] | rw [gj] | rw [u1] | rw [u2] | refine Rng.g ?_ | refine Ob.g ?_ | refine Ob.e ?_ | refine Ob.m ?_ | refine Ob.mk (Nat.le_of_ble_eq_true rfl) ?_ | refine JoinVC.on ?_ | refine Nils.mk (fun h => ?_) ?_ | refine Val.t ?_ | refine Val.d ?_ | refine Mm.mk ?_ | (refine Br.mk (fun h => ?_) (fun h => ?_) <;> first | (exfalso; omega; done) | (exfalso; simp at h; done) | skip))
    repeat refine Mm.mk ?_
    conv => whnf
    refine EndVC.mk _ rfl _ _ (⟨J1, true, _, e1, rfl, rfl⟩) ?_
    refine ⟨[some 0], rfl, rfl, ?_, ?_⟩ <;> repeat' (first | exact trivial | exact rfl | exact Iff.rfl | apply And.intro)
  have hJI : I1 < J1 := sf5 (by omega)
  clear u1 u2 la1
  have gi : rI (i64s V.toList) ((I1 : Int)).toNat 0 = V[I1]! := by rw [show ((I1 : Int)).toNat = I1 by omega]; exact arr_get V _
  have gj : rI (i64s V.toList) ((J1 : Int)).toNat 0 = V[J1]! := by rw [show ((J1 : Int)).toNat = J1 by omega]; exact arr_get V _
  have u1 : updRow (i64s V.toList) ((I1 : Int)).toNat 0 [Cell.int V[J1]!] = i64s (V.toList.set (I1) V[J1]!) := by rw [show ((I1 : Int)).toNat = I1 by omega]; exact arr_up1 V _ _ (by omega)
  have u2 : updRow (i64s (V.toList.set (I1) V[J1]!)) ((J1 : Int)).toNat 0 [Cell.int V[I1]!] = i64s (Go.Sort.swp V (I1) (J1)).toList := by rw [show ((J1 : Int)).toNat = J1 by omega]; exact arr_up2 V _ _ (by omega)
  have la1 := arr_l1 V (I1) V[J1]!
  have la2 := arr_len (Go.Sort.swp V (I1) (J1))
  have ls2 := Go.Sort.size_swp V (I1) (J1)
  have hV1 : n ≤ (Go.Sort.swp V I1 J1).size := by omega
  obtain ⟨ZJ, ZV, hZ⟩ : ∃ ZJ ZV, Go.Sort.partLoop Go.Sort.ltInt a (I1 + 1) (J1 - 1) (Go.Sort.swp V I1 J1) = (ZJ, ZV) := ⟨_, _, rfl⟩
  have e1 := pf _ _ _ _ hI1 hJ1 (by omega) hZ
  repeat' ((conv => whnf); first | rw [gi] | rw [gj] | rw [u1] | rw [u2] | refine Rng.g ?_ | refine Ob.g ?_ | refine Ob.e ?_ | refine Ob.m ?_ | refine Ob.mk (Nat.le_of_ble_eq_true rfl) ?_ | refine JoinVC.on ?_ | refine Nils.mk (fun h => ?_) ?_ | refine Val.t ?_ | refine Val.d ?_ | refine Mm.mk ?_ | (refine Br.mk (fun h => ?_) (fun h => ?_) <;> first | (exfalso; omega; done) | (exfalso; simp at h; done) | skip))
  refine LoopVC.cut (fun m st => ∃ (i j : Nat) (W : Array Int), a < i ∧ i ≤ j + 1 ∧ j < b ∧ m = j + 1 - i ∧ W.size = d.size ∧ n ≤ W.size ∧ Go.Sort.partLoop Go.Sort.ltInt a i j W = (ZJ, ZV) ∧ st = ⟨1, envA 168 [(0, .x (.one (.vw 0 Try.t3.size 0 n fl))), (1, .x (I (a : Int))), (2, .x (I (b : Int))), (10, .int .i64 (i : Int)), (11, .int .i64 (j : Int))], [some (rowA (W))]⟩) _ _ (fun e st => e = .exit 4 ∧ a ≤ ZJ ∧ ZJ < b ∧ ZV.size = d.size ∧ (n ≤ ZV.size) ∧ st = ⟨1, envA 168 [(0, .x (.one (.vw 0 Try.t3.size 0 n fl))), (1, .x (I (a : Int))), (2, .x (I (b : Int))), (11, .int .i64 (ZJ : Int))], [some (rowA (ZV))]⟩) ⟨I1 + 1, J1 - 1, _, by omega, by omega, by omega, rfl, by omega, hV1, hZ, rfl⟩ ?_ ?_ ?_
  · refine ⟨[some 0], rfl, rfl, ?_, ?_⟩ <;> repeat' (first | exact trivial | exact rfl | exact Iff.rfl | apply And.intro)
    all_goals omega
  · clear hZ gi gj u1 u2 la1 la2 ls2 hV1 hJI hI1 hJ1 sf1 sf2 sf3 sf4 sf5 ga hV la hV0' pt pf e1
    rintro m _ ⟨x, y, V, h1, h2, h3, hm, lV, hV, hZ, rfl⟩
    have la := arr_len V
    have ga : rI (i64s V.toList) ((a : Int)).toNat 0 = V[a]! := by rw [show ((a : Int)).toNat = a by omega]; exact arr_get V _
    obtain ⟨I2, hI2⟩ : ∃ I2, Go.Sort.scanUp (fun x => Go.Sort.ltInt x V[a]!) V y x = I2 := ⟨_, rfl⟩
    obtain ⟨J2, hJ2⟩ : ∃ J2, Go.Sort.scanDown (fun x => !Go.Sort.ltInt x V[a]!) V I2 y = J2 := ⟨_, rfl⟩
    obtain ⟨sf1, sf2, sf3, sf4, sf5⟩ := scan_facts (fun _ => rfl) V (by omega) (by omega) hI2 hJ2
    repeat' ((conv => whnf); first | refine Rng.g ?_ | refine Ob.g ?_ | refine Ob.e ?_ | refine Ob.m ?_ | refine Ob.mk (Nat.le_of_ble_eq_true rfl) ?_ | refine JoinVC.on ?_ | refine Nils.mk (fun h => ?_) ?_ | refine Val.t ?_ | refine Val.d ?_ | refine Mm.mk ?_ | (refine Br.mk (fun h => ?_) (fun h => ?_) <;> first | (exfalso; omega; done) | (exfalso; simp at h; done) | skip))
    refine LoopVC.cut (fun m st => ∃ i : Nat, x ≤ i ∧ i ≤ y + 1 ∧ m = y + 1 - i ∧ Go.Sort.scanUp (fun x => Go.Sort.ltInt x V[a]!) V y i = I2 ∧ st = ⟨1, envA 168 [(0, .x (.one (.vw 0 Try.t3.size 0 n fl))), (1, .x (I (a : Int))), (2, .x (I (b : Int))), (10, .int .i64 (i : Int)), (11, .int .i64 ((y : Nat) : Int))], [some (rowA (V))]⟩) _ _ (fun e st => e = .exit 6 ∧ st = ⟨1, envA 168 [(0, .x (.one (.vw 0 Try.t3.size 0 n fl))), (1, .x (I (a : Int))), (2, .x (I (b : Int))), (10, .int .i64 (I2 : Int)), (11, .int .i64 ((y : Nat) : Int))], [some (rowA (V))]⟩) ⟨x, Nat.le_refl _, by omega, rfl, hI2, rfl⟩ ?_ ?_ ?_
    · refine ⟨[some 0], rfl, rfl, ?_, ?_⟩ <;> repeat' (first | exact trivial | exact rfl | exact Iff.rfl | apply And.intro)
      all_goals omega
    · rintro m _ ⟨i, i1, i2, hm, hi, rfl⟩
      by_cases hij : i ≤ y
      rotate_left
      · rw [su_no (p := (fun x => Go.Sort.ltInt x V[a]!)) (fun h => hij h.1)] at hi
        subst hi
        repeat' ((conv => whnf); first | refine Rng.g ?_ | refine Ob.g ?_ | refine Ob.e ?_ | refine Ob.m ?_ | refine Ob.mk (Nat.le_of_ble_eq_true rfl) ?_ | refine JoinVC.on ?_ | refine Nils.mk (fun h => ?_) ?_ | refine Val.t ?_ | refine Val.d ?_ | refine Mm.mk ?_ | (refine Br.mk (fun h => ?_) (fun h => ?_) <;> first | (exfalso; omega; done) | (exfalso; simp at h; done) | skip))
        refine Meet.mk _ ⟨rfl, rfl⟩ ?_
        refine ⟨[some 0], rfl, rfl, ?_, ?_⟩ <;> repeat' (first | exact trivial | exact rfl | exact Iff.rfl | apply And.intro)
      have gi : rI (i64s V.toList) ((i : Int)).toNat 0 = V[i]! := by rw [show ((i : Int)).toNat = i by omega]; exact arr_get V _
      repeat' ((conv => whnf); first | rw [gi] | rw [ga] | refine Rng.g ?_ | refine Ob.g ?_ | refine Ob.e ?_ | refine Ob.m ?_ | refine Ob.mk (Nat.le_of_ble_eq_true rfl) ?_ | refine JoinVC.on ?_ | refine Nils.mk (fun h => ?_) ?_ | refine Val.t ?_ | refine Val.d ?_ | refine Mm.mk ?_ | (refine Br.mk (fun h => ?_) (fun h => ?_) <;> first | (exfalso; omega; done) | (exfalso; simp at h; done) | skip))
      conv => whnf
      refine CallVC.mk [] _ _ _ rfl rfl rfl (s95 V[i]! V[a]!) (fun r m' h' => ?_)
      obtain ⟨rfl, rfl⟩ := h'
      conv => whnf
      by_cases hlt : Go.Sort.ltInt V[i]! V[a]! = true
      · have hc := int_yes hlt
        rw [su_yes (p := (fun x => Go.Sort.ltInt x V[a]!)) hij hlt] at hi
        repeat' ((conv => whnf); first | rw [gi] | rw [ga] | refine Rng.g ?_ | refine Ob.g ?_ | refine Ob.e ?_ | refine Ob.m ?_ | refine Ob.mk (Nat.le_of_ble_eq_true rfl) ?_ | refine JoinVC.on ?_ | refine Nils.mk (fun h => ?_) ?_ | refine Val.t ?_ | refine Val.d ?_ | refine Mm.mk ?_ | (refine Br.mk (fun h => ?_) (fun h => ?_) <;> first | (exfalso; omega; done) | (exfalso; simp at h; done) | skip))
        refine Back.mk (y + 1 - (i + 1)) _ (by omega) ⟨i + 1, by omega, by omega, rfl, hi, rfl⟩ ?_
        refine ⟨[some 0], rfl, rfl, ?_, ?_⟩ <;> repeat' (first | exact trivial | exact rfl | exact Iff.rfl | apply And.intro)
      · have hc := int_no hlt
        rw [su_no (p := (fun x => Go.Sort.ltInt x V[a]!)) (fun h => hlt h.2)] at hi
        subst hi
        repeat' ((conv => whnf); first | rw [gi] | rw [ga] | refine Rng.g ?_ | refine Ob.g ?_ | refine Ob.e ?_ | refine Ob.m ?_ | refine Ob.mk (Nat.le_of_ble_eq_true rfl) ?_ | refine JoinVC.on ?_ | refine Nils.mk (fun h => ?_) ?_ | refine Val.t ?_ | refine Val.d ?_ | refine Mm.mk ?_ | (refine Br.mk (fun h => ?_) (fun h => ?_) <;> first | (exfalso; omega; done) | (exfalso; simp at h; done) | skip))
        refine Meet.mk _ ⟨rfl, rfl⟩ ?_
        refine ⟨[some 0], rfl, rfl, ?_, ?_⟩ <;> repeat' (first | exact trivial | exact rfl | exact Iff.rfl | apply And.intro)
    rintro e _ ⟨rfl, rfl⟩
    repeat' ((conv => whnf); first | refine Rng.g ?_ | refine Ob.g ?_ | refine Ob.e ?_ | refine Ob.m ?_ | refine Ob.mk (Nat.le_of_ble_eq_true rfl) ?_ | refine JoinVC.on ?_ | refine Nils.mk (fun h => ?_) ?_ | refine Val.t ?_ | refine Val.d ?_ | refine Mm.mk ?_ | (refine Br.mk (fun h => ?_) (fun h => ?_) <;> first | (exfalso; omega; done) | (exfalso; simp at h; done) | skip))
    refine LoopVC.cut (fun m st => ∃ j : Nat, I2 ≤ j + 1 ∧ j ≤ y ∧ m = j + 1 - I2 ∧ Go.Sort.scanDown (fun x => !Go.Sort.ltInt x V[a]!) V I2 j = J2 ∧ st = ⟨1, envA 168 [(0, .x (.one (.vw 0 Try.t3.size 0 n fl))), (1, .x (I (a : Int))), (2, .x (I (b : Int))), (10, .int .i64 (I2 : Int)), (11, .int .i64 (j : Int))], [some (rowA (V))]⟩) _ _ (fun e st => e = .exit 8 ∧ st = ⟨1, envA 168 [(0, .x (.one (.vw 0 Try.t3.size 0 n fl))), (1, .x (I (a : Int))), (2, .x (I (b : Int))), (10, .int .i64 (I2 : Int)), (11, .int .i64 (J2 : Int))], [some (rowA (V))]⟩) ⟨y, by omega, Nat.le_refl _, rfl, hJ2, rfl⟩ ?_ ?_ ?_
    · refine ⟨[some 0], rfl, rfl, ?_, ?_⟩ <;> repeat' (first | exact trivial | exact rfl | exact Iff.rfl | apply And.intro)
    · rintro m _ ⟨j, j1, j2, hm, hj, rfl⟩
      by_cases hij : I2 ≤ j
      rotate_left
      · rw [sn_no (p := (fun x => !Go.Sort.ltInt x V[a]!)) (fun h => hij h.1)] at hj
        subst hj
        repeat' ((conv => whnf); first | refine Rng.g ?_ | refine Ob.g ?_ | refine Ob.e ?_ | refine Ob.m ?_ | refine Ob.mk (Nat.le_of_ble_eq_true rfl) ?_ | refine JoinVC.on ?_ | refine Nils.mk (fun h => ?_) ?_ | refine Val.t ?_ | refine Val.d ?_ | refine Mm.mk ?_ | (refine Br.mk (fun h => ?_) (fun h => ?_) <;> first | (exfalso; omega; done) | (exfalso; simp at h; done) | skip))
        refine Meet.mk _ ⟨rfl, rfl⟩ ?_
        refine ⟨[some 0], rfl, rfl, ?_, ?_⟩ <;> repeat' (first | exact trivial | exact rfl | exact Iff.rfl | apply And.intro)
      obtain ⟨k, rfl⟩ : ∃ k, j = k + 1 := ⟨j - 1, by omega⟩
      have gj : rI (i64s V.toList) (((k + 1 : Nat) : Int)).toNat 0 = V[k + 1]! := by rw [show (((k + 1 : Nat) : Int)).toNat = k + 1 by omega]; exact arr_get V _
      repeat' ((conv => whnf); first | rw [gj] | rw [ga] | refine Rng.g ?_ | refine Ob.g ?_ | refine Ob.e ?_ | refine Ob.m ?_ | refine Ob.mk (Nat.le_of_ble_eq_true rfl) ?_ | refine JoinVC.on ?_ | refine Nils.mk (fun h => ?_) ?_ | refine Val.t ?_ | refine Val.d ?_ | refine Mm.mk ?_ | (refine Br.mk (fun h => ?_) (fun h => ?_) <;> first | (exfalso; omega; done) | (exfalso; simp at h; done) | skip))
      conv => whnf
      refine CallVC.mk [] _ _ _ rfl rfl rfl (s95 V[k + 1]! V[a]!) (fun r m' h' => ?_)
      obtain ⟨rfl, rfl⟩ := h'
      conv => whnf
      by_cases hlt : Go.Sort.ltInt V[k + 1]! V[a]! = true
      · have hc := int_yes hlt
        rw [sn_no (p := (fun x => !Go.Sort.ltInt x V[a]!)) (fun h => by simp [hlt] at h)] at hj
        subst hj
        repeat' ((conv => whnf); first | rw [gj] | rw [ga] | refine Rng.g ?_ | refine Ob.g ?_ | refine Ob.e ?_ | refine Ob.m ?_ | refine Ob.mk (Nat.le_of_ble_eq_true rfl) ?_ | refine JoinVC.on ?_ | refine Nils.mk (fun h => ?_) ?_ | refine Val.t ?_ | refine Val.d ?_ | refine Mm.mk ?_ | (refine Br.mk (fun h => ?_) (fun h => ?_) <;> first | (exfalso; omega; done) | (exfalso; simp at h; done) | skip))
        refine Meet.mk _ ⟨rfl, rfl⟩ ?_
        refine ⟨[some 0], rfl, rfl, ?_, ?_⟩ <;> repeat' (first | exact trivial | exact rfl | exact Iff.rfl | apply And.intro)
      · have hc := int_no hlt
        rw [sn_yes (p := (fun x => !Go.Sort.ltInt x V[a]!)) hij (by simp [hlt])] at hj
        repeat' ((conv => whnf); first | rw [gj] | rw [ga] | refine Rng.g ?_ | refine Ob.g ?_ | refine Ob.e ?_ | refine Ob.m ?_ | refine Ob.mk (Nat.le_of_ble_eq_true rfl) ?_ | refine JoinVC.on ?_ | refine Nils.mk (fun h => ?_) ?_ | refine Val.t ?_ | refine Val.d ?_ | refine Mm.mk ?_ | (refine Br.mk (fun h => ?_) (fun h => ?_) <;> first | (exfalso; omega; done) | (exfalso; simp at h; done) | skip))
        refine Back.mk (k + 1 - I2) _ (by omega) ⟨k, by omega, by omega, rfl, hj, rfl⟩ ?_
        refine ⟨[some 0], rfl, rfl, ?_, ?_⟩ <;> repeat' (first | exact trivial | exact rfl | exact Iff.rfl | apply And.intro)
        all_goals omega
    rintro e _ ⟨rfl, rfl⟩
    repeat' ((conv => whnf); first | refine Rng.g ?_ | refine Ob.g ?_ | refine Ob.e ?_ | refine Ob.m ?_ | refine Ob.mk (Nat.le_of_ble_eq_true rfl) ?_ | refine JoinVC.on ?_ | refine Nils.mk (fun h => ?_) ?_ | refine Val.t ?_ | refine Val.d ?_ | refine Mm.mk ?_ | (refine Br.mk (fun h => ?_) (fun h => ?_) <;> first | (exfalso; omega; done) | (exfalso; simp at h; done) | skip))
    · rw [ploop_t hI2 hJ2 (by omega)] at hZ
      cases hZ
      refine Meet.mk _ ⟨rfl, by omega, by omega, lV, hV, rfl⟩ ?_
      refine ⟨[some 0], rfl, rfl, ?_, ?_⟩ <;> repeat' (first | exact trivial | exact rfl | exact Iff.rfl | apply And.intro)
    have hJI : I2 < J2 := sf5 (by omega)
    rw [ploop_f hI2 hJ2 (by omega)] at hZ
    have gi : rI (i64s V.toList) ((I2 : Int)).toNat 0 = V[I2]! := by rw [show ((I2 : Int)).toNat = I2 by omega]; exact arr_get V _
    have gj : rI (i64s V.toList) ((J2 : Int)).toNat 0 = V[J2]! := by rw [show ((J2 : Int)).toNat = J2 by omega]; exact arr_get V _
    have u1 : updRow (i64s V.toList) ((I2 : Int)).toNat 0 [Cell.int V[J2]!] = i64s (V.toList.set (I2) V[J2]!) := by rw [show ((I2 : Int)).toNat = I2 by omega]; exact arr_up1 V _ _ (by omega)
    have u2 : updRow (i64s (V.toList.set (I2) V[J2]!)) ((J2 : Int)).toNat 0 [Cell.int V[I2]!] = i64s (Go.Sort.swp V (I2) (J2)).toList := by rw [show ((J2 : Int)).toNat = J2 by omega]; exact arr_up2 V _ _ (by omega)
    have la1 := arr_l1 V (I2) V[J2]!
    have la2 := arr_len (Go.Sort.swp V (I2) (J2))
    have ls2 := Go.Sort.size_swp V (I2) (J2)
    repeat' ((conv => whnf); first | rw [gi] | rw [gj] | rw [u1] | rw [u2] | refine Rng.g ?_ | refine Ob.g ?_ | refine Ob.e ?_ | refine Ob.m ?_ | refine Ob.mk (Nat.le_of_ble_eq_true rfl) ?_ | refine JoinVC.on ?_ | refine Nils.mk (fun h => ?_) ?_ | refine Val.t ?_ | refine Val.d ?_ | refine Mm.mk ?_ | (refine Br.mk (fun h => ?_) (fun h => ?_) <;> first | (exfalso; omega; done) | (exfalso; simp at h; done) | skip))
    refine Back.mk (J2 - 1 + 1 - (I2 + 1)) _ (by omega) ⟨I2 + 1, J2 - 1, _, by omega, by omega, by omega, rfl, by omega, by omega, hZ, rfl⟩ ?_
    refine ⟨[some 0], rfl, rfl, ?_, ?_⟩ <;> repeat' (first | exact trivial | exact rfl | exact Iff.rfl | apply And.intro)
    all_goals omega
  rintro e _ ⟨rfl, z1, z2, z3, hV, rfl⟩
  have la := arr_len ZV
  clear u1 u2 la1 la2 ls2 gi gj ga
  have ga : rI (i64s ZV.toList) ((a : Int)).toNat 0 = ZV[a]! := by rw [show ((a : Int)).toNat = a by omega]; exact arr_get ZV _
  have gj : rI (i64s ZV.toList) ((ZJ : Int)).toNat 0 = ZV[ZJ]! := by rw [show ((ZJ : Int)).toNat = ZJ by omega]; exact arr_get ZV _
  have u1 : updRow (i64s ZV.toList) ((ZJ : Int)).toNat 0 [Cell.int ZV[a]!] = i64s (ZV.toList.set (ZJ) ZV[a]!) := by rw [show ((ZJ : Int)).toNat = ZJ by omega]; exact arr_up1 ZV _ _ (by omega)
  have u2 : updRow (i64s (ZV.toList.set (ZJ) ZV[a]!)) ((a : Int)).toNat 0 [Cell.int ZV[ZJ]!] = i64s (Go.Sort.swp ZV (ZJ) (a)).toList := by rw [show ((a : Int)).toNat = a by omega]; exact arr_up2 ZV _ _ (by omega)
  have la1 := arr_l1 ZV (ZJ) ZV[a]!
  have la2 := arr_len (Go.Sort.swp ZV (ZJ) (a))
  have ls2 := Go.Sort.size_swp ZV (ZJ) (a)
  repeat' ((conv => whnf); first | rw [ga] | rw [gj] | rw [u1] | rw [u2] | refine Rng.g ?_ | refine Ob.g ?_ | refine Ob.e ?_ | refine Ob.m ?_ | refine Ob.mk (Nat.le_of_ble_eq_true rfl) ?_ | refine JoinVC.on ?_ | refine Nils.mk (fun h => ?_) ?_ | refine Val.t ?_ | refine Val.d ?_ | refine Mm.mk ?_ | (refine Br.mk (fun h => ?_) (fun h => ?_) <;> first | (exfalso; omega; done) | (exfalso; simp at h; done) | skip))
  repeat refine Mm.mk ?_
  conv => whnf
  refine EndVC.mk _ rfl _ _ (⟨ZJ, false, _, e1, rfl, rfl⟩) ?_
  refine ⟨[some 0], rfl, rfl, ?_, ?_⟩ <;> repeat' (first | exact trivial | exact rfl | exact Iff.rfl | apply And.intro)
theorem opeq (fl : Bool) (n : Nat) (d : Array Int) (hz : d.size ≤ 1000) (hI : n ≤ d.size) (a b p : Nat) (hp : a ≤ p ∧ p < b) (hb : b ≤ n) : HSpec Try.prog 96 [.one (.vw 0 Try.t3.size 0 n fl), I (a : Int), I (b : Int), I (p : Int)] [rowA (d)] (fun r m' => ∃ (x : Nat) (W : Array Int), Go.Sort.partitionEqual Go.Sort.ltInt d a b p = (x, W) ∧ r = .x (I (x : Int)) ∧ m' = [some (rowA (W))]) := by
  have la := arr_len d
  have ga : rI (i64s d.toList) ((a : Int)).toNat 0 = d[a]! := by rw [show ((a : Int)).toNat = a by omega]; exact arr_get d _
  have gp : rI (i64s d.toList) ((p : Int)).toNat 0 = d[p]! := by rw [show ((p : Int)).toNat = p by omega]; exact arr_get d _
  have u1 : updRow (i64s d.toList) ((a : Int)).toNat 0 [Cell.int d[p]!] = i64s (d.toList.set (a) d[p]!) := by rw [show ((a : Int)).toNat = a by omega]; exact arr_up1 d _ _ (by omega)
  have u2 : updRow (i64s (d.toList.set (a) d[p]!)) ((p : Int)).toNat 0 [Cell.int d[a]!] = i64s (Go.Sort.swp d (a) (p)).toList := by rw [show ((p : Int)).toNat = p by omega]; exact arr_up2 d _ _ (by omega)
  have la1 := arr_l1 d (a) d[p]!
  have la2 := arr_len (Go.Sort.swp d (a) (p))
  have ls2 := Go.Sort.size_swp d (a) (p)
  have hV : n ≤ d.size := hI
  have hV0' : n ≤ (Go.Sort.swp d a p).size := by omega
  obtain ⟨ZI, ZV, hZ⟩ : ∃ ZI ZV, Go.Sort.partitionEqual Go.Sort.ltInt d a b p = (ZI, ZV) := ⟨_, _, rfl⟩
  have hZ2 : Go.Sort.partEqLoop Go.Sort.ltInt a (a + 1) (b - 1) (Go.Sort.swp d a p) = (ZI, ZV) := hZ
  refine spec_of pMix (O := [(1, ([], [⟨0, [], []⟩, ⟨1, [], []⟩, ⟨2, [], []⟩, ⟨3, [], []⟩, ⟨4, [], []⟩, ⟨5, [], []⟩, ⟨6, [], []⟩, ⟨7, [], []⟩, ⟨8, [], []⟩, ⟨9, [], []⟩, ⟨10, [], []⟩, ⟨11, [], []⟩, ⟨12, [], []⟩, ⟨13, [2, 3], []⟩, ⟨14, [], []⟩, ⟨15, [], []⟩])), (8, ([], [⟨0, [], []⟩, ⟨1, [], []⟩, ⟨2, [], []⟩, ⟨3, [], []⟩, ⟨4, [], []⟩, ⟨5, [], []⟩, ⟨6, [], []⟩, ⟨7, [], []⟩, ⟨8, [], []⟩, ⟨9, [], []⟩, ⟨10, [], []⟩, ⟨11, [], []⟩, ⟨12, [], []⟩, ⟨13, [2, 3], []⟩, ⟨14, [], []⟩, ⟨15, [], []⟩]))]) Try.func96 (c := bodyOf Try.f96) rfl (by kernel_rfl) (by kernel_rfl) Try.ntmps96 (res := [.tmp 8]) (by kernel_rfl) ?_
  repeat' ((conv => whnf); first | rw [ga] | rw [gp] | rw [u1] | rw [u2] | refine Rng.g ?_ | refine Ob.g ?_ | refine Ob.e ?_ | refine Ob.m ?_ | refine Ob.mk (Nat.le_of_ble_eq_true rfl) ?_ | refine JoinVC.on ?_ | refine Nils.mk (fun h => ?_) ?_ | refine Val.t ?_ | refine Val.d ?_ | refine Mm.mk ?_ | (refine Br.mk (fun h => ?_) (fun h => ?_) <;> first | (exfalso; omega; done) | (exfalso; simp at h; done) | skip))
  refine LoopVC.cut (fun m st => ∃ (i j : Nat) (W : Array Int), a < i ∧ i ≤ j + 1 ∧ j < b ∧ m = j + 1 - i ∧ W.size = d.size ∧ n ≤ W.size ∧ Go.Sort.partEqLoop Go.Sort.ltInt a i j W = (ZI, ZV) ∧ st = ⟨1, envA 84 [(0, .x (.one (.vw 0 Try.t3.size 0 n fl))), (1, .x (I (a : Int))), (2, .x (I (b : Int))), (9, .int .i64 (i : Int)), (10, .int .i64 (j : Int))], [some (rowA (W))]⟩) _ _ (fun e st => e = .exit 0 ∧ st = ⟨1, envA 84 [(0, .x (.one (.vw 0 Try.t3.size 0 n fl))), (1, .x (I (a : Int))), (2, .x (I (b : Int))), (9, .int .i64 (ZI : Int))], [some (rowA (ZV))]⟩) ⟨a + 1, b - 1, _, by omega, by omega, by omega, rfl, by omega, hV0', hZ2, rfl⟩ ?_ ?_ ?_
  · refine ⟨[some 0], rfl, rfl, ?_, ?_⟩ <;> repeat' (first | exact trivial | exact rfl | exact Iff.rfl | apply And.intro)
    all_goals omega
  · clear hZ hZ2 ga gp u1 u2 la1 la2 ls2 hV0' hV la
    rintro m _ ⟨x, y, V, h1, h2, h3, hm, lV, hV, hZ, rfl⟩
    have la := arr_len V
    have ga : rI (i64s V.toList) ((a : Int)).toNat 0 = V[a]! := by rw [show ((a : Int)).toNat = a by omega]; exact arr_get V _
    obtain ⟨I2, hI2⟩ : ∃ I2, Go.Sort.scanUp (fun x => !Go.Sort.ltInt V[a]! x) V y x = I2 := ⟨_, rfl⟩
    obtain ⟨J2, hJ2⟩ : ∃ J2, Go.Sort.scanDown (fun x => Go.Sort.ltInt V[a]! x) V I2 y = J2 := ⟨_, rfl⟩
    obtain ⟨sf1, sf2, sf3, sf4, sf5⟩ := scan_facts (fun x => (Bool.not_not _).symm) V (by omega) (by omega) hI2 hJ2
    repeat' ((conv => whnf); first | refine Rng.g ?_ | refine Ob.g ?_ | refine Ob.e ?_ | refine Ob.m ?_ | refine Ob.mk (Nat.le_of_ble_eq_true rfl) ?_ | refine JoinVC.on ?_ | refine Nils.mk (fun h => ?_) ?_ | refine Val.t ?_ | refine Val.d ?_ | refine Mm.mk ?_ | (refine Br.mk (fun h => ?_) (fun h => ?_) <;> first | (exfalso; omega; done) | (exfalso; simp at h; done) | skip))
    refine LoopVC.cut (fun m st => ∃ i : Nat, x ≤ i ∧ i ≤ y + 1 ∧ m = y + 1 - i ∧ Go.Sort.scanUp (fun x => !Go.Sort.ltInt V[a]! x) V y i = I2 ∧ st = ⟨1, envA 84 [(0, .x (.one (.vw 0 Try.t3.size 0 n fl))), (1, .x (I (a : Int))), (2, .x (I (b : Int))), (9, .int .i64 (i : Int)), (10, .int .i64 ((y : Nat) : Int))], [some (rowA (V))]⟩) _ _ (fun e st => e = .exit 2 ∧ st = ⟨1, envA 84 [(0, .x (.one (.vw 0 Try.t3.size 0 n fl))), (1, .x (I (a : Int))), (2, .x (I (b : Int))), (9, .int .i64 (I2 : Int)), (10, .int .i64 ((y : Nat) : Int))], [some (rowA (V))]⟩) ⟨x, Nat.le_refl _, by omega, rfl, hI2, rfl⟩ ?_ ?_ ?_
    · refine ⟨[some 0], rfl, rfl, ?_, ?_⟩ <;> repeat' (first | exact trivial | exact rfl | exact Iff.rfl | apply And.intro)
      all_goals omega
    · rintro m _ ⟨i, i1, i2, hm, hi, rfl⟩
      by_cases hij : i ≤ y
      rotate_left
      · rw [su_no (p := (fun x => !Go.Sort.ltInt V[a]! x)) (fun h => hij h.1)] at hi
        subst hi
        repeat' ((conv => whnf); first | refine Rng.g ?_ | refine Ob.g ?_ | refine Ob.e ?_ | refine Ob.m ?_ | refine Ob.mk (Nat.le_of_ble_eq_true rfl) ?_ | refine JoinVC.on ?_ | refine Nils.mk (fun h => ?_) ?_ | refine Val.t ?_ | refine Val.d ?_ | refine Mm.mk ?_ | (refine Br.mk (fun h => ?_) (fun h => ?_) <;> first | (exfalso; omega; done) | (exfalso; simp at h; done) | skip))
        refine Meet.mk _ ⟨rfl, rfl⟩ ?_
        refine ⟨[some 0], rfl, rfl, ?_, ?_⟩ <;> repeat' (first | exact trivial | exact rfl | exact Iff.rfl | apply And.intro)
      have gi : rI (i64s V.toList) ((i : Int)).toNat 0 = V[i]! := by rw [show ((i : Int)).toNat = i by omega]; exact arr_get V _
      repeat' ((conv => whnf); first | rw [gi] | rw [ga] | refine Rng.g ?_ | refine Ob.g ?_ | refine Ob.e ?_ | refine Ob.m ?_ | refine Ob.mk (Nat.le_of_ble_eq_true rfl) ?_ | refine JoinVC.on ?_ | refine Nils.mk (fun h => ?_) ?_ | refine Val.t ?_ | refine Val.d ?_ | refine Mm.mk ?_ | (refine Br.mk (fun h => ?_) (fun h => ?_) <;> first | (exfalso; omega; done) | (exfalso; simp at h; done) | skip))
      conv => whnf
      refine CallVC.mk [] _ _ _ rfl rfl rfl (s95 V[a]! V[i]!) (fun r m' h' => ?_)
      obtain ⟨rfl, rfl⟩ := h'
      conv => whnf
      by_cases hlt : Go.Sort.ltInt V[a]! V[i]! = true
      · have hc := int_yes hlt
        rw [su_no (p := (fun x => !Go.Sort.ltInt V[a]! x)) (fun h => by simp [hlt] at h)] at hi
        subst hi
        repeat' ((conv => whnf); first | rw [gi] | rw [ga] | refine Rng.g ?_ | refine Ob.g ?_ | refine Ob.e ?_ | refine Ob.m ?_ | refine Ob.mk (Nat.le_of_ble_eq_true rfl) ?_ | refine JoinVC.on ?_ | refine Nils.mk (fun h => ?_) ?_ | refine Val.t ?_ | refine Val.d ?_ | refine Mm.mk ?_ | (refine Br.mk (fun h => ?_) (fun h => ?_) <;> first | (exfalso; omega; done) | (exfalso; simp at h; done) | skip))
        refine Meet.mk _ ⟨rfl, rfl⟩ ?_
        refine ⟨[some 0], rfl, rfl, ?_, ?_⟩ <;> repeat' (first | exact trivial | exact rfl | exact Iff.rfl | apply And.intro)
      · have hc := int_no hlt
        rw [su_yes (p := (fun x => !Go.Sort.ltInt V[a]! x)) hij (by simp [hlt])] at hi
        repeat' ((conv => whnf); first | rw [gi] | rw [ga] | refine Rng.g ?_ | refine Ob.g ?_ | refine Ob.e ?_ | refine Ob.m ?_ | refine Ob.mk (Nat.le_of_ble_eq_true rfl) ?_ | refine JoinVC.on ?_ | refine Nils.mk (fun h => ?_) ?_ | refine Val.t ?_ | refine Val.d ?_ | refine Mm.mk ?_ | (refine Br.mk (fun h => ?_) (fun h => ?_) <;> first | (exfalso; omega; done) | (exfalso; simp at h; done) | skip))
        refine Back.mk (y + 1 - (i + 1)) _ (by omega) ⟨i + 1, by omega, by omega, rfl, hi, rfl⟩ ?_
        refine ⟨[some 0], rfl, rfl, ?_, ?_⟩ <;> repeat' (first | exact trivial | exact rfl | exact Iff.rfl | apply And.intro)
    rintro e _ ⟨rfl, rfl⟩
    repeat' ((conv => whnf); first | refine Rng.g ?_ | refine Ob.g ?_ | refine Ob.e ?_ | refine Ob.m ?_ | refine Ob.mk (Nat.le_of_ble_eq_true rfl) ?_ | refine JoinVC.on ?_ | refine Nils.mk (fun h => ?_) ?_ | refine Val.t ?_ | refine Val.d ?_ | refine Mm.mk ?_ | (refine Br.mk (fun h => ?_) (fun h => ?_) <;> first | (exfalso; omega; done) | (exfalso; simp at h; done) | skip))
    refine LoopVC.cut (fun m st => ∃ j : Nat, I2 ≤ j + 1 ∧ j ≤ y ∧ m = j + 1 - I2 ∧ Go.Sort.scanDown (fun x => Go.Sort.ltInt V[a]! x) V I2 j = J2 ∧ st = ⟨1, envA 84 [(0, .x (.one (.vw 0 Try.t3.size 0 n fl))), (1, .x (I (a : Int))), (2, .x (I (b : Int))), (9, .int .i64 (I2 : Int)), (10, .int .i64 (j : Int))], [some (rowA (V))]⟩) _ _ (fun e st => e = .exit 4 ∧ st = ⟨1, envA 84 [(0, .x (.one (.vw 0 Try.t3.size 0 n fl))), (1, .x (I (a : Int))), (2, .x (I (b : Int))), (9, .int .i64 (I2 : Int)), (10, .int .i64 (J2 : Int))], [some (rowA (V))]⟩) ⟨y, by omega, Nat.le_refl _, rfl, hJ2, rfl⟩ ?_ ?_ ?_
    · refine ⟨[some 0], rfl, rfl, ?_, ?_⟩ <;> repeat' (first | exact trivial | exact rfl | exact Iff.rfl | apply And.intro)
    · rintro m _ ⟨j, j1, j2, hm, hj, rfl⟩
      by_cases hij : I2 ≤ j
      rotate_left
      · rw [sn_no (p := (fun x => Go.Sort.ltInt V[a]! x)) (fun h => hij h.1)] at hj
        subst hj
        repeat' ((conv => whnf); first | refine Rng.g ?_ | refine Ob.g ?_ | refine Ob.e ?_ | refine Ob.m ?_ | refine Ob.mk (Nat.le_of_ble_eq_true rfl) ?_ | refine JoinVC.on ?_ | refine Nils.mk (fun h => ?_) ?_ | refine Val.t ?_ | refine Val.d ?_ | refine Mm.mk ?_ | (refine Br.mk (fun h => ?_) (fun h => ?_) <;> first | (exfalso; omega; done) | (exfalso; simp at h; done) | skip))
        refine Meet.mk _ ⟨rfl, rfl⟩ ?_
        refine ⟨[some 0], rfl, rfl, ?_, ?_⟩ <;> repeat' (first | exact trivial | exact rfl | exact Iff.rfl | apply And.intro)
      obtain ⟨k, rfl⟩ : ∃ k, j = k + 1 := ⟨j - 1, by omega⟩
      have gj : rI (i64s V.toList) (((k + 1 : Nat) : Int)).toNat 0 = V[k + 1]! := by rw [show (((k + 1 : Nat) : Int)).toNat = k + 1 by omega]; exact arr_get V _
      repeat' ((conv => whnf); first | rw [gj] | rw [ga] | refine Rng.g ?_ | refine Ob.g ?_ | refine Ob.e ?_ | refine Ob.m ?_ | refine Ob.mk (Nat.le_of_ble_eq_true rfl) ?_ | refine JoinVC.on ?_ | refine Nils.mk (fun h => ?_) ?_ | refine Val.t ?_ | refine Val.d ?_ | refine Mm.mk ?_ | (refine Br.mk (fun h => ?_) (fun h => ?_) <;> first | (exfalso; omega; done) | (exfalso; simp at h; done) | skip))
      conv => whnf
      refine CallVC.mk [] _ _ _ rfl rfl rfl (s95 V[a]! V[k + 1]!) (fun r m' h' => ?_)
      obtain ⟨rfl, rfl⟩ := h'
      conv => whnf
      by_cases hlt : Go.Sort.ltInt V[a]! V[k + 1]! = true
      · have hc := int_yes hlt
        rw [sn_yes (p := (fun x => Go.Sort.ltInt V[a]! x)) hij hlt] at hj
        repeat' ((conv => whnf); first | rw [gj] | rw [ga] | refine Rng.g ?_ | refine Ob.g ?_ | refine Ob.e ?_ | refine Ob.m ?_ | refine Ob.mk (Nat.le_of_ble_eq_true rfl) ?_ | refine JoinVC.on ?_ | refine Nils.mk (fun h => ?_) ?_ | refine Val.t ?_ | refine Val.d ?_ | refine Mm.mk ?_ | (refine Br.mk (fun h => ?_) (fun h => ?_) <;> first | (exfalso; omega; done) | (exfalso; simp at h; done) | skip))
        refine Back.mk (k + 1 - I2) _ (by omega) ⟨k, by omega, by omega, rfl, hj, rfl⟩ ?_
        refine ⟨[some 0], rfl, rfl, ?_, ?_⟩ <;> repeat' (first | exact trivial | exact rfl | exact Iff.rfl | apply And.intro)
        all_goals omega
      · have hc := int_no hlt
        rw [sn_no (p := (fun x => Go.Sort.ltInt V[a]! x)) (fun h => hlt h.2)] at hj
        subst hj
        repeat' ((conv => whnf); first | rw [gj] | rw [ga] | refine Rng.g ?_ | refine Ob.g ?_ | refine Ob.e ?_ | refine Ob.m ?_ | refine Ob.mk (Nat.le_of_ble_eq_true rfl) ?_ | refine JoinVC.on ?_ | refine Nils.mk (fun h => ?_) ?_ | refine Val.t ?_ | refine Val.d ?_ | refine Mm.mk ?_ | (refine Br.mk (fun h => ?_) (fun h => ?_) <;> first | (exfalso; omega; done) | (exfalso; simp at h; done) | skip))
        refine Meet.mk _ ⟨rfl, rfl⟩ ?_
        refine ⟨[some 0], rfl, rfl, ?_, ?_⟩ <;> repeat' (first | exact trivial | exact rfl | exact Iff.rfl | apply And.intro)
    rintro e _ ⟨rfl, rfl⟩
    repeat' ((conv => whnf); first | refine Rng.g ?_ | refine Ob.g ?_ | refine Ob.e ?_ | refine Ob.m ?_ | refine Ob.mk (Nat.le_of_ble_eq_true rfl) ?_ | refine JoinVC.on ?_ | refine Nils.mk (fun h => ?_) ?_ | refine Val.t ?_ | refine Val.d ?_ | refine Mm.mk ?_ | (refine Br.mk (fun h => ?_) (fun h => ?_) <;> first | (exfalso; omega; done) | (exfalso; simp at h; done) | skip))
    · rw [pel_t hI2 hJ2 (by omega)] at hZ
      cases hZ
      refine Meet.mk _ ⟨rfl, rfl⟩ ?_
      refine ⟨[some 0], rfl, rfl, ?_, ?_⟩ <;> repeat' (first | exact trivial | exact rfl | exact Iff.rfl | apply And.intro)
    have hJI : I2 < J2 := sf5 (by omega)
    rw [pel_f hI2 hJ2 (by omega)] at hZ
    have gi : rI (i64s V.toList) ((I2 : Int)).toNat 0 = V[I2]! := by rw [show ((I2 : Int)).toNat = I2 by omega]; exact arr_get V _
    have gj : rI (i64s V.toList) ((J2 : Int)).toNat 0 = V[J2]! := by rw [show ((J2 : Int)).toNat = J2 by omega]; exact arr_get V _
    have u1 : updRow (i64s V.toList) ((I2 : Int)).toNat 0 [Cell.int V[J2]!] = i64s (V.toList.set (I2) V[J2]!) := by rw [show ((I2 : Int)).toNat = I2 by omega]; exact arr_up1 V _ _ (by omega)
    have u2 : updRow (i64s (V.toList.set (I2) V[J2]!)) ((J2 : Int)).toNat 0 [Cell.int V[I2]!] = i64s (Go.Sort.swp V (I2) (J2)).toList := by rw [show ((J2 : Int)).toNat = J2 by omega]; exact arr_up2 V _ _ (by omega)
    have la1 := arr_l1 V (I2) V[J2]!
    have la2 := arr_len (Go.Sort.swp V (I2) (J2))
    have ls2 := Go.Sort.size_swp V (I2) (J2)
    repeat' ((conv => whnf); first | rw [gi] | rw [gj] | rw [u1] | rw [u2] | refine Rng.g ?_ | refine Ob.g ?_ | refine Ob.e ?_ | refine Ob.m ?_ | refine Ob.mk (Nat.le_of_ble_eq_true rfl) ?_ | refine JoinVC.on ?_ | refine Nils.mk (fun h => ?_) ?_ | refine Val.t ?_ | refine Val.d ?_ | refine Mm.mk ?_ | (refine Br.mk (fun h => ?_) (fun h => ?_) <;> first | (exfalso; omega; done) | (exfalso; simp at h; done) | skip))
    refine Back.mk (J2 - 1 + 1 - (I2 + 1)) _ (by omega) ⟨I2 + 1, J2 - 1, _, by omega, by omega, by omega, rfl, by omega, by omega, hZ, rfl⟩ ?_
    refine ⟨[some 0], rfl, rfl, ?_, ?_⟩ <;> repeat' (first | exact trivial | exact rfl | exact Iff.rfl | apply And.intro)
    all_goals omega
  rintro e _ ⟨rfl, rfl⟩
  repeat' ((conv => whnf); first | refine Rng.g ?_ | refine Ob.g ?_ | refine Ob.e ?_ | refine Ob.m ?_ | refine Ob.mk (Nat.le_of_ble_eq_true rfl) ?_ | refine JoinVC.on ?_ | refine Nils.mk (fun h => ?_) ?_ | refine Val.t ?_ | refine Val.d ?_ | refine Mm.mk ?_ | (refine Br.mk (fun h => ?_) (fun h => ?_) <;> first | (exfalso; omega; done) | (exfalso; simp at h; done) | skip))
  repeat refine Mm.mk ?_
  conv => whnf
  refine EndVC.mk _ rfl _ _ (⟨ZI, ZV, hZ, rfl, rfl⟩) ?_
  refine ⟨[some 0], rfl, rfl, ?_, ?_⟩ <;> repeat' (first | exact trivial | exact rfl | exact Iff.rfl | apply And.intro)
end Go.Sx

namespace Go.Sx
open Go Go.Proofs
set_option maxRecDepth 10000
set_option maxHeartbeats 16000000
/-! ### The pivot -/
theorem oo2 (fl : Bool) (n : Nat) (d : Array Int) (hz : d.size ≤ 1000) (hI : n ≤ d.size) (a b : Nat) (s : Int) (ha : a < n) (hb : b < n) (hs : 0 ≤ s ∧ s ≤ 100) : HSpec Try.prog 122 [.one (.vw 0 Try.t3.size 0 n fl), I (a : Int), I (b : Int), .one (.ptr 1 0)] [rowA (d), .box 3 [.int .i64 s]] (fun r m' => ∃ (x y : Nat) (t : Int), ((x = a ∧ y = b) ∨ (x = b ∧ y = a)) ∧ s ≤ t ∧ t ≤ s + 1 ∧ r = .tup [I (x : Int), I (y : Int)] ∧ m' = [some (rowA (d)), some (.box 3 [.int .i64 t])]) := by
  have la := arr_len d
  have hV : n ≤ d.size := hI
  have ga : rI (i64s d.toList) ((a : Int)).toNat 0 = d[a]! := by rw [show ((a : Int)).toNat = a by omega]; exact arr_get d _
  have gb : rI (i64s d.toList) ((b : Int)).toNat 0 = d[b]! := by rw [show ((b : Int)).toNat = b by omega]; exact arr_get d _
  refine spec_of pMix (O := []) Try.func122 (c := bodyOf Try.f122) rfl (by kernel_rfl) (by kernel_rfl) Try.ntmps122 (res := [.tmp 8, .tmp 9]) (by kernel_rfl) ?_
  repeat' ((conv => whnf); first | rw [ga] | rw [gb] | refine Rng.g ?_ | refine Ob.g ?_ | refine Ob.e ?_ | refine Ob.m ?_ | refine Ob.mk (Nat.le_of_ble_eq_true rfl) ?_ | refine JoinVC.on ?_ | refine Nils.mk (fun h => ?_) ?_ | refine Val.t ?_ | refine Val.d ?_ | refine Mm.mk ?_ | (refine Br.mk (fun h => ?_) (fun h => ?_) <;> first | (exfalso; omega; done) | (exfalso; simp at h; done) | skip))
  conv => whnf
  refine CallVC.mk [] _ _ _ rfl rfl rfl (s95 d[b]! d[a]!) (fun r m' h' => ?_)
  obtain ⟨rfl, rfl⟩ := h'
  conv => whnf
  repeat' ((conv => whnf); first | refine Rng.g ?_ | refine Ob.g ?_ | refine Ob.e ?_ | refine Ob.m ?_ | refine Ob.mk (Nat.le_of_ble_eq_true rfl) ?_ | refine JoinVC.on ?_ | refine Nils.mk (fun h => ?_) ?_ | refine Val.t ?_ | refine Val.d ?_ | refine Mm.mk ?_ | (refine Br.mk (fun h => ?_) (fun h => ?_) <;> first | (exfalso; omega; done) | (exfalso; simp at h; done) | skip))
  · repeat refine Mm.mk ?_
    conv => whnf
    refine EndVC.mk _ rfl _ _ (⟨b, a, s + 1, .inr ⟨rfl, rfl⟩, by omega, by omega, rfl, rfl⟩) ?_
    refine ⟨[some 0, some 1], rfl, rfl, ?_, ?_⟩ <;> repeat' (first | exact trivial | exact rfl | exact Iff.rfl | apply And.intro)
  · repeat refine Mm.mk ?_
    conv => whnf
    refine EndVC.mk _ rfl _ _ (⟨a, b, s, .inl ⟨rfl, rfl⟩, by omega, by omega, rfl, rfl⟩) ?_
    refine ⟨[some 0, some 1], rfl, rfl, ?_, ?_⟩ <;> repeat' (first | exact trivial | exact rfl | exact Iff.rfl | apply And.intro)
theorem omed (fl : Bool) (n : Nat) (d : Array Int) (hz : d.size ≤ 1000) (hI : n ≤ d.size) (a b c : Nat) (s : Int) (ha : a < n) (hb : b < n) (hc : c < n) (hs : 0 ≤ s ∧ s ≤ 90) : HSpec Try.prog 118 [.one (.vw 0 Try.t3.size 0 n fl), I (a : Int), I (b : Int), I (c : Int), .one (.ptr 1 0)] [rowA (d), .box 3 [.int .i64 s]] (fun r m' => ∃ (x : Nat) (t : Int), (x = a ∨ x = b ∨ x = c) ∧ s ≤ t ∧ t ≤ s + 3 ∧ r = .x (I (x : Int)) ∧ m' = [some (rowA (d)), some (.box 3 [.int .i64 t])]) := by
  refine spec_of pMix (O := []) Try.func118 (c := bodyOf Try.f118) rfl (by kernel_rfl) (by kernel_rfl) Try.ntmps118 (res := [.tmp 10]) (by kernel_rfl) ?_
  repeat' ((conv => whnf); first | refine Rng.g ?_ | refine Ob.g ?_ | refine Ob.e ?_ | refine Ob.m ?_ | refine Ob.mk (Nat.le_of_ble_eq_true rfl) ?_ | refine JoinVC.on ?_ | refine Nils.mk (fun h => ?_) ?_ | refine Val.t ?_ | refine Val.d ?_ | refine Mm.mk ?_ | (refine Br.mk (fun h => ?_) (fun h => ?_) <;> first | (exfalso; omega; done) | (exfalso; simp at h; done) | skip))
  conv => whnf
  refine CallVC.mk [0, 1] _ _ _ rfl rfl rfl (oo2 fl n d hz hI a b s ha hb (by omega)) (fun r m' h' => ?_)
  obtain ⟨x1, y1, t1, h1, l1, l1', rfl, rfl⟩ := h'
  conv => whnf
  repeat' ((conv => whnf); first | refine Rng.g ?_ | refine Ob.g ?_ | refine Ob.e ?_ | refine Ob.m ?_ | refine Ob.mk (Nat.le_of_ble_eq_true rfl) ?_ | refine JoinVC.on ?_ | refine Nils.mk (fun h => ?_) ?_ | refine Val.t ?_ | refine Val.d ?_ | refine Mm.mk ?_ | (refine Br.mk (fun h => ?_) (fun h => ?_) <;> first | (exfalso; omega; done) | (exfalso; simp at h; done) | skip))
  conv => whnf
  refine CallVC.mk [0, 1] _ _ _ rfl rfl rfl (oo2 fl n d hz hI y1 c t1 (by omega) hc (by omega)) (fun r m' h' => ?_)
  obtain ⟨x2, y2, t2, h2, l2, l2', rfl, rfl⟩ := h'
  conv => whnf
  repeat' ((conv => whnf); first | refine Rng.g ?_ | refine Ob.g ?_ | refine Ob.e ?_ | refine Ob.m ?_ | refine Ob.mk (Nat.le_of_ble_eq_true rfl) ?_ | refine JoinVC.on ?_ | refine Nils.mk (fun h => ?_) ?_ | refine Val.t ?_ | refine Val.d ?_ | refine Mm.mk ?_ | (refine Br.mk (fun h => ?_) (fun h => ?_) <;> first | (exfalso; omega; done) | (exfalso; simp at h; done) | skip))
  conv => whnf
  refine CallVC.mk [0, 1] _ _ _ rfl rfl rfl (oo2 fl n d hz hI x1 x2 t2 (by omega) (by omega) (by omega)) (fun r m' h' => ?_)
  obtain ⟨x3, y3, t3, h3, l3, l3', rfl, rfl⟩ := h'
  conv => whnf
  repeat' ((conv => whnf); first | refine Rng.g ?_ | refine Ob.g ?_ | refine Ob.e ?_ | refine Ob.m ?_ | refine Ob.mk (Nat.le_of_ble_eq_true rfl) ?_ | refine JoinVC.on ?_ | refine Nils.mk (fun h => ?_) ?_ | refine Val.t ?_ | refine Val.d ?_ | refine Mm.mk ?_ | (refine Br.mk (fun h => ?_) (fun h => ?_) <;> first | (exfalso; omega; done) | (exfalso; simp at h; done) | skip))
  repeat refine Mm.mk ?_
  conv => whnf
  refine EndVC.mk _ rfl _ _ (⟨y3, t3, by omega, by omega, by omega, rfl, rfl⟩) ?_
  refine ⟨[some 0, some 1], rfl, rfl, ?_, ?_⟩ <;> repeat' (first | exact trivial | exact rfl | exact Iff.rfl | apply And.intro)
theorem opiv (fl : Bool) (n : Nat) (d : Array Int) (hz : d.size ≤ 1000) (hI : n ≤ d.size) (a b : Nat) (hab : 8 ≤ b - a) (hb50 : b - a < 50) (hb : b ≤ n) : HSpec Try.prog 92 [.one (.vw 0 Try.t3.size 0 n fl), I (a : Int), I (b : Int)] [rowA (d)] (fun r m' => ∃ (x : Nat) (h : Int), (a ≤ x ∧ x < b) ∧ r = .tup [I (x : Int), I h] ∧ m' = [some (rowA (d))]) := by
  obtain ⟨q, hq⟩ : ∃ q, (b - a) / 4 = q := ⟨_, rfl⟩
  have hq1 : ((b : Int) - (a : Int)).tdiv 4 = (q : Int) := by
    rw [Int.tdiv_eq_ediv_of_nonneg (by omega)]
    omega
  have e1 : (a : Int) + (q : Int) * 1 = ((a + q : Nat) : Int) := by omega
  have e2 : (a : Int) + (q : Int) * 2 = ((a + 2 * q : Nat) : Int) := by omega
  have e3 : (a : Int) + (q : Int) * 3 = ((a + 3 * q : Nat) : Int) := by omega
  refine spec_of pMix (O := []) Try.func92 (c := bodyOf Try.f92) rfl (by kernel_rfl) (by kernel_rfl) Try.ntmps92 (res := [.tmp 6, .tmp 7]) (by kernel_rfl) ?_
  repeat' ((conv => whnf); first | refine Rng.g ?_ | refine Ob.g ?_ | refine Val.mk (q : Int) hq1 ?_ | refine JoinVC.on ?_ | (refine Br.mk (fun h => ?_) (fun h => ?_) <;> first | (exfalso; omega; done) | skip))
  rw [e1, e2, e3]
  conv => whnf
  refine CallVC.mk [0, 1] _ _ _ rfl rfl rfl (omed fl n d hz hI (a + q) (a + 2 * q) (a + 3 * q) 0 (by omega) (by omega) (by omega) (by omega)) (fun r m' h' => ?_)
  obtain ⟨x, t, hx, t1, t2, rfl, rfl⟩ := h'
  conv => whnf
  repeat' ((conv => whnf); first | refine Rng.g ?_ | refine Ob.g ?_ | refine Ob.e ?_ | refine Ob.m ?_ | refine Ob.mk (Nat.le_of_ble_eq_true rfl) ?_ | refine JoinVC.on ?_ | refine Nils.mk (fun h => ?_) ?_ | refine Val.t ?_ | refine Val.d ?_ | refine Mm.mk ?_ | (refine Br.mk (fun h => ?_) (fun h => ?_) <;> first | (exfalso; omega; done) | (exfalso; simp at h; done) | skip))
  · repeat refine Mm.mk ?_
    conv => whnf
    refine EndVC.mk _ rfl _ _ (⟨x, 1, by omega, rfl, rfl⟩) ?_
    refine ⟨[some 0], rfl, rfl, ?_, ?_⟩ <;> repeat' (first | exact trivial | exact rfl | exact Iff.rfl | apply And.intro)
  · repeat refine Mm.mk ?_
    conv => whnf
    refine EndVC.mk _ rfl _ _ (⟨x, 0, by omega, rfl, rfl⟩) ?_
    refine ⟨[some 0], rfl, rfl, ?_, ?_⟩ <;> repeat' (first | exact trivial | exact rfl | exact Iff.rfl | apply And.intro)
/-! ### Other parts -/
theorem orev (fl : Bool) (n : Nat) (d : Array Int) (hz : d.size ≤ 1000) (hI : n ≤ d.size) (a b : Nat) (hab : a < b) (hb : b ≤ n) : HSpec Try.prog 93 [.one (.vw 0 Try.t3.size 0 n fl), I (a : Int), I (b : Int)] [rowA (d)] (fun r m' => ∃ W : Array Int, Go.Sort.PermIn a b d W ∧ r = .tup [] ∧ m' = [some (rowA (W))]) := by
  refine spec_of pMix (O := [(3, ([], [⟨0, [], []⟩, ⟨1, [], []⟩, ⟨2, [], []⟩, ⟨3, [], []⟩, ⟨4, [], []⟩, ⟨5, [], []⟩, ⟨6, [], []⟩, ⟨7, [], []⟩, ⟨8, [], []⟩, ⟨9, [], []⟩, ⟨10, [], []⟩, ⟨11, [], []⟩, ⟨12, [], []⟩, ⟨13, [2, 3], []⟩, ⟨14, [], []⟩, ⟨15, [], []⟩]))]) Try.func93 (c := bodyOf Try.f93) rfl (by kernel_rfl) (by kernel_rfl) Try.ntmps93 (res := []) (by kernel_rfl) ?_
  repeat' ((conv => whnf); first | refine Rng.g ?_ | refine Ob.g ?_ | refine Ob.e ?_ | refine Ob.m ?_ | refine Ob.mk (Nat.le_of_ble_eq_true rfl) ?_ | refine JoinVC.on ?_ | refine Nils.mk (fun h => ?_) ?_ | refine Val.t ?_ | refine Val.d ?_ | refine Mm.mk ?_ | (refine Br.mk (fun h => ?_) (fun h => ?_) <;> first | (exfalso; omega; done) | (exfalso; simp at h; done) | skip))
  refine LoopVC.mk (fun m st => ∃ (i j : Nat) (V : Array Int), a ≤ i ∧ i ≤ b ∧ j < b ∧ m = j - i ∧ Go.Sort.PermIn a b d V ∧ st = ⟨1, envA 32 [(0, .x (.one (.vw 0 Try.t3.size 0 n fl))), (1, .x (I (a : Int))), (2, .x (I (b : Int))), (6, .int .i64 (i : Int)), (7, .int .i64 (j : Int))], [some (rowA (V))]⟩) _ _ ⟨a, b - 1, d, Nat.le_refl _, by omega, by omega, rfl, Go.Sort.permIn_refl d a b, rfl⟩ ?_ ?_
  · refine ⟨[some 0], rfl, rfl, ?_, ?_⟩ <;> repeat' (first | exact trivial | exact rfl | exact Iff.rfl | apply And.intro)
    all_goals omega
  rintro m _ ⟨i, j, V, h1, h2, h3, hm, hP, rfl⟩
  have la := arr_len V
  have ls := hP.1
  by_cases hij : i < j
  rotate_left
  · repeat' ((conv => whnf); first | refine Rng.g ?_ | refine Ob.g ?_ | refine Ob.e ?_ | refine Ob.m ?_ | refine Ob.mk (Nat.le_of_ble_eq_true rfl) ?_ | refine JoinVC.on ?_ | refine Nils.mk (fun h => ?_) ?_ | refine Val.t ?_ | refine Val.d ?_ | refine Mm.mk ?_ | (refine Br.mk (fun h => ?_) (fun h => ?_) <;> first | (exfalso; omega; done) | (exfalso; simp at h; done) | skip))
    repeat refine Mm.mk ?_
    conv => whnf
    refine EndVC.mk _ rfl _ _ (⟨V, hP, rfl, rfl⟩) ?_
    refine ⟨[some 0], rfl, rfl, ?_, ?_⟩ <;> repeat' (first | exact trivial | exact rfl | exact Iff.rfl | apply And.intro)
  have gi : rI (i64s V.toList) ((i : Int)).toNat 0 = V[i]! := by rw [show ((i : Int)).toNat = i by omega]; exact arr_get V _
  have gj : rI (i64s V.toList) ((j : Int)).toNat 0 = V[j]! := by rw [show ((j : Int)).toNat = j by omega]; exact arr_get V _
  have u1 : updRow (i64s V.toList) ((i : Int)).toNat 0 [Cell.int V[j]!] = i64s (V.toList.set (i) V[j]!) := by rw [show ((i : Int)).toNat = i by omega]; exact arr_up1 V _ _ (by omega)
  have u2 : updRow (i64s (V.toList.set (i) V[j]!)) ((j : Int)).toNat 0 [Cell.int V[i]!] = i64s (Go.Sort.swp V (i) (j)).toList := by rw [show ((j : Int)).toNat = j by omega]; exact arr_up2 V _ _ (by omega)
  have la1 := arr_l1 V (i) V[j]!
  have la2 := arr_len (Go.Sort.swp V (i) (j))
  have ls2 := Go.Sort.size_swp V (i) (j)
  repeat' ((conv => whnf); first | rw [gi] | rw [gj] | rw [u1] | rw [u2] | refine Rng.g ?_ | refine Ob.g ?_ | refine Ob.e ?_ | refine Ob.m ?_ | refine Ob.mk (Nat.le_of_ble_eq_true rfl) ?_ | refine JoinVC.on ?_ | refine Nils.mk (fun h => ?_) ?_ | refine Val.t ?_ | refine Val.d ?_ | refine Mm.mk ?_ | (refine Br.mk (fun h => ?_) (fun h => ?_) <;> first | (exfalso; omega; done) | (exfalso; simp at h; done) | skip))
  refine Back.mk (j - 1 - (i + 1)) _ (by omega) ⟨i + 1, j - 1, _, by omega, by omega, by omega, rfl, Go.Sort.permIn_trans _ _ _ a b hP (Go.Sort.swp_permIn V a b i j (by omega) (by omega) (by omega) (by omega) (by omega)), rfl⟩ ?_
  refine ⟨[some 0], rfl, rfl, ?_, ?_⟩ <;> repeat' (first | exact trivial | exact rfl | exact Iff.rfl | apply And.intro)
  all_goals omega
theorem obrk (fl : Bool) (n : Nat) (d : Array Int) (hz : d.size ≤ 1000) (hI : n ≤ d.size) (a b : Nat) (hab : 8 ≤ b - a) (hb24 : b - a ≤ 24) (hb : b ≤ n) : HSpec Try.prog 91 [.one (.vw 0 Try.t3.size 0 n fl), I (a : Int), I (b : Int)] [rowA (d)] (fun r m' => ∃ W : Array Int, Go.Sort.PermIn a b d W ∧ r = .tup [] ∧ m' = [some (rowA (W))]) := by
  obtain ⟨q, hq⟩ : ∃ q, (b - a) / 4 = q := ⟨_, rfl⟩
  have hq1 : ((b : Int) - (a : Int)).tdiv 4 = (q : Int) := by
    rw [Int.tdiv_eq_ediv_of_nonneg (by omega)]
    omega
  refine spec_of pMix (O := [(10, ([], [⟨0, [], []⟩, ⟨1, [], []⟩, ⟨2, [], []⟩, ⟨3, [], []⟩, ⟨4, [], []⟩, ⟨5, [], []⟩, ⟨6, [], []⟩, ⟨7, [], []⟩, ⟨8, [], []⟩, ⟨9, [], []⟩, ⟨10, [], []⟩, ⟨11, [], []⟩, ⟨12, [], []⟩, ⟨13, [], []⟩, ⟨14, [], []⟩, ⟨15, [], []⟩, ⟨16, [], []⟩, ⟨17, [2, 3, 4, 5], []⟩, ⟨18, [], []⟩, ⟨19, [], []⟩]))]) Try.func91 (c := bodyOf Try.f91) rfl (by kernel_rfl) (by kernel_rfl) Try.ntmps91 (res := []) (by kernel_rfl) ?_
  repeat' ((conv => whnf); first | refine Rng.g ?_ | refine Ob.g ?_ | refine Ob.e ?_ | refine Ob.m ?_ | refine Ob.mk (Nat.le_of_ble_eq_true rfl) ?_ | refine JoinVC.on ?_ | refine Nils.mk (fun h => ?_) ?_ | refine Val.t ?_ | refine Val.d ?_ | refine Mm.mk ?_ | (refine Br.mk (fun h => ?_) (fun h => ?_) <;> first | (exfalso; omega; done) | (exfalso; simp at h; done) | skip))
  conv => whnf
  refine CallVC.mk [] _ _ _ rfl rfl rfl (s115 ((b : Int) - (a : Int)) (by omega)) (fun r m' h' => ?_)
  obtain ⟨v, hv, rfl, rfl⟩ := h'
  conv => whnf
  repeat' ((conv => whnf); first | refine Rng.g ?_ | refine Ob.g ?_ | refine Val.mk (q : Int) hq1 ?_)
  refine LoopVC.mk (fun m st => ∃ (k : Nat) (V : Array Int) (x : Int), k ≤ 3 ∧ m = 3 - k ∧ Go.Sort.PermIn a b d V ∧ st = ⟨1, envA 65 [(0, .x (.one (.vw 0 Try.t3.size 0 n fl))), (1, .x (I (a : Int))), (2, .x (I (b : Int))), (6, .int .i64 ((b : Int) - (a : Int))), (7, .x (.one (.ptr 1 0))), (8, .x (U64 v)), (9, .int .i64 (((a + 2 * q + k : Nat) : Int) - 1))], [some (rowA (V)), some (.box 151 [.int .u64 x])]⟩) _ _ ⟨0, d, (b : Int) - (a : Int), by omega, rfl, Go.Sort.permIn_refl d a b, rfl⟩ ?_ ?_
  · refine ⟨[some 0, some 1], rfl, rfl, ?_, ?_⟩ <;> repeat' (first | exact trivial | exact rfl | exact Iff.rfl | apply And.intro)
    all_goals omega
  rintro m _ ⟨k, V, x, hk, hm, hP, rfl⟩
  have la := arr_len V
  have ls := hP.1
  by_cases hk3 : k < 3
  rotate_left
  · repeat' ((conv => whnf); first | refine Rng.g ?_ | refine Ob.g ?_ | refine Val.mk (q : Int) hq1 ?_ | (refine Br.mk (fun h => ?_) (fun h => ?_) <;> first | (exfalso; omega; done) | skip))
    repeat refine Mm.mk ?_
    conv => whnf
    refine EndVC.mk _ rfl _ _ (⟨V, hP, rfl, rfl⟩) ?_
    refine ⟨[some 0], rfl, rfl, ?_, ?_⟩ <;> repeat' (first | exact trivial | exact rfl | exact Iff.rfl | apply And.intro)
  repeat' ((conv => whnf); first | refine Rng.g ?_ | refine Ob.g ?_ | refine Val.mk (q : Int) hq1 ?_ | (refine Br.mk (fun h => ?_) (fun h => ?_) <;> first | (exfalso; omega; done) | skip))
  conv => whnf
  refine CallVC.mk [1] _ _ _ rfl rfl rfl (s116 x) (fun r m' h' => ?_)
  obtain ⟨w, rfl, rfl⟩ := h'
  conv => whnf
  repeat' ((conv => whnf); first | refine Rng.g ?_ | refine Ob.g ?_ | refine Ob.e ?_ | refine Ob.m ?_ | refine Ob.mk (Nat.le_of_ble_eq_true rfl) ?_ | refine JoinVC.on ?_ | refine Nils.mk (fun h => ?_) ?_ | refine Val.t ?_ | refine Val.d ?_ | refine Mm.mk ?_ | (refine Br.mk (fun h => ?_) (fun h => ?_) <;> first | (exfalso; omega; done) | (exfalso; simp at h; done) | skip))
  conv => whnf
  refine Val.nm (fun o ho => ?_)
  have hr := and_rng w (v - 1) (by omega)
  rw [← ho] at hr
  clear ho
  by_cases ho2 : (b : Int) - (a : Int) ≤ o
  · obtain ⟨z, hz2⟩ : ∃ z : Nat, o - ((b : Int) - (a : Int)) = (z : Int) := ⟨(o - ((b : Int) - (a : Int))).toNat, by omega⟩
    have gi : rI (i64s V.toList) (((a + 2 * q + k : Nat) : Int) - 1).toNat 0 = V[a + 2 * q + k - 1]! := by rw [show (((a + 2 * q + k : Nat) : Int) - 1).toNat = a + 2 * q + k - 1 by omega]; exact arr_get V _
    have gj : rI (i64s V.toList) ((a : Int) + (o - ((b : Int) - (a : Int)))).toNat 0 = V[a + z]! := by rw [show ((a : Int) + (o - ((b : Int) - (a : Int)))).toNat = a + z by omega]; exact arr_get V _
    have u1 : updRow (i64s V.toList) (((a + 2 * q + k : Nat) : Int) - 1).toNat 0 [Cell.int V[a + z]!] = i64s (V.toList.set (a + 2 * q + k - 1) V[a + z]!) := by rw [show (((a + 2 * q + k : Nat) : Int) - 1).toNat = a + 2 * q + k - 1 by omega]; exact arr_up1 V _ _ (by omega)
    have u2 : updRow (i64s (V.toList.set (a + 2 * q + k - 1) V[a + z]!)) ((a : Int) + (o - ((b : Int) - (a : Int)))).toNat 0 [Cell.int V[a + 2 * q + k - 1]!] = i64s (Go.Sort.swp V (a + 2 * q + k - 1) (a + z)).toList := by rw [show ((a : Int) + (o - ((b : Int) - (a : Int)))).toNat = a + z by omega]; exact arr_up2 V _ _ (by omega)
    have la1 := arr_l1 V (a + 2 * q + k - 1) V[a + z]!
    have la2 := arr_len (Go.Sort.swp V (a + 2 * q + k - 1) (a + z))
    have ls2 := Go.Sort.size_swp V (a + 2 * q + k - 1) (a + z)
    repeat' ((conv => whnf); first | rw [gi] | rw [gj] | rw [u1] | rw [u2] | refine Rng.g ?_ | refine Ob.g ?_ | refine Ob.e ?_ | refine Ob.m ?_ | refine Ob.mk (Nat.le_of_ble_eq_true rfl) ?_ | refine JoinVC.on ?_ | refine Nils.mk (fun h => ?_) ?_ | refine Val.t ?_ | refine Val.d ?_ | refine Mm.mk ?_ | (refine Br.mk (fun h => ?_) (fun h => ?_) <;> first | (exfalso; omega; done) | (exfalso; simp at h; done) | skip))
    refine Back.mk (3 - (k + 1)) _ (by omega) ⟨k + 1, _, w, by omega, rfl, Go.Sort.permIn_trans _ _ _ a b hP (Go.Sort.swp_permIn V a b (a + 2 * q + k - 1) (a + z) (by omega) (by omega) (by omega) (by omega) (by omega)), rfl⟩ ?_
    refine ⟨[some 0, some 1], rfl, rfl, ?_, ?_⟩ <;> repeat' (first | exact trivial | exact rfl | exact Iff.rfl | apply And.intro)
    all_goals omega
  · obtain ⟨z, rfl⟩ : ∃ z : Nat, o = (z : Int) := ⟨o.toNat, by omega⟩
    have gi : rI (i64s V.toList) (((a + 2 * q + k : Nat) : Int) - 1).toNat 0 = V[a + 2 * q + k - 1]! := by rw [show (((a + 2 * q + k : Nat) : Int) - 1).toNat = a + 2 * q + k - 1 by omega]; exact arr_get V _
    have gj : rI (i64s V.toList) ((a : Int) + (z : Int)).toNat 0 = V[a + z]! := by rw [show ((a : Int) + (z : Int)).toNat = a + z by omega]; exact arr_get V _
    have u1 : updRow (i64s V.toList) (((a + 2 * q + k : Nat) : Int) - 1).toNat 0 [Cell.int V[a + z]!] = i64s (V.toList.set (a + 2 * q + k - 1) V[a + z]!) := by rw [show (((a + 2 * q + k : Nat) : Int) - 1).toNat = a + 2 * q + k - 1 by omega]; exact arr_up1 V _ _ (by omega)
    have u2 : updRow (i64s (V.toList.set (a + 2 * q + k - 1) V[a + z]!)) ((a : Int) + (z : Int)).toNat 0 [Cell.int V[a + 2 * q + k - 1]!] = i64s (Go.Sort.swp V (a + 2 * q + k - 1) (a + z)).toList := by rw [show ((a : Int) + (z : Int)).toNat = a + z by omega]; exact arr_up2 V _ _ (by omega)
    have la1 := arr_l1 V (a + 2 * q + k - 1) V[a + z]!
    have la2 := arr_len (Go.Sort.swp V (a + 2 * q + k - 1) (a + z))
    have ls2 := Go.Sort.size_swp V (a + 2 * q + k - 1) (a + z)
    repeat' ((conv => whnf); first | rw [gi] | rw [gj] | rw [u1] | rw [u2] | refine Rng.g ?_ | refine Ob.g ?_ | refine Ob.e ?_ | refine Ob.m ?_ | refine Ob.mk (Nat.le_of_ble_eq_true rfl) ?_ | refine JoinVC.on ?_ | refine Nils.mk (fun h => ?_) ?_ | refine Val.t ?_ | refine Val.d ?_ | refine Mm.mk ?_ | (refine Br.mk (fun h => ?_) (fun h => ?_) <;> first | (exfalso; omega; done) | (exfalso; simp at h; done) | skip))
    refine Back.mk (3 - (k + 1)) _ (by omega) ⟨k + 1, _, w, by omega, rfl, Go.Sort.permIn_trans _ _ _ a b hP (Go.Sort.swp_permIn V a b (a + 2 * q + k - 1) (a + z) (by omega) (by omega) (by omega) (by omega) (by omega)), rfl⟩ ?_
    refine ⟨[some 0, some 1], rfl, rfl, ?_, ?_⟩ <;> repeat' (first | exact trivial | exact rfl | exact Iff.rfl | apply And.intro)
    all_goals omega
/-- Short rows are not shifted. -/
theorem opis (fl : Bool) (n : Nat) (d : Array Int) (hz : d.size ≤ 1000) (hI : n ≤ d.size) (a b : Nat) (hab : a < b) (hb50 : b - a < 50) (hb : b ≤ n) : HSpec Try.prog 94 [.one (.vw 0 Try.t3.size 0 n fl), I (a : Int), I (b : Int)] [rowA (d)] (fun r m' => ∃ y : Bool, y = (Go.Sort.partialInsertionSort Go.Sort.ltInt d a b).2 ∧ (Go.Sort.partialInsertionSort Go.Sort.ltInt d a b).1 = d ∧ r = .x (.one (.bool y)) ∧ m' = [some (rowA (d))]) := by
  have la := arr_len d
  have hV : n ≤ d.size := hI
  have hp := pi_short (lt := Go.Sort.ltInt) d hb50
  obtain ⟨Z, hZ⟩ : ∃ Z, Go.Sort.scanSorted Go.Sort.ltInt d b (a + 1) = Z := ⟨_, rfl⟩
  rw [hZ] at hp
  refine spec_of pMix (O := [(11, ([], [⟨0, [], []⟩, ⟨1, [], []⟩, ⟨2, [], []⟩, ⟨3, [], []⟩, ⟨4, [], []⟩, ⟨5, [], []⟩, ⟨6, [], []⟩, ⟨7, [], []⟩, ⟨8, [], []⟩, ⟨9, [], []⟩, ⟨10, [], []⟩, ⟨11, [], []⟩, ⟨12, [], []⟩, ⟨13, [], []⟩, ⟨14, [], []⟩, ⟨15, [2, 3, 4], []⟩, ⟨16, [], []⟩, ⟨17, [], []⟩])), (17, ([], [⟨0, [], []⟩, ⟨1, [], []⟩, ⟨2, [], []⟩, ⟨3, [], []⟩, ⟨4, [], []⟩, ⟨5, [], []⟩, ⟨6, [], []⟩, ⟨7, [], []⟩, ⟨8, [], []⟩, ⟨9, [], []⟩, ⟨10, [], []⟩, ⟨11, [], []⟩, ⟨12, [], []⟩, ⟨13, [], []⟩, ⟨14, [], []⟩, ⟨15, [2, 3, 4], []⟩, ⟨16, [], []⟩, ⟨17, [], []⟩])), (23, ([], [⟨0, [], []⟩, ⟨1, [], []⟩, ⟨2, [], []⟩, ⟨3, [], []⟩, ⟨4, [], []⟩, ⟨5, [], []⟩, ⟨6, [], []⟩, ⟨7, [], []⟩, ⟨8, [], []⟩, ⟨9, [], []⟩, ⟨10, [], []⟩, ⟨11, [], []⟩, ⟨12, [], []⟩, ⟨13, [], []⟩, ⟨14, [], []⟩, ⟨15, [2, 3, 4], []⟩, ⟨16, [], []⟩, ⟨17, [], []⟩]))]) Try.func94 (c := bodyOf Try.f94) rfl (by kernel_rfl) (by kernel_rfl) Try.ntmps94 (res := [.tmp 6]) (by kernel_rfl) ?_
  repeat' ((conv => whnf); first | refine Rng.g ?_ | refine Ob.g ?_ | refine Ob.e ?_ | refine Ob.m ?_ | refine Ob.mk (Nat.le_of_ble_eq_true rfl) ?_ | refine JoinVC.on ?_ | refine Nils.mk (fun h => ?_) ?_ | refine Val.t ?_ | refine Val.d ?_ | refine Mm.mk ?_ | (refine Br.mk (fun h => ?_) (fun h => ?_) <;> first | (exfalso; omega; done) | (exfalso; simp at h; done) | skip))
  refine LoopVC.un 1 ?_
  repeat' ((conv => whnf); first | refine Rng.g ?_ | refine Ob.g ?_ | refine Ob.e ?_ | refine Ob.m ?_ | refine Ob.mk (Nat.le_of_ble_eq_true rfl) ?_ | refine JoinVC.on ?_ | refine Nils.mk (fun h => ?_) ?_ | refine Val.t ?_ | refine Val.d ?_ | refine Mm.mk ?_ | (refine Br.mk (fun h => ?_) (fun h => ?_) <;> first | (exfalso; omega; done) | (exfalso; simp at h; done) | skip))
  refine LoopVC.cut (fun m st => ∃ i : Nat, a + 1 ≤ i ∧ i ≤ b ∧ m = b - i ∧ Go.Sort.scanSorted Go.Sort.ltInt d b i = Z ∧ st = ⟨1, envA 133 [(0, .x (.one (.vw 0 Try.t3.size 0 n fl))), (1, .x (I (a : Int))), (2, .x (I (b : Int))), (7, .int .i64 (i : Int)), (8, .int .i64 0)], [some (rowA (d))]⟩) _ _ (fun e st => e = .exit 2 ∧ Z ≤ b ∧ st = ⟨1, envA 133 [(0, .x (.one (.vw 0 Try.t3.size 0 n fl))), (1, .x (I (a : Int))), (2, .x (I (b : Int))), (7, .int .i64 (Z : Int)), (8, .int .i64 0)], [some (rowA (d))]⟩) ⟨a + 1, Nat.le_refl _, by omega, rfl, hZ, rfl⟩ ?_ ?_ ?_
  · refine ⟨[some 0], rfl, rfl, ?_, ?_⟩ <;> repeat' (first | exact trivial | exact rfl | exact Iff.rfl | apply And.intro)
  · rintro m _ ⟨i, h1, h2, hm, hi, rfl⟩
    by_cases hib : i < b
    rotate_left
    · rw [ss_no (fun h => hib h.1)] at hi
      subst hi
      repeat' ((conv => whnf); first | refine Rng.g ?_ | refine Ob.g ?_ | refine Ob.e ?_ | refine Ob.m ?_ | refine Ob.mk (Nat.le_of_ble_eq_true rfl) ?_ | refine JoinVC.on ?_ | refine Nils.mk (fun h => ?_) ?_ | refine Val.t ?_ | refine Val.d ?_ | refine Mm.mk ?_ | (refine Br.mk (fun h => ?_) (fun h => ?_) <;> first | (exfalso; omega; done) | (exfalso; simp at h; done) | skip))
      refine Meet.mk _ ⟨rfl, h2, rfl⟩ ?_
      refine ⟨[some 0], rfl, rfl, ?_, ?_⟩ <;> repeat' (first | exact trivial | exact rfl | exact Iff.rfl | apply And.intro)
    have gi : rI (i64s d.toList) ((i : Int)).toNat 0 = d[i]! := by rw [show ((i : Int)).toNat = i by omega]; exact arr_get d _
    have gj : rI (i64s d.toList) ((i : Int) - 1).toNat 0 = d[i - 1]! := by rw [show ((i : Int) - 1).toNat = i - 1 by omega]; exact arr_get d _
    repeat' ((conv => whnf); first | rw [gi] | rw [gj] | refine Rng.g ?_ | refine Ob.g ?_ | refine Ob.e ?_ | refine Ob.m ?_ | refine Ob.mk (Nat.le_of_ble_eq_true rfl) ?_ | refine JoinVC.on ?_ | refine Nils.mk (fun h => ?_) ?_ | refine Val.t ?_ | refine Val.d ?_ | refine Mm.mk ?_ | (refine Br.mk (fun h => ?_) (fun h => ?_) <;> first | (exfalso; omega; done) | (exfalso; simp at h; done) | skip))
    conv => whnf
    refine CallVC.mk [] _ _ _ rfl rfl rfl (s95 d[i]! d[i - 1]!) (fun r m' h' => ?_)
    obtain ⟨rfl, rfl⟩ := h'
    conv => whnf
    by_cases hlt : Go.Sort.ltInt d[i]! d[i - 1]! = true
    · have hc := int_yes hlt
      rw [ss_no (fun h => h.2 hlt)] at hi
      subst hi
      repeat' ((conv => whnf); first | rw [gi] | rw [gj] | refine Rng.g ?_ | refine Ob.g ?_ | refine Ob.e ?_ | refine Ob.m ?_ | refine Ob.mk (Nat.le_of_ble_eq_true rfl) ?_ | refine JoinVC.on ?_ | refine Nils.mk (fun h => ?_) ?_ | refine Val.t ?_ | refine Val.d ?_ | refine Mm.mk ?_ | (refine Br.mk (fun h => ?_) (fun h => ?_) <;> first | (exfalso; omega; done) | (exfalso; simp at h; done) | skip))
      refine Meet.mk _ ⟨rfl, h2, rfl⟩ ?_
      refine ⟨[some 0], rfl, rfl, ?_, ?_⟩ <;> repeat' (first | exact trivial | exact rfl | exact Iff.rfl | apply And.intro)
    · have hc := int_no hlt
      rw [ss_yes hib hlt] at hi
      repeat' ((conv => whnf); first | rw [gi] | rw [gj] | refine Rng.g ?_ | refine Ob.g ?_ | refine Ob.e ?_ | refine Ob.m ?_ | refine Ob.mk (Nat.le_of_ble_eq_true rfl) ?_ | refine JoinVC.on ?_ | refine Nils.mk (fun h => ?_) ?_ | refine Val.t ?_ | refine Val.d ?_ | refine Mm.mk ?_ | (refine Br.mk (fun h => ?_) (fun h => ?_) <;> first | (exfalso; omega; done) | (exfalso; simp at h; done) | skip))
      refine Back.mk (b - (i + 1)) _ (by omega) ⟨i + 1, by omega, by omega, rfl, hi, rfl⟩ ?_
      refine ⟨[some 0], rfl, rfl, ?_, ?_⟩ <;> repeat' (first | exact trivial | exact rfl | exact Iff.rfl | apply And.intro)
  rintro e _ ⟨rfl, hZb, rfl⟩
  by_cases he : Z = b
  · have e1 : (Go.Sort.partialInsertionSort Go.Sort.ltInt d a b) = (d, true) := by rw [hp]; simp [he]
    repeat' ((conv => whnf); first | refine Rng.g ?_ | refine Ob.g ?_ | refine Ob.e ?_ | refine Ob.m ?_ | refine Ob.mk (Nat.le_of_ble_eq_true rfl) ?_ | refine JoinVC.on ?_ | refine Nils.mk (fun h => ?_) ?_ | refine Val.t ?_ | refine Val.d ?_ | refine Mm.mk ?_ | (refine Br.mk (fun h => ?_) (fun h => ?_) <;> first | (exfalso; omega; done) | (exfalso; simp at h; done) | skip))
    repeat refine Mm.mk ?_
    conv => whnf
    refine EndVC.mk _ rfl _ _ (⟨true, by rw [e1], by rw [e1], rfl, rfl⟩) ?_
    refine ⟨[some 0], rfl, rfl, ?_, ?_⟩ <;> repeat' (first | exact trivial | exact rfl | exact Iff.rfl | apply And.intro)
  · have e1 : (Go.Sort.partialInsertionSort Go.Sort.ltInt d a b) = (d, false) := by rw [hp]; simp [he]
    repeat' ((conv => whnf); first | refine Rng.g ?_ | refine Ob.g ?_ | refine Ob.e ?_ | refine Ob.m ?_ | refine Ob.mk (Nat.le_of_ble_eq_true rfl) ?_ | refine JoinVC.on ?_ | refine Nils.mk (fun h => ?_) ?_ | refine Val.t ?_ | refine Val.d ?_ | refine Mm.mk ?_ | (refine Br.mk (fun h => ?_) (fun h => ?_) <;> first | (exfalso; omega; done) | (exfalso; simp at h; done) | skip))
    repeat refine Mm.mk ?_
    conv => whnf
    refine EndVC.mk _ rfl _ _ (⟨false, by rw [e1], by rw [e1], rfl, rfl⟩) ?_
    refine ⟨[some 0], rfl, rfl, ?_, ?_⟩ <;> repeat' (first | exact trivial | exact rfl | exact Iff.rfl | apply And.intro)
end Go.Sx

namespace Go.Sx
open Go Go.Proofs
set_option maxRecDepth 10000
set_option maxHeartbeats 16000000
/-! ### The whole sort -/
theorem opdq (fl : Bool) (n : Nat) : ∀ (N0 : Nat) (d : Array Int) (_ : d.size ≤ 1000) (_ : n ≤ d.size) (a b lim : Nat), b - a = N0 → a ≤ b → b ≤ n → b - a ≤ 24 → lim ≤ 100 → Go.Sort.Below Go.Sort.ltInt a b d → HSpec Try.prog 79 [.one (.vw 0 Try.t3.size 0 n fl), I (a : Int), I (b : Int), I (lim : Int)] [rowA (d)] (fun r m' => ∃ W : Array Int, Go.Sort.PermIn a b d W ∧ Go.Sort.SortedIn Go.Sort.ltInt a b W ∧ r = .tup [] ∧ m' = [some (rowA (W))]) := by
  intro N0
  induction N0 using Nat.strongRecOn with
  | ind N0 ih =>
  intro d hz hI a b lim hN hab hb h24 hlim hB0
  refine spec_of pMix (O := []) Try.func79 (c := bodyOf Try.f79) rfl (by kernel_rfl) (by kernel_rfl) Try.ntmps79 (res := []) (by kernel_rfl) ?_
  repeat' ((conv => whnf); first | refine Rng.g ?_ | refine Ob.g ?_ | refine Ob.e ?_ | refine Ob.m ?_ | refine Ob.mk (Nat.le_of_ble_eq_true rfl) ?_ | refine JoinVC.on ?_ | refine Nils.mk (fun h => ?_) ?_ | refine Val.t ?_ | refine Val.d ?_ | refine Mm.mk ?_ | (refine Br.mk (fun h => ?_) (fun h => ?_) <;> first | (exfalso; omega; done) | (exfalso; simp at h; done) | skip))
  refine LoopVC.mk (fun m st => ∃ (x y lm : Nat) (wb wp : Bool) (V : Array Int), x ≤ y ∧ y ≤ n ∧ y - x ≤ b - a ∧ m = y - x ∧ V.size = d.size ∧ n ≤ V.size ∧ lm ≤ 100 ∧ Go.Sort.Below Go.Sort.ltInt x y V ∧ (∀ R, Go.Sort.PermIn x y V R → Go.Sort.SortedIn Go.Sort.ltInt x y R → Go.Sort.PermIn a b d R ∧ Go.Sort.SortedIn Go.Sort.ltInt a b R) ∧ st = ⟨1, envA 134 [(0, .x (.one (.vw 0 Try.t3.size 0 n fl))), (1, .x (I (x : Int))), (2, .x (I (y : Int))), (3, .x (I (lm : Int))), (8, .x (.one (.bool wb))), (9, .x (.one (.bool wp)))], [some (rowA (V))]⟩) _ _ ⟨a, b, lim, true, true, d, hab, hb, Nat.le_refl _, rfl, rfl, hI, hlim, hB0, fun R h1 h2 => ⟨h1, h2⟩, rfl⟩ ?_ ?_
  · refine ⟨[some 0], rfl, rfl, ?_, ?_⟩ <;> repeat' (first | exact trivial | exact rfl | exact Iff.rfl | apply And.intro)
  rintro m _ ⟨x, y, lm, wb, wp, V, hxy, hyN, hle, hm, lV, hV, hlm, hB, hfin, rfl⟩
  by_cases h12 : y - x ≤ 12
  · repeat' ((conv => whnf); first | refine Rng.g ?_ | refine Ob.g ?_ | refine Ob.e ?_ | refine Ob.m ?_ | refine Ob.mk (Nat.le_of_ble_eq_true rfl) ?_ | refine JoinVC.on ?_ | refine Nils.mk (fun h => ?_) ?_ | refine Val.t ?_ | refine Val.d ?_ | refine Mm.mk ?_ | (refine Br.mk (fun h => ?_) (fun h => ?_) <;> first | (exfalso; omega; done) | (exfalso; simp at h; done) | skip))
    conv => whnf
    refine CallVC.mk [0] _ _ _ rfl rfl rfl (oins fl n V (by omega) hV x y hxy (by omega)) (fun r m' h' => ?_)
    obtain ⟨rfl, rfl⟩ := h'
    conv => whnf
    obtain ⟨p1, p2⟩ := Go.Sort.insertionSort_holds (lt := Go.Sort.ltInt) Go.Sort.swo_ltInt V x y hxy (by omega)
    obtain ⟨q1, q2⟩ := hfin _ p1 p2
    repeat' ((conv => whnf); first | refine Rng.g ?_ | refine Ob.g ?_ | refine Ob.e ?_ | refine Ob.m ?_ | refine Ob.mk (Nat.le_of_ble_eq_true rfl) ?_ | refine JoinVC.on ?_ | refine Nils.mk (fun h => ?_) ?_ | refine Val.t ?_ | refine Val.d ?_ | refine Mm.mk ?_ | (refine Br.mk (fun h => ?_) (fun h => ?_) <;> first | (exfalso; omega; done) | (exfalso; simp at h; done) | skip))
    repeat refine Mm.mk ?_
    conv => whnf
    refine EndVC.mk _ rfl _ _ (⟨_, q1, q2, rfl, rfl⟩) ?_
    refine ⟨[some 0], rfl, rfl, ?_, ?_⟩ <;> repeat' (first | exact trivial | exact rfl | exact Iff.rfl | apply And.intro)
  by_cases h0 : lm = 0
  · subst h0
    repeat' ((conv => whnf); first | refine Rng.g ?_ | refine Ob.g ?_ | refine Ob.e ?_ | refine Ob.m ?_ | refine Ob.mk (Nat.le_of_ble_eq_true rfl) ?_ | refine JoinVC.on ?_ | refine Nils.mk (fun h => ?_) ?_ | refine Val.t ?_ | refine Val.d ?_ | refine Mm.mk ?_ | (refine Br.mk (fun h => ?_) (fun h => ?_) <;> first | (exfalso; omega; done) | (exfalso; simp at h; done) | skip))
    conv => whnf
    refine CallVC.mk [0] _ _ _ rfl rfl rfl (oheap fl n V (by omega) hV x y hxy (by omega)) (fun r m' h' => ?_)
    obtain ⟨rfl, rfl⟩ := h'
    conv => whnf
    obtain ⟨p1, p2⟩ := Go.Sort.heapSort_holds (lt := Go.Sort.ltInt) Go.Sort.swo_ltInt V x y hxy (by omega)
    obtain ⟨q1, q2⟩ := hfin _ p1 p2
    repeat' ((conv => whnf); first | refine Rng.g ?_ | refine Ob.g ?_ | refine Ob.e ?_ | refine Ob.m ?_ | refine Ob.mk (Nat.le_of_ble_eq_true rfl) ?_ | refine JoinVC.on ?_ | refine Nils.mk (fun h => ?_) ?_ | refine Val.t ?_ | refine Val.d ?_ | refine Mm.mk ?_ | (refine Br.mk (fun h => ?_) (fun h => ?_) <;> first | (exfalso; omega; done) | (exfalso; simp at h; done) | skip))
    repeat refine Mm.mk ?_
    conv => whnf
    refine EndVC.mk _ rfl _ _ (⟨_, q1, q2, rfl, rfl⟩) ?_
    refine ⟨[some 0], rfl, rfl, ?_, ?_⟩ <;> repeat' (first | exact trivial | exact rfl | exact Iff.rfl | apply And.intro)
  repeat' ((conv => whnf); first | refine Rng.g ?_ | refine Ob.g ?_ | refine Ob.e ?_ | refine Ob.m ?_ | refine Ob.mk (Nat.le_of_ble_eq_true rfl) ?_ | refine Nils.mk (fun h => ?_) ?_ | refine Val.t ?_ | refine Val.d ?_ | refine Mm.mk ?_ | (refine Br.mk (fun h => ?_) (fun h => ?_) <;> first | (exfalso; omega; done) | (exfalso; simp at h; done) | skip))
  refine JoinVC.cut (fun st => ∃ (l2 : Nat) (W : Array Int), l2 ≤ 100 ∧ Go.Sort.PermIn x y V W ∧ st = ⟨1, envA 134 [(0, .x (.one (.vw 0 Try.t3.size 0 n fl))), (1, .x (I (x : Int))), (2, .x (I (y : Int))), (3, .x (I (l2 : Int))), (8, .x (.one (.bool wb))), (9, .x (.one (.bool wp))), (10, .int .i64 ((y : Int) - (x : Int)))], [some (rowA (W))]⟩) ?_ ?_
  · cases wb with
    | true =>
      repeat' ((conv => whnf); first | refine Rng.g ?_ | refine Ob.g ?_ | refine Ob.e ?_ | refine Ob.m ?_ | refine Ob.mk (Nat.le_of_ble_eq_true rfl) ?_ | refine Nils.mk (fun h => ?_) ?_ | refine Val.t ?_ | refine Val.d ?_ | refine Mm.mk ?_ | (refine Br.mk (fun h => ?_) (fun h => ?_) <;> first | (exfalso; omega; done) | (exfalso; simp at h; done) | skip))
      refine Meet.mk _ ⟨lm, V, hlm, Go.Sort.permIn_refl _ _ _, rfl⟩ ?_
      refine ⟨[some 0], rfl, rfl, ?_, ?_⟩ <;> repeat' (first | exact trivial | exact rfl | exact Iff.rfl | apply And.intro)
    | false =>
      repeat' ((conv => whnf); first | refine Rng.g ?_ | refine Ob.g ?_ | refine Ob.e ?_ | refine Ob.m ?_ | refine Ob.mk (Nat.le_of_ble_eq_true rfl) ?_ | refine Nils.mk (fun h => ?_) ?_ | refine Val.t ?_ | refine Val.d ?_ | refine Mm.mk ?_ | (refine Br.mk (fun h => ?_) (fun h => ?_) <;> first | (exfalso; omega; done) | (exfalso; simp at h; done) | skip))
      conv => whnf
      refine CallVC.mk [0] _ _ _ rfl rfl rfl (obrk fl n V (by omega) hV x y (by omega) (by omega) (by omega)) (fun r m' h' => ?_)
      obtain ⟨W, hW, rfl, rfl⟩ := h'
      conv => whnf
      repeat' ((conv => whnf); first | refine Rng.g ?_ | refine Ob.g ?_ | refine Ob.e ?_ | refine Ob.m ?_ | refine Ob.mk (Nat.le_of_ble_eq_true rfl) ?_ | refine Nils.mk (fun h => ?_) ?_ | refine Val.t ?_ | refine Val.d ?_ | refine Mm.mk ?_ | (refine Br.mk (fun h => ?_) (fun h => ?_) <;> first | (exfalso; omega; done) | (exfalso; simp at h; done) | skip))
      refine Meet.mk _ ⟨lm - 1, W, by omega, hW, rfl⟩ ?_
      refine ⟨[some 0], rfl, rfl, ?_, ?_⟩ <;> repeat' (first | exact trivial | exact rfl | exact Iff.rfl | apply And.intro)
      all_goals omega
  rintro _ ⟨l2, W, hl2, hPW, rfl⟩
  have lW := hPW.1
  have hW : n ≤ W.size := by have := hPW.1; omega
  repeat' ((conv => whnf); first | refine Rng.g ?_ | refine Ob.g ?_ | refine Ob.e ?_ | refine Ob.m ?_ | refine Ob.mk (Nat.le_of_ble_eq_true rfl) ?_ | refine Nils.mk (fun h => ?_) ?_ | refine Val.t ?_ | refine Val.d ?_ | refine Mm.mk ?_ | (refine Br.mk (fun h => ?_) (fun h => ?_) <;> first | (exfalso; omega; done) | (exfalso; simp at h; done) | skip))
  conv => whnf
  refine CallVC.mk [0] _ _ _ rfl rfl rfl (opiv fl n W (by omega) hW x y (by omega) (by omega) (by omega)) (fun r m' h' => ?_)
  obtain ⟨p, gg, hp, rfl, rfl⟩ := h'
  conv => whnf
  repeat' ((conv => whnf); first | refine Rng.g ?_ | refine Ob.g ?_ | refine Ob.e ?_ | refine Ob.m ?_ | refine Ob.mk (Nat.le_of_ble_eq_true rfl) ?_ | refine Nils.mk (fun h => ?_) ?_ | refine Val.t ?_ | refine Val.d ?_ | refine Mm.mk ?_ | (refine Br.mk (fun h => ?_) (fun h => ?_) <;> first | (exfalso; omega; done) | (exfalso; simp at h; done) | skip))
  refine JoinVC.cut (fun st => ∃ (p2 : Nat) (h2 : Int) (W2 : Array Int), (x ≤ p2 ∧ p2 < y) ∧ Go.Sort.PermIn x y V W2 ∧ st = ⟨1, envA 134 [(0, .x (.one (.vw 0 Try.t3.size 0 n fl))), (1, .x (I (x : Int))), (2, .x (I (y : Int))), (3, .x (I (l2 : Int))), (8, .x (.one (.bool wb))), (9, .x (.one (.bool wp))), (10, .int .i64 ((y : Int) - (x : Int))), (11, .int .i64 (p2 : Int)), (12, .int .i64 h2)], [some (rowA (W2))]⟩) ?_ ?_
  · by_cases hh : gg = 2
    · repeat' ((conv => whnf); first | refine Rng.g ?_ | refine Ob.g ?_ | refine Ob.e ?_ | refine Ob.m ?_ | refine Ob.mk (Nat.le_of_ble_eq_true rfl) ?_ | refine Nils.mk (fun h => ?_) ?_ | refine Val.t ?_ | refine Val.d ?_ | refine Mm.mk ?_ | (refine Br.mk (fun h => ?_) (fun h => ?_) <;> first | (exfalso; omega; done) | (exfalso; simp at h; done) | skip))
      conv => whnf
      refine CallVC.mk [0] _ _ _ rfl rfl rfl (orev fl n W (by omega) hW x y (by omega) (by omega)) (fun r m' h' => ?_)
      obtain ⟨W2, hW2, rfl, rfl⟩ := h'
      conv => whnf
      repeat' ((conv => whnf); first | refine Rng.g ?_ | refine Ob.g ?_ | refine Ob.e ?_ | refine Ob.m ?_ | refine Ob.mk (Nat.le_of_ble_eq_true rfl) ?_ | refine Nils.mk (fun h => ?_) ?_ | refine Val.t ?_ | refine Val.d ?_ | refine Mm.mk ?_ | (refine Br.mk (fun h => ?_) (fun h => ?_) <;> first | (exfalso; omega; done) | (exfalso; simp at h; done) | skip))
      refine Meet.mk _ ⟨(y - 1) - (p - x), 1, W2, by omega, Go.Sort.permIn_trans _ _ _ x y hPW hW2, rfl⟩ ?_
      refine ⟨[some 0], rfl, rfl, ?_, ?_⟩ <;> repeat' (first | exact trivial | exact rfl | exact Iff.rfl | apply And.intro)
      all_goals omega
    · repeat' ((conv => whnf); first | refine Rng.g ?_ | refine Ob.g ?_ | refine Ob.e ?_ | refine Ob.m ?_ | refine Ob.mk (Nat.le_of_ble_eq_true rfl) ?_ | refine Nils.mk (fun h => ?_) ?_ | refine Val.t ?_ | refine Val.d ?_ | refine Mm.mk ?_ | (refine Br.mk (fun h => ?_) (fun h => ?_) <;> first | (exfalso; omega; done) | (exfalso; simp at h; done) | skip))
      refine Meet.mk _ ⟨p, gg, W, hp, hPW, rfl⟩ ?_
      refine ⟨[some 0], rfl, rfl, ?_, ?_⟩ <;> repeat' (first | exact trivial | exact rfl | exact Iff.rfl | apply And.intro)
  clear hp hPW lW hW p gg W
  rintro _ ⟨p, gg, W2, hp, hPW2, rfl⟩
  have lW := hPW2.1
  have hW2 : n ≤ W2.size := by have := hPW2.1; omega
  have hB2 := hB.perm (by omega) hPW2
  cases wb with
  | false =>
    obtain ⟨q8, hq8⟩ : ∃ q : Int, ((y : Int) - (x : Int)).tdiv 8 = q := ⟨_, rfl⟩
    have hq8r : 0 ≤ q8 ∧ q8 ≤ 3 := by
      rw [← hq8, Int.tdiv_eq_ediv_of_nonneg (by omega)]
      omega
    have la := arr_len W2
    by_cases hx0 : 0 < x
    rotate_left
    · repeat' ((conv => whnf); first | refine Rng.g ?_ | refine Ob.g ?_ | refine Ob.e ?_ | refine Ob.m ?_ | refine Ob.mk (Nat.le_of_ble_eq_true rfl) ?_ | refine JoinVC.on ?_ | refine Nils.mk (fun h => ?_) ?_ | refine Val.t ?_ | refine Val.d ?_ | refine Mm.mk ?_ | (refine Br.mk (fun h => ?_) (fun h => ?_) <;> first | (exfalso; omega; done) | (exfalso; simp at h; done) | skip))
      conv => whnf
      refine CallVC.mk [0] _ _ _ rfl rfl rfl (opart fl n W2 (by omega) hW2 x y p hp (by omega)) (fun r m' h' => ?_)
      obtain ⟨mid, ap, W3, hx3, rfl, rfl⟩ := h'
      conv => whnf
      obtain ⟨g1, g2, hs4, hBa, hBr, hleft, hright⟩ := Go.Sort.round_part Go.Sort.swo_ltInt (Go.Sort.partition_holds Go.Sort.ltInt) hp.1 hp.2 (by omega) hB2 hx3
      have hP3 := (Go.Sort.partition_holds Go.Sort.ltInt Go.Sort.swo_ltInt W2 x y p hp.1 hp.2 (by omega)).2.2.1
      rw [hx3] at hP3
      have hW3 : n ≤ W3.size := by have := hP3.1; omega
      by_cases hlr : mid - x < y - mid
      · repeat' ((conv => whnf); first | refine Rng.g ?_ | refine Ob.g ?_ | refine Val.mk q8 hq8 ?_ | refine JoinVC.on ?_ | (refine Br.mk (fun h => ?_) (fun h => ?_) <;> first | (exfalso; omega; done) | skip))
        conv => whnf
        refine CallVC.mk [0] _ _ _ rfl rfl rfl (ih (mid - x) (by omega) W3 (by omega) hW3 x mid l2 rfl (by omega) (by omega) (by omega) (by omega) hBa) (fun r m' h' => ?_)
        obtain ⟨L, k1, k2, rfl, rfl⟩ := h'
        conv => whnf
        have lL := k1.1
        obtain ⟨hBL, hf2⟩ := hleft L k1 k2
        repeat' ((conv => whnf); first | refine Rng.g ?_ | refine Ob.g ?_ | refine Val.mk q8 hq8 ?_ | refine JoinVC.on ?_ | (refine Br.mk (fun h => ?_) (fun h => ?_) <;> first | (exfalso; omega; done) | skip))
        refine Back.mk (y - (mid + 1)) _ (by omega) ⟨mid + 1, y, l2, decide (q8 ≤ (mid : Int) - (x : Int)), ap, L, by omega, by omega, by omega, rfl, by omega, by have := k1.1; omega, by omega, hBL, fun R r1 r2 => hfin R (Go.Sort.permIn_trans _ _ _ x y hPW2 (hf2 R r1 r2).1) (hf2 R r1 r2).2, rfl⟩ ?_
        refine ⟨[some 0], rfl, rfl, ?_, ?_⟩ <;> repeat' (first | exact trivial | exact rfl | exact Iff.rfl | apply And.intro)
      · repeat' ((conv => whnf); first | refine Rng.g ?_ | refine Ob.g ?_ | refine Val.mk q8 hq8 ?_ | refine JoinVC.on ?_ | (refine Br.mk (fun h => ?_) (fun h => ?_) <;> first | (exfalso; omega; done) | skip))
        conv => whnf
        refine CallVC.mk [0] _ _ _ rfl rfl rfl (ih (y - (mid + 1)) (by omega) W3 (by omega) hW3 (mid + 1) y l2 rfl (by omega) (by omega) (by omega) (by omega) hBr) (fun r m' h' => ?_)
        obtain ⟨L, k1, k2, rfl, rfl⟩ := h'
        conv => whnf
        have lL := k1.1
        obtain ⟨hBL, hf2⟩ := hright L k1 k2
        repeat' ((conv => whnf); first | refine Rng.g ?_ | refine Ob.g ?_ | refine Val.mk q8 hq8 ?_ | refine JoinVC.on ?_ | (refine Br.mk (fun h => ?_) (fun h => ?_) <;> first | (exfalso; omega; done) | skip))
        refine Back.mk (mid - x) _ (by omega) ⟨x, mid, l2, decide (q8 ≤ (y : Int) - (mid : Int)), ap, L, by omega, by omega, by omega, rfl, by omega, by have := k1.1; omega, by omega, hBL, fun R r1 r2 => hfin R (Go.Sort.permIn_trans _ _ _ x y hPW2 (hf2 R r1 r2).1) (hf2 R r1 r2).2, rfl⟩ ?_
        refine ⟨[some 0], rfl, rfl, ?_, ?_⟩ <;> repeat' (first | exact trivial | exact rfl | exact Iff.rfl | apply And.intro)
    have gi : rI (i64s W2.toList) ((x : Int) - 1).toNat 0 = W2[x - 1]! := by rw [show ((x : Int) - 1).toNat = x - 1 by omega]; exact arr_get W2 _
    have gj : rI (i64s W2.toList) ((p : Int)).toNat 0 = W2[p]! := by rw [show ((p : Int)).toNat = p by omega]; exact arr_get W2 _
    repeat' ((conv => whnf); first | rw [gi] | rw [gj] | refine Rng.g ?_ | refine Ob.g ?_ | refine Ob.e ?_ | refine Ob.m ?_ | refine Ob.mk (Nat.le_of_ble_eq_true rfl) ?_ | refine JoinVC.on ?_ | refine Nils.mk (fun h => ?_) ?_ | refine Val.t ?_ | refine Val.d ?_ | refine Mm.mk ?_ | (refine Br.mk (fun h => ?_) (fun h => ?_) <;> first | (exfalso; omega; done) | (exfalso; simp at h; done) | skip))
    conv => whnf
    refine CallVC.mk [] _ _ _ rfl rfl rfl (s95 W2[x - 1]! W2[p]!) (fun r m' h' => ?_)
    obtain ⟨rfl, rfl⟩ := h'
    conv => whnf
    by_cases hlt : Go.Sort.ltInt W2[x - 1]! W2[p]! = true
    · have hc := int_yes hlt
      repeat' ((conv => whnf); first | refine Rng.g ?_ | refine Ob.g ?_ | refine Ob.e ?_ | refine Ob.m ?_ | refine Ob.mk (Nat.le_of_ble_eq_true rfl) ?_ | refine JoinVC.on ?_ | refine Nils.mk (fun h => ?_) ?_ | refine Val.t ?_ | refine Val.d ?_ | refine Mm.mk ?_ | (refine Br.mk (fun h => ?_) (fun h => ?_) <;> first | (exfalso; omega; done) | (exfalso; simp at h; done) | skip))
      conv => whnf
      refine CallVC.mk [0] _ _ _ rfl rfl rfl (opart fl n W2 (by omega) hW2 x y p hp (by omega)) (fun r m' h' => ?_)
      obtain ⟨mid, ap, W3, hx3, rfl, rfl⟩ := h'
      conv => whnf
      obtain ⟨g1, g2, hs4, hBa, hBr, hleft, hright⟩ := Go.Sort.round_part Go.Sort.swo_ltInt (Go.Sort.partition_holds Go.Sort.ltInt) hp.1 hp.2 (by omega) hB2 hx3
      have hP3 := (Go.Sort.partition_holds Go.Sort.ltInt Go.Sort.swo_ltInt W2 x y p hp.1 hp.2 (by omega)).2.2.1
      rw [hx3] at hP3
      have hW3 : n ≤ W3.size := by have := hP3.1; omega
      by_cases hlr : mid - x < y - mid
      · repeat' ((conv => whnf); first | refine Rng.g ?_ | refine Ob.g ?_ | refine Val.mk q8 hq8 ?_ | refine JoinVC.on ?_ | (refine Br.mk (fun h => ?_) (fun h => ?_) <;> first | (exfalso; omega; done) | skip))
        conv => whnf
        refine CallVC.mk [0] _ _ _ rfl rfl rfl (ih (mid - x) (by omega) W3 (by omega) hW3 x mid l2 rfl (by omega) (by omega) (by omega) (by omega) hBa) (fun r m' h' => ?_)
        obtain ⟨L, k1, k2, rfl, rfl⟩ := h'
        conv => whnf
        have lL := k1.1
        obtain ⟨hBL, hf2⟩ := hleft L k1 k2
        repeat' ((conv => whnf); first | refine Rng.g ?_ | refine Ob.g ?_ | refine Val.mk q8 hq8 ?_ | refine JoinVC.on ?_ | (refine Br.mk (fun h => ?_) (fun h => ?_) <;> first | (exfalso; omega; done) | skip))
        refine Back.mk (y - (mid + 1)) _ (by omega) ⟨mid + 1, y, l2, decide (q8 ≤ (mid : Int) - (x : Int)), ap, L, by omega, by omega, by omega, rfl, by omega, by have := k1.1; omega, by omega, hBL, fun R r1 r2 => hfin R (Go.Sort.permIn_trans _ _ _ x y hPW2 (hf2 R r1 r2).1) (hf2 R r1 r2).2, rfl⟩ ?_
        refine ⟨[some 0], rfl, rfl, ?_, ?_⟩ <;> repeat' (first | exact trivial | exact rfl | exact Iff.rfl | apply And.intro)
      · repeat' ((conv => whnf); first | refine Rng.g ?_ | refine Ob.g ?_ | refine Val.mk q8 hq8 ?_ | refine JoinVC.on ?_ | (refine Br.mk (fun h => ?_) (fun h => ?_) <;> first | (exfalso; omega; done) | skip))
        conv => whnf
        refine CallVC.mk [0] _ _ _ rfl rfl rfl (ih (y - (mid + 1)) (by omega) W3 (by omega) hW3 (mid + 1) y l2 rfl (by omega) (by omega) (by omega) (by omega) hBr) (fun r m' h' => ?_)
        obtain ⟨L, k1, k2, rfl, rfl⟩ := h'
        conv => whnf
        have lL := k1.1
        obtain ⟨hBL, hf2⟩ := hright L k1 k2
        repeat' ((conv => whnf); first | refine Rng.g ?_ | refine Ob.g ?_ | refine Val.mk q8 hq8 ?_ | refine JoinVC.on ?_ | (refine Br.mk (fun h => ?_) (fun h => ?_) <;> first | (exfalso; omega; done) | skip))
        refine Back.mk (mid - x) _ (by omega) ⟨x, mid, l2, decide (q8 ≤ (y : Int) - (mid : Int)), ap, L, by omega, by omega, by omega, rfl, by omega, by have := k1.1; omega, by omega, hBL, fun R r1 r2 => hfin R (Go.Sort.permIn_trans _ _ _ x y hPW2 (hf2 R r1 r2).1) (hf2 R r1 r2).2, rfl⟩ ?_
        refine ⟨[some 0], rfl, rfl, ?_, ?_⟩ <;> repeat' (first | exact trivial | exact rfl | exact Iff.rfl | apply And.intro)
    · have hc := int_no hlt
      repeat' ((conv => whnf); first | refine Rng.g ?_ | refine Ob.g ?_ | refine Ob.e ?_ | refine Ob.m ?_ | refine Ob.mk (Nat.le_of_ble_eq_true rfl) ?_ | refine JoinVC.on ?_ | refine Nils.mk (fun h => ?_) ?_ | refine Val.t ?_ | refine Val.d ?_ | refine Mm.mk ?_ | (refine Br.mk (fun h => ?_) (fun h => ?_) <;> first | (exfalso; omega; done) | (exfalso; simp at h; done) | skip))
      conv => whnf
      refine CallVC.mk [0] _ _ _ rfl rfl rfl (opeq fl n W2 (by omega) hW2 x y p hp (by omega)) (fun r m' h' => ?_)
      obtain ⟨mid, W3, hx3, rfl, rfl⟩ := h'
      conv => whnf
      obtain ⟨g1, g2, hs4, hBm, hf2⟩ := Go.Sort.round_eq Go.Sort.swo_ltInt (Go.Sort.partitionEqual_holds Go.Sort.ltInt) hx0 hp.1 hp.2 (by omega) hB2 (Bool.eq_false_iff.2 hlt) hx3
      have hP3 := (Go.Sort.partitionEqual_holds Go.Sort.ltInt Go.Sort.swo_ltInt W2 x y p hp.1 hp.2 (by omega) (by
        intro i i1 i2
        rcases hB2 with e | e
        · omega
        · exact Go.Sort.swo_ltInt.ntrans _ _ _ (e i i1 i2) (Bool.eq_false_iff.2 hlt))).2.2.1
      rw [hx3] at hP3
      repeat' ((conv => whnf); first | refine Rng.g ?_ | refine Ob.g ?_ | refine Ob.e ?_ | refine Ob.m ?_ | refine Ob.mk (Nat.le_of_ble_eq_true rfl) ?_ | refine JoinVC.on ?_ | refine Nils.mk (fun h => ?_) ?_ | refine Val.t ?_ | refine Val.d ?_ | refine Mm.mk ?_ | (refine Br.mk (fun h => ?_) (fun h => ?_) <;> first | (exfalso; omega; done) | (exfalso; simp at h; done) | skip))
      refine Back.mk (y - mid) _ (by omega) ⟨mid, y, l2, false, wp, W3, by omega, by omega, by omega, rfl, by omega, by have := hP3.1; omega, by omega, hBm, fun R r1 r2 => hfin R (Go.Sort.permIn_trans _ _ _ x y hPW2 (hf2 R r1 r2).1) (hf2 R r1 r2).2, rfl⟩ ?_
      refine ⟨[some 0], rfl, rfl, ?_, ?_⟩ <;> repeat' (first | exact trivial | exact rfl | exact Iff.rfl | apply And.intro)
  | true =>
    cases wp with
    | false =>
      obtain ⟨q8, hq8⟩ : ∃ q : Int, ((y : Int) - (x : Int)).tdiv 8 = q := ⟨_, rfl⟩
      have hq8r : 0 ≤ q8 ∧ q8 ≤ 3 := by
        rw [← hq8, Int.tdiv_eq_ediv_of_nonneg (by omega)]
        omega
      have la := arr_len W2
      by_cases hx0 : 0 < x
      rotate_left
      · repeat' ((conv => whnf); first | refine Rng.g ?_ | refine Ob.g ?_ | refine Ob.e ?_ | refine Ob.m ?_ | refine Ob.mk (Nat.le_of_ble_eq_true rfl) ?_ | refine JoinVC.on ?_ | refine Nils.mk (fun h => ?_) ?_ | refine Val.t ?_ | refine Val.d ?_ | refine Mm.mk ?_ | (refine Br.mk (fun h => ?_) (fun h => ?_) <;> first | (exfalso; omega; done) | (exfalso; simp at h; done) | skip))
        conv => whnf
        refine CallVC.mk [0] _ _ _ rfl rfl rfl (opart fl n W2 (by omega) hW2 x y p hp (by omega)) (fun r m' h' => ?_)
        obtain ⟨mid, ap, W3, hx3, rfl, rfl⟩ := h'
        conv => whnf
        obtain ⟨g1, g2, hs4, hBa, hBr, hleft, hright⟩ := Go.Sort.round_part Go.Sort.swo_ltInt (Go.Sort.partition_holds Go.Sort.ltInt) hp.1 hp.2 (by omega) hB2 hx3
        have hP3 := (Go.Sort.partition_holds Go.Sort.ltInt Go.Sort.swo_ltInt W2 x y p hp.1 hp.2 (by omega)).2.2.1
        rw [hx3] at hP3
        have hW3 : n ≤ W3.size := by have := hP3.1; omega
        by_cases hlr : mid - x < y - mid
        · repeat' ((conv => whnf); first | refine Rng.g ?_ | refine Ob.g ?_ | refine Val.mk q8 hq8 ?_ | refine JoinVC.on ?_ | (refine Br.mk (fun h => ?_) (fun h => ?_) <;> first | (exfalso; omega; done) | skip))
          conv => whnf
          refine CallVC.mk [0] _ _ _ rfl rfl rfl (ih (mid - x) (by omega) W3 (by omega) hW3 x mid l2 rfl (by omega) (by omega) (by omega) (by omega) hBa) (fun r m' h' => ?_)
          obtain ⟨L, k1, k2, rfl, rfl⟩ := h'
          conv => whnf
          have lL := k1.1
          obtain ⟨hBL, hf2⟩ := hleft L k1 k2
          repeat' ((conv => whnf); first | refine Rng.g ?_ | refine Ob.g ?_ | refine Val.mk q8 hq8 ?_ | refine JoinVC.on ?_ | (refine Br.mk (fun h => ?_) (fun h => ?_) <;> first | (exfalso; omega; done) | skip))
          refine Back.mk (y - (mid + 1)) _ (by omega) ⟨mid + 1, y, l2, decide (q8 ≤ (mid : Int) - (x : Int)), ap, L, by omega, by omega, by omega, rfl, by omega, by have := k1.1; omega, by omega, hBL, fun R r1 r2 => hfin R (Go.Sort.permIn_trans _ _ _ x y hPW2 (hf2 R r1 r2).1) (hf2 R r1 r2).2, rfl⟩ ?_
          refine ⟨[some 0], rfl, rfl, ?_, ?_⟩ <;> repeat' (first | exact trivial | exact rfl | exact Iff.rfl | apply And.intro)
        · repeat' ((conv => whnf); first | refine Rng.g ?_ | refine Ob.g ?_ | refine Val.mk q8 hq8 ?_ | refine JoinVC.on ?_ | (refine Br.mk (fun h => ?_) (fun h => ?_) <;> first | (exfalso; omega; done) | skip))
          conv => whnf
          refine CallVC.mk [0] _ _ _ rfl rfl rfl (ih (y - (mid + 1)) (by omega) W3 (by omega) hW3 (mid + 1) y l2 rfl (by omega) (by omega) (by omega) (by omega) hBr) (fun r m' h' => ?_)
          obtain ⟨L, k1, k2, rfl, rfl⟩ := h'
          conv => whnf
          have lL := k1.1
          obtain ⟨hBL, hf2⟩ := hright L k1 k2
          repeat' ((conv => whnf); first | refine Rng.g ?_ | refine Ob.g ?_ | refine Val.mk q8 hq8 ?_ | refine JoinVC.on ?_ | (refine Br.mk (fun h => ?_) (fun h => ?_) <;> first | (exfalso; omega; done) | skip))
          refine Back.mk (mid - x) _ (by omega) ⟨x, mid, l2, decide (q8 ≤ (y : Int) - (mid : Int)), ap, L, by omega, by omega, by omega, rfl, by omega, by have := k1.1; omega, by omega, hBL, fun R r1 r2 => hfin R (Go.Sort.permIn_trans _ _ _ x y hPW2 (hf2 R r1 r2).1) (hf2 R r1 r2).2, rfl⟩ ?_
          refine ⟨[some 0], rfl, rfl, ?_, ?_⟩ <;> repeat' (first | exact trivial | exact rfl | exact Iff.rfl | apply And.intro)
      have gi : rI (i64s W2.toList) ((x : Int) - 1).toNat 0 = W2[x - 1]! := by rw [show ((x : Int) - 1).toNat = x - 1 by omega]; exact arr_get W2 _
      have gj : rI (i64s W2.toList) ((p : Int)).toNat 0 = W2[p]! := by rw [show ((p : Int)).toNat = p by omega]; exact arr_get W2 _
      repeat' ((conv => whnf); first | rw [gi] | rw [gj] | refine Rng.g ?_ | refine Ob.g ?_ | refine Ob.e ?_ | refine Ob.m ?_ | refine Ob.mk (Nat.le_of_ble_eq_true rfl) ?_ | refine JoinVC.on ?_ | refine Nils.mk (fun h => ?_) ?_ | refine Val.t ?_ | refine Val.d ?_ | refine Mm.mk ?_ | (refine Br.mk (fun h => ?_) (fun h => ?_) <;> first | (exfalso; omega; done) | (exfalso; simp at h; done) | skip))
      conv => whnf
      refine CallVC.mk [] _ _ _ rfl rfl rfl (s95 W2[x - 1]! W2[p]!) (fun r m' h' => ?_)
      obtain ⟨rfl, rfl⟩ := h'
      conv => whnf
      by_cases hlt : Go.Sort.ltInt W2[x - 1]! W2[p]! = true
      · have hc := int_yes hlt
        repeat' ((conv => whnf); first | refine Rng.g ?_ | refine Ob.g ?_ | refine Ob.e ?_ | refine Ob.m ?_ | refine Ob.mk (Nat.le_of_ble_eq_true rfl) ?_ | refine JoinVC.on ?_ | refine Nils.mk (fun h => ?_) ?_ | refine Val.t ?_ | refine Val.d ?_ | refine Mm.mk ?_ | (refine Br.mk (fun h => ?_) (fun h => ?_) <;> first | (exfalso; omega; done) | (exfalso; simp at h; done) | skip))
        conv => whnf
        refine CallVC.mk [0] _ _ _ rfl rfl rfl (opart fl n W2 (by omega) hW2 x y p hp (by omega)) (fun r m' h' => ?_)
        obtain ⟨mid, ap, W3, hx3, rfl, rfl⟩ := h'
        conv => whnf
        obtain ⟨g1, g2, hs4, hBa, hBr, hleft, hright⟩ := Go.Sort.round_part Go.Sort.swo_ltInt (Go.Sort.partition_holds Go.Sort.ltInt) hp.1 hp.2 (by omega) hB2 hx3
        have hP3 := (Go.Sort.partition_holds Go.Sort.ltInt Go.Sort.swo_ltInt W2 x y p hp.1 hp.2 (by omega)).2.2.1
        rw [hx3] at hP3
        have hW3 : n ≤ W3.size := by have := hP3.1; omega
        by_cases hlr : mid - x < y - mid
        · repeat' ((conv => whnf); first | refine Rng.g ?_ | refine Ob.g ?_ | refine Val.mk q8 hq8 ?_ | refine JoinVC.on ?_ | (refine Br.mk (fun h => ?_) (fun h => ?_) <;> first | (exfalso; omega; done) | skip))
          conv => whnf
          refine CallVC.mk [0] _ _ _ rfl rfl rfl (ih (mid - x) (by omega) W3 (by omega) hW3 x mid l2 rfl (by omega) (by omega) (by omega) (by omega) hBa) (fun r m' h' => ?_)
          obtain ⟨L, k1, k2, rfl, rfl⟩ := h'
          conv => whnf
          have lL := k1.1
          obtain ⟨hBL, hf2⟩ := hleft L k1 k2
          repeat' ((conv => whnf); first | refine Rng.g ?_ | refine Ob.g ?_ | refine Val.mk q8 hq8 ?_ | refine JoinVC.on ?_ | (refine Br.mk (fun h => ?_) (fun h => ?_) <;> first | (exfalso; omega; done) | skip))
          refine Back.mk (y - (mid + 1)) _ (by omega) ⟨mid + 1, y, l2, decide (q8 ≤ (mid : Int) - (x : Int)), ap, L, by omega, by omega, by omega, rfl, by omega, by have := k1.1; omega, by omega, hBL, fun R r1 r2 => hfin R (Go.Sort.permIn_trans _ _ _ x y hPW2 (hf2 R r1 r2).1) (hf2 R r1 r2).2, rfl⟩ ?_
          refine ⟨[some 0], rfl, rfl, ?_, ?_⟩ <;> repeat' (first | exact trivial | exact rfl | exact Iff.rfl | apply And.intro)
        · repeat' ((conv => whnf); first | refine Rng.g ?_ | refine Ob.g ?_ | refine Val.mk q8 hq8 ?_ | refine JoinVC.on ?_ | (refine Br.mk (fun h => ?_) (fun h => ?_) <;> first | (exfalso; omega; done) | skip))
          conv => whnf
          refine CallVC.mk [0] _ _ _ rfl rfl rfl (ih (y - (mid + 1)) (by omega) W3 (by omega) hW3 (mid + 1) y l2 rfl (by omega) (by omega) (by omega) (by omega) hBr) (fun r m' h' => ?_)
          obtain ⟨L, k1, k2, rfl, rfl⟩ := h'
          conv => whnf
          have lL := k1.1
          obtain ⟨hBL, hf2⟩ := hright L k1 k2
          repeat' ((conv => whnf); first | refine Rng.g ?_ | refine Ob.g ?_ | refine Val.mk q8 hq8 ?_ | refine JoinVC.on ?_ | (refine Br.mk (fun h => ?_) (fun h => ?_) <;> first | (exfalso; omega; done) | skip))
          refine Back.mk (mid - x) _ (by omega) ⟨x, mid, l2, decide (q8 ≤ (y : Int) - (mid : Int)), ap, L, by omega, by omega, by omega, rfl, by omega, by have := k1.1; omega, by omega, hBL, fun R r1 r2 => hfin R (Go.Sort.permIn_trans _ _ _ x y hPW2 (hf2 R r1 r2).1) (hf2 R r1 r2).2, rfl⟩ ?_
          refine ⟨[some 0], rfl, rfl, ?_, ?_⟩ <;> repeat' (first | exact trivial | exact rfl | exact Iff.rfl | apply And.intro)
      · have hc := int_no hlt
        repeat' ((conv => whnf); first | refine Rng.g ?_ | refine Ob.g ?_ | refine Ob.e ?_ | refine Ob.m ?_ | refine Ob.mk (Nat.le_of_ble_eq_true rfl) ?_ | refine JoinVC.on ?_ | refine Nils.mk (fun h => ?_) ?_ | refine Val.t ?_ | refine Val.d ?_ | refine Mm.mk ?_ | (refine Br.mk (fun h => ?_) (fun h => ?_) <;> first | (exfalso; omega; done) | (exfalso; simp at h; done) | skip))
        conv => whnf
        refine CallVC.mk [0] _ _ _ rfl rfl rfl (opeq fl n W2 (by omega) hW2 x y p hp (by omega)) (fun r m' h' => ?_)
        obtain ⟨mid, W3, hx3, rfl, rfl⟩ := h'
        conv => whnf
        obtain ⟨g1, g2, hs4, hBm, hf2⟩ := Go.Sort.round_eq Go.Sort.swo_ltInt (Go.Sort.partitionEqual_holds Go.Sort.ltInt) hx0 hp.1 hp.2 (by omega) hB2 (Bool.eq_false_iff.2 hlt) hx3
        have hP3 := (Go.Sort.partitionEqual_holds Go.Sort.ltInt Go.Sort.swo_ltInt W2 x y p hp.1 hp.2 (by omega) (by
          intro i i1 i2
          rcases hB2 with e | e
          · omega
          · exact Go.Sort.swo_ltInt.ntrans _ _ _ (e i i1 i2) (Bool.eq_false_iff.2 hlt))).2.2.1
        rw [hx3] at hP3
        repeat' ((conv => whnf); first | refine Rng.g ?_ | refine Ob.g ?_ | refine Ob.e ?_ | refine Ob.m ?_ | refine Ob.mk (Nat.le_of_ble_eq_true rfl) ?_ | refine JoinVC.on ?_ | refine Nils.mk (fun h => ?_) ?_ | refine Val.t ?_ | refine Val.d ?_ | refine Mm.mk ?_ | (refine Br.mk (fun h => ?_) (fun h => ?_) <;> first | (exfalso; omega; done) | (exfalso; simp at h; done) | skip))
        refine Back.mk (y - mid) _ (by omega) ⟨mid, y, l2, true, false, W3, by omega, by omega, by omega, rfl, by omega, by have := hP3.1; omega, by omega, hBm, fun R r1 r2 => hfin R (Go.Sort.permIn_trans _ _ _ x y hPW2 (hf2 R r1 r2).1) (hf2 R r1 r2).2, rfl⟩ ?_
        refine ⟨[some 0], rfl, rfl, ?_, ?_⟩ <;> repeat' (first | exact trivial | exact rfl | exact Iff.rfl | apply And.intro)
    | true =>
      by_cases hg1 : gg = 1
      rotate_left
      · skip
        obtain ⟨q8, hq8⟩ : ∃ q : Int, ((y : Int) - (x : Int)).tdiv 8 = q := ⟨_, rfl⟩
        have hq8r : 0 ≤ q8 ∧ q8 ≤ 3 := by
          rw [← hq8, Int.tdiv_eq_ediv_of_nonneg (by omega)]
          omega
        have la := arr_len W2
        by_cases hx0 : 0 < x
        rotate_left
        · repeat' ((conv => whnf); first | refine Rng.g ?_ | refine Ob.g ?_ | refine Ob.e ?_ | refine Ob.m ?_ | refine Ob.mk (Nat.le_of_ble_eq_true rfl) ?_ | refine JoinVC.on ?_ | refine Nils.mk (fun h => ?_) ?_ | refine Val.t ?_ | refine Val.d ?_ | refine Mm.mk ?_ | (refine Br.mk (fun h => ?_) (fun h => ?_) <;> first | (exfalso; omega; done) | (exfalso; simp at h; done) | skip))
          conv => whnf
          refine CallVC.mk [0] _ _ _ rfl rfl rfl (opart fl n W2 (by omega) hW2 x y p hp (by omega)) (fun r m' h' => ?_)
          obtain ⟨mid, ap, W3, hx3, rfl, rfl⟩ := h'
          conv => whnf
          obtain ⟨g1, g2, hs4, hBa, hBr, hleft, hright⟩ := Go.Sort.round_part Go.Sort.swo_ltInt (Go.Sort.partition_holds Go.Sort.ltInt) hp.1 hp.2 (by omega) hB2 hx3
          have hP3 := (Go.Sort.partition_holds Go.Sort.ltInt Go.Sort.swo_ltInt W2 x y p hp.1 hp.2 (by omega)).2.2.1
          rw [hx3] at hP3
          have hW3 : n ≤ W3.size := by have := hP3.1; omega
          by_cases hlr : mid - x < y - mid
          · repeat' ((conv => whnf); first | refine Rng.g ?_ | refine Ob.g ?_ | refine Val.mk q8 hq8 ?_ | refine JoinVC.on ?_ | (refine Br.mk (fun h => ?_) (fun h => ?_) <;> first | (exfalso; omega; done) | skip))
            conv => whnf
            refine CallVC.mk [0] _ _ _ rfl rfl rfl (ih (mid - x) (by omega) W3 (by omega) hW3 x mid l2 rfl (by omega) (by omega) (by omega) (by omega) hBa) (fun r m' h' => ?_)
            obtain ⟨L, k1, k2, rfl, rfl⟩ := h'
            conv => whnf
            have lL := k1.1
            obtain ⟨hBL, hf2⟩ := hleft L k1 k2
            repeat' ((conv => whnf); first | refine Rng.g ?_ | refine Ob.g ?_ | refine Val.mk q8 hq8 ?_ | refine JoinVC.on ?_ | (refine Br.mk (fun h => ?_) (fun h => ?_) <;> first | (exfalso; omega; done) | skip))
            refine Back.mk (y - (mid + 1)) _ (by omega) ⟨mid + 1, y, l2, decide (q8 ≤ (mid : Int) - (x : Int)), ap, L, by omega, by omega, by omega, rfl, by omega, by have := k1.1; omega, by omega, hBL, fun R r1 r2 => hfin R (Go.Sort.permIn_trans _ _ _ x y hPW2 (hf2 R r1 r2).1) (hf2 R r1 r2).2, rfl⟩ ?_
            refine ⟨[some 0], rfl, rfl, ?_, ?_⟩ <;> repeat' (first | exact trivial | exact rfl | exact Iff.rfl | apply And.intro)
          · repeat' ((conv => whnf); first | refine Rng.g ?_ | refine Ob.g ?_ | refine Val.mk q8 hq8 ?_ | refine JoinVC.on ?_ | (refine Br.mk (fun h => ?_) (fun h => ?_) <;> first | (exfalso; omega; done) | skip))
            conv => whnf
            refine CallVC.mk [0] _ _ _ rfl rfl rfl (ih (y - (mid + 1)) (by omega) W3 (by omega) hW3 (mid + 1) y l2 rfl (by omega) (by omega) (by omega) (by omega) hBr) (fun r m' h' => ?_)
            obtain ⟨L, k1, k2, rfl, rfl⟩ := h'
            conv => whnf
            have lL := k1.1
            obtain ⟨hBL, hf2⟩ := hright L k1 k2
            repeat' ((conv => whnf); first | refine Rng.g ?_ | refine Ob.g ?_ | refine Val.mk q8 hq8 ?_ | refine JoinVC.on ?_ | (refine Br.mk (fun h => ?_) (fun h => ?_) <;> first | (exfalso; omega; done) | skip))
            refine Back.mk (mid - x) _ (by omega) ⟨x, mid, l2, decide (q8 ≤ (y : Int) - (mid : Int)), ap, L, by omega, by omega, by omega, rfl, by omega, by have := k1.1; omega, by omega, hBL, fun R r1 r2 => hfin R (Go.Sort.permIn_trans _ _ _ x y hPW2 (hf2 R r1 r2).1) (hf2 R r1 r2).2, rfl⟩ ?_
            refine ⟨[some 0], rfl, rfl, ?_, ?_⟩ <;> repeat' (first | exact trivial | exact rfl | exact Iff.rfl | apply And.intro)
        have gi : rI (i64s W2.toList) ((x : Int) - 1).toNat 0 = W2[x - 1]! := by rw [show ((x : Int) - 1).toNat = x - 1 by omega]; exact arr_get W2 _
        have gj : rI (i64s W2.toList) ((p : Int)).toNat 0 = W2[p]! := by rw [show ((p : Int)).toNat = p by omega]; exact arr_get W2 _
        repeat' ((conv => whnf); first | rw [gi] | rw [gj] | refine Rng.g ?_ | refine Ob.g ?_ | refine Ob.e ?_ | refine Ob.m ?_ | refine Ob.mk (Nat.le_of_ble_eq_true rfl) ?_ | refine JoinVC.on ?_ | refine Nils.mk (fun h => ?_) ?_ | refine Val.t ?_ | refine Val.d ?_ | refine Mm.mk ?_ | (refine Br.mk (fun h => ?_) (fun h => ?_) <;> first | (exfalso; omega; done) | (exfalso; simp at h; done) | skip))
        conv => whnf
        refine CallVC.mk [] _ _ _ rfl rfl rfl (s95 W2[x - 1]! W2[p]!) (fun r m' h' => ?_)
        obtain ⟨rfl, rfl⟩ := h'
        conv => whnf
        by_cases hlt : Go.Sort.ltInt W2[x - 1]! W2[p]! = true
        · have hc := int_yes hlt
          repeat' ((conv => whnf); first | refine Rng.g ?_ | refine Ob.g ?_ | refine Ob.e ?_ | refine Ob.m ?_ | refine Ob.mk (Nat.le_of_ble_eq_true rfl) ?_ | refine JoinVC.on ?_ | refine Nils.mk (fun h => ?_) ?_ | refine Val.t ?_ | refine Val.d ?_ | refine Mm.mk ?_ | (refine Br.mk (fun h => ?_) (fun h => ?_) <;> first | (exfalso; omega; done) | (exfalso; simp at h; done) | skip))
          conv => whnf
          refine CallVC.mk [0] _ _ _ rfl rfl rfl (opart fl n W2 (by omega) hW2 x y p hp (by omega)) (fun r m' h' => ?_)
          obtain ⟨mid, ap, W3, hx3, rfl, rfl⟩ := h'
          conv => whnf
          obtain ⟨g1, g2, hs4, hBa, hBr, hleft, hright⟩ := Go.Sort.round_part Go.Sort.swo_ltInt (Go.Sort.partition_holds Go.Sort.ltInt) hp.1 hp.2 (by omega) hB2 hx3
          have hP3 := (Go.Sort.partition_holds Go.Sort.ltInt Go.Sort.swo_ltInt W2 x y p hp.1 hp.2 (by omega)).2.2.1
          rw [hx3] at hP3
          have hW3 : n ≤ W3.size := by have := hP3.1; omega
          by_cases hlr : mid - x < y - mid
          · repeat' ((conv => whnf); first | refine Rng.g ?_ | refine Ob.g ?_ | refine Val.mk q8 hq8 ?_ | refine JoinVC.on ?_ | (refine Br.mk (fun h => ?_) (fun h => ?_) <;> first | (exfalso; omega; done) | skip))
            conv => whnf
            refine CallVC.mk [0] _ _ _ rfl rfl rfl (ih (mid - x) (by omega) W3 (by omega) hW3 x mid l2 rfl (by omega) (by omega) (by omega) (by omega) hBa) (fun r m' h' => ?_)
            obtain ⟨L, k1, k2, rfl, rfl⟩ := h'
            conv => whnf
            have lL := k1.1
            obtain ⟨hBL, hf2⟩ := hleft L k1 k2
            repeat' ((conv => whnf); first | refine Rng.g ?_ | refine Ob.g ?_ | refine Val.mk q8 hq8 ?_ | refine JoinVC.on ?_ | (refine Br.mk (fun h => ?_) (fun h => ?_) <;> first | (exfalso; omega; done) | skip))
            refine Back.mk (y - (mid + 1)) _ (by omega) ⟨mid + 1, y, l2, decide (q8 ≤ (mid : Int) - (x : Int)), ap, L, by omega, by omega, by omega, rfl, by omega, by have := k1.1; omega, by omega, hBL, fun R r1 r2 => hfin R (Go.Sort.permIn_trans _ _ _ x y hPW2 (hf2 R r1 r2).1) (hf2 R r1 r2).2, rfl⟩ ?_
            refine ⟨[some 0], rfl, rfl, ?_, ?_⟩ <;> repeat' (first | exact trivial | exact rfl | exact Iff.rfl | apply And.intro)
          · repeat' ((conv => whnf); first | refine Rng.g ?_ | refine Ob.g ?_ | refine Val.mk q8 hq8 ?_ | refine JoinVC.on ?_ | (refine Br.mk (fun h => ?_) (fun h => ?_) <;> first | (exfalso; omega; done) | skip))
            conv => whnf
            refine CallVC.mk [0] _ _ _ rfl rfl rfl (ih (y - (mid + 1)) (by omega) W3 (by omega) hW3 (mid + 1) y l2 rfl (by omega) (by omega) (by omega) (by omega) hBr) (fun r m' h' => ?_)
            obtain ⟨L, k1, k2, rfl, rfl⟩ := h'
            conv => whnf
            have lL := k1.1
            obtain ⟨hBL, hf2⟩ := hright L k1 k2
            repeat' ((conv => whnf); first | refine Rng.g ?_ | refine Ob.g ?_ | refine Val.mk q8 hq8 ?_ | refine JoinVC.on ?_ | (refine Br.mk (fun h => ?_) (fun h => ?_) <;> first | (exfalso; omega; done) | skip))
            refine Back.mk (mid - x) _ (by omega) ⟨x, mid, l2, decide (q8 ≤ (y : Int) - (mid : Int)), ap, L, by omega, by omega, by omega, rfl, by omega, by have := k1.1; omega, by omega, hBL, fun R r1 r2 => hfin R (Go.Sort.permIn_trans _ _ _ x y hPW2 (hf2 R r1 r2).1) (hf2 R r1 r2).2, rfl⟩ ?_
            refine ⟨[some 0], rfl, rfl, ?_, ?_⟩ <;> repeat' (first | exact trivial | exact rfl | exact Iff.rfl | apply And.intro)
        · have hc := int_no hlt
          repeat' ((conv => whnf); first | refine Rng.g ?_ | refine Ob.g ?_ | refine Ob.e ?_ | refine Ob.m ?_ | refine Ob.mk (Nat.le_of_ble_eq_true rfl) ?_ | refine JoinVC.on ?_ | refine Nils.mk (fun h => ?_) ?_ | refine Val.t ?_ | refine Val.d ?_ | refine Mm.mk ?_ | (refine Br.mk (fun h => ?_) (fun h => ?_) <;> first | (exfalso; omega; done) | (exfalso; simp at h; done) | skip))
          conv => whnf
          refine CallVC.mk [0] _ _ _ rfl rfl rfl (opeq fl n W2 (by omega) hW2 x y p hp (by omega)) (fun r m' h' => ?_)
          obtain ⟨mid, W3, hx3, rfl, rfl⟩ := h'
          conv => whnf
          obtain ⟨g1, g2, hs4, hBm, hf2⟩ := Go.Sort.round_eq Go.Sort.swo_ltInt (Go.Sort.partitionEqual_holds Go.Sort.ltInt) hx0 hp.1 hp.2 (by omega) hB2 (Bool.eq_false_iff.2 hlt) hx3
          have hP3 := (Go.Sort.partitionEqual_holds Go.Sort.ltInt Go.Sort.swo_ltInt W2 x y p hp.1 hp.2 (by omega) (by
            intro i i1 i2
            rcases hB2 with e | e
            · omega
            · exact Go.Sort.swo_ltInt.ntrans _ _ _ (e i i1 i2) (Bool.eq_false_iff.2 hlt))).2.2.1
          rw [hx3] at hP3
          repeat' ((conv => whnf); first | refine Rng.g ?_ | refine Ob.g ?_ | refine Ob.e ?_ | refine Ob.m ?_ | refine Ob.mk (Nat.le_of_ble_eq_true rfl) ?_ | refine JoinVC.on ?_ | refine Nils.mk (fun h => ?_) ?_ | refine Val.t ?_ | refine Val.d ?_ | refine Mm.mk ?_ | (refine Br.mk (fun h => ?_) (fun h => ?_) <;> first | (exfalso; omega; done) | (exfalso; simp at h; done) | skip))
          refine Back.mk (y - mid) _ (by omega) ⟨mid, y, l2, true, true, W3, by omega, by omega, by omega, rfl, by omega, by have := hP3.1; omega, by omega, hBm, fun R r1 r2 => hfin R (Go.Sort.permIn_trans _ _ _ x y hPW2 (hf2 R r1 r2).1) (hf2 R r1 r2).2, rfl⟩ ?_
          refine ⟨[some 0], rfl, rfl, ?_, ?_⟩ <;> repeat' (first | exact trivial | exact rfl | exact Iff.rfl | apply And.intro)
      subst hg1
      repeat' ((conv => whnf); first | refine Rng.g ?_ | refine Ob.g ?_ | refine Ob.e ?_ | refine Ob.m ?_ | refine Ob.mk (Nat.le_of_ble_eq_true rfl) ?_ | refine JoinVC.on ?_ | refine Nils.mk (fun h => ?_) ?_ | refine Val.t ?_ | refine Val.d ?_ | refine Mm.mk ?_ | (refine Br.mk (fun h => ?_) (fun h => ?_) <;> first | (exfalso; omega; done) | (exfalso; simp at h; done) | skip))
      conv => whnf
      refine CallVC.mk [0] _ _ _ rfl rfl rfl (opis fl n W2 (by omega) hW2 x y (by omega) (by omega) (by omega)) (fun r m' h' => ?_)
      obtain ⟨yy, hy1, hy2, rfl, rfl⟩ := h'
      conv => whnf
      cases yy with
      | true =>
        have hs := (Go.Sort.partialInsertionSort_holds (lt := Go.Sort.ltInt) Go.Sort.swo_ltInt W2 x y (by omega) (by omega) hB2).2 hy1.symm
        rw [hy2] at hs
        obtain ⟨q1, q2⟩ := hfin _ hPW2 hs
        repeat' ((conv => whnf); first | refine Rng.g ?_ | refine Ob.g ?_ | refine Ob.e ?_ | refine Ob.m ?_ | refine Ob.mk (Nat.le_of_ble_eq_true rfl) ?_ | refine JoinVC.on ?_ | refine Nils.mk (fun h => ?_) ?_ | refine Val.t ?_ | refine Val.d ?_ | refine Mm.mk ?_ | (refine Br.mk (fun h => ?_) (fun h => ?_) <;> first | (exfalso; omega; done) | (exfalso; simp at h; done) | skip))
        repeat refine Mm.mk ?_
        conv => whnf
        refine EndVC.mk _ rfl _ _ (⟨_, q1, q2, rfl, rfl⟩) ?_
        refine ⟨[some 0], rfl, rfl, ?_, ?_⟩ <;> repeat' (first | exact trivial | exact rfl | exact Iff.rfl | apply And.intro)
      | false =>
        obtain ⟨q8, hq8⟩ : ∃ q : Int, ((y : Int) - (x : Int)).tdiv 8 = q := ⟨_, rfl⟩
        have hq8r : 0 ≤ q8 ∧ q8 ≤ 3 := by
          rw [← hq8, Int.tdiv_eq_ediv_of_nonneg (by omega)]
          omega
        have la := arr_len W2
        by_cases hx0 : 0 < x
        rotate_left
        · repeat' ((conv => whnf); first | refine Rng.g ?_ | refine Ob.g ?_ | refine Ob.e ?_ | refine Ob.m ?_ | refine Ob.mk (Nat.le_of_ble_eq_true rfl) ?_ | refine JoinVC.on ?_ | refine Nils.mk (fun h => ?_) ?_ | refine Val.t ?_ | refine Val.d ?_ | refine Mm.mk ?_ | (refine Br.mk (fun h => ?_) (fun h => ?_) <;> first | (exfalso; omega; done) | (exfalso; simp at h; done) | skip))
          conv => whnf
          refine CallVC.mk [0] _ _ _ rfl rfl rfl (opart fl n W2 (by omega) hW2 x y p hp (by omega)) (fun r m' h' => ?_)
          obtain ⟨mid, ap, W3, hx3, rfl, rfl⟩ := h'
          conv => whnf
          obtain ⟨g1, g2, hs4, hBa, hBr, hleft, hright⟩ := Go.Sort.round_part Go.Sort.swo_ltInt (Go.Sort.partition_holds Go.Sort.ltInt) hp.1 hp.2 (by omega) hB2 hx3
          have hP3 := (Go.Sort.partition_holds Go.Sort.ltInt Go.Sort.swo_ltInt W2 x y p hp.1 hp.2 (by omega)).2.2.1
          rw [hx3] at hP3
          have hW3 : n ≤ W3.size := by have := hP3.1; omega
          by_cases hlr : mid - x < y - mid
          · repeat' ((conv => whnf); first | refine Rng.g ?_ | refine Ob.g ?_ | refine Val.mk q8 hq8 ?_ | refine JoinVC.on ?_ | (refine Br.mk (fun h => ?_) (fun h => ?_) <;> first | (exfalso; omega; done) | skip))
            conv => whnf
            refine CallVC.mk [0] _ _ _ rfl rfl rfl (ih (mid - x) (by omega) W3 (by omega) hW3 x mid l2 rfl (by omega) (by omega) (by omega) (by omega) hBa) (fun r m' h' => ?_)
            obtain ⟨L, k1, k2, rfl, rfl⟩ := h'
            conv => whnf
            have lL := k1.1
            obtain ⟨hBL, hf2⟩ := hleft L k1 k2
            repeat' ((conv => whnf); first | refine Rng.g ?_ | refine Ob.g ?_ | refine Val.mk q8 hq8 ?_ | refine JoinVC.on ?_ | (refine Br.mk (fun h => ?_) (fun h => ?_) <;> first | (exfalso; omega; done) | skip))
            refine Back.mk (y - (mid + 1)) _ (by omega) ⟨mid + 1, y, l2, decide (q8 ≤ (mid : Int) - (x : Int)), ap, L, by omega, by omega, by omega, rfl, by omega, by have := k1.1; omega, by omega, hBL, fun R r1 r2 => hfin R (Go.Sort.permIn_trans _ _ _ x y hPW2 (hf2 R r1 r2).1) (hf2 R r1 r2).2, rfl⟩ ?_
            refine ⟨[some 0], rfl, rfl, ?_, ?_⟩ <;> repeat' (first | exact trivial | exact rfl | exact Iff.rfl | apply And.intro)
          · repeat' ((conv => whnf); first | refine Rng.g ?_ | refine Ob.g ?_ | refine Val.mk q8 hq8 ?_ | refine JoinVC.on ?_ | (refine Br.mk (fun h => ?_) (fun h => ?_) <;> first | (exfalso; omega; done) | skip))
            conv => whnf
            refine CallVC.mk [0] _ _ _ rfl rfl rfl (ih (y - (mid + 1)) (by omega) W3 (by omega) hW3 (mid + 1) y l2 rfl (by omega) (by omega) (by omega) (by omega) hBr) (fun r m' h' => ?_)
            obtain ⟨L, k1, k2, rfl, rfl⟩ := h'
            conv => whnf
            have lL := k1.1
            obtain ⟨hBL, hf2⟩ := hright L k1 k2
            repeat' ((conv => whnf); first | refine Rng.g ?_ | refine Ob.g ?_ | refine Val.mk q8 hq8 ?_ | refine JoinVC.on ?_ | (refine Br.mk (fun h => ?_) (fun h => ?_) <;> first | (exfalso; omega; done) | skip))
            refine Back.mk (mid - x) _ (by omega) ⟨x, mid, l2, decide (q8 ≤ (y : Int) - (mid : Int)), ap, L, by omega, by omega, by omega, rfl, by omega, by have := k1.1; omega, by omega, hBL, fun R r1 r2 => hfin R (Go.Sort.permIn_trans _ _ _ x y hPW2 (hf2 R r1 r2).1) (hf2 R r1 r2).2, rfl⟩ ?_
            refine ⟨[some 0], rfl, rfl, ?_, ?_⟩ <;> repeat' (first | exact trivial | exact rfl | exact Iff.rfl | apply And.intro)
        have gi : rI (i64s W2.toList) ((x : Int) - 1).toNat 0 = W2[x - 1]! := by rw [show ((x : Int) - 1).toNat = x - 1 by omega]; exact arr_get W2 _
        have gj : rI (i64s W2.toList) ((p : Int)).toNat 0 = W2[p]! := by rw [show ((p : Int)).toNat = p by omega]; exact arr_get W2 _
        repeat' ((conv => whnf); first | rw [gi] | rw [gj] | refine Rng.g ?_ | refine Ob.g ?_ | refine Ob.e ?_ | refine Ob.m ?_ | refine Ob.mk (Nat.le_of_ble_eq_true rfl) ?_ | refine JoinVC.on ?_ | refine Nils.mk (fun h => ?_) ?_ | refine Val.t ?_ | refine Val.d ?_ | refine Mm.mk ?_ | (refine Br.mk (fun h => ?_) (fun h => ?_) <;> first | (exfalso; omega; done) | (exfalso; simp at h; done) | skip))
        conv => whnf
        refine CallVC.mk [] _ _ _ rfl rfl rfl (s95 W2[x - 1]! W2[p]!) (fun r m' h' => ?_)
        obtain ⟨rfl, rfl⟩ := h'
        conv => whnf
        by_cases hlt : Go.Sort.ltInt W2[x - 1]! W2[p]! = true
        · have hc := int_yes hlt
          repeat' ((conv => whnf); first | refine Rng.g ?_ | refine Ob.g ?_ | refine Ob.e ?_ | refine Ob.m ?_ | refine Ob.mk (Nat.le_of_ble_eq_true rfl) ?_ | refine JoinVC.on ?_ | refine Nils.mk (fun h => ?_) ?_ | refine Val.t ?_ | refine Val.d ?_ | refine Mm.mk ?_ | (refine Br.mk (fun h => ?_) (fun h => ?_) <;> first | (exfalso; omega; done) | (exfalso; simp at h; done) | skip))
          conv => whnf
          refine CallVC.mk [0] _ _ _ rfl rfl rfl (opart fl n W2 (by omega) hW2 x y p hp (by omega)) (fun r m' h' => ?_)
          obtain ⟨mid, ap, W3, hx3, rfl, rfl⟩ := h'
          conv => whnf
          obtain ⟨g1, g2, hs4, hBa, hBr, hleft, hright⟩ := Go.Sort.round_part Go.Sort.swo_ltInt (Go.Sort.partition_holds Go.Sort.ltInt) hp.1 hp.2 (by omega) hB2 hx3
          have hP3 := (Go.Sort.partition_holds Go.Sort.ltInt Go.Sort.swo_ltInt W2 x y p hp.1 hp.2 (by omega)).2.2.1
          rw [hx3] at hP3
          have hW3 : n ≤ W3.size := by have := hP3.1; omega
          by_cases hlr : mid - x < y - mid
          · repeat' ((conv => whnf); first | refine Rng.g ?_ | refine Ob.g ?_ | refine Val.mk q8 hq8 ?_ | refine JoinVC.on ?_ | (refine Br.mk (fun h => ?_) (fun h => ?_) <;> first | (exfalso; omega; done) | skip))
            conv => whnf
            refine CallVC.mk [0] _ _ _ rfl rfl rfl (ih (mid - x) (by omega) W3 (by omega) hW3 x mid l2 rfl (by omega) (by omega) (by omega) (by omega) hBa) (fun r m' h' => ?_)
            obtain ⟨L, k1, k2, rfl, rfl⟩ := h'
            conv => whnf
            have lL := k1.1
            obtain ⟨hBL, hf2⟩ := hleft L k1 k2
            repeat' ((conv => whnf); first | refine Rng.g ?_ | refine Ob.g ?_ | refine Val.mk q8 hq8 ?_ | refine JoinVC.on ?_ | (refine Br.mk (fun h => ?_) (fun h => ?_) <;> first | (exfalso; omega; done) | skip))
            refine Back.mk (y - (mid + 1)) _ (by omega) ⟨mid + 1, y, l2, decide (q8 ≤ (mid : Int) - (x : Int)), ap, L, by omega, by omega, by omega, rfl, by omega, by have := k1.1; omega, by omega, hBL, fun R r1 r2 => hfin R (Go.Sort.permIn_trans _ _ _ x y hPW2 (hf2 R r1 r2).1) (hf2 R r1 r2).2, rfl⟩ ?_
            refine ⟨[some 0], rfl, rfl, ?_, ?_⟩ <;> repeat' (first | exact trivial | exact rfl | exact Iff.rfl | apply And.intro)
          · repeat' ((conv => whnf); first | refine Rng.g ?_ | refine Ob.g ?_ | refine Val.mk q8 hq8 ?_ | refine JoinVC.on ?_ | (refine Br.mk (fun h => ?_) (fun h => ?_) <;> first | (exfalso; omega; done) | skip))
            conv => whnf
            refine CallVC.mk [0] _ _ _ rfl rfl rfl (ih (y - (mid + 1)) (by omega) W3 (by omega) hW3 (mid + 1) y l2 rfl (by omega) (by omega) (by omega) (by omega) hBr) (fun r m' h' => ?_)
            obtain ⟨L, k1, k2, rfl, rfl⟩ := h'
            conv => whnf
            have lL := k1.1
            obtain ⟨hBL, hf2⟩ := hright L k1 k2
            repeat' ((conv => whnf); first | refine Rng.g ?_ | refine Ob.g ?_ | refine Val.mk q8 hq8 ?_ | refine JoinVC.on ?_ | (refine Br.mk (fun h => ?_) (fun h => ?_) <;> first | (exfalso; omega; done) | skip))
            refine Back.mk (mid - x) _ (by omega) ⟨x, mid, l2, decide (q8 ≤ (y : Int) - (mid : Int)), ap, L, by omega, by omega, by omega, rfl, by omega, by have := k1.1; omega, by omega, hBL, fun R r1 r2 => hfin R (Go.Sort.permIn_trans _ _ _ x y hPW2 (hf2 R r1 r2).1) (hf2 R r1 r2).2, rfl⟩ ?_
            refine ⟨[some 0], rfl, rfl, ?_, ?_⟩ <;> repeat' (first | exact trivial | exact rfl | exact Iff.rfl | apply And.intro)
        · have hc := int_no hlt
          repeat' ((conv => whnf); first | refine Rng.g ?_ | refine Ob.g ?_ | refine Ob.e ?_ | refine Ob.m ?_ | refine Ob.mk (Nat.le_of_ble_eq_true rfl) ?_ | refine JoinVC.on ?_ | refine Nils.mk (fun h => ?_) ?_ | refine Val.t ?_ | refine Val.d ?_ | refine Mm.mk ?_ | (refine Br.mk (fun h => ?_) (fun h => ?_) <;> first | (exfalso; omega; done) | (exfalso; simp at h; done) | skip))
          conv => whnf
          refine CallVC.mk [0] _ _ _ rfl rfl rfl (opeq fl n W2 (by omega) hW2 x y p hp (by omega)) (fun r m' h' => ?_)
          obtain ⟨mid, W3, hx3, rfl, rfl⟩ := h'
          conv => whnf
          obtain ⟨g1, g2, hs4, hBm, hf2⟩ := Go.Sort.round_eq Go.Sort.swo_ltInt (Go.Sort.partitionEqual_holds Go.Sort.ltInt) hx0 hp.1 hp.2 (by omega) hB2 (Bool.eq_false_iff.2 hlt) hx3
          have hP3 := (Go.Sort.partitionEqual_holds Go.Sort.ltInt Go.Sort.swo_ltInt W2 x y p hp.1 hp.2 (by omega) (by
            intro i i1 i2
            rcases hB2 with e | e
            · omega
            · exact Go.Sort.swo_ltInt.ntrans _ _ _ (e i i1 i2) (Bool.eq_false_iff.2 hlt))).2.2.1
          rw [hx3] at hP3
          repeat' ((conv => whnf); first | refine Rng.g ?_ | refine Ob.g ?_ | refine Ob.e ?_ | refine Ob.m ?_ | refine Ob.mk (Nat.le_of_ble_eq_true rfl) ?_ | refine JoinVC.on ?_ | refine Nils.mk (fun h => ?_) ?_ | refine Val.t ?_ | refine Val.d ?_ | refine Mm.mk ?_ | (refine Br.mk (fun h => ?_) (fun h => ?_) <;> first | (exfalso; omega; done) | (exfalso; simp at h; done) | skip))
          refine Back.mk (y - mid) _ (by omega) ⟨mid, y, l2, true, true, W3, by omega, by omega, by omega, rfl, by omega, by have := hP3.1; omega, by omega, hBm, fun R r1 r2 => hfin R (Go.Sort.permIn_trans _ _ _ x y hPW2 (hf2 R r1 r2).1) (hf2 R r1 r2).2, rfl⟩ ?_
          refine ⟨[some 0], rfl, rfl, ?_, ?_⟩ <;> repeat' (first | exact trivial | exact rfl | exact Iff.rfl | apply And.intro)
theorem s63 (fl : Bool) (d : Array Int) (n : Nat) (hn : n ≤ d.size) (hz : d.size ≤ 24) : HSpec Try.prog 63 [.one (.vw 0 Try.t3.size 0 n fl)] [rowA d] (fun r m' => ∃ W : Array Int, Go.Sort.PermIn 0 n d W ∧ Go.Sort.SortedIn Go.Sort.ltInt 0 n W ∧ r = .tup [] ∧ m' = [some (rowA W)]) := by
  have hbl : 0 ≤ bl (n : Int) ∧ bl (n : Int) ≤ 5 := by unfold bl; (repeat' split) <;> omega
  obtain ⟨k, hk⟩ : ∃ k : Nat, bl (n : Int) = (k : Int) := ⟨(bl (n : Int)).toNat, by omega⟩
  have c := s80b (n : Int) (by omega)
  rw [hk] at c
  refine spec_of pMix (O := []) Try.func63 (c := bodyOf Try.f63) rfl (by kernel_rfl) (by kernel_rfl) Try.ntmps63 (res := []) (by kernel_rfl) ?_
  repeat' ((conv => whnf); first | refine Rng.g ?_ | refine Ob.g ?_ | refine Ob.e ?_ | refine Ob.m ?_ | refine Ob.mk (Nat.le_of_ble_eq_true rfl) ?_ | refine JoinVC.on ?_ | refine Nils.mk (fun h => ?_) ?_ | refine Val.t ?_ | refine Val.d ?_ | refine Mm.mk ?_ | (refine Br.mk (fun h => ?_) (fun h => ?_) <;> first | (exfalso; omega; done) | (exfalso; simp at h; done) | skip))
  conv => whnf
  refine CallVC.mk [] _ _ _ rfl rfl rfl (c) (fun r m' h' => ?_)
  obtain ⟨rfl, rfl⟩ := h'
  conv => whnf
  repeat' ((conv => whnf); first | refine Rng.g ?_ | refine Ob.g ?_ | refine Ob.e ?_ | refine Ob.m ?_ | refine Ob.mk (Nat.le_of_ble_eq_true rfl) ?_ | refine JoinVC.on ?_ | refine Nils.mk (fun h => ?_) ?_ | refine Val.t ?_ | refine Val.d ?_ | refine Mm.mk ?_ | (refine Br.mk (fun h => ?_) (fun h => ?_) <;> first | (exfalso; omega; done) | (exfalso; simp at h; done) | skip))
  conv => whnf
  refine CallVC.mk [0] _ _ _ rfl rfl rfl (opdq fl n n d (by omega) hn 0 n k (by omega) (by omega) (by omega) (by omega) (by omega) (.inl rfl)) (fun r m' h' => ?_)
  obtain ⟨W, h1, h2, rfl, rfl⟩ := h'
  conv => whnf
  repeat' ((conv => whnf); first | refine Rng.g ?_ | refine Ob.g ?_ | refine Ob.e ?_ | refine Ob.m ?_ | refine Ob.mk (Nat.le_of_ble_eq_true rfl) ?_ | refine JoinVC.on ?_ | refine Nils.mk (fun h => ?_) ?_ | refine Val.t ?_ | refine Val.d ?_ | refine Mm.mk ?_ | (refine Br.mk (fun h => ?_) (fun h => ?_) <;> first | (exfalso; omega; done) | (exfalso; simp at h; done) | skip))
  repeat refine Mm.mk ?_
  conv => whnf
  refine EndVC.mk _ rfl _ _ (⟨W, h1, h2, rfl, rfl⟩) ?_
  refine ⟨[some 0], rfl, rfl, ?_, ?_⟩ <;> repeat' (first | exact trivial | exact rfl | exact Iff.rfl | apply And.intro)
end Go.Sx

namespace Go.Sx
open Go Go.Proofs
set_option maxRecDepth 10000
set_option maxHeartbeats 4000000
/-! ### Best prices, forwards -/
def BestU (P : Int → Prop) (v : Int) : Prop := (v = -1 ∧ ∀ c, ¬ P c) ∨ (0 ≤ v ∧ P v ∧ ∀ c, P c → v ≤ c)
theorem BestU.congr {P Q : Int → Prop} {v : Int} (h : BestU P v) (e : ∀ c, P c ↔ Q c) : BestU Q v := by
  rcases h with ⟨h1, h2⟩ | ⟨h1, h2, h3⟩
  · exact .inl ⟨h1, fun c hc => h2 c ((e c).2 hc)⟩
  · exact .inr ⟨h1, (e v).1 h2, fun c hc => h3 c ((e c).2 hc)⟩
theorem BestU.add {P : Int → Prop} {v x : Int} (h : BestU P v) (hx : 0 ≤ x) {Q : Int → Prop} (hQx : Q x) (hQ : ∀ c, Q c → x ≤ c) : BestU (fun c => P c ∨ Q c) (if v < 0 ∨ x < v then x else v) := by
  rcases h with ⟨h1, h2⟩ | ⟨h1, h2, h3⟩
  · rw [if_pos (by omega)]
    exact .inr ⟨hx, .inr hQx, fun c hc => hc.elim (fun h => absurd h (h2 c)) (hQ c)⟩
  · split
    · exact .inr ⟨hx, .inr hQx, fun c hc => hc.elim (fun h => (by have := h3 c h; omega)) (hQ c)⟩
    · exact .inr ⟨h1, .inl h2, fun c hc => hc.elim (h3 c) (fun h => (by have := hQ c h; omega))⟩
/-- What the tracks before one may cost, if the last side begins before i. -/
def Cand (F : List Fmt) (l : List Sng) (i n : Nat) (c : Int) : Prop := (n = 0 ∧ c = 0) ∨ ∃ m k c', m < i ∧ Reach F l m c' ∧ faceP F l k m n ∧ c = c' + (F.getD k f0).cost
theorem cand_reach {F : List Fmt} {l : List Sng} {i n : Nat} (h : n ≤ i) (c : Int) : Cand F l i n c ↔ Reach F l n c := by
  constructor
  · rintro (⟨rfl, rfl⟩ | ⟨m, k, c', _, h2, h3, rfl⟩)
    · exact .nil
    · exact h2.step h3
  · intro hr
    cases hr with
    | nil => exact .inl ⟨rfl, rfl⟩
    | @step m _ k c' h1 h2 => exact .inr ⟨m, k, c', by have := h2.lt; omega, h1, h2, rfl⟩
/-- .. or with one of these faces from i on. -/
def CandL (F : List Fmt) (l : List Sng) (i : Nat) (L : List (Nat × Nat)) (n : Nat) (c : Int) : Prop := Cand F l i n c ∨ ∃ p, p ∈ L ∧ p.2 = n ∧ ∃ c', Reach F l i c' ∧ c = c' + (F.getD p.1 f0).cost
theorem candL_all {F : List Fmt} {l : List Sng} {i n : Nat} (c : Int) : CandL F l i (facesL F l i) n c ↔ Cand F l (i + 1) n c := by
  constructor
  · rintro ((h | ⟨m, k, c', h1, h2⟩) | ⟨p, h1, h2, c', h3, h4⟩)
    · exact .inl h
    · exact .inr ⟨m, k, c', by omega, h2⟩
    · exact .inr ⟨i, p.1, c', Nat.lt_succ_self i, h3, h2 ▸ mem_faces.1 h1, h4⟩
  · rintro (h | ⟨m, k, c', h1, h2, h3, h4⟩)
    · exact .inl (.inl h)
    · by_cases e : m = i
      · subst e
        exact .inr ⟨(k, n), mem_faces.2 h3, rfl, c', h2, h4⟩
      · exact .inl (.inr ⟨m, k, c', by omega, h2, h3, h4⟩)
theorem cand_skip {F : List Fmt} {l : List Sng} {i n : Nat} (h : ∀ c, ¬ Reach F l i c) (c : Int) : Cand F l i n c ↔ Cand F l (i + 1) n c := by
  rw [← candL_all]
  constructor
  · exact .inl
  · rintro (h1 | ⟨p, _, _, c', h3, _⟩)
    · exact h1
    · exact absurd h3 (h c')
/-- The prices, when the last side begins before i. -/
structure PrcOK (F : List Fmt) (l : List Sng) (P : Nat → Int → Prop) (p : List Int) : Prop where
  len : p.length = l.length + 1
  each : ∀ n, n ≤ l.length → BestU (P n) (p.getD n 0)
def stepP (F : List Fmt) (i : Nat) (p : List Int) (q : Nat × Nat) : List Int := if p.getD q.2 0 < 0 ∨ p.getD i 0 + (F.getD q.1 f0).cost < p.getD q.2 0 then p.set q.2 (p.getD i 0 + (F.getD q.1 f0).cost) else p
theorem stepP_ok {F : List Fmt} {l : List Sng} (hA : AlbOK F l) {i : Nat} (hi : i < l.length) {L : List (Nat × Nat)} {p : List Int} (h : PrcOK F l (CandL F l i L) p) (hL : ∀ q, q ∈ L → faceP F l q.1 i q.2) (h0 : 0 ≤ p.getD i 0) {q : Nat × Nat} (hq : faceP F l q.1 i q.2) : PrcOK F l (CandL F l i (L ++ [q])) (stepP F i p q) ∧ (stepP F i p q).getD i 0 = p.getD i 0 := by
  have hlt := hq.lt
  have hle := hq.le
  have hc := (hA.fmts q.1 hq.fmt).cost
  have hlen := h.len
  have hbi : BestU (Reach F l i) (p.getD i 0) := (h.each i (by omega)).congr fun c => by
    constructor
    · rintro (h1 | ⟨q', h1, h2, _⟩)
      · exact (cand_reach (Nat.le_refl i) c).1 h1
      · have := (hL q' h1).lt
        omega
    · exact fun h1 => .inl ((cand_reach (Nat.le_refl i) c).2 h1)
  obtain ⟨r1, r2⟩ : Reach F l i (p.getD i 0) ∧ ∀ c, Reach F l i c → p.getD i 0 ≤ c := by
    rcases hbi with ⟨h1, _⟩ | ⟨_, h1, h2⟩
    · omega
    · exact ⟨h1, h2⟩
  have key : ∀ n, n ≤ l.length → BestU (CandL F l i (L ++ [q]) n) (if n = q.2 then (if p.getD n 0 < 0 ∨ p.getD i 0 + (F.getD q.1 f0).cost < p.getD n 0 then p.getD i 0 + (F.getD q.1 f0).cost else p.getD n 0) else p.getD n 0) := fun n hn => by
    split
    · rename_i e
      subst e
      refine ((h.each q.2 hn).add (x := p.getD i 0 + (F.getD q.1 f0).cost) (Q := fun c => ∃ c', Reach F l i c' ∧ c = c' + (F.getD q.1 f0).cost) (by omega) ⟨_, r1, rfl⟩ fun c ⟨c', h1, h2⟩ => (by have := r2 c' h1; omega)).congr fun c => ?_
      constructor
      · rintro ((h1 | ⟨q', h1, h2⟩) | ⟨c', h1, h2⟩)
        · exact .inl h1
        · exact .inr ⟨q', List.mem_append_left _ h1, h2⟩
        · exact .inr ⟨q, List.mem_append_right _ List.mem_cons_self, rfl, c', h1, h2⟩
      · rintro (h1 | ⟨q', h1, h2, h3⟩)
        · exact .inl (.inl h1)
        · rcases List.mem_append.1 h1 with h4 | h4
          · exact .inl (.inr ⟨q', h4, h2, h3⟩)
          · rw [List.mem_singleton.1 h4] at h3
            exact .inr h3
    · rename_i e
      refine (h.each n hn).congr fun c => ?_
      constructor
      · rintro (h1 | ⟨q', h1, h2⟩)
        · exact .inl h1
        · exact .inr ⟨q', List.mem_append_left _ h1, h2⟩
      · rintro (h1 | ⟨q', h1, h2, h3⟩)
        · exact .inl h1
        · rcases List.mem_append.1 h1 with h4 | h4
          · exact .inr ⟨q', h4, h2, h3⟩
          · rw [List.mem_singleton.1 h4] at h2
            exact absurd h2.symm e
  have g : ∀ n, (stepP F i p q).getD n 0 = if n = q.2 then (if p.getD n 0 < 0 ∨ p.getD i 0 + (F.getD q.1 f0).cost < p.getD n 0 then p.getD i 0 + (F.getD q.1 f0).cost else p.getD n 0) else p.getD n 0 := fun n => by
    unfold stepP
    by_cases e : n = q.2
    · subst e
      rw [if_pos rfl]
      split
      · rw [gset _ _ _ _ _ (by omega), if_pos rfl]
      · rfl
    · rw [if_neg e]
      split
      · rw [gset _ _ _ _ _ (by omega), if_neg e]
      · rfl
  refine ⟨⟨?_, fun n hn => by rw [g]; exact key n hn⟩, ?_⟩
  · unfold stepP
    split
    · rw [List.length_set]; exact hlen
    · exact hlen
  · rw [g, if_neg (by omega)]
theorem reach_bd {F : List Fmt} {l : List Sng} (hA : AlbOK F l) {n : Nat} {c : Int} (h : Reach F l n c) : 0 ≤ c ∧ c ≤ 1048576 * (n : Int) := by
  induction h with
  | nil => omega
  | step h hf ih =>
    have h1 := (hA.fmts _ hf.fmt).cost
    have h2 := hf.lt
    omega
theorem candL_bd {F : List Fmt} {l : List Sng} (hA : AlbOK F l) {i n : Nat} {L : List (Nat × Nat)} (hL : ∀ q, q ∈ L → faceP F l q.1 i q.2) {c : Int} (h : CandL F l i L n c) : 0 ≤ c ∧ c ≤ 1048576 * (n : Int) := by
  rcases h with (⟨rfl, rfl⟩ | ⟨m, k, c', h1, h2, h3, rfl⟩) | ⟨q, h1, rfl, c', h2, rfl⟩
  · omega
  · exact reach_bd hA (h2.step h3)
  · exact reach_bd hA (h2.step (hL q h1))
theorem PrcOK.bd {F : List Fmt} {l : List Sng} (hA : AlbOK F l) {i : Nat} {L : List (Nat × Nat)} (hL : ∀ q, q ∈ L → faceP F l q.1 i q.2) {p : List Int} (h : PrcOK F l (CandL F l i L) p) {n : Nat} (hn : n ≤ l.length) : -1 ≤ p.getD n 0 ∧ p.getD n 0 ≤ 1048576 * (n : Int) := by
  rcases h.each n hn with ⟨h1, _⟩ | ⟨_, h1, _⟩
  · omega
  · have := candL_bd hA hL h1
    omega
theorem prc_nil {F : List Fmt} {l : List Sng} {i : Nat} {p : List Int} (h : PrcOK F l (Cand F l i) p) : PrcOK F l (CandL F l i []) p := ⟨h.len, fun n hn => (h.each n hn).congr fun c => ⟨.inl, fun h1 => h1.elim id fun ⟨q, h2, _⟩ => absurd h2 (by simp)⟩⟩
theorem prc_next {F : List Fmt} {l : List Sng} {i : Nat} {p : List Int} (h : PrcOK F l (CandL F l i (facesL F l i)) p) : PrcOK F l (Cand F l (i + 1)) p := ⟨h.len, fun n hn => (h.each n hn).congr fun c => candL_all c⟩
theorem prc_skip {F : List Fmt} {l : List Sng} {i : Nat} {p : List Int} (h : PrcOK F l (Cand F l i) p) (hi : i ≤ l.length) (h0 : p.getD i 0 < 0) : PrcOK F l (Cand F l (i + 1)) p := ⟨h.len, fun n hn => (h.each n hn).congr fun c => cand_skip (fun c hc => by
  rcases h.each i hi with ⟨_, h1⟩ | ⟨h1, _⟩
  · exact h1 c ((cand_reach (Nat.le_refl i) c).2 hc)
  · omega) c⟩
theorem prc_end {F : List Fmt} {l : List Sng} {p : List Int} (h : PrcOK F l (Cand F l l.length) p) : PrcOK F l (Reach F l) p := ⟨h.len, fun n hn => (h.each n hn).congr fun c => cand_reach hn c⟩
theorem prc_start {F : List Fmt} {l : List Sng} : PrcOK F l (Cand F l 0) ((List.replicate (l.length + 1) (-1)).set 0 0) := ⟨by simp, fun n hn => by
  rw [gset _ _ _ _ _ (by simp)]
  split
  · rename_i e
    subst e
    exact .inr ⟨Int.le_refl 0, .inl ⟨rfl, rfl⟩, fun c hc => (by
      rcases hc with ⟨_, rfl⟩ | ⟨m, k, c', h1, _⟩
      · exact Int.le_refl 0
      · omega)⟩
  · rename_i e
    have : (List.replicate (l.length + 1) (-1 : Int)).getD n 0 = -1 := by simp [List.getD_eq_getElem?_getD, show n < l.length + 1 by omega]
    rw [this]
    exact .inl ⟨rfl, fun c hc => (by
      rcases hc with ⟨h1, _⟩ | ⟨m, k, c', h1, _⟩
      · exact e h1
      · omega)⟩⟩
end Go.Sx
