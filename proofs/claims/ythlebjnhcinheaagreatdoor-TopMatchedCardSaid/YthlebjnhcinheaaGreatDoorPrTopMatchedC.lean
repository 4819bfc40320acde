import Derived.Test.YthlebjnhcinheaaGreatDoorPrTopMatchedB
import Derived.Test.YthlebjnhcinheaaGreatDoorPrTopMatchedA
import Derived.Test.YthlebjnhcinheaaGreatDoorXc
namespace Go.Sx
open Go Go.Proofs
set_option maxRecDepth 10000
set_option maxHeartbeats 4000000
/-- The least radius of a groove. -/
inductive LsRs (c : Cut) (l : List Smp) (per : Int) (r : AV) (m' : List (Option Blk)) : Prop
  | bad (e : Int) (h : ¬ (CutOK c ∧ PtsOK l ∧ 1 ≤ per ∧ per ≤ 65536)) (he : e ≠ 0) (hr : r = .tup [I 0, I e]) (hm : m' = [])
  | none (ht : ∀ r, 0 ≤ r → r ≤ 4194304 → TrkOK (Trk.at ⟨c, l, 0, per⟩ r)) (h : ¬ pL ⟨c, l, 0, per⟩ 4194304) (hr : r = .tup [I 0, I 14]) (hm : m' = [])
  | ok (ht : ∀ r, 0 ≤ r → r ≤ 4194304 → TrkOK (Trk.at ⟨c, l, 0, per⟩ r)) (k : Int) (hk : Least (pL ⟨c, l, 0, per⟩) 4194305 k) (hk' : k ≤ 4194304) (hr : r = .tup [I k, I 0]) (hm : m' = [])
theorem s35 (c : Cut) (l : List Smp) (per : Int) : HSpec Tryz.prog 35 [c.x, lS l, I per] [] (LsRs c l per) := by
  by_cases hb : ¬ (CutOK c ∧ PtsOK l)
  · refine spec_of pMix (O := []) Tryz.func35 (c := bodyOf Tryz.f35) rfl (by kernel_rfl) (by kernel_rfl) Tryz.ntmps35 (res := [.tmp 6, .tmp 7]) (by kernel_rfl) ?_
    repeat' ((conv => whnf); first | refine Rng.g ?_ | refine Ob.g ?_ | refine Ob.e ?_ | refine Ob.m ?_ | refine Ob.mk (Nat.le_of_ble_eq_true rfl) ?_ | refine JoinVC.on ?_ | refine Nils.mk (fun h => ?_) ?_ | refine Val.t ?_ | refine Val.d ?_ | refine Mm.mk ?_ | (refine Br.mk (fun h => ?_) (fun h => ?_) <;> first | (exfalso; omega; done) | (exfalso; simp at h; done) | skip))
    conv => whnf
    refine CallVC.mk [] _ _ _ rfl rfl rfl (s112 c l) (fun r m' h' => ?_)
    rcases h' with ⟨e, he, he0, rfl, rfl⟩ | ⟨h1, h2, rfl, rfl⟩
    · repeat' ((conv => whnf); first | refine Rng.g ?_ | refine Ob.g ?_ | refine Ob.e ?_ | refine Ob.m ?_ | refine Ob.mk (Nat.le_of_ble_eq_true rfl) ?_ | refine JoinVC.on ?_ | refine Nils.mk (fun h => ?_) ?_ | refine Val.t ?_ | refine Val.d ?_ | refine Mm.mk ?_ | (refine Br.mk (fun h => ?_) (fun h => ?_) <;> first | (exfalso; omega; done) | (exfalso; simp at h; done) | skip))
      repeat refine Mm.mk ?_
      conv => whnf
      refine EndVC.mk _ rfl _ _ (.bad e (fun h => he ⟨h.1, h.2.1⟩) he0 rfl rfl) ?_
      refine ⟨[], rfl, rfl, ?_, ?_⟩ <;> repeat' (first | exact trivial | exact rfl | exact Iff.rfl | apply And.intro)
    · exact absurd ⟨h1, h2⟩ hb
  replace hb := Classical.not_not.1 hb
  by_cases hp : 1 ≤ per ∧ per ≤ 65536
  · have c1 := s113 0 per
    rw [if_pos ⟨by decide, hp⟩] at c1
    have ht : ∀ r, 0 ≤ r → r ≤ 4194304 → TrkOK (Trk.at ⟨c, l, 0, per⟩ r) := fun r h1 h2 => ⟨hb.1, hb.2, ⟨h1, h2⟩, hp⟩
    refine spec_of pMix (O := []) Tryz.func35 (c := bodyOf Tryz.f35) rfl (by kernel_rfl) (by kernel_rfl) Tryz.ntmps35 (res := [.tmp 6, .tmp 7]) (by kernel_rfl) ?_
    repeat' ((conv => whnf); first | refine Rng.g ?_ | refine Ob.g ?_ | refine Ob.e ?_ | refine Ob.m ?_ | refine Ob.mk (Nat.le_of_ble_eq_true rfl) ?_ | refine JoinVC.on ?_ | refine Nils.mk (fun h => ?_) ?_ | refine Val.t ?_ | refine Val.d ?_ | refine Mm.mk ?_ | (refine Br.mk (fun h => ?_) (fun h => ?_) <;> first | (exfalso; omega; done) | (exfalso; simp at h; done) | skip))
    conv => whnf
    refine CallVC.mk [] _ _ _ rfl rfl rfl (s112 c l) (fun r m' h' => ?_)
    rcases h' with ⟨e, he, he0, rfl, rfl⟩ | ⟨h1, h2, rfl, rfl⟩
    · exact absurd hb he
    repeat' ((conv => whnf); first | refine Rng.g ?_ | refine Ob.g ?_ | refine Ob.e ?_ | refine Ob.m ?_ | refine Ob.mk (Nat.le_of_ble_eq_true rfl) ?_ | refine JoinVC.on ?_ | refine Nils.mk (fun h => ?_) ?_ | refine Val.t ?_ | refine Val.d ?_ | refine Mm.mk ?_ | refine CallVC.pure rfl (c1) ?_ | refine CallVC0.pure rfl (c1) ?_ | (refine Br.mk (fun h => ?_) (fun h => ?_) <;> first | (exfalso; omega; done) | (exfalso; simp at h; done) | skip))
    conv => whnf
    refine CallVC.mk [1, 2] _ _ _ rfl rfl rfl (s114L ⟨c, l, 0, per⟩ 0 ht) (fun r m' h' => ?_)
    obtain ⟨k, r', hk, hk2, rfl⟩ := h'
    rcases hk2 with ⟨hk3, rfl⟩ | ⟨hk3, rfl⟩
    · repeat' ((conv => whnf); first | refine Rng.g ?_ | refine Ob.g ?_ | refine Ob.e ?_ | refine Ob.m ?_ | refine Ob.mk (Nat.le_of_ble_eq_true rfl) ?_ | refine JoinVC.on ?_ | refine Nils.mk (fun h => ?_) ?_ | refine Val.t ?_ | refine Val.d ?_ | refine Mm.mk ?_ | (refine Br.mk (fun h => ?_) (fun h => ?_) <;> first | (exfalso; omega; done) | (exfalso; simp at h; done) | skip))
      repeat refine Mm.mk ?_
      conv => whnf
      refine EndVC.mk _ rfl _ _ (.none ht (hk.no 4194304 (by decide) hk3) rfl rfl) ?_
      refine ⟨[], rfl, rfl, ?_, ?_⟩ <;> repeat' (first | exact trivial | exact rfl | exact Iff.rfl | apply And.intro)
    · repeat' ((conv => whnf); first | refine Rng.g ?_ | refine Ob.g ?_ | refine Ob.e ?_ | refine Ob.m ?_ | refine Ob.mk (Nat.le_of_ble_eq_true rfl) ?_ | refine JoinVC.on ?_ | refine Nils.mk (fun h => ?_) ?_ | refine Val.t ?_ | refine Val.d ?_ | refine Mm.mk ?_ | (refine Br.mk (fun h => ?_) (fun h => ?_) <;> first | (exfalso; omega; done) | (exfalso; simp at h; done) | skip))
      repeat refine Mm.mk ?_
      conv => whnf
      refine EndVC.mk _ rfl _ _ (.ok ht k hk hk3 rfl rfl) ?_
      refine ⟨[], rfl, rfl, ?_, ?_⟩ <;> repeat' (first | exact trivial | exact rfl | exact Iff.rfl | apply And.intro)
  · have c1 := s113 0 per
    rw [if_neg (fun h => hp h.2)] at c1
    refine spec_of pMix (O := []) Tryz.func35 (c := bodyOf Tryz.f35) rfl (by kernel_rfl) (by kernel_rfl) Tryz.ntmps35 (res := [.tmp 6, .tmp 7]) (by kernel_rfl) ?_
    repeat' ((conv => whnf); first | refine Rng.g ?_ | refine Ob.g ?_ | refine Ob.e ?_ | refine Ob.m ?_ | refine Ob.mk (Nat.le_of_ble_eq_true rfl) ?_ | refine JoinVC.on ?_ | refine Nils.mk (fun h => ?_) ?_ | refine Val.t ?_ | refine Val.d ?_ | refine Mm.mk ?_ | (refine Br.mk (fun h => ?_) (fun h => ?_) <;> first | (exfalso; omega; done) | (exfalso; simp at h; done) | skip))
    conv => whnf
    refine CallVC.mk [] _ _ _ rfl rfl rfl (s112 c l) (fun r m' h' => ?_)
    rcases h' with ⟨e, he, he0, rfl, rfl⟩ | ⟨h1, h2, rfl, rfl⟩
    · exact absurd hb he
    repeat' ((conv => whnf); first | refine Rng.g ?_ | refine Ob.g ?_ | refine Ob.e ?_ | refine Ob.m ?_ | refine Ob.mk (Nat.le_of_ble_eq_true rfl) ?_ | refine JoinVC.on ?_ | refine Nils.mk (fun h => ?_) ?_ | refine Val.t ?_ | refine Val.d ?_ | refine Mm.mk ?_ | refine CallVC.pure rfl (c1) ?_ | refine CallVC0.pure rfl (c1) ?_ | (refine Br.mk (fun h => ?_) (fun h => ?_) <;> first | (exfalso; omega; done) | (exfalso; simp at h; done) | skip))
    repeat refine Mm.mk ?_
    conv => whnf
    refine EndVC.mk _ rfl _ _ (.bad 3 (fun h => hp h.2.2) (by decide) rfl rfl) ?_
    refine ⟨[], rfl, rfl, ?_, ?_⟩ <;> repeat' (first | exact trivial | exact rfl | exact Iff.rfl | apply And.intro)
theorem s44 (c : Cut) (l : List Smp) (per : Int) (i : Nat) (hC : CutOK c) (hP : PtsOK l) (hp : 1 ≤ per ∧ per ≤ 65536) (hi : i < l.length) : HSpec Tryz.prog 44 [c.x, lS l, I per, I (i : Int)] [] (fun r m' => ∃ k, Least (pN ⟨c, l, 0, per⟩ i) 4194305 k ∧ ((4194304 < k ∧ r = .tup [I 0, I 14]) ∨ (k ≤ 4194304 ∧ r = .tup [I k, I 0])) ∧ m' = []) := by
  have lp := smpA_len l
  have c1 := s113 0 per
  rw [if_pos ⟨by decide, hp⟩] at c1
  have ht : ∀ r, 0 ≤ r → r ≤ 4194304 → TrkOK (Trk.at ⟨c, l, 0, per⟩ r) := fun r h1 h2 => ⟨hC, hP, ⟨h1, h2⟩, hp⟩
  refine spec_of pMix (O := []) Tryz.func44 (c := bodyOf Tryz.f44) rfl (by kernel_rfl) (by kernel_rfl) Tryz.ntmps44 (res := [.tmp 8, .tmp 9]) (by kernel_rfl) ?_
  repeat' ((conv => whnf); first | refine Rng.g ?_ | refine Ob.g ?_ | refine Ob.e ?_ | refine Ob.m ?_ | refine Ob.mk (Nat.le_of_ble_eq_true rfl) ?_ | refine JoinVC.on ?_ | refine Nils.mk (fun h => ?_) ?_ | refine Val.t ?_ | refine Val.d ?_ | refine Mm.mk ?_ | (refine Br.mk (fun h => ?_) (fun h => ?_) <;> first | (exfalso; omega; done) | (exfalso; simp at h; done) | skip))
  conv => whnf
  refine CallVC.mk [] _ _ _ rfl rfl rfl (s112 c l) (fun r m' h' => ?_)
  rcases h' with ⟨e, he, he0, rfl, rfl⟩ | ⟨h1, h2, rfl, rfl⟩
  · exact absurd ⟨hC, hP⟩ he
  repeat' ((conv => whnf); first | refine Rng.g ?_ | refine Ob.g ?_ | refine Ob.e ?_ | refine Ob.m ?_ | refine Ob.mk (Nat.le_of_ble_eq_true rfl) ?_ | refine JoinVC.on ?_ | refine Nils.mk (fun h => ?_) ?_ | refine Val.t ?_ | refine Val.d ?_ | refine Mm.mk ?_ | refine CallVC.pure rfl (c1) ?_ | refine CallVC0.pure rfl (c1) ?_ | (refine Br.mk (fun h => ?_) (fun h => ?_) <;> first | (exfalso; omega; done) | (exfalso; simp at h; done) | skip))
  conv => whnf
  refine CallVC.mk [2, 3, 1] _ _ _ rfl rfl rfl (s114N ⟨c, l, 0, per⟩ 0 i hi ht) (fun r m' h' => ?_)
  obtain ⟨k, r', hk, hk2, rfl⟩ := h'
  rcases hk2 with ⟨hk3, rfl⟩ | ⟨hk3, rfl⟩
  · repeat' ((conv => whnf); first | refine Rng.g ?_ | refine Ob.g ?_ | refine Ob.e ?_ | refine Ob.m ?_ | refine Ob.mk (Nat.le_of_ble_eq_true rfl) ?_ | refine JoinVC.on ?_ | refine Nils.mk (fun h => ?_) ?_ | refine Val.t ?_ | refine Val.d ?_ | refine Mm.mk ?_ | (refine Br.mk (fun h => ?_) (fun h => ?_) <;> first | (exfalso; omega; done) | (exfalso; simp at h; done) | skip))
    repeat refine Mm.mk ?_
    conv => whnf
    refine EndVC.mk _ rfl _ _ (⟨k, hk, .inl ⟨hk3, rfl⟩, rfl⟩) ?_
    refine ⟨[], rfl, rfl, ?_, ?_⟩ <;> repeat' (first | exact trivial | exact rfl | exact Iff.rfl | apply And.intro)
  · repeat' ((conv => whnf); first | refine Rng.g ?_ | refine Ob.g ?_ | refine Ob.e ?_ | refine Ob.m ?_ | refine Ob.mk (Nat.le_of_ble_eq_true rfl) ?_ | refine JoinVC.on ?_ | refine Nils.mk (fun h => ?_) ?_ | refine Val.t ?_ | refine Val.d ?_ | refine Mm.mk ?_ | (refine Br.mk (fun h => ?_) (fun h => ?_) <;> first | (exfalso; omega; done) | (exfalso; simp at h; done) | skip))
    repeat refine Mm.mk ?_
    conv => whnf
    refine EndVC.mk _ rfl _ _ (⟨k, hk, .inr ⟨hk3, rfl⟩, rfl⟩) ?_
    refine ⟨[], rfl, rfl, ?_, ?_⟩ <;> repeat' (first | exact trivial | exact rfl | exact Iff.rfl | apply And.intro)
theorem s51 (c : Cut) (l : List Smp) (r per : Int) (hC : CutOK c) (hP : PtsOK l) (hr : 0 ≤ r ∧ r ≤ 4194304) (hp : 1 ≤ per ∧ per ≤ 65536) : HSpec Tryz.prog 51 [c.x, lS l, I r, I per] [] (fun x m' => ∃ (i : Nat) (k : Int), FaultIs ⟨c, l, r, per⟩ i k ∧ ((k = 0 ∧ x = .tup [I 0, I 0, I 5]) ∨ (k ≠ 0 ∧ x = .tup [I (i : Int), I k, I 0])) ∧ m' = []) := by
  have c1 := s113 r per
  rw [if_pos ⟨hr, hp⟩] at c1
  refine spec_of pMix (O := []) Tryz.func51 (c := bodyOf Tryz.f51) rfl (by kernel_rfl) (by kernel_rfl) Tryz.ntmps51 (res := [.tmp 8, .tmp 9, .tmp 10]) (by kernel_rfl) ?_
  repeat' ((conv => whnf); first | refine Rng.g ?_ | refine Ob.g ?_ | refine Ob.e ?_ | refine Ob.m ?_ | refine Ob.mk (Nat.le_of_ble_eq_true rfl) ?_ | refine JoinVC.on ?_ | refine Nils.mk (fun h => ?_) ?_ | refine Val.t ?_ | refine Val.d ?_ | refine Mm.mk ?_ | (refine Br.mk (fun h => ?_) (fun h => ?_) <;> first | (exfalso; omega; done) | (exfalso; simp at h; done) | skip))
  conv => whnf
  refine CallVC.mk [] _ _ _ rfl rfl rfl (s112 c l) (fun r m' h' => ?_)
  rcases h' with ⟨e, he, he0, rfl, rfl⟩ | ⟨h1, h2, rfl, rfl⟩
  · exact absurd ⟨hC, hP⟩ he
  repeat' ((conv => whnf); first | refine Rng.g ?_ | refine Ob.g ?_ | refine Ob.e ?_ | refine Ob.m ?_ | refine Ob.mk (Nat.le_of_ble_eq_true rfl) ?_ | refine JoinVC.on ?_ | refine Nils.mk (fun h => ?_) ?_ | refine Val.t ?_ | refine Val.d ?_ | refine Mm.mk ?_ | refine CallVC.pure rfl (c1) ?_ | refine CallVC0.pure rfl (c1) ?_ | (refine Br.mk (fun h => ?_) (fun h => ?_) <;> first | (exfalso; omega; done) | (exfalso; simp at h; done) | skip))
  conv => whnf
  refine CallVC.mk [] _ _ _ rfl rfl rfl (s116 ⟨c, l, r, per⟩ ⟨hC, hP, hr, hp⟩) (fun r m' h' => ?_)
  obtain ⟨i, k, hF, rfl, rfl⟩ := h'
  conv => whnf
  repeat' ((conv => whnf); first | refine Rng.g ?_ | refine Ob.g ?_ | refine Ob.e ?_ | refine Ob.m ?_ | refine Ob.mk (Nat.le_of_ble_eq_true rfl) ?_ | refine JoinVC.on ?_ | refine Nils.mk (fun h => ?_) ?_ | refine Val.t ?_ | refine Val.d ?_ | refine Mm.mk ?_ | (refine Br.mk (fun h => ?_) (fun h => ?_) <;> first | (exfalso; omega; done) | (exfalso; simp at h; done) | skip))
  · repeat refine Mm.mk ?_
    conv => whnf
    refine EndVC.mk _ rfl _ _ (⟨i, k, hF, .inl ⟨h, rfl⟩, rfl⟩) ?_
    refine ⟨[], rfl, rfl, ?_, ?_⟩ <;> repeat' (first | exact trivial | exact rfl | exact Iff.rfl | apply And.intro)
  · repeat refine Mm.mk ?_
    conv => whnf
    refine EndVC.mk _ rfl _ _ (⟨i, k, hF, .inr ⟨h, rfl⟩, rfl⟩) ?_
    refine ⟨[], rfl, rfl, ?_, ?_⟩ <;> repeat' (first | exact trivial | exact rfl | exact Iff.rfl | apply And.intro)
end Go.Sx

namespace Go.Sx
open Go Go.Proofs
set_option maxRecDepth 10000
set_option maxHeartbeats 4000000
theorem e22 : EntersF Tryz.prog 22 := enters_of Tryz.func22 (c := bodyOf Tryz.f22) (by kernel_rfl) rfl
theorem e25 : EntersF Tryz.prog 25 := enters_of Tryz.func25 (c := bodyOf Tryz.f25) (by kernel_rfl) rfl
theorem e27 : EntersF Tryz.prog 27 := enters_of Tryz.func27 (c := bodyOf Tryz.f27) (by kernel_rfl) rfl
theorem e28 : EntersF Tryz.prog 28 := enters_of Tryz.func28 (c := bodyOf Tryz.f28) (by kernel_rfl) rfl
theorem e31 : EntersF Tryz.prog 31 := enters_of Tryz.func31 (c := bodyOf Tryz.f31) (by kernel_rfl) rfl
theorem e3 : EntersF Tryz.prog 3 := enters_of Tryz.func3 (c := bodyOf Tryz.f3) (by kernel_rfl) rfl
theorem smp_ext {a b : Smp} (h1 : a.l = b.l) (h2 : a.r = b.r) : a = b := by cases a; cases b; cases h1; cases h2; rfl
theorem list_ext' {α : Type} {a b : List α} {d : α} (h1 : a.length = b.length) (h2 : ∀ j, j < a.length → a.getD j d = b.getD j d) : a = b := by
  refine List.ext_getElem h1 fun j h3 h4 => ?_
  have := h2 j h3
  simpa [List.getD_eq_getElem?_getD, h3, h4] using this
noncomputable instance (a b : List Smp) : Decidable (a = b) := Classical.propDecidable _
theorem s27 (a b : List Smp) (hla : a.length ≤ 1000000) : PSpec Tryz.prog 27 [lS a, lS b] (xP (a = b)) := by
  have la := smpA_len a
  have lb := smpA_len b
  by_cases hl : a.length = b.length
  · refine spec_of pMix (O := []) Tryz.func27 (c := bodyOf Tryz.f27) rfl (by kernel_rfl) (by kernel_rfl) Tryz.ntmps27 (res := [.tmp 4]) (by kernel_rfl) ?_
    repeat' ((conv => whnf); first | refine Rng.g ?_ | refine Ob.g ?_ | refine Ob.e ?_ | refine Ob.m ?_ | refine Ob.mk (Nat.le_of_ble_eq_true rfl) ?_ | refine JoinVC.on ?_ | refine Nils.mk (fun h => ?_) ?_ | refine Val.t ?_ | refine Val.d ?_ | refine Mm.mk ?_ | (refine Br.mk (fun h => ?_) (fun h => ?_) <;> first | (exfalso; omega; done) | (exfalso; simp at h; done) | skip))
    refine LoopVC.mk (fun n st => ∃ (i : Nat), i ≤ a.length ∧ n = a.length - i ∧ (∀ j, j < i → a.getD j s0 = b.getD j s0) ∧ st = ⟨0, envA 26 [(0, .x (lS a)), (1, .x (lS b)), (5, .int .i64 (i : Int))], []⟩) _ _ ⟨0, Nat.zero_le _, rfl, fun j hj => absurd hj (Nat.not_lt_zero j), rfl⟩ ?_ ?_
    · refine ⟨[], rfl, rfl, ?_, ?_⟩ <;> repeat' (first | exact trivial | exact rfl | exact Iff.rfl | apply And.intro)
    rintro n _ ⟨i, hi, hn, hj, rfl⟩
    have g0 : rI (smpA a) (i : Int).toNat 0 = (a.getD i s0).l := by rw [Int.toNat_natCast]; exact smpA_l a i
    have g1 : rI (smpA a) (i : Int).toNat (0 + 1) = (a.getD i s0).r := by rw [Int.toNat_natCast]; exact smpA_r a i
    have g2 : rI (smpA b) (i : Int).toNat 0 = (b.getD i s0).l := by rw [Int.toNat_natCast]; exact smpA_l b i
    have g3 : rI (smpA b) (i : Int).toNat (0 + 1) = (b.getD i s0).r := by rw [Int.toNat_natCast]; exact smpA_r b i
    by_cases hi' : i < a.length
    · repeat' ((conv => whnf); first | refine Rng.g ?_ | refine Ob.g ?_ | refine Ob.e ?_ | refine Ob.m ?_ | refine Ob.mk (Nat.le_of_ble_eq_true rfl) ?_ | refine JoinVC.on ?_ | refine Nils.mk (fun h => ?_) ?_ | refine Val.t ?_ | refine Val.d ?_ | refine Mm.mk ?_ | (refine Br.mk (fun h => ?_) (fun h => ?_) <;> first | (exfalso; omega; done) | (exfalso; simp at h; done) | skip))
      · repeat refine Mm.mk ?_
        refine EndVC.mk _ rfl _ _ ⟨rfl, rfl⟩ ?_
        refine ⟨[], rfl, rfl, ?_, ?_⟩ <;> repeat' (first | exact trivial | exact rfl | exact Iff.rfl | apply And.intro)
        refine fun e => h ?_
        show rI (smpA a) _ _ = rI (smpA b) _ _ ∧ rI (smpA a) _ _ = rI (smpA b) _ _ ∧ True
        rw [show a = b from e]
        exact ⟨rfl, rfl, trivial⟩
      · have h2 : rI (smpA a) (i : Int).toNat 0 = rI (smpA b) (i : Int).toNat 0 ∧ rI (smpA a) (i : Int).toNat (0 + 1) = rI (smpA b) (i : Int).toNat (0 + 1) ∧ True := Classical.not_not.1 h
        rw [g0, g1, g2, g3] at h2
        refine Back.mk (a.length - (i + 1)) _ (by omega) ⟨i + 1, by omega, rfl, fun j hj' => ?_, rfl⟩ ?_
        · rcases Nat.lt_succ_iff_lt_or_eq.1 hj' with h' | rfl
          · exact hj j h'
          · exact smp_ext h2.1 h2.2.1
        · refine ⟨[], rfl, rfl, ?_, ?_⟩ <;> repeat' (first | exact trivial | exact rfl | exact Iff.rfl | apply And.intro)
    · repeat' ((conv => whnf); first | refine Rng.g ?_ | refine Ob.g ?_ | refine Ob.e ?_ | refine Ob.m ?_ | refine Ob.mk (Nat.le_of_ble_eq_true rfl) ?_ | refine JoinVC.on ?_ | refine Nils.mk (fun h => ?_) ?_ | refine Val.t ?_ | refine Val.d ?_ | refine Mm.mk ?_ | (refine Br.mk (fun h => ?_) (fun h => ?_) <;> first | (exfalso; omega; done) | (exfalso; simp at h; done) | skip))
      repeat refine Mm.mk ?_
      refine EndVC.mk _ rfl _ _ ⟨rfl, rfl⟩ ?_
      refine ⟨[], rfl, rfl, ?_, ?_⟩ <;> repeat' (first | exact trivial | exact rfl | exact Iff.rfl | apply And.intro)
      exact list_ext' hl fun j hj' => hj j (by omega)
  · refine spec_of pMix (O := []) Tryz.func27 (c := bodyOf Tryz.f27) rfl (by kernel_rfl) (by kernel_rfl) Tryz.ntmps27 (res := [.tmp 4]) (by kernel_rfl) ?_
    repeat' ((conv => whnf); first | refine Rng.g ?_ | refine Ob.g ?_ | refine Ob.e ?_ | refine Ob.m ?_ | refine Ob.mk (Nat.le_of_ble_eq_true rfl) ?_ | refine JoinVC.on ?_ | refine Nils.mk (fun h => ?_) ?_ | refine Val.t ?_ | refine Val.d ?_ | refine Mm.mk ?_ | (refine Br.mk (fun h => ?_) (fun h => ?_) <;> first | (exfalso; omega; done) | (exfalso; simp at h; done) | skip))
    repeat refine Mm.mk ?_
    refine EndVC.mk _ rfl _ _ ⟨rfl, rfl⟩ ?_
    refine ⟨[], rfl, rfl, ?_, ?_⟩ <;> repeat' (first | exact trivial | exact rfl | exact Iff.rfl | apply And.intro)
    exact fun e => hl (by rw [show a = b from e])
@[reducible] def rowI (l : List Int) : Blk := rowL l
/-- Both channels. -/
def chL (s : List Smp) : List Int := s.map Smp.l
def chR (s : List Smp) : List Int := s.map Smp.r
theorem chL_take (s : List Smp) (i : Nat) (h : i < s.length) : i64s (chL (s.take i)) ++ [[.int (s.getD i s0).l]] = i64s (chL (s.take (i + 1))) := by
  rw [take_snoc s i s0 h, chL, chL, List.map_append]; exact (i64s_snoc _ _).symm
theorem chR_take (s : List Smp) (i : Nat) (h : i < s.length) : i64s (chR (s.take i)) ++ [[.int (s.getD i s0).r]] = i64s (chR (s.take (i + 1))) := by
  rw [take_snoc s i s0 h, chR, chR, List.map_append]; exact (i64s_snoc _ _).symm
theorem s28 (s : List Smp) (hl : s.length ≤ 100000) : HSpec Tryz.prog 28 [lS s] [] (fun r m' => r = .tup [.one (.own 0), .one (.own 1)] ∧ m' = [some (rowL (chL s)), some (rowL (chR s))]) := by
  have ls := smpA_len s
  refine spec_of pMix (O := [(5, ([], [⟨0, [], []⟩, ⟨1, [], []⟩, ⟨2, [], []⟩, ⟨3, [], []⟩, ⟨4, [], []⟩, ⟨5, [], [6]⟩, ⟨8, [], []⟩, ⟨9, [], []⟩, ⟨10, [], []⟩, ⟨11, [], []⟩, ⟨12, [], []⟩, ⟨13, [], [14]⟩, ⟨6, [], []⟩, ⟨7, [8, 9, 10, 11, 12, 13], []⟩, ⟨14, [], []⟩, ⟨15, [], []⟩, ⟨16, [], []⟩, ⟨17, [], []⟩]))]) Tryz.func28 (c := bodyOf Tryz.f28) rfl (by kernel_rfl) (by kernel_rfl) Tryz.ntmps28 (res := [.tmp 2, .tmp 3]) (by kernel_rfl) ?_
  repeat' ((conv => whnf); first | refine Rng.g ?_ | refine Ob.g ?_ | refine Ob.e ?_ | refine Ob.m ?_ | refine Ob.mk (Nat.le_of_ble_eq_true rfl) ?_ | refine JoinVC.on ?_ | refine Nils.mk (fun h => ?_) ?_ | refine Val.t ?_ | refine Val.d ?_ | refine Mm.mk ?_ | (refine Br.mk (fun h => ?_) (fun h => ?_) <;> first | (exfalso; omega; done) | (exfalso; simp at h; done) | skip))
  refine LoopVC.mk (fun n st => ∃ (i : Nat), i ≤ s.length ∧ n = s.length - i ∧ st = ⟨0, envA 31 [(0, .x (lS s)), (4, .x (.one (.own 0))), (5, .x (.one (.own 1))), (6, .int .i64 (i : Int))], [some (rowL (chL (s.take i))), some (rowL (chR (s.take i)))]⟩) _ _ ⟨0, Nat.zero_le _, rfl, rfl⟩ ?_ ?_
  · refine ⟨[none, none], rfl, rfl, ?_, ?_⟩ <;> repeat' (first | exact trivial | exact rfl | exact Iff.rfl | apply And.intro)
  rintro n _ ⟨i, hi, hn, rfl⟩
  have e1 : (i64s (chL (s.take i))).length = i := by rw [i64s_len, chL, List.length_map, List.length_take]; omega
  have e2 : (i64s (chR (s.take i))).length = i := by rw [i64s_len, chR, List.length_map, List.length_take]; omega
  by_cases hi' : i < s.length
  · have g0 : rI (smpA s) (i : Int).toNat (0 + 0) = (s.getD i s0).l := by rw [Int.toNat_natCast]; exact smpA_l s i
    have g1 : rI (smpA s) (i : Int).toNat (0 + (0 + 1)) = (s.getD i s0).r := by rw [Int.toNat_natCast]; exact smpA_r s i
    repeat' ((conv => whnf); first | refine Rng.g ?_ | refine Ob.g ?_ | refine Ob.e ?_ | refine Ob.m ?_ | refine Ob.mk (Nat.le_of_ble_eq_true rfl) ?_ | refine JoinVC.on ?_ | refine Nils.mk (fun h => ?_) ?_ | refine Val.t ?_ | refine Val.d ?_ | refine Mm.mk ?_ | (refine Br.mk (fun h => ?_) (fun h => ?_) <;> first | (exfalso; omega; done) | (exfalso; simp at h; done) | skip))
    repeat refine Mm.mk ?_
    refine Ob.mk (by simp only [e1, eb2, List.length_cons, List.length_nil]; omega) ?_
    repeat' ((conv => whnf); first | rw [g0] | refine Rng.g ?_ | refine Ob.g ?_ | refine Ob.e ?_ | refine Ob.m ?_ | refine Ob.mk (Nat.le_of_ble_eq_true rfl) ?_ | refine JoinVC.on ?_ | refine Nils.mk (fun h => ?_) ?_ | refine Val.t ?_ | refine Val.d ?_ | refine Mm.mk ?_ | (refine Br.mk (fun h => ?_) (fun h => ?_) <;> first | (exfalso; omega; done) | (exfalso; simp at h; done) | skip))
    repeat refine Mm.mk ?_
    refine Ob.mk (by simp only [e2, eb2, List.length_cons, List.length_nil]; omega) ?_
    repeat' ((conv => whnf); first | rw [g1] | refine Rng.g ?_ | refine Ob.g ?_ | refine Ob.e ?_ | refine Ob.m ?_ | refine Ob.mk (Nat.le_of_ble_eq_true rfl) ?_ | refine JoinVC.on ?_ | refine Nils.mk (fun h => ?_) ?_ | refine Val.t ?_ | refine Val.d ?_ | refine Mm.mk ?_ | (refine Br.mk (fun h => ?_) (fun h => ?_) <;> first | (exfalso; omega; done) | (exfalso; simp at h; done) | skip))
    refine Back.mk (s.length - (i + 1)) _ (by omega) ⟨i + 1, by omega, rfl, rfl⟩ ?_
    refine ⟨[some 3, some 5], rfl, rfl, ?_, ?_⟩ <;> repeat' (first | exact trivial | exact rfl | exact Iff.rfl | apply And.intro)
    · exact chL_take s i hi'
    · exact chR_take s i hi'
  · repeat' ((conv => whnf); first | refine Rng.g ?_ | refine Ob.g ?_ | refine Ob.e ?_ | refine Ob.m ?_ | refine Ob.mk (Nat.le_of_ble_eq_true rfl) ?_ | refine JoinVC.on ?_ | refine Nils.mk (fun h => ?_) ?_ | refine Val.t ?_ | refine Val.d ?_ | refine Mm.mk ?_ | (refine Br.mk (fun h => ?_) (fun h => ?_) <;> first | (exfalso; omega; done) | (exfalso; simp at h; done) | skip))
    have e : s.take i = s := List.take_of_length_le (by omega)
    rw [e]
    repeat refine Mm.mk ?_
    refine EndVC.mk _ rfl _ _ ⟨rfl, rfl⟩ ?_
    refine ⟨[some 0, some 1], rfl, rfl, ?_, ?_⟩ <;> repeat' (first | exact trivial | exact rfl | exact Iff.rfl | apply And.intro)
def joinS (a b : List Int) : List Smp := (List.range (min a.length b.length)).map fun i => ⟨a.getD i 0, b.getD i 0⟩
theorem joinS_len (a b : List Int) : (joinS a b).length = min a.length b.length := by simp [joinS]
theorem joinS_get (a b : List Int) (i : Nat) (h : i < min a.length b.length) : (joinS a b).getD i s0 = ⟨a.getD i 0, b.getD i 0⟩ := by simp only [joinS, List.getD_eq_getElem?_getD, List.getElem?_map, List.getElem?_range h]; rfl
theorem joinS_take (a b : List Int) (i : Nat) (h : i < min a.length b.length) : smpA ((joinS a b).take i) ++ [[.int (a.getD i 0), .int (b.getD i 0)]] = smpA ((joinS a b).take (i + 1)) := by
  rw [take_snoc (joinS a b) i s0 (by rw [joinS_len]; exact h), smpA_snoc, joinS_get a b i h]
theorem s31 (a b : List Int) (hl : a.length ≤ 100000) : HSpec Tryz.prog 31 [lL a, lL b] [] (fun r m' => r = .x (.one (.own 0)) ∧ m' = [some (rowS (joinS a b))]) := by
  have la := i64s_len a
  have lb := i64s_len b
  have lj := joinS_len a b
  refine spec_of pMix (O := [(5, ([], [⟨0, [], []⟩, ⟨1, [], []⟩, ⟨2, [], []⟩, ⟨3, [], []⟩, ⟨4, [], []⟩, ⟨5, [], []⟩, ⟨6, [], []⟩, ⟨7, [], []⟩, ⟨8, [], []⟩, ⟨9, [], [10]⟩, ⟨10, [], []⟩, ⟨11, [], []⟩, ⟨12, [], []⟩]))]) Tryz.func31 (c := bodyOf Tryz.f31) rfl (by kernel_rfl) (by kernel_rfl) Tryz.ntmps31 (res := [.tmp 4]) (by kernel_rfl) ?_
  repeat' ((conv => whnf); first | refine Rng.g ?_ | refine Ob.g ?_ | refine Ob.e ?_ | refine Ob.m ?_ | refine Ob.mk (Nat.le_of_ble_eq_true rfl) ?_ | refine JoinVC.on ?_ | refine Nils.mk (fun h => ?_) ?_ | refine Val.t ?_ | refine Val.d ?_ | refine Mm.mk ?_ | (refine Br.mk (fun h => ?_) (fun h => ?_) <;> first | (exfalso; omega; done) | (exfalso; simp at h; done) | skip))
  refine LoopVC.mk (fun n st => ∃ (i : Nat), i ≤ min a.length b.length ∧ n = min a.length b.length - i ∧ st = ⟨0, envA 32 [(0, .x (lL a)), (1, .x (lL b)), (5, .x (.one (.own 0))), (6, .int .i64 (i : Int))], [some (rowS ((joinS a b).take i))]⟩) _ _ ⟨0, Nat.zero_le _, rfl, rfl⟩ ?_ ?_
  · refine ⟨[none], rfl, rfl, ?_, ?_⟩ <;> repeat' (first | exact trivial | exact rfl | exact Iff.rfl | apply And.intro)
  rintro n _ ⟨i, hi, hn, rfl⟩
  have e1 : (smpA ((joinS a b).take i)).length = i := by rw [smpA_len, List.length_take]; omega
  by_cases hi' : i < min a.length b.length
  · have g0 : rI (i64s a) (i : Int).toNat 0 = a.getD i 0 := by rw [Int.toNat_natCast]; exact i64s_get a i
    have g1 : rI (i64s b) (i : Int).toNat 0 = b.getD i 0 := by rw [Int.toNat_natCast]; exact i64s_get b i
    repeat' ((conv => whnf); first | refine Rng.g ?_ | refine Ob.g ?_ | refine Ob.e ?_ | refine Ob.m ?_ | refine Ob.mk (Nat.le_of_ble_eq_true rfl) ?_ | refine JoinVC.on ?_ | refine Nils.mk (fun h => ?_) ?_ | refine Val.t ?_ | refine Val.d ?_ | refine Mm.mk ?_ | (refine Br.mk (fun h => ?_) (fun h => ?_) <;> first | (exfalso; omega; done) | (exfalso; simp at h; done) | skip))
    repeat refine Mm.mk ?_
    refine Ob.mk (by simp only [e1, eb47, List.length_cons, List.length_nil]; omega) ?_
    repeat' ((conv => whnf); first | rw [g0] | rw [g1] | refine Rng.g ?_ | refine Ob.g ?_ | refine Ob.e ?_ | refine Ob.m ?_ | refine Ob.mk (Nat.le_of_ble_eq_true rfl) ?_ | refine JoinVC.on ?_ | refine Nils.mk (fun h => ?_) ?_ | refine Val.t ?_ | refine Val.d ?_ | refine Mm.mk ?_ | (refine Br.mk (fun h => ?_) (fun h => ?_) <;> first | (exfalso; omega; done) | (exfalso; simp at h; done) | skip))
    refine Back.mk (min a.length b.length - (i + 1)) _ (by omega) ⟨i + 1, by omega, rfl, rfl⟩ ?_
    refine ⟨[some 2], rfl, rfl, ?_, ?_⟩ <;> repeat' (first | exact trivial | exact rfl | exact Iff.rfl | apply And.intro)
    exact joinS_take a b i hi'
  · have e : (joinS a b).take i = joinS a b := List.take_of_length_le (by omega)
    rw [e]
    repeat' ((conv => whnf); first | refine Rng.g ?_ | refine Ob.g ?_ | refine Ob.e ?_ | refine Ob.m ?_ | refine Ob.mk (Nat.le_of_ble_eq_true rfl) ?_ | refine JoinVC.on ?_ | refine Nils.mk (fun h => ?_) ?_ | refine Val.t ?_ | refine Val.d ?_ | refine Mm.mk ?_ | (refine Br.mk (fun h => ?_) (fun h => ?_) <;> first | (exfalso; omega; done) | (exfalso; simp at h; done) | skip))
    all_goals
      repeat refine Mm.mk ?_
      refine EndVC.mk _ rfl _ _ ⟨rfl, rfl⟩ ?_
      refine ⟨[some 0], rfl, rfl, ?_, ?_⟩ <;> repeat' (first | exact trivial | exact rfl | exact Iff.rfl | apply And.intro)
end Go.Sx

namespace Go.Sx
open Go Go.Proofs
set_option maxRecDepth 10000
set_option maxHeartbeats 4000000
/-- A programme that is not too long. -/
structure PgOK (T : List Tak) (l : List Prt) : Prop where
  len : l.length ≤ 6
  ok : ProgOK T l
  stop : endP l ≤ 200
  good : smpE (rend T l) = 0
inductive PgRs (T : List Tak) (l : List Prt) (r : AV) (m' : List (Option Blk)) : Prop
  | no (h : ¬ PgOK T l) (hr : r = .tup [.one .nils, .one (.prp False inferInstance)]) (hm : m' = [])
  | yes (h : PgOK T l) (hr : r = .tup [.one (.own 0), .one (.prp True inferInstance)]) (hm : m' = [some (rowS (rend T l))])
theorem s22 (T : List Tak) (l : List Prt) (hI : TakI T) : HSpec Tryz.prog 22 [lT T, lP l] [] (PgRs T l) := by
  have ll := prtA_len l
  by_cases h6 : l.length ≤ 6
  · by_cases hP : ProgOK T l
    · refine spec_of pMix (O := []) Tryz.func22 (c := bodyOf Tryz.f22) rfl (by kernel_rfl) (by kernel_rfl) Tryz.ntmps22 (res := [.tmp 4, .tmp 5]) (by kernel_rfl) ?_
      repeat' ((conv => whnf); first | refine Rng.g ?_ | refine Ob.g ?_ | refine Ob.e ?_ | refine Ob.m ?_ | refine Ob.mk (Nat.le_of_ble_eq_true rfl) ?_ | refine JoinVC.on ?_ | refine Nils.mk (fun h => ?_) ?_ | refine Val.t ?_ | refine Val.d ?_ | refine Mm.mk ?_ | (refine Br.mk (fun h => ?_) (fun h => ?_) <;> first | (exfalso; omega; done) | (exfalso; simp at h; done) | skip))
      conv => whnf
      refine CallVC.mk [] _ _ _ rfl rfl rfl (s36 T l hI) (fun r m' h' => ?_)
      obtain ⟨e, rfl, rfl, he⟩ := h'
      conv => whnf
      cases he.2 hP
      repeat' ((conv => whnf); first | refine Rng.g ?_ | refine Ob.g ?_ | refine Ob.e ?_ | refine Ob.m ?_ | refine Ob.mk (Nat.le_of_ble_eq_true rfl) ?_ | refine JoinVC.on ?_ | refine Nils.mk (fun h => ?_) ?_ | refine Val.t ?_ | refine Val.d ?_ | refine Mm.mk ?_ | (refine Br.mk (fun h => ?_) (fun h => ?_) <;> first | (exfalso; omega; done) | (exfalso; simp at h; done) | skip))
      conv => whnf
      refine CallVC.mk [] _ _ _ rfl rfl rfl (s37 T l hI hP) (fun r m' h' => ?_)
      obtain ⟨rfl, rfl⟩ := h'
      conv => whnf
      repeat' ((conv => whnf); first | refine Rng.g ?_ | refine Ob.g ?_ | refine Ob.e ?_ | refine Ob.m ?_ | refine Ob.mk (Nat.le_of_ble_eq_true rfl) ?_ | refine JoinVC.on ?_ | refine Nils.mk (fun h => ?_) ?_ | refine Val.t ?_ | refine Val.d ?_ | refine Mm.mk ?_ | (refine Br.mk (fun h => ?_) (fun h => ?_) <;> first | (exfalso; omega; done) | (exfalso; simp at h; done) | skip))
      · repeat refine Mm.mk ?_
        conv => whnf
        refine EndVC.mk _ rfl _ _ (.no (fun h2 => by have := h2.stop; omega) rfl rfl) ?_
        refine ⟨[], rfl, rfl, ?_, ?_⟩ <;> repeat' (first | exact trivial | exact rfl | exact Iff.rfl | apply And.intro)
        exact id
      · have h200 : endP l ≤ 200 := by omega
        conv => whnf
        refine CallVC.mk [] _ _ _ rfl rfl rfl (s98 T l hI hP) (fun r m' h' => ?_)
        rcases h' with ⟨h1, rfl, rfl⟩ | ⟨h1, rfl, rfl⟩
        · repeat' ((conv => whnf); first | refine Rng.g ?_ | refine Ob.g ?_ | refine Ob.e ?_ | refine Ob.m ?_ | refine Ob.mk (Nat.le_of_ble_eq_true rfl) ?_ | refine JoinVC.on ?_ | refine Nils.mk (fun h => ?_) ?_ | refine Val.t ?_ | refine Val.d ?_ | refine Mm.mk ?_ | (refine Br.mk (fun h => ?_) (fun h => ?_) <;> first | (exfalso; omega; done) | (exfalso; simp at h; done) | skip))
          repeat refine Mm.mk ?_
          conv => whnf
          refine EndVC.mk _ rfl _ _ (.yes ⟨h6, hP, h200, h1⟩ rfl rfl) ?_
          refine ⟨[some 1], rfl, rfl, ?_, ?_⟩ <;> repeat' (first | exact trivial | exact rfl | exact Iff.rfl | apply And.intro)
          exact ⟨fun _ => trivial, fun _ => rfl⟩
        · repeat' ((conv => whnf); first | refine Rng.g ?_ | refine Ob.g ?_ | refine Ob.e ?_ | refine Ob.m ?_ | refine Ob.mk (Nat.le_of_ble_eq_true rfl) ?_ | refine JoinVC.on ?_ | refine Nils.mk (fun h => ?_) ?_ | refine Val.t ?_ | refine Val.d ?_ | refine Mm.mk ?_ | (refine Br.mk (fun h => ?_) (fun h => ?_) <;> first | (exfalso; omega; done) | (exfalso; simp at h; done) | skip))
          repeat refine Mm.mk ?_
          conv => whnf
          refine EndVC.mk _ rfl _ _ (.no (fun h2 => h1 h2.good) rfl rfl) ?_
          refine ⟨[], rfl, rfl, ?_, ?_⟩ <;> repeat' (first | exact trivial | exact rfl | exact Iff.rfl | apply And.intro)
          exact ⟨fun h2 => absurd h2 (by decide), fun h2 => h2.elim⟩
    · refine spec_of pMix (O := []) Tryz.func22 (c := bodyOf Tryz.f22) rfl (by kernel_rfl) (by kernel_rfl) Tryz.ntmps22 (res := [.tmp 4, .tmp 5]) (by kernel_rfl) ?_
      repeat' ((conv => whnf); first | refine Rng.g ?_ | refine Ob.g ?_ | refine Ob.e ?_ | refine Ob.m ?_ | refine Ob.mk (Nat.le_of_ble_eq_true rfl) ?_ | refine JoinVC.on ?_ | refine Nils.mk (fun h => ?_) ?_ | refine Val.t ?_ | refine Val.d ?_ | refine Mm.mk ?_ | (refine Br.mk (fun h => ?_) (fun h => ?_) <;> first | (exfalso; omega; done) | (exfalso; simp at h; done) | skip))
      conv => whnf
      refine CallVC.mk [] _ _ _ rfl rfl rfl (s36 T l hI) (fun r m' h' => ?_)
      obtain ⟨e, rfl, rfl, he⟩ := h'
      conv => whnf
      have he0 : e ≠ 0 := fun h0 => hP (he.1 h0)
      repeat' ((conv => whnf); first | refine Rng.g ?_ | refine Ob.g ?_ | refine Ob.e ?_ | refine Ob.m ?_ | refine Ob.mk (Nat.le_of_ble_eq_true rfl) ?_ | refine JoinVC.on ?_ | refine Nils.mk (fun h => ?_) ?_ | refine Val.t ?_ | refine Val.d ?_ | refine Mm.mk ?_ | (refine Br.mk (fun h => ?_) (fun h => ?_) <;> first | (exfalso; omega; done) | (exfalso; simp at h; done) | skip))
      repeat refine Mm.mk ?_
      conv => whnf
      refine EndVC.mk _ rfl _ _ (.no (fun h2 => hP h2.ok) rfl rfl) ?_
      refine ⟨[], rfl, rfl, ?_, ?_⟩ <;> repeat' (first | exact trivial | exact rfl | exact Iff.rfl | apply And.intro)
      exact id
  · refine spec_of pMix (O := []) Tryz.func22 (c := bodyOf Tryz.f22) rfl (by kernel_rfl) (by kernel_rfl) Tryz.ntmps22 (res := [.tmp 4, .tmp 5]) (by kernel_rfl) ?_
    repeat' ((conv => whnf); first | refine Rng.g ?_ | refine Ob.g ?_ | refine Ob.e ?_ | refine Ob.m ?_ | refine Ob.mk (Nat.le_of_ble_eq_true rfl) ?_ | refine JoinVC.on ?_ | refine Nils.mk (fun h => ?_) ?_ | refine Val.t ?_ | refine Val.d ?_ | refine Mm.mk ?_ | (refine Br.mk (fun h => ?_) (fun h => ?_) <;> first | (exfalso; omega; done) | (exfalso; simp at h; done) | skip))
    repeat refine Mm.mk ?_
    conv => whnf
    refine EndVC.mk _ rfl _ _ (.no (fun h2 => h6 h2.len) rfl rfl) ?_
    refine ⟨[], rfl, rfl, ?_, ?_⟩ <;> repeat' (first | exact trivial | exact rfl | exact Iff.rfl | apply And.intro)
    exact id
end Go.Sx

namespace Go.Sx
open Go Go.Proofs
set_option maxRecDepth 10000
set_option maxHeartbeats 4000000
def c3 : Cut := ⟨400, 2000, 200, 2000, 1000, 1000, 100⟩
def l3 : List Smp := [⟨0, 0⟩, ⟨100, 100⟩, ⟨0, 0⟩]
theorem c3_ok : CutOK c3 := by constructor <;> decide
theorem all_lt {p : Nat → Prop} (n : Nat) [DecidablePred p] (h : ((List.range n).all fun j => decide (p j)) = true) : ∀ j, j < n → p j := fun j hj => of_decide_eq_true (List.all_eq_true.1 h j (List.mem_range.2 hj))
instance (s : Smp) : Decidable (s.ok) := by unfold Smp.ok; exact inferInstance
theorem l3_ok : SmpsOK l3 := ⟨by decide, all_lt 3 (by decide)⟩
theorem g3_ok : PtsOK (cutF c3 l3) := ⟨by decide, all_lt 3 (by decide)⟩
def t3 : Trk := ⟨c3, cutF c3 l3, 0, 1000⟩
theorem t3_yes : pL t3 31831 := all_lt 3 (by decide +kernel)
theorem t3_no : ¬ pN t3 0 31830 ∨ ¬ pN t3 1 31830 ∨ ¬ pN t3 2 31830 := by decide +kernel
theorem t3_least {k : Int} (hk : Least (pL t3) 4194305 k) : k = 31831 := by
  have h1 : ¬ 31831 < k := fun h => hk.no 31831 (by decide) h t3_yes
  have h2 : ¬ k ≤ 31830 := fun h => by
    have h3 := (hk.yes (by omega)).mono (t := t3) c3_ok (by decide) hk.rng.1 h
    rcases t3_no with h4 | h4 | h4
    · exact h4 (h3 0 (by decide))
    · exact h4 (h3 1 (by decide))
    · exact h4 (h3 2 (by decide))
  omega
/-! ### The curve of the example -/
def v3 : Crv := ⟨[64], [128], 256⟩
def x3 : List Int := [100, 0, 0, -3]
theorem v3_ok : CrvOK v3 := by
  refine ⟨⟨by decide, fun j => ?_⟩, ⟨by decide, fun j => ?_⟩, by decide⟩
  · match j with
    | 0 => decide
    | j + 1 => show -4096 ≤ (0 : Int) ∧ (0 : Int) ≤ 4096; decide
  · match j with
    | 0 => decide
    | j + 1 => show -4096 ≤ (0 : Int) ∧ (0 : Int) ≤ 4096; decide
theorem x3_ok : SigOK x3 := by
  refine ⟨by decide, fun j => ?_⟩
  match j with
  | 0 => decide
  | 1 => decide
  | 2 => decide
  | 3 => decide
  | j + 4 => show -32767 ≤ (0 : Int) ∧ (0 : Int) ≤ 32767; decide
theorem nextY_take (u : Bool) (c : Crv) (xs zs : List Int) (n i : Nat) (h : i ≤ n) : nextY u c xs (zs.take n) i = nextY u c xs zs i := by
  unfold nextY hiF hoF
  rw [List.take_take, Nat.min_eq_left h]
theorem Filt.uniq {u : Bool} {c : Crv} {most : Int} {xs ys zs : List Int} (hy : Filt u c most xs ys) (hz : Filt u c most xs zs) (hl : ys.length ≤ zs.length) : ys = zs.take ys.length := by
  have key : ∀ n, n ≤ ys.length → ys.take n = zs.take n := by
    intro n
    induction n with
    | zero => intro _; rfl
    | succ n ih =>
      intro hn
      rw [take_snoc ys n 0 (by omega), take_snoc zs n 0 (by omega), ih (by omega), (hy.each n (by omega)).1, (hz.each n (by omega)).1, ← nextY_take u c xs ys n n (Nat.le_refl _), ih (by omega), nextY_take u c xs zs n n (Nat.le_refl _)]
  have := key ys.length (Nat.le_refl _)
  rwa [List.take_length] at this
theorem Filt.same {u : Bool} {c : Crv} {most : Int} {xs ys zs : List Int} (hy : Filt u c most xs ys) (hz : Filt u c most xs zs) (h1 : ys.length = xs.length) (h2 : zs.length = xs.length) : ys = zs := by
  have := hy.uniq hz (by omega)
  rwa [List.take_of_length_le (by omega)] at this
theorem Filt.no_far {u : Bool} {c : Crv} {most : Int} {xs ys zs : List Int} (hy : Filt u c most xs ys) (h1 : ys.length < xs.length) (hb : bey (nextY u c xs ys ys.length) most) (hz : Filt u c most xs zs) (h2 : zs.length = xs.length) : False := by
  have e := hy.uniq hz (by omega)
  have h3 := hz.each ys.length (by omega)
  rw [e, List.length_take, Nat.min_eq_left (by omega), nextY_take _ _ _ _ _ _ (Nat.le_refl _), ← h3.1] at hb
  exact h3.2 hb
def y3 : List Int := [nextY false v3 x3 [] 0, nextY false v3 x3 [100] 1, nextY false v3 x3 [100, 75] 2, nextY false v3 x3 [100, 75, 37] 3]
instance (n m : Int) : Decidable (bey n m) := by unfold bey; exact inferInstance
theorem y3_filt : Filt false v3 32767 x3 y3 := ⟨by decide, all_lt 4 (by decide)⟩
theorem y3_1 : y3.getD 1 0 = 75 := by decide
/-! ### The programme of the example -/
def T3 : List Tak := [⟨⟨#[97]⟩, [⟨10, -10⟩, ⟨5, 0⟩]⟩]
def p3 : List Prt := [⟨0, 0, 2, 0, 0, 0, 500⟩]
theorem T3_name : nameOK ⟨#[97]⟩ := ⟨by decide, by decide, fun j hj => by
  have : j = 0 := by
    have : j < 1 := hj
    omega
  subst this
  exact .inl (by decide)⟩
theorem T3_ok : TaksOK T3 := by
  refine ⟨by decide, fun j hj => ?_, fun i j hi hj => ?_⟩
  · have : j = 0 := by
      have : j < 1 := hj
      omega
    subst this
    exact ⟨T3_name, by decide, by decide, by decide⟩
  · have : i < 1 := hi
    omega
theorem p3_ok : ProgOK T3 p3 := by
  refine ⟨T3_ok, by decide, fun j hj => ?_, ⟨fun _ => by decide, fun i h1 h2 => ?_, fun i h1 h2 => ?_, by decide⟩⟩
  · have : j = 0 := by
      have : j < 1 := hj
      omega
    subst this
    decide
  · have : i < 1 := h2
    omega
  · have : i < 1 := h2
    omega
theorem r3_ok : smpE (rend T3 p3) = 0 := (smpE_iff _).2 ⟨by decide, all_lt 2 (by decide +kernel)⟩
theorem s25 : PSpec Tryz.prog 25 [] (xP True) := by
  refine spec_of pMix (O := []) Tryz.func25 (c := bodyOf Tryz.f25) rfl (by kernel_rfl) (by kernel_rfl) Tryz.ntmps25 (res := [.tmp 0]) (by kernel_rfl) ?_
  repeat' ((conv => whnf); first | refine Rng.g ?_ | refine Ob.g ?_ | refine Ob.e ?_ | refine Ob.m ?_ | refine Ob.mk (Nat.le_of_ble_eq_true rfl) ?_ | refine JoinVC.on ?_ | refine Nils.mk (fun h => ?_) ?_ | refine Val.t ?_ | refine Val.d ?_ | refine Mm.mk ?_ | (refine Br.mk (fun h => ?_) (fun h => ?_) <;> first | (exfalso; omega; done) | (exfalso; simp at h; done) | skip))
  conv => whnf
  refine CallVC.mk [] _ _ _ rfl rfl rfl (s30 c3 l3) (fun r m' h' => ?_)
  cases h' with
  | bad e h he hr hm => exact absurd ⟨c3_ok, l3_ok⟩ h
  | ok hC hl hr hm =>
    subst hr hm
    repeat' ((conv => whnf); first | refine Rng.g ?_ | refine Ob.g ?_ | refine Ob.e ?_ | refine Ob.m ?_ | refine Ob.mk (Nat.le_of_ble_eq_true rfl) ?_ | refine JoinVC.on ?_ | refine Nils.mk (fun h => ?_) ?_ | refine Val.t ?_ | refine Val.d ?_ | refine Mm.mk ?_ | (refine Br.mk (fun h => ?_) (fun h => ?_) <;> first | (exfalso; omega; done) | (exfalso; simp at h; done) | skip))
    conv => whnf
    refine CallVC.mk [] _ _ _ rfl rfl rfl (s35 c3 (cutF c3 l3) 1000) (fun r m' h' => ?_)
    cases h' with
    | bad e h he hr hm => exact absurd ⟨c3_ok, g3_ok, by decide⟩ h
    | none ht h hr hm => exact absurd (t3_yes.mono (t := t3) c3_ok (by decide) (by decide) (by decide)) h
    | ok ht k hk hk' hr hm =>
      have hk3 := t3_least hk
      subst hk3 hr hm
      repeat' ((conv => whnf); first | refine Rng.g ?_ | refine Ob.g ?_ | refine Ob.e ?_ | refine Ob.m ?_ | refine Ob.mk (Nat.le_of_ble_eq_true rfl) ?_ | refine JoinVC.on ?_ | refine Nils.mk (fun h => ?_) ?_ | refine Val.t ?_ | refine Val.d ?_ | refine Mm.mk ?_ | (refine Br.mk (fun h => ?_) (fun h => ?_) <;> first | (exfalso; omega; done) | (exfalso; simp at h; done) | skip))
      conv => whnf
      refine CallVC.mk [] _ _ _ rfl rfl rfl (s49 v3 x3) (fun r m' h' => ?_)
      cases h' with
      | bad e h he hr hm => exact absurd ⟨v3_ok, x3_ok⟩ h
      | far hl hx ys h hs hb hr hm => exact (h.no_far hs hb y3_filt rfl).elim
      | ok hl hx ys h hs hr hm =>
        have hy := h.same y3_filt hs rfl
        subst hy hr hm
        repeat' ((conv => whnf); first | refine Rng.g ?_ | refine Ob.g ?_ | refine Ob.e ?_ | refine Ob.m ?_ | refine Ob.mk (Nat.le_of_ble_eq_true rfl) ?_ | refine JoinVC.on ?_ | refine Nils.mk (fun h => ?_) ?_ | refine Val.t ?_ | refine Val.d ?_ | refine Mm.mk ?_ | (refine Br.mk (fun h => ?_) (fun h => ?_) <;> first | (exfalso; omega; done) | (exfalso; simp at h; done) | skip))
        conv => whnf
        refine CallVC.mk [] _ _ _ rfl rfl rfl (s26 T3 p3 p3_ok) (fun r m' h' => ?_)
        rcases h' with ⟨h1, rfl, rfl⟩ | ⟨h1, rfl, rfl⟩
        · have q1 : (List.length (smpA (cutF c3 l3)) : Int) = 3 := by decide
          have q2 : rI (smpA (cutF c3 l3)) (Int.toNat 1) 0 = -200 := by decide
          have q3 : rI (smpA (cutF c3 l3)) (Int.toNat 1) (0 + 1) = 600 := by decide
          have q4 : (List.length (i64s y3) : Int) = 4 := by decide
          have q5 : rI (i64s y3) (Int.toNat 1) 0 = 75 := by decide
          have q6 : (List.length (smpA (rend T3 p3)) : Int) = 2 := by decide
          have q7 : rI (smpA (rend T3 p3)) (Int.toNat 0) 0 = 5 := by decide +kernel
          have q8 : rI (smpA (rend T3 p3)) (Int.toNat 0) (0 + 1) = -5 := by decide +kernel
          repeat' ((conv => whnf); first | refine Rng.g ?_ | refine Ob.g ?_ | refine Ob.e ?_ | refine Ob.m ?_ | refine Ob.mk (Nat.le_of_ble_eq_true rfl) ?_ | refine JoinVC.on ?_ | refine Nils.mk (fun h => ?_) ?_ | refine Val.t ?_ | refine Val.d ?_ | refine Mm.mk ?_ | (refine Br.mk (fun h => ?_) (fun h => ?_) <;> first | (exfalso; omega; done) | (exfalso; simp at h; done) | skip))
          all_goals first
            | exact absurd ⟨q2, q3, trivial⟩ h
            | exact absurd ⟨q7, q8, trivial⟩ h
            | skip
          repeat refine Mm.mk ?_
          refine EndVC.mk _ rfl _ _ ⟨rfl, rfl⟩ ?_
          refine ⟨[], rfl, rfl, ?_, ?_⟩ <;> repeat' (first | exact trivial | exact rfl | exact Iff.rfl | apply And.intro)
          exact ⟨fun _ => trivial, fun _ => ⟨q7, q8, trivial⟩⟩
        · exact absurd r3_ok h1
end Go.Sx

namespace Go.Sx
open Go Go.Proofs
set_option maxRecDepth 10000
set_option maxHeartbeats 8000000
open Classical in
theorem s144 (f : Fmt) (l : List Sng) (O : List Int) (hf : FmtOK f) (hg : SngsOK l) (hO : InR O l.length) (hl : O.length ≤ 100) : HSpec Tryz.prog 144 [.one (.ptr 0 0), .one (.lst true [.int .i64] (i64s O))] [bPl f l] (fun r m' => r = xP (LayOK f l O) ∧ m' = [some (bPl f l)]) := by
  refine spec_of pMix (O := []) Tryz.func144 (c := bodyOf Tryz.f144) rfl (by kernel_rfl) (by kernel_rfl) Tryz.ntmps144 (res := [.tmp 4]) (by kernel_rfl) ?_
  repeat' ((conv => whnf); first | refine Rng.g ?_ | refine Ob.g ?_ | refine Ob.e ?_ | refine Ob.m ?_ | refine Ob.mk (Nat.le_of_ble_eq_true rfl) ?_ | refine JoinVC.on ?_ | refine Nils.mk (fun h => ?_) ?_ | refine Val.t ?_ | refine Val.d ?_ | refine Mm.mk ?_ | (refine Br.mk (fun h => ?_) (fun h => ?_) <;> first | (exfalso; omega; done) | (exfalso; simp at h; done) | skip))
  conv => whnf
  refine CallVC.mk [0] _ _ _ rfl rfl rfl (s146 f l O hf hg hO hl) (fun r m' h' => ?_)
  cases h' with
  | rule i hi h hn hr hm =>
    subst hr hm
    repeat' ((conv => whnf); first | refine Rng.g ?_ | refine Ob.g ?_ | refine Ob.e ?_ | refine Ob.m ?_ | refine Ob.mk (Nat.le_of_ble_eq_true rfl) ?_ | refine JoinVC.on ?_ | refine Nils.mk (fun h => ?_) ?_ | refine Val.t ?_ | refine Val.d ?_ | refine Mm.mk ?_ | (refine Br.mk (fun h => ?_) (fun h => ?_) <;> first | (exfalso; omega; done) | (exfalso; simp at h; done) | skip))
    repeat refine Mm.mk ?_
    refine EndVC.mk _ rfl _ _ ⟨rfl, rfl⟩ ?_
    refine ⟨[some 0], rfl, rfl, ?_, ?_⟩ <;> repeat' (first | exact trivial | exact rfl | exact Iff.rfl | apply And.intro)
    show _ ↔ _
    exact ⟨fun h1 => absurd h1 (by decide), fun h1 => absurd (h1.1 i hi) hn⟩
  | limit h hn hr hm =>
    subst hr hm
    repeat' ((conv => whnf); first | refine Rng.g ?_ | refine Ob.g ?_ | refine Ob.e ?_ | refine Ob.m ?_ | refine Ob.mk (Nat.le_of_ble_eq_true rfl) ?_ | refine JoinVC.on ?_ | refine Nils.mk (fun h => ?_) ?_ | refine Val.t ?_ | refine Val.d ?_ | refine Mm.mk ?_ | (refine Br.mk (fun h => ?_) (fun h => ?_) <;> first | (exfalso; omega; done) | (exfalso; simp at h; done) | skip))
    repeat refine Mm.mk ?_
    refine EndVC.mk _ rfl _ _ ⟨rfl, rfl⟩ ?_
    refine ⟨[some 0], rfl, rfl, ?_, ?_⟩ <;> repeat' (first | exact trivial | exact rfl | exact Iff.rfl | apply And.intro)
    show _ ↔ _
    exact ⟨fun h1 => absurd h1 (by decide), fun h1 => absurd h1 hn⟩
  | ok h hr hm =>
    subst hr hm
    repeat' ((conv => whnf); first | refine Rng.g ?_ | refine Ob.g ?_ | refine Ob.e ?_ | refine Ob.m ?_ | refine Ob.mk (Nat.le_of_ble_eq_true rfl) ?_ | refine JoinVC.on ?_ | refine Nils.mk (fun h => ?_) ?_ | refine Val.t ?_ | refine Val.d ?_ | refine Mm.mk ?_ | (refine Br.mk (fun h => ?_) (fun h => ?_) <;> first | (exfalso; omega; done) | (exfalso; simp at h; done) | skip))
    repeat refine Mm.mk ?_
    refine EndVC.mk _ rfl _ _ ⟨rfl, rfl⟩ ?_
    refine ⟨[some 0], rfl, rfl, ?_, ?_⟩ <;> repeat' (first | exact trivial | exact rfl | exact Iff.rfl | apply And.intro)
    show _ ↔ _
    exact ⟨fun _ => h, fun _ => rfl⟩
inductive ArRs (f : Fmt) (l : List Sng) (r : AV) (m' : List (Option Blk)) : Prop
  | bad (e : Int) (h : ¬ (FmtOK f ∧ SngsOK l)) (he : e ≠ 0) (hr : r = .tup [.one .nils, I e]) (hm : m' = [])
  | none (hf : FmtOK f) (hg : SngsOK l) (hn : ¬ LayOK f l (allO l)) (hr : r = .tup [.one .nils, I 15]) (hm : m' = [])
  | ok (hf : FmtOK f) (hg : SngsOK l) (h : LayOK f l (allO l)) (hr : r = .tup [.one (.own 0), I 0]) (hm : m' = [some (rowOd (allO l))])
theorem allO_in (l : List Sng) : InR (allO l) l.length := fun i hi => (allO_idx l).rng i (by rw [(allO_idx l).len] at hi; exact hi)
theorem s59 (f : Fmt) (l : List Sng) (hI : f.nm.size ≤ 140737488355328) (hl : l.length ≤ 12) : HSpec Tryz.prog 59 [f.x, lSng l] [] (ArRs f l) := by
  refine spec_of pMix (O := []) Tryz.func59 (c := bodyOf Tryz.f59) rfl (by kernel_rfl) (by kernel_rfl) Tryz.ntmps59 (res := [.tmp 4, .tmp 5]) (by kernel_rfl) ?_
  repeat' ((conv => whnf); first | refine Rng.g ?_ | refine Ob.g ?_ | refine Ob.e ?_ | refine Ob.m ?_ | refine Ob.mk (Nat.le_of_ble_eq_true rfl) ?_ | refine JoinVC.on ?_ | refine Nils.mk (fun h => ?_) ?_ | refine Val.t ?_ | refine Val.d ?_ | refine Mm.mk ?_ | (refine Br.mk (fun h => ?_) (fun h => ?_) <;> first | (exfalso; omega; done) | (exfalso; simp at h; done) | skip))
  conv => whnf
  refine CallVC.mk [] _ _ _ rfl rfl rfl (s138 f l hI) (fun r m' h' => ?_)
  rcases h' with ⟨e, hn, he, rfl, rfl⟩ | ⟨hf, hg, rfl, rfl⟩
  · repeat' ((conv => whnf); first | refine Rng.g ?_ | refine Ob.g ?_ | refine Ob.e ?_ | refine Ob.m ?_ | refine Ob.mk (Nat.le_of_ble_eq_true rfl) ?_ | refine JoinVC.on ?_ | refine Nils.mk (fun h => ?_) ?_ | refine Val.t ?_ | refine Val.d ?_ | refine Mm.mk ?_ | (refine Br.mk (fun h => ?_) (fun h => ?_) <;> first | (exfalso; omega; done) | (exfalso; simp at h; done) | skip))
    repeat refine Mm.mk ?_
    conv => whnf
    refine EndVC.mk _ rfl _ _ (.bad e hn he rfl rfl) ?_
    refine ⟨[], rfl, rfl, ?_, ?_⟩ <;> repeat' (first | exact trivial | exact rfl | exact Iff.rfl | apply And.intro)
  · repeat' ((conv => whnf); first | refine Rng.g ?_ | refine Ob.g ?_ | refine Ob.e ?_ | refine Ob.m ?_ | refine Ob.mk (Nat.le_of_ble_eq_true rfl) ?_ | refine JoinVC.on ?_ | refine Nils.mk (fun h => ?_) ?_ | refine Val.t ?_ | refine Val.d ?_ | refine Mm.mk ?_ | (refine Br.mk (fun h => ?_) (fun h => ?_) <;> first | (exfalso; omega; done) | (exfalso; simp at h; done) | skip))
    conv => whnf
    refine CallVC.mk [1] _ _ _ rfl rfl rfl (s143 f l hl) (fun r m' h' => ?_)
    obtain ⟨rfl, rfl⟩ := h'
    conv => whnf
    repeat' ((conv => whnf); first | refine Rng.g ?_ | refine Ob.g ?_ | refine Ob.e ?_ | refine Ob.m ?_ | refine Ob.mk (Nat.le_of_ble_eq_true rfl) ?_ | refine JoinVC.on ?_ | refine Nils.mk (fun h => ?_) ?_ | refine Val.t ?_ | refine Val.d ?_ | refine Mm.mk ?_ | (refine Br.mk (fun h => ?_) (fun h => ?_) <;> first | (exfalso; omega; done) | (exfalso; simp at h; done) | skip))
    conv => whnf
    refine CallVC.mk [1] _ _ _ rfl rfl rfl (s144 f l (allO l) hf hg (allO_in l) (by rw [(allO_idx l).len]; omega)) (fun r m' h' => ?_)
    obtain ⟨rfl, rfl⟩ := h'
    conv => whnf
    repeat' ((conv => whnf); first | refine Rng.g ?_ | refine Ob.g ?_ | refine Ob.e ?_ | refine Ob.m ?_ | refine Ob.mk (Nat.le_of_ble_eq_true rfl) ?_ | refine JoinVC.on ?_ | refine Nils.mk (fun h => ?_) ?_ | refine Val.t ?_ | refine Val.d ?_ | refine Mm.mk ?_ | (refine Br.mk (fun h => ?_) (fun h => ?_) <;> first | (exfalso; omega; done) | (exfalso; simp at h; done) | skip))
    · repeat refine Mm.mk ?_
      conv => whnf
      refine EndVC.mk _ rfl _ _ (.ok hf hg h rfl rfl) ?_
      refine ⟨[some 2], rfl, rfl, ?_, ?_⟩ <;> repeat' (first | exact trivial | exact rfl | exact Iff.rfl | apply And.intro)
    · repeat refine Mm.mk ?_
      conv => whnf
      refine EndVC.mk _ rfl _ _ (.none hf hg h rfl rfl) ?_
      refine ⟨[], rfl, rfl, ?_, ?_⟩ <;> repeat' (first | exact trivial | exact rfl | exact Iff.rfl | apply And.intro)
/-! ### An order is laid -/
theorem s232 (xs : List Int) (v : Int) (hl : xs.length ≤ 1000000) (hn : ∀ j, j < xs.length → xs.getD j 0 ≠ v) : PSpec Tryz.prog 232 [.one (.lst true [.int .i64] (i64s xs)), I v] (.x (I (-1))) := by
  have lo := i64s_len xs
  refine spec_of pMix (O := []) Tryz.func232 (c := bodyOf Tryz.f232) rfl (by kernel_rfl) (by kernel_rfl) Tryz.ntmps232 (res := [.tmp 4]) (by kernel_rfl) ?_
  repeat' ((conv => whnf); first | refine Rng.g ?_ | refine Ob.g ?_ | refine Ob.e ?_ | refine Ob.m ?_ | refine Ob.mk (Nat.le_of_ble_eq_true rfl) ?_ | refine JoinVC.on ?_ | refine Nils.mk (fun h => ?_) ?_ | refine Val.t ?_ | refine Val.d ?_ | refine Mm.mk ?_ | (refine Br.mk (fun h => ?_) (fun h => ?_) <;> first | (exfalso; omega; done) | (exfalso; simp at h; done) | skip))
  refine LoopVC.mk (fun n st => ∃ (i : Nat), i ≤ xs.length ∧ n = xs.length - i ∧ st = ⟨0, envA 19 [(0, .x (.one (.lst true [.int .i64] (i64s xs)))), (1, .x (I v)), (6, .x (.one (.lst true [.int .i64] (i64s xs)))), (7, .int .i64 (xs.length : Int)), (8, .int .i64 (i : Int))], []⟩) _ _ ⟨0, Nat.zero_le _, rfl, rfl⟩ ?_ ?_
  · refine ⟨[], rfl, rfl, ?_, ?_⟩ <;> repeat' (first | exact trivial | exact rfl | exact Iff.rfl | apply And.intro)
    all_goals exact congrArg Int.ofNat lo
  rintro n _ ⟨i, hi, hm, rfl⟩
  have gi : rI (i64s xs) (i : Int).toNat 0 = xs.getD i 0 := by rw [Int.toNat_natCast]; exact i64s_get xs i
  by_cases hi' : i < xs.length
  · have hni := hn i hi'
    repeat' ((conv => whnf); first | rw [gi] | refine Rng.g ?_ | refine Ob.g ?_ | refine Ob.e ?_ | refine Ob.m ?_ | refine Ob.mk (Nat.le_of_ble_eq_true rfl) ?_ | refine JoinVC.on ?_ | refine Nils.mk (fun h => ?_) ?_ | refine Val.t ?_ | refine Val.d ?_ | refine Mm.mk ?_ | (refine Br.mk (fun h => ?_) (fun h => ?_) <;> first | (exfalso; omega; done) | (exfalso; simp at h; done) | skip))
    refine Back.mk (xs.length - (i + 1)) _ (by omega) ⟨i + 1, by omega, rfl, rfl⟩ ?_
    refine ⟨[], rfl, rfl, ?_, ?_⟩ <;> repeat' (first | exact trivial | exact rfl | exact Iff.rfl | apply And.intro)
  · repeat' ((conv => whnf); first | refine Rng.g ?_ | refine Ob.g ?_ | refine Ob.e ?_ | refine Ob.m ?_ | refine Ob.mk (Nat.le_of_ble_eq_true rfl) ?_ | refine JoinVC.on ?_ | refine Nils.mk (fun h => ?_) ?_ | refine Val.t ?_ | refine Val.d ?_ | refine Mm.mk ?_ | (refine Br.mk (fun h => ?_) (fun h => ?_) <;> first | (exfalso; omega; done) | (exfalso; simp at h; done) | skip))
    repeat refine Mm.mk ?_
    refine EndVC.mk _ rfl _ _ ⟨rfl, rfl⟩ ?_
    refine ⟨[], rfl, rfl, ?_, ?_⟩ <;> repeat' (first | exact trivial | exact rfl | exact Iff.rfl | apply And.intro)
open Classical in
theorem s145 (xs : List Int) (v : Int) (hl : xs.length ≤ 1000000) (hn : ∀ j, j < xs.length → xs.getD j 0 ≠ v) : PSpec Tryz.prog 145 [.one (.lst true [.int .i64] (i64s xs)), I v] (xP False) := by
  refine spec_of pMix (O := []) Tryz.func145 (c := bodyOf Tryz.f145) rfl (by kernel_rfl) (by kernel_rfl) Tryz.ntmps145 (res := [.tmp 4]) (by kernel_rfl) ?_
  repeat' ((conv => whnf); first | refine Rng.g ?_ | refine Ob.g ?_ | refine Ob.e ?_ | refine Ob.m ?_ | refine Ob.mk (Nat.le_of_ble_eq_true rfl) ?_ | refine JoinVC.on ?_ | refine Nils.mk (fun h => ?_) ?_ | refine Val.t ?_ | refine Val.d ?_ | refine Mm.mk ?_ | refine CallVC.pure rfl (s232 xs v hl hn) ?_ | refine CallVC0.pure rfl (s232 xs v hl hn) ?_ | (refine Br.mk (fun h => ?_) (fun h => ?_) <;> first | (exfalso; omega; done) | (exfalso; simp at h; done) | skip))
  repeat refine Mm.mk ?_
  refine EndVC.mk _ rfl _ _ ⟨rfl, rfl⟩ ?_
  refine ⟨[], rfl, rfl, ?_, ?_⟩ <;> repeat' (first | exact trivial | exact rfl | exact Iff.rfl | apply And.intro)
  show _ ↔ _
  exact ⟨fun h => absurd h (by decide), fun h => h.elim⟩
inductive LaRs (f : Fmt) (l : List Sng) (O : List Int) (r : AV) (m' : List (Option Blk)) : Prop
  | rule (i : Nat) (hi : i < O.length) (h : ∀ j, j < i → okAt f l O j) (hn : ¬ okAt f l O i) (hr : r = .tup [.one .nils, I (i : Int), I 20]) (hm : m' = [])
  | limit (h : ∀ j, j < O.length → okAt f l O j) (hn : ¬ LayOK f l O) (hr : r = .tup [.one .nils, I (O.length : Int), I 14]) (hm : m' = [])
  | ok (h : LayOK f l O) (hr : r = .tup [.one (.own 0), I (O.length : Int), I 0]) (hm : m' = [some (rowB (bndA f l O O.length))])
theorem i64s_take (xs : List Int) (k : Nat) : (i64s xs).take k = i64s (xs.take k) := by simp [i64s]
theorem s60 (f : Fmt) (l : List Sng) (O : List Int) (hf : FmtOK f) (hg : SngsOK l) (hO : InR O l.length) (hl : O.length ≤ 100) (hd : ∀ i j, i < O.length → j < O.length → O.getD i 0 = O.getD j 0 → i = j) : HSpec Tryz.prog 60 [f.x, lSng l, .one (.lst true [.int .i64] (i64s O))] [] (LaRs f l O) := by
  have lo := i64s_len O
  have lg := sngA_len l
  have hI : f.nm.size ≤ 140737488355328 := by have := hf.nm.2.1; omega
  refine spec_of pMix (O := []) Tryz.func60 (c := bodyOf Tryz.f60) rfl (by kernel_rfl) (by kernel_rfl) Tryz.ntmps60 (res := [.tmp 6, .tmp 7, .tmp 8]) (by kernel_rfl) ?_
  repeat' ((conv => whnf); first | refine Rng.g ?_ | refine Ob.g ?_ | refine Ob.e ?_ | refine Ob.m ?_ | refine Ob.mk (Nat.le_of_ble_eq_true rfl) ?_ | refine JoinVC.on ?_ | refine Nils.mk (fun h => ?_) ?_ | refine Val.t ?_ | refine Val.d ?_ | refine Mm.mk ?_ | (refine Br.mk (fun h => ?_) (fun h => ?_) <;> first | (exfalso; omega; done) | (exfalso; simp at h; done) | skip))
  conv => whnf
  refine CallVC.mk [] _ _ _ rfl rfl rfl (s138 f l hI) (fun r m' h' => ?_)
  rcases h' with ⟨e, hn, he, rfl, rfl⟩ | ⟨_, _, rfl, rfl⟩
  · exact absurd ⟨hf, hg⟩ hn
  repeat' ((conv => whnf); first | refine Rng.g ?_ | refine Ob.g ?_ | refine Ob.e ?_ | refine Ob.m ?_ | refine Ob.mk (Nat.le_of_ble_eq_true rfl) ?_ | refine JoinVC.on ?_ | refine Nils.mk (fun h => ?_) ?_ | refine Val.t ?_ | refine Val.d ?_ | refine Mm.mk ?_ | (refine Br.mk (fun h => ?_) (fun h => ?_) <;> first | (exfalso; omega; done) | (exfalso; simp at h; done) | skip))
  refine LoopVC.mk (fun n st => ∃ (i : Nat), i ≤ O.length ∧ n = O.length - i ∧ st = ⟨0, envA 51 [(1, .x (lSng l)), (2, .x (.one (.lst true [.int .i64] (i64s O)))), (9, .x (.one (.ptr 0 0))), (22, .x (.one (.lst true [.int .i64] (i64s O)))), (23, .int .i64 (O.length : Int)), (24, .int .i64 (i : Int))], [some (bPl f l)]⟩) _ _ ⟨0, Nat.zero_le _, rfl, rfl⟩ ?_ ?_
  · refine ⟨[some 1], rfl, rfl, ?_, ?_⟩ <;> repeat' (first | exact trivial | exact rfl | exact Iff.rfl | apply And.intro)
    all_goals exact congrArg Int.ofNat lo
  rintro n _ ⟨i, hi, hm, rfl⟩
  have gi : rI (i64s O) (i : Int).toNat 0 = O.getD i 0 := by rw [Int.toNat_natCast]; exact i64s_get O i
  by_cases hi' : i < O.length
  · have hr := hO i hi'
    have cc : PSpec Tryz.prog 145 [.one (.lst true [.int .i64] ((i64s O).take (i : Int).toNat)), I (O.getD i 0)] (xP False) := by
      rw [i64s_take, Int.toNat_natCast]
      refine s145 (O.take i) _ (by rw [List.length_take]; omega) (fun j hj e => ?_)
      rw [List.length_take] at hj
      have e2 : (O.take i).getD j 0 = O.getD j 0 := by simp [List.getD_eq_getElem?_getD, List.getElem?_take, show j < i by omega]
      rw [e2] at e
      have := hd j i (by omega) hi' e
      omega
    repeat' ((conv => whnf); first | rw [gi] | refine Rng.g ?_ | refine Ob.g ?_ | refine Ob.e ?_ | refine Ob.m ?_ | refine Ob.mk (Nat.le_of_ble_eq_true rfl) ?_ | refine JoinVC.on ?_ | refine Nils.mk (fun h => ?_) ?_ | refine Val.t ?_ | refine Val.d ?_ | refine Mm.mk ?_ | refine CallVC.pure rfl (cc) ?_ | refine CallVC0.pure rfl (cc) ?_ | (refine Br.mk (fun h => ?_) (fun h => ?_) <;> first | (exfalso; omega; done) | (exfalso; simp at h; done) | skip))
    refine Back.mk (O.length - (i + 1)) _ (by omega) ⟨i + 1, by omega, rfl, rfl⟩ ?_
    refine ⟨[some 0], rfl, rfl, ?_, ?_⟩ <;> repeat' (first | exact trivial | exact rfl | exact Iff.rfl | apply And.intro)
  · repeat' ((conv => whnf); first | refine Rng.g ?_ | refine Ob.g ?_ | refine Ob.e ?_ | refine Ob.m ?_ | refine Ob.mk (Nat.le_of_ble_eq_true rfl) ?_ | refine JoinVC.on ?_ | refine Nils.mk (fun h => ?_) ?_ | refine Val.t ?_ | refine Val.d ?_ | refine Mm.mk ?_ | (refine Br.mk (fun h => ?_) (fun h => ?_) <;> first | (exfalso; omega; done) | (exfalso; simp at h; done) | skip))
    conv => whnf
    refine CallVC.mk [0] _ _ _ rfl rfl rfl (s146 f l O hf hg hO hl) (fun r m' h' => ?_)
    cases h' with
    | rule i hi h hn hr hm =>
      subst hr hm
      repeat' ((conv => whnf); first | refine Rng.g ?_ | refine Ob.g ?_ | refine Ob.e ?_ | refine Ob.m ?_ | refine Ob.mk (Nat.le_of_ble_eq_true rfl) ?_ | refine JoinVC.on ?_ | refine Nils.mk (fun h => ?_) ?_ | refine Val.t ?_ | refine Val.d ?_ | refine Mm.mk ?_ | (refine Br.mk (fun h => ?_) (fun h => ?_) <;> first | (exfalso; omega; done) | (exfalso; simp at h; done) | skip))
      repeat refine Mm.mk ?_
      conv => whnf
      refine EndVC.mk _ rfl _ _ (.rule i hi h hn rfl rfl) ?_
      refine ⟨[], rfl, rfl, ?_, ?_⟩ <;> repeat' (first | exact trivial | exact rfl | exact Iff.rfl | apply And.intro)
    | limit h hn hr hm =>
      subst hr hm
      repeat' ((conv => whnf); first | refine Rng.g ?_ | refine Ob.g ?_ | refine Ob.e ?_ | refine Ob.m ?_ | refine Ob.mk (Nat.le_of_ble_eq_true rfl) ?_ | refine JoinVC.on ?_ | refine Nils.mk (fun h => ?_) ?_ | refine Val.t ?_ | refine Val.d ?_ | refine Mm.mk ?_ | (refine Br.mk (fun h => ?_) (fun h => ?_) <;> first | (exfalso; omega; done) | (exfalso; simp at h; done) | skip))
      repeat refine Mm.mk ?_
      conv => whnf
      refine EndVC.mk _ rfl _ _ (.limit h hn rfl rfl) ?_
      refine ⟨[], rfl, rfl, ?_, ?_⟩ <;> repeat' (first | exact trivial | exact rfl | exact Iff.rfl | apply And.intro)
    | ok h hr hm =>
      subst hr hm
      repeat' ((conv => whnf); first | refine Rng.g ?_ | refine Ob.g ?_ | refine Ob.e ?_ | refine Ob.m ?_ | refine Ob.mk (Nat.le_of_ble_eq_true rfl) ?_ | refine JoinVC.on ?_ | refine Nils.mk (fun h => ?_) ?_ | refine Val.t ?_ | refine Val.d ?_ | refine Mm.mk ?_ | (refine Br.mk (fun h => ?_) (fun h => ?_) <;> first | (exfalso; omega; done) | (exfalso; simp at h; done) | skip))
      repeat refine Mm.mk ?_
      conv => whnf
      refine EndVC.mk _ rfl _ _ (.ok h rfl rfl) ?_
      refine ⟨[some 1], rfl, rfl, ?_, ?_⟩ <;> repeat' (first | exact trivial | exact rfl | exact Iff.rfl | apply And.intro)
/-! ### The example -/
def f4 : Fmt := ⟨⟨#[102]⟩, 1000, 400, 10, 20, 10, 30, 5⟩
def l4 : List Sng := [⟨95, 20, 500⟩, ⟨30, 40, 800⟩, ⟨41, 10, 0⟩]
theorem f4_name : nameOK ⟨#[102]⟩ := ⟨by decide, by decide, fun j hj => by
  have : j = 0 := by
    have : j < 1 := hj
    omega
  subst this
  exact .inl (by decide)⟩
theorem f4_ok : FmtOK f4 := ⟨f4_name, by decide, by decide, by decide, by decide, by decide, by decide, by decide⟩
theorem l4_ok : SngsOK l4 := ⟨by decide, fun j hj => by
  have hc : j = 0 ∨ j = 1 ∨ j = 2 := by
    have : j < 3 := hj
    omega
  rcases hc with rfl | rfl | rfl <;> (unfold Sng.ok; decide)⟩
theorem allO4 : allO l4 = [1, 0, 2] := by decide
theorem lay4 : LayOK f4 l4 (allO l4) := by
  rw [allO4]
  refine ⟨fun i hi => ?_, by decide⟩
  have hc : i = 0 ∨ i = 1 ∨ i = 2 := by
    have : i < 3 := hi
    omega
  rcases hc with rfl | rfl | rfl <;> (unfold okAt; decide)
theorem s57 : PSpec Tryz.prog 57 [] (xP True) := by
  have hw := s25
  refine spec_of pMix (O := []) Tryz.func57 (c := bodyOf Tryz.f57) rfl (by kernel_rfl) (by kernel_rfl) Tryz.ntmps57 (res := [.tmp 0]) (by kernel_rfl) ?_
  repeat' ((conv => whnf); first | refine Rng.g ?_ | refine Ob.g ?_ | refine Ob.e ?_ | refine Ob.m ?_ | refine Ob.mk (Nat.le_of_ble_eq_true rfl) ?_ | refine JoinVC.on ?_ | refine Nils.mk (fun h => ?_) ?_ | refine Val.t ?_ | refine Val.d ?_ | refine Mm.mk ?_ | (refine Br.mk (fun h => ?_) (fun h => ?_) <;> first | (exfalso; omega; done) | (exfalso; simp at h; done) | skip))
  conv => whnf
  refine CallVC.mk [] _ _ _ rfl rfl rfl (s59 f4 l4 (by decide) (by decide)) (fun r m' h' => ?_)
  cases h' with
  | bad e h he hr hm => exact absurd ⟨f4_ok, l4_ok⟩ h
  | none _ _ hN hr hm => exact absurd lay4 hN
  | ok _ _ _ hr hm =>
    subst hr hm
    rw [allO4]
    repeat' ((conv => whnf); first | refine Rng.g ?_ | refine Ob.g ?_ | refine Ob.e ?_ | refine Ob.m ?_ | refine Ob.mk (Nat.le_of_ble_eq_true rfl) ?_ | refine JoinVC.on ?_ | refine Nils.mk (fun h => ?_) ?_ | refine Val.t ?_ | refine Val.d ?_ | refine Mm.mk ?_ | (refine Br.mk (fun h => ?_) (fun h => ?_) <;> first | (exfalso; omega; done) | (exfalso; simp at h; done) | skip))
    conv => whnf
    refine CallVC.mk [] _ _ _ rfl rfl rfl (s54 f4 ⟨95, 20, 500⟩ (by decide)) (fun r m' h' => ?_)
    cases h' with
    | bad e h he hr hm => exact absurd ⟨f4_ok, (by unfold Sng.ok; decide)⟩ h
    | ok _ _ hr hm =>
      subst hr hm
      have ew : widF f4 ⟨95, 20, 500⟩ = 200 := by decide
      have g0 : rI (i64s [1, 0, 2]) (Int.toNat 0) 0 = 1 := rfl
      have g3 : ((i64s [1, 0, 2]).length : Int) = 3 := rfl
      rw [ew]
      repeat' ((conv => whnf); first | rw [g0] | refine Rng.g ?_ | refine Ob.g ?_ | refine Ob.e ?_ | refine Ob.m ?_ | refine Ob.mk (Nat.le_of_ble_eq_true rfl) ?_ | refine JoinVC.on ?_ | refine Nils.mk (fun h => ?_) ?_ | refine Val.t ?_ | refine Val.d ?_ | refine Mm.mk ?_ | refine CallVC.pure rfl (hw) ?_ | refine CallVC0.pure rfl (hw) ?_ | (refine Br.mk (fun h => ?_) (fun h => ?_) <;> first | (exfalso; omega; done) | (exfalso; simp at h; done) | skip))
      all_goals
        repeat refine Mm.mk ?_
        refine EndVC.mk _ rfl _ _ ⟨rfl, rfl⟩ ?_
        refine ⟨[], rfl, rfl, ?_, ?_⟩ <;> repeat' (first | exact trivial | exact rfl | exact Iff.rfl | apply And.intro)
end Go.Sx

namespace Go.Sx
open Go Go.Proofs
set_option maxRecDepth 10000
set_option maxHeartbeats 4000000
/-! ### What a chain makes can be undone -/
theorem Filt.inv {c : Crv} {m : Int} {xs ys : List Int} (h : Filt false c m xs ys) (hl : ys.length = xs.length) (hx : sigB m xs) : Filt true c m ys xs := by
  refine ⟨by omega, fun j hj => ⟨?_, fun hb => ?_⟩⟩
  · have h1 := (h.each j (by omega)).1
    have e1 : nextY false c xs ys j = xs.getD j 0 + corF c (xs.take j).reverse (ys.take j).reverse := rfl
    have e2 : nextY true c ys xs j = ys.getD j 0 - corF c (xs.take j).reverse (ys.take j).reverse := rfl
    rw [e1] at h1
    rw [e2]
    omega
  · have := hx j
    unfold bey at hb
    omega
theorem ChN.cons {u : Bool} {g : Nat → Crv} {x z : List Int} (h1 : Filt u (g 0) 32767 x z) (h2 : z.length = x.length) : ∀ {n : Nat} {a : List Int}, ChN u (fun i => g (i + 1)) z n a → ChN u g x (n + 1) a
  | 0, _, h => by cases h; exact ⟨x, rfl, h1, h2⟩
  | n + 1, _, ⟨w, hw, hf, hl⟩ => ⟨w, ChN.cons h1 h2 hw, hf, hl⟩
theorem ChN.inv {f : Nat → Crv} {a : List Int} (ha : sigB 32767 a) : ∀ {n : Nat} {x : List Int}, ChN false f a n x → ChN true (fun i => f (n - 1 - i)) x n a
  | 0, _, h => h.symm
  | n + 1, x, ⟨z, hz, hf, hl⟩ => by
    have h1 := hf.inv hl (hz.sig ha)
    have h2 := ChN.inv ha hz
    refine ChN.cons (z := z) (by simpa using h1) hl.symm ?_
    have e : (fun i => f (n + 1 - 1 - (i + 1))) = fun i => f (n - 1 - i) := by
      funext i
      rw [show n + 1 - 1 - (i + 1) = n - 1 - i by omega]
    rw [e]
    exact h2
theorem ChN.uniq {u : Bool} {f : Nat → Crv} {xs : List Int} : ∀ {n : Nat} {ys zs : List Int}, ChN u f xs n ys → ChN u f xs n zs → ys = zs
  | 0, _, _, h1, h2 => by rw [h1, h2]
  | n + 1, _, _, ⟨w, h1, h2, h3⟩, ⟨v, h4, h5, h6⟩ => by
    have e := ChN.uniq h1 h4
    subst e
    exact h2.same h5 h3 h6
theorem ChN.pre {u : Bool} {f : Nat → Crv} {xs : List Int} {i : Nat} : ∀ {n : Nat} {ys : List Int}, ChN u f xs n ys → i ≤ n → ∃ zs, ChN u f xs i zs
  | 0, ys, h, hi => by rw [show i = 0 by omega]; exact ⟨ys, h⟩
  | n + 1, ys, h, hi => by
    by_cases e : i = n + 1
    · rw [e]; exact ⟨ys, h⟩
    · obtain ⟨w, hw, _⟩ := h
      exact ChN.pre hw (by omega)
theorem ChN.no_far {u : Bool} {f : Nat → Crv} {xs ys : List Int} {n : Nat} (h : ChN u f xs n ys) (hf : FarN u f xs n) : False := by
  obtain ⟨i, zs, vs, hi, hc, hv, hl, hb⟩ := hf
  obtain ⟨ws, zs', hz, hw, hwl⟩ := h.pre (i := i + 1) (by omega)
  have e := hc.uniq hz
  subst e
  exact hv.no_far hl hb hw hwl
theorem ChN.back {L : List Crv} {a x : List Int} (ha : sigB 32767 a) (h : ChN false (atC false L) a L.length x) : ChN true (atC true L) x L.length a := h.inv ha
/-! ### A point is read as its sample -/
theorem tdiv_neg_amt {n g : Int} (hg : 0 ≤ g) : amt ((n * g).tdiv 1000) = (amt n * g) / 1000 := by
  by_cases hn : 0 ≤ n
  · have h1 : 0 ≤ n * g := Int.mul_nonneg hn hg
    have h2 : 0 ≤ (n * g) / 1000 := Int.ediv_nonneg h1 (by decide)
    rw [Int.tdiv_eq_ediv_of_nonneg h1]
    have e1 : amt n = n := by unfold amt; rw [if_neg (by omega)]
    rw [e1]
    unfold amt
    rw [if_neg (by omega)]
  · have h1 : 0 ≤ (-n) * g := Int.mul_nonneg (by omega) hg
    have h2 : 0 ≤ ((-n) * g) / 1000 := Int.ediv_nonneg h1 (by decide)
    have e1 : amt n = -n := by unfold amt; rw [if_pos (by omega)]
    have e2 : n * g = -((-n) * g) := by rw [Int.neg_mul, Int.neg_neg]
    rw [e1, e2, Int.neg_tdiv, Int.tdiv_eq_ediv_of_nonneg h1]
    unfold amt
    split <;> omega
theorem rd_exact {c : Cut} (_hC : CutOK c) (hg : 1000 ≤ c.gain) {n k : Int} (hn : -32767 ≤ n ∧ n ≤ 32767) (hk : Least (pB c ((n * c.gain).tdiv 1000)) 32768 k) : rdF ((n * c.gain).tdiv 1000) k = n := by
  have hamt := amt_bd (n := n) (B := 32767) hn
  have e1 := tdiv_neg_amt (n := n) (g := c.gain) (by omega)
  have hp : ∀ q, 0 ≤ q → (pB c ((n * c.gain).tdiv 1000) q ↔ amt n ≤ q) := by
    intro q hq
    unfold pB
    rw [e1, Int.tdiv_eq_ediv_of_nonneg (Int.mul_nonneg hq (by omega))]
    constructor
    · intro h1
      refine Int.not_lt.1 fun h2 => ?_
      have h3 : (q + 1) * c.gain ≤ amt n * c.gain := Int.mul_le_mul_of_nonneg_right (by omega) (by omega)
      rw [Int.add_mul, Int.one_mul] at h3
      omega
    · intro h1
      have h3 : amt n * c.gain ≤ q * c.gain := Int.mul_le_mul_of_nonneg_right h1 (by omega)
      omega
  have hkn : k = amt n := by
    have h1 : ¬ amt n < k := fun h => hk.no _ hamt.1 h ((hp _ hamt.1).2 (Int.le_refl _))
    have h2 : ¬ k < amt n := fun h => by
      have := (hp k hk.rng.1).1 (hk.yes (by omega))
      omega
    omega
  rw [hkn]
  have hsgn : (n * c.gain).tdiv 1000 < 0 ↔ n < 0 := by
    by_cases h0 : 0 ≤ n
    · have h1 : 0 ≤ n * c.gain := Int.mul_nonneg h0 (by omega)
      rw [Int.tdiv_eq_ediv_of_nonneg h1]
      have := Int.ediv_nonneg h1 (show (0 : Int) ≤ 1000 by decide)
      omega
    · have h1 : 1000 ≤ (-n) * c.gain := by
        have h2 : (1 : Int) * c.gain ≤ (-n) * c.gain := Int.mul_le_mul_of_nonneg_right (by omega) (by omega)
        omega
      have e2 : n * c.gain = -((-n) * c.gain) := by rw [Int.neg_mul, Int.neg_neg]
      rw [e2, Int.neg_tdiv, Int.tdiv_eq_ediv_of_nonneg (by omega)]
      omega
  unfold rdF amt
  split
  · rename_i h
    have := hsgn.1 h
    rw [if_pos (by omega)]; omega
  · rename_i h
    have : ¬ n < 0 := fun h2 => h (hsgn.2 h2)
    rw [if_neg (by omega)]
theorem ptF_edge {c : Cut} (hC : CutOK c) {s : Smp} (hs : s.ok) : edgeP (ptF c s) := by
  obtain ⟨h1, h2, h3, h4⟩ := hs
  have g1 := gain_rng hC ⟨h1, h2⟩
  have g2 := gain_rng hC ⟨h3, h4⟩
  have hh := hC.half
  unfold edgeP ptF
  simp only
  omega
theorem s32x (c : Cut) (s : Smp) (hC : CutOK c) (hg : 1000 ≤ c.gain) (hs : s.ok) : HSpec Tryz.prog 32 [c.x, (ptF c s).x] [] (fun r m' => r = .tup [s.x, I 0] ∧ m' = []) := by
  refine HSpec.mono (s32 c (ptF c s)) fun r m' h => ?_
  have e1 : (ptF c s).r - c.half = (s.l * c.gain).tdiv 1000 := Int.add_sub_cancel _ _
  have e2 : (ptF c s).l + c.half = (s.r * c.gain).tdiv 1000 := Int.sub_add_cancel _ _
  obtain ⟨h1, h2, h3, h4⟩ := id hs
  cases h with
  | bad e h he hr hm => exact absurd ⟨hC, ptF_edge hC hs⟩ h
  | none hC' hp kl kr hl hR hn hr hm =>
    rw [e1] at hl
    rw [e2] at hR
    rw [e1, e2, rd_exact hC hg ⟨h1, h2⟩ hl, rd_exact hC hg ⟨h3, h4⟩ hR] at hn
    exact absurd ⟨hs, rfl⟩ hn
  | ok hC' hp kl kr hl hR hs' he hr hm =>
    rw [e1] at hl
    rw [e2] at hR
    rw [e1, e2, rd_exact hC hg ⟨h1, h2⟩ hl, rd_exact hC hg ⟨h3, h4⟩ hR] at hr
    exact ⟨hr, hm⟩
end Go.Sx

namespace Go.Sx
open Go Go.Proofs
set_option maxRecDepth 10000
set_option maxHeartbeats 8000000
theorem getD_of_bd {xs : List Int} {B : Int} (hB : 0 ≤ B) (h : ∀ j, j < xs.length → -B ≤ xs.getD j 0 ∧ xs.getD j 0 ≤ B) (j : Nat) : -B ≤ xs.getD j 0 ∧ xs.getD j 0 ≤ B := by
  by_cases hj : j < xs.length
  · exact h j hj
  · rw [List.getD_eq_getElem?_getD, List.getElem?_eq_none (by omega)]
    simp only [Option.getD_none]
    omega
theorem chL_get (s : List Smp) (j : Nat) (hj : j < s.length) : (chL s).getD j 0 = (s.getD j s0).l := by simp [chL, List.getD_eq_getElem?_getD, hj]
theorem chR_get (s : List Smp) (j : Nat) (hj : j < s.length) : (chR s).getD j 0 = (s.getD j s0).r := by simp [chR, List.getD_eq_getElem?_getD, hj]
theorem chL_len (s : List Smp) : (chL s).length = s.length := by simp [chL]
theorem chR_len (s : List Smp) : (chR s).length = s.length := by simp [chR]
theorem chL_ok {s : List Smp} (h : SmpsOK s) : SigOK (chL s) := ⟨by rw [chL_len]; exact h.len, getD_of_bd (by decide) fun j hj => by
  rw [chL_len] at hj
  have := h.each j hj
  rw [chL_get s j hj]
  exact ⟨this.1, this.2.1⟩⟩
theorem chR_ok {s : List Smp} (h : SmpsOK s) : SigOK (chR s) := ⟨by rw [chR_len]; exact h.len, getD_of_bd (by decide) fun j hj => by
  rw [chR_len] at hj
  have := h.each j hj
  rw [chR_get s j hj]
  exact ⟨this.2.2.1, this.2.2.2⟩⟩
theorem joinS_ch (s : List Smp) : joinS (chL s) (chR s) = s := by
  refine list_ext' (d := s0) (by rw [joinS_len, chL_len, chR_len, Nat.min_self]) fun j hj => ?_
  rw [joinS_len, chL_len, chR_len, Nat.min_self] at hj
  rw [joinS_get _ _ _ (by rw [chL_len, chR_len, Nat.min_self]; exact hj), chL_get s j hj, chR_get s j hj]
theorem s3 (T : List Tak) (l : List Prt) (L R : List Crv) (c : Cut) (hI : TakI T) : PSpec Tryz.prog 3 [lT T, lP l, lC L, lC R, c.x] (xP True) := by
  have hw := s25
  by_cases hG : ¬ PgOK T l
  · refine spec_of pMix (O := [(14, ([], [⟨0, [], []⟩, ⟨1, [], []⟩, ⟨2, [], []⟩, ⟨3, [0], []⟩, ⟨4, [], []⟩, ⟨5, [], []⟩, ⟨6, [], []⟩, ⟨7, [], []⟩, ⟨8, [], []⟩, ⟨9, [], []⟩])), (21, ([9], [⟨0, [], []⟩, ⟨1, [], []⟩, ⟨2, [], []⟩, ⟨3, [], []⟩, ⟨4, [], []⟩, ⟨5, [], []⟩, ⟨6, [], []⟩, ⟨7, [], []⟩, ⟨8, [], []⟩, ⟨9, [], []⟩, ⟨10, [8], []⟩, ⟨11, [], []⟩])), (24, ([], [⟨0, [], []⟩, ⟨1, [], []⟩, ⟨2, [], [3]⟩, ⟨5, [], []⟩, ⟨6, [], []⟩, ⟨7, [], [8]⟩, ⟨3, [], []⟩, ⟨4, [5, 6, 7], []⟩, ⟨8, [], []⟩, ⟨9, [], []⟩, ⟨10, [], []⟩, ⟨11, [], []⟩]))]) Tryz.func3 (c := bodyOf Tryz.f3) rfl (by kernel_rfl) (by kernel_rfl) Tryz.ntmps3 (res := [.tmp 10]) (by kernel_rfl) ?_
    repeat' ((conv => whnf); first | refine Rng.g ?_ | refine Ob.g ?_ | refine Ob.e ?_ | refine Ob.m ?_ | refine Ob.mk (Nat.le_of_ble_eq_true rfl) ?_ | refine JoinVC.on ?_ | refine Nils.mk (fun h => ?_) ?_ | refine Val.t ?_ | refine Val.d ?_ | refine Mm.mk ?_ | (refine Br.mk (fun h => ?_) (fun h => ?_) <;> first | (exfalso; omega; done) | (exfalso; simp at h; done) | skip))
    conv => whnf
    refine CallVC.mk [] _ _ _ rfl rfl rfl (s22 T l hI) (fun r m' h' => ?_)
    cases h' with
    | yes h hr hm => exact absurd h hG
    | no h hr hm =>
      subst hr hm
      repeat' ((conv => whnf); first | refine Rng.g ?_ | refine Ob.g ?_ | refine Ob.e ?_ | refine Ob.m ?_ | refine Ob.mk (Nat.le_of_ble_eq_true rfl) ?_ | refine JoinVC.on ?_ | refine Nils.mk (fun h => ?_) ?_ | refine Val.t ?_ | refine Val.d ?_ | refine Mm.mk ?_ | refine CallVC.pure rfl (hw) ?_ | refine CallVC0.pure rfl (hw) ?_ | (refine Br.mk (fun h => ?_) (fun h => ?_) <;> first | (exfalso; omega; done) | (exfalso; simp at h; done) | skip))
      repeat refine Mm.mk ?_
      refine EndVC.mk _ rfl _ _ ⟨rfl, rfl⟩ ?_
      refine ⟨[], rfl, rfl, ?_, ?_⟩ <;> repeat' (first | exact trivial | exact rfl | exact Iff.rfl | apply And.intro)
  replace hG := Classical.not_not.1 hG
  by_cases hV : ¬ (ChOK L ∧ ChOK R ∧ CutOK c ∧ 1000 ≤ c.gain)
  · refine spec_of pMix (O := [(14, ([], [⟨0, [], []⟩, ⟨1, [], []⟩, ⟨2, [], []⟩, ⟨3, [0], []⟩, ⟨4, [], []⟩, ⟨5, [], []⟩, ⟨6, [], []⟩, ⟨7, [], []⟩, ⟨8, [], []⟩, ⟨9, [], []⟩])), (21, ([9], [⟨0, [], []⟩, ⟨1, [], []⟩, ⟨2, [], []⟩, ⟨3, [], []⟩, ⟨4, [], []⟩, ⟨5, [], []⟩, ⟨6, [], []⟩, ⟨7, [], []⟩, ⟨8, [], []⟩, ⟨9, [], []⟩, ⟨10, [8], []⟩, ⟨11, [], []⟩])), (24, ([], [⟨0, [], []⟩, ⟨1, [], []⟩, ⟨2, [], [3]⟩, ⟨5, [], []⟩, ⟨6, [], []⟩, ⟨7, [], [8]⟩, ⟨3, [], []⟩, ⟨4, [5, 6, 7], []⟩, ⟨8, [], []⟩, ⟨9, [], []⟩, ⟨10, [], []⟩, ⟨11, [], []⟩]))]) Tryz.func3 (c := bodyOf Tryz.f3) rfl (by kernel_rfl) (by kernel_rfl) Tryz.ntmps3 (res := [.tmp 10]) (by kernel_rfl) ?_
    repeat' ((conv => whnf); first | refine Rng.g ?_ | refine Ob.g ?_ | refine Ob.e ?_ | refine Ob.m ?_ | refine Ob.mk (Nat.le_of_ble_eq_true rfl) ?_ | refine JoinVC.on ?_ | refine Nils.mk (fun h => ?_) ?_ | refine Val.t ?_ | refine Val.d ?_ | refine Mm.mk ?_ | (refine Br.mk (fun h => ?_) (fun h => ?_) <;> first | (exfalso; omega; done) | (exfalso; simp at h; done) | skip))
    conv => whnf
    refine CallVC.mk [] _ _ _ rfl rfl rfl (s22 T l hI) (fun r m' h' => ?_)
    cases h' with
    | no h hr hm => exact absurd hG h
    | yes h hr hm =>
      subst hr hm
      repeat' ((conv => whnf); first | refine Rng.g ?_ | refine Ob.g ?_ | refine Ob.e ?_ | refine Ob.m ?_ | refine Ob.mk (Nat.le_of_ble_eq_true rfl) ?_ | refine JoinVC.on ?_ | refine Nils.mk (fun h => ?_) ?_ | refine Val.t ?_ | refine Val.d ?_ | refine Mm.mk ?_ | (refine Br.mk (fun h => ?_) (fun h => ?_) <;> first | (exfalso; omega; done) | (exfalso; simp at h; done) | skip))
      conv => whnf
      refine CallVC.mk [] _ _ _ rfl rfl rfl (s23 L) (fun r m' h' => ?_)
      obtain ⟨e1, rfl, rfl, he1⟩ := h'
      conv => whnf
      repeat' ((conv => whnf); first | refine Rng.g ?_ | refine Ob.g ?_ | refine Ob.e ?_ | refine Ob.m ?_ | refine Ob.mk (Nat.le_of_ble_eq_true rfl) ?_ | refine JoinVC.on ?_ | refine Nils.mk (fun h => ?_) ?_ | refine Val.t ?_ | refine Val.d ?_ | refine Mm.mk ?_ | refine CallVC.pure rfl (hw) ?_ | refine CallVC0.pure rfl (hw) ?_ | (refine Br.mk (fun h => ?_) (fun h => ?_) <;> first | (exfalso; omega; done) | (exfalso; simp at h; done) | skip))
      · repeat refine Mm.mk ?_
        refine EndVC.mk _ rfl _ _ ⟨rfl, rfl⟩ ?_
        refine ⟨[], rfl, rfl, ?_, ?_⟩ <;> repeat' (first | exact trivial | exact rfl | exact Iff.rfl | apply And.intro)
      conv => whnf
      refine CallVC.mk [] _ _ _ rfl rfl rfl (s23 R) (fun r m' h' => ?_)
      obtain ⟨e2, rfl, rfl, he2⟩ := h'
      conv => whnf
      repeat' ((conv => whnf); first | refine Rng.g ?_ | refine Ob.g ?_ | refine Ob.e ?_ | refine Ob.m ?_ | refine Ob.mk (Nat.le_of_ble_eq_true rfl) ?_ | refine JoinVC.on ?_ | refine Nils.mk (fun h => ?_) ?_ | refine Val.t ?_ | refine Val.d ?_ | refine Mm.mk ?_ | refine CallVC.pure rfl (hw) ?_ | refine CallVC0.pure rfl (hw) ?_ | (refine Br.mk (fun h => ?_) (fun h => ?_) <;> first | (exfalso; omega; done) | (exfalso; simp at h; done) | skip))
      · repeat refine Mm.mk ?_
        refine EndVC.mk _ rfl _ _ ⟨rfl, rfl⟩ ?_
        refine ⟨[], rfl, rfl, ?_, ?_⟩ <;> repeat' (first | exact trivial | exact rfl | exact Iff.rfl | apply And.intro)
      conv => whnf
      refine CallVC.mk [] _ _ _ rfl rfl rfl (s24 c) (fun r m' h' => ?_)
      obtain ⟨e3, rfl, rfl, he3⟩ := h'
      conv => whnf
      repeat' ((conv => whnf); first | refine Rng.g ?_ | refine Ob.g ?_ | refine Ob.e ?_ | refine Ob.m ?_ | refine Ob.mk (Nat.le_of_ble_eq_true rfl) ?_ | refine JoinVC.on ?_ | refine Nils.mk (fun h => ?_) ?_ | refine Val.t ?_ | refine Val.d ?_ | refine Mm.mk ?_ | refine CallVC.pure rfl (hw) ?_ | refine CallVC0.pure rfl (hw) ?_ | (refine Br.mk (fun h => ?_) (fun h => ?_) <;> first | (exfalso; omega; done) | (exfalso; simp at h; done) | skip))
      · repeat refine Mm.mk ?_
        refine EndVC.mk _ rfl _ _ ⟨rfl, rfl⟩ ?_
        refine ⟨[], rfl, rfl, ?_, ?_⟩ <;> repeat' (first | exact trivial | exact rfl | exact Iff.rfl | apply And.intro)
      · repeat refine Mm.mk ?_
        refine EndVC.mk _ rfl _ _ ⟨rfl, rfl⟩ ?_
        refine ⟨[], rfl, rfl, ?_, ?_⟩ <;> repeat' (first | exact trivial | exact rfl | exact Iff.rfl | apply And.intro)
      · exact absurd ⟨he1.1 (by omega), he2.1 (by omega), he3.1 (by omega), by omega⟩ hV
  replace hV := Classical.not_not.1 hV
  obtain ⟨hL, hR, hC, hgain⟩ := hV
  have hP := hG.ok
  have hgood := hG.good
  obtain ⟨s, hs⟩ : ∃ s, s = rend T l := ⟨_, rfl⟩
  have hsl : s.length ≤ 200 := by
    have h1 := rend_len T l
    have h2 := hG.stop
    rw [hs, h1]
    omega
  have ls := smpA_len s
  have hS := (smpE_iff s).1 (by rw [hs]; exact hgood)
  have hcL := chL_ok hS
  have hcR := chR_ok hS
  have k1 : PSpec Tryz.prog 27 [lS s, lS s] (xP (s = s)) := s27 s s (by omega)
  refine spec_of pMix (O := [(14, ([], [⟨0, [], []⟩, ⟨1, [], []⟩, ⟨2, [], []⟩, ⟨3, [0], []⟩, ⟨4, [], []⟩, ⟨5, [], []⟩, ⟨6, [], []⟩, ⟨7, [], []⟩, ⟨8, [], []⟩, ⟨9, [], []⟩])), (21, ([9], [⟨0, [], []⟩, ⟨1, [], []⟩, ⟨2, [], []⟩, ⟨3, [], []⟩, ⟨4, [], []⟩, ⟨5, [], []⟩, ⟨6, [], []⟩, ⟨7, [], []⟩, ⟨8, [], []⟩, ⟨9, [], []⟩, ⟨10, [8], []⟩, ⟨11, [], []⟩])), (24, ([], [⟨0, [], []⟩, ⟨1, [], []⟩, ⟨2, [], [3]⟩, ⟨5, [], []⟩, ⟨6, [], []⟩, ⟨7, [], [8]⟩, ⟨3, [], []⟩, ⟨4, [5, 6, 7], []⟩, ⟨8, [], []⟩, ⟨9, [], []⟩, ⟨10, [], []⟩, ⟨11, [], []⟩]))]) Tryz.func3 (c := bodyOf Tryz.f3) rfl (by kernel_rfl) (by kernel_rfl) Tryz.ntmps3 (res := [.tmp 10]) (by kernel_rfl) ?_
  repeat' ((conv => whnf); first | refine Rng.g ?_ | refine Ob.g ?_ | refine Ob.e ?_ | refine Ob.m ?_ | refine Ob.mk (Nat.le_of_ble_eq_true rfl) ?_ | refine JoinVC.on ?_ | refine Nils.mk (fun h => ?_) ?_ | refine Val.t ?_ | refine Val.d ?_ | refine Mm.mk ?_ | (refine Br.mk (fun h => ?_) (fun h => ?_) <;> first | (exfalso; omega; done) | (exfalso; simp at h; done) | skip))
  conv => whnf
  refine CallVC.mk [] _ _ _ rfl rfl rfl (s22 T l hI) (fun r m' h' => ?_)
  cases h' with
  | no h hr hm => exact absurd hG h
  | yes h hr hm =>
  subst hr hm
  repeat' ((conv => whnf); first | refine Rng.g ?_ | refine Ob.g ?_ | refine Ob.e ?_ | refine Ob.m ?_ | refine Ob.mk (Nat.le_of_ble_eq_true rfl) ?_ | refine JoinVC.on ?_ | refine Nils.mk (fun h => ?_) ?_ | refine Val.t ?_ | refine Val.d ?_ | refine Mm.mk ?_ | (refine Br.mk (fun h => ?_) (fun h => ?_) <;> first | (exfalso; omega; done) | (exfalso; simp at h; done) | skip))
  conv => whnf
  refine CallVC.mk [] _ _ _ rfl rfl rfl (s23 L) (fun r m' h' => ?_)
  obtain ⟨e1, rfl, rfl, he1⟩ := h'
  conv => whnf
  cases he1.2 hL
  repeat' ((conv => whnf); first | refine Rng.g ?_ | refine Ob.g ?_ | refine Ob.e ?_ | refine Ob.m ?_ | refine Ob.mk (Nat.le_of_ble_eq_true rfl) ?_ | refine JoinVC.on ?_ | refine Nils.mk (fun h => ?_) ?_ | refine Val.t ?_ | refine Val.d ?_ | refine Mm.mk ?_ | (refine Br.mk (fun h => ?_) (fun h => ?_) <;> first | (exfalso; omega; done) | (exfalso; simp at h; done) | skip))
  conv => whnf
  refine CallVC.mk [] _ _ _ rfl rfl rfl (s23 R) (fun r m' h' => ?_)
  obtain ⟨e2, rfl, rfl, he2⟩ := h'
  conv => whnf
  cases he2.2 hR
  repeat' ((conv => whnf); first | refine Rng.g ?_ | refine Ob.g ?_ | refine Ob.e ?_ | refine Ob.m ?_ | refine Ob.mk (Nat.le_of_ble_eq_true rfl) ?_ | refine JoinVC.on ?_ | refine Nils.mk (fun h => ?_) ?_ | refine Val.t ?_ | refine Val.d ?_ | refine Mm.mk ?_ | (refine Br.mk (fun h => ?_) (fun h => ?_) <;> first | (exfalso; omega; done) | (exfalso; simp at h; done) | skip))
  conv => whnf
  refine CallVC.mk [] _ _ _ rfl rfl rfl (s24 c) (fun r m' h' => ?_)
  obtain ⟨e3, rfl, rfl, he3⟩ := h'
  conv => whnf
  cases he3.2 hC
  repeat' ((conv => whnf); first | refine Rng.g ?_ | refine Ob.g ?_ | refine Ob.e ?_ | refine Ob.m ?_ | refine Ob.mk (Nat.le_of_ble_eq_true rfl) ?_ | refine JoinVC.on ?_ | refine Nils.mk (fun h => ?_) ?_ | refine Val.t ?_ | refine Val.d ?_ | refine Mm.mk ?_ | (refine Br.mk (fun h => ?_) (fun h => ?_) <;> first | (exfalso; omega; done) | (exfalso; simp at h; done) | skip))
  conv => whnf
  refine CallVC.mk [] _ _ _ rfl rfl rfl (s26 T l hP) (fun r m' h' => ?_)
  rcases h' with ⟨h1, rfl, rfl⟩ | ⟨h1, rfl, rfl⟩
  · rw [← hs]
    repeat' ((conv => whnf); first | refine Rng.g ?_ | refine Ob.g ?_ | refine Ob.e ?_ | refine Ob.m ?_ | refine Ob.mk (Nat.le_of_ble_eq_true rfl) ?_ | refine JoinVC.on ?_ | refine Nils.mk (fun h => ?_) ?_ | refine Val.t ?_ | refine Val.d ?_ | refine Mm.mk ?_ | refine CallVC.pure rfl (k1) ?_ | refine CallVC0.pure rfl (k1) ?_ | (refine Br.mk (fun h => ?_) (fun h => ?_) <;> first | (exfalso; omega; done) | (exfalso; simp at h; done) | skip))
    conv => whnf
    refine CallVC.mk [] _ _ _ rfl rfl rfl (s28 s (by omega)) (fun r m' h' => ?_)
    obtain ⟨rfl, rfl⟩ := h'
    conv => whnf
    repeat' ((conv => whnf); first | refine Rng.g ?_ | refine Ob.g ?_ | refine Ob.e ?_ | refine Ob.m ?_ | refine Ob.mk (Nat.le_of_ble_eq_true rfl) ?_ | refine JoinVC.on ?_ | refine Nils.mk (fun h => ?_) ?_ | refine Val.t ?_ | refine Val.d ?_ | refine Mm.mk ?_ | (refine Br.mk (fun h => ?_) (fun h => ?_) <;> first | (exfalso; omega; done) | (exfalso; simp at h; done) | skip))
    conv => whnf
    refine CallVC.mk [] _ _ _ rfl rfl rfl (s29 L (chL s)) (fun r m' h' => ?_)
    cases h' with
    | bad e h he hr hm => exact absurd ⟨hL, hcL⟩ h
    | far h1 h2 h3 hr hm =>
      subst hr hm
      repeat' ((conv => whnf); first | refine Rng.g ?_ | refine Ob.g ?_ | refine Ob.e ?_ | refine Ob.m ?_ | refine Ob.mk (Nat.le_of_ble_eq_true rfl) ?_ | refine JoinVC.on ?_ | refine Nils.mk (fun h => ?_) ?_ | refine Val.t ?_ | refine Val.d ?_ | refine Mm.mk ?_ | (refine Br.mk (fun h => ?_) (fun h => ?_) <;> first | (exfalso; omega; done) | (exfalso; simp at h; done) | skip))
      conv => whnf
      refine CallVC.mk [] _ _ _ rfl rfl rfl (s29 R (chR s)) (fun r m' h' => ?_)
      cases h' with
      | bad e h he hr hm => exact absurd ⟨hR, hcR⟩ h
      | far h1 h2 h3 hr hm =>
        subst hr hm
        repeat' ((conv => whnf); first | refine Rng.g ?_ | refine Ob.g ?_ | refine Ob.e ?_ | refine Ob.m ?_ | refine Ob.mk (Nat.le_of_ble_eq_true rfl) ?_ | refine JoinVC.on ?_ | refine Nils.mk (fun h => ?_) ?_ | refine Val.t ?_ | refine Val.d ?_ | refine Mm.mk ?_ | refine CallVC.pure rfl (hw) ?_ | refine CallVC0.pure rfl (hw) ?_ | (refine Br.mk (fun h => ?_) (fun h => ?_) <;> first | (exfalso; omega; done) | (exfalso; simp at h; done) | skip))
        repeat refine Mm.mk ?_
        refine EndVC.mk _ rfl _ _ ⟨rfl, rfl⟩ ?_
        refine ⟨[], rfl, rfl, ?_, ?_⟩ <;> repeat' (first | exact trivial | exact rfl | exact Iff.rfl | apply And.intro)
      | ok h1 h2 y hy hr hm =>
        subst hr hm
        repeat' ((conv => whnf); first | refine Rng.g ?_ | refine Ob.g ?_ | refine Ob.e ?_ | refine Ob.m ?_ | refine Ob.mk (Nat.le_of_ble_eq_true rfl) ?_ | refine JoinVC.on ?_ | refine Nils.mk (fun h => ?_) ?_ | refine Val.t ?_ | refine Val.d ?_ | refine Mm.mk ?_ | refine CallVC.pure rfl (hw) ?_ | refine CallVC0.pure rfl (hw) ?_ | (refine Br.mk (fun h => ?_) (fun h => ?_) <;> first | (exfalso; omega; done) | (exfalso; simp at h; done) | skip))
        repeat refine Mm.mk ?_
        refine EndVC.mk _ rfl _ _ ⟨rfl, rfl⟩ ?_
        refine ⟨[], rfl, rfl, ?_, ?_⟩ <;> repeat' (first | exact trivial | exact rfl | exact Iff.rfl | apply And.intro)
    | ok h1 h2 x hx hr hm =>
    subst hr hm
    repeat' ((conv => whnf); first | refine Rng.g ?_ | refine Ob.g ?_ | refine Ob.e ?_ | refine Ob.m ?_ | refine Ob.mk (Nat.le_of_ble_eq_true rfl) ?_ | refine JoinVC.on ?_ | refine Nils.mk (fun h => ?_) ?_ | refine Val.t ?_ | refine Val.d ?_ | refine Mm.mk ?_ | (refine Br.mk (fun h => ?_) (fun h => ?_) <;> first | (exfalso; omega; done) | (exfalso; simp at h; done) | skip))
    conv => whnf
    refine CallVC.mk [] _ _ _ rfl rfl rfl (s29 R (chR s)) (fun r m' h' => ?_)
    cases h' with
    | bad e h he hr hm => exact absurd ⟨hR, hcR⟩ h
    | far h1 h2 h3 hr hm =>
      subst hr hm
      repeat' ((conv => whnf); first | refine Rng.g ?_ | refine Ob.g ?_ | refine Ob.e ?_ | refine Ob.m ?_ | refine Ob.mk (Nat.le_of_ble_eq_true rfl) ?_ | refine JoinVC.on ?_ | refine Nils.mk (fun h => ?_) ?_ | refine Val.t ?_ | refine Val.d ?_ | refine Mm.mk ?_ | refine CallVC.pure rfl (hw) ?_ | refine CallVC0.pure rfl (hw) ?_ | (refine Br.mk (fun h => ?_) (fun h => ?_) <;> first | (exfalso; omega; done) | (exfalso; simp at h; done) | skip))
      repeat refine Mm.mk ?_
      refine EndVC.mk _ rfl _ _ ⟨rfl, rfl⟩ ?_
      refine ⟨[], rfl, rfl, ?_, ?_⟩ <;> repeat' (first | exact trivial | exact rfl | exact Iff.rfl | apply And.intro)
    | ok h1 h2 y hy hr hm =>
    subst hr hm
    have lx := i64s_len x
    have ly := i64s_len y
    have hxl : x.length = s.length := hx.len.trans (by simp [chL])
    have hyl : y.length = s.length := hy.len.trans (by simp [chR])
    have hxs := hx.sig (xs := chL s) hcL.each
    have hys := hy.sig (xs := chR s) hcR.each
    have hjl : (joinS x y).length = s.length := by rw [joinS_len]; omega
    have hjS : SmpsOK (joinS x y) := ⟨by omega, fun j hj => by rw [joinS_get x y j (by omega)]; exact ⟨(hxs j).1, (hxs j).2, (hys j).1, (hys j).2⟩⟩
    repeat' ((conv => whnf); first | refine Rng.g ?_ | refine Ob.g ?_ | refine Ob.e ?_ | refine Ob.m ?_ | refine Ob.mk (Nat.le_of_ble_eq_true rfl) ?_ | refine JoinVC.on ?_ | refine Nils.mk (fun h => ?_) ?_ | refine Val.t ?_ | refine Val.d ?_ | refine Mm.mk ?_ | (refine Br.mk (fun h => ?_) (fun h => ?_) <;> first | (exfalso; omega; done) | (exfalso; simp at h; done) | skip))
    conv => whnf
    refine CallVC0.mk _ _ rfl (s31 x y (by omega)) (fun r m' h' => ?_)
    obtain ⟨rfl, rfl⟩ := h'
    conv => whnf
    repeat' ((conv => whnf); first | refine Rng.g ?_ | refine Ob.g ?_ | refine Ob.e ?_ | refine Ob.m ?_ | refine Ob.mk (Nat.le_of_ble_eq_true rfl) ?_ | refine JoinVC.on ?_ | refine Nils.mk (fun h => ?_) ?_ | refine Val.t ?_ | refine Val.d ?_ | refine Mm.mk ?_ | (refine Br.mk (fun h => ?_) (fun h => ?_) <;> first | (exfalso; omega; done) | (exfalso; simp at h; done) | skip))
    conv => whnf
    refine CallVC.mk [] _ _ _ rfl rfl rfl (s30 c (joinS x y)) (fun r m' h' => ?_)
    cases h' with
    | bad e h he hr hm => exact absurd ⟨hC, hjS⟩ h
    | ok hC' hj' hr hm =>
    subst hr hm
    have lg := smpA_len (cutF c (joinS x y))
    have lgl : (cutF c (joinS x y)).length = s.length := by rw [cutF_len, hjl]
    repeat' ((conv => whnf); first | refine Rng.g ?_ | refine Ob.g ?_ | refine Ob.e ?_ | refine Ob.m ?_ | refine Ob.mk (Nat.le_of_ble_eq_true rfl) ?_ | refine JoinVC.on ?_ | refine Nils.mk (fun h => ?_) ?_ | refine Val.t ?_ | refine Val.d ?_ | refine Mm.mk ?_ | (refine Br.mk (fun h => ?_) (fun h => ?_) <;> first | (exfalso; omega; done) | (exfalso; simp at h; done) | skip))
    obtain ⟨g, hg⟩ : ∃ g, g = cutF c (joinS x y) := ⟨_, rfl⟩
    rw [← hg]
    rw [← hg] at lg lgl
    refine LoopVC.mk (fun n st => ∃ (i : Nat), i ≤ s.length ∧ n = s.length - i ∧ st = ⟨0, envA 207 [(2, .x (lC L)), (3, .x (lC R)), (9, .x (.one (.ptr 0 0))), (13, .x (.one (.own 1))), (20, .x (.one (.own 2))), (21, .x (.one (.own 3))), (22, .x (.one (.own 4))), (23, .int .i64 (i : Int))], [some (bCut c), some (rowS s), some (rowP g), some (rowL (x.take i)), some (rowL (y.take i))]⟩) _ _ ⟨0, Nat.zero_le _, rfl, rfl⟩ ?_ ?_
    · refine ⟨[some 0, some 2, some 8, none, none], rfl, rfl, ?_, ?_⟩ <;> repeat' (first | exact trivial | exact rfl | exact Iff.rfl | apply And.intro)
    rintro n _ ⟨i, hi, hn, rfl⟩
    by_cases hi' : i < s.length
    · have e1 : (i64s (x.take i)).length = i := by rw [i64s_len, List.length_take]; omega
      have e2 : (i64s (y.take i)).length = i := by rw [i64s_len, List.length_take]; omega
      have hgi : g.getD i s0 = ptF c ⟨x.getD i 0, y.getD i 0⟩ := by rw [hg, cutF_get c _ i (by rw [hjl]; exact hi'), joinS_get x y i (by omega)]
      have hok : (⟨x.getD i 0, y.getD i 0⟩ : Smp).ok := ⟨(hxs i).1, (hxs i).2, (hys i).1, (hys i).2⟩
      have c1 : HSpec Tryz.prog 32 [c.x, smpX g i] [] (fun r m' => r = .tup [(⟨x.getD i 0, y.getD i 0⟩ : Smp).x, I 0] ∧ m' = []) := by rw [smpX_eq, hgi]; exact s32x c _ hC hgain hok
      repeat' ((conv => whnf); first | refine Rng.g ?_ | refine Ob.g ?_ | refine Ob.e ?_ | refine Ob.m ?_ | refine Ob.mk (Nat.le_of_ble_eq_true rfl) ?_ | refine JoinVC.on ?_ | refine Nils.mk (fun h => ?_) ?_ | refine Val.t ?_ | refine Val.d ?_ | refine Mm.mk ?_ | (refine Br.mk (fun h => ?_) (fun h => ?_) <;> first | (exfalso; omega; done) | (exfalso; simp at h; done) | skip))
      conv => whnf
      refine CallVC.mk [] _ _ _ rfl rfl rfl (c1) (fun r m' h' => ?_)
      obtain ⟨rfl, rfl⟩ := h'
      conv => whnf
      repeat' ((conv => whnf); first | refine Rng.g ?_ | refine Ob.g ?_ | refine Ob.e ?_ | refine Ob.m ?_ | refine Ob.mk (Nat.le_of_ble_eq_true rfl) ?_ | refine JoinVC.on ?_ | refine Nils.mk (fun h => ?_) ?_ | refine Val.t ?_ | refine Val.d ?_ | refine Mm.mk ?_ | (refine Br.mk (fun h => ?_) (fun h => ?_) <;> first | (exfalso; omega; done) | (exfalso; simp at h; done) | skip))
      repeat refine Mm.mk ?_
      refine Ob.mk (by simp only [e1, eb2, List.length_cons, List.length_nil]; omega) ?_
      repeat' ((conv => whnf); first | refine Rng.g ?_ | refine Ob.g ?_ | refine Ob.e ?_ | refine Ob.m ?_ | refine Ob.mk (Nat.le_of_ble_eq_true rfl) ?_ | refine JoinVC.on ?_ | refine Nils.mk (fun h => ?_) ?_ | refine Val.t ?_ | refine Val.d ?_ | refine Mm.mk ?_ | (refine Br.mk (fun h => ?_) (fun h => ?_) <;> first | (exfalso; omega; done) | (exfalso; simp at h; done) | skip))
      repeat refine Mm.mk ?_
      refine Ob.mk (by simp only [e2, eb2, List.length_cons, List.length_nil]; omega) ?_
      repeat' ((conv => whnf); first | refine Rng.g ?_ | refine Ob.g ?_ | refine Ob.e ?_ | refine Ob.m ?_ | refine Ob.mk (Nat.le_of_ble_eq_true rfl) ?_ | refine JoinVC.on ?_ | refine Nils.mk (fun h => ?_) ?_ | refine Val.t ?_ | refine Val.d ?_ | refine Mm.mk ?_ | (refine Br.mk (fun h => ?_) (fun h => ?_) <;> first | (exfalso; omega; done) | (exfalso; simp at h; done) | skip))
      refine Back.mk (s.length - (i + 1)) _ (by omega) ⟨i + 1, by omega, rfl, rfl⟩ ?_
      refine ⟨[some 0, some 1, some 2, some 7, some 9], rfl, rfl, ?_, ?_⟩ <;> repeat' (first | exact trivial | exact rfl | exact Iff.rfl | apply And.intro)
      · rw [take_snoc x i 0 (by omega)]; exact (i64s_snoc _ _).symm
      · rw [take_snoc y i 0 (by omega)]; exact (i64s_snoc _ _).symm
    · have ex : x.take i = x := List.take_of_length_le (by omega)
      have ey : y.take i = y := List.take_of_length_le (by omega)
      rw [ex, ey]
      have hxS : SigOK x := ⟨by omega, hxs⟩
      have hyS : SigOK y := ⟨by omega, hys⟩
      have hbx := hx.back hcL.each
      have hby := hy.back hcR.each
      repeat' ((conv => whnf); first | refine Rng.g ?_ | refine Ob.g ?_ | refine Ob.e ?_ | refine Ob.m ?_ | refine Ob.mk (Nat.le_of_ble_eq_true rfl) ?_ | refine JoinVC.on ?_ | refine Nils.mk (fun h => ?_) ?_ | refine Val.t ?_ | refine Val.d ?_ | refine Mm.mk ?_ | (refine Br.mk (fun h => ?_) (fun h => ?_) <;> first | (exfalso; omega; done) | (exfalso; simp at h; done) | skip))
      conv => whnf
      refine CallVC.mk [] _ _ _ rfl rfl rfl (s33 L x) (fun r m' h' => ?_)
      cases h' with
      | bad e h he hr hm => exact absurd ⟨hL, hxS⟩ h
      | far h1 h2 h3 hr hm => exact (hbx.no_far h3).elim
      | ok h1 h2 x' hx' hr hm =>
      have ex' := hx'.uniq hbx
      subst ex' hr hm
      repeat' ((conv => whnf); first | refine Rng.g ?_ | refine Ob.g ?_ | refine Ob.e ?_ | refine Ob.m ?_ | refine Ob.mk (Nat.le_of_ble_eq_true rfl) ?_ | refine JoinVC.on ?_ | refine Nils.mk (fun h => ?_) ?_ | refine Val.t ?_ | refine Val.d ?_ | refine Mm.mk ?_ | (refine Br.mk (fun h => ?_) (fun h => ?_) <;> first | (exfalso; omega; done) | (exfalso; simp at h; done) | skip))
      conv => whnf
      refine CallVC.mk [] _ _ _ rfl rfl rfl (s33 R y) (fun r m' h' => ?_)
      cases h' with
      | bad e h he hr hm => exact absurd ⟨hR, hyS⟩ h
      | far h1 h2 h3 hr hm => exact (hby.no_far h3).elim
      | ok h1 h2 y' hy' hr hm =>
      have ey' := hy'.uniq hby
      subst ey' hr hm
      have q1 : (i64s (chL s)).length = s.length := by rw [i64s_len, chL_len]
      have q2 : (i64s (chR s)).length = s.length := by rw [i64s_len, chR_len]
      have c5 : HSpec Tryz.prog 31 [lL (chL s), lL (chR s)] [] (fun r m' => r = .x (.one (.own 0)) ∧ m' = [some (rowS s)]) := by
        have h5 := s31 (chL s) (chR s) (by rw [chL_len]; omega)
        rw [joinS_ch] at h5
        exact h5
      repeat' ((conv => whnf); first | refine Rng.g ?_ | refine Ob.g ?_ | refine Ob.e ?_ | refine Ob.m ?_ | refine Ob.mk (Nat.le_of_ble_eq_true rfl) ?_ | refine JoinVC.on ?_ | refine Nils.mk (fun h => ?_) ?_ | refine Val.t ?_ | refine Val.d ?_ | refine Mm.mk ?_ | (refine Br.mk (fun h => ?_) (fun h => ?_) <;> first | (exfalso; omega; done) | (exfalso; simp at h; done) | skip))
      conv => whnf
      refine CallVC.mk [] _ _ _ rfl rfl rfl (c5) (fun r m' h' => ?_)
      obtain ⟨rfl, rfl⟩ := h'
      conv => whnf
      repeat' ((conv => whnf); first | refine Rng.g ?_ | refine Ob.g ?_ | refine Ob.e ?_ | refine Ob.m ?_ | refine Ob.mk (Nat.le_of_ble_eq_true rfl) ?_ | refine JoinVC.on ?_ | refine Nils.mk (fun h => ?_) ?_ | refine Val.t ?_ | refine Val.d ?_ | refine Mm.mk ?_ | refine CallVC.pure rfl (k1) ?_ | refine CallVC.pure rfl (hw) ?_ | refine CallVC0.pure rfl (k1) ?_ | refine CallVC0.pure rfl (hw) ?_ | (refine Br.mk (fun h => ?_) (fun h => ?_) <;> first | (exfalso; omega; done) | (exfalso; simp at h; done) | skip))
      repeat refine Mm.mk ?_
      refine EndVC.mk _ rfl _ _ ⟨rfl, rfl⟩ ?_
      refine ⟨[], rfl, rfl, ?_, ?_⟩ <;> repeat' (first | exact trivial | exact rfl | exact Iff.rfl | apply And.intro)
  · exact absurd hgood h1
end Go.Sx

namespace Go.Sx
open Go Go.Proofs
set_option maxRecDepth 10000
set_option maxHeartbeats 16000000
theorem e12 : EntersF Tryz.prog 12 := enters_of Tryz.func12 (c := bodyOf Tryz.f12) (by kernel_rfl) rfl
theorem s12 (cs : List Crv) (x : List Int) (c : Cut) (wh : Int) (hwh : 0 ≤ wh ∧ wh ≤ 255) : PSpec Tryz.prog 12 [lC cs, lL x, c.x, .one (.int .u8 wh)] (xP True) := by
  have hw := s57
  have lc := crvA_len cs
  have lx := i64s_len x
  by_cases h0 : cs.length = 0 ∨ 8 < cs.length ∨ 40 < x.length
  · refine spec_of pMix (O := [(12, ([], [⟨0, [], []⟩, ⟨1, [], []⟩, ⟨2, [], []⟩, ⟨3, [0], []⟩, ⟨4, [], []⟩, ⟨5, [], []⟩, ⟨6, [], []⟩, ⟨7, [], []⟩, ⟨8, [], []⟩, ⟨9, [], []⟩])), (19, ([9], [⟨0, [], []⟩, ⟨1, [], []⟩, ⟨2, [], []⟩, ⟨3, [], []⟩, ⟨4, [], []⟩, ⟨5, [], []⟩, ⟨6, [], []⟩, ⟨7, [], []⟩, ⟨8, [], []⟩, ⟨9, [], []⟩, ⟨10, [8], []⟩, ⟨11, [], []⟩]))]) Tryz.func12 (c := bodyOf Tryz.f12) rfl (by kernel_rfl) (by kernel_rfl) Tryz.ntmps12 (res := [.tmp 8]) (by kernel_rfl) ?_
    repeat' ((conv => whnf); first | refine Rng.g ?_ | refine Ob.g ?_ | refine Ob.e ?_ | refine Ob.m ?_ | refine Ob.mk (Nat.le_of_ble_eq_true rfl) ?_ | refine JoinVC.on ?_ | refine Nils.mk (fun h => ?_) ?_ | refine Val.t ?_ | refine Val.d ?_ | refine Mm.mk ?_ | refine CallVC.pure rfl (hw) ?_ | refine CallVC0.pure rfl (hw) ?_ | (refine Br.mk (fun h => ?_) (fun h => ?_) <;> first | (exfalso; omega; done) | (exfalso; simp at h; done) | skip))
    all_goals
      repeat refine Mm.mk ?_
      refine EndVC.mk _ rfl _ _ ⟨rfl, rfl⟩ ?_
      refine ⟨[], rfl, rfl, ?_, ?_⟩ <;> repeat' (first | exact trivial | exact rfl | exact Iff.rfl | apply And.intro)
  by_cases hV : ¬ (SigOK x ∧ CutOK c ∧ 1000 ≤ c.gain)
  · refine spec_of pMix (O := [(12, ([], [⟨0, [], []⟩, ⟨1, [], []⟩, ⟨2, [], []⟩, ⟨3, [0], []⟩, ⟨4, [], []⟩, ⟨5, [], []⟩, ⟨6, [], []⟩, ⟨7, [], []⟩, ⟨8, [], []⟩, ⟨9, [], []⟩])), (19, ([9], [⟨0, [], []⟩, ⟨1, [], []⟩, ⟨2, [], []⟩, ⟨3, [], []⟩, ⟨4, [], []⟩, ⟨5, [], []⟩, ⟨6, [], []⟩, ⟨7, [], []⟩, ⟨8, [], []⟩, ⟨9, [], []⟩, ⟨10, [8], []⟩, ⟨11, [], []⟩]))]) Tryz.func12 (c := bodyOf Tryz.f12) rfl (by kernel_rfl) (by kernel_rfl) Tryz.ntmps12 (res := [.tmp 8]) (by kernel_rfl) ?_
    repeat' ((conv => whnf); first | refine Rng.g ?_ | refine Ob.g ?_ | refine Ob.e ?_ | refine Ob.m ?_ | refine Ob.mk (Nat.le_of_ble_eq_true rfl) ?_ | refine JoinVC.on ?_ | refine Nils.mk (fun h => ?_) ?_ | refine Val.t ?_ | refine Val.d ?_ | refine Mm.mk ?_ | (refine Br.mk (fun h => ?_) (fun h => ?_) <;> first | (exfalso; omega; done) | (exfalso; simp at h; done) | skip))
    conv => whnf
    refine CallVC.mk [] _ _ _ rfl rfl rfl (s61 x) (fun r m' h' => ?_)
    obtain ⟨e, rfl, rfl, he⟩ := h'
    conv => whnf
    by_cases h1 : e = 0
    rotate_left
    · repeat' ((conv => whnf); first | refine Rng.g ?_ | refine Ob.g ?_ | refine Ob.e ?_ | refine Ob.m ?_ | refine Ob.mk (Nat.le_of_ble_eq_true rfl) ?_ | refine JoinVC.on ?_ | refine Nils.mk (fun h => ?_) ?_ | refine Val.t ?_ | refine Val.d ?_ | refine Mm.mk ?_ | refine CallVC.pure rfl (hw) ?_ | refine CallVC0.pure rfl (hw) ?_ | (refine Br.mk (fun h => ?_) (fun h => ?_) <;> first | (exfalso; omega; done) | (exfalso; simp at h; done) | skip))
      repeat refine Mm.mk ?_
      refine EndVC.mk _ rfl _ _ ⟨rfl, rfl⟩ ?_
      refine ⟨[], rfl, rfl, ?_, ?_⟩ <;> repeat' (first | exact trivial | exact rfl | exact Iff.rfl | apply And.intro)
    repeat' ((conv => whnf); first | refine Rng.g ?_ | refine Ob.g ?_ | refine Ob.e ?_ | refine Ob.m ?_ | refine Ob.mk (Nat.le_of_ble_eq_true rfl) ?_ | refine JoinVC.on ?_ | refine Nils.mk (fun h => ?_) ?_ | refine Val.t ?_ | refine Val.d ?_ | refine Mm.mk ?_ | (refine Br.mk (fun h => ?_) (fun h => ?_) <;> first | (exfalso; omega; done) | (exfalso; simp at h; done) | skip))
    conv => whnf
    refine CallVC.mk [] _ _ _ rfl rfl rfl (s24 c) (fun r m' h' => ?_)
    obtain ⟨e2, rfl, rfl, he2⟩ := h'
    conv => whnf
    repeat' ((conv => whnf); first | refine Rng.g ?_ | refine Ob.g ?_ | refine Ob.e ?_ | refine Ob.m ?_ | refine Ob.mk (Nat.le_of_ble_eq_true rfl) ?_ | refine JoinVC.on ?_ | refine Nils.mk (fun h => ?_) ?_ | refine Val.t ?_ | refine Val.d ?_ | refine Mm.mk ?_ | refine CallVC.pure rfl (hw) ?_ | refine CallVC0.pure rfl (hw) ?_ | (refine Br.mk (fun h => ?_) (fun h => ?_) <;> first | (exfalso; omega; done) | (exfalso; simp at h; done) | skip))
    all_goals first | (exfalso; exact hV ⟨he.1 (by omega), he2.1 (by omega), by omega⟩) | skip
    all_goals
      repeat refine Mm.mk ?_
      refine EndVC.mk _ rfl _ _ ⟨rfl, rfl⟩ ?_
      refine ⟨[], rfl, rfl, ?_, ?_⟩ <;> repeat' (first | exact trivial | exact rfl | exact Iff.rfl | apply And.intro)
  obtain ⟨hX, hC, hg⟩ := Classical.not_not.1 hV
  refine spec_of pMix (O := [(12, ([], [⟨0, [], []⟩, ⟨1, [], []⟩, ⟨2, [], []⟩, ⟨3, [0], []⟩, ⟨4, [], []⟩, ⟨5, [], []⟩, ⟨6, [], []⟩, ⟨7, [], []⟩, ⟨8, [], []⟩, ⟨9, [], []⟩])), (19, ([9], [⟨0, [], []⟩, ⟨1, [], []⟩, ⟨2, [], []⟩, ⟨3, [], []⟩, ⟨4, [], []⟩, ⟨5, [], []⟩, ⟨6, [], []⟩, ⟨7, [], []⟩, ⟨8, [], []⟩, ⟨9, [], []⟩, ⟨10, [8], []⟩, ⟨11, [], []⟩]))]) Tryz.func12 (c := bodyOf Tryz.f12) rfl (by kernel_rfl) (by kernel_rfl) Tryz.ntmps12 (res := [.tmp 8]) (by kernel_rfl) ?_
  repeat' ((conv => whnf); first | refine Rng.g ?_ | refine Ob.g ?_ | refine Ob.e ?_ | refine Ob.m ?_ | refine Ob.mk (Nat.le_of_ble_eq_true rfl) ?_ | refine JoinVC.on ?_ | refine Nils.mk (fun h => ?_) ?_ | refine Val.t ?_ | refine Val.d ?_ | refine Mm.mk ?_ | (refine Br.mk (fun h => ?_) (fun h => ?_) <;> first | (exfalso; omega; done) | (exfalso; simp at h; done) | skip))
  conv => whnf
  refine CallVC.mk [] _ _ _ rfl rfl rfl (s61 x) (fun r m' h' => ?_)
  obtain ⟨e, rfl, rfl, he⟩ := h'
  conv => whnf
  cases he.2 hX
  repeat' ((conv => whnf); first | refine Rng.g ?_ | refine Ob.g ?_ | refine Ob.e ?_ | refine Ob.m ?_ | refine Ob.mk (Nat.le_of_ble_eq_true rfl) ?_ | refine JoinVC.on ?_ | refine Nils.mk (fun h => ?_) ?_ | refine Val.t ?_ | refine Val.d ?_ | refine Mm.mk ?_ | (refine Br.mk (fun h => ?_) (fun h => ?_) <;> first | (exfalso; omega; done) | (exfalso; simp at h; done) | skip))
  conv => whnf
  refine CallVC.mk [] _ _ _ rfl rfl rfl (s24 c) (fun r m' h' => ?_)
  obtain ⟨e2, rfl, rfl, he2⟩ := h'
  conv => whnf
  cases he2.2 hC
  repeat' ((conv => whnf); first | refine Rng.g ?_ | refine Ob.g ?_ | refine Ob.e ?_ | refine Ob.m ?_ | refine Ob.mk (Nat.le_of_ble_eq_true rfl) ?_ | refine JoinVC.on ?_ | refine Nils.mk (fun h => ?_) ?_ | refine Val.t ?_ | refine Val.d ?_ | refine Mm.mk ?_ | (refine Br.mk (fun h => ?_) (fun h => ?_) <;> first | (exfalso; omega; done) | (exfalso; simp at h; done) | skip))
  refine LoopVC.mk (fun n st => ∃ (i : Nat), i ≤ cs.length ∧ n = cs.length - i ∧ (∀ j, j < i → CrvOK (cs.getD j c0)) ∧ st = ⟨0, envA 182 [(0, .x (lC cs)), (1, .x (lL x)), (3, .x (.one (.int .u8 wh))), (6, .x (.one (.ptr 0 0))), (9, .int .i64 (i : Int))], [some (bCut c)]⟩) _ _ ⟨0, Nat.zero_le _, rfl, fun j hj => absurd hj (Nat.not_lt_zero j), rfl⟩ ?_ ?_
  · refine ⟨[some 0], rfl, rfl, ?_, ?_⟩ <;> repeat' (first | exact trivial | exact rfl | exact Iff.rfl | apply And.intro)
  rintro n _ ⟨i, hi, hn, hj, rfl⟩
  by_cases hi' : i < cs.length
  · have cA : HSpec Tryz.prog 46 [crvX cs (i : Int).toNat] [] (CRs (cs.getD i c0)) := by
      rw [crvX_eq, Int.toNat_natCast]
      exact s46 _
    repeat' ((conv => whnf); first | refine Rng.g ?_ | refine Ob.g ?_ | refine Ob.e ?_ | refine Ob.m ?_ | refine Ob.mk (Nat.le_of_ble_eq_true rfl) ?_ | refine JoinVC.on ?_ | refine Nils.mk (fun h => ?_) ?_ | refine Val.t ?_ | refine Val.d ?_ | refine Mm.mk ?_ | (refine Br.mk (fun h => ?_) (fun h => ?_) <;> first | (exfalso; omega; done) | (exfalso; simp at h; done) | skip))
    conv => whnf
    refine CallVC.mk [] _ _ _ rfl rfl rfl (cA) (fun r m' h' => ?_)
    obtain ⟨e, rfl, rfl, he⟩ := h'
    conv => whnf
    by_cases h1 : e = 0
    · repeat' ((conv => whnf); first | refine Rng.g ?_ | refine Ob.g ?_ | refine Ob.e ?_ | refine Ob.m ?_ | refine Ob.mk (Nat.le_of_ble_eq_true rfl) ?_ | refine JoinVC.on ?_ | refine Nils.mk (fun h => ?_) ?_ | refine Val.t ?_ | refine Val.d ?_ | refine Mm.mk ?_ | (refine Br.mk (fun h => ?_) (fun h => ?_) <;> first | (exfalso; omega; done) | (exfalso; simp at h; done) | skip))
      refine Back.mk (cs.length - (i + 1)) _ (by omega) ⟨i + 1, by omega, rfl, fun j hj' => ?_, rfl⟩ ?_
      · rcases Nat.lt_succ_iff_lt_or_eq.1 hj' with h' | rfl
        · exact hj j h'
        · exact he.1 h1
      · refine ⟨[some 0], rfl, rfl, ?_, ?_⟩ <;> repeat' (first | exact trivial | exact rfl | exact Iff.rfl | apply And.intro)
    · repeat' ((conv => whnf); first | refine Rng.g ?_ | refine Ob.g ?_ | refine Ob.e ?_ | refine Ob.m ?_ | refine Ob.mk (Nat.le_of_ble_eq_true rfl) ?_ | refine JoinVC.on ?_ | refine Nils.mk (fun h => ?_) ?_ | refine Val.t ?_ | refine Val.d ?_ | refine Mm.mk ?_ | refine CallVC.pure rfl (hw) ?_ | refine CallVC0.pure rfl (hw) ?_ | (refine Br.mk (fun h => ?_) (fun h => ?_) <;> first | (exfalso; omega; done) | (exfalso; simp at h; done) | skip))
      repeat refine Mm.mk ?_
      refine EndVC.mk _ rfl _ _ ⟨rfl, rfl⟩ ?_
      refine ⟨[], rfl, rfl, ?_, ?_⟩ <;> repeat' (first | exact trivial | exact rfl | exact Iff.rfl | apply And.intro)
  have ei : i = cs.length := by omega
  subst ei
  have hCh : ChOK cs := ⟨by omega, hj⟩
  obtain ⟨k, hk⟩ : ∃ k : Nat, (k : Int) = wh % cs.length := ⟨(wh % cs.length).toNat, by have := Int.emod_nonneg wh (show (cs.length : Int) ≠ 0 by omega); omega⟩
  have hkl : k < cs.length := by have := Int.emod_lt_of_pos wh (show (0 : Int) < cs.length by omega); omega
  have cB : HSpec Tryz.prog 49 [crvX cs (k : Int).toNat, lL x] [] (ApRs false (cs.getD k c0) x) := by
    rw [crvX_eq, Int.toNat_natCast]
    exact s49 _ _
  repeat' ((conv => whnf); first | rw [lc] | rw [← hk] | refine Rng.g ?_ | refine Ob.g ?_ | refine Ob.e ?_ | refine Ob.m ?_ | refine Ob.mk (Nat.le_of_ble_eq_true rfl) ?_ | refine JoinVC.on ?_ | refine Nils.mk (fun h => ?_) ?_ | refine Val.t ?_ | refine Val.d ?_ | refine Mm.mk ?_ | (refine Br.mk (fun h => ?_) (fun h => ?_) <;> first | (exfalso; omega; done) | (exfalso; simp at h; done) | skip))
  conv => whnf
  refine CallVC.mk [] _ _ _ rfl rfl rfl (cB) (fun r m' h' => ?_)
  cases h' with
  | bad e h he hr hm => exact absurd ⟨hCh.each k hkl, hX⟩ h
  | far _ _ ys hy hs hb hr hm =>
    subst hr hm
    repeat' ((conv => whnf); first | refine Rng.g ?_ | refine Ob.g ?_ | refine Ob.e ?_ | refine Ob.m ?_ | refine Ob.mk (Nat.le_of_ble_eq_true rfl) ?_ | refine JoinVC.on ?_ | refine Nils.mk (fun h => ?_) ?_ | refine Val.t ?_ | refine Val.d ?_ | refine Mm.mk ?_ | refine CallVC.pure rfl (hw) ?_ | refine CallVC0.pure rfl (hw) ?_ | (refine Br.mk (fun h => ?_) (fun h => ?_) <;> first | (exfalso; omega; done) | (exfalso; simp at h; done) | skip))
    repeat refine Mm.mk ?_
    refine EndVC.mk _ rfl _ _ ⟨rfl, rfl⟩ ?_
    refine ⟨[], rfl, rfl, ?_, ?_⟩ <;> repeat' (first | exact trivial | exact rfl | exact Iff.rfl | apply And.intro)
  | ok hCk _ y hy hs hr hm =>
  subst hr hm
  have hX4 := hX.len
  have hYs := hy.sig (by decide)
  have hXs : sigB 32767 x := hX.each
  have ly := i64s_len y
  have hY : SigOK y := ⟨by omega, hYs⟩
  have lj : (joinS y y).length = y.length := by rw [joinS_len, Nat.min_self]
  have jg : ∀ j, j < y.length → (joinS y y).getD j s0 = ⟨y.getD j 0, y.getD j 0⟩ := fun j hj => by simp [joinS, List.getD_eq_getElem?_getD, List.getElem?_range hj]
  have hJ : SmpsOK (joinS y y) := ⟨by omega, fun j hj => by
    rw [lj] at hj
    rw [jg j hj]
    have := hYs j
    unfold Smp.ok
    simp only
    omega⟩
  repeat' ((conv => whnf); first | refine Rng.g ?_ | refine Ob.g ?_ | refine Ob.e ?_ | refine Ob.m ?_ | refine Ob.mk (Nat.le_of_ble_eq_true rfl) ?_ | refine JoinVC.on ?_ | refine Nils.mk (fun h => ?_) ?_ | refine Val.t ?_ | refine Val.d ?_ | refine Mm.mk ?_ | (refine Br.mk (fun h => ?_) (fun h => ?_) <;> first | (exfalso; omega; done) | (exfalso; simp at h; done) | skip))
  conv => whnf
  refine CallVC0.mk _ _ rfl (s31 y y (by omega)) (fun r m' h' => ?_)
  obtain ⟨rfl, rfl⟩ := h'
  conv => whnf
  repeat' ((conv => whnf); first | refine Rng.g ?_ | refine Ob.g ?_ | refine Ob.e ?_ | refine Ob.m ?_ | refine Ob.mk (Nat.le_of_ble_eq_true rfl) ?_ | refine JoinVC.on ?_ | refine Nils.mk (fun h => ?_) ?_ | refine Val.t ?_ | refine Val.d ?_ | refine Mm.mk ?_ | (refine Br.mk (fun h => ?_) (fun h => ?_) <;> first | (exfalso; omega; done) | (exfalso; simp at h; done) | skip))
  conv => whnf
  refine CallVC.mk [] _ _ _ rfl rfl rfl (s30 c (joinS y y)) (fun r m' h' => ?_)
  cases h' with
  | bad e h he hr hm => exact absurd ⟨hC, hJ⟩ h
  | ok _ _ hr hm =>
  subst hr hm
  obtain ⟨g, hgd⟩ : ∃ g, cutF c (joinS y y) = g := ⟨_, rfl⟩
  rw [hgd]
  have lg : g.length = y.length := by rw [← hgd, cutF_len, lj]
  have lgs := smpA_len g
  have gv : ∀ j, j < y.length → g.getD j s0 = ptF c ⟨y.getD j 0, y.getD j 0⟩ := fun j hj => by rw [← hgd, cutF_get _ _ _ (by omega), jg j hj]
  repeat' ((conv => whnf); first | refine Rng.g ?_ | refine Ob.g ?_ | refine Ob.e ?_ | refine Ob.m ?_ | refine Ob.mk (Nat.le_of_ble_eq_true rfl) ?_ | refine JoinVC.on ?_ | refine Nils.mk (fun h => ?_) ?_ | refine Val.t ?_ | refine Val.d ?_ | refine Mm.mk ?_ | (refine Br.mk (fun h => ?_) (fun h => ?_) <;> first | (exfalso; omega; done) | (exfalso; simp at h; done) | skip))
  refine LoopVC.mk (fun n st => ∃ (i : Nat), i ≤ y.length ∧ n = y.length - i ∧ st = ⟨0, envA 182 [(0, .x (lC cs)), (1, .x (lL x)), (6, .x (.one (.ptr 0 0))), (10, .int .i64 (k : Int)), (13, .x (.one (.own 1))), (14, .x (.one (.own 2))), (15, .int .i64 (i : Int))], [some (bCut c), some (rowP g), some (rowL (y.take i))]⟩) _ _ ⟨0, Nat.zero_le _, rfl, rfl⟩ ?_ ?_
  · refine ⟨[some 0, some 3, none], rfl, rfl, ?_, ?_⟩ <;> repeat' (first | exact trivial | exact rfl | exact Iff.rfl | apply And.intro)
  rintro n _ ⟨i, hi, hn, rfl⟩
  have lt : (i64s (y.take i)).length = i := by rw [i64s_len, List.length_take]; omega
  by_cases hi' : i < y.length
  · have hYi := hYs i
    have cX : HSpec Tryz.prog 32 [c.x, .agg [.int .i64 (rI (smpA g) (i : Int).toNat 0), .int .i64 (rI (smpA g) (i : Int).toNat (0 + 1))]] [] (fun r m' => r = .tup [(⟨y.getD i 0, y.getD i 0⟩ : Smp).x, I 0] ∧ m' = []) := by
      have h1 := s32x c ⟨y.getD i 0, y.getD i 0⟩ hC hg (by unfold Smp.ok; simp only; omega)
      rw [← gv i hi', ← smpX_eq] at h1
      exact h1
    repeat' ((conv => whnf); first | refine Rng.g ?_ | refine Ob.g ?_ | refine Ob.e ?_ | refine Ob.m ?_ | refine Ob.mk (Nat.le_of_ble_eq_true rfl) ?_ | refine JoinVC.on ?_ | refine Nils.mk (fun h => ?_) ?_ | refine Val.t ?_ | refine Val.d ?_ | refine Mm.mk ?_ | (refine Br.mk (fun h => ?_) (fun h => ?_) <;> first | (exfalso; omega; done) | (exfalso; simp at h; done) | skip))
    conv => whnf
    refine CallVC.mk [] _ _ _ rfl rfl rfl (cX) (fun r m' h' => ?_)
    obtain ⟨rfl, rfl⟩ := h'
    conv => whnf
    repeat' ((conv => whnf); first | refine Rng.g ?_ | refine Ob.g ?_ | refine Ob.e ?_ | refine Ob.m ?_ | refine Ob.mk (Nat.le_of_ble_eq_true rfl) ?_ | refine JoinVC.on ?_ | refine Nils.mk (fun h => ?_) ?_ | refine Val.t ?_ | refine Val.d ?_ | refine Mm.mk ?_ | (refine Br.mk (fun h => ?_) (fun h => ?_) <;> first | (exfalso; omega; done) | (exfalso; simp at h; done) | skip))
    repeat refine Mm.mk ?_
    refine Ob.mk (by rw [eb2]; simp only [List.length_cons, List.length_nil]; omega) ?_
    repeat' ((conv => whnf); first | refine Rng.g ?_ | refine Ob.g ?_ | refine Ob.e ?_ | refine Ob.m ?_ | refine Ob.mk (Nat.le_of_ble_eq_true rfl) ?_ | refine JoinVC.on ?_ | refine Nils.mk (fun h => ?_) ?_ | refine Val.t ?_ | refine Val.d ?_ | refine Mm.mk ?_ | (refine Br.mk (fun h => ?_) (fun h => ?_) <;> first | (exfalso; omega; done) | (exfalso; simp at h; done) | skip))
    refine Back.mk (y.length - (i + 1)) _ (by omega) ⟨i + 1, by omega, rfl, rfl⟩ ?_
    rw [take_snoc y i 0 hi']
    refine ⟨[some 0, some 1, some 5], rfl, rfl, ?_, ?_⟩ <;> repeat' (first | exact trivial | exact rfl | exact Iff.rfl | apply And.intro)
    rw [i64s_snoc]
  have ei : i = y.length := by omega
  subst ei
  rw [List.take_length]
  repeat' ((conv => whnf); first | refine Rng.g ?_ | refine Ob.g ?_ | refine Ob.e ?_ | refine Ob.m ?_ | refine Ob.mk (Nat.le_of_ble_eq_true rfl) ?_ | refine JoinVC.on ?_ | refine Nils.mk (fun h => ?_) ?_ | refine Val.t ?_ | refine Val.d ?_ | refine Mm.mk ?_ | (refine Br.mk (fun h => ?_) (fun h => ?_) <;> first | (exfalso; omega; done) | (exfalso; simp at h; done) | skip))
  conv => whnf
  refine CallVC.mk [] _ _ _ rfl rfl rfl (s62 cs x y hCh hX hY hs.symm) (fun r m' h' => ?_)
  cases h' with
  | none hN hr hm => exact absurd ⟨hy, hs⟩ (hN k hkl)
  | ok j hj hm1 hno hr hm =>
  subst hr hm
  have hjk : j ≤ k := by
    by_cases h : j ≤ k
    · exact h
    · exact absurd ⟨hy, hs⟩ (hno k (by omega))
  have cU : HSpec Tryz.prog 63 [crvX cs (j : Int).toNat, lL y] [] (ApRs true (cs.getD j c0) y) := by
    rw [crvX_eq, Int.toNat_natCast]
    exact s63 _ _
  have hInv := hm1.1.inv hm1.2 hXs
  repeat' ((conv => whnf); first | refine Rng.g ?_ | refine Ob.g ?_ | refine Ob.e ?_ | refine Ob.m ?_ | refine Ob.mk (Nat.le_of_ble_eq_true rfl) ?_ | refine JoinVC.on ?_ | refine Nils.mk (fun h => ?_) ?_ | refine Val.t ?_ | refine Val.d ?_ | refine Mm.mk ?_ | (refine Br.mk (fun h => ?_) (fun h => ?_) <;> first | (exfalso; omega; done) | (exfalso; simp at h; done) | skip))
  conv => whnf
  refine CallVC.mk [] _ _ _ rfl rfl rfl (cU) (fun r m' h' => ?_)
  cases h' with
  | bad e h he hr hm => exact absurd ⟨hCh.each j hj, hY⟩ h
  | far _ _ zs hz hzs hb hr hm => exact (hz.no_far' hzs hb hInv hs.symm).elim
  | ok _ _ zs hz hzs hr hm =>
  subst hr hm
  have ez : zs = x := hz.same' hInv hzs hs.symm
  subst ez
  repeat' ((conv => whnf); first | refine Rng.g ?_ | refine Ob.g ?_ | refine Ob.e ?_ | refine Ob.m ?_ | refine Ob.mk (Nat.le_of_ble_eq_true rfl) ?_ | refine JoinVC.on ?_ | refine Nils.mk (fun h => ?_) ?_ | refine Val.t ?_ | refine Val.d ?_ | refine Mm.mk ?_ | (refine Br.mk (fun h => ?_) (fun h => ?_) <;> first | (exfalso; omega; done) | (exfalso; simp at h; done) | skip))
  refine LoopVC.mk (fun n st => ∃ (i : Nat), i ≤ zs.length ∧ n = zs.length - i ∧ st = ⟨0, envA 182 [(1, .x (lL zs)), (19, .x (.one (.own 0))), (20, .int .i64 (i : Int))], [some (rowL zs)]⟩) _ _ ⟨0, Nat.zero_le _, rfl, rfl⟩ ?_ ?_
  · refine ⟨[some 3], rfl, rfl, ?_, ?_⟩ <;> repeat' (first | exact trivial | exact rfl | exact Iff.rfl | apply And.intro)
  rintro n _ ⟨i, hi, hn, rfl⟩
  by_cases hi' : i < zs.length
  · repeat' ((conv => whnf); first | refine Rng.g ?_ | refine Ob.g ?_ | refine Ob.e ?_ | refine Ob.m ?_ | refine Ob.mk (Nat.le_of_ble_eq_true rfl) ?_ | refine JoinVC.on ?_ | refine Nils.mk (fun h => ?_) ?_ | refine Val.t ?_ | refine Val.d ?_ | refine Mm.mk ?_ | (refine Br.mk (fun h => ?_) (fun h => ?_) <;> first | (exfalso; omega; done) | (exfalso; simp at h; done) | skip))
    refine Back.mk (zs.length - (i + 1)) _ (by omega) ⟨i + 1, by omega, rfl, rfl⟩ ?_
    refine ⟨[some 0], rfl, rfl, ?_, ?_⟩ <;> repeat' (first | exact trivial | exact rfl | exact Iff.rfl | apply And.intro)
  · repeat' ((conv => whnf); first | refine Rng.g ?_ | refine Ob.g ?_ | refine Ob.e ?_ | refine Ob.m ?_ | refine Ob.mk (Nat.le_of_ble_eq_true rfl) ?_ | refine JoinVC.on ?_ | refine Nils.mk (fun h => ?_) ?_ | refine Val.t ?_ | refine Val.d ?_ | refine Mm.mk ?_ | refine CallVC.pure rfl (hw) ?_ | refine CallVC0.pure rfl (hw) ?_ | (refine Br.mk (fun h => ?_) (fun h => ?_) <;> first | (exfalso; omega; done) | (exfalso; simp at h; done) | skip))
    repeat refine Mm.mk ?_
    refine EndVC.mk _ rfl _ _ ⟨rfl, rfl⟩ ?_
    refine ⟨[], rfl, rfl, ?_, ?_⟩ <;> repeat' (first | exact trivial | exact rfl | exact Iff.rfl | apply And.intro)
end Go.Sx

namespace Go.Sx
open Go Go.Proofs
set_option maxRecDepth 10000
/-! ### Rows read as takes, parts, curves, samples -/
theorem wfr_of : ∀ {ks : List CK} {r : List Cell}, r.length = ks.length → (∀ (j : Nat) k c, ks[j]? = some k → r[j]? = some c → Wf k c) → WfR ks r
  | [], [], _, _ => .nil
  | [], _ :: _, h, _ => by simp at h
  | _ :: _, [], h, _ => by simp at h
  | k :: ks, c :: cs, h, hw => .cons (hw 0 k c rfl rfl) (wfr_of (by simpa using h) fun j k' c' h1 h2 => hw (j + 1) k' c' (by simpa using h1) (by simpa using h2))
theorem wf_map {α : Type} {ks : List CK} {row : α → List Cell} {p : α → Prop} (hrow : ∀ r, WfR ks r → ∃ x, r = row x ∧ p x) {a : Arr} (h : Wf (.sl ks) (.sl a)) : ∃ l : List α, a = l.map row ∧ ∀ x ∈ l, p x := by
  cases h with
  | sl hl hr hw =>
    clear hl
    induction a with
    | nil => exact ⟨[], rfl, fun x hx => by simp at hx⟩
    | cons r a ih =>
      obtain ⟨l, rfl, h2⟩ := ih (fun r h => hr r (List.mem_cons_of_mem _ h)) (fun r h => hw r (List.mem_cons_of_mem _ h))
      obtain ⟨x, rfl, h3⟩ := hrow r (wfr_of (hr r (List.mem_cons_self ..)) (hw r (List.mem_cons_self ..)))
      exact ⟨x :: l, rfl, fun y hy => by rcases List.mem_cons.1 hy with rfl | hy; (· exact h3); exact h2 y hy⟩
theorem mem_getD {α : Type} {p : α → Prop} {l : List α} {d : α} (h : ∀ x ∈ l, p x) (hd : p d) (j : Nat) : p (l.getD j d) := by
  rw [List.getD_eq_getElem?_getD]
  cases hx : l[j]? with
  | none => exact hd
  | some x => exact h x (List.mem_of_getElem? hx)
theorem inI_0 : inI 0 := by unfold inI; omega
theorem wf_smps {a : Arr} (h : Wf (.sl KS) (.sl a)) : ∃ l : List Smp, a = smpA l ∧ SmpI l := by
  obtain ⟨l, h1, h2⟩ := wf_map (row := fun s : Smp => [.int s.l, .int s.r]) (p := fun s => inI s.l ∧ inI s.r) (fun r hr => by
    obtain ⟨c0, _, rfl, g0, h1⟩ := hr.inv
    obtain ⟨n0, rfl, i0⟩ := g0.int_inv
    obtain ⟨c1, _, rfl, g1, h2⟩ := h1.inv
    obtain ⟨n1, rfl, i1⟩ := g1.int_inv
    cases h2.nil_inv
    exact ⟨⟨n0, n1⟩, rfl, by simpa [inR, inI] using i0, by simpa [inR, inI] using i1⟩) h
  exact ⟨l, h1, mem_getD h2 ⟨inI_0, inI_0⟩⟩
theorem wf_taks {a : Arr} (h : Wf (.sl KT) (.sl a)) : ∃ T : List Tak, a = takA T ∧ TakI T := by
  obtain ⟨l, h1, h2⟩ := wf_map (row := fun t : Tak => [.str t.nm, .sl (smpA t.d)]) (p := fun t => SmpI t.d) (fun r hr => by
    obtain ⟨c0, _, rfl, g0, h1⟩ := hr.inv
    obtain ⟨n0, rfl, i0⟩ := g0.str_inv
    obtain ⟨c1, _, rfl, g1, h2⟩ := h1.inv
    obtain ⟨a1, rfl, w1⟩ := g1.sl_inv
    obtain ⟨d, rfl, hd⟩ := wf_smps w1
    cases h2.nil_inv
    exact ⟨⟨n0, d⟩, rfl, hd⟩) h
  exact ⟨l, h1, mem_getD h2 (fun j => ⟨inI_0, inI_0⟩)⟩
theorem wf_prts {a : Arr} (h : Wf (.sl K7i) (.sl a)) : ∃ l : List Prt, a = prtA l := by
  obtain ⟨l, h1, _⟩ := wf_map (row := Prt.row) (p := fun _ => True) (fun r hr => by
    obtain ⟨c0, _, rfl, g0, h1⟩ := hr.inv
    obtain ⟨n0, rfl, _⟩ := g0.int_inv
    obtain ⟨c1, _, rfl, g1, h2⟩ := h1.inv
    obtain ⟨n1, rfl, _⟩ := g1.int_inv
    obtain ⟨c2, _, rfl, g2, h3⟩ := h2.inv
    obtain ⟨n2, rfl, _⟩ := g2.int_inv
    obtain ⟨c3, _, rfl, g3, h4⟩ := h3.inv
    obtain ⟨n3, rfl, _⟩ := g3.int_inv
    obtain ⟨c4, _, rfl, g4, h5⟩ := h4.inv
    obtain ⟨n4, rfl, _⟩ := g4.int_inv
    obtain ⟨c5, _, rfl, g5, h6⟩ := h5.inv
    obtain ⟨n5, rfl, _⟩ := g5.int_inv
    obtain ⟨c6, _, rfl, g6, h7⟩ := h6.inv
    obtain ⟨n6, rfl, _⟩ := g6.int_inv
    cases h7.nil_inv
    exact ⟨⟨n0, n1, n2, n3, n4, n5, n6⟩, rfl, trivial⟩) h
  exact ⟨l, h1⟩
theorem wf_crvs {a : Arr} (h : Wf (.sl KC) (.sl a)) : ∃ l : List Crv, a = crvA l := by
  obtain ⟨l, h1, _⟩ := wf_map (row := Crv.row) (p := fun _ => True) (fun r hr => by
    obtain ⟨c0, _, rfl, g0, h1⟩ := hr.inv
    obtain ⟨a0, rfl, w0⟩ := g0.sl_inv
    obtain ⟨f, rfl, _⟩ := wf_ints w0
    obtain ⟨c1, _, rfl, g1, h2⟩ := h1.inv
    obtain ⟨a1, rfl, w1⟩ := g1.sl_inv
    obtain ⟨b, rfl, _⟩ := wf_ints w1
    obtain ⟨c2, _, rfl, g2, h3⟩ := h2.inv
    obtain ⟨n2, rfl, _⟩ := g2.int_inv
    cases h3.nil_inv
    exact ⟨⟨f, b, n2⟩, rfl, trivial⟩) h
  exact ⟨l, h1⟩
end Go.Sx
