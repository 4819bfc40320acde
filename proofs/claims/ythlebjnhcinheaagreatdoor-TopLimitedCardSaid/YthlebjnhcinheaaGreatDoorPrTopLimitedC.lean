import Derived.Test.YthlebjnhcinheaaGreatDoorPrTopLimitedB
import Derived.Test.YthlebjnhcinheaaGreatDoorXc
namespace Go.Sx
open Go Go.Proofs
set_option maxRecDepth 10000
set_option maxHeartbeats 4000000
/-- The least radius of a groove. -/
inductive LsRs (c : Cut) (l : List Smp) (per : Int) (r : AV) (m' : List (Option Blk)) : Prop
  | bad (e : Int) (h : ¬ (CutOK c ∧ PtsOK l ∧ 1 ≤ per ∧ per ≤ 65536)) (he : e ≠ 0) (hr : r = .tup [I 0, I e]) (hm : m' = [])
  | none (ht : ∀ r, 0 ≤ r → r ≤ 4194304 → TrkOK (Trk.at ⟨c, l, 0, per⟩ r)) (h : ¬ pL ⟨c, l, 0, per⟩ 4194304) (hr : r = .tup [I 0, I 14]) (hm : m' = [])
  | ok (ht : ∀ r, 0 ≤ r → r ≤ 4194304 → TrkOK (Trk.at ⟨c, l, 0, per⟩ r)) (k : Int) (hk : Least (pL ⟨c, l, 0, per⟩) 4194305 k) (hk' : k ≤ 4194304) (hr : r = .tup [I k, I 0]) (hm : m' = [])
theorem s35 (c : Cut) (l : List Smp) (per : Int) : HSpec Tryz.prog 35 [c.x, lS l, I per] [] (LsRs c l per) := by
  by_cases hb : ¬ (CutOK c ∧ PtsOK l)
  · refine spec_of pMix (O := []) Tryz.func35 (c := bodyOf Tryz.f35) rfl (by kernel_rfl) (by kernel_rfl) Tryz.ntmps35 (res := [.tmp 6, .tmp 7]) (by kernel_rfl) ?_
    repeat' (conv => whnf
             first
             | refine Rng.ok (by simp only [inR]; omega) ?_
             | refine Ob.mk (by first | omega | (simp; done) | decide | (simp; omega)) ?_
             | refine Ob.mk (show eqOK _ _ = true from by kernel_rfl) ?_
             | refine Ob.mk (show keyOK _ _ _ = true from by kernel_rfl) ?_
             | refine Val.mk _ (shr_val (by simp; rfl)) ?_
             | refine Ob.mk (Nat.le_of_ble_eq_true rfl) ?_
             | refine JoinVC.on ?_
             | refine Nils.mk (fun h => ?_) ?_
             | refine Val.mk _ (Int.tmod_eq_emod_of_nonneg (by omega)) ?_
             | refine Val.mk _ (Int.tdiv_eq_ediv_of_nonneg (by omega)) ?_
             | refine Mm.mk ?_
             | (refine Br.mk (fun h => ?_) (fun h => ?_) <;> first | (exfalso; omega; done) | (exfalso; simp at h; done) | skip))
    conv => whnf
    refine CallVC.mk [] _ _ _ rfl rfl rfl (s112 c l) (fun r m' h' => ?_)
    rcases h' with ⟨e, he, he0, rfl, rfl⟩ | ⟨h1, h2, rfl, rfl⟩
    · repeat' (conv => whnf
               first
               | refine Rng.ok (by simp only [inR]; omega) ?_
               | refine Ob.mk (by first | omega | (simp; done) | decide | (simp; omega)) ?_
               | refine Ob.mk (show eqOK _ _ = true from by kernel_rfl) ?_
               | refine Ob.mk (show keyOK _ _ _ = true from by kernel_rfl) ?_
               | refine Val.mk _ (shr_val (by simp; rfl)) ?_
               | refine Ob.mk (Nat.le_of_ble_eq_true rfl) ?_
               | refine JoinVC.on ?_
               | refine Nils.mk (fun h => ?_) ?_
               | refine Val.mk _ (Int.tmod_eq_emod_of_nonneg (by omega)) ?_
               | refine Val.mk _ (Int.tdiv_eq_ediv_of_nonneg (by omega)) ?_
               | refine Mm.mk ?_
               | (refine Br.mk (fun h => ?_) (fun h => ?_) <;> first | (exfalso; omega; done) | (exfalso; simp at h; done) | skip))
      repeat refine Mm.mk ?_
      conv => whnf
      refine EndVC.mk _ rfl _ _ (.bad e (fun h => he ⟨h.1, h.2.1⟩) he0 rfl rfl) ?_
      refine ⟨[], rfl, rfl, ?_, ?_⟩ <;> repeat' (first | exact trivial | exact rfl | exact Iff.rfl | apply And.intro)
    · exact absurd ⟨h1, h2⟩ hb
  replace hb := Classical.not_not.1 hb
  by_cases hp : 1 ≤ per ∧ per ≤ 65536
  · have c1 := s113 0 per
    rw [if_pos ⟨by decide, hp⟩] at c1
    have ht : ∀ r, 0 ≤ r → r ≤ 4194304 → TrkOK (Trk.at ⟨c, l, 0, per⟩ r) := fun r h1 h2 => ⟨hb.1, hb.2, ⟨h1, h2⟩, hp⟩
    refine spec_of pMix (O := []) Tryz.func35 (c := bodyOf Tryz.f35) rfl (by kernel_rfl) (by kernel_rfl) Tryz.ntmps35 (res := [.tmp 6, .tmp 7]) (by kernel_rfl) ?_
    repeat' (conv => whnf
             first
             | refine Rng.ok (by simp only [inR]; omega) ?_
             | refine Ob.mk (by first | omega | (simp; done) | decide | (simp; omega)) ?_
             | refine Ob.mk (show eqOK _ _ = true from by kernel_rfl) ?_
             | refine Ob.mk (show keyOK _ _ _ = true from by kernel_rfl) ?_
             | refine Val.mk _ (shr_val (by simp; rfl)) ?_
             | refine Ob.mk (Nat.le_of_ble_eq_true rfl) ?_
             | refine JoinVC.on ?_
             | refine Nils.mk (fun h => ?_) ?_
             | refine Val.mk _ (Int.tmod_eq_emod_of_nonneg (by omega)) ?_
             | refine Val.mk _ (Int.tdiv_eq_ediv_of_nonneg (by omega)) ?_
             | refine Mm.mk ?_
             | (refine Br.mk (fun h => ?_) (fun h => ?_) <;> first | (exfalso; omega; done) | (exfalso; simp at h; done) | skip))
    conv => whnf
    refine CallVC.mk [] _ _ _ rfl rfl rfl (s112 c l) (fun r m' h' => ?_)
    rcases h' with ⟨e, he, he0, rfl, rfl⟩ | ⟨h1, h2, rfl, rfl⟩
    · exact absurd hb he
    repeat' (conv => whnf
             first
             | refine Rng.ok (by simp only [inR]; omega) ?_
             | refine Ob.mk (by first | omega | (simp; done) | decide | (simp; omega)) ?_
             | refine Ob.mk (show eqOK _ _ = true from by kernel_rfl) ?_
             | refine Ob.mk (show keyOK _ _ _ = true from by kernel_rfl) ?_
             | refine Val.mk _ (shr_val (by simp; rfl)) ?_
             | refine Ob.mk (Nat.le_of_ble_eq_true rfl) ?_
             | refine JoinVC.on ?_
             | refine Nils.mk (fun h => ?_) ?_
             | refine Val.mk _ (Int.tmod_eq_emod_of_nonneg (by omega)) ?_
             | refine Val.mk _ (Int.tdiv_eq_ediv_of_nonneg (by omega)) ?_
             | refine Mm.mk ?_
             | refine CallVC.pure rfl (c1) ?_
             | refine CallVC0.pure rfl (c1) ?_
             | (refine Br.mk (fun h => ?_) (fun h => ?_) <;> first | (exfalso; omega; done) | (exfalso; simp at h; done) | skip))
    conv => whnf
    refine CallVC.mk [1, 2] _ _ _ rfl rfl rfl (s114L ⟨c, l, 0, per⟩ 0 ht) (fun r m' h' => ?_)
    obtain ⟨k, r', hk, hk2, rfl⟩ := h'
    rcases hk2 with ⟨hk3, rfl⟩ | ⟨hk3, rfl⟩
    · repeat' (conv => whnf
               first
               | refine Rng.ok (by simp only [inR]; omega) ?_
               | refine Ob.mk (by first | omega | (simp; done) | decide | (simp; omega)) ?_
               | refine Ob.mk (show eqOK _ _ = true from by kernel_rfl) ?_
               | refine Ob.mk (show keyOK _ _ _ = true from by kernel_rfl) ?_
               | refine Val.mk _ (shr_val (by simp; rfl)) ?_
               | refine Ob.mk (Nat.le_of_ble_eq_true rfl) ?_
               | refine JoinVC.on ?_
               | refine Nils.mk (fun h => ?_) ?_
               | refine Val.mk _ (Int.tmod_eq_emod_of_nonneg (by omega)) ?_
               | refine Val.mk _ (Int.tdiv_eq_ediv_of_nonneg (by omega)) ?_
               | refine Mm.mk ?_
               | (refine Br.mk (fun h => ?_) (fun h => ?_) <;> first | (exfalso; omega; done) | (exfalso; simp at h; done) | skip))
      repeat refine Mm.mk ?_
      conv => whnf
      refine EndVC.mk _ rfl _ _ (.none ht (hk.no 4194304 (by decide) hk3) rfl rfl) ?_
      refine ⟨[], rfl, rfl, ?_, ?_⟩ <;> repeat' (first | exact trivial | exact rfl | exact Iff.rfl | apply And.intro)
    · repeat' (conv => whnf
               first
               | refine Rng.ok (by simp only [inR]; omega) ?_
               | refine Ob.mk (by first | omega | (simp; done) | decide | (simp; omega)) ?_
               | refine Ob.mk (show eqOK _ _ = true from by kernel_rfl) ?_
               | refine Ob.mk (show keyOK _ _ _ = true from by kernel_rfl) ?_
               | refine Val.mk _ (shr_val (by simp; rfl)) ?_
               | refine Ob.mk (Nat.le_of_ble_eq_true rfl) ?_
               | refine JoinVC.on ?_
               | refine Nils.mk (fun h => ?_) ?_
               | refine Val.mk _ (Int.tmod_eq_emod_of_nonneg (by omega)) ?_
               | refine Val.mk _ (Int.tdiv_eq_ediv_of_nonneg (by omega)) ?_
               | refine Mm.mk ?_
               | (refine Br.mk (fun h => ?_) (fun h => ?_) <;> first | (exfalso; omega; done) | (exfalso; simp at h; done) | skip))
      repeat refine Mm.mk ?_
      conv => whnf
      refine EndVC.mk _ rfl _ _ (.ok ht k hk hk3 rfl rfl) ?_
      refine ⟨[], rfl, rfl, ?_, ?_⟩ <;> repeat' (first | exact trivial | exact rfl | exact Iff.rfl | apply And.intro)
  · have c1 := s113 0 per
    rw [if_neg (fun h => hp h.2)] at c1
    refine spec_of pMix (O := []) Tryz.func35 (c := bodyOf Tryz.f35) rfl (by kernel_rfl) (by kernel_rfl) Tryz.ntmps35 (res := [.tmp 6, .tmp 7]) (by kernel_rfl) ?_
    repeat' (conv => whnf
             first
             | refine Rng.ok (by simp only [inR]; omega) ?_
             | refine Ob.mk (by first | omega | (simp; done) | decide | (simp; omega)) ?_
             | refine Ob.mk (show eqOK _ _ = true from by kernel_rfl) ?_
             | refine Ob.mk (show keyOK _ _ _ = true from by kernel_rfl) ?_
             | refine Val.mk _ (shr_val (by simp; rfl)) ?_
             | refine Ob.mk (Nat.le_of_ble_eq_true rfl) ?_
             | refine JoinVC.on ?_
             | refine Nils.mk (fun h => ?_) ?_
             | refine Val.mk _ (Int.tmod_eq_emod_of_nonneg (by omega)) ?_
             | refine Val.mk _ (Int.tdiv_eq_ediv_of_nonneg (by omega)) ?_
             | refine Mm.mk ?_
             | (refine Br.mk (fun h => ?_) (fun h => ?_) <;> first | (exfalso; omega; done) | (exfalso; simp at h; done) | skip))
    conv => whnf
    refine CallVC.mk [] _ _ _ rfl rfl rfl (s112 c l) (fun r m' h' => ?_)
    rcases h' with ⟨e, he, he0, rfl, rfl⟩ | ⟨h1, h2, rfl, rfl⟩
    · exact absurd hb he
    repeat' (conv => whnf
             first
             | refine Rng.ok (by simp only [inR]; omega) ?_
             | refine Ob.mk (by first | omega | (simp; done) | decide | (simp; omega)) ?_
             | refine Ob.mk (show eqOK _ _ = true from by kernel_rfl) ?_
             | refine Ob.mk (show keyOK _ _ _ = true from by kernel_rfl) ?_
             | refine Val.mk _ (shr_val (by simp; rfl)) ?_
             | refine Ob.mk (Nat.le_of_ble_eq_true rfl) ?_
             | refine JoinVC.on ?_
             | refine Nils.mk (fun h => ?_) ?_
             | refine Val.mk _ (Int.tmod_eq_emod_of_nonneg (by omega)) ?_
             | refine Val.mk _ (Int.tdiv_eq_ediv_of_nonneg (by omega)) ?_
             | refine Mm.mk ?_
             | refine CallVC.pure rfl (c1) ?_
             | refine CallVC0.pure rfl (c1) ?_
             | (refine Br.mk (fun h => ?_) (fun h => ?_) <;> first | (exfalso; omega; done) | (exfalso; simp at h; done) | skip))
    repeat refine Mm.mk ?_
    conv => whnf
    refine EndVC.mk _ rfl _ _ (.bad 3 (fun h => hp h.2.2) (by decide) rfl rfl) ?_
    refine ⟨[], rfl, rfl, ?_, ?_⟩ <;> repeat' (first | exact trivial | exact rfl | exact Iff.rfl | apply And.intro)
theorem s44 (c : Cut) (l : List Smp) (per : Int) (i : Nat) (hC : CutOK c) (hP : PtsOK l) (hp : 1 ≤ per ∧ per ≤ 65536) (hi : i < l.length) : HSpec Tryz.prog 44 [c.x, lS l, I per, I (i : Int)] [] (fun r m' => ∃ k, Least (pN ⟨c, l, 0, per⟩ i) 4194305 k ∧ ((4194304 < k ∧ r = .tup [I 0, I 14]) ∨ (k ≤ 4194304 ∧ r = .tup [I k, I 0])) ∧ m' = []) := by
  have lp := smpA_len l
  have c1 := s113 0 per
  rw [if_pos ⟨by decide, hp⟩] at c1
  have ht : ∀ r, 0 ≤ r → r ≤ 4194304 → TrkOK (Trk.at ⟨c, l, 0, per⟩ r) := fun r h1 h2 => ⟨hC, hP, ⟨h1, h2⟩, hp⟩
  refine spec_of pMix (O := []) Tryz.func44 (c := bodyOf Tryz.f44) rfl (by kernel_rfl) (by kernel_rfl) Tryz.ntmps44 (res := [.tmp 8, .tmp 9]) (by kernel_rfl) ?_
  repeat' (conv => whnf
           first
           | refine Rng.ok (by simp only [inR]; omega) ?_
           | refine Ob.mk (by first | omega | (simp; done) | decide | (simp; omega)) ?_
           | refine Ob.mk (show eqOK _ _ = true from by kernel_rfl) ?_
           | refine Ob.mk (show keyOK _ _ _ = true from by kernel_rfl) ?_
           | refine Val.mk _ (shr_val (by simp; rfl)) ?_
           | refine Ob.mk (Nat.le_of_ble_eq_true rfl) ?_
           | refine JoinVC.on ?_
           | refine Nils.mk (fun h => ?_) ?_
           | refine Val.mk _ (Int.tmod_eq_emod_of_nonneg (by omega)) ?_
           | refine Val.mk _ (Int.tdiv_eq_ediv_of_nonneg (by omega)) ?_
           | refine Mm.mk ?_
           | (refine Br.mk (fun h => ?_) (fun h => ?_) <;> first | (exfalso; omega; done) | (exfalso; simp at h; done) | skip))
  conv => whnf
  refine CallVC.mk [] _ _ _ rfl rfl rfl (s112 c l) (fun r m' h' => ?_)
  rcases h' with ⟨e, he, he0, rfl, rfl⟩ | ⟨h1, h2, rfl, rfl⟩
  · exact absurd ⟨hC, hP⟩ he
  repeat' (conv => whnf
           first
           | refine Rng.ok (by simp only [inR]; omega) ?_
           | refine Ob.mk (by first | omega | (simp; done) | decide | (simp; omega)) ?_
           | refine Ob.mk (show eqOK _ _ = true from by kernel_rfl) ?_
           | refine Ob.mk (show keyOK _ _ _ = true from by kernel_rfl) ?_
           | refine Val.mk _ (shr_val (by simp; rfl)) ?_
           | refine Ob.mk (Nat.le_of_ble_eq_true rfl) ?_
           | refine JoinVC.on ?_
           | refine Nils.mk (fun h => ?_) ?_
           | refine Val.mk _ (Int.tmod_eq_emod_of_nonneg (by omega)) ?_
           | refine Val.mk _ (Int.tdiv_eq_ediv_of_nonneg (by omega)) ?_
           | refine Mm.mk ?_
           | refine CallVC.pure rfl (c1) ?_
           | refine CallVC0.pure rfl (c1) ?_
           | (refine Br.mk (fun h => ?_) (fun h => ?_) <;> first | (exfalso; omega; done) | (exfalso; simp at h; done) | skip))
  conv => whnf
  refine CallVC.mk [2, 3, 1] _ _ _ rfl rfl rfl (s114N ⟨c, l, 0, per⟩ 0 i hi ht) (fun r m' h' => ?_)
  obtain ⟨k, r', hk, hk2, rfl⟩ := h'
  rcases hk2 with ⟨hk3, rfl⟩ | ⟨hk3, rfl⟩
  · repeat' (conv => whnf
             first
             | refine Rng.ok (by simp only [inR]; omega) ?_
             | refine Ob.mk (by first | omega | (simp; done) | decide | (simp; omega)) ?_
             | refine Ob.mk (show eqOK _ _ = true from by kernel_rfl) ?_
             | refine Ob.mk (show keyOK _ _ _ = true from by kernel_rfl) ?_
             | refine Val.mk _ (shr_val (by simp; rfl)) ?_
             | refine Ob.mk (Nat.le_of_ble_eq_true rfl) ?_
             | refine JoinVC.on ?_
             | refine Nils.mk (fun h => ?_) ?_
             | refine Val.mk _ (Int.tmod_eq_emod_of_nonneg (by omega)) ?_
             | refine Val.mk _ (Int.tdiv_eq_ediv_of_nonneg (by omega)) ?_
             | refine Mm.mk ?_
             | (refine Br.mk (fun h => ?_) (fun h => ?_) <;> first | (exfalso; omega; done) | (exfalso; simp at h; done) | skip))
    repeat refine Mm.mk ?_
    conv => whnf
    refine EndVC.mk _ rfl _ _ (⟨k, hk, .inl ⟨hk3, rfl⟩, rfl⟩) ?_
    refine ⟨[], rfl, rfl, ?_, ?_⟩ <;> repeat' (first | exact trivial | exact rfl | exact Iff.rfl | apply And.intro)
  · repeat' (conv => whnf
             first
             | refine Rng.ok (by simp only [inR]; omega) ?_
             | refine Ob.mk (by first | omega | (simp; done) | decide | (simp; omega)) ?_
             | refine Ob.mk (show eqOK _ _ = true from by kernel_rfl) ?_
             | refine Ob.mk (show keyOK _ _ _ = true from by kernel_rfl) ?_
             | refine Val.mk _ (shr_val (by simp; rfl)) ?_
             | refine Ob.mk (Nat.le_of_ble_eq_true rfl) ?_
             | refine JoinVC.on ?_
             | refine Nils.mk (fun h => ?_) ?_
             | refine Val.mk _ (Int.tmod_eq_emod_of_nonneg (by omega)) ?_
             | refine Val.mk _ (Int.tdiv_eq_ediv_of_nonneg (by omega)) ?_
             | refine Mm.mk ?_
             | (refine Br.mk (fun h => ?_) (fun h => ?_) <;> first | (exfalso; omega; done) | (exfalso; simp at h; done) | skip))
    repeat refine Mm.mk ?_
    conv => whnf
    refine EndVC.mk _ rfl _ _ (⟨k, hk, .inr ⟨hk3, rfl⟩, rfl⟩) ?_
    refine ⟨[], rfl, rfl, ?_, ?_⟩ <;> repeat' (first | exact trivial | exact rfl | exact Iff.rfl | apply And.intro)
theorem s51 (c : Cut) (l : List Smp) (r per : Int) (hC : CutOK c) (hP : PtsOK l) (hr : 0 ≤ r ∧ r ≤ 4194304) (hp : 1 ≤ per ∧ per ≤ 65536) : HSpec Tryz.prog 51 [c.x, lS l, I r, I per] [] (fun x m' => ∃ (i : Nat) (k : Int), FaultIs ⟨c, l, r, per⟩ i k ∧ ((k = 0 ∧ x = .tup [I 0, I 0, I 5]) ∨ (k ≠ 0 ∧ x = .tup [I (i : Int), I k, I 0])) ∧ m' = []) := by
  have c1 := s113 r per
  rw [if_pos ⟨hr, hp⟩] at c1
  refine spec_of pMix (O := []) Tryz.func51 (c := bodyOf Tryz.f51) rfl (by kernel_rfl) (by kernel_rfl) Tryz.ntmps51 (res := [.tmp 8, .tmp 9, .tmp 10]) (by kernel_rfl) ?_
  repeat' (conv => whnf
           first
           | refine Rng.ok (by simp only [inR]; omega) ?_
           | refine Ob.mk (by first | omega | (simp; done) | decide | (simp; omega)) ?_
           | refine Ob.mk (show eqOK _ _ = true from by kernel_rfl) ?_
           | refine Ob.mk (show keyOK _ _ _ = true from by kernel_rfl) ?_
           | refine Val.mk _ (shr_val (by simp; rfl)) ?_
           | refine Ob.mk (Nat.le_of_ble_eq_true rfl) ?_
           | refine JoinVC.on ?_
           | refine Nils.mk (fun h => ?_) ?_
           | refine Val.mk _ (Int.tmod_eq_emod_of_nonneg (by omega)) ?_
           | refine Val.mk _ (Int.tdiv_eq_ediv_of_nonneg (by omega)) ?_
           | refine Mm.mk ?_
           | (refine Br.mk (fun h => ?_) (fun h => ?_) <;> first | (exfalso; omega; done) | (exfalso; simp at h; done) | skip))
  conv => whnf
  refine CallVC.mk [] _ _ _ rfl rfl rfl (s112 c l) (fun r m' h' => ?_)
  rcases h' with ⟨e, he, he0, rfl, rfl⟩ | ⟨h1, h2, rfl, rfl⟩
  · exact absurd ⟨hC, hP⟩ he
  repeat' (conv => whnf
           first
           | refine Rng.ok (by simp only [inR]; omega) ?_
           | refine Ob.mk (by first | omega | (simp; done) | decide | (simp; omega)) ?_
           | refine Ob.mk (show eqOK _ _ = true from by kernel_rfl) ?_
           | refine Ob.mk (show keyOK _ _ _ = true from by kernel_rfl) ?_
           | refine Val.mk _ (shr_val (by simp; rfl)) ?_
           | refine Ob.mk (Nat.le_of_ble_eq_true rfl) ?_
           | refine JoinVC.on ?_
           | refine Nils.mk (fun h => ?_) ?_
           | refine Val.mk _ (Int.tmod_eq_emod_of_nonneg (by omega)) ?_
           | refine Val.mk _ (Int.tdiv_eq_ediv_of_nonneg (by omega)) ?_
           | refine Mm.mk ?_
           | refine CallVC.pure rfl (c1) ?_
           | refine CallVC0.pure rfl (c1) ?_
           | (refine Br.mk (fun h => ?_) (fun h => ?_) <;> first | (exfalso; omega; done) | (exfalso; simp at h; done) | skip))
  conv => whnf
  refine CallVC.mk [] _ _ _ rfl rfl rfl (s116 ⟨c, l, r, per⟩ ⟨hC, hP, hr, hp⟩) (fun r m' h' => ?_)
  obtain ⟨i, k, hF, rfl, rfl⟩ := h'
  conv => whnf
  repeat' (conv => whnf
           first
           | refine Rng.ok (by simp only [inR]; omega) ?_
           | refine Ob.mk (by first | omega | (simp; done) | decide | (simp; omega)) ?_
           | refine Ob.mk (show eqOK _ _ = true from by kernel_rfl) ?_
           | refine Ob.mk (show keyOK _ _ _ = true from by kernel_rfl) ?_
           | refine Val.mk _ (shr_val (by simp; rfl)) ?_
           | refine Ob.mk (Nat.le_of_ble_eq_true rfl) ?_
           | refine JoinVC.on ?_
           | refine Nils.mk (fun h => ?_) ?_
           | refine Val.mk _ (Int.tmod_eq_emod_of_nonneg (by omega)) ?_
           | refine Val.mk _ (Int.tdiv_eq_ediv_of_nonneg (by omega)) ?_
           | refine Mm.mk ?_
           | (refine Br.mk (fun h => ?_) (fun h => ?_) <;> first | (exfalso; omega; done) | (exfalso; simp at h; done) | skip))
  · repeat refine Mm.mk ?_
    conv => whnf
    refine EndVC.mk _ rfl _ _ (⟨i, k, hF, .inl ⟨h, rfl⟩, rfl⟩) ?_
    refine ⟨[], rfl, rfl, ?_, ?_⟩ <;> repeat' (first | exact trivial | exact rfl | exact Iff.rfl | apply And.intro)
  · repeat refine Mm.mk ?_
    conv => whnf
    refine EndVC.mk _ rfl _ _ (⟨i, k, hF, .inr ⟨h, rfl⟩, rfl⟩) ?_
    refine ⟨[], rfl, rfl, ?_, ?_⟩ <;> repeat' (first | exact trivial | exact rfl | exact Iff.rfl | apply And.intro)
end Go.Sx

namespace Go.Sx
open Go Go.Proofs
set_option maxRecDepth 10000
set_option maxHeartbeats 4000000
theorem e22 : EntersF Tryz.prog 22 := enters_of Tryz.func22 (c := bodyOf Tryz.f22) (by kernel_rfl) rfl
theorem e25 : EntersF Tryz.prog 25 := enters_of Tryz.func25 (c := bodyOf Tryz.f25) (by kernel_rfl) rfl
theorem e27 : EntersF Tryz.prog 27 := enters_of Tryz.func27 (c := bodyOf Tryz.f27) (by kernel_rfl) rfl
theorem e28 : EntersF Tryz.prog 28 := enters_of Tryz.func28 (c := bodyOf Tryz.f28) (by kernel_rfl) rfl
theorem e31 : EntersF Tryz.prog 31 := enters_of Tryz.func31 (c := bodyOf Tryz.f31) (by kernel_rfl) rfl
theorem e3 : EntersF Tryz.prog 3 := enters_of Tryz.func3 (c := bodyOf Tryz.f3) (by kernel_rfl) rfl
theorem smp_ext {a b : Smp} (h1 : a.l = b.l) (h2 : a.r = b.r) : a = b := by cases a; cases b; cases h1; cases h2; rfl
theorem list_ext' {α : Type} {a b : List α} {d : α} (h1 : a.length = b.length) (h2 : ∀ j, j < a.length → a.getD j d = b.getD j d) : a = b := by
  refine List.ext_getElem h1 fun j h3 h4 => ?_
  have := h2 j h3
  simpa [List.getD_eq_getElem?_getD, h3, h4] using this
noncomputable instance (a b : List Smp) : Decidable (a = b) := Classical.propDecidable _
theorem s27 (a b : List Smp) (hla : a.length ≤ 1000000) : PSpec Tryz.prog 27 [lS a, lS b] (xP (a = b)) := by
  have la := smpA_len a
  have lb := smpA_len b
  by_cases hl : a.length = b.length
  · refine spec_of pMix (O := []) Tryz.func27 (c := bodyOf Tryz.f27) rfl (by kernel_rfl) (by kernel_rfl) Tryz.ntmps27 (res := [.tmp 4]) (by kernel_rfl) ?_
    repeat' (conv => whnf
             first
             | refine Rng.ok (by simp only [inR]; omega) ?_
             | refine Ob.mk (by first | omega | (simp; done) | decide | (simp; omega)) ?_
             | refine Ob.mk (show eqOK _ _ = true from by kernel_rfl) ?_
             | refine Ob.mk (show keyOK _ _ _ = true from by kernel_rfl) ?_
             | refine Val.mk _ (shr_val (by simp; rfl)) ?_
             | refine Ob.mk (Nat.le_of_ble_eq_true rfl) ?_
             | refine JoinVC.on ?_
             | refine Nils.mk (fun h => ?_) ?_
             | refine Val.mk _ (Int.tmod_eq_emod_of_nonneg (by omega)) ?_
             | refine Val.mk _ (Int.tdiv_eq_ediv_of_nonneg (by omega)) ?_
             | refine Mm.mk ?_
             | (refine Br.mk (fun h => ?_) (fun h => ?_) <;> first | (exfalso; omega; done) | (exfalso; simp at h; done) | skip))
    refine LoopVC.mk (fun n st => ∃ (i : Nat), i ≤ a.length ∧ n = a.length - i ∧ (∀ j, j < i → a.getD j s0 = b.getD j s0) ∧ st = ⟨0, envA 26 [(0, .x (lS a)), (1, .x (lS b)), (5, .int .i64 (i : Int))], []⟩) _ _ ⟨0, Nat.zero_le _, rfl, fun j hj => absurd hj (Nat.not_lt_zero j), rfl⟩ ?_ ?_
    · refine ⟨[], rfl, rfl, ?_, ?_⟩ <;> repeat' (first | exact trivial | exact rfl | exact Iff.rfl | apply And.intro)
    rintro n _ ⟨i, hi, hn, hj, rfl⟩
    have g0 : rI (smpA a) (i : Int).toNat 0 = (a.getD i s0).l := by rw [Int.toNat_natCast]; exact smpA_l a i
    have g1 : rI (smpA a) (i : Int).toNat (0 + 1) = (a.getD i s0).r := by rw [Int.toNat_natCast]; exact smpA_r a i
    have g2 : rI (smpA b) (i : Int).toNat 0 = (b.getD i s0).l := by rw [Int.toNat_natCast]; exact smpA_l b i
    have g3 : rI (smpA b) (i : Int).toNat (0 + 1) = (b.getD i s0).r := by rw [Int.toNat_natCast]; exact smpA_r b i
    by_cases hi' : i < a.length
    · repeat' (conv => whnf
               first
               | refine Rng.ok (by simp only [inR]; omega) ?_
               | refine Ob.mk (by first | omega | (simp; done) | decide | (simp; omega)) ?_
               | refine Ob.mk (show eqOK _ _ = true from by kernel_rfl) ?_
               | refine Ob.mk (show keyOK _ _ _ = true from by kernel_rfl) ?_
               | refine Val.mk _ (shr_val (by simp; rfl)) ?_
               | refine Ob.mk (Nat.le_of_ble_eq_true rfl) ?_
               | refine JoinVC.on ?_
               | refine Nils.mk (fun h => ?_) ?_
               | refine Val.mk _ (Int.tmod_eq_emod_of_nonneg (by omega)) ?_
               | refine Val.mk _ (Int.tdiv_eq_ediv_of_nonneg (by omega)) ?_
               | refine Mm.mk ?_
               | (refine Br.mk (fun h => ?_) (fun h => ?_) <;> first | (exfalso; omega; done) | (exfalso; simp at h; done) | skip))
      · repeat refine Mm.mk ?_
        refine EndVC.mk _ rfl _ _ ⟨rfl, rfl⟩ ?_
        refine ⟨[], rfl, rfl, ?_, ?_⟩ <;> repeat' (first | exact trivial | exact rfl | exact Iff.rfl | apply And.intro)
        refine fun e => h ?_
        show rI (smpA a) _ _ = rI (smpA b) _ _ ∧ rI (smpA a) _ _ = rI (smpA b) _ _ ∧ True
        rw [show a = b from e]
        exact ⟨rfl, rfl, trivial⟩
      · have h2 : rI (smpA a) (i : Int).toNat 0 = rI (smpA b) (i : Int).toNat 0 ∧ rI (smpA a) (i : Int).toNat (0 + 1) = rI (smpA b) (i : Int).toNat (0 + 1) ∧ True := Classical.not_not.1 h
        rw [g0, g1, g2, g3] at h2
        refine Back.mk (a.length - (i + 1)) _ (by omega) ⟨i + 1, by omega, rfl, fun j hj' => ?_, rfl⟩ ?_
        · rcases Nat.lt_succ_iff_lt_or_eq.1 hj' with h' | rfl
          · exact hj j h'
          · exact smp_ext h2.1 h2.2.1
        · refine ⟨[], rfl, rfl, ?_, ?_⟩ <;> repeat' (first | exact trivial | exact rfl | exact Iff.rfl | apply And.intro)
    · repeat' (conv => whnf
               first
               | refine Rng.ok (by simp only [inR]; omega) ?_
               | refine Ob.mk (by first | omega | (simp; done) | decide | (simp; omega)) ?_
               | refine Ob.mk (show eqOK _ _ = true from by kernel_rfl) ?_
               | refine Ob.mk (show keyOK _ _ _ = true from by kernel_rfl) ?_
               | refine Val.mk _ (shr_val (by simp; rfl)) ?_
               | refine Ob.mk (Nat.le_of_ble_eq_true rfl) ?_
               | refine JoinVC.on ?_
               | refine Nils.mk (fun h => ?_) ?_
               | refine Val.mk _ (Int.tmod_eq_emod_of_nonneg (by omega)) ?_
               | refine Val.mk _ (Int.tdiv_eq_ediv_of_nonneg (by omega)) ?_
               | refine Mm.mk ?_
               | (refine Br.mk (fun h => ?_) (fun h => ?_) <;> first | (exfalso; omega; done) | (exfalso; simp at h; done) | skip))
      repeat refine Mm.mk ?_
      refine EndVC.mk _ rfl _ _ ⟨rfl, rfl⟩ ?_
      refine ⟨[], rfl, rfl, ?_, ?_⟩ <;> repeat' (first | exact trivial | exact rfl | exact Iff.rfl | apply And.intro)
      exact list_ext' hl fun j hj' => hj j (by omega)
  · refine spec_of pMix (O := []) Tryz.func27 (c := bodyOf Tryz.f27) rfl (by kernel_rfl) (by kernel_rfl) Tryz.ntmps27 (res := [.tmp 4]) (by kernel_rfl) ?_
    repeat' (conv => whnf
             first
             | refine Rng.ok (by simp only [inR]; omega) ?_
             | refine Ob.mk (by first | omega | (simp; done) | decide | (simp; omega)) ?_
             | refine Ob.mk (show eqOK _ _ = true from by kernel_rfl) ?_
             | refine Ob.mk (show keyOK _ _ _ = true from by kernel_rfl) ?_
             | refine Val.mk _ (shr_val (by simp; rfl)) ?_
             | refine Ob.mk (Nat.le_of_ble_eq_true rfl) ?_
             | refine JoinVC.on ?_
             | refine Nils.mk (fun h => ?_) ?_
             | refine Val.mk _ (Int.tmod_eq_emod_of_nonneg (by omega)) ?_
             | refine Val.mk _ (Int.tdiv_eq_ediv_of_nonneg (by omega)) ?_
             | refine Mm.mk ?_
             | (refine Br.mk (fun h => ?_) (fun h => ?_) <;> first | (exfalso; omega; done) | (exfalso; simp at h; done) | skip))
    repeat refine Mm.mk ?_
    refine EndVC.mk _ rfl _ _ ⟨rfl, rfl⟩ ?_
    refine ⟨[], rfl, rfl, ?_, ?_⟩ <;> repeat' (first | exact trivial | exact rfl | exact Iff.rfl | apply And.intro)
    exact fun e => hl (by rw [show a = b from e])
@[reducible] def rowI (l : List Int) : Blk := rowL l
/-- Both channels. -/
def chL (s : List Smp) : List Int := s.map Smp.l
def chR (s : List Smp) : List Int := s.map Smp.r
theorem chL_take (s : List Smp) (i : Nat) (h : i < s.length) : i64s (chL (s.take i)) ++ [[.int (s.getD i s0).l]] = i64s (chL (s.take (i + 1))) := by
  rw [take_snoc s i s0 h, chL, chL, List.map_append]; exact (i64s_snoc _ _).symm
theorem chR_take (s : List Smp) (i : Nat) (h : i < s.length) : i64s (chR (s.take i)) ++ [[.int (s.getD i s0).r]] = i64s (chR (s.take (i + 1))) := by
  rw [take_snoc s i s0 h, chR, chR, List.map_append]; exact (i64s_snoc _ _).symm
theorem s28 (s : List Smp) (hl : s.length ≤ 100000) : HSpec Tryz.prog 28 [lS s] [] (fun r m' => r = .tup [.one (.own 0), .one (.own 1)] ∧ m' = [some (rowL (chL s)), some (rowL (chR s))]) := by
  have ls := smpA_len s
  refine spec_of pMix (O := [(5, ([], [⟨0, [], []⟩, ⟨1, [], []⟩, ⟨2, [], []⟩, ⟨3, [], []⟩, ⟨4, [], []⟩, ⟨5, [], [6]⟩, ⟨8, [], []⟩, ⟨9, [], []⟩, ⟨10, [], []⟩, ⟨11, [], []⟩, ⟨12, [], []⟩, ⟨13, [], [14]⟩, ⟨6, [], []⟩, ⟨7, [8, 9, 10, 11, 12, 13], []⟩, ⟨14, [], []⟩, ⟨15, [], []⟩, ⟨16, [], []⟩, ⟨17, [], []⟩]))]) Tryz.func28 (c := bodyOf Tryz.f28) rfl (by kernel_rfl) (by kernel_rfl) Tryz.ntmps28 (res := [.tmp 2, .tmp 3]) (by kernel_rfl) ?_
  repeat' (conv => whnf
           first
           | refine Rng.ok (by simp only [inR]; omega) ?_
           | refine Ob.mk (by first | omega | (simp; done) | decide | (simp; omega)) ?_
           | refine Ob.mk (show eqOK _ _ = true from by kernel_rfl) ?_
           | refine Ob.mk (show keyOK _ _ _ = true from by kernel_rfl) ?_
           | refine Val.mk _ (shr_val (by simp; rfl)) ?_
           | refine Ob.mk (Nat.le_of_ble_eq_true rfl) ?_
           | refine JoinVC.on ?_
           | refine Nils.mk (fun h => ?_) ?_
           | refine Val.mk _ (Int.tmod_eq_emod_of_nonneg (by omega)) ?_
           | refine Val.mk _ (Int.tdiv_eq_ediv_of_nonneg (by omega)) ?_
           | refine Mm.mk ?_
           | (refine Br.mk (fun h => ?_) (fun h => ?_) <;> first | (exfalso; omega; done) | (exfalso; simp at h; done) | skip))
  refine LoopVC.mk (fun n st => ∃ (i : Nat), i ≤ s.length ∧ n = s.length - i ∧ st = ⟨0, envA 31 [(0, .x (lS s)), (4, .x (.one (.own 0))), (5, .x (.one (.own 1))), (6, .int .i64 (i : Int))], [some (rowL (chL (s.take i))), some (rowL (chR (s.take i)))]⟩) _ _ ⟨0, Nat.zero_le _, rfl, rfl⟩ ?_ ?_
  · refine ⟨[none, none], rfl, rfl, ?_, ?_⟩ <;> repeat' (first | exact trivial | exact rfl | exact Iff.rfl | apply And.intro)
  rintro n _ ⟨i, hi, hn, rfl⟩
  have e1 : (i64s (chL (s.take i))).length = i := by rw [i64s_len, chL, List.length_map, List.length_take]; omega
  have e2 : (i64s (chR (s.take i))).length = i := by rw [i64s_len, chR, List.length_map, List.length_take]; omega
  by_cases hi' : i < s.length
  · have g0 : rI (smpA s) (i : Int).toNat (0 + 0) = (s.getD i s0).l := by rw [Int.toNat_natCast]; exact smpA_l s i
    have g1 : rI (smpA s) (i : Int).toNat (0 + (0 + 1)) = (s.getD i s0).r := by rw [Int.toNat_natCast]; exact smpA_r s i
    repeat' (conv => whnf
             first
             | refine Rng.ok (by simp only [inR]; omega) ?_
             | refine Ob.mk (by first | omega | (simp; done) | decide | (simp; omega)) ?_
             | refine Ob.mk (show eqOK _ _ = true from by kernel_rfl) ?_
             | refine Ob.mk (show keyOK _ _ _ = true from by kernel_rfl) ?_
             | refine Val.mk _ (shr_val (by simp; rfl)) ?_
             | refine Ob.mk (Nat.le_of_ble_eq_true rfl) ?_
             | refine JoinVC.on ?_
             | refine Nils.mk (fun h => ?_) ?_
             | refine Val.mk _ (Int.tmod_eq_emod_of_nonneg (by omega)) ?_
             | refine Val.mk _ (Int.tdiv_eq_ediv_of_nonneg (by omega)) ?_
             | refine Mm.mk ?_
             | (refine Br.mk (fun h => ?_) (fun h => ?_) <;> first | (exfalso; omega; done) | (exfalso; simp at h; done) | skip))
    repeat refine Mm.mk ?_
    refine Ob.mk (by simp only [e1, eb2, List.length_cons, List.length_nil]; omega) ?_
    repeat' (conv => whnf
             first
             | rw [g0]
             | refine Rng.ok (by simp only [inR]; omega) ?_
             | refine Ob.mk (by first | omega | (simp; done) | decide | (simp; omega)) ?_
             | refine Ob.mk (show eqOK _ _ = true from by kernel_rfl) ?_
             | refine Ob.mk (show keyOK _ _ _ = true from by kernel_rfl) ?_
             | refine Val.mk _ (shr_val (by simp; rfl)) ?_
             | refine Ob.mk (Nat.le_of_ble_eq_true rfl) ?_
             | refine JoinVC.on ?_
             | refine Nils.mk (fun h => ?_) ?_
             | refine Val.mk _ (Int.tmod_eq_emod_of_nonneg (by omega)) ?_
             | refine Val.mk _ (Int.tdiv_eq_ediv_of_nonneg (by omega)) ?_
             | refine Mm.mk ?_
             | (refine Br.mk (fun h => ?_) (fun h => ?_) <;> first | (exfalso; omega; done) | (exfalso; simp at h; done) | skip))
    repeat refine Mm.mk ?_
    refine Ob.mk (by simp only [e2, eb2, List.length_cons, List.length_nil]; omega) ?_
    repeat' (conv => whnf
             first
             | rw [g1]
             | refine Rng.ok (by simp only [inR]; omega) ?_
             | refine Ob.mk (by first | omega | (simp; done) | decide | (simp; omega)) ?_
             | refine Ob.mk (show eqOK _ _ = true from by kernel_rfl) ?_
             | refine Ob.mk (show keyOK _ _ _ = true from by kernel_rfl) ?_
             | refine Val.mk _ (shr_val (by simp; rfl)) ?_
             | refine Ob.mk (Nat.le_of_ble_eq_true rfl) ?_
             | refine JoinVC.on ?_
             | refine Nils.mk (fun h => ?_) ?_
             | refine Val.mk _ (Int.tmod_eq_emod_of_nonneg (by omega)) ?_
             | refine Val.mk _ (Int.tdiv_eq_ediv_of_nonneg (by omega)) ?_
             | refine Mm.mk ?_
             | (refine Br.mk (fun h => ?_) (fun h => ?_) <;> first | (exfalso; omega; done) | (exfalso; simp at h; done) | skip))
    refine Back.mk (s.length - (i + 1)) _ (by omega) ⟨i + 1, by omega, rfl, rfl⟩ ?_
    refine ⟨[some 3, some 5], rfl, rfl, ?_, ?_⟩ <;> repeat' (first | exact trivial | exact rfl | exact Iff.rfl | apply And.intro)
    · exact chL_take s i hi'
    · exact chR_take s i hi'
  · repeat' (conv => whnf
             first
             | refine Rng.ok (by simp only [inR]; omega) ?_
             | refine Ob.mk (by first | omega | (simp; done) | decide | (simp; omega)) ?_
             | refine Ob.mk (show eqOK _ _ = true from by kernel_rfl) ?_
             | refine Ob.mk (show keyOK _ _ _ = true from by kernel_rfl) ?_
             | refine Val.mk _ (shr_val (by simp; rfl)) ?_
             | refine Ob.mk (Nat.le_of_ble_eq_true rfl) ?_
             | refine JoinVC.on ?_
             | refine Nils.mk (fun h => ?_) ?_
             | refine Val.mk _ (Int.tmod_eq_emod_of_nonneg (by omega)) ?_
             | refine Val.mk _ (Int.tdiv_eq_ediv_of_nonneg (by omega)) ?_
             | refine Mm.mk ?_
             | (refine Br.mk (fun h => ?_) (fun h => ?_) <;> first | (exfalso; omega; done) | (exfalso; simp at h; done) | skip))
    have e : s.take i = s := List.take_of_length_le (by omega)
    rw [e]
    repeat refine Mm.mk ?_
    refine EndVC.mk _ rfl _ _ ⟨rfl, rfl⟩ ?_
    refine ⟨[some 0, some 1], rfl, rfl, ?_, ?_⟩ <;> repeat' (first | exact trivial | exact rfl | exact Iff.rfl | apply And.intro)
def joinS (a b : List Int) : List Smp := (List.range (min a.length b.length)).map fun i => ⟨a.getD i 0, b.getD i 0⟩
theorem joinS_len (a b : List Int) : (joinS a b).length = min a.length b.length := by simp [joinS]
theorem joinS_get (a b : List Int) (i : Nat) (h : i < min a.length b.length) : (joinS a b).getD i s0 = ⟨a.getD i 0, b.getD i 0⟩ := by simp only [joinS, List.getD_eq_getElem?_getD, List.getElem?_map, List.getElem?_range h]; rfl
theorem joinS_take (a b : List Int) (i : Nat) (h : i < min a.length b.length) : smpA ((joinS a b).take i) ++ [[.int (a.getD i 0), .int (b.getD i 0)]] = smpA ((joinS a b).take (i + 1)) := by
  rw [take_snoc (joinS a b) i s0 (by rw [joinS_len]; exact h), smpA_snoc, joinS_get a b i h]
theorem s31 (a b : List Int) (hl : a.length ≤ 100000) : HSpec Tryz.prog 31 [lL a, lL b] [] (fun r m' => r = .x (.one (.own 0)) ∧ m' = [some (rowS (joinS a b))]) := by
  have la := i64s_len a
  have lb := i64s_len b
  have lj := joinS_len a b
  refine spec_of pMix (O := [(5, ([], [⟨0, [], []⟩, ⟨1, [], []⟩, ⟨2, [], []⟩, ⟨3, [], []⟩, ⟨4, [], []⟩, ⟨5, [], []⟩, ⟨6, [], []⟩, ⟨7, [], []⟩, ⟨8, [], []⟩, ⟨9, [], [10]⟩, ⟨10, [], []⟩, ⟨11, [], []⟩, ⟨12, [], []⟩]))]) Tryz.func31 (c := bodyOf Tryz.f31) rfl (by kernel_rfl) (by kernel_rfl) Tryz.ntmps31 (res := [.tmp 4]) (by kernel_rfl) ?_
  repeat' (conv => whnf
           first
           | refine Rng.ok (by simp only [inR]; omega) ?_
           | refine Ob.mk (by first | omega | (simp; done) | decide | (simp; omega)) ?_
           | refine Ob.mk (show eqOK _ _ = true from by kernel_rfl) ?_
           | refine Ob.mk (show keyOK _ _ _ = true from by kernel_rfl) ?_
           | refine Val.mk _ (shr_val (by simp; rfl)) ?_
           | refine Ob.mk (Nat.le_of_ble_eq_true rfl) ?_
           | refine JoinVC.on ?_
           | refine Nils.mk (fun h => ?_) ?_
           | refine Val.mk _ (Int.tmod_eq_emod_of_nonneg (by omega)) ?_
           | refine Val.mk _ (Int.tdiv_eq_ediv_of_nonneg (by omega)) ?_
           | refine Mm.mk ?_
           | (refine Br.mk (fun h => ?_) (fun h => ?_) <;> first | (exfalso; omega; done) | (exfalso; simp at h; done) | skip))
  refine LoopVC.mk (fun n st => ∃ (i : Nat), i ≤ min a.length b.length ∧ n = min a.length b.length - i ∧ st = ⟨0, envA 32 [(0, .x (lL a)), (1, .x (lL b)), (5, .x (.one (.own 0))), (6, .int .i64 (i : Int))], [some (rowS ((joinS a b).take i))]⟩) _ _ ⟨0, Nat.zero_le _, rfl, rfl⟩ ?_ ?_
  · refine ⟨[none], rfl, rfl, ?_, ?_⟩ <;> repeat' (first | exact trivial | exact rfl | exact Iff.rfl | apply And.intro)
  rintro n _ ⟨i, hi, hn, rfl⟩
  have e1 : (smpA ((joinS a b).take i)).length = i := by rw [smpA_len, List.length_take]; omega
  by_cases hi' : i < min a.length b.length
  · have g0 : rI (i64s a) (i : Int).toNat 0 = a.getD i 0 := by rw [Int.toNat_natCast]; exact i64s_get a i
    have g1 : rI (i64s b) (i : Int).toNat 0 = b.getD i 0 := by rw [Int.toNat_natCast]; exact i64s_get b i
    repeat' (conv => whnf
             first
             | refine Rng.ok (by simp only [inR]; omega) ?_
             | refine Ob.mk (by first | omega | (simp; done) | decide | (simp; omega)) ?_
             | refine Ob.mk (show eqOK _ _ = true from by kernel_rfl) ?_
             | refine Ob.mk (show keyOK _ _ _ = true from by kernel_rfl) ?_
             | refine Val.mk _ (shr_val (by simp; rfl)) ?_
             | refine Ob.mk (Nat.le_of_ble_eq_true rfl) ?_
             | refine JoinVC.on ?_
             | refine Nils.mk (fun h => ?_) ?_
             | refine Val.mk _ (Int.tmod_eq_emod_of_nonneg (by omega)) ?_
             | refine Val.mk _ (Int.tdiv_eq_ediv_of_nonneg (by omega)) ?_
             | refine Mm.mk ?_
             | (refine Br.mk (fun h => ?_) (fun h => ?_) <;> first | (exfalso; omega; done) | (exfalso; simp at h; done) | skip))
    repeat refine Mm.mk ?_
    refine Ob.mk (by simp only [e1, eb47, List.length_cons, List.length_nil]; omega) ?_
    repeat' (conv => whnf
             first
             | rw [g0]
             | rw [g1]
             | refine Rng.ok (by simp only [inR]; omega) ?_
             | refine Ob.mk (by first | omega | (simp; done) | decide | (simp; omega)) ?_
             | refine Ob.mk (show eqOK _ _ = true from by kernel_rfl) ?_
             | refine Ob.mk (show keyOK _ _ _ = true from by kernel_rfl) ?_
             | refine Val.mk _ (shr_val (by simp; rfl)) ?_
             | refine Ob.mk (Nat.le_of_ble_eq_true rfl) ?_
             | refine JoinVC.on ?_
             | refine Nils.mk (fun h => ?_) ?_
             | refine Val.mk _ (Int.tmod_eq_emod_of_nonneg (by omega)) ?_
             | refine Val.mk _ (Int.tdiv_eq_ediv_of_nonneg (by omega)) ?_
             | refine Mm.mk ?_
             | (refine Br.mk (fun h => ?_) (fun h => ?_) <;> first | (exfalso; omega; done) | (exfalso; simp at h; done) | skip))
    refine Back.mk (min a.length b.length - (i + 1)) _ (by omega) ⟨i + 1, by omega, rfl, rfl⟩ ?_
    refine ⟨[some 2], rfl, rfl, ?_, ?_⟩ <;> repeat' (first | exact trivial | exact rfl | exact Iff.rfl | apply And.intro)
    exact joinS_take a b i hi'
  · have e : (joinS a b).take i = joinS a b := List.take_of_length_le (by omega)
    rw [e]
    repeat' (conv => whnf
             first
             | refine Rng.ok (by simp only [inR]; omega) ?_
             | refine Ob.mk (by first | omega | (simp; done) | decide | (simp; omega)) ?_
             | refine Ob.mk (show eqOK _ _ = true from by kernel_rfl) ?_
             | refine Ob.mk (show keyOK _ _ _ = true from by kernel_rfl) ?_
             | refine Val.mk _ (shr_val (by simp; rfl)) ?_
             | refine Ob.mk (Nat.le_of_ble_eq_true rfl) ?_
             | refine JoinVC.on ?_
             | refine Nils.mk (fun h => ?_) ?_
             | refine Val.mk _ (Int.tmod_eq_emod_of_nonneg (by omega)) ?_
             | refine Val.mk _ (Int.tdiv_eq_ediv_of_nonneg (by omega)) ?_
             | refine Mm.mk ?_
             | (refine Br.mk (fun h => ?_) (fun h => ?_) <;> first | (exfalso; omega; done) | (exfalso; simp at h; done) | skip))
    all_goals
      repeat refine Mm.mk ?_
      refine EndVC.mk _ rfl _ _ ⟨rfl, rfl⟩ ?_
      refine ⟨[some 0], rfl, rfl, ?_, ?_⟩ <;> repeat' (first | exact trivial | exact rfl | exact Iff.rfl | apply And.intro)
end Go.Sx

namespace Go.Sx
open Go Go.Proofs
set_option maxRecDepth 10000
set_option maxHeartbeats 4000000
/-- A programme that is not too long. -/
structure PgOK (T : List Tak) (l : List Prt) : Prop where
  len : l.length ≤ 6
  ok : ProgOK T l
  stop : endP l ≤ 200
  good : smpE (rend T l) = 0
inductive PgRs (T : List Tak) (l : List Prt) (r : AV) (m' : List (Option Blk)) : Prop
  | no (h : ¬ PgOK T l) (hr : r = .tup [.one .nils, .one (.prp False inferInstance)]) (hm : m' = [])
  | yes (h : PgOK T l) (hr : r = .tup [.one (.own 0), .one (.prp True inferInstance)]) (hm : m' = [some (rowS (rend T l))])
theorem s22 (T : List Tak) (l : List Prt) (hI : TakI T) : HSpec Tryz.prog 22 [lT T, lP l] [] (PgRs T l) := by
  have ll := prtA_len l
  by_cases h6 : l.length ≤ 6
  · by_cases hP : ProgOK T l
    · refine spec_of pMix (O := []) Tryz.func22 (c := bodyOf Tryz.f22) rfl (by kernel_rfl) (by kernel_rfl) Tryz.ntmps22 (res := [.tmp 4, .tmp 5]) (by kernel_rfl) ?_
      repeat' (conv => whnf
               first
               | refine Rng.ok (by simp only [inR]; omega) ?_
               | refine Ob.mk (by first | omega | (simp; done) | decide | (simp; omega)) ?_
               | refine Ob.mk (show eqOK _ _ = true from by kernel_rfl) ?_
               | refine Ob.mk (show keyOK _ _ _ = true from by kernel_rfl) ?_
               | refine Val.mk _ (shr_val (by simp; rfl)) ?_
               | refine Ob.mk (Nat.le_of_ble_eq_true rfl) ?_
               | refine JoinVC.on ?_
               | refine Nils.mk (fun h => ?_) ?_
               | refine Val.mk _ (Int.tmod_eq_emod_of_nonneg (by omega)) ?_
               | refine Val.mk _ (Int.tdiv_eq_ediv_of_nonneg (by omega)) ?_
               | refine Mm.mk ?_
               | (refine Br.mk (fun h => ?_) (fun h => ?_) <;> first | (exfalso; omega; done) | (exfalso; simp at h; done) | skip))
      conv => whnf
      refine CallVC.mk [] _ _ _ rfl rfl rfl (s36 T l hI) (fun r m' h' => ?_)
      obtain ⟨e, rfl, rfl, he⟩ := h'
      conv => whnf
      cases he.2 hP
      repeat' (conv => whnf
               first
               | refine Rng.ok (by simp only [inR]; omega) ?_
               | refine Ob.mk (by first | omega | (simp; done) | decide | (simp; omega)) ?_
               | refine Ob.mk (show eqOK _ _ = true from by kernel_rfl) ?_
               | refine Ob.mk (show keyOK _ _ _ = true from by kernel_rfl) ?_
               | refine Val.mk _ (shr_val (by simp; rfl)) ?_
               | refine Ob.mk (Nat.le_of_ble_eq_true rfl) ?_
               | refine JoinVC.on ?_
               | refine Nils.mk (fun h => ?_) ?_
               | refine Val.mk _ (Int.tmod_eq_emod_of_nonneg (by omega)) ?_
               | refine Val.mk _ (Int.tdiv_eq_ediv_of_nonneg (by omega)) ?_
               | refine Mm.mk ?_
               | (refine Br.mk (fun h => ?_) (fun h => ?_) <;> first | (exfalso; omega; done) | (exfalso; simp at h; done) | skip))
      conv => whnf
      refine CallVC.mk [] _ _ _ rfl rfl rfl (s37 T l hI hP) (fun r m' h' => ?_)
      obtain ⟨rfl, rfl⟩ := h'
      conv => whnf
      repeat' (conv => whnf
               first
               | refine Rng.ok (by simp only [inR]; omega) ?_
               | refine Ob.mk (by first | omega | (simp; done) | decide | (simp; omega)) ?_
               | refine Ob.mk (show eqOK _ _ = true from by kernel_rfl) ?_
               | refine Ob.mk (show keyOK _ _ _ = true from by kernel_rfl) ?_
               | refine Val.mk _ (shr_val (by simp; rfl)) ?_
               | refine Ob.mk (Nat.le_of_ble_eq_true rfl) ?_
               | refine JoinVC.on ?_
               | refine Nils.mk (fun h => ?_) ?_
               | refine Val.mk _ (Int.tmod_eq_emod_of_nonneg (by omega)) ?_
               | refine Val.mk _ (Int.tdiv_eq_ediv_of_nonneg (by omega)) ?_
               | refine Mm.mk ?_
               | (refine Br.mk (fun h => ?_) (fun h => ?_) <;> first | (exfalso; omega; done) | (exfalso; simp at h; done) | skip))
      · repeat refine Mm.mk ?_
        conv => whnf
        refine EndVC.mk _ rfl _ _ (.no (fun h2 => by have := h2.stop; omega) rfl rfl) ?_
        refine ⟨[], rfl, rfl, ?_, ?_⟩ <;> repeat' (first | exact trivial | exact rfl | exact Iff.rfl | apply And.intro)
        exact id
      · have h200 : endP l ≤ 200 := by omega
        conv => whnf
        refine CallVC.mk [] _ _ _ rfl rfl rfl (s98 T l hI hP) (fun r m' h' => ?_)
        rcases h' with ⟨h1, rfl, rfl⟩ | ⟨h1, rfl, rfl⟩
        · repeat' (conv => whnf
                   first
                   | refine Rng.ok (by simp only [inR]; omega) ?_
                   | refine Ob.mk (by first | omega | (simp; done) | decide | (simp; omega)) ?_
                   | refine Ob.mk (show eqOK _ _ = true from by kernel_rfl) ?_
                   | refine Ob.mk (show keyOK _ _ _ = true from by kernel_rfl) ?_
                   | refine Val.mk _ (shr_val (by simp; rfl)) ?_
                   | refine Ob.mk (Nat.le_of_ble_eq_true rfl) ?_
                   | refine JoinVC.on ?_
                   | refine Nils.mk (fun h => ?_) ?_
                   | refine Val.mk _ (Int.tmod_eq_emod_of_nonneg (by omega)) ?_
                   | refine Val.mk _ (Int.tdiv_eq_ediv_of_nonneg (by omega)) ?_
                   | refine Mm.mk ?_
                   | (refine Br.mk (fun h => ?_) (fun h => ?_) <;> first | (exfalso; omega; done) | (exfalso; simp at h; done) | skip))
          repeat refine Mm.mk ?_
          conv => whnf
          refine EndVC.mk _ rfl _ _ (.yes ⟨h6, hP, h200, h1⟩ rfl rfl) ?_
          refine ⟨[some 1], rfl, rfl, ?_, ?_⟩ <;> repeat' (first | exact trivial | exact rfl | exact Iff.rfl | apply And.intro)
          exact ⟨fun _ => trivial, fun _ => rfl⟩
        · repeat' (conv => whnf
                   first
                   | refine Rng.ok (by simp only [inR]; omega) ?_
                   | refine Ob.mk (by first | omega | (simp; done) | decide | (simp; omega)) ?_
                   | refine Ob.mk (show eqOK _ _ = true from by kernel_rfl) ?_
                   | refine Ob.mk (show keyOK _ _ _ = true from by kernel_rfl) ?_
                   | refine Val.mk _ (shr_val (by simp; rfl)) ?_
                   | refine Ob.mk (Nat.le_of_ble_eq_true rfl) ?_
                   | refine JoinVC.on ?_
                   | refine Nils.mk (fun h => ?_) ?_
                   | refine Val.mk _ (Int.tmod_eq_emod_of_nonneg (by omega)) ?_
                   | refine Val.mk _ (Int.tdiv_eq_ediv_of_nonneg (by omega)) ?_
                   | refine Mm.mk ?_
                   | (refine Br.mk (fun h => ?_) (fun h => ?_) <;> first | (exfalso; omega; done) | (exfalso; simp at h; done) | skip))
          repeat refine Mm.mk ?_
          conv => whnf
          refine EndVC.mk _ rfl _ _ (.no (fun h2 => h1 h2.good) rfl rfl) ?_
          refine ⟨[], rfl, rfl, ?_, ?_⟩ <;> repeat' (first | exact trivial | exact rfl | exact Iff.rfl | apply And.intro)
          exact ⟨fun h2 => absurd h2 (by decide), fun h2 => h2.elim⟩
    · refine spec_of pMix (O := []) Tryz.func22 (c := bodyOf Tryz.f22) rfl (by kernel_rfl) (by kernel_rfl) Tryz.ntmps22 (res := [.tmp 4, .tmp 5]) (by kernel_rfl) ?_
      repeat' (conv => whnf
               first
               | refine Rng.ok (by simp only [inR]; omega) ?_
               | refine Ob.mk (by first | omega | (simp; done) | decide | (simp; omega)) ?_
               | refine Ob.mk (show eqOK _ _ = true from by kernel_rfl) ?_
               | refine Ob.mk (show keyOK _ _ _ = true from by kernel_rfl) ?_
               | refine Val.mk _ (shr_val (by simp; rfl)) ?_
               | refine Ob.mk (Nat.le_of_ble_eq_true rfl) ?_
               | refine JoinVC.on ?_
               | refine Nils.mk (fun h => ?_) ?_
               | refine Val.mk _ (Int.tmod_eq_emod_of_nonneg (by omega)) ?_
               | refine Val.mk _ (Int.tdiv_eq_ediv_of_nonneg (by omega)) ?_
               | refine Mm.mk ?_
               | (refine Br.mk (fun h => ?_) (fun h => ?_) <;> first | (exfalso; omega; done) | (exfalso; simp at h; done) | skip))
      conv => whnf
      refine CallVC.mk [] _ _ _ rfl rfl rfl (s36 T l hI) (fun r m' h' => ?_)
      obtain ⟨e, rfl, rfl, he⟩ := h'
      conv => whnf
      have he0 : e ≠ 0 := fun h0 => hP (he.1 h0)
      repeat' (conv => whnf
               first
               | refine Rng.ok (by simp only [inR]; omega) ?_
               | refine Ob.mk (by first | omega | (simp; done) | decide | (simp; omega)) ?_
               | refine Ob.mk (show eqOK _ _ = true from by kernel_rfl) ?_
               | refine Ob.mk (show keyOK _ _ _ = true from by kernel_rfl) ?_
               | refine Val.mk _ (shr_val (by simp; rfl)) ?_
               | refine Ob.mk (Nat.le_of_ble_eq_true rfl) ?_
               | refine JoinVC.on ?_
               | refine Nils.mk (fun h => ?_) ?_
               | refine Val.mk _ (Int.tmod_eq_emod_of_nonneg (by omega)) ?_
               | refine Val.mk _ (Int.tdiv_eq_ediv_of_nonneg (by omega)) ?_
               | refine Mm.mk ?_
               | (refine Br.mk (fun h => ?_) (fun h => ?_) <;> first | (exfalso; omega; done) | (exfalso; simp at h; done) | skip))
      repeat refine Mm.mk ?_
      conv => whnf
      refine EndVC.mk _ rfl _ _ (.no (fun h2 => hP h2.ok) rfl rfl) ?_
      refine ⟨[], rfl, rfl, ?_, ?_⟩ <;> repeat' (first | exact trivial | exact rfl | exact Iff.rfl | apply And.intro)
      exact id
  · refine spec_of pMix (O := []) Tryz.func22 (c := bodyOf Tryz.f22) rfl (by kernel_rfl) (by kernel_rfl) Tryz.ntmps22 (res := [.tmp 4, .tmp 5]) (by kernel_rfl) ?_
    repeat' (conv => whnf
             first
             | refine Rng.ok (by simp only [inR]; omega) ?_
             | refine Ob.mk (by first | omega | (simp; done) | decide | (simp; omega)) ?_
             | refine Ob.mk (show eqOK _ _ = true from by kernel_rfl) ?_
             | refine Ob.mk (show keyOK _ _ _ = true from by kernel_rfl) ?_
             | refine Val.mk _ (shr_val (by simp; rfl)) ?_
             | refine Ob.mk (Nat.le_of_ble_eq_true rfl) ?_
             | refine JoinVC.on ?_
             | refine Nils.mk (fun h => ?_) ?_
             | refine Val.mk _ (Int.tmod_eq_emod_of_nonneg (by omega)) ?_
             | refine Val.mk _ (Int.tdiv_eq_ediv_of_nonneg (by omega)) ?_
             | refine Mm.mk ?_
             | (refine Br.mk (fun h => ?_) (fun h => ?_) <;> first | (exfalso; omega; done) | (exfalso; simp at h; done) | skip))
    repeat refine Mm.mk ?_
    conv => whnf
    refine EndVC.mk _ rfl _ _ (.no (fun h2 => h6 h2.len) rfl rfl) ?_
    refine ⟨[], rfl, rfl, ?_, ?_⟩ <;> repeat' (first | exact trivial | exact rfl | exact Iff.rfl | apply And.intro)
    exact id
end Go.Sx

namespace Go.Sx
open Go Go.Proofs
set_option maxRecDepth 10000
set_option maxHeartbeats 4000000
def c3 : Cut := ⟨400, 2000, 200, 2000, 1000, 1000, 100⟩
def l3 : List Smp := [⟨0, 0⟩, ⟨100, 100⟩, ⟨0, 0⟩]
theorem c3_ok : CutOK c3 := by constructor <;> decide
theorem all_lt {p : Nat → Prop} (n : Nat) [DecidablePred p] (h : ((List.range n).all fun j => decide (p j)) = true) : ∀ j, j < n → p j := fun j hj => of_decide_eq_true (List.all_eq_true.1 h j (List.mem_range.2 hj))
instance (s : Smp) : Decidable (s.ok) := by unfold Smp.ok; exact inferInstance
theorem l3_ok : SmpsOK l3 := ⟨by decide, all_lt 3 (by decide)⟩
theorem g3_ok : PtsOK (cutF c3 l3) := ⟨by decide, all_lt 3 (by decide)⟩
def t3 : Trk := ⟨c3, cutF c3 l3, 0, 1000⟩
theorem t3_yes : pL t3 31831 := all_lt 3 (by decide +kernel)
theorem t3_no : ¬ pN t3 0 31830 ∨ ¬ pN t3 1 31830 ∨ ¬ pN t3 2 31830 := by decide +kernel
theorem t3_least {k : Int} (hk : Least (pL t3) 4194305 k) : k = 31831 := by
  have h1 : ¬ 31831 < k := fun h => hk.no 31831 (by decide) h t3_yes
  have h2 : ¬ k ≤ 31830 := fun h => by
    have h3 := (hk.yes (by omega)).mono (t := t3) c3_ok (by decide) hk.rng.1 h
    rcases t3_no with h4 | h4 | h4
    · exact h4 (h3 0 (by decide))
    · exact h4 (h3 1 (by decide))
    · exact h4 (h3 2 (by decide))
  omega
/-! ### The curve of the example -/
def v3 : Crv := ⟨[64], [128], 256⟩
def x3 : List Int := [100, 0, 0, -3]
theorem v3_ok : CrvOK v3 := by
  refine ⟨⟨by decide, fun j => ?_⟩, ⟨by decide, fun j => ?_⟩, by decide⟩
  · match j with
    | 0 => decide
    | j + 1 => show -4096 ≤ (0 : Int) ∧ (0 : Int) ≤ 4096; decide
  · match j with
    | 0 => decide
    | j + 1 => show -4096 ≤ (0 : Int) ∧ (0 : Int) ≤ 4096; decide
theorem x3_ok : SigOK x3 := by
  refine ⟨by decide, fun j => ?_⟩
  match j with
  | 0 => decide
  | 1 => decide
  | 2 => decide
  | 3 => decide
  | j + 4 => show -32767 ≤ (0 : Int) ∧ (0 : Int) ≤ 32767; decide
theorem nextY_take (u : Bool) (c : Crv) (xs zs : List Int) (n i : Nat) (h : i ≤ n) : nextY u c xs (zs.take n) i = nextY u c xs zs i := by
  unfold nextY hiF hoF
  rw [List.take_take, Nat.min_eq_left h]
theorem Filt.uniq {u : Bool} {c : Crv} {most : Int} {xs ys zs : List Int} (hy : Filt u c most xs ys) (hz : Filt u c most xs zs) (hl : ys.length ≤ zs.length) : ys = zs.take ys.length := by
  have key : ∀ n, n ≤ ys.length → ys.take n = zs.take n := by
    intro n
    induction n with
    | zero => intro _; rfl
    | succ n ih =>
      intro hn
      rw [take_snoc ys n 0 (by omega), take_snoc zs n 0 (by omega), ih (by omega), (hy.each n (by omega)).1, (hz.each n (by omega)).1, ← nextY_take u c xs ys n n (Nat.le_refl _), ih (by omega), nextY_take u c xs zs n n (Nat.le_refl _)]
  have := key ys.length (Nat.le_refl _)
  rwa [List.take_length] at this
theorem Filt.same {u : Bool} {c : Crv} {most : Int} {xs ys zs : List Int} (hy : Filt u c most xs ys) (hz : Filt u c most xs zs) (h1 : ys.length = xs.length) (h2 : zs.length = xs.length) : ys = zs := by
  have := hy.uniq hz (by omega)
  rwa [List.take_of_length_le (by omega)] at this
theorem Filt.no_far {u : Bool} {c : Crv} {most : Int} {xs ys zs : List Int} (hy : Filt u c most xs ys) (h1 : ys.length < xs.length) (hb : bey (nextY u c xs ys ys.length) most) (hz : Filt u c most xs zs) (h2 : zs.length = xs.length) : False := by
  have e := hy.uniq hz (by omega)
  have h3 := hz.each ys.length (by omega)
  rw [e, List.length_take, Nat.min_eq_left (by omega), nextY_take _ _ _ _ _ _ (Nat.le_refl _), ← h3.1] at hb
  exact h3.2 hb
def y3 : List Int := [nextY false v3 x3 [] 0, nextY false v3 x3 [100] 1, nextY false v3 x3 [100, 75] 2, nextY false v3 x3 [100, 75, 37] 3]
instance (n m : Int) : Decidable (bey n m) := by unfold bey; exact inferInstance
theorem y3_filt : Filt false v3 32767 x3 y3 := ⟨by decide, all_lt 4 (by decide)⟩
theorem y3_1 : y3.getD 1 0 = 75 := by decide
/-! ### The programme of the example -/
def T3 : List Tak := [⟨⟨#[97]⟩, [⟨10, -10⟩, ⟨5, 0⟩]⟩]
def p3 : List Prt := [⟨0, 0, 2, 0, 0, 0, 500⟩]
theorem T3_name : nameOK ⟨#[97]⟩ := ⟨by decide, by decide, fun j hj => by
  have : j = 0 := by
    have : j < 1 := hj
    omega
  subst this
  exact .inl (by decide)⟩
theorem T3_ok : TaksOK T3 := by
  refine ⟨by decide, fun j hj => ?_, fun i j hi hj => ?_⟩
  · have : j = 0 := by
      have : j < 1 := hj
      omega
    subst this
    exact ⟨T3_name, by decide, by decide, by decide⟩
  · have : i < 1 := hi
    omega
theorem p3_ok : ProgOK T3 p3 := by
  refine ⟨T3_ok, by decide, fun j hj => ?_, ⟨fun _ => by decide, fun i h1 h2 => ?_, fun i h1 h2 => ?_, by decide⟩⟩
  · have : j = 0 := by
      have : j < 1 := hj
      omega
    subst this
    decide
  · have : i < 1 := h2
    omega
  · have : i < 1 := h2
    omega
theorem r3_ok : smpE (rend T3 p3) = 0 := (smpE_iff _).2 ⟨by decide, all_lt 2 (by decide +kernel)⟩
theorem s25 : PSpec Tryz.prog 25 [] (xP True) := by
  refine spec_of pMix (O := []) Tryz.func25 (c := bodyOf Tryz.f25) rfl (by kernel_rfl) (by kernel_rfl) Tryz.ntmps25 (res := [.tmp 0]) (by kernel_rfl) ?_
  repeat' (conv => whnf
           first
           | refine Rng.ok (by simp only [inR]; omega) ?_
           | refine Ob.mk (by first | omega | (simp; done) | decide | (simp; omega)) ?_
           | refine Ob.mk (show eqOK _ _ = true from by kernel_rfl) ?_
           | refine Ob.mk (show keyOK _ _ _ = true from by kernel_rfl) ?_
           | refine Val.mk _ (shr_val (by simp; rfl)) ?_
           | refine Ob.mk (Nat.le_of_ble_eq_true rfl) ?_
           | refine JoinVC.on ?_
           | refine Nils.mk (fun h => ?_) ?_
           | refine Val.mk _ (Int.tmod_eq_emod_of_nonneg (by omega)) ?_
           | refine Val.mk _ (Int.tdiv_eq_ediv_of_nonneg (by omega)) ?_
           | refine Mm.mk ?_
           | (refine Br.mk (fun h => ?_) (fun h => ?_) <;> first | (exfalso; omega; done) | (exfalso; simp at h; done) | skip))
  conv => whnf
  refine CallVC.mk [] _ _ _ rfl rfl rfl (s30 c3 l3) (fun r m' h' => ?_)
  cases h' with
  | bad e h he hr hm => exact absurd ⟨c3_ok, l3_ok⟩ h
  | ok hC hl hr hm =>
    subst hr hm
    repeat' (conv => whnf
             first
             | refine Rng.ok (by simp only [inR]; omega) ?_
             | refine Ob.mk (by first | omega | (simp; done) | decide | (simp; omega)) ?_
             | refine Ob.mk (show eqOK _ _ = true from by kernel_rfl) ?_
             | refine Ob.mk (show keyOK _ _ _ = true from by kernel_rfl) ?_
             | refine Val.mk _ (shr_val (by simp; rfl)) ?_
             | refine Ob.mk (Nat.le_of_ble_eq_true rfl) ?_
             | refine JoinVC.on ?_
             | refine Nils.mk (fun h => ?_) ?_
             | refine Val.mk _ (Int.tmod_eq_emod_of_nonneg (by omega)) ?_
             | refine Val.mk _ (Int.tdiv_eq_ediv_of_nonneg (by omega)) ?_
             | refine Mm.mk ?_
             | (refine Br.mk (fun h => ?_) (fun h => ?_) <;> first | (exfalso; omega; done) | (exfalso; simp at h; done) | skip))
    conv => whnf
    refine CallVC.mk [] _ _ _ rfl rfl rfl (s35 c3 (cutF c3 l3) 1000) (fun r m' h' => ?_)
    cases h' with
    | bad e h he hr hm => exact absurd ⟨c3_ok, g3_ok, by decide⟩ h
    | none ht h hr hm => exact absurd (t3_yes.mono (t := t3) c3_ok (by decide) (by decide) (by decide)) h
    | ok ht k hk hk' hr hm =>
      have hk3 := t3_least hk
      subst hk3 hr hm
      repeat' (conv => whnf
               first
               | refine Rng.ok (by simp only [inR]; omega) ?_
               | refine Ob.mk (by first | omega | (simp; done) | decide | (simp; omega)) ?_
               | refine Ob.mk (show eqOK _ _ = true from by kernel_rfl) ?_
               | refine Ob.mk (show keyOK _ _ _ = true from by kernel_rfl) ?_
               | refine Val.mk _ (shr_val (by simp; rfl)) ?_
               | refine Ob.mk (Nat.le_of_ble_eq_true rfl) ?_
               | refine JoinVC.on ?_
               | refine Nils.mk (fun h => ?_) ?_
               | refine Val.mk _ (Int.tmod_eq_emod_of_nonneg (by omega)) ?_
               | refine Val.mk _ (Int.tdiv_eq_ediv_of_nonneg (by omega)) ?_
               | refine Mm.mk ?_
               | (refine Br.mk (fun h => ?_) (fun h => ?_) <;> first | (exfalso; omega; done) | (exfalso; simp at h; done) | skip))
      conv => whnf
      refine CallVC.mk [] _ _ _ rfl rfl rfl (s49 v3 x3) (fun r m' h' => ?_)
      cases h' with
      | bad e h he hr hm => exact absurd ⟨v3_ok, x3_ok⟩ h
      | far hl hx ys h hs hb hr hm => exact (h.no_far hs hb y3_filt rfl).elim
      | ok hl hx ys h hs hr hm =>
        have hy := h.same y3_filt hs rfl
        subst hy hr hm
        repeat' (conv => whnf
                 first
                 | refine Rng.ok (by simp only [inR]; omega) ?_
                 | refine Ob.mk (by first | omega | (simp; done) | decide | (simp; omega)) ?_
                 | refine Ob.mk (show eqOK _ _ = true from by kernel_rfl) ?_
                 | refine Ob.mk (show keyOK _ _ _ = true from by kernel_rfl) ?_
                 | refine Val.mk _ (shr_val (by simp; rfl)) ?_
                 | refine Ob.mk (Nat.le_of_ble_eq_true rfl) ?_
                 | refine JoinVC.on ?_
                 | refine Nils.mk (fun h => ?_) ?_
                 | refine Val.mk _ (Int.tmod_eq_emod_of_nonneg (by omega)) ?_
                 | refine Val.mk _ (Int.tdiv_eq_ediv_of_nonneg (by omega)) ?_
                 | refine Mm.mk ?_
                 | (refine Br.mk (fun h => ?_) (fun h => ?_) <;> first | (exfalso; omega; done) | (exfalso; simp at h; done) | skip))
        conv => whnf
        refine CallVC.mk [] _ _ _ rfl rfl rfl (s26 T3 p3 p3_ok) (fun r m' h' => ?_)
        rcases h' with ⟨h1, rfl, rfl⟩ | ⟨h1, rfl, rfl⟩
        · have q1 : (List.length (smpA (cutF c3 l3)) : Int) = 3 := by decide
          have q2 : rI (smpA (cutF c3 l3)) (Int.toNat 1) 0 = -200 := by decide
          have q3 : rI (smpA (cutF c3 l3)) (Int.toNat 1) (0 + 1) = 600 := by decide
          have q4 : (List.length (i64s y3) : Int) = 4 := by decide
          have q5 : rI (i64s y3) (Int.toNat 1) 0 = 75 := by decide
          have q6 : (List.length (smpA (rend T3 p3)) : Int) = 2 := by decide
          have q7 : rI (smpA (rend T3 p3)) (Int.toNat 0) 0 = 5 := by decide +kernel
          have q8 : rI (smpA (rend T3 p3)) (Int.toNat 0) (0 + 1) = -5 := by decide +kernel
          repeat' (conv => whnf
                   first
                   | refine Rng.ok (by simp only [inR]; omega) ?_
                   | refine Ob.mk (by first | omega | (simp; done) | decide | (simp; omega)) ?_
                   | refine Ob.mk (show eqOK _ _ = true from by kernel_rfl) ?_
                   | refine Ob.mk (show keyOK _ _ _ = true from by kernel_rfl) ?_
                   | refine Val.mk _ (shr_val (by simp; rfl)) ?_
                   | refine Ob.mk (Nat.le_of_ble_eq_true rfl) ?_
                   | refine JoinVC.on ?_
                   | refine Nils.mk (fun h => ?_) ?_
                   | refine Val.mk _ (Int.tmod_eq_emod_of_nonneg (by omega)) ?_
                   | refine Val.mk _ (Int.tdiv_eq_ediv_of_nonneg (by omega)) ?_
                   | refine Mm.mk ?_
                   | (refine Br.mk (fun h => ?_) (fun h => ?_) <;> first | (exfalso; omega; done) | (exfalso; simp at h; done) | skip))
          all_goals first
            | exact absurd ⟨q2, q3, trivial⟩ h
            | exact absurd ⟨q7, q8, trivial⟩ h
            | skip
          repeat refine Mm.mk ?_
          refine EndVC.mk _ rfl _ _ ⟨rfl, rfl⟩ ?_
          refine ⟨[], rfl, rfl, ?_, ?_⟩ <;> repeat' (first | exact trivial | exact rfl | exact Iff.rfl | apply And.intro)
          exact ⟨fun _ => trivial, fun _ => ⟨q7, q8, trivial⟩⟩
        · exact absurd r3_ok h1
end Go.Sx

namespace Go.Sx
open Go Go.Proofs
set_option maxRecDepth 10000
set_option maxHeartbeats 4000000
/-! ### What a chain makes can be undone -/
theorem Filt.inv {c : Crv} {m : Int} {xs ys : List Int} (h : Filt false c m xs ys) (hl : ys.length = xs.length) (hx : sigB m xs) : Filt true c m ys xs := by
  refine ⟨by omega, fun j hj => ⟨?_, fun hb => ?_⟩⟩
  · have h1 := (h.each j (by omega)).1
    have e1 : nextY false c xs ys j = xs.getD j 0 + corF c (xs.take j).reverse (ys.take j).reverse := rfl
    have e2 : nextY true c ys xs j = ys.getD j 0 - corF c (xs.take j).reverse (ys.take j).reverse := rfl
    rw [e1] at h1
    rw [e2]
    omega
  · have := hx j
    unfold bey at hb
    omega
theorem ChN.cons {u : Bool} {g : Nat → Crv} {x z : List Int} (h1 : Filt u (g 0) 32767 x z) (h2 : z.length = x.length) : ∀ {n : Nat} {a : List Int}, ChN u (fun i => g (i + 1)) z n a → ChN u g x (n + 1) a
  | 0, _, h => by cases h; exact ⟨x, rfl, h1, h2⟩
  | n + 1, _, ⟨w, hw, hf, hl⟩ => ⟨w, ChN.cons h1 h2 hw, hf, hl⟩
theorem ChN.inv {f : Nat → Crv} {a : List Int} (ha : sigB 32767 a) : ∀ {n : Nat} {x : List Int}, ChN false f a n x → ChN true (fun i => f (n - 1 - i)) x n a
  | 0, _, h => h.symm
  | n + 1, x, ⟨z, hz, hf, hl⟩ => by
    have h1 := hf.inv hl (hz.sig ha)
    have h2 := ChN.inv ha hz
    refine ChN.cons (z := z) (by simpa using h1) hl.symm ?_
    have e : (fun i => f (n + 1 - 1 - (i + 1))) = fun i => f (n - 1 - i) := by
      funext i
      rw [show n + 1 - 1 - (i + 1) = n - 1 - i by omega]
    rw [e]
    exact h2
theorem ChN.uniq {u : Bool} {f : Nat → Crv} {xs : List Int} : ∀ {n : Nat} {ys zs : List Int}, ChN u f xs n ys → ChN u f xs n zs → ys = zs
  | 0, _, _, h1, h2 => by rw [h1, h2]
  | n + 1, _, _, ⟨w, h1, h2, h3⟩, ⟨v, h4, h5, h6⟩ => by
    have e := ChN.uniq h1 h4
    subst e
    exact h2.same h5 h3 h6
theorem ChN.pre {u : Bool} {f : Nat → Crv} {xs : List Int} {i : Nat} : ∀ {n : Nat} {ys : List Int}, ChN u f xs n ys → i ≤ n → ∃ zs, ChN u f xs i zs
  | 0, ys, h, hi => by rw [show i = 0 by omega]; exact ⟨ys, h⟩
  | n + 1, ys, h, hi => by
    by_cases e : i = n + 1
    · rw [e]; exact ⟨ys, h⟩
    · obtain ⟨w, hw, _⟩ := h
      exact ChN.pre hw (by omega)
theorem ChN.no_far {u : Bool} {f : Nat → Crv} {xs ys : List Int} {n : Nat} (h : ChN u f xs n ys) (hf : FarN u f xs n) : False := by
  obtain ⟨i, zs, vs, hi, hc, hv, hl, hb⟩ := hf
  obtain ⟨ws, zs', hz, hw, hwl⟩ := h.pre (i := i + 1) (by omega)
  have e := hc.uniq hz
  subst e
  exact hv.no_far hl hb hw hwl
theorem ChN.back {L : List Crv} {a x : List Int} (ha : sigB 32767 a) (h : ChN false (atC false L) a L.length x) : ChN true (atC true L) x L.length a := h.inv ha
/-! ### A point is read as its sample -/
theorem tdiv_neg_amt {n g : Int} (hg : 0 ≤ g) : amt ((n * g).tdiv 1000) = (amt n * g) / 1000 := by
  by_cases hn : 0 ≤ n
  · have h1 : 0 ≤ n * g := Int.mul_nonneg hn hg
    have h2 : 0 ≤ (n * g) / 1000 := Int.ediv_nonneg h1 (by decide)
    rw [Int.tdiv_eq_ediv_of_nonneg h1]
    have e1 : amt n = n := by unfold amt; rw [if_neg (by omega)]
    rw [e1]
    unfold amt
    rw [if_neg (by omega)]
  · have h1 : 0 ≤ (-n) * g := Int.mul_nonneg (by omega) hg
    have h2 : 0 ≤ ((-n) * g) / 1000 := Int.ediv_nonneg h1 (by decide)
    have e1 : amt n = -n := by unfold amt; rw [if_pos (by omega)]
    have e2 : n * g = -((-n) * g) := by rw [Int.neg_mul, Int.neg_neg]
    rw [e1, e2, Int.neg_tdiv, Int.tdiv_eq_ediv_of_nonneg h1]
    unfold amt
    split <;> omega
theorem rd_exact {c : Cut} (_hC : CutOK c) (hg : 1000 ≤ c.gain) {n k : Int} (hn : -32767 ≤ n ∧ n ≤ 32767) (hk : Least (pB c ((n * c.gain).tdiv 1000)) 32768 k) : rdF ((n * c.gain).tdiv 1000) k = n := by
  have hamt := amt_bd (n := n) (B := 32767) hn
  have e1 := tdiv_neg_amt (n := n) (g := c.gain) (by omega)
  have hp : ∀ q, 0 ≤ q → (pB c ((n * c.gain).tdiv 1000) q ↔ amt n ≤ q) := by
    intro q hq
    unfold pB
    rw [e1, Int.tdiv_eq_ediv_of_nonneg (Int.mul_nonneg hq (by omega))]
    constructor
    · intro h1
      refine Int.not_lt.1 fun h2 => ?_
      have h3 : (q + 1) * c.gain ≤ amt n * c.gain := Int.mul_le_mul_of_nonneg_right (by omega) (by omega)
      rw [Int.add_mul, Int.one_mul] at h3
      omega
    · intro h1
      have h3 : amt n * c.gain ≤ q * c.gain := Int.mul_le_mul_of_nonneg_right h1 (by omega)
      omega
  have hkn : k = amt n := by
    have h1 : ¬ amt n < k := fun h => hk.no _ hamt.1 h ((hp _ hamt.1).2 (Int.le_refl _))
    have h2 : ¬ k < amt n := fun h => by
      have := (hp k hk.rng.1).1 (hk.yes (by omega))
      omega
    omega
  rw [hkn]
  have hsgn : (n * c.gain).tdiv 1000 < 0 ↔ n < 0 := by
    by_cases h0 : 0 ≤ n
    · have h1 : 0 ≤ n * c.gain := Int.mul_nonneg h0 (by omega)
      rw [Int.tdiv_eq_ediv_of_nonneg h1]
      have := Int.ediv_nonneg h1 (show (0 : Int) ≤ 1000 by decide)
      omega
    · have h1 : 1000 ≤ (-n) * c.gain := by
        have h2 : (1 : Int) * c.gain ≤ (-n) * c.gain := Int.mul_le_mul_of_nonneg_right (by omega) (by omega)
        omega
      have e2 : n * c.gain = -((-n) * c.gain) := by rw [Int.neg_mul, Int.neg_neg]
      rw [e2, Int.neg_tdiv, Int.tdiv_eq_ediv_of_nonneg (by omega)]
      omega
  unfold rdF amt
  split
  · rename_i h
    have := hsgn.1 h
    rw [if_pos (by omega)]; omega
  · rename_i h
    have : ¬ n < 0 := fun h2 => h (hsgn.2 h2)
    rw [if_neg (by omega)]
theorem ptF_edge {c : Cut} (hC : CutOK c) {s : Smp} (hs : s.ok) : edgeP (ptF c s) := by
  obtain ⟨h1, h2, h3, h4⟩ := hs
  have g1 := gain_rng hC ⟨h1, h2⟩
  have g2 := gain_rng hC ⟨h3, h4⟩
  have hh := hC.half
  unfold edgeP ptF
  simp only
  omega
theorem s32x (c : Cut) (s : Smp) (hC : CutOK c) (hg : 1000 ≤ c.gain) (hs : s.ok) : HSpec Tryz.prog 32 [c.x, (ptF c s).x] [] (fun r m' => r = .tup [s.x, I 0] ∧ m' = []) := by
  refine HSpec.mono (s32 c (ptF c s)) fun r m' h => ?_
  have e1 : (ptF c s).r - c.half = (s.l * c.gain).tdiv 1000 := Int.add_sub_cancel _ _
  have e2 : (ptF c s).l + c.half = (s.r * c.gain).tdiv 1000 := Int.sub_add_cancel _ _
  obtain ⟨h1, h2, h3, h4⟩ := id hs
  cases h with
  | bad e h he hr hm => exact absurd ⟨hC, ptF_edge hC hs⟩ h
  | none hC' hp kl kr hl hR hn hr hm =>
    rw [e1] at hl
    rw [e2] at hR
    rw [e1, e2, rd_exact hC hg ⟨h1, h2⟩ hl, rd_exact hC hg ⟨h3, h4⟩ hR] at hn
    exact absurd ⟨hs, rfl⟩ hn
  | ok hC' hp kl kr hl hR hs' he hr hm =>
    rw [e1] at hl
    rw [e2] at hR
    rw [e1, e2, rd_exact hC hg ⟨h1, h2⟩ hl, rd_exact hC hg ⟨h3, h4⟩ hR] at hr
    exact ⟨hr, hm⟩
end Go.Sx

namespace Go.Sx
open Go Go.Proofs
set_option maxRecDepth 10000
set_option maxHeartbeats 4000000
theorem e43 : EntersF Tryz.prog 43 := enters_of Tryz.func43 (c := bodyOf Tryz.f43) (by kernel_rfl) rfl
theorem e126 : EntersF Tryz.prog 126 := enters_of Tryz.func126 (c := bodyOf Tryz.f126) (by kernel_rfl) rfl
theorem e123 : EntersF Tryz.prog 123 := enters_of Tryz.func123 (c := bodyOf Tryz.f123) (by kernel_rfl) rfl
theorem e40 : EntersF Tryz.prog 40 := enters_of Tryz.func40 (c := bodyOf Tryz.f40) (by kernel_rfl) rfl
theorem s123 (s : Smp) (h : (-5000000 ≤ s.l ∧ s.l ≤ 5000000) ∧ (-5000000 ≤ s.r ∧ s.r ≤ 5000000)) : PSpec Tryz.prog 123 [s.x] (.x (.agg [.int .i64 (amt s.l), .int .i64 (amt s.r)])) := by
  have h1 : (0 : Int) - s.l = -s.l := by omega
  have h2 : (0 : Int) - s.r = -s.r := by omega
  refine spec_of pMix (O := []) Tryz.func123 (c := bodyOf Tryz.f123) rfl (by kernel_rfl) (by kernel_rfl) Tryz.ntmps123 (res := [.cell 2 47]) (by kernel_rfl) ?_
  repeat' (conv => whnf
           first
           | rw [h1]
           | rw [h2]
           | refine Rng.ok (by simp only [inR]; omega) ?_
           | refine Ob.mk (by first | omega | (simp; done) | decide | (simp; omega)) ?_
           | refine Ob.mk (show eqOK _ _ = true from by kernel_rfl) ?_
           | refine Ob.mk (show keyOK _ _ _ = true from by kernel_rfl) ?_
           | refine Val.mk _ (shr_val (by simp; rfl)) ?_
           | refine Ob.mk (Nat.le_of_ble_eq_true rfl) ?_
           | refine JoinVC.on ?_
           | refine Nils.mk (fun h => ?_) ?_
           | refine Val.mk _ (Int.tmod_eq_emod_of_nonneg (by omega)) ?_
           | refine Val.mk _ (Int.tdiv_eq_ediv_of_nonneg (by omega)) ?_
           | refine Mm.mk ?_
           | (refine Br.mk (fun h => ?_) (fun h => ?_) <;> first | (exfalso; omega; done) | (exfalso; simp at h; done) | skip))
  repeat refine Mm.mk ?_
  refine EndVC.mk _ rfl _ _ ⟨rfl, rfl⟩ ?_
  refine ⟨[], rfl, rfl, ?_, ?_⟩ <;> repeat' (first | exact trivial | exact rfl | exact Iff.rfl | apply And.intro)
/-! ### Silences -/
def prR (p : Int × Int) : List Cell := [.int p.1, .int p.2]
def prA (O : List (Int × Int)) : Arr := O.map prR
theorem prA_len (O : List (Int × Int)) : (prA O).length = O.length := by simp [prA]
theorem prA_snoc (O : List (Int × Int)) (p : Int × Int) : prA (O ++ [p]) = prA O ++ [[.int p.1, .int p.2]] := by simp [prA, prR]
theorem prA_0 (O : List (Int × Int)) (i : Nat) : rI (prA O) i 0 = (O.getD i (0, 0)).1 := by
  by_cases h : i < O.length <;> simp [rI, cellAt, prA, prR, List.getD_eq_getElem?_getD, h, Cell.toInt]
theorem prA_1 (O : List (Int × Int)) (i : Nat) : rI (prA O) i (0 + 1) = (O.getD i (0, 0)).2 := by
  by_cases h : i < O.length <;> simp [rI, cellAt, prA, prR, List.getD_eq_getElem?_getD, h, Cell.toInt]
@[reducible] def rowQ (O : List (Int × Int)) : Blk := .row 77 false KS (prA O)
theorem eb77 : Tryz.t77.bytes = 16 := by kernel_rfl
def addQ (O : List (Int × Int)) (fr i le : Int) : List (Int × Int) := if le ≤ i - fr then O ++ [(fr, i)] else O
theorem addQ_len (O : List (Int × Int)) (fr i le : Int) : (addQ O fr i le).length ≤ O.length + 1 := by unfold addQ; split <;> simp
@[reducible] def silM (fr le : Int) (O : List (Int × Int)) : List Blk := [.box 3 [.int .i64 fr], .box 3 [.int .i64 le], .box 74 [.own 3], rowQ O]
theorem s126 (i fr le : Int) (O : List (Int × Int)) (hi : 0 ≤ i ∧ i ≤ 100000) (hf : 0 ≤ fr ∧ fr ≤ 100001) (hO : O.length ≤ 100000) :
    HSpec Tryz.prog 126 [I i, .one (.ptr 0 0), .one (.ptr 1 0), .one (.ptr 2 0)] (silM fr le O) (fun r m' => r = .tup [] ∧ m' = [some (.box 3 [.int .i64 (i + 1)]), some (.box 3 [.int .i64 le]), some (.box 74 [.own 4]), none, some (rowQ (addQ O fr i le))]) := by
  have lO := prA_len O
  refine spec_of pMix (O := []) Tryz.func126 (c := bodyOf Tryz.f126) rfl (by kernel_rfl) (by kernel_rfl) Tryz.ntmps126 (res := []) (by kernel_rfl) ?_
  by_cases h : le ≤ i - fr
  · have e : addQ O fr i le = O ++ [(fr, i)] := if_pos h
    have e2 : prA O ++ [[Cell.int fr, Cell.int i]] = prA (O ++ [(fr, i)]) := (prA_snoc O (fr, i)).symm
    rw [e]
    repeat' (conv => whnf
             first
             | refine Rng.ok (by simp only [inR]; omega) ?_
             | refine Ob.mk (by first | omega | (simp; done) | decide | (simp; omega)) ?_
             | refine Ob.mk (show eqOK _ _ = true from by kernel_rfl) ?_
             | refine Ob.mk (show keyOK _ _ _ = true from by kernel_rfl) ?_
             | refine Val.mk _ (shr_val (by simp; rfl)) ?_
             | refine Ob.mk (Nat.le_of_ble_eq_true rfl) ?_
             | refine JoinVC.on ?_
             | refine Nils.mk (fun h => ?_) ?_
             | refine Val.mk _ (Int.tmod_eq_emod_of_nonneg (by omega)) ?_
             | refine Val.mk _ (Int.tdiv_eq_ediv_of_nonneg (by omega)) ?_
             | refine Mm.mk ?_
             | (refine Br.mk (fun h => ?_) (fun h => ?_) <;> first | (exfalso; omega; done) | (exfalso; simp at h; done) | skip))
    repeat refine Mm.mk ?_
    refine Ob.mk (by simp only [lO, eb77, List.length_cons, List.length_nil]; omega) ?_
    repeat' (conv => whnf
             first
             | refine Rng.ok (by simp only [inR]; omega) ?_
             | refine Ob.mk (by first | omega | (simp; done) | decide | (simp; omega)) ?_
             | refine Ob.mk (show eqOK _ _ = true from by kernel_rfl) ?_
             | refine Ob.mk (show keyOK _ _ _ = true from by kernel_rfl) ?_
             | refine Val.mk _ (shr_val (by simp; rfl)) ?_
             | refine Ob.mk (Nat.le_of_ble_eq_true rfl) ?_
             | refine JoinVC.on ?_
             | refine Nils.mk (fun h => ?_) ?_
             | refine Val.mk _ (Int.tmod_eq_emod_of_nonneg (by omega)) ?_
             | refine Val.mk _ (Int.tdiv_eq_ediv_of_nonneg (by omega)) ?_
             | refine Mm.mk ?_
             | (refine Br.mk (fun h => ?_) (fun h => ?_) <;> first | (exfalso; omega; done) | (exfalso; simp at h; done) | skip))
    repeat refine Mm.mk ?_
    refine EndVC.mk _ rfl _ _ ⟨rfl, rfl⟩ ?_
    refine ⟨[some 0, some 1, some 2, none, some 5], rfl, rfl, ?_, ?_⟩ <;> repeat' (first | exact trivial | exact rfl | exact Iff.rfl | apply And.intro)
    exact e2
  · have e : addQ O fr i le = O := if_neg h
    rw [e]
    repeat' (conv => whnf
             first
             | refine Rng.ok (by simp only [inR]; omega) ?_
             | refine Ob.mk (by first | omega | (simp; done) | decide | (simp; omega)) ?_
             | refine Ob.mk (show eqOK _ _ = true from by kernel_rfl) ?_
             | refine Ob.mk (show keyOK _ _ _ = true from by kernel_rfl) ?_
             | refine Val.mk _ (shr_val (by simp; rfl)) ?_
             | refine Ob.mk (Nat.le_of_ble_eq_true rfl) ?_
             | refine JoinVC.on ?_
             | refine Nils.mk (fun h => ?_) ?_
             | refine Val.mk _ (Int.tmod_eq_emod_of_nonneg (by omega)) ?_
             | refine Val.mk _ (Int.tdiv_eq_ediv_of_nonneg (by omega)) ?_
             | refine Mm.mk ?_
             | (refine Br.mk (fun h => ?_) (fun h => ?_) <;> first | (exfalso; omega; done) | (exfalso; simp at h; done) | skip))
    repeat refine Mm.mk ?_
    refine EndVC.mk _ rfl _ _ ⟨rfl, rfl⟩ ?_
    refine ⟨[some 0, some 1, some 2, none, some 3], rfl, rfl, ?_, ?_⟩ <;> repeat' (first | exact trivial | exact rfl | exact Iff.rfl | apply And.intro)
/-- Silences: runs of samples of at most this amount. -/
structure Sil (s : List Smp) (lim le : Int) (O : List (Int × Int)) : Prop where
  each : ∀ k, k < O.length → 0 ≤ (O.getD k (0, 0)).1 ∧ (O.getD k (0, 0)).2 ≤ s.length ∧ le ≤ (O.getD k (0, 0)).2 - (O.getD k (0, 0)).1 ∧ ∀ i : Nat, (O.getD k (0, 0)).1 ≤ i → (i : Int) < (O.getD k (0, 0)).2 → amt (s.getD i s0).l ≤ lim ∧ amt (s.getD i s0).r ≤ lim
theorem Sil.add {s : List Smp} {lim le : Int} {O : List (Int × Int)} (h : Sil s lim le O) {fr i : Int} (h1 : 0 ≤ fr) (h2 : i ≤ s.length) (h3 : ∀ j : Nat, fr ≤ j → (j : Int) < i → amt (s.getD j s0).l ≤ lim ∧ amt (s.getD j s0).r ≤ lim) : Sil s lim le (addQ O fr i le) := by
  unfold addQ
  split
  · rename_i hle
    refine ⟨fun k hk => ?_⟩
    rw [List.length_append, List.length_cons, List.length_nil] at hk
    by_cases hk' : k < O.length
    · have e : (O ++ [(fr, i)]).getD k (0, 0) = O.getD k (0, 0) := by simp [List.getD_eq_getElem?_getD, List.getElem?_append_left hk']
      rw [e]; exact h.each k hk'
    · have hk2 : k = O.length := by omega
      subst hk2
      have e : (O ++ [(fr, i)]).getD O.length (0, 0) = (fr, i) := by simp [List.getD_eq_getElem?_getD]
      rw [e]; exact ⟨h1, h2, hle, h3⟩
  · exact h
inductive SilRs (s : List Smp) (lim le : Int) (r : AV) (m' : List (Option Blk)) : Prop
  | bad (e : Int) (h : ¬ (SmpsOK s ∧ (0 ≤ lim ∧ lim ≤ 32767) ∧ 1 ≤ le ∧ le ≤ 4096)) (he : e ≠ 0) (hr : r = .tup [.one .nils, I e]) (hm : m' = [])
  | ok (O : List (Int × Int)) (h : Sil s lim le O) (hl : O.length ≤ s.length + 1) (hr : r = .tup [.one (.own 0), I 0]) (hm : m' = [some (rowQ O)])
theorem s43 (s : List Smp) (lim le : Int) (hs : SmpsOK s) (hlim : 0 ≤ lim ∧ lim ≤ 32767) (hle : 1 ≤ le ∧ le ≤ 4096) : HSpec Tryz.prog 43 [lS s, I lim, I le] [] (fun r m' => ∃ O, Sil s lim le O ∧ O.length ≤ s.length + 1 ∧ r = .tup [.one (.own 0), I 0] ∧ m' = [some (rowQ O)]) := by
  have ls := smpA_len s
  have h40 := hs.len
  have c1 := s103 s
  rw [(smpE_iff s).2 hs] at c1
  refine spec_of pMix (O := []) Tryz.func43 (c := bodyOf Tryz.f43) rfl (by kernel_rfl) (by kernel_rfl) Tryz.ntmps43 (res := [.tmp 6, .tmp 7]) (by kernel_rfl) ?_
  repeat' (conv => whnf
           first
           | refine Rng.ok (by simp only [inR]; omega) ?_
           | refine Ob.mk (by first | omega | (simp; done) | decide | (simp; omega)) ?_
           | refine Ob.mk (show eqOK _ _ = true from by kernel_rfl) ?_
           | refine Ob.mk (show keyOK _ _ _ = true from by kernel_rfl) ?_
           | refine Val.mk _ (shr_val (by simp; rfl)) ?_
           | refine Ob.mk (Nat.le_of_ble_eq_true rfl) ?_
           | refine JoinVC.on ?_
           | refine Nils.mk (fun h => ?_) ?_
           | refine Val.mk _ (Int.tmod_eq_emod_of_nonneg (by omega)) ?_
           | refine Val.mk _ (Int.tdiv_eq_ediv_of_nonneg (by omega)) ?_
           | refine Mm.mk ?_
           | refine CallVC.pure rfl (c1) ?_
           | refine CallVC.pure rfl (s125 lim 0 32767) ?_
           | refine CallVC0.pure rfl (c1) ?_
           | refine CallVC0.pure rfl (s125 lim 0 32767) ?_
           | (refine Br.mk (fun h => ?_) (fun h => ?_) <;> first | (exfalso; omega; done) | (exfalso; simp at h; done) | skip))
  refine LoopVC.mk (fun n st => ∃ (i : Nat) (fr : Int) (O : List (Int × Int)), i ≤ s.length ∧ n = s.length - i ∧ (0 ≤ fr ∧ fr ≤ i) ∧ O.length ≤ i ∧ Sil s lim le O ∧ (∀ j : Nat, fr ≤ j → j < i → amt (s.getD j s0).l ≤ lim ∧ amt (s.getD j s0).r ≤ lim) ∧ st = ⟨0, envA 57 [(0, .x (lS s)), (1, .x (I lim)), (9, .x (.one (.ptr 1 0))), (10, .x (.one (.ptr 2 0))), (11, .x (.one (.fn 126 [(2, 0), (0, 0), (1, 0)]))), (32, .x (lS s)), (33, .int .i64 (s.length : Int)), (34, .int .i64 (i : Int))], [some (.box 3 [.int .i64 le]), some (.box 74 [.own 3]), some (.box 3 [.int .i64 fr]), some (rowQ O)]⟩) _ _ ⟨0, 0, [], Nat.zero_le _, rfl, by omega, Nat.zero_le _, ⟨fun k hk => absurd hk (Nat.not_lt_zero k)⟩, fun j _ hj => absurd hj (Nat.not_lt_zero j), rfl⟩ ?_ ?_
  · refine ⟨[some 0, some 1, some 2, none], rfl, rfl, ?_, ?_⟩ <;> repeat' (first | exact trivial | exact rfl | exact Iff.rfl | apply And.intro)
    exact congrArg Int.ofNat ls
  rintro n _ ⟨i, fr, O, hi, hn, hfr, hOl, hS, hrun, rfl⟩
  have a0 : rI (smpA s) (i : Int).toNat 0 = (s.getD i s0).l := by rw [Int.toNat_natCast, smpA_l]
  have a1 : rI (smpA s) (i : Int).toNat (0 + 1) = (s.getD i s0).r := by rw [Int.toNat_natCast, smpA_r]
  by_cases hi' : i < s.length
  · have hk := hs.each i hi'
    obtain ⟨k1, k2, k3, k4⟩ := id hk
    have c2 := s123 (s.getD i s0) (by omega)
    have b1 := amt_bd (n := (s.getD i s0).l) (B := 32767) (by omega)
    have b2 := amt_bd (n := (s.getD i s0).r) (B := 32767) (by omega)
    have c4 := s126 (i : Int) fr le O (by omega) (by omega) (by omega)
    repeat' (conv => whnf
             first
             | rw [a0]
             | rw [a1]
             | refine Rng.ok (by simp only [inR]; omega) ?_
             | refine Ob.mk (by first | omega | (simp; done) | decide | (simp; omega)) ?_
             | refine Ob.mk (show eqOK _ _ = true from by kernel_rfl) ?_
             | refine Ob.mk (show keyOK _ _ _ = true from by kernel_rfl) ?_
             | refine Val.mk _ (shr_val (by simp; rfl)) ?_
             | refine Ob.mk (Nat.le_of_ble_eq_true rfl) ?_
             | refine JoinVC.on ?_
             | refine Nils.mk (fun h => ?_) ?_
             | refine Val.mk _ (Int.tmod_eq_emod_of_nonneg (by omega)) ?_
             | refine Val.mk _ (Int.tdiv_eq_ediv_of_nonneg (by omega)) ?_
             | refine Mm.mk ?_
             | refine CallVC.pure rfl (c2) ?_
             | refine CallVC0.pure rfl (c2) ?_
             | (refine Br.mk (fun h => ?_) (fun h => ?_) <;> first | (exfalso; omega; done) | (exfalso; simp at h; done) | skip))
    · conv => whnf
      refine CallVC.mk [2, 0, 1, 3] _ _ _ rfl rfl rfl (c4) (fun r m' h' => ?_)
      obtain ⟨rfl, rfl⟩ := h'
      conv => whnf
      have la := addQ_len O fr i le
      repeat' (conv => whnf
               first
               | refine Rng.ok (by simp only [inR]; omega) ?_
               | refine Ob.mk (by first | omega | (simp; done) | decide | (simp; omega)) ?_
               | refine Ob.mk (show eqOK _ _ = true from by kernel_rfl) ?_
               | refine Ob.mk (show keyOK _ _ _ = true from by kernel_rfl) ?_
               | refine Val.mk _ (shr_val (by simp; rfl)) ?_
               | refine Ob.mk (Nat.le_of_ble_eq_true rfl) ?_
               | refine JoinVC.on ?_
               | refine Nils.mk (fun h => ?_) ?_
               | refine Val.mk _ (Int.tmod_eq_emod_of_nonneg (by omega)) ?_
               | refine Val.mk _ (Int.tdiv_eq_ediv_of_nonneg (by omega)) ?_
               | refine Mm.mk ?_
               | (refine Br.mk (fun h => ?_) (fun h => ?_) <;> first | (exfalso; omega; done) | (exfalso; simp at h; done) | skip))
      refine Back.mk (s.length - (i + 1)) _ (by omega) ⟨i + 1, (i : Int) + 1, addQ O fr i le, by omega, rfl, by omega, by omega, hS.add hfr.1 (by omega) (fun j h1 h2 => hrun j h1 (by omega)), fun j h1 h2 => by omega, rfl⟩ ?_
      refine ⟨[some 0, some 1, some 2, some 6], rfl, rfl, ?_, ?_⟩ <;> repeat' (first | exact trivial | exact rfl | exact Iff.rfl | apply And.intro)
    · refine Back.mk (s.length - (i + 1)) _ (by omega) ⟨i + 1, fr, O, by omega, rfl, by omega, by omega, hS, fun j h1 h2 => ?_, rfl⟩ ?_
      · by_cases hj : j = i
        · subst hj
          split at h <;> omega
        · exact hrun j h1 (by omega)
      · refine ⟨[some 0, some 1, some 2, some 3], rfl, rfl, ?_, ?_⟩ <;> repeat' (first | exact trivial | exact rfl | exact Iff.rfl | apply And.intro)
  · have e : i = s.length := by omega
    subst e
    have c3 := s126 ((smpA s).length : Int) fr le O (by omega) (by omega) (by omega)
    repeat' (conv => whnf
             first
             | refine Rng.ok (by simp only [inR]; omega) ?_
             | refine Ob.mk (by first | omega | (simp; done) | decide | (simp; omega)) ?_
             | refine Ob.mk (show eqOK _ _ = true from by kernel_rfl) ?_
             | refine Ob.mk (show keyOK _ _ _ = true from by kernel_rfl) ?_
             | refine Val.mk _ (shr_val (by simp; rfl)) ?_
             | refine Ob.mk (Nat.le_of_ble_eq_true rfl) ?_
             | refine JoinVC.on ?_
             | refine Nils.mk (fun h => ?_) ?_
             | refine Val.mk _ (Int.tmod_eq_emod_of_nonneg (by omega)) ?_
             | refine Val.mk _ (Int.tdiv_eq_ediv_of_nonneg (by omega)) ?_
             | refine Mm.mk ?_
             | (refine Br.mk (fun h => ?_) (fun h => ?_) <;> first | (exfalso; omega; done) | (exfalso; simp at h; done) | skip))
    conv => whnf
    refine CallVC.mk [2, 0, 1, 3] _ _ _ rfl rfl rfl (c3) (fun r m' h' => ?_)
    obtain ⟨rfl, rfl⟩ := h'
    conv => whnf
    repeat' (conv => whnf
             first
             | refine Rng.ok (by simp only [inR]; omega) ?_
             | refine Ob.mk (by first | omega | (simp; done) | decide | (simp; omega)) ?_
             | refine Ob.mk (show eqOK _ _ = true from by kernel_rfl) ?_
             | refine Ob.mk (show keyOK _ _ _ = true from by kernel_rfl) ?_
             | refine Val.mk _ (shr_val (by simp; rfl)) ?_
             | refine Ob.mk (Nat.le_of_ble_eq_true rfl) ?_
             | refine JoinVC.on ?_
             | refine Nils.mk (fun h => ?_) ?_
             | refine Val.mk _ (Int.tmod_eq_emod_of_nonneg (by omega)) ?_
             | refine Val.mk _ (Int.tdiv_eq_ediv_of_nonneg (by omega)) ?_
             | refine Mm.mk ?_
             | (refine Br.mk (fun h => ?_) (fun h => ?_) <;> first | (exfalso; omega; done) | (exfalso; simp at h; done) | skip))
    repeat refine Mm.mk ?_
    conv => whnf
    refine EndVC.mk _ rfl _ _ (⟨addQ O fr (smpA s).length le, hS.add hfr.1 (by omega) (fun j h1 h2 => hrun j h1 (by omega)), Nat.le_trans (addQ_len ..) (by omega), rfl, rfl⟩) ?_
    refine ⟨[some 4], rfl, rfl, ?_, ?_⟩ <;> repeat' (first | exact trivial | exact rfl | exact Iff.rfl | apply And.intro)
end Go.Sx

namespace Go.Sx
open Go Go.Proofs
set_option maxRecDepth 10000
set_option maxHeartbeats 8000000
theorem e7 : EntersF Tryz.prog 7 := enters_of Tryz.func7 (c := bodyOf Tryz.f7) (by kernel_rfl) rfl
/-! ### Edges of a cut groove -/
theorem cut_ok {c : Cut} (hC : CutOK c) {s : List Smp} (hs : SmpsOK s) : PtsOK (cutF c s) := ⟨by rw [cutF_len]; exact hs.len, fun j hj => by
  rw [cutF_len] at hj
  rw [cutF_get c s j hj]
  exact ptF_edge hC (hs.each j hj)⟩
/-- The point of no signal. -/
def ptZ (c : Cut) : Smp := ⟨-c.half, c.half⟩
theorem ptF_0 (c : Cut) : ptF c s0 = ptZ c := by simp [ptF, ptZ]
theorem amt_0 {n : Int} (h : amt n ≤ 0) : n = 0 := by unfold amt at h; split at h <;> omega
theorem pN_silent {c : Cut} (hC : CutOK c) {g : List Smp} {per : Int} (hp : 1 ≤ per) {i : Nat} (h1 : g.getD i s0 = ptZ c) (h0 : g.getD (i - 1) s0 = ptZ c) (h2 : g.getD (i + 1) s0 = ptZ c) (ht : c.thin ≤ 2 * c.half) (hw : 2 * c.half ≤ c.wide) {r : Int} (hr : 0 ≤ r) : pN ⟨c, g, 0, per⟩ i r := by
  have hst : ∀ b, stF g i b = 0 := fun b => by
    unfold stF
    split
    · rw [h1, h0]
      simp only [Int.sub_self]
      rfl
    · rfl
  have hbd : ∀ b a, bdF g i b a = 0 := fun b a => by
    unfold bdF
    split
    · rw [h1, h0, h2]
      have e1 : ∀ n : Int, n + n - 2 * n = 0 := fun n => by omega
      simp only [e1]
      rfl
    · rfl
  have hs := hC.slope
  have hj := hC.jerk
  have hh := hC.half
  have ha : 0 ≤ arcF r per := by
    unfold arcF
    exact Int.ediv_nonneg (Int.mul_nonneg (by omega) (by omega)) (Int.le_of_lt (Int.mul_pos (by omega) (by omega)))
  have hrs : 0 ≤ 710 * r * c.slope := Int.mul_nonneg (by omega) hs.1
  unfold pN ruleAt
  rw [ruleF_0]
  simp only [brk, Trk.at, hst, hbd, h1, ptZ]
  refine ⟨by omega, by omega, by simp; omega, by omega, by simp; omega⟩
theorem Least.zero {p : Int → Prop} {n k : Int} (h : Least p n k) (h0 : p 0) : k = 0 := by
  have h1 := h.rng
  by_cases hk : k = 0
  · exact hk
  · exact absurd h0 (h.no 0 (Int.le_refl _) (by omega))
theorem s7 (T : List Tak) (l : List Prt) (le : Int) (c : Cut) (per : Int) (hI : TakI T) (hle : 0 ≤ le ∧ le ≤ 255) : PSpec Tryz.prog 7 [lT T, lP l, .one (.int .u8 le), c.x, I per] (xP True) := by
  have hw := s25
  by_cases hG : ¬ PgOK T l
  · refine spec_of pMix (O := []) Tryz.func7 (c := bodyOf Tryz.f7) rfl (by kernel_rfl) (by kernel_rfl) Tryz.ntmps7 (res := [.tmp 10]) (by kernel_rfl) ?_
    repeat' (conv => whnf
             first
             | refine Rng.ok (by simp only [inR]; omega) ?_
             | refine Ob.mk (by first | omega | (simp; done) | decide | (simp; omega)) ?_
             | refine Ob.mk (show eqOK _ _ = true from by kernel_rfl) ?_
             | refine Ob.mk (show keyOK _ _ _ = true from by kernel_rfl) ?_
             | refine Val.mk _ (shr_val (by simp; rfl)) ?_
             | refine Ob.mk (Nat.le_of_ble_eq_true rfl) ?_
             | refine JoinVC.on ?_
             | refine Nils.mk (fun h => ?_) ?_
             | refine Val.mk _ (Int.tmod_eq_emod_of_nonneg (by omega)) ?_
             | refine Val.mk _ (Int.tdiv_eq_ediv_of_nonneg (by omega)) ?_
             | refine Mm.mk ?_
             | (refine Br.mk (fun h => ?_) (fun h => ?_) <;> first | (exfalso; omega; done) | (exfalso; simp at h; done) | skip))
    conv => whnf
    refine CallVC.mk [] _ _ _ rfl rfl rfl (s22 T l hI) (fun r m' h' => ?_)
    cases h' with
    | yes h hr hm => exact absurd h hG
    | no h hr hm =>
      subst hr hm
      repeat' (conv => whnf
               first
               | refine Rng.ok (by simp only [inR]; omega) ?_
               | refine Ob.mk (by first | omega | (simp; done) | decide | (simp; omega)) ?_
               | refine Ob.mk (show eqOK _ _ = true from by kernel_rfl) ?_
               | refine Ob.mk (show keyOK _ _ _ = true from by kernel_rfl) ?_
               | refine Val.mk _ (shr_val (by simp; rfl)) ?_
               | refine Ob.mk (Nat.le_of_ble_eq_true rfl) ?_
               | refine JoinVC.on ?_
               | refine Nils.mk (fun h => ?_) ?_
               | refine Val.mk _ (Int.tmod_eq_emod_of_nonneg (by omega)) ?_
               | refine Val.mk _ (Int.tdiv_eq_ediv_of_nonneg (by omega)) ?_
               | refine Mm.mk ?_
               | refine CallVC.pure rfl (hw) ?_
               | refine CallVC0.pure rfl (hw) ?_
               | (refine Br.mk (fun h => ?_) (fun h => ?_) <;> first | (exfalso; omega; done) | (exfalso; simp at h; done) | skip))
      repeat refine Mm.mk ?_
      refine EndVC.mk _ rfl _ _ ⟨rfl, rfl⟩ ?_
      refine ⟨[], rfl, rfl, ?_, ?_⟩ <;> repeat' (first | exact trivial | exact rfl | exact Iff.rfl | apply And.intro)
  replace hG := Classical.not_not.1 hG
  by_cases hV : ¬ (CutOK c ∧ 1 ≤ per ∧ per ≤ 65536)
  · refine spec_of pMix (O := []) Tryz.func7 (c := bodyOf Tryz.f7) rfl (by kernel_rfl) (by kernel_rfl) Tryz.ntmps7 (res := [.tmp 10]) (by kernel_rfl) ?_
    repeat' (conv => whnf
             first
             | refine Rng.ok (by simp only [inR]; omega) ?_
             | refine Ob.mk (by first | omega | (simp; done) | decide | (simp; omega)) ?_
             | refine Ob.mk (show eqOK _ _ = true from by kernel_rfl) ?_
             | refine Ob.mk (show keyOK _ _ _ = true from by kernel_rfl) ?_
             | refine Val.mk _ (shr_val (by simp; rfl)) ?_
             | refine Ob.mk (Nat.le_of_ble_eq_true rfl) ?_
             | refine JoinVC.on ?_
             | refine Nils.mk (fun h => ?_) ?_
             | refine Val.mk _ (Int.tmod_eq_emod_of_nonneg (by omega)) ?_
             | refine Val.mk _ (Int.tdiv_eq_ediv_of_nonneg (by omega)) ?_
             | refine Mm.mk ?_
             | (refine Br.mk (fun h => ?_) (fun h => ?_) <;> first | (exfalso; omega; done) | (exfalso; simp at h; done) | skip))
    conv => whnf
    refine CallVC.mk [] _ _ _ rfl rfl rfl (s22 T l hI) (fun r m' h' => ?_)
    cases h' with
    | no h hr hm => exact absurd hG h
    | yes h hr hm =>
      subst hr hm
      repeat' (conv => whnf
               first
               | refine Rng.ok (by simp only [inR]; omega) ?_
               | refine Ob.mk (by first | omega | (simp; done) | decide | (simp; omega)) ?_
               | refine Ob.mk (show eqOK _ _ = true from by kernel_rfl) ?_
               | refine Ob.mk (show keyOK _ _ _ = true from by kernel_rfl) ?_
               | refine Val.mk _ (shr_val (by simp; rfl)) ?_
               | refine Ob.mk (Nat.le_of_ble_eq_true rfl) ?_
               | refine JoinVC.on ?_
               | refine Nils.mk (fun h => ?_) ?_
               | refine Val.mk _ (Int.tmod_eq_emod_of_nonneg (by omega)) ?_
               | refine Val.mk _ (Int.tdiv_eq_ediv_of_nonneg (by omega)) ?_
               | refine Mm.mk ?_
               | (refine Br.mk (fun h => ?_) (fun h => ?_) <;> first | (exfalso; omega; done) | (exfalso; simp at h; done) | skip))
      conv => whnf
      refine CallVC.mk [] _ _ _ rfl rfl rfl (s24 c) (fun r m' h' => ?_)
      obtain ⟨e, rfl, rfl, he⟩ := h'
      conv => whnf
      repeat' (conv => whnf
               first
               | refine Rng.ok (by simp only [inR]; omega) ?_
               | refine Ob.mk (by first | omega | (simp; done) | decide | (simp; omega)) ?_
               | refine Ob.mk (show eqOK _ _ = true from by kernel_rfl) ?_
               | refine Ob.mk (show keyOK _ _ _ = true from by kernel_rfl) ?_
               | refine Val.mk _ (shr_val (by simp; rfl)) ?_
               | refine Ob.mk (Nat.le_of_ble_eq_true rfl) ?_
               | refine JoinVC.on ?_
               | refine Nils.mk (fun h => ?_) ?_
               | refine Val.mk _ (Int.tmod_eq_emod_of_nonneg (by omega)) ?_
               | refine Val.mk _ (Int.tdiv_eq_ediv_of_nonneg (by omega)) ?_
               | refine Mm.mk ?_
               | refine CallVC.pure rfl (hw) ?_
               | refine CallVC0.pure rfl (hw) ?_
               | (refine Br.mk (fun h => ?_) (fun h => ?_) <;> first | (exfalso; omega; done) | (exfalso; simp at h; done) | skip))
      all_goals first | (exfalso; exact hV ⟨he.1 (by omega), by omega, by omega⟩) | skip
      all_goals
        repeat refine Mm.mk ?_
        refine EndVC.mk _ rfl _ _ ⟨rfl, rfl⟩ ?_
        refine ⟨[], rfl, rfl, ?_, ?_⟩ <;> repeat' (first | exact trivial | exact rfl | exact Iff.rfl | apply And.intro)
  replace hV := Classical.not_not.1 hV
  obtain ⟨hC, hp1, hp2⟩ := hV
  have hP := hG.ok
  have hgood := hG.good
  obtain ⟨s, hs⟩ : ∃ s, s = rend T l := ⟨_, rfl⟩
  have hsl : s.length ≤ 200 := by
    have h1 := rend_len T l
    have h2 := hG.stop
    rw [hs, h1]
    omega
  have ls := smpA_len s
  have hS := (smpE_iff s).1 (by rw [hs]; exact hgood)
  have k1 : PSpec Tryz.prog 27 [lS s, lS s] (xP (s = s)) := s27 s s (by omega)
  refine spec_of pMix (O := []) Tryz.func7 (c := bodyOf Tryz.f7) rfl (by kernel_rfl) (by kernel_rfl) Tryz.ntmps7 (res := [.tmp 10]) (by kernel_rfl) ?_
  repeat' (conv => whnf
           first
           | refine Rng.ok (by simp only [inR]; omega) ?_
           | refine Ob.mk (by first | omega | (simp; done) | decide | (simp; omega)) ?_
           | refine Ob.mk (show eqOK _ _ = true from by kernel_rfl) ?_
           | refine Ob.mk (show keyOK _ _ _ = true from by kernel_rfl) ?_
           | refine Val.mk _ (shr_val (by simp; rfl)) ?_
           | refine Ob.mk (Nat.le_of_ble_eq_true rfl) ?_
           | refine JoinVC.on ?_
           | refine Nils.mk (fun h => ?_) ?_
           | refine Val.mk _ (Int.tmod_eq_emod_of_nonneg (by omega)) ?_
           | refine Val.mk _ (Int.tdiv_eq_ediv_of_nonneg (by omega)) ?_
           | refine Mm.mk ?_
           | (refine Br.mk (fun h => ?_) (fun h => ?_) <;> first | (exfalso; omega; done) | (exfalso; simp at h; done) | skip))
  conv => whnf
  refine CallVC.mk [] _ _ _ rfl rfl rfl (s22 T l hI) (fun r m' h' => ?_)
  cases h' with
  | no h hr hm => exact absurd hG h
  | yes h hr hm =>
  subst hr hm
  repeat' (conv => whnf
           first
           | refine Rng.ok (by simp only [inR]; omega) ?_
           | refine Ob.mk (by first | omega | (simp; done) | decide | (simp; omega)) ?_
           | refine Ob.mk (show eqOK _ _ = true from by kernel_rfl) ?_
           | refine Ob.mk (show keyOK _ _ _ = true from by kernel_rfl) ?_
           | refine Val.mk _ (shr_val (by simp; rfl)) ?_
           | refine Ob.mk (Nat.le_of_ble_eq_true rfl) ?_
           | refine JoinVC.on ?_
           | refine Nils.mk (fun h => ?_) ?_
           | refine Val.mk _ (Int.tmod_eq_emod_of_nonneg (by omega)) ?_
           | refine Val.mk _ (Int.tdiv_eq_ediv_of_nonneg (by omega)) ?_
           | refine Mm.mk ?_
           | (refine Br.mk (fun h => ?_) (fun h => ?_) <;> first | (exfalso; omega; done) | (exfalso; simp at h; done) | skip))
  conv => whnf
  refine CallVC.mk [] _ _ _ rfl rfl rfl (s24 c) (fun r m' h' => ?_)
  obtain ⟨e3, rfl, rfl, he3⟩ := h'
  conv => whnf
  cases he3.2 hC
  repeat' (conv => whnf
           first
           | refine Rng.ok (by simp only [inR]; omega) ?_
           | refine Ob.mk (by first | omega | (simp; done) | decide | (simp; omega)) ?_
           | refine Ob.mk (show eqOK _ _ = true from by kernel_rfl) ?_
           | refine Ob.mk (show keyOK _ _ _ = true from by kernel_rfl) ?_
           | refine Val.mk _ (shr_val (by simp; rfl)) ?_
           | refine Ob.mk (Nat.le_of_ble_eq_true rfl) ?_
           | refine JoinVC.on ?_
           | refine Nils.mk (fun h => ?_) ?_
           | refine Val.mk _ (Int.tmod_eq_emod_of_nonneg (by omega)) ?_
           | refine Val.mk _ (Int.tdiv_eq_ediv_of_nonneg (by omega)) ?_
           | refine Mm.mk ?_
           | (refine Br.mk (fun h => ?_) (fun h => ?_) <;> first | (exfalso; omega; done) | (exfalso; simp at h; done) | skip))
  conv => whnf
  refine CallVC.mk [] _ _ _ rfl rfl rfl (s26 T l hP) (fun r m' h' => ?_)
  rcases h' with ⟨h1, rfl, rfl⟩ | ⟨h1, rfl, rfl⟩
  rotate_left
  · exact absurd hgood h1
  rw [← hs]
  repeat' (conv => whnf
           first
           | refine Rng.ok (by simp only [inR]; omega) ?_
           | refine Ob.mk (by first | omega | (simp; done) | decide | (simp; omega)) ?_
           | refine Ob.mk (show eqOK _ _ = true from by kernel_rfl) ?_
           | refine Ob.mk (show keyOK _ _ _ = true from by kernel_rfl) ?_
           | refine Val.mk _ (shr_val (by simp; rfl)) ?_
           | refine Ob.mk (Nat.le_of_ble_eq_true rfl) ?_
           | refine JoinVC.on ?_
           | refine Nils.mk (fun h => ?_) ?_
           | refine Val.mk _ (Int.tmod_eq_emod_of_nonneg (by omega)) ?_
           | refine Val.mk _ (Int.tdiv_eq_ediv_of_nonneg (by omega)) ?_
           | refine Mm.mk ?_
           | refine CallVC.pure rfl (k1) ?_
           | refine CallVC0.pure rfl (k1) ?_
           | (refine Br.mk (fun h => ?_) (fun h => ?_) <;> first | (exfalso; omega; done) | (exfalso; simp at h; done) | skip))
  conv => whnf
  refine CallVC.mk [] _ _ _ rfl rfl rfl (s43 s 0 (1 + le % 20) hS (by omega) (by omega)) (fun r m' h' => ?_)
  obtain ⟨O, hO, hOl, rfl, rfl⟩ := h'
  conv => whnf
  repeat' (conv => whnf
           first
           | refine Rng.ok (by simp only [inR]; omega) ?_
           | refine Ob.mk (by first | omega | (simp; done) | decide | (simp; omega)) ?_
           | refine Ob.mk (show eqOK _ _ = true from by kernel_rfl) ?_
           | refine Ob.mk (show keyOK _ _ _ = true from by kernel_rfl) ?_
           | refine Val.mk _ (shr_val (by simp; rfl)) ?_
           | refine Ob.mk (Nat.le_of_ble_eq_true rfl) ?_
           | refine JoinVC.on ?_
           | refine Nils.mk (fun h => ?_) ?_
           | refine Val.mk _ (Int.tmod_eq_emod_of_nonneg (by omega)) ?_
           | refine Val.mk _ (Int.tdiv_eq_ediv_of_nonneg (by omega)) ?_
           | refine Mm.mk ?_
           | (refine Br.mk (fun h => ?_) (fun h => ?_) <;> first | (exfalso; omega; done) | (exfalso; simp at h; done) | skip))
  conv => whnf
  refine CallVC.mk [] _ _ _ rfl rfl rfl (s30 c s) (fun r m' h' => ?_)
  cases h' with
  | bad e h he hr hm => exact absurd ⟨hC, hS⟩ h
  | ok hC' hj' hr hm =>
  subst hr hm
  obtain ⟨g, hg⟩ : ∃ g, g = cutF c s := ⟨_, rfl⟩
  rw [← hg]
  have lgl : g.length = s.length := by rw [hg, cutF_len]
  have lg := smpA_len g
  have lO := prA_len O
  repeat' (conv => whnf
           first
           | refine Rng.ok (by simp only [inR]; omega) ?_
           | refine Ob.mk (by first | omega | (simp; done) | decide | (simp; omega)) ?_
           | refine Ob.mk (show eqOK _ _ = true from by kernel_rfl) ?_
           | refine Ob.mk (show keyOK _ _ _ = true from by kernel_rfl) ?_
           | refine Val.mk _ (shr_val (by simp; rfl)) ?_
           | refine Ob.mk (Nat.le_of_ble_eq_true rfl) ?_
           | refine JoinVC.on ?_
           | refine Nils.mk (fun h => ?_) ?_
           | refine Val.mk _ (Int.tmod_eq_emod_of_nonneg (by omega)) ?_
           | refine Val.mk _ (Int.tdiv_eq_ediv_of_nonneg (by omega)) ?_
           | refine Mm.mk ?_
           | (refine Br.mk (fun h => ?_) (fun h => ?_) <;> first | (exfalso; omega; done) | (exfalso; simp at h; done) | skip))
  refine LoopVC.mk (fun n st => ∃ (k : Nat), k ≤ O.length ∧ n = O.length - k ∧ st = ⟨0, envA 179 [(2, .x (.one (.int .u8 le))), (4, .x (I per)), (8, .x (.one (.ptr 0 0))), (13, .x (.one (.own 1))), (15, .x (.one (.own 2))), (16, .x (.one (.own 3))), (18, .int .i64 (k : Int))], [some (bCut c), some (rowS s), some (rowQ O), some (rowP g)]⟩) _ _ ⟨0, Nat.zero_le _, rfl, rfl⟩ ?_ ?_
  · refine ⟨[some 0, some 2, some 3, some 4], rfl, rfl, ?_, ?_⟩ <;> repeat' (first | exact trivial | exact rfl | exact Iff.rfl | apply And.intro)
  rintro n _ ⟨k, hk, hn, rfl⟩
  by_cases hk' : k < O.length
  · obtain ⟨fr, hfr⟩ : ∃ fr, fr = (O.getD k (0, 0)).1 := ⟨_, rfl⟩
    obtain ⟨to, hto⟩ : ∃ to, to = (O.getD k (0, 0)).2 := ⟨_, rfl⟩
    have hE := hO.each k hk'
    rw [← hfr, ← hto] at hE
    obtain ⟨e1, e2, e3, e4⟩ := hE
    have p0 : rI (prA O) (k : Int).toNat 0 = fr := by rw [Int.toNat_natCast, hfr]; exact prA_0 O k
    have p1 : rI (prA O) (k : Int).toNat (0 + 1) = to := by rw [Int.toNat_natCast, hto]; exact prA_1 O k
    have hz : ∀ i : Nat, fr ≤ i → (i : Int) < to → g.getD i s0 = ptZ c := fun i h1 h2 => by
      obtain ⟨q1, q2⟩ := e4 i h1 h2
      have q3 : s.getD i s0 = s0 := by
        have q4 := amt_0 q1
        have q5 := amt_0 q2
        cases hsi : s.getD i s0 with
        | mk a b => rw [hsi] at q4 q5; simp only at q4 q5; rw [q4, q5]
      rw [hg, cutF_get c s i (by omega), q3, ptF_0]
    repeat' (conv => whnf
             first
             | rw [p0]
             | rw [p1]
             | refine Rng.ok (by simp only [inR]; omega) ?_
             | refine Ob.mk (by first | omega | (simp; done) | decide | (simp; omega)) ?_
             | refine Ob.mk (show eqOK _ _ = true from by kernel_rfl) ?_
             | refine Ob.mk (show keyOK _ _ _ = true from by kernel_rfl) ?_
             | refine Val.mk _ (shr_val (by simp; rfl)) ?_
             | refine Ob.mk (Nat.le_of_ble_eq_true rfl) ?_
             | refine JoinVC.on ?_
             | refine Nils.mk (fun h => ?_) ?_
             | refine Val.mk _ (Int.tmod_eq_emod_of_nonneg (by omega)) ?_
             | refine Val.mk _ (Int.tdiv_eq_ediv_of_nonneg (by omega)) ?_
             | refine Mm.mk ?_
             | (refine Br.mk (fun h => ?_) (fun h => ?_) <;> first | (exfalso; omega; done) | (exfalso; simp at h; done) | skip))
    refine LoopVC.mk (fun n st => ∃ (i : Nat), fr ≤ i ∧ (i : Int) ≤ to ∧ n = (to - i).toNat ∧ st = ⟨0, envA 179 [(2, .x (.one (.int .u8 le))), (4, .x (I per)), (8, .x (.one (.ptr 0 0))), (13, .x (.one (.own 1))), (15, .x (.one (.own 2))), (16, .x (.one (.own 3))), (18, .int .i64 (k : Int)), (19, .int .i64 fr), (20, .int .i64 to), (21, .int .i64 (i : Int))], [some (bCut c), some (rowS s), some (rowQ O), some (rowP g)]⟩) _ _ ⟨fr.toNat, by omega, by omega, rfl, rfl⟩ ?_ ?_
    · rw [Int.toNat_of_nonneg e1]
      refine ⟨[some 0, some 1, some 2, some 3], rfl, rfl, ?_, ?_⟩ <;> repeat' (first | exact trivial | exact rfl | exact Iff.rfl | apply And.intro)
    rintro n2 _ ⟨i, hi1, hi2, hn2, rfl⟩
    have g0 : rI (smpA g) (i : Int).toNat 0 = (g.getD i s0).l := by rw [Int.toNat_natCast, smpA_l]
    have g1 : rI (smpA g) (i : Int).toNat (0 + 1) = (g.getD i s0).r := by rw [Int.toNat_natCast, smpA_r]
    by_cases hi' : (i : Int) < to
    · have hzi := hz i hi1 hi'
      rw [hzi] at g0 g1
      have hh := hC.half
      have n1 : (0 : Int) - c.half = -c.half := by omega
      have n0 : (ptZ c).l = -c.half := rfl
      have n2 : (ptZ c).r = c.half := rfl
      have c4 : fr < (i : Int) ∧ (i : Int) + 1 < to → c.thin ≤ 2 * c.half → 2 * c.half ≤ c.wide → HSpec Tryz.prog 44 [c.x, lS g, I per, I (i : Int)] [] (fun r m' => r = .tup [I 0, I 0] ∧ m' = []) := fun hb ht hw => by
        refine (s44 c g per i hC (by rw [hg]; exact cut_ok hC hS) ⟨hp1, hp2⟩ (by omega)).mono ?_
        rintro r m' ⟨q, hq, hr, rfl⟩
        have h0 := hq.zero (pN_silent hC hp1 hzi (hz (i - 1) (by omega) (by omega)) (hz (i + 1) (by omega) (by omega)) ht hw (Int.le_refl _))
        subst h0
        rcases hr with ⟨hr, _⟩ | ⟨_, hr⟩
        · omega
        · exact ⟨hr, rfl⟩
      rw [n0] at g0
      rw [n2] at g1
      repeat' (conv => whnf
               first
               | rw [g0]
               | rw [g1]
               | rw [n1]
               | refine Rng.ok (by simp only [inR]; omega) ?_
               | refine Ob.mk (by first | omega | (simp; done) | decide | (simp; omega)) ?_
               | refine Ob.mk (show eqOK _ _ = true from by kernel_rfl) ?_
               | refine Ob.mk (show keyOK _ _ _ = true from by kernel_rfl) ?_
               | refine Val.mk _ (shr_val (by simp; rfl)) ?_
               | refine Ob.mk (Nat.le_of_ble_eq_true rfl) ?_
               | refine JoinVC.on ?_
               | refine Nils.mk (fun h => ?_) ?_
               | refine Val.mk _ (Int.tmod_eq_emod_of_nonneg (by omega)) ?_
               | refine Val.mk _ (Int.tdiv_eq_ediv_of_nonneg (by omega)) ?_
               | refine Mm.mk ?_
               | (refine Br.mk (fun h => ?_) (fun h => ?_) <;> first | (exfalso; omega; done) | (exfalso; simp at h; done) | skip))
      · conv => whnf
        refine CallVC.mk [] _ _ _ rfl rfl rfl (c4 ⟨by omega, by omega⟩ (by omega) (by omega)) (fun r m' h' => ?_)
        obtain ⟨rfl, rfl⟩ := h'
        conv => whnf
        repeat' (conv => whnf
                 first
                 | refine Rng.ok (by simp only [inR]; omega) ?_
                 | refine Ob.mk (by first | omega | (simp; done) | decide | (simp; omega)) ?_
                 | refine Ob.mk (show eqOK _ _ = true from by kernel_rfl) ?_
                 | refine Ob.mk (show keyOK _ _ _ = true from by kernel_rfl) ?_
                 | refine Val.mk _ (shr_val (by simp; rfl)) ?_
                 | refine Ob.mk (Nat.le_of_ble_eq_true rfl) ?_
                 | refine JoinVC.on ?_
                 | refine Nils.mk (fun h => ?_) ?_
                 | refine Val.mk _ (Int.tmod_eq_emod_of_nonneg (by omega)) ?_
                 | refine Val.mk _ (Int.tdiv_eq_ediv_of_nonneg (by omega)) ?_
                 | refine Mm.mk ?_
                 | (refine Br.mk (fun h => ?_) (fun h => ?_) <;> first | (exfalso; omega; done) | (exfalso; simp at h; done) | skip))
        refine Back.mk (to - (i + 1 : Nat)).toNat _ (by omega) ⟨i + 1, by omega, by omega, rfl, rfl⟩ ?_
        refine ⟨[some 0, some 1, some 2, some 3], rfl, rfl, ?_, ?_⟩ <;> repeat' (first | exact trivial | exact rfl | exact Iff.rfl | apply And.intro)
      all_goals
        refine Back.mk (to - (i + 1 : Nat)).toNat _ (by omega) ⟨i + 1, by omega, by omega, rfl, rfl⟩ ?_
        refine ⟨[some 0, some 1, some 2, some 3], rfl, rfl, ?_, ?_⟩ <;> repeat' (first | exact trivial | exact rfl | exact Iff.rfl | apply And.intro)
    · repeat' (conv => whnf
               first
               | refine Rng.ok (by simp only [inR]; omega) ?_
               | refine Ob.mk (by first | omega | (simp; done) | decide | (simp; omega)) ?_
               | refine Ob.mk (show eqOK _ _ = true from by kernel_rfl) ?_
               | refine Ob.mk (show keyOK _ _ _ = true from by kernel_rfl) ?_
               | refine Val.mk _ (shr_val (by simp; rfl)) ?_
               | refine Ob.mk (Nat.le_of_ble_eq_true rfl) ?_
               | refine JoinVC.on ?_
               | refine Nils.mk (fun h => ?_) ?_
               | refine Val.mk _ (Int.tmod_eq_emod_of_nonneg (by omega)) ?_
               | refine Val.mk _ (Int.tdiv_eq_ediv_of_nonneg (by omega)) ?_
               | refine Mm.mk ?_
               | (refine Br.mk (fun h => ?_) (fun h => ?_) <;> first | (exfalso; omega; done) | (exfalso; simp at h; done) | skip))
      refine Back.mk (O.length - (k + 1)) _ (by omega) ⟨k + 1, by omega, rfl, rfl⟩ ?_
      refine ⟨[some 0, some 1, some 2, some 3], rfl, rfl, ?_, ?_⟩ <;> repeat' (first | exact trivial | exact rfl | exact Iff.rfl | apply And.intro)
  · repeat' (conv => whnf
             first
             | refine Rng.ok (by simp only [inR]; omega) ?_
             | refine Ob.mk (by first | omega | (simp; done) | decide | (simp; omega)) ?_
             | refine Ob.mk (show eqOK _ _ = true from by kernel_rfl) ?_
             | refine Ob.mk (show keyOK _ _ _ = true from by kernel_rfl) ?_
             | refine Val.mk _ (shr_val (by simp; rfl)) ?_
             | refine Ob.mk (Nat.le_of_ble_eq_true rfl) ?_
             | refine JoinVC.on ?_
             | refine Nils.mk (fun h => ?_) ?_
             | refine Val.mk _ (Int.tmod_eq_emod_of_nonneg (by omega)) ?_
             | refine Val.mk _ (Int.tdiv_eq_ediv_of_nonneg (by omega)) ?_
             | refine Mm.mk ?_
             | refine CallVC.pure rfl (hw) ?_
             | refine CallVC0.pure rfl (hw) ?_
             | (refine Br.mk (fun h => ?_) (fun h => ?_) <;> first | (exfalso; omega; done) | (exfalso; simp at h; done) | skip))
    repeat refine Mm.mk ?_
    refine EndVC.mk _ rfl _ _ ⟨rfl, rfl⟩ ?_
    refine ⟨[], rfl, rfl, ?_, ?_⟩ <;> repeat' (first | exact trivial | exact rfl | exact Iff.rfl | apply And.intro)
end Go.Sx

namespace Go.Sx
open Go Go.Proofs
set_option maxRecDepth 10000
set_option maxHeartbeats 8000000
theorem e50 : EntersF Tryz.prog 50 := enters_of Tryz.func50 (c := bodyOf Tryz.f50) (by kernel_rfl) rfl
theorem e134 : EntersF Tryz.prog 134 := enters_of Tryz.func134 (c := bodyOf Tryz.f134) (by kernel_rfl) rfl
theorem e224 : EntersF Tryz.prog 224 := enters_of Tryz.func224 (c := bodyOf Tryz.f224) (by kernel_rfl) rfl
theorem e131 : EntersF Tryz.prog 131 := enters_of Tryz.func131 (c := bodyOf Tryz.f131) (by kernel_rfl) rfl
theorem e218 : EntersF Tryz.prog 218 := enters_of Tryz.func218 (c := bodyOf Tryz.f218) (by kernel_rfl) rfl
theorem e219 : EntersF Tryz.prog 219 := enters_of Tryz.func219 (c := bodyOf Tryz.f219) (by kernel_rfl) rfl
theorem e220 : EntersF Tryz.prog 220 := enters_of Tryz.func220 (c := bodyOf Tryz.f220) (by kernel_rfl) rfl
theorem e225 : EntersF Tryz.prog 225 := enters_of Tryz.func225 (c := bodyOf Tryz.f225) (by kernel_rfl) rfl
theorem e291 : EntersF Tryz.prog 291 := enters_of Tryz.func291 (c := bodyOf Tryz.f291) (by kernel_rfl) rfl
theorem e292 : EntersF Tryz.prog 292 := enters_of Tryz.func292 (c := bodyOf Tryz.f292) (by kernel_rfl) rfl
theorem e287 : EntersF Tryz.prog 287 := enters_of Tryz.func287 (c := bodyOf Tryz.f287) (by kernel_rfl) rfl
theorem e132 : EntersF Tryz.prog 132 := enters_of Tryz.func132 (c := bodyOf Tryz.f132) (by kernel_rfl) rfl
theorem e47 : EntersF Tryz.prog 47 := enters_of Tryz.func47 (c := bodyOf Tryz.f47) (by kernel_rfl) rfl
theorem s45 (l : List Smp) : HSpec Tryz.prog 45 [lS l] [] (fun r m' => ∃ e, r = .x (I e) ∧ m' = [] ∧ (e = 0 ↔ SmpsOK l)) := by
  have ll := smpA_len l
  by_cases h40 : 4096 < l.length
  · refine spec_of pMix (O := []) Tryz.func45 (c := bodyOf Tryz.f45) rfl (by kernel_rfl) (by kernel_rfl) Tryz.ntmps45 (res := [.tmp 2]) (by kernel_rfl) ?_
    repeat' (conv => whnf
             first
             | refine Rng.ok (by simp only [inR]; omega) ?_
             | refine Ob.mk (by first | omega | (simp; done) | decide | (simp; omega)) ?_
             | refine Ob.mk (show eqOK _ _ = true from by kernel_rfl) ?_
             | refine Ob.mk (show keyOK _ _ _ = true from by kernel_rfl) ?_
             | refine Val.mk _ (shr_val (by simp; rfl)) ?_
             | refine Ob.mk (Nat.le_of_ble_eq_true rfl) ?_
             | refine JoinVC.on ?_
             | refine Nils.mk (fun h => ?_) ?_
             | refine Val.mk _ (Int.tmod_eq_emod_of_nonneg (by omega)) ?_
             | refine Val.mk _ (Int.tdiv_eq_ediv_of_nonneg (by omega)) ?_
             | refine Mm.mk ?_
             | (refine Br.mk (fun h => ?_) (fun h => ?_) <;> first | (exfalso; omega; done) | (exfalso; simp at h; done) | skip))
    repeat refine Mm.mk ?_
    conv => whnf
    refine EndVC.mk _ rfl _ _ (⟨6, rfl, rfl, ⟨fun h => (by cases h), fun h => (by have := h.len; omega)⟩⟩) ?_
    refine ⟨[], rfl, rfl, ?_, ?_⟩ <;> repeat' (first | exact trivial | exact rfl | exact Iff.rfl | apply And.intro)
  refine spec_of pMix (O := []) Tryz.func45 (c := bodyOf Tryz.f45) rfl (by kernel_rfl) (by kernel_rfl) Tryz.ntmps45 (res := [.tmp 2]) (by kernel_rfl) ?_
  repeat' (conv => whnf
           first
           | refine Rng.ok (by simp only [inR]; omega) ?_
           | refine Ob.mk (by first | omega | (simp; done) | decide | (simp; omega)) ?_
           | refine Ob.mk (show eqOK _ _ = true from by kernel_rfl) ?_
           | refine Ob.mk (show keyOK _ _ _ = true from by kernel_rfl) ?_
           | refine Val.mk _ (shr_val (by simp; rfl)) ?_
           | refine Ob.mk (Nat.le_of_ble_eq_true rfl) ?_
           | refine JoinVC.on ?_
           | refine Nils.mk (fun h => ?_) ?_
           | refine Val.mk _ (Int.tmod_eq_emod_of_nonneg (by omega)) ?_
           | refine Val.mk _ (Int.tdiv_eq_ediv_of_nonneg (by omega)) ?_
           | refine Mm.mk ?_
           | (refine Br.mk (fun h => ?_) (fun h => ?_) <;> first | (exfalso; omega; done) | (exfalso; simp at h; done) | skip))
  refine LoopVC.mk (fun n st => ∃ (i : Nat), i ≤ l.length ∧ n = l.length - i ∧ (∀ j, j < i → (l.getD j s0).ok) ∧ st = ⟨0, envA 43 [(0, .x (lS l)), (3, .int .i64 (i : Int))], []⟩) _ _ ⟨0, Nat.zero_le _, rfl, fun j hj => absurd hj (Nat.not_lt_zero j), rfl⟩ ?_ ?_
  · refine ⟨[], rfl, rfl, ?_, ?_⟩ <;> repeat' (first | exact trivial | exact rfl | exact Iff.rfl | apply And.intro)
  rintro n _ ⟨i, hi, hn, hj, rfl⟩
  have a0 : rI (smpA l) (i : Int).toNat (0 + 0) = (l.getD i s0).l := by rw [Int.toNat_natCast]; exact smpA_l l i
  have a1 : rI (smpA l) (i : Int).toNat (0 + (0 + 1)) = (l.getD i s0).r := by rw [Int.toNat_natCast]; exact smpA_r l i
  by_cases hi' : i < l.length
  · repeat' (conv => whnf
             first
             | rw [a0]
             | rw [a1]
             | refine Rng.ok (by simp only [inR]; omega) ?_
             | refine Ob.mk (by first | omega | (simp; done) | decide | (simp; omega)) ?_
             | refine Ob.mk (show eqOK _ _ = true from by kernel_rfl) ?_
             | refine Ob.mk (show keyOK _ _ _ = true from by kernel_rfl) ?_
             | refine Val.mk _ (shr_val (by simp; rfl)) ?_
             | refine Ob.mk (Nat.le_of_ble_eq_true rfl) ?_
             | refine JoinVC.on ?_
             | refine Nils.mk (fun h => ?_) ?_
             | refine Val.mk _ (Int.tmod_eq_emod_of_nonneg (by omega)) ?_
             | refine Val.mk _ (Int.tdiv_eq_ediv_of_nonneg (by omega)) ?_
             | refine Mm.mk ?_
             | (refine Br.mk (fun h => ?_) (fun h => ?_) <;> first | (exfalso; omega; done) | (exfalso; simp at h; done) | skip))
    rotate_right
    · refine Back.mk (l.length - (i + 1)) _ (by omega) ⟨i + 1, by omega, rfl, fun j hj' => ?_, rfl⟩ ?_
      · rcases Nat.lt_succ_iff_lt_or_eq.1 hj' with h' | rfl
        · exact hj j h'
        · exact ⟨by omega, by omega, by omega, by omega⟩
      · refine ⟨[], rfl, rfl, ?_, ?_⟩ <;> repeat' (first | exact trivial | exact rfl | exact Iff.rfl | apply And.intro)
    all_goals
      repeat refine Mm.mk ?_
      conv => whnf
      refine EndVC.mk _ rfl _ _ (⟨3, rfl, rfl, ⟨fun h => (by cases h), fun h' => (by have := h'.each i hi'; unfold Smp.ok at this; omega)⟩⟩) ?_
      refine ⟨[], rfl, rfl, ?_, ?_⟩ <;> repeat' (first | exact trivial | exact rfl | exact Iff.rfl | apply And.intro)
  · repeat' (conv => whnf
             first
             | refine Rng.ok (by simp only [inR]; omega) ?_
             | refine Ob.mk (by first | omega | (simp; done) | decide | (simp; omega)) ?_
             | refine Ob.mk (show eqOK _ _ = true from by kernel_rfl) ?_
             | refine Ob.mk (show keyOK _ _ _ = true from by kernel_rfl) ?_
             | refine Val.mk _ (shr_val (by simp; rfl)) ?_
             | refine Ob.mk (Nat.le_of_ble_eq_true rfl) ?_
             | refine JoinVC.on ?_
             | refine Nils.mk (fun h => ?_) ?_
             | refine Val.mk _ (Int.tmod_eq_emod_of_nonneg (by omega)) ?_
             | refine Val.mk _ (Int.tdiv_eq_ediv_of_nonneg (by omega)) ?_
             | refine Mm.mk ?_
             | (refine Br.mk (fun h => ?_) (fun h => ?_) <;> first | (exfalso; omega; done) | (exfalso; simp at h; done) | skip))
    repeat refine Mm.mk ?_
    conv => whnf
    refine EndVC.mk _ rfl _ _ (⟨0, rfl, rfl, ⟨fun _ => ⟨by omega, fun j hj' => hj j (by omega)⟩, fun _ => rfl⟩⟩) ?_
    refine ⟨[], rfl, rfl, ?_, ?_⟩ <;> repeat' (first | exact trivial | exact rfl | exact Iff.rfl | apply And.intro)
theorem s220 (s : Smp) (most : Int) (hm : 0 ≤ most ∧ most ≤ 1000000) : PSpec Tryz.prog 220 [s.x, I most] (xP (bey s.l most ∨ bey s.r most)) := by
  have c1 := s280 s.l most hm
  have c2 := s280 s.r most hm
  refine spec_of pMix (O := []) Tryz.func220 (c := bodyOf Tryz.f220) rfl (by kernel_rfl) (by kernel_rfl) Tryz.ntmps220 (res := [.tmp 4]) (by kernel_rfl) ?_
  repeat' (conv => whnf
           first
           | refine Rng.ok (by simp only [inR]; omega) ?_
           | refine Ob.mk (by first | omega | (simp; done) | decide | (simp; omega)) ?_
           | refine Ob.mk (show eqOK _ _ = true from by kernel_rfl) ?_
           | refine Ob.mk (show keyOK _ _ _ = true from by kernel_rfl) ?_
           | refine Val.mk _ (shr_val (by simp; rfl)) ?_
           | refine Ob.mk (Nat.le_of_ble_eq_true rfl) ?_
           | refine JoinVC.on ?_
           | refine Nils.mk (fun h => ?_) ?_
           | refine Val.mk _ (Int.tmod_eq_emod_of_nonneg (by omega)) ?_
           | refine Val.mk _ (Int.tdiv_eq_ediv_of_nonneg (by omega)) ?_
           | refine Mm.mk ?_
           | refine CallVC.pure rfl (c1) ?_
           | refine CallVC.pure rfl (c2) ?_
           | refine CallVC0.pure rfl (c1) ?_
           | refine CallVC0.pure rfl (c2) ?_
           | (refine Br.mk (fun h => ?_) (fun h => ?_) <;> first | (exfalso; omega; done) | (exfalso; simp at h; done) | skip))
  · repeat refine Mm.mk ?_
    refine EndVC.mk _ rfl _ _ ⟨rfl, rfl⟩ ?_
    refine ⟨[], rfl, rfl, ?_, ?_⟩ <;> repeat' (first | exact trivial | exact rfl | exact Iff.rfl | apply And.intro)
    exact .inl h
  · repeat refine Mm.mk ?_
    refine EndVC.mk _ rfl _ _ ⟨rfl, rfl⟩ ?_
    refine ⟨[], rfl, rfl, ?_, ?_⟩ <;> repeat' (first | exact trivial | exact rfl | exact Iff.rfl | apply And.intro)
    exact ⟨.inr, fun h' => h'.resolve_left h⟩
theorem loud_iff (s : Smp) : (bey s.l 32767 ∨ bey s.r 32767) ↔ ¬ s.ok := by unfold bey Smp.ok; omega
theorem s219 (s : Smp) : PSpec Tryz.prog 219 [s.x] (xP (bey s.l 32767 ∨ bey s.r 32767)) := by
  have c1 := s220 s 32767 (by omega)
  refine spec_of pMix (O := []) Tryz.func219 (c := bodyOf Tryz.f219) rfl (by kernel_rfl) (by kernel_rfl) Tryz.ntmps219 (res := [.tmp 2]) (by kernel_rfl) ?_
  repeat' (conv => whnf
           first
           | refine Rng.ok (by simp only [inR]; omega) ?_
           | refine Ob.mk (by first | omega | (simp; done) | decide | (simp; omega)) ?_
           | refine Ob.mk (show eqOK _ _ = true from by kernel_rfl) ?_
           | refine Ob.mk (show keyOK _ _ _ = true from by kernel_rfl) ?_
           | refine Val.mk _ (shr_val (by simp; rfl)) ?_
           | refine Ob.mk (Nat.le_of_ble_eq_true rfl) ?_
           | refine JoinVC.on ?_
           | refine Nils.mk (fun h => ?_) ?_
           | refine Val.mk _ (Int.tmod_eq_emod_of_nonneg (by omega)) ?_
           | refine Val.mk _ (Int.tdiv_eq_ediv_of_nonneg (by omega)) ?_
           | refine Mm.mk ?_
           | refine CallVC.pure rfl (c1) ?_
           | refine CallVC0.pure rfl (c1) ?_
           | (refine Br.mk (fun h => ?_) (fun h => ?_) <;> first | (exfalso; omega; done) | (exfalso; simp at h; done) | skip))
  repeat refine Mm.mk ?_
  refine EndVC.mk _ rfl _ _ ⟨rfl, rfl⟩ ?_
  refine ⟨[], rfl, rfl, ?_, ?_⟩ <;> repeat' (first | exact trivial | exact rfl | exact Iff.rfl | apply And.intro)
theorem s287 (l : List Smp) (hl : l.length ≤ 1000000) : HSpec Tryz.prog 287 [lS l, .one (.fn 219 [])] [] (fun r m' => ∃ v : Int, (0 ≤ v ↔ ¬ ∀ j, j < l.length → (l.getD j s0).ok) ∧ r = .x (I v) ∧ m' = []) := by
  have ll := smpA_len l
  refine spec_of pMix (O := []) Tryz.func287 (c := bodyOf Tryz.f287) rfl (by kernel_rfl) (by kernel_rfl) Tryz.ntmps287 (res := [.tmp 4]) (by kernel_rfl) ?_
  repeat' (conv => whnf
           first
           | refine Rng.ok (by simp only [inR]; omega) ?_
           | refine Ob.mk (by first | omega | (simp; done) | decide | (simp; omega)) ?_
           | refine Ob.mk (show eqOK _ _ = true from by kernel_rfl) ?_
           | refine Ob.mk (show keyOK _ _ _ = true from by kernel_rfl) ?_
           | refine Val.mk _ (shr_val (by simp; rfl)) ?_
           | refine Ob.mk (Nat.le_of_ble_eq_true rfl) ?_
           | refine JoinVC.on ?_
           | refine Nils.mk (fun h => ?_) ?_
           | refine Val.mk _ (Int.tmod_eq_emod_of_nonneg (by omega)) ?_
           | refine Val.mk _ (Int.tdiv_eq_ediv_of_nonneg (by omega)) ?_
           | refine Mm.mk ?_
           | (refine Br.mk (fun h => ?_) (fun h => ?_) <;> first | (exfalso; omega; done) | (exfalso; simp at h; done) | skip))
  refine LoopVC.mk (fun n st => ∃ (i : Nat), i ≤ l.length ∧ n = l.length - i ∧ (∀ j, j < i → (l.getD j s0).ok) ∧ st = ⟨0, envA 19 [(0, .x (lS l)), (1, .x (.one (.fn 219 []))), (7, .int .i64 (l.length : Int)), (8, .int .i64 (i : Int))], []⟩) _ _ ⟨0, Nat.zero_le _, rfl, fun j hj => absurd hj (Nat.not_lt_zero j), rfl⟩ ?_ ?_
  · refine ⟨[], rfl, rfl, ?_, ?_⟩ <;> repeat' (first | exact trivial | exact rfl | exact Iff.rfl | apply And.intro)
    exact congrArg Int.ofNat ll
  rintro n _ ⟨i, hi, hn, hj, rfl⟩
  have a0 : rI (smpA l) (i : Int).toNat 0 = (l.getD i s0).l := by rw [Int.toNat_natCast]; exact smpA_l l i
  have a1 : rI (smpA l) (i : Int).toNat (0 + 1) = (l.getD i s0).r := by rw [Int.toNat_natCast]; exact smpA_r l i
  by_cases hi' : i < l.length
  · have c1 := s219 (l.getD i s0)
    repeat' (conv => whnf
             first
             | rw [a0]
             | rw [a1]
             | refine Rng.ok (by simp only [inR]; omega) ?_
             | refine Ob.mk (by first | omega | (simp; done) | decide | (simp; omega)) ?_
             | refine Ob.mk (show eqOK _ _ = true from by kernel_rfl) ?_
             | refine Ob.mk (show keyOK _ _ _ = true from by kernel_rfl) ?_
             | refine Val.mk _ (shr_val (by simp; rfl)) ?_
             | refine Ob.mk (Nat.le_of_ble_eq_true rfl) ?_
             | refine JoinVC.on ?_
             | refine Nils.mk (fun h => ?_) ?_
             | refine Val.mk _ (Int.tmod_eq_emod_of_nonneg (by omega)) ?_
             | refine Val.mk _ (Int.tdiv_eq_ediv_of_nonneg (by omega)) ?_
             | refine Mm.mk ?_
             | refine CallVC.pure rfl (c1) ?_
             | refine CallVC0.pure rfl (c1) ?_
             | (refine Br.mk (fun h => ?_) (fun h => ?_) <;> first | (exfalso; omega; done) | (exfalso; simp at h; done) | skip))
    · repeat refine Mm.mk ?_
      conv => whnf
      refine EndVC.mk _ rfl _ _ (⟨(i : Int), ⟨fun _ hall => (loud_iff _).1 h (hall i hi'), fun _ => by omega⟩, rfl, rfl⟩) ?_
      refine ⟨[], rfl, rfl, ?_, ?_⟩ <;> repeat' (first | exact trivial | exact rfl | exact Iff.rfl | apply And.intro)
    · refine Back.mk (l.length - (i + 1)) _ (by omega) ⟨i + 1, by omega, rfl, fun j hj' => ?_, rfl⟩ ?_
      · rcases Nat.lt_succ_iff_lt_or_eq.1 hj' with h' | rfl
        · exact hj j h'
        · exact Classical.not_not.1 fun hn => h ((loud_iff _).2 hn)
      · refine ⟨[], rfl, rfl, ?_, ?_⟩ <;> repeat' (first | exact trivial | exact rfl | exact Iff.rfl | apply And.intro)
  · repeat' (conv => whnf
             first
             | refine Rng.ok (by simp only [inR]; omega) ?_
             | refine Ob.mk (by first | omega | (simp; done) | decide | (simp; omega)) ?_
             | refine Ob.mk (show eqOK _ _ = true from by kernel_rfl) ?_
             | refine Ob.mk (show keyOK _ _ _ = true from by kernel_rfl) ?_
             | refine Val.mk _ (shr_val (by simp; rfl)) ?_
             | refine Ob.mk (Nat.le_of_ble_eq_true rfl) ?_
             | refine JoinVC.on ?_
             | refine Nils.mk (fun h => ?_) ?_
             | refine Val.mk _ (Int.tmod_eq_emod_of_nonneg (by omega)) ?_
             | refine Val.mk _ (Int.tdiv_eq_ediv_of_nonneg (by omega)) ?_
             | refine Mm.mk ?_
             | (refine Br.mk (fun h => ?_) (fun h => ?_) <;> first | (exfalso; omega; done) | (exfalso; simp at h; done) | skip))
    repeat refine Mm.mk ?_
    conv => whnf
    refine EndVC.mk _ rfl _ _ (⟨-1, ⟨fun h => absurd h (by decide), fun hn => absurd (fun j hj' => hj j (by omega)) hn⟩, rfl, rfl⟩) ?_
    refine ⟨[], rfl, rfl, ?_, ?_⟩ <;> repeat' (first | exact trivial | exact rfl | exact Iff.rfl | apply And.intro)
theorem s218 (l : List Smp) (hl : l.length ≤ 1000000) : PSpec Tryz.prog 218 [lS l, .one (.fn 219 [])] (xP (¬ ∀ j, j < l.length → (l.getD j s0).ok)) := by
  refine spec_of pMix (O := []) Tryz.func218 (c := bodyOf Tryz.f218) rfl (by kernel_rfl) (by kernel_rfl) Tryz.ntmps218 (res := [.tmp 4]) (by kernel_rfl) ?_
  repeat' (conv => whnf
           first
           | refine Rng.ok (by simp only [inR]; omega) ?_
           | refine Ob.mk (by first | omega | (simp; done) | decide | (simp; omega)) ?_
           | refine Ob.mk (show eqOK _ _ = true from by kernel_rfl) ?_
           | refine Ob.mk (show keyOK _ _ _ = true from by kernel_rfl) ?_
           | refine Val.mk _ (shr_val (by simp; rfl)) ?_
           | refine Ob.mk (Nat.le_of_ble_eq_true rfl) ?_
           | refine JoinVC.on ?_
           | refine Nils.mk (fun h => ?_) ?_
           | refine Val.mk _ (Int.tmod_eq_emod_of_nonneg (by omega)) ?_
           | refine Val.mk _ (Int.tdiv_eq_ediv_of_nonneg (by omega)) ?_
           | refine Mm.mk ?_
           | (refine Br.mk (fun h => ?_) (fun h => ?_) <;> first | (exfalso; omega; done) | (exfalso; simp at h; done) | skip))
  conv => whnf
  refine CallVC.mk [] _ _ _ rfl rfl rfl (s287 l hl) (fun r m' h' => ?_)
  obtain ⟨v, hv, rfl, rfl⟩ := h'
  conv => whnf
  repeat' (conv => whnf
           first
           | refine Rng.ok (by simp only [inR]; omega) ?_
           | refine Ob.mk (by first | omega | (simp; done) | decide | (simp; omega)) ?_
           | refine Ob.mk (show eqOK _ _ = true from by kernel_rfl) ?_
           | refine Ob.mk (show keyOK _ _ _ = true from by kernel_rfl) ?_
           | refine Val.mk _ (shr_val (by simp; rfl)) ?_
           | refine Ob.mk (Nat.le_of_ble_eq_true rfl) ?_
           | refine JoinVC.on ?_
           | refine Nils.mk (fun h => ?_) ?_
           | refine Val.mk _ (Int.tmod_eq_emod_of_nonneg (by omega)) ?_
           | refine Val.mk _ (Int.tdiv_eq_ediv_of_nonneg (by omega)) ?_
           | refine Mm.mk ?_
           | (refine Br.mk (fun h => ?_) (fun h => ?_) <;> first | (exfalso; omega; done) | (exfalso; simp at h; done) | skip))
  repeat refine Mm.mk ?_
  refine EndVC.mk _ rfl _ _ ⟨rfl, rfl⟩ ?_
  refine ⟨[], rfl, rfl, ?_, ?_⟩ <;> repeat' (first | exact trivial | exact rfl | exact Iff.rfl | apply And.intro)
  exact hv
theorem s131 (l : List Smp) : HSpec Tryz.prog 131 [lS l] [] (fun r m' => ∃ e, r = .x (I e) ∧ m' = [] ∧ (e = 0 ↔ SmpsOK l) ∧ (e = 0 ∨ e = 3 ∨ e = 6)) := by
  have ll := smpA_len l
  refine spec_of pMix (O := []) Tryz.func131 (c := bodyOf Tryz.f131) rfl (by kernel_rfl) (by kernel_rfl) Tryz.ntmps131 (res := [.tmp 2]) (by kernel_rfl) ?_
  by_cases h40 : 4096 < l.length
  · repeat' (conv => whnf
             first
             | refine Rng.ok (by simp only [inR]; omega) ?_
             | refine Ob.mk (by first | omega | (simp; done) | decide | (simp; omega)) ?_
             | refine Ob.mk (show eqOK _ _ = true from by kernel_rfl) ?_
             | refine Ob.mk (show keyOK _ _ _ = true from by kernel_rfl) ?_
             | refine Val.mk _ (shr_val (by simp; rfl)) ?_
             | refine Ob.mk (Nat.le_of_ble_eq_true rfl) ?_
             | refine JoinVC.on ?_
             | refine Nils.mk (fun h => ?_) ?_
             | refine Val.mk _ (Int.tmod_eq_emod_of_nonneg (by omega)) ?_
             | refine Val.mk _ (Int.tdiv_eq_ediv_of_nonneg (by omega)) ?_
             | refine Mm.mk ?_
             | (refine Br.mk (fun h => ?_) (fun h => ?_) <;> first | (exfalso; omega; done) | (exfalso; simp at h; done) | skip))
    repeat refine Mm.mk ?_
    conv => whnf
    refine EndVC.mk _ rfl _ _ (⟨6, rfl, rfl, ⟨fun h => (by cases h), fun h => (by have := h.len; omega)⟩, .inr (.inr rfl)⟩) ?_
    refine ⟨[], rfl, rfl, ?_, ?_⟩ <;> repeat' (first | exact trivial | exact rfl | exact Iff.rfl | apply And.intro)
  · have c1 := s218 l (by omega)
    repeat' (conv => whnf
             first
             | refine Rng.ok (by simp only [inR]; omega) ?_
             | refine Ob.mk (by first | omega | (simp; done) | decide | (simp; omega)) ?_
             | refine Ob.mk (show eqOK _ _ = true from by kernel_rfl) ?_
             | refine Ob.mk (show keyOK _ _ _ = true from by kernel_rfl) ?_
             | refine Val.mk _ (shr_val (by simp; rfl)) ?_
             | refine Ob.mk (Nat.le_of_ble_eq_true rfl) ?_
             | refine JoinVC.on ?_
             | refine Nils.mk (fun h => ?_) ?_
             | refine Val.mk _ (Int.tmod_eq_emod_of_nonneg (by omega)) ?_
             | refine Val.mk _ (Int.tdiv_eq_ediv_of_nonneg (by omega)) ?_
             | refine Mm.mk ?_
             | refine CallVC.pure rfl (c1) ?_
             | refine CallVC0.pure rfl (c1) ?_
             | (refine Br.mk (fun h => ?_) (fun h => ?_) <;> first | (exfalso; omega; done) | (exfalso; simp at h; done) | skip))
    · repeat refine Mm.mk ?_
      conv => whnf
      refine EndVC.mk _ rfl _ _ (⟨3, rfl, rfl, ⟨fun h' => (by cases h'), fun h' => absurd h'.each h⟩, .inr (.inl rfl)⟩) ?_
      refine ⟨[], rfl, rfl, ?_, ?_⟩ <;> repeat' (first | exact trivial | exact rfl | exact Iff.rfl | apply And.intro)
    · repeat refine Mm.mk ?_
      conv => whnf
      refine EndVC.mk _ rfl _ _ (⟨0, rfl, rfl, ⟨fun _ => ⟨by omega, Classical.not_not.1 h⟩, fun _ => rfl⟩, .inl rfl⟩) ?_
      refine ⟨[], rfl, rfl, ?_, ?_⟩ <;> repeat' (first | exact trivial | exact rfl | exact Iff.rfl | apply And.intro)
end Go.Sx

namespace Go.Sx
open Go Go.Proofs
set_option maxRecDepth 10000
set_option maxHeartbeats 8000000
/-- A gain with which a sample keeps to a ceiling. -/
structure GainOK (c : Int) (s : Smp) (v : Int) : Prop where
  rng : 0 ≤ v ∧ v ≤ 256
  l : amt s.l * v ≤ 256 * (c + 1) - 1
  r : amt s.r * v ≤ 256 * (c + 1) - 1
theorem s291 (s : Smp) (c : Int) (hs : s.ok) (hc : 1 ≤ c ∧ c ≤ 32767) : HSpec Tryz.prog 291 [s.x, I c] [] (fun r m' => ∃ v, GainOK c s v ∧ r = .x (I v) ∧ m' = []) := by
  obtain ⟨h1, h2, h3, h4⟩ := hs
  have h5 : (0 : Int) - s.l = -s.l := by omega
  have h6 : (0 : Int) - s.r = -s.r := by omega
  refine spec_of pMix (O := []) Tryz.func291 (c := bodyOf Tryz.f291) rfl (by kernel_rfl) (by kernel_rfl) Tryz.ntmps291 (res := [.tmp 4]) (by kernel_rfl) ?_
  repeat' (conv => whnf
           first
           | rw [h5]
           | rw [h6]
           | refine Rng.ok (by simp only [inR]; omega) ?_
           | refine Ob.mk (by first | omega | (simp; done) | decide | (simp; omega)) ?_
           | refine Ob.mk (show eqOK _ _ = true from by kernel_rfl) ?_
           | refine Ob.mk (show keyOK _ _ _ = true from by kernel_rfl) ?_
           | refine Val.mk _ (shr_val (by simp; rfl)) ?_
           | refine Ob.mk (Nat.le_of_ble_eq_true rfl) ?_
           | refine JoinVC.on ?_
           | refine Nils.mk (fun h => ?_) ?_
           | refine Val.mk _ (Int.tmod_eq_emod_of_nonneg (by omega)) ?_
           | refine Val.mk _ (Int.tdiv_eq_ediv_of_nonneg (by omega)) ?_
           | (refine Br.mk (fun h => ?_) (fun h => ?_) <;> first | (exfalso; omega; done) | (exfalso; simp at h; done) | skip))
  conv => whnf
  refine Mm.nm (fun m hm => ?_)
  have hm2 : amt s.l ≤ m ∧ amt s.r ≤ m ∧ 0 ≤ m ∧ m ≤ 32767 := by
    unfold amt
    subst hm
    repeat' split
    all_goals omega
  clear hm
  obtain ⟨m1, m2, m3, m4⟩ := hm2
  by_cases hm0 : m = 0
  · have a1 := (amt_bd (n := s.l) (B := 32767) (by omega)).1
    have a2 := (amt_bd (n := s.r) (B := 32767) (by omega)).1
    have z1 : amt s.l = 0 := by omega
    have z2 : amt s.r = 0 := by omega
    have hg : GainOK c s 256 := ⟨by omega, by rw [z1]; omega, by rw [z2]; omega⟩
    repeat' (conv => whnf
             first
             | refine Rng.ok (by simp only [inR]; omega) ?_
             | refine Ob.mk (by first | omega | (simp; done) | decide | (simp; omega)) ?_
             | refine Ob.mk (show eqOK _ _ = true from by kernel_rfl) ?_
             | refine Ob.mk (show keyOK _ _ _ = true from by kernel_rfl) ?_
             | refine Val.mk _ (shr_val (by simp; rfl)) ?_
             | refine Ob.mk (Nat.le_of_ble_eq_true rfl) ?_
             | refine JoinVC.on ?_
             | refine Nils.mk (fun h => ?_) ?_
             | refine Val.mk _ (Int.tmod_eq_emod_of_nonneg (by omega)) ?_
             | refine Val.mk _ (Int.tdiv_eq_ediv_of_nonneg (by omega)) ?_
             | refine Mm.mk ?_
             | (refine Br.mk (fun h => ?_) (fun h => ?_) <;> first | (exfalso; omega; done) | (exfalso; simp at h; done) | skip))
    repeat refine Mm.mk ?_
    conv => whnf
    refine EndVC.mk _ rfl _ _ (⟨256, hg, rfl, rfl⟩) ?_
    refine ⟨[], rfl, rfl, ?_, ?_⟩ <;> repeat' (first | exact trivial | exact rfl | exact Iff.rfl | apply And.intro)
  · obtain ⟨q, hq⟩ : ∃ q, q = (256 * (c + 1) - 1) / m := ⟨_, rfl⟩
    have hq0 : 0 ≤ q := by rw [hq]; exact Int.ediv_nonneg (by omega) m3
    have hq1 : q ≤ 256 * (c + 1) - 1 := by rw [hq]; exact Int.ediv_le_self _ (by omega)
    have hq2 : m * q ≤ 256 * (c + 1) - 1 := by rw [hq]; exact Int.mul_ediv_self_le (by omega)
    repeat' (conv => whnf
             first
             | rw [← hq]
             | refine Rng.ok (by simp only [inR]; omega) ?_
             | refine Ob.mk (by first | omega | (simp; done) | decide | (simp; omega)) ?_
             | refine Ob.mk (show eqOK _ _ = true from by kernel_rfl) ?_
             | refine Ob.mk (show keyOK _ _ _ = true from by kernel_rfl) ?_
             | refine Val.mk _ (shr_val (by simp; rfl)) ?_
             | refine Ob.mk (Nat.le_of_ble_eq_true rfl) ?_
             | refine JoinVC.on ?_
             | refine Nils.mk (fun h => ?_) ?_
             | refine Val.mk _ (Int.tmod_eq_emod_of_nonneg (by omega)) ?_
             | refine Val.mk _ (Int.tdiv_eq_ediv_of_nonneg (by omega)) ?_
             | (refine Br.mk (fun h => ?_) (fun h => ?_) <;> first | (exfalso; omega; done) | (exfalso; simp at h; done) | skip))
    conv => whnf
    refine Mm.nm (fun v hv => ?_)
    have hv2 : 0 ≤ v ∧ v ≤ 256 ∧ v ≤ q := by
      subst hv
      split <;> omega
    clear hv
    obtain ⟨v1, v2, v3⟩ := hv2
    have a1 := (amt_bd (n := s.l) (B := 32767) (by omega)).1
    have a2 := (amt_bd (n := s.r) (B := 32767) (by omega)).1
    have b1 : amt s.l * v ≤ m * q := Int.mul_le_mul m1 v3 v1 m3
    have b2 : amt s.r * v ≤ m * q := Int.mul_le_mul m2 v3 v1 m3
    repeat' (conv => whnf
             first
             | refine Rng.ok (by simp only [inR]; omega) ?_
             | refine Ob.mk (by first | omega | (simp; done) | decide | (simp; omega)) ?_
             | refine Ob.mk (show eqOK _ _ = true from by kernel_rfl) ?_
             | refine Ob.mk (show keyOK _ _ _ = true from by kernel_rfl) ?_
             | refine Val.mk _ (shr_val (by simp; rfl)) ?_
             | refine Ob.mk (Nat.le_of_ble_eq_true rfl) ?_
             | refine JoinVC.on ?_
             | refine Nils.mk (fun h => ?_) ?_
             | refine Val.mk _ (Int.tmod_eq_emod_of_nonneg (by omega)) ?_
             | refine Val.mk _ (Int.tdiv_eq_ediv_of_nonneg (by omega)) ?_
             | refine Mm.mk ?_
             | (refine Br.mk (fun h => ?_) (fun h => ?_) <;> first | (exfalso; omega; done) | (exfalso; simp at h; done) | skip))
    repeat refine Mm.mk ?_
    conv => whnf
    refine EndVC.mk _ rfl _ _ (⟨v, ⟨⟨v1, v2⟩, by omega, by omega⟩, rfl, rfl⟩) ?_
    refine ⟨[], rfl, rfl, ?_, ?_⟩ <;> repeat' (first | exact trivial | exact rfl | exact Iff.rfl | apply And.intro)
theorem GainOK.less {c : Int} {s : Smp} {v u : Int} (h : GainOK c s v) (h0 : 0 ≤ u) (hu : u ≤ v) (hl : 0 ≤ amt s.l) (hr : 0 ≤ amt s.r) : GainOK c s u := by
  obtain ⟨h1, h2, h3⟩ := h
  have a := Int.mul_le_mul_of_nonneg_left hu hl
  have b := Int.mul_le_mul_of_nonneg_left hu hr
  exact ⟨by omega, by omega, by omega⟩
/-- Gains that are fair to their samples. -/
structure GainsOK (c : Int) (p : List Smp) (G : List Int) : Prop where
  len : G.length = p.length
  each : ∀ j, j < p.length → GainOK c (p.getD j s0) (G.getD j 0)
theorem s224 (p : List Smp) (c : Int) (hp : SmpsOK p) (hc : 1 ≤ c ∧ c ≤ 32767) : HSpec Tryz.prog 224 [lS p, I c] [] (fun r m' => ∃ G, GainsOK c p G ∧ r = .tup [.one (.own 0), I 0] ∧ m' = [some (rowL G)]) := by
  have lp := smpA_len p
  have h40 := hp.len
  refine spec_of pMix (O := []) Tryz.func224 (c := bodyOf Tryz.f224) rfl (by kernel_rfl) (by kernel_rfl) Tryz.ntmps224 (res := [.tmp 4, .tmp 5]) (by kernel_rfl) ?_
  repeat' (conv => whnf
           first
           | refine Rng.ok (by simp only [inR]; omega) ?_
           | refine Ob.mk (by first | omega | (simp; done) | decide | (simp; omega)) ?_
           | refine Ob.mk (show eqOK _ _ = true from by kernel_rfl) ?_
           | refine Ob.mk (show keyOK _ _ _ = true from by kernel_rfl) ?_
           | refine Val.mk _ (shr_val (by simp; rfl)) ?_
           | refine Ob.mk (Nat.le_of_ble_eq_true rfl) ?_
           | refine JoinVC.on ?_
           | refine Nils.mk (fun h => ?_) ?_
           | refine Val.mk _ (Int.tmod_eq_emod_of_nonneg (by omega)) ?_
           | refine Val.mk _ (Int.tdiv_eq_ediv_of_nonneg (by omega)) ?_
           | refine Mm.mk ?_
           | (refine Br.mk (fun h => ?_) (fun h => ?_) <;> first | (exfalso; omega; done) | (exfalso; simp at h; done) | skip))
  conv => whnf
  refine CallVC.mk [] _ _ _ rfl rfl rfl (s131 p) (fun r m' h' => ?_)
  obtain ⟨e, rfl, rfl, he, _⟩ := h'
  conv => whnf
  cases he.2 hp
  repeat' (conv => whnf
           first
           | refine Rng.ok (by simp only [inR]; omega) ?_
           | refine Ob.mk (by first | omega | (simp; done) | decide | (simp; omega)) ?_
           | refine Ob.mk (show eqOK _ _ = true from by kernel_rfl) ?_
           | refine Ob.mk (show keyOK _ _ _ = true from by kernel_rfl) ?_
           | refine Val.mk _ (shr_val (by simp; rfl)) ?_
           | refine Ob.mk (Nat.le_of_ble_eq_true rfl) ?_
           | refine JoinVC.on ?_
           | refine Nils.mk (fun h => ?_) ?_
           | refine Val.mk _ (Int.tmod_eq_emod_of_nonneg (by omega)) ?_
           | refine Val.mk _ (Int.tdiv_eq_ediv_of_nonneg (by omega)) ?_
           | refine Mm.mk ?_
           | (refine Br.mk (fun h => ?_) (fun h => ?_) <;> first | (exfalso; omega; done) | (exfalso; simp at h; done) | skip))
  refine LoopVC.mk (fun n st => ∃ (i : Nat) (G : List Int), i ≤ p.length ∧ n = p.length - i ∧ G.length = i ∧ (∀ j, j < i → GainOK c (p.getD j s0) (G.getD j 0)) ∧ st = ⟨0, envA 35 [(1, .x (I c)), (7, .x (.one (.own 0))), (21, .x (lS p)), (22, .int .i64 (p.length : Int)), (23, .int .i64 (i : Int))], [some (rowL G)]⟩) _ _ ⟨0, [], Nat.zero_le _, rfl, rfl, fun j hj => absurd hj (Nat.not_lt_zero j), rfl⟩ ?_ ?_
  · refine ⟨[none], rfl, rfl, ?_, ?_⟩ <;> repeat' (first | exact trivial | exact rfl | exact Iff.rfl | apply And.intro)
    exact congrArg Int.ofNat lp
  rintro n _ ⟨i, G, hi, hn, hG, hj, rfl⟩
  have a0 : rI (smpA p) (i : Int).toNat 0 = (p.getD i s0).l := by rw [Int.toNat_natCast, smpA_l]
  have a1 : rI (smpA p) (i : Int).toNat (0 + 1) = (p.getD i s0).r := by rw [Int.toNat_natCast, smpA_r]
  have lG : (i64s G).length = i := by rw [i64s_len]; exact hG
  by_cases hi' : i < p.length
  · repeat' (conv => whnf
             first
             | rw [a0]
             | rw [a1]
             | refine Rng.ok (by simp only [inR]; omega) ?_
             | refine Ob.mk (by first | omega | (simp; done) | decide | (simp; omega)) ?_
             | refine Ob.mk (show eqOK _ _ = true from by kernel_rfl) ?_
             | refine Ob.mk (show keyOK _ _ _ = true from by kernel_rfl) ?_
             | refine Val.mk _ (shr_val (by simp; rfl)) ?_
             | refine Ob.mk (Nat.le_of_ble_eq_true rfl) ?_
             | refine JoinVC.on ?_
             | refine Nils.mk (fun h => ?_) ?_
             | refine Val.mk _ (Int.tmod_eq_emod_of_nonneg (by omega)) ?_
             | refine Val.mk _ (Int.tdiv_eq_ediv_of_nonneg (by omega)) ?_
             | refine Mm.mk ?_
             | (refine Br.mk (fun h => ?_) (fun h => ?_) <;> first | (exfalso; omega; done) | (exfalso; simp at h; done) | skip))
    conv => whnf
    refine CallVC.mk [] _ _ _ rfl rfl rfl (s291 (p.getD i s0) c (hp.each i hi') hc) (fun r m' h' => ?_)
    obtain ⟨v, hv, rfl, rfl⟩ := h'
    conv => whnf
    repeat' (conv => whnf
             first
             | refine Rng.ok (by simp only [inR]; omega) ?_
             | refine Ob.mk (by first | omega | (simp; done) | decide | (simp; omega)) ?_
             | refine Ob.mk (show eqOK _ _ = true from by kernel_rfl) ?_
             | refine Ob.mk (show keyOK _ _ _ = true from by kernel_rfl) ?_
             | refine Val.mk _ (shr_val (by simp; rfl)) ?_
             | refine Ob.mk (Nat.le_of_ble_eq_true rfl) ?_
             | refine JoinVC.on ?_
             | refine Nils.mk (fun h => ?_) ?_
             | refine Val.mk _ (Int.tmod_eq_emod_of_nonneg (by omega)) ?_
             | refine Val.mk _ (Int.tdiv_eq_ediv_of_nonneg (by omega)) ?_
             | refine Mm.mk ?_
             | (refine Br.mk (fun h => ?_) (fun h => ?_) <;> first | (exfalso; omega; done) | (exfalso; simp at h; done) | skip))
    repeat refine Mm.mk ?_
    refine Ob.mk (by simp only [lG, eb2, List.length_cons, List.length_nil]; omega) ?_
    repeat' (conv => whnf
             first
             | refine Rng.ok (by simp only [inR]; omega) ?_
             | refine Ob.mk (by first | omega | (simp; done) | decide | (simp; omega)) ?_
             | refine Ob.mk (show eqOK _ _ = true from by kernel_rfl) ?_
             | refine Ob.mk (show keyOK _ _ _ = true from by kernel_rfl) ?_
             | refine Val.mk _ (shr_val (by simp; rfl)) ?_
             | refine Ob.mk (Nat.le_of_ble_eq_true rfl) ?_
             | refine JoinVC.on ?_
             | refine Nils.mk (fun h => ?_) ?_
             | refine Val.mk _ (Int.tmod_eq_emod_of_nonneg (by omega)) ?_
             | refine Val.mk _ (Int.tdiv_eq_ediv_of_nonneg (by omega)) ?_
             | refine Mm.mk ?_
             | (refine Br.mk (fun h => ?_) (fun h => ?_) <;> first | (exfalso; omega; done) | (exfalso; simp at h; done) | skip))
    refine Back.mk (p.length - (i + 1)) _ (by omega) ⟨i + 1, G ++ [v], by omega, rfl, by simp [hG], fun j hj' => ?_, rfl⟩ ?_
    · rcases Nat.lt_succ_iff_lt_or_eq.1 hj' with h' | rfl
      · have e : (G ++ [v]).getD j 0 = G.getD j 0 := by simp [List.getD_eq_getElem?_getD, List.getElem?_append_left (show j < G.length by omega)]
        rw [e]; exact hj j h'
      · have e : (G ++ [v]).getD j 0 = v := by rw [← hG]; simp [List.getD_eq_getElem?_getD]
        rw [e]; exact hv
    · refine ⟨[some 3], rfl, rfl, ?_, ?_⟩ <;> repeat' (first | exact trivial | exact rfl | exact Iff.rfl | apply And.intro)
      exact (i64s_snoc _ _).symm
  · repeat' (conv => whnf
             first
             | refine Rng.ok (by simp only [inR]; omega) ?_
             | refine Ob.mk (by first | omega | (simp; done) | decide | (simp; omega)) ?_
             | refine Ob.mk (show eqOK _ _ = true from by kernel_rfl) ?_
             | refine Ob.mk (show keyOK _ _ _ = true from by kernel_rfl) ?_
             | refine Val.mk _ (shr_val (by simp; rfl)) ?_
             | refine Ob.mk (Nat.le_of_ble_eq_true rfl) ?_
             | refine JoinVC.on ?_
             | refine Nils.mk (fun h => ?_) ?_
             | refine Val.mk _ (Int.tmod_eq_emod_of_nonneg (by omega)) ?_
             | refine Val.mk _ (Int.tdiv_eq_ediv_of_nonneg (by omega)) ?_
             | refine Mm.mk ?_
             | (refine Br.mk (fun h => ?_) (fun h => ?_) <;> first | (exfalso; omega; done) | (exfalso; simp at h; done) | skip))
    repeat refine Mm.mk ?_
    conv => whnf
    refine EndVC.mk _ rfl _ _ (⟨G, ⟨by omega, fun j hj' => hj j (by omega)⟩, rfl, rfl⟩) ?_
    refine ⟨[some 0], rfl, rfl, ?_, ?_⟩ <;> repeat' (first | exact trivial | exact rfl | exact Iff.rfl | apply And.intro)
theorem s225 (n : Int) : HSpec Tryz.prog 225 [I n] [] (fun r m' => r = .x (.one (.fn 292 [(0, 0)])) ∧ m' = [some (.box 3 [.int .i64 n])]) := by
  refine spec_of pMix (O := []) Tryz.func225 (c := bodyOf Tryz.f225) rfl (by kernel_rfl) (by kernel_rfl) Tryz.ntmps225 (res := [.tmp 2]) (by kernel_rfl) ?_
  repeat' (conv => whnf
           first
           | refine Rng.ok (by simp only [inR]; omega) ?_
           | refine Ob.mk (by first | omega | (simp; done) | decide | (simp; omega)) ?_
           | refine Ob.mk (show eqOK _ _ = true from by kernel_rfl) ?_
           | refine Ob.mk (show keyOK _ _ _ = true from by kernel_rfl) ?_
           | refine Val.mk _ (shr_val (by simp; rfl)) ?_
           | refine Ob.mk (Nat.le_of_ble_eq_true rfl) ?_
           | refine JoinVC.on ?_
           | refine Nils.mk (fun h => ?_) ?_
           | refine Val.mk _ (Int.tmod_eq_emod_of_nonneg (by omega)) ?_
           | refine Val.mk _ (Int.tdiv_eq_ediv_of_nonneg (by omega)) ?_
           | refine Mm.mk ?_
           | (refine Br.mk (fun h => ?_) (fun h => ?_) <;> first | (exfalso; omega; done) | (exfalso; simp at h; done) | skip))
  repeat refine Mm.mk ?_
  refine EndVC.mk _ rfl _ _ ⟨rfl, rfl⟩ ?_
  refine ⟨[some 0], rfl, rfl, ?_, ?_⟩ <;> repeat' (first | exact trivial | exact rfl | exact Iff.rfl | apply And.intro)
end Go.Sx

namespace Go.Sx
open Go Go.Proofs
set_option maxRecDepth 10000
set_option maxHeartbeats 8000000
theorem i64s_set (xs : List Int) (i : Nat) (v : Int) (h : i < xs.length) : updRow (i64s xs) i 0 [.int v] = i64s (xs.set i v) := by
  have e : (i64s xs).getD i [] = [.int (xs.getD i 0)] := by simp [i64s, List.getD_eq_getElem?_getD, h]
  unfold updRow
  rw [e]
  simp [i64s, setAll, List.map_set]
theorem GainsOK.set {c : Int} {p : List Smp} {G : List Int} (h : GainsOK c p G) (hp : SmpsOK p) {i : Nat} (hi : i < p.length) {v : Int} (h0 : 0 ≤ v) (hv : v ≤ G.getD i 0) : GainsOK c p (G.set i v) := by
  refine ⟨by rw [List.length_set]; exact h.len, fun j hj => ?_⟩
  rw [getD_set' _ _ _ _ _ (by rw [h.len]; exact hi)]
  split
  · rename_i e
    subst e
    obtain ⟨k1, k2, k3, k4⟩ := hp.each i hi
    exact (h.each i hi).less h0 hv (amt_bd (B := 32767) ⟨k1, k2⟩).1 (amt_bd (B := 32767) ⟨k3, k4⟩).1
  · exact h.each j hj
noncomputable def rf134 : Code := cB (cS (cF (cS (cS (cS (cS (bodyOf Tryz.f134)))))))
@[reducible] noncomputable def lpM (G : List Int) (step n : Int) (p : List Smp) : List (Option Blk) := [some (.box 2 [.int .i64 step]), some (rowL G), some (.box 37 [.own 1]), some (.box 3 [.int .i64 n]), some (.loop [30, 31] (cAs rf134) (cBo rf134) (envA 47 [(5, .x (.one (.ptr 0 0))), (8, .x (.one (.ptr 2 0)))]) .ready)]
theorem s134 (p : List Smp) (c step : Int) (hp : SmpsOK p) (hc : 1 ≤ c ∧ c ≤ 32767) (hst : 0 ≤ step ∧ step ≤ 256) : HSpec Tryz.prog 134 [lS p, I c, I step] [] (fun r m' => ∃ G, GainsOK c p G ∧ r = .tup [.one (.own 0), I 0] ∧ m' = [some (rowL G)]) := by
  have lp := smpA_len p
  have h40 := hp.len
  refine spec_of pMix (O := []) Tryz.func134 (c := bodyOf Tryz.f134) rfl (by kernel_rfl) (by kernel_rfl) Tryz.ntmps134 (res := [.tmp 6, .tmp 7]) (by kernel_rfl) ?_
  repeat' (conv => whnf
           first
           | refine Rng.ok (by simp only [inR]; omega) ?_
           | refine Ob.mk (by first | omega | (simp; done) | decide | (simp; omega)) ?_
           | refine Ob.mk (show eqOK _ _ = true from by kernel_rfl) ?_
           | refine Ob.mk (show keyOK _ _ _ = true from by kernel_rfl) ?_
           | refine Val.mk _ (shr_val (by simp; rfl)) ?_
           | refine Ob.mk (Nat.le_of_ble_eq_true rfl) ?_
           | refine JoinVC.on ?_
           | refine Nils.mk (fun h => ?_) ?_
           | refine Val.mk _ (Int.tmod_eq_emod_of_nonneg (by omega)) ?_
           | refine Val.mk _ (Int.tdiv_eq_ediv_of_nonneg (by omega)) ?_
           | refine Mm.mk ?_
           | (refine Br.mk (fun h => ?_) (fun h => ?_) <;> first | (exfalso; omega; done) | (exfalso; simp at h; done) | skip))
  conv => whnf
  refine CallVC.mk [] _ _ _ rfl rfl rfl (s224 p c hp hc) (fun r m' h' => ?_)
  obtain ⟨G, hG, rfl, rfl⟩ := h'
  conv => whnf
  have lG := i64s_len G
  have hGl := hG.len
  repeat' (conv => whnf
           first
           | refine Rng.ok (by simp only [inR]; omega) ?_
           | refine Ob.mk (by first | omega | (simp; done) | decide | (simp; omega)) ?_
           | refine Ob.mk (show eqOK _ _ = true from by kernel_rfl) ?_
           | refine Ob.mk (show keyOK _ _ _ = true from by kernel_rfl) ?_
           | refine Val.mk _ (shr_val (by simp; rfl)) ?_
           | refine Ob.mk (Nat.le_of_ble_eq_true rfl) ?_
           | refine JoinVC.on ?_
           | refine Nils.mk (fun h => ?_) ?_
           | refine Val.mk _ (Int.tmod_eq_emod_of_nonneg (by omega)) ?_
           | refine Val.mk _ (Int.tdiv_eq_ediv_of_nonneg (by omega)) ?_
           | refine Mm.mk ?_
           | (refine Br.mk (fun h => ?_) (fun h => ?_) <;> first | (exfalso; omega; done) | (exfalso; simp at h; done) | skip))
  conv => whnf
  refine CallVC.mk [] _ _ _ rfl rfl rfl (s225 ((i64s G).length : Int)) (fun r m' h' => ?_)
  obtain ⟨rfl, rfl⟩ := h'
  conv => whnf
  repeat' (conv => whnf
           first
           | refine Rng.ok (by simp only [inR]; omega) ?_
           | refine Ob.mk (by first | omega | (simp; done) | decide | (simp; omega)) ?_
           | refine Ob.mk (show eqOK _ _ = true from by kernel_rfl) ?_
           | refine Ob.mk (show keyOK _ _ _ = true from by kernel_rfl) ?_
           | refine Val.mk _ (shr_val (by simp; rfl)) ?_
           | refine Ob.mk (Nat.le_of_ble_eq_true rfl) ?_
           | refine JoinVC.on ?_
           | refine Nils.mk (fun h => ?_) ?_
           | refine Val.mk _ (Int.tmod_eq_emod_of_nonneg (by omega)) ?_
           | refine Val.mk _ (Int.tdiv_eq_ediv_of_nonneg (by omega)) ?_
           | refine Mm.mk ?_
           | (refine Br.mk (fun h => ?_) (fun h => ?_) <;> first | (exfalso; omega; done) | (exfalso; simp at h; done) | skip))
  change RangeVC _ _ _ _ _
  refine RangeVC.mk e292 (isem_of_awp pMix [] Tryz.func292 (c := bodyOf Tryz.f292) rfl (by kernel_rfl) Tryz.ntmps292 (by kernel_rfl) ?_)
  repeat' (conv => whnf
           first
           | refine Rng.ok (by simp only [inR]; omega) ?_
           | refine Ob.mk (by first | omega | (simp; done) | decide | (simp; omega)) ?_
           | refine Ob.mk (show eqOK _ _ = true from by kernel_rfl) ?_
           | refine Ob.mk (show keyOK _ _ _ = true from by kernel_rfl) ?_
           | refine Val.mk _ (shr_val (by simp; rfl)) ?_
           | refine Ob.mk (Nat.le_of_ble_eq_true rfl) ?_
           | refine JoinVC.on ?_
           | refine Nils.mk (fun h => ?_) ?_
           | refine Val.mk _ (Int.tmod_eq_emod_of_nonneg (by omega)) ?_
           | refine Val.mk _ (Int.tdiv_eq_ediv_of_nonneg (by omega)) ?_
           | refine Mm.mk ?_
           | (refine Br.mk (fun h => ?_) (fun h => ?_) <;> first | (exfalso; omega; done) | (exfalso; simp at h; done) | skip))
  refine LoopVC.mk (fun n st => ∃ (i : Nat) (G : List Int), 1 ≤ i ∧ (i ≤ p.length ∨ i = 1) ∧ n = p.length - i ∧ GainsOK c p G ∧ st = ⟨5, envA 28 [(0, .x (.one (.yld 4))), (1, .x (.one (.ptr 3 0))), (3, .int .i64 (i : Int))], lpM G step p.length p⟩) _ _ ⟨1, G, Nat.le_refl _, .inr rfl, rfl, hG, rfl⟩ ?_ ?_
  · refine ⟨[some 0, some 1, some 2, some 3, some 4], rfl, rfl, ?_, ?_⟩ <;> repeat' (first | exact trivial | exact rfl | exact Iff.rfl | apply And.intro)
    rw [lG, hGl]
  rintro n _ ⟨i, G, hi1, hi2, hn, hG, rfl⟩
  have lG := i64s_len G
  have hGl := hG.len
  by_cases hi' : i < p.length
  · have g0 := (hG.each i hi').rng
    have g1 := (hG.each (i - 1) (by omega)).rng
    have x0 : rI (i64s G) (i : Int).toNat 0 = G.getD i 0 := by rw [Int.toNat_natCast, i64s_get]
    have x1 : rI (i64s G) ((i : Int) - 1).toNat 0 = G.getD (i - 1) 0 := by rw [show ((i : Int) - 1).toNat = i - 1 by omega, i64s_get]
    repeat' (conv => whnf
             first
             | rw [x0]
             | rw [x1]
             | refine Rng.ok (by simp only [inR]; omega) ?_
             | refine Ob.mk (by first | omega | (simp; done) | decide | (simp; omega)) ?_
             | refine Ob.mk (show eqOK _ _ = true from by kernel_rfl) ?_
             | refine Ob.mk (show keyOK _ _ _ = true from by kernel_rfl) ?_
             | refine Val.mk _ (shr_val (by simp; rfl)) ?_
             | refine Ob.mk (Nat.le_of_ble_eq_true rfl) ?_
             | refine JoinVC.on ?_
             | refine Nils.mk (fun h => ?_) ?_
             | refine Val.mk _ (Int.tmod_eq_emod_of_nonneg (by omega)) ?_
             | refine Val.mk _ (Int.tdiv_eq_ediv_of_nonneg (by omega)) ?_
             | refine YieldVC.mk (rsem_of_awp pMix [] rfl (by kernel_rfl) ?_)
             | (refine Br.mk (fun h => ?_) (fun h => ?_) <;> first | (exfalso; omega; done) | (exfalso; simp at h; done) | skip))
    conv => whnf
    refine Mm.nm (fun v hv => ?_)
    have hv2 : 0 ≤ v ∧ v ≤ G.getD i 0 := by
      subst hv
      split <;> omega
    clear hv
    have u1 : updRow (i64s G) (i : Int).toNat 0 [.int v] = i64s (G.set i v) := by rw [Int.toNat_natCast]; exact i64s_set G i v (by omega)
    repeat' (conv => whnf
             first
             | rw [u1]
             | refine Rng.ok (by simp only [inR]; omega) ?_
             | refine Ob.mk (by first | omega | (simp; done) | decide | (simp; omega)) ?_
             | refine Ob.mk (show eqOK _ _ = true from by kernel_rfl) ?_
             | refine Ob.mk (show keyOK _ _ _ = true from by kernel_rfl) ?_
             | refine Val.mk _ (shr_val (by simp; rfl)) ?_
             | refine Ob.mk (Nat.le_of_ble_eq_true rfl) ?_
             | refine JoinVC.on ?_
             | refine Nils.mk (fun h => ?_) ?_
             | refine Val.mk _ (Int.tmod_eq_emod_of_nonneg (by omega)) ?_
             | refine Val.mk _ (Int.tdiv_eq_ediv_of_nonneg (by omega)) ?_
             | refine Mm.mk ?_
             | (refine Br.mk (fun h => ?_) (fun h => ?_) <;> first | (exfalso; omega; done) | (exfalso; simp at h; done) | skip))
    refine Back.mk (p.length - (i + 1)) _ (by omega) ⟨i + 1, G.set i v, by omega, .inl (by omega), rfl, hG.set hp hi' hv2.1 hv2.2, rfl⟩ ?_
    refine ⟨[some 0, some 1, some 2, some 3, some 4], rfl, rfl, ?_, ?_⟩ <;> repeat' (first | exact trivial | exact rfl | exact Iff.rfl | apply And.intro)
  · repeat' (conv => whnf
             first
             | refine Rng.ok (by simp only [inR]; omega) ?_
             | refine Ob.mk (by first | omega | (simp; done) | decide | (simp; omega)) ?_
             | refine Ob.mk (show eqOK _ _ = true from by kernel_rfl) ?_
             | refine Ob.mk (show keyOK _ _ _ = true from by kernel_rfl) ?_
             | refine Val.mk _ (shr_val (by simp; rfl)) ?_
             | refine Ob.mk (Nat.le_of_ble_eq_true rfl) ?_
             | refine JoinVC.on ?_
             | refine Nils.mk (fun h => ?_) ?_
             | refine Val.mk _ (Int.tmod_eq_emod_of_nonneg (by omega)) ?_
             | refine Val.mk _ (Int.tdiv_eq_ediv_of_nonneg (by omega)) ?_
             | refine Mm.mk ?_
             | (refine Br.mk (fun h => ?_) (fun h => ?_) <;> first | (exfalso; omega; done) | (exfalso; simp at h; done) | skip))
    refine LoopVC.mk (fun n st => ∃ (i : Int) (G : List Int), -2 ≤ i ∧ i ≤ p.length - 2 ∧ n = (i + 2).toNat ∧ GainsOK c p G ∧ st = ⟨5, envA 28 [(0, .x (.one (.yld 4))), (1, .x (.one (.ptr 3 0))), (4, .int .i64 i)], lpM G step p.length p⟩) _ _ ⟨(p.length : Int) - 2, G, by omega, Int.le_refl _, rfl, hG, rfl⟩ ?_ ?_
    · refine ⟨[some 0, some 1, some 2, some 3, some 4], rfl, rfl, ?_, ?_⟩ <;> repeat' (first | exact trivial | exact rfl | exact Iff.rfl | apply And.intro)
    clear h hi1 hi2 hn hG lG hGl hi' n G i
    rintro n _ ⟨i, G, hi1, hi2, hn, hG, rfl⟩
    have lG := i64s_len G
    have hGl := hG.len
    by_cases hi' : 0 ≤ i
    · obtain ⟨j, rfl⟩ : ∃ j : Nat, i = j := ⟨i.toNat, by omega⟩
      have hj : j + 1 < p.length := by omega
      have g0 := (hG.each j (by omega)).rng
      have g1 := (hG.each (j + 1) hj).rng
      have x0 : rI (i64s G) (j : Int).toNat 0 = G.getD j 0 := by rw [Int.toNat_natCast, i64s_get]
      have x1 : rI (i64s G) ((j : Int) + 1).toNat 0 = G.getD (j + 1) 0 := by rw [show ((j : Int) + 1).toNat = j + 1 by omega, i64s_get]
      repeat' (conv => whnf
               first
               | rw [x0]
               | rw [x1]
               | refine Rng.ok (by simp only [inR]; omega) ?_
               | refine Ob.mk (by first | omega | (simp; done) | decide | (simp; omega)) ?_
               | refine Ob.mk (show eqOK _ _ = true from by kernel_rfl) ?_
               | refine Ob.mk (show keyOK _ _ _ = true from by kernel_rfl) ?_
               | refine Val.mk _ (shr_val (by simp; rfl)) ?_
               | refine Ob.mk (Nat.le_of_ble_eq_true rfl) ?_
               | refine JoinVC.on ?_
               | refine Nils.mk (fun h => ?_) ?_
               | refine Val.mk _ (Int.tmod_eq_emod_of_nonneg (by omega)) ?_
               | refine Val.mk _ (Int.tdiv_eq_ediv_of_nonneg (by omega)) ?_
               | refine YieldVC.mk (rsem_of_awp pMix [] rfl (by kernel_rfl) ?_)
               | (refine Br.mk (fun h => ?_) (fun h => ?_) <;> first | (exfalso; omega; done) | (exfalso; simp at h; done) | skip))
      conv => whnf
      refine Mm.nm (fun v hv => ?_)
      have hv2 : 0 ≤ v ∧ v ≤ G.getD j 0 := by
        subst hv
        split <;> omega
      clear hv
      have u1 : updRow (i64s G) (j : Int).toNat 0 [.int v] = i64s (G.set j v) := by rw [Int.toNat_natCast]; exact i64s_set G j v (by omega)
      repeat' (conv => whnf
               first
               | rw [u1]
               | refine Rng.ok (by simp only [inR]; omega) ?_
               | refine Ob.mk (by first | omega | (simp; done) | decide | (simp; omega)) ?_
               | refine Ob.mk (show eqOK _ _ = true from by kernel_rfl) ?_
               | refine Ob.mk (show keyOK _ _ _ = true from by kernel_rfl) ?_
               | refine Val.mk _ (shr_val (by simp; rfl)) ?_
               | refine Ob.mk (Nat.le_of_ble_eq_true rfl) ?_
               | refine JoinVC.on ?_
               | refine Nils.mk (fun h => ?_) ?_
               | refine Val.mk _ (Int.tmod_eq_emod_of_nonneg (by omega)) ?_
               | refine Val.mk _ (Int.tdiv_eq_ediv_of_nonneg (by omega)) ?_
               | refine Mm.mk ?_
               | (refine Br.mk (fun h => ?_) (fun h => ?_) <;> first | (exfalso; omega; done) | (exfalso; simp at h; done) | skip))
      refine Back.mk ((j : Int) - 1 + 2).toNat _ (by omega) ⟨(j : Int) - 1, G.set j v, by omega, by omega, rfl, hG.set hp (by omega) hv2.1 hv2.2, rfl⟩ ?_
      refine ⟨[some 0, some 1, some 2, some 3, some 4], rfl, rfl, ?_, ?_⟩ <;> repeat' (first | exact trivial | exact rfl | exact Iff.rfl | apply And.intro)
    · repeat' (conv => whnf
               first
               | refine Rng.ok (by simp only [inR]; omega) ?_
               | refine Ob.mk (by first | omega | (simp; done) | decide | (simp; omega)) ?_
               | refine Ob.mk (show eqOK _ _ = true from by kernel_rfl) ?_
               | refine Ob.mk (show keyOK _ _ _ = true from by kernel_rfl) ?_
               | refine Val.mk _ (shr_val (by simp; rfl)) ?_
               | refine Ob.mk (Nat.le_of_ble_eq_true rfl) ?_
               | refine JoinVC.on ?_
               | refine Nils.mk (fun h => ?_) ?_
               | refine Val.mk _ (Int.tmod_eq_emod_of_nonneg (by omega)) ?_
               | refine Val.mk _ (Int.tdiv_eq_ediv_of_nonneg (by omega)) ?_
               | refine Mm.mk ?_
               | (refine Br.mk (fun h => ?_) (fun h => ?_) <;> first | (exfalso; omega; done) | (exfalso; simp at h; done) | skip))
      repeat refine Mm.mk ?_
      conv => whnf
      refine EndVC.mk _ rfl _ _ (⟨G, hG, rfl, rfl⟩) ?_
      refine ⟨[some 1], rfl, rfl, ?_, ?_⟩ <;> repeat' (first | exact trivial | exact rfl | exact Iff.rfl | apply And.intro)
/-- A limited programme. -/
structure LimOK (c : Int) (p q : List Smp) : Prop where
  len : q.length = p.length
  each : ∀ j, j < p.length → (-c ≤ (q.getD j s0).l ∧ (q.getD j s0).l ≤ c) ∧ (-c ≤ (q.getD j s0).r ∧ (q.getD j s0).r ≤ c)
theorem lim_rng {n v c : Int} (h : amt n * v ≤ 256 * (c + 1) - 1) (hv : 0 ≤ v ∧ v ≤ 256) (hn : -32767 ≤ n ∧ n ≤ 32767) : (-8388352 ≤ n * v ∧ n * v ≤ 8388352) ∧ -c ≤ (n * v).tdiv 256 ∧ (n * v).tdiv 256 ≤ c := by
  have h1 := mul_rng (a := n) (b := v) (A := 32767) (B := 256) hn hv
  have h2 : -(256 * (c + 1) - 1) ≤ n * v ∧ n * v ≤ 256 * (c + 1) - 1 := by
    unfold amt at h
    split at h
    · rw [Int.neg_mul] at h
      have : n * v ≤ 0 := Int.mul_nonpos_of_nonpos_of_nonneg (by omega) hv.1
      omega
    · have : 0 ≤ n * v := Int.mul_nonneg (by omega) hv.1
      omega
  refine ⟨by omega, ?_⟩
  generalize n * v = m at h2
  rcases Int.le_total 0 m with h0 | h0
  · rw [Int.tdiv_eq_ediv_of_nonneg h0]; omega
  · have e : m = -(-m) := by omega
    rw [e, Int.neg_tdiv, Int.tdiv_eq_ediv_of_nonneg (by omega)]; omega
theorem s50 (p : List Smp) (c step : Int) (hp : SmpsOK p) (hc : 1 ≤ c ∧ c ≤ 32767) (hst : 0 ≤ step ∧ step ≤ 256) : HSpec Tryz.prog 50 [lS p, I c, I step] [] (fun r m' => ∃ q, LimOK c p q ∧ r = .tup [.one (.own 0), I 0] ∧ m' = [some (rowS q)]) := by
  have lp := smpA_len p
  have h40 := hp.len
  refine spec_of pMix (O := [(8, ([], [⟨0, [], []⟩, ⟨1, [], []⟩, ⟨2, [], []⟩, ⟨3, [], []⟩, ⟨4, [], []⟩, ⟨5, [], []⟩, ⟨6, [], []⟩, ⟨7, [], []⟩, ⟨8, [], []⟩, ⟨9, [], []⟩, ⟨10, [], []⟩, ⟨11, [], []⟩, ⟨12, [], []⟩, ⟨13, [], []⟩, ⟨14, [], []⟩, ⟨15, [], []⟩, ⟨16, [], []⟩, ⟨17, [], [18]⟩, ⟨18, [], []⟩, ⟨19, [], []⟩, ⟨20, [], []⟩]))]) Tryz.func50 (c := bodyOf Tryz.f50) rfl (by kernel_rfl) (by kernel_rfl) Tryz.ntmps50 (res := [.tmp 6, .tmp 7]) (by kernel_rfl) ?_
  repeat' (conv => whnf
           first
           | refine Rng.ok (by simp only [inR]; omega) ?_
           | refine Ob.mk (by first | omega | (simp; done) | decide | (simp; omega)) ?_
           | refine Ob.mk (show eqOK _ _ = true from by kernel_rfl) ?_
           | refine Ob.mk (show keyOK _ _ _ = true from by kernel_rfl) ?_
           | refine Val.mk _ (shr_val (by simp; rfl)) ?_
           | refine Ob.mk (Nat.le_of_ble_eq_true rfl) ?_
           | refine JoinVC.on ?_
           | refine Nils.mk (fun h => ?_) ?_
           | refine Val.mk _ (Int.tmod_eq_emod_of_nonneg (by omega)) ?_
           | refine Val.mk _ (Int.tdiv_eq_ediv_of_nonneg (by omega)) ?_
           | refine Mm.mk ?_
           | (refine Br.mk (fun h => ?_) (fun h => ?_) <;> first | (exfalso; omega; done) | (exfalso; simp at h; done) | skip))
  conv => whnf
  refine CallVC.mk [] _ _ _ rfl rfl rfl (s134 p c step hp hc hst) (fun r m' h' => ?_)
  obtain ⟨G, hG, rfl, rfl⟩ := h'
  conv => whnf
  have lG := i64s_len G
  have hGl := hG.len
  repeat' (conv => whnf
           first
           | refine Rng.ok (by simp only [inR]; omega) ?_
           | refine Ob.mk (by first | omega | (simp; done) | decide | (simp; omega)) ?_
           | refine Ob.mk (show eqOK _ _ = true from by kernel_rfl) ?_
           | refine Ob.mk (show keyOK _ _ _ = true from by kernel_rfl) ?_
           | refine Val.mk _ (shr_val (by simp; rfl)) ?_
           | refine Ob.mk (Nat.le_of_ble_eq_true rfl) ?_
           | refine JoinVC.on ?_
           | refine Nils.mk (fun h => ?_) ?_
           | refine Val.mk _ (Int.tmod_eq_emod_of_nonneg (by omega)) ?_
           | refine Val.mk _ (Int.tdiv_eq_ediv_of_nonneg (by omega)) ?_
           | refine Mm.mk ?_
           | (refine Br.mk (fun h => ?_) (fun h => ?_) <;> first | (exfalso; omega; done) | (exfalso; simp at h; done) | skip))
  refine LoopVC.mk (fun n st => ∃ (i : Nat) (q : List Smp), i ≤ p.length ∧ n = p.length - i ∧ q.length = i ∧ (∀ j, j < i → (-c ≤ (q.getD j s0).l ∧ (q.getD j s0).l ≤ c) ∧ (-c ≤ (q.getD j s0).r ∧ (q.getD j s0).r ≤ c)) ∧ st = ⟨0, envA 52 [(8, .x (.one (.own 0))), (10, .x (.one (.own 1))), (23, .x (lS p)), (24, .int .i64 (p.length : Int)), (25, .int .i64 (i : Int))], [some (rowL G), some (rowS q)]⟩) _ _ ⟨0, [], Nat.zero_le _, rfl, rfl, fun j hj => absurd hj (Nat.not_lt_zero j), rfl⟩ ?_ ?_
  · refine ⟨[some 0, none], rfl, rfl, ?_, ?_⟩ <;> repeat' (first | exact trivial | exact rfl | exact Iff.rfl | apply And.intro)
    exact congrArg Int.ofNat lp
  rintro n _ ⟨i, q, hi, hn, hq, hj, rfl⟩
  have a0 : rI (smpA p) (i : Int).toNat 0 = (p.getD i s0).l := by rw [Int.toNat_natCast, smpA_l]
  have a1 : rI (smpA p) (i : Int).toNat (0 + 1) = (p.getD i s0).r := by rw [Int.toNat_natCast, smpA_r]
  have x0 : rI (i64s G) (i : Int).toNat 0 = G.getD i 0 := by rw [Int.toNat_natCast, i64s_get]
  have lq : (smpA q).length = i := by rw [smpA_len]; exact hq
  by_cases hi' : i < p.length
  · obtain ⟨k1, k2, k3, k4⟩ := hp.each i hi'
    obtain ⟨v1, v2, v3⟩ := hG.each i hi'
    obtain ⟨b1, b2⟩ := lim_rng v2 v1 ⟨k1, k2⟩
    obtain ⟨b3, b4⟩ := lim_rng v3 v1 ⟨k3, k4⟩
    obtain ⟨y, hy⟩ : ∃ y, y = ((p.getD i s0).l * G.getD i 0).tdiv 256 := ⟨_, rfl⟩
    obtain ⟨z, hz⟩ : ∃ z, z = ((p.getD i s0).r * G.getD i 0).tdiv 256 := ⟨_, rfl⟩
    rw [← hy] at b2
    rw [← hz] at b4
    repeat' (conv => whnf
             first
             | rw [a0]
             | rw [a1]
             | rw [x0]
             | refine Rng.ok (by simp only [inR]; omega) ?_
             | refine Ob.mk (by first | omega | (simp; done) | decide | (simp; omega)) ?_
             | refine Ob.mk (show eqOK _ _ = true from by kernel_rfl) ?_
             | refine Ob.mk (show keyOK _ _ _ = true from by kernel_rfl) ?_
             | refine Val.mk _ (shr_val (by simp; rfl)) ?_
             | refine Ob.mk (Nat.le_of_ble_eq_true rfl) ?_
             | refine JoinVC.on ?_
             | refine Nils.mk (fun h => ?_) ?_
             | refine Val.mk _ (Int.tmod_eq_emod_of_nonneg (by omega)) ?_
             | refine Val.mk _ (Int.tdiv_eq_ediv_of_nonneg (by omega)) ?_
             | refine Mm.mk ?_
             | (refine Br.mk (fun h => ?_) (fun h => ?_) <;> first | (exfalso; omega; done) | (exfalso; simp at h; done) | skip))
    conv => whnf
    refine Val.mk (y) (hy.symm) ?_
    repeat' (conv => whnf
             first
             | rw [a0]
             | rw [a1]
             | rw [x0]
             | refine Rng.ok (by simp only [inR]; omega) ?_
             | refine Ob.mk (by first | omega | (simp; done) | decide | (simp; omega)) ?_
             | refine Ob.mk (show eqOK _ _ = true from by kernel_rfl) ?_
             | refine Ob.mk (show keyOK _ _ _ = true from by kernel_rfl) ?_
             | refine Val.mk _ (shr_val (by simp; rfl)) ?_
             | refine Ob.mk (Nat.le_of_ble_eq_true rfl) ?_
             | refine JoinVC.on ?_
             | refine Nils.mk (fun h => ?_) ?_
             | refine Val.mk _ (Int.tmod_eq_emod_of_nonneg (by omega)) ?_
             | refine Val.mk _ (Int.tdiv_eq_ediv_of_nonneg (by omega)) ?_
             | refine Mm.mk ?_
             | (refine Br.mk (fun h => ?_) (fun h => ?_) <;> first | (exfalso; omega; done) | (exfalso; simp at h; done) | skip))
    conv => whnf
    refine Val.mk (z) (hz.symm) ?_
    repeat' (conv => whnf
             first
             | refine Rng.ok (by simp only [inR]; omega) ?_
             | refine Ob.mk (by first | omega | (simp; done) | decide | (simp; omega)) ?_
             | refine Ob.mk (show eqOK _ _ = true from by kernel_rfl) ?_
             | refine Ob.mk (show keyOK _ _ _ = true from by kernel_rfl) ?_
             | refine Val.mk _ (shr_val (by simp; rfl)) ?_
             | refine Ob.mk (Nat.le_of_ble_eq_true rfl) ?_
             | refine JoinVC.on ?_
             | refine Nils.mk (fun h => ?_) ?_
             | refine Val.mk _ (Int.tmod_eq_emod_of_nonneg (by omega)) ?_
             | refine Val.mk _ (Int.tdiv_eq_ediv_of_nonneg (by omega)) ?_
             | refine Mm.mk ?_
             | (refine Br.mk (fun h => ?_) (fun h => ?_) <;> first | (exfalso; omega; done) | (exfalso; simp at h; done) | skip))
    repeat refine Mm.mk ?_
    refine Ob.mk (by simp only [lq, eb47, List.length_cons, List.length_nil]; omega) ?_
    repeat' (conv => whnf
             first
             | refine Rng.ok (by simp only [inR]; omega) ?_
             | refine Ob.mk (by first | omega | (simp; done) | decide | (simp; omega)) ?_
             | refine Ob.mk (show eqOK _ _ = true from by kernel_rfl) ?_
             | refine Ob.mk (show keyOK _ _ _ = true from by kernel_rfl) ?_
             | refine Val.mk _ (shr_val (by simp; rfl)) ?_
             | refine Ob.mk (Nat.le_of_ble_eq_true rfl) ?_
             | refine JoinVC.on ?_
             | refine Nils.mk (fun h => ?_) ?_
             | refine Val.mk _ (Int.tmod_eq_emod_of_nonneg (by omega)) ?_
             | refine Val.mk _ (Int.tdiv_eq_ediv_of_nonneg (by omega)) ?_
             | refine Mm.mk ?_
             | (refine Br.mk (fun h => ?_) (fun h => ?_) <;> first | (exfalso; omega; done) | (exfalso; simp at h; done) | skip))
    refine Back.mk (p.length - (i + 1)) _ (by omega) ⟨i + 1, q ++ [⟨y, z⟩], by omega, rfl, by simp [hq], fun j hj' => ?_, rfl⟩ ?_
    · rcases Nat.lt_succ_iff_lt_or_eq.1 hj' with h' | rfl
      · have e : (q ++ [(⟨y, z⟩ : Smp)]).getD j s0 = q.getD j s0 := by simp [List.getD_eq_getElem?_getD, List.getElem?_append_left (show j < q.length by omega)]
        rw [e]; exact hj j h'
      · have e : (q ++ [(⟨y, z⟩ : Smp)]).getD j s0 = ⟨y, z⟩ := by rw [← hq]; simp [List.getD_eq_getElem?_getD]
        rw [e]; exact ⟨b2, b4⟩
    · refine ⟨[some 0, some 4], rfl, rfl, ?_, ?_⟩ <;> repeat' (first | exact trivial | exact rfl | exact Iff.rfl | apply And.intro)
      simp [smpA]
  · repeat' (conv => whnf
             first
             | refine Rng.ok (by simp only [inR]; omega) ?_
             | refine Ob.mk (by first | omega | (simp; done) | decide | (simp; omega)) ?_
             | refine Ob.mk (show eqOK _ _ = true from by kernel_rfl) ?_
             | refine Ob.mk (show keyOK _ _ _ = true from by kernel_rfl) ?_
             | refine Val.mk _ (shr_val (by simp; rfl)) ?_
             | refine Ob.mk (Nat.le_of_ble_eq_true rfl) ?_
             | refine JoinVC.on ?_
             | refine Nils.mk (fun h => ?_) ?_
             | refine Val.mk _ (Int.tmod_eq_emod_of_nonneg (by omega)) ?_
             | refine Val.mk _ (Int.tdiv_eq_ediv_of_nonneg (by omega)) ?_
             | refine Mm.mk ?_
             | (refine Br.mk (fun h => ?_) (fun h => ?_) <;> first | (exfalso; omega; done) | (exfalso; simp at h; done) | skip))
    repeat refine Mm.mk ?_
    conv => whnf
    refine EndVC.mk _ rfl _ _ (⟨q, ⟨by omega, fun j hj' => hj j (by omega)⟩, rfl, rfl⟩) ?_
    refine ⟨[some 1], rfl, rfl, ?_, ?_⟩ <;> repeat' (first | exact trivial | exact rfl | exact Iff.rfl | apply And.intro)
end Go.Sx

namespace Go.Sx
open Go Go.Proofs
set_option maxRecDepth 10000
set_option maxHeartbeats 8000000
theorem e9 : EntersF Tryz.prog 9 := enters_of Tryz.func9 (c := bodyOf Tryz.f9) (by kernel_rfl) rfl
theorem s40 (n : Int) (hn : -1000000000000 ≤ n ∧ n ≤ 1000000000000) : PSpec Tryz.prog 40 [I n] (.x (I (amt n))) := by
  have h5 : (0 : Int) - n = -n := by omega
  refine spec_of pMix (O := []) Tryz.func40 (c := bodyOf Tryz.f40) rfl (by kernel_rfl) (by kernel_rfl) Tryz.ntmps40 (res := [.tmp 2]) (by kernel_rfl) ?_
  repeat' (conv => whnf
           first
           | rw [h5]
           | refine Rng.ok (by simp only [inR]; omega) ?_
           | refine Ob.mk (by first | omega | (simp; done) | decide | (simp; omega)) ?_
           | refine Ob.mk (show eqOK _ _ = true from by kernel_rfl) ?_
           | refine Ob.mk (show keyOK _ _ _ = true from by kernel_rfl) ?_
           | refine Val.mk _ (shr_val (by simp; rfl)) ?_
           | refine Ob.mk (Nat.le_of_ble_eq_true rfl) ?_
           | refine JoinVC.on ?_
           | refine Nils.mk (fun h => ?_) ?_
           | refine Val.mk _ (Int.tmod_eq_emod_of_nonneg (by omega)) ?_
           | refine Val.mk _ (Int.tdiv_eq_ediv_of_nonneg (by omega)) ?_
           | refine Mm.mk ?_
           | (refine Br.mk (fun h => ?_) (fun h => ?_) <;> first | (exfalso; omega; done) | (exfalso; simp at h; done) | skip))
  repeat refine Mm.mk ?_
  refine EndVC.mk _ rfl _ _ ⟨rfl, rfl⟩ ?_
  refine ⟨[], rfl, rfl, ?_, ?_⟩ <;> repeat' (first | exact trivial | exact rfl | exact Iff.rfl | apply And.intro)
theorem amt_tdiv {n m g : Int} (hn : -m ≤ n ∧ n ≤ m) (hg : 0 ≤ g) : amt ((n * g).tdiv 1000) ≤ m * g / 1000 := by
  have h1 : n * g ≤ m * g := Int.mul_le_mul_of_nonneg_right hn.2 hg
  have h2 : -(m * g) ≤ n * g := by
    have := Int.mul_le_mul_of_nonneg_right hn.1 hg
    rwa [Int.neg_mul] at this
  generalize n * g = a at h1 h2 ⊢
  generalize m * g = b at h1 h2 ⊢
  unfold amt
  rcases Int.le_total 0 a with h0 | h0
  · rw [Int.tdiv_eq_ediv_of_nonneg h0]
    split <;> omega
  · have e : a = -(-a) := by omega
    rw [e, Int.neg_tdiv, Int.tdiv_eq_ediv_of_nonneg (by omega)]
    split <;> omega
theorem ruleF_1 {t : Trk} {i : Nat} {b a : Bool} (h : ruleF t i b a = 1) : brk t i b a 1 := by
  unfold ruleF at h
  split at h
  · assumption
  · repeat' (split at h)
    all_goals omega
theorem ruleF_2 {t : Trk} {i : Nat} {b a : Bool} (h : ruleF t i b a = 2) : brk t i b a 2 := by
  unfold ruleF at h
  split at h
  · omega
  · split at h
    · assumption
    · repeat' (split at h)
      all_goals omega
theorem s9 (p : List Smp) (ce st : Int) (c : Cut) (r per : Int) (hce : 0 ≤ ce ∧ ce ≤ 65535) (hst : 0 ≤ st ∧ st ≤ 255) : PSpec Tryz.prog 9 [lS p, .one (.int .u16 ce), .one (.int .u8 st), c.x, I r, I per] (xP True) := by
  have hw := s25
  have lp := smpA_len p
  by_cases hV : ¬ (p.length ≤ 100 ∧ SmpsOK p ∧ CutOK c ∧ (0 ≤ r ∧ r ≤ 4194304) ∧ 1 ≤ per ∧ per ≤ 65536)
  · by_cases h100 : 100 < p.length
    · refine spec_of pMix (O := [(12, ([], [⟨0, [], []⟩, ⟨1, [], []⟩, ⟨2, [], []⟩, ⟨3, [], []⟩, ⟨4, [], []⟩, ⟨5, [], []⟩, ⟨6, [], []⟩, ⟨7, [], []⟩, ⟨9, [], []⟩, ⟨8, [9], []⟩, ⟨10, [], []⟩, ⟨11, [], []⟩, ⟨12, [], []⟩, ⟨13, [], []⟩, ⟨14, [], []⟩, ⟨15, [], []⟩, ⟨16, [], []⟩, ⟨17, [], []⟩, ⟨18, [], []⟩, ⟨19, [], []⟩, ⟨21, [], []⟩, ⟨20, [21], []⟩, ⟨22, [], []⟩, ⟨23, [], []⟩]))]) Tryz.func9 (c := bodyOf Tryz.f9) rfl (by kernel_rfl) (by kernel_rfl) Tryz.ntmps9 (res := [.tmp 12]) (by kernel_rfl) ?_
      repeat' (conv => whnf
               first
               | refine Rng.ok (by simp only [inR]; omega) ?_
               | refine Ob.mk (by first | omega | (simp; done) | decide | (simp; omega)) ?_
               | refine Ob.mk (show eqOK _ _ = true from by kernel_rfl) ?_
               | refine Ob.mk (show keyOK _ _ _ = true from by kernel_rfl) ?_
               | refine Val.mk _ (shr_val (by simp; rfl)) ?_
               | refine Ob.mk (Nat.le_of_ble_eq_true rfl) ?_
               | refine JoinVC.on ?_
               | refine Nils.mk (fun h => ?_) ?_
               | refine Val.mk _ (Int.tmod_eq_emod_of_nonneg (by omega)) ?_
               | refine Val.mk _ (Int.tdiv_eq_ediv_of_nonneg (by omega)) ?_
               | refine Mm.mk ?_
               | refine CallVC.pure rfl (hw) ?_
               | refine CallVC0.pure rfl (hw) ?_
               | (refine Br.mk (fun h => ?_) (fun h => ?_) <;> first | (exfalso; omega; done) | (exfalso; simp at h; done) | skip))
      repeat refine Mm.mk ?_
      refine EndVC.mk _ rfl _ _ ⟨rfl, rfl⟩ ?_
      refine ⟨[], rfl, rfl, ?_, ?_⟩ <;> repeat' (first | exact trivial | exact rfl | exact Iff.rfl | apply And.intro)
    refine spec_of pMix (O := [(12, ([], [⟨0, [], []⟩, ⟨1, [], []⟩, ⟨2, [], []⟩, ⟨3, [], []⟩, ⟨4, [], []⟩, ⟨5, [], []⟩, ⟨6, [], []⟩, ⟨7, [], []⟩, ⟨9, [], []⟩, ⟨8, [9], []⟩, ⟨10, [], []⟩, ⟨11, [], []⟩, ⟨12, [], []⟩, ⟨13, [], []⟩, ⟨14, [], []⟩, ⟨15, [], []⟩, ⟨16, [], []⟩, ⟨17, [], []⟩, ⟨18, [], []⟩, ⟨19, [], []⟩, ⟨21, [], []⟩, ⟨20, [21], []⟩, ⟨22, [], []⟩, ⟨23, [], []⟩]))]) Tryz.func9 (c := bodyOf Tryz.f9) rfl (by kernel_rfl) (by kernel_rfl) Tryz.ntmps9 (res := [.tmp 12]) (by kernel_rfl) ?_
    repeat' (conv => whnf
             first
             | refine Rng.ok (by simp only [inR]; omega) ?_
             | refine Ob.mk (by first | omega | (simp; done) | decide | (simp; omega)) ?_
             | refine Ob.mk (show eqOK _ _ = true from by kernel_rfl) ?_
             | refine Ob.mk (show keyOK _ _ _ = true from by kernel_rfl) ?_
             | refine Val.mk _ (shr_val (by simp; rfl)) ?_
             | refine Ob.mk (Nat.le_of_ble_eq_true rfl) ?_
             | refine JoinVC.on ?_
             | refine Nils.mk (fun h => ?_) ?_
             | refine Val.mk _ (Int.tmod_eq_emod_of_nonneg (by omega)) ?_
             | refine Val.mk _ (Int.tdiv_eq_ediv_of_nonneg (by omega)) ?_
             | refine Mm.mk ?_
             | (refine Br.mk (fun h => ?_) (fun h => ?_) <;> first | (exfalso; omega; done) | (exfalso; simp at h; done) | skip))
    conv => whnf
    refine CallVC.mk [] _ _ _ rfl rfl rfl (s45 p) (fun r m' h' => ?_)
    obtain ⟨e, rfl, rfl, he⟩ := h'
    conv => whnf
    by_cases h0 : e = 0
    rotate_left
    · repeat' (conv => whnf
               first
               | refine Rng.ok (by simp only [inR]; omega) ?_
               | refine Ob.mk (by first | omega | (simp; done) | decide | (simp; omega)) ?_
               | refine Ob.mk (show eqOK _ _ = true from by kernel_rfl) ?_
               | refine Ob.mk (show keyOK _ _ _ = true from by kernel_rfl) ?_
               | refine Val.mk _ (shr_val (by simp; rfl)) ?_
               | refine Ob.mk (Nat.le_of_ble_eq_true rfl) ?_
               | refine JoinVC.on ?_
               | refine Nils.mk (fun h => ?_) ?_
               | refine Val.mk _ (Int.tmod_eq_emod_of_nonneg (by omega)) ?_
               | refine Val.mk _ (Int.tdiv_eq_ediv_of_nonneg (by omega)) ?_
               | refine Mm.mk ?_
               | refine CallVC.pure rfl (hw) ?_
               | refine CallVC0.pure rfl (hw) ?_
               | (refine Br.mk (fun h => ?_) (fun h => ?_) <;> first | (exfalso; omega; done) | (exfalso; simp at h; done) | skip))
      repeat refine Mm.mk ?_
      refine EndVC.mk _ rfl _ _ ⟨rfl, rfl⟩ ?_
      refine ⟨[], rfl, rfl, ?_, ?_⟩ <;> repeat' (first | exact trivial | exact rfl | exact Iff.rfl | apply And.intro)
    repeat' (conv => whnf
             first
             | refine Rng.ok (by simp only [inR]; omega) ?_
             | refine Ob.mk (by first | omega | (simp; done) | decide | (simp; omega)) ?_
             | refine Ob.mk (show eqOK _ _ = true from by kernel_rfl) ?_
             | refine Ob.mk (show keyOK _ _ _ = true from by kernel_rfl) ?_
             | refine Val.mk _ (shr_val (by simp; rfl)) ?_
             | refine Ob.mk (Nat.le_of_ble_eq_true rfl) ?_
             | refine JoinVC.on ?_
             | refine Nils.mk (fun h => ?_) ?_
             | refine Val.mk _ (Int.tmod_eq_emod_of_nonneg (by omega)) ?_
             | refine Val.mk _ (Int.tdiv_eq_ediv_of_nonneg (by omega)) ?_
             | refine Mm.mk ?_
             | (refine Br.mk (fun h => ?_) (fun h => ?_) <;> first | (exfalso; omega; done) | (exfalso; simp at h; done) | skip))
    conv => whnf
    refine CallVC.mk [] _ _ _ rfl rfl rfl (s24 c) (fun r m' h' => ?_)
    obtain ⟨e2, rfl, rfl, he2⟩ := h'
    conv => whnf
    repeat' (conv => whnf
             first
             | refine Rng.ok (by simp only [inR]; omega) ?_
             | refine Ob.mk (by first | omega | (simp; done) | decide | (simp; omega)) ?_
             | refine Ob.mk (show eqOK _ _ = true from by kernel_rfl) ?_
             | refine Ob.mk (show keyOK _ _ _ = true from by kernel_rfl) ?_
             | refine Val.mk _ (shr_val (by simp; rfl)) ?_
             | refine Ob.mk (Nat.le_of_ble_eq_true rfl) ?_
             | refine JoinVC.on ?_
             | refine Nils.mk (fun h => ?_) ?_
             | refine Val.mk _ (Int.tmod_eq_emod_of_nonneg (by omega)) ?_
             | refine Val.mk _ (Int.tdiv_eq_ediv_of_nonneg (by omega)) ?_
             | refine Mm.mk ?_
             | refine CallVC.pure rfl (hw) ?_
             | refine CallVC0.pure rfl (hw) ?_
             | (refine Br.mk (fun h => ?_) (fun h => ?_) <;> first | (exfalso; omega; done) | (exfalso; simp at h; done) | skip))
    all_goals first | (exfalso; exact hV ⟨by omega, he.1 (by omega), he2.1 (by omega), by omega, by omega⟩) | skip
    all_goals
      repeat refine Mm.mk ?_
      refine EndVC.mk _ rfl _ _ ⟨rfl, rfl⟩ ?_
      refine ⟨[], rfl, rfl, ?_, ?_⟩ <;> repeat' (first | exact trivial | exact rfl | exact Iff.rfl | apply And.intro)
  replace hV := Classical.not_not.1 hV
  obtain ⟨h100, hP, hC, hr, hp1, hp2⟩ := hV
  obtain ⟨m, hm⟩ : ∃ m, m = 1 + ce % 32767 := ⟨_, rfl⟩
  have hm2 : 1 ≤ m ∧ m ≤ 32767 := by omega
  have hgn := hC.gain
  have hhf := hC.half
  obtain ⟨far, hfar⟩ : ∃ far, far = m * c.gain / 1000 := ⟨_, rfl⟩
  have hmg := mul_rng (a := m) (b := c.gain) (A := 32767) (B := 100000) (by omega) hgn
  have hmg0 : 0 ≤ m * c.gain := Int.mul_nonneg (by omega) hgn.1
  have hfr : 0 ≤ far ∧ far ≤ 3276700 := by omega
  refine spec_of pMix (O := [(12, ([], [⟨0, [], []⟩, ⟨1, [], []⟩, ⟨2, [], []⟩, ⟨3, [], []⟩, ⟨4, [], []⟩, ⟨5, [], []⟩, ⟨6, [], []⟩, ⟨7, [], []⟩, ⟨9, [], []⟩, ⟨8, [9], []⟩, ⟨10, [], []⟩, ⟨11, [], []⟩, ⟨12, [], []⟩, ⟨13, [], []⟩, ⟨14, [], []⟩, ⟨15, [], []⟩, ⟨16, [], []⟩, ⟨17, [], []⟩, ⟨18, [], []⟩, ⟨19, [], []⟩, ⟨21, [], []⟩, ⟨20, [21], []⟩, ⟨22, [], []⟩, ⟨23, [], []⟩]))]) Tryz.func9 (c := bodyOf Tryz.f9) rfl (by kernel_rfl) (by kernel_rfl) Tryz.ntmps9 (res := [.tmp 12]) (by kernel_rfl) ?_
  repeat' (conv => whnf
           first
           | refine Rng.ok (by simp only [inR]; omega) ?_
           | refine Ob.mk (by first | omega | (simp; done) | decide | (simp; omega)) ?_
           | refine Ob.mk (show eqOK _ _ = true from by kernel_rfl) ?_
           | refine Ob.mk (show keyOK _ _ _ = true from by kernel_rfl) ?_
           | refine Val.mk _ (shr_val (by simp; rfl)) ?_
           | refine Ob.mk (Nat.le_of_ble_eq_true rfl) ?_
           | refine JoinVC.on ?_
           | refine Nils.mk (fun h => ?_) ?_
           | refine Val.mk _ (Int.tmod_eq_emod_of_nonneg (by omega)) ?_
           | refine Val.mk _ (Int.tdiv_eq_ediv_of_nonneg (by omega)) ?_
           | refine Mm.mk ?_
           | (refine Br.mk (fun h => ?_) (fun h => ?_) <;> first | (exfalso; omega; done) | (exfalso; simp at h; done) | skip))
  conv => whnf
  refine CallVC.mk [] _ _ _ rfl rfl rfl (s45 p) (fun r m' h' => ?_)
  obtain ⟨e, rfl, rfl, he⟩ := h'
  conv => whnf
  cases he.2 hP
  repeat' (conv => whnf
           first
           | refine Rng.ok (by simp only [inR]; omega) ?_
           | refine Ob.mk (by first | omega | (simp; done) | decide | (simp; omega)) ?_
           | refine Ob.mk (show eqOK _ _ = true from by kernel_rfl) ?_
           | refine Ob.mk (show keyOK _ _ _ = true from by kernel_rfl) ?_
           | refine Val.mk _ (shr_val (by simp; rfl)) ?_
           | refine Ob.mk (Nat.le_of_ble_eq_true rfl) ?_
           | refine JoinVC.on ?_
           | refine Nils.mk (fun h => ?_) ?_
           | refine Val.mk _ (Int.tmod_eq_emod_of_nonneg (by omega)) ?_
           | refine Val.mk _ (Int.tdiv_eq_ediv_of_nonneg (by omega)) ?_
           | refine Mm.mk ?_
           | (refine Br.mk (fun h => ?_) (fun h => ?_) <;> first | (exfalso; omega; done) | (exfalso; simp at h; done) | skip))
  conv => whnf
  refine CallVC.mk [] _ _ _ rfl rfl rfl (s24 c) (fun r m' h' => ?_)
  obtain ⟨e2, rfl, rfl, he2⟩ := h'
  conv => whnf
  cases he2.2 hC
  repeat' (conv => whnf
           first
           | rw [← hm]
           | refine Rng.ok (by simp only [inR]; omega) ?_
           | refine Ob.mk (by first | omega | (simp; done) | decide | (simp; omega)) ?_
           | refine Ob.mk (show eqOK _ _ = true from by kernel_rfl) ?_
           | refine Ob.mk (show keyOK _ _ _ = true from by kernel_rfl) ?_
           | refine Val.mk _ (shr_val (by simp; rfl)) ?_
           | refine Ob.mk (Nat.le_of_ble_eq_true rfl) ?_
           | refine JoinVC.on ?_
           | refine Nils.mk (fun h => ?_) ?_
           | refine Val.mk _ (Int.tmod_eq_emod_of_nonneg (by omega)) ?_
           | refine Val.mk _ (Int.tdiv_eq_ediv_of_nonneg (by omega)) ?_
           | refine Mm.mk ?_
           | (refine Br.mk (fun h => ?_) (fun h => ?_) <;> first | (exfalso; omega; done) | (exfalso; simp at h; done) | skip))
  conv => whnf
  refine CallVC.mk [] _ _ _ rfl rfl rfl (s50 p m st hP hm2 (by omega)) (fun r m' h' => ?_)
  obtain ⟨q, hq, rfl, rfl⟩ := h'
  conv => whnf
  have lq := smpA_len q
  have hql := hq.len
  have hqS : SmpsOK q := ⟨by omega, fun j hj => by
    have := hq.each j (by omega)
    unfold Smp.ok
    omega⟩
  repeat' (conv => whnf
           first
           | refine Rng.ok (by simp only [inR]; omega) ?_
           | refine Ob.mk (by first | omega | (simp; done) | decide | (simp; omega)) ?_
           | refine Ob.mk (show eqOK _ _ = true from by kernel_rfl) ?_
           | refine Ob.mk (show keyOK _ _ _ = true from by kernel_rfl) ?_
           | refine Val.mk _ (shr_val (by simp; rfl)) ?_
           | refine Ob.mk (Nat.le_of_ble_eq_true rfl) ?_
           | refine JoinVC.on ?_
           | refine Nils.mk (fun h => ?_) ?_
           | refine Val.mk _ (Int.tmod_eq_emod_of_nonneg (by omega)) ?_
           | refine Val.mk _ (Int.tdiv_eq_ediv_of_nonneg (by omega)) ?_
           | refine Mm.mk ?_
           | (refine Br.mk (fun h => ?_) (fun h => ?_) <;> first | (exfalso; omega; done) | (exfalso; simp at h; done) | skip))
  conv => whnf
  refine CallVC.mk [] _ _ _ rfl rfl rfl (s30 c q) (fun r m' h' => ?_)
  cases h' with
  | bad e h he hr hm => exact absurd ⟨hC, hqS⟩ h
  | ok hC' hj' hr' hm' =>
  subst hr' hm'
  obtain ⟨g, hg⟩ : ∃ g, g = cutF c q := ⟨_, rfl⟩
  rw [← hg]
  have lgl : g.length = q.length := by rw [hg, cutF_len]
  have lg := smpA_len g
  have hgp : PtsOK g := by rw [hg]; exact cut_ok hC hqS
  have hgv : ∀ j : Nat, j < g.length → g.getD j s0 = ptF c (q.getD j s0) := fun j hj => by rw [hg]; exact cutF_get c q j (by omega)
  have hed : ∀ j : Nat, j < g.length → amt ((g.getD j s0).r - c.half) ≤ far ∧ amt ((g.getD j s0).l + c.half) ≤ far := fun j hj => by
    obtain ⟨q1, q2⟩ := hq.each j (by omega)
    have e1 := amt_tdiv q1 hgn.1
    have e2 := amt_tdiv q2 hgn.1
    rw [← hfar] at e1 e2
    rw [hgv j hj]
    unfold ptF
    simp only
    rw [Int.add_sub_cancel, Int.sub_add_cancel]
    exact ⟨e1, e2⟩
  repeat' (conv => whnf
           first
           | rw [← hfar]
           | refine Rng.ok (by simp only [inR]; omega) ?_
           | refine Ob.mk (by first | omega | (simp; done) | decide | (simp; omega)) ?_
           | refine Ob.mk (show eqOK _ _ = true from by kernel_rfl) ?_
           | refine Ob.mk (show keyOK _ _ _ = true from by kernel_rfl) ?_
           | refine Val.mk _ (shr_val (by simp; rfl)) ?_
           | refine Ob.mk (Nat.le_of_ble_eq_true rfl) ?_
           | refine JoinVC.on ?_
           | refine Nils.mk (fun h => ?_) ?_
           | refine Val.mk _ (Int.tmod_eq_emod_of_nonneg (by omega)) ?_
           | refine Val.mk _ (Int.tdiv_eq_ediv_of_nonneg (by omega)) ?_
           | refine Mm.mk ?_
           | (refine Br.mk (fun h => ?_) (fun h => ?_) <;> first | (exfalso; omega; done) | (exfalso; simp at h; done) | skip))
  refine LoopVC.mk (fun n st => ∃ (i : Nat), i ≤ g.length ∧ n = g.length - i ∧ st = ⟨0, envA 175 [(4, .x (I r)), (5, .x (I per)), (9, .x (.one (.ptr 0 0))), (16, .x (.one (.own 1))), (18, .int .i64 far), (19, .int .i64 (i : Int))], [some (bCut c), some (rowP g)]⟩) _ _ ⟨0, Nat.zero_le _, rfl, rfl⟩ ?_ ?_
  · refine ⟨[some 0, some 2], rfl, rfl, ?_, ?_⟩ <;> repeat' (first | exact trivial | exact rfl | exact Iff.rfl | apply And.intro)
  rintro n _ ⟨i, hi, hn, rfl⟩
  have a0 : rI (smpA g) (i : Int).toNat (0 + 0) = (g.getD i s0).l := by rw [Int.toNat_natCast]; exact smpA_l g i
  have a1 : rI (smpA g) (i : Int).toNat (0 + (0 + 1)) = (g.getD i s0).r := by rw [Int.toNat_natCast]; exact smpA_r g i
  by_cases hi' : i < g.length
  · have hb := hgp.each i hi'
    unfold edgeP at hb
    obtain ⟨b1, b2⟩ := hed i hi'
    have c1 := s40 ((g.getD i s0).r - c.half) (by omega)
    have c2 := s40 ((g.getD i s0).l + c.half) (by omega)
    repeat' (conv => whnf
             first
             | rw [a0]
             | rw [a1]
             | refine Rng.ok (by simp only [inR]; omega) ?_
             | refine Ob.mk (by first | omega | (simp; done) | decide | (simp; omega)) ?_
             | refine Ob.mk (show eqOK _ _ = true from by kernel_rfl) ?_
             | refine Ob.mk (show keyOK _ _ _ = true from by kernel_rfl) ?_
             | refine Val.mk _ (shr_val (by simp; rfl)) ?_
             | refine Ob.mk (Nat.le_of_ble_eq_true rfl) ?_
             | refine JoinVC.on ?_
             | refine Nils.mk (fun h => ?_) ?_
             | refine Val.mk _ (Int.tmod_eq_emod_of_nonneg (by omega)) ?_
             | refine Val.mk _ (Int.tdiv_eq_ediv_of_nonneg (by omega)) ?_
             | refine Mm.mk ?_
             | refine CallVC.pure rfl (c1) ?_
             | refine CallVC.pure rfl (c2) ?_
             | refine CallVC0.pure rfl (c1) ?_
             | refine CallVC0.pure rfl (c2) ?_
             | (refine Br.mk (fun h => ?_) (fun h => ?_) <;> first | (exfalso; omega; done) | (exfalso; simp at h; done) | skip))
    refine Back.mk (g.length - (i + 1)) _ (by omega) ⟨i + 1, by omega, rfl, rfl⟩ ?_
    refine ⟨[some 0, some 1], rfl, rfl, ?_, ?_⟩ <;> repeat' (first | exact trivial | exact rfl | exact Iff.rfl | apply And.intro)
  · repeat' (conv => whnf
             first
             | refine Rng.ok (by simp only [inR]; omega) ?_
             | refine Ob.mk (by first | omega | (simp; done) | decide | (simp; omega)) ?_
             | refine Ob.mk (show eqOK _ _ = true from by kernel_rfl) ?_
             | refine Ob.mk (show keyOK _ _ _ = true from by kernel_rfl) ?_
             | refine Val.mk _ (shr_val (by simp; rfl)) ?_
             | refine Ob.mk (Nat.le_of_ble_eq_true rfl) ?_
             | refine JoinVC.on ?_
             | refine Nils.mk (fun h => ?_) ?_
             | refine Val.mk _ (Int.tmod_eq_emod_of_nonneg (by omega)) ?_
             | refine Val.mk _ (Int.tdiv_eq_ediv_of_nonneg (by omega)) ?_
             | refine Mm.mk ?_
             | (refine Br.mk (fun h => ?_) (fun h => ?_) <;> first | (exfalso; omega; done) | (exfalso; simp at h; done) | skip))
    conv => whnf
    refine CallVC.mk [] _ _ _ rfl rfl rfl (s51 c g r per hC hgp hr ⟨hp1, hp2⟩) (fun r m' h' => ?_)
    obtain ⟨k, x, hF, hx, rfl⟩ := h'
    conv => whnf
    rcases hx with ⟨hk, rfl⟩ | ⟨hk, rfl⟩
    · repeat' (conv => whnf
               first
               | refine Rng.ok (by simp only [inR]; omega) ?_
               | refine Ob.mk (by first | omega | (simp; done) | decide | (simp; omega)) ?_
               | refine Ob.mk (show eqOK _ _ = true from by kernel_rfl) ?_
               | refine Ob.mk (show keyOK _ _ _ = true from by kernel_rfl) ?_
               | refine Val.mk _ (shr_val (by simp; rfl)) ?_
               | refine Ob.mk (Nat.le_of_ble_eq_true rfl) ?_
               | refine JoinVC.on ?_
               | refine Nils.mk (fun h => ?_) ?_
               | refine Val.mk _ (Int.tmod_eq_emod_of_nonneg (by omega)) ?_
               | refine Val.mk _ (Int.tdiv_eq_ediv_of_nonneg (by omega)) ?_
               | refine Mm.mk ?_
               | refine CallVC.pure rfl (hw) ?_
               | refine CallVC0.pure rfl (hw) ?_
               | (refine Br.mk (fun h => ?_) (fun h => ?_) <;> first | (exfalso; omega; done) | (exfalso; simp at h; done) | skip))
      repeat refine Mm.mk ?_
      refine EndVC.mk _ rfl _ _ ⟨rfl, rfl⟩ ?_
      refine ⟨[], rfl, rfl, ?_, ?_⟩ <;> repeat' (first | exact trivial | exact rfl | exact Iff.rfl | apply And.intro)
    · obtain ⟨f1, f2, f3⟩ := hF.some hk
      have f1' : k < g.length := f1
      have hroom : c.thin ≤ 2 * c.half - 2 * far → 2 * c.half + 2 * far ≤ c.wide → x ≠ 1 ∧ x ≠ 2 := fun r1 r2 => by
        obtain ⟨b1, b2⟩ := hed k f1'
        have w1 : 2 * c.half - 2 * far ≤ (g.getD k s0).r - (g.getD k s0).l ∧ (g.getD k s0).r - (g.getD k s0).l ≤ 2 * c.half + 2 * far := by
          unfold amt at b1 b2
          split at b1 <;> split at b2 <;> omega
        constructor
        · intro hx
          have := ruleF_1 (f2.symm.trans hx)
          simp only [brk] at this
          omega
        · intro hx
          have := ruleF_2 (f2.symm.trans hx)
          simp only [brk] at this
          omega
      repeat' (conv => whnf
               first
               | refine Rng.ok (by simp only [inR]; omega) ?_
               | refine Ob.mk (by first | omega | (simp; done) | decide | (simp; omega)) ?_
               | refine Ob.mk (show eqOK _ _ = true from by kernel_rfl) ?_
               | refine Ob.mk (show keyOK _ _ _ = true from by kernel_rfl) ?_
               | refine Val.mk _ (shr_val (by simp; rfl)) ?_
               | refine Ob.mk (Nat.le_of_ble_eq_true rfl) ?_
               | refine JoinVC.on ?_
               | refine Nils.mk (fun h => ?_) ?_
               | refine Val.mk _ (Int.tmod_eq_emod_of_nonneg (by omega)) ?_
               | refine Val.mk _ (Int.tdiv_eq_ediv_of_nonneg (by omega)) ?_
               | refine Mm.mk ?_
               | refine CallVC.pure rfl (hw) ?_
               | refine CallVC0.pure rfl (hw) ?_
               | (refine Br.mk (fun h => ?_) (fun h => ?_) <;> first | (exfalso; omega; done) | (exfalso; simp at h; done) | skip))
      all_goals
        repeat refine Mm.mk ?_
        refine EndVC.mk _ rfl _ _ ⟨rfl, rfl⟩ ?_
        refine ⟨[], rfl, rfl, ?_, ?_⟩ <;> repeat' (first | exact trivial | exact rfl | exact Iff.rfl | apply And.intro)
end Go.Sx

namespace Go.Sx
open Go Go.Proofs
set_option maxRecDepth 10000
/-! ### Rows read as takes, parts, curves, samples -/
theorem wfr_of : ∀ {ks : List CK} {r : List Cell}, r.length = ks.length → (∀ (j : Nat) k c, ks[j]? = some k → r[j]? = some c → Wf k c) → WfR ks r
  | [], [], _, _ => .nil
  | [], _ :: _, h, _ => by simp at h
  | _ :: _, [], h, _ => by simp at h
  | k :: ks, c :: cs, h, hw => .cons (hw 0 k c rfl rfl) (wfr_of (by simpa using h) fun j k' c' h1 h2 => hw (j + 1) k' c' (by simpa using h1) (by simpa using h2))
theorem wf_map {α : Type} {ks : List CK} {row : α → List Cell} {p : α → Prop} (hrow : ∀ r, WfR ks r → ∃ x, r = row x ∧ p x) {a : Arr} (h : Wf (.sl ks) (.sl a)) : ∃ l : List α, a = l.map row ∧ ∀ x ∈ l, p x := by
  cases h with
  | sl hl hr hw =>
    clear hl
    induction a with
    | nil => exact ⟨[], rfl, fun x hx => by simp at hx⟩
    | cons r a ih =>
      obtain ⟨l, rfl, h2⟩ := ih (fun r h => hr r (List.mem_cons_of_mem _ h)) (fun r h => hw r (List.mem_cons_of_mem _ h))
      obtain ⟨x, rfl, h3⟩ := hrow r (wfr_of (hr r (List.mem_cons_self ..)) (hw r (List.mem_cons_self ..)))
      exact ⟨x :: l, rfl, fun y hy => by rcases List.mem_cons.1 hy with rfl | hy; (· exact h3); exact h2 y hy⟩
theorem mem_getD {α : Type} {p : α → Prop} {l : List α} {d : α} (h : ∀ x ∈ l, p x) (hd : p d) (j : Nat) : p (l.getD j d) := by
  rw [List.getD_eq_getElem?_getD]
  cases hx : l[j]? with
  | none => exact hd
  | some x => exact h x (List.mem_of_getElem? hx)
theorem inI_0 : inI 0 := by unfold inI; omega
theorem wf_smps {a : Arr} (h : Wf (.sl KS) (.sl a)) : ∃ l : List Smp, a = smpA l ∧ SmpI l := by
  obtain ⟨l, h1, h2⟩ := wf_map (row := fun s : Smp => [.int s.l, .int s.r]) (p := fun s => inI s.l ∧ inI s.r) (fun r hr => by
    obtain ⟨c0, _, rfl, g0, h1⟩ := hr.inv
    obtain ⟨n0, rfl, i0⟩ := g0.int_inv
    obtain ⟨c1, _, rfl, g1, h2⟩ := h1.inv
    obtain ⟨n1, rfl, i1⟩ := g1.int_inv
    cases h2.nil_inv
    exact ⟨⟨n0, n1⟩, rfl, by simpa [inR, inI] using i0, by simpa [inR, inI] using i1⟩) h
  exact ⟨l, h1, mem_getD h2 ⟨inI_0, inI_0⟩⟩
theorem wf_taks {a : Arr} (h : Wf (.sl KT) (.sl a)) : ∃ T : List Tak, a = takA T ∧ TakI T := by
  obtain ⟨l, h1, h2⟩ := wf_map (row := fun t : Tak => [.str t.nm, .sl (smpA t.d)]) (p := fun t => SmpI t.d) (fun r hr => by
    obtain ⟨c0, _, rfl, g0, h1⟩ := hr.inv
    obtain ⟨n0, rfl, i0⟩ := g0.str_inv
    obtain ⟨c1, _, rfl, g1, h2⟩ := h1.inv
    obtain ⟨a1, rfl, w1⟩ := g1.sl_inv
    obtain ⟨d, rfl, hd⟩ := wf_smps w1
    cases h2.nil_inv
    exact ⟨⟨n0, d⟩, rfl, hd⟩) h
  exact ⟨l, h1, mem_getD h2 (fun j => ⟨inI_0, inI_0⟩)⟩
theorem wf_prts {a : Arr} (h : Wf (.sl K7i) (.sl a)) : ∃ l : List Prt, a = prtA l := by
  obtain ⟨l, h1, _⟩ := wf_map (row := Prt.row) (p := fun _ => True) (fun r hr => by
    obtain ⟨c0, _, rfl, g0, h1⟩ := hr.inv
    obtain ⟨n0, rfl, _⟩ := g0.int_inv
    obtain ⟨c1, _, rfl, g1, h2⟩ := h1.inv
    obtain ⟨n1, rfl, _⟩ := g1.int_inv
    obtain ⟨c2, _, rfl, g2, h3⟩ := h2.inv
    obtain ⟨n2, rfl, _⟩ := g2.int_inv
    obtain ⟨c3, _, rfl, g3, h4⟩ := h3.inv
    obtain ⟨n3, rfl, _⟩ := g3.int_inv
    obtain ⟨c4, _, rfl, g4, h5⟩ := h4.inv
    obtain ⟨n4, rfl, _⟩ := g4.int_inv
    obtain ⟨c5, _, rfl, g5, h6⟩ := h5.inv
    obtain ⟨n5, rfl, _⟩ := g5.int_inv
    obtain ⟨c6, _, rfl, g6, h7⟩ := h6.inv
    obtain ⟨n6, rfl, _⟩ := g6.int_inv
    cases h7.nil_inv
    exact ⟨⟨n0, n1, n2, n3, n4, n5, n6⟩, rfl, trivial⟩) h
  exact ⟨l, h1⟩
theorem wf_crvs {a : Arr} (h : Wf (.sl KC) (.sl a)) : ∃ l : List Crv, a = crvA l := by
  obtain ⟨l, h1, _⟩ := wf_map (row := Crv.row) (p := fun _ => True) (fun r hr => by
    obtain ⟨c0, _, rfl, g0, h1⟩ := hr.inv
    obtain ⟨a0, rfl, w0⟩ := g0.sl_inv
    obtain ⟨f, rfl, _⟩ := wf_ints w0
    obtain ⟨c1, _, rfl, g1, h2⟩ := h1.inv
    obtain ⟨a1, rfl, w1⟩ := g1.sl_inv
    obtain ⟨b, rfl, _⟩ := wf_ints w1
    obtain ⟨c2, _, rfl, g2, h3⟩ := h2.inv
    obtain ⟨n2, rfl, _⟩ := g2.int_inv
    cases h3.nil_inv
    exact ⟨⟨f, b, n2⟩, rfl, trivial⟩) h
  exact ⟨l, h1⟩
end Go.Sx
