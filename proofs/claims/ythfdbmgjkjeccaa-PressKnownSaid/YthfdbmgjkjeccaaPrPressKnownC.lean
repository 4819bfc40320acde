import Derived.Test.YthfdbmgjkjeccaaPrPressKnownB
namespace Go.Sx
open Go Go.Proofs
set_option maxRecDepth 10000
set_option maxHeartbeats 8000000
theorem s17 : PSpec Try.prog 17 [] (xP True) := by
  have v1 : exMac.tickV 30 2 = 20 := by rw [Mac.tickV, if_pos exMac_chk]; decide
  have v2 : exMac.tickE 30 2 = 0 := by rw [Mac.tickE, if_pos exMac_chk]; decide
  have v3 : exMac.tickV 22 0 = 20 := by rw [Mac.tickV, if_pos exMac_chk]; decide
  have v4 : exMac.tickE 22 0 = 0 := by rw [Mac.tickE, if_pos exMac_chk]; decide
  have c1 := s18 exMac 30 2
  have c2 := s18 exMac 22 0
  rw [v1, v2] at c1
  rw [v3, v4] at c2
  refine spec_of pMix (O := []) Try.func17 (c := bodyOf Try.f17) rfl (by kernel_rfl) (by kernel_rfl) Try.ntmps17 (res := [.tmp 0]) (by kernel_rfl) ?_
  repeat' (conv => whnf
           first
           | refine Rng.ok (by simp only [inR]; omega) ?_
           | refine Ob.mk (by first | omega | (simp; done) | decide | (simp; omega)) ?_
           | refine Ob.mk (show eqOK _ _ = true from by kernel_rfl) ?_
           | refine Ob.mk (show keyOK _ _ _ = true from by kernel_rfl) ?_
           | refine Val.mk _ (shr_val (by simp; rfl)) ?_
           | refine Ob.mk (Nat.le_of_ble_eq_true rfl) ?_
           | refine JoinVC.on ?_
           | refine Nils.mk (fun h => ?_) ?_
           | refine Val.mk _ (Int.tmod_eq_emod_of_nonneg (by omega)) ?_
           | refine Val.mk _ (Int.tdiv_eq_ediv_of_nonneg (by omega)) ?_
           | refine Mm.mk ?_
           | refine CallVC.pure rfl (s55) ?_
           | refine CallVC.pure rfl (c1) ?_
           | refine CallVC.pure rfl (c2) ?_
           | refine CallVC0.pure rfl (s55) ?_
           | refine CallVC0.pure rfl (c1) ?_
           | refine CallVC0.pure rfl (c2) ?_
           | (refine Br.mk (fun h => ?_) (fun h => ?_) <;> first | (exfalso; omega; done) | (exfalso; simp at h; done) | skip))
  conv => whnf
  refine CallVC.mk [] _ _ _ rfl rfl rfl (s28 exMac 20 exMac_ok (by decide)) (fun r m' h' => ?_)
  obtain ⟨w, hB, hwl, rfl, rfl⟩ := h'
  conv => whnf
  have hw := hB.det way0_best
  subst hw
  repeat' (conv => whnf
           first
           | refine Rng.ok (by simp only [inR]; omega) ?_
           | refine Ob.mk (by first | omega | (simp; done) | decide | (simp; omega)) ?_
           | refine Ob.mk (show eqOK _ _ = true from by kernel_rfl) ?_
           | refine Ob.mk (show keyOK _ _ _ = true from by kernel_rfl) ?_
           | refine Val.mk _ (shr_val (by simp; rfl)) ?_
           | refine Ob.mk (Nat.le_of_ble_eq_true rfl) ?_
           | refine JoinVC.on ?_
           | refine Nils.mk (fun h => ?_) ?_
           | refine Val.mk _ (Int.tmod_eq_emod_of_nonneg (by omega)) ?_
           | refine Val.mk _ (Int.tdiv_eq_ediv_of_nonneg (by omega)) ?_
           | refine Mm.mk ?_
           | refine CallVC.pure rfl (s30 way0 (by decide)) ?_
           | refine CallVC0.pure rfl (s30 way0 (by decide)) ?_
           | (refine Br.mk (fun h => ?_) (fun h => ?_) <;> first | (exfalso; omega; done) | (exfalso; simp at h; done) | skip))
  conv => whnf
  refine CallVC.mk [] _ _ _ rfl rfl rfl (s39 exMac) (fun r m' h' => ?_)
  obtain ⟨hm', rfl, rfl⟩ | ⟨_, rfl, rfl⟩ := h'
  · exact absurd exMac_ok hm'
  repeat' (conv => whnf
           first
           | refine Rng.ok (by simp only [inR]; omega) ?_
           | refine Ob.mk (by first | omega | (simp; done) | decide | (simp; omega)) ?_
           | refine Ob.mk (show eqOK _ _ = true from by kernel_rfl) ?_
           | refine Ob.mk (show keyOK _ _ _ = true from by kernel_rfl) ?_
           | refine Val.mk _ (shr_val (by simp; rfl)) ?_
           | refine Ob.mk (Nat.le_of_ble_eq_true rfl) ?_
           | refine JoinVC.on ?_
           | refine Nils.mk (fun h => ?_) ?_
           | refine Val.mk _ (Int.tmod_eq_emod_of_nonneg (by omega)) ?_
           | refine Val.mk _ (Int.tdiv_eq_ediv_of_nonneg (by omega)) ?_
           | refine Mm.mk ?_
           | (refine Br.mk (fun h => ?_) (fun h => ?_) <;> first | (exfalso; omega; done) | (exfalso; simp at h; done) | skip))
  conv => whnf
  refine CallVC.mk [3, 4, 5, 6] _ _ _ rfl rfl rfl (doOK (p := ⟨false, false, 0, 20, 0, 0, 0, 0, 0⟩) (L := []) (l := []) (fun k => rfl) k41 1 7 8 ⟨false, false, 0, 20, 0, 0, 0, 7, 8⟩ [] d0 (by kernel_rfl) (by kernel_rfl) (by kernel_rfl) (by kernel_rfl)) (fun r m' h' => ?_)
  obtain ⟨l1, u1, i1, rfl, rfl⟩ := h'
  conv => whnf
  repeat' (conv => whnf
           first
           | refine Rng.ok (by simp only [inR]; omega) ?_
           | refine Ob.mk (by first | omega | (simp; done) | decide | (simp; omega)) ?_
           | refine Ob.mk (show eqOK _ _ = true from by kernel_rfl) ?_
           | refine Ob.mk (show keyOK _ _ _ = true from by kernel_rfl) ?_
           | refine Val.mk _ (shr_val (by simp; rfl)) ?_
           | refine Ob.mk (Nat.le_of_ble_eq_true rfl) ?_
           | refine JoinVC.on ?_
           | refine Nils.mk (fun h => ?_) ?_
           | refine Val.mk _ (Int.tmod_eq_emod_of_nonneg (by omega)) ?_
           | refine Val.mk _ (Int.tdiv_eq_ediv_of_nonneg (by omega)) ?_
           | refine Mm.mk ?_
           | (refine Br.mk (fun h => ?_) (fun h => ?_) <;> first | (exfalso; omega; done) | (exfalso; simp at h; done) | skip))
  conv => whnf
  refine CallVC.mk [3, 7, 8, 9] _ _ _ rfl rfl rfl (doOK (p := ⟨false, false, 0, 20, 0, 0, 0, 7, 8⟩) (L := []) (l := l1) u1 i1 2 0 0 ⟨false, true, 0, 20, 0, 0, 0, 7, 8⟩ [] d0 (by kernel_rfl) (by kernel_rfl) (by kernel_rfl) (by kernel_rfl)) (fun r m' h' => ?_)
  obtain ⟨l2, u2, i2, rfl, rfl⟩ := h'
  conv => whnf
  repeat' (conv => whnf
           first
           | refine Rng.ok (by simp only [inR]; omega) ?_
           | refine Ob.mk (by first | omega | (simp; done) | decide | (simp; omega)) ?_
           | refine Ob.mk (show eqOK _ _ = true from by kernel_rfl) ?_
           | refine Ob.mk (show keyOK _ _ _ = true from by kernel_rfl) ?_
           | refine Val.mk _ (shr_val (by simp; rfl)) ?_
           | refine Ob.mk (Nat.le_of_ble_eq_true rfl) ?_
           | refine JoinVC.on ?_
           | refine Nils.mk (fun h => ?_) ?_
           | refine Val.mk _ (Int.tmod_eq_emod_of_nonneg (by omega)) ?_
           | refine Val.mk _ (Int.tdiv_eq_ediv_of_nonneg (by omega)) ?_
           | refine Mm.mk ?_
           | (refine Br.mk (fun h => ?_) (fun h => ?_) <;> first | (exfalso; omega; done) | (exfalso; simp at h; done) | skip))
  conv => whnf
  refine CallVC.mk [3, 10, 11, 12] _ _ _ rfl rfl rfl (doErr (p := ⟨false, true, 0, 20, 0, 0, 0, 7, 8⟩) (L := []) (l := l2) u2 i2 4 1 0 18 (by kernel_rfl) (by decide)) (fun r m' h' => ?_)
  obtain ⟨rfl, rfl⟩ := h'
  conv => whnf
  repeat' (conv => whnf
           first
           | refine Rng.ok (by simp only [inR]; omega) ?_
           | refine Ob.mk (by first | omega | (simp; done) | decide | (simp; omega)) ?_
           | refine Ob.mk (show eqOK _ _ = true from by kernel_rfl) ?_
           | refine Ob.mk (show keyOK _ _ _ = true from by kernel_rfl) ?_
           | refine Val.mk _ (shr_val (by simp; rfl)) ?_
           | refine Ob.mk (Nat.le_of_ble_eq_true rfl) ?_
           | refine JoinVC.on ?_
           | refine Nils.mk (fun h => ?_) ?_
           | refine Val.mk _ (Int.tmod_eq_emod_of_nonneg (by omega)) ?_
           | refine Val.mk _ (Int.tdiv_eq_ediv_of_nonneg (by omega)) ?_
           | refine Mm.mk ?_
           | (refine Br.mk (fun h => ?_) (fun h => ?_) <;> first | (exfalso; omega; done) | (exfalso; simp at h; done) | skip))
  conv => whnf
  refine CallVC.mk [3, 10, 11, 12] _ _ _ rfl rfl rfl (doOK (p := ⟨false, true, 0, 20, 0, 0, 0, 7, 8⟩) (L := []) (l := l2) u2 i2 3 0 0 ⟨true, true, 0, 20, 0, 20, 0, 7, 8⟩ [] d0 (by kernel_rfl) (by kernel_rfl) (by kernel_rfl) (by kernel_rfl)) (fun r m' h' => ?_)
  obtain ⟨l3, u3, i3, rfl, rfl⟩ := h'
  conv => whnf
  repeat' (conv => whnf
           first
           | refine Rng.ok (by simp only [inR]; omega) ?_
           | refine Ob.mk (by first | omega | (simp; done) | decide | (simp; omega)) ?_
           | refine Ob.mk (show eqOK _ _ = true from by kernel_rfl) ?_
           | refine Ob.mk (show keyOK _ _ _ = true from by kernel_rfl) ?_
           | refine Val.mk _ (shr_val (by simp; rfl)) ?_
           | refine Ob.mk (Nat.le_of_ble_eq_true rfl) ?_
           | refine JoinVC.on ?_
           | refine Nils.mk (fun h => ?_) ?_
           | refine Val.mk _ (Int.tmod_eq_emod_of_nonneg (by omega)) ?_
           | refine Val.mk _ (Int.tdiv_eq_ediv_of_nonneg (by omega)) ?_
           | refine Mm.mk ?_
           | (refine Br.mk (fun h => ?_) (fun h => ?_) <;> first | (exfalso; omega; done) | (exfalso; simp at h; done) | skip))
  conv => whnf
  refine CallVC.mk [3, 13, 14, 15] _ _ _ rfl rfl rfl (doOK (p := ⟨true, true, 0, 20, 0, 20, 0, 7, 8⟩) (L := []) (l := l3) u3 i3 4 1 0 ⟨true, true, 1, 20, 0, 20, 0, 7, 8⟩ [] d0 (by kernel_rfl) (by kernel_rfl) (by kernel_rfl) (by kernel_rfl)) (fun r m' h' => ?_)
  obtain ⟨l4, u4, i4, rfl, rfl⟩ := h'
  conv => whnf
  repeat' (conv => whnf
           first
           | refine Rng.ok (by simp only [inR]; omega) ?_
           | refine Ob.mk (by first | omega | (simp; done) | decide | (simp; omega)) ?_
           | refine Ob.mk (show eqOK _ _ = true from by kernel_rfl) ?_
           | refine Ob.mk (show keyOK _ _ _ = true from by kernel_rfl) ?_
           | refine Val.mk _ (shr_val (by simp; rfl)) ?_
           | refine Ob.mk (Nat.le_of_ble_eq_true rfl) ?_
           | refine JoinVC.on ?_
           | refine Nils.mk (fun h => ?_) ?_
           | refine Val.mk _ (Int.tmod_eq_emod_of_nonneg (by omega)) ?_
           | refine Val.mk _ (Int.tdiv_eq_ediv_of_nonneg (by omega)) ?_
           | refine Mm.mk ?_
           | (refine Br.mk (fun h => ?_) (fun h => ?_) <;> first | (exfalso; omega; done) | (exfalso; simp at h; done) | skip))
  conv => whnf
  refine CallVC.mk [3, 17, 18, 19] _ _ _ rfl rfl rfl (doOK (p := ⟨true, true, 1, 20, 0, 20, 0, 7, 8⟩) (L := []) (l := l4) u4 i4 5 4 0 ⟨true, true, 1, 140, 1, 140, 4, 7, 8⟩ [] d0 (by kernel_rfl) (by kernel_rfl) (by kernel_rfl) (by kernel_rfl)) (fun r m' h' => ?_)
  obtain ⟨l5, u5, i5, rfl, rfl⟩ := h'
  conv => whnf
  repeat' (conv => whnf
           first
           | refine Rng.ok (by simp only [inR]; omega) ?_
           | refine Ob.mk (by first | omega | (simp; done) | decide | (simp; omega)) ?_
           | refine Ob.mk (show eqOK _ _ = true from by kernel_rfl) ?_
           | refine Ob.mk (show keyOK _ _ _ = true from by kernel_rfl) ?_
           | refine Val.mk _ (shr_val (by simp; rfl)) ?_
           | refine Ob.mk (Nat.le_of_ble_eq_true rfl) ?_
           | refine JoinVC.on ?_
           | refine Nils.mk (fun h => ?_) ?_
           | refine Val.mk _ (Int.tmod_eq_emod_of_nonneg (by omega)) ?_
           | refine Val.mk _ (Int.tdiv_eq_ediv_of_nonneg (by omega)) ?_
           | refine Mm.mk ?_
           | (refine Br.mk (fun h => ?_) (fun h => ?_) <;> first | (exfalso; omega; done) | (exfalso; simp at h; done) | skip))
  conv => whnf
  refine CallVC.mk [3, 20, 21, 22] _ _ _ rfl rfl rfl (doErr (p := ⟨true, true, 1, 140, 1, 140, 4, 7, 8⟩) (L := []) (l := l5) u5 i5 6 0 0 18 (by kernel_rfl) (by decide)) (fun r m' h' => ?_)
  obtain ⟨rfl, rfl⟩ := h'
  conv => whnf
  repeat' (conv => whnf
           first
           | refine Rng.ok (by simp only [inR]; omega) ?_
           | refine Ob.mk (by first | omega | (simp; done) | decide | (simp; omega)) ?_
           | refine Ob.mk (show eqOK _ _ = true from by kernel_rfl) ?_
           | refine Ob.mk (show keyOK _ _ _ = true from by kernel_rfl) ?_
           | refine Val.mk _ (shr_val (by simp; rfl)) ?_
           | refine Ob.mk (Nat.le_of_ble_eq_true rfl) ?_
           | refine JoinVC.on ?_
           | refine Nils.mk (fun h => ?_) ?_
           | refine Val.mk _ (Int.tmod_eq_emod_of_nonneg (by omega)) ?_
           | refine Val.mk _ (Int.tdiv_eq_ediv_of_nonneg (by omega)) ?_
           | refine Mm.mk ?_
           | (refine Br.mk (fun h => ?_) (fun h => ?_) <;> first | (exfalso; omega; done) | (exfalso; simp at h; done) | skip))
  conv => whnf
  refine CallVC.mk [3, 20, 21, 22] _ _ _ rfl rfl rfl (s42 exMac ⟨true, true, 1, 140, 1, 140, 4, 7, 8⟩ [] l5) (fun r m' h' => ?_)
  obtain ⟨rfl, rfl⟩ := h'
  conv => whnf
  repeat' (conv => whnf
           first
           | refine Rng.ok (by simp only [inR]; omega) ?_
           | refine Ob.mk (by first | omega | (simp; done) | decide | (simp; omega)) ?_
           | refine Ob.mk (show eqOK _ _ = true from by kernel_rfl) ?_
           | refine Ob.mk (show keyOK _ _ _ = true from by kernel_rfl) ?_
           | refine Val.mk _ (shr_val (by simp; rfl)) ?_
           | refine Ob.mk (Nat.le_of_ble_eq_true rfl) ?_
           | refine JoinVC.on ?_
           | refine Nils.mk (fun h => ?_) ?_
           | refine Val.mk _ (Int.tmod_eq_emod_of_nonneg (by omega)) ?_
           | refine Val.mk _ (Int.tdiv_eq_ediv_of_nonneg (by omega)) ?_
           | refine Mm.mk ?_
           | (refine Br.mk (fun h => ?_) (fun h => ?_) <;> first | (exfalso; omega; done) | (exfalso; simp at h; done) | skip))
  conv => whnf
  refine CallVC.mk [3, 20, 21, 22] _ _ _ rfl rfl rfl (doOK (p := ⟨true, true, 1, 140, 1, 140, 4, 7, 8⟩) (L := []) (l := l5) u5 i5 4 0 0 ⟨true, true, 0, 140, 1, 140, 4, 7, 8⟩ [] d0 (by kernel_rfl) (by kernel_rfl) (by kernel_rfl) (by kernel_rfl)) (fun r m' h' => ?_)
  obtain ⟨l6, u6, i6, rfl, rfl⟩ := h'
  conv => whnf
  repeat' (conv => whnf
           first
           | refine Rng.ok (by simp only [inR]; omega) ?_
           | refine Ob.mk (by first | omega | (simp; done) | decide | (simp; omega)) ?_
           | refine Ob.mk (show eqOK _ _ = true from by kernel_rfl) ?_
           | refine Ob.mk (show keyOK _ _ _ = true from by kernel_rfl) ?_
           | refine Val.mk _ (shr_val (by simp; rfl)) ?_
           | refine Ob.mk (Nat.le_of_ble_eq_true rfl) ?_
           | refine JoinVC.on ?_
           | refine Nils.mk (fun h => ?_) ?_
           | refine Val.mk _ (Int.tmod_eq_emod_of_nonneg (by omega)) ?_
           | refine Val.mk _ (Int.tdiv_eq_ediv_of_nonneg (by omega)) ?_
           | refine Mm.mk ?_
           | (refine Br.mk (fun h => ?_) (fun h => ?_) <;> first | (exfalso; omega; done) | (exfalso; simp at h; done) | skip))
  conv => whnf
  refine CallVC.mk [3, 24, 25, 26] _ _ _ rfl rfl rfl (doOK (p := ⟨true, true, 0, 140, 1, 140, 4, 7, 8⟩) (L := []) (l := l6) u6 i6 5 4 0 ⟨true, true, 0, 120, 5, 140, 8, 7, 8⟩ [] d0 (by kernel_rfl) (by kernel_rfl) (by kernel_rfl) (by kernel_rfl)) (fun r m' h' => ?_)
  obtain ⟨l7, u7, i7, rfl, rfl⟩ := h'
  conv => whnf
  repeat' (conv => whnf
           first
           | refine Rng.ok (by simp only [inR]; omega) ?_
           | refine Ob.mk (by first | omega | (simp; done) | decide | (simp; omega)) ?_
           | refine Ob.mk (show eqOK _ _ = true from by kernel_rfl) ?_
           | refine Ob.mk (show keyOK _ _ _ = true from by kernel_rfl) ?_
           | refine Val.mk _ (shr_val (by simp; rfl)) ?_
           | refine Ob.mk (Nat.le_of_ble_eq_true rfl) ?_
           | refine JoinVC.on ?_
           | refine Nils.mk (fun h => ?_) ?_
           | refine Val.mk _ (Int.tmod_eq_emod_of_nonneg (by omega)) ?_
           | refine Val.mk _ (Int.tdiv_eq_ediv_of_nonneg (by omega)) ?_
           | refine Mm.mk ?_
           | (refine Br.mk (fun h => ?_) (fun h => ?_) <;> first | (exfalso; omega; done) | (exfalso; simp at h; done) | skip))
  conv => whnf
  refine CallVC.mk [3, 27, 28, 29] _ _ _ rfl rfl rfl (doOK (p := ⟨true, true, 0, 120, 5, 140, 8, 7, 8⟩) (L := []) (l := l7) u7 i7 4 2 0 ⟨true, true, 2, 120, 5, 140, 8, 7, 8⟩ [] d0 (by kernel_rfl) (by kernel_rfl) (by kernel_rfl) (by kernel_rfl)) (fun r m' h' => ?_)
  obtain ⟨l8, u8, i8, rfl, rfl⟩ := h'
  conv => whnf
  repeat' (conv => whnf
           first
           | refine Rng.ok (by simp only [inR]; omega) ?_
           | refine Ob.mk (by first | omega | (simp; done) | decide | (simp; omega)) ?_
           | refine Ob.mk (show eqOK _ _ = true from by kernel_rfl) ?_
           | refine Ob.mk (show keyOK _ _ _ = true from by kernel_rfl) ?_
           | refine Val.mk _ (shr_val (by simp; rfl)) ?_
           | refine Ob.mk (Nat.le_of_ble_eq_true rfl) ?_
           | refine JoinVC.on ?_
           | refine Nils.mk (fun h => ?_) ?_
           | refine Val.mk _ (Int.tmod_eq_emod_of_nonneg (by omega)) ?_
           | refine Val.mk _ (Int.tdiv_eq_ediv_of_nonneg (by omega)) ?_
           | refine Mm.mk ?_
           | (refine Br.mk (fun h => ?_) (fun h => ?_) <;> first | (exfalso; omega; done) | (exfalso; simp at h; done) | skip))
  conv => whnf
  refine CallVC.mk [3, 30, 31, 32] _ _ _ rfl rfl rfl (doOK (p := ⟨true, true, 2, 120, 5, 140, 8, 7, 8⟩) (L := []) (l := l8) u8 i8 5 3 0 ⟨true, true, 2, 45, 5, 140, 11, 7, 8⟩ [] d0 (by kernel_rfl) (by kernel_rfl) (by kernel_rfl) (by kernel_rfl)) (fun r m' h' => ?_)
  obtain ⟨l9, u9, i9, rfl, rfl⟩ := h'
  conv => whnf
  repeat' (conv => whnf
           first
           | refine Rng.ok (by simp only [inR]; omega) ?_
           | refine Ob.mk (by first | omega | (simp; done) | decide | (simp; omega)) ?_
           | refine Ob.mk (show eqOK _ _ = true from by kernel_rfl) ?_
           | refine Ob.mk (show keyOK _ _ _ = true from by kernel_rfl) ?_
           | refine Val.mk _ (shr_val (by simp; rfl)) ?_
           | refine Ob.mk (Nat.le_of_ble_eq_true rfl) ?_
           | refine JoinVC.on ?_
           | refine Nils.mk (fun h => ?_) ?_
           | refine Val.mk _ (Int.tmod_eq_emod_of_nonneg (by omega)) ?_
           | refine Val.mk _ (Int.tdiv_eq_ediv_of_nonneg (by omega)) ?_
           | refine Mm.mk ?_
           | (refine Br.mk (fun h => ?_) (fun h => ?_) <;> first | (exfalso; omega; done) | (exfalso; simp at h; done) | skip))
  conv => whnf
  refine CallVC.mk [3, 33, 34, 35] _ _ _ rfl rfl rfl (doOK (p := ⟨true, true, 2, 45, 5, 140, 11, 7, 8⟩) (L := []) (l := l9) u9 i9 6 0 0 ⟨false, false, 2, 45, 5, 140, 11, 7, 8⟩ [⟨1, 7, 8, 11, 5, 140, true⟩] ⟨1, 7, 8, 11, 5, 140, true⟩ (by kernel_rfl) (by kernel_rfl) (by kernel_rfl) (by kernel_rfl)) (fun r m' h' => ?_)
  obtain ⟨l10, u10, i10, rfl, rfl⟩ := h'
  conv => whnf
  have q1 : ckI 2 1 3 4 [0, 2] = 1 ∧ ckE 2 1 3 4 [0, 2] = 20 := by constructor <;> kernel_rfl
  have q2 : ckI 2 1 3 4 [0, 3, 6] = 2 ∧ ckE 2 1 3 4 [0, 3, 6] = 20 := by constructor <;> kernel_rfl
  have b1 := s25 2 1 3 4 [0, 2] (fun j => by match j with | 0 => decide | 1 => decide | j + 2 => simp)
  have b2 := s25 2 1 3 4 [0, 3, 6] (fun j => by match j with | 0 => decide | 1 => decide | 2 => decide | j + 3 => simp)
  rw [q1.1, q1.2] at b1
  rw [q2.1, q2.2] at b2
  have b3 := s37 [5, 3] [2, 9] 7 (by decide) (by decide)
  rw [kMounts.1, kMounts.2] at b3
  have q4 : cenE ⟨3, 0⟩ ⟨0, 1⟩ ⟨0, -1⟩ 1 = 0 ∧ ¬ cenB ⟨3, 0⟩ ⟨0, 1⟩ ⟨0, -1⟩ 1 := by constructor <;> decide
  have q5 : cenE ⟨3, 0⟩ ⟨0, 1⟩ ⟨0, -1⟩ 2 = 0 ∧ cenB ⟨3, 0⟩ ⟨0, 1⟩ ⟨0, -1⟩ 2 := by constructor <;> decide
  have b4 := s33 ⟨3, 0⟩ ⟨0, 1⟩ ⟨0, -1⟩ 1
  have b5 := s33 ⟨3, 0⟩ ⟨0, 1⟩ ⟨0, -1⟩ 2
  rw [q4.1] at b4
  rw [q5.1] at b5
  have q4' := q4.2
  have q5' := q5.2
  repeat' (conv => whnf
           first
           | refine Rng.ok (by simp only [inR]; omega) ?_
           | refine Ob.mk (by first | omega | (simp; done) | decide | (simp; omega)) ?_
           | refine Ob.mk (show eqOK _ _ = true from by kernel_rfl) ?_
           | refine Ob.mk (show keyOK _ _ _ = true from by kernel_rfl) ?_
           | refine Val.mk _ (shr_val (by simp; rfl)) ?_
           | refine Ob.mk (Nat.le_of_ble_eq_true rfl) ?_
           | refine JoinVC.on ?_
           | refine Nils.mk (fun h => ?_) ?_
           | refine Val.mk _ (Int.tmod_eq_emod_of_nonneg (by omega)) ?_
           | refine Val.mk _ (Int.tdiv_eq_ediv_of_nonneg (by omega)) ?_
           | refine Mm.mk ?_
           | refine CallVC.pure rfl (b1) ?_
           | refine CallVC.pure rfl (b2) ?_
           | refine CallVC.pure rfl (b3) ?_
           | refine CallVC.pure rfl (b4) ?_
           | refine CallVC.pure rfl (b5) ?_
           | refine CallVC.pure rfl (s22) ?_
           | refine CallVC0.pure rfl (b1) ?_
           | refine CallVC0.pure rfl (b2) ?_
           | refine CallVC0.pure rfl (b3) ?_
           | refine CallVC0.pure rfl (b4) ?_
           | refine CallVC0.pure rfl (b5) ?_
           | refine CallVC0.pure rfl (s22) ?_
           | (refine Br.mk (fun h => ?_) (fun h => ?_) <;> first | (exfalso; omega; done) | (exfalso; simp at h; done) | (exfalso; simp [q4', q5'] at h; done) | (exfalso; simp [mts, rI, cellAt, Cell.toInt] at h; done) | skip))
  all_goals
    repeat refine Mm.mk ?_
    refine EndVC.mk _ rfl _ _ ⟨rfl, rfl⟩ ?_
    refine ⟨[], rfl, rfl, ?_, ?_⟩ <;> repeat' (first | exact trivial | exact rfl | exact Iff.rfl | apply And.intro)
end Go.Sx
