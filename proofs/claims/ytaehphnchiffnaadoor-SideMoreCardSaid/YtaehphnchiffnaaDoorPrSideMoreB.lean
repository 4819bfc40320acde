import Derived.Test.YtaehphnchiffnaaDoorPrSideMoreA
import Derived.Test.YtaehphnchiffnaaDoorXc
namespace Go.Sx
open Go Go.Proofs
set_option maxRecDepth 10000
set_option maxHeartbeats 8000000
theorem e69 : EntersF Tryd.prog 69 := enters_of Tryd.func69 (c := bodyOf Tryd.f69) (by kernel_rfl) rfl
theorem upd0 (n : Nat) : updRow (i64s (List.replicate (n + 1) (-1))) (Int.toNat 0) 0 [Cell.int 0] = i64s ((List.replicate (n + 1) (-1)).set 0 0) := i64s_upd' _ 0 0 (by simp)
noncomputable def rf33 : Code := cB (cS (cS (cS (cB (cF (cS (cS (cL (cB (cS (cF (cS (cS (cS (cS (cS (bodyOf Tryd.f23)))))))))))))))))
theorem s53 (F : List Fmt) (l : List Sng) (n : Int) (i : Int) : HSpec Tryd.prog 54 [.one (.ptr 0 0), I i] [bAlb F l n] (fun r m' => r = .x (.one (.fn 69 [(1, 0), (2, 0)])) ∧ m' = [some (bAlb F l n), some (.box 82 [.ptr 0 0]), some (.box 3 [.int .i64 i])]) := by
  refine spec_of pMix (O := []) Tryd.func54 (c := bodyOf Tryd.f54) rfl (by kernel_rfl) (by kernel_rfl) Tryd.ntmps54 (res := [.tmp 4]) (by kernel_rfl) ?_
  repeat' ((conv => whnf); first | refine Rng.g ?_ | refine Ob.g ?_ | refine Ob.e ?_ | refine Ob.m ?_ | refine Ob.mk (Nat.le_of_ble_eq_true rfl) ?_ | refine JoinVC.on ?_ | refine Nils.mk (fun h => ?_) ?_ | refine Val.t ?_ | refine Val.d ?_ | refine Mm.mk ?_ | (refine Br.mk (fun h => ?_) (fun h => ?_) <;> first | (exfalso; omega; done) | (exfalso; simp at h; done) | skip))
  repeat refine Mm.mk ?_
  conv => whnf
  refine EndVC.mk _ rfl _ _ (⟨rfl, rfl⟩) ?_
  refine ⟨[some 0, some 1, some 2], rfl, rfl, ?_, ?_⟩ <;> repeat' (first | exact trivial | exact rfl | exact Iff.rfl | apply And.intro)
theorem s33 (F : List Fmt) (l : List Sng) (hI : ∀ i, (F.getD i f0).nm.size ≤ 9223372036854775807) : HSpec Tryd.prog 23 [lFmt F, lSng l] [] (fun r m' => (fmsE F l ≠ 0 ∧ r = .tup [.one .nils, I (fmsE F l)] ∧ m' = []) ∨ (AlbOK F l ∧ ∃ p, PrcOK F l (Reach F l) p ∧ r = .tup [.one (.own 0), I 0] ∧ m' = [some (rowPr p)])) := by
  have ll := sngA_len l
  refine spec_of pMix (O := []) Tryd.func23 (c := bodyOf Tryd.f23) rfl (by kernel_rfl) (by kernel_rfl) Tryd.ntmps23 (res := [.tmp 4, .tmp 5]) (by kernel_rfl) ?_
  repeat' ((conv => whnf); first | refine Rng.g ?_ | refine Ob.g ?_ | refine Ob.e ?_ | refine Ob.m ?_ | refine Ob.mk (Nat.le_of_ble_eq_true rfl) ?_ | refine JoinVC.on ?_ | refine Nils.mk (fun h => ?_) ?_ | refine Val.t ?_ | refine Val.d ?_ | refine Mm.mk ?_ | (refine Br.mk (fun h => ?_) (fun h => ?_) <;> first | (exfalso; omega; done) | (exfalso; simp at h; done) | skip))
  conv => whnf
  refine CallVC.mk [] _ _ _ rfl rfl rfl (s49 F l hI) (fun r m' h' => ?_)
  rcases h' with ⟨he, rfl, rfl⟩ | ⟨he, rfl, rfl⟩ | ⟨hA, rfl, rfl⟩
  · repeat' ((conv => whnf); first | refine Rng.g ?_ | refine Ob.g ?_ | refine Ob.e ?_ | refine Ob.m ?_ | refine Ob.mk (Nat.le_of_ble_eq_true rfl) ?_ | refine JoinVC.on ?_ | refine Nils.mk (fun h => ?_) ?_ | refine Val.t ?_ | refine Val.d ?_ | refine Mm.mk ?_ | (refine Br.mk (fun h => ?_) (fun h => ?_) <;> first | (exfalso; omega; done) | (exfalso; simp at h; done) | skip))
    repeat refine Mm.mk ?_
    conv => whnf
    refine EndVC.mk _ rfl _ _ (.inl ⟨he, rfl, rfl⟩) ?_
    refine ⟨[], rfl, rfl, ?_, ?_⟩ <;> repeat' (first | exact trivial | exact rfl | exact Iff.rfl | apply And.intro)
  · repeat' ((conv => whnf); first | refine Rng.g ?_ | refine Ob.g ?_ | refine Ob.e ?_ | refine Ob.m ?_ | refine Ob.mk (Nat.le_of_ble_eq_true rfl) ?_ | refine JoinVC.on ?_ | refine Nils.mk (fun h => ?_) ?_ | refine Val.t ?_ | refine Val.d ?_ | refine Mm.mk ?_ | (refine Br.mk (fun h => ?_) (fun h => ?_) <;> first | (exfalso; omega; done) | (exfalso; simp at h; done) | skip))
    repeat refine Mm.mk ?_
    conv => whnf
    refine EndVC.mk _ rfl _ _ (.inl ⟨he, rfl, rfl⟩) ?_
    refine ⟨[], rfl, rfl, ?_, ?_⟩ <;> repeat' (first | exact trivial | exact rfl | exact Iff.rfl | apply And.intro)
  have h24 := hA.sngs.len
  have e1 : ((l.length + 1 : Nat) : Int) = (l.length : Int) + 1 := by omega
  have c66 := s66 (l.length + 1) (by omega)
  rw [e1] at c66
  have lr : (i64s (List.replicate (l.length + 1) (-1))).length = l.length + 1 := by rw [i64s_len, List.length_replicate]
  repeat' ((conv => whnf); first | rw [ll] | refine Rng.g ?_ | refine Ob.g ?_ | refine Ob.e ?_ | refine Ob.m ?_ | refine Ob.mk (Nat.le_of_ble_eq_true rfl) ?_ | refine JoinVC.on ?_ | refine Nils.mk (fun h => ?_) ?_ | refine Val.t ?_ | refine Val.d ?_ | refine Mm.mk ?_ | (refine Br.mk (fun h => ?_) (fun h => ?_) <;> first | (exfalso; omega; done) | (exfalso; simp at h; done) | skip))
  conv => whnf
  refine CallVC.mk [] _ _ _ rfl rfl rfl (c66) (fun r m' h' => ?_)
  obtain ⟨rfl, rfl⟩ := h'
  conv => whnf
  repeat' ((conv => whnf); first | refine Rng.g ?_ | refine Ob.g ?_ | refine Ob.e ?_ | refine Ob.m ?_ | refine Ob.mk (Nat.le_of_ble_eq_true rfl) ?_ | refine JoinVC.on ?_ | refine Nils.mk (fun h => ?_) ?_ | refine Val.t ?_ | refine Val.d ?_ | refine Mm.mk ?_ | (refine Br.mk (fun h => ?_) (fun h => ?_) <;> first | (exfalso; omega; done) | (exfalso; simp at h; done) | skip))
  refine LoopVC.mk (fun m st => ∃ (i : Nat) (p : List Int), i ≤ l.length ∧ m = l.length - i ∧ PrcOK F l (Cand F l i) p ∧ st = ⟨0, envA 83 [(6, .x (.one (.ptr 1 0))), (8, .x (.one (.ptr 3 0))), (30, .int .i64 (l.length : Int)), (31, .int .i64 (i : Int))], [some (bAlb F l (l.length : Int)), some (.box 82 [.ptr 0 0]), some (rowPr p), some (.box 38 [.own 2])]⟩) _ _ ⟨0, _, Nat.zero_le _, rfl, prc_start, rfl⟩ ?_ ?_
  · rw [upd0]
    refine ⟨[some 0, some 1, some 3, some 4], rfl, rfl, ?_, ?_⟩ <;> repeat' (first | exact trivial | exact rfl | exact Iff.rfl | apply And.intro)
    exact congrArg Int.ofNat ll
  rintro m _ ⟨i, p, hi, hm, hP, rfl⟩
  have lp := hP.len
  have lpi := i64s_len p
  by_cases hi' : i < l.length
  rotate_left
  · have ei : i = l.length := by omega
    subst ei
    repeat' ((conv => whnf); first | refine Rng.g ?_ | refine Ob.g ?_ | refine Ob.e ?_ | refine Ob.m ?_ | refine Ob.mk (Nat.le_of_ble_eq_true rfl) ?_ | refine JoinVC.on ?_ | refine Nils.mk (fun h => ?_) ?_ | refine Val.t ?_ | refine Val.d ?_ | refine Mm.mk ?_ | (refine Br.mk (fun h => ?_) (fun h => ?_) <;> first | (exfalso; omega; done) | (exfalso; simp at h; done) | skip))
    repeat refine Mm.mk ?_
    conv => whnf
    refine EndVC.mk _ rfl _ _ (.inr ⟨hA, p, prc_end hP, rfl, rfl⟩) ?_
    refine ⟨[some 2], rfl, rfl, ?_, ?_⟩ <;> repeat' (first | exact trivial | exact rfl | exact Iff.rfl | apply And.intro)
  have gi : rI (i64s p) (i : Int).toNat 0 = p.getD i 0 := by rw [Int.toNat_natCast]; exact i64s_get p i
  by_cases h0 : p.getD i 0 < 0
  · repeat' ((conv => whnf); first | rw [gi] | refine Rng.g ?_ | refine Ob.g ?_ | refine Ob.e ?_ | refine Ob.m ?_ | refine Ob.mk (Nat.le_of_ble_eq_true rfl) ?_ | refine JoinVC.on ?_ | refine Nils.mk (fun h => ?_) ?_ | refine Val.t ?_ | refine Val.d ?_ | refine Mm.mk ?_ | (refine Br.mk (fun h => ?_) (fun h => ?_) <;> first | (exfalso; omega; done) | (exfalso; simp at h; done) | skip))
    refine Back.mk (l.length - (i + 1)) _ (by omega) ⟨i + 1, p, by omega, rfl, prc_skip hP hi h0, rfl⟩ ?_
    refine ⟨[some 0, some 1, some 2, some 3], rfl, rfl, ?_, ?_⟩ <;> repeat' (first | exact trivial | exact rfl | exact Iff.rfl | apply And.intro)
  repeat' ((conv => whnf); first | rw [gi] | refine Rng.g ?_ | refine Ob.g ?_ | refine Ob.e ?_ | refine Ob.m ?_ | refine Ob.mk (Nat.le_of_ble_eq_true rfl) ?_ | refine JoinVC.on ?_ | refine Nils.mk (fun h => ?_) ?_ | refine Val.t ?_ | refine Val.d ?_ | refine Mm.mk ?_ | (refine Br.mk (fun h => ?_) (fun h => ?_) <;> first | (exfalso; omega; done) | (exfalso; simp at h; done) | skip))
  conv => whnf
  refine CallVC.mk [0] _ _ _ rfl rfl rfl (s53 F l (l.length : Int) (i : Int)) (fun r m' h' => ?_)
  obtain ⟨rfl, rfl⟩ := h'
  conv => whnf
  repeat' ((conv => whnf); first | refine Rng.g ?_ | refine Ob.g ?_ | refine Ob.e ?_ | refine Ob.m ?_ | refine Ob.mk (Nat.le_of_ble_eq_true rfl) ?_ | refine JoinVC.on ?_ | refine Nils.mk (fun h => ?_) ?_ | refine Val.t ?_ | refine Val.d ?_ | refine Mm.mk ?_ | (refine Br.mk (fun h => ?_) (fun h => ?_) <;> first | (exfalso; omega; done) | (exfalso; simp at h; done) | skip))
  have lpl := plsA_len F l
  have h8 := hA.few
  change RangeVC _ _ _ _ _
  refine RangeVC.mk e69 (isem_of_awp pMix [] Tryd.func69 (c := bodyOf Tryd.f69) rfl (by kernel_rfl) Tryd.ntmps69 (by kernel_rfl) ?_)
  repeat' ((conv => whnf); first | refine Rng.g ?_ | refine Ob.g ?_ | refine Ob.e ?_ | refine Ob.m ?_ | refine Ob.mk (Nat.le_of_ble_eq_true rfl) ?_ | refine JoinVC.on ?_ | refine Nils.mk (fun h => ?_) ?_ | refine Val.t ?_ | refine Val.d ?_ | refine Mm.mk ?_ | (refine Br.mk (fun h => ?_) (fun h => ?_) <;> first | (exfalso; omega; done) | (exfalso; simp at h; done) | skip))
  refine LoopVC.mk (fun n st => ∃ (k : Nat) (q : List Int), k ≤ F.length ∧ n = F.length - k ∧ PrcOK F l (CandL F l i (fcs F l i k)) q ∧ q.getD i 0 = p.getD i 0 ∧ st = ⟨8, envA 43 [(0, .x (.one (.yld 7))), (1, .x (.one (.ptr 5 0))), (2, .x (.one (.ptr 6 0))), (10, .x (.one (.lst true [.pt KPl] (plsA F l)))), (11, .int .i64 (F.length : Int)), (12, .int .i64 (k : Int))], [some (bAlb F l (l.length : Int)), some (.box 82 [.ptr 0 0]), some (rowPr q), some (.box 38 [.own 2]), some (.box 3 [.int .i64 (i : Int)]), some (.box 82 [.ptr 0 0]), some (.box 3 [.int .i64 (i : Int)]), some (.loop [42] (cAs rf33) (cBo rf33) (envA 83 [(6, .x (.one (.ptr 1 0))), (8, .x (.one (.ptr 3 0))), (9, .x (.one (.ptr 4 0))), (30, .int .i64 (l.length : Int)), (31, .int .i64 (i : Int))]) .ready)]⟩) _ _ ⟨0, p, Nat.zero_le _, rfl, prc_nil hP, rfl, rfl⟩ ?_ ?_
  · refine ⟨[some 0, some 1, some 2, some 3, some 4, some 5, some 6, some 7], rfl, rfl, ?_, ?_⟩ <;> repeat' (first | exact trivial | exact rfl | exact Iff.rfl | apply And.intro)
    exact congrArg Int.ofNat lpl
  rintro n _ ⟨k, q, hk, hn, hQ, hqi, rfl⟩
  by_cases hk' : k < F.length
  rotate_left
  · have ek : k = F.length := by omega
    subst ek
    repeat' ((conv => whnf); first | refine Rng.g ?_ | refine Ob.g ?_ | refine Ob.e ?_ | refine Ob.m ?_ | refine Ob.mk (Nat.le_of_ble_eq_true rfl) ?_ | refine JoinVC.on ?_ | refine Nils.mk (fun h => ?_) ?_ | refine Val.t ?_ | refine Val.d ?_ | refine Mm.mk ?_ | (refine Br.mk (fun h => ?_) (fun h => ?_) <;> first | (exfalso; omega; done) | (exfalso; simp at h; done) | skip))
    refine Back.mk (l.length - (i + 1)) _ (by omega) ⟨i + 1, q, by omega, rfl, prc_next hQ, rfl⟩ ?_
    refine ⟨[some 0, some 1, some 2, some 3], rfl, rfl, ?_, ?_⟩ <;> repeat' (first | exact trivial | exact rfl | exact Iff.rfl | apply And.intro)
  have gk : rA (plsA F l) (k : Int).toNat 0 = plA (F.getD k f0) l := by rw [Int.toNat_natCast]; exact plsA_at F l k hk'
  have hf := hA.fmts k hk'
  repeat' ((conv => whnf); first | rw [gk] | refine Rng.g ?_ | refine Ob.g ?_ | refine Ob.e ?_ | refine Ob.m ?_ | refine Ob.mk (Nat.le_of_ble_eq_true rfl) ?_ | refine JoinVC.on ?_ | refine Nils.mk (fun h => ?_) ?_ | refine Val.t ?_ | refine Val.d ?_ | refine Mm.mk ?_ | (refine Br.mk (fun h => ?_) (fun h => ?_) <;> first | (exfalso; omega; done) | (exfalso; simp at h; done) | skip))
  refine LoopVC.mk (fun n st => ∃ (j : Nat) (q : List Int), i < j ∧ j ≤ l.length + 1 ∧ n = l.length + 1 - j ∧ PrcOK F l (CandL F l i (fcs F l i k ++ fcj F l i k j)) q ∧ q.getD i 0 = p.getD i 0 ∧ st = ⟨8, envA 43 [(0, .x (.one (.yld 7))), (1, .x (.one (.ptr 5 0))), (2, .x (.one (.ptr 6 0))), (4, .int .i64 (k : Int)), (5, .x (plX (F.getD k f0) l)), (6, .int .i64 (j : Int)), (10, .x (.one (.lst true [.pt KPl] (plsA F l)))), (11, .int .i64 (F.length : Int)), (12, .int .i64 (k : Int))], [some (bAlb F l (l.length : Int)), some (.box 82 [.ptr 0 0]), some (rowPr q), some (.box 38 [.own 2]), some (.box 3 [.int .i64 (i : Int)]), some (.box 82 [.ptr 0 0]), some (.box 3 [.int .i64 (i : Int)]), some (.loop [42] (cAs rf33) (cBo rf33) (envA 83 [(6, .x (.one (.ptr 1 0))), (8, .x (.one (.ptr 3 0))), (9, .x (.one (.ptr 4 0))), (30, .int .i64 (l.length : Int)), (31, .int .i64 (i : Int))]) .ready)]⟩) _ _ ⟨i + 1, q, by omega, by omega, rfl, by rw [fcj_lo _ (Nat.le_refl _), List.append_nil]; exact hQ, hqi, rfl⟩ ?_ ?_
  · refine ⟨[some 0, some 1, some 2, some 3, some 4, some 5, some 6, some 7], rfl, rfl, ?_, ?_⟩ <;> repeat' (first | exact trivial | exact rfl | exact Iff.rfl | apply And.intro)
  clear hQ hqi q
  rintro n2 _ ⟨j, q, hij, hj, hn2, hQ, hqi, rfl⟩
  have c54 := s54g i j (by omega)
  by_cases hj' : j ≤ l.length
  rotate_left
  · have ej : j = l.length + 1 := by omega
    subst ej
    repeat' ((conv => whnf); first | refine Rng.g ?_ | refine Ob.g ?_ | refine Ob.e ?_ | refine Ob.m ?_ | refine Ob.mk (Nat.le_of_ble_eq_true rfl) ?_ | refine JoinVC.on ?_ | refine Nils.mk (fun h => ?_) ?_ | refine Val.t ?_ | refine Val.d ?_ | refine Mm.mk ?_ | (refine Br.mk (fun h => ?_) (fun h => ?_) <;> first | (exfalso; omega; done) | (exfalso; simp at h; done) | skip))
    refine Back.mk (F.length - (k + 1)) _ (by omega) ⟨k + 1, q, by omega, rfl, hQ, hqi, rfl⟩ ?_
    refine ⟨[some 0, some 1, some 2, some 3, some 4, some 5, some 6, some 7], rfl, rfl, ?_, ?_⟩ <;> repeat' (first | exact trivial | exact rfl | exact Iff.rfl | apply And.intro)
  have c47 := s47p (F.getD k f0) l (seqL i (j - i)) hf hA.sngs (fun x hx => by rw [seqL_len] at hx; rw [seqL_get _ _ _ hx]; omega) (by rw [seqL_len]; omega)
  repeat' ((conv => whnf); first | refine Rng.g ?_ | refine Ob.g ?_ | refine Ob.e ?_ | refine Ob.m ?_ | refine Ob.mk (Nat.le_of_ble_eq_true rfl) ?_ | refine JoinVC.on ?_ | refine Nils.mk (fun h => ?_) ?_ | refine Val.t ?_ | refine Val.d ?_ | refine Mm.mk ?_ | (refine Br.mk (fun h => ?_) (fun h => ?_) <;> first | (exfalso; omega; done) | (exfalso; simp at h; done) | skip))
  conv => whnf
  refine CallVC.mk [] _ _ _ rfl rfl rfl (c54) (fun r m' h' => ?_)
  obtain ⟨rfl, rfl⟩ := h'
  conv => whnf
  repeat' ((conv => whnf); first | refine Rng.g ?_ | refine Ob.g ?_ | refine Ob.e ?_ | refine Ob.m ?_ | refine Ob.mk (Nat.le_of_ble_eq_true rfl) ?_ | refine JoinVC.on ?_ | refine Nils.mk (fun h => ?_) ?_ | refine Val.t ?_ | refine Val.d ?_ | refine Mm.mk ?_ | (refine Br.mk (fun h => ?_) (fun h => ?_) <;> first | (exfalso; omega; done) | (exfalso; simp at h; done) | skip))
  conv => whnf
  refine CallVC.mk [] _ _ _ rfl rfl rfl (c47) (fun r m' h' => ?_)
  obtain ⟨rfl, rfl⟩ := h'
  conv => whnf
  repeat refine Mm.mk ?_
  try refine JoinVC.on ?_
  refine Br.mk (fun hL => ?_) (fun hL => ?_)
  rotate_left
  · have hnf : ¬ faceP F l k i j := fun h => hL h.lay
    rw [fcj_end hA hij hnf hj] at hQ
    repeat' ((conv => whnf); first | refine Rng.g ?_ | refine Ob.g ?_ | refine Ob.e ?_ | refine Ob.m ?_ | refine Ob.mk (Nat.le_of_ble_eq_true rfl) ?_ | refine JoinVC.on ?_ | refine Nils.mk (fun h => ?_) ?_ | refine Val.t ?_ | refine Val.d ?_ | refine Mm.mk ?_ | (refine Br.mk (fun h => ?_) (fun h => ?_) <;> first | (exfalso; omega; done) | (exfalso; simp at h; done) | skip))
    refine Back.mk (F.length - (k + 1)) _ (by omega) ⟨k + 1, q, by omega, rfl, hQ, hqi, rfl⟩ ?_
    refine ⟨[some 0, some 1, some 2, some 3, some 4, some 5, some 6, some 7], rfl, rfl, ?_, ?_⟩ <;> repeat' (first | exact trivial | exact rfl | exact Iff.rfl | apply And.intro)
  have hface : faceP F l k i j := ⟨hk', hij, hj', hL⟩
  have hLm : ∀ x, x ∈ fcs F l i k ++ fcj F l i k j → faceP F l x.1 i x.2 := fun x hx => by
    rcases List.mem_append.1 hx with h | h
    · exact (mem_fcs.1 h).2
    · have h3 := mem_fcj.1 h
      rw [h3.1]; exact h3.2.2
  obtain ⟨hQ', hqi'⟩ := stepP_ok hA hi' hQ hLm (by omega) (q := (k, j)) hface
  have hbd := hQ.bd hA hLm (n := i) (by omega)
  have hco := hf.cost
  have lq := hQ.len
  have lqi := i64s_len q
  have gc : rI (rA (plsA F l) (k : Int).toNat 0) 0 (0 + 0 + (0 + 1 + 1 + 1 + 1 + 1 + 1 + 1)) = (F.getD k f0).cost := by rw [gk]; rfl
  have ga : rI (i64s q) (i : Int).toNat 0 = q.getD i 0 := by rw [Int.toNat_natCast]; exact i64s_get q i
  have gj : rI (i64s q) ((i : Int) + ((j : Int) - i)).toNat 0 = q.getD j 0 := by rw [show ((i : Int) + ((j : Int) - i)).toNat = j by omega]; exact i64s_get q j
  have et : ((i : Int) + ((j : Int) - i)).toNat = j := by omega
  have upd : updRow (i64s q) ((i : Int) + ((j : Int) - i)).toNat 0 [Cell.int (rI (i64s q) (i : Int).toNat 0 + rI (rA (plsA F l) (k : Int).toNat 0) 0 (0 + 0 + (0 + 1 + 1 + 1 + 1 + 1 + 1 + 1)))] = i64s (q.set j (q.getD i 0 + (F.getD k f0).cost)) := by
    rw [gc, ga, et]
    exact i64s_upd' q j _ (by omega)
  have fin : PrcOK F l (CandL F l i (fcs F l i k ++ fcj F l i k (j + 1))) (stepP F i q (k, j)) := by rw [fcj_yes hface, ← List.append_assoc]; exact hQ'
  repeat' ((conv => whnf); first | refine Rng.g ?_ | refine Ob.g ?_ | refine Ob.e ?_ | refine Ob.m ?_ | refine Ob.mk (Nat.le_of_ble_eq_true rfl) ?_ | refine JoinVC.on ?_ | refine Nils.mk (fun h => ?_) ?_ | refine Val.t ?_ | refine Val.d ?_ | refine Mm.mk ?_ | (refine Br.mk (fun h => ?_) (fun h => ?_) <;> first | (exfalso; omega; done) | (exfalso; simp at h; done) | skip))
  change YieldVC _ _ _ _ _
  refine YieldVC.mk (rsem_of_awp pMix [] rfl (by kernel_rfl) ?_)
  repeat' ((conv => whnf); first | refine Rng.g ?_ | refine Ob.g ?_ | refine Ob.e ?_ | refine Ob.m ?_ | refine Ob.mk (Nat.le_of_ble_eq_true rfl) ?_ | refine JoinVC.on ?_ | refine Nils.mk (fun h => ?_) ?_ | refine Val.t ?_ | refine Val.d ?_ | refine Mm.mk ?_ | (refine Br.mk (fun h => ?_) (fun h => ?_) <;> first | (exfalso; omega; done) | (exfalso; simp at h; done) | skip))
  · have e : stepP F i q (k, j) = q.set j (q.getD i 0 + (F.getD k f0).cost) := if_pos (.inl (by show q.getD j 0 < 0; omega))
    refine Back.mk (l.length + 1 - (j + 1)) _ (by omega) ⟨j + 1, _, by omega, by omega, rfl, fin, by rw [hqi']; exact hqi, rfl⟩ ?_
    rw [e]
    refine ⟨[some 0, some 1, some 2, some 3, some 4, some 5, some 6, some 7], rfl, rfl, ?_, ?_⟩ <;> repeat' (first | exact trivial | exact rfl | exact Iff.rfl | apply And.intro)
    exact upd
  · have e : stepP F i q (k, j) = q.set j (q.getD i 0 + (F.getD k f0).cost) := if_pos (.inr (by show q.getD i 0 + (F.getD k f0).cost < q.getD j 0; omega))
    refine Back.mk (l.length + 1 - (j + 1)) _ (by omega) ⟨j + 1, _, by omega, by omega, rfl, fin, by rw [hqi']; exact hqi, rfl⟩ ?_
    rw [e]
    refine ⟨[some 0, some 1, some 2, some 3, some 4, some 5, some 6, some 7], rfl, rfl, ?_, ?_⟩ <;> repeat' (first | exact trivial | exact rfl | exact Iff.rfl | apply And.intro)
    exact upd
  · have e : stepP F i q (k, j) = q := if_neg (by show ¬ (q.getD j 0 < 0 ∨ q.getD i 0 + (F.getD k f0).cost < q.getD j 0); omega)
    refine Back.mk (l.length + 1 - (j + 1)) _ (by omega) ⟨j + 1, _, by omega, by omega, rfl, fin, by rw [hqi']; exact hqi, rfl⟩ ?_
    rw [e]
    refine ⟨[some 0, some 1, some 2, some 3, some 4, some 5, some 6, some 7], rfl, rfl, ?_, ?_⟩ <;> repeat' (first | exact trivial | exact rfl | exact Iff.rfl | apply And.intro)
end Go.Sx

namespace Go.Sx
open Go Go.Proofs
set_option maxRecDepth 10000
set_option maxHeartbeats 8000000
/-! ### An order is laid, as the document tells it -/
/-- How many of them end at or above their Least, up to the first one that does not. -/
structure Good (f : Fmt) (l : List Sng) (O : List Int) (g : Nat) : Prop where
  le : g ≤ O.length
  yes : ∀ j, j < g → okAt f l O j
  no : g < O.length → ¬ okAt f l O g
open Classical in
noncomputable def goodN (f : Fmt) (l : List Sng) (O : List Int) : Nat → Nat
  | 0 => 0
  | i + 1 => if goodN f l O i = i ∧ okAt f l O i then i + 1 else goodN f l O i
theorem goodN_lo {f : Fmt} {l : List Sng} {O : List Int} : ∀ n, (∀ j, j < n → okAt f l O j) → goodN f l O n = n
  | 0, _ => rfl
  | n + 1, h => if_pos ⟨goodN_lo n fun j hj => h j (by omega), h n (Nat.lt_succ_self n)⟩
open Classical in
theorem goodN_hi {f : Fmt} {l : List Sng} {O : List Int} {g : Nat} (h : ∀ j, j < g → okAt f l O j) (hn : ¬ okAt f l O g) : ∀ d, goodN f l O (g + d) = g
  | 0 => goodN_lo g h
  | d + 1 => by
    have ih := goodN_hi h hn d
    have e : ¬ (goodN f l O (g + d) = g + d ∧ okAt f l O (g + d)) := fun ⟨h1, h2⟩ => by
      rw [ih] at h1
      have : d = 0 := by omega
      subst this
      exact hn h2
    show (if goodN f l O (g + d) = g + d ∧ okAt f l O (g + d) then g + d + 1 else goodN f l O (g + d)) = g
    rw [if_neg e]
    exact ih
theorem Good.eq {f : Fmt} {l : List Sng} {O : List Int} {g : Nat} (h : Good f l O g) : goodN f l O O.length = g := by
  by_cases e : g = O.length
  · rw [e]
    exact goodN_lo _ fun j hj => h.yes j (by omega)
  · have h1 := h.le
    have := goodN_hi h.yes (h.no (by omega)) (O.length - g)
    rw [show g + (O.length - g) = O.length by omega] at this
    exact this
/-- How many of an order are good. -/
noncomputable def laN (f : Fmt) (l : List Sng) (O : List Int) : Int := if bothE f l ≠ 0 ∨ ordE l.length O ≠ 0 then 0 else (goodN f l O O.length : Int)
open Classical in
/-- The error of an order. -/
noncomputable def laE (f : Fmt) (l : List Sng) (O : List Int) : Int := if bothE f l ≠ 0 then bothE f l else if ordE l.length O ≠ 0 then ordE l.length O else if goodN f l O O.length < O.length then 20 else if LayOK f l O then 0 else 14
inductive LaS (f : Fmt) (l : List Sng) (O : List Int) (r : AV) (m' : List (Option Blk)) : Prop
  | bad (he : laE f l O ≠ 0) (hr : r = .tup [.one .nils, I (laN f l O), I (laE f l O)]) (hm : m' = [])
  | ok (hf : FmtOK f) (hg : SngsOK l) (hO : OrdOK l.length O) (h : LayOK f l O) (he : laE f l O = 0) (hn : laN f l O = O.length) (hr : r = .tup [.one (.own 0), I (laN f l O), I (laE f l O)]) (hm : m' = [some (rowB (bndA f l O O.length))])
theorem la_ok {f : Fmt} {l : List Sng} {O : List Int} (hf : FmtOK f) (hg : SngsOK l) (hO : OrdOK l.length O) (h : LayOK f l O) : laE f l O = 0 ∧ laN f l O = O.length := by
  have h1 := bothE_ok hf hg
  have h2 := ordE_0.2 hO
  have h3 := goodN_lo O.length h.1
  unfold laE laN
  rw [h1, h2, h3]
  simp [h]
theorem la_limit {f : Fmt} {l : List Sng} {O : List Int} (hf : FmtOK f) (hg : SngsOK l) (hO : OrdOK l.length O) (h : ∀ j, j < O.length → okAt f l O j) (hn : ¬ LayOK f l O) : laE f l O = 14 ∧ laN f l O = O.length := by
  have h1 := bothE_ok hf hg
  have h2 := ordE_0.2 hO
  have h3 := goodN_lo O.length h
  unfold laE laN
  rw [h1, h2, h3]
  simp [hn]
theorem la_rule {f : Fmt} {l : List Sng} {O : List Int} (hf : FmtOK f) (hg : SngsOK l) (hO : OrdOK l.length O) {i : Nat} (hi : i < O.length) (h : ∀ j, j < i → okAt f l O j) (hn : ¬ okAt f l O i) : laE f l O = 20 ∧ laN f l O = i := by
  have h1 := bothE_ok hf hg
  have h2 := ordE_0.2 hO
  have h3 := Good.eq (f := f) (l := l) (O := O) (g := i) ⟨by omega, h, fun _ => hn⟩
  unfold laE laN
  rw [h1, h2, h3]
  simp [hi]
theorem la_bad {f : Fmt} {l : List Sng} {O : List Int} (h : bothE f l ≠ 0) : laE f l O = bothE f l ∧ laN f l O = 0 := by
  unfold laE laN
  rw [if_pos h, if_pos (.inl h)]
  exact ⟨rfl, rfl⟩
theorem la_ord {f : Fmt} {l : List Sng} {O : List Int} (hf : FmtOK f) (hg : SngsOK l) (h : ordE l.length O ≠ 0) : laE f l O = ordE l.length O ∧ laN f l O = 0 := by
  have h1 := bothE_ok hf hg
  unfold laE laN
  rw [if_neg (by rw [h1]; simp), if_pos h, if_pos (.inr h)]
  exact ⟨rfl, rfl⟩
theorem LaRs.to {f : Fmt} {l : List Sng} {O : List Int} {r : AV} {m' : List (Option Blk)} (h : LaRs f l O r m') : LaS f l O r m' := by
  cases h with
  | bad h hr hm =>
    obtain ⟨h1, h2⟩ := la_bad (O := O) h
    exact .bad (by rw [h1]; exact h) (by rw [h1, h2]; exact hr) hm
  | ord hf hg h hr hm =>
    obtain ⟨h1, h2⟩ := la_ord hf hg h
    exact .bad (by rw [h1]; exact h) (by rw [h1, h2]; exact hr) hm
  | rule hf hg hO i hi h hn hr hm =>
    obtain ⟨h1, h2⟩ := la_rule hf hg hO hi h hn
    exact .bad (by rw [h1]; decide) (by rw [h1, h2]; exact hr) hm
  | limit hf hg hO h hn hr hm =>
    obtain ⟨h1, h2⟩ := la_limit hf hg hO h hn
    exact .bad (by rw [h1]; decide) (by rw [h1, h2]; exact hr) hm
  | ok hf hg hO h hr hm =>
    obtain ⟨h1, h2⟩ := la_ok hf hg hO h
    exact .ok hf hg hO h h1 h2 (by rw [h1, h2]; exact hr) hm
end Go.Sx

namespace Go.Sx
open Go Go.Proofs
set_option maxRecDepth 10000
set_option maxHeartbeats 8000000
/-! ### The examples -/
open Classical in
theorem s26 (a b : List Int) (ha : a.length ≤ 1000000) : PSpec Tryd.prog 35 [.one (.lst true [.int .i64] (i64s a)), .one (.lst true [.int .i64] (i64s b))] (xP (a = b)) := by
  have la := i64s_len a
  have lb := i64s_len b
  by_cases hl : a.length = b.length
  rotate_left
  · refine spec_of pMix (O := []) Tryd.func35 (c := bodyOf Tryd.f35) rfl (by kernel_rfl) (by kernel_rfl) Tryd.ntmps35 (res := [.tmp 4]) (by kernel_rfl) ?_
    repeat' ((conv => whnf); first | refine Rng.g ?_ | refine Ob.g ?_ | refine Ob.e ?_ | refine Ob.m ?_ | refine Ob.mk (Nat.le_of_ble_eq_true rfl) ?_ | refine JoinVC.on ?_ | refine Nils.mk (fun h => ?_) ?_ | refine Val.t ?_ | refine Val.d ?_ | refine Mm.mk ?_ | (refine Br.mk (fun h => ?_) (fun h => ?_) <;> first | (exfalso; omega; done) | (exfalso; simp at h; done) | skip))
    repeat refine Mm.mk ?_
    refine EndVC.mk _ rfl _ _ ⟨rfl, rfl⟩ ?_
    refine ⟨[], rfl, rfl, ?_, ?_⟩ <;> repeat' (first | exact trivial | exact rfl | exact Iff.rfl | apply And.intro)
    exact fun h => hl (by rw [h])
  refine spec_of pMix (O := []) Tryd.func35 (c := bodyOf Tryd.f35) rfl (by kernel_rfl) (by kernel_rfl) Tryd.ntmps35 (res := [.tmp 4]) (by kernel_rfl) ?_
  repeat' ((conv => whnf); first | refine Rng.g ?_ | refine Ob.g ?_ | refine Ob.e ?_ | refine Ob.m ?_ | refine Ob.mk (Nat.le_of_ble_eq_true rfl) ?_ | refine JoinVC.on ?_ | refine Nils.mk (fun h => ?_) ?_ | refine Val.t ?_ | refine Val.d ?_ | refine Mm.mk ?_ | (refine Br.mk (fun h => ?_) (fun h => ?_) <;> first | (exfalso; omega; done) | (exfalso; simp at h; done) | skip))
  refine LoopVC.mk (fun n st => ∃ (i : Nat), i ≤ a.length ∧ n = a.length - i ∧ (∀ j, j < i → a.getD j 0 = b.getD j 0) ∧ st = ⟨0, envA 26 [(0, .x (.one (.lst true [.int .i64] (i64s a)))), (1, .x (.one (.lst true [.int .i64] (i64s b)))), (5, .int .i64 (i : Int))], []⟩) _ _ ⟨0, Nat.zero_le _, rfl, fun j hj => absurd hj (Nat.not_lt_zero j), rfl⟩ ?_ ?_
  · refine ⟨[], rfl, rfl, ?_, ?_⟩ <;> repeat' (first | exact trivial | exact rfl | exact Iff.rfl | apply And.intro)
  rintro n _ ⟨i, hi, hm, hj, rfl⟩
  have g1 : rI (i64s a) (i : Int).toNat 0 = a.getD i 0 := by rw [Int.toNat_natCast]; exact i64s_get a i
  have g2 : rI (i64s b) (i : Int).toNat 0 = b.getD i 0 := by rw [Int.toNat_natCast]; exact i64s_get b i
  by_cases hi' : i < a.length
  · by_cases he : a.getD i 0 = b.getD i 0
    · repeat' ((conv => whnf); first | refine Rng.g ?_ | refine Ob.g ?_ | refine Ob.e ?_ | refine Ob.m ?_ | refine Ob.mk (Nat.le_of_ble_eq_true rfl) ?_ | refine JoinVC.on ?_ | refine Nils.mk (fun h => ?_) ?_ | refine Val.t ?_ | refine Val.d ?_ | refine Mm.mk ?_ | (refine Br.mk (fun h => ?_) (fun h => ?_) <;> first | (exfalso; omega; done) | (exfalso; simp at h; done) | skip))
      refine Back.mk (a.length - (i + 1)) _ (by omega) ⟨i + 1, by omega, rfl, fun j hj' => ?_, rfl⟩ ?_
      · rcases Nat.lt_succ_iff_lt_or_eq.1 hj' with h' | rfl
        · exact hj j h'
        · exact he
      · refine ⟨[], rfl, rfl, ?_, ?_⟩ <;> repeat' (first | exact trivial | exact rfl | exact Iff.rfl | apply And.intro)
    · repeat' ((conv => whnf); first | refine Rng.g ?_ | refine Ob.g ?_ | refine Ob.e ?_ | refine Ob.m ?_ | refine Ob.mk (Nat.le_of_ble_eq_true rfl) ?_ | refine JoinVC.on ?_ | refine Nils.mk (fun h => ?_) ?_ | refine Val.t ?_ | refine Val.d ?_ | refine Mm.mk ?_ | (refine Br.mk (fun h => ?_) (fun h => ?_) <;> first | (exfalso; omega; done) | (exfalso; simp at h; done) | skip))
      repeat refine Mm.mk ?_
      refine EndVC.mk _ rfl _ _ ⟨rfl, rfl⟩ ?_
      refine ⟨[], rfl, rfl, ?_, ?_⟩ <;> repeat' (first | exact trivial | exact rfl | exact Iff.rfl | apply And.intro)
      exact fun h => he (by rw [h])
  · repeat' ((conv => whnf); first | refine Rng.g ?_ | refine Ob.g ?_ | refine Ob.e ?_ | refine Ob.m ?_ | refine Ob.mk (Nat.le_of_ble_eq_true rfl) ?_ | refine JoinVC.on ?_ | refine Nils.mk (fun h => ?_) ?_ | refine Val.t ?_ | refine Val.d ?_ | refine Mm.mk ?_ | (refine Br.mk (fun h => ?_) (fun h => ?_) <;> first | (exfalso; omega; done) | (exfalso; simp at h; done) | skip))
    repeat refine Mm.mk ?_
    refine EndVC.mk _ rfl _ _ ⟨rfl, rfl⟩ ?_
    refine ⟨[], rfl, rfl, ?_, ?_⟩ <;> repeat' (first | exact trivial | exact rfl | exact Iff.rfl | apply And.intro)
    exact list_ext_getD hl fun j hj' => hj j (by omega)
open Classical in
theorem s34 (a b : List Int) (ha : a.length ≤ 1000000) : PSpec Tryd.prog 27 [.one (.lst true [.int .i64] (i64s a)), .one (.lst true [.int .i64] (i64s b))] (xP (a = b)) := by
  have la := i64s_len a
  have lb := i64s_len b
  by_cases hl : a.length = b.length
  rotate_left
  · refine spec_of pMix (O := []) Tryd.func27 (c := bodyOf Tryd.f27) rfl (by kernel_rfl) (by kernel_rfl) Tryd.ntmps27 (res := [.tmp 4]) (by kernel_rfl) ?_
    repeat' ((conv => whnf); first | refine Rng.g ?_ | refine Ob.g ?_ | refine Ob.e ?_ | refine Ob.m ?_ | refine Ob.mk (Nat.le_of_ble_eq_true rfl) ?_ | refine JoinVC.on ?_ | refine Nils.mk (fun h => ?_) ?_ | refine Val.t ?_ | refine Val.d ?_ | refine Mm.mk ?_ | (refine Br.mk (fun h => ?_) (fun h => ?_) <;> first | (exfalso; omega; done) | (exfalso; simp at h; done) | skip))
    repeat refine Mm.mk ?_
    refine EndVC.mk _ rfl _ _ ⟨rfl, rfl⟩ ?_
    refine ⟨[], rfl, rfl, ?_, ?_⟩ <;> repeat' (first | exact trivial | exact rfl | exact Iff.rfl | apply And.intro)
    exact fun h => hl (by rw [h])
  refine spec_of pMix (O := []) Tryd.func27 (c := bodyOf Tryd.f27) rfl (by kernel_rfl) (by kernel_rfl) Tryd.ntmps27 (res := [.tmp 4]) (by kernel_rfl) ?_
  repeat' ((conv => whnf); first | refine Rng.g ?_ | refine Ob.g ?_ | refine Ob.e ?_ | refine Ob.m ?_ | refine Ob.mk (Nat.le_of_ble_eq_true rfl) ?_ | refine JoinVC.on ?_ | refine Nils.mk (fun h => ?_) ?_ | refine Val.t ?_ | refine Val.d ?_ | refine Mm.mk ?_ | (refine Br.mk (fun h => ?_) (fun h => ?_) <;> first | (exfalso; omega; done) | (exfalso; simp at h; done) | skip))
  refine LoopVC.mk (fun n st => ∃ (i : Nat), i ≤ a.length ∧ n = a.length - i ∧ (∀ j, j < i → a.getD j 0 = b.getD j 0) ∧ st = ⟨0, envA 26 [(0, .x (.one (.lst true [.int .i64] (i64s a)))), (1, .x (.one (.lst true [.int .i64] (i64s b)))), (5, .int .i64 (i : Int))], []⟩) _ _ ⟨0, Nat.zero_le _, rfl, fun j hj => absurd hj (Nat.not_lt_zero j), rfl⟩ ?_ ?_
  · refine ⟨[], rfl, rfl, ?_, ?_⟩ <;> repeat' (first | exact trivial | exact rfl | exact Iff.rfl | apply And.intro)
  rintro n _ ⟨i, hi, hm, hj, rfl⟩
  have g1 : rI (i64s a) (i : Int).toNat 0 = a.getD i 0 := by rw [Int.toNat_natCast]; exact i64s_get a i
  have g2 : rI (i64s b) (i : Int).toNat 0 = b.getD i 0 := by rw [Int.toNat_natCast]; exact i64s_get b i
  by_cases hi' : i < a.length
  · by_cases he : a.getD i 0 = b.getD i 0
    · repeat' ((conv => whnf); first | refine Rng.g ?_ | refine Ob.g ?_ | refine Ob.e ?_ | refine Ob.m ?_ | refine Ob.mk (Nat.le_of_ble_eq_true rfl) ?_ | refine JoinVC.on ?_ | refine Nils.mk (fun h => ?_) ?_ | refine Val.t ?_ | refine Val.d ?_ | refine Mm.mk ?_ | (refine Br.mk (fun h => ?_) (fun h => ?_) <;> first | (exfalso; omega; done) | (exfalso; simp at h; done) | skip))
      refine Back.mk (a.length - (i + 1)) _ (by omega) ⟨i + 1, by omega, rfl, fun j hj' => ?_, rfl⟩ ?_
      · rcases Nat.lt_succ_iff_lt_or_eq.1 hj' with h' | rfl
        · exact hj j h'
        · exact he
      · refine ⟨[], rfl, rfl, ?_, ?_⟩ <;> repeat' (first | exact trivial | exact rfl | exact Iff.rfl | apply And.intro)
    · repeat' ((conv => whnf); first | refine Rng.g ?_ | refine Ob.g ?_ | refine Ob.e ?_ | refine Ob.m ?_ | refine Ob.mk (Nat.le_of_ble_eq_true rfl) ?_ | refine JoinVC.on ?_ | refine Nils.mk (fun h => ?_) ?_ | refine Val.t ?_ | refine Val.d ?_ | refine Mm.mk ?_ | (refine Br.mk (fun h => ?_) (fun h => ?_) <;> first | (exfalso; omega; done) | (exfalso; simp at h; done) | skip))
      repeat refine Mm.mk ?_
      refine EndVC.mk _ rfl _ _ ⟨rfl, rfl⟩ ?_
      refine ⟨[], rfl, rfl, ?_, ?_⟩ <;> repeat' (first | exact trivial | exact rfl | exact Iff.rfl | apply And.intro)
      exact fun h => he (by rw [h])
  · repeat' ((conv => whnf); first | refine Rng.g ?_ | refine Ob.g ?_ | refine Ob.e ?_ | refine Ob.m ?_ | refine Ob.mk (Nat.le_of_ble_eq_true rfl) ?_ | refine JoinVC.on ?_ | refine Nils.mk (fun h => ?_) ?_ | refine Val.t ?_ | refine Val.d ?_ | refine Mm.mk ?_ | (refine Br.mk (fun h => ?_) (fun h => ?_) <;> first | (exfalso; omega; done) | (exfalso; simp at h; done) | skip))
    repeat refine Mm.mk ?_
    refine EndVC.mk _ rfl _ _ ⟨rfl, rfl⟩ ?_
    refine ⟨[], rfl, rfl, ?_, ?_⟩ <;> repeat' (first | exact trivial | exact rfl | exact Iff.rfl | apply And.intro)
    exact list_ext_getD hl fun j hj' => hj j (by omega)
theorem s32 : HSpec Tryd.prog 32 [] [] (fun r m' => r = .tup [f4.x, .one (.own 0)] ∧ m' = [some (.row 25 false KSng (sngA l4))]) := by
  refine spec_of pMix (O := []) Tryd.func32 (c := bodyOf Tryd.f32) rfl (by kernel_rfl) (by kernel_rfl) Tryd.ntmps32 (res := [.cell 0 23, .tmp 1]) (by kernel_rfl) ?_
  repeat' ((conv => whnf); first | refine Rng.g ?_ | refine Ob.g ?_ | refine Ob.e ?_ | refine Ob.m ?_ | refine Ob.mk (Nat.le_of_ble_eq_true rfl) ?_ | refine JoinVC.on ?_ | refine Nils.mk (fun h => ?_) ?_ | refine Val.t ?_ | refine Val.d ?_ | refine Mm.mk ?_ | (refine Br.mk (fun h => ?_) (fun h => ?_) <;> first | (exfalso; omega; done) | (exfalso; simp at h; done) | skip))
  repeat refine Mm.mk ?_
  refine EndVC.mk _ rfl _ _ ⟨rfl, rfl⟩ ?_
  refine ⟨[some 2], rfl, rfl, ?_, ?_⟩ <;> repeat' (first | exact trivial | exact rfl | exact Iff.rfl | apply And.intro)
instance (f : Fmt) (l : List Sng) (O : List Int) (i : Nat) : Decidable (okAt f l O i) := by unfold okAt; exact inferInstance
instance (f : Fmt) (l : List Sng) (O : List Int) : Decidable (LayOK f l O) := by unfold LayOK; exact inferInstance
theorem alb4 : AlbOK [f4] l4 := ⟨by decide, fun i hi => by
  have : i = 0 := by simp at hi; omega
  subst this
  exact f4_ok, l4_ok⟩
theorem face4 {k i j : Nat} : faceP [f4] l4 k i j ↔ k = 0 ∧ i < j ∧ j ≤ 3 ∧ LayOK f4 l4 (seqL i (j - i)) := by
  constructor
  · rintro ⟨h1, h2, h3, h4⟩
    have : k = 0 := by simp at h1; omega
    subst this
    exact ⟨rfl, h2, h3, h4⟩
  · rintro ⟨rfl, h2, h3, h4⟩
    exact ⟨by simp, h2, h3, h4⟩
theorem prc4 {p : List Int} (h : PrcOK [f4] l4 (Reach [f4] l4) p) : p = [0, 5, 10, 10] := by
  have f01 : faceP [f4] l4 0 0 1 := face4.2 ⟨rfl, by decide, by decide, by decide⟩
  have f12 : faceP [f4] l4 0 1 2 := face4.2 ⟨rfl, by decide, by decide, by decide⟩
  have f13 : faceP [f4] l4 0 1 3 := face4.2 ⟨rfl, by decide, by decide, by decide⟩
  have n02 : ∀ k, ¬ faceP [f4] l4 k 0 2 := fun k h => (by have := (face4.1 h).2.2.2; revert this; decide)
  have n03 : ∀ k, ¬ faceP [f4] l4 k 0 3 := fun k h => (by have := (face4.1 h).2.2.2; revert this; decide)
  have c : ([f4].getD 0 f0).cost = 5 := rfl
  have r1 : Reach [f4] l4 1 5 := by have := Reach.nil.step f01; rw [c] at this; exact this
  have r2 : Reach [f4] l4 2 10 := by have := r1.step f12; rw [c] at this; exact this
  have r3 : Reach [f4] l4 3 10 := by have := r1.step f13; rw [c] at this; exact this
  have b1 : ∀ x, Reach [f4] l4 1 x → 5 ≤ x := fun x hx => by
    cases hx with
    | @step i _ k c' h1 h2 =>
      have h3 := (reach_bd alb4 h1).1
      have h4 := (face4.1 h2).1
      subst h4
      rw [c]
      omega
  have bb : ∀ n x, (n = 2 ∨ n = 3) → Reach [f4] l4 n x → 10 ≤ x := fun n x hn hx => by
    cases hx with
    | nil => omega
    | @step i _ k c' h1 h2 =>
      have h5 := face4.1 h2
      have h4 := h5.1
      subst h4
      rw [c]
      have hi : i = 0 ∨ i = 1 ∨ i = 2 := by omega
      rcases hi with rfl | rfl | rfl
      · rcases hn with rfl | rfl
        · exact absurd h2 (n02 0)
        · exact absurd h2 (n03 0)
      · have := b1 _ h1
        omega
      · cases h1 with
        | @step i' _ k' c'' g1 g2 =>
          have g5 := face4.1 g2
          have g4 := g5.1
          subst g4
          rw [c]
          have := (reach_bd alb4 g1).1
          omega
  have u : ∀ n v x, n ≤ 3 → Reach [f4] l4 n v → (∀ y, Reach [f4] l4 n y → v ≤ y) → p.getD n 0 = x → x = v := fun n v x hn h1 h2 h3 => by
    rcases h.each n hn with ⟨h4, h5⟩ | ⟨h4, h5, h6⟩
    · exact absurd h1 (h5 v)
    · have a := h6 v h1
      have b := h2 _ h5
      omega
  have hlen : p.length = 4 := h.len
  match p, hlen with
  | [x0, x1, x2, x3], _ =>
    have e0 := u 0 0 x0 (by decide) .nil (fun y hy => (reach_bd alb4 hy).1) rfl
    have e1 := u 1 5 x1 (by decide) r1 b1 rfl
    have e2 := u 2 10 x2 (by decide) r2 (fun y hy => bb 2 y (.inl rfl) hy) rfl
    have e3 := u 3 10 x3 (by decide) r3 (fun y hy => bb 3 y (.inr rfl) hy) rfl
    rw [e0, e1, e2, e3]
theorem s11 : PSpec Tryd.prog 8 [] (xP True) := by
  have n4 : ∀ i, ([f4].getD i f0).nm.size ≤ 9223372036854775807 := fun i => by
    cases i with
    | zero => decide
    | succ n => exact (by decide : f0.nm.size ≤ 9223372036854775807)
  refine spec_of pMix (O := []) Tryd.func8 (c := bodyOf Tryd.f8) rfl (by kernel_rfl) (by kernel_rfl) Tryd.ntmps8 (res := [.tmp 0]) (by kernel_rfl) ?_
  repeat' ((conv => whnf); first | refine Rng.g ?_ | refine Ob.g ?_ | refine Ob.e ?_ | refine Ob.m ?_ | refine Ob.mk (Nat.le_of_ble_eq_true rfl) ?_ | refine JoinVC.on ?_ | refine Nils.mk (fun h => ?_) ?_ | refine Val.t ?_ | refine Val.d ?_ | refine Mm.mk ?_ | (refine Br.mk (fun h => ?_) (fun h => ?_) <;> first | (exfalso; omega; done) | (exfalso; simp at h; done) | skip))
  conv => whnf
  refine CallVC.mk [] _ _ _ rfl rfl rfl (s32) (fun r m' h' => ?_)
  obtain ⟨rfl, rfl⟩ := h'
  conv => whnf
  repeat' ((conv => whnf); first | refine Rng.g ?_ | refine Ob.g ?_ | refine Ob.e ?_ | refine Ob.m ?_ | refine Ob.mk (Nat.le_of_ble_eq_true rfl) ?_ | refine JoinVC.on ?_ | refine Nils.mk (fun h => ?_) ?_ | refine Val.t ?_ | refine Val.d ?_ | refine Mm.mk ?_ | (refine Br.mk (fun h => ?_) (fun h => ?_) <;> first | (exfalso; omega; done) | (exfalso; simp at h; done) | skip))
  conv => whnf
  refine CallVC.mk [] _ _ _ rfl rfl rfl (s18 f4 l4 (by decide) (by decide)) (fun r m' h' => ?_)
  cases h' with
  | bad h hr hm => exact absurd (bothE_ok f4_ok l4_ok) h
  | none _ _ hN hr hm => exact absurd lay4 hN
  | ok _ _ _ hr hm =>
    subst hr hm
    rw [allO4]
    repeat' ((conv => whnf); first | refine Rng.g ?_ | refine Ob.g ?_ | refine Ob.e ?_ | refine Ob.m ?_ | refine Ob.mk (Nat.le_of_ble_eq_true rfl) ?_ | refine JoinVC.on ?_ | refine Nils.mk (fun h => ?_) ?_ | refine Val.t ?_ | refine Val.d ?_ | refine Mm.mk ?_ | (refine Br.mk (fun h => ?_) (fun h => ?_) <;> first | (exfalso; omega; done) | (exfalso; simp at h; done) | skip))
    conv => whnf
    refine CallVC.mk [] _ _ _ rfl rfl rfl (s33 [f4] l4 n4) (fun r m' h' => ?_)
    rcases h' with ⟨he, rfl, rfl⟩ | ⟨_, p, hp, rfl, rfl⟩
    · exact absurd (fmsE_0.2 alb4) he
    rw [prc4 hp]
    have k1 := s26 [1, 0, 2] [1, 0, 2] (by decide)
    have k2 := s34 [0, 5, 10, 10] [0, 5, 10, 10] (by decide)
    repeat' ((conv => whnf); first | refine Rng.g ?_ | refine Ob.g ?_ | refine Ob.e ?_ | refine Ob.m ?_ | refine Ob.mk (Nat.le_of_ble_eq_true rfl) ?_ | refine JoinVC.on ?_ | refine Nils.mk (fun h => ?_) ?_ | refine Val.t ?_ | refine Val.d ?_ | refine Mm.mk ?_ | refine CallVC.pure rfl (k1) ?_ | refine CallVC.pure rfl (k2) ?_ | refine CallVC0.pure rfl (k1) ?_ | refine CallVC0.pure rfl (k2) ?_ | (refine Br.mk (fun h => ?_) (fun h => ?_) <;> first | (exfalso; omega; done) | (exfalso; simp at h; done) | skip))
    repeat refine Mm.mk ?_
    refine EndVC.mk _ rfl _ _ ⟨rfl, rfl⟩ ?_
    refine ⟨[], rfl, rfl, ?_, ?_⟩ <;> repeat' (first | exact trivial | exact rfl | exact Iff.rfl | apply And.intro)
    exact ⟨fun _ => trivial, fun _ => rfl⟩
end Go.Sx

namespace Go.Sx
open Go Go.Proofs
set_option maxRecDepth 10000
set_option maxHeartbeats 16000000
open Classical in
/-- What opening for few tracks answers. -/
noncomputable def fewE (f : Fmt) (l : List Sng) : Int := if bothE f l ≠ 0 then bothE f l else if 8 < l.length then 6 else 0
theorem fewE_bad {f : Fmt} {l : List Sng} (h : bothE f l ≠ 0) : fewE f l = bothE f l := if_pos h
theorem fewE_many {f : Fmt} {l : List Sng} (hf : FmtOK f) (hg : SngsOK l) (h : 8 < l.length) : fewE f l = 6 := by unfold fewE; rw [if_neg (fun h2 => h2 (bothE_ok hf hg)), if_pos h]
theorem fewE_ok {f : Fmt} {l : List Sng} (hf : FmtOK f) (hg : SngsOK l) (h : l.length ≤ 8) : fewE f l = 0 := by unfold fewE; rw [if_neg (fun h2 => h2 (bothE_ok hf hg)), if_neg (by omega)]
theorem s55 (f : Fmt) (l : List Sng) (hI : f.nm.size ≤ 9223372036854775807) : HSpec Tryd.prog 58 [f.x, lSng l] [] (fun r m' => (fewE f l ≠ 0 ∧ r = .tup [.one .nilp, I (fewE f l)] ∧ m' = []) ∨ (fewE f l ≠ 0 ∧ r = .tup [.one (.ptr 0 0), I (fewE f l)] ∧ m' = [some (bPl f l)]) ∨ (FmtOK f ∧ SngsOK l ∧ l.length ≤ 8 ∧ r = .tup [.one (.ptr 0 0), I 0] ∧ m' = [some (bPl f l)])) := by
  have ll := sngA_len l
  refine spec_of pMix (O := []) Tryd.func58 (c := bodyOf Tryd.f58) rfl (by kernel_rfl) (by kernel_rfl) Tryd.ntmps58 (res := [.tmp 4, .tmp 5]) (by kernel_rfl) ?_
  repeat' ((conv => whnf); first | refine Rng.g ?_ | refine Ob.g ?_ | refine Ob.e ?_ | refine Ob.m ?_ | refine Ob.mk (Nat.le_of_ble_eq_true rfl) ?_ | refine JoinVC.on ?_ | refine Nils.mk (fun h => ?_) ?_ | refine Val.t ?_ | refine Val.d ?_ | refine Mm.mk ?_ | (refine Br.mk (fun h => ?_) (fun h => ?_) <;> first | (exfalso; omega; done) | (exfalso; simp at h; done) | skip))
  conv => whnf
  refine CallVC.mk [] _ _ _ rfl rfl rfl (s35 f l hI) (fun r m' h' => ?_)
  rcases h' with ⟨hn, rfl, rfl⟩ | ⟨hf, hg, rfl, rfl⟩
  · repeat' ((conv => whnf); first | refine Rng.g ?_ | refine Ob.g ?_ | refine Ob.e ?_ | refine Ob.m ?_ | refine Ob.mk (Nat.le_of_ble_eq_true rfl) ?_ | refine JoinVC.on ?_ | refine Nils.mk (fun h => ?_) ?_ | refine Val.t ?_ | refine Val.d ?_ | refine Mm.mk ?_ | (refine Br.mk (fun h => ?_) (fun h => ?_) <;> first | (exfalso; omega; done) | (exfalso; simp at h; done) | skip))
    repeat refine Mm.mk ?_
    conv => whnf
    refine EndVC.mk _ rfl _ _ (.inl ⟨by rw [fewE_bad hn]; exact hn, by rw [fewE_bad hn], rfl⟩) ?_
    refine ⟨[], rfl, rfl, ?_, ?_⟩ <;> repeat' (first | exact trivial | exact rfl | exact Iff.rfl | apply And.intro)
  · by_cases h8 : l.length ≤ 8
    · repeat' ((conv => whnf); first | refine Rng.g ?_ | refine Ob.g ?_ | refine Ob.e ?_ | refine Ob.m ?_ | refine Ob.mk (Nat.le_of_ble_eq_true rfl) ?_ | refine JoinVC.on ?_ | refine Nils.mk (fun h => ?_) ?_ | refine Val.t ?_ | refine Val.d ?_ | refine Mm.mk ?_ | (refine Br.mk (fun h => ?_) (fun h => ?_) <;> first | (exfalso; omega; done) | (exfalso; simp at h; done) | skip))
      repeat refine Mm.mk ?_
      conv => whnf
      refine EndVC.mk _ rfl _ _ (.inr (.inr ⟨hf, hg, h8, rfl, rfl⟩)) ?_
      refine ⟨[some 1], rfl, rfl, ?_, ?_⟩ <;> repeat' (first | exact trivial | exact rfl | exact Iff.rfl | apply And.intro)
    · have e := fewE_many hf hg (by omega)
      repeat' ((conv => whnf); first | refine Rng.g ?_ | refine Ob.g ?_ | refine Ob.e ?_ | refine Ob.m ?_ | refine Ob.mk (Nat.le_of_ble_eq_true rfl) ?_ | refine JoinVC.on ?_ | refine Nils.mk (fun h => ?_) ?_ | refine Val.t ?_ | refine Val.d ?_ | refine Mm.mk ?_ | (refine Br.mk (fun h => ?_) (fun h => ?_) <;> first | (exfalso; omega; done) | (exfalso; simp at h; done) | skip))
      repeat refine Mm.mk ?_
      conv => whnf
      refine EndVC.mk _ rfl _ _ (.inr (.inl ⟨by rw [e]; decide, by rw [e], rfl⟩)) ?_
      refine ⟨[some 1], rfl, rfl, ?_, ?_⟩ <;> repeat' (first | exact trivial | exact rfl | exact Iff.rfl | apply And.intro)
/-- The best packing, as both find it. -/
inductive PaRs (f : Fmt) (l : List Sng) (r : AV) (m' : List (Option Blk)) : Prop
  | bad (h : fewE f l ≠ 0) (hr : r = .tup [.one .nils, I 0, I (fewE f l)]) (hm : m' = [])
  | none (hf : FmtOK f) (hg : SngsOK l) (h8 : l.length ≤ 8) (h : ∀ s, s ≤ l.length → packR f l s = none) (hr : r = .tup [.one .nils, I 0, I 15]) (hm : m' = [])
  | some (hf : FmtOK f) (hg : SngsOK l) (h8 : l.length ≤ 8) (s : Nat) (q : List Int) (hs : s ≤ l.length) (h : ∀ j, j < s → packR f l j = none) (hq : packR f l s = some q) (hr : r = .tup [.one (.lst false [.int .i64] (i64s q)), I (s : Int), I 0]) (hm : m' = [])
theorem s22 (f : Fmt) (l : List Sng) (hI : f.nm.size ≤ 9223372036854775807) : HSpec Tryd.prog 31 [f.x, lSng l] [] (PaRs f l) := by
  have ll := sngA_len l
  refine spec_of pMix (O := []) Tryd.func31 (c := bodyOf Tryd.f31) rfl (by kernel_rfl) (by kernel_rfl) Tryd.ntmps31 (res := [.tmp 4, .tmp 5, .tmp 6]) (by kernel_rfl) ?_
  repeat' ((conv => whnf); first | refine Rng.g ?_ | refine Ob.g ?_ | refine Ob.e ?_ | refine Ob.m ?_ | refine Ob.mk (Nat.le_of_ble_eq_true rfl) ?_ | refine JoinVC.on ?_ | refine Nils.mk (fun h => ?_) ?_ | refine Val.t ?_ | refine Val.d ?_ | refine Mm.mk ?_ | (refine Br.mk (fun h => ?_) (fun h => ?_) <;> first | (exfalso; omega; done) | (exfalso; simp at h; done) | skip))
  conv => whnf
  refine CallVC.mk [] _ _ _ rfl rfl rfl (s55 f l hI) (fun r m' h' => ?_)
  rcases h' with ⟨he, rfl, rfl⟩ | ⟨he, rfl, rfl⟩ | ⟨hf, hg, h8, rfl, rfl⟩
  · repeat' ((conv => whnf); first | refine Rng.g ?_ | refine Ob.g ?_ | refine Ob.e ?_ | refine Ob.m ?_ | refine Ob.mk (Nat.le_of_ble_eq_true rfl) ?_ | refine JoinVC.on ?_ | refine Nils.mk (fun h => ?_) ?_ | refine Val.t ?_ | refine Val.d ?_ | refine Mm.mk ?_ | (refine Br.mk (fun h => ?_) (fun h => ?_) <;> first | (exfalso; omega; done) | (exfalso; simp at h; done) | skip))
    repeat refine Mm.mk ?_
    conv => whnf
    refine EndVC.mk _ rfl _ _ (.bad he rfl rfl) ?_
    refine ⟨[], rfl, rfl, ?_, ?_⟩ <;> repeat' (first | exact trivial | exact rfl | exact Iff.rfl | apply And.intro)
  · repeat' ((conv => whnf); first | refine Rng.g ?_ | refine Ob.g ?_ | refine Ob.e ?_ | refine Ob.m ?_ | refine Ob.mk (Nat.le_of_ble_eq_true rfl) ?_ | refine JoinVC.on ?_ | refine Nils.mk (fun h => ?_) ?_ | refine Val.t ?_ | refine Val.d ?_ | refine Mm.mk ?_ | (refine Br.mk (fun h => ?_) (fun h => ?_) <;> first | (exfalso; omega; done) | (exfalso; simp at h; done) | skip))
    repeat refine Mm.mk ?_
    conv => whnf
    refine EndVC.mk _ rfl _ _ (.bad he rfl rfl) ?_
    refine ⟨[], rfl, rfl, ?_, ?_⟩ <;> repeat' (first | exact trivial | exact rfl | exact Iff.rfl | apply And.intro)
  repeat' ((conv => whnf); first | refine Rng.g ?_ | refine Ob.g ?_ | refine Ob.e ?_ | refine Ob.m ?_ | refine Ob.mk (Nat.le_of_ble_eq_true rfl) ?_ | refine JoinVC.on ?_ | refine Nils.mk (fun h => ?_) ?_ | refine Val.t ?_ | refine Val.d ?_ | refine Mm.mk ?_ | (refine Br.mk (fun h => ?_) (fun h => ?_) <;> first | (exfalso; omega; done) | (exfalso; simp at h; done) | skip))
  refine LoopVC.mk (fun n st => ∃ (s : Nat), s ≤ l.length ∧ n = l.length - s ∧ (∀ j, j < s → packR f l j = none) ∧ st = ⟨0, envA 38 [(1, .x (lSng l)), (7, .x (.one (.ptr 0 0))), (9, .int .i64 (s : Int))], [some (bPl f l)]⟩) _ _ ⟨0, Nat.zero_le _, rfl, fun j hj => absurd hj (Nat.not_lt_zero j), rfl⟩ ?_ ?_
  · refine ⟨[some 1], rfl, rfl, ?_, ?_⟩ <;> repeat' (first | exact trivial | exact rfl | exact Iff.rfl | apply And.intro)
  rintro n _ ⟨s, hs, hn, hno, rfl⟩
  repeat' ((conv => whnf); first | refine Rng.g ?_ | refine Ob.g ?_ | refine Ob.e ?_ | refine Ob.m ?_ | refine Ob.mk (Nat.le_of_ble_eq_true rfl) ?_ | refine JoinVC.on ?_ | refine Nils.mk (fun h => ?_) ?_ | refine Val.t ?_ | refine Val.d ?_ | refine Mm.mk ?_ | (refine Br.mk (fun h => ?_) (fun h => ?_) <;> first | (exfalso; omega; done) | (exfalso; simp at h; done) | skip))
  conv => whnf
  refine CallVC.mk [0] _ _ _ rfl rfl rfl (s56 f l hf hg h8 s (by omega)) (fun r m' h' => ?_)
  rcases h' with ⟨hp, rfl, rfl⟩ | ⟨q, hp, rfl, rfl⟩
  · by_cases hs' : s = l.length
    · repeat' ((conv => whnf); first | refine Rng.g ?_ | refine Ob.g ?_ | refine Ob.e ?_ | refine Ob.m ?_ | refine Ob.mk (Nat.le_of_ble_eq_true rfl) ?_ | refine JoinVC.on ?_ | refine Nils.mk (fun h => ?_) ?_ | refine Val.t ?_ | refine Val.d ?_ | refine Mm.mk ?_ | (refine Br.mk (fun h => ?_) (fun h => ?_) <;> first | (exfalso; omega; done) | (exfalso; simp at h; done) | skip))
      repeat refine Mm.mk ?_
      conv => whnf
      refine EndVC.mk _ rfl _ _ (.none hf hg h8 (fun j hj => (by rcases Nat.lt_or_eq_of_le hj with h1 | h1; exact hno j (by omega); rw [h1, ← hs']; exact hp)) rfl rfl) ?_
      refine ⟨[], rfl, rfl, ?_, ?_⟩ <;> repeat' (first | exact trivial | exact rfl | exact Iff.rfl | apply And.intro)
    · repeat' ((conv => whnf); first | refine Rng.g ?_ | refine Ob.g ?_ | refine Ob.e ?_ | refine Ob.m ?_ | refine Ob.mk (Nat.le_of_ble_eq_true rfl) ?_ | refine JoinVC.on ?_ | refine Nils.mk (fun h => ?_) ?_ | refine Val.t ?_ | refine Val.d ?_ | refine Mm.mk ?_ | (refine Br.mk (fun h => ?_) (fun h => ?_) <;> first | (exfalso; omega; done) | (exfalso; simp at h; done) | skip))
      refine Back.mk (l.length - (s + 1)) _ (by omega) ⟨s + 1, by omega, rfl, fun j hj => ?_, rfl⟩ ?_
      · rcases Nat.lt_succ_iff_lt_or_eq.1 hj with h' | rfl
        · exact hno j h'
        · exact hp
      · refine ⟨[some 0], rfl, rfl, ?_, ?_⟩ <;> repeat' (first | exact trivial | exact rfl | exact Iff.rfl | apply And.intro)
  · repeat' ((conv => whnf); first | refine Rng.g ?_ | refine Ob.g ?_ | refine Ob.e ?_ | refine Ob.m ?_ | refine Ob.mk (Nat.le_of_ble_eq_true rfl) ?_ | refine JoinVC.on ?_ | refine Nils.mk (fun h => ?_) ?_ | refine Val.t ?_ | refine Val.d ?_ | refine Mm.mk ?_ | (refine Br.mk (fun h => ?_) (fun h => ?_) <;> first | (exfalso; omega; done) | (exfalso; simp at h; done) | skip))
    repeat refine Mm.mk ?_
    conv => whnf
    refine EndVC.mk _ rfl _ _ (.some hf hg h8 s q hs hno hp rfl rfl) ?_
    refine ⟨[], rfl, rfl, ?_, ?_⟩ <;> repeat' (first | exact trivial | exact rfl | exact Iff.rfl | apply And.intro)
end Go.Sx

namespace Go.Sx
open Go Go.RowKit Go.Proofs
/-! ### What a call answers, seen more coarsely -/
theorem HSpec.le {P : Program} {f : FuncId} {args : List XV} {m : List Blk} {Rs Rs' : AV → List (Option Blk) → Prop} (h : HSpec P f args m Rs) (hq : ∀ r m', Rs r m' → ∃ r2 m2, Rs' r2 m2 ∧ Le ⟨m.length, [r], m'⟩ ⟨m.length, [r2], m2⟩) : HSpec P f args m Rs' := by
  intro w R vs h1 h2
  have fin : ∀ (e : Ending) (w' : World), (∃ v r m' R', e = .returned v ∧ Rs r m' ∧ Fr w R (m.map some) w' R' m' ∧ RepA w' R' r v) → ∃ v r m' R', e = .returned v ∧ Rs' r m' ∧ Fr w R (m.map some) w' R' m' ∧ RepA w' R' r v := by
    rintro e w' ⟨v, r, m', R', g1, g2, g3, g4⟩
    obtain ⟨r2, m2, g5, g6⟩ := hq r m' g2
    obtain ⟨R2, hC⟩ := Le_ok g6 (show Conc w R (m.map some) ⟨m.length, [r], m'⟩ R' { tmps := #[v], defers := [] } w' from ⟨g3, rfl, fun i x hx => by
      cases i with
      | zero => cases hx; exact g4
      | succ i => simp at hx, Marks.nil .., by simp⟩)
    exact ⟨v, r2, m2, R2, g1, g5, hC.fr, hC.env 0 r2 rfl⟩
  rcases h w R vs h1 h2 with ⟨q1, q2⟩ | ⟨v, w', q1, q2⟩
  · exact .inl ⟨q1, q2.mono fin⟩
  · exact .inr ⟨v, w', q1, fin _ _ q2⟩
/-- What is said of no list is said of nil. -/
theorem HSpec.nils {P : Program} {f : FuncId} {pre post : List XV} {m : List Blk} {Rs : AV → List (Option Blk) → Prop} {b : Bool} {ks : List CK} (h : HSpec P f (pre ++ .one (.lst b ks []) :: post) m Rs) : HSpec P f (pre ++ .one .nils :: post) m Rs := fun w R vs hv hm => by
  refine h w R vs ⟨by rw [hv.1]; simp, fun j x hx => ?_⟩ hm
  by_cases e : j = pre.length
  · subst e
    have h1 := hv.2 pre.length (.one .nils) (by simp)
    have h2 : x = .one (.lst b ks []) := by simpa using hx.symm
    subst h2
    have h3 : vs.getD pre.length undef = .slice none 0 0 := h1
    rw [h3]
    exact RepC.sl ks [] none 0 (fun _ _ => undef) (Nat.le_refl _) (fun r hr => absurd hr (by simp)) (fun hr => absurd rfl hr) (fun i r f c k hr => absurd hr (by simp))
  · refine hv.2 j x ?_
    rw [List.getElem?_append] at hx ⊢
    split
    · rename_i hj
      rw [if_pos hj] at hx
      exact hx
    · rename_i hj
      rw [if_neg hj] at hx
      obtain ⟨d, hd⟩ : ∃ d, j - pre.length = d + 1 := ⟨j - pre.length - 1, by omega⟩
      rw [hd] at hx ⊢
      exact hx
open Classical in
/-- Whether all tracks can be arranged, as a code. -/
noncomputable def arE (f : Fmt) (l : List Sng) : Int := if bothE f l ≠ 0 then bothE f l else if LayOK f l (allO l) then 0 else 15
theorem s18q (f : Fmt) (l : List Sng) (hI : f.nm.size ≤ 9223372036854775807) (hl : l.length ≤ 12) : HSpec Tryd.prog 30 [f.x, lSng l] [] (fun r m' => r = .tup [.one .any, I (arE f l)] ∧ m' = []) :=
  (s18 f l hI hl).le fun r m' h => by
    refine ⟨_, _, ⟨rfl, rfl⟩, ?_⟩
    cases h with
    | bad h hr hm =>
      subst hr hm
      have e : arE f l = bothE f l := if_pos h
      rw [e]
      refine ⟨[], rfl, rfl, ?_, ?_⟩ <;> repeat' (first | exact trivial | exact rfl | exact Iff.rfl | apply And.intro)
    | none hf hg hn hr hm =>
      subst hr hm
      have e : arE f l = 15 := (if_neg (fun h => h (bothE_ok hf hg))).trans (if_neg hn)
      rw [e]
      refine ⟨[], rfl, rfl, ?_, ?_⟩ <;> repeat' (first | exact trivial | exact rfl | exact Iff.rfl | apply And.intro)
    | ok hf hg h hr hm =>
      subst hr hm
      have e : arE f l = 0 := (if_neg (fun h => h (bothE_ok hf hg))).trans (if_pos h)
      rw [e]
      refine ⟨[], rfl, rfl, ?_, ?_⟩ <;> repeat' (first | exact trivial | exact rfl | exact Iff.rfl | apply And.intro)
end Go.Sx

namespace Go.Sx
open Go Go.Proofs
set_option maxRecDepth 10000
set_option maxHeartbeats 16000000
/-! ### The worth of a plan -/
structure Wth where
  c : Int
  n : Int
@[reducible] def Wth.x (w : Wth) : XV := .agg [.int .i64 w.c, .int .i64 w.n]
/-- What is known of the variable 'none'. -/
@[reducible] def gNone : Blk := .gbox 1 [.int .i64, .int .i64] [.int (-1), .int 0]
def Wth.none (w : Wth) : Prop := w.c = -1 ∧ w.n = 0
instance (w : Wth) : Decidable w.none := by unfold Wth.none; exact inferInstance
/-- Whether a worth is better than another one. -/
def lessW (w v : Wth) : Prop := ((v.none ∨ w.none) ∧ ¬ w.none) ∨ (¬ (v.none ∨ w.none) ∧ (w.c < v.c ∨ w.c = v.c ∧ w.n < v.n))
instance (w v : Wth) : Decidable (lessW w v) := by unfold lessW; exact inferInstance
theorem s64w (w v : Wth) : HSpec Tryd.prog 64 [w.x, v.x] [gNone] (fun r m' => r = xP (lessW w v) ∧ m' = [some gNone]) := by
  have e0 : rI [[Cell.int (-1), Cell.int 0]] 0 0 = -1 := rfl
  have e1 : rI [[Cell.int (-1), Cell.int 0]] 0 (0 + 1) = 0 := rfl
  have hw : w.none ↔ (w.c = -1 ∧ w.n = 0) := Iff.rfl
  have hv : v.none ↔ (v.c = -1 ∧ v.n = 0) := Iff.rfl
  unfold lessW
  refine spec_of pMix (O := []) Tryd.func64 (c := bodyOf Tryd.f64) rfl (by kernel_rfl) (by kernel_rfl) Tryd.ntmps64 (res := [.tmp 4]) (by kernel_rfl) ?_
  repeat' ((conv => whnf); first | rw [e0] | rw [e1] | refine Rng.g ?_ | refine Ob.g ?_ | refine Ob.e ?_ | refine Ob.m ?_ | refine Ob.mk (Nat.le_of_ble_eq_true rfl) ?_ | refine JoinVC.on ?_ | refine Nils.mk (fun h => ?_) ?_ | refine Val.t ?_ | refine Val.d ?_ | refine Mm.mk ?_ | (refine Br.mk (fun h => ?_) (fun h => ?_) <;> first | (exfalso; omega; done) | (exfalso; simp at h; done) | skip))
  all_goals
    conv => whnf
    refine EndVC.mk _ rfl _ _ ⟨rfl, rfl⟩ ?_
    refine ⟨[some 0], rfl, rfl, ?_, ?_⟩ <;> repeat' (first | exact trivial | exact rfl | exact Iff.rfl | apply And.intro)
  · have a : v.c = -1 ∧ v.n = 0 ∧ True := by assumption
    simp only [and_true] at a
    show ¬ (w.c = -1 ∧ w.n = 0 ∧ True) ↔ _
    simp only [Wth.none, and_true]
    omega
  · have a : w.c = -1 ∧ w.n = 0 ∧ True := by assumption
    simp only [and_true] at a
    show ¬ (w.c = -1 ∧ w.n = 0 ∧ True) ↔ _
    simp only [Wth.none, and_true]
    omega
  all_goals
    have a : ¬ (v.c = -1 ∧ v.n = 0 ∧ True) := by assumption
    have b : ¬ (w.c = -1 ∧ w.n = 0 ∧ True) := by assumption
    simp only [and_true] at a b
  · show (_ ∨ _)
    simp only [Wth.none]
    omega
  · show (w.n < v.n) ↔ _
    simp only [Wth.none]
    omega
  · show ¬ (_ ∨ _)
    simp only [Wth.none]
    omega
/-! ### Arrays of pairs -/
def pcs (W : List Wth) : List SV := W.flatMap fun w => [.int .i64 w.c, .int .i64 w.n]
@[reducible] def bWs (W : List Wth) : Blk := .box 87 (pcs W)
@[reducible] def bFs (W : List Wth) : Blk := .box 88 (pcs W)
def w0 : Wth := ⟨0, 0⟩
theorem pcs_set : ∀ (W : List Wth) (k : Nat) (a b : Int), ((pcs W).set (k * 2) (SV.int .i64 a)).set (k * 2 + 1) (SV.int .i64 b) = pcs (W.set k ⟨a, b⟩)
  | [], k, a, b => by simp [pcs]
  | w :: W, 0, a, b => by simp [pcs]
  | w :: W, k + 1, a, b => by
    have h := pcs_set W k a b
    have e1 : (k + 1) * 2 = k * 2 + 1 + 1 := by omega
    rw [e1]
    simp only [pcs, List.flatMap_cons, List.cons_append, List.nil_append, List.set_cons_succ] at h ⊢
    rw [h]
theorem pcs_at : ∀ (W : List Wth) (k : Nat), k < W.length → ((pcs W).drop (k * 2)).take 2 = [SV.int .i64 (W.getD k w0).c, SV.int .i64 (W.getD k w0).n]
  | [], k, h => absurd h (Nat.not_lt_zero k)
  | w :: W, 0, _ => by simp [pcs]
  | w :: W, k + 1, h => by
    have h1 := pcs_at W k (by simpa using h)
    have e1 : (k + 1) * 2 = k * 2 + 1 + 1 := by omega
    rw [e1]
    simpa [pcs] using h1
theorem pcs_len (W : List Wth) : (pcs W).length = W.length * 2 := by
  induction W with
  | nil => rfl
  | cons w W ih => simp only [pcs, List.flatMap_cons, List.length_append, List.length_cons, List.length_nil] at ih ⊢; omega
/-- A pair is written. -/
theorem pw_set (W : List Wth) (k : Nat) (a b : Int) (K : List SV → Prop) : setsL (pcs W) (0 + k * (0 + 1 + 1)) (xvCells (.agg [.int .i64 a, .int .i64 b])) K = K (pcs (W.set k ⟨a, b⟩)) := by
  rw [show xvCells (.agg [.int .i64 a, .int .i64 b]) = [SV.int .i64 a, SV.int .i64 b] from rfl, setsL_eq]
  rw [← pcs_set]
  simp [setAll]
theorem pw_ble (W : List Wth) (k n : Nat) (hn : n ≤ 2) (hk : k < W.length) : (0 + k * (0 + 1 + 1) + n).ble (lenL (pcs W)) = true := by
  rw [lenL_eq, pcs_len]
  exact Nat.ble_eq_true_of_le (by omega)
theorem pw_get (W : List Wth) (k : Nat) (hk : k < W.length) : takeL (dropL (pcs W) (0 + k * (0 + 1 + 1))) 2 = [SV.int .i64 (W.getD k w0).c, SV.int .i64 (W.getD k w0).n] := by
  rw [takeL_eq, dropL_eq, ← pcs_at W k hk]
  simp
theorem pcs_le (k : Nat) (mm : List (Option Blk)) (r : List (Option Nat)) : ∀ W : List Wth, leSs k mm r (pcs W) (pcs W)
  | [] => trivial
  | _ :: W => ⟨⟨rfl, rfl⟩, ⟨rfl, rfl⟩, pcs_le k mm r W⟩
theorem pcs_all (W : List Wth) (n : Nat) (hn : n = W.length * 2) : takeL (dropL (pcs W) (0 + 0)) n = pcs W := by
  rw [takeL_eq, dropL_eq, show (0 + 0 : Nat) = 0 from rfl, List.drop_zero]
  exact List.take_of_length_le (by rw [pcs_len]; omega)
theorem setAll_full : ∀ (vs l : List SV) (n : Nat), l.length = n + vs.length → setAll l n vs = l.take n ++ vs
  | [], l, n, h => by
    simp only [List.length_nil, Nat.add_zero] at h
    rw [List.append_nil, List.take_of_length_le (by omega)]
    rfl
  | v :: vs, l, n, h => by
    simp only [List.length_cons] at h
    show setAll (l.set n v) (n + 1) vs = _
    rw [setAll_full vs (l.set n v) (n + 1) (by rw [List.length_set]; omega)]
    rw [List.take_succ_eq_append_getElem (by rw [List.length_set]; omega), List.take_set_of_le (Nat.le_refl n)]
    simp
/-- A whole array is written. -/
theorem sets_full (l vs : List SV) (K : List SV → Prop) (h : l.length = vs.length) : setsL l (0 + 0) vs K = K vs := by
  rw [setsL_eq, show (0 + 0 : Nat) = 0 from rfl, setAll_full vs l 0 (by omega)]
  rfl
theorem sz87 : Tryd.t87.size = 50 := by kernel_rfl
theorem sz88 : Tryd.t88.size = 48 := by kernel_rfl
theorem sz86 : Tryd.t86.size = 2 := by kernel_rfl
theorem sz69 : Tryd.t69.size = 2 := by kernel_rfl
noncomputable def rf46 : Code := cB (cS (cS (cB (cF (cS (cL (cB (cS (cF (cS (cS (cS (bodyOf Tryd.f46)))))))))))))
/-! ### What the arrays hold -/
def wOf : EntW → Wth
  | some (w, _) => ⟨w.1, w.2⟩
  | none => ⟨-1, 0⟩
def fOf (i : Nat) : EntW → Wth
  | some (_, q) => ⟨(q.1 : Int), (q.2 : Int) - (i : Int)⟩
  | none => ⟨0, 0⟩
/-- The entries from a track on are known. -/
structure ArrOK (F : List Fmt) (l : List Sng) (i : Nat) (W Fa : List Wth) : Prop where
  lw : W.length = 25
  lf : Fa.length = 24
  w : ∀ t, i ≤ t → t ≤ l.length → W.getD t w0 = wOf (bst F l t)
  f : ∀ t e, i ≤ t → t < l.length → bst F l t = some e → Fa.getD t w0 = fOf t (some e)
theorem bst_bd {F : List Fmt} {l : List Sng} (hA : AlbOK F l) {i : Nat} (hi : i ≤ l.length) {w : Int × Int} {q : Nat × Nat} (h : bst F l i = some (w, q)) : (0 ≤ w.1 ∧ w.1 ≤ 1048576 * ((l.length : Int) - i)) ∧ 0 ≤ w.2 ∧ w.2 ≤ (l.length : Int) - i := by
  obtain ⟨h1, h2, h3⟩ := planB_ok (F := F) (l := l) l.length i w q (by omega) hi h
  have key : ∀ (pl : List (Nat × Nat)) (i : Nat), i ≤ l.length → PlanOK F l i pl → (0 ≤ costP F pl ∧ costP F pl ≤ 1048576 * ((l.length : Int) - i)) ∧ (pl.length : Int) ≤ (l.length : Int) - i := by
    intro pl
    induction pl with
    | nil =>
      intro i hi h
      have e : i = l.length := h
      subst e
      simp [costP]
    | cons p t ih =>
      obtain ⟨k, m⟩ := p
      intro i hi h
      have h4 := h.1.lt
      have h5 := h.1.le
      obtain ⟨g1, g2⟩ := ih (i + m) h5 h.2
      have g3 := (hA.fmts k h.1.fmt).cost
      simp only [costP, List.length_cons]
      omega
  obtain ⟨g1, g2⟩ := key _ i hi h1
  rw [h2] at g1
  rw [h3] at g2
  refine ⟨g1, ?_, g2⟩
  rw [← h3]
  omega
/-- .. and the one of a track, of these faces. -/
structure InOK (F : List Fmt) (l : List Sng) (x : Nat) (acc : EntW) (W Fa : List Wth) : Prop where
  lw : W.length = 25
  lf : Fa.length = 24
  w : ∀ t, x < t → t ≤ l.length → W.getD t w0 = wOf (bst F l t)
  wx : W.getD x w0 = wOf acc
  f : ∀ t e, x < t → t < l.length → bst F l t = some e → Fa.getD t w0 = fOf t (some e)
  fx : ∀ e, acc = some e → Fa.getD x w0 = fOf x (some e)
theorem ArrOK.start {F : List Fmt} {l : List Sng} {x : Nat} {W Fa : List Wth} (h : ArrOK F l (x + 1) W Fa) (hx : x < 25) : InOK F l x none (W.set x ⟨-1, 0⟩) Fa := by
  have lw := h.lw
  refine ⟨by rw [List.length_set]; exact h.lw, h.lf, fun t h1 h2 => ?_, ?_, fun t e h1 h2 => h.f t e h1 h2, fun e he => by cases he⟩
  · rw [gset _ _ _ _ _ (by omega), if_neg (by omega)]
    exact h.w t h1 h2
  · rw [gset _ _ _ _ _ (by omega), if_pos rfl]
    rfl
theorem InOK.fin {F : List Fmt} {l : List Sng} {x : Nat} {W Fa : List Wth} (hx : x < l.length) (h : InOK F l x ((facesL F l x).foldl (stepE F (bst F l)) none) W Fa) : ArrOK F l x W Fa := by
  rw [← bst_at hx] at h
  refine ⟨h.lw, h.lf, fun t h1 h2 => ?_, fun t e h1 h2 he => ?_⟩
  · by_cases e : t = x
    · subst e; exact h.wx
    · exact h.w t (by omega) h2
  · by_cases ex : t = x
    · subst ex; exact h.fx e he
    · exact h.f t e (by omega) h2 he
/-- A face that does not help. -/
theorem InOK.skip {F : List Fmt} {l : List Sng} {x : Nat} {acc : EntW} {W Fa : List Wth} (h : InOK F l x acc W Fa) {p : Nat × Nat} (he : stepE F (bst F l) acc p = acc) : InOK F l x (stepE F (bst F l) acc p) W Fa := by rw [he]; exact h
/-- A face that is better. -/
theorem InOK.put {F : List Fmt} {l : List Sng} {x : Nat} {acc : EntW} {W Fa : List Wth} (h : InOK F l x acc W Fa) (hx : x < 24) {p : Nat × Nat} {e : (Int × Int) × (Nat × Nat)} (he : stepE F (bst F l) acc p = some e) : InOK F l x (stepE F (bst F l) acc p) (W.set x (wOf (some e))) (Fa.set x (fOf x (some e))) := by
  have lw := h.lw
  have lf := h.lf
  rw [he]
  refine ⟨by rw [List.length_set]; exact h.lw, by rw [List.length_set]; exact h.lf, fun t h1 h2 => ?_, ?_, fun t e' h1 h2 he' => ?_, fun e' he' => ?_⟩
  · rw [gset _ _ _ _ _ (by omega), if_neg (by omega)]
    exact h.w t h1 h2
  · rw [gset _ _ _ _ _ (by omega), if_pos rfl]
  · rw [gset _ _ _ _ _ (by omega), if_neg (by omega)]
    exact h.f t e' h1 h2 he'
  · cases he'
    rw [gset _ _ _ _ _ (by omega), if_pos rfl]
/-- One face more. -/
theorem step_h2 {F : List Fmt} {l : List Sng} (hA : AlbOK F l) {x : Nat} {acc : EntW} {W Fa : List Wth} (hx : x < 24) (hQ : InOK F l x acc W Fa) {L : List (Nat × Nat)} (hacc : L.foldl (stepE F (bst F l)) none = acc) (hL : ∀ p, p ∈ L → faceP F l p.1 x p.2) {k j : Nat} (hf : faceP F l k x j) {d : Int} (hd : d = (j : Int) - x) :
    (¬ (W.getD j w0).none → (0 ≤ (W.getD j w0).c ∧ (W.getD j w0).c ≤ 100000000) ∧ 0 ≤ (W.getD j w0).n ∧ (W.getD j w0).n ≤ 100) ∧ ((W.getD x w0).c ≤ 100000000 ∧ (W.getD x w0).n ≤ 100 ∧ -1 ≤ (W.getD x w0).c ∧ 0 ≤ (W.getD x w0).n) ∧ ∃ W2 Fa2,
    (((W.getD j w0).none ∧ W2 = W ∧ Fa2 = Fa) ∨ (¬ (W.getD j w0).none ∧ ¬ lessW ⟨(W.getD j w0).c + (F.getD k f0).cost, (W.getD j w0).n + 1⟩ (W.getD x w0) ∧ W2 = W ∧ Fa2 = Fa) ∨ (¬ (W.getD j w0).none ∧ lessW ⟨(W.getD j w0).c + (F.getD k f0).cost, (W.getD j w0).n + 1⟩ (W.getD x w0) ∧ W2 = W.set x ⟨(W.getD j w0).c + (F.getD k f0).cost, (W.getD j w0).n + 1⟩ ∧ Fa2 = Fa.set x ⟨(k : Int), d⟩)) ∧ InOK F l x (stepE F (bst F l) acc (k, j)) W2 Fa2 := by
  have hlt := hf.lt
  have hle := hf.le
  have h24 := hA.sngs.len
  have hco := (hA.fmts k hf.fmt).cost
  have hj := hQ.w j hlt hle
  have hxw := hQ.wx
  have hcur : (W.getD x w0).c ≤ 100000000 ∧ (W.getD x w0).n ≤ 100 ∧ -1 ≤ (W.getD x w0).c ∧ 0 ≤ (W.getD x w0).n := by
    rw [hxw]
    cases ha : acc with
    | none => simp [wOf]
    | some e =>
      obtain ⟨v, q⟩ := e
      obtain ⟨h1, w, f, h2, h3⟩ := (foldE_ok F (bst F l) L).from_ v q (by rw [hacc]; exact ha)
      have h4 := hL q h1
      obtain ⟨h5, h6, h7⟩ := bst_bd hA h4.le h2
      have h8 := (hA.fmts q.1 h4.fmt).cost
      have h9 := h4.lt
      have h10 := h4.le
      rw [h3]
      simp only [wOf]
      omega
  refine ⟨?_, hcur, ?_⟩
  · rw [hj]
    cases hb : bst F l j with
    | none => exact fun h => absurd ⟨rfl, rfl⟩ h
    | some e =>
      obtain ⟨w, f⟩ := e
      obtain ⟨h5, h6, h7⟩ := bst_bd hA hle hb
      intro _
      simp only [wOf]
      omega
  · rw [hj, hxw]
    cases hb : bst F l j with
    | none =>
      have hst : stepE F (bst F l) acc (k, j) = acc := by unfold stepE; rw [hb]
      exact ⟨W, Fa, .inl ⟨⟨rfl, rfl⟩, rfl, rfl⟩, hQ.skip hst⟩
    | some e =>
      obtain ⟨w, f⟩ := e
      obtain ⟨⟨h5, h5'⟩, h6, h7⟩ := bst_bd hA hle hb
      have hnn : ¬ (wOf (some (w, f))).none := fun h => by have := h.1; simp only [wOf] at this; omega
      cases ha : acc with
      | none =>
        have hst : stepE F (bst F l) acc (k, j) = some ((w.1 + (F.getD k f0).cost, w.2 + 1), (k, j)) := by unfold stepE; rw [hb, ha]
        refine ⟨_, _, .inr (.inr ⟨hnn, ?_, rfl, rfl⟩), ?_⟩
        · refine .inl ⟨.inl ⟨rfl, rfl⟩, fun h => ?_⟩
          have := h.1
          simp only [wOf] at this
          omega
        · have := hQ.put hx hst
          rw [hd]
          rw [← ha]
          exact this
      | some e2 =>
        obtain ⟨v, q⟩ := e2
        have hvn : ¬ (wOf (some (v, q))).none := fun h => by
          obtain ⟨h1, w', f', h2, h3⟩ := (foldE_ok F (bst F l) L).from_ v q (by rw [hacc]; exact ha)
          have h4 := hL q h1
          obtain ⟨g5, _, _⟩ := bst_bd hA h4.le h2
          have h8 := (hA.fmts q.1 h4.fmt).cost
          have := h.1
          rw [h3] at this
          simp only [wOf] at this
          omega
        have hnew : ¬ (⟨w.1 + (F.getD k f0).cost, w.2 + 1⟩ : Wth).none := fun h => by have := h.1; simp only at this; omega
        by_cases hlt2 : ltW (w.1 + (F.getD k f0).cost, w.2 + 1) v
        · have hst : stepE F (bst F l) acc (k, j) = some ((w.1 + (F.getD k f0).cost, w.2 + 1), (k, j)) := by
            unfold stepE
            rw [hb, ha]
            exact if_pos hlt2
          refine ⟨_, _, .inr (.inr ⟨hnn, .inr ⟨fun h => h.elim hvn hnew, hlt2⟩, rfl, rfl⟩), ?_⟩
          have := hQ.put hx hst
          rw [hd]
          rw [← ha]
          exact this
        · have hst : stepE F (bst F l) acc (k, j) = acc := by
            unfold stepE
            rw [hb, ha]
            exact if_neg hlt2
          refine ⟨W, Fa, .inr (.inl ⟨hnn, fun h => ?_, rfl, rfl⟩), ?_⟩
          · rcases h with h | h
            · exact h.1.elim hvn hnew
            · exact hlt2 h.2
          · rw [← ha]
            exact hQ.skip hst
end Go.Sx

namespace Go.Sx
open Go Go.Proofs
set_option maxRecDepth 10000
set_option maxHeartbeats 16000000
@[reducible] noncomputable def MB (F : List Fmt) (l : List Sng) (x : Nat) (Z : List Int) (W' Fa' : List Wth) : List (Option Blk) := [some gNone, some (bAlb F l (l.length : Int)), some (.box 82 [.ptr 1 0]), some (bWs (List.replicate 25 w0)), some (bFs (List.replicate 24 w0)), some (bWs W'), some (bFs Fa'), some (.box 3 [.int .i64 (x : Int)]), some (.box 82 [.ptr 1 0]), some (.box 3 [.int .i64 (x : Int)]), some (.loop [25] (cAs rf46) (cBo rf46) (envA 68 [(1, .x (.one (.ptr 2 0))), (2, .x (.one (.ptr 3 0))), (3, .x (.one (.ptr 4 0))), (4, .x (.one (.ptr 5 0))), (5, .x (.one (.ptr 6 0))), (6, .x (.one (.ptr 7 0)))]) .ready), some (rowOd Z)]
@[reducible] def fcX (k : Nat) (d : Int) : XV := .agg [.int .i64 (k : Int), .int .i64 d]
theorem rnd46 (F : List Fmt) (l : List Sng) (hA : AlbOK F l) (x : Nat) (Z : List Int) (W Fa : List Wth) (lW : W.length = 25) (lF : Fa.length = 24) (hx : x < 24) (k : Nat) (hk : k < F.length) (d : Int) (j : Nat) (hj : j < 25) (ejt : ((x : Int) + d).toNat = j) (hd : 0 ≤ (x : Int) + d) (rest cur : Wth) (hrest : W.getD j w0 = rest) (hcur : W.getD x w0 = cur) (hr : ¬ rest.none → (0 ≤ rest.c ∧ rest.c ≤ 100000000) ∧ 0 ≤ rest.n ∧ rest.n ≤ 100) (_ : cur.c ≤ 100000000 ∧ cur.n ≤ 100 ∧ -1 ≤ cur.c ∧ 0 ≤ cur.n) (W2 Fa2 : List Wth)
    (h2 : (rest.none ∧ W2 = W ∧ Fa2 = Fa) ∨ (¬ rest.none ∧ ¬ lessW ⟨rest.c + (F.getD k f0).cost, rest.n + 1⟩ cur ∧ W2 = W ∧ Fa2 = Fa) ∨ (¬ rest.none ∧ lessW ⟨rest.c + (F.getD k f0).cost, rest.n + 1⟩ cur ∧ W2 = W.set x ⟨rest.c + (F.getD k f0).cost, rest.n + 1⟩ ∧ Fa2 = Fa.set x ⟨(k : Int), d⟩)) :
    RSem Tryd.prog 10 [fcX k d] (MB F l x Z W Fa) (fun bb m' => bb = true ∧ m' = MB F l x Z W2 Fa2) := by
  have hf := hA.fmts k hk
  have hco := hf.cost
  have h8 := hA.few
  have lpl := plsA_len F l
  have ext : (x : Int).toNat = x := Int.toNat_natCast x
  have gk : rA (plsA F l) (k : Int).toNat 0 = plA (F.getD k f0) l := by rw [Int.toNat_natCast]; exact plsA_at F l k hk
  have gc : rI (plA (F.getD k f0) l) 0 (0 + 0 + (0 + 1 + 1 + 1 + 1 + 1 + 1 + 1)) = (F.getD k f0).cost := rfl
  have e0 : rI [[Cell.int (-1), Cell.int 0]] 0 0 = -1 := rfl
  have e1 : rI [[Cell.int (-1), Cell.int 0]] 0 (0 + 1) = 0 := rfl
  have b1 := pw_ble W j Tryd.t86.size (by rw [sz86]; exact Nat.le_refl 2) (by omega)
  have g1 : takeL (dropL (pcs W) (0 + j * (0 + 1 + 1))) Tryd.t86.size = [SV.int .i64 (W.getD j w0).c, SV.int .i64 (W.getD j w0).n] := by rw [sz86]; exact pw_get W j (by omega)
  have b2 := pw_ble W x Tryd.t86.size (by rw [sz86]; exact Nat.le_refl 2) (by omega)
  have g2 : takeL (dropL (pcs W) (0 + x * (0 + 1 + 1))) Tryd.t86.size = [SV.int .i64 (W.getD x w0).c, SV.int .i64 (W.getD x w0).n] := by rw [sz86]; exact pw_get W x (by omega)
  have b3 := pw_ble Fa x Tryd.t69.size (by rw [sz69]; exact Nat.le_refl 2) (by omega)
  rw [hrest] at g1
  rw [hcur] at g2
  refine RSem.le (rsem_of_awp (Q := fun bb m' => ∃ m2, (bb = true ∧ m2 = MB F l x Z W2 Fa2) ∧ Le ⟨(MB F l x Z W Fa).length, [], m'⟩ ⟨(MB F l x Z W Fa).length, [], m2⟩) pMix ([(11, ([19], [⟨0, [], []⟩, ⟨1, [], []⟩, ⟨2, [], []⟩, ⟨3, [], []⟩, ⟨4, [], []⟩, ⟨5, [], []⟩, ⟨6, [], []⟩, ⟨7, [], []⟩, ⟨8, [], []⟩, ⟨9, [], []⟩, ⟨10, [], []⟩, ⟨11, [], []⟩, ⟨12, [], []⟩, ⟨13, [], []⟩, ⟨14, [], []⟩, ⟨15, [], []⟩, ⟨16, [], []⟩, ⟨17, [], []⟩, ⟨18, [], []⟩, ⟨19, [], []⟩, ⟨20, [], []⟩])), (13, ([], [⟨0, [], []⟩, ⟨1, [], []⟩, ⟨2, [], []⟩, ⟨3, [], []⟩, ⟨4, [], []⟩, ⟨5, [1, 3], []⟩, ⟨6, [], []⟩, ⟨7, [], []⟩])), (16, ([], [⟨0, [], []⟩, ⟨1, [], []⟩, ⟨2, [1], []⟩, ⟨3, [], []⟩]))]) rfl (by kernel_rfl) ?_) (fun bb m' h => by obtain ⟨m2, h1, h2⟩ := h; exact ⟨m2, h1, h2⟩)
  have hrn : rest.none ↔ (rest.c = -1 ∧ rest.n = 0) := Iff.rfl
  by_cases hn : rest.none
  · have hn2 := hrn.1 hn
    obtain ⟨rfl, rfl⟩ : W2 = W ∧ Fa2 = Fa := by
      rcases h2 with ⟨_, h⟩ | ⟨h, _⟩ | ⟨h, _⟩
      · exact h
      · exact absurd hn h
      · exact absurd hn h
    repeat' ((conv => whnf); first | rw [ejt] | rw [b1] | rw [g1] | rw [e0] | rw [e1] | refine Rng.g ?_ | refine Ob.g ?_ | refine Ob.e ?_ | refine Ob.m ?_ | refine Ob.mk (Nat.le_of_ble_eq_true rfl) ?_ | refine JoinVC.on ?_ | refine Nils.mk (fun h => ?_) ?_ | refine Val.t ?_ | refine Val.d ?_ | refine Mm.mk ?_ | (refine Br.mk (fun h => ?_) (fun h => ?_) <;> first | (exfalso; omega; done) | (exfalso; simp at h; done) | (exfalso; simp [hn2] at h; done) | skip))
    refine ⟨_, ⟨rfl, rfl⟩, [some 0, some 1, some 2, some 3, some 4, some 5, some 6, some 7, some 8, some 9, some 10, some 11], rfl, rfl, ?_, ?_⟩ <;> repeat' (first | exact trivial | exact rfl | exact Iff.rfl | exact pcs_le _ _ _ _ | apply And.intro)
  · have hn2 : ¬ (rest.c = -1 ∧ rest.n = 0) := fun h => hn (hrn.2 h)
    have hr' := hr hn
    repeat' ((conv => whnf); first | rw [ejt] | rw [ext] | rw [b1] | rw [g1] | rw [e0] | rw [e1] | rw [b2] | rw [g2] | rw [gk] | rw [gc] | refine Rng.g ?_ | refine Ob.g ?_ | refine Ob.e ?_ | refine Ob.m ?_ | refine Ob.mk (Nat.le_of_ble_eq_true rfl) ?_ | refine JoinVC.on ?_ | refine Nils.mk (fun h => ?_) ?_ | refine Val.t ?_ | refine Val.d ?_ | refine Mm.mk ?_ | (refine Br.mk (fun h => ?_) (fun h => ?_) <;> first | (exfalso; omega; done) | (exfalso; simp at h; done) | (exfalso; simp [hn2] at h; done) | skip))
    conv => whnf
    refine CallVC.mk [0] _ _ _ rfl rfl rfl (s64w ⟨rest.c + (F.getD k f0).cost, rest.n + 1⟩ cur) (fun r m' h' => ?_)
    obtain ⟨rfl, rfl⟩ := h'
    conv => whnf
    by_cases hl : lessW ⟨rest.c + (F.getD k f0).cost, rest.n + 1⟩ cur
    · obtain ⟨rfl, rfl⟩ : W2 = W.set x ⟨rest.c + (F.getD k f0).cost, rest.n + 1⟩ ∧ Fa2 = Fa.set x ⟨(k : Int), d⟩ := by
        rcases h2 with ⟨h, _⟩ | ⟨_, h, _⟩ | ⟨_, _, h⟩
        · exact absurd h hn
        · exact absurd hl h
        · exact h
      repeat' ((conv => whnf); first | rw [ext] | rw [b2, pw_set] | rw [b3, pw_set] | rw [fSs_eq] | refine Rng.g ?_ | refine Ob.g ?_ | refine Ob.e ?_ | refine Ob.m ?_ | refine Ob.mk (Nat.le_of_ble_eq_true rfl) ?_ | refine JoinVC.on ?_ | refine Nils.mk (fun h => ?_) ?_ | refine Val.t ?_ | refine Val.d ?_ | refine Mm.mk ?_ | (refine Br.mk (fun h => ?_) (fun h => ?_) <;> first | (exfalso; omega; done) | (exfalso; simp at h; done) | skip))
      all_goals first | contradiction | skip
      refine ⟨_, ⟨rfl, rfl⟩, [some 0, some 1, some 2, some 3, some 4, some 5, some 6, some 7, some 8, some 9, some 10, some 11], rfl, rfl, ?_, ?_⟩ <;> repeat' (first | exact trivial | exact rfl | exact Iff.rfl | exact pcs_le _ _ _ _ | apply And.intro)
    · obtain ⟨rfl, rfl⟩ : W2 = W ∧ Fa2 = Fa := by
        rcases h2 with ⟨h, _⟩ | ⟨_, _, h⟩ | ⟨_, h, _⟩
        · exact absurd h hn
        · exact h
        · exact absurd h hl
      repeat' ((conv => whnf); first | rw [ext] | rw [b2, pw_set] | rw [b3, pw_set] | rw [fSs_eq] | refine Rng.g ?_ | refine Ob.g ?_ | refine Ob.e ?_ | refine Ob.m ?_ | refine Ob.mk (Nat.le_of_ble_eq_true rfl) ?_ | refine JoinVC.on ?_ | refine Nils.mk (fun h => ?_) ?_ | refine Val.t ?_ | refine Val.d ?_ | refine Mm.mk ?_ | (refine Br.mk (fun h => ?_) (fun h => ?_) <;> first | (exfalso; omega; done) | (exfalso; simp at h; done) | skip))
      all_goals first | contradiction | skip
      refine ⟨_, ⟨rfl, rfl⟩, [some 0, some 1, some 2, some 3, some 4, some 5, some 6, some 7, some 8, some 9, some 10, some 11], rfl, rfl, ?_, ?_⟩ <;> repeat' (first | exact trivial | exact rfl | exact Iff.rfl | exact pcs_le _ _ _ _ | apply And.intro)
end Go.Sx

namespace Go.Sx
open Go Go.Proofs
set_option maxRecDepth 10000
set_option maxHeartbeats 16000000
theorem res87 (W : List Wth) (lW : W.length = 25) (s : St) (id : Nat) (h1 : s.get 2 = .x (.one (.ptr id 0))) (h2 : s.blk id = some (.box 87 (pcs W))) : resV Tryd.prog s (.cell 2 87) = some (.agg (pcs W)) := by
  have c1 : cellsOf Tryd.prog 87 = some Tryd.t87.size := by kernel_rfl
  have c2 : aggSize Tryd.prog 87 = some (some Tryd.t87.size) := by kernel_rfl
  have n1 : (0 + Tryd.t87.size).ble (lenL (pcs W)) = true := by rw [lenL_eq, pcs_len, lW, sz87]; rfl
  have a1 : takeL (dropL (pcs W) 0) Tryd.t87.size = pcs W := pcs_all W Tryd.t87.size (by rw [sz87, lW])
  unfold resV
  simp only [h1, c1, c2, h2, n1, a1, if_true]
theorem res88 (W : List Wth) (lW : W.length = 24) (s : St) (id : Nat) (h1 : s.get 3 = .x (.one (.ptr id 0))) (h2 : s.blk id = some (.box 88 (pcs W))) : resV Tryd.prog s (.cell 3 88) = some (.agg (pcs W)) := by
  have c1 : cellsOf Tryd.prog 88 = some Tryd.t88.size := by kernel_rfl
  have c2 : aggSize Tryd.prog 88 = some (some Tryd.t88.size) := by kernel_rfl
  have n1 : (0 + Tryd.t88.size).ble (lenL (pcs W)) = true := by rw [lenL_eq, pcs_len, lW, sz88]; rfl
  have a1 : takeL (dropL (pcs W) 0) Tryd.t88.size = pcs W := pcs_all W Tryd.t88.size (by rw [sz88, lW])
  unfold resV
  simp only [h1, c1, c2, h2, n1, a1, if_true]
theorem noAny_pcs : ∀ W : List Wth, noAny (pcs W) = true
  | [] => rfl
  | _ :: W => noAny_pcs W
theorem s46b (F : List Fmt) (l : List Sng) (hA : AlbOK F l) : HSpec Tryd.prog 46 [.one (.ptr 1 0)] [gNone, bAlb F l (l.length : Int)] (fun r m' => ∃ W Fa, ArrOK F l 0 W Fa ∧ r = .tup [.agg (pcs W), .agg (pcs Fa)] ∧ m' = [some gNone, some (bAlb F l (l.length : Int))]) := by
  have h24 := hA.sngs.len
  refine spec_of pMix (O := [(11, ([19], [⟨0, [], []⟩, ⟨1, [], []⟩, ⟨2, [], []⟩, ⟨3, [], []⟩, ⟨4, [], []⟩, ⟨5, [], []⟩, ⟨6, [], []⟩, ⟨7, [], []⟩, ⟨8, [], []⟩, ⟨9, [], []⟩, ⟨10, [], []⟩, ⟨11, [], []⟩, ⟨12, [], []⟩, ⟨13, [], []⟩, ⟨14, [], []⟩, ⟨15, [], []⟩, ⟨16, [], []⟩, ⟨17, [], []⟩, ⟨18, [], []⟩, ⟨19, [], []⟩, ⟨20, [], []⟩])), (13, ([], [⟨0, [], []⟩, ⟨1, [], []⟩, ⟨2, [], []⟩, ⟨3, [], []⟩, ⟨4, [], []⟩, ⟨5, [1, 3], []⟩, ⟨6, [], []⟩, ⟨7, [], []⟩])), (16, ([], [⟨0, [], []⟩, ⟨1, [], []⟩, ⟨2, [1], []⟩, ⟨3, [], []⟩]))]) Tryd.func46 (c := bodyOf Tryd.f46) rfl (by kernel_rfl) (by kernel_rfl) Tryd.ntmps46 (res := [.cell 2 87, .cell 3 88]) (by kernel_rfl) ?_
  repeat' ((conv => whnf); first | refine Rng.g ?_ | refine Ob.g ?_ | refine Ob.e ?_ | refine Ob.m ?_ | refine Ob.mk (Nat.le_of_ble_eq_true rfl) ?_ | refine JoinVC.on ?_ | refine Nils.mk (fun h => ?_) ?_ | refine Val.t ?_ | refine Val.d ?_ | refine Mm.mk ?_ | (refine Br.mk (fun h => ?_) (fun h => ?_) <;> first | (exfalso; omega; done) | (exfalso; simp at h; done) | skip))
  refine LoopVC.mk (fun m st => ∃ (i : Nat) (W Fa : List Wth), i ≤ l.length ∧ m = i ∧ ArrOK F l i W Fa ∧ st = ⟨2, envA 68 [(1, .x (.one (.ptr 2 0))), (2, .x (.one (.ptr 3 0))), (3, .x (.one (.ptr 4 0))), (4, .x (.one (.ptr 5 0))), (5, .x (.one (.ptr 6 0))), (6, .x (.one (.ptr 7 0)))], [some gNone, some (bAlb F l (l.length : Int)), some (.box 82 [.ptr 1 0]), some (bWs (List.replicate 25 w0)), some (bFs (List.replicate 24 w0)), some (bWs W), some (bFs Fa), some (.box 3 [.int .i64 ((i : Int) - 1)])]⟩) _ _ ⟨l.length, List.replicate 25 w0, List.replicate 24 w0, Nat.le_refl _, rfl, ⟨by simp, by simp, fun t h1 h2 => ?_, fun t e h1 h2 => by omega⟩, rfl⟩ ?_ ?_
  · have e : t = l.length := by omega
    subst e
    rw [bst_end]
    rw [List.getD_eq_getElem?_getD, List.getElem?_replicate, if_pos (by omega)]
    rfl
  · refine ⟨[some 0, some 1, some 2, some 3, some 4, some 5, some 6, some 7], rfl, rfl, ?_, ?_⟩ <;> repeat' (first | exact trivial | exact rfl | exact Iff.rfl | apply And.intro)
  rintro m _ ⟨i, W, Fa, hi, hm, hW, rfl⟩
  have lW := hW.lw
  have lF := hW.lf
  by_cases hi' : 0 < i
  rotate_left
  · have ei : i = 0 := by omega
    subst ei
    have a1 : takeL (dropL (pcs W) 0) Tryd.t87.size = pcs W := pcs_all W Tryd.t87.size (by rw [sz87, lW])
    have a2 : takeL (dropL (pcs Fa) 0) Tryd.t88.size = pcs Fa := pcs_all Fa Tryd.t88.size (by rw [sz88, lF])
    have n1 : (0 + Tryd.t87.size).ble (lenL (pcs W)) = true := by rw [lenL_eq, pcs_len, lW, sz87]; rfl
    have n2 : (0 + Tryd.t88.size).ble (lenL (pcs Fa)) = true := by rw [lenL_eq, pcs_len, lF, sz88]; rfl
    have f1 : ∀ K, setsL (pcs (List.replicate 25 w0)) 0 (xvCells (.agg (pcs W))) K = K (pcs W) := fun K => sets_full (pcs (List.replicate 25 w0)) (pcs W) K (by rw [pcs_len, pcs_len, lW]; rfl)
    have f2 : ∀ K, setsL (pcs (List.replicate 24 w0)) 0 (xvCells (.agg (pcs Fa))) K = K (pcs Fa) := fun K => sets_full (pcs (List.replicate 24 w0)) (pcs Fa) K (by rw [pcs_len, pcs_len, lF]; rfl)
    have q1 : ((lenL (xvCells (XV.agg (pcs W)))).beq Tryd.t87.size && noAny (xvCells (XV.agg (pcs W)))) = true := by
      rw [show xvCells (XV.agg (pcs W)) = pcs W from rfl, noAny_pcs, lenL_eq, pcs_len, lW, sz87]
      rfl
    have q2 : ((lenL (xvCells (XV.agg (pcs Fa)))).beq Tryd.t88.size && noAny (xvCells (XV.agg (pcs Fa)))) = true := by
      rw [show xvCells (XV.agg (pcs Fa)) = pcs Fa from rfl, noAny_pcs, lenL_eq, pcs_len, lF, sz88]
      rfl
    have n3 : (0 + Tryd.t87.size).ble (lenL (pcs (List.replicate 25 w0))) = true := by rw [lenL_eq, pcs_len, sz87]; rfl
    have n4 : (0 + Tryd.t88.size).ble (lenL (pcs (List.replicate 24 w0))) = true := by rw [lenL_eq, pcs_len, sz88]; rfl
    repeat' ((conv => whnf); first | rw [n1] | rw [n2] | rw [n3] | rw [n4] | rw [q1] | rw [q2] | rw [a1] | rw [a2] | rw [f1] | rw [f2] | rw [fSs_eq] | refine Rng.g ?_ | refine Ob.g ?_ | refine Ob.e ?_ | refine Ob.m ?_ | refine Ob.mk (Nat.le_of_ble_eq_true rfl) ?_ | refine JoinVC.on ?_ | refine Nils.mk (fun h => ?_) ?_ | refine Val.t ?_ | refine Val.d ?_ | refine Mm.mk ?_ | (refine Br.mk (fun h => ?_) (fun h => ?_) <;> first | (exfalso; omega; done) | (exfalso; simp at h; done) | skip))
    refine EndVC.mk [.agg (pcs W), .agg (pcs Fa)] ?_ _ _ ⟨W, Fa, hW, rfl, rfl⟩ ?_
    · unfold resVs
      rw [res87 W lW _ 3 rfl rfl]
      unfold resVs
      rw [res88 Fa lF _ 4 rfl rfl]
      rfl
    · refine ⟨[some 0, some 1], rfl, rfl, ?_, ?_⟩ <;> repeat' (first | exact trivial | exact rfl | exact Iff.rfl | exact pcs_le _ _ _ _ | apply And.intro)
  obtain ⟨x, rfl⟩ : ∃ x, i = x + 1 := ⟨i - 1, by omega⟩
  have ex : ((x + 1 : Nat) : Int) - 1 = (x : Int) := by omega
  rw [ex]
  have b1 := pw_ble W (x : Int).toNat Tryd.t86.size (by rw [sz86]; exact Nat.le_refl 2) (by omega)
  have e0 : rI [[Cell.int (-1), Cell.int 0]] 0 0 = -1 := rfl
  have e1 : rI [[Cell.int (-1), Cell.int 0]] 0 (0 + 1) = 0 := rfl
  repeat' ((conv => whnf); first | rw [e0] | rw [e1] | rw [b1, pw_set] | rw [fSs_eq] | refine Rng.g ?_ | refine Ob.g ?_ | refine Ob.e ?_ | refine Ob.m ?_ | refine Ob.mk (Nat.le_of_ble_eq_true rfl) ?_ | refine JoinVC.on ?_ | refine Nils.mk (fun h => ?_) ?_ | refine Val.t ?_ | refine Val.d ?_ | refine Mm.mk ?_ | (refine Br.mk (fun h => ?_) (fun h => ?_) <;> first | (exfalso; omega; done) | (exfalso; simp at h; done) | skip))
  conv => whnf
  refine CallVC.mk [1] _ _ _ rfl rfl rfl (s53 F l (l.length : Int) (x : Int)) (fun r m' h' => ?_)
  obtain ⟨rfl, rfl⟩ := h'
  conv => whnf
  repeat' ((conv => whnf); first | refine Rng.g ?_ | refine Ob.g ?_ | refine Ob.e ?_ | refine Ob.m ?_ | refine Ob.mk (Nat.le_of_ble_eq_true rfl) ?_ | refine JoinVC.on ?_ | refine Nils.mk (fun h => ?_) ?_ | refine Val.t ?_ | refine Val.d ?_ | refine Mm.mk ?_ | (refine Br.mk (fun h => ?_) (fun h => ?_) <;> first | (exfalso; omega; done) | (exfalso; simp at h; done) | skip))
  have lpl := plsA_len F l
  have h8 := hA.few
  have hx24 : x < 24 := by omega
  have hW1 := hW.start (x := x) (by omega)
  have ext : (x : Int).toNat = x := Int.toNat_natCast x
  change RangeVC _ _ _ _ _
  refine RangeVC.mk e69 (isem_of_awp pMix [] Tryd.func69 (c := bodyOf Tryd.f69) rfl (by kernel_rfl) Tryd.ntmps69 (by kernel_rfl) ?_)
  repeat' ((conv => whnf); first | refine Rng.g ?_ | refine Ob.g ?_ | refine Ob.e ?_ | refine Ob.m ?_ | refine Ob.mk (Nat.le_of_ble_eq_true rfl) ?_ | refine JoinVC.on ?_ | refine Nils.mk (fun h => ?_) ?_ | refine Val.t ?_ | refine Val.d ?_ | refine Mm.mk ?_ | (refine Br.mk (fun h => ?_) (fun h => ?_) <;> first | (exfalso; omega; done) | (exfalso; simp at h; done) | skip))
  refine LoopVC.mk (fun n st => ∃ (k : Nat) (W' Fa' : List Wth), k ≤ F.length ∧ n = F.length - k ∧ InOK F l x ((fcs F l x k).foldl (stepE F (bst F l)) none) W' Fa' ∧ st = ⟨11, envA 43 [(0, .x (.one (.yld 10))), (1, .x (.one (.ptr 8 0))), (2, .x (.one (.ptr 9 0))), (10, .x (.one (.lst true [.pt KPl] (plsA F l)))), (11, .int .i64 (F.length : Int)), (12, .int .i64 (k : Int))], [some gNone, some (bAlb F l (l.length : Int)), some (.box 82 [.ptr 1 0]), some (bWs (List.replicate 25 w0)), some (bFs (List.replicate 24 w0)), some (bWs W'), some (bFs Fa'), some (.box 3 [.int .i64 (x : Int)]), some (.box 82 [.ptr 1 0]), some (.box 3 [.int .i64 (x : Int)]), some (.loop [25] (cAs rf46) (cBo rf46) (envA 68 [(1, .x (.one (.ptr 2 0))), (2, .x (.one (.ptr 3 0))), (3, .x (.one (.ptr 4 0))), (4, .x (.one (.ptr 5 0))), (5, .x (.one (.ptr 6 0))), (6, .x (.one (.ptr 7 0)))]) .ready)]⟩) _ _ ⟨0, _, Fa, Nat.zero_le _, rfl, hW1, rfl⟩ ?_ ?_
  · refine ⟨[some 0, some 1, some 2, some 3, some 4, some 5, some 6, some 7, some 8, some 9, some 10], rfl, rfl, ?_, ?_⟩ <;> repeat' (first | exact trivial | exact rfl | exact Iff.rfl | apply And.intro)
    all_goals first | exact pcs_le _ _ _ _ | skip
    all_goals first | exact congrArg Int.ofNat lpl | rw [ext]
  clear hW1
  rintro n _ ⟨k, W', Fa', hk, hn, hQ, rfl⟩
  have lW' := hQ.lw
  have lF' := hQ.lf
  by_cases hk' : k < F.length
  rotate_left
  · have ek : k = F.length := by omega
    subst ek
    have hfin := InOK.fin (by omega) hQ
    repeat' ((conv => whnf); first | refine Rng.g ?_ | refine Ob.g ?_ | refine Ob.e ?_ | refine Ob.m ?_ | refine Ob.mk (Nat.le_of_ble_eq_true rfl) ?_ | refine JoinVC.on ?_ | refine Nils.mk (fun h => ?_) ?_ | refine Val.t ?_ | refine Val.d ?_ | refine Mm.mk ?_ | (refine Br.mk (fun h => ?_) (fun h => ?_) <;> first | (exfalso; omega; done) | (exfalso; simp at h; done) | skip))
    refine Back.mk x _ (by omega) ⟨x, W', Fa', by omega, rfl, hfin, rfl⟩ ?_
    refine ⟨[some 0, some 1, some 2, some 3, some 4, some 5, some 6, some 11], rfl, rfl, ?_, ?_⟩ <;> repeat' (first | exact trivial | exact rfl | exact Iff.rfl | apply And.intro)
    all_goals first | exact pcs_le _ _ _ _ | skip
  have gk : rA (plsA F l) (k : Int).toNat 0 = plA (F.getD k f0) l := by rw [Int.toNat_natCast]; exact plsA_at F l k hk'
  have hf := hA.fmts k hk'
  repeat' ((conv => whnf); first | rw [gk] | refine Rng.g ?_ | refine Ob.g ?_ | refine Ob.e ?_ | refine Ob.m ?_ | refine Ob.mk (Nat.le_of_ble_eq_true rfl) ?_ | refine JoinVC.on ?_ | refine Nils.mk (fun h => ?_) ?_ | refine Val.t ?_ | refine Val.d ?_ | refine Mm.mk ?_ | (refine Br.mk (fun h => ?_) (fun h => ?_) <;> first | (exfalso; omega; done) | (exfalso; simp at h; done) | skip))
  refine LoopVC.mk (fun n st => ∃ (j : Nat) (W' Fa' : List Wth), x < j ∧ j ≤ l.length + 1 ∧ n = l.length + 1 - j ∧ InOK F l x ((fcs F l x k ++ fcj F l x k j).foldl (stepE F (bst F l)) none) W' Fa' ∧ st = ⟨11, envA 43 [(0, .x (.one (.yld 10))), (1, .x (.one (.ptr 8 0))), (2, .x (.one (.ptr 9 0))), (4, .int .i64 (k : Int)), (5, .x (plX (F.getD k f0) l)), (6, .int .i64 (j : Int)), (10, .x (.one (.lst true [.pt KPl] (plsA F l)))), (11, .int .i64 (F.length : Int)), (12, .int .i64 (k : Int))], [some gNone, some (bAlb F l (l.length : Int)), some (.box 82 [.ptr 1 0]), some (bWs (List.replicate 25 w0)), some (bFs (List.replicate 24 w0)), some (bWs W'), some (bFs Fa'), some (.box 3 [.int .i64 (x : Int)]), some (.box 82 [.ptr 1 0]), some (.box 3 [.int .i64 (x : Int)]), some (.loop [25] (cAs rf46) (cBo rf46) (envA 68 [(1, .x (.one (.ptr 2 0))), (2, .x (.one (.ptr 3 0))), (3, .x (.one (.ptr 4 0))), (4, .x (.one (.ptr 5 0))), (5, .x (.one (.ptr 6 0))), (6, .x (.one (.ptr 7 0)))]) .ready)]⟩) _ _ ⟨x + 1, W', Fa', by omega, by omega, rfl, by rw [fcj_lo _ (Nat.le_refl _), List.append_nil]; exact hQ, rfl⟩ ?_ ?_
  · refine ⟨[some 0, some 1, some 2, some 3, some 4, some 5, some 6, some 7, some 8, some 9, some 10], rfl, rfl, ?_, ?_⟩ <;> repeat' (first | exact trivial | exact rfl | exact Iff.rfl | apply And.intro)
    all_goals first | exact pcs_le _ _ _ _ | skip
  clear hQ lW' lF' W' Fa'
  rintro n2 _ ⟨j, W', Fa', hij, hj, hn2, hQ, rfl⟩
  have lW' := hQ.lw
  have lF' := hQ.lf
  have c54 := s54g x j (by omega)
  by_cases hj' : j ≤ l.length
  rotate_left
  · have ej : j = l.length + 1 := by omega
    subst ej
    repeat' ((conv => whnf); first | refine Rng.g ?_ | refine Ob.g ?_ | refine Ob.e ?_ | refine Ob.m ?_ | refine Ob.mk (Nat.le_of_ble_eq_true rfl) ?_ | refine JoinVC.on ?_ | refine Nils.mk (fun h => ?_) ?_ | refine Val.t ?_ | refine Val.d ?_ | refine Mm.mk ?_ | (refine Br.mk (fun h => ?_) (fun h => ?_) <;> first | (exfalso; omega; done) | (exfalso; simp at h; done) | skip))
    refine Back.mk (F.length - (k + 1)) _ (by omega) ⟨k + 1, W', Fa', by omega, rfl, hQ, rfl⟩ ?_
    refine ⟨[some 0, some 1, some 2, some 3, some 4, some 5, some 6, some 7, some 8, some 9, some 10], rfl, rfl, ?_, ?_⟩ <;> repeat' (first | exact trivial | exact rfl | exact Iff.rfl | apply And.intro)
    all_goals first | exact pcs_le _ _ _ _ | skip
  have c47 := s47p (F.getD k f0) l (seqL x (j - x)) hf hA.sngs (fun y hy => by rw [seqL_len] at hy; rw [seqL_get _ _ _ hy]; omega) (by rw [seqL_len]; omega)
  repeat' ((conv => whnf); first | refine Rng.g ?_ | refine Ob.g ?_ | refine Ob.e ?_ | refine Ob.m ?_ | refine Ob.mk (Nat.le_of_ble_eq_true rfl) ?_ | refine JoinVC.on ?_ | refine Nils.mk (fun h => ?_) ?_ | refine Val.t ?_ | refine Val.d ?_ | refine Mm.mk ?_ | (refine Br.mk (fun h => ?_) (fun h => ?_) <;> first | (exfalso; omega; done) | (exfalso; simp at h; done) | skip))
  conv => whnf
  refine CallVC.mk [] _ _ _ rfl rfl rfl (c54) (fun r m' h' => ?_)
  obtain ⟨rfl, rfl⟩ := h'
  conv => whnf
  repeat' ((conv => whnf); first | refine Rng.g ?_ | refine Ob.g ?_ | refine Ob.e ?_ | refine Ob.m ?_ | refine Ob.mk (Nat.le_of_ble_eq_true rfl) ?_ | refine JoinVC.on ?_ | refine Nils.mk (fun h => ?_) ?_ | refine Val.t ?_ | refine Val.d ?_ | refine Mm.mk ?_ | (refine Br.mk (fun h => ?_) (fun h => ?_) <;> first | (exfalso; omega; done) | (exfalso; simp at h; done) | skip))
  conv => whnf
  refine CallVC.mk [] _ _ _ rfl rfl rfl (c47) (fun r m' h' => ?_)
  obtain ⟨rfl, rfl⟩ := h'
  conv => whnf
  repeat refine Mm.mk ?_
  try refine JoinVC.on ?_
  refine Br.mk (fun hL => ?_) (fun hL => ?_)
  rotate_left
  · have hnf : ¬ faceP F l k x j := fun h => hL h.lay
    rw [fcj_end hA hij hnf hj] at hQ
    repeat' ((conv => whnf); first | refine Rng.g ?_ | refine Ob.g ?_ | refine Ob.e ?_ | refine Ob.m ?_ | refine Ob.mk (Nat.le_of_ble_eq_true rfl) ?_ | refine JoinVC.on ?_ | refine Nils.mk (fun h => ?_) ?_ | refine Val.t ?_ | refine Val.d ?_ | refine Mm.mk ?_ | (refine Br.mk (fun h => ?_) (fun h => ?_) <;> first | (exfalso; omega; done) | (exfalso; simp at h; done) | skip))
    refine Back.mk (F.length - (k + 1)) _ (by omega) ⟨k + 1, W', Fa', by omega, rfl, hQ, rfl⟩ ?_
    refine ⟨[some 0, some 1, some 2, some 3, some 4, some 5, some 6, some 7, some 8, some 9, some 10], rfl, rfl, ?_, ?_⟩ <;> repeat' (first | exact trivial | exact rfl | exact Iff.rfl | apply And.intro)
    all_goals first | exact pcs_le _ _ _ _ | skip
  have hface : faceP F l k x j := ⟨hk', hij, hj', hL⟩
  have hco := hf.cost
  have gc : rI (rA (plsA F l) (k : Int).toNat 0) 0 (0 + 0 + (0 + 1 + 1 + 1 + 1 + 1 + 1 + 1)) = (F.getD k f0).cost := by rw [gk]; rfl
  have ejt : ((x : Int) + ((j : Int) - x)).toNat = j := by omega
  obtain ⟨acc, hacc⟩ : ∃ acc, (fcs F l x k ++ fcj F l x k j).foldl (stepE F (bst F l)) none = acc := ⟨_, rfl⟩
  have hnext : (fcs F l x k ++ fcj F l x k (j + 1)).foldl (stepE F (bst F l)) none = stepE F (bst F l) acc (k, j) := by
    rw [fcj_yes hface, ← List.append_assoc, List.foldl_append, hacc]
    rfl
  rw [hacc] at hQ
  have hLm : ∀ y, y ∈ fcs F l x k ++ fcj F l x k j → faceP F l y.1 x y.2 := fun y hy => by
    rcases List.mem_append.1 hy with h | h
    · exact (mem_fcs.1 h).2
    · have h3 := mem_fcj.1 h
      rw [h3.1]; exact h3.2.2
  obtain ⟨d, hd⟩ : ∃ d : Int, (j : Int) - (x : Int) = d := ⟨_, rfl⟩
  obtain ⟨s1, s2, W2, Fa2, s3, s4⟩ := step_h2 hA hx24 hQ hacc hLm hface hd.symm
  have rnd := rnd46 F l hA x (seqL x (j - x)) W' Fa' lW' lF' hx24 k hk' d j (by omega) (by omega) (by omega) _ _ rfl rfl s1 s2 W2 Fa2 s3
  rw [← hd] at rnd
  repeat' ((conv => whnf); first | refine Rng.g ?_ | refine Ob.g ?_ | refine Ob.e ?_ | refine Ob.m ?_ | refine Ob.mk (Nat.le_of_ble_eq_true rfl) ?_ | refine JoinVC.on ?_ | refine Nils.mk (fun h => ?_) ?_ | refine Val.t ?_ | refine Val.d ?_ | refine Mm.mk ?_ | (refine Br.mk (fun h => ?_) (fun h => ?_) <;> first | (exfalso; omega; done) | (exfalso; simp at h; done) | skip))
  refine YieldVC.of rnd ?_
  repeat' ((conv => whnf); first | refine Rng.g ?_ | refine Ob.g ?_ | refine Ob.e ?_ | refine Ob.m ?_ | refine Ob.mk (Nat.le_of_ble_eq_true rfl) ?_ | refine JoinVC.on ?_ | refine Nils.mk (fun h => ?_) ?_ | refine Val.t ?_ | refine Val.d ?_ | refine Mm.mk ?_ | (refine Br.mk (fun h => ?_) (fun h => ?_) <;> first | (exfalso; omega; done) | (exfalso; simp at h; done) | skip))
  refine Back.mk (l.length + 1 - (j + 1)) _ (by omega) ⟨j + 1, W2, Fa2, by omega, by omega, rfl, by rw [hnext]; exact s4, rfl⟩ ?_
  refine ⟨[some 0, some 1, some 2, some 3, some 4, some 5, some 6, some 7, some 8, some 9, some 10], rfl, rfl, ?_, ?_⟩ <;> repeat' (first | exact trivial | exact rfl | exact Iff.rfl | apply And.intro)
  all_goals first | exact pcs_le _ _ _ _ | skip
end Go.Sx

namespace Go.Sx
open Go Go.Proofs
set_option maxRecDepth 10000
set_option maxHeartbeats 8000000
/-! ### The cost of a plan -/
structure Fc where
  fm : Int
  mn : Int
@[reducible] def Fc.x (a : Fc) : XV := .agg [.int .i64 a.fm, .int .i64 a.mn]
def Fc.ok (n : Nat) (a : Fc) : Prop := (0 ≤ a.fm ∧ a.fm < n) ∧ 1 ≤ a.mn ∧ a.mn ≤ 24
instance (n : Nat) (a : Fc) : Decidable (a.ok n) := by unfold Fc.ok; exact inferInstance
def Fc.p (a : Fc) : Nat × Nat := (a.fm.toNat, a.mn.toNat)
end Go.Sx

namespace Go.Sx
open Go Go.Proofs
set_option maxRecDepth 10000
set_option maxHeartbeats 16000000
/-! ### The best plan -/
theorem planB_fuel {F : List Fmt} {l : List Sng} : ∀ (n m i : Nat), l.length ≤ i + n → l.length ≤ i + m → planB F l n i = planB F l m i
  | 0, 0, _, _, _ => rfl
  | 0, m + 1, i, h1, _ => by
    unfold planB
    rw [if_neg (by omega)]
  | n + 1, 0, i, _, h2 => by
    unfold planB
    rw [if_neg (by omega)]
  | n + 1, m + 1, i, h1, h2 => by
    unfold planB
    by_cases hi : i < l.length
    · rw [if_pos hi, if_pos hi]
      cases hb : bst F l i with
      | none => rfl
      | some e =>
        obtain ⟨w, k, j⟩ := e
        have h3 := (mem_faces.1 ((bst_ok (F := F) hi).from_ w (k, j) hb).1).lt
        simp only at h3 ⊢
        rw [planB_fuel n m j (by omega) (by omega)]
    · rw [if_neg hi, if_neg hi]
theorem planB_step {F : List Fmt} {l : List Sng} {i k j : Nat} {w : Int × Int} (hi : i < l.length) (hb : bst F l i = some (w, (k, j))) : planB F l l.length i = (k, j - i) :: planB F l l.length j := by
  have h3 := (mem_faces.1 ((bst_ok (F := F) hi).from_ w (k, j) hb).1).lt
  simp only at h3
  rw [planB_fuel l.length (l.length + 1) i (by omega) (by omega)]
  show (if i < l.length then _ else _) = _
  rw [if_pos hi, hb]
def fcsA (P : List (Nat × Nat)) : Arr := P.map fun p => [.int (p.1 : Int), .int (p.2 : Int)]
theorem fcsA_len (P : List (Nat × Nat)) : (fcsA P).length = P.length := by simp [fcsA]
theorem fcsA_snoc (P : List (Nat × Nat)) (p : Nat × Nat) : fcsA (P ++ [p]) = fcsA P ++ [[.int (p.1 : Int), .int (p.2 : Int)]] := by simp [fcsA]
@[reducible] def KF2 : List CK := [.int .i64, .int .i64]
theorem eb69 : Tryd.t69.bytes = 16 := by kernel_rfl
theorem back_pcs (b : Bool) (sel : List Nat) (n : Nat) : ∀ W : List Wth, backSs b sel n (pcs W) = pcs W
  | [] => rfl
  | w :: W => by
    show SV.int .i64 w.c :: SV.int .i64 w.n :: backSs b sel n (pcs W) = _
    rw [back_pcs b sel n W]
    rfl
theorem sets_mk {l A : List SV} {K : List SV → Prop} (h : l.length = A.length) (k : K A) : setsL l 0 (xvCells (.agg A)) K := by
  show setsL l (0 + 0) A K
  rw [sets_full l A K h]
  exact k
theorem pcs_c : ∀ (W : List Wth) (k : Nat), k < W.length → (pcs W)[k * 2]? = some (SV.int .i64 (W.getD k w0).c) ∧ (pcs W)[k * 2 + 1]? = some (SV.int .i64 (W.getD k w0).n)
  | [], k, h => absurd h (Nat.not_lt_zero k)
  | w :: W, 0, _ => ⟨rfl, rfl⟩
  | w :: W, k + 1, h => by
    have h1 := pcs_c W k (by simpa using h)
    rw [show (k + 1) * 2 = k * 2 + 1 + 1 by omega]
    exact h1
theorem pg1 (W : List Wth) (k : Nat) (hk : k < W.length) : getL (pcs W) (0 + k * (0 + 1 + 1) + (0 + 1)) = some (SV.int .i64 (W.getD k w0).n) := by
  rw [getL_eq, ← (pcs_c W k hk).2]
  congr 1
  omega
theorem pg0 (W : List Wth) (k : Nat) (hk : k < W.length) : getL (pcs W) (0 + k * (0 + 1 + 1)) = some (SV.int .i64 (W.getD k w0).c) := by
  rw [getL_eq, ← (pcs_c W k hk).1]
  congr 1
  omega
inductive AlRs (F : List Fmt) (l : List Sng) (r : AV) (m' : List (Option Blk)) : Prop
  | bad (h : fmsE F l ≠ 0) (hr : r = .tup [.one .nils, I 0, I (fmsE F l)]) (hm : m' = [some gNone])
  | none (hA : AlbOK F l) (h : bst F l 0 = none) (hr : r = .tup [.one .nils, I 0, I 15]) (hm : m' = [some gNone])
  | ok (hA : AlbOK F l) (w : Int × Int) (q : Nat × Nat) (h : bst F l 0 = some (w, q)) (hr : r = .tup [.one (.lst false KF2 (fcsA (planB F l l.length 0))), I w.1, I 0]) (hm : m' = [some gNone])
theorem s18a (F : List Fmt) (l : List Sng) (hI : ∀ i, (F.getD i f0).nm.size ≤ 9223372036854775807) : HSpec Tryd.prog 18 [lFmt F, lSng l] [gNone] (AlRs F l) := by
  have e0 : rI [[Cell.int (-1), Cell.int 0]] 0 0 = -1 := rfl
  have e1 : rI [[Cell.int (-1), Cell.int 0]] 0 (0 + 1) = 0 := rfl
  refine spec_of pMix (O := []) Tryd.func18 (c := bodyOf Tryd.f18) rfl (by kernel_rfl) (by kernel_rfl) Tryd.ntmps18 (res := [.tmp 4, .tmp 5, .tmp 6]) (by kernel_rfl) ?_
  repeat' ((conv => whnf); first | refine Rng.g ?_ | refine Ob.g ?_ | refine Ob.e ?_ | refine Ob.m ?_ | refine Ob.mk (Nat.le_of_ble_eq_true rfl) ?_ | refine JoinVC.on ?_ | refine Nils.mk (fun h => ?_) ?_ | refine Val.t ?_ | refine Val.d ?_ | refine Mm.mk ?_ | (refine Br.mk (fun h => ?_) (fun h => ?_) <;> first | (exfalso; omega; done) | (exfalso; simp at h; done) | skip))
  conv => whnf
  refine CallVC.mk [] _ _ _ rfl rfl rfl (s49 F l hI) (fun r m' h' => ?_)
  rcases h' with ⟨he, rfl, rfl⟩ | ⟨he, rfl, rfl⟩ | ⟨hA, rfl, rfl⟩
  · repeat' ((conv => whnf); first | refine Rng.g ?_ | refine Ob.g ?_ | refine Ob.e ?_ | refine Ob.m ?_ | refine Ob.mk (Nat.le_of_ble_eq_true rfl) ?_ | refine JoinVC.on ?_ | refine Nils.mk (fun h => ?_) ?_ | refine Val.t ?_ | refine Val.d ?_ | refine Mm.mk ?_ | (refine Br.mk (fun h => ?_) (fun h => ?_) <;> first | (exfalso; omega; done) | (exfalso; simp at h; done) | skip))
    repeat refine Mm.mk ?_
    conv => whnf
    refine EndVC.mk _ rfl _ _ (.bad he rfl rfl) ?_
    refine ⟨[some 0], rfl, rfl, ?_, ?_⟩ <;> repeat' (first | exact trivial | exact rfl | exact Iff.rfl | apply And.intro)
  · repeat' ((conv => whnf); first | refine Rng.g ?_ | refine Ob.g ?_ | refine Ob.e ?_ | refine Ob.m ?_ | refine Ob.mk (Nat.le_of_ble_eq_true rfl) ?_ | refine JoinVC.on ?_ | refine Nils.mk (fun h => ?_) ?_ | refine Val.t ?_ | refine Val.d ?_ | refine Mm.mk ?_ | (refine Br.mk (fun h => ?_) (fun h => ?_) <;> first | (exfalso; omega; done) | (exfalso; simp at h; done) | skip))
    repeat refine Mm.mk ?_
    conv => whnf
    refine EndVC.mk _ rfl _ _ (.bad he rfl rfl) ?_
    refine ⟨[some 0], rfl, rfl, ?_, ?_⟩ <;> repeat' (first | exact trivial | exact rfl | exact Iff.rfl | apply And.intro)
  have h24 := hA.sngs.len
  repeat' ((conv => whnf); first | refine Rng.g ?_ | refine Ob.g ?_ | refine Ob.e ?_ | refine Ob.m ?_ | refine Ob.mk (Nat.le_of_ble_eq_true rfl) ?_ | refine JoinVC.on ?_ | refine Nils.mk (fun h => ?_) ?_ | refine Val.t ?_ | refine Val.d ?_ | refine Mm.mk ?_ | (refine Br.mk (fun h => ?_) (fun h => ?_) <;> first | (exfalso; omega; done) | (exfalso; simp at h; done) | skip))
  conv => whnf
  refine CallVC.mk [0, 1] _ _ _ rfl rfl rfl (s46b F l hA) (fun r m' h' => ?_)
  obtain ⟨W, Fa, hArr, rfl, rfl⟩ := h'
  conv => whnf
  have lW := hArr.lw
  have lF := hArr.lf
  have q1 : ((lenL (xvCells (XV.agg (pcs W)))).beq Tryd.t87.size && noAny (xvCells (XV.agg (pcs W)))) = true := by
    rw [show xvCells (XV.agg (pcs W)) = pcs W from rfl, noAny_pcs, lenL_eq, pcs_len, lW, sz87]
    rfl
  have q2 : ((lenL (xvCells (XV.agg (pcs Fa)))).beq Tryd.t88.size && noAny (xvCells (XV.agg (pcs Fa)))) = true := by
    rw [show xvCells (XV.agg (pcs Fa)) = pcs Fa from rfl, noAny_pcs, lenL_eq, pcs_len, lF, sz88]
    rfl
  have b1 := pw_ble W 0 Tryd.t86.size (by rw [sz86]; exact Nat.le_refl 2) (by omega)
  have g1 : takeL (dropL (pcs W) (0 + 0 * (0 + 1 + 1))) Tryd.t86.size = [SV.int .i64 (W.getD 0 w0).c, SV.int .i64 (W.getD 0 w0).n] := by rw [sz86]; exact pw_get W 0 (by omega)
  rw [back_pcs]
  repeat' ((conv => whnf); first | rw [q1] | rw [q2] | rw [fSs_eq] | rw [back_pcs] | refine Rng.g ?_ | refine Ob.g ?_ | refine Ob.e ?_ | refine Ob.m ?_ | refine Ob.mk (Nat.le_of_ble_eq_true rfl) ?_ | refine JoinVC.on ?_ | refine Nils.mk (fun h => ?_) ?_ | refine Val.t ?_ | refine Val.d ?_ | refine Mm.mk ?_ | (refine Br.mk (fun h => ?_) (fun h => ?_) <;> first | (exfalso; omega; done) | (exfalso; simp at h; done) | skip))
  refine sets_mk (by rw [pcs_len, lW]; rfl) ?_
  repeat' ((conv => whnf); first | rw [q1] | rw [q2] | rw [fSs_eq] | rw [back_pcs] | refine Rng.g ?_ | refine Ob.g ?_ | refine Ob.e ?_ | refine Ob.m ?_ | refine Ob.mk (Nat.le_of_ble_eq_true rfl) ?_ | refine JoinVC.on ?_ | refine Nils.mk (fun h => ?_) ?_ | refine Val.t ?_ | refine Val.d ?_ | refine Mm.mk ?_ | (refine Br.mk (fun h => ?_) (fun h => ?_) <;> first | (exfalso; omega; done) | (exfalso; simp at h; done) | skip))
  refine sets_mk (by rw [pcs_len, lF]; rfl) ?_
  have hw0 := hArr.w 0 (Nat.le_refl 0) (Nat.zero_le _)
  rw [hw0] at g1
  have e00 : Int.toNat 0 = 0 := rfl
  cases hb : bst F l 0 with
  | none =>
    rw [hb] at g1
    repeat' ((conv => whnf); first | rw [q1] | rw [q2] | rw [fSs_eq] | rw [e00] | rw [b1] | rw [g1] | rw [e0] | rw [e1] | refine Rng.g ?_ | refine Ob.g ?_ | refine Ob.e ?_ | refine Ob.m ?_ | refine Ob.mk (Nat.le_of_ble_eq_true rfl) ?_ | refine JoinVC.on ?_ | refine Nils.mk (fun h => ?_) ?_ | refine Val.t ?_ | refine Val.d ?_ | refine Mm.mk ?_ | (refine Br.mk (fun h => ?_) (fun h => ?_) <;> first | (exfalso; omega; done) | (exfalso; simp at h; done) | skip))
    all_goals first | (exfalso; exact h ⟨rfl, rfl, trivial⟩) | skip
    repeat refine Mm.mk ?_
    conv => whnf
    refine EndVC.mk _ rfl _ _ (.none hA hb rfl rfl) ?_
    refine ⟨[some 0], rfl, rfl, ?_, ?_⟩ <;> repeat' (first | exact trivial | exact rfl | exact Iff.rfl | apply And.intro)
  | some e =>
    rw [hb] at g1
    obtain ⟨w, q⟩ := e
    obtain ⟨⟨c1, c2⟩, c3, c4⟩ := bst_bd hA (Nat.zero_le _) hb
    have hne : ¬ ((wOf (some (w, q))).c = -1) := fun h => by simp only [wOf] at h; omega
    have hne2 : ¬ ((wOf (some (w, q))).c = -1 ∧ (wOf (some (w, q))).n = 0 ∧ True) := fun h => hne h.1
    repeat' ((conv => whnf); first | rw [q1] | rw [q2] | rw [fSs_eq] | rw [e00] | rw [b1] | rw [g1] | rw [e0] | rw [e1] | refine Rng.g ?_ | refine Ob.g ?_ | refine Ob.e ?_ | refine Ob.m ?_ | refine Ob.mk (Nat.le_of_ble_eq_true rfl) ?_ | refine JoinVC.on ?_ | refine Nils.mk (fun h => ?_) ?_ | refine Val.t ?_ | refine Val.d ?_ | refine Mm.mk ?_ | (refine Br.mk (fun h => ?_) (fun h => ?_) <;> first | (exfalso; omega; done) | (exfalso; simp at h; done) | skip))
    all_goals first | contradiction | skip
    all_goals (first | (exfalso; rename_i hx; exact hne2 hx) | skip)
    refine LoopVC.mk (fun n st => ∃ (i : Nat) (D : List (Nat × Nat)), i ≤ l.length ∧ n = l.length - i ∧ (∃ e, bst F l i = some e) ∧ planB F l l.length 0 = D ++ planB F l l.length i ∧ D.length ≤ i ∧ st = ⟨1, envA 53 [(7, .x (.one (.ptr 1 0))), (9, .x (.one (.ptr 2 0))), (10, .x (.one (.ptr 3 0))), (11, .x (.one (.own 4))), (12, .int .i64 (i : Int))], [some gNone, some (bAlb F l (l.length : Int)), some (.box 87 (pcs W)), some (.box 88 (pcs Fa)), some (.row 69 false KF2 (fcsA D))]⟩) _ _ ⟨0, [], Nat.zero_le _, rfl, ⟨_, hb⟩, rfl, Nat.le_refl _, rfl⟩ ?_ ?_
    · refine ⟨[some 0, some 1, some 2, some 3, none], rfl, rfl, ?_, ?_⟩ <;> repeat' (first | exact trivial | exact rfl | exact Iff.rfl | apply And.intro)
      all_goals first | exact pcs_le _ _ _ _ | skip
    rintro n _ ⟨i, D, hi, hn, ⟨e, he⟩, hP, hD, rfl⟩
    have lD := fcsA_len D
    have ext : (i : Int).toNat = i := Int.toNat_natCast i
    by_cases hi' : i < l.length
    rotate_left
    · have ei : i = l.length := by omega
      subst ei
      have hfin : planB F l l.length l.length = [] := by
        rw [planB_fuel l.length 0 l.length (by omega) (by omega)]
        rfl
      rw [hfin, List.append_nil] at hP
      have p0 : getL (pcs W) (0 + 0 * (0 + 1 + 1)) = some (SV.int .i64 w.1) := by rw [pg0 W 0 (by omega), hw0, hb]; rfl
      repeat' ((conv => whnf); first | rw [e00] | rw [p0] | refine Rng.g ?_ | refine Ob.g ?_ | refine Ob.e ?_ | refine Ob.m ?_ | refine Ob.mk (Nat.le_of_ble_eq_true rfl) ?_ | refine JoinVC.on ?_ | refine Nils.mk (fun h => ?_) ?_ | refine Val.t ?_ | refine Val.d ?_ | refine Mm.mk ?_ | (refine Br.mk (fun h => ?_) (fun h => ?_) <;> first | (exfalso; omega; done) | (exfalso; simp at h; done) | skip))
      repeat refine Mm.mk ?_
      conv => whnf
      refine EndVC.mk _ rfl _ _ (.ok hA w q hb rfl rfl) ?_
      refine ⟨[some 0], rfl, rfl, ?_, ?_⟩ <;> repeat' (first | exact trivial | exact rfl | exact Iff.rfl | apply And.intro)
      rw [hP]
    obtain ⟨w', k, j⟩ := e
    have hfi : Fa.getD i w0 = ⟨(k : Int), (j : Int) - (i : Int)⟩ := hArr.f i _ (Nat.zero_le _) hi' he
    have hstep := planB_step hi' he
    have hj := mem_faces.1 ((bst_ok (F := F) hi').from_ w' (k, j) he).1
    have hj1 := hj.lt
    have hj2 := hj.le
    obtain ⟨h1, w2, f2, h3, _⟩ := (bst_ok (F := F) hi').from_ w' (k, j) he
    have b3 := pw_ble Fa i Tryd.t69.size (by rw [sz69]; exact Nat.le_refl 2) (by omega)
    have g3 : takeL (dropL (pcs Fa) (0 + i * (0 + 1 + 1))) Tryd.t69.size = [SV.int .i64 (Fa.getD i w0).c, SV.int .i64 (Fa.getD i w0).n] := by rw [sz69]; exact pw_get Fa i (by omega)
    have g4 := pg1 Fa i (by omega)
    rw [hfi] at g3 g4
    simp only at g3 g4
    have hsn := (fcsA_snoc D (k, j - i)).symm
    simp only at hj1 hj2 h3
    have ek : ((j - i : Nat) : Int) = (j : Int) - (i : Int) := by omega
    simp only [ek] at hsn
    repeat' ((conv => whnf); first | rw [ext] | rw [b3] | rw [g3] | rw [g4] | rw [fSs_eq] | refine Rng.g ?_ | refine Ob.g ?_ | refine Ob.e ?_ | refine Ob.m ?_ | refine Ob.mk (Nat.le_of_ble_eq_true rfl) ?_ | refine JoinVC.on ?_ | refine Nils.mk (fun h => ?_) ?_ | refine Val.t ?_ | refine Val.d ?_ | refine Mm.mk ?_ | (refine Br.mk (fun h => ?_) (fun h => ?_) <;> first | (exfalso; omega; done) | (exfalso; simp at h; done) | skip))
    repeat refine Mm.mk ?_
    refine Ob.mk (by rw [eb69]; simp only [List.length_cons, List.length_nil]; omega) ?_
    repeat' ((conv => whnf); first | rw [ext] | rw [b3] | rw [g3] | rw [g4] | rw [fSs_eq] | refine Rng.g ?_ | refine Ob.g ?_ | refine Ob.e ?_ | refine Ob.m ?_ | refine Ob.mk (Nat.le_of_ble_eq_true rfl) ?_ | refine JoinVC.on ?_ | refine Nils.mk (fun h => ?_) ?_ | refine Val.t ?_ | refine Val.d ?_ | refine Mm.mk ?_ | (refine Br.mk (fun h => ?_) (fun h => ?_) <;> first | (exfalso; omega; done) | (exfalso; simp at h; done) | skip))
    refine Back.mk (l.length - j) _ (by omega) ⟨j, D ++ [(k, j - i)], by omega, rfl, ⟨_, h3⟩, by rw [hP, hstep, List.append_assoc]; rfl, by rw [List.length_append, List.length_singleton]; omega, rfl⟩ ?_
    refine ⟨[some 0, some 1, some 2, some 3, some 6], rfl, rfl, ?_, ?_⟩ <;> repeat' (first | exact trivial | exact rfl | exact Iff.rfl | apply And.intro)
    all_goals first | exact pcs_le _ _ _ _ | omega | exact hsn | (rw [fcsA_snoc]; simp only [ek])
end Go.Sx

namespace Go.Sx
open Go Go.RowKit Go.Proofs
def PaQ (f : Fmt) (l : List Sng) (n E : Int) : Prop := (E = 0 → ∃ (s : Nat) (q : List Int), n = (s : Int) ∧ s ≤ l.length ∧ packR f l s = some q) ∧ (FmtOK f → SngsOK l → l.length ≤ 8 → ∀ (s : Nat) (q : List Int), s ≤ l.length → packR f l s = some q → E = 0 ∧ n ≤ (s : Int))
theorem s22q (f : Fmt) (l : List Sng) (hI : f.nm.size ≤ 9223372036854775807) : HSpec Tryd.prog 31 [f.x, lSng l] [] (fun r m' => ∃ n E, PaQ f l n E ∧ r = .tup [.one .any, I n, I E] ∧ m' = []) :=
  (s22 f l hI).le fun r m' h => by
    cases h with
    | bad h hr hm =>
      subst hr hm
      refine ⟨_, _, ⟨0, fewE f l, ⟨fun e => absurd e h, fun hf hg h8 s q _ _ => absurd (fewE_ok hf hg h8) h⟩, rfl, rfl⟩, ?_⟩
      refine ⟨[], rfl, rfl, ?_, ?_⟩ <;> repeat' (first | exact trivial | exact rfl | exact Iff.rfl | apply And.intro)
    | none hf hg h8 h hr hm =>
      subst hr hm
      refine ⟨_, _, ⟨0, 15, ⟨fun e => absurd e (by decide), fun _ _ _ s q hs hq => (by rw [h s hs] at hq; cases hq)⟩, rfl, rfl⟩, ?_⟩
      refine ⟨[], rfl, rfl, ?_, ?_⟩ <;> repeat' (first | exact trivial | exact rfl | exact Iff.rfl | apply And.intro)
    | some hf hg h8 s q hs h hq hr hm =>
      subst hr hm
      refine ⟨_, _, ⟨(s : Int), 0, ⟨fun _ => ⟨s, q, rfl, hs, hq⟩, fun _ _ _ s2 q2 _ hq2 => ⟨rfl, ?_⟩⟩, rfl, rfl⟩, ?_⟩
      · have : ¬ s2 < s := fun hlt => by rw [h s2 hlt] at hq2; cases hq2
        omega
      refine ⟨[], rfl, rfl, ?_, ?_⟩ <;> repeat' (first | exact trivial | exact rfl | exact Iff.rfl | apply And.intro)
def AlQ (F : List Fmt) (l : List Sng) (n E : Int) : Prop := (E = 0 → ∃ w q, n = (w : Int × Int).1 ∧ bst F l 0 = some (w, q)) ∧ (AlbOK F l → ∀ w q, bst F l 0 = some (w, q) → E = 0 ∧ n = w.1) ∧ (fmsE F l ≠ 0 → E = fmsE F l)
theorem s18aq (F : List Fmt) (l : List Sng) (hI : ∀ i, (F.getD i f0).nm.size ≤ 9223372036854775807) : HSpec Tryd.prog 18 [lFmt F, lSng l] [gNone] (fun r m' => ∃ n E, AlQ F l n E ∧ r = .tup [.one .any, I n, I E] ∧ m' = [some gNone]) :=
  (s18a F l hI).le fun r m' h => by
    cases h with
    | bad h hr hm =>
      subst hr hm
      refine ⟨_, _, ⟨0, fmsE F l, ⟨fun e => absurd e h, fun hA => absurd (fmsE_0.2 hA) h, fun _ => rfl⟩, rfl, rfl⟩, ?_⟩
      refine ⟨[some 0], rfl, rfl, ?_, ?_⟩ <;> repeat' (first | exact trivial | exact rfl | exact Iff.rfl | apply And.intro)
    | none hA h hr hm =>
      subst hr hm
      refine ⟨_, _, ⟨0, 15, ⟨fun e => absurd e (by decide), fun _ w q hb => (by rw [h] at hb; cases hb), fun h2 => absurd (fmsE_0.2 hA) h2⟩, rfl, rfl⟩, ?_⟩
      refine ⟨[some 0], rfl, rfl, ?_, ?_⟩ <;> repeat' (first | exact trivial | exact rfl | exact Iff.rfl | apply And.intro)
    | ok hA w q h hr hm =>
      subst hr hm
      refine ⟨_, _, ⟨w.1, 0, ⟨fun _ => ⟨w, q, rfl, h⟩, fun _ w2 q2 hb => (by rw [h] at hb; cases hb; exact ⟨rfl, rfl⟩), fun h2 => absurd (fmsE_0.2 hA) h2⟩, rfl, rfl⟩, ?_⟩
      refine ⟨[some 0], rfl, rfl, ?_, ?_⟩ <;> repeat' (first | exact trivial | exact rfl | exact Iff.rfl | apply And.intro)
end Go.Sx

namespace Go.Sx
open Go Go.Proofs
set_option maxRecDepth 10000
set_option maxHeartbeats 8000000
/-! ### Orders by places -/
open Classical in
theorem s14 (f : Fmt) (l : List Sng) (m : Int) : PSpec Tryd.prog 29 [f.x, lSng l, I m] (xP ((l.length : Int) ≤ m ∧ FmtOK f ∧ SngsOK l)) := by
  have ll := sngA_len l
  have v1 := s41 f
  have v2 := s42 l
  by_cases hm : (l.length : Int) ≤ m
  rotate_left
  · refine spec_of pMix (O := []) Tryd.func29 (c := bodyOf Tryd.f29) rfl (by kernel_rfl) (by kernel_rfl) Tryd.ntmps29 (res := [.tmp 6]) (by kernel_rfl) ?_
    repeat' ((conv => whnf); first | refine Rng.g ?_ | refine Ob.g ?_ | refine Ob.e ?_ | refine Ob.m ?_ | refine Ob.mk (Nat.le_of_ble_eq_true rfl) ?_ | refine JoinVC.on ?_ | refine Nils.mk (fun h => ?_) ?_ | refine Val.t ?_ | refine Val.d ?_ | refine Mm.mk ?_ | (refine Br.mk (fun h => ?_) (fun h => ?_) <;> first | (exfalso; omega; done) | (exfalso; simp at h; done) | skip))
    repeat refine Mm.mk ?_
    refine EndVC.mk _ rfl _ _ ⟨rfl, rfl⟩ ?_
    refine ⟨[], rfl, rfl, ?_, ?_⟩ <;> repeat' (first | exact trivial | exact rfl | exact Iff.rfl | apply And.intro)
    exact fun h => hm h.1
  by_cases hf : FmtOK f
  rotate_left
  · rw [fmtE_no hf] at v1
    refine spec_of pMix (O := []) Tryd.func29 (c := bodyOf Tryd.f29) rfl (by kernel_rfl) (by kernel_rfl) Tryd.ntmps29 (res := [.tmp 6]) (by kernel_rfl) ?_
    repeat' ((conv => whnf); first | refine Rng.g ?_ | refine Ob.g ?_ | refine Ob.e ?_ | refine Ob.m ?_ | refine Ob.mk (Nat.le_of_ble_eq_true rfl) ?_ | refine JoinVC.on ?_ | refine Nils.mk (fun h => ?_) ?_ | refine Val.t ?_ | refine Val.d ?_ | refine Mm.mk ?_ | refine CallVC.pure rfl (v1) ?_ | refine CallVC0.pure rfl (v1) ?_ | (refine Br.mk (fun h => ?_) (fun h => ?_) <;> first | (exfalso; omega; done) | (exfalso; simp at h; done) | skip))
    repeat refine Mm.mk ?_
    refine EndVC.mk _ rfl _ _ ⟨rfl, rfl⟩ ?_
    refine ⟨[], rfl, rfl, ?_, ?_⟩ <;> repeat' (first | exact trivial | exact rfl | exact Iff.rfl | apply And.intro)
    exact fun h => absurd h.2.1 hf
  rw [fmtE_ok hf] at v1
  by_cases hg : SngsOK l
  · rw [trkE_ok hg] at v2
    refine spec_of pMix (O := []) Tryd.func29 (c := bodyOf Tryd.f29) rfl (by kernel_rfl) (by kernel_rfl) Tryd.ntmps29 (res := [.tmp 6]) (by kernel_rfl) ?_
    repeat' ((conv => whnf); first | refine Rng.g ?_ | refine Ob.g ?_ | refine Ob.e ?_ | refine Ob.m ?_ | refine Ob.mk (Nat.le_of_ble_eq_true rfl) ?_ | refine JoinVC.on ?_ | refine Nils.mk (fun h => ?_) ?_ | refine Val.t ?_ | refine Val.d ?_ | refine Mm.mk ?_ | refine CallVC.pure rfl (v1) ?_ | refine CallVC.pure rfl (v2) ?_ | refine CallVC0.pure rfl (v1) ?_ | refine CallVC0.pure rfl (v2) ?_ | (refine Br.mk (fun h => ?_) (fun h => ?_) <;> first | (exfalso; omega; done) | (exfalso; simp at h; done) | skip))
    repeat refine Mm.mk ?_
    refine EndVC.mk _ rfl _ _ ⟨rfl, rfl⟩ ?_
    refine ⟨[], rfl, rfl, ?_, ?_⟩ <;> repeat' (first | exact trivial | exact rfl | exact Iff.rfl | apply And.intro)
    exact ⟨fun _ => ⟨hm, hf, hg⟩, fun _ => rfl⟩
  · obtain ⟨e, he⟩ : ∃ e, trkE l = e := ⟨_, rfl⟩
    have h0 : e ≠ 0 := fun h => hg (trkE_0 (he.trans h))
    rw [he] at v2
    refine spec_of pMix (O := []) Tryd.func29 (c := bodyOf Tryd.f29) rfl (by kernel_rfl) (by kernel_rfl) Tryd.ntmps29 (res := [.tmp 6]) (by kernel_rfl) ?_
    repeat' ((conv => whnf); first | refine Rng.g ?_ | refine Ob.g ?_ | refine Ob.e ?_ | refine Ob.m ?_ | refine Ob.mk (Nat.le_of_ble_eq_true rfl) ?_ | refine JoinVC.on ?_ | refine Nils.mk (fun h => ?_) ?_ | refine Val.t ?_ | refine Val.d ?_ | refine Mm.mk ?_ | refine CallVC.pure rfl (v1) ?_ | refine CallVC.pure rfl (v2) ?_ | refine CallVC0.pure rfl (v1) ?_ | refine CallVC0.pure rfl (v2) ?_ | (refine Br.mk (fun h => ?_) (fun h => ?_) <;> first | (exfalso; omega; done) | (exfalso; simp at h; done) | skip))
    repeat refine Mm.mk ?_
    refine EndVC.mk _ rfl _ _ ⟨rfl, rfl⟩ ?_
    refine ⟨[], rfl, rfl, ?_, ?_⟩ <;> repeat' (first | exact trivial | exact rfl | exact Iff.rfl | apply And.intro)
    exact ⟨fun h => absurd h h0, fun h => absurd h.2.2 hg⟩
end Go.Sx

namespace Go.Sx
open Go Go.Proofs
set_option maxRecDepth 10000
set_option maxHeartbeats 16000000
theorem e6 : EntersF Tryd.prog 6 := enters_of Tryd.func6 (c := bodyOf Tryd.f6) (by kernel_rfl) rfl
/-! ### SideMore -/
theorem eb25 : Tryd.t25.bytes = 24 := by kernel_rfl
theorem sngA_put (l : List Sng) (g : Sng) : sngA l ++ [[.int g.long, .int g.pitch, .int g.least]] = sngA (l ++ [g]) := by simp [sngA]
@[reducible] def bF (f : Fmt) : Blk := .box 23 [.str f.nm, .int .i64 f.outer, .int .i64 f.inner, .int .i64 f.per, .int .i64 f.lead, .int .i64 f.gap, .int .i64 f.tail, .int .i64 f.cost]
@[reducible] def mL (l : List Sng) (x y z : Int) (i : Nat) : List Sng := (l.take i).map (mS x y z)
theorem mL_succ (l : List Sng) (x y z : Int) (i : Nat) (hi : i < l.length) : mL l x y z (i + 1) = mL l x y z i ++ [mS x y z (l.getD i g0)] := by
  unfold mL
  rw [List.take_add_one, List.map_append, List.getElem?_eq_getElem hi, List.getD_eq_getElem?_getD, List.getElem?_eq_getElem hi]
  rfl
theorem s6 (f e : Fmt) (l : List Sng) (a b x y z : Int) (ha : 0 ≤ a ∧ a ≤ 65535) (hb : 0 ≤ b ∧ b ≤ 65535) (hx : 0 ≤ x ∧ x ≤ 255) (hy : 0 ≤ y ∧ y ≤ 255) (hz : 0 ≤ z ∧ z ≤ 255) (hI : e.nm.size ≤ 9223372036854775807) : HSpec Tryd.prog 6 [f.x, lSng l, .one (.int .u16 a), .one (.int .u16 b), .agg [.int .u8 x, .int .u8 y, .int .u8 z], e.x] [gNone] (fun r _ => r = xP True) := by
  have hw := s11
  have ll := sngA_len l
  have c14 := s14 f l 6
  by_cases hV : (l.length : Int) ≤ 6 ∧ FmtOK f ∧ SngsOK l
  rotate_left
  · refine spec_of pMix (O := []) Tryd.func6 (c := bodyOf Tryd.f6) rfl (by kernel_rfl) (by kernel_rfl) Tryd.ntmps6 (res := [.tmp 12]) (by kernel_rfl) ?_
    repeat' ((conv => whnf); first | refine Rng.g ?_ | refine Ob.g ?_ | refine Ob.e ?_ | refine Ob.m ?_ | refine Ob.mk (Nat.le_of_ble_eq_true rfl) ?_ | refine JoinVC.on ?_ | refine Nils.mk (fun h => ?_) ?_ | refine Val.t ?_ | refine Val.d ?_ | refine Mm.mk ?_ | refine CallVC.pure rfl (c14) ?_ | refine CallVC.pure rfl (hw) ?_ | refine CallVC0.pure rfl (c14) ?_ | refine CallVC0.pure rfl (hw) ?_ | (refine Br.mk (fun h => ?_) (fun h => ?_) <;> first | (exfalso; omega; done) | (exfalso; simp at h; done) | (exfalso; simp [hV] at h; done) | skip))
    all_goals
      conv => whnf
      refine EndVC.mk _ rfl (xP True) [some gNone] rfl ?_
      refine ⟨[some 0], rfl, rfl, ?_, ?_⟩ <;> repeat' (first | exact trivial | exact rfl | exact Iff.rfl | apply And.intro)
  obtain ⟨h6, hf, hg⟩ := hV
  have hn := hf.nm.2.1
  have ho := hf.outer
  have hi := hf.inner
  refine spec_of pMix (O := []) Tryd.func6 (c := bodyOf Tryd.f6) rfl (by kernel_rfl) (by kernel_rfl) Tryd.ntmps6 (res := [.tmp 12]) (by kernel_rfl) ?_
  repeat' ((conv => whnf); first | refine Rng.g ?_ | refine Ob.g ?_ | refine Ob.e ?_ | refine Ob.m ?_ | refine Ob.mk (Nat.le_of_ble_eq_true rfl) ?_ | refine JoinVC.on ?_ | refine Nils.mk (fun h => ?_) ?_ | refine Val.t ?_ | refine Val.d ?_ | refine Mm.mk ?_ | refine CallVC.pure rfl (c14) ?_ | refine CallVC0.pure rfl (c14) ?_ | (refine Br.mk (fun h => ?_) (fun h => ?_) <;> first | (exfalso; omega; done) | (exfalso; simp at h; done) | (exfalso; simp [h6, hf, hg] at h; done) | skip))
  refine LoopVC.mk (fun n st => ∃ (i : Nat), i ≤ l.length ∧ n = l.length - i ∧ ((i = 0 ∧ st = ⟨1, envA 187 [(1, .x (lSng l)), (6, .x (.one (.ptr 1 0))), (10, .x (.one (.ptr 2 0))), (11, .x (.one (.ptr 3 0))), (13, .x (.one (.ptr 4 0))), (14, .x (.one .nils)), (15, .int .i64 (i : Int))], [some gNone, some (bF f), some (.box 53 [.int .u8 x, .int .u8 y, .int .u8 z]), some (bF e), some (bF (mF f a b))]⟩) ∨ st = ⟨1, envA 187 [(1, .x (lSng l)), (6, .x (.one (.ptr 1 0))), (10, .x (.one (.ptr 2 0))), (11, .x (.one (.ptr 3 0))), (13, .x (.one (.ptr 4 0))), (14, .x (.one (.own 5))), (15, .int .i64 (i : Int))], [some gNone, some (bF f), some (.box 53 [.int .u8 x, .int .u8 y, .int .u8 z]), some (bF e), some (bF (mF f a b)), some (.row 25 false KSng (sngA (mL l x y z i)))]⟩)) _ _ ⟨0, Nat.zero_le _, rfl, .inl ⟨rfl, rfl⟩⟩ ?_ ?_
  · refine ⟨[some 0, some 1, some 2, some 3, some 4], rfl, rfl, ?_, ?_⟩ <;> repeat' (first | exact trivial | exact rfl | exact Iff.rfl | apply And.intro)
  rintro n _ ⟨i, hi, hn, hc⟩
  have c0 : rI (sngA l) (i : Int).toNat 0 = (l.getD i g0).long := by rw [Int.toNat_natCast, sngA_0]
  have c1 : rI (sngA l) (i : Int).toNat (0 + 1) = (l.getD i g0).pitch := by rw [Int.toNat_natCast]; exact sngA_1 l i
  have c2 : rI (sngA l) (i : Int).toNat (0 + 1 + 1) = (l.getD i g0).least := by rw [Int.toNat_natCast]; exact sngA_2 l i
  by_cases hi' : i < l.length
  · obtain ⟨⟨o1, o2⟩, ⟨o3, o4⟩, o5, o6⟩ := hg.each i hi'
    have hsn := mL_succ l x y z i hi'
    have hsn2 := sngA_put (mL l x y z i) (mS x y z (l.getD i g0))
    rw [← hsn] at hsn2
    have lm : (sngA (mL l x y z i)).length = i := by rw [sngA_len, List.length_map, List.length_take]; omega
    rcases hc with ⟨h0, rfl⟩ | rfl
    · subst h0
      repeat' ((conv => whnf); first | rw [c0] | rw [c1] | rw [c2] | rw [hsn2] | refine Rng.g ?_ | refine Ob.g ?_ | refine Ob.e ?_ | refine Ob.m ?_ | refine Ob.mk (Nat.le_of_ble_eq_true rfl) ?_ | refine JoinVC.on ?_ | refine Nils.mk (fun h => ?_) ?_ | refine Val.t ?_ | refine Val.d ?_ | refine Mm.mk ?_ | (refine Br.mk (fun h => ?_) (fun h => ?_) <;> first | (exfalso; omega; done) | (exfalso; simp at h; done) | skip))
      refine Back.mk (l.length - (0 + 1)) _ (by omega) ⟨0 + 1, by omega, rfl, .inr rfl⟩ ?_
      refine ⟨[some 0, some 1, some 2, some 3, some 4, some 7], rfl, rfl, ?_, ?_⟩ <;> repeat' (first | exact trivial | exact rfl | exact Iff.rfl | apply And.intro)
      exact hsn2
    · repeat' ((conv => whnf); first | rw [c0] | rw [c1] | rw [c2] | refine Rng.g ?_ | refine Ob.g ?_ | refine Ob.e ?_ | refine Ob.m ?_ | refine Ob.mk (Nat.le_of_ble_eq_true rfl) ?_ | refine JoinVC.on ?_ | refine Nils.mk (fun h => ?_) ?_ | refine Val.t ?_ | refine Val.d ?_ | refine Mm.mk ?_ | (refine Br.mk (fun h => ?_) (fun h => ?_) <;> first | (exfalso; omega; done) | (exfalso; simp at h; done) | skip))
      repeat refine Mm.mk ?_
      refine Ob.mk (by rw [eb25]; simp only [List.length_cons, List.length_nil]; omega) ?_
      repeat' ((conv => whnf); first | rw [hsn2] | refine Rng.g ?_ | refine Ob.g ?_ | refine Ob.e ?_ | refine Ob.m ?_ | refine Ob.mk (Nat.le_of_ble_eq_true rfl) ?_ | refine JoinVC.on ?_ | refine Nils.mk (fun h => ?_) ?_ | refine Val.t ?_ | refine Val.d ?_ | refine Mm.mk ?_ | (refine Br.mk (fun h => ?_) (fun h => ?_) <;> first | (exfalso; omega; done) | (exfalso; simp at h; done) | skip))
      refine Back.mk (l.length - (i + 1)) _ (by omega) ⟨i + 1, by omega, rfl, .inr rfl⟩ ?_
      refine ⟨[some 0, some 1, some 2, some 3, some 4, some 8], rfl, rfl, ?_, ?_⟩ <;> repeat' (first | exact trivial | exact rfl | exact Iff.rfl | apply And.intro)
      exact hsn2
  · have ei : i = l.length := by omega
    subst ei
    have hIf : f.nm.size ≤ 9223372036854775807 := by omega
    rcases hc with ⟨h0, rfl⟩ | rfl
    · have l0 : l = [] := List.eq_nil_of_length_eq_zero h0
      have lM : (l.map (mS x y z)).length = l.length := List.length_map _
      have hL := m_less (f := f) (l := l) ha.1 hb.1 hx.1 hy.1 hz.1 hf hg
      have hG := mF_ok (f := f) ha.1 hb.1 hf
      have hM := mS_ok (l := l) hx.1 hy.1 hz.1 hg
      have eM : l.map (mS x y z) = [] := by rw [l0]; rfl
      have d30 := s18q (mF f a b) (l.map (mS x y z)) hIf (by omega)
      rw [eM] at d30
      have d30 := HSpec.nils (pre := [(mF f a b).x]) (post := []) d30
      have d31 := s22q (mF f a b) (l.map (mS x y z)) hIf
      rw [eM] at d31
      have d31 := HSpec.nils (pre := [(mF f a b).x]) (post := []) d31
      have hI2 : ∀ i, ([mF f a b].getD i f0).nm.size ≤ 9223372036854775807 := fun i => by
        rcases i with _ | i
        · exact hIf
        · exact (by decide : f0.nm.size ≤ 9223372036854775807)
      have d18 := s18aq [mF f a b] (l.map (mS x y z)) hI2
      rw [eM] at d18
      have d18 := HSpec.nils (pre := [lFmt [mF f a b]]) (post := []) d18
      rw [← eM] at d30 d31 d18
      repeat' ((conv => whnf); first | refine Rng.g ?_ | refine Ob.g ?_ | refine Ob.e ?_ | refine Ob.m ?_ | refine Ob.mk (Nat.le_of_ble_eq_true rfl) ?_ | refine JoinVC.on ?_ | refine Nils.mk (fun h => ?_) ?_ | refine Val.t ?_ | refine Val.d ?_ | refine Mm.mk ?_ | (refine Br.mk (fun h => ?_) (fun h => ?_) <;> first | (exfalso; omega; done) | (exfalso; simp at h; done) | skip))
      conv => whnf
      refine CallVC.mk [] _ _ _ rfl rfl rfl (s18q f l hIf (by omega)) (fun r m' h' => ?_)
      obtain ⟨rfl, rfl⟩ := h'
      repeat' ((conv => whnf); first | refine Rng.g ?_ | refine Ob.g ?_ | refine Ob.e ?_ | refine Ob.m ?_ | refine Ob.mk (Nat.le_of_ble_eq_true rfl) ?_ | refine JoinVC.on ?_ | refine Nils.mk (fun h => ?_) ?_ | refine Val.t ?_ | refine Val.d ?_ | refine Mm.mk ?_ | (refine Br.mk (fun h => ?_) (fun h => ?_) <;> first | (exfalso; omega; done) | (exfalso; simp at h; done) | skip))
      conv => whnf
      refine CallVC.mk [] _ _ _ rfl rfl rfl (d30) (fun r m' h' => ?_)
      obtain ⟨rfl, rfl⟩ := h'
      have hA : arE f l = 0 → arE (mF f a b) (l.map (mS x y z)) = 0 := fun h1 => by
        have h2 : LayOK f l (allO l) := Classical.byContradiction fun hc => by
          have e : arE f l = 15 := (if_neg (fun h => h (bothE_ok hf hg))).trans (if_neg hc)
          rw [e] at h1; cases h1
        exact (if_neg (fun h => h (bothE_ok hG hM))).trans (if_pos (all_mono hf hG hM hL h2))
      have hI1 : ∀ i, ([f].getD i f0).nm.size ≤ 9223372036854775807 := fun i => by
        rcases i with _ | i
        · exact hIf
        · exact (by decide : f0.nm.size ≤ 9223372036854775807)
      have hI2 : ∀ i, ([mF f a b].getD i f0).nm.size ≤ 9223372036854775807 := fun i => by
        rcases i with _ | i
        · exact hIf
        · exact (by decide : f0.nm.size ≤ 9223372036854775807)
      have hI3 : ∀ i, ([f, e].getD i f0).nm.size ≤ 9223372036854775807 := fun i => by
        rcases i with _ | _ | i
        · exact hIf
        · exact hI
        · exact (by decide : f0.nm.size ≤ 9223372036854775807)
      repeat' ((conv => whnf); first | refine Rng.g ?_ | refine Ob.g ?_ | refine Ob.e ?_ | refine Ob.m ?_ | refine Ob.mk (Nat.le_of_ble_eq_true rfl) ?_ | refine JoinVC.on ?_ | refine Nils.mk (fun h => ?_) ?_ | refine Val.t ?_ | refine Val.d ?_ | refine Mm.mk ?_ | (refine Br.mk (fun h => ?_) (fun h => ?_) <;> first | (exfalso; omega; done) | (exfalso; simp at h; done) | skip))
      all_goals
        conv => whnf
        refine CallVC.mk [] _ _ _ rfl rfl rfl (s22q f l hIf) (fun r m' h' => ?_)
        obtain ⟨n3, E3, hQ3, rfl, rfl⟩ := h'
        repeat' ((conv => whnf); first | refine Rng.g ?_ | refine Ob.g ?_ | refine Ob.e ?_ | refine Ob.m ?_ | refine Ob.mk (Nat.le_of_ble_eq_true rfl) ?_ | refine JoinVC.on ?_ | refine Nils.mk (fun h => ?_) ?_ | refine Val.t ?_ | refine Val.d ?_ | refine Mm.mk ?_ | (refine Br.mk (fun h => ?_) (fun h => ?_) <;> first | (exfalso; omega; done) | (exfalso; simp at h; done) | skip))
        conv => whnf
        refine CallVC.mk [] _ _ _ rfl rfl rfl (d31) (fun r m' h' => ?_)
        obtain ⟨n4, E4, hQ4, rfl, rfl⟩ := h'
        have hP : E3 = 0 → E4 = 0 ∧ n4 ≤ n3 := fun h1 => by
          obtain ⟨s, q, e1, e2, e3⟩ := hQ3.1 h1
          obtain ⟨q2, e4⟩ := Option.ne_none_iff_exists'.1 (pack_mono hf hG hM hL e3)
          rw [e1]
          exact hQ4.2 hG hM (by omega) s q2 (by omega) e4
        repeat' ((conv => whnf); first | refine Rng.g ?_ | refine Ob.g ?_ | refine Ob.e ?_ | refine Ob.m ?_ | refine Ob.mk (Nat.le_of_ble_eq_true rfl) ?_ | refine JoinVC.on ?_ | refine Nils.mk (fun h => ?_) ?_ | refine Val.t ?_ | refine Val.d ?_ | refine Mm.mk ?_ | (refine Br.mk (fun h => ?_) (fun h => ?_) <;> first | (exfalso; omega; done) | (exfalso; simp at h; done) | skip))
        all_goals
          conv => whnf
          refine CallVC.mk [0] _ _ _ rfl rfl rfl (s18aq [f] l hI1) (fun r m' h' => ?_)
          obtain ⟨n5, E5, hQ5, rfl, rfl⟩ := h'
          repeat' ((conv => whnf); first | refine Rng.g ?_ | refine Ob.g ?_ | refine Ob.e ?_ | refine Ob.m ?_ | refine Ob.mk (Nat.le_of_ble_eq_true rfl) ?_ | refine JoinVC.on ?_ | refine Nils.mk (fun h => ?_) ?_ | refine Val.t ?_ | refine Val.d ?_ | refine Mm.mk ?_ | (refine Br.mk (fun h => ?_) (fun h => ?_) <;> first | (exfalso; omega; done) | (exfalso; simp at h; done) | skip))
          conv => whnf
          refine CallVC.mk [0] _ _ _ rfl rfl rfl (d18) (fun r m' h' => ?_)
          obtain ⟨n6, E6, hQ6, rfl, rfl⟩ := h'
          have hB : E5 = 0 → E6 = 0 ∧ n6 ≤ n5 := fun h1 => by
            obtain ⟨w, q, e1, e2⟩ := hQ5.1 h1
            obtain ⟨w2, q2, e3, e4⟩ := bst_mono hf hM hL e2
            obtain ⟨e5, e6⟩ := hQ6.2.1 ⟨by simp, fun i hi => (by
              have : i = 0 := by simp at hi; exact hi
              subst this
              exact hG), hM⟩ w2 q2 e3
            exact ⟨e5, by omega⟩
          repeat' ((conv => whnf); first | refine Rng.g ?_ | refine Ob.g ?_ | refine Ob.e ?_ | refine Ob.m ?_ | refine Ob.mk (Nat.le_of_ble_eq_true rfl) ?_ | refine JoinVC.on ?_ | refine Nils.mk (fun h => ?_) ?_ | refine Val.t ?_ | refine Val.d ?_ | refine Mm.mk ?_ | (refine Br.mk (fun h => ?_) (fun h => ?_) <;> first | (exfalso; omega; done) | (exfalso; simp at h; done) | skip))
          all_goals
            conv => whnf
            refine CallVC.mk [0] _ _ _ rfl rfl rfl (s18aq [f, e] l hI3) (fun r m' h' => ?_)
            obtain ⟨n7, E7, hQ7, rfl, rfl⟩ := h'
            have hC : E5 = 0 → FmtOK e → E7 = 0 ∧ n7 ≤ n5 := fun h1 hE => by
              obtain ⟨w, q, e1, e2⟩ := hQ5.1 h1
              obtain ⟨w2, q2, e3, e4⟩ := bst_more (a := e) e2
              obtain ⟨e5, e6⟩ := hQ7.2.1 ⟨by simp, fun i hi => (by
                rcases i with _ | _ | i
                · exact hf
                · exact hE
                · (simp only [List.length_cons, List.length_nil] at hi; omega)), hg⟩ w2 q2 e3
              exact ⟨e5, by omega⟩
            have v := s41 e
            by_cases hE : FmtOK e
            · rw [fmtE_ok hE] at v
              have hC2 := fun h1 => hC h1 hE
              repeat' ((conv => whnf); first | refine Rng.g ?_ | refine Ob.g ?_ | refine Ob.e ?_ | refine Ob.m ?_ | refine Ob.mk (Nat.le_of_ble_eq_true rfl) ?_ | refine JoinVC.on ?_ | refine Nils.mk (fun h => ?_) ?_ | refine Val.t ?_ | refine Val.d ?_ | refine Mm.mk ?_ | refine CallVC.pure rfl (v) ?_ | refine CallVC.pure rfl (hw) ?_ | refine CallVC0.pure rfl (v) ?_ | refine CallVC0.pure rfl (hw) ?_ | (refine Br.mk (fun h => ?_) (fun h => ?_) <;> first | (exfalso; omega; done) | (exfalso; simp at h; done) | skip))
              all_goals first
                | (exfalso; omega; done)
                | (
                  conv => whnf
                  refine EndVC.mk _ rfl (xP True) [some gNone] rfl ?_
                  refine ⟨[some 0], rfl, rfl, ?_, ?_⟩ <;> repeat' (first | exact trivial | exact rfl | exact Iff.rfl | apply And.intro))
            · rw [fmtE_no hE] at v
              have hm : fmsE [f, e] l = 2 := fmsE_bad (by simp) (i := 1) (by simp) hE
              have hD : E7 = 2 := by rw [hQ7.2.2 (by rw [hm]; decide), hm]
              repeat' ((conv => whnf); first | refine Rng.g ?_ | refine Ob.g ?_ | refine Ob.e ?_ | refine Ob.m ?_ | refine Ob.mk (Nat.le_of_ble_eq_true rfl) ?_ | refine JoinVC.on ?_ | refine Nils.mk (fun h => ?_) ?_ | refine Val.t ?_ | refine Val.d ?_ | refine Mm.mk ?_ | refine CallVC.pure rfl (v) ?_ | refine CallVC.pure rfl (hw) ?_ | refine CallVC0.pure rfl (v) ?_ | refine CallVC0.pure rfl (hw) ?_ | (refine Br.mk (fun h => ?_) (fun h => ?_) <;> first | (exfalso; omega; done) | (exfalso; simp at h; done) | skip))
              all_goals first
                | (exfalso; omega; done)
                | (
                  conv => whnf
                  refine EndVC.mk _ rfl (xP True) [some gNone] rfl ?_
                  refine ⟨[some 0], rfl, rfl, ?_, ?_⟩ <;> repeat' (first | exact trivial | exact rfl | exact Iff.rfl | apply And.intro))
    · have eM : mL l x y z l.length = l.map (mS x y z) := by unfold mL; rw [List.take_length]
      rw [eM]
      have lM : (l.map (mS x y z)).length = l.length := List.length_map _
      have hL := m_less (f := f) (l := l) ha.1 hb.1 hx.1 hy.1 hz.1 hf hg
      have hG := mF_ok (f := f) ha.1 hb.1 hf
      have hM := mS_ok (l := l) hx.1 hy.1 hz.1 hg
      repeat' ((conv => whnf); first | refine Rng.g ?_ | refine Ob.g ?_ | refine Ob.e ?_ | refine Ob.m ?_ | refine Ob.mk (Nat.le_of_ble_eq_true rfl) ?_ | refine JoinVC.on ?_ | refine Nils.mk (fun h => ?_) ?_ | refine Val.t ?_ | refine Val.d ?_ | refine Mm.mk ?_ | (refine Br.mk (fun h => ?_) (fun h => ?_) <;> first | (exfalso; omega; done) | (exfalso; simp at h; done) | skip))
      conv => whnf
      refine CallVC.mk [] _ _ _ rfl rfl rfl (s18q f l hIf (by omega)) (fun r m' h' => ?_)
      obtain ⟨rfl, rfl⟩ := h'
      repeat' ((conv => whnf); first | refine Rng.g ?_ | refine Ob.g ?_ | refine Ob.e ?_ | refine Ob.m ?_ | refine Ob.mk (Nat.le_of_ble_eq_true rfl) ?_ | refine JoinVC.on ?_ | refine Nils.mk (fun h => ?_) ?_ | refine Val.t ?_ | refine Val.d ?_ | refine Mm.mk ?_ | (refine Br.mk (fun h => ?_) (fun h => ?_) <;> first | (exfalso; omega; done) | (exfalso; simp at h; done) | skip))
      conv => whnf
      refine CallVC.mk [] _ _ _ rfl rfl rfl (s18q (mF f a b) (l.map (mS x y z)) hIf (by omega)) (fun r m' h' => ?_)
      obtain ⟨rfl, rfl⟩ := h'
      have hA : arE f l = 0 → arE (mF f a b) (l.map (mS x y z)) = 0 := fun h1 => by
        have h2 : LayOK f l (allO l) := Classical.byContradiction fun hc => by
          have e : arE f l = 15 := (if_neg (fun h => h (bothE_ok hf hg))).trans (if_neg hc)
          rw [e] at h1; cases h1
        exact (if_neg (fun h => h (bothE_ok hG hM))).trans (if_pos (all_mono hf hG hM hL h2))
      have hI1 : ∀ i, ([f].getD i f0).nm.size ≤ 9223372036854775807 := fun i => by
        rcases i with _ | i
        · exact hIf
        · exact (by decide : f0.nm.size ≤ 9223372036854775807)
      have hI2 : ∀ i, ([mF f a b].getD i f0).nm.size ≤ 9223372036854775807 := fun i => by
        rcases i with _ | i
        · exact hIf
        · exact (by decide : f0.nm.size ≤ 9223372036854775807)
      have hI3 : ∀ i, ([f, e].getD i f0).nm.size ≤ 9223372036854775807 := fun i => by
        rcases i with _ | _ | i
        · exact hIf
        · exact hI
        · exact (by decide : f0.nm.size ≤ 9223372036854775807)
      repeat' ((conv => whnf); first | refine Rng.g ?_ | refine Ob.g ?_ | refine Ob.e ?_ | refine Ob.m ?_ | refine Ob.mk (Nat.le_of_ble_eq_true rfl) ?_ | refine JoinVC.on ?_ | refine Nils.mk (fun h => ?_) ?_ | refine Val.t ?_ | refine Val.d ?_ | refine Mm.mk ?_ | (refine Br.mk (fun h => ?_) (fun h => ?_) <;> first | (exfalso; omega; done) | (exfalso; simp at h; done) | skip))
      all_goals
        conv => whnf
        refine CallVC.mk [] _ _ _ rfl rfl rfl (s22q f l hIf) (fun r m' h' => ?_)
        obtain ⟨n3, E3, hQ3, rfl, rfl⟩ := h'
        repeat' ((conv => whnf); first | refine Rng.g ?_ | refine Ob.g ?_ | refine Ob.e ?_ | refine Ob.m ?_ | refine Ob.mk (Nat.le_of_ble_eq_true rfl) ?_ | refine JoinVC.on ?_ | refine Nils.mk (fun h => ?_) ?_ | refine Val.t ?_ | refine Val.d ?_ | refine Mm.mk ?_ | (refine Br.mk (fun h => ?_) (fun h => ?_) <;> first | (exfalso; omega; done) | (exfalso; simp at h; done) | skip))
        conv => whnf
        refine CallVC.mk [] _ _ _ rfl rfl rfl (s22q (mF f a b) (l.map (mS x y z)) hIf) (fun r m' h' => ?_)
        obtain ⟨n4, E4, hQ4, rfl, rfl⟩ := h'
        have hP : E3 = 0 → E4 = 0 ∧ n4 ≤ n3 := fun h1 => by
          obtain ⟨s, q, e1, e2, e3⟩ := hQ3.1 h1
          obtain ⟨q2, e4⟩ := Option.ne_none_iff_exists'.1 (pack_mono hf hG hM hL e3)
          rw [e1]
          exact hQ4.2 hG hM (by omega) s q2 (by omega) e4
        repeat' ((conv => whnf); first | refine Rng.g ?_ | refine Ob.g ?_ | refine Ob.e ?_ | refine Ob.m ?_ | refine Ob.mk (Nat.le_of_ble_eq_true rfl) ?_ | refine JoinVC.on ?_ | refine Nils.mk (fun h => ?_) ?_ | refine Val.t ?_ | refine Val.d ?_ | refine Mm.mk ?_ | (refine Br.mk (fun h => ?_) (fun h => ?_) <;> first | (exfalso; omega; done) | (exfalso; simp at h; done) | skip))
        all_goals
          conv => whnf
          refine CallVC.mk [0] _ _ _ rfl rfl rfl (s18aq [f] l hI1) (fun r m' h' => ?_)
          obtain ⟨n5, E5, hQ5, rfl, rfl⟩ := h'
          repeat' ((conv => whnf); first | refine Rng.g ?_ | refine Ob.g ?_ | refine Ob.e ?_ | refine Ob.m ?_ | refine Ob.mk (Nat.le_of_ble_eq_true rfl) ?_ | refine JoinVC.on ?_ | refine Nils.mk (fun h => ?_) ?_ | refine Val.t ?_ | refine Val.d ?_ | refine Mm.mk ?_ | (refine Br.mk (fun h => ?_) (fun h => ?_) <;> first | (exfalso; omega; done) | (exfalso; simp at h; done) | skip))
          conv => whnf
          refine CallVC.mk [0] _ _ _ rfl rfl rfl (s18aq [mF f a b] (l.map (mS x y z)) hI2) (fun r m' h' => ?_)
          obtain ⟨n6, E6, hQ6, rfl, rfl⟩ := h'
          have hB : E5 = 0 → E6 = 0 ∧ n6 ≤ n5 := fun h1 => by
            obtain ⟨w, q, e1, e2⟩ := hQ5.1 h1
            obtain ⟨w2, q2, e3, e4⟩ := bst_mono hf hM hL e2
            obtain ⟨e5, e6⟩ := hQ6.2.1 ⟨by simp, fun i hi => (by
              have : i = 0 := by simp at hi; exact hi
              subst this
              exact hG), hM⟩ w2 q2 e3
            exact ⟨e5, by omega⟩
          repeat' ((conv => whnf); first | refine Rng.g ?_ | refine Ob.g ?_ | refine Ob.e ?_ | refine Ob.m ?_ | refine Ob.mk (Nat.le_of_ble_eq_true rfl) ?_ | refine JoinVC.on ?_ | refine Nils.mk (fun h => ?_) ?_ | refine Val.t ?_ | refine Val.d ?_ | refine Mm.mk ?_ | (refine Br.mk (fun h => ?_) (fun h => ?_) <;> first | (exfalso; omega; done) | (exfalso; simp at h; done) | skip))
          all_goals
            conv => whnf
            refine CallVC.mk [0] _ _ _ rfl rfl rfl (s18aq [f, e] l hI3) (fun r m' h' => ?_)
            obtain ⟨n7, E7, hQ7, rfl, rfl⟩ := h'
            have hC : E5 = 0 → FmtOK e → E7 = 0 ∧ n7 ≤ n5 := fun h1 hE => by
              obtain ⟨w, q, e1, e2⟩ := hQ5.1 h1
              obtain ⟨w2, q2, e3, e4⟩ := bst_more (a := e) e2
              obtain ⟨e5, e6⟩ := hQ7.2.1 ⟨by simp, fun i hi => (by
                rcases i with _ | _ | i
                · exact hf
                · exact hE
                · (simp only [List.length_cons, List.length_nil] at hi; omega)), hg⟩ w2 q2 e3
              exact ⟨e5, by omega⟩
            have v := s41 e
            by_cases hE : FmtOK e
            · rw [fmtE_ok hE] at v
              have hC2 := fun h1 => hC h1 hE
              repeat' ((conv => whnf); first | refine Rng.g ?_ | refine Ob.g ?_ | refine Ob.e ?_ | refine Ob.m ?_ | refine Ob.mk (Nat.le_of_ble_eq_true rfl) ?_ | refine JoinVC.on ?_ | refine Nils.mk (fun h => ?_) ?_ | refine Val.t ?_ | refine Val.d ?_ | refine Mm.mk ?_ | refine CallVC.pure rfl (v) ?_ | refine CallVC.pure rfl (hw) ?_ | refine CallVC0.pure rfl (v) ?_ | refine CallVC0.pure rfl (hw) ?_ | (refine Br.mk (fun h => ?_) (fun h => ?_) <;> first | (exfalso; omega; done) | (exfalso; simp at h; done) | skip))
              all_goals first
                | (exfalso; omega; done)
                | (
                  conv => whnf
                  refine EndVC.mk _ rfl (xP True) [some gNone] rfl ?_
                  refine ⟨[some 0], rfl, rfl, ?_, ?_⟩ <;> repeat' (first | exact trivial | exact rfl | exact Iff.rfl | apply And.intro))
            · rw [fmtE_no hE] at v
              have hm : fmsE [f, e] l = 2 := fmsE_bad (by simp) (i := 1) (by simp) hE
              have hD : E7 = 2 := by rw [hQ7.2.2 (by rw [hm]; decide), hm]
              repeat' ((conv => whnf); first | refine Rng.g ?_ | refine Ob.g ?_ | refine Ob.e ?_ | refine Ob.m ?_ | refine Ob.mk (Nat.le_of_ble_eq_true rfl) ?_ | refine JoinVC.on ?_ | refine Nils.mk (fun h => ?_) ?_ | refine Val.t ?_ | refine Val.d ?_ | refine Mm.mk ?_ | refine CallVC.pure rfl (v) ?_ | refine CallVC.pure rfl (hw) ?_ | refine CallVC0.pure rfl (v) ?_ | refine CallVC0.pure rfl (hw) ?_ | (refine Br.mk (fun h => ?_) (fun h => ?_) <;> first | (exfalso; omega; done) | (exfalso; simp at h; done) | skip))
              all_goals first
                | (exfalso; omega; done)
                | (
                  conv => whnf
                  refine EndVC.mk _ rfl (xP True) [some gNone] rfl ?_
                  refine ⟨[some 0], rfl, rfl, ?_, ?_⟩ <;> repeat' (first | exact trivial | exact rfl | exact Iff.rfl | apply And.intro))
end Go.Sx

namespace Go.Sx
open Go Go.Proofs
set_option maxRecDepth 10000
/-! ### Rows read as tracks, formats, faces -/
theorem wfr_of : ∀ {ks : List CK} {r : List Cell}, r.length = ks.length → (∀ (j : Nat) k c, ks[j]? = some k → r[j]? = some c → Wf k c) → WfR ks r
  | [], [], _, _ => .nil
  | [], _ :: _, h, _ => by simp at h
  | _ :: _, [], h, _ => by simp at h
  | k :: ks, c :: cs, h, hw => .cons (hw 0 k c rfl rfl) (wfr_of (by simpa using h) fun j k' c' h1 h2 => hw (j + 1) k' c' (by simpa using h1) (by simpa using h2))
theorem wf_map {α : Type} {ks : List CK} {row : α → List Cell} {p : α → Prop} (hrow : ∀ r, WfR ks r → ∃ x, r = row x ∧ p x) {a : Arr} (h : Wf (.sl ks) (.sl a)) : ∃ l : List α, a = l.map row ∧ ∀ x ∈ l, p x := by
  cases h with
  | sl hl hr hw =>
    clear hl
    induction a with
    | nil => exact ⟨[], rfl, fun x hx => by simp at hx⟩
    | cons r a ih =>
      obtain ⟨l, rfl, h2⟩ := ih (fun r h => hr r (List.mem_cons_of_mem _ h)) (fun r h => hw r (List.mem_cons_of_mem _ h))
      obtain ⟨x, rfl, h3⟩ := hrow r (wfr_of (hr r (List.mem_cons_self ..)) (hw r (List.mem_cons_self ..)))
      exact ⟨x :: l, rfl, fun y hy => by rcases List.mem_cons.1 hy with rfl | hy; (· exact h3); exact h2 y hy⟩
def Sng.inR (g : Sng) : Prop := Go.Sx.inR .i64 g.long ∧ Go.Sx.inR .i64 g.pitch ∧ Go.Sx.inR .i64 g.least
theorem wf_sngs {a : Arr} (h : Wf (.sl KSng) (.sl a)) : ∃ l : List Sng, a = sngA l ∧ ∀ g ∈ l, g.inR := by
  obtain ⟨l, h1, h2⟩ := wf_map (row := fun g : Sng => [.int g.long, .int g.pitch, .int g.least]) (p := Sng.inR) (fun r hr => by
    obtain ⟨c0, _, rfl, g0, h1⟩ := hr.inv
    obtain ⟨n0, rfl, i0⟩ := g0.int_inv
    obtain ⟨c1, _, rfl, g1, h2⟩ := h1.inv
    obtain ⟨n1, rfl, i1⟩ := g1.int_inv
    obtain ⟨c2, _, rfl, g2, h3⟩ := h2.inv
    obtain ⟨n2, rfl, i2⟩ := g2.int_inv
    cases h3.nil_inv
    exact ⟨⟨n0, n1, n2⟩, rfl, i0, i1, i2⟩) h
  exact ⟨l, h1, h2⟩
end Go.Sx

namespace Go.Sx
open Go Go.Proofs
set_option maxRecDepth 10000
end Go.Sx
