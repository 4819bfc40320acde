import Derived.Test.YtaehphnchiffnaaPrSideOrderA
import Derived.Test.YtaehphnchiffnaaPrSideOrderB
import Derived.Test.YtaehphnchiffnaaXc
namespace Go.Sx
open Go Go.Proofs
set_option maxRecDepth 10000
set_option maxHeartbeats 8000000
theorem e76 : EntersF Try.prog 76 := enters_of Try.func76 (c := bodyOf Try.f76) (by kernel_rfl) rfl
theorem upd0 (n : Nat) : updRow (i64s (List.replicate (n + 1) (-1))) (Int.toNat 0) 0 [Cell.int 0] = i64s ((List.replicate (n + 1) (-1)).set 0 0) := i64s_upd' _ 0 0 (by simp)
noncomputable def rf33 : Code := cB (cS (cS (cS (cB (cF (cS (cS (cL (cB (cS (cF (cS (cS (cS (cS (cS (bodyOf Try.f33)))))))))))))))))
theorem s53 (F : List Fmt) (l : List Sng) (n : Int) (i : Int) : HSpec Try.prog 53 [.one (.ptr 0 0), I i] [bAlb F l n] (fun r m' => r = .x (.one (.fn 76 [(1, 0), (2, 0)])) ∧ m' = [some (bAlb F l n), some (.box 85 [.ptr 0 0]), some (.box 3 [.int .i64 i])]) := by
  refine spec_of pMix (O := []) Try.func53 (c := bodyOf Try.f53) rfl (by kernel_rfl) (by kernel_rfl) Try.ntmps53 (res := [.tmp 4]) (by kernel_rfl) ?_
  repeat' ((conv => whnf); first | refine Rng.g ?_ | refine Ob.g ?_ | refine Ob.e ?_ | refine Ob.m ?_ | refine Ob.mk (Nat.le_of_ble_eq_true rfl) ?_ | refine JoinVC.on ?_ | refine Nils.mk (fun h => ?_) ?_ | refine Val.t ?_ | refine Val.d ?_ | refine Mm.mk ?_ | (refine Br.mk (fun h => ?_) (fun h => ?_) <;> first | (exfalso; omega; done) | (exfalso; simp at h; done) | skip))
  repeat refine Mm.mk ?_
  conv => whnf
  refine EndVC.mk _ rfl _ _ (⟨rfl, rfl⟩) ?_
  refine ⟨[some 0, some 1, some 2], rfl, rfl, ?_, ?_⟩ <;> repeat' (first | exact trivial | exact rfl | exact Iff.rfl | apply And.intro)
theorem s33 (F : List Fmt) (l : List Sng) (hI : ∀ i, (F.getD i f0).nm.size ≤ 140737488355328) : HSpec Try.prog 33 [lFmt F, lSng l] [] (fun r m' => (fmsE F l ≠ 0 ∧ r = .tup [.one .nils, I (fmsE F l)] ∧ m' = []) ∨ (AlbOK F l ∧ ∃ p, PrcOK F l (Reach F l) p ∧ r = .tup [.one (.own 0), I 0] ∧ m' = [some (rowPr p)])) := by
  have ll := sngA_len l
  refine spec_of pMix (O := []) Try.func33 (c := bodyOf Try.f33) rfl (by kernel_rfl) (by kernel_rfl) Try.ntmps33 (res := [.tmp 4, .tmp 5]) (by kernel_rfl) ?_
  repeat' ((conv => whnf); first | refine Rng.g ?_ | refine Ob.g ?_ | refine Ob.e ?_ | refine Ob.m ?_ | refine Ob.mk (Nat.le_of_ble_eq_true rfl) ?_ | refine JoinVC.on ?_ | refine Nils.mk (fun h => ?_) ?_ | refine Val.t ?_ | refine Val.d ?_ | refine Mm.mk ?_ | (refine Br.mk (fun h => ?_) (fun h => ?_) <;> first | (exfalso; omega; done) | (exfalso; simp at h; done) | skip))
  conv => whnf
  refine CallVC.mk [] _ _ _ rfl rfl rfl (s49 F l hI) (fun r m' h' => ?_)
  rcases h' with ⟨he, rfl, rfl⟩ | ⟨he, rfl, rfl⟩ | ⟨hA, rfl, rfl⟩
  · repeat' ((conv => whnf); first | refine Rng.g ?_ | refine Ob.g ?_ | refine Ob.e ?_ | refine Ob.m ?_ | refine Ob.mk (Nat.le_of_ble_eq_true rfl) ?_ | refine JoinVC.on ?_ | refine Nils.mk (fun h => ?_) ?_ | refine Val.t ?_ | refine Val.d ?_ | refine Mm.mk ?_ | (refine Br.mk (fun h => ?_) (fun h => ?_) <;> first | (exfalso; omega; done) | (exfalso; simp at h; done) | skip))
    repeat refine Mm.mk ?_
    conv => whnf
    refine EndVC.mk _ rfl _ _ (.inl ⟨he, rfl, rfl⟩) ?_
    refine ⟨[], rfl, rfl, ?_, ?_⟩ <;> repeat' (first | exact trivial | exact rfl | exact Iff.rfl | apply And.intro)
  · repeat' ((conv => whnf); first | refine Rng.g ?_ | refine Ob.g ?_ | refine Ob.e ?_ | refine Ob.m ?_ | refine Ob.mk (Nat.le_of_ble_eq_true rfl) ?_ | refine JoinVC.on ?_ | refine Nils.mk (fun h => ?_) ?_ | refine Val.t ?_ | refine Val.d ?_ | refine Mm.mk ?_ | (refine Br.mk (fun h => ?_) (fun h => ?_) <;> first | (exfalso; omega; done) | (exfalso; simp at h; done) | skip))
    repeat refine Mm.mk ?_
    conv => whnf
    refine EndVC.mk _ rfl _ _ (.inl ⟨he, rfl, rfl⟩) ?_
    refine ⟨[], rfl, rfl, ?_, ?_⟩ <;> repeat' (first | exact trivial | exact rfl | exact Iff.rfl | apply And.intro)
  have h24 := hA.sngs.len
  have e1 : ((l.length + 1 : Nat) : Int) = (l.length : Int) + 1 := by omega
  have c66 := s66 (l.length + 1) (by omega)
  rw [e1] at c66
  have lr : (i64s (List.replicate (l.length + 1) (-1))).length = l.length + 1 := by rw [i64s_len, List.length_replicate]
  repeat' ((conv => whnf); first | rw [ll] | refine Rng.g ?_ | refine Ob.g ?_ | refine Ob.e ?_ | refine Ob.m ?_ | refine Ob.mk (Nat.le_of_ble_eq_true rfl) ?_ | refine JoinVC.on ?_ | refine Nils.mk (fun h => ?_) ?_ | refine Val.t ?_ | refine Val.d ?_ | refine Mm.mk ?_ | (refine Br.mk (fun h => ?_) (fun h => ?_) <;> first | (exfalso; omega; done) | (exfalso; simp at h; done) | skip))
  conv => whnf
  refine CallVC.mk [] _ _ _ rfl rfl rfl (c66) (fun r m' h' => ?_)
  obtain ⟨rfl, rfl⟩ := h'
  conv => whnf
  repeat' ((conv => whnf); first | refine Rng.g ?_ | refine Ob.g ?_ | refine Ob.e ?_ | refine Ob.m ?_ | refine Ob.mk (Nat.le_of_ble_eq_true rfl) ?_ | refine JoinVC.on ?_ | refine Nils.mk (fun h => ?_) ?_ | refine Val.t ?_ | refine Val.d ?_ | refine Mm.mk ?_ | (refine Br.mk (fun h => ?_) (fun h => ?_) <;> first | (exfalso; omega; done) | (exfalso; simp at h; done) | skip))
  refine LoopVC.mk (fun m st => ∃ (i : Nat) (p : List Int), i ≤ l.length ∧ m = l.length - i ∧ PrcOK F l (Cand F l i) p ∧ st = ⟨0, envA 83 [(6, .x (.one (.ptr 1 0))), (8, .x (.one (.ptr 3 0))), (30, .int .i64 (l.length : Int)), (31, .int .i64 (i : Int))], [some (bAlb F l (l.length : Int)), some (.box 85 [.ptr 0 0]), some (rowPr p), some (.box 48 [.own 2])]⟩) _ _ ⟨0, _, Nat.zero_le _, rfl, prc_start, rfl⟩ ?_ ?_
  · rw [upd0]
    refine ⟨[some 0, some 1, some 3, some 4], rfl, rfl, ?_, ?_⟩ <;> repeat' (first | exact trivial | exact rfl | exact Iff.rfl | apply And.intro)
    exact congrArg Int.ofNat ll
  rintro m _ ⟨i, p, hi, hm, hP, rfl⟩
  have lp := hP.len
  have lpi := i64s_len p
  by_cases hi' : i < l.length
  rotate_left
  · have ei : i = l.length := by omega
    subst ei
    repeat' ((conv => whnf); first | refine Rng.g ?_ | refine Ob.g ?_ | refine Ob.e ?_ | refine Ob.m ?_ | refine Ob.mk (Nat.le_of_ble_eq_true rfl) ?_ | refine JoinVC.on ?_ | refine Nils.mk (fun h => ?_) ?_ | refine Val.t ?_ | refine Val.d ?_ | refine Mm.mk ?_ | (refine Br.mk (fun h => ?_) (fun h => ?_) <;> first | (exfalso; omega; done) | (exfalso; simp at h; done) | skip))
    repeat refine Mm.mk ?_
    conv => whnf
    refine EndVC.mk _ rfl _ _ (.inr ⟨hA, p, prc_end hP, rfl, rfl⟩) ?_
    refine ⟨[some 2], rfl, rfl, ?_, ?_⟩ <;> repeat' (first | exact trivial | exact rfl | exact Iff.rfl | apply And.intro)
  have gi : rI (i64s p) (i : Int).toNat 0 = p.getD i 0 := by rw [Int.toNat_natCast]; exact i64s_get p i
  by_cases h0 : p.getD i 0 < 0
  · repeat' ((conv => whnf); first | rw [gi] | refine Rng.g ?_ | refine Ob.g ?_ | refine Ob.e ?_ | refine Ob.m ?_ | refine Ob.mk (Nat.le_of_ble_eq_true rfl) ?_ | refine JoinVC.on ?_ | refine Nils.mk (fun h => ?_) ?_ | refine Val.t ?_ | refine Val.d ?_ | refine Mm.mk ?_ | (refine Br.mk (fun h => ?_) (fun h => ?_) <;> first | (exfalso; omega; done) | (exfalso; simp at h; done) | skip))
    refine Back.mk (l.length - (i + 1)) _ (by omega) ⟨i + 1, p, by omega, rfl, prc_skip hP hi h0, rfl⟩ ?_
    refine ⟨[some 0, some 1, some 2, some 3], rfl, rfl, ?_, ?_⟩ <;> repeat' (first | exact trivial | exact rfl | exact Iff.rfl | apply And.intro)
  repeat' ((conv => whnf); first | rw [gi] | refine Rng.g ?_ | refine Ob.g ?_ | refine Ob.e ?_ | refine Ob.m ?_ | refine Ob.mk (Nat.le_of_ble_eq_true rfl) ?_ | refine JoinVC.on ?_ | refine Nils.mk (fun h => ?_) ?_ | refine Val.t ?_ | refine Val.d ?_ | refine Mm.mk ?_ | (refine Br.mk (fun h => ?_) (fun h => ?_) <;> first | (exfalso; omega; done) | (exfalso; simp at h; done) | skip))
  conv => whnf
  refine CallVC.mk [0] _ _ _ rfl rfl rfl (s53 F l (l.length : Int) (i : Int)) (fun r m' h' => ?_)
  obtain ⟨rfl, rfl⟩ := h'
  conv => whnf
  repeat' ((conv => whnf); first | refine Rng.g ?_ | refine Ob.g ?_ | refine Ob.e ?_ | refine Ob.m ?_ | refine Ob.mk (Nat.le_of_ble_eq_true rfl) ?_ | refine JoinVC.on ?_ | refine Nils.mk (fun h => ?_) ?_ | refine Val.t ?_ | refine Val.d ?_ | refine Mm.mk ?_ | (refine Br.mk (fun h => ?_) (fun h => ?_) <;> first | (exfalso; omega; done) | (exfalso; simp at h; done) | skip))
  have lpl := plsA_len F l
  have h8 := hA.few
  change RangeVC _ _ _ _ _
  refine RangeVC.mk e76 (isem_of_awp pMix [] Try.func76 (c := bodyOf Try.f76) rfl (by kernel_rfl) Try.ntmps76 (by kernel_rfl) ?_)
  repeat' ((conv => whnf); first | refine Rng.g ?_ | refine Ob.g ?_ | refine Ob.e ?_ | refine Ob.m ?_ | refine Ob.mk (Nat.le_of_ble_eq_true rfl) ?_ | refine JoinVC.on ?_ | refine Nils.mk (fun h => ?_) ?_ | refine Val.t ?_ | refine Val.d ?_ | refine Mm.mk ?_ | (refine Br.mk (fun h => ?_) (fun h => ?_) <;> first | (exfalso; omega; done) | (exfalso; simp at h; done) | skip))
  refine LoopVC.mk (fun n st => ∃ (k : Nat) (q : List Int), k ≤ F.length ∧ n = F.length - k ∧ PrcOK F l (CandL F l i (fcs F l i k)) q ∧ q.getD i 0 = p.getD i 0 ∧ st = ⟨8, envA 43 [(0, .x (.one (.yld 7))), (1, .x (.one (.ptr 5 0))), (2, .x (.one (.ptr 6 0))), (10, .x (.one (.lst true [.pt KPl] (plsA F l)))), (11, .int .i64 (F.length : Int)), (12, .int .i64 (k : Int))], [some (bAlb F l (l.length : Int)), some (.box 85 [.ptr 0 0]), some (rowPr q), some (.box 48 [.own 2]), some (.box 3 [.int .i64 (i : Int)]), some (.box 85 [.ptr 0 0]), some (.box 3 [.int .i64 (i : Int)]), some (.loop [42] (cAs rf33) (cBo rf33) (envA 83 [(6, .x (.one (.ptr 1 0))), (8, .x (.one (.ptr 3 0))), (9, .x (.one (.ptr 4 0))), (30, .int .i64 (l.length : Int)), (31, .int .i64 (i : Int))]) .ready)]⟩) _ _ ⟨0, p, Nat.zero_le _, rfl, prc_nil hP, rfl, rfl⟩ ?_ ?_
  · refine ⟨[some 0, some 1, some 2, some 3, some 4, some 5, some 6, some 7], rfl, rfl, ?_, ?_⟩ <;> repeat' (first | exact trivial | exact rfl | exact Iff.rfl | apply And.intro)
    exact congrArg Int.ofNat lpl
  rintro n _ ⟨k, q, hk, hn, hQ, hqi, rfl⟩
  by_cases hk' : k < F.length
  rotate_left
  · have ek : k = F.length := by omega
    subst ek
    repeat' ((conv => whnf); first | refine Rng.g ?_ | refine Ob.g ?_ | refine Ob.e ?_ | refine Ob.m ?_ | refine Ob.mk (Nat.le_of_ble_eq_true rfl) ?_ | refine JoinVC.on ?_ | refine Nils.mk (fun h => ?_) ?_ | refine Val.t ?_ | refine Val.d ?_ | refine Mm.mk ?_ | (refine Br.mk (fun h => ?_) (fun h => ?_) <;> first | (exfalso; omega; done) | (exfalso; simp at h; done) | skip))
    refine Back.mk (l.length - (i + 1)) _ (by omega) ⟨i + 1, q, by omega, rfl, prc_next hQ, rfl⟩ ?_
    refine ⟨[some 0, some 1, some 2, some 3], rfl, rfl, ?_, ?_⟩ <;> repeat' (first | exact trivial | exact rfl | exact Iff.rfl | apply And.intro)
  have gk : rA (plsA F l) (k : Int).toNat 0 = plA (F.getD k f0) l := by rw [Int.toNat_natCast]; exact plsA_at F l k hk'
  have hf := hA.fmts k hk'
  repeat' ((conv => whnf); first | rw [gk] | refine Rng.g ?_ | refine Ob.g ?_ | refine Ob.e ?_ | refine Ob.m ?_ | refine Ob.mk (Nat.le_of_ble_eq_true rfl) ?_ | refine JoinVC.on ?_ | refine Nils.mk (fun h => ?_) ?_ | refine Val.t ?_ | refine Val.d ?_ | refine Mm.mk ?_ | (refine Br.mk (fun h => ?_) (fun h => ?_) <;> first | (exfalso; omega; done) | (exfalso; simp at h; done) | skip))
  refine LoopVC.mk (fun n st => ∃ (j : Nat) (q : List Int), i < j ∧ j ≤ l.length + 1 ∧ n = l.length + 1 - j ∧ PrcOK F l (CandL F l i (fcs F l i k ++ fcj F l i k j)) q ∧ q.getD i 0 = p.getD i 0 ∧ st = ⟨8, envA 43 [(0, .x (.one (.yld 7))), (1, .x (.one (.ptr 5 0))), (2, .x (.one (.ptr 6 0))), (4, .int .i64 (k : Int)), (5, .x (plX (F.getD k f0) l)), (6, .int .i64 (j : Int)), (10, .x (.one (.lst true [.pt KPl] (plsA F l)))), (11, .int .i64 (F.length : Int)), (12, .int .i64 (k : Int))], [some (bAlb F l (l.length : Int)), some (.box 85 [.ptr 0 0]), some (rowPr q), some (.box 48 [.own 2]), some (.box 3 [.int .i64 (i : Int)]), some (.box 85 [.ptr 0 0]), some (.box 3 [.int .i64 (i : Int)]), some (.loop [42] (cAs rf33) (cBo rf33) (envA 83 [(6, .x (.one (.ptr 1 0))), (8, .x (.one (.ptr 3 0))), (9, .x (.one (.ptr 4 0))), (30, .int .i64 (l.length : Int)), (31, .int .i64 (i : Int))]) .ready)]⟩) _ _ ⟨i + 1, q, by omega, by omega, rfl, by rw [fcj_lo _ (Nat.le_refl _), List.append_nil]; exact hQ, hqi, rfl⟩ ?_ ?_
  · refine ⟨[some 0, some 1, some 2, some 3, some 4, some 5, some 6, some 7], rfl, rfl, ?_, ?_⟩ <;> repeat' (first | exact trivial | exact rfl | exact Iff.rfl | apply And.intro)
  clear hQ hqi q
  rintro n2 _ ⟨j, q, hij, hj, hn2, hQ, hqi, rfl⟩
  have c54 := s54g i j (by omega)
  by_cases hj' : j ≤ l.length
  rotate_left
  · have ej : j = l.length + 1 := by omega
    subst ej
    repeat' ((conv => whnf); first | refine Rng.g ?_ | refine Ob.g ?_ | refine Ob.e ?_ | refine Ob.m ?_ | refine Ob.mk (Nat.le_of_ble_eq_true rfl) ?_ | refine JoinVC.on ?_ | refine Nils.mk (fun h => ?_) ?_ | refine Val.t ?_ | refine Val.d ?_ | refine Mm.mk ?_ | (refine Br.mk (fun h => ?_) (fun h => ?_) <;> first | (exfalso; omega; done) | (exfalso; simp at h; done) | skip))
    refine Back.mk (F.length - (k + 1)) _ (by omega) ⟨k + 1, q, by omega, rfl, hQ, hqi, rfl⟩ ?_
    refine ⟨[some 0, some 1, some 2, some 3, some 4, some 5, some 6, some 7], rfl, rfl, ?_, ?_⟩ <;> repeat' (first | exact trivial | exact rfl | exact Iff.rfl | apply And.intro)
  have c47 := s47p (F.getD k f0) l (seqL i (j - i)) hf hA.sngs (fun x hx => by rw [seqL_len] at hx; rw [seqL_get _ _ _ hx]; omega) (by rw [seqL_len]; omega)
  repeat' ((conv => whnf); first | refine Rng.g ?_ | refine Ob.g ?_ | refine Ob.e ?_ | refine Ob.m ?_ | refine Ob.mk (Nat.le_of_ble_eq_true rfl) ?_ | refine JoinVC.on ?_ | refine Nils.mk (fun h => ?_) ?_ | refine Val.t ?_ | refine Val.d ?_ | refine Mm.mk ?_ | (refine Br.mk (fun h => ?_) (fun h => ?_) <;> first | (exfalso; omega; done) | (exfalso; simp at h; done) | skip))
  conv => whnf
  refine CallVC.mk [] _ _ _ rfl rfl rfl (c54) (fun r m' h' => ?_)
  obtain ⟨rfl, rfl⟩ := h'
  conv => whnf
  repeat' ((conv => whnf); first | refine Rng.g ?_ | refine Ob.g ?_ | refine Ob.e ?_ | refine Ob.m ?_ | refine Ob.mk (Nat.le_of_ble_eq_true rfl) ?_ | refine JoinVC.on ?_ | refine Nils.mk (fun h => ?_) ?_ | refine Val.t ?_ | refine Val.d ?_ | refine Mm.mk ?_ | (refine Br.mk (fun h => ?_) (fun h => ?_) <;> first | (exfalso; omega; done) | (exfalso; simp at h; done) | skip))
  conv => whnf
  refine CallVC.mk [] _ _ _ rfl rfl rfl (c47) (fun r m' h' => ?_)
  obtain ⟨rfl, rfl⟩ := h'
  conv => whnf
  repeat refine Mm.mk ?_
  try refine JoinVC.on ?_
  refine Br.mk (fun hL => ?_) (fun hL => ?_)
  rotate_left
  · have hnf : ¬ faceP F l k i j := fun h => hL h.lay
    rw [fcj_end hA hij hnf hj] at hQ
    repeat' ((conv => whnf); first | refine Rng.g ?_ | refine Ob.g ?_ | refine Ob.e ?_ | refine Ob.m ?_ | refine Ob.mk (Nat.le_of_ble_eq_true rfl) ?_ | refine JoinVC.on ?_ | refine Nils.mk (fun h => ?_) ?_ | refine Val.t ?_ | refine Val.d ?_ | refine Mm.mk ?_ | (refine Br.mk (fun h => ?_) (fun h => ?_) <;> first | (exfalso; omega; done) | (exfalso; simp at h; done) | skip))
    refine Back.mk (F.length - (k + 1)) _ (by omega) ⟨k + 1, q, by omega, rfl, hQ, hqi, rfl⟩ ?_
    refine ⟨[some 0, some 1, some 2, some 3, some 4, some 5, some 6, some 7], rfl, rfl, ?_, ?_⟩ <;> repeat' (first | exact trivial | exact rfl | exact Iff.rfl | apply And.intro)
  have hface : faceP F l k i j := ⟨hk', hij, hj', hL⟩
  have hLm : ∀ x, x ∈ fcs F l i k ++ fcj F l i k j → faceP F l x.1 i x.2 := fun x hx => by
    rcases List.mem_append.1 hx with h | h
    · exact (mem_fcs.1 h).2
    · have h3 := mem_fcj.1 h
      rw [h3.1]; exact h3.2.2
  obtain ⟨hQ', hqi'⟩ := stepP_ok hA hi' hQ hLm (by omega) (q := (k, j)) hface
  have hbd := hQ.bd hA hLm (n := i) (by omega)
  have hco := hf.cost
  have lq := hQ.len
  have lqi := i64s_len q
  have gc : rI (rA (plsA F l) (k : Int).toNat 0) 0 (0 + 0 + (0 + 1 + 1 + 1 + 1 + 1 + 1 + 1)) = (F.getD k f0).cost := by rw [gk]; rfl
  have ga : rI (i64s q) (i : Int).toNat 0 = q.getD i 0 := by rw [Int.toNat_natCast]; exact i64s_get q i
  have gj : rI (i64s q) ((i : Int) + ((j : Int) - i)).toNat 0 = q.getD j 0 := by rw [show ((i : Int) + ((j : Int) - i)).toNat = j by omega]; exact i64s_get q j
  have et : ((i : Int) + ((j : Int) - i)).toNat = j := by omega
  have upd : updRow (i64s q) ((i : Int) + ((j : Int) - i)).toNat 0 [Cell.int (rI (i64s q) (i : Int).toNat 0 + rI (rA (plsA F l) (k : Int).toNat 0) 0 (0 + 0 + (0 + 1 + 1 + 1 + 1 + 1 + 1 + 1)))] = i64s (q.set j (q.getD i 0 + (F.getD k f0).cost)) := by
    rw [gc, ga, et]
    exact i64s_upd' q j _ (by omega)
  have fin : PrcOK F l (CandL F l i (fcs F l i k ++ fcj F l i k (j + 1))) (stepP F i q (k, j)) := by rw [fcj_yes hface, ← List.append_assoc]; exact hQ'
  repeat' ((conv => whnf); first | refine Rng.g ?_ | refine Ob.g ?_ | refine Ob.e ?_ | refine Ob.m ?_ | refine Ob.mk (Nat.le_of_ble_eq_true rfl) ?_ | refine JoinVC.on ?_ | refine Nils.mk (fun h => ?_) ?_ | refine Val.t ?_ | refine Val.d ?_ | refine Mm.mk ?_ | (refine Br.mk (fun h => ?_) (fun h => ?_) <;> first | (exfalso; omega; done) | (exfalso; simp at h; done) | skip))
  change YieldVC _ _ _ _ _
  refine YieldVC.mk (rsem_of_awp pMix [] rfl (by kernel_rfl) ?_)
  repeat' ((conv => whnf); first | refine Rng.g ?_ | refine Ob.g ?_ | refine Ob.e ?_ | refine Ob.m ?_ | refine Ob.mk (Nat.le_of_ble_eq_true rfl) ?_ | refine JoinVC.on ?_ | refine Nils.mk (fun h => ?_) ?_ | refine Val.t ?_ | refine Val.d ?_ | refine Mm.mk ?_ | (refine Br.mk (fun h => ?_) (fun h => ?_) <;> first | (exfalso; omega; done) | (exfalso; simp at h; done) | skip))
  · have e : stepP F i q (k, j) = q.set j (q.getD i 0 + (F.getD k f0).cost) := if_pos (.inl (by show q.getD j 0 < 0; omega))
    refine Back.mk (l.length + 1 - (j + 1)) _ (by omega) ⟨j + 1, _, by omega, by omega, rfl, fin, by rw [hqi']; exact hqi, rfl⟩ ?_
    rw [e]
    refine ⟨[some 0, some 1, some 2, some 3, some 4, some 5, some 6, some 7], rfl, rfl, ?_, ?_⟩ <;> repeat' (first | exact trivial | exact rfl | exact Iff.rfl | apply And.intro)
    exact upd
  · have e : stepP F i q (k, j) = q.set j (q.getD i 0 + (F.getD k f0).cost) := if_pos (.inr (by show q.getD i 0 + (F.getD k f0).cost < q.getD j 0; omega))
    refine Back.mk (l.length + 1 - (j + 1)) _ (by omega) ⟨j + 1, _, by omega, by omega, rfl, fin, by rw [hqi']; exact hqi, rfl⟩ ?_
    rw [e]
    refine ⟨[some 0, some 1, some 2, some 3, some 4, some 5, some 6, some 7], rfl, rfl, ?_, ?_⟩ <;> repeat' (first | exact trivial | exact rfl | exact Iff.rfl | apply And.intro)
    exact upd
  · have e : stepP F i q (k, j) = q := if_neg (by show ¬ (q.getD j 0 < 0 ∨ q.getD i 0 + (F.getD k f0).cost < q.getD j 0); omega)
    refine Back.mk (l.length + 1 - (j + 1)) _ (by omega) ⟨j + 1, _, by omega, by omega, rfl, fin, by rw [hqi']; exact hqi, rfl⟩ ?_
    rw [e]
    refine ⟨[some 0, some 1, some 2, some 3, some 4, some 5, some 6, some 7], rfl, rfl, ?_, ?_⟩ <;> repeat' (first | exact trivial | exact rfl | exact Iff.rfl | apply And.intro)
end Go.Sx

namespace Go.Sx
open Go Go.Proofs
set_option maxRecDepth 10000
set_option maxHeartbeats 8000000
/-! ### An order is laid, as the document tells it -/
/-- How many of them end at or above their Least, up to the first one that does not. -/
structure Good (f : Fmt) (l : List Sng) (O : List Int) (g : Nat) : Prop where
  le : g ≤ O.length
  yes : ∀ j, j < g → okAt f l O j
  no : g < O.length → ¬ okAt f l O g
open Classical in
noncomputable def goodN (f : Fmt) (l : List Sng) (O : List Int) : Nat → Nat
  | 0 => 0
  | i + 1 => if goodN f l O i = i ∧ okAt f l O i then i + 1 else goodN f l O i
theorem goodN_lo {f : Fmt} {l : List Sng} {O : List Int} : ∀ n, (∀ j, j < n → okAt f l O j) → goodN f l O n = n
  | 0, _ => rfl
  | n + 1, h => if_pos ⟨goodN_lo n fun j hj => h j (by omega), h n (Nat.lt_succ_self n)⟩
open Classical in
theorem goodN_hi {f : Fmt} {l : List Sng} {O : List Int} {g : Nat} (h : ∀ j, j < g → okAt f l O j) (hn : ¬ okAt f l O g) : ∀ d, goodN f l O (g + d) = g
  | 0 => goodN_lo g h
  | d + 1 => by
    have ih := goodN_hi h hn d
    have e : ¬ (goodN f l O (g + d) = g + d ∧ okAt f l O (g + d)) := fun ⟨h1, h2⟩ => by
      rw [ih] at h1
      have : d = 0 := by omega
      subst this
      exact hn h2
    show (if goodN f l O (g + d) = g + d ∧ okAt f l O (g + d) then g + d + 1 else goodN f l O (g + d)) = g
    rw [if_neg e]
    exact ih
theorem Good.eq {f : Fmt} {l : List Sng} {O : List Int} {g : Nat} (h : Good f l O g) : goodN f l O O.length = g := by
  by_cases e : g = O.length
  · rw [e]
    exact goodN_lo _ fun j hj => h.yes j (by omega)
  · have h1 := h.le
    have := goodN_hi h.yes (h.no (by omega)) (O.length - g)
    rw [show g + (O.length - g) = O.length by omega] at this
    exact this
/-- How many of an order are good. -/
noncomputable def laN (f : Fmt) (l : List Sng) (O : List Int) : Int := if bothE f l ≠ 0 ∨ ordE l.length O ≠ 0 then 0 else (goodN f l O O.length : Int)
open Classical in
/-- The error of an order. -/
noncomputable def laE (f : Fmt) (l : List Sng) (O : List Int) : Int := if bothE f l ≠ 0 then bothE f l else if ordE l.length O ≠ 0 then ordE l.length O else if goodN f l O O.length < O.length then 20 else if LayOK f l O then 0 else 14
inductive LaS (f : Fmt) (l : List Sng) (O : List Int) (r : AV) (m' : List (Option Blk)) : Prop
  | bad (he : laE f l O ≠ 0) (hr : r = .tup [.one .nils, I (laN f l O), I (laE f l O)]) (hm : m' = [])
  | ok (hf : FmtOK f) (hg : SngsOK l) (hO : OrdOK l.length O) (h : LayOK f l O) (he : laE f l O = 0) (hn : laN f l O = O.length) (hr : r = .tup [.one (.own 0), I (laN f l O), I (laE f l O)]) (hm : m' = [some (rowB (bndA f l O O.length))])
theorem la_ok {f : Fmt} {l : List Sng} {O : List Int} (hf : FmtOK f) (hg : SngsOK l) (hO : OrdOK l.length O) (h : LayOK f l O) : laE f l O = 0 ∧ laN f l O = O.length := by
  have h1 := bothE_ok hf hg
  have h2 := ordE_0.2 hO
  have h3 := goodN_lo O.length h.1
  unfold laE laN
  rw [h1, h2, h3]
  simp [h]
theorem la_limit {f : Fmt} {l : List Sng} {O : List Int} (hf : FmtOK f) (hg : SngsOK l) (hO : OrdOK l.length O) (h : ∀ j, j < O.length → okAt f l O j) (hn : ¬ LayOK f l O) : laE f l O = 14 ∧ laN f l O = O.length := by
  have h1 := bothE_ok hf hg
  have h2 := ordE_0.2 hO
  have h3 := goodN_lo O.length h
  unfold laE laN
  rw [h1, h2, h3]
  simp [hn]
theorem la_rule {f : Fmt} {l : List Sng} {O : List Int} (hf : FmtOK f) (hg : SngsOK l) (hO : OrdOK l.length O) {i : Nat} (hi : i < O.length) (h : ∀ j, j < i → okAt f l O j) (hn : ¬ okAt f l O i) : laE f l O = 20 ∧ laN f l O = i := by
  have h1 := bothE_ok hf hg
  have h2 := ordE_0.2 hO
  have h3 := Good.eq (f := f) (l := l) (O := O) (g := i) ⟨by omega, h, fun _ => hn⟩
  unfold laE laN
  rw [h1, h2, h3]
  simp [hi]
theorem la_bad {f : Fmt} {l : List Sng} {O : List Int} (h : bothE f l ≠ 0) : laE f l O = bothE f l ∧ laN f l O = 0 := by
  unfold laE laN
  rw [if_pos h, if_pos (.inl h)]
  exact ⟨rfl, rfl⟩
theorem la_ord {f : Fmt} {l : List Sng} {O : List Int} (hf : FmtOK f) (hg : SngsOK l) (h : ordE l.length O ≠ 0) : laE f l O = ordE l.length O ∧ laN f l O = 0 := by
  have h1 := bothE_ok hf hg
  unfold laE laN
  rw [if_neg (by rw [h1]; simp), if_pos h, if_pos (.inr h)]
  exact ⟨rfl, rfl⟩
theorem LaRs.to {f : Fmt} {l : List Sng} {O : List Int} {r : AV} {m' : List (Option Blk)} (h : LaRs f l O r m') : LaS f l O r m' := by
  cases h with
  | bad h hr hm =>
    obtain ⟨h1, h2⟩ := la_bad (O := O) h
    exact .bad (by rw [h1]; exact h) (by rw [h1, h2]; exact hr) hm
  | ord hf hg h hr hm =>
    obtain ⟨h1, h2⟩ := la_ord hf hg h
    exact .bad (by rw [h1]; exact h) (by rw [h1, h2]; exact hr) hm
  | rule hf hg hO i hi h hn hr hm =>
    obtain ⟨h1, h2⟩ := la_rule hf hg hO hi h hn
    exact .bad (by rw [h1]; decide) (by rw [h1, h2]; exact hr) hm
  | limit hf hg hO h hn hr hm =>
    obtain ⟨h1, h2⟩ := la_limit hf hg hO h hn
    exact .bad (by rw [h1]; decide) (by rw [h1, h2]; exact hr) hm
  | ok hf hg hO h hr hm =>
    obtain ⟨h1, h2⟩ := la_ok hf hg hO h
    exact .ok hf hg hO h h1 h2 (by rw [h1, h2]; exact hr) hm
end Go.Sx

namespace Go.Sx
open Go Go.Proofs
set_option maxRecDepth 10000
set_option maxHeartbeats 8000000
/-! ### The examples -/
open Classical in
theorem s26 (a b : List Int) (ha : a.length ≤ 1000000) : PSpec Try.prog 26 [.one (.lst true [.int .i64] (i64s a)), .one (.lst true [.int .i64] (i64s b))] (xP (a = b)) := by
  have la := i64s_len a
  have lb := i64s_len b
  by_cases hl : a.length = b.length
  rotate_left
  · refine spec_of pMix (O := []) Try.func26 (c := bodyOf Try.f26) rfl (by kernel_rfl) (by kernel_rfl) Try.ntmps26 (res := [.tmp 4]) (by kernel_rfl) ?_
    repeat' ((conv => whnf); first | refine Rng.g ?_ | refine Ob.g ?_ | refine Ob.e ?_ | refine Ob.m ?_ | refine Ob.mk (Nat.le_of_ble_eq_true rfl) ?_ | refine JoinVC.on ?_ | refine Nils.mk (fun h => ?_) ?_ | refine Val.t ?_ | refine Val.d ?_ | refine Mm.mk ?_ | (refine Br.mk (fun h => ?_) (fun h => ?_) <;> first | (exfalso; omega; done) | (exfalso; simp at h; done) | skip))
    repeat refine Mm.mk ?_
    refine EndVC.mk _ rfl _ _ ⟨rfl, rfl⟩ ?_
    refine ⟨[], rfl, rfl, ?_, ?_⟩ <;> repeat' (first | exact trivial | exact rfl | exact Iff.rfl | apply And.intro)
    exact fun h => hl (by rw [h])
  refine spec_of pMix (O := []) Try.func26 (c := bodyOf Try.f26) rfl (by kernel_rfl) (by kernel_rfl) Try.ntmps26 (res := [.tmp 4]) (by kernel_rfl) ?_
  repeat' ((conv => whnf); first | refine Rng.g ?_ | refine Ob.g ?_ | refine Ob.e ?_ | refine Ob.m ?_ | refine Ob.mk (Nat.le_of_ble_eq_true rfl) ?_ | refine JoinVC.on ?_ | refine Nils.mk (fun h => ?_) ?_ | refine Val.t ?_ | refine Val.d ?_ | refine Mm.mk ?_ | (refine Br.mk (fun h => ?_) (fun h => ?_) <;> first | (exfalso; omega; done) | (exfalso; simp at h; done) | skip))
  refine LoopVC.mk (fun n st => ∃ (i : Nat), i ≤ a.length ∧ n = a.length - i ∧ (∀ j, j < i → a.getD j 0 = b.getD j 0) ∧ st = ⟨0, envA 26 [(0, .x (.one (.lst true [.int .i64] (i64s a)))), (1, .x (.one (.lst true [.int .i64] (i64s b)))), (5, .int .i64 (i : Int))], []⟩) _ _ ⟨0, Nat.zero_le _, rfl, fun j hj => absurd hj (Nat.not_lt_zero j), rfl⟩ ?_ ?_
  · refine ⟨[], rfl, rfl, ?_, ?_⟩ <;> repeat' (first | exact trivial | exact rfl | exact Iff.rfl | apply And.intro)
  rintro n _ ⟨i, hi, hm, hj, rfl⟩
  have g1 : rI (i64s a) (i : Int).toNat 0 = a.getD i 0 := by rw [Int.toNat_natCast]; exact i64s_get a i
  have g2 : rI (i64s b) (i : Int).toNat 0 = b.getD i 0 := by rw [Int.toNat_natCast]; exact i64s_get b i
  by_cases hi' : i < a.length
  · by_cases he : a.getD i 0 = b.getD i 0
    · repeat' ((conv => whnf); first | refine Rng.g ?_ | refine Ob.g ?_ | refine Ob.e ?_ | refine Ob.m ?_ | refine Ob.mk (Nat.le_of_ble_eq_true rfl) ?_ | refine JoinVC.on ?_ | refine Nils.mk (fun h => ?_) ?_ | refine Val.t ?_ | refine Val.d ?_ | refine Mm.mk ?_ | (refine Br.mk (fun h => ?_) (fun h => ?_) <;> first | (exfalso; omega; done) | (exfalso; simp at h; done) | skip))
      refine Back.mk (a.length - (i + 1)) _ (by omega) ⟨i + 1, by omega, rfl, fun j hj' => ?_, rfl⟩ ?_
      · rcases Nat.lt_succ_iff_lt_or_eq.1 hj' with h' | rfl
        · exact hj j h'
        · exact he
      · refine ⟨[], rfl, rfl, ?_, ?_⟩ <;> repeat' (first | exact trivial | exact rfl | exact Iff.rfl | apply And.intro)
    · repeat' ((conv => whnf); first | refine Rng.g ?_ | refine Ob.g ?_ | refine Ob.e ?_ | refine Ob.m ?_ | refine Ob.mk (Nat.le_of_ble_eq_true rfl) ?_ | refine JoinVC.on ?_ | refine Nils.mk (fun h => ?_) ?_ | refine Val.t ?_ | refine Val.d ?_ | refine Mm.mk ?_ | (refine Br.mk (fun h => ?_) (fun h => ?_) <;> first | (exfalso; omega; done) | (exfalso; simp at h; done) | skip))
      repeat refine Mm.mk ?_
      refine EndVC.mk _ rfl _ _ ⟨rfl, rfl⟩ ?_
      refine ⟨[], rfl, rfl, ?_, ?_⟩ <;> repeat' (first | exact trivial | exact rfl | exact Iff.rfl | apply And.intro)
      exact fun h => he (by rw [h])
  · repeat' ((conv => whnf); first | refine Rng.g ?_ | refine Ob.g ?_ | refine Ob.e ?_ | refine Ob.m ?_ | refine Ob.mk (Nat.le_of_ble_eq_true rfl) ?_ | refine JoinVC.on ?_ | refine Nils.mk (fun h => ?_) ?_ | refine Val.t ?_ | refine Val.d ?_ | refine Mm.mk ?_ | (refine Br.mk (fun h => ?_) (fun h => ?_) <;> first | (exfalso; omega; done) | (exfalso; simp at h; done) | skip))
    repeat refine Mm.mk ?_
    refine EndVC.mk _ rfl _ _ ⟨rfl, rfl⟩ ?_
    refine ⟨[], rfl, rfl, ?_, ?_⟩ <;> repeat' (first | exact trivial | exact rfl | exact Iff.rfl | apply And.intro)
    exact list_ext_getD hl fun j hj' => hj j (by omega)
open Classical in
theorem s34 (a b : List Int) (ha : a.length ≤ 1000000) : PSpec Try.prog 34 [.one (.lst true [.int .i64] (i64s a)), .one (.lst true [.int .i64] (i64s b))] (xP (a = b)) := by
  have la := i64s_len a
  have lb := i64s_len b
  by_cases hl : a.length = b.length
  rotate_left
  · refine spec_of pMix (O := []) Try.func34 (c := bodyOf Try.f34) rfl (by kernel_rfl) (by kernel_rfl) Try.ntmps34 (res := [.tmp 4]) (by kernel_rfl) ?_
    repeat' ((conv => whnf); first | refine Rng.g ?_ | refine Ob.g ?_ | refine Ob.e ?_ | refine Ob.m ?_ | refine Ob.mk (Nat.le_of_ble_eq_true rfl) ?_ | refine JoinVC.on ?_ | refine Nils.mk (fun h => ?_) ?_ | refine Val.t ?_ | refine Val.d ?_ | refine Mm.mk ?_ | (refine Br.mk (fun h => ?_) (fun h => ?_) <;> first | (exfalso; omega; done) | (exfalso; simp at h; done) | skip))
    repeat refine Mm.mk ?_
    refine EndVC.mk _ rfl _ _ ⟨rfl, rfl⟩ ?_
    refine ⟨[], rfl, rfl, ?_, ?_⟩ <;> repeat' (first | exact trivial | exact rfl | exact Iff.rfl | apply And.intro)
    exact fun h => hl (by rw [h])
  refine spec_of pMix (O := []) Try.func34 (c := bodyOf Try.f34) rfl (by kernel_rfl) (by kernel_rfl) Try.ntmps34 (res := [.tmp 4]) (by kernel_rfl) ?_
  repeat' ((conv => whnf); first | refine Rng.g ?_ | refine Ob.g ?_ | refine Ob.e ?_ | refine Ob.m ?_ | refine Ob.mk (Nat.le_of_ble_eq_true rfl) ?_ | refine JoinVC.on ?_ | refine Nils.mk (fun h => ?_) ?_ | refine Val.t ?_ | refine Val.d ?_ | refine Mm.mk ?_ | (refine Br.mk (fun h => ?_) (fun h => ?_) <;> first | (exfalso; omega; done) | (exfalso; simp at h; done) | skip))
  refine LoopVC.mk (fun n st => ∃ (i : Nat), i ≤ a.length ∧ n = a.length - i ∧ (∀ j, j < i → a.getD j 0 = b.getD j 0) ∧ st = ⟨0, envA 26 [(0, .x (.one (.lst true [.int .i64] (i64s a)))), (1, .x (.one (.lst true [.int .i64] (i64s b)))), (5, .int .i64 (i : Int))], []⟩) _ _ ⟨0, Nat.zero_le _, rfl, fun j hj => absurd hj (Nat.not_lt_zero j), rfl⟩ ?_ ?_
  · refine ⟨[], rfl, rfl, ?_, ?_⟩ <;> repeat' (first | exact trivial | exact rfl | exact Iff.rfl | apply And.intro)
  rintro n _ ⟨i, hi, hm, hj, rfl⟩
  have g1 : rI (i64s a) (i : Int).toNat 0 = a.getD i 0 := by rw [Int.toNat_natCast]; exact i64s_get a i
  have g2 : rI (i64s b) (i : Int).toNat 0 = b.getD i 0 := by rw [Int.toNat_natCast]; exact i64s_get b i
  by_cases hi' : i < a.length
  · by_cases he : a.getD i 0 = b.getD i 0
    · repeat' ((conv => whnf); first | refine Rng.g ?_ | refine Ob.g ?_ | refine Ob.e ?_ | refine Ob.m ?_ | refine Ob.mk (Nat.le_of_ble_eq_true rfl) ?_ | refine JoinVC.on ?_ | refine Nils.mk (fun h => ?_) ?_ | refine Val.t ?_ | refine Val.d ?_ | refine Mm.mk ?_ | (refine Br.mk (fun h => ?_) (fun h => ?_) <;> first | (exfalso; omega; done) | (exfalso; simp at h; done) | skip))
      refine Back.mk (a.length - (i + 1)) _ (by omega) ⟨i + 1, by omega, rfl, fun j hj' => ?_, rfl⟩ ?_
      · rcases Nat.lt_succ_iff_lt_or_eq.1 hj' with h' | rfl
        · exact hj j h'
        · exact he
      · refine ⟨[], rfl, rfl, ?_, ?_⟩ <;> repeat' (first | exact trivial | exact rfl | exact Iff.rfl | apply And.intro)
    · repeat' ((conv => whnf); first | refine Rng.g ?_ | refine Ob.g ?_ | refine Ob.e ?_ | refine Ob.m ?_ | refine Ob.mk (Nat.le_of_ble_eq_true rfl) ?_ | refine JoinVC.on ?_ | refine Nils.mk (fun h => ?_) ?_ | refine Val.t ?_ | refine Val.d ?_ | refine Mm.mk ?_ | (refine Br.mk (fun h => ?_) (fun h => ?_) <;> first | (exfalso; omega; done) | (exfalso; simp at h; done) | skip))
      repeat refine Mm.mk ?_
      refine EndVC.mk _ rfl _ _ ⟨rfl, rfl⟩ ?_
      refine ⟨[], rfl, rfl, ?_, ?_⟩ <;> repeat' (first | exact trivial | exact rfl | exact Iff.rfl | apply And.intro)
      exact fun h => he (by rw [h])
  · repeat' ((conv => whnf); first | refine Rng.g ?_ | refine Ob.g ?_ | refine Ob.e ?_ | refine Ob.m ?_ | refine Ob.mk (Nat.le_of_ble_eq_true rfl) ?_ | refine JoinVC.on ?_ | refine Nils.mk (fun h => ?_) ?_ | refine Val.t ?_ | refine Val.d ?_ | refine Mm.mk ?_ | (refine Br.mk (fun h => ?_) (fun h => ?_) <;> first | (exfalso; omega; done) | (exfalso; simp at h; done) | skip))
    repeat refine Mm.mk ?_
    refine EndVC.mk _ rfl _ _ ⟨rfl, rfl⟩ ?_
    refine ⟨[], rfl, rfl, ?_, ?_⟩ <;> repeat' (first | exact trivial | exact rfl | exact Iff.rfl | apply And.intro)
    exact list_ext_getD hl fun j hj' => hj j (by omega)
theorem s32 : HSpec Try.prog 32 [] [] (fun r m' => r = .tup [f4.x, .one (.own 0)] ∧ m' = [some (.row 40 false KSng (sngA l4))]) := by
  refine spec_of pMix (O := []) Try.func32 (c := bodyOf Try.f32) rfl (by kernel_rfl) (by kernel_rfl) Try.ntmps32 (res := [.cell 0 23, .tmp 1]) (by kernel_rfl) ?_
  repeat' ((conv => whnf); first | refine Rng.g ?_ | refine Ob.g ?_ | refine Ob.e ?_ | refine Ob.m ?_ | refine Ob.mk (Nat.le_of_ble_eq_true rfl) ?_ | refine JoinVC.on ?_ | refine Nils.mk (fun h => ?_) ?_ | refine Val.t ?_ | refine Val.d ?_ | refine Mm.mk ?_ | (refine Br.mk (fun h => ?_) (fun h => ?_) <;> first | (exfalso; omega; done) | (exfalso; simp at h; done) | skip))
  repeat refine Mm.mk ?_
  refine EndVC.mk _ rfl _ _ ⟨rfl, rfl⟩ ?_
  refine ⟨[some 2], rfl, rfl, ?_, ?_⟩ <;> repeat' (first | exact trivial | exact rfl | exact Iff.rfl | apply And.intro)
instance (f : Fmt) (l : List Sng) (O : List Int) (i : Nat) : Decidable (okAt f l O i) := by unfold okAt; exact inferInstance
instance (f : Fmt) (l : List Sng) (O : List Int) : Decidable (LayOK f l O) := by unfold LayOK; exact inferInstance
theorem alb4 : AlbOK [f4] l4 := ⟨by decide, fun i hi => by
  have : i = 0 := by simp at hi; omega
  subst this
  exact f4_ok, l4_ok⟩
theorem face4 {k i j : Nat} : faceP [f4] l4 k i j ↔ k = 0 ∧ i < j ∧ j ≤ 3 ∧ LayOK f4 l4 (seqL i (j - i)) := by
  constructor
  · rintro ⟨h1, h2, h3, h4⟩
    have : k = 0 := by simp at h1; omega
    subst this
    exact ⟨rfl, h2, h3, h4⟩
  · rintro ⟨rfl, h2, h3, h4⟩
    exact ⟨by simp, h2, h3, h4⟩
theorem prc4 {p : List Int} (h : PrcOK [f4] l4 (Reach [f4] l4) p) : p = [0, 5, 10, 10] := by
  have f01 : faceP [f4] l4 0 0 1 := face4.2 ⟨rfl, by decide, by decide, by decide⟩
  have f12 : faceP [f4] l4 0 1 2 := face4.2 ⟨rfl, by decide, by decide, by decide⟩
  have f13 : faceP [f4] l4 0 1 3 := face4.2 ⟨rfl, by decide, by decide, by decide⟩
  have n02 : ∀ k, ¬ faceP [f4] l4 k 0 2 := fun k h => (by have := (face4.1 h).2.2.2; revert this; decide)
  have n03 : ∀ k, ¬ faceP [f4] l4 k 0 3 := fun k h => (by have := (face4.1 h).2.2.2; revert this; decide)
  have c : ([f4].getD 0 f0).cost = 5 := rfl
  have r1 : Reach [f4] l4 1 5 := by have := Reach.nil.step f01; rw [c] at this; exact this
  have r2 : Reach [f4] l4 2 10 := by have := r1.step f12; rw [c] at this; exact this
  have r3 : Reach [f4] l4 3 10 := by have := r1.step f13; rw [c] at this; exact this
  have b1 : ∀ x, Reach [f4] l4 1 x → 5 ≤ x := fun x hx => by
    cases hx with
    | @step i _ k c' h1 h2 =>
      have h3 := (reach_bd alb4 h1).1
      have h4 := (face4.1 h2).1
      subst h4
      rw [c]
      omega
  have bb : ∀ n x, (n = 2 ∨ n = 3) → Reach [f4] l4 n x → 10 ≤ x := fun n x hn hx => by
    cases hx with
    | nil => omega
    | @step i _ k c' h1 h2 =>
      have h5 := face4.1 h2
      have h4 := h5.1
      subst h4
      rw [c]
      have hi : i = 0 ∨ i = 1 ∨ i = 2 := by omega
      rcases hi with rfl | rfl | rfl
      · rcases hn with rfl | rfl
        · exact absurd h2 (n02 0)
        · exact absurd h2 (n03 0)
      · have := b1 _ h1
        omega
      · cases h1 with
        | @step i' _ k' c'' g1 g2 =>
          have g5 := face4.1 g2
          have g4 := g5.1
          subst g4
          rw [c]
          have := (reach_bd alb4 g1).1
          omega
  have u : ∀ n v x, n ≤ 3 → Reach [f4] l4 n v → (∀ y, Reach [f4] l4 n y → v ≤ y) → p.getD n 0 = x → x = v := fun n v x hn h1 h2 h3 => by
    rcases h.each n hn with ⟨h4, h5⟩ | ⟨h4, h5, h6⟩
    · exact absurd h1 (h5 v)
    · have a := h6 v h1
      have b := h2 _ h5
      omega
  have hlen : p.length = 4 := h.len
  match p, hlen with
  | [x0, x1, x2, x3], _ =>
    have e0 := u 0 0 x0 (by decide) .nil (fun y hy => (reach_bd alb4 hy).1) rfl
    have e1 := u 1 5 x1 (by decide) r1 b1 rfl
    have e2 := u 2 10 x2 (by decide) r2 (fun y hy => bb 2 y (.inl rfl) hy) rfl
    have e3 := u 3 10 x3 (by decide) r3 (fun y hy => bb 3 y (.inr rfl) hy) rfl
    rw [e0, e1, e2, e3]
theorem s11 : PSpec Try.prog 11 [] (xP True) := by
  have n4 : ∀ i, ([f4].getD i f0).nm.size ≤ 140737488355328 := fun i => by
    cases i with
    | zero => decide
    | succ n => exact (by decide : f0.nm.size ≤ 140737488355328)
  refine spec_of pMix (O := []) Try.func11 (c := bodyOf Try.f11) rfl (by kernel_rfl) (by kernel_rfl) Try.ntmps11 (res := [.tmp 0]) (by kernel_rfl) ?_
  repeat' ((conv => whnf); first | refine Rng.g ?_ | refine Ob.g ?_ | refine Ob.e ?_ | refine Ob.m ?_ | refine Ob.mk (Nat.le_of_ble_eq_true rfl) ?_ | refine JoinVC.on ?_ | refine Nils.mk (fun h => ?_) ?_ | refine Val.t ?_ | refine Val.d ?_ | refine Mm.mk ?_ | (refine Br.mk (fun h => ?_) (fun h => ?_) <;> first | (exfalso; omega; done) | (exfalso; simp at h; done) | skip))
  conv => whnf
  refine CallVC.mk [] _ _ _ rfl rfl rfl (s32) (fun r m' h' => ?_)
  obtain ⟨rfl, rfl⟩ := h'
  conv => whnf
  repeat' ((conv => whnf); first | refine Rng.g ?_ | refine Ob.g ?_ | refine Ob.e ?_ | refine Ob.m ?_ | refine Ob.mk (Nat.le_of_ble_eq_true rfl) ?_ | refine JoinVC.on ?_ | refine Nils.mk (fun h => ?_) ?_ | refine Val.t ?_ | refine Val.d ?_ | refine Mm.mk ?_ | (refine Br.mk (fun h => ?_) (fun h => ?_) <;> first | (exfalso; omega; done) | (exfalso; simp at h; done) | skip))
  conv => whnf
  refine CallVC.mk [] _ _ _ rfl rfl rfl (s18 f4 l4 (by decide) (by decide)) (fun r m' h' => ?_)
  cases h' with
  | bad h hr hm => exact absurd (bothE_ok f4_ok l4_ok) h
  | none _ _ hN hr hm => exact absurd lay4 hN
  | ok _ _ _ hr hm =>
    subst hr hm
    rw [allO4]
    repeat' ((conv => whnf); first | refine Rng.g ?_ | refine Ob.g ?_ | refine Ob.e ?_ | refine Ob.m ?_ | refine Ob.mk (Nat.le_of_ble_eq_true rfl) ?_ | refine JoinVC.on ?_ | refine Nils.mk (fun h => ?_) ?_ | refine Val.t ?_ | refine Val.d ?_ | refine Mm.mk ?_ | (refine Br.mk (fun h => ?_) (fun h => ?_) <;> first | (exfalso; omega; done) | (exfalso; simp at h; done) | skip))
    conv => whnf
    refine CallVC.mk [] _ _ _ rfl rfl rfl (s33 [f4] l4 n4) (fun r m' h' => ?_)
    rcases h' with ⟨he, rfl, rfl⟩ | ⟨_, p, hp, rfl, rfl⟩
    · exact absurd (fmsE_0.2 alb4) he
    rw [prc4 hp]
    have k1 := s26 [1, 0, 2] [1, 0, 2] (by decide)
    have k2 := s34 [0, 5, 10, 10] [0, 5, 10, 10] (by decide)
    repeat' ((conv => whnf); first | refine Rng.g ?_ | refine Ob.g ?_ | refine Ob.e ?_ | refine Ob.m ?_ | refine Ob.mk (Nat.le_of_ble_eq_true rfl) ?_ | refine JoinVC.on ?_ | refine Nils.mk (fun h => ?_) ?_ | refine Val.t ?_ | refine Val.d ?_ | refine Mm.mk ?_ | refine CallVC.pure rfl (k1) ?_ | refine CallVC.pure rfl (k2) ?_ | refine CallVC0.pure rfl (k1) ?_ | refine CallVC0.pure rfl (k2) ?_ | (refine Br.mk (fun h => ?_) (fun h => ?_) <;> first | (exfalso; omega; done) | (exfalso; simp at h; done) | skip))
    repeat refine Mm.mk ?_
    refine EndVC.mk _ rfl _ _ ⟨rfl, rfl⟩ ?_
    refine ⟨[], rfl, rfl, ?_, ?_⟩ <;> repeat' (first | exact trivial | exact rfl | exact Iff.rfl | apply And.intro)
    exact ⟨fun _ => trivial, fun _ => rfl⟩
end Go.Sx

namespace Go.Sx
open Go Go.Proofs
set_option maxRecDepth 10000
set_option maxHeartbeats 8000000
/-! ### Orders by places -/
open Classical in
theorem s14 (f : Fmt) (l : List Sng) (m : Int) : PSpec Try.prog 14 [f.x, lSng l, I m] (xP ((l.length : Int) ≤ m ∧ FmtOK f ∧ SngsOK l)) := by
  have ll := sngA_len l
  have v1 := s41 f
  have v2 := s42 l
  by_cases hm : (l.length : Int) ≤ m
  rotate_left
  · refine spec_of pMix (O := []) Try.func14 (c := bodyOf Try.f14) rfl (by kernel_rfl) (by kernel_rfl) Try.ntmps14 (res := [.tmp 6]) (by kernel_rfl) ?_
    repeat' ((conv => whnf); first | refine Rng.g ?_ | refine Ob.g ?_ | refine Ob.e ?_ | refine Ob.m ?_ | refine Ob.mk (Nat.le_of_ble_eq_true rfl) ?_ | refine JoinVC.on ?_ | refine Nils.mk (fun h => ?_) ?_ | refine Val.t ?_ | refine Val.d ?_ | refine Mm.mk ?_ | (refine Br.mk (fun h => ?_) (fun h => ?_) <;> first | (exfalso; omega; done) | (exfalso; simp at h; done) | skip))
    repeat refine Mm.mk ?_
    refine EndVC.mk _ rfl _ _ ⟨rfl, rfl⟩ ?_
    refine ⟨[], rfl, rfl, ?_, ?_⟩ <;> repeat' (first | exact trivial | exact rfl | exact Iff.rfl | apply And.intro)
    exact fun h => hm h.1
  by_cases hf : FmtOK f
  rotate_left
  · rw [fmtE_no hf] at v1
    refine spec_of pMix (O := []) Try.func14 (c := bodyOf Try.f14) rfl (by kernel_rfl) (by kernel_rfl) Try.ntmps14 (res := [.tmp 6]) (by kernel_rfl) ?_
    repeat' ((conv => whnf); first | refine Rng.g ?_ | refine Ob.g ?_ | refine Ob.e ?_ | refine Ob.m ?_ | refine Ob.mk (Nat.le_of_ble_eq_true rfl) ?_ | refine JoinVC.on ?_ | refine Nils.mk (fun h => ?_) ?_ | refine Val.t ?_ | refine Val.d ?_ | refine Mm.mk ?_ | refine CallVC.pure rfl (v1) ?_ | refine CallVC0.pure rfl (v1) ?_ | (refine Br.mk (fun h => ?_) (fun h => ?_) <;> first | (exfalso; omega; done) | (exfalso; simp at h; done) | skip))
    repeat refine Mm.mk ?_
    refine EndVC.mk _ rfl _ _ ⟨rfl, rfl⟩ ?_
    refine ⟨[], rfl, rfl, ?_, ?_⟩ <;> repeat' (first | exact trivial | exact rfl | exact Iff.rfl | apply And.intro)
    exact fun h => absurd h.2.1 hf
  rw [fmtE_ok hf] at v1
  by_cases hg : SngsOK l
  · rw [trkE_ok hg] at v2
    refine spec_of pMix (O := []) Try.func14 (c := bodyOf Try.f14) rfl (by kernel_rfl) (by kernel_rfl) Try.ntmps14 (res := [.tmp 6]) (by kernel_rfl) ?_
    repeat' ((conv => whnf); first | refine Rng.g ?_ | refine Ob.g ?_ | refine Ob.e ?_ | refine Ob.m ?_ | refine Ob.mk (Nat.le_of_ble_eq_true rfl) ?_ | refine JoinVC.on ?_ | refine Nils.mk (fun h => ?_) ?_ | refine Val.t ?_ | refine Val.d ?_ | refine Mm.mk ?_ | refine CallVC.pure rfl (v1) ?_ | refine CallVC.pure rfl (v2) ?_ | refine CallVC0.pure rfl (v1) ?_ | refine CallVC0.pure rfl (v2) ?_ | (refine Br.mk (fun h => ?_) (fun h => ?_) <;> first | (exfalso; omega; done) | (exfalso; simp at h; done) | skip))
    repeat refine Mm.mk ?_
    refine EndVC.mk _ rfl _ _ ⟨rfl, rfl⟩ ?_
    refine ⟨[], rfl, rfl, ?_, ?_⟩ <;> repeat' (first | exact trivial | exact rfl | exact Iff.rfl | apply And.intro)
    exact ⟨fun _ => ⟨hm, hf, hg⟩, fun _ => rfl⟩
  · obtain ⟨e, he⟩ : ∃ e, trkE l = e := ⟨_, rfl⟩
    have h0 : e ≠ 0 := fun h => hg (trkE_0 (he.trans h))
    rw [he] at v2
    refine spec_of pMix (O := []) Try.func14 (c := bodyOf Try.f14) rfl (by kernel_rfl) (by kernel_rfl) Try.ntmps14 (res := [.tmp 6]) (by kernel_rfl) ?_
    repeat' ((conv => whnf); first | refine Rng.g ?_ | refine Ob.g ?_ | refine Ob.e ?_ | refine Ob.m ?_ | refine Ob.mk (Nat.le_of_ble_eq_true rfl) ?_ | refine JoinVC.on ?_ | refine Nils.mk (fun h => ?_) ?_ | refine Val.t ?_ | refine Val.d ?_ | refine Mm.mk ?_ | refine CallVC.pure rfl (v1) ?_ | refine CallVC.pure rfl (v2) ?_ | refine CallVC0.pure rfl (v1) ?_ | refine CallVC0.pure rfl (v2) ?_ | (refine Br.mk (fun h => ?_) (fun h => ?_) <;> first | (exfalso; omega; done) | (exfalso; simp at h; done) | skip))
    repeat refine Mm.mk ?_
    refine EndVC.mk _ rfl _ _ ⟨rfl, rfl⟩ ?_
    refine ⟨[], rfl, rfl, ?_, ?_⟩ <;> repeat' (first | exact trivial | exact rfl | exact Iff.rfl | apply And.intro)
    exact ⟨fun h => absurd h h0, fun h => absurd h.2.2 hg⟩
theorem ord_row (L : List Int) (q i : Int) : ([] ++ List.take q.toNat (List.drop 0 (i64s L))) ++ [[Cell.int i]] ++ List.take (((i64s L).length : Int).toNat - q.toNat) (List.drop q.toNat (i64s L)) = i64s (L.take q.toNat ++ i :: L.drop q.toNat) := by
  have h2 : List.take (((i64s L).length : Int).toNat - q.toNat) (List.drop q.toNat (i64s L)) = List.drop q.toNat (i64s L) := List.take_of_length_le (by rw [List.length_drop]; omega)
  rw [h2, List.drop_zero, List.nil_append]
  simp [i64s]
@[reducible] def lU (b : List Int) : XV := .one (.lst true [.int .u8] (i64s b))
theorem s15 (n : Nat) (b : List Int) (hn : n ≤ 24) (hb : ∀ j, 0 ≤ b.getD j 0 ∧ b.getD j 0 ≤ 255) : HSpec Try.prog 15 [I (n : Int), lU b] [] (fun r m' => r = .x (.one (.own 0)) ∧ m' = [some (rowOd (byO b n))]) := by
  have lb := i64s_len b
  refine spec_of pMix (O := [(8, ([0], [⟨1, [], []⟩, ⟨2, [], []⟩, ⟨3, [], []⟩, ⟨5, [], [6]⟩, ⟨8, [], []⟩, ⟨9, [], []⟩, ⟨10, [], []⟩, ⟨0, [], []⟩, ⟨4, [5, 8, 9, 10], []⟩, ⟨6, [], []⟩, ⟨7, [8, 9, 10], []⟩, ⟨11, [], []⟩, ⟨12, [], []⟩]))]) Try.func15 (c := bodyOf Try.f15) rfl (by kernel_rfl) (by kernel_rfl) Try.ntmps15 (res := [.tmp 4]) (by kernel_rfl) ?_
  repeat' ((conv => whnf); first | refine Rng.g ?_ | refine Ob.g ?_ | refine Ob.e ?_ | refine Ob.m ?_ | refine Ob.mk (Nat.le_of_ble_eq_true rfl) ?_ | refine JoinVC.on ?_ | refine Nils.mk (fun h => ?_) ?_ | refine Val.t ?_ | refine Val.d ?_ | refine Mm.mk ?_ | (refine Br.mk (fun h => ?_) (fun h => ?_) <;> first | (exfalso; omega; done) | (exfalso; simp at h; done) | skip))
  refine LoopVC.mk (fun m st => ∃ (i : Nat), i ≤ n ∧ m = n - i ∧ st = ⟨0, envA 38 [(0, .int .i64 (n : Int)), (1, .x (lU b)), (5, .x (.one (.own 0))), (6, .int .i64 (i : Int))], [some (rowOd (byO b i))]⟩) _ _ ⟨0, Nat.zero_le _, rfl, rfl⟩ ?_ ?_
  · refine ⟨[none], rfl, rfl, ?_, ?_⟩ <;> repeat' (first | exact trivial | exact rfl | exact Iff.rfl | apply And.intro)
  rintro m _ ⟨i, hi, hm, rfl⟩
  have lo := byO_len b i
  have lol := i64s_len (byO b i)
  by_cases hi' : i < n
  rotate_left
  · have ei : i = n := by omega
    subst ei
    repeat' ((conv => whnf); first | refine Rng.g ?_ | refine Ob.g ?_ | refine Ob.e ?_ | refine Ob.m ?_ | refine Ob.mk (Nat.le_of_ble_eq_true rfl) ?_ | refine JoinVC.on ?_ | refine Nils.mk (fun h => ?_) ?_ | refine Val.t ?_ | refine Val.d ?_ | refine Mm.mk ?_ | (refine Br.mk (fun h => ?_) (fun h => ?_) <;> first | (exfalso; omega; done) | (exfalso; simp at h; done) | skip))
    repeat refine Mm.mk ?_
    refine EndVC.mk _ rfl _ _ ⟨rfl, rfl⟩ ?_
    refine ⟨[some 0], rfl, rfl, ?_, ?_⟩ <;> repeat' (first | exact trivial | exact rfl | exact Iff.rfl | apply And.intro)
  have hbi := hb i
  have gi : rI (i64s b) (i : Int).toNat 0 = b.getD i 0 := by rw [Int.toNat_natCast]; exact i64s_get b i
  by_cases hib : i < b.length
  · have ea : atB b i = (b.getD i 0 % ((i : Int) + 1)).toNat := if_pos hib
    have h1 := Int.emod_lt_of_pos (b.getD i 0) (show 0 < (i : Int) + 1 by omega)
    have h2 := Int.emod_nonneg (b.getD i 0) (show (i : Int) + 1 ≠ 0 by omega)
    obtain ⟨q, hq⟩ : ∃ q, b.getD i 0 % ((i : Int) + 1) = q := ⟨_, rfl⟩
    rw [hq] at ea h1 h2
    have tl : (List.take ((some (q : Int)).getD ((i64s (byO b i)).length : Int)).toNat (List.drop 0 (i64s (byO b i)))).length ≤ i := by rw [List.length_take, List.length_drop]; omega
    have tr : (List.take (((none : Option Int).getD ((i64s (byO b i)).length : Int)).toNat - (q : Int).toNat) (List.drop (q : Int).toNat (i64s (byO b i)))).length ≤ i := by rw [List.length_take, List.length_drop]; omega
    have fin := ord_row (byO b i) q (i : Int)
    repeat' ((conv => whnf); first | rw [gi] | rw [hq] | refine Rng.g ?_ | refine Ob.g ?_ | refine Ob.e ?_ | refine Ob.m ?_ | refine Ob.mk (Nat.le_of_ble_eq_true rfl) ?_ | refine JoinVC.on ?_ | refine Nils.mk (fun h => ?_) ?_ | refine Val.t ?_ | refine Val.d ?_ | refine Mm.mk ?_ | (refine Br.mk (fun h => ?_) (fun h => ?_) <;> first | (exfalso; omega; done) | (exfalso; simp at h; done) | skip))
    repeat refine Mm.mk ?_
    refine Ob.mk (by rw [eb3]; simp only [List.length_nil]; omega) ?_
    repeat' ((conv => whnf); first | refine Rng.g ?_ | refine Ob.g ?_ | refine Ob.e ?_ | refine Ob.m ?_ | refine Ob.mk (Nat.le_of_ble_eq_true rfl) ?_ | refine JoinVC.on ?_ | refine Nils.mk (fun h => ?_) ?_ | refine Val.t ?_ | refine Val.d ?_ | refine Mm.mk ?_ | (refine Br.mk (fun h => ?_) (fun h => ?_) <;> first | (exfalso; omega; done) | (exfalso; simp at h; done) | skip))
    repeat refine Mm.mk ?_
    refine Ob.mk (by rw [eb3]; simp only [List.length_nil, List.length_append, List.length_cons]; omega) ?_
    repeat' ((conv => whnf); first | refine Rng.g ?_ | refine Ob.g ?_ | refine Ob.e ?_ | refine Ob.m ?_ | refine Ob.mk (Nat.le_of_ble_eq_true rfl) ?_ | refine JoinVC.on ?_ | refine Nils.mk (fun h => ?_) ?_ | refine Val.t ?_ | refine Val.d ?_ | refine Mm.mk ?_ | (refine Br.mk (fun h => ?_) (fun h => ?_) <;> first | (exfalso; omega; done) | (exfalso; simp at h; done) | skip))
    repeat refine Mm.mk ?_
    refine Ob.mk (by rw [eb3]; simp only [List.length_nil, List.length_append, List.length_cons]; omega) ?_
    repeat' ((conv => whnf); first | refine Rng.g ?_ | refine Ob.g ?_ | refine Ob.e ?_ | refine Ob.m ?_ | refine Ob.mk (Nat.le_of_ble_eq_true rfl) ?_ | refine JoinVC.on ?_ | refine Nils.mk (fun h => ?_) ?_ | refine Val.t ?_ | refine Val.d ?_ | refine Mm.mk ?_ | (refine Br.mk (fun h => ?_) (fun h => ?_) <;> first | (exfalso; omega; done) | (exfalso; simp at h; done) | skip))
    refine Back.mk (n - (i + 1)) _ (by omega) ⟨i + 1, by omega, rfl, rfl⟩ ?_
    refine ⟨[some 5], rfl, rfl, ?_, ?_⟩ <;> repeat' (first | exact trivial | exact rfl | exact Iff.rfl | apply And.intro)
    refine fin.trans ?_
    show _ = i64s ((byO b i).take (atB b i) ++ (i : Int) :: (byO b i).drop (atB b i))
    rw [ea]
  · have ea : atB b i = 0 := if_neg hib
    have tl : (List.take ((some (0 : Int)).getD ((i64s (byO b i)).length : Int)).toNat (List.drop 0 (i64s (byO b i)))).length ≤ i := by rw [List.length_take, List.length_drop]; omega
    have tr : (List.take (((none : Option Int).getD ((i64s (byO b i)).length : Int)).toNat - (0 : Int).toNat) (List.drop (0 : Int).toNat (i64s (byO b i)))).length ≤ i := by rw [List.length_take, List.length_drop]; omega
    have fin := ord_row (byO b i) 0 (i : Int)
    repeat' ((conv => whnf); first | refine Rng.g ?_ | refine Ob.g ?_ | refine Ob.e ?_ | refine Ob.m ?_ | refine Ob.mk (Nat.le_of_ble_eq_true rfl) ?_ | refine JoinVC.on ?_ | refine Nils.mk (fun h => ?_) ?_ | refine Val.t ?_ | refine Val.d ?_ | refine Mm.mk ?_ | (refine Br.mk (fun h => ?_) (fun h => ?_) <;> first | (exfalso; omega; done) | (exfalso; simp at h; done) | skip))
    repeat refine Mm.mk ?_
    refine Ob.mk (by rw [eb3]; simp only [List.length_nil, List.length_append, List.length_cons]; omega) ?_
    repeat' ((conv => whnf); first | refine Rng.g ?_ | refine Ob.g ?_ | refine Ob.e ?_ | refine Ob.m ?_ | refine Ob.mk (Nat.le_of_ble_eq_true rfl) ?_ | refine JoinVC.on ?_ | refine Nils.mk (fun h => ?_) ?_ | refine Val.t ?_ | refine Val.d ?_ | refine Mm.mk ?_ | (refine Br.mk (fun h => ?_) (fun h => ?_) <;> first | (exfalso; omega; done) | (exfalso; simp at h; done) | skip))
    refine Back.mk (n - (i + 1)) _ (by omega) ⟨i + 1, by omega, rfl, rfl⟩ ?_
    refine ⟨[some 5], rfl, rfl, ?_, ?_⟩ <;> repeat' (first | exact trivial | exact rfl | exact Iff.rfl | apply And.intro)
    refine fin.trans ?_
    show _ = i64s ((byO b i).take (atB b i) ++ (i : Int) :: (byO b i).drop (atB b i))
    rw [ea]
    rfl
end Go.Sx

namespace Go.Sx
open Go Go.Proofs
set_option maxRecDepth 10000
set_option maxHeartbeats 16000000
/-! ### The usual order of up to 24 tracks -/
theorem s45w (f : Fmt) (l : List Sng) (O : List Int) (hO : OrdOK l.length O) (hl : O.length ≤ 24) : HSpec Try.prog 45 [.one (.ptr 0 0), .one (.own 1)] [bPl f l, rowOd O] (fun r m' => r = .x (.one (.own 2)) ∧ m' = [some (bPl f l), some (rowOd O), some (rowOd (usu l O))]) := by
  refine spec_of pMix (O := []) Try.func45 (c := bodyOf Try.f45) rfl (by kernel_rfl) (by kernel_rfl) Try.ntmps45 (res := [.tmp 4]) (by kernel_rfl) ?_
  repeat' ((conv => whnf); first | refine Rng.g ?_ | refine Ob.g ?_ | refine Ob.e ?_ | refine Ob.m ?_ | refine Ob.mk (Nat.le_of_ble_eq_true rfl) ?_ | refine JoinVC.on ?_ | refine Nils.mk (fun h => ?_) ?_ | refine Val.t ?_ | refine Val.d ?_ | refine Mm.mk ?_ | (refine Br.mk (fun h => ?_) (fun h => ?_) <;> first | (exfalso; omega; done) | (exfalso; simp at h; done) | skip))
  conv => whnf
  refine CallVC.mk [] _ _ _ rfl rfl rfl (s72 O (by omega)) (fun r m' h' => ?_)
  obtain ⟨rfl, rfl⟩ := h'
  conv => whnf
  repeat' ((conv => whnf); first | refine Rng.g ?_ | refine Ob.g ?_ | refine Ob.e ?_ | refine Ob.m ?_ | refine Ob.mk (Nat.le_of_ble_eq_true rfl) ?_ | refine JoinVC.on ?_ | refine Nils.mk (fun h => ?_) ?_ | refine Val.t ?_ | refine Val.d ?_ | refine Mm.mk ?_ | (refine Br.mk (fun h => ?_) (fun h => ?_) <;> first | (exfalso; omega; done) | (exfalso; simp at h; done) | skip))
  conv => whnf
  refine CallVC.mk [2, 0] _ _ _ rfl rfl rfl (s73u f l O hO hl) (fun r m' h' => ?_)
  obtain ⟨rfl, rfl⟩ := h'
  conv => whnf
  repeat' ((conv => whnf); first | refine Rng.g ?_ | refine Ob.g ?_ | refine Ob.e ?_ | refine Ob.m ?_ | refine Ob.mk (Nat.le_of_ble_eq_true rfl) ?_ | refine JoinVC.on ?_ | refine Nils.mk (fun h => ?_) ?_ | refine Val.t ?_ | refine Val.d ?_ | refine Mm.mk ?_ | (refine Br.mk (fun h => ?_) (fun h => ?_) <;> first | (exfalso; omega; done) | (exfalso; simp at h; done) | skip))
  repeat refine Mm.mk ?_
  refine EndVC.mk _ rfl _ _ ⟨rfl, rfl⟩ ?_
  refine ⟨[some 0, some 1, some 2], rfl, rfl, ?_, ?_⟩ <;> repeat' (first | exact trivial | exact rfl | exact Iff.rfl | apply And.intro)
theorem s45l (f : Fmt) (l : List Sng) (O : List Int) (hO : OrdOK l.length O) (hl : O.length ≤ 24) : HSpec Try.prog 45 [.one (.ptr 0 0), .one (.lst true [.int .i64] (i64s O))] [bPl f l] (fun r m' => r = .x (.one (.own 1)) ∧ m' = [some (bPl f l), some (rowOd (usu l O))]) := by
  refine spec_of pMix (O := []) Try.func45 (c := bodyOf Try.f45) rfl (by kernel_rfl) (by kernel_rfl) Try.ntmps45 (res := [.tmp 4]) (by kernel_rfl) ?_
  repeat' ((conv => whnf); first | refine Rng.g ?_ | refine Ob.g ?_ | refine Ob.e ?_ | refine Ob.m ?_ | refine Ob.mk (Nat.le_of_ble_eq_true rfl) ?_ | refine JoinVC.on ?_ | refine Nils.mk (fun h => ?_) ?_ | refine Val.t ?_ | refine Val.d ?_ | refine Mm.mk ?_ | (refine Br.mk (fun h => ?_) (fun h => ?_) <;> first | (exfalso; omega; done) | (exfalso; simp at h; done) | skip))
  conv => whnf
  refine CallVC.mk [] _ _ _ rfl rfl rfl (s72 O (by omega)) (fun r m' h' => ?_)
  obtain ⟨rfl, rfl⟩ := h'
  conv => whnf
  repeat' ((conv => whnf); first | refine Rng.g ?_ | refine Ob.g ?_ | refine Ob.e ?_ | refine Ob.m ?_ | refine Ob.mk (Nat.le_of_ble_eq_true rfl) ?_ | refine JoinVC.on ?_ | refine Nils.mk (fun h => ?_) ?_ | refine Val.t ?_ | refine Val.d ?_ | refine Mm.mk ?_ | (refine Br.mk (fun h => ?_) (fun h => ?_) <;> first | (exfalso; omega; done) | (exfalso; simp at h; done) | skip))
  conv => whnf
  refine CallVC.mk [1, 0] _ _ _ rfl rfl rfl (s73u f l O hO hl) (fun r m' h' => ?_)
  obtain ⟨rfl, rfl⟩ := h'
  conv => whnf
  repeat' ((conv => whnf); first | refine Rng.g ?_ | refine Ob.g ?_ | refine Ob.e ?_ | refine Ob.m ?_ | refine Ob.mk (Nat.le_of_ble_eq_true rfl) ?_ | refine JoinVC.on ?_ | refine Nils.mk (fun h => ?_) ?_ | refine Val.t ?_ | refine Val.d ?_ | refine Mm.mk ?_ | (refine Br.mk (fun h => ?_) (fun h => ?_) <;> first | (exfalso; omega; done) | (exfalso; simp at h; done) | skip))
  repeat refine Mm.mk ?_
  refine EndVC.mk _ rfl _ _ ⟨rfl, rfl⟩ ?_
  refine ⟨[some 0, some 1], rfl, rfl, ?_, ?_⟩ <;> repeat' (first | exact trivial | exact rfl | exact Iff.rfl | apply And.intro)
theorem s46w (f : Fmt) (l : List Sng) (hl : l.length ≤ 24) : HSpec Try.prog 46 [.one (.ptr 0 0)] [bPl f l] (fun r m' => r = .x (.one (.own 1)) ∧ m' = [some (bPl f l), some (rowOd (allO l))]) := by
  have lp := sngA_len l
  have c := s45w f l (spanL 0 l.length) (span_ok _) (by rw [spanL_len]; exact hl)
  rw [← allO_usu] at c
  refine spec_of pMix (O := []) Try.func46 (c := bodyOf Try.f46) rfl (by kernel_rfl) (by kernel_rfl) Try.ntmps46 (res := [.tmp 2]) (by kernel_rfl) ?_
  repeat' ((conv => whnf); first | rw [lp] | refine Rng.g ?_ | refine Ob.g ?_ | refine Ob.e ?_ | refine Ob.m ?_ | refine Ob.mk (Nat.le_of_ble_eq_true rfl) ?_ | refine JoinVC.on ?_ | refine Nils.mk (fun h => ?_) ?_ | refine Val.t ?_ | refine Val.d ?_ | refine Mm.mk ?_ | (refine Br.mk (fun h => ?_) (fun h => ?_) <;> first | (exfalso; omega; done) | (exfalso; simp at h; done) | skip))
  conv => whnf
  refine CallVC.mk [] _ _ _ rfl rfl rfl (s54 l.length (by omega)) (fun r m' h' => ?_)
  obtain ⟨rfl, rfl⟩ := h'
  conv => whnf
  repeat' ((conv => whnf); first | refine Rng.g ?_ | refine Ob.g ?_ | refine Ob.e ?_ | refine Ob.m ?_ | refine Ob.mk (Nat.le_of_ble_eq_true rfl) ?_ | refine JoinVC.on ?_ | refine Nils.mk (fun h => ?_) ?_ | refine Val.t ?_ | refine Val.d ?_ | refine Mm.mk ?_ | (refine Br.mk (fun h => ?_) (fun h => ?_) <;> first | (exfalso; omega; done) | (exfalso; simp at h; done) | skip))
  conv => whnf
  refine CallVC.mk [0, 1] _ _ _ rfl rfl rfl (c) (fun r m' h' => ?_)
  obtain ⟨rfl, rfl⟩ := h'
  conv => whnf
  repeat' ((conv => whnf); first | refine Rng.g ?_ | refine Ob.g ?_ | refine Ob.e ?_ | refine Ob.m ?_ | refine Ob.mk (Nat.le_of_ble_eq_true rfl) ?_ | refine JoinVC.on ?_ | refine Nils.mk (fun h => ?_) ?_ | refine Val.t ?_ | refine Val.d ?_ | refine Mm.mk ?_ | (refine Br.mk (fun h => ?_) (fun h => ?_) <;> first | (exfalso; omega; done) | (exfalso; simp at h; done) | skip))
  repeat refine Mm.mk ?_
  refine EndVC.mk _ rfl _ _ ⟨rfl, rfl⟩ ?_
  refine ⟨[some 0, some 2], rfl, rfl, ?_, ?_⟩ <;> repeat' (first | exact trivial | exact rfl | exact Iff.rfl | apply And.intro)
/-! ### Crowds -/
/-- All of them together are a crowd. -/
def CrowdP (f : Fmt) (l : List Sng) (O : List Int) : Prop := atF f l O O.length - f.tail < f.inner ∨ ¬ okAt f l O (O.length - 1)
theorem crowd_some {f : Fmt} {l : List Sng} {O : List Int} (h0 : 0 < O.length) (h : ¬ LayOK f l O) : ∃ k, k < O.length ∧ CrowdP f l (O.take (k + 1)) := by
  by_cases hr : ∃ i, i < O.length ∧ ¬ okAt f l O i
  · obtain ⟨i, hi, hn⟩ := hr
    refine ⟨i, hi, .inr ?_⟩
    have hlen : (O.take (i + 1)).length = i + 1 := by rw [List.length_take]; omega
    have hg : ∀ j, j ≤ i → (O.take (i + 1)).getD j 0 = O.getD j 0 := fun j hj => by simp [List.getD_eq_getElem?_getD, show j < i + 1 by omega]
    rw [hlen, Nat.add_sub_cancel]
    unfold okAt at hn ⊢
    rw [hg i (Nat.le_refl _), atF_congr f l (i + 1) (O := O.take (i + 1)) (Q := O) fun j hj => hg j (by omega)]
    exact hn
  · refine ⟨O.length - 1, by omega, .inl ?_⟩
    rw [show O.length - 1 + 1 = O.length by omega, List.take_length]
    exact Classical.byContradiction fun hc => h ⟨fun i hi => Classical.byContradiction fun hn => hr ⟨i, hi, hn⟩, by omega⟩
open Classical in
theorem s44 (f : Fmt) (l : List Sng) (O : List Int) (hf : FmtOK f) (hg : SngsOK l) (hO : InR O l.length) (h0 : 0 < O.length) (hl : O.length ≤ 100) : HSpec Try.prog 44 [.one (.ptr 0 0), .one (.lst true [.int .i64] (i64s O))] [bPl f l] (fun r m' => r = xP (CrowdP f l O) ∧ m' = [some (bPl f l)]) := by
  have lo := i64s_len O
  have lg := sngA_len l
  have hbd := atF_bd hf hg hO
  have hf1 := hf.outer
  have hf2 := hf.lead
  have hf3 := hf.gap
  have hf4 := hf.tail
  have hf5 := hf.inner
  refine spec_of pMix (O := [(5, ([], [⟨0, [], []⟩, ⟨1, [], []⟩, ⟨2, [], []⟩, ⟨3, [], []⟩, ⟨4, [], []⟩, ⟨5, [], []⟩, ⟨6, [], []⟩, ⟨7, [], []⟩, ⟨8, [], []⟩, ⟨9, [], []⟩, ⟨10, [], []⟩, ⟨11, [], []⟩, ⟨12, [], []⟩, ⟨13, [], []⟩, ⟨14, [0, 1, 2, 3, 4, 5], []⟩, ⟨15, [], []⟩, ⟨16, [], []⟩, ⟨17, [], []⟩]))]) Try.func44 (c := bodyOf Try.f44) rfl (by kernel_rfl) (by kernel_rfl) Try.ntmps44 (res := [.tmp 4]) (by kernel_rfl) ?_
  repeat' ((conv => whnf); first | refine Rng.g ?_ | refine Ob.g ?_ | refine Ob.e ?_ | refine Ob.m ?_ | refine Ob.mk (Nat.le_of_ble_eq_true rfl) ?_ | refine JoinVC.on ?_ | refine Nils.mk (fun h => ?_) ?_ | refine Val.t ?_ | refine Val.d ?_ | refine Mm.mk ?_ | (refine Br.mk (fun h => ?_) (fun h => ?_) <;> first | (exfalso; omega; done) | (exfalso; simp at h; done) | skip))
  refine LoopVC.mk (fun n st => ∃ (i : Nat), i ≤ O.length ∧ n = O.length - i ∧ st = ⟨1, envA 79 [(0, .x (.one (.ptr 0 0))), (1, .x (.one (.lst true [.int .i64] (i64s O)))), (5, .int .i64 (atF f l O i + (if i = 0 then f.gap else 0))), (25, .x (.one (.lst true [.int .i64] (i64s O)))), (26, .int .i64 (O.length : Int)), (27, .int .i64 (i : Int))], [some (bPl f l)]⟩) _ _ ⟨0, Nat.zero_le _, rfl, rfl⟩ ?_ ?_
  · refine ⟨[some 0], rfl, rfl, ?_, ?_⟩ <;> repeat' (first | exact trivial | exact rfl | exact Iff.rfl | apply And.intro)
    exact congrArg Int.ofNat lo
  rintro n _ ⟨i, hi, hn, rfl⟩
  have gi : rI (i64s O) (i : Int).toNat 0 = O.getD i 0 := by rw [Int.toNat_natCast]; exact i64s_get O i
  have hbi := hbd i hi
  by_cases hi' : i < O.length
  · have hr := hO i hi'
    obtain ⟨q, hq⟩ : ∃ q, O.getD i 0 = q := ⟨_, rfl⟩
    have c0 : rI (sngA l) q.toNat 0 = (l.getD q.toNat g0).long := sngA_0 l _
    have c1 : rI (sngA l) q.toNat (0 + 1) = (l.getD q.toNat g0).pitch := sngA_1 l _
    have c2 : rI (sngA l) q.toNat (0 + 1 + 1) = (l.getD q.toNat g0).least := sngA_2 l _
    rw [hq] at gi hr
    have hgk := hg.each q.toNat (by omega)
    have hw := (wid_bd hf.per.1 hgk).2
    have ea : atF f l O (i + 1) = atF f l O i - (if 0 < i then f.gap else 0) - widF f (l.getD (O.getD i 0).toNat g0) := rfl
    rw [hq] at ea
    have hbi2 := hbd (i + 1) (by omega)
    have e1 : atF f l O i + (if i = 0 then f.gap else 0) - (f.gap + widF f (l.getD q.toNat g0)) = atF f l O (i + 1) + (if i + 1 = 0 then f.gap else 0) := by
      rw [ea, if_neg (Nat.succ_ne_zero i)]
      by_cases h : i = 0
      · rw [if_pos h, if_neg (by omega)]; omega
      · rw [if_neg h, if_pos (by omega)]; omega
    obtain ⟨A, hA⟩ : ∃ A, atF f l O i + (if i = 0 then f.gap else 0) = A := ⟨_, rfl⟩
    have hAb : A ≤ 8388608 ∧ -4194304 - 68723671040 * (i : Int) ≤ A := by
      rw [← hA]
      split <;> omega
    rw [hA] at e1
    rw [hA]
    repeat' ((conv => whnf); first | rw [gi] | rw [c0] | rw [c1] | rw [c2] | refine Rng.g ?_ | refine Ob.g ?_ | refine Ob.e ?_ | refine Ob.m ?_ | refine Ob.mk (Nat.le_of_ble_eq_true rfl) ?_ | refine JoinVC.on ?_ | refine Nils.mk (fun h => ?_) ?_ | refine Val.t ?_ | refine Val.d ?_ | refine Mm.mk ?_ | (refine Br.mk (fun h => ?_) (fun h => ?_) <;> first | (exfalso; omega; done) | (exfalso; simp at h; done) | skip))
    conv => whnf
    refine CallVC0.mk _ _ rfl (s43p f l (l.getD q.toNat g0) hf hgk) (fun r m' h' => ?_)
    obtain ⟨rfl, rfl⟩ := h'
    conv => whnf
    repeat' ((conv => whnf); first | rw [gi] | refine Rng.g ?_ | refine Ob.g ?_ | refine Ob.e ?_ | refine Ob.m ?_ | refine Ob.mk (Nat.le_of_ble_eq_true rfl) ?_ | refine JoinVC.on ?_ | refine Nils.mk (fun h => ?_) ?_ | refine Val.t ?_ | refine Val.d ?_ | refine Mm.mk ?_ | (refine Br.mk (fun h => ?_) (fun h => ?_) <;> first | (exfalso; omega; done) | (exfalso; simp at h; done) | skip))
    refine Back.mk (O.length - (i + 1)) _ (by omega) ⟨i + 1, by omega, rfl, rfl⟩ ?_
    refine ⟨[some 0], rfl, rfl, ?_, ?_⟩ <;> repeat' (first | exact trivial | exact rfl | exact Iff.rfl | apply And.intro)
    exact e1
  · have ei : i = O.length := by omega
    subst ei
    have gl : rI (i64s O) ((O.length : Int) - 1).toNat 0 = O.getD (O.length - 1) 0 := by rw [show ((O.length : Int) - 1).toNat = O.length - 1 by omega]; exact i64s_get O _
    have hr := hO (O.length - 1) (by omega)
    obtain ⟨q, hq⟩ : ∃ q, O.getD (O.length - 1) 0 = q := ⟨_, rfl⟩
    rw [hq] at gl hr
    have c2 : rI (sngA l) q.toNat (0 + 1 + 1) = (l.getD q.toNat g0).least := sngA_2 l _
    have c3 : rI (sngA l) q.toNat (0 + (0 + 1 + 1)) = (l.getD q.toNat g0).least := sngA_2 l _
    have eo : okAt f l O (O.length - 1) ↔ (l.getD q.toNat g0).least ≤ atF f l O O.length := by
      unfold okAt
      rw [hq, show O.length - 1 + 1 = O.length by omega]
    rw [if_neg (by omega), Int.add_zero]
    repeat' ((conv => whnf); first | rw [gl] | rw [c2] | rw [c3] | rw [lo] | refine Rng.g ?_ | refine Ob.g ?_ | refine Ob.e ?_ | refine Ob.m ?_ | refine Ob.mk (Nat.le_of_ble_eq_true rfl) ?_ | refine JoinVC.on ?_ | refine Nils.mk (fun h => ?_) ?_ | refine Val.t ?_ | refine Val.d ?_ | refine Mm.mk ?_ | (refine Br.mk (fun h => ?_) (fun h => ?_) <;> first | (exfalso; omega; done) | (exfalso; simp at h; done) | skip))
    · repeat refine Mm.mk ?_
      refine EndVC.mk _ rfl _ _ ⟨rfl, rfl⟩ ?_
      refine ⟨[some 0], rfl, rfl, ?_, ?_⟩ <;> repeat' (first | exact trivial | exact rfl | exact Iff.rfl | apply And.intro)
      exact .inl h
    · repeat refine Mm.mk ?_
      refine EndVC.mk _ rfl _ _ ⟨rfl, rfl⟩ ?_
      refine ⟨[some 0], rfl, rfl, ?_, ?_⟩ <;> repeat' (first | exact trivial | exact rfl | exact Iff.rfl | apply And.intro)
      show _ ↔ _
      exact ⟨fun h2 => .inr fun h3 => (by have := eo.1 h3; omega), fun h2 => (by
        rcases h2 with h2 | h2
        · exact absurd h2 h
        · exact Classical.byContradiction fun h3 => h2 (eo.2 (by omega)))⟩
open Classical in
theorem s44p (f : Fmt) (l : List Sng) (O : List Int) (hf : FmtOK f) (hg : SngsOK l) (hO : InR O l.length) (h0 : 0 < O.length) (hl : O.length ≤ 100) : HSpec Try.prog 44 [plX f l, .one (.lst true [.int .i64] (i64s O))] [] (fun r m' => r = xP (CrowdP f l O) ∧ m' = []) := by
  have lo := i64s_len O
  have lg := sngA_len l
  have hbd := atF_bd hf hg hO
  have hf1 := hf.outer
  have hf2 := hf.lead
  have hf3 := hf.gap
  have hf4 := hf.tail
  have hf5 := hf.inner
  have p1 : rI (plA f l) 0 (0 + 0 + (0 + 1)) = f.outer := rfl
  have p2 : rI (plA f l) 0 (0 + 0 + (0 + 1 + 1)) = f.inner := rfl
  have p4 : rI (plA f l) 0 (0 + 0 + (0 + 1 + 1 + 1 + 1)) = f.lead := rfl
  have p5 : rI (plA f l) 0 (0 + 0 + (0 + 1 + 1 + 1 + 1 + 1)) = f.gap := rfl
  have p6 : rI (plA f l) 0 (0 + 0 + (0 + 1 + 1 + 1 + 1 + 1 + 1)) = f.tail := rfl
  have p8 : rA (plA f l) 0 (0 + (0 + 1 + 1 + 1 + 1 + 1 + 1 + 1 + 1)) = sngA l := rfl
  refine spec_of pMix (O := [(5, ([], [⟨0, [], []⟩, ⟨1, [], []⟩, ⟨2, [], []⟩, ⟨3, [], []⟩, ⟨4, [], []⟩, ⟨5, [], []⟩, ⟨6, [], []⟩, ⟨7, [], []⟩, ⟨8, [], []⟩, ⟨9, [], []⟩, ⟨10, [], []⟩, ⟨11, [], []⟩, ⟨12, [], []⟩, ⟨13, [], []⟩, ⟨14, [0, 1, 2, 3, 4, 5], []⟩, ⟨15, [], []⟩, ⟨16, [], []⟩, ⟨17, [], []⟩]))]) Try.func44 (c := bodyOf Try.f44) rfl (by kernel_rfl) (by kernel_rfl) Try.ntmps44 (res := [.tmp 4]) (by kernel_rfl) ?_
  repeat' ((conv => whnf); first | rw [p1] | rw [p2] | rw [p4] | rw [p5] | rw [p6] | rw [p8] | refine Rng.g ?_ | refine Ob.g ?_ | refine Ob.e ?_ | refine Ob.m ?_ | refine Ob.mk (Nat.le_of_ble_eq_true rfl) ?_ | refine JoinVC.on ?_ | refine Nils.mk (fun h => ?_) ?_ | refine Val.t ?_ | refine Val.d ?_ | refine Mm.mk ?_ | (refine Br.mk (fun h => ?_) (fun h => ?_) <;> first | (exfalso; omega; done) | (exfalso; simp at h; done) | skip))
  refine LoopVC.mk (fun n st => ∃ (i : Nat), i ≤ O.length ∧ n = O.length - i ∧ st = ⟨0, envA 79 [(0, .x (plX f l)), (1, .x (.one (.lst true [.int .i64] (i64s O)))), (5, .int .i64 (atF f l O i + (if i = 0 then f.gap else 0))), (25, .x (.one (.lst true [.int .i64] (i64s O)))), (26, .int .i64 (O.length : Int)), (27, .int .i64 (i : Int))], []⟩) _ _ ⟨0, Nat.zero_le _, rfl, rfl⟩ ?_ ?_
  · refine ⟨[], rfl, rfl, ?_, ?_⟩ <;> repeat' (first | exact trivial | exact rfl | exact Iff.rfl | apply And.intro)
    exact congrArg Int.ofNat lo
  rintro n _ ⟨i, hi, hn, rfl⟩
  have gi : rI (i64s O) (i : Int).toNat 0 = O.getD i 0 := by rw [Int.toNat_natCast]; exact i64s_get O i
  have hbi := hbd i hi
  by_cases hi' : i < O.length
  · have hr := hO i hi'
    obtain ⟨q, hq⟩ : ∃ q, O.getD i 0 = q := ⟨_, rfl⟩
    have c0 : rI (sngA l) q.toNat 0 = (l.getD q.toNat g0).long := sngA_0 l _
    have c1 : rI (sngA l) q.toNat (0 + 1) = (l.getD q.toNat g0).pitch := sngA_1 l _
    have c2 : rI (sngA l) q.toNat (0 + 1 + 1) = (l.getD q.toNat g0).least := sngA_2 l _
    rw [hq] at gi hr
    have hgk := hg.each q.toNat (by omega)
    have hw := (wid_bd hf.per.1 hgk).2
    have ea : atF f l O (i + 1) = atF f l O i - (if 0 < i then f.gap else 0) - widF f (l.getD (O.getD i 0).toNat g0) := rfl
    rw [hq] at ea
    have hbi2 := hbd (i + 1) (by omega)
    have e1 : atF f l O i + (if i = 0 then f.gap else 0) - (f.gap + widF f (l.getD q.toNat g0)) = atF f l O (i + 1) + (if i + 1 = 0 then f.gap else 0) := by
      rw [ea, if_neg (Nat.succ_ne_zero i)]
      by_cases h : i = 0
      · rw [if_pos h, if_neg (by omega)]; omega
      · rw [if_neg h, if_pos (by omega)]; omega
    obtain ⟨A, hA⟩ : ∃ A, atF f l O i + (if i = 0 then f.gap else 0) = A := ⟨_, rfl⟩
    have hAb : A ≤ 8388608 ∧ -4194304 - 68723671040 * (i : Int) ≤ A := by
      rw [← hA]
      split <;> omega
    rw [hA] at e1
    rw [hA]
    repeat' ((conv => whnf); first | rw [p1] | rw [p2] | rw [p4] | rw [p5] | rw [p6] | rw [p8] | rw [gi] | rw [c0] | rw [c1] | rw [c2] | refine Rng.g ?_ | refine Ob.g ?_ | refine Ob.e ?_ | refine Ob.m ?_ | refine Ob.mk (Nat.le_of_ble_eq_true rfl) ?_ | refine JoinVC.on ?_ | refine Nils.mk (fun h => ?_) ?_ | refine Val.t ?_ | refine Val.d ?_ | refine Mm.mk ?_ | (refine Br.mk (fun h => ?_) (fun h => ?_) <;> first | (exfalso; omega; done) | (exfalso; simp at h; done) | skip))
    conv => whnf
    refine CallVC0.mk _ _ rfl (s43p f l (l.getD q.toNat g0) hf hgk) (fun r m' h' => ?_)
    obtain ⟨rfl, rfl⟩ := h'
    conv => whnf
    repeat' ((conv => whnf); first | rw [p1] | rw [p2] | rw [p4] | rw [p5] | rw [p6] | rw [p8] | rw [gi] | refine Rng.g ?_ | refine Ob.g ?_ | refine Ob.e ?_ | refine Ob.m ?_ | refine Ob.mk (Nat.le_of_ble_eq_true rfl) ?_ | refine JoinVC.on ?_ | refine Nils.mk (fun h => ?_) ?_ | refine Val.t ?_ | refine Val.d ?_ | refine Mm.mk ?_ | (refine Br.mk (fun h => ?_) (fun h => ?_) <;> first | (exfalso; omega; done) | (exfalso; simp at h; done) | skip))
    refine Back.mk (O.length - (i + 1)) _ (by omega) ⟨i + 1, by omega, rfl, rfl⟩ ?_
    refine ⟨[], rfl, rfl, ?_, ?_⟩ <;> repeat' (first | exact trivial | exact rfl | exact Iff.rfl | apply And.intro)
    exact e1
  · have ei : i = O.length := by omega
    subst ei
    have gl : rI (i64s O) ((O.length : Int) - 1).toNat 0 = O.getD (O.length - 1) 0 := by rw [show ((O.length : Int) - 1).toNat = O.length - 1 by omega]; exact i64s_get O _
    have hr := hO (O.length - 1) (by omega)
    obtain ⟨q, hq⟩ : ∃ q, O.getD (O.length - 1) 0 = q := ⟨_, rfl⟩
    rw [hq] at gl hr
    have c2 : rI (sngA l) q.toNat (0 + 1 + 1) = (l.getD q.toNat g0).least := sngA_2 l _
    have c3 : rI (sngA l) q.toNat (0 + (0 + 1 + 1)) = (l.getD q.toNat g0).least := sngA_2 l _
    have eo : okAt f l O (O.length - 1) ↔ (l.getD q.toNat g0).least ≤ atF f l O O.length := by
      unfold okAt
      rw [hq, show O.length - 1 + 1 = O.length by omega]
    rw [if_neg (by omega), Int.add_zero]
    repeat' ((conv => whnf); first | rw [p1] | rw [p2] | rw [p4] | rw [p5] | rw [p6] | rw [p8] | rw [gl] | rw [c2] | rw [c3] | rw [lo] | refine Rng.g ?_ | refine Ob.g ?_ | refine Ob.e ?_ | refine Ob.m ?_ | refine Ob.mk (Nat.le_of_ble_eq_true rfl) ?_ | refine JoinVC.on ?_ | refine Nils.mk (fun h => ?_) ?_ | refine Val.t ?_ | refine Val.d ?_ | refine Mm.mk ?_ | (refine Br.mk (fun h => ?_) (fun h => ?_) <;> first | (exfalso; omega; done) | (exfalso; simp at h; done) | skip))
    · repeat refine Mm.mk ?_
      refine EndVC.mk _ rfl _ _ ⟨rfl, rfl⟩ ?_
      refine ⟨[], rfl, rfl, ?_, ?_⟩ <;> repeat' (first | exact trivial | exact rfl | exact Iff.rfl | apply And.intro)
      exact .inl h
    · repeat refine Mm.mk ?_
      refine EndVC.mk _ rfl _ _ ⟨rfl, rfl⟩ ?_
      refine ⟨[], rfl, rfl, ?_, ?_⟩ <;> repeat' (first | exact trivial | exact rfl | exact Iff.rfl | apply And.intro)
      show _ ↔ _
      exact ⟨fun h2 => .inr fun h3 => (by have := eo.1 h3; omega), fun h2 => (by
        rcases h2 with h2 | h2
        · exact absurd h2 h
        · exact Classical.byContradiction fun h3 => h2 (eo.2 (by omega)))⟩
/-- An element of an increasing set of tracks. -/
def incA (n : Nat) (S : List Int) (i : Nat) : Prop := (0 ≤ S.getD i 0 ∧ S.getD i 0 < n) ∧ (0 < i → S.getD (i - 1) 0 < S.getD i 0)
def IncS (n : Nat) (S : List Int) : Prop := ∀ j, j < S.length → incA n S j
theorem inc_lt {n : Nat} {S : List Int} (h : IncS n S) : ∀ d i, i + d + 1 < S.length → S.getD i 0 < S.getD (i + d + 1) 0
  | 0, i, hi => by
    have := (h (i + 1) hi).2 (Nat.succ_pos i)
    rw [Nat.add_sub_cancel] at this
    exact this
  | d + 1, i, hi => by
    have h1 := inc_lt h d i (by omega)
    have h2 := (h (i + (d + 1) + 1) hi).2 (Nat.succ_pos _)
    rw [Nat.add_sub_cancel] at h2
    rw [show i + (d + 1) = i + d + 1 by omega] at h2
    rw [show i + (d + 1) + 1 = i + d + 1 + 1 by omega]
    omega
theorem inc_lt' {n : Nat} {S : List Int} (h : IncS n S) {i j : Nat} (hij : i < j) (hj : j < S.length) : S.getD i 0 < S.getD j 0 := by
  have := inc_lt h (j - i - 1) i (by omega)
  rw [show i + (j - i - 1) + 1 = j by omega] at this
  exact this
theorem inc_ok {n : Nat} {S : List Int} (h : IncS n S) : OrdOK n S := ⟨fun i hi => (h i hi).1, fun i j hi hj e => by
  rcases Nat.lt_trichotomy i j with h1 | h1 | h1
  · have := inc_lt' h h1 hj; omega
  · exact h1
  · have := inc_lt' h h1 hi; omega⟩
theorem inc_ge {n : Nat} {S : List Int} (h : IncS n S) : ∀ i : Nat, i < S.length → (i : Int) ≤ S.getD i 0
  | 0, hi => (h 0 hi).1.1
  | i + 1, hi => by
    have h1 := inc_ge h i (by omega)
    have h2 := (h (i + 1) hi).2 (Nat.succ_pos i)
    rw [Nat.add_sub_cancel] at h2
    omega
theorem inc_len {n : Nat} {S : List Int} (h : IncS n S) : S.length ≤ n := Classical.byContradiction fun hc => by
  have h1 := inc_ge h n (by omega)
  have h2 := (h n (by omega)).1.2
  omega
open Classical in
/-- What is said of a set: is it a crowd? -/
noncomputable def ccE (f : Fmt) (l : List Sng) (S : List Int) : Int := if bothE f l ≠ 0 then bothE f l else if IncS l.length S ∧ 0 < S.length then (if CrowdP f l (usu l S) then 0 else 16) else 3
theorem ccE_bad {f : Fmt} {l : List Sng} {S : List Int} (h : bothE f l ≠ 0) : ccE f l S = bothE f l := if_pos h
theorem ccE_rng {f : Fmt} {l : List Sng} {S : List Int} (h : bothE f l = 0) (h2 : ¬ (IncS l.length S ∧ 0 < S.length)) : ccE f l S = 3 := (if_neg (fun h3 => h3 h)).trans (if_neg h2)
theorem ccE_yes {f : Fmt} {l : List Sng} {S : List Int} (h : bothE f l = 0) (h2 : IncS l.length S ∧ 0 < S.length) (h3 : CrowdP f l (usu l S)) : ccE f l S = 0 := ((if_neg (fun h3 => h3 h)).trans (if_pos h2)).trans (if_pos h3)
theorem ccE_no {f : Fmt} {l : List Sng} {S : List Int} (h : bothE f l = 0) (h2 : IncS l.length S ∧ 0 < S.length) (h3 : ¬ CrowdP f l (usu l S)) : ccE f l S = 16 := ((if_neg (fun h3 => h3 h)).trans (if_pos h2)).trans (if_neg h3)
theorem usu_in {l : List Sng} {n : Nat} {S : List Int} (h : OrdOK n S) : InR (usu l S) n := (usu_ord h).rng
theorem s17 (f : Fmt) (l : List Sng) (S : List Int) (hI : f.nm.size ≤ 140737488355328) (hS : S.length ≤ 1000000) : HSpec Try.prog 17 [f.x, lSng l, .one (.lst true [.int .i64] (i64s S))] [] (fun r m' => r = .x (I (ccE f l S)) ∧ m' = []) := by
  have lo := i64s_len S
  have lg := sngA_len l
  refine spec_of pMix (O := []) Try.func17 (c := bodyOf Try.f17) rfl (by kernel_rfl) (by kernel_rfl) Try.ntmps17 (res := [.tmp 6]) (by kernel_rfl) ?_
  repeat' ((conv => whnf); first | refine Rng.g ?_ | refine Ob.g ?_ | refine Ob.e ?_ | refine Ob.m ?_ | refine Ob.mk (Nat.le_of_ble_eq_true rfl) ?_ | refine JoinVC.on ?_ | refine Nils.mk (fun h => ?_) ?_ | refine Val.t ?_ | refine Val.d ?_ | refine Mm.mk ?_ | (refine Br.mk (fun h => ?_) (fun h => ?_) <;> first | (exfalso; omega; done) | (exfalso; simp at h; done) | skip))
  conv => whnf
  refine CallVC.mk [] _ _ _ rfl rfl rfl (s35 f l hI) (fun r m' h' => ?_)
  rcases h' with ⟨hn, rfl, rfl⟩ | ⟨hf, hg, rfl, rfl⟩
  · rw [ccE_bad hn]
    repeat' ((conv => whnf); first | refine Rng.g ?_ | refine Ob.g ?_ | refine Ob.e ?_ | refine Ob.m ?_ | refine Ob.mk (Nat.le_of_ble_eq_true rfl) ?_ | refine JoinVC.on ?_ | refine Nils.mk (fun h => ?_) ?_ | refine Val.t ?_ | refine Val.d ?_ | refine Mm.mk ?_ | (refine Br.mk (fun h => ?_) (fun h => ?_) <;> first | (exfalso; omega; done) | (exfalso; simp at h; done) | skip))
    repeat refine Mm.mk ?_
    refine EndVC.mk _ rfl _ _ ⟨rfl, rfl⟩ ?_
    refine ⟨[], rfl, rfl, ?_, ?_⟩ <;> repeat' (first | exact trivial | exact rfl | exact Iff.rfl | apply And.intro)
  have h24 := hg.len
  have hb := bothE_ok hf hg
  repeat' ((conv => whnf); first | refine Rng.g ?_ | refine Ob.g ?_ | refine Ob.e ?_ | refine Ob.m ?_ | refine Ob.mk (Nat.le_of_ble_eq_true rfl) ?_ | refine JoinVC.on ?_ | refine Nils.mk (fun h => ?_) ?_ | refine Val.t ?_ | refine Val.d ?_ | refine Mm.mk ?_ | (refine Br.mk (fun h => ?_) (fun h => ?_) <;> first | (exfalso; omega; done) | (exfalso; simp at h; done) | skip))
  refine LoopVC.mk (fun n st => ∃ (i : Nat) (x : Int), i ≤ S.length ∧ n = S.length - i ∧ (∀ j, j < i → incA l.length S j) ∧ (i = 0 ∧ x = -1 ∨ 0 < i ∧ x = S.getD (i - 1) 0) ∧ st = ⟨0, envA 46 [(1, .x (lSng l)), (2, .x (.one (.lst true [.int .i64] (i64s S)))), (7, .x (.one (.ptr 0 0))), (9, .int .i64 x), (21, .x (.one (.lst true [.int .i64] (i64s S)))), (22, .int .i64 (S.length : Int)), (23, .int .i64 (i : Int))], [some (bPl f l)]⟩) _ _ ⟨0, -1, Nat.zero_le _, rfl, fun j hj => absurd hj (Nat.not_lt_zero j), .inl ⟨rfl, rfl⟩, rfl⟩ ?_ ?_
  · refine ⟨[some 1], rfl, rfl, ?_, ?_⟩ <;> repeat' (first | exact trivial | exact rfl | exact Iff.rfl | apply And.intro)
    all_goals exact congrArg Int.ofNat lo
  rintro n _ ⟨i, x, hi, hn, hj, hx, rfl⟩
  have gi : rI (i64s S) (i : Int).toNat 0 = S.getD i 0 := by rw [Int.toNat_natCast]; exact i64s_get S i
  by_cases hi' : i < S.length
  · by_cases ha : incA l.length S i
    · have hlt : x < S.getD i 0 := by
        rcases hx with ⟨rfl, rfl⟩ | ⟨h1, rfl⟩
        · have := ha.1; omega
        · exact ha.2 h1
      have hr := ha.1
      repeat' ((conv => whnf); first | rw [gi] | refine Rng.g ?_ | refine Ob.g ?_ | refine Ob.e ?_ | refine Ob.m ?_ | refine Ob.mk (Nat.le_of_ble_eq_true rfl) ?_ | refine JoinVC.on ?_ | refine Nils.mk (fun h => ?_) ?_ | refine Val.t ?_ | refine Val.d ?_ | refine Mm.mk ?_ | (refine Br.mk (fun h => ?_) (fun h => ?_) <;> first | (exfalso; omega; done) | (exfalso; simp at h; done) | skip))
      refine Back.mk (S.length - (i + 1)) _ (by omega) ⟨i + 1, _, by omega, rfl, fun j hj' => ?_, .inr ⟨by omega, rfl⟩, rfl⟩ ?_
      · rcases Nat.lt_succ_iff_lt_or_eq.1 hj' with h' | rfl
        · exact hj j h'
        · exact ha
      · refine ⟨[some 0], rfl, rfl, ?_, ?_⟩ <;> repeat' (first | exact trivial | exact rfl | exact Iff.rfl | apply And.intro)
    · have hno : S.getD i 0 ≤ x ∨ (l.length : Int) ≤ S.getD i 0 := Classical.byContradiction fun hc => ha ⟨⟨by
          rcases hx with ⟨rfl, rfl⟩ | ⟨h1, rfl⟩
          · omega
          · have := (hj (i - 1) (by omega)).1; omega, by omega⟩, fun h1 => by
          rcases hx with ⟨rfl, rfl⟩ | ⟨_, rfl⟩
          · omega
          · omega⟩
      have he : ccE f l S = 3 := ccE_rng hb fun h => ha (h.1 i hi')
      rw [he]
      repeat' ((conv => whnf); first | rw [gi] | refine Rng.g ?_ | refine Ob.g ?_ | refine Ob.e ?_ | refine Ob.m ?_ | refine Ob.mk (Nat.le_of_ble_eq_true rfl) ?_ | refine JoinVC.on ?_ | refine Nils.mk (fun h => ?_) ?_ | refine Val.t ?_ | refine Val.d ?_ | refine Mm.mk ?_ | (refine Br.mk (fun h => ?_) (fun h => ?_) <;> first | (exfalso; omega; done) | (exfalso; simp at h; done) | skip))
      all_goals
        repeat refine Mm.mk ?_
        refine EndVC.mk _ rfl _ _ ⟨rfl, rfl⟩ ?_
        refine ⟨[], rfl, rfl, ?_, ?_⟩ <;> repeat' (first | exact trivial | exact rfl | exact Iff.rfl | apply And.intro)
  have ei : i = S.length := by omega
  subst ei
  by_cases h0 : S.length = 0
  · have he : ccE f l S = 3 := ccE_rng hb fun h => by omega
    rw [he]
    have hx0 : x = -1 := by
      rcases hx with ⟨_, h⟩ | ⟨h, _⟩
      · exact h
      · omega
    subst hx0
    repeat' ((conv => whnf); first | refine Rng.g ?_ | refine Ob.g ?_ | refine Ob.e ?_ | refine Ob.m ?_ | refine Ob.mk (Nat.le_of_ble_eq_true rfl) ?_ | refine JoinVC.on ?_ | refine Nils.mk (fun h => ?_) ?_ | refine Val.t ?_ | refine Val.d ?_ | refine Mm.mk ?_ | (refine Br.mk (fun h => ?_) (fun h => ?_) <;> first | (exfalso; omega; done) | (exfalso; simp at h; done) | skip))
    repeat refine Mm.mk ?_
    refine EndVC.mk _ rfl _ _ ⟨rfl, rfl⟩ ?_
    refine ⟨[], rfl, rfl, ?_, ?_⟩ <;> repeat' (first | exact trivial | exact rfl | exact Iff.rfl | apply And.intro)
  have hx0 : 0 ≤ x := by
    rcases hx with ⟨h, _⟩ | ⟨h, rfl⟩
    · omega
    · exact (hj _ (by omega)).1.1
  have hO := inc_ok hj
  have hl := inc_len hj
  have hul := usu_len l S
  repeat' ((conv => whnf); first | refine Rng.g ?_ | refine Ob.g ?_ | refine Ob.e ?_ | refine Ob.m ?_ | refine Ob.mk (Nat.le_of_ble_eq_true rfl) ?_ | refine JoinVC.on ?_ | refine Nils.mk (fun h => ?_) ?_ | refine Val.t ?_ | refine Val.d ?_ | refine Mm.mk ?_ | (refine Br.mk (fun h => ?_) (fun h => ?_) <;> first | (exfalso; omega; done) | (exfalso; simp at h; done) | skip))
  conv => whnf
  refine CallVC.mk [0] _ _ _ rfl rfl rfl (s45l f l S hO (by omega)) (fun r m' h' => ?_)
  obtain ⟨rfl, rfl⟩ := h'
  conv => whnf
  repeat' ((conv => whnf); first | refine Rng.g ?_ | refine Ob.g ?_ | refine Ob.e ?_ | refine Ob.m ?_ | refine Ob.mk (Nat.le_of_ble_eq_true rfl) ?_ | refine JoinVC.on ?_ | refine Nils.mk (fun h => ?_) ?_ | refine Val.t ?_ | refine Val.d ?_ | refine Mm.mk ?_ | (refine Br.mk (fun h => ?_) (fun h => ?_) <;> first | (exfalso; omega; done) | (exfalso; simp at h; done) | skip))
  conv => whnf
  refine CallVC.mk [0] _ _ _ rfl rfl rfl (s44 f l (usu l S) hf hg (usu_in hO) (by omega) (by omega)) (fun r m' h' => ?_)
  obtain ⟨rfl, rfl⟩ := h'
  conv => whnf
  by_cases hc : CrowdP f l (usu l S)
  · rw [ccE_yes hb ⟨hj, by omega⟩ hc]
    repeat' ((conv => whnf); first | refine Rng.g ?_ | refine Ob.g ?_ | refine Ob.e ?_ | refine Ob.m ?_ | refine Ob.mk (Nat.le_of_ble_eq_true rfl) ?_ | refine JoinVC.on ?_ | refine Nils.mk (fun h => ?_) ?_ | refine Val.t ?_ | refine Val.d ?_ | refine Mm.mk ?_ | (refine Br.mk (fun h => ?_) (fun h => ?_) <;> first | (exfalso; omega; done) | (exfalso; simp at h; done) | skip))
    all_goals first | (exfalso; contradiction) | skip
    repeat refine Mm.mk ?_
    refine EndVC.mk _ rfl _ _ ⟨rfl, rfl⟩ ?_
    refine ⟨[], rfl, rfl, ?_, ?_⟩ <;> repeat' (first | exact trivial | exact rfl | exact Iff.rfl | apply And.intro)
  · rw [ccE_no hb ⟨hj, by omega⟩ hc]
    repeat' ((conv => whnf); first | refine Rng.g ?_ | refine Ob.g ?_ | refine Ob.e ?_ | refine Ob.m ?_ | refine Ob.mk (Nat.le_of_ble_eq_true rfl) ?_ | refine JoinVC.on ?_ | refine Nils.mk (fun h => ?_) ?_ | refine Val.t ?_ | refine Val.d ?_ | refine Mm.mk ?_ | (refine Br.mk (fun h => ?_) (fun h => ?_) <;> first | (exfalso; omega; done) | (exfalso; simp at h; done) | skip))
    all_goals first | (exfalso; contradiction) | skip
    repeat refine Mm.mk ?_
    refine EndVC.mk _ rfl _ _ ⟨rfl, rfl⟩ ?_
    refine ⟨[], rfl, rfl, ?_, ?_⟩ <;> repeat' (first | exact trivial | exact rfl | exact Iff.rfl | apply And.intro)
end Go.Sx

namespace Go.Sx
open Go Go.Proofs
set_option maxRecDepth 10000
set_option maxHeartbeats 16000000
/-! ### Sorted numbers -/
theorem usB0 {x y : Int} : usB [] x y = true ↔ x < y := by
  rw [usB_iff]
  have h : ∀ z, lsF [] z = 0 := fun z => rfl
  rw [h, h]
  omega
theorem ext_take (d : Array Int) (n : Nat) : (d.extract 0 n).toList = d.toList.take n := by
  simp [Array.toList_extract]
/-- What is sorted at the first places has them in increasing order. -/
theorem srt_take {O : List Int} {W : Array Int} {n : Nat} (hO : O.Nodup) (hn : n ≤ O.length) (h1 : Go.Sort.PermIn 0 n O.toArray W) (h2 : Go.Sort.SortedIn Go.Sort.ltInt 0 n W) : W.toList.take n = usu [] (O.take n) := by
  have hs : W.size = O.length := by have := h1.1; simpa using this
  have hp : (W.toList.take n).Perm (O.take n) := by
    have := h1.2.2
    rw [ext_take, ext_take] at this
    exact this
  have hn1 : (O.take n).Nodup := hO.sublist (List.take_sublist _ _)
  refine usu_uniq hn1 ?_ hp
  have hn2 : (W.toList.take n).Nodup := hp.nodup_iff.2 hn1
  unfold SrtU
  rw [List.pairwise_iff_getElem]
  intro i j hi hj hij
  have hi2 := hi
  have hj2 := hj
  rw [List.length_take, Array.length_toList] at hi2 hj2
  have e1 : (W.toList.take n)[i] = W[i]! := by rw [← arr_getD, List.getD_eq_getElem?_getD, List.getElem_take, List.getElem?_eq_getElem (by rw [Array.length_toList]; omega)]; rfl
  have e2 : (W.toList.take n)[j] = W[j]! := by rw [← arr_getD, List.getD_eq_getElem?_getD, List.getElem_take, List.getElem?_eq_getElem (by rw [Array.length_toList]; omega)]; rfl
  have h3 := h2 i j (Nat.zero_le _) hij (by omega)
  have hne : W[i]! ≠ W[j]! := fun e => by
    have := (List.getElem_inj hn2 (h₀ := hi) (h₁ := hj)).1 (by rw [e1, e2, e])
    omega
  rw [e1, e2, usB0]
  have h4 := int_no (x := W[j]!) (y := W[i]!) (by rw [h3]; exact Bool.false_ne_true)
  omega
theorem IdxOK.nodup' {O : List Int} {n : Nat} (h : IdxOK O n) : O.Nodup := at_nodup fun i j hi hj e => h.inj i j (by have := h.len; omega) (by have := h.len; omega) e
/-- The first crowd. -/
inductive CwRs (f : Fmt) (l : List Sng) (r : AV) (m' : List (Option Blk)) : Prop
  | bad (h : bothE f l ≠ 0) (hr : r = .tup [.one .nils, I (bothE f l)]) (hm : m' = [])
  | none (hf : FmtOK f) (hg : SngsOK l) (h : LayOK f l (allO l) ∨ l.length = 0) (hr : r = .tup [.one .nils, I 5]) (hm : m' = [])
  | some (hf : FmtOK f) (hg : SngsOK l) (hL : ¬ LayOK f l (allO l)) (k : Nat) (hk : k < l.length) (hn : ∀ j, j < k → ¬ CrowdP f l ((allO l).take (j + 1))) (h : CrowdP f l ((allO l).take (k + 1))) (hr : r = .tup [.one (.lst false [.int .i64] (i64s (usu [] ((allO l).take (k + 1))))), I 0]) (hm : m' = [])
theorem take_in {O : List Int} {m : Nat} (h : InR O m) (k : Nat) : InR (O.take k) m := fun i hi => by
  rw [List.length_take] at hi
  have := h i (by omega)
  rw [List.getD_eq_getElem?_getD, List.getElem?_take_of_lt (by omega), ← List.getD_eq_getElem?_getD]
  exact this
theorem s29 (f : Fmt) (l : List Sng) (hI : f.nm.size ≤ 140737488355328) : HSpec Try.prog 29 [f.x, lSng l] [] (CwRs f l) := by
  refine spec_of pMix (O := []) Try.func29 (c := bodyOf Try.f29) rfl (by kernel_rfl) (by kernel_rfl) Try.ntmps29 (res := [.tmp 4, .tmp 5]) (by kernel_rfl) ?_
  repeat' ((conv => whnf); first | refine Rng.g ?_ | refine Ob.g ?_ | refine Ob.e ?_ | refine Ob.m ?_ | refine Ob.mk (Nat.le_of_ble_eq_true rfl) ?_ | refine JoinVC.on ?_ | refine Nils.mk (fun h => ?_) ?_ | refine Val.t ?_ | refine Val.d ?_ | refine Mm.mk ?_ | (refine Br.mk (fun h => ?_) (fun h => ?_) <;> first | (exfalso; omega; done) | (exfalso; simp at h; done) | skip))
  conv => whnf
  refine CallVC.mk [] _ _ _ rfl rfl rfl (s35 f l hI) (fun r m' h' => ?_)
  rcases h' with ⟨hn, rfl, rfl⟩ | ⟨hf, hg, rfl, rfl⟩
  · repeat' ((conv => whnf); first | refine Rng.g ?_ | refine Ob.g ?_ | refine Ob.e ?_ | refine Ob.m ?_ | refine Ob.mk (Nat.le_of_ble_eq_true rfl) ?_ | refine JoinVC.on ?_ | refine Nils.mk (fun h => ?_) ?_ | refine Val.t ?_ | refine Val.d ?_ | refine Mm.mk ?_ | (refine Br.mk (fun h => ?_) (fun h => ?_) <;> first | (exfalso; omega; done) | (exfalso; simp at h; done) | skip))
    repeat refine Mm.mk ?_
    conv => whnf
    refine EndVC.mk _ rfl _ _ (.bad hn rfl rfl) ?_
    refine ⟨[], rfl, rfl, ?_, ?_⟩ <;> repeat' (first | exact trivial | exact rfl | exact Iff.rfl | apply And.intro)
  have h24 := hg.len
  have hal := (allO_idx l).len
  have lal := i64s_len (allO l)
  have hin := allO_in l
  repeat' ((conv => whnf); first | refine Rng.g ?_ | refine Ob.g ?_ | refine Ob.e ?_ | refine Ob.m ?_ | refine Ob.mk (Nat.le_of_ble_eq_true rfl) ?_ | refine JoinVC.on ?_ | refine Nils.mk (fun h => ?_) ?_ | refine Val.t ?_ | refine Val.d ?_ | refine Mm.mk ?_ | (refine Br.mk (fun h => ?_) (fun h => ?_) <;> first | (exfalso; omega; done) | (exfalso; simp at h; done) | skip))
  conv => whnf
  refine CallVC.mk [1] _ _ _ rfl rfl rfl (s46w f l h24) (fun r m' h' => ?_)
  obtain ⟨rfl, rfl⟩ := h'
  conv => whnf
  repeat' ((conv => whnf); first | refine Rng.g ?_ | refine Ob.g ?_ | refine Ob.e ?_ | refine Ob.m ?_ | refine Ob.mk (Nat.le_of_ble_eq_true rfl) ?_ | refine JoinVC.on ?_ | refine Nils.mk (fun h => ?_) ?_ | refine Val.t ?_ | refine Val.d ?_ | refine Mm.mk ?_ | (refine Br.mk (fun h => ?_) (fun h => ?_) <;> first | (exfalso; omega; done) | (exfalso; simp at h; done) | skip))
  conv => whnf
  refine CallVC.mk [] _ _ _ rfl rfl rfl (s47p f l (allO l) hf hg hin (by omega)) (fun r m' h' => ?_)
  obtain ⟨rfl, rfl⟩ := h'
  conv => whnf
  repeat refine Mm.mk ?_
  try refine JoinVC.on ?_
  refine Br.mk (fun hL => ?_) (fun hL => ?_)
  · repeat' ((conv => whnf); first | refine Rng.g ?_ | refine Ob.g ?_ | refine Ob.e ?_ | refine Ob.m ?_ | refine Ob.mk (Nat.le_of_ble_eq_true rfl) ?_ | refine JoinVC.on ?_ | refine Nils.mk (fun h => ?_) ?_ | refine Val.t ?_ | refine Val.d ?_ | refine Mm.mk ?_ | (refine Br.mk (fun h => ?_) (fun h => ?_) <;> first | (exfalso; omega; done) | (exfalso; simp at h; done) | skip))
    repeat refine Mm.mk ?_
    conv => whnf
    refine EndVC.mk _ rfl _ _ (.none hf hg (.inl hL) rfl rfl) ?_
    refine ⟨[], rfl, rfl, ?_, ?_⟩ <;> repeat' (first | exact trivial | exact rfl | exact Iff.rfl | apply And.intro)
  repeat' ((conv => whnf); first | refine Rng.g ?_ | refine Ob.g ?_ | refine Ob.e ?_ | refine Ob.m ?_ | refine Ob.mk (Nat.le_of_ble_eq_true rfl) ?_ | refine JoinVC.on ?_ | refine Nils.mk (fun h => ?_) ?_ | refine Val.t ?_ | refine Val.d ?_ | refine Mm.mk ?_ | (refine Br.mk (fun h => ?_) (fun h => ?_) <;> first | (exfalso; omega; done) | (exfalso; simp at h; done) | skip))
  refine LoopVC.mk (fun n st => ∃ (k : Nat), k ≤ l.length ∧ n = l.length - k ∧ (∀ j, j < k → ¬ CrowdP f l ((allO l).take (j + 1))) ∧ st = ⟨0, envA 47 [(6, .x (.one (.ptr 0 0))), (8, .x (.one (.own 1))), (25, .int .i64 (l.length : Int)), (26, .int .i64 (k : Int))], [some (bPl f l), some (rowOd (allO l))]⟩) _ _ ⟨0, Nat.zero_le _, rfl, fun j hj => absurd hj (Nat.not_lt_zero j), rfl⟩ ?_ ?_
  · refine ⟨[some 1, some 2], rfl, rfl, ?_, ?_⟩ <;> repeat' (first | exact trivial | exact rfl | exact Iff.rfl | apply And.intro)
    rw [lal, hal]
  rintro n _ ⟨k, hk, hn, hno, rfl⟩
  by_cases hk' : k < l.length
  rotate_left
  · have ek : k = l.length := by omega
    subst ek
    have h0 : l.length = 0 := Classical.byContradiction fun hc => by
      obtain ⟨j, h1, h2⟩ := crowd_some (f := f) (l := l) (O := allO l) (by omega) hL
      exact hno j (by omega) h2
    repeat' ((conv => whnf); first | refine Rng.g ?_ | refine Ob.g ?_ | refine Ob.e ?_ | refine Ob.m ?_ | refine Ob.mk (Nat.le_of_ble_eq_true rfl) ?_ | refine JoinVC.on ?_ | refine Nils.mk (fun h => ?_) ?_ | refine Val.t ?_ | refine Val.d ?_ | refine Mm.mk ?_ | (refine Br.mk (fun h => ?_) (fun h => ?_) <;> first | (exfalso; omega; done) | (exfalso; simp at h; done) | skip))
    repeat refine Mm.mk ?_
    conv => whnf
    refine EndVC.mk _ rfl _ _ (.none hf hg (.inr h0) rfl rfl) ?_
    refine ⟨[], rfl, rfl, ?_, ?_⟩ <;> repeat' (first | exact trivial | exact rfl | exact Iff.rfl | apply And.intro)
  have et : ((k : Int) + 1).toNat = k + 1 := by omega
  have lt : ((allO l).take (k + 1)).length = k + 1 := by rw [List.length_take]; omega
  have c44 : HSpec Try.prog 44 [plX f l, .one (.lst true [.int .i64] ((i64s (allO l)).take ((k : Int) + 1).toNat))] [] (fun r m' => r = @xP (CrowdP f l ((allO l).take (k + 1))) (Classical.propDecidable _) ∧ m' = []) := by
    rw [et, i64s_take]
    exact s44p f l ((allO l).take (k + 1)) hf hg (take_in hin _) (by omega) (by omega)
  repeat' ((conv => whnf); first | refine Rng.g ?_ | refine Ob.g ?_ | refine Ob.e ?_ | refine Ob.m ?_ | refine Ob.mk (Nat.le_of_ble_eq_true rfl) ?_ | refine JoinVC.on ?_ | refine Nils.mk (fun h => ?_) ?_ | refine Val.t ?_ | refine Val.d ?_ | refine Mm.mk ?_ | (refine Br.mk (fun h => ?_) (fun h => ?_) <;> first | (exfalso; omega; done) | (exfalso; simp at h; done) | skip))
  conv => whnf
  refine CallVC.mk [] _ _ _ rfl rfl rfl (c44) (fun r m' h' => ?_)
  obtain ⟨rfl, rfl⟩ := h'
  conv => whnf
  repeat refine Mm.mk ?_
  try refine JoinVC.on ?_
  refine Br.mk (fun hc => ?_) (fun hc => ?_)
  rotate_left
  · repeat' ((conv => whnf); first | refine Rng.g ?_ | refine Ob.g ?_ | refine Ob.e ?_ | refine Ob.m ?_ | refine Ob.mk (Nat.le_of_ble_eq_true rfl) ?_ | refine JoinVC.on ?_ | refine Nils.mk (fun h => ?_) ?_ | refine Val.t ?_ | refine Val.d ?_ | refine Mm.mk ?_ | (refine Br.mk (fun h => ?_) (fun h => ?_) <;> first | (exfalso; omega; done) | (exfalso; simp at h; done) | skip))
    refine Back.mk (l.length - (k + 1)) _ (by omega) ⟨k + 1, by omega, rfl, fun j hj => ?_, rfl⟩ ?_
    · rcases Nat.lt_succ_iff_lt_or_eq.1 hj with h' | rfl
      · exact hno j h'
      · exact hc
    · refine ⟨[some 0, some 1], rfl, rfl, ?_, ?_⟩ <;> repeat' (first | exact trivial | exact rfl | exact Iff.rfl | apply And.intro)
  have c63 := s63 true (allO l).toArray ((k : Int) + 1).toNat (by simp; omega) (by simp; omega)
  repeat' ((conv => whnf); first | refine Rng.g ?_ | refine Ob.g ?_ | refine Ob.e ?_ | refine Ob.m ?_ | refine Ob.mk (Nat.le_of_ble_eq_true rfl) ?_ | refine JoinVC.on ?_ | refine Nils.mk (fun h => ?_) ?_ | refine Val.t ?_ | refine Val.d ?_ | refine Mm.mk ?_ | (refine Br.mk (fun h => ?_) (fun h => ?_) <;> first | (exfalso; omega; done) | (exfalso; simp at h; done) | skip))
  conv => whnf
  refine CallVC.mk [1] _ _ _ rfl rfl rfl (c63) (fun r m' h' => ?_)
  obtain ⟨W, h1, h2, rfl, rfl⟩ := h'
  conv => whnf
  rw [et] at h1 h2
  have hW := srt_take (allO_idx l).nodup' (by omega) h1 h2
  have hs : W.size = (allO l).length := by have := h1.1; simpa using this
  have la := arr_len W
  repeat' ((conv => whnf); first | refine Rng.g ?_ | refine Ob.g ?_ | refine Ob.e ?_ | refine Ob.m ?_ | refine Ob.mk (Nat.le_of_ble_eq_true rfl) ?_ | refine JoinVC.on ?_ | refine Nils.mk (fun h => ?_) ?_ | refine Val.t ?_ | refine Val.d ?_ | refine Mm.mk ?_ | (refine Br.mk (fun h => ?_) (fun h => ?_) <;> first | (exfalso; omega; done) | (exfalso; simp at h; done) | skip))
  repeat refine Mm.mk ?_
  conv => whnf
  refine EndVC.mk _ rfl _ _ (.some hf hg hL k hk' hno hc rfl rfl) ?_
  refine ⟨[], rfl, rfl, ?_, ?_⟩ <;> repeat' (first | exact trivial | exact rfl | exact Iff.rfl | apply And.intro)
  rw [et, i64s_take, hW]
end Go.Sx

namespace Go.Sx
open Go Go.Proofs
set_option maxRecDepth 10000
set_option maxHeartbeats 4000000
/-! ### Packings: plain laws -/
/-- The tracks of a side, by increasing indexes. -/
def onL (P : List Int) (k : Int) : List Int := ((List.range P.length).filter fun j => decide (P.getD j 0 = k)).map fun j : Nat => (j : Int)
theorem OrdOK.up {n m : Nat} {O : List Int} (h : OrdOK n O) (hm : n ≤ m) : OrdOK m O := ⟨fun i hi => by have := h.rng i hi; omega, h.inj⟩
/-- Have the tracks of a side a possible order? -/
def sideOK (f : Fmt) (l : List Sng) (P : List Int) (k : Int) : Prop := LayOK f l (usu l (onL P k))
/-- A possible packing. -/
structure Packd (f : Fmt) (l : List Sng) (P : List Int) (sides : Nat) : Prop where
  num : ∀ i, i < P.length → 0 ≤ P.getD i 0 ∧ P.getD i 0 < sides
  nxt : ∀ i, i < P.length → ∀ v : Nat, (v : Int) < P.getD i 0 → ∃ j, j < i ∧ P.getD j 0 = v
  all : ∀ v : Nat, v < sides → ∃ j, j < P.length ∧ P.getD j 0 = v
  len : P.length = l.length
  ok : ∀ k : Nat, k < sides → sideOK f l P k
end Go.Sx

namespace Go.Sx
open Go Go.Proofs
set_option maxRecDepth 10000
set_option maxHeartbeats 8000000
/-! ### Sets of tracks as bits -/
end Go.Sx

namespace Go.Sx
open Go Go.Proofs
set_option maxRecDepth 10000
set_option maxHeartbeats 16000000
/-! ### The search for a packing -/
end Go.Sx

namespace Go.Sx
open Go Go.Proofs
set_option maxRecDepth 10000
set_option maxHeartbeats 16000000
end Go.Sx

namespace Go.Sx
open Go Go.Proofs
set_option maxRecDepth 10000
set_option maxHeartbeats 16000000
end Go.Sx

namespace Go.Sx
open Go Go.Proofs
set_option maxRecDepth 10000
set_option maxHeartbeats 16000000
/-! ### The usual order, by insertion from the end -/
end Go.Sx

namespace Go.Sx
open Go Go.Proofs
set_option maxRecDepth 10000
set_option maxHeartbeats 16000000
end Go.Sx

namespace Go.Sx
open Go Go.Proofs
set_option maxRecDepth 10000
set_option maxHeartbeats 16000000
/-- The first so many sides are numbered as they are first used. -/
structure NumN (P : List Int) (i used sides : Nat) : Prop where
  rng : ∀ j, j < i → 0 ≤ P.getD j 0 ∧ P.getD j 0 < used ∧ P.getD j 0 < sides
  nxt : ∀ j, j < i → ∀ v : Nat, (v : Int) < P.getD j 0 → ∃ p, p < j ∧ P.getD p 0 = v
  all : ∀ v : Nat, v < used → ∃ j, j < i ∧ P.getD j 0 = v
theorem NumN.no {f : Fmt} {l : List Sng} {P : List Int} {i used sides : Nat} (h : NumN P i used sides) (hi : i < P.length) (hb : (P.getD i 0 < 0 ∨ (used : Int) < P.getD i 0) ∨ (sides : Int) ≤ P.getD i 0) : ¬ Packd f l P sides := fun hp => by
  have h1 := hp.num i hi
  rcases hb with (hb | hb) | hb
  · omega
  · obtain ⟨j, h2, h3⟩ := hp.nxt i hi used hb
    have := (h.rng j h2).2.1
    omega
  · omega
theorem NumN.same {P : List Int} {i used sides : Nat} (h : NumN P i used sides) (h0 : 0 ≤ P.getD i 0) (h1 : P.getD i 0 < used) (h2 : P.getD i 0 < sides) : NumN P (i + 1) used sides where
  rng := fun j hj => by
    rcases Nat.lt_succ_iff_lt_or_eq.1 hj with h' | rfl
    · exact h.rng j h'
    · exact ⟨h0, h1, h2⟩
  nxt := fun j hj v hv => by
    rcases Nat.lt_succ_iff_lt_or_eq.1 hj with h' | rfl
    · exact h.nxt j h' v hv
    · exact h.all v (by omega)
  all := fun v hv => by
    obtain ⟨j, h3, h4⟩ := h.all v hv
    exact ⟨j, by omega, h4⟩
end Go.Sx

namespace Go.Sx
open Go Go.Proofs
set_option maxRecDepth 10000
set_option maxHeartbeats 16000000
/-! ### The document's answers -/
/-! ### The document's sort -/
end Go.Sx

namespace Go.Sx
open Go Go.Proofs
set_option maxRecDepth 10000
set_option maxHeartbeats 16000000
/-! ### The document's search for a packing -/
end Go.Sx

namespace Go.Sx
open Go Go.Proofs
set_option maxRecDepth 10000
set_option maxHeartbeats 16000000
theorem e24 : EntersF Try.prog 24 := enters_of Try.func24 (c := bodyOf Try.f24) (by kernel_rfl) rfl
/-! ### The least number of sides by width -/
end Go.Sx

namespace Go.Sx
open Go Go.Proofs
set_option maxRecDepth 10000
set_option maxHeartbeats 16000000
/-- What is said of no list is said of nil. -/
theorem HSpec.nils {P : Program} {f : FuncId} {pre post : List XV} {m : List Blk} {Rs : AV → List (Option Blk) → Prop} {b : Bool} {ks : List CK} (h : HSpec P f (pre ++ .one (.lst b ks []) :: post) m Rs) : HSpec P f (pre ++ .one .nils :: post) m Rs := fun w R vs hv hm => by
  refine h w R vs ⟨by rw [hv.1]; simp, fun j x hx => ?_⟩ hm
  by_cases e : j = pre.length
  · subst e
    have h1 := hv.2 pre.length (.one .nils) (by simp)
    have h2 : x = .one (.lst b ks []) := by simpa using hx.symm
    subst h2
    have h3 : vs.getD pre.length undef = .slice none 0 0 := h1
    rw [h3]
    exact RepC.sl ks [] none 0 (fun _ _ => undef) (Nat.le_refl _) (fun r hr => absurd hr (by simp)) (fun hr => absurd rfl hr) (fun i r f c k hr => absurd hr (by simp))
  · refine hv.2 j x ?_
    rw [List.getElem?_append] at hx ⊢
    split
    · rename_i hj
      rw [if_pos hj] at hx
      exact hx
    · rename_i hj
      rw [if_neg hj] at hx
      obtain ⟨d, hd⟩ : ∃ d, j - pre.length = d + 1 := ⟨j - pre.length - 1, by omega⟩
      rw [hd] at hx ⊢
      exact hx
end Go.Sx

namespace Go.Sx
open Go Go.Proofs
set_option maxRecDepth 10000
set_option maxHeartbeats 16000000
end Go.Sx

namespace Go.Sx
open Go Go.Proofs
set_option maxRecDepth 10000
set_option maxHeartbeats 16000000
/-- The answer about an order of all tracks. -/
inductive ArRl (f : Fmt) (l : List Sng) (r : AV) (m' : List (Option Blk)) : Prop
  | bad (h : bothE f l ≠ 0) (hr : r = .tup [.one .nils, I (bothE f l)]) (hm : m' = [])
  | none (hf : FmtOK f) (hg : SngsOK l) (hn : ¬ LayOK f l (allO l)) (hr : r = .tup [.one .nils, I 15]) (hm : m' = [])
  | ok (hf : FmtOK f) (hg : SngsOK l) (h : LayOK f l (allO l)) (hr : r = .tup [.one (.lst false [.int .i64] (i64s (allO l))), I 0]) (hm : m' = [])
theorem s18l (f : Fmt) (l : List Sng) (hI : f.nm.size ≤ 140737488355328) : HSpec Try.prog 18 [f.x, lSng l] [] (ArRl f l) := by
  refine spec_of pMix (O := []) Try.func18 (c := bodyOf Try.f18) rfl (by kernel_rfl) (by kernel_rfl) Try.ntmps18 (res := [.tmp 4, .tmp 5]) (by kernel_rfl) ?_
  repeat' ((conv => whnf); first | refine Rng.g ?_ | refine Ob.g ?_ | refine Ob.e ?_ | refine Ob.m ?_ | refine Ob.mk (Nat.le_of_ble_eq_true rfl) ?_ | refine JoinVC.on ?_ | refine Nils.mk (fun h => ?_) ?_ | refine Val.t ?_ | refine Val.d ?_ | refine Mm.mk ?_ | (refine Br.mk (fun h => ?_) (fun h => ?_) <;> first | (exfalso; omega; done) | (exfalso; simp at h; done) | skip))
  conv => whnf
  refine CallVC.mk [] _ _ _ rfl rfl rfl (s35 f l hI) (fun r m' h' => ?_)
  rcases h' with ⟨hn, rfl, rfl⟩ | ⟨hf, hg, rfl, rfl⟩
  · repeat' ((conv => whnf); first | refine Rng.g ?_ | refine Ob.g ?_ | refine Ob.e ?_ | refine Ob.m ?_ | refine Ob.mk (Nat.le_of_ble_eq_true rfl) ?_ | refine JoinVC.on ?_ | refine Nils.mk (fun h => ?_) ?_ | refine Val.t ?_ | refine Val.d ?_ | refine Mm.mk ?_ | (refine Br.mk (fun h => ?_) (fun h => ?_) <;> first | (exfalso; omega; done) | (exfalso; simp at h; done) | skip))
    repeat refine Mm.mk ?_
    conv => whnf
    refine EndVC.mk _ rfl _ _ (.bad hn rfl rfl) ?_
    refine ⟨[], rfl, rfl, ?_, ?_⟩ <;> repeat' (first | exact trivial | exact rfl | exact Iff.rfl | apply And.intro)
  · have h24 := hg.len
    repeat' ((conv => whnf); first | refine Rng.g ?_ | refine Ob.g ?_ | refine Ob.e ?_ | refine Ob.m ?_ | refine Ob.mk (Nat.le_of_ble_eq_true rfl) ?_ | refine JoinVC.on ?_ | refine Nils.mk (fun h => ?_) ?_ | refine Val.t ?_ | refine Val.d ?_ | refine Mm.mk ?_ | (refine Br.mk (fun h => ?_) (fun h => ?_) <;> first | (exfalso; omega; done) | (exfalso; simp at h; done) | skip))
    conv => whnf
    refine CallVC.mk [1] _ _ _ rfl rfl rfl (s46w f l h24) (fun r m' h' => ?_)
    obtain ⟨rfl, rfl⟩ := h'
    conv => whnf
    repeat' ((conv => whnf); first | refine Rng.g ?_ | refine Ob.g ?_ | refine Ob.e ?_ | refine Ob.m ?_ | refine Ob.mk (Nat.le_of_ble_eq_true rfl) ?_ | refine JoinVC.on ?_ | refine Nils.mk (fun h => ?_) ?_ | refine Val.t ?_ | refine Val.d ?_ | refine Mm.mk ?_ | (refine Br.mk (fun h => ?_) (fun h => ?_) <;> first | (exfalso; omega; done) | (exfalso; simp at h; done) | skip))
    conv => whnf
    refine CallVC.mk [1] _ _ _ rfl rfl rfl (s47 f l (allO l) hf hg (allO_in l) (by rw [(allO_idx l).len]; omega)) (fun r m' h' => ?_)
    obtain ⟨rfl, rfl⟩ := h'
    conv => whnf
    repeat' ((conv => whnf); first | refine Rng.g ?_ | refine Ob.g ?_ | refine Ob.e ?_ | refine Ob.m ?_ | refine Ob.mk (Nat.le_of_ble_eq_true rfl) ?_ | refine JoinVC.on ?_ | refine Nils.mk (fun h => ?_) ?_ | refine Val.t ?_ | refine Val.d ?_ | refine Mm.mk ?_ | (refine Br.mk (fun h => ?_) (fun h => ?_) <;> first | (exfalso; omega; done) | (exfalso; simp at h; done) | skip))
    · repeat refine Mm.mk ?_
      conv => whnf
      refine EndVC.mk _ rfl _ _ (.ok hf hg h rfl rfl) ?_
      refine ⟨[], rfl, rfl, ?_, ?_⟩ <;> repeat' (first | exact trivial | exact rfl | exact Iff.rfl | apply And.intro)
    · repeat refine Mm.mk ?_
      conv => whnf
      refine EndVC.mk _ rfl _ _ (.none hf hg h rfl rfl) ?_
      refine ⟨[], rfl, rfl, ?_, ?_⟩ <;> repeat' (first | exact trivial | exact rfl | exact Iff.rfl | apply And.intro)
end Go.Sx

namespace Go.Sx
open Go Go.Proofs
set_option maxRecDepth 10000
set_option maxHeartbeats 16000000
theorem e10 : EntersF Try.prog 10 := enters_of Try.func10 (c := bodyOf Try.f10) (by kernel_rfl) rfl
/-! ### If any order is possible, the usual one is -/
theorem any_usual {f : Fmt} {l : List Sng} (hf : FmtOK f) (hg : SngsOK l) {P : List Int} (hP : OrdOK l.length P) (hall : ∀ x : Int, 0 ≤ x ∧ x < l.length → x ∈ P) (h : LayOK f l P) : LayOK f l (allO l) := by
  rw [allO_usu]
  refine usu_lay hf hg (span_ok l.length).nodup (fun x hx => hall x ((span_ok l.length).mem x hx)) hP.mem h
theorem usu_back {l : List Sng} {k : Nat} : usu l (usu [] ((allO l).take k)) = (allO l).take k := by
  have hn : ((allO l).take k).Nodup := (allO_idx l).nodup'.sublist (List.take_sublist _ _)
  refine (usu_uniq (usu_nodup hn) ?_ (usu_perm [] _).symm).symm
  have hs : SrtU l (allO l) := by rw [allO_usu]; exact usu_srt (span_ok l.length).nodup
  exact List.Pairwise.sublist (List.take_sublist _ _) hs
theorem inc_of_pw {n : Nat} {S : List Int} (h : S.Pairwise (· < ·)) (hO : OrdOK n S) : IncS n S := fun j hj => ⟨hO.rng j hj, fun h0 => by
  have := (List.pairwise_iff_getElem.1 h) (j - 1) j (by omega) hj (by omega)
  simpa [List.getD_eq_getElem?_getD, hj, show j - 1 < S.length by omega] using this⟩
theorem set_inc {l : List Sng} (k : Nat) : IncS l.length (usu [] ((allO l).take k)) := by
  have hn : ((allO l).take k).Nodup := (allO_idx l).nodup'.sublist (List.take_sublist _ _)
  have hO : OrdOK l.length ((allO l).take k) := .of hn fun x hx => by
    obtain ⟨i, hi, rfl⟩ := mem_at (List.mem_of_mem_take hx)
    exact allO_in l i hi
  exact inc_of_pw ((usu_srt (l := []) hn).imp fun h => usB0.1 h) (usu_ord hO)
/-- The first crowd is one. -/
theorem first_ok {f : Fmt} {l : List Sng} (hf : FmtOK f) (hg : SngsOK l) {k : Nat} (hk : k < l.length) (h : CrowdP f l ((allO l).take (k + 1))) : ccE f l (usu [] ((allO l).take (k + 1))) = 0 :=
  ccE_yes (bothE_ok hf hg) ⟨set_inc _, by rw [usu_len, List.length_take, (allO_idx l).len]; omega⟩ (by rw [usu_back]; exact h)
theorem perm_end {f : Fmt} {l : List Sng} (hf : FmtOK f) (hg : SngsOK l) {P : List Int} (hP : OrdOK l.length P) (hin : ∀ x : Int, x ∈ P ↔ 0 ≤ x ∧ x < l.length) : atF f l P P.length = atF f l (allO l) (allO l).length := by
  have hall : ∀ x : Int, x ∈ allO l ↔ 0 ≤ x ∧ x < l.length := fun x => by
    rw [allO_usu, usu_mem]
    constructor
    · exact (span_ok l.length).mem x
    · intro hx
      unfold spanL
      exact List.mem_map.2 ⟨x.toNat, List.mem_range.2 (by omega), by omega⟩
  have hg2 : ∀ y : Int, 0 ≤ y ∧ y < l.length → f.gap ≤ wG f l y ∧ 0 ≤ wG f l y := fun y hy => by
    have h1 := (wid_bd hf.per.1 (hg.each y.toNat (by omega))).2.1
    have h2 := hf.gap.1
    unfold wG
    omega
  have e1 := end_le (f := f) (l := l) (O := P) (P := allO l) hP.nodup (fun x hx => (hall x).2 ((hin x).1 hx)) hf.gap.1 (fun y hy => (hg2 y ((hall y).1 hy)).2) (fun y hy => (hg2 y ((hall y).1 hy)).1)
  have e2 := end_le (f := f) (l := l) (O := allO l) (P := P) (allO_idx l).nodup' (fun x hx => (hin x).2 ((hall x).1 hx)) hf.gap.1 (fun y hy => (hg2 y ((hin y).1 hy)).2) (fun y hy => (hg2 y ((hin y).1 hy)).1)
  omega
theorem s10 (f : Fmt) (l : List Sng) (b : List Int) (hb : ∀ j, 0 ≤ b.getD j 0 ∧ b.getD j 0 ≤ 255) : PSpec Try.prog 10 [f.x, lSng l, lU b] (xP True) := by
  have hw := s11
  have ll := sngA_len l
  have c14 := s14 f l 24
  by_cases hV : (l.length : Int) ≤ 24 ∧ FmtOK f ∧ SngsOK l
  rotate_left
  · refine spec_of pMix (O := [(4, ([], [⟨0, [], []⟩, ⟨1, [], []⟩, ⟨2, [], []⟩, ⟨3, [], []⟩, ⟨4, [], []⟩, ⟨5, [0, 1], []⟩, ⟨6, [], []⟩, ⟨7, [], []⟩, ⟨8, [], []⟩, ⟨9, [], []⟩, ⟨10, [], []⟩, ⟨11, [], []⟩, ⟨12, [], []⟩, ⟨13, [], []⟩]))]) Try.func10 (c := bodyOf Try.f10) rfl (by kernel_rfl) (by kernel_rfl) Try.ntmps10 (res := [.tmp 6]) (by kernel_rfl) ?_
    repeat' ((conv => whnf); first | refine Rng.g ?_ | refine Ob.g ?_ | refine Ob.e ?_ | refine Ob.m ?_ | refine Ob.mk (Nat.le_of_ble_eq_true rfl) ?_ | refine JoinVC.on ?_ | refine Nils.mk (fun h => ?_) ?_ | refine Val.t ?_ | refine Val.d ?_ | refine Mm.mk ?_ | refine CallVC.pure rfl (c14) ?_ | refine CallVC.pure rfl (hw) ?_ | refine CallVC0.pure rfl (c14) ?_ | refine CallVC0.pure rfl (hw) ?_ | (refine Br.mk (fun h => ?_) (fun h => ?_) <;> first | (exfalso; omega; done) | (exfalso; simp at h; done) | (exfalso; simp [hV] at h; done) | skip))
    all_goals
      repeat refine Mm.mk ?_
      refine EndVC.mk _ rfl _ _ ⟨rfl, rfl⟩ ?_
      refine ⟨[], rfl, rfl, ?_, ?_⟩ <;> repeat' (first | exact trivial | exact rfl | exact Iff.rfl | apply And.intro)
  obtain ⟨h24, hf, hg⟩ := hV
  have hI : f.nm.size ≤ 140737488355328 := by have := hf.nm.2.1; omega
  have c15 := s15 l.length b (by omega) hb
  have hOK := byO_ok b l.length
  have lO := byO_len b l.length
  have hmem := byO_mem b l.length
  obtain ⟨O, hO⟩ : ∃ O, byO b l.length = O := ⟨_, rfl⟩
  rw [hO] at c15 hOK lO hmem
  have lOi := i64s_len O
  have hal := (allO_idx l).len
  have lal := i64s_len (allO l)
  have e24 : ((sngA l).length : Int) = (l.length : Int) := by rw [ll]
  have hany : LayOK f l O → LayOK f l (allO l) := any_usual hf hg hOK (fun x hx => (hmem x).2 hx)
  have hend := perm_end hf hg hOK hmem
  have hoA : OrdOK l.length (allO l) := by rw [allO_usu]; exact usu_ord (span_ok _)
  refine spec_of pMix (O := [(4, ([], [⟨0, [], []⟩, ⟨1, [], []⟩, ⟨2, [], []⟩, ⟨3, [], []⟩, ⟨4, [], []⟩, ⟨5, [0, 1], []⟩, ⟨6, [], []⟩, ⟨7, [], []⟩, ⟨8, [], []⟩, ⟨9, [], []⟩, ⟨10, [], []⟩, ⟨11, [], []⟩, ⟨12, [], []⟩, ⟨13, [], []⟩]))]) Try.func10 (c := bodyOf Try.f10) rfl (by kernel_rfl) (by kernel_rfl) Try.ntmps10 (res := [.tmp 6]) (by kernel_rfl) ?_
  repeat' ((conv => whnf); first | refine Rng.g ?_ | refine Ob.g ?_ | refine Ob.e ?_ | refine Ob.m ?_ | refine Ob.mk (Nat.le_of_ble_eq_true rfl) ?_ | refine JoinVC.on ?_ | refine Nils.mk (fun h => ?_) ?_ | refine Val.t ?_ | refine Val.d ?_ | refine Mm.mk ?_ | refine CallVC.pure rfl (c14) ?_ | refine CallVC0.pure rfl (c14) ?_ | (refine Br.mk (fun h => ?_) (fun h => ?_) <;> first | (exfalso; omega; done) | (exfalso; simp at h; done) | (exfalso; simp [h24, hf, hg] at h; done) | skip))
  conv => whnf
  refine CallVC.mk [] _ _ _ rfl rfl rfl (s18l f l hI) (fun r m' h' => ?_)
  cases h' with
  | bad he hr hm => exact absurd (bothE_ok hf hg) he
  | none _ _ hn hr hm =>
    subst hr hm
    repeat' ((conv => whnf); first | rw [e24] | refine Rng.g ?_ | refine Ob.g ?_ | refine Ob.e ?_ | refine Ob.m ?_ | refine Ob.mk (Nat.le_of_ble_eq_true rfl) ?_ | refine JoinVC.on ?_ | refine Nils.mk (fun h => ?_) ?_ | refine Val.t ?_ | refine Val.d ?_ | refine Mm.mk ?_ | (refine Br.mk (fun h => ?_) (fun h => ?_) <;> first | (exfalso; omega; done) | (exfalso; simp at h; done) | skip))
    conv => whnf
    refine CallVC0.mk _ _ rfl (c15) (fun r m' h' => ?_)
    obtain ⟨rfl, rfl⟩ := h'
    conv => whnf
    repeat' ((conv => whnf); first | refine Rng.g ?_ | refine Ob.g ?_ | refine Ob.e ?_ | refine Ob.m ?_ | refine Ob.mk (Nat.le_of_ble_eq_true rfl) ?_ | refine JoinVC.on ?_ | refine Nils.mk (fun h => ?_) ?_ | refine Val.t ?_ | refine Val.d ?_ | refine Mm.mk ?_ | (refine Br.mk (fun h => ?_) (fun h => ?_) <;> first | (exfalso; omega; done) | (exfalso; simp at h; done) | skip))
    conv => whnf
    refine CallVC.mk [] _ _ _ rfl rfl rfl (s12 f l O hI (by omega)) (fun r m' h' => ?_)
    cases h' with
    | bad h hr hm => exact absurd (bothE_ok hf hg) h
    | ord _ _ h hr hm => exact absurd (ordE_0.2 hOK) h
    | rule _ _ _ i hi h hno hr hm =>
      subst hr hm
      repeat' ((conv => whnf); first | refine Rng.g ?_ | refine Ob.g ?_ | refine Ob.e ?_ | refine Ob.m ?_ | refine Ob.mk (Nat.le_of_ble_eq_true rfl) ?_ | refine JoinVC.on ?_ | refine Nils.mk (fun h => ?_) ?_ | refine Val.t ?_ | refine Val.d ?_ | refine Mm.mk ?_ | (refine Br.mk (fun h => ?_) (fun h => ?_) <;> first | (exfalso; omega; done) | (exfalso; simp at h; done) | skip))
      conv => whnf
      refine CallVC.mk [] _ _ _ rfl rfl rfl (s29 f l hI) (fun r m' h' => ?_)
      cases h' with
      | bad he hr hm => exact absurd (bothE_ok hf hg) he
      | none _ _ hx hr hm =>
        subst hr hm
        have h0 : l.length = 0 := hx.resolve_left hn
        repeat' ((conv => whnf); first | refine Rng.g ?_ | refine Ob.g ?_ | refine Ob.e ?_ | refine Ob.m ?_ | refine Ob.mk (Nat.le_of_ble_eq_true rfl) ?_ | refine JoinVC.on ?_ | refine Nils.mk (fun h => ?_) ?_ | refine Val.t ?_ | refine Val.d ?_ | refine Mm.mk ?_ | refine CallVC.pure rfl (hw) ?_ | refine CallVC0.pure rfl (hw) ?_ | (refine Br.mk (fun h => ?_) (fun h => ?_) <;> first | (exfalso; omega; done) | (exfalso; simp at h; done) | skip))
        all_goals
          repeat refine Mm.mk ?_
          refine EndVC.mk _ rfl _ _ ⟨rfl, rfl⟩ ?_
          refine ⟨[], rfl, rfl, ?_, ?_⟩ <;> repeat' (first | exact trivial | exact rfl | exact Iff.rfl | apply And.intro)
      | some _ _ _ k hk _ hcr hr hm =>
        subst hr hm
        have c17 : PSpec Try.prog 17 [f.x, lSng l, .one (.lst true [.int .i64] (i64s (usu [] ((allO l).take (k + 1)))))] (.x (I 0)) := by
          have := s17 f l (usu [] ((allO l).take (k + 1))) hI (by rw [usu_len, List.length_take]; omega)
          rw [first_ok hf hg hk hcr] at this
          exact this
        repeat' ((conv => whnf); first | refine Rng.g ?_ | refine Ob.g ?_ | refine Ob.e ?_ | refine Ob.m ?_ | refine Ob.mk (Nat.le_of_ble_eq_true rfl) ?_ | refine JoinVC.on ?_ | refine Nils.mk (fun h => ?_) ?_ | refine Val.t ?_ | refine Val.d ?_ | refine Mm.mk ?_ | refine CallVC.pure rfl (c17) ?_ | refine CallVC.pure rfl (hw) ?_ | refine CallVC0.pure rfl (c17) ?_ | refine CallVC0.pure rfl (hw) ?_ | (refine Br.mk (fun h => ?_) (fun h => ?_) <;> first | (exfalso; omega; done) | (exfalso; simp at h; done) | skip))
        all_goals
          repeat refine Mm.mk ?_
          refine EndVC.mk _ rfl _ _ ⟨rfl, rfl⟩ ?_
          refine ⟨[], rfl, rfl, ?_, ?_⟩ <;> repeat' (first | exact trivial | exact rfl | exact Iff.rfl | apply And.intro)
    | limit _ _ _ h hno hr hm =>
      subst hr hm
      repeat' ((conv => whnf); first | refine Rng.g ?_ | refine Ob.g ?_ | refine Ob.e ?_ | refine Ob.m ?_ | refine Ob.mk (Nat.le_of_ble_eq_true rfl) ?_ | refine JoinVC.on ?_ | refine Nils.mk (fun h => ?_) ?_ | refine Val.t ?_ | refine Val.d ?_ | refine Mm.mk ?_ | (refine Br.mk (fun h => ?_) (fun h => ?_) <;> first | (exfalso; omega; done) | (exfalso; simp at h; done) | skip))
      conv => whnf
      refine CallVC.mk [] _ _ _ rfl rfl rfl (s29 f l hI) (fun r m' h' => ?_)
      cases h' with
      | bad he hr hm => exact absurd (bothE_ok hf hg) he
      | none _ _ hx hr hm =>
        subst hr hm
        have h0 : l.length = 0 := hx.resolve_left hn
        repeat' ((conv => whnf); first | refine Rng.g ?_ | refine Ob.g ?_ | refine Ob.e ?_ | refine Ob.m ?_ | refine Ob.mk (Nat.le_of_ble_eq_true rfl) ?_ | refine JoinVC.on ?_ | refine Nils.mk (fun h => ?_) ?_ | refine Val.t ?_ | refine Val.d ?_ | refine Mm.mk ?_ | refine CallVC.pure rfl (hw) ?_ | refine CallVC0.pure rfl (hw) ?_ | (refine Br.mk (fun h => ?_) (fun h => ?_) <;> first | (exfalso; omega; done) | (exfalso; simp at h; done) | skip))
        all_goals
          repeat refine Mm.mk ?_
          refine EndVC.mk _ rfl _ _ ⟨rfl, rfl⟩ ?_
          refine ⟨[], rfl, rfl, ?_, ?_⟩ <;> repeat' (first | exact trivial | exact rfl | exact Iff.rfl | apply And.intro)
      | some _ _ _ k hk _ hcr hr hm =>
        subst hr hm
        have c17 : PSpec Try.prog 17 [f.x, lSng l, .one (.lst true [.int .i64] (i64s (usu [] ((allO l).take (k + 1)))))] (.x (I 0)) := by
          have := s17 f l (usu [] ((allO l).take (k + 1))) hI (by rw [usu_len, List.length_take]; omega)
          rw [first_ok hf hg hk hcr] at this
          exact this
        repeat' ((conv => whnf); first | refine Rng.g ?_ | refine Ob.g ?_ | refine Ob.e ?_ | refine Ob.m ?_ | refine Ob.mk (Nat.le_of_ble_eq_true rfl) ?_ | refine JoinVC.on ?_ | refine Nils.mk (fun h => ?_) ?_ | refine Val.t ?_ | refine Val.d ?_ | refine Mm.mk ?_ | refine CallVC.pure rfl (c17) ?_ | refine CallVC.pure rfl (hw) ?_ | refine CallVC0.pure rfl (c17) ?_ | refine CallVC0.pure rfl (hw) ?_ | (refine Br.mk (fun h => ?_) (fun h => ?_) <;> first | (exfalso; omega; done) | (exfalso; simp at h; done) | skip))
        all_goals
          repeat refine Mm.mk ?_
          refine EndVC.mk _ rfl _ _ ⟨rfl, rfl⟩ ?_
          refine ⟨[], rfl, rfl, ?_, ?_⟩ <;> repeat' (first | exact trivial | exact rfl | exact Iff.rfl | apply And.intro)
    | ok _ _ _ h hr hm =>
      exact absurd (hany h) hn
  | ok _ _ hL hr hm =>
    subst hr hm
    repeat' ((conv => whnf); first | rw [e24] | refine Rng.g ?_ | refine Ob.g ?_ | refine Ob.e ?_ | refine Ob.m ?_ | refine Ob.mk (Nat.le_of_ble_eq_true rfl) ?_ | refine JoinVC.on ?_ | refine Nils.mk (fun h => ?_) ?_ | refine Val.t ?_ | refine Val.d ?_ | refine Mm.mk ?_ | (refine Br.mk (fun h => ?_) (fun h => ?_) <;> first | (exfalso; omega; done) | (exfalso; simp at h; done) | skip))
    conv => whnf
    refine CallVC0.mk _ _ rfl (c15) (fun r m' h' => ?_)
    obtain ⟨rfl, rfl⟩ := h'
    conv => whnf
    repeat' ((conv => whnf); first | refine Rng.g ?_ | refine Ob.g ?_ | refine Ob.e ?_ | refine Ob.m ?_ | refine Ob.mk (Nat.le_of_ble_eq_true rfl) ?_ | refine JoinVC.on ?_ | refine Nils.mk (fun h => ?_) ?_ | refine Val.t ?_ | refine Val.d ?_ | refine Mm.mk ?_ | (refine Br.mk (fun h => ?_) (fun h => ?_) <;> first | (exfalso; omega; done) | (exfalso; simp at h; done) | skip))
    conv => whnf
    refine CallVC.mk [] _ _ _ rfl rfl rfl (s12 f l O hI (by omega)) (fun r m' h' => ?_)
    cases h' with
    | bad h hr hm => exact absurd (bothE_ok hf hg) h
    | ord _ _ h hr hm => exact absurd (ordE_0.2 hOK) h
    | rule _ _ _ i hi h hno hr hm =>
      subst hr hm
      repeat' ((conv => whnf); first | refine Rng.g ?_ | refine Ob.g ?_ | refine Ob.e ?_ | refine Ob.m ?_ | refine Ob.mk (Nat.le_of_ble_eq_true rfl) ?_ | refine JoinVC.on ?_ | refine Nils.mk (fun h => ?_) ?_ | refine Val.t ?_ | refine Val.d ?_ | refine Mm.mk ?_ | (refine Br.mk (fun h => ?_) (fun h => ?_) <;> first | (exfalso; omega; done) | (exfalso; simp at h; done) | skip))
      conv => whnf
      refine CallVC.mk [] _ _ _ rfl rfl rfl (s29 f l hI) (fun r m' h' => ?_)
      cases h' with
      | bad he hr hm => exact absurd (bothE_ok hf hg) he
      | some _ _ hnL k hk _ _ hr hm => exact absurd hL hnL
      | none _ _ _ hr hm =>
        subst hr hm
        repeat' ((conv => whnf); first | refine Rng.g ?_ | refine Ob.g ?_ | refine Ob.e ?_ | refine Ob.m ?_ | refine Ob.mk (Nat.le_of_ble_eq_true rfl) ?_ | refine JoinVC.on ?_ | refine Nils.mk (fun h => ?_) ?_ | refine Val.t ?_ | refine Val.d ?_ | refine Mm.mk ?_ | (refine Br.mk (fun h => ?_) (fun h => ?_) <;> first | (exfalso; omega; done) | (exfalso; simp at h; done) | skip))
        conv => whnf
        refine CallVC.mk [] _ _ _ rfl rfl rfl (s12 f l (allO l) hI (by omega)) (fun r m' h' => ?_)
        cases h' with
        | bad h hr hm => exact absurd (bothE_ok hf hg) h
        | ord _ _ h hr hm => exact absurd (ordE_0.2 hoA) h
        | rule _ _ _ i2 hi2 _ hno2 hr hm => exact absurd (hL.1 i2 hi2) hno2
        | limit _ _ _ _ hno2 hr hm => exact absurd hL hno2
        | ok _ _ _ _ hr hm =>
          subst hr hm
          repeat' ((conv => whnf); first | refine Rng.g ?_ | refine Ob.g ?_ | refine Ob.e ?_ | refine Ob.m ?_ | refine Ob.mk (Nat.le_of_ble_eq_true rfl) ?_ | refine JoinVC.on ?_ | refine Nils.mk (fun h => ?_) ?_ | refine Val.t ?_ | refine Val.d ?_ | refine Mm.mk ?_ | refine CallVC.pure rfl (hw) ?_ | refine CallVC0.pure rfl (hw) ?_ | (refine Br.mk (fun h => ?_) (fun h => ?_) <;> first | (exfalso; omega; done) | (exfalso; simp at h; done) | skip))
          all_goals
            repeat refine Mm.mk ?_
            refine EndVC.mk _ rfl _ _ ⟨rfl, rfl⟩ ?_
            refine ⟨[], rfl, rfl, ?_, ?_⟩ <;> repeat' (first | exact trivial | exact rfl | exact Iff.rfl | apply And.intro)
    | limit _ _ _ h hno hr hm =>
      exact absurd (show LayOK f l O from ⟨h, by have := hL.2; rw [hend]; exact this⟩) hno
    | ok _ _ _ h hr hm =>
      subst hr hm
      repeat' ((conv => whnf); first | refine Rng.g ?_ | refine Ob.g ?_ | refine Ob.e ?_ | refine Ob.m ?_ | refine Ob.mk (Nat.le_of_ble_eq_true rfl) ?_ | refine JoinVC.on ?_ | refine Nils.mk (fun h => ?_) ?_ | refine Val.t ?_ | refine Val.d ?_ | refine Mm.mk ?_ | (refine Br.mk (fun h => ?_) (fun h => ?_) <;> first | (exfalso; omega; done) | (exfalso; simp at h; done) | skip))
      conv => whnf
      refine CallVC.mk [] _ _ _ rfl rfl rfl (s29 f l hI) (fun r m' h' => ?_)
      cases h' with
      | bad he hr hm => exact absurd (bothE_ok hf hg) he
      | some _ _ hnL k hk _ _ hr hm => exact absurd hL hnL
      | none _ _ _ hr hm =>
        subst hr hm
        repeat' ((conv => whnf); first | refine Rng.g ?_ | refine Ob.g ?_ | refine Ob.e ?_ | refine Ob.m ?_ | refine Ob.mk (Nat.le_of_ble_eq_true rfl) ?_ | refine JoinVC.on ?_ | refine Nils.mk (fun h => ?_) ?_ | refine Val.t ?_ | refine Val.d ?_ | refine Mm.mk ?_ | (refine Br.mk (fun h => ?_) (fun h => ?_) <;> first | (exfalso; omega; done) | (exfalso; simp at h; done) | skip))
        conv => whnf
        refine CallVC.mk [] _ _ _ rfl rfl rfl (s12 f l (allO l) hI (by omega)) (fun r m' h' => ?_)
        cases h' with
        | bad h hr hm => exact absurd (bothE_ok hf hg) h
        | ord _ _ h hr hm => exact absurd (ordE_0.2 hoA) h
        | rule _ _ _ i2 hi2 _ hno2 hr hm => exact absurd (hL.1 i2 hi2) hno2
        | limit _ _ _ _ hno2 hr hm => exact absurd hL hno2
        | ok _ _ _ _ hr hm =>
          subst hr hm
          repeat' ((conv => whnf); first | refine Rng.g ?_ | refine Ob.g ?_ | refine Ob.e ?_ | refine Ob.m ?_ | refine Ob.mk (Nat.le_of_ble_eq_true rfl) ?_ | refine JoinVC.on ?_ | refine Nils.mk (fun h => ?_) ?_ | refine Val.t ?_ | refine Val.d ?_ | refine Mm.mk ?_ | refine CallVC.pure rfl (hw) ?_ | refine CallVC0.pure rfl (hw) ?_ | (refine Br.mk (fun h => ?_) (fun h => ?_) <;> first | (exfalso; omega; done) | (exfalso; simp at h; done) | skip))
          all_goals
            repeat refine Mm.mk ?_
            refine EndVC.mk _ rfl _ _ ⟨rfl, rfl⟩ ?_
            refine ⟨[], rfl, rfl, ?_, ?_⟩ <;> repeat' (first | exact trivial | exact rfl | exact Iff.rfl | apply And.intro)
end Go.Sx

namespace Go.Sx
open Go Go.Proofs
set_option maxRecDepth 10000
/-! ### Rows read as tracks, formats, faces -/
theorem wfr_of : ∀ {ks : List CK} {r : List Cell}, r.length = ks.length → (∀ (j : Nat) k c, ks[j]? = some k → r[j]? = some c → Wf k c) → WfR ks r
  | [], [], _, _ => .nil
  | [], _ :: _, h, _ => by simp at h
  | _ :: _, [], h, _ => by simp at h
  | k :: ks, c :: cs, h, hw => .cons (hw 0 k c rfl rfl) (wfr_of (by simpa using h) fun j k' c' h1 h2 => hw (j + 1) k' c' (by simpa using h1) (by simpa using h2))
theorem wf_map {α : Type} {ks : List CK} {row : α → List Cell} {p : α → Prop} (hrow : ∀ r, WfR ks r → ∃ x, r = row x ∧ p x) {a : Arr} (h : Wf (.sl ks) (.sl a)) : ∃ l : List α, a = l.map row ∧ ∀ x ∈ l, p x := by
  cases h with
  | sl hl hr hw =>
    clear hl
    induction a with
    | nil => exact ⟨[], rfl, fun x hx => by simp at hx⟩
    | cons r a ih =>
      obtain ⟨l, rfl, h2⟩ := ih (fun r h => hr r (List.mem_cons_of_mem _ h)) (fun r h => hw r (List.mem_cons_of_mem _ h))
      obtain ⟨x, rfl, h3⟩ := hrow r (wfr_of (hr r (List.mem_cons_self ..)) (hw r (List.mem_cons_self ..)))
      exact ⟨x :: l, rfl, fun y hy => by rcases List.mem_cons.1 hy with rfl | hy; (· exact h3); exact h2 y hy⟩
theorem mem_getD {α : Type} {p : α → Prop} {l : List α} {d : α} (h : ∀ x ∈ l, p x) (hd : p d) (j : Nat) : p (l.getD j d) := by
  rw [List.getD_eq_getElem?_getD]
  cases hx : l[j]? with
  | none => exact hd
  | some x => exact h x (List.mem_of_getElem? hx)
def Sng.inR (g : Sng) : Prop := Go.Sx.inR .i64 g.long ∧ Go.Sx.inR .i64 g.pitch ∧ Go.Sx.inR .i64 g.least
theorem wf_sngs {a : Arr} (h : Wf (.sl KSng) (.sl a)) : ∃ l : List Sng, a = sngA l ∧ ∀ g ∈ l, g.inR := by
  obtain ⟨l, h1, h2⟩ := wf_map (row := fun g : Sng => [.int g.long, .int g.pitch, .int g.least]) (p := Sng.inR) (fun r hr => by
    obtain ⟨c0, _, rfl, g0, h1⟩ := hr.inv
    obtain ⟨n0, rfl, i0⟩ := g0.int_inv
    obtain ⟨c1, _, rfl, g1, h2⟩ := h1.inv
    obtain ⟨n1, rfl, i1⟩ := g1.int_inv
    obtain ⟨c2, _, rfl, g2, h3⟩ := h2.inv
    obtain ⟨n2, rfl, i2⟩ := g2.int_inv
    cases h3.nil_inv
    exact ⟨⟨n0, n1, n2⟩, rfl, i0, i1, i2⟩) h
  exact ⟨l, h1, h2⟩
theorem u8_getD {l : List Int} (h : l.length ≤ maxLen ∧ ∀ x ∈ l, inR .u8 x) : ∀ j, 0 ≤ l.getD j 0 ∧ l.getD j 0 ≤ 255 :=
  mem_getD (p := fun x => 0 ≤ x ∧ x ≤ 255) (fun x hx => by have := h.2 x hx; simpa [inR] using this) (by decide)
end Go.Sx

namespace Go.Sx
open Go Go.Proofs
set_option maxRecDepth 10000
set_option maxHeartbeats 8000000
/-! ### The cost of a plan -/
structure Fc where
  fm : Int
  mn : Int
@[reducible] def Fc.x (a : Fc) : XV := .agg [.int .i64 a.fm, .int .i64 a.mn]
def Fc.ok (n : Nat) (a : Fc) : Prop := (0 ≤ a.fm ∧ a.fm < n) ∧ 1 ≤ a.mn ∧ a.mn ≤ 24
instance (n : Nat) (a : Fc) : Decidable (a.ok n) := by unfold Fc.ok; exact inferInstance
def Fc.p (a : Fc) : Nat × Nat := (a.fm.toNat, a.mn.toNat)
end Go.Sx

namespace Go.Sx
open Go Go.Proofs
set_option maxRecDepth 10000
end Go.Sx
