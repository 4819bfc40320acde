import Derived.Test.YthlebjnhcinheaaGreatDoorPrTopSparedA
import Derived.Test.YthlebjnhcinheaaGreatDoorXd
namespace Go.Sx
open Go Go.Proofs
set_option maxRecDepth 10000
set_option maxHeartbeats 8000000
theorem i64s_upd (xs : List Int) (i : Nat) (v : Int) (h : i < xs.length) : updRow (i64s xs) i 0 [.int v] = i64s (xs.set i v) := by
  unfold updRow i64s
  rw [List.map_set]
  congr 1
  simp [List.getD_eq_getElem?_getD, h, setAll]
def Edg.row (e : Edg) : List Cell := [.int e.rule, .int e.pos, .int e.fr, .int e.to, .int e.w]
def edgA (P : List Edg) : Arr := P.map Edg.row
theorem edgA_len (P : List Edg) : (edgA P).length = P.length := by simp [edgA]
theorem edgA_0 (P : List Edg) (i : Nat) : rI (edgA P) i 0 = (P.getD i e0).rule := map_rI _ e0 P i 0 rfl
theorem edgA_1 (P : List Edg) (i : Nat) : rI (edgA P) i (0 + 1) = (P.getD i e0).pos := map_rI _ e0 P i 1 rfl
theorem edgA_2 (P : List Edg) (i : Nat) : rI (edgA P) i (0 + 1 + 1) = (P.getD i e0).fr := map_rI _ e0 P i 2 rfl
theorem edgA_3 (P : List Edg) (i : Nat) : rI (edgA P) i (0 + 1 + 1 + 1) = (P.getD i e0).to := map_rI _ e0 P i 3 rfl
theorem edgA_4 (P : List Edg) (i : Nat) : rI (edgA P) i (0 + 1 + 1 + 1 + 1) = (P.getD i e0).w := map_rI _ e0 P i 4 rfl
theorem edgA_set (P : List Edg) (i : Nat) (e : Edg) (h : i < P.length) : updRow (edgA P) i 0 e.row = edgA (P.set i e) := by
  unfold updRow edgA
  rw [List.map_set]
  congr 1
  simp [List.getD_eq_getElem?_getD, h, setAll, Edg.row]
@[reducible] def KE : List CK := [.int .i64, .int .i64, .int .i64, .int .i64, .int .i64]
@[reducible] def rowEd (P : List Edg) : Blk := .row 385 false KE (edgA P)
@[reducible] def rowRd (R : List Int) : Blk := .row 2 false [.int .i64] (i64s R)
theorem i64s_rep (n : Nat) : List.replicate n [Cell.int 0] = i64s (List.replicate n 0) := by simp [i64s]
theorem edgA_rep (n : Nat) : List.replicate n [Cell.int 0, Cell.int 0, Cell.int 0, Cell.int 0, Cell.int 0] = edgA (List.replicate n e0) := by simp [edgA, Edg.row]
/-! ### The steps of a proof -/
@[reducible] def rowT (A : Arr) : Blk := .row 363 false [.int .i64, .int .i64] A
theorem eb363 : Tryz.t363.bytes = 16 := by kernel_rfl
theorem upd_len (a : Arr) (i f : Nat) (cs : List Cell) : (updRow a i f cs).length = a.length := by simp [updRow]
theorem s305 (A : Arr) (hl : A.length ≤ 1000000000) : HSpec Tryz.prog 305 [.one (.own 0)] [rowT A] (fun r m' => ∃ A' : Arr, A'.length = A.length ∧ r = .tup [] ∧ m' = [some (rowT A')]) := by
  refine spec_of pMix (O := [(3, ([], [⟨0, [], []⟩, ⟨1, [], []⟩, ⟨2, [], []⟩, ⟨3, [], []⟩, ⟨4, [], []⟩, ⟨5, [], []⟩, ⟨6, [], []⟩, ⟨7, [], []⟩, ⟨8, [], []⟩, ⟨9, [], []⟩, ⟨10, [], []⟩, ⟨11, [], []⟩, ⟨12, [], []⟩, ⟨13, [2, 3], []⟩, ⟨14, [], []⟩, ⟨15, [], []⟩]))]) Tryz.func305 (c := bodyOf Tryz.f305) rfl (by kernel_rfl) (by kernel_rfl) Tryz.ntmps305 (res := []) (by kernel_rfl) ?_
  repeat' ((conv => whnf); first | refine Rng.g ?_ | refine Ob.g ?_ | refine Ob.e ?_ | refine Ob.m ?_ | refine Ob.mk (Nat.le_of_ble_eq_true rfl) ?_ | refine JoinVC.on ?_ | refine Nils.mk (fun h => ?_) ?_ | refine Val.t ?_ | refine Val.d ?_ | refine Mm.mk ?_ | (refine Br.mk (fun h => ?_) (fun h => ?_) <;> first | (exfalso; omega; done) | (exfalso; simp at h; done) | skip))
  refine LoopVC.mk (fun n st => ∃ (i j : Int) (B : Arr), B.length = A.length ∧ 0 ≤ i ∧ i ≤ A.length ∧ j = (A.length : Int) - 1 - i ∧ n = (j - i + 2).toNat ∧ st = ⟨1, envA 28 [(0, .x (.one (.own 0))), (2, .int .i64 i), (3, .int .i64 j)], [some (rowT B)]⟩) _ _ ⟨0, (A.length : Int) - 1, A, rfl, by omega, by omega, by omega, rfl, rfl⟩ ?_ ?_
  · refine ⟨[some 0], rfl, rfl, ?_, ?_⟩ <;> repeat' (first | exact trivial | exact rfl | exact Iff.rfl | apply And.intro)
  rintro n _ ⟨i, j, B, lB, hi, hi2, hj, hn, rfl⟩
  by_cases h1 : i < j
  · have l1 := upd_len B i.toNat 0 [Cell.int (rI B j.toNat 0), Cell.int (rI B j.toNat (0 + 1))]
    repeat' ((conv => whnf); first | refine Rng.g ?_ | refine Ob.g ?_ | refine Ob.e ?_ | refine Ob.m ?_ | refine Ob.mk (Nat.le_of_ble_eq_true rfl) ?_ | refine JoinVC.on ?_ | refine Nils.mk (fun h => ?_) ?_ | refine Val.t ?_ | refine Val.d ?_ | refine Mm.mk ?_ | (refine Br.mk (fun h => ?_) (fun h => ?_) <;> first | (exfalso; omega; done) | (exfalso; simp at h; done) | skip))
    refine Back.mk (j - 1 - (i + 1) + 2).toNat _ (by omega) ⟨i + 1, j - 1, updRow (updRow B i.toNat 0 [Cell.int (rI B j.toNat 0), Cell.int (rI B j.toNat (0 + 1))]) j.toNat 0 [Cell.int (rI B i.toNat 0), Cell.int (rI B i.toNat (0 + 1))], by rw [upd_len, upd_len]; exact lB, by omega, by omega, by omega, rfl, rfl⟩ ?_
    refine ⟨[some 0], rfl, rfl, ?_, ?_⟩ <;> repeat' (first | exact trivial | exact rfl | exact Iff.rfl | apply And.intro)
  · repeat' ((conv => whnf); first | refine Rng.g ?_ | refine Ob.g ?_ | refine Ob.e ?_ | refine Ob.m ?_ | refine Ob.mk (Nat.le_of_ble_eq_true rfl) ?_ | refine JoinVC.on ?_ | refine Nils.mk (fun h => ?_) ?_ | refine Val.t ?_ | refine Val.d ?_ | refine Mm.mk ?_ | (refine Br.mk (fun h => ?_) (fun h => ?_) <;> first | (exfalso; omega; done) | (exfalso; simp at h; done) | skip))
    repeat refine Mm.mk ?_
    conv => whnf
    refine EndVC.mk _ rfl _ _ (⟨B, lB, rfl, rfl⟩) ?_
    refine ⟨[some 0], rfl, rfl, ?_, ?_⟩ <;> repeat' (first | exact trivial | exact rfl | exact Iff.rfl | apply And.intro)
@[reducible] def bxE (P : List Edg) (q : Nat) : Blk := .box 385 [.int .i64 (rI (edgA P) (q : Int).toNat 0), .int .i64 (rI (edgA P) (q : Int).toNat (0 + 1)), .int .i64 (rI (edgA P) (q : Int).toNat (0 + 1 + 1)), .int .i64 (rI (edgA P) (q : Int).toNat (0 + 1 + 1 + 1)), .int .i64 (rI (edgA P) (q : Int).toNat (0 + 1 + 1 + 1 + 1))]
/-- The steps of a circle. -/
theorem s250 (P : List Edg) (v : Nat) (hl : P.length ≤ 4096) (hc : Circ P.length P v) : HSpec Tryz.prog 250 [.one (.lst true KE (edgA P)), I (v : Int)] [] (fun r m' => ∃ A : Arr, 0 < A.length ∧ r = .x (.one (.own 0)) ∧ m' = [some (rowT A)]) := by
  have lp := edgA_len P
  refine spec_of pMix (O := []) Tryz.func250 (c := bodyOf Tryz.f250) rfl (by kernel_rfl) (by kernel_rfl) Tryz.ntmps250 (res := [.tmp 4]) (by kernel_rfl) ?_
  repeat' ((conv => whnf); first | refine Rng.g ?_ | refine Ob.g ?_ | refine Ob.e ?_ | refine Ob.m ?_ | refine Ob.mk (Nat.le_of_ble_eq_true rfl) ?_ | refine JoinVC.on ?_ | refine Nils.mk (fun h => ?_) ?_ | refine Val.t ?_ | refine Val.d ?_ | refine Mm.mk ?_ | (refine Br.mk (fun h => ?_) (fun h => ?_) <;> first | (exfalso; omega; done) | (exfalso; simp at h; done) | skip))
  refine LoopVC.mk (fun m st => ∃ (k : Nat), k ≤ P.length ∧ m = P.length - k ∧ st = ⟨0, envA 39 [(0, .x (.one (.lst true KE (edgA P)))), (1, .int .i64 (itr P v k : Nat)), (8, .int .i64 (P.length : Int)), (9, .int .i64 (k : Int))], []⟩) _ _ ⟨0, Nat.zero_le _, rfl, rfl⟩ ?_ ?_
  · refine ⟨[], rfl, rfl, ?_, ?_⟩ <;> repeat' (first | exact trivial | exact rfl | exact Iff.rfl | apply And.intro)
    all_goals exact congrArg Int.ofNat lp
  rintro m _ ⟨k, hk, hm, rfl⟩
  obtain ⟨e1, e2⟩ := hc.each k
  have gf : rI (edgA P) ((itr P v k : Nat) : Int).toNat (0 + (0 + 1 + 1)) = ((itr P v (k + 1) : Nat) : Int) := by rw [Int.toNat_natCast]; exact (edgA_2 P _).trans e2
  by_cases hk' : k < P.length
  · repeat' ((conv => whnf); first | rw [gf] | refine Rng.g ?_ | refine Ob.g ?_ | refine Ob.e ?_ | refine Ob.m ?_ | refine Ob.mk (Nat.le_of_ble_eq_true rfl) ?_ | refine JoinVC.on ?_ | refine Nils.mk (fun h => ?_) ?_ | refine Val.t ?_ | refine Val.d ?_ | refine Mm.mk ?_ | (refine Br.mk (fun h => ?_) (fun h => ?_) <;> first | (exfalso; omega; done) | (exfalso; simp at h; done) | skip))
    refine Back.mk (P.length - (k + 1)) _ (by omega) ⟨k + 1, by omega, rfl, rfl⟩ ?_
    refine ⟨[], rfl, rfl, ?_, ?_⟩ <;> repeat' (first | exact trivial | exact rfl | exact Iff.rfl | apply And.intro)
  have ek : k = P.length := by omega
  clear gf e1 e2
  subst ek
  obtain ⟨c, hc1, hc2, hcb⟩ := hc.back
  obtain ⟨z, hz⟩ : ∃ z, itr P v P.length = z := ⟨_, rfl⟩
  have hzl : z < P.length := hz ▸ (hc.each P.length).1
  repeat' ((conv => whnf); first | rw [hz] | refine Rng.g ?_ | refine Ob.g ?_ | refine Ob.e ?_ | refine Ob.m ?_ | refine Ob.mk (Nat.le_of_ble_eq_true rfl) ?_ | refine JoinVC.on ?_ | refine Nils.mk (fun h => ?_) ?_ | refine Val.t ?_ | refine Val.d ?_ | refine Mm.mk ?_ | (refine Br.mk (fun h => ?_) (fun h => ?_) <;> first | (exfalso; omega; done) | (exfalso; simp at h; done) | skip))
  refine LoopVC.mk (fun m st => ∃ (j : Nat) (A : Arr), j < c ∧ m = c - j ∧ A.length = j ∧ st = ⟨0, envA 39 [(0, .x (.one (.lst true KE (edgA P)))), (1, .int .i64 (z : Nat)), (5, .x (.one (.own 1))), (6, .x (.one (.ptr 0 0)))], [some (bxE P (itr P v (P.length + j))), some (rowT A)]⟩) _ _ ⟨0, [], by omega, rfl, rfl, rfl⟩ ?_ ?_
  · refine ⟨[some 0, none], rfl, rfl, ?_, ?_⟩ <;> repeat' (first | exact trivial | exact rfl | exact Iff.rfl | apply And.intro)
    all_goals (rw [← hz]; rfl)
  rintro m _ ⟨j, A, hj, hm, lA, rfl⟩
  obtain ⟨q1, q2⟩ := hc.each (P.length + j)
  obtain ⟨q3, q4⟩ := hc.each (P.length + (j + 1))
  have g2 : rI (edgA P) ((itr P v (P.length + j) : Nat) : Int).toNat (0 + 1 + 1) = ((itr P v (P.length + j + 1) : Nat) : Int) := by rw [Int.toNat_natCast]; exact (edgA_2 P _).trans q2
  have q5 : itr P v (P.length + j + 1) < P.length := q3
  by_cases hz' : itr P v (P.length + j + 1) = z
  · repeat' ((conv => whnf); first | rw [g2] | rw [hz'] | refine Rng.g ?_ | refine Ob.g ?_ | refine Ob.e ?_ | refine Ob.m ?_ | refine Ob.mk (Nat.le_of_ble_eq_true rfl) ?_ | refine JoinVC.on ?_ | refine Nils.mk (fun h => ?_) ?_ | refine Val.t ?_ | refine Val.d ?_ | refine Mm.mk ?_ | (refine Br.mk (fun h => ?_) (fun h => ?_) <;> first | (exfalso; omega; done) | (exfalso; simp at h; done) | skip))
    repeat refine Mm.mk ?_
    refine Ob.mk (by rw [eb363]; simp only [List.length_cons, List.length_nil]; omega) ?_
    repeat' ((conv => whnf); first | rw [g2] | rw [hz'] | refine Rng.g ?_ | refine Ob.g ?_ | refine Ob.e ?_ | refine Ob.m ?_ | refine Ob.mk (Nat.le_of_ble_eq_true rfl) ?_ | refine JoinVC.on ?_ | refine Nils.mk (fun h => ?_) ?_ | refine Val.t ?_ | refine Val.d ?_ | refine Mm.mk ?_ | (refine Br.mk (fun h => ?_) (fun h => ?_) <;> first | (exfalso; omega; done) | (exfalso; simp at h; done) | skip))
    conv => whnf
    refine CallVC.mk [3] _ _ _ rfl rfl rfl (s305 (A ++ [[Cell.int (rI (edgA P) ((itr P v (P.length + j) : Nat) : Int).toNat 0), Cell.int (rI (edgA P) ((itr P v (P.length + j) : Nat) : Int).toNat (0 + 1))]]) (by rw [List.length_append, List.length_cons, List.length_nil]; omega)) (fun r m' h' => ?_)
    obtain ⟨A', lA', rfl, rfl⟩ := h'
    conv => whnf
    have lA2 : 0 < A'.length := by rw [lA', List.length_append, List.length_cons]; omega
    repeat' ((conv => whnf); first | refine Rng.g ?_ | refine Ob.g ?_ | refine Ob.e ?_ | refine Ob.m ?_ | refine Ob.mk (Nat.le_of_ble_eq_true rfl) ?_ | refine JoinVC.on ?_ | refine Nils.mk (fun h => ?_) ?_ | refine Val.t ?_ | refine Val.d ?_ | refine Mm.mk ?_ | (refine Br.mk (fun h => ?_) (fun h => ?_) <;> first | (exfalso; omega; done) | (exfalso; simp at h; done) | skip))
    repeat refine Mm.mk ?_
    conv => whnf
    refine EndVC.mk _ rfl _ _ (⟨A', lA2, rfl, rfl⟩) ?_
    refine ⟨[some 3], rfl, rfl, ?_, ?_⟩ <;> repeat' (first | exact trivial | exact rfl | exact Iff.rfl | apply And.intro)
  · have hj2 : j + 1 < c := by
      have : j + 1 ≠ c := fun e => hz' (by rw [Nat.add_assoc, e]; exact hcb.trans hz)
      omega
    repeat' ((conv => whnf); first | rw [g2] | refine Rng.g ?_ | refine Ob.g ?_ | refine Ob.e ?_ | refine Ob.m ?_ | refine Ob.mk (Nat.le_of_ble_eq_true rfl) ?_ | refine JoinVC.on ?_ | refine Nils.mk (fun h => ?_) ?_ | refine Val.t ?_ | refine Val.d ?_ | refine Mm.mk ?_ | (refine Br.mk (fun h => ?_) (fun h => ?_) <;> first | (exfalso; omega; done) | (exfalso; simp at h; done) | skip))
    repeat refine Mm.mk ?_
    refine Ob.mk (by rw [eb363]; simp only [List.length_cons, List.length_nil]; omega) ?_
    repeat' ((conv => whnf); first | rw [g2] | refine Rng.g ?_ | refine Ob.g ?_ | refine Ob.e ?_ | refine Ob.m ?_ | refine Ob.mk (Nat.le_of_ble_eq_true rfl) ?_ | refine JoinVC.on ?_ | refine Nils.mk (fun h => ?_) ?_ | refine Val.t ?_ | refine Val.d ?_ | refine Mm.mk ?_ | (refine Br.mk (fun h => ?_) (fun h => ?_) <;> first | (exfalso; omega; done) | (exfalso; simp at h; done) | skip))
    refine Back.mk (c - (j + 1)) _ (by omega) ⟨j + 1, A ++ [[Cell.int (rI (edgA P) ((itr P v (P.length + j) : Nat) : Int).toNat 0), Cell.int (rI (edgA P) ((itr P v (P.length + j) : Nat) : Int).toNat (0 + 1))]], hj2, rfl, by rw [List.length_append, lA]; rfl, rfl⟩ ?_
    refine ⟨[some 4, some 3], rfl, rfl, ?_, ?_⟩ <;> repeat' (first | exact trivial | exact rfl | exact Iff.rfl | apply And.intro)
/-- The steps of a way. -/
theorem s251 (P : List Edg) (x : Edg) (i m : Nat) (_hl : P.length ≤ 4096) (hx : x.fr = (i : Nat)) (hw : Way P.length P i m) (hm : m ≤ 100000000) : HSpec Tryz.prog 251 [.one (.lst true KE (edgA P)), x.x] [] (fun r m' => ∃ A : Arr, 0 < A.length ∧ r = .x (.one (.own 0)) ∧ m' = [some (rowT A)]) := by
  have lp := edgA_len P
  obtain ⟨w1, w2, w3⟩ := hw
  have wl : ∀ q, q ≤ m → itr P i q < P.length := fun q hq => by
    by_cases h : q < m
    · exact (w1 q h).1
    · rw [show q = m by omega]; exact w2
  refine spec_of pMix (O := []) Tryz.func251 (c := bodyOf Tryz.f251) rfl (by kernel_rfl) (by kernel_rfl) Tryz.ntmps251 (res := [.tmp 4]) (by kernel_rfl) ?_
  repeat' ((conv => whnf); first | refine Rng.g ?_ | refine Ob.g ?_ | refine Ob.e ?_ | refine Ob.m ?_ | refine Ob.mk (Nat.le_of_ble_eq_true rfl) ?_ | refine JoinVC.on ?_ | refine Nils.mk (fun h => ?_) ?_ | refine Val.t ?_ | refine Val.d ?_ | refine Mm.mk ?_ | (refine Br.mk (fun h => ?_) (fun h => ?_) <;> first | (exfalso; omega; done) | (exfalso; simp at h; done) | skip))
  refine LoopVC.mk (fun k st => ∃ (q : Nat) (A : Arr) (e : Edg), q ≤ m + 1 ∧ k = m + 1 - q ∧ A.length = q + 1 ∧ e.fr = (if q ≤ m then ((itr P i q : Nat) : Int) else -1) ∧ st = ⟨0, envA 25 [(0, .x (.one (.lst true KE (edgA P)))), (3, .x (.one (.ptr 0 0))), (5, .x (.one (.own 1)))], [some (.box 385 [.int .i64 e.rule, .int .i64 e.pos, .int .i64 e.fr, .int .i64 e.to, .int .i64 e.w]), some (rowT A)]⟩) _ _ ⟨0, [[Cell.int x.rule, Cell.int x.pos]], x, Nat.zero_le _, rfl, rfl, by rw [hx, if_pos (Nat.zero_le _)]; rfl, rfl⟩ ?_ ?_
  · refine ⟨[some 0, some 1], rfl, rfl, ?_, ?_⟩ <;> repeat' (first | exact trivial | exact rfl | exact Iff.rfl | apply And.intro)
  rintro k _ ⟨q, A, e, hq, hk, lA, he, rfl⟩
  by_cases hq' : q ≤ m
  · rw [if_pos hq'] at he
    have g1 := wl q hq'
    obtain ⟨y, hy⟩ : ∃ y, P.getD (itr P i q) e0 = y := ⟨_, rfl⟩
    have yf : y.fr = (if q + 1 ≤ m then ((itr P i (q + 1) : Nat) : Int) else -1) := by
      rw [← hy]
      by_cases h : q + 1 ≤ m
      · rw [if_pos h]; exact (w1 q (by omega)).2
      · rw [if_neg h, show q = m by omega]; exact w3
    have c0 : rI (edgA P) e.fr.toNat 0 = y.rule := by rw [he, Int.toNat_natCast, ← hy]; exact edgA_0 P _
    have c1 : rI (edgA P) e.fr.toNat (0 + 1) = y.pos := by rw [he, Int.toNat_natCast, ← hy]; exact edgA_1 P _
    have c2 : rI (edgA P) e.fr.toNat (0 + 1 + 1) = y.fr := by rw [he, Int.toNat_natCast, ← hy]; exact edgA_2 P _
    have c3 : rI (edgA P) e.fr.toNat (0 + 1 + 1 + 1) = y.to := by rw [he, Int.toNat_natCast, ← hy]; exact edgA_3 P _
    have c4 : rI (edgA P) e.fr.toNat (0 + 1 + 1 + 1 + 1) = y.w := by rw [he, Int.toNat_natCast, ← hy]; exact edgA_4 P _
    repeat' ((conv => whnf); first | rw [c4] | rw [c3] | rw [c2] | rw [c1] | rw [c0] | refine Rng.g ?_ | refine Ob.g ?_ | refine Ob.e ?_ | refine Ob.m ?_ | refine Ob.mk (Nat.le_of_ble_eq_true rfl) ?_ | refine JoinVC.on ?_ | refine Nils.mk (fun h => ?_) ?_ | refine Val.t ?_ | refine Val.d ?_ | refine Mm.mk ?_ | (refine Br.mk (fun h => ?_) (fun h => ?_) <;> first | (exfalso; omega; done) | (exfalso; simp at h; done) | skip))
    repeat refine Mm.mk ?_
    refine Ob.mk (by rw [eb363]; simp only [List.length_cons, List.length_nil]; omega) ?_
    repeat' ((conv => whnf); first | rw [c4] | rw [c3] | rw [c2] | rw [c1] | rw [c0] | refine Rng.g ?_ | refine Ob.g ?_ | refine Ob.e ?_ | refine Ob.m ?_ | refine Ob.mk (Nat.le_of_ble_eq_true rfl) ?_ | refine JoinVC.on ?_ | refine Nils.mk (fun h => ?_) ?_ | refine Val.t ?_ | refine Val.d ?_ | refine Mm.mk ?_ | (refine Br.mk (fun h => ?_) (fun h => ?_) <;> first | (exfalso; omega; done) | (exfalso; simp at h; done) | skip))
    refine Back.mk (m + 1 - (q + 1)) _ (by omega) ⟨q + 1, A ++ [[Cell.int y.rule, Cell.int y.pos]], y, by omega, rfl, by rw [List.length_append, lA]; rfl, yf, rfl⟩ ?_
    refine ⟨[some 0, some 3], rfl, rfl, ?_, ?_⟩ <;> repeat' (first | exact trivial | exact rfl | exact Iff.rfl | apply And.intro)
  · rw [if_neg hq'] at he
    repeat' ((conv => whnf); first | refine Rng.g ?_ | refine Ob.g ?_ | refine Ob.e ?_ | refine Ob.m ?_ | refine Ob.mk (Nat.le_of_ble_eq_true rfl) ?_ | refine JoinVC.on ?_ | refine Nils.mk (fun h => ?_) ?_ | refine Val.t ?_ | refine Val.d ?_ | refine Mm.mk ?_ | (refine Br.mk (fun h => ?_) (fun h => ?_) <;> first | (exfalso; omega; done) | (exfalso; simp at h; done) | skip))
    conv => whnf
    refine CallVC.mk [1] _ _ _ rfl rfl rfl (s305 A (by omega)) (fun r m' h' => ?_)
    obtain ⟨A', lA', rfl, rfl⟩ := h'
    conv => whnf
    repeat' ((conv => whnf); first | refine Rng.g ?_ | refine Ob.g ?_ | refine Ob.e ?_ | refine Ob.m ?_ | refine Ob.mk (Nat.le_of_ble_eq_true rfl) ?_ | refine JoinVC.on ?_ | refine Nils.mk (fun h => ?_) ?_ | refine Val.t ?_ | refine Val.d ?_ | refine Mm.mk ?_ | (refine Br.mk (fun h => ?_) (fun h => ?_) <;> first | (exfalso; omega; done) | (exfalso; simp at h; done) | skip))
    repeat refine Mm.mk ?_
    conv => whnf
    refine EndVC.mk _ rfl _ _ (⟨A', by omega, rfl, rfl⟩) ?_
    refine ⟨[some 1], rfl, rfl, ?_, ?_⟩ <;> repeat' (first | exact trivial | exact rfl | exact Iff.rfl | apply And.intro)
end Go.Sx

namespace Go.Sx
open Go Go.Proofs
set_option maxRecDepth 10000
set_option maxHeartbeats 4000000
def arcF (r per : Int) : Int := (710 * r * (710 * r)) / (113 * per * (113 * per))
theorem sq_rng {a A : Int} (h : 0 ≤ a ∧ a ≤ A) : 0 ≤ a * a ∧ a * a ≤ A * A :=
  ⟨Int.mul_nonneg h.1 h.1, Int.mul_le_mul h.2 h.2 h.1 (by omega)⟩
theorem s286 (t : Trk) (ht : TrkOK t) : PSpec Tryz.prog 286 [tkX t] (.x (I (arcF t.r t.per))) := by
  have hr := ht.r
  have hp := ht.per
  have h1 := sq_rng (a := 710 * t.r) (A := 2977955840) (by omega)
  have h2 := sq_rng (a := 113 * t.per) (A := 7405568) (by omega)
  have h3 : 0 < 113 * t.per * (113 * t.per) := Int.mul_pos (by omega) (by omega)
  refine spec_of pMix (O := []) Tryz.func286 (c := bodyOf Tryz.f286) rfl (by kernel_rfl) (by kernel_rfl) Tryz.ntmps286 (res := [.tmp 2]) (by kernel_rfl) ?_
  have h4 := Int.ediv_nonneg h1.1 (Int.le_of_lt h3)
  have h5 := Int.ediv_le_self (113 * t.per * (113 * t.per)) h1.1
  have f8 : rI (tkA t) 0 (0 + (0 + 1 + 1 + 1 + 1 + 1 + 1 + 1 + 1)) = t.r := rfl
  have f9 : rI (tkA t) 0 (0 + (0 + 1 + 1 + 1 + 1 + 1 + 1 + 1 + 1 + 1)) = t.per := rfl
  repeat' ((conv => whnf); first | rw [f8] | rw [f9] | refine Rng.g ?_ | refine Ob.g ?_ | refine Ob.e ?_ | refine Ob.m ?_ | refine Ob.mk (Nat.le_of_ble_eq_true rfl) ?_ | refine JoinVC.on ?_ | refine Nils.mk (fun h => ?_) ?_ | refine Val.t ?_ | refine Val.d ?_ | refine Mm.mk ?_ | (refine Br.mk (fun h => ?_) (fun h => ?_) <;> first | (exfalso; omega; done) | (exfalso; simp at h; done) | skip))
  repeat refine Mm.mk ?_
  refine EndVC.mk _ rfl _ _ ⟨rfl, rfl⟩ ?_
  refine ⟨[], rfl, rfl, ?_, ?_⟩ <;> repeat' (first | exact trivial | exact rfl | exact Iff.rfl | apply And.intro)
/-- The rules. -/
def brk (t : Trk) (i : Nat) (b a : Bool) : Nat → Prop
  | 1 => (t.p.getD i s0).r - (t.p.getD i s0).l < t.c.thin
  | 2 => (t.p.getD i s0).r - (t.p.getD i s0).l > t.c.wide
  | 3 => 113000 * t.per * stF t.p i b > 710 * t.r * t.c.slope
  | 4 => bdF t.p i b a > t.c.jerk
  | 5 => bdF t.p i b a * t.c.sty > arcF t.r t.per
  | _ => False
instance (t : Trk) (i : Nat) (b a : Bool) (k : Nat) : Decidable (brk t i b a k) := by unfold brk; split <;> exact inferInstance
theorem s213 (t : Trk) (i : Nat) (b a : Bool) (hn : NearOK t.p i b a) : PSpec Tryz.prog 213 [tkX t, nrX t.p i b a] (xP (brk t i b a 1)) := by
  have c1 := s283 t.p i b a hn.h
  have f2 : rI (tkA t) 0 (0 + 0 + (0 + 1 + 1)) = t.c.thin := rfl
  cases b
  all_goals
    cases a
    all_goals
      refine spec_of pMix (O := [(1, ([], [⟨0, [], []⟩, ⟨2, [], []⟩, ⟨3, [], []⟩, ⟨4, [], []⟩, ⟨5, [], []⟩, ⟨6, [], []⟩, ⟨1, [2, 3, 4, 5, 6], []⟩, ⟨7, [], []⟩, ⟨8, [], []⟩]))]) Tryz.func213 (c := bodyOf Tryz.f213) rfl (by kernel_rfl) (by kernel_rfl) Tryz.ntmps213 (res := [.tmp 4]) (by kernel_rfl) ?_
      repeat' ((conv => whnf); first | rw [f2] | refine Rng.g ?_ | refine Ob.g ?_ | refine Ob.e ?_ | refine Ob.m ?_ | refine Ob.mk (Nat.le_of_ble_eq_true rfl) ?_ | refine JoinVC.on ?_ | refine Nils.mk (fun h => ?_) ?_ | refine Val.t ?_ | refine Val.d ?_ | refine Mm.mk ?_ | refine CallVC.pure rfl (c1) ?_ | refine CallVC0.pure rfl (c1) ?_ | (refine Br.mk (fun h => ?_) (fun h => ?_) <;> first | (exfalso; omega; done) | (exfalso; simp at h; done) | skip))
      repeat refine Mm.mk ?_
      refine EndVC.mk _ rfl _ _ ⟨rfl, rfl⟩ ?_
      refine ⟨[], rfl, rfl, ?_, ?_⟩ <;> repeat' (first | exact trivial | exact rfl | exact Iff.rfl | apply And.intro)
theorem s214 (t : Trk) (i : Nat) (b a : Bool) (hn : NearOK t.p i b a) : PSpec Tryz.prog 214 [tkX t, nrX t.p i b a] (xP (brk t i b a 2)) := by
  have c1 := s283 t.p i b a hn.h
  have f2 : rI (tkA t) 0 (0 + 0 + (0 + 1 + 1 + 1)) = t.c.wide := rfl
  cases b
  all_goals
    cases a
    all_goals
      refine spec_of pMix (O := [(1, ([], [⟨0, [], []⟩, ⟨2, [], []⟩, ⟨3, [], []⟩, ⟨4, [], []⟩, ⟨5, [], []⟩, ⟨6, [], []⟩, ⟨1, [2, 3, 4, 5, 6], []⟩, ⟨7, [], []⟩, ⟨8, [], []⟩]))]) Tryz.func214 (c := bodyOf Tryz.f214) rfl (by kernel_rfl) (by kernel_rfl) Tryz.ntmps214 (res := [.tmp 4]) (by kernel_rfl) ?_
      repeat' ((conv => whnf); first | rw [f2] | refine Rng.g ?_ | refine Ob.g ?_ | refine Ob.e ?_ | refine Ob.m ?_ | refine Ob.mk (Nat.le_of_ble_eq_true rfl) ?_ | refine JoinVC.on ?_ | refine Nils.mk (fun h => ?_) ?_ | refine Val.t ?_ | refine Val.d ?_ | refine Mm.mk ?_ | refine CallVC.pure rfl (c1) ?_ | refine CallVC0.pure rfl (c1) ?_ | (refine Br.mk (fun h => ?_) (fun h => ?_) <;> first | (exfalso; omega; done) | (exfalso; simp at h; done) | skip))
      repeat refine Mm.mk ?_
      refine EndVC.mk _ rfl _ _ ⟨rfl, rfl⟩ ?_
      refine ⟨[], rfl, rfl, ?_, ?_⟩ <;> repeat' (first | exact trivial | exact rfl | exact Iff.rfl | apply And.intro)
theorem s215 (t : Trk) (i : Nat) (b a : Bool) (ht : TrkOK t) (hn : NearOK t.p i b a) : PSpec Tryz.prog 215 [tkX t, nrX t.p i b a] (xP (brk t i b a 3)) := by
  have c1 := s284 t.p i b a hn
  have f2 : rI (tkA t) 0 (0 + 0 + (0 + 1 + 1 + 1 + 1)) = t.c.slope := rfl
  have f8 : rI (tkA t) 0 (0 + (0 + 1 + 1 + 1 + 1 + 1 + 1 + 1 + 1)) = t.r := rfl
  have f9 : rI (tkA t) 0 (0 + (0 + 1 + 1 + 1 + 1 + 1 + 1 + 1 + 1 + 1)) = t.per := rfl
  have hr := ht.r
  have hp := ht.per
  have hs := ht.c.slope
  have hst := stF_bd hn
  have h1 := mul_rng (a := 113000 * t.per) (b := stF t.p i b) (A := 7405568000) (B := 8388608) (by omega) hst
  have h2 := mul_rng (a := 710 * t.r) (b := t.c.slope) (A := 2977955840) (B := 10000) (by omega) hs
  cases b
  all_goals
    cases a
    all_goals
      refine spec_of pMix (O := [(1, ([], [⟨0, [], []⟩, ⟨1, [], []⟩, ⟨2, [], []⟩, ⟨3, [], []⟩, ⟨4, [], []⟩, ⟨5, [], []⟩, ⟨8, [], []⟩, ⟨9, [], []⟩, ⟨10, [], []⟩, ⟨11, [], []⟩, ⟨12, [], []⟩, ⟨13, [], []⟩, ⟨14, [], []⟩, ⟨15, [], []⟩, ⟨16, [], []⟩, ⟨17, [], []⟩, ⟨18, [], []⟩, ⟨6, [0, 1, 2, 3, 4, 8, 9, 10, 11, 12, 13, 14, 15, 16, 17, 18], []⟩, ⟨7, [], []⟩, ⟨19, [], []⟩, ⟨20, [], []⟩]))]) Tryz.func215 (c := bodyOf Tryz.f215) rfl (by kernel_rfl) (by kernel_rfl) Tryz.ntmps215 (res := [.tmp 4]) (by kernel_rfl) ?_
      repeat' ((conv => whnf); first | rw [f2] | rw [f8] | rw [f9] | refine Rng.g ?_ | refine Ob.g ?_ | refine Ob.e ?_ | refine Ob.m ?_ | refine Ob.mk (Nat.le_of_ble_eq_true rfl) ?_ | refine JoinVC.on ?_ | refine Nils.mk (fun h => ?_) ?_ | refine Val.t ?_ | refine Val.d ?_ | refine Mm.mk ?_ | refine CallVC.pure rfl (c1) ?_ | refine CallVC0.pure rfl (c1) ?_ | (refine Br.mk (fun h => ?_) (fun h => ?_) <;> first | (exfalso; omega; done) | (exfalso; simp at h; done) | skip))
      repeat refine Mm.mk ?_
      refine EndVC.mk _ rfl _ _ ⟨rfl, rfl⟩ ?_
      refine ⟨[], rfl, rfl, ?_, ?_⟩ <;> repeat' (first | exact trivial | exact rfl | exact Iff.rfl | apply And.intro)
theorem s216 (t : Trk) (i : Nat) (b a : Bool) (hn : NearOK t.p i b a) : PSpec Tryz.prog 216 [tkX t, nrX t.p i b a] (xP (brk t i b a 4)) := by
  have c1 := s285 t.p i b a hn
  have f2 : rI (tkA t) 0 (0 + 0 + (0 + 1 + 1 + 1 + 1 + 1)) = t.c.jerk := rfl
  cases b
  all_goals
    cases a
    all_goals
      refine spec_of pMix (O := [(1, ([], [⟨0, [], []⟩, ⟨2, [], []⟩, ⟨3, [], []⟩, ⟨4, [], []⟩, ⟨5, [], []⟩, ⟨6, [], []⟩, ⟨1, [2, 3, 4, 5, 6], []⟩, ⟨7, [], []⟩, ⟨8, [], []⟩]))]) Tryz.func216 (c := bodyOf Tryz.f216) rfl (by kernel_rfl) (by kernel_rfl) Tryz.ntmps216 (res := [.tmp 4]) (by kernel_rfl) ?_
      repeat' ((conv => whnf); first | rw [f2] | refine Rng.g ?_ | refine Ob.g ?_ | refine Ob.e ?_ | refine Ob.m ?_ | refine Ob.mk (Nat.le_of_ble_eq_true rfl) ?_ | refine JoinVC.on ?_ | refine Nils.mk (fun h => ?_) ?_ | refine Val.t ?_ | refine Val.d ?_ | refine Mm.mk ?_ | refine CallVC.pure rfl (c1) ?_ | refine CallVC0.pure rfl (c1) ?_ | (refine Br.mk (fun h => ?_) (fun h => ?_) <;> first | (exfalso; omega; done) | (exfalso; simp at h; done) | skip))
      repeat refine Mm.mk ?_
      refine EndVC.mk _ rfl _ _ ⟨rfl, rfl⟩ ?_
      refine ⟨[], rfl, rfl, ?_, ?_⟩ <;> repeat' (first | exact trivial | exact rfl | exact Iff.rfl | apply And.intro)
theorem s217 (t : Trk) (i : Nat) (b a : Bool) (ht : TrkOK t) (hn : NearOK t.p i b a) : PSpec Tryz.prog 217 [tkX t, nrX t.p i b a] (xP (brk t i b a 5)) := by
  have c1 := s285 t.p i b a hn
  have c2 := s286 t ht
  have f2 : rI (tkA t) 0 (0 + 0 + (0 + 1 + 1 + 1 + 1 + 1 + 1)) = t.c.sty := rfl
  have hst := bdF_bd hn
  have hs := ht.c.sty
  have h1 := mul_rng (a := bdF t.p i b a) (b := t.c.sty) (A := 16777216) (B := 1024) (by omega) hs
  cases b
  all_goals
    cases a
    all_goals
      refine spec_of pMix (O := [(1, ([], [⟨0, [], []⟩, ⟨2, [], []⟩, ⟨3, [], []⟩, ⟨4, [], []⟩, ⟨5, [], []⟩, ⟨6, [], []⟩, ⟨8, [], []⟩, ⟨1, [2, 3, 4, 5, 6, 8], []⟩, ⟨7, [], []⟩, ⟨9, [2, 3, 4, 5, 6, 7], []⟩, ⟨10, [], []⟩, ⟨11, [], []⟩]))]) Tryz.func217 (c := bodyOf Tryz.f217) rfl (by kernel_rfl) (by kernel_rfl) Tryz.ntmps217 (res := [.tmp 4]) (by kernel_rfl) ?_
      repeat' ((conv => whnf); first | rw [f2] | refine Rng.g ?_ | refine Ob.g ?_ | refine Ob.e ?_ | refine Ob.m ?_ | refine Ob.mk (Nat.le_of_ble_eq_true rfl) ?_ | refine JoinVC.on ?_ | refine Nils.mk (fun h => ?_) ?_ | refine Val.t ?_ | refine Val.d ?_ | refine Mm.mk ?_ | refine CallVC.pure rfl (c1) ?_ | refine CallVC.pure rfl (c2) ?_ | refine CallVC0.pure rfl (c1) ?_ | refine CallVC0.pure rfl (c2) ?_ | (refine Br.mk (fun h => ?_) (fun h => ?_) <;> first | (exfalso; omega; done) | (exfalso; simp at h; done) | skip))
      repeat refine Mm.mk ?_
      refine EndVC.mk _ rfl _ _ ⟨rfl, rfl⟩ ?_
      refine ⟨[], rfl, rfl, ?_, ?_⟩ <;> repeat' (first | exact trivial | exact rfl | exact Iff.rfl | apply And.intro)
/-- The first rule that is broken. -/
def ruleF (t : Trk) (i : Nat) (b a : Bool) : Int := if brk t i b a 1 then 1 else if brk t i b a 2 then 2 else if brk t i b a 3 then 3 else if brk t i b a 4 then 4 else if brk t i b a 5 then 5 else 0
theorem s128 (t : Trk) (i : Nat) (b a : Bool) (ht : TrkOK t) (hn : NearOK t.p i b a) : PSpec Tryz.prog 128 [tkX t, nrX t.p i b a] (.x (I (ruleF t i b a))) := by
  have c1 := s213 t i b a hn
  have c2 := s214 t i b a hn
  have c3 := s215 t i b a ht hn
  have c4 := s216 t i b a hn
  have c5 := s217 t i b a ht hn
  cases b
  all_goals
    cases a
    all_goals
      refine spec_of pMix (O := []) Tryz.func128 (c := bodyOf Tryz.f128) rfl (by kernel_rfl) (by kernel_rfl) Tryz.ntmps128 (res := [.tmp 4]) (by kernel_rfl) ?_
      repeat' ((conv => whnf); first | refine Rng.g ?_ | refine Ob.g ?_ | refine Ob.e ?_ | refine Ob.m ?_ | refine Ob.mk (Nat.le_of_ble_eq_true rfl) ?_ | refine JoinVC.on ?_ | refine Nils.mk (fun h => ?_) ?_ | refine Val.t ?_ | refine Val.d ?_ | refine Mm.mk ?_ | (refine Br.mk (fun h => ?_) (fun h => ?_) <;> first | (exfalso; omega; done) | (exfalso; simp at h; done) | skip))
      refine LoopVC.un 6 ?_
      repeat' ((conv => whnf); first | refine Rng.g ?_ | refine Ob.g ?_ | refine Ob.e ?_ | refine Ob.m ?_ | refine Ob.mk (Nat.le_of_ble_eq_true rfl) ?_ | refine JoinVC.on ?_ | refine Nils.mk (fun h => ?_) ?_ | refine Val.t ?_ | refine Val.d ?_ | refine Mm.mk ?_ | refine CallVC.pure rfl (c1) ?_ | refine CallVC.pure rfl (c2) ?_ | refine CallVC.pure rfl (c3) ?_ | refine CallVC.pure rfl (c4) ?_ | refine CallVC.pure rfl (c5) ?_ | refine CallVC0.pure rfl (c1) ?_ | refine CallVC0.pure rfl (c2) ?_ | refine CallVC0.pure rfl (c3) ?_ | refine CallVC0.pure rfl (c4) ?_ | refine CallVC0.pure rfl (c5) ?_ | (refine Br.mk (fun h => ?_) (fun h => ?_) <;> first | (exfalso; omega; done) | (exfalso; simp at h; done) | skip))
      all_goals
        repeat refine Mm.mk ?_
        refine EndVC.mk _ rfl _ _ ⟨rfl, rfl⟩ ?_
        refine ⟨[], rfl, rfl, ?_, ?_⟩ <;> repeat' (first | exact trivial | exact rfl | exact Iff.rfl | apply And.intro)
        simp [ruleF, *]
end Go.Sx

namespace Go.Sx
open Go Go.Proofs
set_option maxRecDepth 10000
set_option maxHeartbeats 4000000
theorem s129 (t : Trk) (i : Nat) (b a : Bool) (hl : t.p.length ≤ 4096) (hi : i < t.p.length) (hb : b = true ↔ 0 < i) (ha : a = true ↔ i + 1 < t.p.length) : PSpec Tryz.prog 129 [tkX t, I (i : Int)] (.x (nrX t.p i b a)) := by
  have f7 : rA (tkA t) 0 (0 + (0 + 1 + 1 + 1 + 1 + 1 + 1 + 1)) = smpA t.p := rfl
  have lp := smpA_len t.p
  cases b
  all_goals
    have hb' : ¬ 0 < i ∨ 0 < i := by omega
    cases a
    all_goals
      simp only [true_iff, reduceCtorEq, false_iff] at hb ha
      refine spec_of pMix (O := []) Tryz.func129 (c := bodyOf Tryz.f129) rfl (by kernel_rfl) (by kernel_rfl) Tryz.ntmps129 (res := [.cell 4 234]) (by kernel_rfl) ?_
      repeat' ((conv => whnf); first | rw [f7] | refine Rng.g ?_ | refine Ob.g ?_ | refine Ob.e ?_ | refine Ob.m ?_ | refine Ob.mk (Nat.le_of_ble_eq_true rfl) ?_ | refine JoinVC.on ?_ | refine Nils.mk (fun h => ?_) ?_ | refine Val.t ?_ | refine Val.d ?_ | refine Mm.mk ?_ | (refine Br.mk (fun h => ?_) (fun h => ?_) <;> first | (exfalso; omega; done) | (exfalso; simp at h; done) | skip))
      repeat refine Mm.mk ?_
      refine EndVC.mk _ rfl _ _ ⟨rfl, rfl⟩ ?_
      refine ⟨[], rfl, rfl, ?_, ?_⟩ <;> repeat' (first | exact trivial | exact rfl | exact Iff.rfl | apply And.intro)
  all_goals omega
theorem s208 (t : Trk) : HSpec Tryz.prog 208 [tkX t] [] (fun r m' => r = .x (.one (.fn 281 [(0, 0)])) ∧ m' = [some (.box 214 [.lel true KTk (tkA t) 0 0])]) := by
  refine spec_of pMix (O := []) Tryz.func208 (c := bodyOf Tryz.f208) rfl (by kernel_rfl) (by kernel_rfl) Tryz.ntmps208 (res := [.tmp 2]) (by kernel_rfl) ?_
  repeat' ((conv => whnf); first | refine Rng.g ?_ | refine Ob.g ?_ | refine Ob.e ?_ | refine Ob.m ?_ | refine Ob.mk (Nat.le_of_ble_eq_true rfl) ?_ | refine JoinVC.on ?_ | refine Nils.mk (fun h => ?_) ?_ | refine Val.t ?_ | refine Val.d ?_ | refine Mm.mk ?_ | (refine Br.mk (fun h => ?_) (fun h => ?_) <;> first | (exfalso; omega; done) | (exfalso; simp at h; done) | skip))
  repeat refine Mm.mk ?_
  refine EndVC.mk _ rfl _ _ ⟨rfl, rfl⟩ ?_
  refine ⟨[some 0], rfl, rfl, ?_, ?_⟩ <;> repeat' (first | exact trivial | exact rfl | exact Iff.rfl | apply And.intro)
def bB (i : Nat) : Bool := decide (0 < i)
def aB (l : List Smp) (i : Nat) : Bool := decide (i + 1 < l.length)
theorem TrkOK.near {t : Trk} (ht : TrkOK t) {i : Nat} (hi : i < t.p.length) : NearOK t.p i (bB i) (aB t.p i) :=
  ⟨ht.p.each i hi, fun _ => ht.p.each _ (by omega), fun ha => ht.p.each _ (of_decide_eq_true ha)⟩
def ruleAt (t : Trk) (i : Nat) : Int := ruleF t i (bB i) (aB t.p i)
theorem ruleF_rng (t : Trk) (i : Nat) (b a : Bool) : 0 ≤ ruleF t i b a ∧ ruleF t i b a ≤ 5 := by
  unfold ruleF
  repeat' split
  all_goals omega
/-- The fault of a groove. -/
structure FaultIs (t : Trk) (i : Nat) (x : Int) : Prop where
  none : x = 0 → i = 0 ∧ ∀ j, j < t.p.length → ruleAt t j = 0
  some : x ≠ 0 → i < t.p.length ∧ x = ruleAt t i ∧ ∀ j, j < i → ruleAt t j = 0
def cF : Code → Code
  | .seq a _ => a
  | c => c
def cS : Code → Code
  | .seq _ b => b
  | c => c
def cB : Code → Code
  | .block _ c => c
  | c => c
def cAs : Code → Code
  | .rangeFunc _ _ x _ => x
  | c => c
def cBo : Code → Code
  | .rangeFunc _ _ _ b => b
  | c => c
noncomputable def rf116 : Code := cB (cS (cF (cS (bodyOf Tryz.f116))))
theorem s116 (t : Trk) (ht : TrkOK t) : HSpec Tryz.prog 116 [tkX t] [] (fun r m' => ∃ (i : Nat) (x : Int), FaultIs t i x ∧ r = .tup [I (i : Int), I x] ∧ m' = []) := by
  have lp := smpA_len t.p
  have hl := ht.p.len
  have f7 : rA (tkA t) 0 (0 + (0 + 1 + 1 + 1 + 1 + 1 + 1 + 1)) = smpA t.p := rfl
  refine spec_of pMix (O := []) Tryz.func116 (c := bodyOf Tryz.f116) rfl (by kernel_rfl) (by kernel_rfl) Tryz.ntmps116 (res := [.cell 2 3, .cell 3 3]) (by kernel_rfl) ?_
  repeat' ((conv => whnf); first | refine Rng.g ?_ | refine Ob.g ?_ | refine Ob.e ?_ | refine Ob.m ?_ | refine Ob.mk (Nat.le_of_ble_eq_true rfl) ?_ | refine JoinVC.on ?_ | refine Nils.mk (fun h => ?_) ?_ | refine Val.t ?_ | refine Val.d ?_ | refine Mm.mk ?_ | (refine Br.mk (fun h => ?_) (fun h => ?_) <;> first | (exfalso; omega; done) | (exfalso; simp at h; done) | skip))
  conv => whnf
  refine CallVC.mk [] _ _ _ rfl rfl rfl (s208 t) (fun r m' h' => ?_)
  obtain ⟨rfl, rfl⟩ := h'
  conv => whnf
  repeat' ((conv => whnf); first | refine Rng.g ?_ | refine Ob.g ?_ | refine Ob.e ?_ | refine Ob.m ?_ | refine Ob.mk (Nat.le_of_ble_eq_true rfl) ?_ | refine JoinVC.on ?_ | refine Nils.mk (fun h => ?_) ?_ | refine Val.t ?_ | refine Val.d ?_ | refine Mm.mk ?_ | (refine Br.mk (fun h => ?_) (fun h => ?_) <;> first | (exfalso; omega; done) | (exfalso; simp at h; done) | skip))
  change RangeVC _ _ _ _ _
  refine RangeVC.mk e281 (isem_of_awp pMix [] Tryz.func281 (c := bodyOf Tryz.f281) rfl (by kernel_rfl) Tryz.ntmps281 (by kernel_rfl) ?_)
  repeat' ((conv => whnf); first | rw [f7] | refine Rng.g ?_ | refine Ob.g ?_ | refine Ob.e ?_ | refine Ob.m ?_ | refine Ob.mk (Nat.le_of_ble_eq_true rfl) ?_ | refine JoinVC.on ?_ | refine Nils.mk (fun h => ?_) ?_ | refine Val.t ?_ | refine Val.d ?_ | refine Mm.mk ?_ | (refine Br.mk (fun h => ?_) (fun h => ?_) <;> first | (exfalso; omega; done) | (exfalso; simp at h; done) | skip))
  refine LoopVC.mk (fun n st => ∃ (i : Nat), i ≤ t.p.length ∧ n = t.p.length - i ∧ (∀ j, j < i → ruleAt t j = 0) ∧ st = ⟨5, envA 20 [(0, .x (.one (.yld 4))), (1, .x (.one (.ptr 3 0))), (8, .int .i64 (t.p.length : Int)), (9, .int .i64 (i : Int))], [some (.box 214 [.lel true KTk (tkA t) 0 0]), some (.box 3 [.int .i64 0]), some (.box 3 [.int .i64 0]), some (.box 214 [.lel true KTk (tkA t) 0 0]), some (.loop [9, 10] (cAs rf116) (cBo rf116) (envA 18 [(1, .x (.one (.ptr 0 0))), (2, .x (.one (.ptr 1 0))), (3, .x (.one (.ptr 2 0)))]) .ready)]⟩) _ _ ⟨0, Nat.zero_le _, rfl, fun j hj => absurd hj (Nat.not_lt_zero j), rfl⟩ ?_ ?_
  · refine ⟨[some 0, some 1, some 2, some 3, some 4], rfl, rfl, ?_, ?_⟩ <;> repeat' (first | exact trivial | exact rfl | exact Iff.rfl | apply And.intro)
    exact congrArg Int.ofNat lp
  rintro n _ ⟨i, hi, hn, hj, rfl⟩
  by_cases hi' : i < t.p.length
  · have c1 := s129 t i (bB i) (aB t.p i) hl hi' decide_eq_true_iff decide_eq_true_iff
    have c2 := s128 t i (bB i) (aB t.p i) ht (ht.near hi')
    have e : ruleAt t i = ruleF t i (bB i) (aB t.p i) := rfl
    have hr5 := ruleF_rng t i (bB i) (aB t.p i)
    obtain ⟨b, hb⟩ : ∃ b, bB i = b := ⟨_, rfl⟩
    obtain ⟨a, ha⟩ : ∃ a, aB t.p i = a := ⟨_, rfl⟩
    rw [hb, ha] at c1 c2 e hr5
    cases b
    all_goals
      cases a
      all_goals
        repeat' ((conv => whnf); first | refine Rng.g ?_ | refine Ob.g ?_ | refine Ob.e ?_ | refine Ob.m ?_ | refine Ob.mk (Nat.le_of_ble_eq_true rfl) ?_ | refine JoinVC.on ?_ | refine Nils.mk (fun h => ?_) ?_ | refine Val.t ?_ | refine Val.d ?_ | refine Mm.mk ?_ | refine CallVC.pure rfl (c1) ?_ | refine CallVC.pure rfl (c2) ?_ | refine CallVC0.pure rfl (c1) ?_ | refine CallVC0.pure rfl (c2) ?_ | refine YieldVC.mk (rsem_of_awp pMix [] rfl (by kernel_rfl) ?_) | (refine Br.mk (fun h => ?_) (fun h => ?_) <;> first | (exfalso; omega; done) | (exfalso; simp at h; done) | skip))
        · repeat refine Mm.mk ?_
          conv => whnf
          refine EndVC.mk _ rfl _ _ (⟨i, _, ⟨fun h0 => by rw [h0] at h; omega, fun _ => ⟨hi', e.symm, hj⟩⟩, rfl, rfl⟩) ?_
          refine ⟨[], rfl, rfl, ?_, ?_⟩ <;> repeat' (first | exact trivial | exact rfl | exact Iff.rfl | apply And.intro)
        · refine Back.mk (t.p.length - (i + 1)) _ (by omega) ⟨i + 1, by omega, rfl, fun j hj' => ?_, rfl⟩ ?_
          · rcases Nat.lt_succ_iff_lt_or_eq.1 hj' with h' | h'
            · exact hj j h'
            · rw [h', e]; omega
          · refine ⟨[some 0, some 1, some 2, some 3, some 4], rfl, rfl, ?_, ?_⟩ <;> repeat' (first | exact trivial | exact rfl | exact Iff.rfl | apply And.intro)
  · repeat' ((conv => whnf); first | refine Rng.g ?_ | refine Ob.g ?_ | refine Ob.e ?_ | refine Ob.m ?_ | refine Ob.mk (Nat.le_of_ble_eq_true rfl) ?_ | refine JoinVC.on ?_ | refine Nils.mk (fun h => ?_) ?_ | refine Val.t ?_ | refine Val.d ?_ | refine Mm.mk ?_ | (refine Br.mk (fun h => ?_) (fun h => ?_) <;> first | (exfalso; omega; done) | (exfalso; simp at h; done) | skip))
    repeat refine Mm.mk ?_
    conv => whnf
    refine EndVC.mk _ rfl _ _ (⟨0, 0, ⟨fun _ => ⟨rfl, fun j hj' => hj j (by omega)⟩, fun h0 => absurd rfl h0⟩, rfl, rfl⟩) ?_
    refine ⟨[], rfl, rfl, ?_, ?_⟩ <;> repeat' (first | exact trivial | exact rfl | exact Iff.rfl | apply And.intro)
end Go.Sx

namespace Go.Sx
open Go Go.RowKit
/-! ### Rounds and iterators, proved by themselves -/
theorem Fr.le {w w' : World} {R R' : Rp} {M m' m2 : List (Option Blk)} (hf : Fr w R M w' R' m') (h : Le ⟨M.length, [], m'⟩ ⟨M.length, [], m2⟩) : ∃ R2, Fr w R M w' R2 m2 := by
  obtain ⟨R2, hC⟩ := Le_ok h (show Conc w R M ⟨M.length, [], m'⟩ R' { tmps := #[], defers := [] } w' from ⟨hf, rfl, fun i v hv => by simp at hv, Marks.nil .., rfl⟩)
  exact ⟨R2, hC.fr⟩
theorem RSem.le {P : Program} {id : Nat} {args : List XV} {M : List (Option Blk)} {Q Q' : Bool → List (Option Blk) → Prop} (h : RSem P id args M Q) (hq : ∀ b m', Q b m' → ∃ m2, Q' b m2 ∧ Le ⟨M.length, [], m'⟩ ⟨M.length, [], m2⟩) : RSem P id args M Q' := by
  intro w R vs l h1 h2 h3 h4
  obtain ⟨r, e1, e2, e3⟩ := h w R vs l h1 h2 h3 h4
  refine ⟨r, e1, e2, e3.mono ?_⟩
  rintro e w' ⟨b, m', R', rfl, hQ, hf⟩
  obtain ⟨m2, q2, hl⟩ := hq b m' hQ
  obtain ⟨R2, hf2⟩ := hf.le hl
  exact ⟨b, m2, R2, rfl, q2, hf2⟩
theorem ISem.le {P : Program} {f : FuncId} {args : List XV} {M : List (Option Blk)} {Q Q' : List (Option Blk) → Prop} (h : ISem P f args M Q) (hq : ∀ m', Q m' → ∃ m2, Q' m2 ∧ Le ⟨M.length, [], m'⟩ ⟨M.length, [], m2⟩) : ISem P f args M Q' := by
  intro w R vs h1 h2
  refine (h w R vs h1 h2).mono ?_
  rintro e w' ⟨v, m', R', rfl, hQ, hf⟩
  obtain ⟨m2, q2, hl⟩ := hq m' hQ
  obtain ⟨R2, hf2⟩ := hf.le hl
  exact ⟨v, m2, R2, rfl, q2, hf2⟩
theorem RSem.mono {P : Program} {id : Nat} {args : List XV} {M : List (Option Blk)} {Q Q' : Bool → List (Option Blk) → Prop} (h : RSem P id args M Q) (hq : ∀ b m', Q b m' → Q' b m') : RSem P id args M Q' := by
  intro w R vs l h1 h2 h3 h4
  obtain ⟨r, e1, e2, e3⟩ := h w R vs l h1 h2 h3 h4
  refine ⟨r, e1, e2, e3.mono ?_⟩
  rintro e w' ⟨b, m', R', rfl, hQ, hf⟩
  exact ⟨b, m', R', rfl, hq _ _ hQ, hf⟩
theorem ISem.mono {P : Program} {f : FuncId} {args : List XV} {M : List (Option Blk)} {Q Q' : List (Option Blk) → Prop} (h : ISem P f args M Q) (hq : ∀ m', Q m' → Q' m') : ISem P f args M Q' := by
  intro w R vs h1 h2
  refine (h w R vs h1 h2).mono ?_
  rintro e w' ⟨v, m', R', rfl, hQ, hf⟩
  exact ⟨v, m', R', rfl, hq _ hQ, hf⟩
theorem YieldVC.of {P : Program} {id : Nat} {args : List XV} {s : St} {K : AV → St → Prop} {m2 : List (Option Blk)} (h : RSem P id args s.mem (fun b m' => b = true ∧ m' = m2)) (k : K (.x (.one .tt)) ⟨s.k, s.env, m2⟩) : YieldVC P id args s K :=
  .mk (h.mono fun b m' hh => by obtain ⟨rfl, rfl⟩ := hh; exact k)
theorem RangeVC.of {P : Program} {f : FuncId} {args : List XV} {m : List (Option Blk)} {Q Q' : List (Option Blk) → Prop} (he : EntersF P f) (h : ISem P f args m Q') (k : ∀ m', Q' m' → Q m') : RangeVC P f args m Q := .mk he (h.mono k)
end Go.Sx

namespace Go.Sx
open Go Go.Proofs
set_option maxRecDepth 10000
set_option maxHeartbeats 8000000
theorem e304 : EntersF Tryz.prog 304 := enters_of Tryz.func304 (c := bodyOf Tryz.f304) (by kernel_rfl) rfl
def cL : Code → Code
  | .loop c => c
  | c => c
def cC : Code → Code
  | .scope c => c
  | c => c
inductive SeRs (b : Blnk) (p : List Smp) (r : AV) (m' : List (Option Blk)) : Prop
  | bad (A : Arr) (hA : 0 < A.length) (hn : ∀ y, ¬ Feas b p y) (hr : r = .x (.agg [.nils, .own 1])) (hm : m' = [some (bSd b p), some (.row 363 false [.int .i64, .int .i64] A)])
  | ok (R : List Int) (h : Best b p R) (hr : r = .x (.agg [.own 1, .nils])) (hm : m' = [some (bSd b p), some (rowRd R)])
theorem eb385 : Tryz.t385.bytes = 40 := by kernel_rfl
theorem s249 (b : Blnk) (p : List Smp) : HSpec Tryz.prog 249 [.one (.ptr 0 0)] [bSd b p] (fun r m' => r = .x (.one (.fn 304 [(1, 0)])) ∧ m' = [some (bSd b p), some (.box 241 [.ptr 0 0])]) := by
  refine spec_of pMix (O := []) Tryz.func249 (c := bodyOf Tryz.f249) rfl (by kernel_rfl) (by kernel_rfl) Tryz.ntmps249 (res := [.tmp 2]) (by kernel_rfl) ?_
  repeat' ((conv => whnf); first | refine Rng.g ?_ | refine Ob.g ?_ | refine Ob.e ?_ | refine Ob.m ?_ | refine Ob.mk (Nat.le_of_ble_eq_true rfl) ?_ | refine JoinVC.on ?_ | refine Nils.mk (fun h => ?_) ?_ | refine Val.t ?_ | refine Val.d ?_ | refine Mm.mk ?_ | (refine Br.mk (fun h => ?_) (fun h => ?_) <;> first | (exfalso; omega; done) | (exfalso; simp at h; done) | skip))
  repeat refine Mm.mk ?_
  refine EndVC.mk _ rfl _ _ ⟨rfl, rfl⟩ ?_
  refine ⟨[some 0, some 1], rfl, rfl, ?_, ?_⟩ <;> repeat' (first | exact trivial | exact rfl | exact Iff.rfl | apply And.intro)
/-- The first edges at a sample. -/
def Fj (b : Blnk) (p : List Smp) (i j : Nat) : List Edg := (if 0 < j ∧ 0 < i then [eS b i] else []) ++ (if 1 < j ∧ b.per ≤ (i : Int) then [eL b p i] else [])
theorem Fj_1 {b : Blnk} {p : List Smp} {i : Nat} (h : 0 < i) : Fj b p i 1 = Fj b p i 0 ++ [eS b i] := by simp [Fj, h]
theorem Fj_1n {b : Blnk} {p : List Smp} {i : Nat} (h : ¬ 0 < i) : Fj b p i 1 = Fj b p i 0 := by simp [Fj, h]
theorem Fj_2 {b : Blnk} {p : List Smp} {i : Nat} (h : b.per ≤ (i : Int)) : Fj b p i 2 = Fj b p i 1 ++ [eL b p i] := by simp [Fj, h]
theorem Fj_2n {b : Blnk} {p : List Smp} {i : Nat} (h : ¬ b.per ≤ (i : Int)) : Fj b p i 2 = Fj b p i 1 := by simp [Fj, h]
theorem Fj_3 (b : Blnk) (p : List Smp) (i : Nat) : Fj b p i 2 = F1 b p i := by simp [Fj, F1]
theorem Fj_mem {b : Blnk} {p : List Smp} {i j : Nat} (hi : i < p.length) (_hj : j ≤ 2) {e : Edg} (he : e ∈ E1 b p i ++ Fj b p i j) : e ∈ edgs b p := by
  rcases List.mem_append.1 he with h | h
  · obtain ⟨q, hq, h1⟩ := E1_mem.1 h
    refine edgs_mem.2 ⟨q, by omega, ?_⟩
    rcases h1 with h1 | h1
    · exact .inl h1
    · exact .inr (.inl h1)
  · unfold Fj at h
    refine edgs_mem.2 ⟨i, hi, ?_⟩
    rcases List.mem_append.1 h with h | h
    · split at h
      · rename_i h1
        exact .inl ⟨h1.2, by simpa using h⟩
      · simp at h
    · split at h
      · rename_i h1
        exact .inr (.inl ⟨h1.2, by simpa using h⟩)
      · simp at h
theorem Fj_len (b : Blnk) (p : List Smp) {i j : Nat} (hi : i < p.length) (_hj : j ≤ 2) : (E1 b p i ++ Fj b p i j).length ≤ 3 * p.length := by
  have h1 := E1_len b p i
  have h2 : (Fj b p i j).length ≤ 2 := by unfold Fj; split <;> split <;> simp
  rw [List.length_append]
  omega
theorem E2_mem' {b : Blnk} {p : List Smp} {j : Nat} (hj : j ≤ p.length - 1) {e : Edg} (he : e ∈ E1 b p p.length ++ E2 b p.length j) : e ∈ edgs b p := by
  unfold edgs
  rcases List.mem_append.1 he with h | h
  · exact List.mem_append.2 (.inl h)
  · obtain ⟨q, hq, h1⟩ := E2_mem.1 h
    exact List.mem_append.2 (.inr (E2_mem.2 ⟨q, by omega, h1⟩))
theorem E2_len' (b : Blnk) (p : List Smp) {j : Nat} (hj : j ≤ p.length - 1) : (E1 b p p.length ++ E2 b p.length j).length ≤ 3 * p.length := by
  have h1 := E1_len b p p.length
  rw [List.length_append, E2_len]
  omega
/-- What holds in the midst of a round. -/
structure RB (p : List Smp) (S : LSt) : Prop where
  lr : S.R.length = p.length
  lp : S.P.length = p.length
  bd : ∀ v, v < p.length → -9007199254740992 ≤ S.R.getD v 0 ∧ S.R.getD v 0 ≤ 8388608
theorem mid_ok {b : Blnk} {p : List Smp} (hb : BlnkOK b) (hp : PtB p) {k : Nat} {s : LSt} {L : Int} {N : Nat} {t : Nat → Nat} {T : Nat → Int} (hJ : LJp b p [] (k : Int) s L N t T) (hk : k ≤ p.length + 1) (hL : L ≤ 16777216 + 206158430208 * (k : Int)) (F : List Edg) (hF : ∀ e, e ∈ F → e ∈ edgs b p) (hl : F.length ≤ 3 * p.length) : RB p (F.foldl rlx s) := by
  obtain ⟨t', T', h⟩ := LJ.fold (by decide) (edgs_ok hb hp) F hJ hF
  have h4 := hp.len
  refine ⟨h.lr, h.lp, fun v hv => ⟨?_, ?_⟩⟩
  · have := h.lo v hv
    omega
  · have h1 := h.hi v hv
    have h2 := hp.each v hv
    have h3 := hb.rim
    unfold iniF at h1
    omega
noncomputable def rf167 : Code := cB (cS (cF (cS (cS (cC (cB (cF (cL (cB (cS (cF (cS (cS (cS (cS (bodyOf Tryz.f167))))))))))))))))
@[reducible] def bxX (x : Edg) : Blk := .box 385 [.int .i64 x.rule, .int .i64 x.pos, .int .i64 x.fr, .int .i64 x.to, .int .i64 x.w]
@[reducible] noncomputable def M8 (b : Blnk) (p : List Smp) (k : Nat) (V : LSt) : List (Option Blk) := [some (bSd b p), some (.box 282 [.nils, .nils]), some (.box 383 [.own 5]), some (.box 37 [.own 4]), some (rowRd V.R), some (rowEd V.P), some (.box 3 [.int .i64 V.c]), some (.box 241 [.ptr 0 0]), some (.loop [48] (cAs rf167) (cBo rf167) (envA 116 [(0, .x (.one (.ptr 0 0))), (2, .x (.one (.ptr 1 0))), (3, .int .i64 (p.length : Int)), (4, .x (.one (.ptr 3 0))), (5, .x (.one (.ptr 2 0))), (7, .int .i64 (k : Int)), (8, .x (.one (.ptr 6 0))), (46, .x (.one (.ptr 0 0))), (47, .x (.one (.fn 304 [(7, 0)])))]) .ready)]
@[reducible] noncomputable def M9 (b : Blnk) (p : List Smp) (k : Nat) (V : LSt) (x : Edg) : List (Option Blk) := [some (bSd b p), some (.box 282 [.nils, .nils]), some (.box 383 [.own 5]), some (.box 37 [.own 4]), some (rowRd V.R), some (rowEd V.P), some (.box 3 [.int .i64 V.c]), some (.box 241 [.ptr 0 0]), some (.loop [48] (cAs rf167) (cBo rf167) (envA 116 [(0, .x (.one (.ptr 0 0))), (2, .x (.one (.ptr 1 0))), (3, .int .i64 (p.length : Int)), (4, .x (.one (.ptr 3 0))), (5, .x (.one (.ptr 2 0))), (7, .int .i64 (k : Int)), (8, .x (.one (.ptr 6 0))), (46, .x (.one (.ptr 0 0))), (47, .x (.one (.fn 304 [(7, 0)])))]) .ready), some (bxX x)]
/-- A round: an edge is relaxed. -/
theorem rnd167 (b : Blnk) (p : List Smp) (k : Nat) (V : LSt) (x : Edg) (hl : p.length ≤ 4096) (hxE : EOK p.length 16777216 x) (hB : RB p V) : RSem Tryz.prog 8 [x.x] (M9 b p k V x) (fun bb m' => bb = true ∧ m' = M9 b p k (rlx V x) x) := by
  obtain ⟨xf, xt, xn, xw⟩ := hxE
  have gf := i64s_get V.R x.fr.toNat
  have gt := i64s_get V.R x.to.toNat
  have bf := hB.bd x.fr.toNat (by omega)
  have bt := hB.bd x.to.toNat (by omega)
  have lS1 := i64s_len V.R
  have lS2 := edgA_len V.P
  have lS3 := hB.lr
  have lS4 := hB.lp
  refine RSem.le (rsem_of_awp (Q := fun bb m' => ∃ m2, (bb = true ∧ m2 = M9 b p k (rlx V x) x) ∧ Le ⟨(M9 b p k V x).length, [], m'⟩ ⟨(M9 b p k V x).length, [], m2⟩) pMix [(2, ([4, 5], [⟨0, [], [1]⟩, ⟨2, [], [3]⟩, ⟨5, [], []⟩, ⟨4, [], []⟩, ⟨1, [], []⟩, ⟨6, [2], []⟩, ⟨3, [], []⟩, ⟨7, [], []⟩])), (6, ([], [⟨0, [], []⟩, ⟨1, [], []⟩, ⟨2, [], []⟩, ⟨3, [], []⟩, ⟨4, [0, 1], []⟩, ⟨5, [], []⟩, ⟨6, [], []⟩, ⟨7, [], []⟩, ⟨8, [], []⟩, ⟨9, [7], []⟩])), (15, ([], [⟨0, [], []⟩, ⟨1, [], []⟩, ⟨2, [], []⟩, ⟨3, [], []⟩, ⟨4, [], []⟩, ⟨5, [], []⟩, ⟨6, [], []⟩, ⟨7, [], []⟩, ⟨8, [], []⟩, ⟨9, [], []⟩, ⟨10, [], []⟩, ⟨11, [], []⟩, ⟨12, [], []⟩, ⟨13, [], []⟩, ⟨14, [], []⟩, ⟨15, [], []⟩, ⟨16, [], []⟩, ⟨17, [], []⟩, ⟨18, [3, 4, 5, 14, 15, 16], []⟩, ⟨19, [], []⟩, ⟨20, [15, 16], []⟩, ⟨21, [], []⟩]))] rfl (by kernel_rfl) ?_) (fun _ _ h => h)
  by_cases hc : V.R.getD x.to.toNat 0 ≤ V.R.getD x.fr.toNat 0 + x.w
  · have e1 : rlx V x = V := if_pos hc
    rw [e1]
    repeat' ((conv => whnf); first | rw [gf] | rw [gt] | refine Rng.g ?_ | refine Ob.g ?_ | refine Ob.e ?_ | refine Ob.m ?_ | refine Ob.mk (Nat.le_of_ble_eq_true rfl) ?_ | refine JoinVC.on ?_ | refine Nils.mk (fun h => ?_) ?_ | refine Val.t ?_ | refine Val.d ?_ | refine Mm.mk ?_ | (refine Br.mk (fun h => ?_) (fun h => ?_) <;> first | (exfalso; omega; done) | (exfalso; simp at h; done) | skip))
    refine ⟨_, ⟨rfl, rfl⟩, [some 0, some 1, some 2, some 3, some 4, some 5, some 6, some 7, some 8, some 9], rfl, rfl, ?_, ?_⟩ <;> repeat' (first | exact trivial | exact rfl | exact Iff.rfl | apply And.intro)
  · have e1 : rlx V x = ⟨V.R.set x.to.toNat (V.R.getD x.fr.toNat 0 + x.w), V.P.set x.to.toNat x, x.to⟩ := if_neg hc
    have u1 : updRow (i64s V.R) x.to.toNat 0 [Cell.int (V.R.getD x.fr.toNat 0 + x.w)] = i64s (V.R.set x.to.toNat (V.R.getD x.fr.toNat 0 + x.w)) := i64s_upd _ _ _ (by omega)
    have u2 : updRow (edgA V.P) x.to.toNat 0 [Cell.int x.rule, Cell.int x.pos, Cell.int x.fr, Cell.int x.to, Cell.int x.w] = edgA (V.P.set x.to.toNat x) := edgA_set _ _ _ (by omega)
    rw [e1]
    repeat' ((conv => whnf); first | rw [gf] | rw [gt] | rw [u1] | rw [u2] | refine Rng.g ?_ | refine Ob.g ?_ | refine Ob.e ?_ | refine Ob.m ?_ | refine Ob.mk (Nat.le_of_ble_eq_true rfl) ?_ | refine JoinVC.on ?_ | refine Nils.mk (fun h => ?_) ?_ | refine Val.t ?_ | refine Val.d ?_ | refine Mm.mk ?_ | (refine Br.mk (fun h => ?_) (fun h => ?_) <;> first | (exfalso; omega; done) | (exfalso; simp at h; done) | skip))
    refine ⟨_, ⟨rfl, rfl⟩, [some 0, some 1, some 2, some 3, some 4, some 5, some 6, some 7, some 8, some 9], rfl, rfl, ?_, ?_⟩ <;> repeat' (first | exact trivial | exact rfl | exact Iff.rfl | apply And.intro)
end Go.Sx

namespace Go.Sx
open Go Go.Proofs
set_option maxRecDepth 10000
set_option maxHeartbeats 16000000
/-- What the edges do to a search. -/
theorem it304 (b : Blnk) (p : List Smp) (hb : BlnkOK b) (hp : PtB p) (k : Nat) (s : LSt) (hM : ∀ F : List Edg, (∀ e, e ∈ F → e ∈ edgs b p) → F.length ≤ 3 * p.length → RB p (F.foldl rlx s)) : ISem Tryz.prog 304 [.one (.yld 8), .one (.ptr 7 0)] (M8 b p k s) (fun m' => m' = M8 b p k ((edgs b p).foldl rlx s)) := by
  have lp := smpA_len p
  have hl := hp.len
  obtain ⟨Z, hZ⟩ : ∃ Z, (edgs b p).foldl rlx s = Z := ⟨_, rfl⟩
  rw [hZ]
  refine ISem.le (isem_of_awp (Q := fun m' => ∃ m2, m2 = M8 b p k Z ∧ Le ⟨(M8 b p k s).length, [], m'⟩ ⟨(M8 b p k s).length, [], m2⟩) pMix [] Tryz.func304 (c := bodyOf Tryz.f304) rfl (by kernel_rfl) Tryz.ntmps304 (by kernel_rfl) ?_) (fun _ h => h)
  repeat' ((conv => whnf); first | refine Rng.g ?_ | refine Ob.g ?_ | refine Ob.e ?_ | refine Ob.m ?_ | refine Ob.mk (Nat.le_of_ble_eq_true rfl) ?_ | refine JoinVC.on ?_ | refine Nils.mk (fun h => ?_) ?_ | refine Val.t ?_ | refine Val.d ?_ | refine Mm.mk ?_ | (refine Br.mk (fun h => ?_) (fun h => ?_) <;> first | (exfalso; omega; done) | (exfalso; simp at h; done) | skip))
  refine LoopVC.mk (fun m st => ∃ (i : Nat) (S : LSt), i ≤ p.length ∧ m = p.length - i ∧ S = (E1 b p i).foldl rlx s ∧ st = ⟨9, envA 60 [(0, .x (.one (.yld 8))), (1, .x (.one (.ptr 7 0))), (3, .int .i64 (p.length : Int)), (17, .int .i64 (p.length : Int)), (18, .int .i64 (i : Int))], [some (bSd b p), some (.box 282 [.nils, .nils]), some (.box 383 [.own 5]), some (.box 37 [.own 4]), some (rowRd S.R), some (rowEd S.P), some (.box 3 [.int .i64 S.c]), some (.box 241 [.ptr 0 0]), some (.loop [48] (cAs rf167) (cBo rf167) (envA 116 [(0, .x (.one (.ptr 0 0))), (2, .x (.one (.ptr 1 0))), (3, .int .i64 (p.length : Int)), (4, .x (.one (.ptr 3 0))), (5, .x (.one (.ptr 2 0))), (7, .int .i64 (k : Int)), (8, .x (.one (.ptr 6 0))), (46, .x (.one (.ptr 0 0))), (47, .x (.one (.fn 304 [(7, 0)])))]) .ready)]⟩) _ _ ⟨0, s, Nat.zero_le _, rfl, rfl, rfl⟩ ?_ ?_
  · refine ⟨[some 0, some 1, some 2, some 3, some 4, some 5, some 6, some 7, some 8], rfl, rfl, ?_, ?_⟩ <;> repeat' (first | exact trivial | exact rfl | exact Iff.rfl | apply And.intro)
    all_goals exact congrArg Int.ofNat lp
  rintro m _ ⟨i, S, hi, hm, hS, rfl⟩
  by_cases hi' : i < p.length
  · repeat' ((conv => whnf); first | refine Rng.g ?_ | refine Ob.g ?_ | refine Ob.e ?_ | refine Ob.m ?_ | refine Ob.mk (Nat.le_of_ble_eq_true rfl) ?_ | refine JoinVC.on ?_ | refine Nils.mk (fun h => ?_) ?_ | refine Val.t ?_ | refine Val.d ?_ | refine Mm.mk ?_ | (refine Br.mk (fun h => ?_) (fun h => ?_) <;> first | (exfalso; omega; done) | (exfalso; simp at h; done) | skip))
    refine LoopVC.mk (fun m st => ∃ (j : Nat) (V : LSt), j ≤ 2 ∧ m = 2 - j ∧ V = (Fj b p i j).foldl rlx S ∧ st = ⟨9, envA 60 [(0, .x (.one (.yld 8))), (1, .x (.one (.ptr 7 0))), (3, .int .i64 (p.length : Int)), (17, .int .i64 (p.length : Int)), (18, .int .i64 (i : Int)), (4, .int .i64 (i : Int)), (21, .x (.agg [.int .i64 3, .int .i64 5])), (22, .int .i64 (j : Int))], [some (bSd b p), some (.box 282 [.nils, .nils]), some (.box 383 [.own 5]), some (.box 37 [.own 4]), some (rowRd V.R), some (rowEd V.P), some (.box 3 [.int .i64 V.c]), some (.box 241 [.ptr 0 0]), some (.loop [48] (cAs rf167) (cBo rf167) (envA 116 [(0, .x (.one (.ptr 0 0))), (2, .x (.one (.ptr 1 0))), (3, .int .i64 (p.length : Int)), (4, .x (.one (.ptr 3 0))), (5, .x (.one (.ptr 2 0))), (7, .int .i64 (k : Int)), (8, .x (.one (.ptr 6 0))), (46, .x (.one (.ptr 0 0))), (47, .x (.one (.fn 304 [(7, 0)])))]) .ready)]⟩) _ _ ⟨0, S, by decide, rfl, rfl, rfl⟩ ?_ ?_
    · refine ⟨[some 0, some 1, some 2, some 3, some 4, some 5, some 6, some 7, some 8], rfl, rfl, ?_, ?_⟩ <;> repeat' (first | exact trivial | exact rfl | exact Iff.rfl | apply And.intro)
    rintro m' _ ⟨j, V, hj, hm', hV, rfl⟩
    have hB : RB p V := by
      rw [hV, hS, ← List.foldl_append]
      exact hM _ (fun e he => Fj_mem hi' hj he) (Fj_len b p hi' hj)
    have hjc : j = 0 ∨ j = 1 ∨ j = 2 := by omega
    rcases hjc with rfl | rfl | rfl
    · by_cases h0 : 0 < i
      · skip
        obtain ⟨x, hx⟩ : ∃ x, x = eS b i := ⟨_, rfl⟩
        have cx := s248S b p hb hp i hi'
        rw [← hx] at cx
        have hxE : EOK p.length 16777216 x := hx ▸ edgs_ok hb hp _ (edgs_mem.2 ⟨i, hi', .inl ⟨h0, rfl⟩⟩)
        repeat' ((conv => whnf); first | refine Rng.g ?_ | refine Ob.g ?_ | refine Ob.e ?_ | refine Ob.m ?_ | refine Ob.mk (Nat.le_of_ble_eq_true rfl) ?_ | refine JoinVC.on ?_ | refine Nils.mk (fun h => ?_) ?_ | refine Val.t ?_ | refine Val.d ?_ | refine Mm.mk ?_ | (refine Br.mk (fun h => ?_) (fun h => ?_) <;> first | (exfalso; omega; done) | (exfalso; simp at h; done) | skip))
        conv => whnf
        refine CallVC.mk [0] _ _ _ rfl rfl rfl (cx) (fun r m' h' => ?_)
        obtain ⟨rfl, rfl⟩ := h'
        conv => whnf
        repeat' ((conv => whnf); first | refine Rng.g ?_ | refine Ob.g ?_ | refine Ob.e ?_ | refine Ob.m ?_ | refine Ob.mk (Nat.le_of_ble_eq_true rfl) ?_ | refine JoinVC.on ?_ | refine Nils.mk (fun h => ?_) ?_ | refine Val.t ?_ | refine Val.d ?_ | refine Mm.mk ?_ | (refine Br.mk (fun h => ?_) (fun h => ?_) <;> first | (exfalso; omega; done) | (exfalso; simp at h; done) | skip))
        refine YieldVC.of (rnd167 b p k V x hl hxE hB) ?_
        repeat' ((conv => whnf); first | refine Rng.g ?_ | refine Ob.g ?_ | refine Ob.e ?_ | refine Ob.m ?_ | refine Ob.mk (Nat.le_of_ble_eq_true rfl) ?_ | refine JoinVC.on ?_ | refine Nils.mk (fun h => ?_) ?_ | refine Val.t ?_ | refine Val.d ?_ | refine Mm.mk ?_ | (refine Br.mk (fun h => ?_) (fun h => ?_) <;> first | (exfalso; omega; done) | (exfalso; simp at h; done) | skip))
        refine Back.mk (2 - 1) _ (by omega) ⟨1, rlx V x, by omega, rfl, ?_, rfl⟩ ?_
        · rw [Fj_1 h0, List.foldl_append, ← hV, hx]; rfl
        · refine ⟨[some 0, some 1, some 2, some 3, some 4, some 5, some 6, some 7, some 8], rfl, rfl, ?_, ?_⟩ <;> repeat' (first | exact trivial | exact rfl | exact Iff.rfl | apply And.intro)
      · have cx := s248S b p hb hp i hi'
        repeat' ((conv => whnf); first | refine Rng.g ?_ | refine Ob.g ?_ | refine Ob.e ?_ | refine Ob.m ?_ | refine Ob.mk (Nat.le_of_ble_eq_true rfl) ?_ | refine JoinVC.on ?_ | refine Nils.mk (fun h => ?_) ?_ | refine Val.t ?_ | refine Val.d ?_ | refine Mm.mk ?_ | (refine Br.mk (fun h => ?_) (fun h => ?_) <;> first | (exfalso; omega; done) | (exfalso; simp at h; done) | skip))
        conv => whnf
        refine CallVC.mk [0] _ _ _ rfl rfl rfl (cx) (fun r m' h' => ?_)
        obtain ⟨rfl, rfl⟩ := h'
        conv => whnf
        repeat' ((conv => whnf); first | refine Rng.g ?_ | refine Ob.g ?_ | refine Ob.e ?_ | refine Ob.m ?_ | refine Ob.mk (Nat.le_of_ble_eq_true rfl) ?_ | refine JoinVC.on ?_ | refine Nils.mk (fun h => ?_) ?_ | refine Val.t ?_ | refine Val.d ?_ | refine Mm.mk ?_ | (refine Br.mk (fun h => ?_) (fun h => ?_) <;> first | (exfalso; omega; done) | (exfalso; simp at h; done) | skip))
        refine Back.mk (2 - 1) _ (by omega) ⟨1, V, by omega, rfl, ?_, rfl⟩ ?_
        · rw [Fj_1n h0]; exact hV
        · refine ⟨[some 0, some 1, some 2, some 3, some 4, some 5, some 6, some 7, some 8], rfl, rfl, ?_, ?_⟩ <;> repeat' (first | exact trivial | exact rfl | exact Iff.rfl | apply And.intro)
    · by_cases h0 : b.per ≤ (i : Int)
      · skip
        obtain ⟨x, hx⟩ : ∃ x, x = eL b p i := ⟨_, rfl⟩
        have cx := s248L b p hb hp i hi' h0
        rw [← hx] at cx
        have hxE : EOK p.length 16777216 x := hx ▸ edgs_ok hb hp _ (edgs_mem.2 ⟨i, hi', .inr (.inl ⟨h0, rfl⟩)⟩)
        repeat' ((conv => whnf); first | refine Rng.g ?_ | refine Ob.g ?_ | refine Ob.e ?_ | refine Ob.m ?_ | refine Ob.mk (Nat.le_of_ble_eq_true rfl) ?_ | refine JoinVC.on ?_ | refine Nils.mk (fun h => ?_) ?_ | refine Val.t ?_ | refine Val.d ?_ | refine Mm.mk ?_ | (refine Br.mk (fun h => ?_) (fun h => ?_) <;> first | (exfalso; omega; done) | (exfalso; simp at h; done) | skip))
        conv => whnf
        refine CallVC.mk [0] _ _ _ rfl rfl rfl (cx) (fun r m' h' => ?_)
        obtain ⟨rfl, rfl⟩ := h'
        conv => whnf
        repeat' ((conv => whnf); first | refine Rng.g ?_ | refine Ob.g ?_ | refine Ob.e ?_ | refine Ob.m ?_ | refine Ob.mk (Nat.le_of_ble_eq_true rfl) ?_ | refine JoinVC.on ?_ | refine Nils.mk (fun h => ?_) ?_ | refine Val.t ?_ | refine Val.d ?_ | refine Mm.mk ?_ | (refine Br.mk (fun h => ?_) (fun h => ?_) <;> first | (exfalso; omega; done) | (exfalso; simp at h; done) | skip))
        refine YieldVC.of (rnd167 b p k V x hl hxE hB) ?_
        repeat' ((conv => whnf); first | refine Rng.g ?_ | refine Ob.g ?_ | refine Ob.e ?_ | refine Ob.m ?_ | refine Ob.mk (Nat.le_of_ble_eq_true rfl) ?_ | refine JoinVC.on ?_ | refine Nils.mk (fun h => ?_) ?_ | refine Val.t ?_ | refine Val.d ?_ | refine Mm.mk ?_ | (refine Br.mk (fun h => ?_) (fun h => ?_) <;> first | (exfalso; omega; done) | (exfalso; simp at h; done) | skip))
        refine Back.mk (2 - 2) _ (by omega) ⟨2, rlx V x, by omega, rfl, ?_, rfl⟩ ?_
        · rw [Fj_2 h0, List.foldl_append, ← hV, hx]; rfl
        · refine ⟨[some 0, some 1, some 2, some 3, some 4, some 5, some 6, some 7, some 8], rfl, rfl, ?_, ?_⟩ <;> repeat' (first | exact trivial | exact rfl | exact Iff.rfl | apply And.intro)
      · have cx := s248N b p hb hp i hi' (by omega)
        repeat' ((conv => whnf); first | refine Rng.g ?_ | refine Ob.g ?_ | refine Ob.e ?_ | refine Ob.m ?_ | refine Ob.mk (Nat.le_of_ble_eq_true rfl) ?_ | refine JoinVC.on ?_ | refine Nils.mk (fun h => ?_) ?_ | refine Val.t ?_ | refine Val.d ?_ | refine Mm.mk ?_ | (refine Br.mk (fun h => ?_) (fun h => ?_) <;> first | (exfalso; omega; done) | (exfalso; simp at h; done) | skip))
        conv => whnf
        refine CallVC.mk [0] _ _ _ rfl rfl rfl (cx) (fun r m' h' => ?_)
        obtain ⟨rfl, rfl⟩ := h'
        conv => whnf
        repeat' ((conv => whnf); first | refine Rng.g ?_ | refine Ob.g ?_ | refine Ob.e ?_ | refine Ob.m ?_ | refine Ob.mk (Nat.le_of_ble_eq_true rfl) ?_ | refine JoinVC.on ?_ | refine Nils.mk (fun h => ?_) ?_ | refine Val.t ?_ | refine Val.d ?_ | refine Mm.mk ?_ | (refine Br.mk (fun h => ?_) (fun h => ?_) <;> first | (exfalso; omega; done) | (exfalso; simp at h; done) | skip))
        refine Back.mk (2 - 2) _ (by omega) ⟨2, V, by omega, rfl, ?_, rfl⟩ ?_
        · rw [Fj_2n h0]; exact hV
        · refine ⟨[some 0, some 1, some 2, some 3, some 4, some 5, some 6, some 7, some 8], rfl, rfl, ?_, ?_⟩ <;> repeat' (first | exact trivial | exact rfl | exact Iff.rfl | apply And.intro)
    · repeat' ((conv => whnf); first | refine Rng.g ?_ | refine Ob.g ?_ | refine Ob.e ?_ | refine Ob.m ?_ | refine Ob.mk (Nat.le_of_ble_eq_true rfl) ?_ | refine JoinVC.on ?_ | refine Nils.mk (fun h => ?_) ?_ | refine Val.t ?_ | refine Val.d ?_ | refine Mm.mk ?_ | (refine Br.mk (fun h => ?_) (fun h => ?_) <;> first | (exfalso; omega; done) | (exfalso; simp at h; done) | skip))
      refine Back.mk (p.length - (i + 1)) _ (by omega) ⟨i + 1, V, by omega, rfl, ?_, rfl⟩ ?_
      · rw [E1_succ, List.foldl_append, ← hS, ← Fj_3]; exact hV
      · refine ⟨[some 0, some 1, some 2, some 3, some 4, some 5, some 6, some 7, some 8], rfl, rfl, ?_, ?_⟩ <;> repeat' (first | exact trivial | exact rfl | exact Iff.rfl | apply And.intro)
  have ei : i = p.length := by omega
  subst ei
  repeat' ((conv => whnf); first | refine Rng.g ?_ | refine Ob.g ?_ | refine Ob.e ?_ | refine Ob.m ?_ | refine Ob.mk (Nat.le_of_ble_eq_true rfl) ?_ | refine JoinVC.on ?_ | refine Nils.mk (fun h => ?_) ?_ | refine Val.t ?_ | refine Val.d ?_ | refine Mm.mk ?_ | (refine Br.mk (fun h => ?_) (fun h => ?_) <;> first | (exfalso; omega; done) | (exfalso; simp at h; done) | skip))
  refine LoopVC.mk (fun m st => ∃ (j : Nat) (V : LSt), j ≤ p.length - 1 ∧ m = p.length - 1 - j ∧ V = (E2 b p.length j).foldl rlx S ∧ st = ⟨9, envA 60 [(0, .x (.one (.yld 8))), (1, .x (.one (.ptr 7 0))), (3, .int .i64 (p.length : Int)), (9, .int .i64 ((p.length : Int) - 1 - (j : Int)))], [some (bSd b p), some (.box 282 [.nils, .nils]), some (.box 383 [.own 5]), some (.box 37 [.own 4]), some (rowRd V.R), some (rowEd V.P), some (.box 3 [.int .i64 V.c]), some (.box 241 [.ptr 0 0]), some (.loop [48] (cAs rf167) (cBo rf167) (envA 116 [(0, .x (.one (.ptr 0 0))), (2, .x (.one (.ptr 1 0))), (3, .int .i64 (p.length : Int)), (4, .x (.one (.ptr 3 0))), (5, .x (.one (.ptr 2 0))), (7, .int .i64 (k : Int)), (8, .x (.one (.ptr 6 0))), (46, .x (.one (.ptr 0 0))), (47, .x (.one (.fn 304 [(7, 0)])))]) .ready)]⟩) _ _ ⟨0, S, by omega, rfl, rfl, rfl⟩ ?_ ?_
  · refine ⟨[some 0, some 1, some 2, some 3, some 4, some 5, some 6, some 7, some 8], rfl, rfl, ?_, ?_⟩ <;> repeat' (first | exact trivial | exact rfl | exact Iff.rfl | apply And.intro)
    all_goals first | exact congrArg Int.ofNat lp | omega
  rintro m' _ ⟨j, V, hj, hm', hV, rfl⟩
  have hB : RB p V := by
    rw [hV, hS, ← List.foldl_append]
    exact hM _ (fun e he => E2_mem' hj he) (E2_len' b p hj)
  by_cases hj' : j < p.length - 1
  · obtain ⟨q, hq⟩ : ∃ q, q = p.length - 1 - j := ⟨_, rfl⟩
    have hqi : (p.length : Int) - 1 - (j : Int) = (q : Int) := by omega
    rw [hqi]
    obtain ⟨x, hx⟩ : ∃ x, x = eF b q := ⟨_, rfl⟩
    have cx := s248F b p hb hp q (by omega)
    rw [← hx] at cx
    have hxE : EOK p.length 16777216 x := hx ▸ edgs_ok hb hp _ (edgs_mem.2 ⟨q, by omega, .inr (.inr ⟨by omega, rfl⟩)⟩)
    repeat' ((conv => whnf); first | refine Rng.g ?_ | refine Ob.g ?_ | refine Ob.e ?_ | refine Ob.m ?_ | refine Ob.mk (Nat.le_of_ble_eq_true rfl) ?_ | refine JoinVC.on ?_ | refine Nils.mk (fun h => ?_) ?_ | refine Val.t ?_ | refine Val.d ?_ | refine Mm.mk ?_ | (refine Br.mk (fun h => ?_) (fun h => ?_) <;> first | (exfalso; omega; done) | (exfalso; simp at h; done) | skip))
    conv => whnf
    refine CallVC.mk [0] _ _ _ rfl rfl rfl (cx) (fun r m' h' => ?_)
    obtain ⟨rfl, rfl⟩ := h'
    conv => whnf
    repeat' ((conv => whnf); first | refine Rng.g ?_ | refine Ob.g ?_ | refine Ob.e ?_ | refine Ob.m ?_ | refine Ob.mk (Nat.le_of_ble_eq_true rfl) ?_ | refine JoinVC.on ?_ | refine Nils.mk (fun h => ?_) ?_ | refine Val.t ?_ | refine Val.d ?_ | refine Mm.mk ?_ | (refine Br.mk (fun h => ?_) (fun h => ?_) <;> first | (exfalso; omega; done) | (exfalso; simp at h; done) | skip))
    refine YieldVC.of (rnd167 b p k V x hl hxE hB) ?_
    repeat' ((conv => whnf); first | refine Rng.g ?_ | refine Ob.g ?_ | refine Ob.e ?_ | refine Ob.m ?_ | refine Ob.mk (Nat.le_of_ble_eq_true rfl) ?_ | refine JoinVC.on ?_ | refine Nils.mk (fun h => ?_) ?_ | refine Val.t ?_ | refine Val.d ?_ | refine Mm.mk ?_ | (refine Br.mk (fun h => ?_) (fun h => ?_) <;> first | (exfalso; omega; done) | (exfalso; simp at h; done) | skip))
    refine Back.mk (p.length - 1 - (j + 1)) _ (by omega) ⟨j + 1, rlx V x, by omega, rfl, ?_, rfl⟩ ?_
    · rw [E2_succ, List.foldl_append, ← hV, hx, hq]; rfl
    · refine ⟨[some 0, some 1, some 2, some 3, some 4, some 5, some 6, some 7, some 8], rfl, rfl, ?_, ?_⟩ <;> repeat' (first | exact trivial | exact rfl | exact Iff.rfl | apply And.intro)
      all_goals omega
  have ej : j = p.length - 1 := by omega
  subst ej
  have eV : V = Z := by
    rw [← hZ]
    unfold edgs
    rw [List.foldl_append, ← hS]
    exact hV
  subst eV
  repeat' ((conv => whnf); first | refine Rng.g ?_ | refine Ob.g ?_ | refine Ob.e ?_ | refine Ob.m ?_ | refine Ob.mk (Nat.le_of_ble_eq_true rfl) ?_ | refine JoinVC.on ?_ | refine Nils.mk (fun h => ?_) ?_ | refine Val.t ?_ | refine Val.d ?_ | refine Mm.mk ?_ | (refine Br.mk (fun h => ?_) (fun h => ?_) <;> first | (exfalso; omega; done) | (exfalso; simp at h; done) | skip))
  refine ⟨_, rfl, [some 0, some 1, some 2, some 3, some 4, some 5, some 6, some 7, some 8], rfl, rfl, ?_, ?_⟩ <;> repeat' (first | exact trivial | exact rfl | exact Iff.rfl | apply And.intro)
end Go.Sx

namespace Go.Sx
open Go Go.Proofs
set_option maxRecDepth 10000
set_option maxHeartbeats 16000000
theorem s167 (b : Blnk) (p : List Smp) (hb : BlnkOK b) (hp : PtB p) : HSpec Tryz.prog 167 [.one (.ptr 0 0)] [bSd b p] (SeRs b p) := by
  have lp := smpA_len p
  have hl := hp.len
  refine spec_of pMix (O := [(2, ([4, 5], [⟨0, [], [1]⟩, ⟨2, [], [3]⟩, ⟨5, [], []⟩, ⟨4, [], []⟩, ⟨1, [], []⟩, ⟨6, [2], []⟩, ⟨3, [], []⟩, ⟨7, [], []⟩])), (6, ([], [⟨0, [], []⟩, ⟨1, [], []⟩, ⟨2, [], []⟩, ⟨3, [], []⟩, ⟨4, [0, 1], []⟩, ⟨5, [], []⟩, ⟨6, [], []⟩, ⟨7, [], []⟩, ⟨8, [], []⟩, ⟨9, [7], []⟩])), (15, ([], [⟨0, [], []⟩, ⟨1, [], []⟩, ⟨2, [], []⟩, ⟨3, [], []⟩, ⟨4, [], []⟩, ⟨5, [], []⟩, ⟨6, [], []⟩, ⟨7, [], []⟩, ⟨8, [], []⟩, ⟨9, [], []⟩, ⟨10, [], []⟩, ⟨11, [], []⟩, ⟨12, [], []⟩, ⟨13, [], []⟩, ⟨14, [], []⟩, ⟨15, [], []⟩, ⟨16, [], []⟩, ⟨17, [], []⟩, ⟨18, [3, 4, 5, 14, 15, 16], []⟩, ⟨19, [], []⟩, ⟨20, [15, 16], []⟩, ⟨21, [], []⟩]))]) Tryz.func167 (c := bodyOf Tryz.f167) rfl (by kernel_rfl) (by kernel_rfl) Tryz.ntmps167 (res := [.cell 2 282]) (by kernel_rfl) ?_
  repeat' ((conv => whnf); first | refine Rng.g ?_ | refine Ob.g ?_ | refine Ob.e ?_ | refine Ob.m ?_ | refine Ob.mk (Nat.le_of_ble_eq_true rfl) ?_ | refine JoinVC.on ?_ | refine Nils.mk (fun h => ?_) ?_ | refine Val.t ?_ | refine Val.d ?_ | refine Mm.mk ?_ | (refine Br.mk (fun h => ?_) (fun h => ?_) <;> first | (exfalso; omega; done) | (exfalso; simp at h; done) | skip))
  repeat refine Mm.mk ?_
  refine Ob.mk (by rw [eb2]; omega) ?_
  repeat' ((conv => whnf); first | refine Rng.g ?_ | refine Ob.g ?_ | refine Ob.e ?_ | refine Ob.m ?_ | refine Ob.mk (Nat.le_of_ble_eq_true rfl) ?_ | refine JoinVC.on ?_ | refine Nils.mk (fun h => ?_) ?_ | refine Val.t ?_ | refine Val.d ?_ | refine Mm.mk ?_ | (refine Br.mk (fun h => ?_) (fun h => ?_) <;> first | (exfalso; omega; done) | (exfalso; simp at h; done) | skip))
  repeat refine Mm.mk ?_
  refine Ob.mk (by rw [eb385]; omega) ?_
  repeat' ((conv => whnf); first | refine Rng.g ?_ | refine Ob.g ?_ | refine Ob.e ?_ | refine Ob.m ?_ | refine Ob.mk (Nat.le_of_ble_eq_true rfl) ?_ | refine JoinVC.on ?_ | refine Nils.mk (fun h => ?_) ?_ | refine Val.t ?_ | refine Val.d ?_ | refine Mm.mk ?_ | (refine Br.mk (fun h => ?_) (fun h => ?_) <;> first | (exfalso; omega; done) | (exfalso; simp at h; done) | skip))
  repeat refine Mm.mk ?_
  refine Ob.mk (by rw [eb2]; omega) ?_
  repeat' ((conv => whnf); first | refine Rng.g ?_ | refine Ob.g ?_ | refine Ob.e ?_ | refine Ob.m ?_ | refine Ob.mk (Nat.le_of_ble_eq_true rfl) ?_ | refine JoinVC.on ?_ | refine Nils.mk (fun h => ?_) ?_ | refine Val.t ?_ | refine Val.d ?_ | refine Mm.mk ?_ | (refine Br.mk (fun h => ?_) (fun h => ?_) <;> first | (exfalso; omega; done) | (exfalso; simp at h; done) | skip))
  repeat refine Mm.mk ?_
  refine Ob.mk (by rw [eb385]; omega) ?_
  repeat' ((conv => whnf); first | refine Rng.g ?_ | refine Ob.g ?_ | refine Ob.e ?_ | refine Ob.m ?_ | refine Ob.mk (Nat.le_of_ble_eq_true rfl) ?_ | refine JoinVC.on ?_ | refine Nils.mk (fun h => ?_) ?_ | refine Val.t ?_ | refine Val.d ?_ | refine Mm.mk ?_ | (refine Br.mk (fun h => ?_) (fun h => ?_) <;> first | (exfalso; omega; done) | (exfalso; simp at h; done) | skip))
  refine LoopVC.mk (fun m st => ∃ (i : Nat) (R : List Int) (P : List Edg), i ≤ p.length ∧ m = p.length - i ∧ R.length = p.length ∧ P.length = p.length ∧ (∀ j, j < i → R.getD j 0 = iniF b p j ∧ P.getD j e0 = eR b p j) ∧ st = ⟨1, envA 116 [(0, .x (.one (.ptr 0 0))), (2, .x (.one (.ptr 1 0))), (3, .int .i64 (p.length : Int)), (4, .x (.one (.ptr 3 0))), (5, .x (.one (.ptr 2 0))), (22, .int .i64 (p.length : Int)), (23, .int .i64 (i : Int))], [some (bSd b p), some (.box 282 [.nils, .nils]), some (.box 383 [.own 5]), some (.box 37 [.own 4]), some (rowRd R), some (rowEd P)]⟩) _ _ ⟨0, List.replicate p.length 0, List.replicate p.length e0, Nat.zero_le _, rfl, List.length_replicate, List.length_replicate, fun j hj => absurd hj (Nat.not_lt_zero j), rfl⟩ ?_ ?_
  · refine ⟨[some 0, some 1, some 2, some 3, some 4, some 5], rfl, rfl, ?_, ?_⟩ <;> repeat' (first | exact trivial | exact rfl | exact Iff.rfl | apply And.intro)
    all_goals first
      | exact congrArg Int.ofNat lp
      | (rw [lp, Int.toNat_natCast]; first | exact i64s_rep _ | exact edgA_rep _)
  rintro m _ ⟨i, R, P, hi, hm, lR, lP, hj, rfl⟩
  have lr := i64s_len R
  have le := edgA_len P
  by_cases hi' : i < p.length
  · have u1 : updRow (edgA P) (i : Int).toNat 0 [Cell.int (eR b p i).rule, Cell.int (eR b p i).pos, Cell.int (eR b p i).fr, Cell.int (eR b p i).to, Cell.int (eR b p i).w] = edgA (P.set i (eR b p i)) := by
      rw [Int.toNat_natCast]
      exact edgA_set P i _ (by omega)
    have le2 := edgA_len (P.set i (eR b p i))
    have lP2 : (P.set i (eR b p i)).length = P.length := List.length_set
    have g4 : rI (edgA (P.set i (eR b p i))) (i : Int).toNat (0 + (0 + 1 + 1 + 1 + 1)) = (eR b p i).w := by
      rw [Int.toNat_natCast]
      exact (edgA_4 _ i).trans (by rw [gset _ _ _ _ _ (by omega), if_pos rfl])
    have u2 : updRow (i64s R) (i : Int).toNat 0 [Cell.int (eR b p i).w] = i64s (R.set i (eR b p i).w) := by
      rw [Int.toNat_natCast]
      exact i64s_upd R i _ (by omega)
    repeat' ((conv => whnf); first | refine Rng.g ?_ | refine Ob.g ?_ | refine Ob.e ?_ | refine Ob.m ?_ | refine Ob.mk (Nat.le_of_ble_eq_true rfl) ?_ | refine JoinVC.on ?_ | refine Nils.mk (fun h => ?_) ?_ | refine Val.t ?_ | refine Val.d ?_ | refine Mm.mk ?_ | (refine Br.mk (fun h => ?_) (fun h => ?_) <;> first | (exfalso; omega; done) | (exfalso; simp at h; done) | skip))
    conv => whnf
    refine CallVC0.on [0] _ _ _ rfl rfl rfl rfl (s248R b p hb hp i hi') (fun r m' h' => ?_)
    obtain ⟨rfl, rfl⟩ := h'
    conv => whnf
    repeat' ((conv => whnf); first | rw [u1] | rw [g4] | rw [u2] | refine Rng.g ?_ | refine Ob.g ?_ | refine Ob.e ?_ | refine Ob.m ?_ | refine Ob.mk (Nat.le_of_ble_eq_true rfl) ?_ | refine JoinVC.on ?_ | refine Nils.mk (fun h => ?_) ?_ | refine Val.t ?_ | refine Val.d ?_ | refine Mm.mk ?_ | (refine Br.mk (fun h => ?_) (fun h => ?_) <;> first | (exfalso; omega; done) | (exfalso; simp at h; done) | skip))
    refine Back.mk (p.length - (i + 1)) _ (by omega) ⟨i + 1, R.set i (eR b p i).w, P.set i (eR b p i), by omega, rfl, by rw [List.length_set]; exact lR, lP2.trans lP, fun j hj' => ?_, rfl⟩ ?_
    · rw [gset _ _ _ _ _ (by omega), gset _ _ _ _ _ (by omega)]
      by_cases hji : j = i
      · rw [if_pos hji, if_pos hji, hji]
        exact ⟨rfl, rfl⟩
      · rw [if_neg hji, if_neg hji]
        exact hj j (by omega)
    · refine ⟨[some 0, some 1, some 2, some 3, some 4, some 5], rfl, rfl, ?_, ?_⟩ <;> repeat' (first | exact trivial | exact rfl | exact Iff.rfl | apply And.intro)
  have ei : i = p.length := by omega
  subst ei
  have h0 := LJ.start hb hp lR lP (fun v hv => (hj v hv).1) (fun v hv => (hj v hv).2)
  repeat' ((conv => whnf); first | refine Rng.g ?_ | refine Ob.g ?_ | refine Ob.e ?_ | refine Ob.m ?_ | refine Ob.mk (Nat.le_of_ble_eq_true rfl) ?_ | refine JoinVC.on ?_ | refine Nils.mk (fun h => ?_) ?_ | refine Val.t ?_ | refine Val.d ?_ | refine Mm.mk ?_ | (refine Br.mk (fun h => ?_) (fun h => ?_) <;> first | (exfalso; omega; done) | (exfalso; simp at h; done) | skip))
  refine LoopVC.mk (fun m st => ∃ (k : Nat) (R : List Int) (P : List Edg) (L : Int) (N : Nat) (t : Nat → Nat) (T : Nat → Int), k ≤ p.length + 1 ∧ m = p.length + 1 - k ∧ LJp b p [] (k : Int) ⟨R, P, -1⟩ L N t T ∧ (L ≤ 16777216 + 206158430208 * (k : Int) ∧ N ≤ 12288 * k) ∧ st = ⟨1, envA 116 [(0, .x (.one (.ptr 0 0))), (2, .x (.one (.ptr 1 0))), (3, .int .i64 (p.length : Int)), (4, .x (.one (.ptr 3 0))), (5, .x (.one (.ptr 2 0))), (7, .int .i64 (k : Int))], [some (bSd b p), some (.box 282 [.nils, .nils]), some (.box 383 [.own 5]), some (.box 37 [.own 4]), some (rowRd R), some (rowEd P)]⟩) _ _ ⟨0, R, P, _, _, _, _, Nat.zero_le _, rfl, h0, ⟨by omega, by omega⟩, rfl⟩ ?_ ?_
  · refine ⟨[some 0, some 1, some 2, some 3, some 4, some 5], rfl, rfl, ?_, ?_⟩ <;> repeat' (first | exact trivial | exact rfl | exact Iff.rfl | apply And.intro)
  clear h0 hj lR lP lr le R P
  rintro m _ ⟨k, R, P, L, N, t, T, hk, hm, hJ, ⟨hL, hN⟩, rfl⟩
  have lR : R.length = p.length := hJ.lr
  have lP : P.length = p.length := hJ.lp
  repeat' ((conv => whnf); first | refine Rng.g ?_ | refine Ob.g ?_ | refine Ob.e ?_ | refine Ob.m ?_ | refine Ob.mk (Nat.le_of_ble_eq_true rfl) ?_ | refine JoinVC.on ?_ | refine Nils.mk (fun h => ?_) ?_ | refine Val.t ?_ | refine Val.d ?_ | refine Mm.mk ?_ | (refine Br.mk (fun h => ?_) (fun h => ?_) <;> first | (exfalso; omega; done) | (exfalso; simp at h; done) | skip))
  conv => whnf
  refine CallVC.mk [0] _ _ _ rfl rfl rfl (s249 b p) (fun r m' h' => ?_)
  obtain ⟨rfl, rfl⟩ := h'
  conv => whnf
  repeat' ((conv => whnf); first | refine Rng.g ?_ | refine Ob.g ?_ | refine Ob.e ?_ | refine Ob.m ?_ | refine Ob.mk (Nat.le_of_ble_eq_true rfl) ?_ | refine JoinVC.on ?_ | refine Nils.mk (fun h => ?_) ?_ | refine Val.t ?_ | refine Val.d ?_ | refine Mm.mk ?_ | (refine Br.mk (fun h => ?_) (fun h => ?_) <;> first | (exfalso; omega; done) | (exfalso; simp at h; done) | skip))
  change RangeVC _ _ _ _ _
  have hM : ∀ F : List Edg, (∀ e, e ∈ F → e ∈ edgs b p) → F.length ≤ 3 * p.length → RB p (F.foldl rlx ⟨R, P, -1⟩) := fun F h1 h2 => mid_ok hb hp hJ hk hL F h1 h2
  refine RangeVC.of e304 (it304 b p hb hp k ⟨R, P, -1⟩ hM) ?_
  rintro _ rfl
  obtain ⟨t', T', hJ'⟩ := LJ.fold (by decide) (edgs_ok hb hp) (edgs b p) hJ (fun e h => h)
  have hE := edgs_len b p
  have hB := hM (edgs b p) (fun e h => h) hE
  obtain ⟨Z, hZ⟩ : ∃ Z, (edgs b p).foldl rlx ⟨R, P, -1⟩ = Z := ⟨_, rfl⟩
  rw [hZ] at hJ' hB ⊢
  clear hZ hM hJ lR lP
  obtain ⟨ZR, ZP, Zc⟩ := Z
  have lZ1 : ZR.length = p.length := hJ'.lr
  have lZ2 : ZP.length = p.length := hJ'.lp
  have lZ3 := i64s_len ZR
  have lZ4 := edgA_len ZP
  have hbd : ∀ v, v < p.length → -9007199254740992 ≤ ZR.getD v 0 ∧ ZR.getD v 0 ≤ 8388608 := hB.bd
  by_cases hc0 : Zc = -1
  · have hf : ∀ e, e ∈ edgs b p → ZR.getD e.to.toNat 0 ≤ ZR.getD e.fr.toNat 0 + e.w := by
      rcases hJ'.c with ⟨_, h2⟩ | ⟨h2, _⟩
      · exact fun e he => h2 e (by simp [he])
      · exact absurd (show (0 : Int) ≤ Zc from h2) (by omega)
    subst hc0
    repeat' ((conv => whnf); first | refine Rng.g ?_ | refine Ob.g ?_ | refine Ob.e ?_ | refine Ob.m ?_ | refine Ob.mk (Nat.le_of_ble_eq_true rfl) ?_ | refine JoinVC.on ?_ | refine Nils.mk (fun h => ?_) ?_ | refine Val.t ?_ | refine Val.d ?_ | refine Mm.mk ?_ | (refine Br.mk (fun h => ?_) (fun h => ?_) <;> first | (exfalso; omega; done) | (exfalso; simp at h; done) | skip))
    refine LoopVC.mk (fun m st => ∃ (i : Nat), i ≤ p.length ∧ m = p.length - i ∧ (∀ j, j < i → 0 ≤ ZR.getD j 0 + ((p.getD j s0).l - b.core)) ∧ st = ⟨1, envA 116 [(0, .x (.one (.ptr 0 0))), (2, .x (.one (.ptr 1 0))), (3, .int .i64 (p.length : Int)), (4, .x (.one (.ptr 3 0))), (5, .x (.one (.ptr 2 0))), (91, .int .i64 (p.length : Int)), (92, .int .i64 (i : Int))], [some (bSd b p), some (.box 282 [.nils, .nils]), some (.box 383 [.own 5]), some (.box 37 [.own 4]), some (rowRd ZR), some (rowEd ZP)]⟩) _ _ ⟨0, Nat.zero_le _, rfl, fun j hj => absurd hj (Nat.not_lt_zero j), rfl⟩ ?_ ?_
    · refine ⟨[some 0, some 1, some 2, some 3, some 4, some 5], rfl, rfl, ?_, ?_⟩ <;> repeat' (first | exact trivial | exact rfl | exact Iff.rfl | apply And.intro)
    rintro m' _ ⟨i, hi, hm', hj, rfl⟩
    have gr : rI (i64s ZR) (i : Int).toNat 0 = ZR.getD i 0 := by rw [Int.toNat_natCast]; exact i64s_get ZR i
    by_cases hi' : i < p.length
    · have hbi := hbd i hi'
      have hpi := hp.each i hi'
      have hcr := hb.core
      have hri := hb.rim
      have ew : (eC b p i).w = (p.getD i s0).l - b.core := rfl
      repeat' ((conv => whnf); first | refine Rng.g ?_ | refine Ob.g ?_ | refine Ob.e ?_ | refine Ob.m ?_ | refine Ob.mk (Nat.le_of_ble_eq_true rfl) ?_ | refine JoinVC.on ?_ | refine Nils.mk (fun h => ?_) ?_ | refine Val.t ?_ | refine Val.d ?_ | refine Mm.mk ?_ | (refine Br.mk (fun h => ?_) (fun h => ?_) <;> first | (exfalso; omega; done) | (exfalso; simp at h; done) | skip))
      conv => whnf
      refine CallVC.mk [0] _ _ _ rfl rfl rfl (s248C b p hb hp i hi') (fun r m' h' => ?_)
      obtain ⟨rfl, rfl⟩ := h'
      conv => whnf
      repeat' ((conv => whnf); first | rw [gr] | refine Rng.g ?_ | refine Ob.g ?_ | refine Ob.e ?_ | refine Ob.m ?_ | refine Ob.mk (Nat.le_of_ble_eq_true rfl) ?_ | refine JoinVC.on ?_ | refine Nils.mk (fun h => ?_) ?_ | refine Val.t ?_ | refine Val.d ?_ | refine Mm.mk ?_ | (refine Br.mk (fun h => ?_) (fun h => ?_) <;> first | (exfalso; omega; done) | (exfalso; simp at h; done) | skip))
      · obtain ⟨q, hq1, hq2⟩ := hJ'.way (edgs_ok hb hp) hf (t' i) i (Nat.le_refl _) hi'
        have hq3 := hJ'.tm i
        have hw : Way ZP.length ZP i q := by rw [lZ2]; exact hq2
        conv => whnf
        refine CallVC.mk [] _ _ _ rfl rfl rfl (s251 ZP (eC b p i) i q (by omega) rfl hw (by omega)) (fun r m' h' => ?_)
        obtain ⟨A, hA, rfl, rfl⟩ := h'
        conv => whnf
        repeat' ((conv => whnf); first | refine Rng.g ?_ | refine Ob.g ?_ | refine Ob.e ?_ | refine Ob.m ?_ | refine Ob.mk (Nat.le_of_ble_eq_true rfl) ?_ | refine JoinVC.on ?_ | refine Nils.mk (fun h => ?_) ?_ | refine Val.t ?_ | refine Val.d ?_ | refine Mm.mk ?_ | (refine Br.mk (fun h => ?_) (fun h => ?_) <;> first | (exfalso; omega; done) | (exfalso; simp at h; done) | skip))
        repeat refine Mm.mk ?_
        conv => whnf
        refine EndVC.mk _ rfl _ _ (.bad A hA (fun y => hJ'.none hi' (show ZR.getD i 0 + ((p.getD i s0).l - b.core) < 0 by omega) y) rfl rfl) ?_
        refine ⟨[some 0, some 7], rfl, rfl, ?_, ?_⟩ <;> repeat' (first | exact trivial | exact rfl | exact Iff.rfl | apply And.intro)
      · refine Back.mk (p.length - (i + 1)) _ (by omega) ⟨i + 1, by omega, rfl, fun j hj' => ?_, rfl⟩ ?_
        · rcases Nat.lt_succ_iff_lt_or_eq.1 hj' with h' | rfl
          · exact hj j h'
          · omega
        · refine ⟨[some 0, some 1, some 2, some 3, some 4, some 5], rfl, rfl, ?_, ?_⟩ <;> repeat' (first | exact trivial | exact rfl | exact Iff.rfl | apply And.intro)
    · repeat' ((conv => whnf); first | refine Rng.g ?_ | refine Ob.g ?_ | refine Ob.e ?_ | refine Ob.m ?_ | refine Ob.mk (Nat.le_of_ble_eq_true rfl) ?_ | refine JoinVC.on ?_ | refine Nils.mk (fun h => ?_) ?_ | refine Val.t ?_ | refine Val.d ?_ | refine Mm.mk ?_ | (refine Br.mk (fun h => ?_) (fun h => ?_) <;> first | (exfalso; omega; done) | (exfalso; simp at h; done) | skip))
      repeat refine Mm.mk ?_
      conv => whnf
      refine EndVC.mk _ rfl _ _ (.ok ZR (hJ'.fin hf (fun j hj' => hj j (by omega))) rfl rfl) ?_
      refine ⟨[some 0, some 4], rfl, rfl, ?_, ?_⟩ <;> repeat' (first | exact trivial | exact rfl | exact Iff.rfl | apply And.intro)
  · obtain ⟨z, hz⟩ : ∃ z : Nat, Zc = (z : Int) := by
      rcases hJ'.c with ⟨h2, _⟩ | ⟨h2, _⟩
      · exact absurd h2 hc0
      · exact ⟨Zc.toNat, by have : (0 : Int) ≤ Zc := h2; omega⟩
    subst hz
    repeat' ((conv => whnf); first | refine Rng.g ?_ | refine Ob.g ?_ | refine Ob.e ?_ | refine Ob.m ?_ | refine Ob.mk (Nat.le_of_ble_eq_true rfl) ?_ | refine JoinVC.on ?_ | refine Nils.mk (fun h => ?_) ?_ | refine Val.t ?_ | refine Val.d ?_ | refine Mm.mk ?_ | (refine Br.mk (fun h => ?_) (fun h => ?_) <;> first | (exfalso; omega; done) | (exfalso; simp at h; done) | skip))
    · have hC : Circ ZP.length ZP z := by
        have := hJ'.circ (edgs_ok hb hp) (by omega) hc0
        rw [lZ2]
        exact this
      conv => whnf
      refine CallVC.mk [] _ _ _ rfl rfl rfl (s250 ZP z (by omega) hC) (fun r m' h' => ?_)
      obtain ⟨A, hA, rfl, rfl⟩ := h'
      conv => whnf
      repeat' ((conv => whnf); first | refine Rng.g ?_ | refine Ob.g ?_ | refine Ob.e ?_ | refine Ob.m ?_ | refine Ob.mk (Nat.le_of_ble_eq_true rfl) ?_ | refine JoinVC.on ?_ | refine Nils.mk (fun h => ?_) ?_ | refine Val.t ?_ | refine Val.d ?_ | refine Mm.mk ?_ | (refine Br.mk (fun h => ?_) (fun h => ?_) <;> first | (exfalso; omega; done) | (exfalso; simp at h; done) | skip))
      repeat refine Mm.mk ?_
      conv => whnf
      refine EndVC.mk _ rfl _ _ (.bad A hA (fun y => hJ'.none' hb hp (by omega) hc0 y) rfl rfl) ?_
      refine ⟨[some 0, some 9], rfl, rfl, ?_, ?_⟩ <;> repeat' (first | exact trivial | exact rfl | exact Iff.rfl | apply And.intro)
    · refine Back.mk (p.length + 1 - (k + 1)) _ (by omega) ⟨k + 1, ZR, ZP, _, _, _, _, by omega, rfl, hJ'.next (fun e he => by simp [he]), ⟨by omega, by omega⟩, rfl⟩ ?_
      refine ⟨[some 0, some 1, some 2, some 3, some 4, some 5], rfl, rfl, ?_, ?_⟩ <;> repeat' (first | exact trivial | exact rfl | exact Iff.rfl | apply And.intro)
end Go.Sx

namespace Go.Sx
open Go Go.Proofs
set_option maxRecDepth 10000
set_option maxHeartbeats 4000000
theorem s112 (c : Cut) (l : List Smp) : HSpec Tryz.prog 112 [c.x, lS l] [] (fun r m' => (∃ e, ¬ (CutOK c ∧ PtsOK l) ∧ e ≠ 0 ∧ r = .tup [.one .nilp, I e] ∧ m' = []) ∨ (CutOK c ∧ PtsOK l ∧ r = .tup [.one (.ptr 0 0), I 0] ∧ m' = [some (bTk ⟨c, l, 0, 0⟩)])) := by
  have v1 := s105 c
  have v2 := s153 l
  by_cases hC : ¬ CutOK c
  · refine spec_of pMix (O := []) Tryz.func112 (c := bodyOf Tryz.f112) rfl (by kernel_rfl) (by kernel_rfl) Tryz.ntmps112 (res := [.tmp 4, .tmp 5]) (by kernel_rfl) ?_
    repeat' ((conv => whnf); first | refine Rng.g ?_ | refine Ob.g ?_ | refine Ob.e ?_ | refine Ob.m ?_ | refine Ob.mk (Nat.le_of_ble_eq_true rfl) ?_ | refine JoinVC.on ?_ | refine Nils.mk (fun h => ?_) ?_ | refine Val.t ?_ | refine Val.d ?_ | refine Mm.mk ?_ | (refine Br.mk (fun h => ?_) (fun h => ?_) <;> first | (exfalso; omega; done) | (exfalso; simp at h; done) | skip))
    conv => whnf
    refine CallVC.mk [] _ _ _ rfl rfl rfl (v1) (fun r m' h' => ?_)
    obtain ⟨e, rfl, rfl, he⟩ := h'
    conv => whnf
    have he0 : e ≠ 0 := fun h0 => hC (he.1 h0)
    repeat' ((conv => whnf); first | refine Rng.g ?_ | refine Ob.g ?_ | refine Ob.e ?_ | refine Ob.m ?_ | refine Ob.mk (Nat.le_of_ble_eq_true rfl) ?_ | refine JoinVC.on ?_ | refine Nils.mk (fun h => ?_) ?_ | refine Val.t ?_ | refine Val.d ?_ | refine Mm.mk ?_ | (refine Br.mk (fun h => ?_) (fun h => ?_) <;> first | (exfalso; omega; done) | (exfalso; simp at h; done) | skip))
    repeat refine Mm.mk ?_
    conv => whnf
    refine EndVC.mk _ rfl _ _ (.inl ⟨e, fun h => hC h.1, he0, rfl, rfl⟩) ?_
    refine ⟨[], rfl, rfl, ?_, ?_⟩ <;> repeat' (first | exact trivial | exact rfl | exact Iff.rfl | apply And.intro)
  replace hC := Classical.not_not.1 hC
  by_cases hP : ¬ PtsOK l
  · refine spec_of pMix (O := []) Tryz.func112 (c := bodyOf Tryz.f112) rfl (by kernel_rfl) (by kernel_rfl) Tryz.ntmps112 (res := [.tmp 4, .tmp 5]) (by kernel_rfl) ?_
    repeat' ((conv => whnf); first | refine Rng.g ?_ | refine Ob.g ?_ | refine Ob.e ?_ | refine Ob.m ?_ | refine Ob.mk (Nat.le_of_ble_eq_true rfl) ?_ | refine JoinVC.on ?_ | refine Nils.mk (fun h => ?_) ?_ | refine Val.t ?_ | refine Val.d ?_ | refine Mm.mk ?_ | (refine Br.mk (fun h => ?_) (fun h => ?_) <;> first | (exfalso; omega; done) | (exfalso; simp at h; done) | skip))
    conv => whnf
    refine CallVC.mk [] _ _ _ rfl rfl rfl (v1) (fun r m' h' => ?_)
    obtain ⟨e, rfl, rfl, he⟩ := h'
    conv => whnf
    cases he.2 hC
    repeat' ((conv => whnf); first | refine Rng.g ?_ | refine Ob.g ?_ | refine Ob.e ?_ | refine Ob.m ?_ | refine Ob.mk (Nat.le_of_ble_eq_true rfl) ?_ | refine JoinVC.on ?_ | refine Nils.mk (fun h => ?_) ?_ | refine Val.t ?_ | refine Val.d ?_ | refine Mm.mk ?_ | (refine Br.mk (fun h => ?_) (fun h => ?_) <;> first | (exfalso; omega; done) | (exfalso; simp at h; done) | skip))
    conv => whnf
    refine CallVC.mk [] _ _ _ rfl rfl rfl (v2) (fun r m' h' => ?_)
    obtain ⟨e, rfl, rfl, he'⟩ := h'
    conv => whnf
    have he0 : e ≠ 0 := fun h0 => hP (he'.1 h0)
    repeat' ((conv => whnf); first | refine Rng.g ?_ | refine Ob.g ?_ | refine Ob.e ?_ | refine Ob.m ?_ | refine Ob.mk (Nat.le_of_ble_eq_true rfl) ?_ | refine JoinVC.on ?_ | refine Nils.mk (fun h => ?_) ?_ | refine Val.t ?_ | refine Val.d ?_ | refine Mm.mk ?_ | (refine Br.mk (fun h => ?_) (fun h => ?_) <;> first | (exfalso; omega; done) | (exfalso; simp at h; done) | skip))
    repeat refine Mm.mk ?_
    conv => whnf
    refine EndVC.mk _ rfl _ _ (.inl ⟨e, fun h => hP h.2, he0, rfl, rfl⟩) ?_
    refine ⟨[], rfl, rfl, ?_, ?_⟩ <;> repeat' (first | exact trivial | exact rfl | exact Iff.rfl | apply And.intro)
  replace hP := Classical.not_not.1 hP
  refine spec_of pMix (O := []) Tryz.func112 (c := bodyOf Tryz.f112) rfl (by kernel_rfl) (by kernel_rfl) Tryz.ntmps112 (res := [.tmp 4, .tmp 5]) (by kernel_rfl) ?_
  repeat' ((conv => whnf); first | refine Rng.g ?_ | refine Ob.g ?_ | refine Ob.e ?_ | refine Ob.m ?_ | refine Ob.mk (Nat.le_of_ble_eq_true rfl) ?_ | refine JoinVC.on ?_ | refine Nils.mk (fun h => ?_) ?_ | refine Val.t ?_ | refine Val.d ?_ | refine Mm.mk ?_ | (refine Br.mk (fun h => ?_) (fun h => ?_) <;> first | (exfalso; omega; done) | (exfalso; simp at h; done) | skip))
  conv => whnf
  refine CallVC.mk [] _ _ _ rfl rfl rfl (v1) (fun r m' h' => ?_)
  obtain ⟨e, rfl, rfl, he⟩ := h'
  conv => whnf
  cases he.2 hC
  repeat' ((conv => whnf); first | refine Rng.g ?_ | refine Ob.g ?_ | refine Ob.e ?_ | refine Ob.m ?_ | refine Ob.mk (Nat.le_of_ble_eq_true rfl) ?_ | refine JoinVC.on ?_ | refine Nils.mk (fun h => ?_) ?_ | refine Val.t ?_ | refine Val.d ?_ | refine Mm.mk ?_ | (refine Br.mk (fun h => ?_) (fun h => ?_) <;> first | (exfalso; omega; done) | (exfalso; simp at h; done) | skip))
  conv => whnf
  refine CallVC.mk [] _ _ _ rfl rfl rfl (v2) (fun r m' h' => ?_)
  obtain ⟨e, rfl, rfl, he'⟩ := h'
  conv => whnf
  cases he'.2 hP
  repeat' ((conv => whnf); first | refine Rng.g ?_ | refine Ob.g ?_ | refine Ob.e ?_ | refine Ob.m ?_ | refine Ob.mk (Nat.le_of_ble_eq_true rfl) ?_ | refine JoinVC.on ?_ | refine Nils.mk (fun h => ?_) ?_ | refine Val.t ?_ | refine Val.d ?_ | refine Mm.mk ?_ | (refine Br.mk (fun h => ?_) (fun h => ?_) <;> first | (exfalso; omega; done) | (exfalso; simp at h; done) | skip))
  repeat refine Mm.mk ?_
  conv => whnf
  refine EndVC.mk _ rfl _ _ (.inr ⟨hC, hP, rfl, rfl⟩) ?_
  refine ⟨[some 1], rfl, rfl, ?_, ?_⟩ <;> repeat' (first | exact trivial | exact rfl | exact Iff.rfl | apply And.intro)
/-! ### Greater radii are milder -/
def Trk.at (t : Trk) (r : Int) : Trk := ⟨t.c, t.p, r, t.per⟩
theorem arcF_mono {r q per : Int} (h0 : 0 ≤ r) (h : r ≤ q) (hp : 1 ≤ per) : arcF r per ≤ arcF q per := by
  unfold arcF
  refine Int.ediv_le_ediv (Int.mul_pos (by omega) (by omega)) ?_
  exact Int.mul_le_mul (by omega) (by omega) (by omega) (by omega)
theorem brk_mono {t : Trk} (hc : CutOK t.c) (hp : 1 ≤ t.per) {r q : Int} (h0 : 0 ≤ r) (h : r ≤ q) (i : Nat) (b a : Bool) (k : Nat) (hb : brk (t.at q) i b a k) : brk (t.at r) i b a k := by
  have hs := hc.slope
  unfold brk at hb ⊢
  match k with
  | 0 => exact hb
  | 1 => exact hb
  | 2 => exact hb
  | 3 =>
    have : 710 * r * t.c.slope ≤ 710 * q * t.c.slope := Int.mul_le_mul_of_nonneg_right (by omega) hs.1
    simp only [Trk.at] at hb ⊢
    omega
  | 4 => exact hb
  | 5 =>
    have := arcF_mono h0 h hp
    simp only [Trk.at] at hb ⊢
    omega
  | _ + 6 => exact hb
theorem ruleF_0 (t : Trk) (i : Nat) (b a : Bool) : ruleF t i b a = 0 ↔ ¬ brk t i b a 1 ∧ ¬ brk t i b a 2 ∧ ¬ brk t i b a 3 ∧ ¬ brk t i b a 4 ∧ ¬ brk t i b a 5 := by
  unfold ruleF
  repeat' split
  all_goals simp_all
def pN (t : Trk) (i : Nat) (r : Int) : Prop := ruleAt (t.at r) i = 0
instance (t : Trk) (i : Nat) (r : Int) : Decidable (pN t i r) := by unfold pN; exact inferInstance
def pL (t : Trk) (r : Int) : Prop := ∀ j, j < t.p.length → pN t j r
open Classical in
noncomputable instance (t : Trk) (r : Int) : Decidable (pL t r) := propDecidable _
theorem pN.mono {t : Trk} (hc : CutOK t.c) (hp : 1 ≤ t.per) {i : Nat} {r q : Int} (h0 : 0 ≤ r) (h : r ≤ q) (hn : pN t i r) : pN t i q := by
  unfold pN ruleAt at hn ⊢
  rw [ruleF_0] at hn ⊢
  obtain ⟨h1, h2, h3, h4, h5⟩ := hn
  exact ⟨fun hb => h1 (brk_mono hc hp h0 h _ _ _ _ hb), fun hb => h2 (brk_mono hc hp h0 h _ _ _ _ hb), fun hb => h3 (brk_mono hc hp h0 h _ _ _ _ hb), fun hb => h4 (brk_mono hc hp h0 h _ _ _ _ hb), fun hb => h5 (brk_mono hc hp h0 h _ _ _ _ hb)⟩
theorem pL.mono {t : Trk} (hc : CutOK t.c) (hp : 1 ≤ t.per) {r q : Int} (h0 : 0 ≤ r) (h : r ≤ q) (hn : pL t r) : pL t q := fun j hj => (hn j hj).mono hc hp h0 h
theorem FaultIs.zero {t : Trk} {i : Nat} {x : Int} (h : FaultIs t i x) : x = 0 ↔ pL t t.r := by
  constructor
  · intro h0 j hj
    exact (h.none h0).2 j hj
  · intro hp
    refine Classical.byContradiction fun h0 => ?_
    obtain ⟨h1, h2, _⟩ := h.some h0
    exact h0 (h2.trans (hp i h1))
/-! ### The least radius of a groove -/
theorem s115 (t : Trk) (ht : TrkOK t) : HSpec Tryz.prog 115 [.one (.ptr 0 0)] [.box 214 [.ptr 1 0], bTk t] (fun r m' => r = xP (pL t t.r) ∧ m' = [some (.box 214 [.ptr 1 0]), some (bTk t)]) := by
  refine spec_of pMix (O := []) Tryz.func115 (c := bodyOf Tryz.f115) rfl (by kernel_rfl) (by kernel_rfl) Tryz.ntmps115 (res := [.tmp 1]) (by kernel_rfl) ?_
  repeat' ((conv => whnf); first | refine Rng.g ?_ | refine Ob.g ?_ | refine Ob.e ?_ | refine Ob.m ?_ | refine Ob.mk (Nat.le_of_ble_eq_true rfl) ?_ | refine JoinVC.on ?_ | refine Nils.mk (fun h => ?_) ?_ | refine Val.t ?_ | refine Val.d ?_ | refine Mm.mk ?_ | (refine Br.mk (fun h => ?_) (fun h => ?_) <;> first | (exfalso; omega; done) | (exfalso; simp at h; done) | skip))
  conv => whnf
  refine CallVC.mk [] _ _ _ rfl rfl rfl (s116 t ht) (fun r m' h' => ?_)
  obtain ⟨i, x, hF, rfl, rfl⟩ := h'
  conv => whnf
  repeat' ((conv => whnf); first | refine Rng.g ?_ | refine Ob.g ?_ | refine Ob.e ?_ | refine Ob.m ?_ | refine Ob.mk (Nat.le_of_ble_eq_true rfl) ?_ | refine JoinVC.on ?_ | refine Nils.mk (fun h => ?_) ?_ | refine Val.t ?_ | refine Val.d ?_ | refine Mm.mk ?_ | (refine Br.mk (fun h => ?_) (fun h => ?_) <;> first | (exfalso; omega; done) | (exfalso; simp at h; done) | skip))
  repeat refine Mm.mk ?_
  refine EndVC.mk _ rfl _ _ ⟨rfl, rfl⟩ ?_
  refine ⟨[some 0, some 1], rfl, rfl, ?_, ?_⟩ <;> repeat' (first | exact trivial | exact rfl | exact Iff.rfl | apply And.intro)
  all_goals exact hF.zero
theorem s207 (t : Trk) (r : Int) (ht : TrkOK (t.at r)) : HSpec Tryz.prog 207 [I r, .one (.ptr 0 0), .one (.ptr 1 0)] [.box 214 [.ptr 2 0], .box 33 [.fn 115 [(3, 0)]], bTk t, .box 214 [.ptr 2 0]] (fun x m' => x = xP (pL t r) ∧ m' = [some (.box 214 [.ptr 2 0]), some (.box 33 [.fn 115 [(3, 0)]]), some (bTk (t.at r)), some (.box 214 [.ptr 2 0])]) := by
  refine spec_of pMix (O := []) Tryz.func207 (c := bodyOf Tryz.f207) rfl (by kernel_rfl) (by kernel_rfl) Tryz.ntmps207 (res := [.tmp 4]) (by kernel_rfl) ?_
  repeat' ((conv => whnf); first | refine Rng.g ?_ | refine Ob.g ?_ | refine Ob.e ?_ | refine Ob.m ?_ | refine Ob.mk (Nat.le_of_ble_eq_true rfl) ?_ | refine JoinVC.on ?_ | refine Nils.mk (fun h => ?_) ?_ | refine Val.t ?_ | refine Val.d ?_ | refine Mm.mk ?_ | (refine Br.mk (fun h => ?_) (fun h => ?_) <;> first | (exfalso; omega; done) | (exfalso; simp at h; done) | skip))
  conv => whnf
  refine CallVC.mk [3, 2] _ _ _ rfl rfl rfl (s115 (t.at r) ht) (fun r m' h' => ?_)
  obtain ⟨rfl, rfl⟩ := h'
  conv => whnf
  repeat' ((conv => whnf); first | refine Rng.g ?_ | refine Ob.g ?_ | refine Ob.e ?_ | refine Ob.m ?_ | refine Ob.mk (Nat.le_of_ble_eq_true rfl) ?_ | refine JoinVC.on ?_ | refine Nils.mk (fun h => ?_) ?_ | refine Val.t ?_ | refine Val.d ?_ | refine Mm.mk ?_ | (refine Br.mk (fun h => ?_) (fun h => ?_) <;> first | (exfalso; omega; done) | (exfalso; simp at h; done) | skip))
  repeat refine Mm.mk ?_
  refine EndVC.mk _ rfl _ _ ⟨rfl, rfl⟩ ?_
  refine ⟨[some 0, some 1, some 2, some 3], rfl, rfl, ?_, ?_⟩ <;> repeat' (first | exact trivial | exact rfl | exact Iff.rfl | apply And.intro)
end Go.Sx

namespace Go.Sx
open Go Go.Proofs
set_option maxRecDepth 10000
set_option maxHeartbeats 8000000
/-- The outermost cut, or none. -/
inductive OuRs (b : Blnk) (p : List Smp) (r : AV) (m' : List (Option Blk)) : Prop
  | bad (e : Int) (h : ¬ (BlnkOK b ∧ PtsOK p)) (he : e ≠ 0) (hr : r = .tup [.one .nils, I e]) (hm : m' = [])
  | none (hb : BlnkOK b) (hp : PtsOK p) (hn : ∀ y, ¬ Feas b p y) (hr : r = .tup [.one .nils, I 15]) (hm : m' = [])
  | ok (hb : BlnkOK b) (hp : PtsOK p) (R : List Int) (h : Best b p R) (hr : r = .tup [.one (.own 0), I 0]) (hm : m' = [some (rowRd R)])
theorem s82 (b : Blnk) (p : List Smp) : HSpec Tryz.prog 82 [b.x, lS p] [] (OuRs b p) := by
  refine spec_of pMix (O := []) Tryz.func82 (c := bodyOf Tryz.f82) rfl (by kernel_rfl) (by kernel_rfl) Tryz.ntmps82 (res := [.tmp 4, .tmp 5]) (by kernel_rfl) ?_
  repeat' ((conv => whnf); first | refine Rng.g ?_ | refine Ob.g ?_ | refine Ob.e ?_ | refine Ob.m ?_ | refine Ob.mk (Nat.le_of_ble_eq_true rfl) ?_ | refine JoinVC.on ?_ | refine Nils.mk (fun h => ?_) ?_ | refine Val.t ?_ | refine Val.d ?_ | refine Mm.mk ?_ | (refine Br.mk (fun h => ?_) (fun h => ?_) <;> first | (exfalso; omega; done) | (exfalso; simp at h; done) | skip))
  conv => whnf
  refine CallVC.mk [] _ _ _ rfl rfl rfl (s135 b p) (fun r m' h' => ?_)
  rcases h' with ⟨e, hn, he, rfl, rfl⟩ | ⟨hb, hp, rfl, rfl⟩
  · repeat' ((conv => whnf); first | refine Rng.g ?_ | refine Ob.g ?_ | refine Ob.e ?_ | refine Ob.m ?_ | refine Ob.mk (Nat.le_of_ble_eq_true rfl) ?_ | refine JoinVC.on ?_ | refine Nils.mk (fun h => ?_) ?_ | refine Val.t ?_ | refine Val.d ?_ | refine Mm.mk ?_ | (refine Br.mk (fun h => ?_) (fun h => ?_) <;> first | (exfalso; omega; done) | (exfalso; simp at h; done) | skip))
    repeat refine Mm.mk ?_
    conv => whnf
    refine EndVC.mk _ rfl _ _ (.bad e hn he rfl rfl) ?_
    refine ⟨[], rfl, rfl, ?_, ?_⟩ <;> repeat' (first | exact trivial | exact rfl | exact Iff.rfl | apply And.intro)
  · repeat' ((conv => whnf); first | refine Rng.g ?_ | refine Ob.g ?_ | refine Ob.e ?_ | refine Ob.m ?_ | refine Ob.mk (Nat.le_of_ble_eq_true rfl) ?_ | refine JoinVC.on ?_ | refine Nils.mk (fun h => ?_) ?_ | refine Val.t ?_ | refine Val.d ?_ | refine Mm.mk ?_ | (refine Br.mk (fun h => ?_) (fun h => ?_) <;> first | (exfalso; omega; done) | (exfalso; simp at h; done) | skip))
    conv => whnf
    refine CallVC.mk [1] _ _ _ rfl rfl rfl (s167 b p hb hp.ptb) (fun r m' h' => ?_)
    cases h' with
    | bad A hA hn hr hm =>
      subst hr hm
      repeat' ((conv => whnf); first | refine Rng.g ?_ | refine Ob.g ?_ | refine Ob.e ?_ | refine Ob.m ?_ | refine Ob.mk (Nat.le_of_ble_eq_true rfl) ?_ | refine JoinVC.on ?_ | refine Nils.mk (fun h => ?_) ?_ | refine Val.t ?_ | refine Val.d ?_ | refine Mm.mk ?_ | (refine Br.mk (fun h => ?_) (fun h => ?_) <;> first | (exfalso; omega; done) | (exfalso; simp at h; done) | skip))
      repeat refine Mm.mk ?_
      conv => whnf
      refine EndVC.mk _ rfl _ _ (.none hb hp hn rfl rfl) ?_
      refine ⟨[], rfl, rfl, ?_, ?_⟩ <;> repeat' (first | exact trivial | exact rfl | exact Iff.rfl | apply And.intro)
    | ok R hR hr hm =>
      subst hr hm
      repeat' ((conv => whnf); first | refine Rng.g ?_ | refine Ob.g ?_ | refine Ob.e ?_ | refine Ob.m ?_ | refine Ob.mk (Nat.le_of_ble_eq_true rfl) ?_ | refine JoinVC.on ?_ | refine Nils.mk (fun h => ?_) ?_ | refine Val.t ?_ | refine Val.d ?_ | refine Mm.mk ?_ | (refine Br.mk (fun h => ?_) (fun h => ?_) <;> first | (exfalso; omega; done) | (exfalso; simp at h; done) | skip))
      repeat refine Mm.mk ?_
      conv => whnf
      refine EndVC.mk _ rfl _ _ (.ok hb hp R hR rfl rfl) ?_
      refine ⟨[some 2], rfl, rfl, ?_, ?_⟩ <;> repeat' (first | exact trivial | exact rfl | exact Iff.rfl | apply And.intro)
/-! ### How much fits -/
@[reducible] def bBl (b : Blnk) : Blk := .box 94 [.int .i64 b.per, .int .i64 b.rim, .int .i64 b.core, .int .i64 b.land, .int .i64 b.slow, .int .i64 b.fast]
@[reducible] def bPs (p : List Smp) : Blk := .box 42 [.lst true KS (smpA p)]
def fitP (b : Blnk) (p : List Smp) (n : Int) : Prop := ∃ y, Feas b (p.take (n.toNat + 1)) y
theorem PtsOK.take {p : List Smp} (h : PtsOK p) (k : Nat) : PtsOK (p.take k) := ⟨by rw [List.length_take]; have := h.len; omega, fun j hj => by
  rw [List.length_take] at hj
  have e : (p.take k).getD j s0 = p.getD j s0 := by simp [List.getD_eq_getElem?_getD, show j < k by omega]
  rw [e]
  exact h.each j (by omega)⟩
theorem smpA_take (p : List Smp) (k : Nat) : (smpA p).take k = smpA (p.take k) := by simp [smpA]
open Classical in
theorem s137 (b : Blnk) (p : List Smp) (hb : BlnkOK b) (hp : PtsOK p) (n : Int) (hn : 0 ≤ n ∧ n < p.length) : HSpec Tryz.prog 137 [I n, .one (.ptr 0 0), .one (.ptr 1 0)] [bBl b, bPs p] (fun r m' => r = xP (¬ fitP b p n) ∧ m' = [some (bBl b), some (bPs p)]) := by
  have lp := smpA_len p
  have hl := hp.len
  have cx : HSpec Tryz.prog 82 [b.x, .one (.lst true KS ((smpA p).take (n + 1).toNat))] [] (OuRs b (p.take (n.toNat + 1))) := by
    rw [smpA_take, show (n + 1).toNat = n.toNat + 1 by omega]
    exact s82 b _
  refine spec_of pMix (O := []) Tryz.func137 (c := bodyOf Tryz.f137) rfl (by kernel_rfl) (by kernel_rfl) Tryz.ntmps137 (res := [.tmp 4]) (by kernel_rfl) ?_
  repeat' ((conv => whnf); first | refine Rng.g ?_ | refine Ob.g ?_ | refine Ob.e ?_ | refine Ob.m ?_ | refine Ob.mk (Nat.le_of_ble_eq_true rfl) ?_ | refine JoinVC.on ?_ | refine Nils.mk (fun h => ?_) ?_ | refine Val.t ?_ | refine Val.d ?_ | refine Mm.mk ?_ | (refine Br.mk (fun h => ?_) (fun h => ?_) <;> first | (exfalso; omega; done) | (exfalso; simp at h; done) | skip))
  conv => whnf
  refine CallVC.mk [] _ _ _ rfl rfl rfl (cx) (fun r m' h' => ?_)
  cases h' with
  | bad e h he hr hm => exact absurd ⟨hb, hp.take _⟩ h
  | none _ _ hN hr hm =>
    subst hr hm
    repeat' ((conv => whnf); first | refine Rng.g ?_ | refine Ob.g ?_ | refine Ob.e ?_ | refine Ob.m ?_ | refine Ob.mk (Nat.le_of_ble_eq_true rfl) ?_ | refine JoinVC.on ?_ | refine Nils.mk (fun h => ?_) ?_ | refine Val.t ?_ | refine Val.d ?_ | refine Mm.mk ?_ | (refine Br.mk (fun h => ?_) (fun h => ?_) <;> first | (exfalso; omega; done) | (exfalso; simp at h; done) | skip))
    repeat refine Mm.mk ?_
    refine EndVC.mk _ rfl _ _ ⟨rfl, rfl⟩ ?_
    refine ⟨[some 0, some 1], rfl, rfl, ?_, ?_⟩ <;> repeat' (first | exact trivial | exact rfl | exact Iff.rfl | apply And.intro)
    show _ ↔ _
    exact ⟨fun _ ⟨y, hy⟩ => hN y hy, fun _ => by decide⟩
  | ok _ _ R hR hr hm =>
    subst hr hm
    repeat' ((conv => whnf); first | refine Rng.g ?_ | refine Ob.g ?_ | refine Ob.e ?_ | refine Ob.m ?_ | refine Ob.mk (Nat.le_of_ble_eq_true rfl) ?_ | refine JoinVC.on ?_ | refine Nils.mk (fun h => ?_) ?_ | refine Val.t ?_ | refine Val.d ?_ | refine Mm.mk ?_ | (refine Br.mk (fun h => ?_) (fun h => ?_) <;> first | (exfalso; omega; done) | (exfalso; simp at h; done) | skip))
    repeat refine Mm.mk ?_
    refine EndVC.mk _ rfl _ _ ⟨rfl, rfl⟩ ?_
    refine ⟨[some 0, some 1], rfl, rfl, ?_, ?_⟩ <;> repeat' (first | exact trivial | exact rfl | exact Iff.rfl | apply And.intro)
    show _ ↔ _
    exact ⟨fun h => absurd rfl h, fun h => absurd ⟨_, hR.ok⟩ h⟩
/-- So many samples fit. -/
structure FitK (b : Blnk) (p : List Smp) (k : Nat) : Prop where
  le : k ≤ p.length
  fit : 0 < k → ∃ y, Feas b (p.take k) y
  no : k < p.length → ∀ y, ¬ Feas b (p.take (k + 1)) y
theorem s136f (b : Blnk) (p : List Smp) (hb : BlnkOK b) (hp : PtsOK p) : HSpec Tryz.prog 136 [I (p.length : Int), .one (.fn 137 [(0, 0), (1, 0)])] [bBl b, bPs p] (fun x m' => ∃ k, FitK b p k ∧ x = .x (I (k : Int)) ∧ m' = [some (bBl b), some (bPs p)]) := by
  have hl := hp.len
  refine spec_of pMix (O := []) Tryz.func136 (c := bodyOf Tryz.f136) rfl (by kernel_rfl) (by kernel_rfl) Tryz.ntmps136 (res := [.tmp 4]) (by kernel_rfl) ?_
  repeat' ((conv => whnf); first | refine Rng.g ?_ | refine Ob.g ?_ | refine Ob.e ?_ | refine Ob.m ?_ | refine Ob.mk (Nat.le_of_ble_eq_true rfl) ?_ | refine JoinVC.on ?_ | refine Nils.mk (fun h => ?_) ?_ | refine Val.t ?_ | refine Val.d ?_ | refine Mm.mk ?_ | (refine Br.mk (fun h => ?_) (fun h => ?_) <;> first | (exfalso; omega; done) | (exfalso; simp at h; done) | skip))
  refine LoopVC.mk (fun n st => ∃ (i' j : Int), (0 ≤ i' ∧ i' ≤ j ∧ j ≤ p.length) ∧ n = (j - i').toNat ∧ (0 < i' → fitP b p (i' - 1)) ∧ (j < p.length → ¬ fitP b p j) ∧ st = ⟨2, envA 26 [(1, .x (.one (.fn 137 [(0, 0), (1, 0)]))), (5, .int .i64 i'), (6, .int .i64 j)], [some (bBl b), some (bPs p)]⟩) _ _ ⟨0, p.length, by omega, rfl, fun h1 => by omega, fun h1 => by omega, rfl⟩ ?_ ?_
  · refine ⟨[some 0, some 1], rfl, rfl, ?_, ?_⟩ <;> repeat' (first | exact trivial | exact rfl | exact Iff.rfl | apply And.intro)
  rintro n _ ⟨i', j, hij, hn, hyes, hno, rfl⟩
  by_cases hlt : i' < j
  · obtain ⟨g, hg⟩ : ∃ g, g = (i' + j) / 2 := ⟨_, rfl⟩
    have h1 : i' ≤ g ∧ g < j := by omega
    repeat' ((conv => whnf); first | refine Rng.g ?_ | refine Ob.g ?_ | refine Ob.e ?_ | refine Ob.m ?_ | refine Ob.mk (Nat.le_of_ble_eq_true rfl) ?_ | refine JoinVC.on ?_ | refine Nils.mk (fun h => ?_) ?_ | refine Val.t ?_ | refine Val.d ?_ | refine Mm.mk ?_ | (refine Br.mk (fun h => ?_) (fun h => ?_) <;> first | (exfalso; omega; done) | (exfalso; simp at h; done) | skip))
    refine Val.mk g (by rw [hg]; rfl) ?_
    repeat' ((conv => whnf); first | refine Rng.g ?_ | refine Ob.g ?_ | refine Ob.e ?_ | refine Ob.m ?_ | refine Ob.mk (Nat.le_of_ble_eq_true rfl) ?_ | refine JoinVC.on ?_ | refine Nils.mk (fun h => ?_) ?_ | refine Val.t ?_ | refine Val.d ?_ | refine Mm.mk ?_ | (refine Br.mk (fun h => ?_) (fun h => ?_) <;> first | (exfalso; omega; done) | (exfalso; simp at h; done) | skip))
    conv => whnf
    refine CallVC.mk [0, 1] _ _ _ rfl rfl rfl (s137 b p hb hp g (by omega)) (fun r m' h' => ?_)
    obtain ⟨rfl, rfl⟩ := h'
    conv => whnf
    repeat' ((conv => whnf); first | refine Rng.g ?_ | refine Ob.g ?_ | refine Ob.e ?_ | refine Ob.m ?_ | refine Ob.mk (Nat.le_of_ble_eq_true rfl) ?_ | refine JoinVC.on ?_ | refine Nils.mk (fun h => ?_) ?_ | refine Val.t ?_ | refine Val.d ?_ | refine Mm.mk ?_ | (refine Br.mk (fun h => ?_) (fun h => ?_) <;> first | (exfalso; omega; done) | (exfalso; simp at h; done) | skip))
    · refine Back.mk (j - (g + 1)).toNat _ (by omega) ⟨g + 1, j, by omega, rfl, fun _ => by rw [Int.add_sub_cancel]; exact Classical.not_not.1 h, hno, rfl⟩ ?_
      refine ⟨[some 0, some 1], rfl, rfl, ?_, ?_⟩ <;> repeat' (first | exact trivial | exact rfl | exact Iff.rfl | apply And.intro)
    · refine Back.mk (g - i').toNat _ (by omega) ⟨i', g, by omega, rfl, hyes, fun _ => Classical.not_not.1 h, rfl⟩ ?_
      refine ⟨[some 0, some 1], rfl, rfl, ?_, ?_⟩ <;> repeat' (first | exact trivial | exact rfl | exact Iff.rfl | apply And.intro)
  · repeat' ((conv => whnf); first | refine Rng.g ?_ | refine Ob.g ?_ | refine Ob.e ?_ | refine Ob.m ?_ | refine Ob.mk (Nat.le_of_ble_eq_true rfl) ?_ | refine JoinVC.on ?_ | refine Nils.mk (fun h => ?_) ?_ | refine Val.t ?_ | refine Val.d ?_ | refine Mm.mk ?_ | (refine Br.mk (fun h => ?_) (fun h => ?_) <;> first | (exfalso; omega; done) | (exfalso; simp at h; done) | skip))
    have e : i' = j := by omega
    subst e
    have ei : i' = (i'.toNat : Int) := by omega
    repeat refine Mm.mk ?_
    conv => whnf
    refine EndVC.mk _ rfl _ _ (⟨i'.toNat, ⟨by omega, fun h2 => (by obtain ⟨y, hy⟩ := hyes (by omega); exact ⟨y, by rw [show i'.toNat = (i' - 1).toNat + 1 by omega]; exact hy⟩), fun h2 y hy => hno (by omega) ⟨y, hy⟩⟩, rfl, rfl⟩) ?_
    refine ⟨[some 0, some 1], rfl, rfl, ?_, ?_⟩ <;> repeat' (first | exact trivial | exact rfl | exact Iff.rfl | apply And.intro)
    exact ei
theorem s52 (b : Blnk) (p : List Smp) (hb : BlnkOK b) (hp : PtsOK p) : HSpec Tryz.prog 52 [b.x, lS p] [] (fun r m' => ∃ k, FitK b p k ∧ r = .tup [I (k : Int), I 0] ∧ m' = []) := by
  have lp := smpA_len p
  refine spec_of pMix (O := []) Tryz.func52 (c := bodyOf Tryz.f52) rfl (by kernel_rfl) (by kernel_rfl) Tryz.ntmps52 (res := [.tmp 4, .tmp 5]) (by kernel_rfl) ?_
  repeat' ((conv => whnf); first | refine Rng.g ?_ | refine Ob.g ?_ | refine Ob.e ?_ | refine Ob.m ?_ | refine Ob.mk (Nat.le_of_ble_eq_true rfl) ?_ | refine JoinVC.on ?_ | refine Nils.mk (fun h => ?_) ?_ | refine Val.t ?_ | refine Val.d ?_ | refine Mm.mk ?_ | (refine Br.mk (fun h => ?_) (fun h => ?_) <;> first | (exfalso; omega; done) | (exfalso; simp at h; done) | skip))
  conv => whnf
  refine CallVC.mk [] _ _ _ rfl rfl rfl (s135 b p) (fun r m' h' => ?_)
  rcases h' with ⟨e, hn, he, rfl, rfl⟩ | ⟨_, _, rfl, rfl⟩
  · exact absurd ⟨hb, hp⟩ hn
  repeat' ((conv => whnf); first | rw [lp] | refine Rng.g ?_ | refine Ob.g ?_ | refine Ob.e ?_ | refine Ob.m ?_ | refine Ob.mk (Nat.le_of_ble_eq_true rfl) ?_ | refine JoinVC.on ?_ | refine Nils.mk (fun h => ?_) ?_ | refine Val.t ?_ | refine Val.d ?_ | refine Mm.mk ?_ | (refine Br.mk (fun h => ?_) (fun h => ?_) <;> first | (exfalso; omega; done) | (exfalso; simp at h; done) | skip))
  conv => whnf
  refine CallVC.mk [0, 1] _ _ _ rfl rfl rfl (s136f b p hb hp) (fun r m' h' => ?_)
  obtain ⟨k, hk, rfl, rfl⟩ := h'
  conv => whnf
  repeat' ((conv => whnf); first | refine Rng.g ?_ | refine Ob.g ?_ | refine Ob.e ?_ | refine Ob.m ?_ | refine Ob.mk (Nat.le_of_ble_eq_true rfl) ?_ | refine JoinVC.on ?_ | refine Nils.mk (fun h => ?_) ?_ | refine Val.t ?_ | refine Val.d ?_ | refine Mm.mk ?_ | (refine Br.mk (fun h => ?_) (fun h => ?_) <;> first | (exfalso; omega; done) | (exfalso; simp at h; done) | skip))
  repeat refine Mm.mk ?_
  conv => whnf
  refine EndVC.mk _ rfl _ _ (⟨k, hk, rfl, rfl⟩) ?_
  refine ⟨[], rfl, rfl, ?_, ?_⟩ <;> repeat' (first | exact trivial | exact rfl | exact Iff.rfl | apply And.intro)
end Go.Sx

namespace Go.Sx
open Go Go.Proofs
set_option maxRecDepth 10000
set_option maxHeartbeats 16000000
/-! ### Whether a cut keeps the rules -/
end Go.Sx

namespace Go.Sx
open Go Go.Proofs
set_option maxRecDepth 10000
set_option maxHeartbeats 16000000
end Go.Sx

namespace Go.Sx
open Go Go.Proofs
set_option maxRecDepth 10000
set_option maxHeartbeats 4000000
/-! ### A groove without a signal, and a groove in its band -/
/-! ### Sorting by insertion -/
def swp (O : List Int) (j : Nat) : List Int := (O.set (j + 1) (O.getD j 0)).set j (O.getD (j + 1) 0)
def ins (lt : Int → Int → Bool) (O : List Int) : Nat → List Int
  | 0 => O
  | j + 1 => if lt (O.getD (j + 1) 0) (O.getD j 0) = true then ins lt (swp O j) j else O
def isr (lt : Int → Int → Bool) (O : List Int) : Nat → List Int
  | 0 => O
  | k + 1 => ins lt (isr lt O k) (k + 1)
theorem swp_len (O : List Int) (j : Nat) : (swp O j).length = O.length := by simp [swp]
theorem ins_len (lt : Int → Int → Bool) : ∀ (j : Nat) (O : List Int), (ins lt O j).length = O.length
  | 0, O => rfl
  | j + 1, O => by
    unfold ins
    split
    · rw [ins_len lt j, swp_len]
    · rfl
theorem isr_len (lt : Int → Int → Bool) (O : List Int) : ∀ k, (isr lt O k).length = O.length
  | 0 => rfl
  | k + 1 => by
    unfold isr
    rw [ins_len, isr_len lt O k]
/-- Each number below n, once. -/
structure IdxOK (O : List Int) (n : Nat) : Prop where
  len : O.length = n
  rng : ∀ i, i < n → 0 ≤ O.getD i 0 ∧ O.getD i 0 < n
  inj : ∀ i j, i < n → j < n → O.getD i 0 = O.getD j 0 → i = j
def sgF (j i : Nat) : Nat := if i = j then j + 1 else if i = j + 1 then j else i
theorem swp_get (O : List Int) {j : Nat} (h : j + 1 < O.length) (i : Nat) : (swp O j).getD i 0 = O.getD (sgF j i) 0 := by
  unfold swp sgF
  rw [gset _ _ _ _ _ (by simp; omega), gset _ _ _ _ _ h]
  split
  · rfl
  · split <;> rfl
theorem sg_lt {n j i : Nat} (hj : j + 1 < n) (hi : i < n) : sgF j i < n := by unfold sgF; split <;> (try split) <;> omega
theorem sg_inj {j i k : Nat} (h : sgF j i = sgF j k) : i = k := by unfold sgF at h; (repeat' split at h) <;> omega
theorem IdxOK.swp {O : List Int} {n : Nat} (h : IdxOK O n) {j : Nat} (hj : j + 1 < n) : IdxOK (Go.Sx.swp O j) n := by
  have hl := h.len
  have g := swp_get O (j := j) (by omega)
  refine ⟨by rw [swp_len]; exact hl, fun i hi => ?_, fun i k hi hk => ?_⟩
  · rw [g]
    exact h.rng _ (sg_lt hj hi)
  · rw [g, g]
    exact fun e => sg_inj (h.inj _ _ (sg_lt hj hi) (sg_lt hj hk) e)
theorem IdxOK.ins {lt : Int → Int → Bool} {n : Nat} : ∀ (j : Nat) {O : List Int}, IdxOK O n → j < n → IdxOK (Go.Sx.ins lt O j) n
  | 0, O, h, _ => h
  | j + 1, O, h, hj => by
    unfold Go.Sx.ins
    split
    · exact IdxOK.ins j (h.swp hj) (by omega)
    · exact h
theorem IdxOK.isr {lt : Int → Int → Bool} {n : Nat} {O : List Int} (h : IdxOK O n) : ∀ k, k < n → IdxOK (Go.Sx.isr lt O k) n
  | 0, _ => h
  | k + 1, hk => by
    unfold Go.Sx.isr
    exact IdxOK.ins (k + 1) (h.isr k (by omega)) hk
def spanL (i n : Nat) : List Int := (List.range n).map fun k => ((i + k : Nat) : Int)
theorem spanL_len (i n : Nat) : (spanL i n).length = n := by simp [spanL]
theorem spanL_get (i n k : Nat) (h : k < n) : (spanL i n).getD k 0 = ((i + k : Nat) : Int) := by simp [spanL, List.getD_eq_getElem?_getD, List.getElem?_range h]
theorem spanL_succ (i n : Nat) : spanL i (n + 1) = spanL i n ++ [((i + n : Nat) : Int)] := by simp [spanL, List.range_succ]
theorem span_idx (n : Nat) : IdxOK (spanL 0 n) n := ⟨spanL_len 0 n, fun i hi => by rw [spanL_get _ _ _ hi]; omega, fun i j hi hj e => by rw [spanL_get _ _ _ hi, spanL_get _ _ _ hj] at e; omega⟩
/-! ### The bands of a side -/
structure Fmt where
  nm : ByteArray
  outer : Int
  inner : Int
  per : Int
  lead : Int
  gap : Int
  tail : Int
  cost : Int
structure FmtOK (f : Fmt) : Prop where
  nm : nameOK f.nm
  outer : 1 ≤ f.outer ∧ f.outer ≤ 4194304
  inner : 0 ≤ f.inner ∧ f.inner ≤ f.outer - 1
  per : 1 ≤ f.per ∧ f.per ≤ 65536
  cost : 0 ≤ f.cost ∧ f.cost ≤ 1048576
  lead : 0 ≤ f.lead ∧ f.lead ≤ 4194304
  gap : 0 ≤ f.gap ∧ f.gap ≤ 4194304
  tail : 0 ≤ f.tail ∧ f.tail ≤ 4194304
structure Sng where
  long : Int
  pitch : Int
  least : Int
abbrev g0 : Sng := ⟨0, 0, 0⟩
def Sng.ok (g : Sng) : Prop := (1 ≤ g.long ∧ g.long ≤ 16777216) ∧ (1 ≤ g.pitch ∧ g.pitch ≤ 4096) ∧ (0 ≤ g.least ∧ g.least ≤ 4194304)
structure SngsOK (l : List Sng) : Prop where
  len : l.length ≤ 24
  each : ∀ j, j < l.length → (l.getD j g0).ok
def widF (f : Fmt) (g : Sng) : Int := g.pitch * ((g.long + f.per - 1) / f.per)
theorem wid_bd {f : Fmt} {g : Sng} (hp : 1 ≤ f.per) (hg : g.ok) : (1 ≤ (g.long + f.per - 1) / f.per ∧ (g.long + f.per - 1) / f.per ≤ 16777216) ∧ 1 ≤ widF f g ∧ widF f g ≤ 68719476736 := by
  obtain ⟨⟨l1, l2⟩, ⟨p1, p2⟩, _⟩ := hg
  have h1 : 1 ≤ (g.long + f.per - 1) / f.per := by
    have := Int.add_mul_ediv_left (g.long - 1) 1 (show f.per ≠ 0 by omega)
    rw [show g.long - 1 + f.per * 1 = g.long + f.per - 1 by omega] at this
    have h2 : 0 ≤ (g.long - 1) / f.per := Int.ediv_nonneg (by omega) (by omega)
    omega
  have h2 : (g.long + f.per - 1) / f.per ≤ 16777216 := by
    have := Int.add_mul_ediv_left (g.long - 1) 1 (show f.per ≠ 0 by omega)
    rw [show g.long - 1 + f.per * 1 = g.long + f.per - 1 by omega] at this
    have h3 : (g.long - 1) / f.per ≤ g.long - 1 := Int.ediv_le_self _ (by omega)
    omega
  refine ⟨⟨h1, h2⟩, ?_, ?_⟩
  · unfold widF
    have := Int.mul_le_mul p1 h1 (by decide) (by omega)
    omega
  · unfold widF
    have := Int.mul_le_mul p2 h2 (by omega) (by decide)
    omega
/-- Where the next track begins or ends. -/
def atF (f : Fmt) (l : List Sng) (O : List Int) : Nat → Int
  | 0 => f.outer - f.lead
  | i + 1 => atF f l O i - (if 0 < i then f.gap else 0) - widF f (l.getD (O.getD i 0).toNat g0)
theorem atF_bd {f : Fmt} {l : List Sng} {O : List Int} (hf : FmtOK f) (hl : SngsOK l) (hO : ∀ i, i < O.length → 0 ≤ O.getD i 0 ∧ O.getD i 0 < l.length) : ∀ i, i ≤ O.length → atF f l O i ≤ 4194304 ∧ -4194304 - 68723671040 * (i : Int) ≤ atF f l O i
  | 0, _ => by
    have := hf.outer
    have := hf.lead
    unfold atF
    omega
  | i + 1, hi => by
    have h1 := atF_bd hf hl hO i (by omega)
    have h2 := hO i (by omega)
    have h3 := (wid_bd hf.per.1 (hl.each (O.getD i 0).toNat (by omega))).2
    have := hf.gap
    unfold atF
    split <;> omega
def bndR (f : Fmt) (l : List Sng) (O : List Int) (i : Nat) : List Cell := [.int (O.getD i 0), .int (atF f l O i - (if 0 < i then f.gap else 0)), .int (atF f l O (i + 1))]
def bndA (f : Fmt) (l : List Sng) (O : List Int) (n : Nat) : Arr := (List.range n).map (bndR f l O)
theorem bndA_len (f : Fmt) (l : List Sng) (O : List Int) (n : Nat) : (bndA f l O n).length = n := by simp [bndA]
theorem bndA_succ (f : Fmt) (l : List Sng) (O : List Int) (n : Nat) : bndA f l O (n + 1) = bndA f l O n ++ [bndR f l O n] := by simp [bndA, List.range_succ]
def okAt (f : Fmt) (l : List Sng) (O : List Int) (i : Nat) : Prop := (l.getD (O.getD i 0).toNat g0).least ≤ atF f l O (i + 1)
def LayOK (f : Fmt) (l : List Sng) (O : List Int) : Prop := (∀ i, i < O.length → okAt f l O i) ∧ f.inner ≤ atF f l O O.length - f.tail
def cmpI (x y : Int) : Int := if x < y then -1 else if y < x then 1 else 0
def usF (l : List Sng) (a b : Int) : Int := if cmpI (l.getD b.toNat g0).least (l.getD a.toNat g0).least ≠ 0 then cmpI (l.getD b.toNat g0).least (l.getD a.toNat g0).least else cmpI a b
def usB (l : List Sng) (a b : Int) : Bool := decide (usF l a b < 0)
def allO (l : List Sng) : List Int := isr (usB l) (spanL 0 l.length) (l.length - 1)
theorem allO_idx (l : List Sng) : IdxOK (allO l) l.length := by
  unfold allO
  by_cases h : l.length = 0
  · rw [h]; exact span_idx 0
  · exact (span_idx _).isr _ (by omega)
end Go.Sx

namespace Go.Sx
open Go Go.Proofs
set_option maxRecDepth 10000
set_option maxHeartbeats 4000000
/-! ### Formats and tracks -/
@[reducible] def Fmt.x (f : Fmt) : XV := .agg [.str f.nm, .int .i64 f.outer, .int .i64 f.inner, .int .i64 f.per, .int .i64 f.lead, .int .i64 f.gap, .int .i64 f.tail, .int .i64 f.cost]
@[reducible] def Sng.x (g : Sng) : XV := .agg [.int .i64 g.long, .int .i64 g.pitch, .int .i64 g.least]
def sngA (l : List Sng) : Arr := l.map fun g => [.int g.long, .int g.pitch, .int g.least]
theorem sngA_len (l : List Sng) : (sngA l).length = l.length := by simp [sngA]
theorem sngA_0 (l : List Sng) (i : Nat) : rI (sngA l) i 0 = (l.getD i g0).long := map_rI _ g0 l i 0 rfl
theorem sngA_1 (l : List Sng) (i : Nat) : rI (sngA l) i (0 + 1) = (l.getD i g0).pitch := map_rI _ g0 l i 1 rfl
theorem sngA_2 (l : List Sng) (i : Nat) : rI (sngA l) i (0 + 1 + 1) = (l.getD i g0).least := map_rI _ g0 l i 2 rfl
@[reducible] def KSng : List CK := [.int .i64, .int .i64, .int .i64]
@[reducible] def lSng (l : List Sng) : XV := .one (.lst true KSng (sngA l))
theorem s295 (n lo hi : Int) : PSpec Tryz.prog 295 [I n, I lo, I hi] (xP (n < lo ∨ n > hi)) := by
  refine spec_of pMix (O := []) Tryz.func295 (c := bodyOf Tryz.f295) rfl (by kernel_rfl) (by kernel_rfl) Tryz.ntmps295 (res := [.tmp 6]) (by kernel_rfl) ?_
  repeat' ((conv => whnf); first | refine Rng.g ?_ | refine Ob.g ?_ | refine Ob.e ?_ | refine Ob.m ?_ | refine Ob.mk (Nat.le_of_ble_eq_true rfl) ?_ | refine JoinVC.on ?_ | refine Nils.mk (fun h => ?_) ?_ | refine Val.t ?_ | refine Val.d ?_ | refine Mm.mk ?_ | (refine Br.mk (fun h => ?_) (fun h => ?_) <;> first | (exfalso; omega; done) | (exfalso; simp at h; done) | skip))
  · repeat refine Mm.mk ?_
    refine EndVC.mk _ rfl _ _ ⟨rfl, rfl⟩ ?_
    refine ⟨[], rfl, rfl, ?_, ?_⟩ <;> repeat' (first | exact trivial | exact rfl | exact Iff.rfl | apply And.intro)
    exact .inl h
  · repeat refine Mm.mk ?_
    refine EndVC.mk _ rfl _ _ ⟨rfl, rfl⟩ ?_
    refine ⟨[], rfl, rfl, ?_, ?_⟩ <;> repeat' (first | exact trivial | exact rfl | exact Iff.rfl | apply And.intro)
    exact ⟨fun h2 => .inr h2, fun h2 => h2.elim (fun h3 => absurd h3 h) id⟩
theorem bytA_get (b : ByteArray) (i : Nat) : rI (bytA b) i 0 = chr b i := map_rI _ (0 : UInt8) b.data.toList i 0 rfl
theorem bytA_len (b : ByteArray) : (bytA b).length = b.size := by
  show (b.data.toList.map _).length = b.data.size
  rw [List.length_map, Array.length_toList]
open Classical in
theorem s294 (s : ByteArray) (hs : s.size ≤ 140737488355328) : PSpec Tryz.prog 294 [.one (.str s)] (xP (nameOK s)) := by
  have lb := bytA_len s
  refine spec_of pMix (O := []) Tryz.func294 (c := bodyOf Tryz.f294) rfl (by kernel_rfl) (by kernel_rfl) Tryz.ntmps294 (res := [.tmp 2]) (by kernel_rfl) ?_
  repeat' ((conv => whnf); first | refine Rng.g ?_ | refine Ob.g ?_ | refine Ob.e ?_ | refine Ob.m ?_ | refine Ob.mk (Nat.le_of_ble_eq_true rfl) ?_ | refine JoinVC.on ?_ | refine Nils.mk (fun h => ?_) ?_ | refine Val.t ?_ | refine Val.d ?_ | refine Mm.mk ?_ | (refine Br.mk (fun h => ?_) (fun h => ?_) <;> first | (exfalso; omega; done) | (exfalso; simp at h; done) | skip))
  refine LoopVC.mk (fun n st => ∃ (i : Nat), i ≤ s.size ∧ n = s.size - i ∧ (∀ j, j < i → okC (chr s j)) ∧ st = ⟨0, envA 34 [(0, .x (.one (.str s))), (6, .x (.one (.lst false [.int .u8] (bytA s)))), (7, .int .i64 (s.size : Int)), (8, .int .i64 (i : Int))], []⟩) _ _ ⟨0, Nat.zero_le _, rfl, fun j hj => absurd hj (Nat.not_lt_zero j), rfl⟩ ?_ ?_
  · refine ⟨[], rfl, rfl, ?_, ?_⟩ <;> repeat' (first | exact trivial | exact rfl | exact Iff.rfl | apply And.intro)
    exact congrArg Int.ofNat lb
  rintro n _ ⟨i, hi, hn, hj, rfl⟩
  have gc : rI (bytA s) (i : Int).toNat 0 = chr s i := by rw [Int.toNat_natCast, bytA_get]
  by_cases hi' : i < s.size
  · by_cases hc : okC (chr s i)
    · have hc' := hc
      unfold okC at hc'
      repeat' ((conv => whnf); first | rw [gc] | refine Rng.g ?_ | refine Ob.g ?_ | refine Ob.e ?_ | refine Ob.m ?_ | refine Ob.mk (Nat.le_of_ble_eq_true rfl) ?_ | refine JoinVC.on ?_ | refine Nils.mk (fun h => ?_) ?_ | refine Val.t ?_ | refine Val.d ?_ | refine Mm.mk ?_ | (refine Br.mk (fun h => ?_) (fun h => ?_) <;> first | (exfalso; omega; done) | (exfalso; simp at h; done) | skip))
      all_goals
        refine Back.mk (s.size - (i + 1)) _ (by omega) ⟨i + 1, by omega, rfl, fun j hj' => ?_, rfl⟩ ?_
        · rcases Nat.lt_succ_iff_lt_or_eq.1 hj' with h' | rfl
          · exact hj j h'
          · exact hc
        · refine ⟨[], rfl, rfl, ?_, ?_⟩ <;> repeat' (first | exact trivial | exact rfl | exact Iff.rfl | apply And.intro)
    · have hc' := hc
      unfold okC at hc'
      repeat' ((conv => whnf); first | rw [gc] | refine Rng.g ?_ | refine Ob.g ?_ | refine Ob.e ?_ | refine Ob.m ?_ | refine Ob.mk (Nat.le_of_ble_eq_true rfl) ?_ | refine JoinVC.on ?_ | refine Nils.mk (fun h => ?_) ?_ | refine Val.t ?_ | refine Val.d ?_ | refine Mm.mk ?_ | (refine Br.mk (fun h => ?_) (fun h => ?_) <;> first | (exfalso; omega; done) | (exfalso; simp at h; done) | skip))
      all_goals
        repeat refine Mm.mk ?_
        refine EndVC.mk _ rfl _ _ ⟨rfl, rfl⟩ ?_
        refine ⟨[], rfl, rfl, ?_, ?_⟩ <;> repeat' (first | exact trivial | exact rfl | exact Iff.rfl | apply And.intro)
        exact fun hn => hc (hn.2.2 i hi')
  · have h0 : s.size = 0 ↔ s = ⟨#[]⟩ := ⟨fun h => ByteArray.ext (Array.eq_empty_of_size_eq_zero h), fun h => by rw [h]; rfl⟩
    repeat' ((conv => whnf); first | refine Rng.g ?_ | refine Ob.g ?_ | refine Ob.e ?_ | refine Ob.m ?_ | refine Ob.mk (Nat.le_of_ble_eq_true rfl) ?_ | refine JoinVC.on ?_ | refine Nils.mk (fun h => ?_) ?_ | refine Val.t ?_ | refine Val.d ?_ | refine Mm.mk ?_ | (refine Br.mk (fun h => ?_) (fun h => ?_) <;> first | (exfalso; omega; done) | (exfalso; simp at h; done) | skip))
    · have h1 : ¬ s.size = 0 := fun e => h (h0.1 e)
      repeat refine Mm.mk ?_
      refine EndVC.mk _ rfl _ _ ⟨rfl, rfl⟩ ?_
      refine ⟨[], rfl, rfl, ?_, ?_⟩ <;> repeat' (first | exact trivial | exact rfl | exact Iff.rfl | apply And.intro)
      exact ⟨fun h2 => ⟨by omega, by omega, fun j hj' => hj j (by omega)⟩, fun hn => (by have := hn.2.1; omega)⟩
    · have h1 : s.size = 0 := h0.2 (Classical.not_not.1 h)
      repeat refine Mm.mk ?_
      refine EndVC.mk _ rfl _ _ ⟨rfl, rfl⟩ ?_
      refine ⟨[], rfl, rfl, ?_, ?_⟩ <;> repeat' (first | exact trivial | exact rfl | exact Iff.rfl | apply And.intro)
      exact fun hn => (by have := hn.1; omega)
/-! ### Which formats and tracks are valid -/
theorem s227 (f : Fmt) (hI : f.nm.size ≤ 140737488355328) : HSpec Tryz.prog 227 [f.x] [] (fun r m' => ∃ e, r = .x (I e) ∧ m' = [] ∧ (e = 0 ↔ FmtOK f)) := by
  have k0 := s295 f.lead 0 4194304
  have k1 := s295 f.gap 0 4194304
  have k2 := s295 f.tail 0 4194304
  refine spec_of pMix (O := []) Tryz.func227 (c := bodyOf Tryz.f227) rfl (by kernel_rfl) (by kernel_rfl) Tryz.ntmps227 (res := [.tmp 2]) (by kernel_rfl) ?_
  repeat' ((conv => whnf); first | refine Rng.g ?_ | refine Ob.g ?_ | refine Ob.e ?_ | refine Ob.m ?_ | refine Ob.mk (Nat.le_of_ble_eq_true rfl) ?_ | refine JoinVC.on ?_ | refine Nils.mk (fun h => ?_) ?_ | refine Val.t ?_ | refine Val.d ?_ | refine Mm.mk ?_ | refine CallVC.pure rfl (s294 f.nm hI) ?_ | refine CallVC.pure rfl (s295 f.outer 1 4194304) ?_ | refine CallVC.pure rfl (s295 f.inner 0 (f.outer - 1)) ?_ | refine CallVC.pure rfl (s295 f.per 1 65536) ?_ | refine CallVC.pure rfl (s295 f.cost 0 1048576) ?_ | refine CallVC0.pure rfl (s294 f.nm hI) ?_ | refine CallVC0.pure rfl (s295 f.outer 1 4194304) ?_ | refine CallVC0.pure rfl (s295 f.inner 0 (f.outer - 1)) ?_ | refine CallVC0.pure rfl (s295 f.per 1 65536) ?_ | refine CallVC0.pure rfl (s295 f.cost 0 1048576) ?_ | (refine Br.mk (fun h => ?_) (fun h => ?_) <;> first | (exfalso; omega; done) | (exfalso; simp at h; done) | skip))
  all_goals
    refine LoopVC.un 4 ?_
    repeat' ((conv => whnf); first | refine Rng.g ?_ | refine Ob.g ?_ | refine Ob.e ?_ | refine Ob.m ?_ | refine Ob.mk (Nat.le_of_ble_eq_true rfl) ?_ | refine JoinVC.on ?_ | refine Nils.mk (fun h => ?_) ?_ | refine Val.t ?_ | refine Val.d ?_ | refine Mm.mk ?_ | refine CallVC.pure rfl (k0) ?_ | refine CallVC.pure rfl (k1) ?_ | refine CallVC.pure rfl (k2) ?_ | refine CallVC0.pure rfl (k0) ?_ | refine CallVC0.pure rfl (k1) ?_ | refine CallVC0.pure rfl (k2) ?_ | (refine Br.mk (fun h => ?_) (fun h => ?_) <;> first | (exfalso; omega; done) | (exfalso; simp at h; done) | skip))
  rotate_right
  · repeat refine Mm.mk ?_
    conv => whnf
    refine EndVC.mk _ rfl _ _ (⟨0, rfl, rfl, ⟨fun _ => ⟨Classical.not_not.1 (by assumption), by omega, by omega, by omega, by omega, by omega, by omega, by omega⟩, fun _ => rfl⟩⟩) ?_
    refine ⟨[], rfl, rfl, ?_, ?_⟩ <;> repeat' (first | exact trivial | exact rfl | exact Iff.rfl | apply And.intro)
  all_goals
    repeat refine Mm.mk ?_
    conv => whnf
    refine EndVC.mk _ rfl _ _ (⟨2, rfl, rfl, ⟨fun h => (by cases h), fun hC => (by obtain ⟨h0, h1, h2, h3, h4, h5, h6, h7⟩ := hC; first | contradiction | omega)⟩⟩) ?_
    refine ⟨[], rfl, rfl, ?_, ?_⟩ <;> repeat' (first | exact trivial | exact rfl | exact Iff.rfl | apply And.intro)
end Go.Sx

namespace Go.Sx
open Go Go.Proofs
set_option maxRecDepth 10000
set_option maxHeartbeats 4000000
theorem s228 (l : List Sng) : HSpec Tryz.prog 228 [lSng l] [] (fun r m' => ∃ e, r = .x (I e) ∧ m' = [] ∧ (e = 0 ↔ SngsOK l)) := by
  have lp := sngA_len l
  by_cases h24 : 24 < l.length
  · refine spec_of pMix (O := []) Tryz.func228 (c := bodyOf Tryz.f228) rfl (by kernel_rfl) (by kernel_rfl) Tryz.ntmps228 (res := [.tmp 2]) (by kernel_rfl) ?_
    repeat' ((conv => whnf); first | refine Rng.g ?_ | refine Ob.g ?_ | refine Ob.e ?_ | refine Ob.m ?_ | refine Ob.mk (Nat.le_of_ble_eq_true rfl) ?_ | refine JoinVC.on ?_ | refine Nils.mk (fun h => ?_) ?_ | refine Val.t ?_ | refine Val.d ?_ | refine Mm.mk ?_ | (refine Br.mk (fun h => ?_) (fun h => ?_) <;> first | (exfalso; omega; done) | (exfalso; simp at h; done) | skip))
    repeat refine Mm.mk ?_
    conv => whnf
    refine EndVC.mk _ rfl _ _ (⟨6, rfl, rfl, ⟨fun h => (by cases h), fun h => (by have := h.len; omega)⟩⟩) ?_
    refine ⟨[], rfl, rfl, ?_, ?_⟩ <;> repeat' (first | exact trivial | exact rfl | exact Iff.rfl | apply And.intro)
  refine spec_of pMix (O := []) Tryz.func228 (c := bodyOf Tryz.f228) rfl (by kernel_rfl) (by kernel_rfl) Tryz.ntmps228 (res := [.tmp 2]) (by kernel_rfl) ?_
  repeat' ((conv => whnf); first | refine Rng.g ?_ | refine Ob.g ?_ | refine Ob.e ?_ | refine Ob.m ?_ | refine Ob.mk (Nat.le_of_ble_eq_true rfl) ?_ | refine JoinVC.on ?_ | refine Nils.mk (fun h => ?_) ?_ | refine Val.t ?_ | refine Val.d ?_ | refine Mm.mk ?_ | (refine Br.mk (fun h => ?_) (fun h => ?_) <;> first | (exfalso; omega; done) | (exfalso; simp at h; done) | skip))
  refine LoopVC.mk (fun n st => ∃ (i : Nat), i ≤ l.length ∧ n = l.length - i ∧ (∀ j, j < i → (l.getD j g0).ok) ∧ st = ⟨0, envA 28 [(8, .x (lSng l)), (9, .int .i64 (l.length : Int)), (10, .int .i64 (i : Int))], []⟩) _ _ ⟨0, Nat.zero_le _, rfl, fun j hj => absurd hj (Nat.not_lt_zero j), rfl⟩ ?_ ?_
  · refine ⟨[], rfl, rfl, ?_, ?_⟩ <;> repeat' (first | exact trivial | exact rfl | exact Iff.rfl | apply And.intro)
    all_goals exact congrArg Int.ofNat lp
  rintro n _ ⟨i, hi, hn, hj, rfl⟩
  have c0 : rI (sngA l) (i : Int).toNat 0 = (l.getD i g0).long := by rw [Int.toNat_natCast, sngA_0]
  have c1 : rI (sngA l) (i : Int).toNat (0 + 1) = (l.getD i g0).pitch := by rw [Int.toNat_natCast, sngA_1]
  have c2 : rI (sngA l) (i : Int).toNat (0 + 1 + 1) = (l.getD i g0).least := by rw [Int.toNat_natCast, sngA_2]
  have k0 := s295 (l.getD i g0).long 1 16777216
  have k1 := s295 (l.getD i g0).pitch 1 4096
  have k2 := s295 (l.getD i g0).least 0 4194304
  by_cases hi' : i < l.length
  · by_cases hg : (l.getD i g0).ok
    · have hg' := hg
      unfold Sng.ok at hg'
      repeat' ((conv => whnf); first | rw [c0] | rw [c1] | rw [c2] | refine Rng.g ?_ | refine Ob.g ?_ | refine Ob.e ?_ | refine Ob.m ?_ | refine Ob.mk (Nat.le_of_ble_eq_true rfl) ?_ | refine JoinVC.on ?_ | refine Nils.mk (fun h => ?_) ?_ | refine Val.t ?_ | refine Val.d ?_ | refine Mm.mk ?_ | refine CallVC.pure rfl (k0) ?_ | refine CallVC.pure rfl (k1) ?_ | refine CallVC.pure rfl (k2) ?_ | refine CallVC0.pure rfl (k0) ?_ | refine CallVC0.pure rfl (k1) ?_ | refine CallVC0.pure rfl (k2) ?_ | (refine Br.mk (fun h => ?_) (fun h => ?_) <;> first | (exfalso; omega; done) | (exfalso; simp at h; done) | skip))
      refine Back.mk (l.length - (i + 1)) _ (by omega) ⟨i + 1, by omega, rfl, fun j hj' => ?_, rfl⟩ ?_
      · rcases Nat.lt_succ_iff_lt_or_eq.1 hj' with h' | rfl
        · exact hj j h'
        · exact hg
      · refine ⟨[], rfl, rfl, ?_, ?_⟩ <;> repeat' (first | exact trivial | exact rfl | exact Iff.rfl | apply And.intro)
    · have hg' := hg
      unfold Sng.ok at hg'
      repeat' ((conv => whnf); first | rw [c0] | rw [c1] | rw [c2] | refine Rng.g ?_ | refine Ob.g ?_ | refine Ob.e ?_ | refine Ob.m ?_ | refine Ob.mk (Nat.le_of_ble_eq_true rfl) ?_ | refine JoinVC.on ?_ | refine Nils.mk (fun h => ?_) ?_ | refine Val.t ?_ | refine Val.d ?_ | refine Mm.mk ?_ | refine CallVC.pure rfl (k0) ?_ | refine CallVC.pure rfl (k1) ?_ | refine CallVC.pure rfl (k2) ?_ | refine CallVC0.pure rfl (k0) ?_ | refine CallVC0.pure rfl (k1) ?_ | refine CallVC0.pure rfl (k2) ?_ | (refine Br.mk (fun h => ?_) (fun h => ?_) <;> first | (exfalso; omega; done) | (exfalso; simp at h; done) | skip))
      all_goals
        repeat refine Mm.mk ?_
        conv => whnf
        refine EndVC.mk _ rfl _ _ (⟨2, rfl, rfl, ⟨fun h => (by cases h), fun h => absurd (h.each i hi') hg⟩⟩) ?_
        refine ⟨[], rfl, rfl, ?_, ?_⟩ <;> repeat' (first | exact trivial | exact rfl | exact Iff.rfl | apply And.intro)
  · repeat' ((conv => whnf); first | refine Rng.g ?_ | refine Ob.g ?_ | refine Ob.e ?_ | refine Ob.m ?_ | refine Ob.mk (Nat.le_of_ble_eq_true rfl) ?_ | refine JoinVC.on ?_ | refine Nils.mk (fun h => ?_) ?_ | refine Val.t ?_ | refine Val.d ?_ | refine Mm.mk ?_ | (refine Br.mk (fun h => ?_) (fun h => ?_) <;> first | (exfalso; omega; done) | (exfalso; simp at h; done) | skip))
    repeat refine Mm.mk ?_
    conv => whnf
    refine EndVC.mk _ rfl _ _ (⟨0, rfl, rfl, ⟨fun _ => ⟨by omega, fun j hj' => hj j (by omega)⟩, fun _ => rfl⟩⟩) ?_
    refine ⟨[], rfl, rfl, ?_, ?_⟩ <;> repeat' (first | exact trivial | exact rfl | exact Iff.rfl | apply And.intro)
@[reducible] def bPl (f : Fmt) (l : List Sng) : Blk := .box 351 [.str f.nm, .int .i64 f.outer, .int .i64 f.inner, .int .i64 f.per, .int .i64 f.lead, .int .i64 f.gap, .int .i64 f.tail, .int .i64 f.cost, .lst true KSng (sngA l)]
theorem s138 (f : Fmt) (l : List Sng) (hI : f.nm.size ≤ 140737488355328) : HSpec Tryz.prog 138 [f.x, lSng l] [] (fun r m' => (∃ e, ¬ (FmtOK f ∧ SngsOK l) ∧ e ≠ 0 ∧ r = .tup [.one .nilp, I e] ∧ m' = []) ∨ (FmtOK f ∧ SngsOK l ∧ r = .tup [.one (.ptr 0 0), I 0] ∧ m' = [some (bPl f l)])) := by
  have v1 := s227 f hI
  have v2 := s228 l
  by_cases hC : ¬ FmtOK f
  · refine spec_of pMix (O := []) Tryz.func138 (c := bodyOf Tryz.f138) rfl (by kernel_rfl) (by kernel_rfl) Tryz.ntmps138 (res := [.tmp 4, .tmp 5]) (by kernel_rfl) ?_
    repeat' ((conv => whnf); first | refine Rng.g ?_ | refine Ob.g ?_ | refine Ob.e ?_ | refine Ob.m ?_ | refine Ob.mk (Nat.le_of_ble_eq_true rfl) ?_ | refine JoinVC.on ?_ | refine Nils.mk (fun h => ?_) ?_ | refine Val.t ?_ | refine Val.d ?_ | refine Mm.mk ?_ | (refine Br.mk (fun h => ?_) (fun h => ?_) <;> first | (exfalso; omega; done) | (exfalso; simp at h; done) | skip))
    conv => whnf
    refine CallVC.mk [] _ _ _ rfl rfl rfl (v1) (fun r m' h' => ?_)
    obtain ⟨e, rfl, rfl, he⟩ := h'
    conv => whnf
    have he0 : e ≠ 0 := fun h0 => hC (he.1 h0)
    repeat' ((conv => whnf); first | refine Rng.g ?_ | refine Ob.g ?_ | refine Ob.e ?_ | refine Ob.m ?_ | refine Ob.mk (Nat.le_of_ble_eq_true rfl) ?_ | refine JoinVC.on ?_ | refine Nils.mk (fun h => ?_) ?_ | refine Val.t ?_ | refine Val.d ?_ | refine Mm.mk ?_ | (refine Br.mk (fun h => ?_) (fun h => ?_) <;> first | (exfalso; omega; done) | (exfalso; simp at h; done) | skip))
    repeat refine Mm.mk ?_
    conv => whnf
    refine EndVC.mk _ rfl _ _ (.inl ⟨e, fun h => hC h.1, he0, rfl, rfl⟩) ?_
    refine ⟨[], rfl, rfl, ?_, ?_⟩ <;> repeat' (first | exact trivial | exact rfl | exact Iff.rfl | apply And.intro)
  replace hC := Classical.not_not.1 hC
  by_cases hP : ¬ SngsOK l
  · refine spec_of pMix (O := []) Tryz.func138 (c := bodyOf Tryz.f138) rfl (by kernel_rfl) (by kernel_rfl) Tryz.ntmps138 (res := [.tmp 4, .tmp 5]) (by kernel_rfl) ?_
    repeat' ((conv => whnf); first | refine Rng.g ?_ | refine Ob.g ?_ | refine Ob.e ?_ | refine Ob.m ?_ | refine Ob.mk (Nat.le_of_ble_eq_true rfl) ?_ | refine JoinVC.on ?_ | refine Nils.mk (fun h => ?_) ?_ | refine Val.t ?_ | refine Val.d ?_ | refine Mm.mk ?_ | (refine Br.mk (fun h => ?_) (fun h => ?_) <;> first | (exfalso; omega; done) | (exfalso; simp at h; done) | skip))
    conv => whnf
    refine CallVC.mk [] _ _ _ rfl rfl rfl (v1) (fun r m' h' => ?_)
    obtain ⟨e, rfl, rfl, he⟩ := h'
    conv => whnf
    cases he.2 hC
    repeat' ((conv => whnf); first | refine Rng.g ?_ | refine Ob.g ?_ | refine Ob.e ?_ | refine Ob.m ?_ | refine Ob.mk (Nat.le_of_ble_eq_true rfl) ?_ | refine JoinVC.on ?_ | refine Nils.mk (fun h => ?_) ?_ | refine Val.t ?_ | refine Val.d ?_ | refine Mm.mk ?_ | (refine Br.mk (fun h => ?_) (fun h => ?_) <;> first | (exfalso; omega; done) | (exfalso; simp at h; done) | skip))
    conv => whnf
    refine CallVC.mk [] _ _ _ rfl rfl rfl (v2) (fun r m' h' => ?_)
    obtain ⟨e, rfl, rfl, he'⟩ := h'
    conv => whnf
    have he0 : e ≠ 0 := fun h0 => hP (he'.1 h0)
    repeat' ((conv => whnf); first | refine Rng.g ?_ | refine Ob.g ?_ | refine Ob.e ?_ | refine Ob.m ?_ | refine Ob.mk (Nat.le_of_ble_eq_true rfl) ?_ | refine JoinVC.on ?_ | refine Nils.mk (fun h => ?_) ?_ | refine Val.t ?_ | refine Val.d ?_ | refine Mm.mk ?_ | (refine Br.mk (fun h => ?_) (fun h => ?_) <;> first | (exfalso; omega; done) | (exfalso; simp at h; done) | skip))
    repeat refine Mm.mk ?_
    conv => whnf
    refine EndVC.mk _ rfl _ _ (.inl ⟨e, fun h => hP h.2, he0, rfl, rfl⟩) ?_
    refine ⟨[], rfl, rfl, ?_, ?_⟩ <;> repeat' (first | exact trivial | exact rfl | exact Iff.rfl | apply And.intro)
  replace hP := Classical.not_not.1 hP
  refine spec_of pMix (O := []) Tryz.func138 (c := bodyOf Tryz.f138) rfl (by kernel_rfl) (by kernel_rfl) Tryz.ntmps138 (res := [.tmp 4, .tmp 5]) (by kernel_rfl) ?_
  repeat' ((conv => whnf); first | refine Rng.g ?_ | refine Ob.g ?_ | refine Ob.e ?_ | refine Ob.m ?_ | refine Ob.mk (Nat.le_of_ble_eq_true rfl) ?_ | refine JoinVC.on ?_ | refine Nils.mk (fun h => ?_) ?_ | refine Val.t ?_ | refine Val.d ?_ | refine Mm.mk ?_ | (refine Br.mk (fun h => ?_) (fun h => ?_) <;> first | (exfalso; omega; done) | (exfalso; simp at h; done) | skip))
  conv => whnf
  refine CallVC.mk [] _ _ _ rfl rfl rfl (v1) (fun r m' h' => ?_)
  obtain ⟨e, rfl, rfl, he⟩ := h'
  conv => whnf
  cases he.2 hC
  repeat' ((conv => whnf); first | refine Rng.g ?_ | refine Ob.g ?_ | refine Ob.e ?_ | refine Ob.m ?_ | refine Ob.mk (Nat.le_of_ble_eq_true rfl) ?_ | refine JoinVC.on ?_ | refine Nils.mk (fun h => ?_) ?_ | refine Val.t ?_ | refine Val.d ?_ | refine Mm.mk ?_ | (refine Br.mk (fun h => ?_) (fun h => ?_) <;> first | (exfalso; omega; done) | (exfalso; simp at h; done) | skip))
  conv => whnf
  refine CallVC.mk [] _ _ _ rfl rfl rfl (v2) (fun r m' h' => ?_)
  obtain ⟨e, rfl, rfl, he'⟩ := h'
  conv => whnf
  cases he'.2 hP
  repeat' ((conv => whnf); first | refine Rng.g ?_ | refine Ob.g ?_ | refine Ob.e ?_ | refine Ob.m ?_ | refine Ob.mk (Nat.le_of_ble_eq_true rfl) ?_ | refine JoinVC.on ?_ | refine Nils.mk (fun h => ?_) ?_ | refine Val.t ?_ | refine Val.d ?_ | refine Mm.mk ?_ | (refine Br.mk (fun h => ?_) (fun h => ?_) <;> first | (exfalso; omega; done) | (exfalso; simp at h; done) | skip))
  repeat refine Mm.mk ?_
  conv => whnf
  refine EndVC.mk _ rfl _ _ (.inr ⟨hC, hP, rfl, rfl⟩) ?_
  refine ⟨[some 1], rfl, rfl, ?_, ?_⟩ <;> repeat' (first | exact trivial | exact rfl | exact Iff.rfl | apply And.intro)
@[reducible] def pvT : Option (List Sng) → SV
  | some l => .lst true KSng (sngA l)
  | none => .any
@[reducible] def bPv (f : Fmt) (v : Option (List Sng)) : Blk := .box 351 [.str f.nm, .int .i64 f.outer, .int .i64 f.inner, .int .i64 f.per, .int .i64 f.lead, .int .i64 f.gap, .int .i64 f.tail, .int .i64 f.cost, pvT v]
theorem s139 (f : Fmt) (v : Option (List Sng)) (g : Sng) (hf : FmtOK f) (hg : g.ok) : HSpec Tryz.prog 139 [.one (.ptr 0 0), g.x] [bPv f v] (fun r m' => r = .x (I (widF f g)) ∧ m' = [some (bPv f v)]) := by
  obtain ⟨w1, w2⟩ := wid_bd hf.per.1 hg
  have hp := hf.per
  have hg1 := hg.1
  have hg2 := hg.2.1
  unfold widF at w2
  cases v
  all_goals
    refine spec_of pMix (O := []) Tryz.func139 (c := bodyOf Tryz.f139) rfl (by kernel_rfl) (by kernel_rfl) Tryz.ntmps139 (res := [.tmp 4]) (by kernel_rfl) ?_
    repeat' ((conv => whnf); first | refine Rng.g ?_ | refine Ob.g ?_ | refine Ob.e ?_ | refine Ob.m ?_ | refine Ob.mk (Nat.le_of_ble_eq_true rfl) ?_ | refine JoinVC.on ?_ | refine Nils.mk (fun h => ?_) ?_ | refine Val.t ?_ | refine Val.d ?_ | refine Mm.mk ?_ | (refine Br.mk (fun h => ?_) (fun h => ?_) <;> first | (exfalso; omega; done) | (exfalso; simp at h; done) | skip))
    repeat refine Mm.mk ?_
    refine EndVC.mk _ rfl _ _ ⟨rfl, rfl⟩ ?_
    refine ⟨[some 0], rfl, rfl, ?_, ?_⟩ <;> repeat' (first | exact trivial | exact rfl | exact Iff.rfl | apply And.intro)
inductive WdRs (f : Fmt) (g : Sng) (r : AV) (m' : List (Option Blk)) : Prop
  | bad (e : Int) (h : ¬ (FmtOK f ∧ g.ok)) (he : e ≠ 0) (hr : r = .tup [I 0, I e]) (hm : m' = [])
  | ok (hf : FmtOK f) (hg : g.ok) (hr : r = .tup [I (widF f g), I 0]) (hm : m' = [])
theorem sngs1 (g : Sng) : SngsOK [g] ↔ g.ok := ⟨fun h => h.each 0 (by simp), fun h => ⟨by simp, fun j hj => (by rw [show j = 0 by simp at hj; omega]; exact h)⟩⟩
theorem s54 (f : Fmt) (g : Sng) (hI : f.nm.size ≤ 140737488355328) : HSpec Tryz.prog 54 [f.x, g.x] [] (WdRs f g) := by
  refine spec_of pMix (O := []) Tryz.func54 (c := bodyOf Tryz.f54) rfl (by kernel_rfl) (by kernel_rfl) Tryz.ntmps54 (res := [.tmp 4, .tmp 5]) (by kernel_rfl) ?_
  repeat' ((conv => whnf); first | refine Rng.g ?_ | refine Ob.g ?_ | refine Ob.e ?_ | refine Ob.m ?_ | refine Ob.mk (Nat.le_of_ble_eq_true rfl) ?_ | refine JoinVC.on ?_ | refine Nils.mk (fun h => ?_) ?_ | refine Val.t ?_ | refine Val.d ?_ | refine Mm.mk ?_ | (refine Br.mk (fun h => ?_) (fun h => ?_) <;> first | (exfalso; omega; done) | (exfalso; simp at h; done) | skip))
  conv => whnf
  refine CallVC.mk [] _ _ _ rfl rfl rfl (s138 f [g] hI) (fun r m' h' => ?_)
  rcases h' with ⟨e, hn, he, rfl, rfl⟩ | ⟨hf, hg, rfl, rfl⟩
  · repeat' ((conv => whnf); first | refine Rng.g ?_ | refine Ob.g ?_ | refine Ob.e ?_ | refine Ob.m ?_ | refine Ob.mk (Nat.le_of_ble_eq_true rfl) ?_ | refine JoinVC.on ?_ | refine Nils.mk (fun h => ?_) ?_ | refine Val.t ?_ | refine Val.d ?_ | refine Mm.mk ?_ | (refine Br.mk (fun h => ?_) (fun h => ?_) <;> first | (exfalso; omega; done) | (exfalso; simp at h; done) | skip))
    repeat refine Mm.mk ?_
    conv => whnf
    refine EndVC.mk _ rfl _ _ (.bad e (fun hh => hn ⟨hh.1, (sngs1 g).2 hh.2⟩) he rfl rfl) ?_
    refine ⟨[], rfl, rfl, ?_, ?_⟩ <;> repeat' (first | exact trivial | exact rfl | exact Iff.rfl | apply And.intro)
  · have hg' := (sngs1 g).1 hg
    repeat' ((conv => whnf); first | refine Rng.g ?_ | refine Ob.g ?_ | refine Ob.e ?_ | refine Ob.m ?_ | refine Ob.mk (Nat.le_of_ble_eq_true rfl) ?_ | refine JoinVC.on ?_ | refine Nils.mk (fun h => ?_) ?_ | refine Val.t ?_ | refine Val.d ?_ | refine Mm.mk ?_ | (refine Br.mk (fun h => ?_) (fun h => ?_) <;> first | (exfalso; omega; done) | (exfalso; simp at h; done) | skip))
    conv => whnf
    refine CallVC.mk [3] _ _ _ rfl rfl rfl (s139 f none g hf hg') (fun r m' h' => ?_)
    obtain ⟨rfl, rfl⟩ := h'
    conv => whnf
    repeat' ((conv => whnf); first | refine Rng.g ?_ | refine Ob.g ?_ | refine Ob.e ?_ | refine Ob.m ?_ | refine Ob.mk (Nat.le_of_ble_eq_true rfl) ?_ | refine JoinVC.on ?_ | refine Nils.mk (fun h => ?_) ?_ | refine Val.t ?_ | refine Val.d ?_ | refine Mm.mk ?_ | (refine Br.mk (fun h => ?_) (fun h => ?_) <;> first | (exfalso; omega; done) | (exfalso; simp at h; done) | skip))
    repeat refine Mm.mk ?_
    conv => whnf
    refine EndVC.mk _ rfl _ _ (.ok hf hg' rfl rfl) ?_
    refine ⟨[], rfl, rfl, ?_, ?_⟩ <;> repeat' (first | exact trivial | exact rfl | exact Iff.rfl | apply And.intro)
end Go.Sx

namespace Go.Sx
open Go Go.Proofs
set_option maxRecDepth 10000
set_option maxHeartbeats 8000000
/-! ### The usual order -/
theorem s352 (x : Int) : PSpec Tryz.prog 352 [I x] (xP (x ≠ x)) := by
  refine spec_of pMix (O := []) Tryz.func352 (c := bodyOf Tryz.f352) rfl (by kernel_rfl) (by kernel_rfl) Tryz.ntmps352 (res := [.tmp 2]) (by kernel_rfl) ?_
  repeat' ((conv => whnf); first | refine Rng.g ?_ | refine Ob.g ?_ | refine Ob.e ?_ | refine Ob.m ?_ | refine Ob.mk (Nat.le_of_ble_eq_true rfl) ?_ | refine JoinVC.on ?_ | refine Nils.mk (fun h => ?_) ?_ | refine Val.t ?_ | refine Val.d ?_ | refine Mm.mk ?_ | (refine Br.mk (fun h => ?_) (fun h => ?_) <;> first | (exfalso; omega; done) | (exfalso; simp at h; done) | skip))
  repeat refine Mm.mk ?_
  refine EndVC.mk _ rfl _ _ ⟨rfl, rfl⟩ ?_
  refine ⟨[], rfl, rfl, ?_, ?_⟩ <;> repeat' (first | exact trivial | exact rfl | exact Iff.rfl | apply And.intro)
theorem s353 (x : Int) : PSpec Tryz.prog 353 [I x] (xP (x ≠ x)) := by
  refine spec_of pMix (O := []) Tryz.func353 (c := bodyOf Tryz.f353) rfl (by kernel_rfl) (by kernel_rfl) Tryz.ntmps353 (res := [.tmp 2]) (by kernel_rfl) ?_
  repeat' ((conv => whnf); first | refine Rng.g ?_ | refine Ob.g ?_ | refine Ob.e ?_ | refine Ob.m ?_ | refine Ob.mk (Nat.le_of_ble_eq_true rfl) ?_ | refine JoinVC.on ?_ | refine Nils.mk (fun h => ?_) ?_ | refine Val.t ?_ | refine Val.d ?_ | refine Mm.mk ?_ | (refine Br.mk (fun h => ?_) (fun h => ?_) <;> first | (exfalso; omega; done) | (exfalso; simp at h; done) | skip))
  repeat refine Mm.mk ?_
  refine EndVC.mk _ rfl _ _ ⟨rfl, rfl⟩ ?_
  refine ⟨[], rfl, rfl, ?_, ?_⟩ <;> repeat' (first | exact trivial | exact rfl | exact Iff.rfl | apply And.intro)
theorem s331 (x y : Int) : PSpec Tryz.prog 331 [I x, I y] (.x (I (cmpI x y))) := by
  by_cases h1 : x < y
  · have e : cmpI x y = -1 := if_pos h1
    rw [e]
    refine spec_of pMix (O := []) Tryz.func331 (c := bodyOf Tryz.f331) rfl (by kernel_rfl) (by kernel_rfl) Tryz.ntmps331 (res := [.tmp 4]) (by kernel_rfl) ?_
    repeat' ((conv => whnf); first | refine Rng.g ?_ | refine Ob.g ?_ | refine Ob.e ?_ | refine Ob.m ?_ | refine Ob.mk (Nat.le_of_ble_eq_true rfl) ?_ | refine JoinVC.on ?_ | refine Nils.mk (fun h => ?_) ?_ | refine Val.t ?_ | refine Val.d ?_ | refine Mm.mk ?_ | refine CallVC.pure rfl (s352 x) ?_ | refine CallVC.pure rfl (s352 y) ?_ | refine CallVC0.pure rfl (s352 x) ?_ | refine CallVC0.pure rfl (s352 y) ?_ | (refine Br.mk (fun h => ?_) (fun h => ?_) <;> first | (exfalso; omega; done) | (exfalso; simp at h; done) | skip))
    all_goals
      repeat refine Mm.mk ?_
      refine EndVC.mk _ rfl _ _ ⟨rfl, rfl⟩ ?_
      refine ⟨[], rfl, rfl, ?_, ?_⟩ <;> repeat' (first | exact trivial | exact rfl | exact Iff.rfl | apply And.intro)
  · by_cases h2 : y < x
    · have e : cmpI x y = 1 := (if_neg h1).trans (if_pos h2)
      rw [e]
      refine spec_of pMix (O := []) Tryz.func331 (c := bodyOf Tryz.f331) rfl (by kernel_rfl) (by kernel_rfl) Tryz.ntmps331 (res := [.tmp 4]) (by kernel_rfl) ?_
      repeat' ((conv => whnf); first | refine Rng.g ?_ | refine Ob.g ?_ | refine Ob.e ?_ | refine Ob.m ?_ | refine Ob.mk (Nat.le_of_ble_eq_true rfl) ?_ | refine JoinVC.on ?_ | refine Nils.mk (fun h => ?_) ?_ | refine Val.t ?_ | refine Val.d ?_ | refine Mm.mk ?_ | refine CallVC.pure rfl (s352 x) ?_ | refine CallVC.pure rfl (s352 y) ?_ | refine CallVC0.pure rfl (s352 x) ?_ | refine CallVC0.pure rfl (s352 y) ?_ | (refine Br.mk (fun h => ?_) (fun h => ?_) <;> first | (exfalso; omega; done) | (exfalso; simp at h; done) | skip))
      all_goals
        repeat refine Mm.mk ?_
        refine EndVC.mk _ rfl _ _ ⟨rfl, rfl⟩ ?_
        refine ⟨[], rfl, rfl, ?_, ?_⟩ <;> repeat' (first | exact trivial | exact rfl | exact Iff.rfl | apply And.intro)
    · have e : cmpI x y = 0 := (if_neg h1).trans (if_neg h2)
      rw [e]
      refine spec_of pMix (O := []) Tryz.func331 (c := bodyOf Tryz.f331) rfl (by kernel_rfl) (by kernel_rfl) Tryz.ntmps331 (res := [.tmp 4]) (by kernel_rfl) ?_
      repeat' ((conv => whnf); first | refine Rng.g ?_ | refine Ob.g ?_ | refine Ob.e ?_ | refine Ob.m ?_ | refine Ob.mk (Nat.le_of_ble_eq_true rfl) ?_ | refine JoinVC.on ?_ | refine Nils.mk (fun h => ?_) ?_ | refine Val.t ?_ | refine Val.d ?_ | refine Mm.mk ?_ | refine CallVC.pure rfl (s352 x) ?_ | refine CallVC.pure rfl (s352 y) ?_ | refine CallVC0.pure rfl (s352 x) ?_ | refine CallVC0.pure rfl (s352 y) ?_ | (refine Br.mk (fun h => ?_) (fun h => ?_) <;> first | (exfalso; omega; done) | (exfalso; simp at h; done) | skip))
      all_goals
        repeat refine Mm.mk ?_
        refine EndVC.mk _ rfl _ _ ⟨rfl, rfl⟩ ?_
        refine ⟨[], rfl, rfl, ?_, ?_⟩ <;> repeat' (first | exact trivial | exact rfl | exact Iff.rfl | apply And.intro)
theorem s332 (x y : Int) : PSpec Tryz.prog 332 [I x, I y] (.x (I (cmpI x y))) := by
  by_cases h1 : x < y
  · have e : cmpI x y = -1 := if_pos h1
    rw [e]
    refine spec_of pMix (O := []) Tryz.func332 (c := bodyOf Tryz.f332) rfl (by kernel_rfl) (by kernel_rfl) Tryz.ntmps332 (res := [.tmp 4]) (by kernel_rfl) ?_
    repeat' ((conv => whnf); first | refine Rng.g ?_ | refine Ob.g ?_ | refine Ob.e ?_ | refine Ob.m ?_ | refine Ob.mk (Nat.le_of_ble_eq_true rfl) ?_ | refine JoinVC.on ?_ | refine Nils.mk (fun h => ?_) ?_ | refine Val.t ?_ | refine Val.d ?_ | refine Mm.mk ?_ | refine CallVC.pure rfl (s353 x) ?_ | refine CallVC.pure rfl (s353 y) ?_ | refine CallVC0.pure rfl (s353 x) ?_ | refine CallVC0.pure rfl (s353 y) ?_ | (refine Br.mk (fun h => ?_) (fun h => ?_) <;> first | (exfalso; omega; done) | (exfalso; simp at h; done) | skip))
    all_goals
      repeat refine Mm.mk ?_
      refine EndVC.mk _ rfl _ _ ⟨rfl, rfl⟩ ?_
      refine ⟨[], rfl, rfl, ?_, ?_⟩ <;> repeat' (first | exact trivial | exact rfl | exact Iff.rfl | apply And.intro)
  · by_cases h2 : y < x
    · have e : cmpI x y = 1 := (if_neg h1).trans (if_pos h2)
      rw [e]
      refine spec_of pMix (O := []) Tryz.func332 (c := bodyOf Tryz.f332) rfl (by kernel_rfl) (by kernel_rfl) Tryz.ntmps332 (res := [.tmp 4]) (by kernel_rfl) ?_
      repeat' ((conv => whnf); first | refine Rng.g ?_ | refine Ob.g ?_ | refine Ob.e ?_ | refine Ob.m ?_ | refine Ob.mk (Nat.le_of_ble_eq_true rfl) ?_ | refine JoinVC.on ?_ | refine Nils.mk (fun h => ?_) ?_ | refine Val.t ?_ | refine Val.d ?_ | refine Mm.mk ?_ | refine CallVC.pure rfl (s353 x) ?_ | refine CallVC.pure rfl (s353 y) ?_ | refine CallVC0.pure rfl (s353 x) ?_ | refine CallVC0.pure rfl (s353 y) ?_ | (refine Br.mk (fun h => ?_) (fun h => ?_) <;> first | (exfalso; omega; done) | (exfalso; simp at h; done) | skip))
      all_goals
        repeat refine Mm.mk ?_
        refine EndVC.mk _ rfl _ _ ⟨rfl, rfl⟩ ?_
        refine ⟨[], rfl, rfl, ?_, ?_⟩ <;> repeat' (first | exact trivial | exact rfl | exact Iff.rfl | apply And.intro)
    · have e : cmpI x y = 0 := (if_neg h1).trans (if_neg h2)
      rw [e]
      refine spec_of pMix (O := []) Tryz.func332 (c := bodyOf Tryz.f332) rfl (by kernel_rfl) (by kernel_rfl) Tryz.ntmps332 (res := [.tmp 4]) (by kernel_rfl) ?_
      repeat' ((conv => whnf); first | refine Rng.g ?_ | refine Ob.g ?_ | refine Ob.e ?_ | refine Ob.m ?_ | refine Ob.mk (Nat.le_of_ble_eq_true rfl) ?_ | refine JoinVC.on ?_ | refine Nils.mk (fun h => ?_) ?_ | refine Val.t ?_ | refine Val.d ?_ | refine Mm.mk ?_ | refine CallVC.pure rfl (s353 x) ?_ | refine CallVC.pure rfl (s353 y) ?_ | refine CallVC0.pure rfl (s353 x) ?_ | refine CallVC0.pure rfl (s353 y) ?_ | (refine Br.mk (fun h => ?_) (fun h => ?_) <;> first | (exfalso; omega; done) | (exfalso; simp at h; done) | skip))
      all_goals
        repeat refine Mm.mk ?_
        refine EndVC.mk _ rfl _ _ ⟨rfl, rfl⟩ ?_
        refine ⟨[], rfl, rfl, ?_, ?_⟩ <;> repeat' (first | exact trivial | exact rfl | exact Iff.rfl | apply And.intro)
theorem s330 (a b : Int) : PSpec Tryz.prog 330 [.one (.lst true [.int .i64] [[.int a], [.int b]])] (.x (I (if a ≠ 0 then a else b))) := by
  have g0 : rI [[Cell.int a], [Cell.int b]] (Int.toNat 0) 0 = a := rfl
  have g1 : rI [[Cell.int a], [Cell.int b]] (Int.toNat (0 + 1)) 0 = b := rfl
  by_cases h1 : a = 0
  · rw [if_neg (fun h => h h1)]
    refine spec_of pMix (O := []) Tryz.func330 (c := bodyOf Tryz.f330) rfl (by kernel_rfl) (by kernel_rfl) Tryz.ntmps330 (res := [.tmp 2]) (by kernel_rfl) ?_
    repeat' ((conv => whnf); first | refine Rng.g ?_ | refine Ob.g ?_ | refine Ob.e ?_ | refine Ob.m ?_ | refine Ob.mk (Nat.le_of_ble_eq_true rfl) ?_ | refine JoinVC.on ?_ | refine Nils.mk (fun h => ?_) ?_ | refine Val.t ?_ | refine Val.d ?_ | refine Mm.mk ?_ | (refine Br.mk (fun h => ?_) (fun h => ?_) <;> first | (exfalso; omega; done) | (exfalso; simp at h; done) | skip))
    refine LoopVC.un 4 ?_
    repeat' ((conv => whnf); first | rw [g0] | rw [g1] | refine Rng.g ?_ | refine Ob.g ?_ | refine Ob.e ?_ | refine Ob.m ?_ | refine Ob.mk (Nat.le_of_ble_eq_true rfl) ?_ | refine JoinVC.on ?_ | refine Nils.mk (fun h => ?_) ?_ | refine Val.t ?_ | refine Val.d ?_ | refine Mm.mk ?_ | (refine Br.mk (fun h => ?_) (fun h => ?_) <;> first | (exfalso; omega; done) | (exfalso; simp at h; done) | skip))
    all_goals
      repeat refine Mm.mk ?_
      refine EndVC.mk _ rfl _ _ ⟨rfl, rfl⟩ ?_
      refine ⟨[], rfl, rfl, ?_, ?_⟩ <;> repeat' (first | exact trivial | exact rfl | exact Iff.rfl | apply And.intro)
    all_goals omega
  · rw [if_pos h1]
    refine spec_of pMix (O := []) Tryz.func330 (c := bodyOf Tryz.f330) rfl (by kernel_rfl) (by kernel_rfl) Tryz.ntmps330 (res := [.tmp 2]) (by kernel_rfl) ?_
    repeat' ((conv => whnf); first | refine Rng.g ?_ | refine Ob.g ?_ | refine Ob.e ?_ | refine Ob.m ?_ | refine Ob.mk (Nat.le_of_ble_eq_true rfl) ?_ | refine JoinVC.on ?_ | refine Nils.mk (fun h => ?_) ?_ | refine Val.t ?_ | refine Val.d ?_ | refine Mm.mk ?_ | (refine Br.mk (fun h => ?_) (fun h => ?_) <;> first | (exfalso; omega; done) | (exfalso; simp at h; done) | skip))
    refine LoopVC.un 4 ?_
    repeat' ((conv => whnf); first | rw [g0] | rw [g1] | refine Rng.g ?_ | refine Ob.g ?_ | refine Ob.e ?_ | refine Ob.m ?_ | refine Ob.mk (Nat.le_of_ble_eq_true rfl) ?_ | refine JoinVC.on ?_ | refine Nils.mk (fun h => ?_) ?_ | refine Val.t ?_ | refine Val.d ?_ | refine Mm.mk ?_ | (refine Br.mk (fun h => ?_) (fun h => ?_) <;> first | (exfalso; omega; done) | (exfalso; simp at h; done) | skip))
    all_goals
      repeat refine Mm.mk ?_
      refine EndVC.mk _ rfl _ _ ⟨rfl, rfl⟩ ?_
      refine ⟨[], rfl, rfl, ?_, ?_⟩ <;> repeat' (first | exact trivial | exact rfl | exact Iff.rfl | apply And.intro)
theorem s298 (f : Fmt) (l : List Sng) (a b : Int) (ha : 0 ≤ a ∧ a < l.length) (hb : 0 ≤ b ∧ b < l.length) : HSpec Tryz.prog 298 [.one (.ptr 0 0), I a, I b] [bPl f l] (fun r m' => r = .x (I (usF l a b)) ∧ m' = [some (bPl f l)]) := by
  have lp := sngA_len l
  have c1 : rI (sngA l) a.toNat (0 + (0 + 1 + 1)) = (l.getD a.toNat g0).least := sngA_2 l _
  have c2 : rI (sngA l) b.toNat (0 + (0 + 1 + 1)) = (l.getD b.toNat g0).least := sngA_2 l _
  have k1 := s331 (l.getD b.toNat g0).least (l.getD a.toNat g0).least
  have k2 := s332 a b
  have k3 := s330 (cmpI (l.getD b.toNat g0).least (l.getD a.toNat g0).least) (cmpI a b)
  refine spec_of pMix (O := [(1, ([], [⟨0, [], []⟩, ⟨1, [], []⟩, ⟨2, [], []⟩, ⟨3, [], []⟩, ⟨4, [], []⟩, ⟨5, [], []⟩, ⟨6, [], []⟩, ⟨7, [], []⟩, ⟨8, [], []⟩, ⟨9, [], []⟩, ⟨10, [], []⟩, ⟨11, [], []⟩, ⟨12, [], []⟩, ⟨13, [], []⟩, ⟨14, [], []⟩, ⟨15, [], []⟩, ⟨17, [], []⟩, ⟨18, [], []⟩, ⟨16, [17, 18], []⟩, ⟨19, [], [20]⟩, ⟨20, [], []⟩, ⟨21, [], []⟩, ⟨22, [], []⟩]))]) Tryz.func298 (c := bodyOf Tryz.f298) rfl (by kernel_rfl) (by kernel_rfl) Tryz.ntmps298 (res := [.tmp 6]) (by kernel_rfl) ?_
  repeat' ((conv => whnf); first | rw [c1] | rw [c2] | refine Rng.g ?_ | refine Ob.g ?_ | refine Ob.e ?_ | refine Ob.m ?_ | refine Ob.mk (Nat.le_of_ble_eq_true rfl) ?_ | refine JoinVC.on ?_ | refine Nils.mk (fun h => ?_) ?_ | refine Val.t ?_ | refine Val.d ?_ | refine Mm.mk ?_ | refine CallVC.pure rfl (k1) ?_ | refine CallVC.pure rfl (k2) ?_ | refine CallVC.pure rfl (k3) ?_ | refine CallVC0.pure rfl (k1) ?_ | refine CallVC0.pure rfl (k2) ?_ | refine CallVC0.pure rfl (k3) ?_ | (refine Br.mk (fun h => ?_) (fun h => ?_) <;> first | (exfalso; omega; done) | (exfalso; simp at h; done) | skip))
  repeat refine Mm.mk ?_
  refine EndVC.mk _ rfl _ _ ⟨rfl, rfl⟩ ?_
  refine ⟨[some 0], rfl, rfl, ?_, ?_⟩ <;> repeat' (first | exact trivial | exact rfl | exact Iff.rfl | apply And.intro)
@[reducible] def rowOd (O : List Int) : Blk := .row 3 false [.int .i64] (i64s O)
theorem i64s_upd' (xs : List Int) (i : Nat) (v : Int) (h : i < xs.length) : updRow (i64s xs) i 0 [.int v] = i64s (xs.set i v) := by
  unfold updRow i64s
  rw [List.map_set]
  congr 1
  simp [List.getD_eq_getElem?_getD, h, setAll]
/-- All of them are numbers of tracks. -/
def InR (O : List Int) (m : Nat) : Prop := ∀ i, i < O.length → 0 ≤ O.getD i 0 ∧ O.getD i 0 < m
theorem InR.swp {O : List Int} {m : Nat} (h : InR O m) {j : Nat} (hj : j + 1 < O.length) : InR (Go.Sx.swp O j) m := fun i hi => by
  rw [swp_len] at hi
  rw [swp_get O hj]
  exact h _ (sg_lt hj hi)
theorem InR.ins {lt : Int → Int → Bool} {m : Nat} : ∀ (j : Nat) {O : List Int}, InR O m → j < O.length → InR (Go.Sx.ins lt O j) m
  | 0, O, h, _ => h
  | j + 1, O, h, hj => by
    unfold Go.Sx.ins
    split
    · exact InR.ins j (h.swp hj) (by rw [swp_len]; omega)
    · exact h
theorem InR.isr {lt : Int → Int → Bool} {m : Nat} {O : List Int} (h : InR O m) : ∀ k, k < O.length ∨ k = 0 → InR (Go.Sx.isr lt O k) m
  | 0, _ => h
  | k + 1, hk => by
    unfold Go.Sx.isr
    exact InR.ins (k + 1) (h.isr k (by omega)) (by rw [isr_len]; omega)
theorem s342 (f : Fmt) (l : List Sng) (O : List Int) (hO : InR O l.length) (hl : O.length ≤ 1000000) : HSpec Tryz.prog 342 [.one (.own 0), I 0, I (O.length : Int), .one (.bnd 298 false [.ptr 1 0])] [rowOd O, bPl f l] (fun r m' => r = .tup [] ∧ m' = [some (rowOd (isr (usB l) O (O.length - 1))), some (bPl f l)]) := by
  have lo := i64s_len O
  refine spec_of pMix (O := [(6, ([], [⟨0, [], []⟩, ⟨1, [], []⟩, ⟨2, [], []⟩, ⟨3, [], []⟩, ⟨4, [], []⟩, ⟨5, [], []⟩, ⟨6, [], []⟩, ⟨7, [], []⟩, ⟨8, [], []⟩, ⟨9, [], []⟩, ⟨10, [], []⟩, ⟨11, [], []⟩, ⟨12, [], []⟩, ⟨13, [], []⟩, ⟨14, [], []⟩, ⟨15, [2, 3, 4], []⟩, ⟨16, [], []⟩, ⟨17, [], []⟩]))]) Tryz.func342 (c := bodyOf Tryz.f342) rfl (by kernel_rfl) (by kernel_rfl) Tryz.ntmps342 (res := []) (by kernel_rfl) ?_
  repeat' ((conv => whnf); first | refine Rng.g ?_ | refine Ob.g ?_ | refine Ob.e ?_ | refine Ob.m ?_ | refine Ob.mk (Nat.le_of_ble_eq_true rfl) ?_ | refine JoinVC.on ?_ | refine Nils.mk (fun h => ?_) ?_ | refine Val.t ?_ | refine Val.d ?_ | refine Mm.mk ?_ | (refine Br.mk (fun h => ?_) (fun h => ?_) <;> first | (exfalso; omega; done) | (exfalso; simp at h; done) | skip))
  refine LoopVC.mk (fun n st => ∃ (k : Nat), (k < O.length ∨ k = 0) ∧ n = O.length - k ∧ st = ⟨2, envA 53 [(0, .x (.one (.own 0))), (1, .x (I 0)), (2, .x (I (O.length : Int))), (3, .x (.one (.bnd 298 false [.ptr 1 0]))), (8, .int .i64 ((k : Int) + 1))], [some (rowOd (isr (usB l) O k)), some (bPl f l)]⟩) _ _ ⟨0, .inr rfl, rfl, rfl⟩ ?_ ?_
  · refine ⟨[some 0, some 1], rfl, rfl, ?_, ?_⟩ <;> repeat' (first | exact trivial | exact rfl | exact Iff.rfl | apply And.intro)
  rintro n _ ⟨k, hk, hn, rfl⟩
  by_cases hk' : k + 1 < O.length
  · obtain ⟨Z, hZ⟩ : ∃ Z, isr (usB l) O (k + 1) = Z := ⟨_, rfl⟩
    have hZ' : ins (usB l) (isr (usB l) O k) (k + 1) = Z := hZ
    repeat' ((conv => whnf); first | refine Rng.g ?_ | refine Ob.g ?_ | refine Ob.e ?_ | refine Ob.m ?_ | refine Ob.mk (Nat.le_of_ble_eq_true rfl) ?_ | refine JoinVC.on ?_ | refine Nils.mk (fun h => ?_) ?_ | refine Val.t ?_ | refine Val.d ?_ | refine Mm.mk ?_ | (refine Br.mk (fun h => ?_) (fun h => ?_) <;> first | (exfalso; omega; done) | (exfalso; simp at h; done) | skip))
    refine LoopVC.mk (fun n st => ∃ (j : Nat) (V : List Int), j ≤ k + 1 ∧ n = j ∧ V.length = O.length ∧ InR V l.length ∧ ins (usB l) V j = Z ∧ st = ⟨2, envA 53 [(0, .x (.one (.own 0))), (1, .x (I 0)), (2, .x (I (O.length : Int))), (3, .x (.one (.bnd 298 false [.ptr 1 0]))), (8, .int .i64 ((k : Int) + 1)), (9, .int .i64 (j : Int))], [some (rowOd V), some (bPl f l)]⟩) _ _ ⟨k + 1, isr (usB l) O k, Nat.le_refl _, rfl, isr_len _ _ _, hO.isr k hk, hZ', rfl⟩ ?_ ?_
    · refine ⟨[some 0, some 1], rfl, rfl, ?_, ?_⟩ <;> repeat' (first | exact trivial | exact rfl | exact Iff.rfl | apply And.intro)
    rintro n _ ⟨j, V, hj, hn, lV, hV, hi, rfl⟩
    have lv := i64s_len V
    cases j with
    | zero =>
      have e : V = Z := hi
      repeat' ((conv => whnf); first | refine Rng.g ?_ | refine Ob.g ?_ | refine Ob.e ?_ | refine Ob.m ?_ | refine Ob.mk (Nat.le_of_ble_eq_true rfl) ?_ | refine JoinVC.on ?_ | refine Nils.mk (fun h => ?_) ?_ | refine Val.t ?_ | refine Val.d ?_ | refine Mm.mk ?_ | (refine Br.mk (fun h => ?_) (fun h => ?_) <;> first | (exfalso; omega; done) | (exfalso; simp at h; done) | skip))
      refine Back.mk (O.length - (k + 1)) _ (by omega) ⟨k + 1, .inl hk', rfl, rfl⟩ ?_
      rw [hZ, ← e]
      refine ⟨[some 0, some 1], rfl, rfl, ?_, ?_⟩ <;> repeat' (first | exact trivial | exact rfl | exact Iff.rfl | apply And.intro)
    | succ j =>
      have g1 : rI (i64s V) ((j + 1 : Nat) : Int).toNat 0 = V.getD (j + 1) 0 := by rw [Int.toNat_natCast]; exact i64s_get V _
      have g2 : rI (i64s V) (((j + 1 : Nat) : Int) - 1).toNat 0 = V.getD j 0 := by rw [show (((j + 1 : Nat) : Int) - 1).toNat = j by omega]; exact i64s_get V _
      have h1 := hV (j + 1) (by omega)
      have h2 := hV j (by omega)
      have u1 : updRow (i64s V) ((j + 1 : Nat) : Int).toNat 0 [Cell.int (V.getD j 0)] = i64s (V.set (j + 1) (V.getD j 0)) := by rw [Int.toNat_natCast]; exact i64s_upd' _ _ _ (by omega)
      have u2 : updRow (i64s (V.set (j + 1) (V.getD j 0))) (((j + 1 : Nat) : Int) - 1).toNat 0 [Cell.int (V.getD (j + 1) 0)] = i64s (swp V j) := by
        rw [show (((j + 1 : Nat) : Int) - 1).toNat = j by omega]
        exact i64s_upd' _ _ _ (by rw [List.length_set]; omega)
      have lv2 : (i64s (V.set (j + 1) (V.getD j 0))).length = V.length := by rw [i64s_len, List.length_set]
      unfold ins at hi
      repeat' ((conv => whnf); first | rw [g1] | rw [g2] | refine Rng.g ?_ | refine Ob.g ?_ | refine Ob.e ?_ | refine Ob.m ?_ | refine Ob.mk (Nat.le_of_ble_eq_true rfl) ?_ | refine JoinVC.on ?_ | refine Nils.mk (fun h => ?_) ?_ | refine Val.t ?_ | refine Val.d ?_ | refine Mm.mk ?_ | (refine Br.mk (fun h => ?_) (fun h => ?_) <;> first | (exfalso; omega; done) | (exfalso; simp at h; done) | skip))
      conv => whnf
      refine CallVC.mk [1] _ _ _ rfl rfl rfl (s298 f l (V.getD (j + 1) 0) (V.getD j 0) h1 h2) (fun r m' h' => ?_)
      obtain ⟨rfl, rfl⟩ := h'
      conv => whnf
      by_cases hlt : usF l (V.getD (j + 1) 0) (V.getD j 0) < 0
      · rw [if_pos (show usB l (V.getD (j + 1) 0) (V.getD j 0) = true from decide_eq_true hlt)] at hi
        repeat' ((conv => whnf); first | rw [g1] | rw [g2] | rw [u1] | rw [u2] | refine Rng.g ?_ | refine Ob.g ?_ | refine Ob.e ?_ | refine Ob.m ?_ | refine Ob.mk (Nat.le_of_ble_eq_true rfl) ?_ | refine JoinVC.on ?_ | refine Nils.mk (fun h => ?_) ?_ | refine Val.t ?_ | refine Val.d ?_ | refine Mm.mk ?_ | (refine Br.mk (fun h => ?_) (fun h => ?_) <;> first | (exfalso; omega; done) | (exfalso; simp at h; done) | skip))
        refine Back.mk j _ (by omega) ⟨j, swp V j, by omega, rfl, by rw [swp_len]; exact lV, hV.swp (by omega), hi, rfl⟩ ?_
        refine ⟨[some 0, some 1], rfl, rfl, ?_, ?_⟩ <;> repeat' (first | exact trivial | exact rfl | exact Iff.rfl | apply And.intro)
        all_goals omega
      · rw [if_neg (show ¬ usB l (V.getD (j + 1) 0) (V.getD j 0) = true from fun h => hlt (of_decide_eq_true h))] at hi
        repeat' ((conv => whnf); first | rw [g1] | rw [g2] | refine Rng.g ?_ | refine Ob.g ?_ | refine Ob.e ?_ | refine Ob.m ?_ | refine Ob.mk (Nat.le_of_ble_eq_true rfl) ?_ | refine JoinVC.on ?_ | refine Nils.mk (fun h => ?_) ?_ | refine Val.t ?_ | refine Val.d ?_ | refine Mm.mk ?_ | (refine Br.mk (fun h => ?_) (fun h => ?_) <;> first | (exfalso; omega; done) | (exfalso; simp at h; done) | skip))
        refine Back.mk (O.length - (k + 1)) _ (by omega) ⟨k + 1, .inl hk', rfl, rfl⟩ ?_
        rw [hZ, ← hi]
        refine ⟨[some 0, some 1], rfl, rfl, ?_, ?_⟩ <;> repeat' (first | exact trivial | exact rfl | exact Iff.rfl | apply And.intro)
  · have ek : k = O.length - 1 := by omega
    subst ek
    repeat' ((conv => whnf); first | refine Rng.g ?_ | refine Ob.g ?_ | refine Ob.e ?_ | refine Ob.m ?_ | refine Ob.mk (Nat.le_of_ble_eq_true rfl) ?_ | refine JoinVC.on ?_ | refine Nils.mk (fun h => ?_) ?_ | refine Val.t ?_ | refine Val.d ?_ | refine Mm.mk ?_ | (refine Br.mk (fun h => ?_) (fun h => ?_) <;> first | (exfalso; omega; done) | (exfalso; simp at h; done) | skip))
    repeat refine Mm.mk ?_
    refine EndVC.mk _ rfl _ _ ⟨rfl, rfl⟩ ?_
    refine ⟨[some 0, some 1], rfl, rfl, ?_, ?_⟩ <;> repeat' (first | exact trivial | exact rfl | exact Iff.rfl | apply And.intro)
theorem rngU8 (x : UInt8) : inR .i64 (x.toNat : Int) := by
  have := x.toNat_lt
  simp only [inR]
  omega
theorem rngU8' (x : UInt8) : inR .i64 (0 + (x.toNat : Int)) := by
  have := x.toNat_lt
  simp only [inR]
  omega
/-- The number of bits is a number. -/
theorem s351 (n : Int) (hn : 0 ≤ n ∧ n ≤ 12) : HSpec Tryz.prog 351 [.one (.int .u64 n)] [] (fun r m' => ∃ v, r = .x (I v) ∧ m' = []) := by
  have hc : n = 0 ∨ n = 1 ∨ n = 2 ∨ n = 3 ∨ n = 4 ∨ n = 5 ∨ n = 6 ∨ n = 7 ∨ n = 8 ∨ n = 9 ∨ n = 10 ∨ n = 11 ∨ n = 12 := by omega
  rcases hc with rfl | rfl | rfl | rfl | rfl | rfl | rfl | rfl | rfl | rfl | rfl | rfl | rfl
  all_goals
    refine spec_of pMix (O := []) Tryz.func351 (c := bodyOf Tryz.f351) rfl (by kernel_rfl) (by kernel_rfl) Tryz.ntmps351 (res := [.tmp 2]) (by kernel_rfl) ?_
    repeat' ((conv => whnf); first | refine Rng.g ?_ | refine Ob.g ?_ | refine Ob.e ?_ | refine Ob.m ?_ | refine Ob.mk (Nat.le_of_ble_eq_true rfl) ?_ | refine JoinVC.on ?_ | refine Nils.mk (fun h => ?_) ?_ | refine Val.t ?_ | refine Val.d ?_ | refine Mm.mk ?_ | (refine Br.mk (fun h => ?_) (fun h => ?_) <;> first | (exfalso; omega; done) | (exfalso; simp at h; done) | skip))
    refine Rng.ok (rngU8 _) ?_
    repeat' ((conv => whnf); first | refine Rng.g ?_ | refine Ob.g ?_ | refine Ob.e ?_ | refine Ob.m ?_ | refine Ob.mk (Nat.le_of_ble_eq_true rfl) ?_ | refine JoinVC.on ?_ | refine Nils.mk (fun h => ?_) ?_ | refine Val.t ?_ | refine Val.d ?_ | refine Mm.mk ?_ | (refine Br.mk (fun h => ?_) (fun h => ?_) <;> first | (exfalso; omega; done) | (exfalso; simp at h; done) | skip))
    refine Rng.ok (rngU8' _) ?_
    repeat' ((conv => whnf); first | refine Rng.g ?_ | refine Ob.g ?_ | refine Ob.e ?_ | refine Ob.m ?_ | refine Ob.mk (Nat.le_of_ble_eq_true rfl) ?_ | refine JoinVC.on ?_ | refine Nils.mk (fun h => ?_) ?_ | refine Val.t ?_ | refine Val.d ?_ | refine Mm.mk ?_ | (refine Br.mk (fun h => ?_) (fun h => ?_) <;> first | (exfalso; omega; done) | (exfalso; simp at h; done) | skip))
    conv => whnf
    exact EndVC.run _ rfl ⟨_, rfl, rfl⟩
theorem s329 (n : Int) (hn : 0 ≤ n ∧ n ≤ 12) : HSpec Tryz.prog 329 [.one (.int .u64 n)] [] (fun r m' => ∃ v, r = .x (I v) ∧ m' = []) := by
  refine spec_of pMix (O := []) Tryz.func329 (c := bodyOf Tryz.f329) rfl (by kernel_rfl) (by kernel_rfl) Tryz.ntmps329 (res := [.tmp 2]) (by kernel_rfl) ?_
  repeat' ((conv => whnf); first | refine Rng.g ?_ | refine Ob.g ?_ | refine Ob.e ?_ | refine Ob.m ?_ | refine Ob.mk (Nat.le_of_ble_eq_true rfl) ?_ | refine JoinVC.on ?_ | refine Nils.mk (fun h => ?_) ?_ | refine Val.t ?_ | refine Val.d ?_ | refine Mm.mk ?_ | (refine Br.mk (fun h => ?_) (fun h => ?_) <;> first | (exfalso; omega; done) | (exfalso; simp at h; done) | skip))
  conv => whnf
  refine CallVC.mk [] _ _ _ rfl rfl rfl (s351 n hn) (fun r m' h' => ?_)
  obtain ⟨v, rfl, rfl⟩ := h'
  conv => whnf
  repeat' ((conv => whnf); first | refine Rng.g ?_ | refine Ob.g ?_ | refine Ob.e ?_ | refine Ob.m ?_ | refine Ob.mk (Nat.le_of_ble_eq_true rfl) ?_ | refine JoinVC.on ?_ | refine Nils.mk (fun h => ?_) ?_ | refine Val.t ?_ | refine Val.d ?_ | refine Mm.mk ?_ | (refine Br.mk (fun h => ?_) (fun h => ?_) <;> first | (exfalso; omega; done) | (exfalso; simp at h; done) | skip))
  repeat refine Mm.mk ?_
  conv => whnf
  refine EndVC.mk _ rfl _ _ (⟨v, rfl, rfl⟩) ?_
  refine ⟨[], rfl, rfl, ?_, ?_⟩ <;> repeat' (first | exact trivial | exact rfl | exact Iff.rfl | apply And.intro)
theorem s328 (f : Fmt) (l : List Sng) (O : List Int) (v : Int) (hO : InR O l.length) (hl : O.length ≤ 12) : HSpec Tryz.prog 328 [.one (.own 0), I 0, I (O.length : Int), I v, .one (.bnd 298 false [.ptr 1 0])] [rowOd O, bPl f l] (fun r m' => r = .tup [] ∧ m' = [some (rowOd (isr (usB l) O (O.length - 1))), some (bPl f l)]) := by
  have lo := i64s_len O
  refine spec_of pMix (O := []) Tryz.func328 (c := bodyOf Tryz.f328) rfl (by kernel_rfl) (by kernel_rfl) Tryz.ntmps328 (res := []) (by kernel_rfl) ?_
  repeat' ((conv => whnf); first | refine Rng.g ?_ | refine Ob.g ?_ | refine Ob.e ?_ | refine Ob.m ?_ | refine Ob.mk (Nat.le_of_ble_eq_true rfl) ?_ | refine JoinVC.on ?_ | refine Nils.mk (fun h => ?_) ?_ | refine Val.t ?_ | refine Val.d ?_ | refine Mm.mk ?_ | (refine Br.mk (fun h => ?_) (fun h => ?_) <;> first | (exfalso; omega; done) | (exfalso; simp at h; done) | skip))
  refine LoopVC.un 1 ?_
  repeat' ((conv => whnf); first | refine Rng.g ?_ | refine Ob.g ?_ | refine Ob.e ?_ | refine Ob.m ?_ | refine Ob.mk (Nat.le_of_ble_eq_true rfl) ?_ | refine JoinVC.on ?_ | refine Nils.mk (fun h => ?_) ?_ | refine Val.t ?_ | refine Val.d ?_ | refine Mm.mk ?_ | (refine Br.mk (fun h => ?_) (fun h => ?_) <;> first | (exfalso; omega; done) | (exfalso; simp at h; done) | skip))
  conv => whnf
  refine CallVC.mk [0, 1] _ _ _ rfl rfl rfl (s342 f l O hO (by omega)) (fun r m' h' => ?_)
  obtain ⟨rfl, rfl⟩ := h'
  conv => whnf
  repeat' ((conv => whnf); first | refine Rng.g ?_ | refine Ob.g ?_ | refine Ob.e ?_ | refine Ob.m ?_ | refine Ob.mk (Nat.le_of_ble_eq_true rfl) ?_ | refine JoinVC.on ?_ | refine Nils.mk (fun h => ?_) ?_ | refine Val.t ?_ | refine Val.d ?_ | refine Mm.mk ?_ | (refine Br.mk (fun h => ?_) (fun h => ?_) <;> first | (exfalso; omega; done) | (exfalso; simp at h; done) | skip))
  repeat refine Mm.mk ?_
  refine EndVC.mk _ rfl _ _ ⟨rfl, rfl⟩ ?_
  refine ⟨[some 0, some 1], rfl, rfl, ?_, ?_⟩ <;> repeat' (first | exact trivial | exact rfl | exact Iff.rfl | apply And.intro)
theorem s297 (f : Fmt) (l : List Sng) (O : List Int) (hO : InR O l.length) (hl : O.length ≤ 12) : HSpec Tryz.prog 297 [.one (.own 0), .one (.bnd 298 false [.ptr 1 0])] [rowOd O, bPl f l] (fun r m' => r = .tup [] ∧ m' = [some (rowOd (isr (usB l) O (O.length - 1))), some (bPl f l)]) := by
  have lo := i64s_len O
  refine spec_of pMix (O := []) Tryz.func297 (c := bodyOf Tryz.f297) rfl (by kernel_rfl) (by kernel_rfl) Tryz.ntmps297 (res := []) (by kernel_rfl) ?_
  repeat' ((conv => whnf); first | rw [lo] | refine Rng.g ?_ | refine Ob.g ?_ | refine Ob.e ?_ | refine Ob.m ?_ | refine Ob.mk (Nat.le_of_ble_eq_true rfl) ?_ | refine JoinVC.on ?_ | refine Nils.mk (fun h => ?_) ?_ | refine Val.t ?_ | refine Val.d ?_ | refine Mm.mk ?_ | (refine Br.mk (fun h => ?_) (fun h => ?_) <;> first | (exfalso; omega; done) | (exfalso; simp at h; done) | skip))
  conv => whnf
  refine CallVC.mk [] _ _ _ rfl rfl rfl (s329 (O.length : Int) (by omega)) (fun r m' h' => ?_)
  obtain ⟨v, rfl, rfl⟩ := h'
  conv => whnf
  repeat' ((conv => whnf); first | refine Rng.g ?_ | refine Ob.g ?_ | refine Ob.e ?_ | refine Ob.m ?_ | refine Ob.mk (Nat.le_of_ble_eq_true rfl) ?_ | refine JoinVC.on ?_ | refine Nils.mk (fun h => ?_) ?_ | refine Val.t ?_ | refine Val.d ?_ | refine Mm.mk ?_ | (refine Br.mk (fun h => ?_) (fun h => ?_) <;> first | (exfalso; omega; done) | (exfalso; simp at h; done) | skip))
  conv => whnf
  refine CallVC.mk [0, 1] _ _ _ rfl rfl rfl (s328 f l O v hO hl) (fun r m' h' => ?_)
  obtain ⟨rfl, rfl⟩ := h'
  conv => whnf
  repeat' ((conv => whnf); first | refine Rng.g ?_ | refine Ob.g ?_ | refine Ob.e ?_ | refine Ob.m ?_ | refine Ob.mk (Nat.le_of_ble_eq_true rfl) ?_ | refine JoinVC.on ?_ | refine Nils.mk (fun h => ?_) ?_ | refine Val.t ?_ | refine Val.d ?_ | refine Mm.mk ?_ | (refine Br.mk (fun h => ?_) (fun h => ?_) <;> first | (exfalso; omega; done) | (exfalso; simp at h; done) | skip))
  repeat refine Mm.mk ?_
  refine EndVC.mk _ rfl _ _ ⟨rfl, rfl⟩ ?_
  refine ⟨[some 0, some 1], rfl, rfl, ?_, ?_⟩ <;> repeat' (first | exact trivial | exact rfl | exact Iff.rfl | apply And.intro)
theorem s296 (xs : List Int) (hl : xs.length ≤ 1000000) : HSpec Tryz.prog 296 [.one (.lst true [.int .i64] (i64s xs))] [] (fun r m' => r = .x (.one (.own 0)) ∧ m' = [some (rowOd xs)]) := by
  have lo := i64s_len xs
  refine spec_of pMix (O := []) Tryz.func296 (c := bodyOf Tryz.f296) rfl (by kernel_rfl) (by kernel_rfl) Tryz.ntmps296 (res := [.tmp 2]) (by kernel_rfl) ?_
  repeat' ((conv => whnf); first | refine Rng.g ?_ | refine Ob.g ?_ | refine Ob.e ?_ | refine Ob.m ?_ | refine Ob.mk (Nat.le_of_ble_eq_true rfl) ?_ | refine JoinVC.on ?_ | refine Nils.mk (fun h => ?_) ?_ | refine Val.t ?_ | refine Val.d ?_ | refine Mm.mk ?_ | (refine Br.mk (fun h => ?_) (fun h => ?_) <;> first | (exfalso; omega; done) | (exfalso; simp at h; done) | skip))
  · repeat refine Mm.mk ?_
    refine EndVC.mk _ rfl _ _ ⟨rfl, rfl⟩ ?_
    refine ⟨[none], rfl, rfl, ?_, ?_⟩ <;> repeat' (first | exact trivial | exact rfl | exact Iff.rfl | apply And.intro)
    exact h
  · repeat refine Mm.mk ?_
    refine Ob.mk (by simp only [eb3, List.length_nil]; omega) ?_
    repeat' ((conv => whnf); first | refine Rng.g ?_ | refine Ob.g ?_ | refine Ob.e ?_ | refine Ob.m ?_ | refine Ob.mk (Nat.le_of_ble_eq_true rfl) ?_ | refine JoinVC.on ?_ | refine Nils.mk (fun h => ?_) ?_ | refine Val.t ?_ | refine Val.d ?_ | refine Mm.mk ?_ | (refine Br.mk (fun h => ?_) (fun h => ?_) <;> first | (exfalso; omega; done) | (exfalso; simp at h; done) | skip))
    repeat refine Mm.mk ?_
    refine EndVC.mk _ rfl _ _ ⟨rfl, rfl⟩ ?_
    refine ⟨[some 1], rfl, rfl, ?_, ?_⟩ <;> repeat' (first | exact trivial | exact rfl | exact Iff.rfl | apply And.intro)
theorem spanL_nn (n : Nat) : InR (spanL 0 n) n := fun i hi => (span_idx n).rng i (by rw [spanL_len] at hi; exact hi)
theorem s231 (n : Nat) (hn : n ≤ 100000) : HSpec Tryz.prog 231 [I 0, I (n : Int)] [] (fun r m' => r = .x (.one (.own 0)) ∧ m' = [some (rowOd (spanL 0 n))]) := by
  refine spec_of pMix (O := []) Tryz.func231 (c := bodyOf Tryz.f231) rfl (by kernel_rfl) (by kernel_rfl) Tryz.ntmps231 (res := [.tmp 4]) (by kernel_rfl) ?_
  repeat' ((conv => whnf); first | refine Rng.g ?_ | refine Ob.g ?_ | refine Ob.e ?_ | refine Ob.m ?_ | refine Ob.mk (Nat.le_of_ble_eq_true rfl) ?_ | refine JoinVC.on ?_ | refine Nils.mk (fun h => ?_) ?_ | refine Val.t ?_ | refine Val.d ?_ | refine Mm.mk ?_ | (refine Br.mk (fun h => ?_) (fun h => ?_) <;> first | (exfalso; omega; done) | (exfalso; simp at h; done) | skip))
  refine LoopVC.mk (fun m st => ∃ (i : Nat), i ≤ n ∧ m = n - i ∧ st = ⟨0, envA 16 [(0, .int .i64 (i : Int)), (1, .x (I (n : Int))), (5, .x (.one (.own 0)))], [some (rowOd (spanL 0 i))]⟩) _ _ ⟨0, Nat.zero_le _, rfl, rfl⟩ ?_ ?_
  · refine ⟨[none], rfl, rfl, ?_, ?_⟩ <;> repeat' (first | exact trivial | exact rfl | exact Iff.rfl | apply And.intro)
  rintro m _ ⟨i, hi, hm, rfl⟩
  have ls : (i64s (spanL 0 i)).length = i := by rw [i64s_len, spanL_len]
  by_cases hi' : i < n
  · repeat' ((conv => whnf); first | refine Rng.g ?_ | refine Ob.g ?_ | refine Ob.e ?_ | refine Ob.m ?_ | refine Ob.mk (Nat.le_of_ble_eq_true rfl) ?_ | refine JoinVC.on ?_ | refine Nils.mk (fun h => ?_) ?_ | refine Val.t ?_ | refine Val.d ?_ | refine Mm.mk ?_ | (refine Br.mk (fun h => ?_) (fun h => ?_) <;> first | (exfalso; omega; done) | (exfalso; simp at h; done) | skip))
    repeat refine Mm.mk ?_
    refine Ob.mk (by rw [eb3]; simp only [List.length_cons, List.length_nil]; omega) ?_
    repeat' ((conv => whnf); first | refine Rng.g ?_ | refine Ob.g ?_ | refine Ob.e ?_ | refine Ob.m ?_ | refine Ob.mk (Nat.le_of_ble_eq_true rfl) ?_ | refine JoinVC.on ?_ | refine Nils.mk (fun h => ?_) ?_ | refine Val.t ?_ | refine Val.d ?_ | refine Mm.mk ?_ | (refine Br.mk (fun h => ?_) (fun h => ?_) <;> first | (exfalso; omega; done) | (exfalso; simp at h; done) | skip))
    refine Back.mk (n - (i + 1)) _ (by omega) ⟨i + 1, by omega, rfl, rfl⟩ ?_
    rw [spanL_succ]
    refine ⟨[some 2], rfl, rfl, ?_, ?_⟩ <;> repeat' (first | exact trivial | exact rfl | exact Iff.rfl | apply And.intro)
    rw [i64s_snoc, Nat.zero_add]
  · have ei : i = n := by omega
    subst ei
    repeat' ((conv => whnf); first | refine Rng.g ?_ | refine Ob.g ?_ | refine Ob.e ?_ | refine Ob.m ?_ | refine Ob.mk (Nat.le_of_ble_eq_true rfl) ?_ | refine JoinVC.on ?_ | refine Nils.mk (fun h => ?_) ?_ | refine Val.t ?_ | refine Val.d ?_ | refine Mm.mk ?_ | (refine Br.mk (fun h => ?_) (fun h => ?_) <;> first | (exfalso; omega; done) | (exfalso; simp at h; done) | skip))
    repeat refine Mm.mk ?_
    refine EndVC.mk _ rfl _ _ ⟨rfl, rfl⟩ ?_
    refine ⟨[some 0], rfl, rfl, ?_, ?_⟩ <;> repeat' (first | exact trivial | exact rfl | exact Iff.rfl | apply And.intro)
theorem s230 (f : Fmt) (l : List Sng) (O : List Int) (hO : InR O l.length) (hl : O.length ≤ 12) : HSpec Tryz.prog 230 [.one (.ptr 0 0), .one (.own 1)] [bPl f l, rowOd O] (fun r m' => r = .x (.one (.own 2)) ∧ m' = [some (bPl f l), some (rowOd O), some (rowOd (isr (usB l) O (O.length - 1)))]) := by
  refine spec_of pMix (O := []) Tryz.func230 (c := bodyOf Tryz.f230) rfl (by kernel_rfl) (by kernel_rfl) Tryz.ntmps230 (res := [.tmp 4]) (by kernel_rfl) ?_
  repeat' ((conv => whnf); first | refine Rng.g ?_ | refine Ob.g ?_ | refine Ob.e ?_ | refine Ob.m ?_ | refine Ob.mk (Nat.le_of_ble_eq_true rfl) ?_ | refine JoinVC.on ?_ | refine Nils.mk (fun h => ?_) ?_ | refine Val.t ?_ | refine Val.d ?_ | refine Mm.mk ?_ | (refine Br.mk (fun h => ?_) (fun h => ?_) <;> first | (exfalso; omega; done) | (exfalso; simp at h; done) | skip))
  conv => whnf
  refine CallVC.mk [] _ _ _ rfl rfl rfl (s296 O (by omega)) (fun r m' h' => ?_)
  obtain ⟨rfl, rfl⟩ := h'
  conv => whnf
  repeat' ((conv => whnf); first | refine Rng.g ?_ | refine Ob.g ?_ | refine Ob.e ?_ | refine Ob.m ?_ | refine Ob.mk (Nat.le_of_ble_eq_true rfl) ?_ | refine JoinVC.on ?_ | refine Nils.mk (fun h => ?_) ?_ | refine Val.t ?_ | refine Val.d ?_ | refine Mm.mk ?_ | (refine Br.mk (fun h => ?_) (fun h => ?_) <;> first | (exfalso; omega; done) | (exfalso; simp at h; done) | skip))
  conv => whnf
  refine CallVC.mk [2, 0] _ _ _ rfl rfl rfl (s297 f l O hO hl) (fun r m' h' => ?_)
  obtain ⟨rfl, rfl⟩ := h'
  conv => whnf
  repeat' ((conv => whnf); first | refine Rng.g ?_ | refine Ob.g ?_ | refine Ob.e ?_ | refine Ob.m ?_ | refine Ob.mk (Nat.le_of_ble_eq_true rfl) ?_ | refine JoinVC.on ?_ | refine Nils.mk (fun h => ?_) ?_ | refine Val.t ?_ | refine Val.d ?_ | refine Mm.mk ?_ | (refine Br.mk (fun h => ?_) (fun h => ?_) <;> first | (exfalso; omega; done) | (exfalso; simp at h; done) | skip))
  repeat refine Mm.mk ?_
  refine EndVC.mk _ rfl _ _ ⟨rfl, rfl⟩ ?_
  refine ⟨[some 0, some 1, some 2], rfl, rfl, ?_, ?_⟩ <;> repeat' (first | exact trivial | exact rfl | exact Iff.rfl | apply And.intro)
theorem s143 (f : Fmt) (l : List Sng) (hl : l.length ≤ 12) : HSpec Tryz.prog 143 [.one (.ptr 0 0)] [bPl f l] (fun r m' => r = .x (.one (.own 1)) ∧ m' = [some (bPl f l), some (rowOd (allO l))]) := by
  have lp := sngA_len l
  have c := s230 f l (spanL 0 l.length) (spanL_nn _) (by rw [spanL_len]; exact hl)
  rw [spanL_len] at c
  refine spec_of pMix (O := []) Tryz.func143 (c := bodyOf Tryz.f143) rfl (by kernel_rfl) (by kernel_rfl) Tryz.ntmps143 (res := [.tmp 2]) (by kernel_rfl) ?_
  repeat' ((conv => whnf); first | rw [lp] | refine Rng.g ?_ | refine Ob.g ?_ | refine Ob.e ?_ | refine Ob.m ?_ | refine Ob.mk (Nat.le_of_ble_eq_true rfl) ?_ | refine JoinVC.on ?_ | refine Nils.mk (fun h => ?_) ?_ | refine Val.t ?_ | refine Val.d ?_ | refine Mm.mk ?_ | (refine Br.mk (fun h => ?_) (fun h => ?_) <;> first | (exfalso; omega; done) | (exfalso; simp at h; done) | skip))
  conv => whnf
  refine CallVC.mk [] _ _ _ rfl rfl rfl (s231 l.length (by omega)) (fun r m' h' => ?_)
  obtain ⟨rfl, rfl⟩ := h'
  conv => whnf
  repeat' ((conv => whnf); first | refine Rng.g ?_ | refine Ob.g ?_ | refine Ob.e ?_ | refine Ob.m ?_ | refine Ob.mk (Nat.le_of_ble_eq_true rfl) ?_ | refine JoinVC.on ?_ | refine Nils.mk (fun h => ?_) ?_ | refine Val.t ?_ | refine Val.d ?_ | refine Mm.mk ?_ | (refine Br.mk (fun h => ?_) (fun h => ?_) <;> first | (exfalso; omega; done) | (exfalso; simp at h; done) | skip))
  conv => whnf
  refine CallVC.mk [0, 1] _ _ _ rfl rfl rfl (c) (fun r m' h' => ?_)
  obtain ⟨rfl, rfl⟩ := h'
  conv => whnf
  repeat' ((conv => whnf); first | refine Rng.g ?_ | refine Ob.g ?_ | refine Ob.e ?_ | refine Ob.m ?_ | refine Ob.mk (Nat.le_of_ble_eq_true rfl) ?_ | refine JoinVC.on ?_ | refine Nils.mk (fun h => ?_) ?_ | refine Val.t ?_ | refine Val.d ?_ | refine Mm.mk ?_ | (refine Br.mk (fun h => ?_) (fun h => ?_) <;> first | (exfalso; omega; done) | (exfalso; simp at h; done) | skip))
  repeat refine Mm.mk ?_
  refine EndVC.mk _ rfl _ _ ⟨rfl, rfl⟩ ?_
  refine ⟨[some 0, some 2], rfl, rfl, ?_, ?_⟩ <;> repeat' (first | exact trivial | exact rfl | exact Iff.rfl | apply And.intro)
/-! ### The bands -/
@[reducible] def rowB (A : Arr) : Blk := .row 116 false [.int .i64, .int .i64, .int .i64] A
theorem eb116 : Tryz.t116.bytes = 24 := by kernel_rfl
inductive LyRs (f : Fmt) (l : List Sng) (O : List Int) (r : AV) (m' : List (Option Blk)) : Prop
  | rule (i : Nat) (hi : i < O.length) (h : ∀ j, j < i → okAt f l O j) (hn : ¬ okAt f l O i) (hr : r = .tup [.one .nils, I (i : Int), I 20]) (hm : m' = [some (bPl f l)])
  | limit (h : ∀ j, j < O.length → okAt f l O j) (hn : ¬ LayOK f l O) (hr : r = .tup [.one .nils, I (O.length : Int), I 14]) (hm : m' = [some (bPl f l)])
  | ok (h : LayOK f l O) (hr : r = .tup [.one (.own 1), I (O.length : Int), I 0]) (hm : m' = [some (bPl f l), some (rowB (bndA f l O O.length))])
theorem s146 (f : Fmt) (l : List Sng) (O : List Int) (hf : FmtOK f) (hg : SngsOK l) (hO : InR O l.length) (hl : O.length ≤ 100) : HSpec Tryz.prog 146 [.one (.ptr 0 0), .one (.lst true [.int .i64] (i64s O))] [bPl f l] (LyRs f l O) := by
  have lo := i64s_len O
  have lg := sngA_len l
  have hbd := atF_bd hf hg hO
  have hf1 := hf.outer
  have hf2 := hf.lead
  have hf3 := hf.gap
  have hf4 := hf.tail
  have hf5 := hf.inner
  refine spec_of pMix (O := []) Tryz.func146 (c := bodyOf Tryz.f146) rfl (by kernel_rfl) (by kernel_rfl) Tryz.ntmps146 (res := [.tmp 4, .tmp 5, .tmp 6]) (by kernel_rfl) ?_
  repeat' ((conv => whnf); first | refine Rng.g ?_ | refine Ob.g ?_ | refine Ob.e ?_ | refine Ob.m ?_ | refine Ob.mk (Nat.le_of_ble_eq_true rfl) ?_ | refine JoinVC.on ?_ | refine Nils.mk (fun h => ?_) ?_ | refine Val.t ?_ | refine Val.d ?_ | refine Mm.mk ?_ | (refine Br.mk (fun h => ?_) (fun h => ?_) <;> first | (exfalso; omega; done) | (exfalso; simp at h; done) | skip))
  refine LoopVC.mk (fun n st => ∃ (i : Nat), i ≤ O.length ∧ n = O.length - i ∧ (∀ j, j < i → okAt f l O j) ∧ st = ⟨1, envA 89 [(0, .x (.one (.ptr 0 0))), (1, .x (.one (.lst true [.int .i64] (i64s O)))), (7, .x (.one (.own 1))), (8, .int .i64 (atF f l O i)), (23, .x (.one (.lst true [.int .i64] (i64s O)))), (24, .int .i64 (O.length : Int)), (25, .int .i64 (i : Int))], [some (bPl f l), some (rowB (bndA f l O i))]⟩) _ _ ⟨0, Nat.zero_le _, rfl, fun j hj => absurd hj (Nat.not_lt_zero j), rfl⟩ ?_ ?_
  · refine ⟨[some 0, none], rfl, rfl, ?_, ?_⟩ <;> repeat' (first | exact trivial | exact rfl | exact Iff.rfl | apply And.intro)
    exact congrArg Int.ofNat lo
  rintro n _ ⟨i, hi, hn, hj, rfl⟩
  have lb := bndA_len f l O i
  have gi : rI (i64s O) (i : Int).toNat 0 = O.getD i 0 := by rw [Int.toNat_natCast]; exact i64s_get O i
  have hbi := hbd i hi
  by_cases hi' : i < O.length
  · have hr := hO i hi'
    obtain ⟨q, hq⟩ : ∃ q, O.getD i 0 = q := ⟨_, rfl⟩
    have c0 : rI (sngA l) q.toNat 0 = (l.getD q.toNat g0).long := sngA_0 l _
    have c1 : rI (sngA l) q.toNat (0 + 1) = (l.getD q.toNat g0).pitch := sngA_1 l _
    have c2 : rI (sngA l) q.toNat (0 + 1 + 1) = (l.getD q.toNat g0).least := sngA_2 l _
    have c3 : rI (sngA l) q.toNat (0 + (0 + 1 + 1)) = (l.getD q.toNat g0).least := sngA_2 l _
    rw [hq] at gi hr
    have hgk := hg.each q.toNat (by omega)
    have hw := (wid_bd hf.per.1 hgk).2
    have k1 := s139 f (some l) (l.getD q.toNat g0) hf hgk
    have ea : atF f l O (i + 1) = atF f l O i - (if 0 < i then f.gap else 0) - widF f (l.getD (O.getD i 0).toNat g0) := rfl
    rw [hq] at ea
    have eo : okAt f l O i ↔ (l.getD q.toNat g0).least ≤ atF f l O (i + 1) := by unfold okAt; rw [hq]
    by_cases h0 : 0 < i
    · have e1 : (if 0 < i then f.gap else 0) = f.gap := if_pos h0
      have e2 : (atF f l O i - f.gap) - widF f (l.getD q.toNat g0) = atF f l O (i + 1) := by rw [ea, e1]
      have hbj := hbd (i + 1) hi'
      have e3 : bndR f l O i = [Cell.int q, Cell.int (atF f l O i - f.gap), Cell.int (atF f l O (i + 1))] := by unfold bndR; rw [hq, e1]
      repeat' ((conv => whnf); first | rw [gi] | rw [c0] | rw [c1] | rw [c2] | refine Rng.g ?_ | refine Ob.g ?_ | refine Ob.e ?_ | refine Ob.m ?_ | refine Ob.mk (Nat.le_of_ble_eq_true rfl) ?_ | refine JoinVC.on ?_ | refine Nils.mk (fun h => ?_) ?_ | refine Val.t ?_ | refine Val.d ?_ | refine Mm.mk ?_ | (refine Br.mk (fun h => ?_) (fun h => ?_) <;> first | (exfalso; omega; done) | (exfalso; simp at h; done) | skip))
      conv => whnf
      refine CallVC.mk [0] _ _ _ rfl rfl rfl (k1) (fun r m' h' => ?_)
      obtain ⟨rfl, rfl⟩ := h'
      conv => whnf
      repeat' ((conv => whnf); first | rw [e2] | rw [c3] | refine Rng.g ?_ | refine Ob.g ?_ | refine Ob.e ?_ | refine Ob.m ?_ | refine Ob.mk (Nat.le_of_ble_eq_true rfl) ?_ | refine JoinVC.on ?_ | refine Nils.mk (fun h => ?_) ?_ | refine Val.t ?_ | refine Val.d ?_ | refine Mm.mk ?_ | (refine Br.mk (fun h => ?_) (fun h => ?_) <;> first | (exfalso; omega; done) | (exfalso; simp at h; done) | skip))
      · have hno : ¬ okAt f l O i := fun hk => by have := eo.1 hk; omega
        repeat refine Mm.mk ?_
        conv => whnf
        refine EndVC.mk _ rfl _ _ (.rule i hi' hj hno rfl rfl) ?_
        refine ⟨[some 0], rfl, rfl, ?_, ?_⟩ <;> repeat' (first | exact trivial | exact rfl | exact Iff.rfl | apply And.intro)
      · repeat refine Mm.mk ?_
        refine Ob.mk (by rw [eb116]; simp only [List.length_cons, List.length_nil]; omega) ?_
        repeat' ((conv => whnf); first | rw [e2] | rw [c3] | refine Rng.g ?_ | refine Ob.g ?_ | refine Ob.e ?_ | refine Ob.m ?_ | refine Ob.mk (Nat.le_of_ble_eq_true rfl) ?_ | refine JoinVC.on ?_ | refine Nils.mk (fun h => ?_) ?_ | refine Val.t ?_ | refine Val.d ?_ | refine Mm.mk ?_ | (refine Br.mk (fun h => ?_) (fun h => ?_) <;> first | (exfalso; omega; done) | (exfalso; simp at h; done) | skip))
        refine Back.mk (O.length - (i + 1)) _ (by omega) ⟨i + 1, by omega, rfl, fun j hj' => ?_, rfl⟩ ?_
        · rcases Nat.lt_succ_iff_lt_or_eq.1 hj' with h' | rfl
          · exact hj j h'
          · exact eo.2 (by omega)
        · rw [bndA_succ, e3]
          refine ⟨[some 0, some 4], rfl, rfl, ?_, ?_⟩ <;> repeat' (first | exact trivial | exact rfl | exact Iff.rfl | apply And.intro)
    · have e1 : (if 0 < i then f.gap else 0) = 0 := if_neg h0
      have e2 : (atF f l O i) - widF f (l.getD q.toNat g0) = atF f l O (i + 1) := by rw [ea, e1]; omega
      have hbj := hbd (i + 1) hi'
      have e3 : bndR f l O i = [Cell.int q, Cell.int (atF f l O i), Cell.int (atF f l O (i + 1))] := by unfold bndR; rw [hq, e1]; simp only [Int.sub_zero]
      repeat' ((conv => whnf); first | rw [gi] | rw [c0] | rw [c1] | rw [c2] | refine Rng.g ?_ | refine Ob.g ?_ | refine Ob.e ?_ | refine Ob.m ?_ | refine Ob.mk (Nat.le_of_ble_eq_true rfl) ?_ | refine JoinVC.on ?_ | refine Nils.mk (fun h => ?_) ?_ | refine Val.t ?_ | refine Val.d ?_ | refine Mm.mk ?_ | (refine Br.mk (fun h => ?_) (fun h => ?_) <;> first | (exfalso; omega; done) | (exfalso; simp at h; done) | skip))
      conv => whnf
      refine CallVC.mk [0] _ _ _ rfl rfl rfl (k1) (fun r m' h' => ?_)
      obtain ⟨rfl, rfl⟩ := h'
      conv => whnf
      repeat' ((conv => whnf); first | rw [e2] | rw [c3] | refine Rng.g ?_ | refine Ob.g ?_ | refine Ob.e ?_ | refine Ob.m ?_ | refine Ob.mk (Nat.le_of_ble_eq_true rfl) ?_ | refine JoinVC.on ?_ | refine Nils.mk (fun h => ?_) ?_ | refine Val.t ?_ | refine Val.d ?_ | refine Mm.mk ?_ | (refine Br.mk (fun h => ?_) (fun h => ?_) <;> first | (exfalso; omega; done) | (exfalso; simp at h; done) | skip))
      · have hno : ¬ okAt f l O i := fun hk => by have := eo.1 hk; omega
        repeat refine Mm.mk ?_
        conv => whnf
        refine EndVC.mk _ rfl _ _ (.rule i hi' hj hno rfl rfl) ?_
        refine ⟨[some 0], rfl, rfl, ?_, ?_⟩ <;> repeat' (first | exact trivial | exact rfl | exact Iff.rfl | apply And.intro)
      · repeat refine Mm.mk ?_
        refine Ob.mk (by rw [eb116]; simp only [List.length_cons, List.length_nil]; omega) ?_
        repeat' ((conv => whnf); first | rw [e2] | rw [c3] | refine Rng.g ?_ | refine Ob.g ?_ | refine Ob.e ?_ | refine Ob.m ?_ | refine Ob.mk (Nat.le_of_ble_eq_true rfl) ?_ | refine JoinVC.on ?_ | refine Nils.mk (fun h => ?_) ?_ | refine Val.t ?_ | refine Val.d ?_ | refine Mm.mk ?_ | (refine Br.mk (fun h => ?_) (fun h => ?_) <;> first | (exfalso; omega; done) | (exfalso; simp at h; done) | skip))
        refine Back.mk (O.length - (i + 1)) _ (by omega) ⟨i + 1, by omega, rfl, fun j hj' => ?_, rfl⟩ ?_
        · rcases Nat.lt_succ_iff_lt_or_eq.1 hj' with h' | rfl
          · exact hj j h'
          · exact eo.2 (by omega)
        · rw [bndA_succ, e3]
          refine ⟨[some 0, some 4], rfl, rfl, ?_, ?_⟩ <;> repeat' (first | exact trivial | exact rfl | exact Iff.rfl | apply And.intro)
  · have ei : i = O.length := by omega
    subst ei
    repeat' ((conv => whnf); first | rw [lo] | refine Rng.g ?_ | refine Ob.g ?_ | refine Ob.e ?_ | refine Ob.m ?_ | refine Ob.mk (Nat.le_of_ble_eq_true rfl) ?_ | refine JoinVC.on ?_ | refine Nils.mk (fun h => ?_) ?_ | refine Val.t ?_ | refine Val.d ?_ | refine Mm.mk ?_ | (refine Br.mk (fun h => ?_) (fun h => ?_) <;> first | (exfalso; omega; done) | (exfalso; simp at h; done) | skip))
    · repeat refine Mm.mk ?_
      conv => whnf
      refine EndVC.mk _ rfl _ _ (.limit hj (fun hL => (by have := hL.2; omega)) rfl rfl) ?_
      refine ⟨[some 0], rfl, rfl, ?_, ?_⟩ <;> repeat' (first | exact trivial | exact rfl | exact Iff.rfl | apply And.intro)
    · repeat refine Mm.mk ?_
      conv => whnf
      refine EndVC.mk _ rfl _ _ (.ok ⟨hj, by omega⟩ rfl rfl) ?_
      refine ⟨[some 0, some 1], rfl, rfl, ?_, ?_⟩ <;> repeat' (first | exact trivial | exact rfl | exact Iff.rfl | apply And.intro)
end Go.Sx

namespace Go.Sx
open Go Go.Proofs
set_option maxRecDepth 10000
set_option maxHeartbeats 4000000
theorem s206L (t : Trk) (r0 r : Int) (ht : TrkOK (t.at r)) : HSpec Tryz.prog 206 [I r, .one (.ptr 0 0)] [.box 213 [.fn 207 [(1, 0), (2, 0)]], .box 214 [.ptr 3 0], .box 33 [.fn 115 [(4, 0)]], bTk (t.at r0), .box 214 [.ptr 3 0]] (fun x m' => x = xP (pL t r) ∧ m' = [some (.box 213 [.fn 207 [(1, 0), (2, 0)]]), some (.box 214 [.ptr 3 0]), some (.box 33 [.fn 115 [(4, 0)]]), some (bTk (t.at r)), some (.box 214 [.ptr 3 0])]) := by
  refine spec_of pMix (O := []) Tryz.func206 (c := bodyOf Tryz.f206) rfl (by kernel_rfl) (by kernel_rfl) Tryz.ntmps206 (res := [.tmp 3]) (by kernel_rfl) ?_
  repeat' ((conv => whnf); first | refine Rng.g ?_ | refine Ob.g ?_ | refine Ob.e ?_ | refine Ob.m ?_ | refine Ob.mk (Nat.le_of_ble_eq_true rfl) ?_ | refine JoinVC.on ?_ | refine Nils.mk (fun h => ?_) ?_ | refine Val.t ?_ | refine Val.d ?_ | refine Mm.mk ?_ | (refine Br.mk (fun h => ?_) (fun h => ?_) <;> first | (exfalso; omega; done) | (exfalso; simp at h; done) | skip))
  conv => whnf
  refine CallVC.mk [1, 2, 3, 4] _ _ _ rfl rfl rfl (s207 (t.at r0) r ht) (fun r m' h' => ?_)
  obtain ⟨rfl, rfl⟩ := h'
  conv => whnf
  repeat' ((conv => whnf); first | refine Rng.g ?_ | refine Ob.g ?_ | refine Ob.e ?_ | refine Ob.m ?_ | refine Ob.mk (Nat.le_of_ble_eq_true rfl) ?_ | refine JoinVC.on ?_ | refine Nils.mk (fun h => ?_) ?_ | refine Val.t ?_ | refine Val.d ?_ | refine Mm.mk ?_ | (refine Br.mk (fun h => ?_) (fun h => ?_) <;> first | (exfalso; omega; done) | (exfalso; simp at h; done) | skip))
  repeat refine Mm.mk ?_
  refine EndVC.mk _ rfl _ _ ⟨rfl, rfl⟩ ?_
  refine ⟨[some 0, some 1, some 2, some 3, some 4], rfl, rfl, ?_, ?_⟩ <;> repeat' (first | exact trivial | exact rfl | exact Iff.rfl | apply And.intro)
theorem s136L (t : Trk) (r0 : Int) (ht : ∀ r, 0 ≤ r → r ≤ 4194304 → TrkOK (t.at r)) : HSpec Tryz.prog 136 [I 4194305, .one (.fn 206 [(0, 0)])] [.box 213 [.fn 207 [(1, 0), (2, 0)]], .box 214 [.ptr 3 0], .box 33 [.fn 115 [(4, 0)]], bTk (t.at r0), .box 214 [.ptr 3 0]] (fun x m' => ∃ k r', Least (pL t) 4194305 k ∧ x = .x (I k) ∧ m' = [some (.box 213 [.fn 207 [(1, 0), (2, 0)]]), some (.box 214 [.ptr 3 0]), some (.box 33 [.fn 115 [(4, 0)]]), some (bTk (t.at r')), some (.box 214 [.ptr 3 0])]) := by
  have hc : CutOK t.c := (ht 0 (by decide) (by decide)).c
  have hp : 1 ≤ t.per := (ht 0 (by decide) (by decide)).per.1
  refine spec_of pMix (O := []) Tryz.func136 (c := bodyOf Tryz.f136) rfl (by kernel_rfl) (by kernel_rfl) Tryz.ntmps136 (res := [.tmp 4]) (by kernel_rfl) ?_
  repeat' ((conv => whnf); first | refine Rng.g ?_ | refine Ob.g ?_ | refine Ob.e ?_ | refine Ob.m ?_ | refine Ob.mk (Nat.le_of_ble_eq_true rfl) ?_ | refine JoinVC.on ?_ | refine Nils.mk (fun h => ?_) ?_ | refine Val.t ?_ | refine Val.d ?_ | refine Mm.mk ?_ | (refine Br.mk (fun h => ?_) (fun h => ?_) <;> first | (exfalso; omega; done) | (exfalso; simp at h; done) | skip))
  refine LoopVC.mk (fun n st => ∃ (i' j r1 : Int), (0 ≤ i' ∧ i' ≤ j ∧ j ≤ 4194305) ∧ n = (j - i').toNat ∧ (∀ q, 0 ≤ q → q < i' → ¬ pL t q) ∧ (j < 4194305 → pL t j) ∧ st = ⟨5, envA 26 [(1, .x (.one (.fn 206 [(0, 0)]))), (5, .int .i64 i'), (6, .int .i64 j)], [some (.box 213 [.fn 207 [(1, 0), (2, 0)]]), some (.box 214 [.ptr 3 0]), some (.box 33 [.fn 115 [(4, 0)]]), some (bTk (t.at r1)), some (.box 214 [.ptr 3 0])]⟩) _ _ ⟨0, 4194305, r0, by omega, rfl, fun q h1 h2 => by omega, fun h1 => by omega, rfl⟩ ?_ ?_
  · refine ⟨[some 0, some 1, some 2, some 3, some 4], rfl, rfl, ?_, ?_⟩ <;> repeat' (first | exact trivial | exact rfl | exact Iff.rfl | apply And.intro)
  rintro n _ ⟨i', j, r1, hij, hn, hno, hyes, rfl⟩
  by_cases hlt : i' < j
  · obtain ⟨g, hg⟩ : ∃ g, g = (i' + j) / 2 := ⟨_, rfl⟩
    have h1 : i' ≤ g ∧ g < j := by omega
    repeat' ((conv => whnf); first | refine Rng.g ?_ | refine Ob.g ?_ | refine Ob.e ?_ | refine Ob.m ?_ | refine Ob.mk (Nat.le_of_ble_eq_true rfl) ?_ | refine JoinVC.on ?_ | refine Nils.mk (fun h => ?_) ?_ | refine Val.t ?_ | refine Val.d ?_ | refine Mm.mk ?_ | (refine Br.mk (fun h => ?_) (fun h => ?_) <;> first | (exfalso; omega; done) | (exfalso; simp at h; done) | skip))
    refine Val.mk g (by rw [hg]; rfl) ?_
    repeat' ((conv => whnf); first | refine Rng.g ?_ | refine Ob.g ?_ | refine Ob.e ?_ | refine Ob.m ?_ | refine Ob.mk (Nat.le_of_ble_eq_true rfl) ?_ | refine JoinVC.on ?_ | refine Nils.mk (fun h => ?_) ?_ | refine Val.t ?_ | refine Val.d ?_ | refine Mm.mk ?_ | (refine Br.mk (fun h => ?_) (fun h => ?_) <;> first | (exfalso; omega; done) | (exfalso; simp at h; done) | skip))
    conv => whnf
    refine CallVC.mk [0, 1, 2, 3, 4] _ _ _ rfl rfl rfl (s206L t r1 g (ht g (by omega) (by omega))) (fun r m' h' => ?_)
    obtain ⟨rfl, rfl⟩ := h'
    conv => whnf
    repeat' ((conv => whnf); first | refine Rng.g ?_ | refine Ob.g ?_ | refine Ob.e ?_ | refine Ob.m ?_ | refine Ob.mk (Nat.le_of_ble_eq_true rfl) ?_ | refine JoinVC.on ?_ | refine Nils.mk (fun h => ?_) ?_ | refine Val.t ?_ | refine Val.d ?_ | refine Mm.mk ?_ | (refine Br.mk (fun h => ?_) (fun h => ?_) <;> first | (exfalso; omega; done) | (exfalso; simp at h; done) | skip))
    · refine Back.mk (j - (g + 1)).toNat _ (by omega) ⟨g + 1, j, g, by omega, rfl, fun q h2 h3 h4 => h (h4.mono hc hp h2 (by omega)), hyes, rfl⟩ ?_
      refine ⟨[some 0, some 1, some 2, some 3, some 4], rfl, rfl, ?_, ?_⟩ <;> repeat' (first | exact trivial | exact rfl | exact Iff.rfl | apply And.intro)
    · refine Back.mk (g - i').toNat _ (by omega) ⟨i', g, g, by omega, rfl, hno, fun _ => Classical.not_not.1 h, rfl⟩ ?_
      refine ⟨[some 0, some 1, some 2, some 3, some 4], rfl, rfl, ?_, ?_⟩ <;> repeat' (first | exact trivial | exact rfl | exact Iff.rfl | apply And.intro)
  · repeat' ((conv => whnf); first | refine Rng.g ?_ | refine Ob.g ?_ | refine Ob.e ?_ | refine Ob.m ?_ | refine Ob.mk (Nat.le_of_ble_eq_true rfl) ?_ | refine JoinVC.on ?_ | refine Nils.mk (fun h => ?_) ?_ | refine Val.t ?_ | refine Val.d ?_ | refine Mm.mk ?_ | (refine Br.mk (fun h => ?_) (fun h => ?_) <;> first | (exfalso; omega; done) | (exfalso; simp at h; done) | skip))
    have e : i' = j := by omega
    subst e
    repeat refine Mm.mk ?_
    conv => whnf
    refine EndVC.mk _ rfl _ _ (⟨i', r1, ⟨by omega, hno, hyes⟩, rfl, rfl⟩) ?_
    refine ⟨[some 0, some 1, some 2, some 3, some 4], rfl, rfl, ?_, ?_⟩ <;> repeat' (first | exact trivial | exact rfl | exact Iff.rfl | apply And.intro)
theorem s109L (t : Trk) (r0 : Int) (ht : ∀ r, 0 ≤ r → r ≤ 4194304 → TrkOK (t.at r)) : HSpec Tryz.prog 109 [I 4194304, .one (.fn 207 [(0, 0), (1, 0)])] [.box 214 [.ptr 2 0], .box 33 [.fn 115 [(3, 0)]], bTk (t.at r0), .box 214 [.ptr 2 0]] (fun x m' => ∃ k r', Least (pL t) 4194305 k ∧ x = .x (I k) ∧ m' = [some (.box 214 [.ptr 2 0]), some (.box 33 [.fn 115 [(3, 0)]]), some (bTk (t.at r')), some (.box 214 [.ptr 2 0])]) := by
  refine spec_of pMix (O := []) Tryz.func109 (c := bodyOf Tryz.f109) rfl (by kernel_rfl) (by kernel_rfl) Tryz.ntmps109 (res := [.tmp 4]) (by kernel_rfl) ?_
  repeat' ((conv => whnf); first | refine Rng.g ?_ | refine Ob.g ?_ | refine Ob.e ?_ | refine Ob.m ?_ | refine Ob.mk (Nat.le_of_ble_eq_true rfl) ?_ | refine JoinVC.on ?_ | refine Nils.mk (fun h => ?_) ?_ | refine Val.t ?_ | refine Val.d ?_ | refine Mm.mk ?_ | (refine Br.mk (fun h => ?_) (fun h => ?_) <;> first | (exfalso; omega; done) | (exfalso; simp at h; done) | skip))
  conv => whnf
  refine CallVC.mk [4, 0, 1, 2, 3] _ _ _ rfl rfl rfl (s136L t r0 ht) (fun r m' h' => ?_)
  obtain ⟨k, r', hk, rfl, rfl⟩ := h'
  conv => whnf
  have hk1 := hk.rng
  repeat' ((conv => whnf); first | refine Rng.g ?_ | refine Ob.g ?_ | refine Ob.e ?_ | refine Ob.m ?_ | refine Ob.mk (Nat.le_of_ble_eq_true rfl) ?_ | refine JoinVC.on ?_ | refine Nils.mk (fun h => ?_) ?_ | refine Val.t ?_ | refine Val.d ?_ | refine Mm.mk ?_ | (refine Br.mk (fun h => ?_) (fun h => ?_) <;> first | (exfalso; omega; done) | (exfalso; simp at h; done) | skip))
  repeat refine Mm.mk ?_
  conv => whnf
  refine EndVC.mk _ rfl _ _ (⟨k, r', hk, rfl, rfl⟩) ?_
  refine ⟨[some 0, some 1, some 2, some 3], rfl, rfl, ?_, ?_⟩ <;> repeat' (first | exact trivial | exact rfl | exact Iff.rfl | apply And.intro)
theorem s114L (t : Trk) (per0 : Int) (ht : ∀ r, 0 ≤ r → r ≤ 4194304 → TrkOK (t.at r)) : HSpec Tryz.prog 114 [.one (.ptr 0 0), I t.per, .one (.fn 115 [(1, 0)])] [bTk ⟨t.c, t.p, t.r, per0⟩, .box 214 [.ptr 0 0]] (fun x m' => ∃ k r', Least (pL t) 4194305 k ∧ ((4194304 < k ∧ x = .tup [I 0, I 14]) ∨ (k ≤ 4194304 ∧ x = .tup [I k, I 0])) ∧ m' = [some (bTk (t.at r')), some (.box 214 [.ptr 0 0])]) := by
  refine spec_of pMix (O := []) Tryz.func114 (c := bodyOf Tryz.f114) rfl (by kernel_rfl) (by kernel_rfl) Tryz.ntmps114 (res := [.tmp 6, .tmp 7]) (by kernel_rfl) ?_
  repeat' ((conv => whnf); first | refine Rng.g ?_ | refine Ob.g ?_ | refine Ob.e ?_ | refine Ob.m ?_ | refine Ob.mk (Nat.le_of_ble_eq_true rfl) ?_ | refine JoinVC.on ?_ | refine Nils.mk (fun h => ?_) ?_ | refine Val.t ?_ | refine Val.d ?_ | refine Mm.mk ?_ | (refine Br.mk (fun h => ?_) (fun h => ?_) <;> first | (exfalso; omega; done) | (exfalso; simp at h; done) | skip))
  conv => whnf
  refine CallVC.mk [2, 3, 0, 1] _ _ _ rfl rfl rfl (s109L t t.r ht) (fun r m' h' => ?_)
  obtain ⟨k, r', hk, rfl, rfl⟩ := h'
  conv => whnf
  have hk1 := hk.rng
  repeat' ((conv => whnf); first | refine Rng.g ?_ | refine Ob.g ?_ | refine Ob.e ?_ | refine Ob.m ?_ | refine Ob.mk (Nat.le_of_ble_eq_true rfl) ?_ | refine JoinVC.on ?_ | refine Nils.mk (fun h => ?_) ?_ | refine Val.t ?_ | refine Val.d ?_ | refine Mm.mk ?_ | (refine Br.mk (fun h => ?_) (fun h => ?_) <;> first | (exfalso; omega; done) | (exfalso; simp at h; done) | skip))
  · repeat refine Mm.mk ?_
    conv => whnf
    refine EndVC.mk _ rfl _ _ (⟨k, r', hk, .inl ⟨by omega, rfl⟩, rfl⟩) ?_
    refine ⟨[some 0, some 1], rfl, rfl, ?_, ?_⟩ <;> repeat' (first | exact trivial | exact rfl | exact Iff.rfl | apply And.intro)
  · repeat refine Mm.mk ?_
    conv => whnf
    refine EndVC.mk _ rfl _ _ (⟨k, r', hk, .inr ⟨by omega, rfl⟩, rfl⟩) ?_
    refine ⟨[some 0, some 1], rfl, rfl, ?_, ?_⟩ <;> repeat' (first | exact trivial | exact rfl | exact Iff.rfl | apply And.intro)
end Go.Sx

namespace Go.Sx
open Go Go.Proofs
set_option maxRecDepth 10000
set_option maxHeartbeats 4000000
/-- The least radius of a groove. -/
inductive LsRs (c : Cut) (l : List Smp) (per : Int) (r : AV) (m' : List (Option Blk)) : Prop
  | bad (e : Int) (h : ¬ (CutOK c ∧ PtsOK l ∧ 1 ≤ per ∧ per ≤ 65536)) (he : e ≠ 0) (hr : r = .tup [I 0, I e]) (hm : m' = [])
  | none (ht : ∀ r, 0 ≤ r → r ≤ 4194304 → TrkOK (Trk.at ⟨c, l, 0, per⟩ r)) (h : ¬ pL ⟨c, l, 0, per⟩ 4194304) (hr : r = .tup [I 0, I 14]) (hm : m' = [])
  | ok (ht : ∀ r, 0 ≤ r → r ≤ 4194304 → TrkOK (Trk.at ⟨c, l, 0, per⟩ r)) (k : Int) (hk : Least (pL ⟨c, l, 0, per⟩) 4194305 k) (hk' : k ≤ 4194304) (hr : r = .tup [I k, I 0]) (hm : m' = [])
theorem s35 (c : Cut) (l : List Smp) (per : Int) : HSpec Tryz.prog 35 [c.x, lS l, I per] [] (LsRs c l per) := by
  by_cases hb : ¬ (CutOK c ∧ PtsOK l)
  · refine spec_of pMix (O := []) Tryz.func35 (c := bodyOf Tryz.f35) rfl (by kernel_rfl) (by kernel_rfl) Tryz.ntmps35 (res := [.tmp 6, .tmp 7]) (by kernel_rfl) ?_
    repeat' ((conv => whnf); first | refine Rng.g ?_ | refine Ob.g ?_ | refine Ob.e ?_ | refine Ob.m ?_ | refine Ob.mk (Nat.le_of_ble_eq_true rfl) ?_ | refine JoinVC.on ?_ | refine Nils.mk (fun h => ?_) ?_ | refine Val.t ?_ | refine Val.d ?_ | refine Mm.mk ?_ | (refine Br.mk (fun h => ?_) (fun h => ?_) <;> first | (exfalso; omega; done) | (exfalso; simp at h; done) | skip))
    conv => whnf
    refine CallVC.mk [] _ _ _ rfl rfl rfl (s112 c l) (fun r m' h' => ?_)
    rcases h' with ⟨e, he, he0, rfl, rfl⟩ | ⟨h1, h2, rfl, rfl⟩
    · repeat' ((conv => whnf); first | refine Rng.g ?_ | refine Ob.g ?_ | refine Ob.e ?_ | refine Ob.m ?_ | refine Ob.mk (Nat.le_of_ble_eq_true rfl) ?_ | refine JoinVC.on ?_ | refine Nils.mk (fun h => ?_) ?_ | refine Val.t ?_ | refine Val.d ?_ | refine Mm.mk ?_ | (refine Br.mk (fun h => ?_) (fun h => ?_) <;> first | (exfalso; omega; done) | (exfalso; simp at h; done) | skip))
      repeat refine Mm.mk ?_
      conv => whnf
      refine EndVC.mk _ rfl _ _ (.bad e (fun h => he ⟨h.1, h.2.1⟩) he0 rfl rfl) ?_
      refine ⟨[], rfl, rfl, ?_, ?_⟩ <;> repeat' (first | exact trivial | exact rfl | exact Iff.rfl | apply And.intro)
    · exact absurd ⟨h1, h2⟩ hb
  replace hb := Classical.not_not.1 hb
  by_cases hp : 1 ≤ per ∧ per ≤ 65536
  · have c1 := s113 0 per
    rw [if_pos ⟨by decide, hp⟩] at c1
    have ht : ∀ r, 0 ≤ r → r ≤ 4194304 → TrkOK (Trk.at ⟨c, l, 0, per⟩ r) := fun r h1 h2 => ⟨hb.1, hb.2, ⟨h1, h2⟩, hp⟩
    refine spec_of pMix (O := []) Tryz.func35 (c := bodyOf Tryz.f35) rfl (by kernel_rfl) (by kernel_rfl) Tryz.ntmps35 (res := [.tmp 6, .tmp 7]) (by kernel_rfl) ?_
    repeat' ((conv => whnf); first | refine Rng.g ?_ | refine Ob.g ?_ | refine Ob.e ?_ | refine Ob.m ?_ | refine Ob.mk (Nat.le_of_ble_eq_true rfl) ?_ | refine JoinVC.on ?_ | refine Nils.mk (fun h => ?_) ?_ | refine Val.t ?_ | refine Val.d ?_ | refine Mm.mk ?_ | (refine Br.mk (fun h => ?_) (fun h => ?_) <;> first | (exfalso; omega; done) | (exfalso; simp at h; done) | skip))
    conv => whnf
    refine CallVC.mk [] _ _ _ rfl rfl rfl (s112 c l) (fun r m' h' => ?_)
    rcases h' with ⟨e, he, he0, rfl, rfl⟩ | ⟨h1, h2, rfl, rfl⟩
    · exact absurd hb he
    repeat' ((conv => whnf); first | refine Rng.g ?_ | refine Ob.g ?_ | refine Ob.e ?_ | refine Ob.m ?_ | refine Ob.mk (Nat.le_of_ble_eq_true rfl) ?_ | refine JoinVC.on ?_ | refine Nils.mk (fun h => ?_) ?_ | refine Val.t ?_ | refine Val.d ?_ | refine Mm.mk ?_ | refine CallVC.pure rfl (c1) ?_ | refine CallVC0.pure rfl (c1) ?_ | (refine Br.mk (fun h => ?_) (fun h => ?_) <;> first | (exfalso; omega; done) | (exfalso; simp at h; done) | skip))
    conv => whnf
    refine CallVC.mk [1, 2] _ _ _ rfl rfl rfl (s114L ⟨c, l, 0, per⟩ 0 ht) (fun r m' h' => ?_)
    obtain ⟨k, r', hk, hk2, rfl⟩ := h'
    rcases hk2 with ⟨hk3, rfl⟩ | ⟨hk3, rfl⟩
    · repeat' ((conv => whnf); first | refine Rng.g ?_ | refine Ob.g ?_ | refine Ob.e ?_ | refine Ob.m ?_ | refine Ob.mk (Nat.le_of_ble_eq_true rfl) ?_ | refine JoinVC.on ?_ | refine Nils.mk (fun h => ?_) ?_ | refine Val.t ?_ | refine Val.d ?_ | refine Mm.mk ?_ | (refine Br.mk (fun h => ?_) (fun h => ?_) <;> first | (exfalso; omega; done) | (exfalso; simp at h; done) | skip))
      repeat refine Mm.mk ?_
      conv => whnf
      refine EndVC.mk _ rfl _ _ (.none ht (hk.no 4194304 (by decide) hk3) rfl rfl) ?_
      refine ⟨[], rfl, rfl, ?_, ?_⟩ <;> repeat' (first | exact trivial | exact rfl | exact Iff.rfl | apply And.intro)
    · repeat' ((conv => whnf); first | refine Rng.g ?_ | refine Ob.g ?_ | refine Ob.e ?_ | refine Ob.m ?_ | refine Ob.mk (Nat.le_of_ble_eq_true rfl) ?_ | refine JoinVC.on ?_ | refine Nils.mk (fun h => ?_) ?_ | refine Val.t ?_ | refine Val.d ?_ | refine Mm.mk ?_ | (refine Br.mk (fun h => ?_) (fun h => ?_) <;> first | (exfalso; omega; done) | (exfalso; simp at h; done) | skip))
      repeat refine Mm.mk ?_
      conv => whnf
      refine EndVC.mk _ rfl _ _ (.ok ht k hk hk3 rfl rfl) ?_
      refine ⟨[], rfl, rfl, ?_, ?_⟩ <;> repeat' (first | exact trivial | exact rfl | exact Iff.rfl | apply And.intro)
  · have c1 := s113 0 per
    rw [if_neg (fun h => hp h.2)] at c1
    refine spec_of pMix (O := []) Tryz.func35 (c := bodyOf Tryz.f35) rfl (by kernel_rfl) (by kernel_rfl) Tryz.ntmps35 (res := [.tmp 6, .tmp 7]) (by kernel_rfl) ?_
    repeat' ((conv => whnf); first | refine Rng.g ?_ | refine Ob.g ?_ | refine Ob.e ?_ | refine Ob.m ?_ | refine Ob.mk (Nat.le_of_ble_eq_true rfl) ?_ | refine JoinVC.on ?_ | refine Nils.mk (fun h => ?_) ?_ | refine Val.t ?_ | refine Val.d ?_ | refine Mm.mk ?_ | (refine Br.mk (fun h => ?_) (fun h => ?_) <;> first | (exfalso; omega; done) | (exfalso; simp at h; done) | skip))
    conv => whnf
    refine CallVC.mk [] _ _ _ rfl rfl rfl (s112 c l) (fun r m' h' => ?_)
    rcases h' with ⟨e, he, he0, rfl, rfl⟩ | ⟨h1, h2, rfl, rfl⟩
    · exact absurd hb he
    repeat' ((conv => whnf); first | refine Rng.g ?_ | refine Ob.g ?_ | refine Ob.e ?_ | refine Ob.m ?_ | refine Ob.mk (Nat.le_of_ble_eq_true rfl) ?_ | refine JoinVC.on ?_ | refine Nils.mk (fun h => ?_) ?_ | refine Val.t ?_ | refine Val.d ?_ | refine Mm.mk ?_ | refine CallVC.pure rfl (c1) ?_ | refine CallVC0.pure rfl (c1) ?_ | (refine Br.mk (fun h => ?_) (fun h => ?_) <;> first | (exfalso; omega; done) | (exfalso; simp at h; done) | skip))
    repeat refine Mm.mk ?_
    conv => whnf
    refine EndVC.mk _ rfl _ _ (.bad 3 (fun h => hp h.2.2) (by decide) rfl rfl) ?_
    refine ⟨[], rfl, rfl, ?_, ?_⟩ <;> repeat' (first | exact trivial | exact rfl | exact Iff.rfl | apply And.intro)
end Go.Sx

namespace Go.Sx
open Go Go.Proofs
set_option maxRecDepth 10000
set_option maxHeartbeats 4000000
theorem e3 : EntersF Tryz.prog 3 := enters_of Tryz.func3 (c := bodyOf Tryz.f3) (by kernel_rfl) rfl
theorem smp_ext {a b : Smp} (h1 : a.l = b.l) (h2 : a.r = b.r) : a = b := by cases a; cases b; cases h1; cases h2; rfl
theorem list_ext' {α : Type} {a b : List α} {d : α} (h1 : a.length = b.length) (h2 : ∀ j, j < a.length → a.getD j d = b.getD j d) : a = b := by
  refine List.ext_getElem h1 fun j h3 h4 => ?_
  have := h2 j h3
  simpa [List.getD_eq_getElem?_getD, h3, h4] using this
noncomputable instance (a b : List Smp) : Decidable (a = b) := Classical.propDecidable _
end Go.Sx

namespace Go.Sx
open Go Go.Proofs
set_option maxRecDepth 10000
set_option maxHeartbeats 4000000
end Go.Sx

namespace Go.Sx
open Go Go.Proofs
set_option maxRecDepth 10000
set_option maxHeartbeats 4000000
def c3 : Cut := ⟨400, 2000, 200, 2000, 1000, 1000, 100⟩
def l3 : List Smp := [⟨0, 0⟩, ⟨100, 100⟩, ⟨0, 0⟩]
theorem c3_ok : CutOK c3 := by constructor <;> decide
theorem all_lt {p : Nat → Prop} (n : Nat) [DecidablePred p] (h : ((List.range n).all fun j => decide (p j)) = true) : ∀ j, j < n → p j := fun j hj => of_decide_eq_true (List.all_eq_true.1 h j (List.mem_range.2 hj))
instance (s : Smp) : Decidable (s.ok) := by unfold Smp.ok; exact inferInstance
theorem l3_ok : SmpsOK l3 := ⟨by decide, all_lt 3 (by decide)⟩
theorem g3_ok : PtsOK (cutF c3 l3) := ⟨by decide, all_lt 3 (by decide)⟩
def t3 : Trk := ⟨c3, cutF c3 l3, 0, 1000⟩
theorem t3_yes : pL t3 31831 := all_lt 3 (by decide +kernel)
theorem t3_no : ¬ pN t3 0 31830 ∨ ¬ pN t3 1 31830 ∨ ¬ pN t3 2 31830 := by decide +kernel
theorem t3_least {k : Int} (hk : Least (pL t3) 4194305 k) : k = 31831 := by
  have h1 : ¬ 31831 < k := fun h => hk.no 31831 (by decide) h t3_yes
  have h2 : ¬ k ≤ 31830 := fun h => by
    have h3 := (hk.yes (by omega)).mono (t := t3) c3_ok (by decide) hk.rng.1 h
    rcases t3_no with h4 | h4 | h4
    · exact h4 (h3 0 (by decide))
    · exact h4 (h3 1 (by decide))
    · exact h4 (h3 2 (by decide))
  omega
/-! ### The curve of the example -/
def v3 : Crv := ⟨[64], [128], 256⟩
def x3 : List Int := [100, 0, 0, -3]
theorem v3_ok : CrvOK v3 := by
  refine ⟨⟨by decide, fun j => ?_⟩, ⟨by decide, fun j => ?_⟩, by decide⟩
  · match j with
    | 0 => decide
    | j + 1 => show -4096 ≤ (0 : Int) ∧ (0 : Int) ≤ 4096; decide
  · match j with
    | 0 => decide
    | j + 1 => show -4096 ≤ (0 : Int) ∧ (0 : Int) ≤ 4096; decide
theorem x3_ok : SigOK x3 := by
  refine ⟨by decide, fun j => ?_⟩
  match j with
  | 0 => decide
  | 1 => decide
  | 2 => decide
  | 3 => decide
  | j + 4 => show -32767 ≤ (0 : Int) ∧ (0 : Int) ≤ 32767; decide
theorem nextY_take (u : Bool) (c : Crv) (xs zs : List Int) (n i : Nat) (h : i ≤ n) : nextY u c xs (zs.take n) i = nextY u c xs zs i := by
  unfold nextY hiF hoF
  rw [List.take_take, Nat.min_eq_left h]
theorem Filt.uniq {u : Bool} {c : Crv} {most : Int} {xs ys zs : List Int} (hy : Filt u c most xs ys) (hz : Filt u c most xs zs) (hl : ys.length ≤ zs.length) : ys = zs.take ys.length := by
  have key : ∀ n, n ≤ ys.length → ys.take n = zs.take n := by
    intro n
    induction n with
    | zero => intro _; rfl
    | succ n ih =>
      intro hn
      rw [take_snoc ys n 0 (by omega), take_snoc zs n 0 (by omega), ih (by omega), (hy.each n (by omega)).1, (hz.each n (by omega)).1, ← nextY_take u c xs ys n n (Nat.le_refl _), ih (by omega), nextY_take u c xs zs n n (Nat.le_refl _)]
  have := key ys.length (Nat.le_refl _)
  rwa [List.take_length] at this
theorem Filt.same {u : Bool} {c : Crv} {most : Int} {xs ys zs : List Int} (hy : Filt u c most xs ys) (hz : Filt u c most xs zs) (h1 : ys.length = xs.length) (h2 : zs.length = xs.length) : ys = zs := by
  have := hy.uniq hz (by omega)
  rwa [List.take_of_length_le (by omega)] at this
theorem Filt.no_far {u : Bool} {c : Crv} {most : Int} {xs ys zs : List Int} (hy : Filt u c most xs ys) (h1 : ys.length < xs.length) (hb : bey (nextY u c xs ys ys.length) most) (hz : Filt u c most xs zs) (h2 : zs.length = xs.length) : False := by
  have e := hy.uniq hz (by omega)
  have h3 := hz.each ys.length (by omega)
  rw [e, List.length_take, Nat.min_eq_left (by omega), nextY_take _ _ _ _ _ _ (Nat.le_refl _), ← h3.1] at hb
  exact h3.2 hb
def y3 : List Int := [nextY false v3 x3 [] 0, nextY false v3 x3 [100] 1, nextY false v3 x3 [100, 75] 2, nextY false v3 x3 [100, 75, 37] 3]
instance (n m : Int) : Decidable (bey n m) := by unfold bey; exact inferInstance
theorem y3_filt : Filt false v3 32767 x3 y3 := ⟨by decide, all_lt 4 (by decide)⟩
/-! ### The programme of the example -/
def T3 : List Tak := [⟨⟨#[97]⟩, [⟨10, -10⟩, ⟨5, 0⟩]⟩]
def p3 : List Prt := [⟨0, 0, 2, 0, 0, 0, 500⟩]
theorem T3_name : nameOK ⟨#[97]⟩ := ⟨by decide, by decide, fun j hj => by
  have : j = 0 := by
    have : j < 1 := hj
    omega
  subst this
  exact .inl (by decide)⟩
theorem T3_ok : TaksOK T3 := by
  refine ⟨by decide, fun j hj => ?_, fun i j hi hj => ?_⟩
  · have : j = 0 := by
      have : j < 1 := hj
      omega
    subst this
    exact ⟨T3_name, by decide, by decide, by decide⟩
  · have : i < 1 := hi
    omega
theorem p3_ok : ProgOK T3 p3 := by
  refine ⟨T3_ok, by decide, fun j hj => ?_, ⟨fun _ => by decide, fun i h1 h2 => ?_, fun i h1 h2 => ?_, by decide⟩⟩
  · have : j = 0 := by
      have : j < 1 := hj
      omega
    subst this
    decide
  · have : i < 1 := h2
    omega
  · have : i < 1 := h2
    omega
theorem r3_ok : smpE (rend T3 p3) = 0 := (smpE_iff _).2 ⟨by decide, all_lt 2 (by decide +kernel)⟩
theorem s25 : PSpec Tryz.prog 25 [] (xP True) := by
  refine spec_of pMix (O := []) Tryz.func25 (c := bodyOf Tryz.f25) rfl (by kernel_rfl) (by kernel_rfl) Tryz.ntmps25 (res := [.tmp 0]) (by kernel_rfl) ?_
  repeat' ((conv => whnf); first | refine Rng.g ?_ | refine Ob.g ?_ | refine Ob.e ?_ | refine Ob.m ?_ | refine Ob.mk (Nat.le_of_ble_eq_true rfl) ?_ | refine JoinVC.on ?_ | refine Nils.mk (fun h => ?_) ?_ | refine Val.t ?_ | refine Val.d ?_ | refine Mm.mk ?_ | (refine Br.mk (fun h => ?_) (fun h => ?_) <;> first | (exfalso; omega; done) | (exfalso; simp at h; done) | skip))
  conv => whnf
  refine CallVC.mk [] _ _ _ rfl rfl rfl (s30 c3 l3) (fun r m' h' => ?_)
  cases h' with
  | bad e h he hr hm => exact absurd ⟨c3_ok, l3_ok⟩ h
  | ok hC hl hr hm =>
    subst hr hm
    repeat' ((conv => whnf); first | refine Rng.g ?_ | refine Ob.g ?_ | refine Ob.e ?_ | refine Ob.m ?_ | refine Ob.mk (Nat.le_of_ble_eq_true rfl) ?_ | refine JoinVC.on ?_ | refine Nils.mk (fun h => ?_) ?_ | refine Val.t ?_ | refine Val.d ?_ | refine Mm.mk ?_ | (refine Br.mk (fun h => ?_) (fun h => ?_) <;> first | (exfalso; omega; done) | (exfalso; simp at h; done) | skip))
    conv => whnf
    refine CallVC.mk [] _ _ _ rfl rfl rfl (s35 c3 (cutF c3 l3) 1000) (fun r m' h' => ?_)
    cases h' with
    | bad e h he hr hm => exact absurd ⟨c3_ok, g3_ok, by decide⟩ h
    | none ht h hr hm => exact absurd (t3_yes.mono (t := t3) c3_ok (by decide) (by decide) (by decide)) h
    | ok ht k hk hk' hr hm =>
      have hk3 := t3_least hk
      subst hk3 hr hm
      repeat' ((conv => whnf); first | refine Rng.g ?_ | refine Ob.g ?_ | refine Ob.e ?_ | refine Ob.m ?_ | refine Ob.mk (Nat.le_of_ble_eq_true rfl) ?_ | refine JoinVC.on ?_ | refine Nils.mk (fun h => ?_) ?_ | refine Val.t ?_ | refine Val.d ?_ | refine Mm.mk ?_ | (refine Br.mk (fun h => ?_) (fun h => ?_) <;> first | (exfalso; omega; done) | (exfalso; simp at h; done) | skip))
      conv => whnf
      refine CallVC.mk [] _ _ _ rfl rfl rfl (s49 v3 x3) (fun r m' h' => ?_)
      cases h' with
      | bad e h he hr hm => exact absurd ⟨v3_ok, x3_ok⟩ h
      | far hl hx ys h hs hb hr hm => exact (h.no_far hs hb y3_filt rfl).elim
      | ok hl hx ys h hs hr hm =>
        have hy := h.same y3_filt hs rfl
        subst hy hr hm
        repeat' ((conv => whnf); first | refine Rng.g ?_ | refine Ob.g ?_ | refine Ob.e ?_ | refine Ob.m ?_ | refine Ob.mk (Nat.le_of_ble_eq_true rfl) ?_ | refine JoinVC.on ?_ | refine Nils.mk (fun h => ?_) ?_ | refine Val.t ?_ | refine Val.d ?_ | refine Mm.mk ?_ | (refine Br.mk (fun h => ?_) (fun h => ?_) <;> first | (exfalso; omega; done) | (exfalso; simp at h; done) | skip))
        conv => whnf
        refine CallVC.mk [] _ _ _ rfl rfl rfl (s26 T3 p3 p3_ok) (fun r m' h' => ?_)
        rcases h' with ⟨h1, rfl, rfl⟩ | ⟨h1, rfl, rfl⟩
        · have q1 : (List.length (smpA (cutF c3 l3)) : Int) = 3 := by decide
          have q2 : rI (smpA (cutF c3 l3)) (Int.toNat 1) 0 = -200 := by decide
          have q3 : rI (smpA (cutF c3 l3)) (Int.toNat 1) (0 + 1) = 600 := by decide
          have q4 : (List.length (i64s y3) : Int) = 4 := by decide
          have q5 : rI (i64s y3) (Int.toNat 1) 0 = 75 := by decide
          have q6 : (List.length (smpA (rend T3 p3)) : Int) = 2 := by decide
          have q7 : rI (smpA (rend T3 p3)) (Int.toNat 0) 0 = 5 := by decide +kernel
          have q8 : rI (smpA (rend T3 p3)) (Int.toNat 0) (0 + 1) = -5 := by decide +kernel
          repeat' ((conv => whnf); first | refine Rng.g ?_ | refine Ob.g ?_ | refine Ob.e ?_ | refine Ob.m ?_ | refine Ob.mk (Nat.le_of_ble_eq_true rfl) ?_ | refine JoinVC.on ?_ | refine Nils.mk (fun h => ?_) ?_ | refine Val.t ?_ | refine Val.d ?_ | refine Mm.mk ?_ | (refine Br.mk (fun h => ?_) (fun h => ?_) <;> first | (exfalso; omega; done) | (exfalso; simp at h; done) | skip))
          all_goals first
            | exact absurd ⟨q2, q3, trivial⟩ h
            | exact absurd ⟨q7, q8, trivial⟩ h
            | skip
          repeat refine Mm.mk ?_
          refine EndVC.mk _ rfl _ _ ⟨rfl, rfl⟩ ?_
          refine ⟨[], rfl, rfl, ?_, ?_⟩ <;> repeat' (first | exact trivial | exact rfl | exact Iff.rfl | apply And.intro)
          exact ⟨fun _ => trivial, fun _ => ⟨q7, q8, trivial⟩⟩
        · exact absurd r3_ok h1
end Go.Sx

namespace Go.Sx
open Go Go.Proofs
set_option maxRecDepth 10000
set_option maxHeartbeats 8000000
open Classical in
theorem s144 (f : Fmt) (l : List Sng) (O : List Int) (hf : FmtOK f) (hg : SngsOK l) (hO : InR O l.length) (hl : O.length ≤ 100) : HSpec Tryz.prog 144 [.one (.ptr 0 0), .one (.lst true [.int .i64] (i64s O))] [bPl f l] (fun r m' => r = xP (LayOK f l O) ∧ m' = [some (bPl f l)]) := by
  refine spec_of pMix (O := []) Tryz.func144 (c := bodyOf Tryz.f144) rfl (by kernel_rfl) (by kernel_rfl) Tryz.ntmps144 (res := [.tmp 4]) (by kernel_rfl) ?_
  repeat' ((conv => whnf); first | refine Rng.g ?_ | refine Ob.g ?_ | refine Ob.e ?_ | refine Ob.m ?_ | refine Ob.mk (Nat.le_of_ble_eq_true rfl) ?_ | refine JoinVC.on ?_ | refine Nils.mk (fun h => ?_) ?_ | refine Val.t ?_ | refine Val.d ?_ | refine Mm.mk ?_ | (refine Br.mk (fun h => ?_) (fun h => ?_) <;> first | (exfalso; omega; done) | (exfalso; simp at h; done) | skip))
  conv => whnf
  refine CallVC.mk [0] _ _ _ rfl rfl rfl (s146 f l O hf hg hO hl) (fun r m' h' => ?_)
  cases h' with
  | rule i hi h hn hr hm =>
    subst hr hm
    repeat' ((conv => whnf); first | refine Rng.g ?_ | refine Ob.g ?_ | refine Ob.e ?_ | refine Ob.m ?_ | refine Ob.mk (Nat.le_of_ble_eq_true rfl) ?_ | refine JoinVC.on ?_ | refine Nils.mk (fun h => ?_) ?_ | refine Val.t ?_ | refine Val.d ?_ | refine Mm.mk ?_ | (refine Br.mk (fun h => ?_) (fun h => ?_) <;> first | (exfalso; omega; done) | (exfalso; simp at h; done) | skip))
    repeat refine Mm.mk ?_
    refine EndVC.mk _ rfl _ _ ⟨rfl, rfl⟩ ?_
    refine ⟨[some 0], rfl, rfl, ?_, ?_⟩ <;> repeat' (first | exact trivial | exact rfl | exact Iff.rfl | apply And.intro)
    show _ ↔ _
    exact ⟨fun h1 => absurd h1 (by decide), fun h1 => absurd (h1.1 i hi) hn⟩
  | limit h hn hr hm =>
    subst hr hm
    repeat' ((conv => whnf); first | refine Rng.g ?_ | refine Ob.g ?_ | refine Ob.e ?_ | refine Ob.m ?_ | refine Ob.mk (Nat.le_of_ble_eq_true rfl) ?_ | refine JoinVC.on ?_ | refine Nils.mk (fun h => ?_) ?_ | refine Val.t ?_ | refine Val.d ?_ | refine Mm.mk ?_ | (refine Br.mk (fun h => ?_) (fun h => ?_) <;> first | (exfalso; omega; done) | (exfalso; simp at h; done) | skip))
    repeat refine Mm.mk ?_
    refine EndVC.mk _ rfl _ _ ⟨rfl, rfl⟩ ?_
    refine ⟨[some 0], rfl, rfl, ?_, ?_⟩ <;> repeat' (first | exact trivial | exact rfl | exact Iff.rfl | apply And.intro)
    show _ ↔ _
    exact ⟨fun h1 => absurd h1 (by decide), fun h1 => absurd h1 hn⟩
  | ok h hr hm =>
    subst hr hm
    repeat' ((conv => whnf); first | refine Rng.g ?_ | refine Ob.g ?_ | refine Ob.e ?_ | refine Ob.m ?_ | refine Ob.mk (Nat.le_of_ble_eq_true rfl) ?_ | refine JoinVC.on ?_ | refine Nils.mk (fun h => ?_) ?_ | refine Val.t ?_ | refine Val.d ?_ | refine Mm.mk ?_ | (refine Br.mk (fun h => ?_) (fun h => ?_) <;> first | (exfalso; omega; done) | (exfalso; simp at h; done) | skip))
    repeat refine Mm.mk ?_
    refine EndVC.mk _ rfl _ _ ⟨rfl, rfl⟩ ?_
    refine ⟨[some 0], rfl, rfl, ?_, ?_⟩ <;> repeat' (first | exact trivial | exact rfl | exact Iff.rfl | apply And.intro)
    show _ ↔ _
    exact ⟨fun _ => h, fun _ => rfl⟩
inductive ArRs (f : Fmt) (l : List Sng) (r : AV) (m' : List (Option Blk)) : Prop
  | bad (e : Int) (h : ¬ (FmtOK f ∧ SngsOK l)) (he : e ≠ 0) (hr : r = .tup [.one .nils, I e]) (hm : m' = [])
  | none (hf : FmtOK f) (hg : SngsOK l) (hn : ¬ LayOK f l (allO l)) (hr : r = .tup [.one .nils, I 15]) (hm : m' = [])
  | ok (hf : FmtOK f) (hg : SngsOK l) (h : LayOK f l (allO l)) (hr : r = .tup [.one (.own 0), I 0]) (hm : m' = [some (rowOd (allO l))])
theorem allO_in (l : List Sng) : InR (allO l) l.length := fun i hi => (allO_idx l).rng i (by rw [(allO_idx l).len] at hi; exact hi)
theorem s59 (f : Fmt) (l : List Sng) (hI : f.nm.size ≤ 140737488355328) (hl : l.length ≤ 12) : HSpec Tryz.prog 59 [f.x, lSng l] [] (ArRs f l) := by
  refine spec_of pMix (O := []) Tryz.func59 (c := bodyOf Tryz.f59) rfl (by kernel_rfl) (by kernel_rfl) Tryz.ntmps59 (res := [.tmp 4, .tmp 5]) (by kernel_rfl) ?_
  repeat' ((conv => whnf); first | refine Rng.g ?_ | refine Ob.g ?_ | refine Ob.e ?_ | refine Ob.m ?_ | refine Ob.mk (Nat.le_of_ble_eq_true rfl) ?_ | refine JoinVC.on ?_ | refine Nils.mk (fun h => ?_) ?_ | refine Val.t ?_ | refine Val.d ?_ | refine Mm.mk ?_ | (refine Br.mk (fun h => ?_) (fun h => ?_) <;> first | (exfalso; omega; done) | (exfalso; simp at h; done) | skip))
  conv => whnf
  refine CallVC.mk [] _ _ _ rfl rfl rfl (s138 f l hI) (fun r m' h' => ?_)
  rcases h' with ⟨e, hn, he, rfl, rfl⟩ | ⟨hf, hg, rfl, rfl⟩
  · repeat' ((conv => whnf); first | refine Rng.g ?_ | refine Ob.g ?_ | refine Ob.e ?_ | refine Ob.m ?_ | refine Ob.mk (Nat.le_of_ble_eq_true rfl) ?_ | refine JoinVC.on ?_ | refine Nils.mk (fun h => ?_) ?_ | refine Val.t ?_ | refine Val.d ?_ | refine Mm.mk ?_ | (refine Br.mk (fun h => ?_) (fun h => ?_) <;> first | (exfalso; omega; done) | (exfalso; simp at h; done) | skip))
    repeat refine Mm.mk ?_
    conv => whnf
    refine EndVC.mk _ rfl _ _ (.bad e hn he rfl rfl) ?_
    refine ⟨[], rfl, rfl, ?_, ?_⟩ <;> repeat' (first | exact trivial | exact rfl | exact Iff.rfl | apply And.intro)
  · repeat' ((conv => whnf); first | refine Rng.g ?_ | refine Ob.g ?_ | refine Ob.e ?_ | refine Ob.m ?_ | refine Ob.mk (Nat.le_of_ble_eq_true rfl) ?_ | refine JoinVC.on ?_ | refine Nils.mk (fun h => ?_) ?_ | refine Val.t ?_ | refine Val.d ?_ | refine Mm.mk ?_ | (refine Br.mk (fun h => ?_) (fun h => ?_) <;> first | (exfalso; omega; done) | (exfalso; simp at h; done) | skip))
    conv => whnf
    refine CallVC.mk [1] _ _ _ rfl rfl rfl (s143 f l hl) (fun r m' h' => ?_)
    obtain ⟨rfl, rfl⟩ := h'
    conv => whnf
    repeat' ((conv => whnf); first | refine Rng.g ?_ | refine Ob.g ?_ | refine Ob.e ?_ | refine Ob.m ?_ | refine Ob.mk (Nat.le_of_ble_eq_true rfl) ?_ | refine JoinVC.on ?_ | refine Nils.mk (fun h => ?_) ?_ | refine Val.t ?_ | refine Val.d ?_ | refine Mm.mk ?_ | (refine Br.mk (fun h => ?_) (fun h => ?_) <;> first | (exfalso; omega; done) | (exfalso; simp at h; done) | skip))
    conv => whnf
    refine CallVC.mk [1] _ _ _ rfl rfl rfl (s144 f l (allO l) hf hg (allO_in l) (by rw [(allO_idx l).len]; omega)) (fun r m' h' => ?_)
    obtain ⟨rfl, rfl⟩ := h'
    conv => whnf
    repeat' ((conv => whnf); first | refine Rng.g ?_ | refine Ob.g ?_ | refine Ob.e ?_ | refine Ob.m ?_ | refine Ob.mk (Nat.le_of_ble_eq_true rfl) ?_ | refine JoinVC.on ?_ | refine Nils.mk (fun h => ?_) ?_ | refine Val.t ?_ | refine Val.d ?_ | refine Mm.mk ?_ | (refine Br.mk (fun h => ?_) (fun h => ?_) <;> first | (exfalso; omega; done) | (exfalso; simp at h; done) | skip))
    · repeat refine Mm.mk ?_
      conv => whnf
      refine EndVC.mk _ rfl _ _ (.ok hf hg h rfl rfl) ?_
      refine ⟨[some 2], rfl, rfl, ?_, ?_⟩ <;> repeat' (first | exact trivial | exact rfl | exact Iff.rfl | apply And.intro)
    · repeat refine Mm.mk ?_
      conv => whnf
      refine EndVC.mk _ rfl _ _ (.none hf hg h rfl rfl) ?_
      refine ⟨[], rfl, rfl, ?_, ?_⟩ <;> repeat' (first | exact trivial | exact rfl | exact Iff.rfl | apply And.intro)
/-! ### An order is laid -/
/-! ### The example -/
def f4 : Fmt := ⟨⟨#[102]⟩, 1000, 400, 10, 20, 10, 30, 5⟩
def l4 : List Sng := [⟨95, 20, 500⟩, ⟨30, 40, 800⟩, ⟨41, 10, 0⟩]
theorem f4_name : nameOK ⟨#[102]⟩ := ⟨by decide, by decide, fun j hj => by
  have : j = 0 := by
    have : j < 1 := hj
    omega
  subst this
  exact .inl (by decide)⟩
theorem f4_ok : FmtOK f4 := ⟨f4_name, by decide, by decide, by decide, by decide, by decide, by decide, by decide⟩
theorem l4_ok : SngsOK l4 := ⟨by decide, fun j hj => by
  have hc : j = 0 ∨ j = 1 ∨ j = 2 := by
    have : j < 3 := hj
    omega
  rcases hc with rfl | rfl | rfl <;> (unfold Sng.ok; decide)⟩
theorem allO4 : allO l4 = [1, 0, 2] := by decide
theorem lay4 : LayOK f4 l4 (allO l4) := by
  rw [allO4]
  refine ⟨fun i hi => ?_, by decide⟩
  have hc : i = 0 ∨ i = 1 ∨ i = 2 := by
    have : i < 3 := hi
    omega
  rcases hc with rfl | rfl | rfl <;> (unfold okAt; decide)
theorem s57 : PSpec Tryz.prog 57 [] (xP True) := by
  have hw := s25
  refine spec_of pMix (O := []) Tryz.func57 (c := bodyOf Tryz.f57) rfl (by kernel_rfl) (by kernel_rfl) Tryz.ntmps57 (res := [.tmp 0]) (by kernel_rfl) ?_
  repeat' ((conv => whnf); first | refine Rng.g ?_ | refine Ob.g ?_ | refine Ob.e ?_ | refine Ob.m ?_ | refine Ob.mk (Nat.le_of_ble_eq_true rfl) ?_ | refine JoinVC.on ?_ | refine Nils.mk (fun h => ?_) ?_ | refine Val.t ?_ | refine Val.d ?_ | refine Mm.mk ?_ | (refine Br.mk (fun h => ?_) (fun h => ?_) <;> first | (exfalso; omega; done) | (exfalso; simp at h; done) | skip))
  conv => whnf
  refine CallVC.mk [] _ _ _ rfl rfl rfl (s59 f4 l4 (by decide) (by decide)) (fun r m' h' => ?_)
  cases h' with
  | bad e h he hr hm => exact absurd ⟨f4_ok, l4_ok⟩ h
  | none _ _ hN hr hm => exact absurd lay4 hN
  | ok _ _ _ hr hm =>
    subst hr hm
    rw [allO4]
    repeat' ((conv => whnf); first | refine Rng.g ?_ | refine Ob.g ?_ | refine Ob.e ?_ | refine Ob.m ?_ | refine Ob.mk (Nat.le_of_ble_eq_true rfl) ?_ | refine JoinVC.on ?_ | refine Nils.mk (fun h => ?_) ?_ | refine Val.t ?_ | refine Val.d ?_ | refine Mm.mk ?_ | (refine Br.mk (fun h => ?_) (fun h => ?_) <;> first | (exfalso; omega; done) | (exfalso; simp at h; done) | skip))
    conv => whnf
    refine CallVC.mk [] _ _ _ rfl rfl rfl (s54 f4 ⟨95, 20, 500⟩ (by decide)) (fun r m' h' => ?_)
    cases h' with
    | bad e h he hr hm => exact absurd ⟨f4_ok, (by unfold Sng.ok; decide)⟩ h
    | ok _ _ hr hm =>
      subst hr hm
      have ew : widF f4 ⟨95, 20, 500⟩ = 200 := by decide
      have g0 : rI (i64s [1, 0, 2]) (Int.toNat 0) 0 = 1 := rfl
      have g3 : ((i64s [1, 0, 2]).length : Int) = 3 := rfl
      rw [ew]
      repeat' ((conv => whnf); first | rw [g0] | refine Rng.g ?_ | refine Ob.g ?_ | refine Ob.e ?_ | refine Ob.m ?_ | refine Ob.mk (Nat.le_of_ble_eq_true rfl) ?_ | refine JoinVC.on ?_ | refine Nils.mk (fun h => ?_) ?_ | refine Val.t ?_ | refine Val.d ?_ | refine Mm.mk ?_ | refine CallVC.pure rfl (hw) ?_ | refine CallVC0.pure rfl (hw) ?_ | (refine Br.mk (fun h => ?_) (fun h => ?_) <;> first | (exfalso; omega; done) | (exfalso; simp at h; done) | skip))
      all_goals
        repeat refine Mm.mk ?_
        refine EndVC.mk _ rfl _ _ ⟨rfl, rfl⟩ ?_
        refine ⟨[], rfl, rfl, ?_, ?_⟩ <;> repeat' (first | exact trivial | exact rfl | exact Iff.rfl | apply And.intro)
end Go.Sx

namespace Go.Sx
open Go Go.Proofs
set_option maxRecDepth 10000
set_option maxHeartbeats 16000000
/-! ### The breadth of a groove -/
/-! ### A groove in its band -/
theorem Feas.congr {b : Blnk} {p : List Smp} {y z : Nat → Int} (h : Feas b p y) (hb : 1 ≤ b.per) (e : ∀ i, i < p.length → y i = z i) : Feas b p z := fun i hi => by
  obtain ⟨h1, h2, h3, h4⟩ := h i hi
  rw [e i hi] at h1 h2 h3 h4
  refine ⟨h1, h2, fun h0 => ?_, fun h0 => ?_⟩
  · have := h3 h0
    rw [e (i - 1) (by omega)] at this
    exact this
  · have := h4 h0
    rw [e ((i : Int) - b.per).toNat (by omega)] at this
    exact this
end Go.Sx

namespace Go.Sx
open Go Go.Proofs
set_option maxRecDepth 10000
set_option maxHeartbeats 4000000
/-! ### What a chain makes can be undone -/
theorem Filt.inv {c : Crv} {m : Int} {xs ys : List Int} (h : Filt false c m xs ys) (hl : ys.length = xs.length) (hx : sigB m xs) : Filt true c m ys xs := by
  refine ⟨by omega, fun j hj => ⟨?_, fun hb => ?_⟩⟩
  · have h1 := (h.each j (by omega)).1
    have e1 : nextY false c xs ys j = xs.getD j 0 + corF c (xs.take j).reverse (ys.take j).reverse := rfl
    have e2 : nextY true c ys xs j = ys.getD j 0 - corF c (xs.take j).reverse (ys.take j).reverse := rfl
    rw [e1] at h1
    rw [e2]
    omega
  · have := hx j
    unfold bey at hb
    omega
theorem ChN.cons {u : Bool} {g : Nat → Crv} {x z : List Int} (h1 : Filt u (g 0) 32767 x z) (h2 : z.length = x.length) : ∀ {n : Nat} {a : List Int}, ChN u (fun i => g (i + 1)) z n a → ChN u g x (n + 1) a
  | 0, _, h => by cases h; exact ⟨x, rfl, h1, h2⟩
  | n + 1, _, ⟨w, hw, hf, hl⟩ => ⟨w, ChN.cons h1 h2 hw, hf, hl⟩
theorem ChN.inv {f : Nat → Crv} {a : List Int} (ha : sigB 32767 a) : ∀ {n : Nat} {x : List Int}, ChN false f a n x → ChN true (fun i => f (n - 1 - i)) x n a
  | 0, _, h => h.symm
  | n + 1, x, ⟨z, hz, hf, hl⟩ => by
    have h1 := hf.inv hl (hz.sig ha)
    have h2 := ChN.inv ha hz
    refine ChN.cons (z := z) (by simpa using h1) hl.symm ?_
    have e : (fun i => f (n + 1 - 1 - (i + 1))) = fun i => f (n - 1 - i) := by
      funext i
      rw [show n + 1 - 1 - (i + 1) = n - 1 - i by omega]
    rw [e]
    exact h2
theorem ChN.uniq {u : Bool} {f : Nat → Crv} {xs : List Int} : ∀ {n : Nat} {ys zs : List Int}, ChN u f xs n ys → ChN u f xs n zs → ys = zs
  | 0, _, _, h1, h2 => by rw [h1, h2]
  | n + 1, _, _, ⟨w, h1, h2, h3⟩, ⟨v, h4, h5, h6⟩ => by
    have e := ChN.uniq h1 h4
    subst e
    exact h2.same h5 h3 h6
theorem ChN.pre {u : Bool} {f : Nat → Crv} {xs : List Int} {i : Nat} : ∀ {n : Nat} {ys : List Int}, ChN u f xs n ys → i ≤ n → ∃ zs, ChN u f xs i zs
  | 0, ys, h, hi => by rw [show i = 0 by omega]; exact ⟨ys, h⟩
  | n + 1, ys, h, hi => by
    by_cases e : i = n + 1
    · rw [e]; exact ⟨ys, h⟩
    · obtain ⟨w, hw, _⟩ := h
      exact ChN.pre hw (by omega)
theorem ChN.no_far {u : Bool} {f : Nat → Crv} {xs ys : List Int} {n : Nat} (h : ChN u f xs n ys) (hf : FarN u f xs n) : False := by
  obtain ⟨i, zs, vs, hi, hc, hv, hl, hb⟩ := hf
  obtain ⟨ws, zs', hz, hw, hwl⟩ := h.pre (i := i + 1) (by omega)
  have e := hc.uniq hz
  subst e
  exact hv.no_far hl hb hw hwl
theorem ChN.back {L : List Crv} {a x : List Int} (ha : sigB 32767 a) (h : ChN false (atC false L) a L.length x) : ChN true (atC true L) x L.length a := h.inv ha
/-! ### A point is read as its sample -/
theorem ptF_edge {c : Cut} (hC : CutOK c) {s : Smp} (hs : s.ok) : edgeP (ptF c s) := by
  obtain ⟨h1, h2, h3, h4⟩ := hs
  have g1 := gain_rng hC ⟨h1, h2⟩
  have g2 := gain_rng hC ⟨h3, h4⟩
  have hh := hC.half
  unfold edgeP ptF
  simp only
  omega
end Go.Sx

namespace Go.Sx
open Go Go.Proofs
set_option maxRecDepth 10000
set_option maxHeartbeats 8000000
/-! ### Edges of a cut groove -/
theorem cut_ok {c : Cut} (hC : CutOK c) {s : List Smp} (hs : SmpsOK s) : PtsOK (cutF c s) := ⟨by rw [cutF_len]; exact hs.len, fun j hj => by
  rw [cutF_len] at hj
  rw [cutF_get c s j hj]
  exact ptF_edge hC (hs.each j hj)⟩
theorem Least.zero {p : Int → Prop} {n k : Int} (h : Least p n k) (h0 : p 0) : k = 0 := by
  have h1 := h.rng
  by_cases hk : k = 0
  · exact hk
  · exact absurd h0 (h.no 0 (Int.le_refl _) (by omega))
end Go.Sx

namespace Go.Sx
open Go Go.Proofs
set_option maxRecDepth 10000
set_option maxHeartbeats 8000000
end Go.Sx

namespace Go.Sx
open Go Go.Proofs
set_option maxRecDepth 10000
set_option maxHeartbeats 8000000
/-- A gain with which a sample keeps to a ceiling. -/
structure GainOK (c : Int) (s : Smp) (v : Int) : Prop where
  rng : 0 ≤ v ∧ v ≤ 256
  l : amt s.l * v ≤ 256 * (c + 1) - 1
  r : amt s.r * v ≤ 256 * (c + 1) - 1
theorem GainOK.less {c : Int} {s : Smp} {v u : Int} (h : GainOK c s v) (h0 : 0 ≤ u) (hu : u ≤ v) (hl : 0 ≤ amt s.l) (hr : 0 ≤ amt s.r) : GainOK c s u := by
  obtain ⟨h1, h2, h3⟩ := h
  have a := Int.mul_le_mul_of_nonneg_left hu hl
  have b := Int.mul_le_mul_of_nonneg_left hu hr
  exact ⟨by omega, by omega, by omega⟩
/-- Gains that are fair to their samples. -/
structure GainsOK (c : Int) (p : List Smp) (G : List Int) : Prop where
  len : G.length = p.length
  each : ∀ j, j < p.length → GainOK c (p.getD j s0) (G.getD j 0)
end Go.Sx

namespace Go.Sx
open Go Go.Proofs
set_option maxRecDepth 10000
set_option maxHeartbeats 8000000
theorem GainsOK.set {c : Int} {p : List Smp} {G : List Int} (h : GainsOK c p G) (hp : SmpsOK p) {i : Nat} (hi : i < p.length) {v : Int} (h0 : 0 ≤ v) (hv : v ≤ G.getD i 0) : GainsOK c p (G.set i v) := by
  refine ⟨by rw [List.length_set]; exact h.len, fun j hj => ?_⟩
  rw [getD_set' _ _ _ _ _ (by rw [h.len]; exact hi)]
  split
  · rename_i e
    subst e
    obtain ⟨k1, k2, k3, k4⟩ := hp.each i hi
    exact (h.each i hi).less h0 hv (amt_bd (B := 32767) ⟨k1, k2⟩).1 (amt_bd (B := 32767) ⟨k3, k4⟩).1
  · exact h.each j hj
end Go.Sx

namespace Go.Sx
open Go Go.Proofs
set_option maxRecDepth 10000
set_option maxHeartbeats 8000000
end Go.Sx

namespace Go.Sx
open Go Go.Proofs
set_option maxRecDepth 10000
set_option maxHeartbeats 8000000
end Go.Sx

namespace Go.Sx
open Go Go.Proofs
set_option maxRecDepth 10000
set_option maxHeartbeats 8000000
end Go.Sx

namespace Go.Sx
open Go Go.Proofs
set_option maxRecDepth 10000
set_option maxHeartbeats 8000000
end Go.Sx

namespace Go.Sx
open Go Go.Proofs
set_option maxRecDepth 10000
set_option maxHeartbeats 4000000
/-! ### What a tip reads and sweeps: plain laws -/
/-- The samples that are less than a reach away. -/
def winL (i n m : Nat) : List Nat := (List.range n).filter fun u => decide (i < u + m ∧ u < i + m)
def dst (i u : Nat) : Nat := if u < i then i - u else u - i
theorem dst_comm (i u : Nat) : dst i u = dst u i := by unfold dst; split <;> split <;> omega
theorem win_mem {i n m u : Nat} : u ∈ winL i n m ↔ u < n ∧ dst i u < m := by
  unfold winL dst
  rw [List.mem_filter, List.mem_range]
  constructor
  · rintro ⟨h1, h2⟩
    have := of_decide_eq_true h2
    refine ⟨h1, ?_⟩
    split <;> omega
  · rintro ⟨h1, h2⟩
    refine ⟨h1, decide_eq_true ?_⟩
    split at h2 <;> omega
/-- The least of a number and some others. -/
def mnL (a : Int) (l : List Int) : Int := l.foldl (fun a x => if x < a then x else a) a
def mxL' (a : Int) (l : List Int) : Int := l.foldl (fun a x => if a < x then x else a) a
theorem mnL_le : ∀ (l : List Int) (a : Int), mnL a l ≤ a ∧ ∀ x, x ∈ l → mnL a l ≤ x
  | [], a => ⟨Int.le_refl _, fun x h => by simp at h⟩
  | y :: l, a => by
    have e : mnL a (y :: l) = mnL (if y < a then y else a) l := rfl
    rw [e]
    by_cases hy : y < a
    · rw [if_pos hy]
      obtain ⟨h1, h2⟩ := mnL_le l y
      refine ⟨by omega, fun x hx => ?_⟩
      rcases List.mem_cons.1 hx with rfl | hx
      · exact h1
      · exact h2 x hx
    · rw [if_neg hy]
      obtain ⟨h1, h2⟩ := mnL_le l a
      refine ⟨h1, fun x hx => ?_⟩
      rcases List.mem_cons.1 hx with rfl | hx
      · omega
      · exact h2 x hx
theorem mnL_ge : ∀ (l : List Int) (a b : Int), b ≤ a → (∀ x, x ∈ l → b ≤ x) → b ≤ mnL a l
  | [], a, b, h, _ => h
  | y :: l, a, b, h, h2 => by
    have h3 := h2 y List.mem_cons_self
    have e : mnL a (y :: l) = mnL (if y < a then y else a) l := rfl
    rw [e]
    exact mnL_ge l _ b (by split <;> omega) (fun x hx => h2 x (List.mem_cons_of_mem _ hx))
theorem mxL_ge : ∀ (l : List Int) (a : Int), a ≤ mxL' a l ∧ ∀ x, x ∈ l → x ≤ mxL' a l
  | [], a => ⟨Int.le_refl _, fun x h => by simp at h⟩
  | y :: l, a => by
    have e : mxL' a (y :: l) = mxL' (if a < y then y else a) l := rfl
    rw [e]
    by_cases hy : a < y
    · rw [if_pos hy]
      obtain ⟨h1, h2⟩ := mxL_ge l y
      refine ⟨by omega, fun x hx => ?_⟩
      rcases List.mem_cons.1 hx with rfl | hx
      · exact h1
      · exact h2 x hx
    · rw [if_neg hy]
      obtain ⟨h1, h2⟩ := mxL_ge l a
      refine ⟨h1, fun x hx => ?_⟩
      rcases List.mem_cons.1 hx with rfl | hx
      · omega
      · exact h2 x hx
theorem mxL_le : ∀ (l : List Int) (a b : Int), a ≤ b → (∀ x, x ∈ l → x ≤ b) → mxL' a l ≤ b
  | [], a, b, h, _ => h
  | y :: l, a, b, h, h2 => by
    have h3 := h2 y List.mem_cons_self
    have e : mxL' a (y :: l) = mxL' (if a < y then y else a) l := rfl
    rw [e]
    exact mxL_le l _ b (by split <;> omega) (fun x hx => h2 x (List.mem_cons_of_mem _ hx))
def eroF (S h : List Int) (i : Nat) : Int := mnL (h.getD i 0) ((winL i h.length S.length).map fun u => h.getD u 0 + S.getD (dst i u) 0)
def dilF (S h : List Int) (i : Nat) : Int := mxL' (h.getD i 0) ((winL i h.length S.length).map fun u => h.getD u 0 + -S.getD (dst i u) 0)
def eroL (S h : List Int) : List Int := (List.range h.length).map (eroF S h)
def dilL (S h : List Int) : List Int := (List.range h.length).map (dilF S h)
theorem eroL_len (S h : List Int) : (eroL S h).length = h.length := by simp [eroL]
theorem dilL_len (S h : List Int) : (dilL S h).length = h.length := by simp [dilL]
theorem eroL_get (S h : List Int) (i : Nat) (hi : i < h.length) : (eroL S h).getD i 0 = eroF S h i := by simp [eroL, List.getD_eq_getElem?_getD, List.getElem?_range hi]
theorem dilL_get (S h : List Int) (i : Nat) (hi : i < h.length) : (dilL S h).getD i 0 = dilF S h i := by simp [dilL, List.getD_eq_getElem?_getD, List.getElem?_range hi]
theorem ero_le {S h : List Int} {i u : Nat} (hu : u < h.length) (hd : dst i u < S.length) : eroF S h i ≤ h.getD u 0 + S.getD (dst i u) 0 :=
  (mnL_le _ _).2 _ (List.mem_map.2 ⟨u, win_mem.2 ⟨hu, hd⟩, rfl⟩)
theorem ero_self (S h : List Int) (i : Nat) : eroF S h i ≤ h.getD i 0 := (mnL_le _ _).1
theorem ero_ge {S h : List Int} {i : Nat} {b : Int} (h1 : b ≤ h.getD i 0) (h2 : ∀ u, u < h.length → dst i u < S.length → b ≤ h.getD u 0 + S.getD (dst i u) 0) : b ≤ eroF S h i :=
  mnL_ge _ _ _ h1 fun x hx => by
    obtain ⟨u, hu, rfl⟩ := List.mem_map.1 hx
    obtain ⟨h3, h4⟩ := win_mem.1 hu
    exact h2 u h3 h4
theorem dil_ge {S h : List Int} {i u : Nat} (hu : u < h.length) (hd : dst i u < S.length) : h.getD u 0 + -S.getD (dst i u) 0 ≤ dilF S h i :=
  (mxL_ge _ _).2 _ (List.mem_map.2 ⟨u, win_mem.2 ⟨hu, hd⟩, rfl⟩)
theorem dil_self (S h : List Int) (i : Nat) : h.getD i 0 ≤ dilF S h i := (mxL_ge _ _).1
theorem dil_le {S h : List Int} {i : Nat} {b : Int} (h1 : h.getD i 0 ≤ b) (h2 : ∀ u, u < h.length → dst i u < S.length → h.getD u 0 + -S.getD (dst i u) 0 ≤ b) : dilF S h i ≤ b :=
  mxL_le _ _ _ h1 fun x hx => by
    obtain ⟨u, hu, rfl⟩ := List.mem_map.1 hx
    obtain ⟨h3, h4⟩ := win_mem.1 hu
    exact h2 u h3 h4
/-- What a tip sweeps keeps within the groove. -/
theorem dil_ero_le {S h : List Int} {i : Nat} (hi : i < h.length) : dilF S (eroL S h) i ≤ h.getD i 0 := by
  refine dil_le (by rw [eroL_get _ _ _ hi]; exact ero_self S h i) fun u hu hd => ?_
  rw [eroL_len] at hu
  rw [eroL_get _ _ _ hu]
  have h1 := ero_le (S := S) (h := h) (i := u) (u := i) hi (by rw [dst_comm]; exact hd)
  rw [dst_comm u i] at h1
  omega
theorem ero_dil_ero {S h : List Int} {i : Nat} (hi : i < h.length) : eroF S (dilL S (eroL S h)) i = eroF S h i := by
  have l1 := eroL_len S h
  have l2 := dilL_len S (eroL S h)
  apply Int.le_antisymm
  · refine ero_ge ?_ fun u hu hd => ?_
    · refine Int.le_trans (ero_self _ _ _) ?_
      rw [dilL_get _ _ _ (by omega)]
      exact dil_ero_le hi
    · have h1 := ero_le (S := S) (h := dilL S (eroL S h)) (i := i) (u := u) (by omega) hd
      rw [dilL_get _ _ _ (by omega)] at h1
      have h2 := dil_ero_le (S := S) (h := h) (i := u) hu
      omega
  · refine ero_ge ?_ fun u hu hd => ?_
    · rw [dilL_get _ _ _ (by omega)]
      refine Int.le_trans ?_ (dil_self S (eroL S h) i)
      rw [eroL_get _ _ _ hi]
      exact Int.le_refl _
    · have hu' : u < h.length := by omega
      rw [dilL_get _ _ _ (by omega)]
      have h1 := dil_ge (S := S) (h := eroL S h) (i := u) (u := i) (by omega) (by rw [dst_comm]; exact hd)
      rw [eroL_get _ _ _ hi, dst_comm u i] at h1
      omega
theorem ero_dil_ero_L (S h : List Int) : eroL S (dilL S (eroL S h)) = eroL S h := by
  unfold eroL
  rw [show (dilL S (List.map (eroF S h) (List.range h.length))).length = h.length by rw [dilL_len]; simp]
  apply List.map_congr_left
  intro i hi
  exact ero_dil_ero (List.mem_range.1 hi)
/-- A tip. -/
structure TipOK (S : List Int) : Prop where
  len : 1 ≤ S.length ∧ S.length ≤ 64
  zero : S.getD 0 0 = 0
  rng : ∀ k, k < S.length → 0 ≤ S.getD k 0 ∧ S.getD k 0 ≤ 4194304
  mono : ∀ k, k + 1 < S.length → S.getD k 0 ≤ S.getD (k + 1) 0
def outs (p : List Smp) : List Int := p.map fun s => s.r
def inns (p : List Smp) : List Int := p.map fun s => -s.l
theorem outs_len (p : List Smp) : (outs p).length = p.length := by simp [outs]
theorem inns_len (p : List Smp) : (inns p).length = p.length := by simp [inns]
theorem outs_get (p : List Smp) (i : Nat) (h : i < p.length) : (outs p).getD i 0 = (p.getD i s0).r := by simp [outs, List.getD_eq_getElem?_getD, h]
theorem inns_get (p : List Smp) (i : Nat) (h : i < p.length) : (inns p).getD i 0 = -(p.getD i s0).l := by simp [inns, List.getD_eq_getElem?_getD, h]
def wallF (O N : List Int) (n : Nat) : List Smp := (List.range n).map fun i => ⟨-N.getD i 0, O.getD i 0⟩
theorem wallF_len (O N : List Int) (n : Nat) : (wallF O N n).length = n := by simp [wallF]
theorem wallF_get (O N : List Int) (n i : Nat) (h : i < n) : (wallF O N n).getD i s0 = ⟨-N.getD i 0, O.getD i 0⟩ := by simp [wallF, List.getD_eq_getElem?_getD, List.getElem?_range h]
def readF (S : List Int) (p : List Smp) : List Smp := wallF (eroL S (outs p)) (eroL S (inns p)) p.length
def sweepF (S : List Int) (p : List Smp) : List Smp := wallF (dilL S (eroL S (outs p))) (dilL S (eroL S (inns p))) p.length
theorem getD_ext {l r : List Int} (h : l.length = r.length) (h2 : ∀ i, i < l.length → l.getD i 0 = r.getD i 0) : l = r := by
  apply List.ext_getElem h
  intro i h3 h4
  have := h2 i h3
  simpa [List.getD_eq_getElem?_getD, h3, h4] using this
theorem outs_wall (O N : List Int) (n : Nat) (h : O.length = n) : outs (wallF O N n) = O := by
  apply getD_ext
  · rw [outs_len, wallF_len, h]
  · intro i hi
    rw [outs_len, wallF_len] at hi
    rw [outs_get _ _ (by rw [wallF_len]; exact hi), wallF_get _ _ _ _ hi]
theorem inns_wall (O N : List Int) (n : Nat) (h : N.length = n) : inns (wallF O N n) = N := by
  apply getD_ext
  · rw [inns_len, wallF_len, h]
  · intro i hi
    rw [inns_len, wallF_len] at hi
    rw [inns_get _ _ (by rw [wallF_len]; exact hi), wallF_get _ _ _ _ hi]
    simp
/-- What a tip sweeps sounds the same to it. -/
theorem read_sweep (S : List Int) (p : List Smp) : readF S (sweepF S p) = readF S p := by
  unfold readF
  have h1 : outs (sweepF S p) = dilL S (eroL S (outs p)) := outs_wall _ _ _ (by rw [dilL_len, eroL_len, outs_len])
  have h2 : inns (sweepF S p) = dilL S (eroL S (inns p)) := inns_wall _ _ _ (by rw [dilL_len, eroL_len, inns_len])
  have h3 : (sweepF S p).length = p.length := wallF_len _ _ _
  rw [h1, h2, h3, ero_dil_ero_L, ero_dil_ero_L]
theorem sweep_in {S : List Int} {p : List Smp} {i : Nat} (hi : i < p.length) : ((sweepF S p).getD i s0).r ≤ (p.getD i s0).r ∧ (p.getD i s0).l ≤ ((sweepF S p).getD i s0).l := by
  unfold sweepF
  rw [wallF_get _ _ _ _ hi]
  have h1 := dil_ero_le (S := S) (h := outs p) (i := i) (by rw [outs_len]; exact hi)
  have h2 := dil_ero_le (S := S) (h := inns p) (i := i) (by rw [inns_len]; exact hi)
  rw [outs_get _ _ hi] at h1
  rw [inns_get _ _ hi] at h2
  simp only
  rw [dilL_get _ _ _ (by rw [eroL_len, outs_len]; exact hi), dilL_get _ _ _ (by rw [eroL_len, inns_len]; exact hi)]
  omega
end Go.Sx

namespace Go.Sx
open Go Go.Proofs
set_option maxRecDepth 10000
set_option maxHeartbeats 8000000
/-! ### The least and the greatest of numbers -/
structure MnIs (xs : List Int) (m : Int) : Prop where
  le : ∀ j, j < xs.length → m ≤ xs.getD j 0
  att : ∃ j, j < xs.length ∧ m = xs.getD j 0
structure MxIs (xs : List Int) (m : Int) : Prop where
  ge : ∀ j, j < xs.length → xs.getD j 0 ≤ m
  att : ∃ j, j < xs.length ∧ m = xs.getD j 0
theorem s155 (xs : List Int) (h0 : 0 < xs.length) (hm0 : xs.length ≤ 100000) : HSpec Tryz.prog 155 [lL xs] [] (fun r m' => ∃ m, MnIs xs m ∧ r = .x (I m) ∧ m' = []) := by
  have lx := i64s_len xs
  have g0 : rI (i64s xs) (Int.toNat 0) 0 = xs.getD 0 0 := i64s_get xs 0
  have hz : ∀ j, j < 1 → xs.getD 0 0 ≤ xs.getD j 0 := fun j hj => by
    have : j = 0 := by omega
    subst this
    exact Int.le_refl _
  refine spec_of pMix (O := []) Tryz.func155 (c := bodyOf Tryz.f155) rfl (by kernel_rfl) (by kernel_rfl) Tryz.ntmps155 (res := [.tmp 2]) (by kernel_rfl) ?_
  repeat' ((conv => whnf); first | rw [g0] | refine Rng.g ?_ | refine Ob.g ?_ | refine Ob.e ?_ | refine Ob.m ?_ | refine Ob.mk (Nat.le_of_ble_eq_true rfl) ?_ | refine JoinVC.on ?_ | refine Nils.mk (fun h => ?_) ?_ | refine Val.t ?_ | refine Val.d ?_ | refine Mm.mk ?_ | (refine Br.mk (fun h => ?_) (fun h => ?_) <;> first | (exfalso; omega; done) | (exfalso; simp at h; done) | skip))
  refine LoopVC.mk (fun n st => ∃ (i : Nat) (m : Int), 1 ≤ i ∧ i ≤ xs.length ∧ n = xs.length - i ∧ (∀ j, j < i → m ≤ xs.getD j 0) ∧ (∃ j, j < xs.length ∧ m = xs.getD j 0) ∧ st = ⟨0, envA 25 [(0, .x (lL xs)), (3, .int .i64 m), (4, .int .i64 (i : Int))], []⟩) _ _ ⟨1, xs.getD 0 0, Nat.le_refl _, h0, rfl, hz, ⟨0, h0, rfl⟩, rfl⟩ ?_ ?_
  · refine ⟨[], rfl, rfl, ?_, ?_⟩ <;> repeat' (first | exact trivial | exact rfl | exact Iff.rfl | apply And.intro)
  rintro n _ ⟨i, m, h1, hi, hn, hle, hat, rfl⟩
  have gx : rI (i64s xs) (i : Int).toNat 0 = xs.getD i 0 := by rw [Int.toNat_natCast, i64s_get]
  by_cases hi' : i < xs.length
  · repeat' ((conv => whnf); first | rw [gx] | refine Rng.g ?_ | refine Ob.g ?_ | refine Ob.e ?_ | refine Ob.m ?_ | refine Ob.mk (Nat.le_of_ble_eq_true rfl) ?_ | refine JoinVC.on ?_ | refine Nils.mk (fun h => ?_) ?_ | refine Val.t ?_ | refine Val.d ?_ | (refine Br.mk (fun h => ?_) (fun h => ?_) <;> first | (exfalso; omega; done) | (exfalso; simp at h; done) | skip))
    conv => whnf
    refine Mm.nm (fun mx hm => ?_)
    have hm1 : mx ≤ m ∧ mx ≤ xs.getD i 0 ∧ (mx = m ∨ mx = xs.getD i 0) := by rw [hm]; split <;> omega
    clear hm
    obtain ⟨h2, h3, h4⟩ := hm1
    repeat' ((conv => whnf); first | refine Rng.g ?_ | refine Ob.g ?_ | refine Ob.e ?_ | refine Ob.m ?_ | refine Ob.mk (Nat.le_of_ble_eq_true rfl) ?_ | refine JoinVC.on ?_ | refine Nils.mk (fun h => ?_) ?_ | refine Val.t ?_ | refine Val.d ?_ | refine Mm.mk ?_ | (refine Br.mk (fun h => ?_) (fun h => ?_) <;> first | (exfalso; omega; done) | (exfalso; simp at h; done) | skip))
    refine Back.mk (xs.length - (i + 1)) _ (by omega) ⟨i + 1, mx, by omega, by omega, rfl, fun j hj => ?_, ?_, rfl⟩ ?_
    · rcases Nat.lt_succ_iff_lt_or_eq.1 hj with h' | rfl
      · exact Int.le_trans h2 (hle j h')
      · exact h3
    · rcases h4 with rfl | rfl
      · exact hat
      · exact ⟨i, hi', rfl⟩
    · refine ⟨[], rfl, rfl, ?_, ?_⟩ <;> repeat' (first | exact trivial | exact rfl | exact Iff.rfl | apply And.intro)
  · repeat' ((conv => whnf); first | refine Rng.g ?_ | refine Ob.g ?_ | refine Ob.e ?_ | refine Ob.m ?_ | refine Ob.mk (Nat.le_of_ble_eq_true rfl) ?_ | refine JoinVC.on ?_ | refine Nils.mk (fun h => ?_) ?_ | refine Val.t ?_ | refine Val.d ?_ | refine Mm.mk ?_ | (refine Br.mk (fun h => ?_) (fun h => ?_) <;> first | (exfalso; omega; done) | (exfalso; simp at h; done) | skip))
    repeat refine Mm.mk ?_
    conv => whnf
    refine EndVC.mk _ rfl _ _ (⟨m, ⟨fun j hj => hle j (by omega), hat⟩, rfl, rfl⟩) ?_
    refine ⟨[], rfl, rfl, ?_, ?_⟩ <;> repeat' (first | exact trivial | exact rfl | exact Iff.rfl | apply And.intro)
theorem s156 (xs : List Int) (h0 : 0 < xs.length) (hm0 : xs.length ≤ 100000) : HSpec Tryz.prog 156 [lL xs] [] (fun r m' => ∃ m, MxIs xs m ∧ r = .x (I m) ∧ m' = []) := by
  have lx := i64s_len xs
  have g0 : rI (i64s xs) (Int.toNat 0) 0 = xs.getD 0 0 := i64s_get xs 0
  have hz : ∀ j, j < 1 → xs.getD j 0 ≤ xs.getD 0 0 := fun j hj => by
    have : j = 0 := by omega
    subst this
    exact Int.le_refl _
  refine spec_of pMix (O := []) Tryz.func156 (c := bodyOf Tryz.f156) rfl (by kernel_rfl) (by kernel_rfl) Tryz.ntmps156 (res := [.tmp 2]) (by kernel_rfl) ?_
  repeat' ((conv => whnf); first | rw [g0] | refine Rng.g ?_ | refine Ob.g ?_ | refine Ob.e ?_ | refine Ob.m ?_ | refine Ob.mk (Nat.le_of_ble_eq_true rfl) ?_ | refine JoinVC.on ?_ | refine Nils.mk (fun h => ?_) ?_ | refine Val.t ?_ | refine Val.d ?_ | refine Mm.mk ?_ | (refine Br.mk (fun h => ?_) (fun h => ?_) <;> first | (exfalso; omega; done) | (exfalso; simp at h; done) | skip))
  refine LoopVC.mk (fun n st => ∃ (i : Nat) (m : Int), 1 ≤ i ∧ i ≤ xs.length ∧ n = xs.length - i ∧ (∀ j, j < i → xs.getD j 0 ≤ m) ∧ (∃ j, j < xs.length ∧ m = xs.getD j 0) ∧ st = ⟨0, envA 25 [(0, .x (lL xs)), (3, .int .i64 m), (4, .int .i64 (i : Int))], []⟩) _ _ ⟨1, xs.getD 0 0, Nat.le_refl _, h0, rfl, hz, ⟨0, h0, rfl⟩, rfl⟩ ?_ ?_
  · refine ⟨[], rfl, rfl, ?_, ?_⟩ <;> repeat' (first | exact trivial | exact rfl | exact Iff.rfl | apply And.intro)
  rintro n _ ⟨i, m, h1, hi, hn, hle, hat, rfl⟩
  have gx : rI (i64s xs) (i : Int).toNat 0 = xs.getD i 0 := by rw [Int.toNat_natCast, i64s_get]
  by_cases hi' : i < xs.length
  · repeat' ((conv => whnf); first | rw [gx] | refine Rng.g ?_ | refine Ob.g ?_ | refine Ob.e ?_ | refine Ob.m ?_ | refine Ob.mk (Nat.le_of_ble_eq_true rfl) ?_ | refine JoinVC.on ?_ | refine Nils.mk (fun h => ?_) ?_ | refine Val.t ?_ | refine Val.d ?_ | (refine Br.mk (fun h => ?_) (fun h => ?_) <;> first | (exfalso; omega; done) | (exfalso; simp at h; done) | skip))
    conv => whnf
    refine Mm.nm (fun mx hm => ?_)
    have hm1 : m ≤ mx ∧ xs.getD i 0 ≤ mx ∧ (mx = m ∨ mx = xs.getD i 0) := by rw [hm]; split <;> omega
    clear hm
    obtain ⟨h2, h3, h4⟩ := hm1
    repeat' ((conv => whnf); first | refine Rng.g ?_ | refine Ob.g ?_ | refine Ob.e ?_ | refine Ob.m ?_ | refine Ob.mk (Nat.le_of_ble_eq_true rfl) ?_ | refine JoinVC.on ?_ | refine Nils.mk (fun h => ?_) ?_ | refine Val.t ?_ | refine Val.d ?_ | refine Mm.mk ?_ | (refine Br.mk (fun h => ?_) (fun h => ?_) <;> first | (exfalso; omega; done) | (exfalso; simp at h; done) | skip))
    refine Back.mk (xs.length - (i + 1)) _ (by omega) ⟨i + 1, mx, by omega, by omega, rfl, fun j hj => ?_, ?_, rfl⟩ ?_
    · rcases Nat.lt_succ_iff_lt_or_eq.1 hj with h' | rfl
      · exact Int.le_trans (hle j h') h2
      · exact h3
    · rcases h4 with rfl | rfl
      · exact hat
      · exact ⟨i, hi', rfl⟩
    · refine ⟨[], rfl, rfl, ?_, ?_⟩ <;> repeat' (first | exact trivial | exact rfl | exact Iff.rfl | apply And.intro)
  · repeat' ((conv => whnf); first | refine Rng.g ?_ | refine Ob.g ?_ | refine Ob.e ?_ | refine Ob.m ?_ | refine Ob.mk (Nat.le_of_ble_eq_true rfl) ?_ | refine JoinVC.on ?_ | refine Nils.mk (fun h => ?_) ?_ | refine Val.t ?_ | refine Val.d ?_ | refine Mm.mk ?_ | (refine Br.mk (fun h => ?_) (fun h => ?_) <;> first | (exfalso; omega; done) | (exfalso; simp at h; done) | skip))
    repeat refine Mm.mk ?_
    conv => whnf
    refine EndVC.mk _ rfl _ _ (⟨m, ⟨fun j hj => hle j (by omega), hat⟩, rfl, rfl⟩) ?_
    refine ⟨[], rfl, rfl, ?_, ?_⟩ <;> repeat' (first | exact trivial | exact rfl | exact Iff.rfl | apply And.intro)
/-! ### The bends of a groove -/
def bdv (p : List Smp) (i : Nat) : Int := (p.getD i s0).l + (p.getD i s0).r + (p.getD (i + 2) s0).l + (p.getD (i + 2) s0).r - 2 * ((p.getD (i + 1) s0).l + (p.getD (i + 1) s0).r)
def bnL (p : List Smp) (k : Nat) : List Int := (List.range k).map (bdv p)
theorem bnL_len (p : List Smp) (k : Nat) : (bnL p k).length = k := by simp [bnL]
theorem bnL_get (p : List Smp) (k i : Nat) (h : i < k) : (bnL p k).getD i 0 = bdv p i := by simp [bnL, List.getD_eq_getElem?_getD, List.getElem?_range h]
theorem bnL_succ (p : List Smp) (k : Nat) : bnL p (k + 1) = bnL p k ++ [bdv p k] := by simp [bnL, List.range_succ]
theorem bdv_bd {p : List Smp} (hp : PtsOK p) {i : Nat} (h : i + 2 < p.length) : -67108864 ≤ bdv p i ∧ bdv p i ≤ 67108864 := by
  have h1 := hp.each i (by omega)
  have h2 := hp.each (i + 1) (by omega)
  have h3 := hp.each (i + 2) h
  unfold edgeP at h1 h2 h3
  unfold bdv
  omega
theorem s154 (p : List Smp) (hp : PtsOK p) (h3 : 3 ≤ p.length) : HSpec Tryz.prog 154 [lS p] [] (fun r m' => r = .x (.one (.own 0)) ∧ m' = [some (rowL (bnL p (p.length - 2)))]) := by
  have lp := smpA_len p
  have hlp := hp.len
  refine spec_of pMix (O := [(5, ([14, 15, 16], [⟨0, [], []⟩, ⟨1, [], []⟩, ⟨2, [], []⟩, ⟨3, [], []⟩, ⟨4, [], []⟩, ⟨5, [], []⟩, ⟨6, [], []⟩, ⟨7, [], []⟩, ⟨8, [], []⟩, ⟨9, [], []⟩, ⟨10, [], []⟩, ⟨11, [], []⟩, ⟨12, [], []⟩, ⟨13, [], []⟩, ⟨16, [], []⟩, ⟨15, [], []⟩, ⟨14, [], []⟩, ⟨17, [5, 6, 7, 8, 9, 10, 11, 12, 13], []⟩, ⟨18, [9, 10, 11, 12, 13], []⟩, ⟨19, [], []⟩]))]) Tryz.func154 (c := bodyOf Tryz.f154) rfl (by kernel_rfl) (by kernel_rfl) Tryz.ntmps154 (res := [.tmp 2]) (by kernel_rfl) ?_
  repeat' ((conv => whnf); first | refine Rng.g ?_ | refine Ob.g ?_ | refine Ob.e ?_ | refine Ob.m ?_ | refine Ob.mk (Nat.le_of_ble_eq_true rfl) ?_ | refine JoinVC.on ?_ | refine Nils.mk (fun h => ?_) ?_ | refine Val.t ?_ | refine Val.d ?_ | refine Mm.mk ?_ | (refine Br.mk (fun h => ?_) (fun h => ?_) <;> first | (exfalso; omega; done) | (exfalso; simp at h; done) | skip))
  refine LoopVC.mk (fun n st => ∃ (k : Nat), k ≤ p.length - 2 ∧ n = p.length - 2 - k ∧ st = ⟨0, envA 51 [(0, .x (lS p)), (3, .x (.one (.own 0))), (4, .int .i64 ((k : Int) + 1))], [some (rowL (bnL p k))]⟩) _ _ ⟨0, Nat.zero_le _, rfl, rfl⟩ ?_ ?_
  · refine ⟨[none], rfl, rfl, ?_, ?_⟩ <;> repeat' (first | exact trivial | exact rfl | exact Iff.rfl | apply And.intro)
  rintro n _ ⟨k, hk, hn, rfl⟩
  have lb : (i64s (bnL p k)).length = k := by rw [i64s_len, bnL_len]
  have t0 : ((k : Int) + 1 - 1).toNat = k := by omega
  have t1 : ((k : Int) + 1).toNat = k + 1 := by omega
  have t2 : ((k : Int) + 1 + 1).toNat = k + 2 := by omega
  have a0 : rI (smpA p) ((k : Int) + 1 - 1).toNat 0 = (p.getD k s0).l := by rw [t0]; exact smpA_l p k
  have a1 : rI (smpA p) ((k : Int) + 1 - 1).toNat (0 + 1) = (p.getD k s0).r := by rw [t0]; exact smpA_r p k
  have a2 : rI (smpA p) ((k : Int) + 1).toNat 0 = (p.getD (k + 1) s0).l := by rw [t1]; exact smpA_l p _
  have a3 : rI (smpA p) ((k : Int) + 1).toNat (0 + 1) = (p.getD (k + 1) s0).r := by rw [t1]; exact smpA_r p _
  have a4 : rI (smpA p) ((k : Int) + 1 + 1).toNat 0 = (p.getD (k + 2) s0).l := by rw [t2]; exact smpA_l p _
  have a5 : rI (smpA p) ((k : Int) + 1 + 1).toNat (0 + 1) = (p.getD (k + 2) s0).r := by rw [t2]; exact smpA_r p _
  by_cases hk' : k + 2 < p.length
  · have h1 := hp.each k (by omega)
    have h2 := hp.each (k + 1) (by omega)
    have h4 := hp.each (k + 2) hk'
    unfold edgeP at h1 h2 h4
    have u1 : i64s (bnL p k) ++ [[Cell.int (bdv p k)]] = i64s (bnL p (k + 1)) := by rw [bnL_succ, i64s_snoc]
    have eb : (p.getD k s0).l + (p.getD k s0).r + (p.getD (k + 2) s0).l + (p.getD (k + 2) s0).r - 2 * ((p.getD (k + 1) s0).l + (p.getD (k + 1) s0).r) = bdv p k := rfl
    repeat' ((conv => whnf); first | rw [a0] | rw [a1] | rw [a2] | rw [a3] | rw [a4] | rw [a5] | rw [eb] | refine Rng.g ?_ | refine Ob.g ?_ | refine Ob.e ?_ | refine Ob.m ?_ | refine Ob.mk (Nat.le_of_ble_eq_true rfl) ?_ | refine JoinVC.on ?_ | refine Nils.mk (fun h => ?_) ?_ | refine Val.t ?_ | refine Val.d ?_ | refine Mm.mk ?_ | (refine Br.mk (fun h => ?_) (fun h => ?_) <;> first | (exfalso; omega; done) | (exfalso; simp at h; done) | skip))
    repeat refine Mm.mk ?_
    refine Ob.mk (by rw [eb2]; simp only [List.length_cons, List.length_nil]; omega) ?_
    repeat' ((conv => whnf); first | rw [u1] | refine Rng.g ?_ | refine Ob.g ?_ | refine Ob.e ?_ | refine Ob.m ?_ | refine Ob.mk (Nat.le_of_ble_eq_true rfl) ?_ | refine JoinVC.on ?_ | refine Nils.mk (fun h => ?_) ?_ | refine Val.t ?_ | refine Val.d ?_ | refine Mm.mk ?_ | (refine Br.mk (fun h => ?_) (fun h => ?_) <;> first | (exfalso; omega; done) | (exfalso; simp at h; done) | skip))
    refine Back.mk (p.length - 2 - (k + 1)) _ (by omega) ⟨k + 1, by omega, rfl, rfl⟩ ?_
    refine ⟨[some 5], rfl, rfl, ?_, ?_⟩ <;> repeat' (first | exact trivial | exact rfl | exact Iff.rfl | apply And.intro)
  · have ek : k = p.length - 2 := by omega
    subst ek
    repeat' ((conv => whnf); first | refine Rng.g ?_ | refine Ob.g ?_ | refine Ob.e ?_ | refine Ob.m ?_ | refine Ob.mk (Nat.le_of_ble_eq_true rfl) ?_ | refine JoinVC.on ?_ | refine Nils.mk (fun h => ?_) ?_ | refine Val.t ?_ | refine Val.d ?_ | refine Mm.mk ?_ | (refine Br.mk (fun h => ?_) (fun h => ?_) <;> first | (exfalso; omega; done) | (exfalso; simp at h; done) | skip))
    repeat refine Mm.mk ?_
    conv => whnf
    refine EndVC.mk _ rfl _ _ (⟨rfl, rfl⟩) ?_
    refine ⟨[some 0], rfl, rfl, ?_, ?_⟩ <;> repeat' (first | exact trivial | exact rfl | exact Iff.rfl | apply And.intro)
/-! ### The arm that needs the least -/
inductive BalRs (p : List Smp) (r : AV) (m' : List (Option Blk)) : Prop
  | bad (e : Int) (h : ¬ PtsOK p) (he : e ≠ 0) (hr : r = .tup [.agg [.int .i64 0, .int .i64 0], I e]) (hm : m' = [])
  | few (hp : PtsOK p) (h : p.length < 3) (hr : r = .tup [.agg [.int .i64 0, .int .i64 0], I 0]) (hm : m' = [])
  | ok (hp : PtsOK p) (h : 3 ≤ p.length) (mn mx : Int) (hn : MnIs (bnL p (p.length - 2)) mn) (hx : MxIs (bnL p (p.length - 2)) mx) (hr : r = .tup [.agg [.int .i64 ((mx - mn + 1) / 2), .int .i64 (mx - (mx - mn + 1) / 2)], I 0]) (hm : m' = [])
theorem s69 (p : List Smp) : HSpec Tryz.prog 69 [lS p] [] (BalRs p) := by
  have lp := smpA_len p
  refine spec_of pMix (O := []) Tryz.func69 (c := bodyOf Tryz.f69) rfl (by kernel_rfl) (by kernel_rfl) Tryz.ntmps69 (res := [.cell 2 130, .tmp 3]) (by kernel_rfl) ?_
  repeat' ((conv => whnf); first | refine Rng.g ?_ | refine Ob.g ?_ | refine Ob.e ?_ | refine Ob.m ?_ | refine Ob.mk (Nat.le_of_ble_eq_true rfl) ?_ | refine JoinVC.on ?_ | refine Nils.mk (fun h => ?_) ?_ | refine Val.t ?_ | refine Val.d ?_ | refine Mm.mk ?_ | (refine Br.mk (fun h => ?_) (fun h => ?_) <;> first | (exfalso; omega; done) | (exfalso; simp at h; done) | skip))
  conv => whnf
  refine CallVC.mk [] _ _ _ rfl rfl rfl (s153 p) (fun r m' h' => ?_)
  obtain ⟨e, rfl, rfl, he⟩ := h'
  conv => whnf
  by_cases h0 : e = 0
  rotate_left
  · repeat' ((conv => whnf); first | refine Rng.g ?_ | refine Ob.g ?_ | refine Ob.e ?_ | refine Ob.m ?_ | refine Ob.mk (Nat.le_of_ble_eq_true rfl) ?_ | refine JoinVC.on ?_ | refine Nils.mk (fun h => ?_) ?_ | refine Val.t ?_ | refine Val.d ?_ | refine Mm.mk ?_ | (refine Br.mk (fun h => ?_) (fun h => ?_) <;> first | (exfalso; omega; done) | (exfalso; simp at h; done) | skip))
    repeat refine Mm.mk ?_
    conv => whnf
    refine EndVC.mk _ rfl _ _ (.bad e (fun h => h0 (he.2 h)) h0 rfl rfl) ?_
    refine ⟨[], rfl, rfl, ?_, ?_⟩ <;> repeat' (first | exact trivial | exact rfl | exact Iff.rfl | apply And.intro)
  have hp := he.1 h0
  subst h0
  by_cases h3 : p.length < 3
  · repeat' ((conv => whnf); first | refine Rng.g ?_ | refine Ob.g ?_ | refine Ob.e ?_ | refine Ob.m ?_ | refine Ob.mk (Nat.le_of_ble_eq_true rfl) ?_ | refine JoinVC.on ?_ | refine Nils.mk (fun h => ?_) ?_ | refine Val.t ?_ | refine Val.d ?_ | refine Mm.mk ?_ | (refine Br.mk (fun h => ?_) (fun h => ?_) <;> first | (exfalso; omega; done) | (exfalso; simp at h; done) | skip))
    repeat refine Mm.mk ?_
    conv => whnf
    refine EndVC.mk _ rfl _ _ (.few hp h3 rfl rfl) ?_
    refine ⟨[], rfl, rfl, ?_, ?_⟩ <;> repeat' (first | exact trivial | exact rfl | exact Iff.rfl | apply And.intro)
  repeat' ((conv => whnf); first | refine Rng.g ?_ | refine Ob.g ?_ | refine Ob.e ?_ | refine Ob.m ?_ | refine Ob.mk (Nat.le_of_ble_eq_true rfl) ?_ | refine JoinVC.on ?_ | refine Nils.mk (fun h => ?_) ?_ | refine Val.t ?_ | refine Val.d ?_ | refine Mm.mk ?_ | (refine Br.mk (fun h => ?_) (fun h => ?_) <;> first | (exfalso; omega; done) | (exfalso; simp at h; done) | skip))
  conv => whnf
  refine CallVC.mk [] _ _ _ rfl rfl rfl (s154 p hp (by omega)) (fun r m' h' => ?_)
  obtain ⟨rfl, rfl⟩ := h'
  conv => whnf
  have hb : ∀ j, j < (bnL p (p.length - 2)).length → -67108864 ≤ (bnL p (p.length - 2)).getD j 0 ∧ (bnL p (p.length - 2)).getD j 0 ≤ 67108864 := fun j hj => by
    rw [bnL_len] at hj
    rw [bnL_get _ _ _ hj]
    exact bdv_bd hp (by omega)
  have lb := bnL_len p (p.length - 2)
  have hlp := hp.len
  obtain ⟨B, hB⟩ : ∃ B, bnL p (p.length - 2) = B := ⟨_, rfl⟩
  have hfin : ∀ mn mx r m', MnIs B mn → MxIs B mx → r = .tup [.agg [.int .i64 ((mx - mn + 1) / 2), .int .i64 (mx - (mx - mn + 1) / 2)], I 0] → m' = [] → BalRs p r m' := fun mn mx r m' h1 h2 h4 h5 => .ok hp (by omega) mn mx (by rw [hB]; exact h1) (by rw [hB]; exact h2) h4 h5
  rw [hB] at hb lb ⊢
  repeat' ((conv => whnf); first | refine Rng.g ?_ | refine Ob.g ?_ | refine Ob.e ?_ | refine Ob.m ?_ | refine Ob.mk (Nat.le_of_ble_eq_true rfl) ?_ | refine JoinVC.on ?_ | refine Nils.mk (fun h => ?_) ?_ | refine Val.t ?_ | refine Val.d ?_ | refine Mm.mk ?_ | (refine Br.mk (fun h => ?_) (fun h => ?_) <;> first | (exfalso; omega; done) | (exfalso; simp at h; done) | skip))
  conv => whnf
  refine CallVC.mk [] _ _ _ rfl rfl rfl (s155 B (by omega) (by omega)) (fun r m' h' => ?_)
  obtain ⟨mn, hmn, rfl, rfl⟩ := h'
  conv => whnf
  repeat' ((conv => whnf); first | refine Rng.g ?_ | refine Ob.g ?_ | refine Ob.e ?_ | refine Ob.m ?_ | refine Ob.mk (Nat.le_of_ble_eq_true rfl) ?_ | refine JoinVC.on ?_ | refine Nils.mk (fun h => ?_) ?_ | refine Val.t ?_ | refine Val.d ?_ | refine Mm.mk ?_ | (refine Br.mk (fun h => ?_) (fun h => ?_) <;> first | (exfalso; omega; done) | (exfalso; simp at h; done) | skip))
  conv => whnf
  refine CallVC.mk [] _ _ _ rfl rfl rfl (s156 B (by omega) (by omega)) (fun r m' h' => ?_)
  obtain ⟨mx, hmx, rfl, rfl⟩ := h'
  conv => whnf
  obtain ⟨j1, hj1, e1⟩ := hmn.att
  obtain ⟨j2, hj2, e2⟩ := hmx.att
  have b1 := hb j1 hj1
  have b2 := hb j2 hj2
  have b3 := hmn.le j2 hj2
  repeat' ((conv => whnf); first | refine Rng.g ?_ | refine Ob.g ?_ | refine Ob.e ?_ | refine Ob.m ?_ | refine Ob.mk (Nat.le_of_ble_eq_true rfl) ?_ | refine JoinVC.on ?_ | refine Nils.mk (fun h => ?_) ?_ | refine Val.t ?_ | refine Val.d ?_ | refine Mm.mk ?_ | (refine Br.mk (fun h => ?_) (fun h => ?_) <;> first | (exfalso; omega; done) | (exfalso; simp at h; done) | skip))
  repeat refine Mm.mk ?_
  conv => whnf
  refine EndVC.mk _ rfl _ _ (hfin mn mx _ _ hmn hmx rfl rfl) ?_
  refine ⟨[], rfl, rfl, ?_, ?_⟩ <;> repeat' (first | exact trivial | exact rfl | exact Iff.rfl | apply And.intro)
end Go.Sx

namespace Go.Sx
open Go Go.Proofs
set_option maxRecDepth 10000
set_option maxHeartbeats 8000000
/-! ### Tips -/
@[reducible] def tipX (S : List Int) : XV := .agg [.lst true [.int .i64] (i64s S)]
@[reducible] def bTip (S : List Int) : Blk := .box 139 [.lst true [.int .i64] (i64s S)]
def tipN (S : List Int) (k : Nat) : Prop := ∀ j, j < k → (0 ≤ S.getD j 0 ∧ S.getD j 0 ≤ 4194304) ∧ (j = 0 → S.getD j 0 = 0) ∧ (0 < j → S.getD (j - 1) 0 ≤ S.getD j 0)
theorem tipOK_iff (S : List Int) : TipOK S ↔ (1 ≤ S.length ∧ S.length ≤ 64) ∧ tipN S S.length := by
  constructor
  · intro h
    refine ⟨h.len, fun j hj => ⟨h.rng j hj, fun e => by rw [e]; exact h.zero, fun e => ?_⟩⟩
    have := h.mono (j - 1) (by omega)
    rwa [show j - 1 + 1 = j by omega] at this
  · rintro ⟨h1, h2⟩
    exact ⟨h1, (h2 0 (by omega)).2.1 rfl, fun k hk => (h2 k hk).1, fun k hk => (h2 (k + 1) hk).2.2 (by omega)⟩
def lastN (S : List Int) : Nat → Int
  | 0 => 0
  | i + 1 => S.getD i 0
theorem s175 (S : List Int) : HSpec Tryz.prog 175 [tipX S] [] (fun r m' => ∃ e, r = .x (I e) ∧ m' = [] ∧ (e = 0 ↔ TipOK S)) := by
  have ls := i64s_len S
  have hT := tipOK_iff S
  by_cases hl : S.length = 0 ∨ 64 < S.length
  · refine spec_of pMix (O := []) Tryz.func175 (c := bodyOf Tryz.f175) rfl (by kernel_rfl) (by kernel_rfl) Tryz.ntmps175 (res := [.tmp 2]) (by kernel_rfl) ?_
    repeat' ((conv => whnf); first | refine Rng.g ?_ | refine Ob.g ?_ | refine Ob.e ?_ | refine Ob.m ?_ | refine Ob.mk (Nat.le_of_ble_eq_true rfl) ?_ | refine JoinVC.on ?_ | refine Nils.mk (fun h => ?_) ?_ | refine Val.t ?_ | refine Val.d ?_ | refine Mm.mk ?_ | (refine Br.mk (fun h => ?_) (fun h => ?_) <;> first | (exfalso; omega; done) | (exfalso; simp at h; done) | skip))
    all_goals
      repeat refine Mm.mk ?_
      conv => whnf
      refine EndVC.mk _ rfl _ _ (⟨6, rfl, rfl, ⟨fun h => (by cases h), fun hC => (by have := hC.len; omega)⟩⟩) ?_
      refine ⟨[], rfl, rfl, ?_, ?_⟩ <;> repeat' (first | exact trivial | exact rfl | exact Iff.rfl | apply And.intro)
  refine spec_of pMix (O := []) Tryz.func175 (c := bodyOf Tryz.f175) rfl (by kernel_rfl) (by kernel_rfl) Tryz.ntmps175 (res := [.tmp 2]) (by kernel_rfl) ?_
  repeat' ((conv => whnf); first | refine Rng.g ?_ | refine Ob.g ?_ | refine Ob.e ?_ | refine Ob.m ?_ | refine Ob.mk (Nat.le_of_ble_eq_true rfl) ?_ | refine JoinVC.on ?_ | refine Nils.mk (fun h => ?_) ?_ | refine Val.t ?_ | refine Val.d ?_ | refine Mm.mk ?_ | (refine Br.mk (fun h => ?_) (fun h => ?_) <;> first | (exfalso; omega; done) | (exfalso; simp at h; done) | skip))
  refine LoopVC.mk (fun n st => ∃ (i : Nat), i ≤ S.length ∧ n = S.length - i ∧ tipN S i ∧ st = ⟨0, envA 41 [(3, .int .i64 (lastN S i)), (17, .x (lL S)), (18, .int .i64 ((i64s S).length : Int)), (19, .int .i64 (i : Int))], []⟩) _ _ ⟨0, Nat.zero_le _, rfl, fun j hj => absurd hj (Nat.not_lt_zero j), rfl⟩ ?_ ?_
  · refine ⟨[], rfl, rfl, ?_, ?_⟩ <;> repeat' (first | exact trivial | exact rfl | exact Iff.rfl | apply And.intro)
  rintro n _ ⟨i, hi, hn, ht, rfl⟩
  have gx : rI (i64s S) (i : Int).toNat 0 = S.getD i 0 := by rw [Int.toNat_natCast, i64s_get]
  by_cases hi' : i < S.length
  · have hl0 : lastN S (i + 1) = S.getD i 0 := rfl
    have hbad : (S.getD i 0 < lastN S i ∨ 4194304 < S.getD i 0 ∨ (i = 0 ∧ S.getD i 0 ≠ 0)) → ¬ TipOK S := fun hb hC => by
      have h1 := (hT.1 hC).2 i hi'
      cases i with
      | zero =>
        have : lastN S 0 = 0 := rfl
        have := h1.2.1 rfl
        omega
      | succ i =>
        have e : lastN S (i + 1) = S.getD i 0 := rfl
        have h2 := h1.2.2 (by omega)
        rw [show i + 1 - 1 = i by omega] at h2
        omega
    have hgood : ¬ (S.getD i 0 < lastN S i ∨ 4194304 < S.getD i 0 ∨ (i = 0 ∧ S.getD i 0 ≠ 0)) → tipN S (i + 1) := fun hb j hj => by
      rcases Nat.lt_succ_iff_lt_or_eq.1 hj with h' | rfl
      · exact ht j h'
      · cases j with
        | zero =>
          have : lastN S 0 = 0 := rfl
          refine ⟨by omega, fun _ => by omega, fun h => absurd h (Nat.lt_irrefl 0)⟩
        | succ j =>
          have e : lastN S (j + 1) = S.getD j 0 := rfl
          have h1 := (ht j (by omega)).1
          refine ⟨by omega, fun h => by omega, fun _ => ?_⟩
          rw [show j + 1 - 1 = j by omega]
          omega
    by_cases hb : S.getD i 0 < lastN S i ∨ 4194304 < S.getD i 0 ∨ (i = 0 ∧ S.getD i 0 ≠ 0)
    · repeat' ((conv => whnf); first | rw [gx] | refine Rng.g ?_ | refine Ob.g ?_ | refine Ob.e ?_ | refine Ob.m ?_ | refine Ob.mk (Nat.le_of_ble_eq_true rfl) ?_ | refine JoinVC.on ?_ | refine Nils.mk (fun h => ?_) ?_ | refine Val.t ?_ | refine Val.d ?_ | refine Mm.mk ?_ | (refine Br.mk (fun h => ?_) (fun h => ?_) <;> first | (exfalso; omega; done) | (exfalso; simp at h; done) | skip))
      all_goals
        repeat refine Mm.mk ?_
        conv => whnf
        refine EndVC.mk _ rfl _ _ (⟨2, rfl, rfl, ⟨fun h => (by cases h), fun hC => absurd hC (hbad hb)⟩⟩) ?_
        refine ⟨[], rfl, rfl, ?_, ?_⟩ <;> repeat' (first | exact trivial | exact rfl | exact Iff.rfl | apply And.intro)
    · repeat' ((conv => whnf); first | rw [gx] | refine Rng.g ?_ | refine Ob.g ?_ | refine Ob.e ?_ | refine Ob.m ?_ | refine Ob.mk (Nat.le_of_ble_eq_true rfl) ?_ | refine JoinVC.on ?_ | refine Nils.mk (fun h => ?_) ?_ | refine Val.t ?_ | refine Val.d ?_ | refine Mm.mk ?_ | (refine Br.mk (fun h => ?_) (fun h => ?_) <;> first | (exfalso; omega; done) | (exfalso; simp at h; done) | skip))
      all_goals
        refine Back.mk (S.length - (i + 1)) _ (by omega) ⟨i + 1, by omega, rfl, hgood hb, rfl⟩ ?_
        refine ⟨[], rfl, rfl, ?_, ?_⟩ <;> repeat' (first | exact trivial | exact rfl | exact Iff.rfl | apply And.intro)
  · have ei : i = S.length := by omega
    subst ei
    repeat' ((conv => whnf); first | refine Rng.g ?_ | refine Ob.g ?_ | refine Ob.e ?_ | refine Ob.m ?_ | refine Ob.mk (Nat.le_of_ble_eq_true rfl) ?_ | refine JoinVC.on ?_ | refine Nils.mk (fun h => ?_) ?_ | refine Val.t ?_ | refine Val.d ?_ | refine Mm.mk ?_ | (refine Br.mk (fun h => ?_) (fun h => ?_) <;> first | (exfalso; omega; done) | (exfalso; simp at h; done) | skip))
    repeat refine Mm.mk ?_
    conv => whnf
    refine EndVC.mk _ rfl _ _ (⟨0, rfl, rfl, ⟨fun _ => hT.2 ⟨by omega, ht⟩, fun _ => rfl⟩⟩) ?_
    refine ⟨[], rfl, rfl, ?_, ?_⟩ <;> repeat' (first | exact trivial | exact rfl | exact Iff.rfl | apply And.intro)
theorem s158 (S : List Int) (p : List Smp) : HSpec Tryz.prog 158 [tipX S, lS p] [] (fun r m' => ∃ e, r = .x (I e) ∧ m' = [] ∧ (e = 0 ↔ TipOK S ∧ PtsOK p)) := by
  refine spec_of pMix (O := []) Tryz.func158 (c := bodyOf Tryz.f158) rfl (by kernel_rfl) (by kernel_rfl) Tryz.ntmps158 (res := [.tmp 4]) (by kernel_rfl) ?_
  repeat' ((conv => whnf); first | refine Rng.g ?_ | refine Ob.g ?_ | refine Ob.e ?_ | refine Ob.m ?_ | refine Ob.mk (Nat.le_of_ble_eq_true rfl) ?_ | refine JoinVC.on ?_ | refine Nils.mk (fun h => ?_) ?_ | refine Val.t ?_ | refine Val.d ?_ | refine Mm.mk ?_ | (refine Br.mk (fun h => ?_) (fun h => ?_) <;> first | (exfalso; omega; done) | (exfalso; simp at h; done) | skip))
  conv => whnf
  refine CallVC.mk [] _ _ _ rfl rfl rfl (s175 S) (fun r m' h' => ?_)
  obtain ⟨e, rfl, rfl, he⟩ := h'
  conv => whnf
  by_cases h0 : e = 0
  rotate_left
  · repeat' ((conv => whnf); first | refine Rng.g ?_ | refine Ob.g ?_ | refine Ob.e ?_ | refine Ob.m ?_ | refine Ob.mk (Nat.le_of_ble_eq_true rfl) ?_ | refine JoinVC.on ?_ | refine Nils.mk (fun h => ?_) ?_ | refine Val.t ?_ | refine Val.d ?_ | refine Mm.mk ?_ | (refine Br.mk (fun h => ?_) (fun h => ?_) <;> first | (exfalso; omega; done) | (exfalso; simp at h; done) | skip))
    repeat refine Mm.mk ?_
    conv => whnf
    refine EndVC.mk _ rfl _ _ (⟨e, rfl, rfl, ⟨fun h => absurd h h0, fun h => absurd (he.2 h.1) h0⟩⟩) ?_
    refine ⟨[], rfl, rfl, ?_, ?_⟩ <;> repeat' (first | exact trivial | exact rfl | exact Iff.rfl | apply And.intro)
  have hS := he.1 h0
  subst h0
  repeat' ((conv => whnf); first | refine Rng.g ?_ | refine Ob.g ?_ | refine Ob.e ?_ | refine Ob.m ?_ | refine Ob.mk (Nat.le_of_ble_eq_true rfl) ?_ | refine JoinVC.on ?_ | refine Nils.mk (fun h => ?_) ?_ | refine Val.t ?_ | refine Val.d ?_ | refine Mm.mk ?_ | (refine Br.mk (fun h => ?_) (fun h => ?_) <;> first | (exfalso; omega; done) | (exfalso; simp at h; done) | skip))
  conv => whnf
  refine CallVC.mk [] _ _ _ rfl rfl rfl (s153 p) (fun r m' h' => ?_)
  obtain ⟨e2, rfl, rfl, he2⟩ := h'
  conv => whnf
  repeat' ((conv => whnf); first | refine Rng.g ?_ | refine Ob.g ?_ | refine Ob.e ?_ | refine Ob.m ?_ | refine Ob.mk (Nat.le_of_ble_eq_true rfl) ?_ | refine JoinVC.on ?_ | refine Nils.mk (fun h => ?_) ?_ | refine Val.t ?_ | refine Val.d ?_ | refine Mm.mk ?_ | (refine Br.mk (fun h => ?_) (fun h => ?_) <;> first | (exfalso; omega; done) | (exfalso; simp at h; done) | skip))
  repeat refine Mm.mk ?_
  conv => whnf
  refine EndVC.mk _ rfl _ _ (⟨e2, rfl, rfl, ⟨fun h => ⟨hS, he2.1 h⟩, fun h => he2.2 h.2⟩⟩) ?_
  refine ⟨[], rfl, rfl, ?_, ?_⟩ <;> repeat' (first | exact trivial | exact rfl | exact Iff.rfl | apply And.intro)
end Go.Sx

namespace Go.Sx
open Go Go.Proofs
set_option maxRecDepth 10000
set_option maxHeartbeats 8000000
theorem m_ou_of : mthF Tryz.prog 378 "deadwax/play.of" = some 400 := by kernel_rfl
theorem m_ou_bk : mthF Tryz.prog 378 "deadwax/play.back" = some 399 := by kernel_rfl
theorem m_in_of : mthF Tryz.prog 379 "deadwax/play.of" = some 402 := by kernel_rfl
theorem m_in_bk : mthF Tryz.prog 379 "deadwax/play.back" = some 401 := by kernel_rfl
theorem s399 (n : Int) : PSpec Tryz.prog 399 [.agg [], I n] (.x (I n)) := by
  refine spec_of pMix (O := []) Tryz.func399 (c := bodyOf Tryz.f399) rfl (by kernel_rfl) (by kernel_rfl) Tryz.ntmps399 (res := [.tmp 4]) (by kernel_rfl) ?_
  repeat' ((conv => whnf); first | refine Rng.g ?_ | refine Ob.g ?_ | refine Ob.e ?_ | refine Ob.m ?_ | refine Ob.mk (Nat.le_of_ble_eq_true rfl) ?_ | refine JoinVC.on ?_ | refine Nils.mk (fun h => ?_) ?_ | refine Val.t ?_ | refine Val.d ?_ | refine Mm.mk ?_ | (refine Br.mk (fun h => ?_) (fun h => ?_) <;> first | (exfalso; omega; done) | (exfalso; simp at h; done) | skip))
  repeat refine Mm.mk ?_
  refine EndVC.mk _ rfl _ _ ⟨rfl, rfl⟩ ?_
  refine ⟨[], rfl, rfl, ?_, ?_⟩ <;> repeat' (first | exact trivial | exact rfl | exact Iff.rfl | apply And.intro)
theorem s400 (s : Smp) : PSpec Tryz.prog 400 [.agg [], s.x] (.x (I s.r)) := by
  refine spec_of pMix (O := []) Tryz.func400 (c := bodyOf Tryz.f400) rfl (by kernel_rfl) (by kernel_rfl) Tryz.ntmps400 (res := [.tmp 4]) (by kernel_rfl) ?_
  repeat' ((conv => whnf); first | refine Rng.g ?_ | refine Ob.g ?_ | refine Ob.e ?_ | refine Ob.m ?_ | refine Ob.mk (Nat.le_of_ble_eq_true rfl) ?_ | refine JoinVC.on ?_ | refine Nils.mk (fun h => ?_) ?_ | refine Val.t ?_ | refine Val.d ?_ | refine Mm.mk ?_ | (refine Br.mk (fun h => ?_) (fun h => ?_) <;> first | (exfalso; omega; done) | (exfalso; simp at h; done) | skip))
  repeat refine Mm.mk ?_
  refine EndVC.mk _ rfl _ _ ⟨rfl, rfl⟩ ?_
  refine ⟨[], rfl, rfl, ?_, ?_⟩ <;> repeat' (first | exact trivial | exact rfl | exact Iff.rfl | apply And.intro)
theorem s401 (n : Int) (hn : -1000000000 ≤ n ∧ n ≤ 1000000000) : PSpec Tryz.prog 401 [.agg [], I n] (.x (I (0 - n))) := by
  refine spec_of pMix (O := []) Tryz.func401 (c := bodyOf Tryz.f401) rfl (by kernel_rfl) (by kernel_rfl) Tryz.ntmps401 (res := [.tmp 4]) (by kernel_rfl) ?_
  repeat' ((conv => whnf); first | refine Rng.g ?_ | refine Ob.g ?_ | refine Ob.e ?_ | refine Ob.m ?_ | refine Ob.mk (Nat.le_of_ble_eq_true rfl) ?_ | refine JoinVC.on ?_ | refine Nils.mk (fun h => ?_) ?_ | refine Val.t ?_ | refine Val.d ?_ | refine Mm.mk ?_ | (refine Br.mk (fun h => ?_) (fun h => ?_) <;> first | (exfalso; omega; done) | (exfalso; simp at h; done) | skip))
  repeat refine Mm.mk ?_
  refine EndVC.mk _ rfl _ _ ⟨rfl, rfl⟩ ?_
  refine ⟨[], rfl, rfl, ?_, ?_⟩ <;> repeat' (first | exact trivial | exact rfl | exact Iff.rfl | apply And.intro)
theorem s402 (s : Smp) (hn : -1000000000 ≤ s.l ∧ s.l ≤ 1000000000) : PSpec Tryz.prog 402 [.agg [], s.x] (.x (I (0 - s.l))) := by
  refine spec_of pMix (O := []) Tryz.func402 (c := bodyOf Tryz.f402) rfl (by kernel_rfl) (by kernel_rfl) Tryz.ntmps402 (res := [.tmp 4]) (by kernel_rfl) ?_
  repeat' ((conv => whnf); first | refine Rng.g ?_ | refine Ob.g ?_ | refine Ob.e ?_ | refine Ob.m ?_ | refine Ob.mk (Nat.le_of_ble_eq_true rfl) ?_ | refine JoinVC.on ?_ | refine Nils.mk (fun h => ?_) ?_ | refine Val.t ?_ | refine Val.d ?_ | refine Mm.mk ?_ | (refine Br.mk (fun h => ?_) (fun h => ?_) <;> first | (exfalso; omega; done) | (exfalso; simp at h; done) | skip))
  repeat refine Mm.mk ?_
  refine EndVC.mk _ rfl _ _ ⟨rfl, rfl⟩ ?_
  refine ⟨[], rfl, rfl, ?_, ?_⟩ <;> repeat' (first | exact trivial | exact rfl | exact Iff.rfl | apply And.intro)
/-! ### What is near -/
theorem s177 (i n m : Int) : HSpec Tryz.prog 177 [I i, I n, I m] [] (fun r m' => r = .x (.one (.fn 260 [(0, 0), (2, 0), (1, 0)])) ∧ m' = [some (.box 3 [.int .i64 i]), some (.box 3 [.int .i64 n]), some (.box 3 [.int .i64 m])]) := by
  refine spec_of pMix (O := []) Tryz.func177 (c := bodyOf Tryz.f177) rfl (by kernel_rfl) (by kernel_rfl) Tryz.ntmps177 (res := [.tmp 6]) (by kernel_rfl) ?_
  repeat' ((conv => whnf); first | refine Rng.g ?_ | refine Ob.g ?_ | refine Ob.e ?_ | refine Ob.m ?_ | refine Ob.mk (Nat.le_of_ble_eq_true rfl) ?_ | refine JoinVC.on ?_ | refine Nils.mk (fun h => ?_) ?_ | refine Val.t ?_ | refine Val.d ?_ | refine Mm.mk ?_ | (refine Br.mk (fun h => ?_) (fun h => ?_) <;> first | (exfalso; omega; done) | (exfalso; simp at h; done) | skip))
  repeat refine Mm.mk ?_
  conv => whnf
  refine EndVC.mk _ rfl _ _ (⟨rfl, rfl⟩) ?_
  refine ⟨[some 0, some 1, some 2], rfl, rfl, ?_, ?_⟩ <;> repeat' (first | exact trivial | exact rfl | exact Iff.rfl | apply And.intro)
theorem s245 (a b : Int) : PSpec Tryz.prog 245 [I a, I b] (xP (a > b)) := by
  refine spec_of pMix (O := []) Tryz.func245 (c := bodyOf Tryz.f245) rfl (by kernel_rfl) (by kernel_rfl) Tryz.ntmps245 (res := [.tmp 4]) (by kernel_rfl) ?_
  repeat' ((conv => whnf); first | refine Rng.g ?_ | refine Ob.g ?_ | refine Ob.e ?_ | refine Ob.m ?_ | refine Ob.mk (Nat.le_of_ble_eq_true rfl) ?_ | refine JoinVC.on ?_ | refine Nils.mk (fun h => ?_) ?_ | refine Val.t ?_ | refine Val.d ?_ | refine Mm.mk ?_ | (refine Br.mk (fun h => ?_) (fun h => ?_) <;> first | (exfalso; omega; done) | (exfalso; simp at h; done) | skip))
  repeat refine Mm.mk ?_
  refine EndVC.mk _ rfl _ _ ⟨rfl, rfl⟩ ?_
  refine ⟨[], rfl, rfl, ?_, ?_⟩ <;> repeat' (first | exact trivial | exact rfl | exact Iff.rfl | apply And.intro)
theorem s246 (a b : Int) : PSpec Tryz.prog 246 [I a, I b] (xP (a < b)) := by
  refine spec_of pMix (O := []) Tryz.func246 (c := bodyOf Tryz.f246) rfl (by kernel_rfl) (by kernel_rfl) Tryz.ntmps246 (res := [.tmp 4]) (by kernel_rfl) ?_
  repeat' ((conv => whnf); first | refine Rng.g ?_ | refine Ob.g ?_ | refine Ob.e ?_ | refine Ob.m ?_ | refine Ob.mk (Nat.le_of_ble_eq_true rfl) ?_ | refine JoinVC.on ?_ | refine Nils.mk (fun h => ?_) ?_ | refine Val.t ?_ | refine Val.d ?_ | refine Mm.mk ?_ | (refine Br.mk (fun h => ?_) (fun h => ?_) <;> first | (exfalso; omega; done) | (exfalso; simp at h; done) | skip))
  repeat refine Mm.mk ?_
  refine EndVC.mk _ rfl _ _ ⟨rfl, rfl⟩ ?_
  refine ⟨[], rfl, rfl, ?_, ?_⟩ <;> repeat' (first | exact trivial | exact rfl | exact Iff.rfl | apply And.intro)
end Go.Sx
