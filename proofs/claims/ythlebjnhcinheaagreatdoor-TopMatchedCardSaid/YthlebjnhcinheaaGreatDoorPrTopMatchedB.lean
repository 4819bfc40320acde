import Derived.Test.YthlebjnhcinheaaGreatDoorPrTopMatchedA
import Derived.Shelf.Strings.SlTrimAscii
namespace Go.Sx
open Go Go.Proofs
set_option maxRecDepth 10000
set_option maxHeartbeats 8000000
/-! ### The usual order -/
theorem s352 (x : Int) : PSpec Tryz.prog 352 [I x] (xP (x ≠ x)) := by
  refine spec_of pMix (O := []) Tryz.func352 (c := bodyOf Tryz.f352) rfl (by kernel_rfl) (by kernel_rfl) Tryz.ntmps352 (res := [.tmp 2]) (by kernel_rfl) ?_
  repeat' ((conv => whnf); first | refine Rng.g ?_ | refine Ob.g ?_ | refine Ob.e ?_ | refine Ob.m ?_ | refine Ob.mk (Nat.le_of_ble_eq_true rfl) ?_ | refine JoinVC.on ?_ | refine Nils.mk (fun h => ?_) ?_ | refine Val.t ?_ | refine Val.d ?_ | refine Mm.mk ?_ | (refine Br.mk (fun h => ?_) (fun h => ?_) <;> first | (exfalso; omega; done) | (exfalso; simp at h; done) | skip))
  repeat refine Mm.mk ?_
  refine EndVC.mk _ rfl _ _ ⟨rfl, rfl⟩ ?_
  refine ⟨[], rfl, rfl, ?_, ?_⟩ <;> repeat' (first | exact trivial | exact rfl | exact Iff.rfl | apply And.intro)
theorem s353 (x : Int) : PSpec Tryz.prog 353 [I x] (xP (x ≠ x)) := by
  refine spec_of pMix (O := []) Tryz.func353 (c := bodyOf Tryz.f353) rfl (by kernel_rfl) (by kernel_rfl) Tryz.ntmps353 (res := [.tmp 2]) (by kernel_rfl) ?_
  repeat' ((conv => whnf); first | refine Rng.g ?_ | refine Ob.g ?_ | refine Ob.e ?_ | refine Ob.m ?_ | refine Ob.mk (Nat.le_of_ble_eq_true rfl) ?_ | refine JoinVC.on ?_ | refine Nils.mk (fun h => ?_) ?_ | refine Val.t ?_ | refine Val.d ?_ | refine Mm.mk ?_ | (refine Br.mk (fun h => ?_) (fun h => ?_) <;> first | (exfalso; omega; done) | (exfalso; simp at h; done) | skip))
  repeat refine Mm.mk ?_
  refine EndVC.mk _ rfl _ _ ⟨rfl, rfl⟩ ?_
  refine ⟨[], rfl, rfl, ?_, ?_⟩ <;> repeat' (first | exact trivial | exact rfl | exact Iff.rfl | apply And.intro)
theorem s331 (x y : Int) : PSpec Tryz.prog 331 [I x, I y] (.x (I (cmpI x y))) := by
  by_cases h1 : x < y
  · have e : cmpI x y = -1 := if_pos h1
    rw [e]
    refine spec_of pMix (O := []) Tryz.func331 (c := bodyOf Tryz.f331) rfl (by kernel_rfl) (by kernel_rfl) Tryz.ntmps331 (res := [.tmp 4]) (by kernel_rfl) ?_
    repeat' ((conv => whnf); first | refine Rng.g ?_ | refine Ob.g ?_ | refine Ob.e ?_ | refine Ob.m ?_ | refine Ob.mk (Nat.le_of_ble_eq_true rfl) ?_ | refine JoinVC.on ?_ | refine Nils.mk (fun h => ?_) ?_ | refine Val.t ?_ | refine Val.d ?_ | refine Mm.mk ?_ | refine CallVC.pure rfl (s352 x) ?_ | refine CallVC.pure rfl (s352 y) ?_ | refine CallVC0.pure rfl (s352 x) ?_ | refine CallVC0.pure rfl (s352 y) ?_ | (refine Br.mk (fun h => ?_) (fun h => ?_) <;> first | (exfalso; omega; done) | (exfalso; simp at h; done) | skip))
    all_goals
      repeat refine Mm.mk ?_
      refine EndVC.mk _ rfl _ _ ⟨rfl, rfl⟩ ?_
      refine ⟨[], rfl, rfl, ?_, ?_⟩ <;> repeat' (first | exact trivial | exact rfl | exact Iff.rfl | apply And.intro)
  · by_cases h2 : y < x
    · have e : cmpI x y = 1 := (if_neg h1).trans (if_pos h2)
      rw [e]
      refine spec_of pMix (O := []) Tryz.func331 (c := bodyOf Tryz.f331) rfl (by kernel_rfl) (by kernel_rfl) Tryz.ntmps331 (res := [.tmp 4]) (by kernel_rfl) ?_
      repeat' ((conv => whnf); first | refine Rng.g ?_ | refine Ob.g ?_ | refine Ob.e ?_ | refine Ob.m ?_ | refine Ob.mk (Nat.le_of_ble_eq_true rfl) ?_ | refine JoinVC.on ?_ | refine Nils.mk (fun h => ?_) ?_ | refine Val.t ?_ | refine Val.d ?_ | refine Mm.mk ?_ | refine CallVC.pure rfl (s352 x) ?_ | refine CallVC.pure rfl (s352 y) ?_ | refine CallVC0.pure rfl (s352 x) ?_ | refine CallVC0.pure rfl (s352 y) ?_ | (refine Br.mk (fun h => ?_) (fun h => ?_) <;> first | (exfalso; omega; done) | (exfalso; simp at h; done) | skip))
      all_goals
        repeat refine Mm.mk ?_
        refine EndVC.mk _ rfl _ _ ⟨rfl, rfl⟩ ?_
        refine ⟨[], rfl, rfl, ?_, ?_⟩ <;> repeat' (first | exact trivial | exact rfl | exact Iff.rfl | apply And.intro)
    · have e : cmpI x y = 0 := (if_neg h1).trans (if_neg h2)
      rw [e]
      refine spec_of pMix (O := []) Tryz.func331 (c := bodyOf Tryz.f331) rfl (by kernel_rfl) (by kernel_rfl) Tryz.ntmps331 (res := [.tmp 4]) (by kernel_rfl) ?_
      repeat' ((conv => whnf); first | refine Rng.g ?_ | refine Ob.g ?_ | refine Ob.e ?_ | refine Ob.m ?_ | refine Ob.mk (Nat.le_of_ble_eq_true rfl) ?_ | refine JoinVC.on ?_ | refine Nils.mk (fun h => ?_) ?_ | refine Val.t ?_ | refine Val.d ?_ | refine Mm.mk ?_ | refine CallVC.pure rfl (s352 x) ?_ | refine CallVC.pure rfl (s352 y) ?_ | refine CallVC0.pure rfl (s352 x) ?_ | refine CallVC0.pure rfl (s352 y) ?_ | (refine Br.mk (fun h => ?_) (fun h => ?_) <;> first | (exfalso; omega; done) | (exfalso; simp at h; done) | skip))
      all_goals
        repeat refine Mm.mk ?_
        refine EndVC.mk _ rfl _ _ ⟨rfl, rfl⟩ ?_
        refine ⟨[], rfl, rfl, ?_, ?_⟩ <;> repeat' (first | exact trivial | exact rfl | exact Iff.rfl | apply And.intro)
theorem s332 (x y : Int) : PSpec Tryz.prog 332 [I x, I y] (.x (I (cmpI x y))) := by
  by_cases h1 : x < y
  · have e : cmpI x y = -1 := if_pos h1
    rw [e]
    refine spec_of pMix (O := []) Tryz.func332 (c := bodyOf Tryz.f332) rfl (by kernel_rfl) (by kernel_rfl) Tryz.ntmps332 (res := [.tmp 4]) (by kernel_rfl) ?_
    repeat' ((conv => whnf); first | refine Rng.g ?_ | refine Ob.g ?_ | refine Ob.e ?_ | refine Ob.m ?_ | refine Ob.mk (Nat.le_of_ble_eq_true rfl) ?_ | refine JoinVC.on ?_ | refine Nils.mk (fun h => ?_) ?_ | refine Val.t ?_ | refine Val.d ?_ | refine Mm.mk ?_ | refine CallVC.pure rfl (s353 x) ?_ | refine CallVC.pure rfl (s353 y) ?_ | refine CallVC0.pure rfl (s353 x) ?_ | refine CallVC0.pure rfl (s353 y) ?_ | (refine Br.mk (fun h => ?_) (fun h => ?_) <;> first | (exfalso; omega; done) | (exfalso; simp at h; done) | skip))
    all_goals
      repeat refine Mm.mk ?_
      refine EndVC.mk _ rfl _ _ ⟨rfl, rfl⟩ ?_
      refine ⟨[], rfl, rfl, ?_, ?_⟩ <;> repeat' (first | exact trivial | exact rfl | exact Iff.rfl | apply And.intro)
  · by_cases h2 : y < x
    · have e : cmpI x y = 1 := (if_neg h1).trans (if_pos h2)
      rw [e]
      refine spec_of pMix (O := []) Tryz.func332 (c := bodyOf Tryz.f332) rfl (by kernel_rfl) (by kernel_rfl) Tryz.ntmps332 (res := [.tmp 4]) (by kernel_rfl) ?_
      repeat' ((conv => whnf); first | refine Rng.g ?_ | refine Ob.g ?_ | refine Ob.e ?_ | refine Ob.m ?_ | refine Ob.mk (Nat.le_of_ble_eq_true rfl) ?_ | refine JoinVC.on ?_ | refine Nils.mk (fun h => ?_) ?_ | refine Val.t ?_ | refine Val.d ?_ | refine Mm.mk ?_ | refine CallVC.pure rfl (s353 x) ?_ | refine CallVC.pure rfl (s353 y) ?_ | refine CallVC0.pure rfl (s353 x) ?_ | refine CallVC0.pure rfl (s353 y) ?_ | (refine Br.mk (fun h => ?_) (fun h => ?_) <;> first | (exfalso; omega; done) | (exfalso; simp at h; done) | skip))
      all_goals
        repeat refine Mm.mk ?_
        refine EndVC.mk _ rfl _ _ ⟨rfl, rfl⟩ ?_
        refine ⟨[], rfl, rfl, ?_, ?_⟩ <;> repeat' (first | exact trivial | exact rfl | exact Iff.rfl | apply And.intro)
    · have e : cmpI x y = 0 := (if_neg h1).trans (if_neg h2)
      rw [e]
      refine spec_of pMix (O := []) Tryz.func332 (c := bodyOf Tryz.f332) rfl (by kernel_rfl) (by kernel_rfl) Tryz.ntmps332 (res := [.tmp 4]) (by kernel_rfl) ?_
      repeat' ((conv => whnf); first | refine Rng.g ?_ | refine Ob.g ?_ | refine Ob.e ?_ | refine Ob.m ?_ | refine Ob.mk (Nat.le_of_ble_eq_true rfl) ?_ | refine JoinVC.on ?_ | refine Nils.mk (fun h => ?_) ?_ | refine Val.t ?_ | refine Val.d ?_ | refine Mm.mk ?_ | refine CallVC.pure rfl (s353 x) ?_ | refine CallVC.pure rfl (s353 y) ?_ | refine CallVC0.pure rfl (s353 x) ?_ | refine CallVC0.pure rfl (s353 y) ?_ | (refine Br.mk (fun h => ?_) (fun h => ?_) <;> first | (exfalso; omega; done) | (exfalso; simp at h; done) | skip))
      all_goals
        repeat refine Mm.mk ?_
        refine EndVC.mk _ rfl _ _ ⟨rfl, rfl⟩ ?_
        refine ⟨[], rfl, rfl, ?_, ?_⟩ <;> repeat' (first | exact trivial | exact rfl | exact Iff.rfl | apply And.intro)
theorem s330 (a b : Int) : PSpec Tryz.prog 330 [.one (.lst true [.int .i64] [[.int a], [.int b]])] (.x (I (if a ≠ 0 then a else b))) := by
  have g0 : rI [[Cell.int a], [Cell.int b]] (Int.toNat 0) 0 = a := rfl
  have g1 : rI [[Cell.int a], [Cell.int b]] (Int.toNat (0 + 1)) 0 = b := rfl
  by_cases h1 : a = 0
  · rw [if_neg (fun h => h h1)]
    refine spec_of pMix (O := []) Tryz.func330 (c := bodyOf Tryz.f330) rfl (by kernel_rfl) (by kernel_rfl) Tryz.ntmps330 (res := [.tmp 2]) (by kernel_rfl) ?_
    repeat' ((conv => whnf); first | refine Rng.g ?_ | refine Ob.g ?_ | refine Ob.e ?_ | refine Ob.m ?_ | refine Ob.mk (Nat.le_of_ble_eq_true rfl) ?_ | refine JoinVC.on ?_ | refine Nils.mk (fun h => ?_) ?_ | refine Val.t ?_ | refine Val.d ?_ | refine Mm.mk ?_ | (refine Br.mk (fun h => ?_) (fun h => ?_) <;> first | (exfalso; omega; done) | (exfalso; simp at h; done) | skip))
    refine LoopVC.un 4 ?_
    repeat' ((conv => whnf); first | rw [g0] | rw [g1] | refine Rng.g ?_ | refine Ob.g ?_ | refine Ob.e ?_ | refine Ob.m ?_ | refine Ob.mk (Nat.le_of_ble_eq_true rfl) ?_ | refine JoinVC.on ?_ | refine Nils.mk (fun h => ?_) ?_ | refine Val.t ?_ | refine Val.d ?_ | refine Mm.mk ?_ | (refine Br.mk (fun h => ?_) (fun h => ?_) <;> first | (exfalso; omega; done) | (exfalso; simp at h; done) | skip))
    all_goals
      repeat refine Mm.mk ?_
      refine EndVC.mk _ rfl _ _ ⟨rfl, rfl⟩ ?_
      refine ⟨[], rfl, rfl, ?_, ?_⟩ <;> repeat' (first | exact trivial | exact rfl | exact Iff.rfl | apply And.intro)
    all_goals omega
  · rw [if_pos h1]
    refine spec_of pMix (O := []) Tryz.func330 (c := bodyOf Tryz.f330) rfl (by kernel_rfl) (by kernel_rfl) Tryz.ntmps330 (res := [.tmp 2]) (by kernel_rfl) ?_
    repeat' ((conv => whnf); first | refine Rng.g ?_ | refine Ob.g ?_ | refine Ob.e ?_ | refine Ob.m ?_ | refine Ob.mk (Nat.le_of_ble_eq_true rfl) ?_ | refine JoinVC.on ?_ | refine Nils.mk (fun h => ?_) ?_ | refine Val.t ?_ | refine Val.d ?_ | refine Mm.mk ?_ | (refine Br.mk (fun h => ?_) (fun h => ?_) <;> first | (exfalso; omega; done) | (exfalso; simp at h; done) | skip))
    refine LoopVC.un 4 ?_
    repeat' ((conv => whnf); first | rw [g0] | rw [g1] | refine Rng.g ?_ | refine Ob.g ?_ | refine Ob.e ?_ | refine Ob.m ?_ | refine Ob.mk (Nat.le_of_ble_eq_true rfl) ?_ | refine JoinVC.on ?_ | refine Nils.mk (fun h => ?_) ?_ | refine Val.t ?_ | refine Val.d ?_ | refine Mm.mk ?_ | (refine Br.mk (fun h => ?_) (fun h => ?_) <;> first | (exfalso; omega; done) | (exfalso; simp at h; done) | skip))
    all_goals
      repeat refine Mm.mk ?_
      refine EndVC.mk _ rfl _ _ ⟨rfl, rfl⟩ ?_
      refine ⟨[], rfl, rfl, ?_, ?_⟩ <;> repeat' (first | exact trivial | exact rfl | exact Iff.rfl | apply And.intro)
theorem s298 (f : Fmt) (l : List Sng) (a b : Int) (ha : 0 ≤ a ∧ a < l.length) (hb : 0 ≤ b ∧ b < l.length) : HSpec Tryz.prog 298 [.one (.ptr 0 0), I a, I b] [bPl f l] (fun r m' => r = .x (I (usF l a b)) ∧ m' = [some (bPl f l)]) := by
  have lp := sngA_len l
  have c1 : rI (sngA l) a.toNat (0 + (0 + 1 + 1)) = (l.getD a.toNat g0).least := sngA_2 l _
  have c2 : rI (sngA l) b.toNat (0 + (0 + 1 + 1)) = (l.getD b.toNat g0).least := sngA_2 l _
  have k1 := s331 (l.getD b.toNat g0).least (l.getD a.toNat g0).least
  have k2 := s332 a b
  have k3 := s330 (cmpI (l.getD b.toNat g0).least (l.getD a.toNat g0).least) (cmpI a b)
  refine spec_of pMix (O := [(1, ([], [⟨0, [], []⟩, ⟨1, [], []⟩, ⟨2, [], []⟩, ⟨3, [], []⟩, ⟨4, [], []⟩, ⟨5, [], []⟩, ⟨6, [], []⟩, ⟨7, [], []⟩, ⟨8, [], []⟩, ⟨9, [], []⟩, ⟨10, [], []⟩, ⟨11, [], []⟩, ⟨12, [], []⟩, ⟨13, [], []⟩, ⟨14, [], []⟩, ⟨15, [], []⟩, ⟨17, [], []⟩, ⟨18, [], []⟩, ⟨16, [17, 18], []⟩, ⟨19, [], [20]⟩, ⟨20, [], []⟩, ⟨21, [], []⟩, ⟨22, [], []⟩]))]) Tryz.func298 (c := bodyOf Tryz.f298) rfl (by kernel_rfl) (by kernel_rfl) Tryz.ntmps298 (res := [.tmp 6]) (by kernel_rfl) ?_
  repeat' ((conv => whnf); first | rw [c1] | rw [c2] | refine Rng.g ?_ | refine Ob.g ?_ | refine Ob.e ?_ | refine Ob.m ?_ | refine Ob.mk (Nat.le_of_ble_eq_true rfl) ?_ | refine JoinVC.on ?_ | refine Nils.mk (fun h => ?_) ?_ | refine Val.t ?_ | refine Val.d ?_ | refine Mm.mk ?_ | refine CallVC.pure rfl (k1) ?_ | refine CallVC.pure rfl (k2) ?_ | refine CallVC.pure rfl (k3) ?_ | refine CallVC0.pure rfl (k1) ?_ | refine CallVC0.pure rfl (k2) ?_ | refine CallVC0.pure rfl (k3) ?_ | (refine Br.mk (fun h => ?_) (fun h => ?_) <;> first | (exfalso; omega; done) | (exfalso; simp at h; done) | skip))
  repeat refine Mm.mk ?_
  refine EndVC.mk _ rfl _ _ ⟨rfl, rfl⟩ ?_
  refine ⟨[some 0], rfl, rfl, ?_, ?_⟩ <;> repeat' (first | exact trivial | exact rfl | exact Iff.rfl | apply And.intro)
@[reducible] def rowOd (O : List Int) : Blk := .row 3 false [.int .i64] (i64s O)
theorem i64s_upd' (xs : List Int) (i : Nat) (v : Int) (h : i < xs.length) : updRow (i64s xs) i 0 [.int v] = i64s (xs.set i v) := by
  unfold updRow i64s
  rw [List.map_set]
  congr 1
  simp [List.getD_eq_getElem?_getD, h, setAll]
/-- All of them are numbers of tracks. -/
def InR (O : List Int) (m : Nat) : Prop := ∀ i, i < O.length → 0 ≤ O.getD i 0 ∧ O.getD i 0 < m
theorem InR.swp {O : List Int} {m : Nat} (h : InR O m) {j : Nat} (hj : j + 1 < O.length) : InR (Go.Sx.swp O j) m := fun i hi => by
  rw [swp_len] at hi
  rw [swp_get O hj]
  exact h _ (sg_lt hj hi)
theorem InR.ins {lt : Int → Int → Bool} {m : Nat} : ∀ (j : Nat) {O : List Int}, InR O m → j < O.length → InR (Go.Sx.ins lt O j) m
  | 0, O, h, _ => h
  | j + 1, O, h, hj => by
    unfold Go.Sx.ins
    split
    · exact InR.ins j (h.swp hj) (by rw [swp_len]; omega)
    · exact h
theorem InR.isr {lt : Int → Int → Bool} {m : Nat} {O : List Int} (h : InR O m) : ∀ k, k < O.length ∨ k = 0 → InR (Go.Sx.isr lt O k) m
  | 0, _ => h
  | k + 1, hk => by
    unfold Go.Sx.isr
    exact InR.ins (k + 1) (h.isr k (by omega)) (by rw [isr_len]; omega)
theorem s342 (f : Fmt) (l : List Sng) (O : List Int) (hO : InR O l.length) (hl : O.length ≤ 1000000) : HSpec Tryz.prog 342 [.one (.own 0), I 0, I (O.length : Int), .one (.bnd 298 false [.ptr 1 0])] [rowOd O, bPl f l] (fun r m' => r = .tup [] ∧ m' = [some (rowOd (isr (usB l) O (O.length - 1))), some (bPl f l)]) := by
  have lo := i64s_len O
  refine spec_of pMix (O := [(6, ([], [⟨0, [], []⟩, ⟨1, [], []⟩, ⟨2, [], []⟩, ⟨3, [], []⟩, ⟨4, [], []⟩, ⟨5, [], []⟩, ⟨6, [], []⟩, ⟨7, [], []⟩, ⟨8, [], []⟩, ⟨9, [], []⟩, ⟨10, [], []⟩, ⟨11, [], []⟩, ⟨12, [], []⟩, ⟨13, [], []⟩, ⟨14, [], []⟩, ⟨15, [2, 3, 4], []⟩, ⟨16, [], []⟩, ⟨17, [], []⟩]))]) Tryz.func342 (c := bodyOf Tryz.f342) rfl (by kernel_rfl) (by kernel_rfl) Tryz.ntmps342 (res := []) (by kernel_rfl) ?_
  repeat' ((conv => whnf); first | refine Rng.g ?_ | refine Ob.g ?_ | refine Ob.e ?_ | refine Ob.m ?_ | refine Ob.mk (Nat.le_of_ble_eq_true rfl) ?_ | refine JoinVC.on ?_ | refine Nils.mk (fun h => ?_) ?_ | refine Val.t ?_ | refine Val.d ?_ | refine Mm.mk ?_ | (refine Br.mk (fun h => ?_) (fun h => ?_) <;> first | (exfalso; omega; done) | (exfalso; simp at h; done) | skip))
  refine LoopVC.mk (fun n st => ∃ (k : Nat), (k < O.length ∨ k = 0) ∧ n = O.length - k ∧ st = ⟨2, envA 53 [(0, .x (.one (.own 0))), (1, .x (I 0)), (2, .x (I (O.length : Int))), (3, .x (.one (.bnd 298 false [.ptr 1 0]))), (8, .int .i64 ((k : Int) + 1))], [some (rowOd (isr (usB l) O k)), some (bPl f l)]⟩) _ _ ⟨0, .inr rfl, rfl, rfl⟩ ?_ ?_
  · refine ⟨[some 0, some 1], rfl, rfl, ?_, ?_⟩ <;> repeat' (first | exact trivial | exact rfl | exact Iff.rfl | apply And.intro)
  rintro n _ ⟨k, hk, hn, rfl⟩
  by_cases hk' : k + 1 < O.length
  · obtain ⟨Z, hZ⟩ : ∃ Z, isr (usB l) O (k + 1) = Z := ⟨_, rfl⟩
    have hZ' : ins (usB l) (isr (usB l) O k) (k + 1) = Z := hZ
    repeat' ((conv => whnf); first | refine Rng.g ?_ | refine Ob.g ?_ | refine Ob.e ?_ | refine Ob.m ?_ | refine Ob.mk (Nat.le_of_ble_eq_true rfl) ?_ | refine JoinVC.on ?_ | refine Nils.mk (fun h => ?_) ?_ | refine Val.t ?_ | refine Val.d ?_ | refine Mm.mk ?_ | (refine Br.mk (fun h => ?_) (fun h => ?_) <;> first | (exfalso; omega; done) | (exfalso; simp at h; done) | skip))
    refine LoopVC.mk (fun n st => ∃ (j : Nat) (V : List Int), j ≤ k + 1 ∧ n = j ∧ V.length = O.length ∧ InR V l.length ∧ ins (usB l) V j = Z ∧ st = ⟨2, envA 53 [(0, .x (.one (.own 0))), (1, .x (I 0)), (2, .x (I (O.length : Int))), (3, .x (.one (.bnd 298 false [.ptr 1 0]))), (8, .int .i64 ((k : Int) + 1)), (9, .int .i64 (j : Int))], [some (rowOd V), some (bPl f l)]⟩) _ _ ⟨k + 1, isr (usB l) O k, Nat.le_refl _, rfl, isr_len _ _ _, hO.isr k hk, hZ', rfl⟩ ?_ ?_
    · refine ⟨[some 0, some 1], rfl, rfl, ?_, ?_⟩ <;> repeat' (first | exact trivial | exact rfl | exact Iff.rfl | apply And.intro)
    rintro n _ ⟨j, V, hj, hn, lV, hV, hi, rfl⟩
    have lv := i64s_len V
    cases j with
    | zero =>
      have e : V = Z := hi
      repeat' ((conv => whnf); first | refine Rng.g ?_ | refine Ob.g ?_ | refine Ob.e ?_ | refine Ob.m ?_ | refine Ob.mk (Nat.le_of_ble_eq_true rfl) ?_ | refine JoinVC.on ?_ | refine Nils.mk (fun h => ?_) ?_ | refine Val.t ?_ | refine Val.d ?_ | refine Mm.mk ?_ | (refine Br.mk (fun h => ?_) (fun h => ?_) <;> first | (exfalso; omega; done) | (exfalso; simp at h; done) | skip))
      refine Back.mk (O.length - (k + 1)) _ (by omega) ⟨k + 1, .inl hk', rfl, rfl⟩ ?_
      rw [hZ, ← e]
      refine ⟨[some 0, some 1], rfl, rfl, ?_, ?_⟩ <;> repeat' (first | exact trivial | exact rfl | exact Iff.rfl | apply And.intro)
    | succ j =>
      have g1 : rI (i64s V) ((j + 1 : Nat) : Int).toNat 0 = V.getD (j + 1) 0 := by rw [Int.toNat_natCast]; exact i64s_get V _
      have g2 : rI (i64s V) (((j + 1 : Nat) : Int) - 1).toNat 0 = V.getD j 0 := by rw [show (((j + 1 : Nat) : Int) - 1).toNat = j by omega]; exact i64s_get V _
      have h1 := hV (j + 1) (by omega)
      have h2 := hV j (by omega)
      have u1 : updRow (i64s V) ((j + 1 : Nat) : Int).toNat 0 [Cell.int (V.getD j 0)] = i64s (V.set (j + 1) (V.getD j 0)) := by rw [Int.toNat_natCast]; exact i64s_upd' _ _ _ (by omega)
      have u2 : updRow (i64s (V.set (j + 1) (V.getD j 0))) (((j + 1 : Nat) : Int) - 1).toNat 0 [Cell.int (V.getD (j + 1) 0)] = i64s (swp V j) := by
        rw [show (((j + 1 : Nat) : Int) - 1).toNat = j by omega]
        exact i64s_upd' _ _ _ (by rw [List.length_set]; omega)
      have lv2 : (i64s (V.set (j + 1) (V.getD j 0))).length = V.length := by rw [i64s_len, List.length_set]
      unfold ins at hi
      repeat' ((conv => whnf); first | rw [g1] | rw [g2] | refine Rng.g ?_ | refine Ob.g ?_ | refine Ob.e ?_ | refine Ob.m ?_ | refine Ob.mk (Nat.le_of_ble_eq_true rfl) ?_ | refine JoinVC.on ?_ | refine Nils.mk (fun h => ?_) ?_ | refine Val.t ?_ | refine Val.d ?_ | refine Mm.mk ?_ | (refine Br.mk (fun h => ?_) (fun h => ?_) <;> first | (exfalso; omega; done) | (exfalso; simp at h; done) | skip))
      conv => whnf
      refine CallVC.mk [1] _ _ _ rfl rfl rfl (s298 f l (V.getD (j + 1) 0) (V.getD j 0) h1 h2) (fun r m' h' => ?_)
      obtain ⟨rfl, rfl⟩ := h'
      conv => whnf
      by_cases hlt : usF l (V.getD (j + 1) 0) (V.getD j 0) < 0
      · rw [if_pos (show usB l (V.getD (j + 1) 0) (V.getD j 0) = true from decide_eq_true hlt)] at hi
        repeat' ((conv => whnf); first | rw [g1] | rw [g2] | rw [u1] | rw [u2] | refine Rng.g ?_ | refine Ob.g ?_ | refine Ob.e ?_ | refine Ob.m ?_ | refine Ob.mk (Nat.le_of_ble_eq_true rfl) ?_ | refine JoinVC.on ?_ | refine Nils.mk (fun h => ?_) ?_ | refine Val.t ?_ | refine Val.d ?_ | refine Mm.mk ?_ | (refine Br.mk (fun h => ?_) (fun h => ?_) <;> first | (exfalso; omega; done) | (exfalso; simp at h; done) | skip))
        refine Back.mk j _ (by omega) ⟨j, swp V j, by omega, rfl, by rw [swp_len]; exact lV, hV.swp (by omega), hi, rfl⟩ ?_
        refine ⟨[some 0, some 1], rfl, rfl, ?_, ?_⟩ <;> repeat' (first | exact trivial | exact rfl | exact Iff.rfl | apply And.intro)
        all_goals omega
      · rw [if_neg (show ¬ usB l (V.getD (j + 1) 0) (V.getD j 0) = true from fun h => hlt (of_decide_eq_true h))] at hi
        repeat' ((conv => whnf); first | rw [g1] | rw [g2] | refine Rng.g ?_ | refine Ob.g ?_ | refine Ob.e ?_ | refine Ob.m ?_ | refine Ob.mk (Nat.le_of_ble_eq_true rfl) ?_ | refine JoinVC.on ?_ | refine Nils.mk (fun h => ?_) ?_ | refine Val.t ?_ | refine Val.d ?_ | refine Mm.mk ?_ | (refine Br.mk (fun h => ?_) (fun h => ?_) <;> first | (exfalso; omega; done) | (exfalso; simp at h; done) | skip))
        refine Back.mk (O.length - (k + 1)) _ (by omega) ⟨k + 1, .inl hk', rfl, rfl⟩ ?_
        rw [hZ, ← hi]
        refine ⟨[some 0, some 1], rfl, rfl, ?_, ?_⟩ <;> repeat' (first | exact trivial | exact rfl | exact Iff.rfl | apply And.intro)
  · have ek : k = O.length - 1 := by omega
    subst ek
    repeat' ((conv => whnf); first | refine Rng.g ?_ | refine Ob.g ?_ | refine Ob.e ?_ | refine Ob.m ?_ | refine Ob.mk (Nat.le_of_ble_eq_true rfl) ?_ | refine JoinVC.on ?_ | refine Nils.mk (fun h => ?_) ?_ | refine Val.t ?_ | refine Val.d ?_ | refine Mm.mk ?_ | (refine Br.mk (fun h => ?_) (fun h => ?_) <;> first | (exfalso; omega; done) | (exfalso; simp at h; done) | skip))
    repeat refine Mm.mk ?_
    refine EndVC.mk _ rfl _ _ ⟨rfl, rfl⟩ ?_
    refine ⟨[some 0, some 1], rfl, rfl, ?_, ?_⟩ <;> repeat' (first | exact trivial | exact rfl | exact Iff.rfl | apply And.intro)
theorem rngU8 (x : UInt8) : inR .i64 (x.toNat : Int) := by
  have := x.toNat_lt
  simp only [inR]
  omega
theorem rngU8' (x : UInt8) : inR .i64 (0 + (x.toNat : Int)) := by
  have := x.toNat_lt
  simp only [inR]
  omega
/-- The number of bits is a number. -/
theorem s351 (n : Int) (hn : 0 ≤ n ∧ n ≤ 12) : HSpec Tryz.prog 351 [.one (.int .u64 n)] [] (fun r m' => ∃ v, r = .x (I v) ∧ m' = []) := by
  have hc : n = 0 ∨ n = 1 ∨ n = 2 ∨ n = 3 ∨ n = 4 ∨ n = 5 ∨ n = 6 ∨ n = 7 ∨ n = 8 ∨ n = 9 ∨ n = 10 ∨ n = 11 ∨ n = 12 := by omega
  rcases hc with rfl | rfl | rfl | rfl | rfl | rfl | rfl | rfl | rfl | rfl | rfl | rfl | rfl
  all_goals
    refine spec_of pMix (O := []) Tryz.func351 (c := bodyOf Tryz.f351) rfl (by kernel_rfl) (by kernel_rfl) Tryz.ntmps351 (res := [.tmp 2]) (by kernel_rfl) ?_
    repeat' ((conv => whnf); first | refine Rng.g ?_ | refine Ob.g ?_ | refine Ob.e ?_ | refine Ob.m ?_ | refine Ob.mk (Nat.le_of_ble_eq_true rfl) ?_ | refine JoinVC.on ?_ | refine Nils.mk (fun h => ?_) ?_ | refine Val.t ?_ | refine Val.d ?_ | refine Mm.mk ?_ | (refine Br.mk (fun h => ?_) (fun h => ?_) <;> first | (exfalso; omega; done) | (exfalso; simp at h; done) | skip))
    refine Rng.ok (rngU8 _) ?_
    repeat' ((conv => whnf); first | refine Rng.g ?_ | refine Ob.g ?_ | refine Ob.e ?_ | refine Ob.m ?_ | refine Ob.mk (Nat.le_of_ble_eq_true rfl) ?_ | refine JoinVC.on ?_ | refine Nils.mk (fun h => ?_) ?_ | refine Val.t ?_ | refine Val.d ?_ | refine Mm.mk ?_ | (refine Br.mk (fun h => ?_) (fun h => ?_) <;> first | (exfalso; omega; done) | (exfalso; simp at h; done) | skip))
    refine Rng.ok (rngU8' _) ?_
    repeat' ((conv => whnf); first | refine Rng.g ?_ | refine Ob.g ?_ | refine Ob.e ?_ | refine Ob.m ?_ | refine Ob.mk (Nat.le_of_ble_eq_true rfl) ?_ | refine JoinVC.on ?_ | refine Nils.mk (fun h => ?_) ?_ | refine Val.t ?_ | refine Val.d ?_ | refine Mm.mk ?_ | (refine Br.mk (fun h => ?_) (fun h => ?_) <;> first | (exfalso; omega; done) | (exfalso; simp at h; done) | skip))
    conv => whnf
    exact EndVC.run _ rfl ⟨_, rfl, rfl⟩
theorem s329 (n : Int) (hn : 0 ≤ n ∧ n ≤ 12) : HSpec Tryz.prog 329 [.one (.int .u64 n)] [] (fun r m' => ∃ v, r = .x (I v) ∧ m' = []) := by
  refine spec_of pMix (O := []) Tryz.func329 (c := bodyOf Tryz.f329) rfl (by kernel_rfl) (by kernel_rfl) Tryz.ntmps329 (res := [.tmp 2]) (by kernel_rfl) ?_
  repeat' ((conv => whnf); first | refine Rng.g ?_ | refine Ob.g ?_ | refine Ob.e ?_ | refine Ob.m ?_ | refine Ob.mk (Nat.le_of_ble_eq_true rfl) ?_ | refine JoinVC.on ?_ | refine Nils.mk (fun h => ?_) ?_ | refine Val.t ?_ | refine Val.d ?_ | refine Mm.mk ?_ | (refine Br.mk (fun h => ?_) (fun h => ?_) <;> first | (exfalso; omega; done) | (exfalso; simp at h; done) | skip))
  conv => whnf
  refine CallVC.mk [] _ _ _ rfl rfl rfl (s351 n hn) (fun r m' h' => ?_)
  obtain ⟨v, rfl, rfl⟩ := h'
  conv => whnf
  repeat' ((conv => whnf); first | refine Rng.g ?_ | refine Ob.g ?_ | refine Ob.e ?_ | refine Ob.m ?_ | refine Ob.mk (Nat.le_of_ble_eq_true rfl) ?_ | refine JoinVC.on ?_ | refine Nils.mk (fun h => ?_) ?_ | refine Val.t ?_ | refine Val.d ?_ | refine Mm.mk ?_ | (refine Br.mk (fun h => ?_) (fun h => ?_) <;> first | (exfalso; omega; done) | (exfalso; simp at h; done) | skip))
  repeat refine Mm.mk ?_
  conv => whnf
  refine EndVC.mk _ rfl _ _ (⟨v, rfl, rfl⟩) ?_
  refine ⟨[], rfl, rfl, ?_, ?_⟩ <;> repeat' (first | exact trivial | exact rfl | exact Iff.rfl | apply And.intro)
theorem s328 (f : Fmt) (l : List Sng) (O : List Int) (v : Int) (hO : InR O l.length) (hl : O.length ≤ 12) : HSpec Tryz.prog 328 [.one (.own 0), I 0, I (O.length : Int), I v, .one (.bnd 298 false [.ptr 1 0])] [rowOd O, bPl f l] (fun r m' => r = .tup [] ∧ m' = [some (rowOd (isr (usB l) O (O.length - 1))), some (bPl f l)]) := by
  have lo := i64s_len O
  refine spec_of pMix (O := []) Tryz.func328 (c := bodyOf Tryz.f328) rfl (by kernel_rfl) (by kernel_rfl) Tryz.ntmps328 (res := []) (by kernel_rfl) ?_
  repeat' ((conv => whnf); first | refine Rng.g ?_ | refine Ob.g ?_ | refine Ob.e ?_ | refine Ob.m ?_ | refine Ob.mk (Nat.le_of_ble_eq_true rfl) ?_ | refine JoinVC.on ?_ | refine Nils.mk (fun h => ?_) ?_ | refine Val.t ?_ | refine Val.d ?_ | refine Mm.mk ?_ | (refine Br.mk (fun h => ?_) (fun h => ?_) <;> first | (exfalso; omega; done) | (exfalso; simp at h; done) | skip))
  refine LoopVC.un 1 ?_
  repeat' ((conv => whnf); first | refine Rng.g ?_ | refine Ob.g ?_ | refine Ob.e ?_ | refine Ob.m ?_ | refine Ob.mk (Nat.le_of_ble_eq_true rfl) ?_ | refine JoinVC.on ?_ | refine Nils.mk (fun h => ?_) ?_ | refine Val.t ?_ | refine Val.d ?_ | refine Mm.mk ?_ | (refine Br.mk (fun h => ?_) (fun h => ?_) <;> first | (exfalso; omega; done) | (exfalso; simp at h; done) | skip))
  conv => whnf
  refine CallVC.mk [0, 1] _ _ _ rfl rfl rfl (s342 f l O hO (by omega)) (fun r m' h' => ?_)
  obtain ⟨rfl, rfl⟩ := h'
  conv => whnf
  repeat' ((conv => whnf); first | refine Rng.g ?_ | refine Ob.g ?_ | refine Ob.e ?_ | refine Ob.m ?_ | refine Ob.mk (Nat.le_of_ble_eq_true rfl) ?_ | refine JoinVC.on ?_ | refine Nils.mk (fun h => ?_) ?_ | refine Val.t ?_ | refine Val.d ?_ | refine Mm.mk ?_ | (refine Br.mk (fun h => ?_) (fun h => ?_) <;> first | (exfalso; omega; done) | (exfalso; simp at h; done) | skip))
  repeat refine Mm.mk ?_
  refine EndVC.mk _ rfl _ _ ⟨rfl, rfl⟩ ?_
  refine ⟨[some 0, some 1], rfl, rfl, ?_, ?_⟩ <;> repeat' (first | exact trivial | exact rfl | exact Iff.rfl | apply And.intro)
theorem s297 (f : Fmt) (l : List Sng) (O : List Int) (hO : InR O l.length) (hl : O.length ≤ 12) : HSpec Tryz.prog 297 [.one (.own 0), .one (.bnd 298 false [.ptr 1 0])] [rowOd O, bPl f l] (fun r m' => r = .tup [] ∧ m' = [some (rowOd (isr (usB l) O (O.length - 1))), some (bPl f l)]) := by
  have lo := i64s_len O
  refine spec_of pMix (O := []) Tryz.func297 (c := bodyOf Tryz.f297) rfl (by kernel_rfl) (by kernel_rfl) Tryz.ntmps297 (res := []) (by kernel_rfl) ?_
  repeat' ((conv => whnf); first | rw [lo] | refine Rng.g ?_ | refine Ob.g ?_ | refine Ob.e ?_ | refine Ob.m ?_ | refine Ob.mk (Nat.le_of_ble_eq_true rfl) ?_ | refine JoinVC.on ?_ | refine Nils.mk (fun h => ?_) ?_ | refine Val.t ?_ | refine Val.d ?_ | refine Mm.mk ?_ | (refine Br.mk (fun h => ?_) (fun h => ?_) <;> first | (exfalso; omega; done) | (exfalso; simp at h; done) | skip))
  conv => whnf
  refine CallVC.mk [] _ _ _ rfl rfl rfl (s329 (O.length : Int) (by omega)) (fun r m' h' => ?_)
  obtain ⟨v, rfl, rfl⟩ := h'
  conv => whnf
  repeat' ((conv => whnf); first | refine Rng.g ?_ | refine Ob.g ?_ | refine Ob.e ?_ | refine Ob.m ?_ | refine Ob.mk (Nat.le_of_ble_eq_true rfl) ?_ | refine JoinVC.on ?_ | refine Nils.mk (fun h => ?_) ?_ | refine Val.t ?_ | refine Val.d ?_ | refine Mm.mk ?_ | (refine Br.mk (fun h => ?_) (fun h => ?_) <;> first | (exfalso; omega; done) | (exfalso; simp at h; done) | skip))
  conv => whnf
  refine CallVC.mk [0, 1] _ _ _ rfl rfl rfl (s328 f l O v hO hl) (fun r m' h' => ?_)
  obtain ⟨rfl, rfl⟩ := h'
  conv => whnf
  repeat' ((conv => whnf); first | refine Rng.g ?_ | refine Ob.g ?_ | refine Ob.e ?_ | refine Ob.m ?_ | refine Ob.mk (Nat.le_of_ble_eq_true rfl) ?_ | refine JoinVC.on ?_ | refine Nils.mk (fun h => ?_) ?_ | refine Val.t ?_ | refine Val.d ?_ | refine Mm.mk ?_ | (refine Br.mk (fun h => ?_) (fun h => ?_) <;> first | (exfalso; omega; done) | (exfalso; simp at h; done) | skip))
  repeat refine Mm.mk ?_
  refine EndVC.mk _ rfl _ _ ⟨rfl, rfl⟩ ?_
  refine ⟨[some 0, some 1], rfl, rfl, ?_, ?_⟩ <;> repeat' (first | exact trivial | exact rfl | exact Iff.rfl | apply And.intro)
theorem s296 (xs : List Int) (hl : xs.length ≤ 1000000) : HSpec Tryz.prog 296 [.one (.lst true [.int .i64] (i64s xs))] [] (fun r m' => r = .x (.one (.own 0)) ∧ m' = [some (rowOd xs)]) := by
  have lo := i64s_len xs
  refine spec_of pMix (O := []) Tryz.func296 (c := bodyOf Tryz.f296) rfl (by kernel_rfl) (by kernel_rfl) Tryz.ntmps296 (res := [.tmp 2]) (by kernel_rfl) ?_
  repeat' ((conv => whnf); first | refine Rng.g ?_ | refine Ob.g ?_ | refine Ob.e ?_ | refine Ob.m ?_ | refine Ob.mk (Nat.le_of_ble_eq_true rfl) ?_ | refine JoinVC.on ?_ | refine Nils.mk (fun h => ?_) ?_ | refine Val.t ?_ | refine Val.d ?_ | refine Mm.mk ?_ | (refine Br.mk (fun h => ?_) (fun h => ?_) <;> first | (exfalso; omega; done) | (exfalso; simp at h; done) | skip))
  · repeat refine Mm.mk ?_
    refine EndVC.mk _ rfl _ _ ⟨rfl, rfl⟩ ?_
    refine ⟨[none], rfl, rfl, ?_, ?_⟩ <;> repeat' (first | exact trivial | exact rfl | exact Iff.rfl | apply And.intro)
    exact h
  · repeat refine Mm.mk ?_
    refine Ob.mk (by simp only [eb3, List.length_nil]; omega) ?_
    repeat' ((conv => whnf); first | refine Rng.g ?_ | refine Ob.g ?_ | refine Ob.e ?_ | refine Ob.m ?_ | refine Ob.mk (Nat.le_of_ble_eq_true rfl) ?_ | refine JoinVC.on ?_ | refine Nils.mk (fun h => ?_) ?_ | refine Val.t ?_ | refine Val.d ?_ | refine Mm.mk ?_ | (refine Br.mk (fun h => ?_) (fun h => ?_) <;> first | (exfalso; omega; done) | (exfalso; simp at h; done) | skip))
    repeat refine Mm.mk ?_
    refine EndVC.mk _ rfl _ _ ⟨rfl, rfl⟩ ?_
    refine ⟨[some 1], rfl, rfl, ?_, ?_⟩ <;> repeat' (first | exact trivial | exact rfl | exact Iff.rfl | apply And.intro)
theorem spanL_nn (n : Nat) : InR (spanL 0 n) n := fun i hi => (span_idx n).rng i (by rw [spanL_len] at hi; exact hi)
theorem s231 (n : Nat) (hn : n ≤ 100000) : HSpec Tryz.prog 231 [I 0, I (n : Int)] [] (fun r m' => r = .x (.one (.own 0)) ∧ m' = [some (rowOd (spanL 0 n))]) := by
  refine spec_of pMix (O := []) Tryz.func231 (c := bodyOf Tryz.f231) rfl (by kernel_rfl) (by kernel_rfl) Tryz.ntmps231 (res := [.tmp 4]) (by kernel_rfl) ?_
  repeat' ((conv => whnf); first | refine Rng.g ?_ | refine Ob.g ?_ | refine Ob.e ?_ | refine Ob.m ?_ | refine Ob.mk (Nat.le_of_ble_eq_true rfl) ?_ | refine JoinVC.on ?_ | refine Nils.mk (fun h => ?_) ?_ | refine Val.t ?_ | refine Val.d ?_ | refine Mm.mk ?_ | (refine Br.mk (fun h => ?_) (fun h => ?_) <;> first | (exfalso; omega; done) | (exfalso; simp at h; done) | skip))
  refine LoopVC.mk (fun m st => ∃ (i : Nat), i ≤ n ∧ m = n - i ∧ st = ⟨0, envA 16 [(0, .int .i64 (i : Int)), (1, .x (I (n : Int))), (5, .x (.one (.own 0)))], [some (rowOd (spanL 0 i))]⟩) _ _ ⟨0, Nat.zero_le _, rfl, rfl⟩ ?_ ?_
  · refine ⟨[none], rfl, rfl, ?_, ?_⟩ <;> repeat' (first | exact trivial | exact rfl | exact Iff.rfl | apply And.intro)
  rintro m _ ⟨i, hi, hm, rfl⟩
  have ls : (i64s (spanL 0 i)).length = i := by rw [i64s_len, spanL_len]
  by_cases hi' : i < n
  · repeat' ((conv => whnf); first | refine Rng.g ?_ | refine Ob.g ?_ | refine Ob.e ?_ | refine Ob.m ?_ | refine Ob.mk (Nat.le_of_ble_eq_true rfl) ?_ | refine JoinVC.on ?_ | refine Nils.mk (fun h => ?_) ?_ | refine Val.t ?_ | refine Val.d ?_ | refine Mm.mk ?_ | (refine Br.mk (fun h => ?_) (fun h => ?_) <;> first | (exfalso; omega; done) | (exfalso; simp at h; done) | skip))
    repeat refine Mm.mk ?_
    refine Ob.mk (by rw [eb3]; simp only [List.length_cons, List.length_nil]; omega) ?_
    repeat' ((conv => whnf); first | refine Rng.g ?_ | refine Ob.g ?_ | refine Ob.e ?_ | refine Ob.m ?_ | refine Ob.mk (Nat.le_of_ble_eq_true rfl) ?_ | refine JoinVC.on ?_ | refine Nils.mk (fun h => ?_) ?_ | refine Val.t ?_ | refine Val.d ?_ | refine Mm.mk ?_ | (refine Br.mk (fun h => ?_) (fun h => ?_) <;> first | (exfalso; omega; done) | (exfalso; simp at h; done) | skip))
    refine Back.mk (n - (i + 1)) _ (by omega) ⟨i + 1, by omega, rfl, rfl⟩ ?_
    rw [spanL_succ]
    refine ⟨[some 2], rfl, rfl, ?_, ?_⟩ <;> repeat' (first | exact trivial | exact rfl | exact Iff.rfl | apply And.intro)
    rw [i64s_snoc, Nat.zero_add]
  · have ei : i = n := by omega
    subst ei
    repeat' ((conv => whnf); first | refine Rng.g ?_ | refine Ob.g ?_ | refine Ob.e ?_ | refine Ob.m ?_ | refine Ob.mk (Nat.le_of_ble_eq_true rfl) ?_ | refine JoinVC.on ?_ | refine Nils.mk (fun h => ?_) ?_ | refine Val.t ?_ | refine Val.d ?_ | refine Mm.mk ?_ | (refine Br.mk (fun h => ?_) (fun h => ?_) <;> first | (exfalso; omega; done) | (exfalso; simp at h; done) | skip))
    repeat refine Mm.mk ?_
    refine EndVC.mk _ rfl _ _ ⟨rfl, rfl⟩ ?_
    refine ⟨[some 0], rfl, rfl, ?_, ?_⟩ <;> repeat' (first | exact trivial | exact rfl | exact Iff.rfl | apply And.intro)
theorem s230 (f : Fmt) (l : List Sng) (O : List Int) (hO : InR O l.length) (hl : O.length ≤ 12) : HSpec Tryz.prog 230 [.one (.ptr 0 0), .one (.own 1)] [bPl f l, rowOd O] (fun r m' => r = .x (.one (.own 2)) ∧ m' = [some (bPl f l), some (rowOd O), some (rowOd (isr (usB l) O (O.length - 1)))]) := by
  refine spec_of pMix (O := []) Tryz.func230 (c := bodyOf Tryz.f230) rfl (by kernel_rfl) (by kernel_rfl) Tryz.ntmps230 (res := [.tmp 4]) (by kernel_rfl) ?_
  repeat' ((conv => whnf); first | refine Rng.g ?_ | refine Ob.g ?_ | refine Ob.e ?_ | refine Ob.m ?_ | refine Ob.mk (Nat.le_of_ble_eq_true rfl) ?_ | refine JoinVC.on ?_ | refine Nils.mk (fun h => ?_) ?_ | refine Val.t ?_ | refine Val.d ?_ | refine Mm.mk ?_ | (refine Br.mk (fun h => ?_) (fun h => ?_) <;> first | (exfalso; omega; done) | (exfalso; simp at h; done) | skip))
  conv => whnf
  refine CallVC.mk [] _ _ _ rfl rfl rfl (s296 O (by omega)) (fun r m' h' => ?_)
  obtain ⟨rfl, rfl⟩ := h'
  conv => whnf
  repeat' ((conv => whnf); first | refine Rng.g ?_ | refine Ob.g ?_ | refine Ob.e ?_ | refine Ob.m ?_ | refine Ob.mk (Nat.le_of_ble_eq_true rfl) ?_ | refine JoinVC.on ?_ | refine Nils.mk (fun h => ?_) ?_ | refine Val.t ?_ | refine Val.d ?_ | refine Mm.mk ?_ | (refine Br.mk (fun h => ?_) (fun h => ?_) <;> first | (exfalso; omega; done) | (exfalso; simp at h; done) | skip))
  conv => whnf
  refine CallVC.mk [2, 0] _ _ _ rfl rfl rfl (s297 f l O hO hl) (fun r m' h' => ?_)
  obtain ⟨rfl, rfl⟩ := h'
  conv => whnf
  repeat' ((conv => whnf); first | refine Rng.g ?_ | refine Ob.g ?_ | refine Ob.e ?_ | refine Ob.m ?_ | refine Ob.mk (Nat.le_of_ble_eq_true rfl) ?_ | refine JoinVC.on ?_ | refine Nils.mk (fun h => ?_) ?_ | refine Val.t ?_ | refine Val.d ?_ | refine Mm.mk ?_ | (refine Br.mk (fun h => ?_) (fun h => ?_) <;> first | (exfalso; omega; done) | (exfalso; simp at h; done) | skip))
  repeat refine Mm.mk ?_
  refine EndVC.mk _ rfl _ _ ⟨rfl, rfl⟩ ?_
  refine ⟨[some 0, some 1, some 2], rfl, rfl, ?_, ?_⟩ <;> repeat' (first | exact trivial | exact rfl | exact Iff.rfl | apply And.intro)
theorem s143 (f : Fmt) (l : List Sng) (hl : l.length ≤ 12) : HSpec Tryz.prog 143 [.one (.ptr 0 0)] [bPl f l] (fun r m' => r = .x (.one (.own 1)) ∧ m' = [some (bPl f l), some (rowOd (allO l))]) := by
  have lp := sngA_len l
  have c := s230 f l (spanL 0 l.length) (spanL_nn _) (by rw [spanL_len]; exact hl)
  rw [spanL_len] at c
  refine spec_of pMix (O := []) Tryz.func143 (c := bodyOf Tryz.f143) rfl (by kernel_rfl) (by kernel_rfl) Tryz.ntmps143 (res := [.tmp 2]) (by kernel_rfl) ?_
  repeat' ((conv => whnf); first | rw [lp] | refine Rng.g ?_ | refine Ob.g ?_ | refine Ob.e ?_ | refine Ob.m ?_ | refine Ob.mk (Nat.le_of_ble_eq_true rfl) ?_ | refine JoinVC.on ?_ | refine Nils.mk (fun h => ?_) ?_ | refine Val.t ?_ | refine Val.d ?_ | refine Mm.mk ?_ | (refine Br.mk (fun h => ?_) (fun h => ?_) <;> first | (exfalso; omega; done) | (exfalso; simp at h; done) | skip))
  conv => whnf
  refine CallVC.mk [] _ _ _ rfl rfl rfl (s231 l.length (by omega)) (fun r m' h' => ?_)
  obtain ⟨rfl, rfl⟩ := h'
  conv => whnf
  repeat' ((conv => whnf); first | refine Rng.g ?_ | refine Ob.g ?_ | refine Ob.e ?_ | refine Ob.m ?_ | refine Ob.mk (Nat.le_of_ble_eq_true rfl) ?_ | refine JoinVC.on ?_ | refine Nils.mk (fun h => ?_) ?_ | refine Val.t ?_ | refine Val.d ?_ | refine Mm.mk ?_ | (refine Br.mk (fun h => ?_) (fun h => ?_) <;> first | (exfalso; omega; done) | (exfalso; simp at h; done) | skip))
  conv => whnf
  refine CallVC.mk [0, 1] _ _ _ rfl rfl rfl (c) (fun r m' h' => ?_)
  obtain ⟨rfl, rfl⟩ := h'
  conv => whnf
  repeat' ((conv => whnf); first | refine Rng.g ?_ | refine Ob.g ?_ | refine Ob.e ?_ | refine Ob.m ?_ | refine Ob.mk (Nat.le_of_ble_eq_true rfl) ?_ | refine JoinVC.on ?_ | refine Nils.mk (fun h => ?_) ?_ | refine Val.t ?_ | refine Val.d ?_ | refine Mm.mk ?_ | (refine Br.mk (fun h => ?_) (fun h => ?_) <;> first | (exfalso; omega; done) | (exfalso; simp at h; done) | skip))
  repeat refine Mm.mk ?_
  refine EndVC.mk _ rfl _ _ ⟨rfl, rfl⟩ ?_
  refine ⟨[some 0, some 2], rfl, rfl, ?_, ?_⟩ <;> repeat' (first | exact trivial | exact rfl | exact Iff.rfl | apply And.intro)
/-! ### The bands -/
@[reducible] def rowB (A : Arr) : Blk := .row 116 false [.int .i64, .int .i64, .int .i64] A
theorem eb116 : Tryz.t116.bytes = 24 := by kernel_rfl
inductive LyRs (f : Fmt) (l : List Sng) (O : List Int) (r : AV) (m' : List (Option Blk)) : Prop
  | rule (i : Nat) (hi : i < O.length) (h : ∀ j, j < i → okAt f l O j) (hn : ¬ okAt f l O i) (hr : r = .tup [.one .nils, I (i : Int), I 20]) (hm : m' = [some (bPl f l)])
  | limit (h : ∀ j, j < O.length → okAt f l O j) (hn : ¬ LayOK f l O) (hr : r = .tup [.one .nils, I (O.length : Int), I 14]) (hm : m' = [some (bPl f l)])
  | ok (h : LayOK f l O) (hr : r = .tup [.one (.own 1), I (O.length : Int), I 0]) (hm : m' = [some (bPl f l), some (rowB (bndA f l O O.length))])
theorem s146 (f : Fmt) (l : List Sng) (O : List Int) (hf : FmtOK f) (hg : SngsOK l) (hO : InR O l.length) (hl : O.length ≤ 100) : HSpec Tryz.prog 146 [.one (.ptr 0 0), .one (.lst true [.int .i64] (i64s O))] [bPl f l] (LyRs f l O) := by
  have lo := i64s_len O
  have lg := sngA_len l
  have hbd := atF_bd hf hg hO
  have hf1 := hf.outer
  have hf2 := hf.lead
  have hf3 := hf.gap
  have hf4 := hf.tail
  have hf5 := hf.inner
  refine spec_of pMix (O := []) Tryz.func146 (c := bodyOf Tryz.f146) rfl (by kernel_rfl) (by kernel_rfl) Tryz.ntmps146 (res := [.tmp 4, .tmp 5, .tmp 6]) (by kernel_rfl) ?_
  repeat' ((conv => whnf); first | refine Rng.g ?_ | refine Ob.g ?_ | refine Ob.e ?_ | refine Ob.m ?_ | refine Ob.mk (Nat.le_of_ble_eq_true rfl) ?_ | refine JoinVC.on ?_ | refine Nils.mk (fun h => ?_) ?_ | refine Val.t ?_ | refine Val.d ?_ | refine Mm.mk ?_ | (refine Br.mk (fun h => ?_) (fun h => ?_) <;> first | (exfalso; omega; done) | (exfalso; simp at h; done) | skip))
  refine LoopVC.mk (fun n st => ∃ (i : Nat), i ≤ O.length ∧ n = O.length - i ∧ (∀ j, j < i → okAt f l O j) ∧ st = ⟨1, envA 89 [(0, .x (.one (.ptr 0 0))), (1, .x (.one (.lst true [.int .i64] (i64s O)))), (7, .x (.one (.own 1))), (8, .int .i64 (atF f l O i)), (23, .x (.one (.lst true [.int .i64] (i64s O)))), (24, .int .i64 (O.length : Int)), (25, .int .i64 (i : Int))], [some (bPl f l), some (rowB (bndA f l O i))]⟩) _ _ ⟨0, Nat.zero_le _, rfl, fun j hj => absurd hj (Nat.not_lt_zero j), rfl⟩ ?_ ?_
  · refine ⟨[some 0, none], rfl, rfl, ?_, ?_⟩ <;> repeat' (first | exact trivial | exact rfl | exact Iff.rfl | apply And.intro)
    exact congrArg Int.ofNat lo
  rintro n _ ⟨i, hi, hn, hj, rfl⟩
  have lb := bndA_len f l O i
  have gi : rI (i64s O) (i : Int).toNat 0 = O.getD i 0 := by rw [Int.toNat_natCast]; exact i64s_get O i
  have hbi := hbd i hi
  by_cases hi' : i < O.length
  · have hr := hO i hi'
    obtain ⟨q, hq⟩ : ∃ q, O.getD i 0 = q := ⟨_, rfl⟩
    have c0 : rI (sngA l) q.toNat 0 = (l.getD q.toNat g0).long := sngA_0 l _
    have c1 : rI (sngA l) q.toNat (0 + 1) = (l.getD q.toNat g0).pitch := sngA_1 l _
    have c2 : rI (sngA l) q.toNat (0 + 1 + 1) = (l.getD q.toNat g0).least := sngA_2 l _
    have c3 : rI (sngA l) q.toNat (0 + (0 + 1 + 1)) = (l.getD q.toNat g0).least := sngA_2 l _
    rw [hq] at gi hr
    have hgk := hg.each q.toNat (by omega)
    have hw := (wid_bd hf.per.1 hgk).2
    have k1 := s139 f (some l) (l.getD q.toNat g0) hf hgk
    have ea : atF f l O (i + 1) = atF f l O i - (if 0 < i then f.gap else 0) - widF f (l.getD (O.getD i 0).toNat g0) := rfl
    rw [hq] at ea
    have eo : okAt f l O i ↔ (l.getD q.toNat g0).least ≤ atF f l O (i + 1) := by unfold okAt; rw [hq]
    by_cases h0 : 0 < i
    · have e1 : (if 0 < i then f.gap else 0) = f.gap := if_pos h0
      have e2 : (atF f l O i - f.gap) - widF f (l.getD q.toNat g0) = atF f l O (i + 1) := by rw [ea, e1]
      have hbj := hbd (i + 1) hi'
      have e3 : bndR f l O i = [Cell.int q, Cell.int (atF f l O i - f.gap), Cell.int (atF f l O (i + 1))] := by unfold bndR; rw [hq, e1]
      repeat' ((conv => whnf); first | rw [gi] | rw [c0] | rw [c1] | rw [c2] | refine Rng.g ?_ | refine Ob.g ?_ | refine Ob.e ?_ | refine Ob.m ?_ | refine Ob.mk (Nat.le_of_ble_eq_true rfl) ?_ | refine JoinVC.on ?_ | refine Nils.mk (fun h => ?_) ?_ | refine Val.t ?_ | refine Val.d ?_ | refine Mm.mk ?_ | (refine Br.mk (fun h => ?_) (fun h => ?_) <;> first | (exfalso; omega; done) | (exfalso; simp at h; done) | skip))
      conv => whnf
      refine CallVC.mk [0] _ _ _ rfl rfl rfl (k1) (fun r m' h' => ?_)
      obtain ⟨rfl, rfl⟩ := h'
      conv => whnf
      repeat' ((conv => whnf); first | rw [e2] | rw [c3] | refine Rng.g ?_ | refine Ob.g ?_ | refine Ob.e ?_ | refine Ob.m ?_ | refine Ob.mk (Nat.le_of_ble_eq_true rfl) ?_ | refine JoinVC.on ?_ | refine Nils.mk (fun h => ?_) ?_ | refine Val.t ?_ | refine Val.d ?_ | refine Mm.mk ?_ | (refine Br.mk (fun h => ?_) (fun h => ?_) <;> first | (exfalso; omega; done) | (exfalso; simp at h; done) | skip))
      · have hno : ¬ okAt f l O i := fun hk => by have := eo.1 hk; omega
        repeat refine Mm.mk ?_
        conv => whnf
        refine EndVC.mk _ rfl _ _ (.rule i hi' hj hno rfl rfl) ?_
        refine ⟨[some 0], rfl, rfl, ?_, ?_⟩ <;> repeat' (first | exact trivial | exact rfl | exact Iff.rfl | apply And.intro)
      · repeat refine Mm.mk ?_
        refine Ob.mk (by rw [eb116]; simp only [List.length_cons, List.length_nil]; omega) ?_
        repeat' ((conv => whnf); first | rw [e2] | rw [c3] | refine Rng.g ?_ | refine Ob.g ?_ | refine Ob.e ?_ | refine Ob.m ?_ | refine Ob.mk (Nat.le_of_ble_eq_true rfl) ?_ | refine JoinVC.on ?_ | refine Nils.mk (fun h => ?_) ?_ | refine Val.t ?_ | refine Val.d ?_ | refine Mm.mk ?_ | (refine Br.mk (fun h => ?_) (fun h => ?_) <;> first | (exfalso; omega; done) | (exfalso; simp at h; done) | skip))
        refine Back.mk (O.length - (i + 1)) _ (by omega) ⟨i + 1, by omega, rfl, fun j hj' => ?_, rfl⟩ ?_
        · rcases Nat.lt_succ_iff_lt_or_eq.1 hj' with h' | rfl
          · exact hj j h'
          · exact eo.2 (by omega)
        · rw [bndA_succ, e3]
          refine ⟨[some 0, some 4], rfl, rfl, ?_, ?_⟩ <;> repeat' (first | exact trivial | exact rfl | exact Iff.rfl | apply And.intro)
    · have e1 : (if 0 < i then f.gap else 0) = 0 := if_neg h0
      have e2 : (atF f l O i) - widF f (l.getD q.toNat g0) = atF f l O (i + 1) := by rw [ea, e1]; omega
      have hbj := hbd (i + 1) hi'
      have e3 : bndR f l O i = [Cell.int q, Cell.int (atF f l O i), Cell.int (atF f l O (i + 1))] := by unfold bndR; rw [hq, e1]; simp only [Int.sub_zero]
      repeat' ((conv => whnf); first | rw [gi] | rw [c0] | rw [c1] | rw [c2] | refine Rng.g ?_ | refine Ob.g ?_ | refine Ob.e ?_ | refine Ob.m ?_ | refine Ob.mk (Nat.le_of_ble_eq_true rfl) ?_ | refine JoinVC.on ?_ | refine Nils.mk (fun h => ?_) ?_ | refine Val.t ?_ | refine Val.d ?_ | refine Mm.mk ?_ | (refine Br.mk (fun h => ?_) (fun h => ?_) <;> first | (exfalso; omega; done) | (exfalso; simp at h; done) | skip))
      conv => whnf
      refine CallVC.mk [0] _ _ _ rfl rfl rfl (k1) (fun r m' h' => ?_)
      obtain ⟨rfl, rfl⟩ := h'
      conv => whnf
      repeat' ((conv => whnf); first | rw [e2] | rw [c3] | refine Rng.g ?_ | refine Ob.g ?_ | refine Ob.e ?_ | refine Ob.m ?_ | refine Ob.mk (Nat.le_of_ble_eq_true rfl) ?_ | refine JoinVC.on ?_ | refine Nils.mk (fun h => ?_) ?_ | refine Val.t ?_ | refine Val.d ?_ | refine Mm.mk ?_ | (refine Br.mk (fun h => ?_) (fun h => ?_) <;> first | (exfalso; omega; done) | (exfalso; simp at h; done) | skip))
      · have hno : ¬ okAt f l O i := fun hk => by have := eo.1 hk; omega
        repeat refine Mm.mk ?_
        conv => whnf
        refine EndVC.mk _ rfl _ _ (.rule i hi' hj hno rfl rfl) ?_
        refine ⟨[some 0], rfl, rfl, ?_, ?_⟩ <;> repeat' (first | exact trivial | exact rfl | exact Iff.rfl | apply And.intro)
      · repeat refine Mm.mk ?_
        refine Ob.mk (by rw [eb116]; simp only [List.length_cons, List.length_nil]; omega) ?_
        repeat' ((conv => whnf); first | rw [e2] | rw [c3] | refine Rng.g ?_ | refine Ob.g ?_ | refine Ob.e ?_ | refine Ob.m ?_ | refine Ob.mk (Nat.le_of_ble_eq_true rfl) ?_ | refine JoinVC.on ?_ | refine Nils.mk (fun h => ?_) ?_ | refine Val.t ?_ | refine Val.d ?_ | refine Mm.mk ?_ | (refine Br.mk (fun h => ?_) (fun h => ?_) <;> first | (exfalso; omega; done) | (exfalso; simp at h; done) | skip))
        refine Back.mk (O.length - (i + 1)) _ (by omega) ⟨i + 1, by omega, rfl, fun j hj' => ?_, rfl⟩ ?_
        · rcases Nat.lt_succ_iff_lt_or_eq.1 hj' with h' | rfl
          · exact hj j h'
          · exact eo.2 (by omega)
        · rw [bndA_succ, e3]
          refine ⟨[some 0, some 4], rfl, rfl, ?_, ?_⟩ <;> repeat' (first | exact trivial | exact rfl | exact Iff.rfl | apply And.intro)
  · have ei : i = O.length := by omega
    subst ei
    repeat' ((conv => whnf); first | rw [lo] | refine Rng.g ?_ | refine Ob.g ?_ | refine Ob.e ?_ | refine Ob.m ?_ | refine Ob.mk (Nat.le_of_ble_eq_true rfl) ?_ | refine JoinVC.on ?_ | refine Nils.mk (fun h => ?_) ?_ | refine Val.t ?_ | refine Val.d ?_ | refine Mm.mk ?_ | (refine Br.mk (fun h => ?_) (fun h => ?_) <;> first | (exfalso; omega; done) | (exfalso; simp at h; done) | skip))
    · repeat refine Mm.mk ?_
      conv => whnf
      refine EndVC.mk _ rfl _ _ (.limit hj (fun hL => (by have := hL.2; omega)) rfl rfl) ?_
      refine ⟨[some 0], rfl, rfl, ?_, ?_⟩ <;> repeat' (first | exact trivial | exact rfl | exact Iff.rfl | apply And.intro)
    · repeat refine Mm.mk ?_
      conv => whnf
      refine EndVC.mk _ rfl _ _ (.ok ⟨hj, by omega⟩ rfl rfl) ?_
      refine ⟨[some 0, some 1], rfl, rfl, ?_, ?_⟩ <;> repeat' (first | exact trivial | exact rfl | exact Iff.rfl | apply And.intro)
end Go.Sx

namespace Go.Sx
open Go Go.Proofs
set_option maxRecDepth 10000
set_option maxHeartbeats 2000000
theorem e24 : EntersF Tryz.prog 24 := enters_of Tryz.func24 (c := bodyOf Tryz.f24) (by kernel_rfl) rfl
theorem e99 : EntersF Tryz.prog 99 := enters_of Tryz.func99 (c := bodyOf Tryz.f99) (by kernel_rfl) rfl
theorem e205 : EntersF Tryz.prog 205 := enters_of Tryz.func205 (c := bodyOf Tryz.f205) (by kernel_rfl) rfl
theorem e105 : EntersF Tryz.prog 105 := enters_of Tryz.func105 (c := bodyOf Tryz.f105) (by kernel_rfl) rfl
theorem e106 : EntersF Tryz.prog 106 := enters_of Tryz.func106 (c := bodyOf Tryz.f106) (by kernel_rfl) rfl
theorem e107 : EntersF Tryz.prog 107 := enters_of Tryz.func107 (c := bodyOf Tryz.f107) (by kernel_rfl) rfl
theorem e30 : EntersF Tryz.prog 30 := enters_of Tryz.func30 (c := bodyOf Tryz.f30) (by kernel_rfl) rfl
theorem e111 : EntersF Tryz.prog 111 := enters_of Tryz.func111 (c := bodyOf Tryz.f111) (by kernel_rfl) rfl
/-- A cutter. -/
structure Cut where
  half : Int
  gain : Int
  thin : Int
  wide : Int
  slope : Int
  jerk : Int
  sty : Int
@[reducible] def Cut.x (c : Cut) : XV := .agg [.int .i64 c.half, .int .i64 c.gain, .int .i64 c.thin, .int .i64 c.wide, .int .i64 c.slope, .int .i64 c.jerk, .int .i64 c.sty]
structure CutOK (c : Cut) : Prop where
  half : 1 ≤ c.half ∧ c.half ≤ 4096
  gain : 0 ≤ c.gain ∧ c.gain ≤ 100000
  thin : 0 ≤ c.thin ∧ c.thin ≤ c.wide
  wide : 0 ≤ c.wide ∧ c.wide ≤ 1048576
  slope : 0 ≤ c.slope ∧ c.slope ≤ 10000
  jerk : 0 ≤ c.jerk ∧ c.jerk ≤ 1048576
  sty : 0 ≤ c.sty ∧ c.sty ≤ 1024
theorem s99 (x a b : Int) : PSpec Tryz.prog 99 [I x, I a, I b] (xP (x ≥ a ∧ x ≤ b)) := by
  refine spec_of pMix (O := []) Tryz.func99 (c := bodyOf Tryz.f99) rfl (by kernel_rfl) (by kernel_rfl) Tryz.ntmps99 (res := [.tmp 6]) (by kernel_rfl) ?_
  repeat' ((conv => whnf); first | refine Rng.g ?_ | refine Ob.g ?_ | refine Ob.e ?_ | refine Ob.m ?_ | refine Ob.mk (Nat.le_of_ble_eq_true rfl) ?_ | refine JoinVC.on ?_ | refine Nils.mk (fun h => ?_) ?_ | refine Val.t ?_ | refine Val.d ?_ | refine Mm.mk ?_ | (refine Br.mk (fun h => ?_) (fun h => ?_) <;> first | (exfalso; omega; done) | (exfalso; simp at h; done) | skip))
  · repeat refine Mm.mk ?_
    refine EndVC.mk _ rfl _ _ ⟨rfl, rfl⟩ ?_
    refine ⟨[], rfl, rfl, ?_, ?_⟩ <;> repeat' (first | exact trivial | exact rfl | exact Iff.rfl | apply And.intro)
    exact ⟨fun h2 => ⟨h, h2⟩, fun h2 => h2.2⟩
  · repeat refine Mm.mk ?_
    refine EndVC.mk _ rfl _ _ ⟨rfl, rfl⟩ ?_
    refine ⟨[], rfl, rfl, ?_, ?_⟩ <;> repeat' (first | exact trivial | exact rfl | exact Iff.rfl | apply And.intro)
    exact fun h2 => h h2.1
theorem s205 (x a b : Int) : PSpec Tryz.prog 205 [I x, I a, I b] (xP (x ≥ a ∧ x ≤ b)) := by
  refine spec_of pMix (O := []) Tryz.func205 (c := bodyOf Tryz.f205) rfl (by kernel_rfl) (by kernel_rfl) Tryz.ntmps205 (res := [.tmp 6]) (by kernel_rfl) ?_
  repeat' ((conv => whnf); first | refine Rng.g ?_ | refine Ob.g ?_ | refine Ob.e ?_ | refine Ob.m ?_ | refine Ob.mk (Nat.le_of_ble_eq_true rfl) ?_ | refine JoinVC.on ?_ | refine Nils.mk (fun h => ?_) ?_ | refine Val.t ?_ | refine Val.d ?_ | refine Mm.mk ?_ | (refine Br.mk (fun h => ?_) (fun h => ?_) <;> first | (exfalso; omega; done) | (exfalso; simp at h; done) | skip))
  · repeat refine Mm.mk ?_
    refine EndVC.mk _ rfl _ _ ⟨rfl, rfl⟩ ?_
    refine ⟨[], rfl, rfl, ?_, ?_⟩ <;> repeat' (first | exact trivial | exact rfl | exact Iff.rfl | apply And.intro)
    exact ⟨fun h2 => ⟨h, h2⟩, fun h2 => h2.2⟩
  · repeat refine Mm.mk ?_
    refine EndVC.mk _ rfl _ _ ⟨rfl, rfl⟩ ?_
    refine ⟨[], rfl, rfl, ?_, ?_⟩ <;> repeat' (first | exact trivial | exact rfl | exact Iff.rfl | apply And.intro)
    exact fun h2 => h h2.1
theorem s24 (c : Cut) : HSpec Tryz.prog 24 [c.x] [] (fun r m' => ∃ e, r = .x (I e) ∧ m' = [] ∧ (e = 0 ↔ CutOK c)) := by
  refine spec_of pMix (O := []) Tryz.func24 (c := bodyOf Tryz.f24) rfl (by kernel_rfl) (by kernel_rfl) Tryz.ntmps24 (res := [.tmp 2]) (by kernel_rfl) ?_
  repeat' ((conv => whnf); first | refine Rng.g ?_ | refine Ob.g ?_ | refine Ob.e ?_ | refine Ob.m ?_ | refine Ob.mk (Nat.le_of_ble_eq_true rfl) ?_ | refine JoinVC.on ?_ | refine Nils.mk (fun h => ?_) ?_ | refine Val.t ?_ | refine Val.d ?_ | refine Mm.mk ?_ | refine CallVC.pure rfl (s99 c.half 1 4096) ?_ | refine CallVC.pure rfl (s99 c.gain 0 100000) ?_ | refine CallVC.pure rfl (s99 c.thin 0 1048576) ?_ | refine CallVC.pure rfl (s99 c.wide 0 1048576) ?_ | refine CallVC.pure rfl (s99 c.slope 0 10000) ?_ | refine CallVC.pure rfl (s99 c.jerk 0 1048576) ?_ | refine CallVC.pure rfl (s99 c.sty 0 1024) ?_ | refine CallVC0.pure rfl (s99 c.half 1 4096) ?_ | refine CallVC0.pure rfl (s99 c.gain 0 100000) ?_ | refine CallVC0.pure rfl (s99 c.thin 0 1048576) ?_ | refine CallVC0.pure rfl (s99 c.wide 0 1048576) ?_ | refine CallVC0.pure rfl (s99 c.slope 0 10000) ?_ | refine CallVC0.pure rfl (s99 c.jerk 0 1048576) ?_ | refine CallVC0.pure rfl (s99 c.sty 0 1024) ?_ | (refine Br.mk (fun h => ?_) (fun h => ?_) <;> first | (exfalso; omega; done) | (exfalso; simp at h; done) | skip))
  rotate_right
  · repeat refine Mm.mk ?_
    conv => whnf
    refine EndVC.mk _ rfl _ _ (⟨0, rfl, rfl, ⟨fun _ => ⟨by omega, by omega, by omega, by omega, by omega, by omega, by omega⟩, fun _ => rfl⟩⟩) ?_
    refine ⟨[], rfl, rfl, ?_, ?_⟩ <;> repeat' (first | exact trivial | exact rfl | exact Iff.rfl | apply And.intro)
  all_goals
    repeat refine Mm.mk ?_
    conv => whnf
    refine EndVC.mk _ rfl _ _ (⟨2, rfl, rfl, ⟨fun h => (by cases h), fun hC => (by obtain ⟨h1, h2, h3, h4, h5, h6, h7⟩ := hC; omega)⟩⟩) ?_
    refine ⟨[], rfl, rfl, ?_, ?_⟩ <;> repeat' (first | exact trivial | exact rfl | exact Iff.rfl | apply And.intro)
@[reducible] def CkRs (c : Cut) (r : AV) (m' : List (Option Blk)) : Prop := ∃ e, r = .x (I e) ∧ m' = [] ∧ (e = 0 ↔ CutOK c)
/-- The tests of a cutter. -/
def cdC (c : Cut) : Nat → Prop
  | 0 => 1 ≤ c.half ∧ c.half ≤ 4096
  | 1 => 0 ≤ c.gain ∧ c.gain ≤ 100000
  | 2 => 0 ≤ c.thin ∧ c.thin ≤ c.wide
  | 3 => 0 ≤ c.wide ∧ c.wide ≤ 1048576
  | 4 => 0 ≤ c.slope ∧ c.slope ≤ 10000
  | 5 => 0 ≤ c.jerk ∧ c.jerk ≤ 1048576
  | _ => 0 ≤ c.sty ∧ c.sty ≤ 1024
theorem CutOK.cd {c : Cut} (h : CutOK c) (j : Nat) : cdC c j := by
  obtain ⟨h1, h2, h3, h4, h5, h6, h7⟩ := h
  match j with
  | 0 => exact h1
  | 1 => exact h2
  | 2 => exact h3
  | 3 => exact h4
  | 4 => exact h5
  | 5 => exact h6
  | _ + 6 => exact h7
theorem s105 (c : Cut) : HSpec Tryz.prog 105 [c.x] [] (CkRs c) := by
  have k0 := s205 c.half 1 4096
  have k1 := s205 c.gain 0 100000
  have k2 := s205 c.thin 0 c.wide
  have k3 := s205 c.wide 0 1048576
  have k4 := s205 c.slope 0 10000
  have k5 := s205 c.jerk 0 1048576
  have k6 := s205 c.sty 0 1024
  refine spec_of pMix (O := []) Tryz.func105 (c := bodyOf Tryz.f105) rfl (by kernel_rfl) (by kernel_rfl) Tryz.ntmps105 (res := [.tmp 2]) (by kernel_rfl) ?_
  conv => whnf
  refine LoopVC.mk (fun n st => ∃ (i : Nat), i ≤ 7 ∧ n = 7 - i ∧ (∀ j, j < i → cdC c j) ∧ st = ⟨0, envA 41 [(28, .x (.agg [.int .i64 c.half, .int .i64 1, .int .i64 4096, .int .i64 c.gain, .int .i64 0, .int .i64 100000, .int .i64 c.thin, .int .i64 0, .int .i64 c.wide, .int .i64 c.wide, .int .i64 0, .int .i64 1048576, .int .i64 c.slope, .int .i64 0, .int .i64 10000, .int .i64 c.jerk, .int .i64 0, .int .i64 1048576, .int .i64 c.sty, .int .i64 0, .int .i64 1024])), (29, .int .i64 (i : Int))], []⟩) _ _ ⟨0, by decide, rfl, fun j hj => absurd hj (Nat.not_lt_zero j), rfl⟩ ?_ ?_
  · refine ⟨[], rfl, rfl, ?_, ?_⟩ <;> repeat' (first | exact trivial | exact rfl | exact Iff.rfl | apply And.intro)
  rintro n _ ⟨i, hi, hn, hj, rfl⟩
  have hcs : i = 0 ∨ i = 1 ∨ i = 2 ∨ i = 3 ∨ i = 4 ∨ i = 5 ∨ i = 6 ∨ i = 7 := by omega
  rcases hcs with rfl | rfl | rfl | rfl | rfl | rfl | rfl | rfl
  · repeat' ((conv => whnf); first | refine Rng.g ?_ | refine Ob.g ?_ | refine Ob.e ?_ | refine Ob.m ?_ | refine Ob.mk (Nat.le_of_ble_eq_true rfl) ?_ | refine JoinVC.on ?_ | refine Nils.mk (fun h => ?_) ?_ | refine Val.t ?_ | refine Val.d ?_ | refine Mm.mk ?_ | refine CallVC.pure rfl (k0) ?_ | refine CallVC0.pure rfl (k0) ?_ | (refine Br.mk (fun h => ?_) (fun h => ?_) <;> first | (exfalso; omega; done) | (exfalso; simp at h; done) | skip))
    · repeat refine Mm.mk ?_
      conv => whnf
      refine EndVC.mk _ rfl _ _ (⟨2, rfl, rfl, ⟨fun h => (by cases h), fun hC => absurd (hC.cd 0) h⟩⟩) ?_
      refine ⟨[], rfl, rfl, ?_, ?_⟩ <;> repeat' (first | exact trivial | exact rfl | exact Iff.rfl | apply And.intro)
    · refine Back.mk (7 - (0 + 1)) _ (by omega) ⟨0 + 1, by omega, rfl, fun j hj' => ?_, rfl⟩ ?_
      · rcases Nat.lt_succ_iff_lt_or_eq.1 hj' with h' | rfl
        · exact hj j h'
        · exact Classical.not_not.1 h
      · refine ⟨[], rfl, rfl, ?_, ?_⟩ <;> repeat' (first | exact trivial | exact rfl | exact Iff.rfl | apply And.intro)
  · repeat' ((conv => whnf); first | refine Rng.g ?_ | refine Ob.g ?_ | refine Ob.e ?_ | refine Ob.m ?_ | refine Ob.mk (Nat.le_of_ble_eq_true rfl) ?_ | refine JoinVC.on ?_ | refine Nils.mk (fun h => ?_) ?_ | refine Val.t ?_ | refine Val.d ?_ | refine Mm.mk ?_ | refine CallVC.pure rfl (k1) ?_ | refine CallVC0.pure rfl (k1) ?_ | (refine Br.mk (fun h => ?_) (fun h => ?_) <;> first | (exfalso; omega; done) | (exfalso; simp at h; done) | skip))
    · repeat refine Mm.mk ?_
      conv => whnf
      refine EndVC.mk _ rfl _ _ (⟨2, rfl, rfl, ⟨fun h => (by cases h), fun hC => absurd (hC.cd 1) h⟩⟩) ?_
      refine ⟨[], rfl, rfl, ?_, ?_⟩ <;> repeat' (first | exact trivial | exact rfl | exact Iff.rfl | apply And.intro)
    · refine Back.mk (7 - (1 + 1)) _ (by omega) ⟨1 + 1, by omega, rfl, fun j hj' => ?_, rfl⟩ ?_
      · rcases Nat.lt_succ_iff_lt_or_eq.1 hj' with h' | rfl
        · exact hj j h'
        · exact Classical.not_not.1 h
      · refine ⟨[], rfl, rfl, ?_, ?_⟩ <;> repeat' (first | exact trivial | exact rfl | exact Iff.rfl | apply And.intro)
  · repeat' ((conv => whnf); first | refine Rng.g ?_ | refine Ob.g ?_ | refine Ob.e ?_ | refine Ob.m ?_ | refine Ob.mk (Nat.le_of_ble_eq_true rfl) ?_ | refine JoinVC.on ?_ | refine Nils.mk (fun h => ?_) ?_ | refine Val.t ?_ | refine Val.d ?_ | refine Mm.mk ?_ | refine CallVC.pure rfl (k2) ?_ | refine CallVC0.pure rfl (k2) ?_ | (refine Br.mk (fun h => ?_) (fun h => ?_) <;> first | (exfalso; omega; done) | (exfalso; simp at h; done) | skip))
    · repeat refine Mm.mk ?_
      conv => whnf
      refine EndVC.mk _ rfl _ _ (⟨2, rfl, rfl, ⟨fun h => (by cases h), fun hC => absurd (hC.cd 2) h⟩⟩) ?_
      refine ⟨[], rfl, rfl, ?_, ?_⟩ <;> repeat' (first | exact trivial | exact rfl | exact Iff.rfl | apply And.intro)
    · refine Back.mk (7 - (2 + 1)) _ (by omega) ⟨2 + 1, by omega, rfl, fun j hj' => ?_, rfl⟩ ?_
      · rcases Nat.lt_succ_iff_lt_or_eq.1 hj' with h' | rfl
        · exact hj j h'
        · exact Classical.not_not.1 h
      · refine ⟨[], rfl, rfl, ?_, ?_⟩ <;> repeat' (first | exact trivial | exact rfl | exact Iff.rfl | apply And.intro)
  · repeat' ((conv => whnf); first | refine Rng.g ?_ | refine Ob.g ?_ | refine Ob.e ?_ | refine Ob.m ?_ | refine Ob.mk (Nat.le_of_ble_eq_true rfl) ?_ | refine JoinVC.on ?_ | refine Nils.mk (fun h => ?_) ?_ | refine Val.t ?_ | refine Val.d ?_ | refine Mm.mk ?_ | refine CallVC.pure rfl (k3) ?_ | refine CallVC0.pure rfl (k3) ?_ | (refine Br.mk (fun h => ?_) (fun h => ?_) <;> first | (exfalso; omega; done) | (exfalso; simp at h; done) | skip))
    · repeat refine Mm.mk ?_
      conv => whnf
      refine EndVC.mk _ rfl _ _ (⟨2, rfl, rfl, ⟨fun h => (by cases h), fun hC => absurd (hC.cd 3) h⟩⟩) ?_
      refine ⟨[], rfl, rfl, ?_, ?_⟩ <;> repeat' (first | exact trivial | exact rfl | exact Iff.rfl | apply And.intro)
    · refine Back.mk (7 - (3 + 1)) _ (by omega) ⟨3 + 1, by omega, rfl, fun j hj' => ?_, rfl⟩ ?_
      · rcases Nat.lt_succ_iff_lt_or_eq.1 hj' with h' | rfl
        · exact hj j h'
        · exact Classical.not_not.1 h
      · refine ⟨[], rfl, rfl, ?_, ?_⟩ <;> repeat' (first | exact trivial | exact rfl | exact Iff.rfl | apply And.intro)
  · repeat' ((conv => whnf); first | refine Rng.g ?_ | refine Ob.g ?_ | refine Ob.e ?_ | refine Ob.m ?_ | refine Ob.mk (Nat.le_of_ble_eq_true rfl) ?_ | refine JoinVC.on ?_ | refine Nils.mk (fun h => ?_) ?_ | refine Val.t ?_ | refine Val.d ?_ | refine Mm.mk ?_ | refine CallVC.pure rfl (k4) ?_ | refine CallVC0.pure rfl (k4) ?_ | (refine Br.mk (fun h => ?_) (fun h => ?_) <;> first | (exfalso; omega; done) | (exfalso; simp at h; done) | skip))
    · repeat refine Mm.mk ?_
      conv => whnf
      refine EndVC.mk _ rfl _ _ (⟨2, rfl, rfl, ⟨fun h => (by cases h), fun hC => absurd (hC.cd 4) h⟩⟩) ?_
      refine ⟨[], rfl, rfl, ?_, ?_⟩ <;> repeat' (first | exact trivial | exact rfl | exact Iff.rfl | apply And.intro)
    · refine Back.mk (7 - (4 + 1)) _ (by omega) ⟨4 + 1, by omega, rfl, fun j hj' => ?_, rfl⟩ ?_
      · rcases Nat.lt_succ_iff_lt_or_eq.1 hj' with h' | rfl
        · exact hj j h'
        · exact Classical.not_not.1 h
      · refine ⟨[], rfl, rfl, ?_, ?_⟩ <;> repeat' (first | exact trivial | exact rfl | exact Iff.rfl | apply And.intro)
  · repeat' ((conv => whnf); first | refine Rng.g ?_ | refine Ob.g ?_ | refine Ob.e ?_ | refine Ob.m ?_ | refine Ob.mk (Nat.le_of_ble_eq_true rfl) ?_ | refine JoinVC.on ?_ | refine Nils.mk (fun h => ?_) ?_ | refine Val.t ?_ | refine Val.d ?_ | refine Mm.mk ?_ | refine CallVC.pure rfl (k5) ?_ | refine CallVC0.pure rfl (k5) ?_ | (refine Br.mk (fun h => ?_) (fun h => ?_) <;> first | (exfalso; omega; done) | (exfalso; simp at h; done) | skip))
    · repeat refine Mm.mk ?_
      conv => whnf
      refine EndVC.mk _ rfl _ _ (⟨2, rfl, rfl, ⟨fun h => (by cases h), fun hC => absurd (hC.cd 5) h⟩⟩) ?_
      refine ⟨[], rfl, rfl, ?_, ?_⟩ <;> repeat' (first | exact trivial | exact rfl | exact Iff.rfl | apply And.intro)
    · refine Back.mk (7 - (5 + 1)) _ (by omega) ⟨5 + 1, by omega, rfl, fun j hj' => ?_, rfl⟩ ?_
      · rcases Nat.lt_succ_iff_lt_or_eq.1 hj' with h' | rfl
        · exact hj j h'
        · exact Classical.not_not.1 h
      · refine ⟨[], rfl, rfl, ?_, ?_⟩ <;> repeat' (first | exact trivial | exact rfl | exact Iff.rfl | apply And.intro)
  · repeat' ((conv => whnf); first | refine Rng.g ?_ | refine Ob.g ?_ | refine Ob.e ?_ | refine Ob.m ?_ | refine Ob.mk (Nat.le_of_ble_eq_true rfl) ?_ | refine JoinVC.on ?_ | refine Nils.mk (fun h => ?_) ?_ | refine Val.t ?_ | refine Val.d ?_ | refine Mm.mk ?_ | refine CallVC.pure rfl (k6) ?_ | refine CallVC0.pure rfl (k6) ?_ | (refine Br.mk (fun h => ?_) (fun h => ?_) <;> first | (exfalso; omega; done) | (exfalso; simp at h; done) | skip))
    · repeat refine Mm.mk ?_
      conv => whnf
      refine EndVC.mk _ rfl _ _ (⟨2, rfl, rfl, ⟨fun h => (by cases h), fun hC => absurd (hC.cd 6) h⟩⟩) ?_
      refine ⟨[], rfl, rfl, ?_, ?_⟩ <;> repeat' (first | exact trivial | exact rfl | exact Iff.rfl | apply And.intro)
    · refine Back.mk (7 - (6 + 1)) _ (by omega) ⟨6 + 1, by omega, rfl, fun j hj' => ?_, rfl⟩ ?_
      · rcases Nat.lt_succ_iff_lt_or_eq.1 hj' with h' | rfl
        · exact hj j h'
        · exact Classical.not_not.1 h
      · refine ⟨[], rfl, rfl, ?_, ?_⟩ <;> repeat' (first | exact trivial | exact rfl | exact Iff.rfl | apply And.intro)
  · repeat' ((conv => whnf); first | refine Rng.g ?_ | refine Ob.g ?_ | refine Ob.e ?_ | refine Ob.m ?_ | refine Ob.mk (Nat.le_of_ble_eq_true rfl) ?_ | refine JoinVC.on ?_ | refine Nils.mk (fun h => ?_) ?_ | refine Val.t ?_ | refine Val.d ?_ | refine Mm.mk ?_ | (refine Br.mk (fun h => ?_) (fun h => ?_) <;> first | (exfalso; omega; done) | (exfalso; simp at h; done) | skip))
    repeat refine Mm.mk ?_
    conv => whnf
    refine EndVC.mk _ rfl _ _ (⟨0, rfl, rfl, ⟨fun _ => ⟨hj 0 (by decide), hj 1 (by decide), hj 2 (by decide), hj 3 (by decide), hj 4 (by decide), hj 5 (by decide), hj 6 (by decide)⟩, fun _ => rfl⟩⟩) ?_
    refine ⟨[], rfl, rfl, ?_, ?_⟩ <;> repeat' (first | exact trivial | exact rfl | exact Iff.rfl | apply And.intro)
end Go.Sx

namespace Go.Sx
open Go Go.Proofs Go.Shelf Go.RowKit
set_option maxRecDepth 10000
set_option maxHeartbeats 1000000
def trimRen : Ren := ⟨fun | 160 => 341 | 232 => 355 | 231 => 354 | 227 => 356 | 234 => 358 | 233 => 357 | 236 => 360 | 235 => 359 | 228 => 366 | 271 => 369 | 151 => 368 | 197 => 367 | 120 => 373 | 152 => 372 | 260 => 371 | 137 => 374 | 119 => 375 | 224 => 376 | 225 => 377 | 217 => 378 | 266 => 379 | n => n, fun | 9 => 9 | 4 => 4 | 3 => 3 | 5 => 5 | 117 => 511 | 116 => 510 | 0 => 0 | 124 => 514 | 21 => 21 | 105 => 522 | 46 => 349 | 119 => 528 | 139 => 531 | 138 => 530 | n => n, fun | 3 => 1 | 4 => 2 | n => n⟩
theorem trimLays : Lays.n160 Tryz.prog trimRen where
  mixed := by kernel_rfl
  f119 := Tryz.func375.trans (congrArg some (by kernel_rfl))
  f120 := Tryz.func373.trans (congrArg some (by kernel_rfl))
  f137 := Tryz.func374.trans (congrArg some (by kernel_rfl))
  f151 := Tryz.func368.trans (congrArg some (by kernel_rfl))
  f152 := Tryz.func372.trans (congrArg some (by kernel_rfl))
  f160 := Tryz.func341.trans (congrArg some (by kernel_rfl))
  f197 := Tryz.func367.trans (congrArg some (by kernel_rfl))
  f217 := Tryz.func378.trans (congrArg some (by kernel_rfl))
  f224 := Tryz.func376.trans (congrArg some (by kernel_rfl))
  f225 := Tryz.func377.trans (congrArg some (by kernel_rfl))
  f227 := Tryz.func356.trans (congrArg some (by kernel_rfl))
  f228 := Tryz.func366.trans (congrArg some (by kernel_rfl))
  f231 := Tryz.func354.trans (congrArg some (by kernel_rfl))
  f232 := Tryz.func355.trans (congrArg some (by kernel_rfl))
  f233 := Tryz.func357.trans (congrArg some (by kernel_rfl))
  f234 := Tryz.func358.trans (congrArg some (by kernel_rfl))
  f235 := Tryz.func359.trans (congrArg some (by kernel_rfl))
  f236 := Tryz.func360.trans (congrArg some (by kernel_rfl))
  f260 := Tryz.func371.trans (congrArg some (by kernel_rfl))
  f266 := Tryz.func379.trans (congrArg some (by kernel_rfl))
  f271 := Tryz.func369.trans (congrArg some (by kernel_rfl))
  t0 := Tryz.underlying0
  a0 := Tryz.isAgg0
  z0 := Tryz.sizeOf0
  v0 := Tryz.zeroValue0
  t3 := Tryz.underlying3
  a3 := Tryz.isAgg3
  z3 := Tryz.sizeOf3
  v3 := Tryz.zeroValue3
  t4 := Tryz.underlying4
  a4 := Tryz.isAgg4
  z4 := Tryz.sizeOf4
  v4 := Tryz.zeroValue4
  t5 := Tryz.underlying5
  a5 := Tryz.isAgg5
  z5 := Tryz.sizeOf5
  v5 := Tryz.zeroValue5
  t9 := Tryz.underlying9
  a9 := Tryz.isAgg9
  z9 := Tryz.sizeOf9
  v9 := Tryz.zeroValue9
  t21 := Tryz.underlying21
  a21 := Tryz.isAgg21
  z21 := Tryz.sizeOf21
  v21 := Tryz.zeroValue21
  t46 := Tryz.underlying349
  a46 := Tryz.isAgg349
  z46 := Tryz.sizeOf349
  v46 := Tryz.zeroValue349
  t105 := Tryz.underlying522
  a105 := Tryz.isAgg522
  z105 := Tryz.sizeOf522
  v105 := Tryz.zeroValue522
  t116 := Tryz.underlying510
  a116 := Tryz.isAgg510
  z116 := Tryz.sizeOf510
  t117 := Tryz.underlying511
  a117 := Tryz.isAgg511
  z117 := Tryz.sizeOf511
  v117 := Tryz.zeroValue511
  t119 := Tryz.underlying528
  a119 := Tryz.isAgg528
  z119 := Tryz.sizeOf528
  t124 := Tryz.underlying514
  a124 := Tryz.isAgg514
  z124 := Tryz.sizeOf514
  v124 := Tryz.zeroValue514
  t138 := Tryz.underlying530
  a138 := Tryz.isAgg530
  z138 := Tryz.sizeOf530
  v138 := Tryz.zeroValue530
  t139 := Tryz.underlying531
  a139 := Tryz.isAgg531
  z139 := Tryz.sizeOf531
  v139 := Tryz.zeroValue531
  g3 := by kernel_rfl
  g4 := by kernel_rfl
theorem e341 : EntersF Tryz.prog 341 := enters_of Tryz.func341 (c := bodyOf Tryz.f341) (by kernel_rfl) rfl
theorem e325 : EntersF Tryz.prog 325 := enters_of Tryz.func325 (c := bodyOf Tryz.f325) (by kernel_rfl) rfl
theorem e275 : EntersF Tryz.prog 275 := enters_of Tryz.func275 (c := bodyOf Tryz.f275) (by kernel_rfl) rfl
theorem fr_below {w w' : World} {R : Rp} (h : MemOK w R []) (hb : Below w.heap.size w w') : Fr w R [] w' R [] :=
  ⟨hb.os, hb.tape, hb.output, hb.size, fun b hlt _ => hb.block b hlt, ⟨h.n, fun id b h => by simp at h, fun i j g h => by obtain ⟨b, h⟩ := h; simp at h, fun i g h => by obtain ⟨b, h⟩ := h; simp at h, fun b hI => Nat.lt_of_lt_of_le (h.lt b hI) hb.size, h.cell⟩, Nat.zero_le _, fun id h => absurd h (Nat.not_lt_zero id), fun b => Iff.rfl, fun b h => .inl h, fun i g h => by obtain ⟨b, h⟩ := h; simp at h⟩
theorem rep2 {w : World} {R : Rp} {a b : XV} {vs : Array Value} (h : RepXs w R [a, b] vs) : ∃ v u, vs = #[v, u] ∧ RepX w R a v ∧ RepX w R b u := by
  have h1 : vs.size = 2 := h.1
  have h2 := h.2 0 a rfl
  have h3 := h.2 1 b rfl
  obtain ⟨l⟩ := vs
  match l, h1 with
  | [v, u], _ => exact ⟨v, u, rfl, h2, h3⟩
theorem trimR_all (cs : List UInt8) (l : List UInt8) (h : ∀ b ∈ l, cs.contains b = true) : Lib.trimS l cs = [] := by
  have e : Lib.trimRightS l cs = [] := by
    unfold Lib.trimRightS
    have : ∀ m : List UInt8, (∀ b ∈ m, cs.contains b = true) → m.dropWhile (cs.contains ·) = [] := by
      intro m
      induction m with
      | nil => intro _; rfl
      | cons b m ih =>
        intro hm
        rw [List.dropWhile_cons, if_pos (hm b (by simp))]
        exact ih fun c hc => hm c (List.mem_cons_of_mem _ hc)
    first
      | (rw [this _ (fun b hb => h b (by simpa using hb))]; rfl)
      | (simp [this _ (fun b hb => h b (by simpa using hb))])
  unfold Lib.trimS
  rw [e]
  rfl
@[reducible] def cutS : ByteArray := ⟨#[97, 98, 99, 100, 101, 102, 103, 104, 105, 106, 107, 108, 109, 110, 111, 112, 113, 114, 115, 116, 117, 118, 119, 120, 121, 122, 48, 49, 50, 51, 52, 53, 54, 55, 56, 57]⟩
theorem cut_has (b : UInt8) (h : okC (b.toNat : Int)) : cutS.data.toList.contains b = true := by
  have key : ∀ n : Fin 256, (97 ≤ n.val ∧ n.val ≤ 122) ∨ (48 ≤ n.val ∧ n.val ≤ 57) → cutS.data.toList.contains (UInt8.ofNat n.val) = true := by decide +kernel
  have hb : b.toNat < 256 := b.toNat_lt
  have := key ⟨b.toNat, hb⟩ (by unfold okC at h; simp only; omega)
  simpa using this
theorem s341 (s : ByteArray) (h : nameOK s) : PSpec Tryz.prog 341 [.one (.str s), .one (.str cutS)] (.x (.one (.str ⟨#[]⟩))) := by
  intro w R vs hargs hmem
  obtain ⟨v, u, rfl, hv, hu⟩ := rep2 hargs
  have hv' : v = .string s := hv
  have hu' : u = .string cutS := hu
  subst hv' hu'
  have hc := Any.strings_Trim_laid trimLays (by kernel_rfl) s cutS w (by have := h.2.1; omega) (by decide) (ascii_of_all (by decide))
  have e : Lib.trimS s.data.toList cutS.data.toList = [] := by
    refine trimR_all _ _ fun b hb => cut_has b ?_
    obtain ⟨j, hj, rfl⟩ := List.getElem_of_mem hb
    have hj' : j < s.size := by simpa using hj
    have := h.2.2 j hj'
    unfold chr at this
    rwa [List.getD_eq_getElem?_getD, List.getElem?_eq_getElem hj] at this
  rw [e] at hc
  refine .inl ⟨e341 _ _, hc.mono fun e w' h => ?_⟩
  obtain ⟨rfl, hb⟩ := h
  exact ⟨_, _, _, R, rfl, ⟨rfl, rfl⟩, fr_below hmem hb, rfl⟩
theorem s325 (s : ByteArray) (hN : nameOK s) : PSpec Tryz.prog 325 [.one (.str s)] (xP True) := by
  have h1 := hN.1
  have h2 := hN.2.1
  have h0 : s ≠ ⟨#[]⟩ := fun e => by rw [e] at h1; exact absurd h1 (by decide)
  refine spec_of pMix (O := []) Tryz.func325 (c := bodyOf Tryz.f325) rfl (by kernel_rfl) (by kernel_rfl) Tryz.ntmps325 (res := [.tmp 2]) (by kernel_rfl) ?_
  repeat' ((conv => whnf); first | refine Rng.g ?_ | refine Ob.g ?_ | refine Ob.e ?_ | refine Ob.m ?_ | refine Ob.mk (Nat.le_of_ble_eq_true rfl) ?_ | refine JoinVC.on ?_ | refine Nils.mk (fun h => ?_) ?_ | refine Val.t ?_ | refine Val.d ?_ | refine Mm.mk ?_ | refine CallVC.pure rfl (s341 s hN) ?_ | refine CallVC0.pure rfl (s341 s hN) ?_ | (refine Br.mk (fun h => ?_) (fun h => ?_) <;> first | (exfalso; omega; done) | (exfalso; simp at h; done) | (exfalso; simp [h0] at h; done) | skip))
  repeat refine Mm.mk ?_
  refine EndVC.mk _ rfl _ _ ⟨rfl, rfl⟩ ?_
  refine ⟨[], rfl, rfl, ?_, ?_⟩ <;> repeat' (first | exact trivial | exact rfl | exact Iff.rfl | apply And.intro)
  show _ ↔ _
  simp
theorem s275 (t : Tak) (hN : t.ok) : PSpec Tryz.prog 275 [t.x] (.x (I 0)) := by
  have ll := smpA_len t.d
  have he : smpE t.d = 0 := smpE_0.2 ⟨hN.2.2.1, hN.2.2.2⟩
  have h1 := hN.2.1
  have c1 := s103 t.d
  rw [he] at c1
  refine spec_of pMix (O := []) Tryz.func275 (c := bodyOf Tryz.f275) rfl (by kernel_rfl) (by kernel_rfl) Tryz.ntmps275 (res := [.tmp 2]) (by kernel_rfl) ?_
  repeat' ((conv => whnf); first | refine Rng.g ?_ | refine Ob.g ?_ | refine Ob.e ?_ | refine Ob.m ?_ | refine Ob.mk (Nat.le_of_ble_eq_true rfl) ?_ | refine JoinVC.on ?_ | refine Nils.mk (fun h => ?_) ?_ | refine Val.t ?_ | refine Val.d ?_ | refine Mm.mk ?_ | refine CallVC.pure rfl (c1) ?_ | refine CallVC.pure rfl (s325 t.nm hN.1) ?_ | refine CallVC0.pure rfl (c1) ?_ | refine CallVC0.pure rfl (s325 t.nm hN.1) ?_ | (refine Br.mk (fun h => ?_) (fun h => ?_) <;> first | (exfalso; omega; done) | (exfalso; simp at h; done) | skip))
  all_goals
    repeat refine Mm.mk ?_
    refine EndVC.mk _ rfl _ _ ⟨rfl, rfl⟩ ?_
    refine ⟨[], rfl, rfl, ?_, ?_⟩ <;> repeat' (first | exact trivial | exact rfl | exact Iff.rfl | apply And.intro)
end Go.Sx

namespace Go.Sx
open Go Go.Proofs
set_option maxRecDepth 10000
set_option maxHeartbeats 2000000
/-- A programme is valid and possible. -/
structure ProgOK (T : List Tak) (l : List Prt) : Prop where
  takes : TaksOK T
  len : l.length ≤ 32
  parts : ∀ j, j < l.length → partOK T (l.getD j p0)
  poss : Poss l
theorem partOK.pb {T : List Tak} {p : Prt} (hT : TaksOK T) (h : partOK T p) : PB p := by
  unfold partOK at h
  have := (hT.each p.tk.toNat (by omega)).2.2.1
  exact ⟨by omega, by omega, by omega⟩
theorem ProgOK.pbs {T : List Tak} {l : List Prt} (h : ProgOK T l) : PBs l := ⟨h.len, fun j hj => (h.parts j hj).pb h.takes⟩
theorem s36 (T : List Tak) (l : List Prt) (hI : TakI T) : HSpec Tryz.prog 36 [lT T, lP l] [] (fun r m' => ∃ e, r = .x (I e) ∧ m' = [] ∧ (e = 0 ↔ ProgOK T l)) := by
  have ll := prtA_len l
  refine spec_of pMix (O := []) Tryz.func36 (c := bodyOf Tryz.f36) rfl (by kernel_rfl) (by kernel_rfl) Tryz.ntmps36 (res := [.tmp 4]) (by kernel_rfl) ?_
  repeat' ((conv => whnf); first | refine Rng.g ?_ | refine Ob.g ?_ | refine Ob.e ?_ | refine Ob.m ?_ | refine Ob.mk (Nat.le_of_ble_eq_true rfl) ?_ | refine JoinVC.on ?_ | refine Nils.mk (fun h => ?_) ?_ | refine Val.t ?_ | refine Val.d ?_ | refine Mm.mk ?_ | (refine Br.mk (fun h => ?_) (fun h => ?_) <;> first | (exfalso; omega; done) | (exfalso; simp at h; done) | skip))
  conv => whnf
  refine CallVC.mk [] _ _ _ rfl rfl rfl (s117 T hI) (fun r m' h' => ?_)
  obtain ⟨e, rfl, rfl, he⟩ := h'
  conv => whnf
  by_cases h0 : e = 0
  rotate_left
  · repeat' ((conv => whnf); first | refine Rng.g ?_ | refine Ob.g ?_ | refine Ob.e ?_ | refine Ob.m ?_ | refine Ob.mk (Nat.le_of_ble_eq_true rfl) ?_ | refine JoinVC.on ?_ | refine Nils.mk (fun h => ?_) ?_ | refine Val.t ?_ | refine Val.d ?_ | refine Mm.mk ?_ | (refine Br.mk (fun h => ?_) (fun h => ?_) <;> first | (exfalso; omega; done) | (exfalso; simp at h; done) | skip))
    conv => whnf
    refine CallVC.mk [] _ _ _ rfl rfl rfl (s117 T hI) (fun r m' h' => ?_)
    obtain ⟨e', rfl, rfl, he'⟩ := h'
    conv => whnf
    repeat' ((conv => whnf); first | refine Rng.g ?_ | refine Ob.g ?_ | refine Ob.e ?_ | refine Ob.m ?_ | refine Ob.mk (Nat.le_of_ble_eq_true rfl) ?_ | refine JoinVC.on ?_ | refine Nils.mk (fun h => ?_) ?_ | refine Val.t ?_ | refine Val.d ?_ | refine Mm.mk ?_ | (refine Br.mk (fun h => ?_) (fun h => ?_) <;> first | (exfalso; omega; done) | (exfalso; simp at h; done) | skip))
    repeat refine Mm.mk ?_
    conv => whnf
    refine EndVC.mk _ rfl _ _ (⟨e', rfl, rfl, ⟨fun h => absurd (he.2 (he'.1 h)) h0, fun h => absurd (he.2 h.takes) h0⟩⟩) ?_
    refine ⟨[], rfl, rfl, ?_, ?_⟩ <;> repeat' (first | exact trivial | exact rfl | exact Iff.rfl | apply And.intro)
  have hT := he.1 h0
  by_cases hl : 32 < l.length
  · repeat' ((conv => whnf); first | refine Rng.g ?_ | refine Ob.g ?_ | refine Ob.e ?_ | refine Ob.m ?_ | refine Ob.mk (Nat.le_of_ble_eq_true rfl) ?_ | refine JoinVC.on ?_ | refine Nils.mk (fun h => ?_) ?_ | refine Val.t ?_ | refine Val.d ?_ | refine Mm.mk ?_ | (refine Br.mk (fun h => ?_) (fun h => ?_) <;> first | (exfalso; omega; done) | (exfalso; simp at h; done) | skip))
    repeat refine Mm.mk ?_
    conv => whnf
    refine EndVC.mk _ rfl _ _ (⟨6, rfl, rfl, ⟨fun h => (by cases h), fun h => (by have := h.len; omega)⟩⟩) ?_
    refine ⟨[], rfl, rfl, ?_, ?_⟩ <;> repeat' (first | exact trivial | exact rfl | exact Iff.rfl | apply And.intro)
  repeat' ((conv => whnf); first | refine Rng.g ?_ | refine Ob.g ?_ | refine Ob.e ?_ | refine Ob.m ?_ | refine Ob.mk (Nat.le_of_ble_eq_true rfl) ?_ | refine JoinVC.on ?_ | refine Nils.mk (fun h => ?_) ?_ | refine Val.t ?_ | refine Val.d ?_ | refine Mm.mk ?_ | (refine Br.mk (fun h => ?_) (fun h => ?_) <;> first | (exfalso; omega; done) | (exfalso; simp at h; done) | skip))
  refine LoopVC.mk (fun n st => ∃ (i : Nat), i ≤ l.length ∧ n = l.length - i ∧ (∀ j, j < i → partOK T (l.getD j p0)) ∧ st = ⟨0, envA 30 [(0, .x (lT T)), (1, .x (lP l)), (5, .int .i64 (i : Int))], []⟩) _ _ ⟨0, Nat.zero_le _, rfl, fun j hj => absurd hj (Nat.not_lt_zero j), rfl⟩ ?_ ?_
  · refine ⟨[], rfl, rfl, ?_, ?_⟩ <;> repeat' (first | exact trivial | exact rfl | exact Iff.rfl | apply And.intro)
  rintro n _ ⟨i, hi, hn, hj, rfl⟩
  have c1 : PSpec Tryz.prog 118 [lT T, prtX l i] (xP (partOK T (l.getD i p0))) := by rw [prtX_eq]; exact s118 T _
  by_cases hi' : i < l.length
  · repeat' ((conv => whnf); first | refine Rng.g ?_ | refine Ob.g ?_ | refine Ob.e ?_ | refine Ob.m ?_ | refine Ob.mk (Nat.le_of_ble_eq_true rfl) ?_ | refine JoinVC.on ?_ | refine Nils.mk (fun h => ?_) ?_ | refine Val.t ?_ | refine Val.d ?_ | refine Mm.mk ?_ | refine CallVC.pure rfl (c1) ?_ | refine CallVC0.pure rfl (c1) ?_ | (refine Br.mk (fun h => ?_) (fun h => ?_) <;> first | (exfalso; omega; done) | (exfalso; simp at h; done) | skip))
    · repeat refine Mm.mk ?_
      conv => whnf
      refine EndVC.mk _ rfl _ _ (⟨2, rfl, rfl, ⟨fun h => (by cases h), fun h' => absurd (h'.parts i hi') h⟩⟩) ?_
      refine ⟨[], rfl, rfl, ?_, ?_⟩ <;> repeat' (first | exact trivial | exact rfl | exact Iff.rfl | apply And.intro)
    · refine Back.mk (l.length - (i + 1)) _ (by omega) ⟨i + 1, by omega, rfl, fun j hj' => ?_, rfl⟩ ?_
      · rcases Nat.lt_succ_iff_lt_or_eq.1 hj' with h' | rfl
        · exact hj j h'
        · exact Decidable.not_not.1 h
      · refine ⟨[], rfl, rfl, ?_, ?_⟩ <;> repeat' (first | exact trivial | exact rfl | exact Iff.rfl | apply And.intro)
  · have hp : ∀ j, j < l.length → partOK T (l.getD j p0) := fun j hj' => hj j (by omega)
    have hb : PBs l := ⟨by omega, fun j hj' => (hp j hj').pb hT⟩
    repeat' ((conv => whnf); first | refine Rng.g ?_ | refine Ob.g ?_ | refine Ob.e ?_ | refine Ob.m ?_ | refine Ob.mk (Nat.le_of_ble_eq_true rfl) ?_ | refine JoinVC.on ?_ | refine Nils.mk (fun h => ?_) ?_ | refine Val.t ?_ | refine Val.d ?_ | refine Mm.mk ?_ | refine CallVC.pure rfl (s119 l hb) ?_ | refine CallVC0.pure rfl (s119 l hb) ?_ | (refine Br.mk (fun h => ?_) (fun h => ?_) <;> first | (exfalso; omega; done) | (exfalso; simp at h; done) | skip))
    · repeat refine Mm.mk ?_
      conv => whnf
      refine EndVC.mk _ rfl _ _ (⟨15, rfl, rfl, ⟨fun h => (by cases h), fun h' => absurd h'.poss h⟩⟩) ?_
      refine ⟨[], rfl, rfl, ?_, ?_⟩ <;> repeat' (first | exact trivial | exact rfl | exact Iff.rfl | apply And.intro)
    · repeat refine Mm.mk ?_
      conv => whnf
      refine EndVC.mk _ rfl _ _ (⟨0, rfl, rfl, ⟨fun _ => ⟨hT, by omega, hp, Classical.not_not.1 h⟩, fun _ => rfl⟩⟩) ?_
      refine ⟨[], rfl, rfl, ?_, ?_⟩ <;> repeat' (first | exact trivial | exact rfl | exact Iff.rfl | apply And.intro)
theorem s37 (T : List Tak) (l : List Prt) (hI : TakI T) (hP : ProgOK T l) : HSpec Tryz.prog 37 [lT T, lP l] [] (fun r m' => r = .tup [.one (.own 0), I (endP l), I 0] ∧ m' = [some (rowN (begs l l.length))]) := by
  refine spec_of pMix (O := []) Tryz.func37 (c := bodyOf Tryz.f37) rfl (by kernel_rfl) (by kernel_rfl) Tryz.ntmps37 (res := [.tmp 4, .tmp 5, .tmp 6]) (by kernel_rfl) ?_
  repeat' ((conv => whnf); first | refine Rng.g ?_ | refine Ob.g ?_ | refine Ob.e ?_ | refine Ob.m ?_ | refine Ob.mk (Nat.le_of_ble_eq_true rfl) ?_ | refine JoinVC.on ?_ | refine Nils.mk (fun h => ?_) ?_ | refine Val.t ?_ | refine Val.d ?_ | refine Mm.mk ?_ | (refine Br.mk (fun h => ?_) (fun h => ?_) <;> first | (exfalso; omega; done) | (exfalso; simp at h; done) | skip))
  conv => whnf
  refine CallVC.mk [] _ _ _ rfl rfl rfl (s36 T l hI) (fun r m' h' => ?_)
  obtain ⟨e, rfl, rfl, he⟩ := h'
  conv => whnf
  have h0 := he.2 hP
  subst h0
  repeat' ((conv => whnf); first | refine Rng.g ?_ | refine Ob.g ?_ | refine Ob.e ?_ | refine Ob.m ?_ | refine Ob.mk (Nat.le_of_ble_eq_true rfl) ?_ | refine JoinVC.on ?_ | refine Nils.mk (fun h => ?_) ?_ | refine Val.t ?_ | refine Val.d ?_ | refine Mm.mk ?_ | (refine Br.mk (fun h => ?_) (fun h => ?_) <;> first | (exfalso; omega; done) | (exfalso; simp at h; done) | skip))
  conv => whnf
  refine CallVC.mk [] _ _ _ rfl rfl rfl (s120 l hP.pbs) (fun r m' h' => ?_)
  obtain ⟨rfl, rfl⟩ := h'
  conv => whnf
  repeat' ((conv => whnf); first | refine Rng.g ?_ | refine Ob.g ?_ | refine Ob.e ?_ | refine Ob.m ?_ | refine Ob.mk (Nat.le_of_ble_eq_true rfl) ?_ | refine JoinVC.on ?_ | refine Nils.mk (fun h => ?_) ?_ | refine Val.t ?_ | refine Val.d ?_ | refine Mm.mk ?_ | (refine Br.mk (fun h => ?_) (fun h => ?_) <;> first | (exfalso; omega; done) | (exfalso; simp at h; done) | skip))
  repeat refine Mm.mk ?_
  refine EndVC.mk _ rfl _ _ ⟨rfl, rfl⟩ ?_
  refine ⟨[some 0], rfl, rfl, ?_, ?_⟩ <;> repeat' (first | exact trivial | exact rfl | exact Iff.rfl | apply And.intro)
/-! ### Sounds -/
def upF (p : Prt) (k : Int) : Int := if p.inn < k then p.inn + 1 else k + 1
def dnF (p : Prt) (k : Int) : Int := if p.out < p.long - k - 1 then p.out + 1 else p.long - k
def denF (p : Prt) : Int := 1000 * (p.inn + 1) * (p.out + 1)
/-- The sound of a channel's sample. -/
def loudF (s : Int) (p : Prt) (k lev : Int) : Int := (s * lev * upF p k * dnF p k).tdiv (denF p)
/-- What is asked of a part's numbers. -/
structure PF (p : Prt) (k lev : Int) : Prop where
  pb : PB p
  inn : 0 ≤ p.inn ∧ p.inn ≤ 1000
  out : 0 ≤ p.out ∧ p.out ≤ 1000
  k : 0 ≤ k ∧ k < p.long
  lev : 0 ≤ lev ∧ lev ≤ 4000
theorem PF.up {p : Prt} {k lev : Int} (h : PF p k lev) : 1 ≤ upF p k ∧ upF p k ≤ p.inn + 1 := by
  have := h.inn; have := h.k
  unfold upF; split <;> omega
theorem PF.dn {p : Prt} {k lev : Int} (h : PF p k lev) : 1 ≤ dnF p k ∧ dnF p k ≤ p.out + 1 := by
  have := h.out; have := h.k
  unfold dnF; split <;> omega
theorem PF.den {p : Prt} {k lev : Int} (h : PF p k lev) : 1000 ≤ denF p ∧ denF p ≤ 1002001000 := by
  have h1 := h.inn; have h2 := h.out
  unfold denF
  have h3 := mul_rng (a := p.inn + 1) (b := p.out + 1) (A := 1001) (B := 1001) (by omega) (by omega)
  have h4 : 1 * 1 ≤ (p.inn + 1) * (p.out + 1) := Int.mul_le_mul (by omega) (by omega) (by omega) (by omega)
  rw [Int.mul_assoc]
  omega
theorem PF.steps {p : Prt} {s k lev : Int} (h : PF p k lev) (hs : -32767 ≤ s ∧ s ≤ 32767) : (-131068000 ≤ s * lev ∧ s * lev ≤ 131068000) ∧ (-131199068000 ≤ s * lev * upF p k ∧ s * lev * upF p k ≤ 131199068000) ∧ (-131330267068000 ≤ s * lev * upF p k * dnF p k ∧ s * lev * upF p k * dnF p k ≤ 131330267068000) := by
  have h1 := mul_rng (a := s) (b := lev) (A := 32767) (B := 4000) hs h.lev
  have hu := h.up; have hd := h.dn; have hi := h.inn; have ho := h.out
  have h2 := mul_rng (a := s * lev) (b := upF p k) (A := 131068000) (B := 1001) (by omega) (by omega)
  have h3 := mul_rng (a := s * lev * upF p k) (b := dnF p k) (A := 131199068000) (B := 1001) (by omega) (by omega)
  exact ⟨by omega, by omega, by omega⟩
theorem PF.loud {p : Prt} {s k lev : Int} (h : PF p k lev) (hs : -32767 ≤ s ∧ s ≤ 32767) : -131068 ≤ loudF s p k lev ∧ loudF s p k lev ≤ 131068 := by
  have hd := h.den
  have h1 := mul_rng (a := s) (b := lev) (A := 32767) (B := 4000) hs h.lev
  have hu := h.up; have hn := h.dn
  have hi := h.inn; have ho := h.out
  refine tdiv_rng (by omega) ?_
  have h2 := mul_rng (a := s * lev) (b := upF p k) (A := 131068000) (B := p.inn + 1) (by omega) (by omega)
  have h3 := mul_rng (a := s * lev * upF p k) (b := dnF p k) (A := 131068000 * (p.inn + 1)) (B := p.out + 1) h2 (by omega)
  have e : (131068 : Int) * denF p = 131068000 * (p.inn + 1) * (p.out + 1) := by
    unfold denF
    rw [← Int.mul_assoc, ← Int.mul_assoc]; rfl
  rw [e]
  exact h3
theorem e324 : EntersF Tryz.prog 324 := enters_of Tryz.func324 (c := bodyOf Tryz.f324) (by kernel_rfl) rfl
theorem e274 : EntersF Tryz.prog 274 := enters_of Tryz.func274 (c := bodyOf Tryz.f274) (by kernel_rfl) rfl
theorem s324 (s : Int) (p : Prt) (k lev : Int) (hs : -32767 ≤ s ∧ s ≤ 32767) (h : PF p k lev) : PSpec Tryz.prog 324 [I s, p.x, I k, I lev] (.x (I (loudF s p k lev))) := by
  have hp := h.pb
  have h1 := hp.fr; have h2 := hp.to; have h3 := h.inn; have h4 := h.out; have h5 := h.k; have h6 := h.lev
  have hst := h.steps hs
  have hd := h.den
  have hu : (if p.inn + 1 < k + 1 then p.inn + 1 else k + 1) = upF p k := by unfold upF; split <;> split <;> omega
  have hn : (if p.out + 1 < p.long - k then p.out + 1 else p.long - k) = dnF p k := by unfold dnF; split <;> split <;> omega
  have hL : p.long = p.to - p.fr := rfl
  have hup := h.up; have hdn := h.dn
  refine spec_of pMix (O := []) Tryz.func324 (c := bodyOf Tryz.f324) rfl (by kernel_rfl) (by kernel_rfl) Tryz.ntmps324 (res := [.tmp 8]) (by kernel_rfl) ?_
  have hd' : 1000 ≤ 1000 * (p.inn + 1) * (p.out + 1) ∧ 1000 * (p.inn + 1) * (p.out + 1) ≤ 1002001000 := hd
  have hlo := h.loud hs
  unfold loudF denF at hlo
  repeat' ((conv => whnf); first | rw [hu] | rw [hn] | refine Rng.g ?_ | refine Ob.g ?_ | refine Ob.e ?_ | refine Ob.m ?_ | refine Ob.mk (Nat.le_of_ble_eq_true rfl) ?_ | refine JoinVC.on ?_ | refine Nils.mk (fun h => ?_) ?_ | refine Val.t ?_ | refine Val.d ?_ | refine Mm.mk ?_ | refine CallVC.pure rfl (s210 p hp) ?_ | refine CallVC0.pure rfl (s210 p hp) ?_ | (refine Br.mk (fun h => ?_) (fun h => ?_) <;> first | (exfalso; omega; done) | (exfalso; simp at h; done) | skip))
  refine Val.mk _ rfl ?_
  repeat' ((conv => whnf); first | refine Rng.g ?_ | refine Ob.g ?_ | refine Ob.e ?_ | refine Ob.m ?_ | refine Ob.mk (Nat.le_of_ble_eq_true rfl) ?_ | refine JoinVC.on ?_ | refine Nils.mk (fun h => ?_) ?_ | refine Val.t ?_ | refine Val.d ?_ | refine Mm.mk ?_ | (refine Br.mk (fun h => ?_) (fun h => ?_) <;> first | (exfalso; omega; done) | (exfalso; simp at h; done) | skip))
  repeat refine Mm.mk ?_
  refine EndVC.mk _ rfl _ _ ⟨rfl, rfl⟩ ?_
  refine ⟨[], rfl, rfl, ?_, ?_⟩ <;> repeat' (first | exact trivial | exact rfl | exact Iff.rfl | apply And.intro)
/-- A part that may sound. -/
structure SF (T : List Tak) (p : Prt) (k lev : Int) : Prop where
  ok : partOK T p
  takes : TaksOK T
  k : 0 ≤ k ∧ k < p.long
  lev : 0 ≤ lev ∧ lev ≤ 4000
theorem SF.pf {T : List Tak} {p : Prt} {k lev : Int} (h : SF T p k lev) : PF p k lev := by
  have ho := h.ok
  have hb := ho.pb h.takes
  unfold partOK at ho
  exact ⟨hb, by omega, by omega, h.k, h.lev⟩
def smpAt (T : List Tak) (p : Prt) (k : Int) : Smp := (T.getD p.tk.toNat t0).d.getD (p.fr + k).toNat s0
def sndF (T : List Tak) (p : Prt) (k lev : Int) : Smp := ⟨loudF (smpAt T p k).l p k lev, loudF (smpAt T p k).r p k lev⟩
theorem SF.smp {T : List Tak} {p : Prt} {k lev : Int} (h : SF T p k lev) : (smpAt T p k).ok := by
  have ho := h.ok
  unfold partOK at ho
  have hk := h.k
  have hL : p.long = p.to - p.fr := rfl
  exact (h.takes.each p.tk.toNat (by omega)).2.2.2 _ (getD_mem' s0 (by omega))
theorem SF.snd {T : List Tak} {p : Prt} {k lev : Int} (h : SF T p k lev) : (-131068 ≤ (sndF T p k lev).l ∧ (sndF T p k lev).l ≤ 131068) ∧ (-131068 ≤ (sndF T p k lev).r ∧ (sndF T p k lev).r ≤ 131068) := by
  have hs := h.smp
  unfold Smp.ok at hs
  exact ⟨h.pf.loud (by omega), h.pf.loud (by omega)⟩
theorem s274 (T : List Tak) (p : Prt) (k lev : Int) (h : SF T p k lev) : PSpec Tryz.prog 274 [lT T, p.x, I k, I lev] (.x (sndF T p k lev).x) := by
  have lt := takA_len T
  have ho := h.ok
  unfold partOK at ho
  have hk := h.k
  have hL : p.long = p.to - p.fr := rfl
  have hb := h.pf.pb.to
  have gd : rA (takA T) p.tk.toNat (0 + (0 + 1)) = smpA (T.getD p.tk.toNat t0).d := takA_d T _
  have gl : (rA (takA T) p.tk.toNat (0 + (0 + 1))).length = (T.getD p.tk.toNat t0).d.length := (congrArg List.length gd).trans (smpA_len _)
  have hs := h.smp
  unfold Smp.ok at hs
  have c1 : PSpec Tryz.prog 324 [I (rI (rA (takA T) p.tk.toNat (0 + (0 + 1))) (p.fr + k).toNat 0), p.x, I k, I lev] (.x (I (sndF T p k lev).l)) := by
    rw [gd, smpA_l]; exact s324 _ p k lev (by unfold smpAt at hs; omega) h.pf
  have c2 : PSpec Tryz.prog 324 [I (rI (rA (takA T) p.tk.toNat (0 + (0 + 1))) (p.fr + k).toNat (0 + (0 + 1))), p.x, I k, I lev] (.x (I (sndF T p k lev).r)) := by
    rw [gd, smpA_r]; exact s324 _ p k lev (by unfold smpAt at hs; omega) h.pf
  refine spec_of pMix (O := [(1, ([12], [⟨0, [], []⟩, ⟨1, [], []⟩, ⟨2, [], []⟩, ⟨3, [], []⟩, ⟨4, [], []⟩, ⟨5, [], []⟩, ⟨6, [], []⟩, ⟨7, [], []⟩, ⟨8, [], []⟩, ⟨9, [], []⟩, ⟨10, [], []⟩, ⟨11, [], []⟩, ⟨12, [], []⟩, ⟨13, [], []⟩])), (2, ([], [⟨0, [], []⟩, ⟨1, [], []⟩, ⟨2, [], []⟩, ⟨3, [], []⟩, ⟨4, [], []⟩, ⟨6, [], []⟩, ⟨7, [], []⟩, ⟨8, [], []⟩, ⟨9, [], []⟩, ⟨10, [], []⟩, ⟨5, [6, 7, 8, 9, 10], []⟩, ⟨11, [], []⟩, ⟨12, [], []⟩, ⟨13, [], []⟩]))]) Tryz.func274 (c := bodyOf Tryz.f274) rfl (by kernel_rfl) (by kernel_rfl) Tryz.ntmps274 (res := [.cell 8 47]) (by kernel_rfl) ?_
  repeat' ((conv => whnf); first | refine Rng.g ?_ | refine Ob.g ?_ | refine Ob.e ?_ | refine Ob.m ?_ | refine Ob.mk (Nat.le_of_ble_eq_true rfl) ?_ | refine JoinVC.on ?_ | refine Nils.mk (fun h => ?_) ?_ | refine Val.t ?_ | refine Val.d ?_ | refine Mm.mk ?_ | refine CallVC.pure rfl (c1) ?_ | refine CallVC.pure rfl (c2) ?_ | refine CallVC0.pure rfl (c1) ?_ | refine CallVC0.pure rfl (c2) ?_ | (refine Br.mk (fun h => ?_) (fun h => ?_) <;> first | (exfalso; omega; done) | (exfalso; simp at h; done) | skip))
  repeat refine Mm.mk ?_
  refine EndVC.mk _ rfl _ _ ⟨rfl, rfl⟩ ?_
  refine ⟨[], rfl, rfl, ?_, ?_⟩ <;> repeat' (first | exact trivial | exact rfl | exact Iff.rfl | apply And.intro)
end Go.Sx

namespace Go.Sx
open Go Go.Proofs
set_option maxRecDepth 10000
set_option maxHeartbeats 2000000
theorem e273 : EntersF Tryz.prog 273 := enters_of Tryz.func273 (c := bodyOf Tryz.f273) (by kernel_rfl) rfl
theorem e195 : EntersF Tryz.prog 195 := enters_of Tryz.func195 (c := bodyOf Tryz.f195) (by kernel_rfl) rfl
theorem e98 : EntersF Tryz.prog 98 := enters_of Tryz.func98 (c := bodyOf Tryz.f98) (by kernel_rfl) rfl
/-- Does a part sound at a time? -/
def onB (l : List Prt) (t : Int) (i : Nat) : Bool := decide (begP l i ≤ t ∧ t < begP l i + (l.getD i p0).long)
def srcI (l : List Prt) (t : Int) (n : Nat) : List Nat := (List.range n).filter (onB l t)
theorem srcI_succ (l : List Prt) (t : Int) (n : Nat) : srcI l t (n + 1) = srcI l t n ++ (if onB l t n then [n] else []) := by
  unfold srcI
  rw [List.range_succ, List.filter_append]
  congr 1
  by_cases h : onB l t n = true
  · rw [if_pos h]; simp [h]
  · rw [if_neg h]; simp [h]
theorem srcI_mem {l : List Prt} {t : Int} {n i : Nat} (h : i ∈ srcI l t n) : i < n ∧ begP l i ≤ t ∧ t < begP l i + (l.getD i p0).long := by
  unfold srcI at h
  rw [List.mem_filter, List.mem_range] at h
  exact ⟨h.1, of_decide_eq_true h.2⟩
theorem srcI_len (l : List Prt) (t : Int) (n : Nat) : (srcI l t n).length ≤ n := by
  unfold srcI
  exact Nat.le_trans (List.length_filter_le _ _) (by simp)
def soR (l : List Prt) (t : Int) (i : Nat) : List Cell := [.int (i : Int), .int (l.getD i p0).tk, .int ((l.getD i p0).fr + t - begP l i)]
def srcA (l : List Prt) (t : Int) (L : List Nat) : Arr := L.map (soR l t)
theorem srcA_len (l : List Prt) (t : Int) (L : List Nat) : (srcA l t L).length = L.length := by simp [srcA]
theorem eb72 : Tryz.t72.bytes = 24 := by kernel_rfl
@[reducible] def K3i : List CK := [.int .i64, .int .i64, .int .i64]
theorem s273 (l : List Prt) (t : Int) (h : PBs l) (ht : 0 ≤ t ∧ t ≤ 5000) : HSpec Tryz.prog 273 [lP l, I t] [] (fun r m' => r = .x (.one (.own 0)) ∧ m' = [some (.row 72 false K3i (srcA l t (srcI l t l.length)))]) := by
  have ll := prtA_len l
  have h32 := h.1
  have lb : (i64s (begs l l.length)).length = l.length := by rw [i64s_len, begs_len]
  refine spec_of pMix (O := [(6, ([], [⟨0, [], []⟩, ⟨1, [], []⟩, ⟨2, [], []⟩, ⟨3, [], []⟩, ⟨4, [], []⟩, ⟨5, [], []⟩, ⟨6, [], []⟩, ⟨7, [], []⟩, ⟨8, [], []⟩, ⟨9, [], []⟩, ⟨10, [], []⟩, ⟨11, [], []⟩, ⟨12, [], []⟩, ⟨13, [], []⟩, ⟨14, [], []⟩, ⟨15, [], []⟩, ⟨16, [7, 8, 9, 10, 11], []⟩, ⟨17, [], []⟩, ⟨18, [], []⟩, ⟨19, [], []⟩])), (7, ([], [⟨0, [], []⟩, ⟨1, [], []⟩, ⟨2, [], []⟩, ⟨3, [], []⟩, ⟨4, [], []⟩, ⟨5, [], []⟩, ⟨6, [], []⟩, ⟨7, [], []⟩, ⟨8, [], []⟩, ⟨9, [], []⟩, ⟨10, [], []⟩, ⟨11, [], []⟩, ⟨12, [], []⟩, ⟨13, [], []⟩, ⟨14, [], []⟩, ⟨15, [], []⟩, ⟨16, [], []⟩, ⟨17, [], []⟩, ⟨18, [], []⟩, ⟨19, [], [20]⟩, ⟨20, [], []⟩, ⟨21, [], []⟩, ⟨22, [], []⟩]))]) Tryz.func273 (c := bodyOf Tryz.f273) rfl (by kernel_rfl) (by kernel_rfl) Tryz.ntmps273 (res := [.tmp 4]) (by kernel_rfl) ?_
  repeat' ((conv => whnf); first | refine Rng.g ?_ | refine Ob.g ?_ | refine Ob.e ?_ | refine Ob.m ?_ | refine Ob.mk (Nat.le_of_ble_eq_true rfl) ?_ | refine JoinVC.on ?_ | refine Nils.mk (fun h => ?_) ?_ | refine Val.t ?_ | refine Val.d ?_ | refine Mm.mk ?_ | (refine Br.mk (fun h => ?_) (fun h => ?_) <;> first | (exfalso; omega; done) | (exfalso; simp at h; done) | skip))
  conv => whnf
  refine CallVC.mk [] _ _ _ rfl rfl rfl (s120 l h) (fun r m' h' => ?_)
  obtain ⟨rfl, rfl⟩ := h'
  conv => whnf
  repeat' ((conv => whnf); first | refine Rng.g ?_ | refine Ob.g ?_ | refine Ob.e ?_ | refine Ob.m ?_ | refine Ob.mk (Nat.le_of_ble_eq_true rfl) ?_ | refine JoinVC.on ?_ | refine Nils.mk (fun h => ?_) ?_ | refine Val.t ?_ | refine Val.d ?_ | refine Mm.mk ?_ | (refine Br.mk (fun h => ?_) (fun h => ?_) <;> first | (exfalso; omega; done) | (exfalso; simp at h; done) | skip))
  refine LoopVC.mk (fun n st => ∃ (i : Nat), i ≤ l.length ∧ n = l.length - i ∧ st = ⟨0, envA 63 [(0, .x (lP l)), (1, .int .i64 t), (5, .x (.one (.own 1))), (6, .x (.one (.own 0))), (8, .int .i64 (i : Int))], [some (rowN (begs l l.length)), some (.row 72 false K3i (srcA l t (srcI l t i)))]⟩) _ _ ⟨0, Nat.zero_le _, rfl, rfl⟩ ?_ ?_
  · refine ⟨[some 0, none], rfl, rfl, ?_, ?_⟩ <;> repeat' (first | exact trivial | exact rfl | exact Iff.rfl | apply And.intro)
  rintro n _ ⟨i, hi, hn, rfl⟩
  by_cases hi' : i < l.length
  · have gb : rI (i64s (begs l l.length)) (i : Int).toNat 0 = begP l i := by rw [Int.toNat_natCast, i64s_get, begs_get _ _ _ hi']
    have g0 : rI (prtA l) (i : Int).toNat 0 = (l.getD i p0).tk := prtA_0 l i
    have g1 : rI (prtA l) (i : Int).toNat (0 + (0 + 1)) = (l.getD i p0).fr := prtA_1 l i
    have hp := h.2 i hi'
    have hpb := endP_bd h i (by omega)
    obtain ⟨h3, h4, h5⟩ := id hp
    have hlo : (l.getD i p0).long = (l.getD i p0).to - (l.getD i p0).fr := rfl
    have hbb : begP l i = endP (l.take i) + (l.getD i p0).gap := rfl
    have c1 : PSpec Tryz.prog 210 [prtX l i] (.x (I (l.getD i p0).long)) := by rw [prtX_eq]; exact s210 _ hp
    have hs := srcI_len l t i
    have ls := srcA_len l t (srcI l t i)
    by_cases hon : begP l i ≤ t ∧ t < begP l i + (l.getD i p0).long
    · have e : srcI l t (i + 1) = srcI l t i ++ [i] := by rw [srcI_succ, if_pos (show onB l t i = true from decide_eq_true hon)]
      repeat' ((conv => whnf); first | refine Rng.g ?_ | refine Ob.g ?_ | refine Ob.e ?_ | refine Ob.m ?_ | refine Ob.mk (Nat.le_of_ble_eq_true rfl) ?_ | refine JoinVC.on ?_ | refine Nils.mk (fun h => ?_) ?_ | refine Val.t ?_ | refine Val.d ?_ | refine Mm.mk ?_ | refine CallVC.pure rfl (c1) ?_ | refine CallVC0.pure rfl (c1) ?_ | (refine Br.mk (fun h => ?_) (fun h => ?_) <;> first | (exfalso; omega; done) | (exfalso; simp at h; done) | skip))
      repeat refine Mm.mk ?_
      refine Ob.mk (by simp only [ls, eb72, List.length_cons, List.length_nil]; omega) ?_
      repeat' ((conv => whnf); first | refine Rng.g ?_ | refine Ob.g ?_ | refine Ob.e ?_ | refine Ob.m ?_ | refine Ob.mk (Nat.le_of_ble_eq_true rfl) ?_ | refine JoinVC.on ?_ | refine Nils.mk (fun h => ?_) ?_ | refine Val.t ?_ | refine Val.d ?_ | refine Mm.mk ?_ | (refine Br.mk (fun h => ?_) (fun h => ?_) <;> first | (exfalso; omega; done) | (exfalso; simp at h; done) | skip))
      refine Back.mk (l.length - (i + 1)) _ (by omega) ⟨i + 1, by omega, rfl, rfl⟩ ?_
      rw [e]
      refine ⟨[some 0, some 3], rfl, rfl, ?_, ?_⟩ <;> repeat' (first | exact trivial | exact rfl | exact Iff.rfl | apply And.intro)
      rw [gb, g0, g1]
      simp [srcA, soR]
    · have e : srcI l t (i + 1) = srcI l t i := by rw [srcI_succ, if_neg (show ¬ onB l t i = true from fun h => hon (of_decide_eq_true h)), List.append_nil]
      repeat' ((conv => whnf); first | refine Rng.g ?_ | refine Ob.g ?_ | refine Ob.e ?_ | refine Ob.m ?_ | refine Ob.mk (Nat.le_of_ble_eq_true rfl) ?_ | refine JoinVC.on ?_ | refine Nils.mk (fun h => ?_) ?_ | refine Val.t ?_ | refine Val.d ?_ | refine Mm.mk ?_ | refine CallVC.pure rfl (c1) ?_ | refine CallVC0.pure rfl (c1) ?_ | (refine Br.mk (fun h => ?_) (fun h => ?_) <;> first | (exfalso; omega; done) | (exfalso; simp at h; done) | skip))
      all_goals
        refine Back.mk (l.length - (i + 1)) _ (by omega) ⟨i + 1, by omega, rfl, rfl⟩ ?_
        rw [e]
        refine ⟨[some 0, some 1], rfl, rfl, ?_, ?_⟩ <;> repeat' (first | exact trivial | exact rfl | exact Iff.rfl | apply And.intro)
  · have e2 : i = l.length := by omega
    subst e2
    repeat' ((conv => whnf); first | refine Rng.g ?_ | refine Ob.g ?_ | refine Ob.e ?_ | refine Ob.m ?_ | refine Ob.mk (Nat.le_of_ble_eq_true rfl) ?_ | refine JoinVC.on ?_ | refine Nils.mk (fun h => ?_) ?_ | refine Val.t ?_ | refine Val.d ?_ | refine Mm.mk ?_ | (refine Br.mk (fun h => ?_) (fun h => ?_) <;> first | (exfalso; omega; done) | (exfalso; simp at h; done) | skip))
    repeat refine Mm.mk ?_
    refine EndVC.mk _ rfl _ _ ⟨rfl, rfl⟩ ?_
    refine ⟨[some 1], rfl, rfl, ?_, ?_⟩ <;> repeat' (first | exact trivial | exact rfl | exact Iff.rfl | apply And.intro)
/-! ### What sounds at each time -/
def addS (a b : Smp) : Smp := ⟨a.l + b.l, a.r + b.r⟩
def sndI (T : List Tak) (l : List Prt) (t : Int) (i : Nat) : Smp := sndF T (l.getD i p0) (t - begP l i) (l.getD i p0).lev
def sumI (T : List Tak) (l : List Prt) (t : Int) (L : List Nat) : Smp := L.foldl (fun a i => addS a (sndI T l t i)) s0
theorem sumI_snoc (T : List Tak) (l : List Prt) (t : Int) (L : List Nat) (i : Nat) : sumI T l t (L ++ [i]) = addS (sumI T l t L) (sndI T l t i) := by unfold sumI; rw [List.foldl_append]; rfl
def rendAt (T : List Tak) (l : List Prt) (t : Int) : Smp := sumI T l t (srcI l t l.length)
def rend (T : List Tak) (l : List Prt) : List Smp := (List.range (endP l).toNat).map fun t : Nat => rendAt T l (t : Int)
theorem rend_len (T : List Tak) (l : List Prt) : (rend T l).length = (endP l).toNat := by simp [rend]
theorem rend_get (T : List Tak) (l : List Prt) (t : Nat) (h : t < (endP l).toNat) : (rend T l).getD t s0 = rendAt T l t := by
  simp [rend, List.getD_eq_getElem?_getD, List.getElem?_range h]
theorem begP_nonneg {l : List Prt} (hb : PBs l) (hP : Poss l) : ∀ i, i < l.length → 0 ≤ begP l i
  | 0, h => hP.first h
  | i + 1, h => by
    have ih := begP_nonneg hb hP i (by omega)
    have h1 := (hP.gap (i + 1) (by omega) h).2
    have h2 := endP_succ l (show i < l.length by omega)
    have h3 : i + 1 - 1 = i := by omega
    rw [h3] at h1
    unfold begP at ih ⊢
    unfold begP at h2
    omega
theorem endP_nonneg {l : List Prt} (hb : PBs l) (hP : Poss l) : 0 ≤ endP l := by
  by_cases h : l.length = 0
  · have : l = [] := List.eq_nil_of_length_eq_zero h
    subst this; exact Int.le_refl _
  · have h1 := begP_nonneg hb hP (l.length - 1) (by omega)
    have h2 := endP_succ l (show l.length - 1 < l.length by omega)
    have h3 : l.length - 1 + 1 = l.length := by omega
    rw [h3, List.take_length] at h2
    have h4 := (hb.2 (l.length - 1) (by omega)).fr
    unfold Prt.long at h2
    omega
theorem ProgOK.sf {T : List Tak} {l : List Prt} (h : ProgOK T l) {t : Int} {i : Nat} (hi : i ∈ srcI l t l.length) : SF T (l.getD i p0) (t - begP l i) (l.getD i p0).lev := by
  obtain ⟨h1, h2, h3⟩ := srcI_mem hi
  have h4 := h.parts i h1
  have h5 := h4
  unfold partOK at h5
  exact ⟨h4, h.takes, by omega, by omega⟩
theorem sumI_bd {T : List Tak} {l : List Prt} {t : Int} : ∀ {L : List Nat}, (∀ i ∈ L, SF T (l.getD i p0) (t - begP l i) (l.getD i p0).lev) → (-131068 * (L.length : Int) ≤ (sumI T l t L).l ∧ (sumI T l t L).l ≤ 131068 * L.length) ∧ (-131068 * (L.length : Int) ≤ (sumI T l t L).r ∧ (sumI T l t L).r ≤ 131068 * L.length) := by
  intro L
  refine snoc_ind (p := fun L : List Nat => (∀ i ∈ L, SF T (l.getD i p0) (t - begP l i) (l.getD i p0).lev) → (-131068 * (L.length : Int) ≤ (sumI T l t L).l ∧ (sumI T l t L).l ≤ 131068 * L.length) ∧ (-131068 * (L.length : Int) ≤ (sumI T l t L).r ∧ (sumI T l t L).r ≤ 131068 * L.length)) ?_ ?_ L
  · intro _; simp [sumI]
  · intro L i ih h
    have h1 := ih (fun j hj => h j (List.mem_append_left _ hj))
    have h2 := (h i (by simp)).snd
    rw [sumI_snoc, List.length_append, List.length_cons, List.length_nil]
    unfold addS sndI
    simp only
    omega
theorem smpA_setl (O : List Smp) (i : Nat) (v : Int) (h : i < O.length) : updRow (smpA O) i 0 [.int v] = smpA (O.set i ⟨v, (O.getD i s0).r⟩) := by
  have e : (smpA O).getD i [] = [.int (O.getD i s0).l, .int (O.getD i s0).r] := by simp [smpA, List.getD_eq_getElem?_getD, h]
  unfold updRow
  rw [e]
  simp [smpA, setAll, List.map_set]
theorem smpA_setr (O : List Smp) (i : Nat) (v : Int) (h : i < O.length) : updRow (smpA O) i (0 + 1) [.int v] = smpA (O.set i ⟨(O.getD i s0).l, v⟩) := by
  have e : (smpA O).getD i [] = [.int (O.getD i s0).l, .int (O.getD i s0).r] := by simp [smpA, List.getD_eq_getElem?_getD, h]
  unfold updRow
  rw [e]
  simp [smpA, setAll, List.map_set]
theorem smpA_set (O : List Smp) (i : Nat) (s : Smp) (h : i < O.length) : updRow (smpA O) i 0 [.int s.l, .int s.r] = smpA (O.set i s) := by
  have e : (smpA O).getD i [] = [.int (O.getD i s0).l, .int (O.getD i s0).r] := by simp [smpA, List.getD_eq_getElem?_getD, h]
  unfold updRow
  rw [e]
  simp [smpA, setAll, List.map_set]
theorem smpA_rep (n : Nat) : List.replicate n [Cell.int 0, Cell.int 0] = smpA (List.replicate n s0) := by simp [smpA]
end Go.Sx

namespace Go.Sx
open Go Go.Proofs
set_option maxRecDepth 10000
set_option maxHeartbeats 4000000
@[reducible] def rowS (O : List Smp) : Blk := .row 47 false KS (smpA O)
theorem eb47 : Tryz.t47.bytes = 16 := by kernel_rfl
/-- What is rendered up to a time. -/
structure Upto (T : List Tak) (l : List Prt) (O : List Smp) (i : Nat) (a : Smp) : Prop where
  len : O.length = (endP l).toNat
  done : ∀ j, j < i → O.getD j s0 = rendAt T l j
  at' : O.getD i s0 = a
  rest : ∀ j, i < j → O.getD j s0 = s0
theorem Upto.set {T : List Tak} {l : List Prt} {O : List Smp} {i : Nat} {a : Smp} (h : Upto T l O i a) (hi : i < O.length) (b : Smp) : Upto T l (O.set i b) i b := by
  refine ⟨by rw [List.length_set]; exact h.len, fun j hj => ?_, ?_, fun j hj => ?_⟩
  · rw [getD_set' _ _ _ _ _ hi, if_neg (by omega)]; exact h.done j hj
  · rw [getD_set' _ _ _ _ _ hi, if_pos rfl]
  · rw [getD_set' _ _ _ _ _ hi, if_neg (by omega)]; exact h.rest j hj
theorem Upto.next {T : List Tak} {l : List Prt} {O : List Smp} {i : Nat} (h : Upto T l O i (rendAt T l i)) : Upto T l O (i + 1) s0 := by
  refine ⟨h.len, fun j hj => ?_, h.rest _ (Nat.lt_succ_self i), fun j hj => h.rest j (by omega)⟩
  rcases Nat.lt_succ_iff_lt_or_eq.1 hj with h' | rfl
  · exact h.done j h'
  · exact h.at'
theorem Upto.fin {T : List Tak} {l : List Prt} {O : List Smp} {a : Smp} (h : Upto T l O (endP l).toNat a) : O = rend T l := by
  refine List.ext_getElem (by rw [h.len, rend_len]) fun j h1 h2 => ?_
  have h3 := h.done j (by rw [← h.len]; exact h1)
  rw [← rend_get T l j (by rw [← h.len]; exact h1)] at h3
  simpa [List.getD_eq_getElem?_getD, h1, h2] using h3
theorem soA_0 (l : List Prt) (t : Int) (L : List Nat) (k : Nat) (h : k < L.length) : rI (srcA l t L) k 0 = (L.getD k 0 : Nat) := by
  simp [rI, cellAt, srcA, List.getD_eq_getElem?_getD, h, soR, Cell.toInt]
theorem soA_2 (l : List Prt) (t : Int) (L : List Nat) (k : Nat) (h : k < L.length) : rI (srcA l t L) k (0 + 1 + 1) = (l.getD (L.getD k 0) p0).fr + t - begP l (L.getD k 0) := by
  simp [rI, cellAt, srcA, List.getD_eq_getElem?_getD, h, soR, Cell.toInt]
theorem s195 (T : List Tak) (l : List Prt) (hP : ProgOK T l) : HSpec Tryz.prog 195 [lT T, lP l, I 1000, .one .ff] [] (fun r m' => r = .x (.one (.own 0)) ∧ m' = [some (rowS (rend T l))]) := by
  have ll := prtA_len l
  have hb := hP.pbs
  have h32 := hb.1
  have he := endP_nonneg hb hP.poss
  have he2 := hP.poss.stop
  refine spec_of pMix (O := [(11, ([16], [⟨0, [], []⟩, ⟨1, [], []⟩, ⟨2, [], []⟩, ⟨3, [], []⟩, ⟨4, [], []⟩, ⟨5, [], []⟩, ⟨6, [], []⟩, ⟨7, [], []⟩, ⟨8, [], []⟩, ⟨9, [], []⟩, ⟨10, [], []⟩, ⟨11, [], []⟩, ⟨12, [], []⟩, ⟨13, [], []⟩, ⟨14, [], []⟩, ⟨15, [], []⟩, ⟨16, [], []⟩, ⟨17, [], []⟩])), (13, ([], [⟨0, [], []⟩, ⟨1, [], []⟩, ⟨3, [], []⟩, ⟨4, [], []⟩, ⟨2, [3, 4], []⟩, ⟨5, [], []⟩, ⟨6, [], []⟩, ⟨7, [], []⟩]))]) Tryz.func195 (c := bodyOf Tryz.f195) rfl (by kernel_rfl) (by kernel_rfl) Tryz.ntmps195 (res := [.tmp 8]) (by kernel_rfl) ?_
  repeat' ((conv => whnf); first | refine Rng.g ?_ | refine Ob.g ?_ | refine Ob.e ?_ | refine Ob.m ?_ | refine Ob.mk (Nat.le_of_ble_eq_true rfl) ?_ | refine JoinVC.on ?_ | refine Nils.mk (fun h => ?_) ?_ | refine Val.t ?_ | refine Val.d ?_ | refine Mm.mk ?_ | (refine Br.mk (fun h => ?_) (fun h => ?_) <;> first | (exfalso; omega; done) | (exfalso; simp at h; done) | skip))
  conv => whnf
  refine CallVC.mk [] _ _ _ rfl rfl rfl (s120 l hb) (fun r m' h' => ?_)
  obtain ⟨rfl, rfl⟩ := h'
  conv => whnf
  repeat' ((conv => whnf); first | refine Rng.g ?_ | refine Ob.g ?_ | refine Ob.e ?_ | refine Ob.m ?_ | refine Ob.mk (Nat.le_of_ble_eq_true rfl) ?_ | refine JoinVC.on ?_ | refine Nils.mk (fun h => ?_) ?_ | refine Val.t ?_ | refine Val.d ?_ | refine Mm.mk ?_ | (refine Br.mk (fun h => ?_) (fun h => ?_) <;> first | (exfalso; omega; done) | (exfalso; simp at h; done) | skip))
  repeat refine Mm.mk ?_
  refine Ob.mk (by simp only [eb47]; omega) ?_
  repeat' ((conv => whnf); first | refine Rng.g ?_ | refine Ob.g ?_ | refine Ob.e ?_ | refine Ob.m ?_ | refine Ob.mk (Nat.le_of_ble_eq_true rfl) ?_ | refine JoinVC.on ?_ | refine Nils.mk (fun h => ?_) ?_ | refine Val.t ?_ | refine Val.d ?_ | refine Mm.mk ?_ | (refine Br.mk (fun h => ?_) (fun h => ?_) <;> first | (exfalso; omega; done) | (exfalso; simp at h; done) | skip))
  refine LoopVC.mk (fun n st => ∃ (i : Nat) (O : List Smp), (i : Int) ≤ endP l ∧ n = (endP l).toNat - i ∧ Upto T l O i s0 ∧ st = ⟨0, envA 91 [(0, .x (lT T)), (1, .x (lP l)), (2, .x (I 1000)), (3, .x (.one .ff)), (10, .int .i64 (endP l)), (11, .x (.one (.own 0))), (12, .int .i64 (i : Int))], [some (rowS O)]⟩) _ _ ⟨0, List.replicate (endP l).toNat s0, by omega, rfl, ⟨by simp, fun j hj => absurd hj (Nat.not_lt_zero j), by simp [List.getD_eq_getElem?_getD, List.getElem?_replicate]; split <;> rfl, fun j hj => by simp [List.getD_eq_getElem?_getD, List.getElem?_replicate]; split <;> rfl⟩, rfl⟩ ?_ ?_
  · refine ⟨[some 1], rfl, rfl, ?_, ?_⟩ <;> repeat' (first | exact trivial | exact rfl | exact Iff.rfl | apply And.intro)
    exact smpA_rep _
  rintro n _ ⟨i, O, hi, hn, hO, rfl⟩
  by_cases hi' : (i : Int) < endP l
  · have lO := smpA_len O
    have hOl := hO.len
    repeat' ((conv => whnf); first | refine Rng.g ?_ | refine Ob.g ?_ | refine Ob.e ?_ | refine Ob.m ?_ | refine Ob.mk (Nat.le_of_ble_eq_true rfl) ?_ | refine JoinVC.on ?_ | refine Nils.mk (fun h => ?_) ?_ | refine Val.t ?_ | refine Val.d ?_ | refine Mm.mk ?_ | (refine Br.mk (fun h => ?_) (fun h => ?_) <;> first | (exfalso; omega; done) | (exfalso; simp at h; done) | skip))
    conv => whnf
    refine CallVC.mk [] _ _ _ rfl rfl rfl (s273 l i hb ⟨by omega, by omega⟩) (fun r m' h' => ?_)
    obtain ⟨rfl, rfl⟩ := h'
    conv => whnf
    repeat' ((conv => whnf); first | refine Rng.g ?_ | refine Ob.g ?_ | refine Ob.e ?_ | refine Ob.m ?_ | refine Ob.mk (Nat.le_of_ble_eq_true rfl) ?_ | refine JoinVC.on ?_ | refine Nils.mk (fun h => ?_) ?_ | refine Val.t ?_ | refine Val.d ?_ | refine Mm.mk ?_ | (refine Br.mk (fun h => ?_) (fun h => ?_) <;> first | (exfalso; omega; done) | (exfalso; simp at h; done) | skip))
    obtain ⟨L, hL⟩ : ∃ L, L = srcI l i l.length := ⟨_, rfl⟩
    rw [← hL]
    have hLl := srcI_len l i l.length
    rw [← hL] at hLl
    have lA := srcA_len l i L
    refine LoopVC.mk (fun n st => ∃ (k : Nat) (O : List Smp), k ≤ L.length ∧ n = L.length - k ∧ Upto T l O i (sumI T l i (L.take k)) ∧ st = ⟨0, envA 91 [(0, .x (lT T)), (1, .x (lP l)), (2, .x (I 1000)), (3, .x (.one .ff)), (10, .int .i64 (endP l)), (11, .x (.one (.own 0))), (12, .int .i64 (i : Int)), (13, .x (.one (.own 1))), (14, .int .i64 (k : Int))], [some (rowS O), some (.row 72 false K3i (srcA l i L))]⟩) _ _ ⟨0, O, Nat.zero_le _, rfl, hO, rfl⟩ ?_ ?_
    · refine ⟨[some 0, some 1], rfl, rfl, ?_, ?_⟩ <;> repeat' (first | exact trivial | exact rfl | exact Iff.rfl | apply And.intro)
    clear hO lO hOl
    rintro n2 _ ⟨k, O, hk, hn2, hO, rfl⟩
    have lO := smpA_len O
    have hOl := hO.len
    by_cases hk' : k < L.length
    · obtain ⟨q, hq⟩ : ∃ q, q = L.getD k 0 := ⟨_, rfl⟩
      have hqm : q ∈ L := by rw [hq]; exact getD_mem' 0 hk'
      have hsf := hP.sf (by rw [← hL]; exact hqm)
      obtain ⟨m1, m2, m3⟩ := srcI_mem (by rw [← hL]; exact hqm)
      have hbd := sumI_bd (T := T) (l := l) (t := i) (L := L.take k) (fun j hj => hP.sf (by rw [← hL]; exact List.mem_of_mem_take hj))
      have hlk : (L.take k).length = k := by rw [List.length_take]; omega
      rw [hlk] at hbd
      have hsn : (-131068 ≤ (sndI T l i q).l ∧ (sndI T l i q).l ≤ 131068) ∧ (-131068 ≤ (sndI T l i q).r ∧ (sndI T l i q).r ≤ 131068) := hsf.snd
      have hst : L.take (k + 1) = L.take k ++ [q] := by rw [hq]; exact take_snoc L k 0 hk'
      have e0 : rI (srcA l i L) (k : Int).toNat 0 = (q : Int) := by rw [hq]; exact soA_0 l i L k hk'
      have e2 : rI (srcA l i L) (k : Int).toNat (0 + 1 + 1) = (l.getD q p0).fr + i - begP l q := by rw [hq]; exact soA_2 l i L k hk'
      have eq : (rI (srcA l i L) (k : Int).toNat 0).toNat = q := by rw [e0]; exact Int.toNat_natCast q
      have g1 : rI (prtA l) (rI (srcA l i L) (k : Int).toNat 0).toNat (0 + 1) = (l.getD q p0).fr := by rw [eq]; exact prtA_1 l q
      have g6 : rI (prtA l) (rI (srcA l i L) (k : Int).toNat 0).toNat (0 + 1 + 1 + 1 + 1 + 1 + 1) = (l.getD q p0).lev := by rw [eq]; exact prtA_6 l q
      have hlev := hsf.lev
      have hkk := hsf.k
      have hpb := hsf.pf.pb
      obtain ⟨b1, b2, b3⟩ := hpb
      have hlo : (l.getD q p0).long = (l.getD q p0).to - (l.getD q p0).fr := rfl
      have c1 : PSpec Tryz.prog 274 [lT T, prtX l (rI (srcA l i L) (k : Int).toNat 0).toNat, I (rI (srcA l i L) (k : Int).toNat (0 + 1 + 1) - rI (prtA l) (rI (srcA l i L) (k : Int).toNat 0).toNat (0 + 1)), I (rI (prtA l) (rI (srcA l i L) (k : Int).toNat 0).toNat (0 + 1 + 1 + 1 + 1 + 1 + 1) * 1000 / 1000)] (.x (sndI T l i q).x) := by
        rw [e2, g1, g6, eq, prtX_eq, Int.mul_ediv_cancel _ (by decide)]
        have : (l.getD q p0).fr + (i : Int) - begP l q - (l.getD q p0).fr = i - begP l q := by omega
        rw [this]
        exact s274 T _ _ _ hsf
      have a0 : rI (smpA O) (i : Int).toNat 0 = (sumI T l i (L.take k)).l := by rw [Int.toNat_natCast, smpA_l, hO.at']
      have a1 : rI (smpA O) (i : Int).toNat (0 + 1) = (sumI T l i (L.take k)).r := by rw [Int.toNat_natCast, smpA_r, hO.at']
      have hiO : i < O.length := by omega
      obtain ⟨O1, hO1⟩ : ∃ O1, O1 = O.set i ⟨rI (smpA O) (i : Int).toNat 0 + (sndI T l i q).l, (O.getD i s0).r⟩ := ⟨_, rfl⟩
      have u1 : updRow (smpA O) (i : Int).toNat 0 [.int (rI (smpA O) (i : Int).toNat 0 + (sndI T l i q).l)] = smpA O1 := by rw [hO1, Int.toNat_natCast]; exact smpA_setl O i _ hiO
      have lO1 : (smpA O1).length = O.length := by rw [smpA_len, hO1, List.length_set]
      have a2 : rI (smpA O1) (i : Int).toNat (0 + 1) = (sumI T l i (L.take k)).r := by rw [Int.toNat_natCast, smpA_r, hO1, getD_set' _ _ _ _ _ hiO, if_pos rfl]; rw [hO.at']
      have u2 : updRow (smpA O1) (i : Int).toNat (0 + 1) [.int (rI (smpA O1) (i : Int).toNat (0 + 1) + (sndI T l i q).r)] = smpA (O.set i (addS (sumI T l i (L.take k)) (sndI T l i q))) := by
        rw [a2, Int.toNat_natCast, smpA_setr O1 i _ (by rw [hO1, List.length_set]; exact hiO), hO1, getD_set' _ _ _ _ _ hiO, if_pos rfl, List.set_set]
        simp only [addS, a0]
      repeat' ((conv => whnf); first | rw [u1] | rw [u2] | refine Rng.g ?_ | refine Ob.g ?_ | refine Ob.e ?_ | refine Ob.m ?_ | refine Ob.mk (Nat.le_of_ble_eq_true rfl) ?_ | refine JoinVC.on ?_ | refine Nils.mk (fun h => ?_) ?_ | refine Val.t ?_ | refine Val.d ?_ | refine Mm.mk ?_ | refine CallVC.pure rfl (c1) ?_ | refine CallVC0.pure rfl (c1) ?_ | (refine Br.mk (fun h => ?_) (fun h => ?_) <;> first | (exfalso; omega; done) | (exfalso; simp at h; done) | skip))
      refine Back.mk (L.length - (k + 1)) _ (by omega) ⟨k + 1, _, by omega, rfl, hO.set hiO _, rfl⟩ ?_
      rw [hst, sumI_snoc]
      refine ⟨[some 0, some 1], rfl, rfl, ?_, ?_⟩ <;> repeat' (first | exact trivial | exact rfl | exact Iff.rfl | apply And.intro)
    · have e1 : L.take k = L := List.take_of_length_le (by omega)
      rw [e1, hL] at hO
      repeat' ((conv => whnf); first | refine Rng.g ?_ | refine Ob.g ?_ | refine Ob.e ?_ | refine Ob.m ?_ | refine Ob.mk (Nat.le_of_ble_eq_true rfl) ?_ | refine JoinVC.on ?_ | refine Nils.mk (fun h => ?_) ?_ | refine Val.t ?_ | refine Val.d ?_ | refine Mm.mk ?_ | (refine Br.mk (fun h => ?_) (fun h => ?_) <;> first | (exfalso; omega; done) | (exfalso; simp at h; done) | skip))
      refine Back.mk ((endP l).toNat - (i + 1)) _ (by omega) ⟨i + 1, O, by omega, rfl, hO.next, rfl⟩ ?_
      refine ⟨[some 0], rfl, rfl, ?_, ?_⟩ <;> repeat' (first | exact trivial | exact rfl | exact Iff.rfl | apply And.intro)
  · have e1 : i = (endP l).toNat := by omega
    rw [e1] at hO
    rw [← hO.fin]
    repeat' ((conv => whnf); first | refine Rng.g ?_ | refine Ob.g ?_ | refine Ob.e ?_ | refine Ob.m ?_ | refine Ob.mk (Nat.le_of_ble_eq_true rfl) ?_ | refine JoinVC.on ?_ | refine Nils.mk (fun h => ?_) ?_ | refine Val.t ?_ | refine Val.d ?_ | refine Mm.mk ?_ | (refine Br.mk (fun h => ?_) (fun h => ?_) <;> first | (exfalso; omega; done) | (exfalso; simp at h; done) | skip))
    repeat refine Mm.mk ?_
    refine EndVC.mk _ rfl _ _ ⟨rfl, rfl⟩ ?_
    refine ⟨[some 0], rfl, rfl, ?_, ?_⟩ <;> repeat' (first | exact trivial | exact rfl | exact Iff.rfl | apply And.intro)
/-- The samples of the given numbers are machine numbers. -/
theorem rend_bd {T : List Tak} {l : List Prt} (hP : ProgOK T l) (j : Nat) : (-5000000 ≤ ((rend T l).getD j s0).l ∧ ((rend T l).getD j s0).l ≤ 5000000) ∧ (-5000000 ≤ ((rend T l).getD j s0).r ∧ ((rend T l).getD j s0).r ≤ 5000000) := by
  by_cases hj : j < (endP l).toNat
  · rw [rend_get _ _ _ hj]
    have h1 := sumI_bd (T := T) (l := l) (t := j) (L := srcI l j l.length) (fun i hi => hP.sf hi)
    have h2 := srcI_len l j l.length
    have h3 := hP.len
    unfold rendAt
    omega
  · rw [List.getD_eq_getElem?_getD, List.getElem?_eq_none (by rw [rend_len]; omega)]
    simp
theorem s98 (T : List Tak) (l : List Prt) (hI : TakI T) (hP : ProgOK T l) : HSpec Tryz.prog 98 [lT T, lP l] [] (fun r m' => (smpE (rend T l) = 0 ∧ r = .tup [.one (.own 0), I 0] ∧ m' = [some (rowS (rend T l))]) ∨ (smpE (rend T l) ≠ 0 ∧ r = .tup [.one .nils, I 4] ∧ m' = [])) := by
  refine spec_of pMix (O := []) Tryz.func98 (c := bodyOf Tryz.f98) rfl (by kernel_rfl) (by kernel_rfl) Tryz.ntmps98 (res := [.tmp 4, .tmp 5]) (by kernel_rfl) ?_
  repeat' ((conv => whnf); first | refine Rng.g ?_ | refine Ob.g ?_ | refine Ob.e ?_ | refine Ob.m ?_ | refine Ob.mk (Nat.le_of_ble_eq_true rfl) ?_ | refine JoinVC.on ?_ | refine Nils.mk (fun h => ?_) ?_ | refine Val.t ?_ | refine Val.d ?_ | refine Mm.mk ?_ | (refine Br.mk (fun h => ?_) (fun h => ?_) <;> first | (exfalso; omega; done) | (exfalso; simp at h; done) | skip))
  conv => whnf
  refine CallVC.mk [] _ _ _ rfl rfl rfl (s36 T l hI) (fun r m' h' => ?_)
  obtain ⟨e, rfl, rfl, he⟩ := h'
  conv => whnf
  have h0 := he.2 hP
  subst h0
  repeat' ((conv => whnf); first | refine Rng.g ?_ | refine Ob.g ?_ | refine Ob.e ?_ | refine Ob.m ?_ | refine Ob.mk (Nat.le_of_ble_eq_true rfl) ?_ | refine JoinVC.on ?_ | refine Nils.mk (fun h => ?_) ?_ | refine Val.t ?_ | refine Val.d ?_ | refine Mm.mk ?_ | (refine Br.mk (fun h => ?_) (fun h => ?_) <;> first | (exfalso; omega; done) | (exfalso; simp at h; done) | skip))
  conv => whnf
  refine CallVC.mk [] _ _ _ rfl rfl rfl (s195 T l hP) (fun r m' h' => ?_)
  obtain ⟨rfl, rfl⟩ := h'
  conv => whnf
  have c1 := s58 (rend T l) (fun j => by have := rend_bd hP j; unfold inI; omega)
  by_cases hE : smpE (rend T l) = 0
  · repeat' ((conv => whnf); first | refine Rng.g ?_ | refine Ob.g ?_ | refine Ob.e ?_ | refine Ob.m ?_ | refine Ob.mk (Nat.le_of_ble_eq_true rfl) ?_ | refine JoinVC.on ?_ | refine Nils.mk (fun h => ?_) ?_ | refine Val.t ?_ | refine Val.d ?_ | refine Mm.mk ?_ | refine CallVC.pure rfl (c1) ?_ | refine CallVC0.pure rfl (c1) ?_ | (refine Br.mk (fun h => ?_) (fun h => ?_) <;> first | (exfalso; omega; done) | (exfalso; simp at h; done) | skip))
    repeat refine Mm.mk ?_
    conv => whnf
    refine EndVC.mk _ rfl _ _ (.inl ⟨hE, rfl, rfl⟩) ?_
    refine ⟨[some 0], rfl, rfl, ?_, ?_⟩ <;> repeat' (first | exact trivial | exact rfl | exact Iff.rfl | apply And.intro)
  · repeat' ((conv => whnf); first | refine Rng.g ?_ | refine Ob.g ?_ | refine Ob.e ?_ | refine Ob.m ?_ | refine Ob.mk (Nat.le_of_ble_eq_true rfl) ?_ | refine JoinVC.on ?_ | refine Nils.mk (fun h => ?_) ?_ | refine Val.t ?_ | refine Val.d ?_ | refine Mm.mk ?_ | refine CallVC.pure rfl (c1) ?_ | refine CallVC0.pure rfl (c1) ?_ | (refine Br.mk (fun h => ?_) (fun h => ?_) <;> first | (exfalso; omega; done) | (exfalso; simp at h; done) | skip))
    repeat refine Mm.mk ?_
    conv => whnf
    refine EndVC.mk _ rfl _ _ (.inr ⟨hE, rfl, rfl⟩) ?_
    refine ⟨[], rfl, rfl, ?_, ?_⟩ <;> repeat' (first | exact trivial | exact rfl | exact Iff.rfl | apply And.intro)
end Go.Sx

namespace Go.Sx
open Go Go.Proofs
set_option maxRecDepth 10000
set_option maxHeartbeats 4000000
theorem e196 : EntersF Tryz.prog 196 := enters_of Tryz.func196 (c := bodyOf Tryz.f196) (by kernel_rfl) rfl
theorem e197 : EntersF Tryz.prog 197 := enters_of Tryz.func197 (c := bodyOf Tryz.f197) (by kernel_rfl) rfl
/-! ### The names of takes in a map -/
theorem keyEqS (c : List Cell) (a : ByteArray) : keyEq [.str] c [.str a] = match c with | [] => false | x :: _ => decide (x.toStr = a) := by
  cases c with
  | nil => rfl
  | cons x c => simp [keyEq, cellEq, Cell.toStr]; rfl
theorem mfind_mputS (a b : ByteArray) (v : List Cell) : ∀ (l : MapL), mfind [.str] (mput [.str] l [.str a] v) [.str b] = if a = b then some v else mfind [.str] l [.str b]
  | [] => by
    simp only [mput, mfind, keyEqS, Cell.toStr]
    by_cases h : a = b <;> simp [h]
  | p :: l => by
    have ih := mfind_mputS a b v l
    simp only [mput]
    cases h1 : keyEq [.str] p.1 [.str a] with
    | true =>
      simp only [mfind]
      by_cases h : a = b
      · subst h; simp [keyEqS, Cell.toStr]
      · have h2 : keyEq [.str] p.1 [.str b] = false := by
          rw [keyEqS] at h1 ⊢
          split at h1
          · cases h1
          · rename_i x c hp
            simp only [decide_eq_true_eq] at h1
            simp only [decide_eq_false_iff_not]
            rw [h1]; exact h
        simp [keyEqS, Cell.toStr, h, h2, keyEqS] at h2 ⊢
    | false =>
      simp only [mfind]
      cases h2 : keyEq [.str] p.1 [.str b] with
      | true =>
        have : a ≠ b := fun h => by rw [h, h2] at h1; cases h1
        simp [this]
      | false => simpa using ih
theorem mput_len (kk : List CK) (k v : List Cell) : ∀ l : MapL, (mput kk l k v).length = if mfind kk l k = none then l.length + 1 else l.length
  | [] => by simp [mput, mfind]
  | p :: l => by
    have ih := mput_len kk k v l
    by_cases h : keyEq kk p.1 k = true
    · simp [mput, mfind, h]
    · have h' : keyEq kk p.1 k = false := by simpa using h
      simp only [mput, mfind, h', List.length_cons, ih]
      split <;> rfl
theorem s196 (l : List Tak) (hT : TaksOK l) : PSpec Tryz.prog 196 [lT l] (.x (I 0)) := by
  have ll := takA_len l
  have h1 := hT.len
  refine spec_of pMix (O := []) Tryz.func196 (c := bodyOf Tryz.f196) rfl (by kernel_rfl) (by kernel_rfl) Tryz.ntmps196 (res := [.tmp 2]) (by kernel_rfl) ?_
  repeat' ((conv => whnf); first | refine Rng.g ?_ | refine Ob.g ?_ | refine Ob.e ?_ | refine Ob.m ?_ | refine Ob.mk (Nat.le_of_ble_eq_true rfl) ?_ | refine JoinVC.on ?_ | refine Nils.mk (fun h => ?_) ?_ | refine Val.t ?_ | refine Val.d ?_ | refine Mm.mk ?_ | (refine Br.mk (fun h => ?_) (fun h => ?_) <;> first | (exfalso; omega; done) | (exfalso; simp at h; done) | skip))
  refine LoopVC.mk (fun n st => ∃ (i : Nat) (m : MapL), i ≤ l.length ∧ n = l.length - i ∧ m.length = i ∧ (∀ b, mfind [.str] m [.str b] = none ↔ ∀ j, j < i → (l.getD j t0).nm ≠ b) ∧ st = ⟨0, envA 49 [(0, .x (lT l)), (3, .int .i64 0), (4, .x (.one (.map 0))), (17, .x (lT l)), (18, .int .i64 (l.length : Int)), (19, .int .i64 (i : Int))], [some (.mp false false [.str] [.int .i64] m none)]⟩) _ _ ⟨0, [], Nat.zero_le _, rfl, rfl, fun b => by simp [mfind], rfl⟩ ?_ ?_
  · refine ⟨[some 0], rfl, rfl, ?_, ?_⟩ <;> repeat' (first | exact trivial | exact rfl | exact Iff.rfl | apply And.intro)
    exact congrArg Int.ofNat ll
  rintro n _ ⟨i, m, hi, hn, hm, hf, rfl⟩
  have gd : rA (takA l) (i : Int).toNat (0 + 1) = smpA (l.getD i t0).d := takA_d l i
  have gn : rS (takA l) (i : Int).toNat 0 = (l.getD i t0).nm := takA_n l i
  by_cases hi' : i < l.length
  · have hok := hT.each i hi'
    have c1 : PSpec Tryz.prog 275 [.agg [.str (rS (takA l) (i : Int).toNat 0), .lst true KS (rA (takA l) (i : Int).toNat (0 + 1))]] (.x (I 0)) := by rw [gd, gn]; exact s275 _ hok
    have hmf : mfind [.str] m [.str (rS (takA l) (i : Int).toNat 0)] = none := by
      rw [gn]
      exact (hf _).2 fun j hj e => hT.names i j hi' hj e.symm
    have hr : rI [mrow [.str] (zeroRow [.int .i64]) m [.str (rS (takA l) (i : Int).toNat 0)]] 0 0 = 0 := by unfold mrow; rw [hmf]; rfl
    repeat' ((conv => whnf); first | refine Rng.g ?_ | refine Ob.g ?_ | refine Ob.e ?_ | refine Ob.m ?_ | refine Ob.mk (Nat.le_of_ble_eq_true rfl) ?_ | refine JoinVC.on ?_ | refine Nils.mk (fun h => ?_) ?_ | refine Val.t ?_ | refine Val.d ?_ | refine Mm.mk ?_ | refine CallVC.pure rfl (c1) ?_ | refine CallVC0.pure rfl (c1) ?_ | (refine Br.mk (fun h => ?_) (fun h => ?_) <;> first | (exfalso; omega; done) | (exfalso; simp at h; done) | skip))
    refine Back.mk (l.length - (i + 1)) _ (by omega) ⟨i + 1, mput [.str] m [.str (rS (takA l) (i : Int).toNat 0)] [.int (rI [mrow [.str] (zeroRow [.int .i64]) m [.str (rS (takA l) (i : Int).toNat 0)]] 0 0 + 1)], by omega, rfl, ?_, fun b => ?_, rfl⟩ ?_
    · rw [mput_len, if_pos hmf, hm]
    · rw [mfind_mputS, gn]
      by_cases hb : (l.getD i t0).nm = b
      · rw [if_pos hb]
        exact ⟨fun h => (by cases h), fun h => absurd hb (h i (Nat.lt_succ_self i))⟩
      · rw [if_neg hb, hf b]
        refine ⟨fun h j hj => ?_, fun h j hj => h j (by omega)⟩
        rcases Nat.lt_succ_iff_lt_or_eq.1 hj with h' | rfl
        · exact h j h'
        · exact hb
    · refine ⟨[some 0], rfl, rfl, ?_, ?_⟩ <;> repeat' (first | exact trivial | exact rfl | exact Iff.rfl | apply And.intro)
  · repeat' ((conv => whnf); first | refine Rng.g ?_ | refine Ob.g ?_ | refine Ob.e ?_ | refine Ob.m ?_ | refine Ob.mk (Nat.le_of_ble_eq_true rfl) ?_ | refine JoinVC.on ?_ | refine Nils.mk (fun h => ?_) ?_ | refine Val.t ?_ | refine Val.d ?_ | refine Mm.mk ?_ | (refine Br.mk (fun h => ?_) (fun h => ?_) <;> first | (exfalso; omega; done) | (exfalso; simp at h; done) | skip))
    repeat refine Mm.mk ?_
    refine EndVC.mk _ rfl _ _ ⟨rfl, rfl⟩ ?_
    refine ⟨[], rfl, rfl, ?_, ?_⟩ <;> repeat' (first | exact trivial | exact rfl | exact Iff.rfl | apply And.intro)
/-! ### Parts in a programme -/
@[reducible] def bG (i : Nat) (T : List Tak) (n : Int) : Blk := .box 204 [.lst true KT (takA T), .own i, .int .i64 n]
@[reducible] def K10 : List CK := [.int .i64, .int .i64, .int .i64, .int .i64, .int .i64, .int .i64, .int .i64, .int .i64, .int .i64, .int .i64]
@[reducible] def KG : List CK := [.sl KT, .sl K10, .int .i64]
@[reducible] def gX (T : List Tak) (A : Arr) (n : Int) : XV := .one (.lel true KG [[.sl (takA T), .sl A, .int n]] 0 0)
theorem s197 (T : List Tak) (A : Arr) (n : Int) (p : Prt) (hp : partOK T p) : PSpec Tryz.prog 197 [gX T A n, p.x] (xP True) := by
  have ll := takA_len T
  have gl : (rA (takA T) p.tk.toNat (0 + (0 + 1))).length = (T.getD p.tk.toNat t0).d.length := (congrArg List.length (takA_d T _)).trans (smpA_len _)
  have hq := hp
  unfold partOK at hq
  have e0 : rA [[Cell.sl (takA T), .sl A, .int n]] 0 0 = takA T := rfl
  refine spec_of pMix (O := []) Tryz.func197 (c := bodyOf Tryz.f197) rfl (by kernel_rfl) (by kernel_rfl) Tryz.ntmps197 (res := [.tmp 4]) (by kernel_rfl) ?_
  repeat' ((conv => whnf); first | rw [e0] | refine Rng.g ?_ | refine Ob.g ?_ | refine Ob.e ?_ | refine Ob.m ?_ | refine Ob.mk (Nat.le_of_ble_eq_true rfl) ?_ | refine JoinVC.on ?_ | refine Nils.mk (fun h => ?_) ?_ | refine Val.t ?_ | refine Val.d ?_ | refine Mm.mk ?_ | refine CallVC.pure rfl (s125 _ _ _) ?_ | refine CallVC0.pure rfl (s125 _ _ _) ?_ | (refine Br.mk (fun h => ?_) (fun h => ?_) <;> first | (exfalso; omega; done) | (exfalso; simp at h; done) | skip))
  repeat refine Mm.mk ?_
  refine EndVC.mk _ rfl _ _ ⟨rfl, rfl⟩ ?_
  refine ⟨[], rfl, rfl, ?_, ?_⟩ <;> repeat' (first | exact trivial | exact rfl | exact Iff.rfl | apply And.intro)
  show _ ↔ _
  simp
  omega
end Go.Sx

namespace Go.Sx
open Go Go.Proofs
set_option maxRecDepth 10000
set_option maxHeartbeats 4000000
theorem e100 : EntersF Tryz.prog 100 := enters_of Tryz.func100 (c := bodyOf Tryz.f100) (by kernel_rfl) rfl
/-- A part with its place. -/
def plcR (l : List Prt) (i : Nat) : List Cell := [.int (l.getD i p0).tk, .int (l.getD i p0).fr, .int (l.getD i p0).to, .int (l.getD i p0).gap, .int (l.getD i p0).inn, .int (l.getD i p0).out, .int (l.getD i p0).lev, .int (i : Int), .int (begP l i), .int (begP l i + (l.getD i p0).long)]
def plcA (l : List Prt) (n : Nat) : Arr := (List.range n).map (plcR l)
theorem plcA_len (l : List Prt) (n : Nat) : (plcA l n).length = n := by simp [plcA]
theorem plcA_snoc (l : List Prt) (n : Nat) : plcA l (n + 1) = plcA l n ++ [plcR l n] := by simp [plcA, List.range_succ]
theorem plcA_at (l : List Prt) (n i : Nat) (h : i < n) : (plcA l n).getD i [] = plcR l i := by
  simp [plcA, List.getD_eq_getElem?_getD, List.getElem?_range h]
theorem plc_8 (l : List Prt) (n i : Nat) (h : i < n) : rI (plcA l n) i (0 + 1 + 1 + 1 + 1 + 1 + 1 + 1 + 1) = begP l i := by simp only [rI, cellAt, plcA_at l n i h]; rfl
theorem plc_9 (l : List Prt) (n i : Nat) (h : i < n) : rI (plcA l n) i (0 + 1 + 1 + 1 + 1 + 1 + 1 + 1 + 1 + 1) = begP l i + (l.getD i p0).long := by simp only [rI, cellAt, plcA_at l n i h]; rfl
@[reducible] def rowG (A : Arr) : Blk := .row 206 false K10 A
theorem eb206 : Tryz.t206.bytes = 80 := by kernel_rfl
theorem Poss.mono {l : List Prt} (_hb : PBs l) (hP : Poss l) {i : Nat} (h0 : 0 < i) (hi : i < l.length) : begP l (i - 1) + (l.getD (i - 1) p0).long ≤ begP l i + (l.getD i p0).long ∧ begP l (i - 1) ≤ begP l i := by
  have h1 := hP.gap i h0 hi
  have h2 := endP_succ l (show i - 1 < l.length by omega)
  have h3 : i - 1 + 1 = i := by omega
  rw [h3] at h2
  have h4 : begP l i = endP (l.take i) + (l.getD i p0).gap := rfl
  omega
theorem s100 (T : List Tak) (l : List Prt) (hP : ProgOK T l) : HSpec Tryz.prog 100 [lT T, lP l] [] (fun r m' => r = .tup [.one (.ptr 0 0), I 0] ∧ m' = [some (bG 1 T (endP l)), some (rowG (plcA l l.length))]) := by
  have ll := prtA_len l
  have hb := hP.pbs
  have h32 := hb.1
  have hst := hP.poss.stop
  have hbd : ∀ k, k < l.length → -300000 ≤ begP l k ∧ begP l k ≤ 300000 ∧ 0 < (l.getD k p0).long ∧ (l.getD k p0).long ≤ 4096 := fun k hk => by
    have h1 := endP_bd hb k (by omega)
    have h2 := hb.2 k hk
    obtain ⟨h3, h4, h5⟩ := h2
    unfold begP Prt.long
    omega
  refine spec_of pMix (O := [(12, ([10], [⟨0, [], []⟩, ⟨1, [], []⟩, ⟨2, [], []⟩, ⟨3, [], []⟩, ⟨4, [], []⟩, ⟨5, [], []⟩, ⟨6, [], []⟩, ⟨7, [], []⟩, ⟨8, [], []⟩, ⟨9, [], []⟩, ⟨10, [], []⟩, ⟨11, [], []⟩])), (14, ([], [⟨0, [], []⟩, ⟨1, [], []⟩, ⟨2, [], []⟩, ⟨3, [], []⟩, ⟨4, [], []⟩, ⟨5, [], [6]⟩, ⟨6, [], []⟩, ⟨7, [0], []⟩, ⟨8, [], []⟩, ⟨9, [], []⟩, ⟨10, [], []⟩]))]) Tryz.func100 (c := bodyOf Tryz.f100) rfl (by kernel_rfl) (by kernel_rfl) Tryz.ntmps100 (res := [.tmp 4, .tmp 5]) (by kernel_rfl) ?_
  repeat' ((conv => whnf); first | refine Rng.g ?_ | refine Ob.g ?_ | refine Ob.e ?_ | refine Ob.m ?_ | refine Ob.mk (Nat.le_of_ble_eq_true rfl) ?_ | refine JoinVC.on ?_ | refine Nils.mk (fun h => ?_) ?_ | refine Val.t ?_ | refine Val.d ?_ | refine Mm.mk ?_ | refine CallVC.pure rfl (s196 T hP.takes) ?_ | refine CallVC0.pure rfl (s196 T hP.takes) ?_ | (refine Br.mk (fun h => ?_) (fun h => ?_) <;> first | (exfalso; omega; done) | (exfalso; simp at h; done) | skip))
  refine LoopVC.mk (fun n st => ∃ (i : Nat), i ≤ l.length ∧ n = l.length - i ∧ st = ⟨0, envA 135 [(0, .x (lT T)), (1, .x (lP l)), (7, .x (.one (.ptr 0 0))), (25, .x (lP l)), (26, .int .i64 (l.length : Int)), (27, .int .i64 (i : Int))], [some (bG 1 T (endP (l.take i))), some (rowG (plcA l i))]⟩) _ _ ⟨0, Nat.zero_le _, rfl, rfl⟩ ?_ ?_
  · refine ⟨[some 0, none], rfl, rfl, ?_, ?_⟩ <;> repeat' (first | exact trivial | exact rfl | exact Iff.rfl | apply And.intro)
    exact congrArg Int.ofNat ll
  rintro n _ ⟨i, hi, hn, rfl⟩
  by_cases hi' : i < l.length
  · have c1 : PSpec Tryz.prog 197 [gX T (plcA l i) (endP (l.take i)), prtX l i] (xP True) := by rw [prtX_eq]; exact s197 T _ _ _ (hP.parts i hi')
    have g1 : rI (prtA l) (i : Int).toNat (0 + 1) = (l.getD i p0).fr := prtA_1 l i
    have g2 : rI (prtA l) (i : Int).toNat (0 + 1 + 1) = (l.getD i p0).to := prtA_2 l i
    have g3 : rI (prtA l) (i : Int).toNat (0 + 1 + 1 + 1) = (l.getD i p0).gap := prtA_3 l i
    have hbi := hbd i hi'
    have hpi := hb.2 i hi'
    obtain ⟨b1, b2, b3⟩ := hpi
    have hlo : (l.getD i p0).long = (l.getD i p0).to - (l.getD i p0).fr := rfl
    have hbg : begP l i = endP (l.take i) + (l.getD i p0).gap := rfl
    have lp := plcA_len l i
    have g0 : rI (prtA l) (i : Int).toNat 0 = (l.getD i p0).tk := prtA_0 l i
    have g4 : rI (prtA l) (i : Int).toNat (0 + 1 + 1 + 1 + 1) = (l.getD i p0).inn := prtA_4 l i
    have g5 : rI (prtA l) (i : Int).toNat (0 + 1 + 1 + 1 + 1 + 1) = (l.getD i p0).out := prtA_5 l i
    have g6 : rI (prtA l) (i : Int).toNat (0 + 1 + 1 + 1 + 1 + 1 + 1) = (l.getD i p0).lev := prtA_6 l i
    have he := endP_succ l hi'
    repeat' ((conv => whnf); first | refine Rng.g ?_ | refine Ob.g ?_ | refine Ob.e ?_ | refine Ob.m ?_ | refine Ob.mk (Nat.le_of_ble_eq_true rfl) ?_ | refine JoinVC.on ?_ | refine Nils.mk (fun h => ?_) ?_ | refine Val.t ?_ | refine Val.d ?_ | refine Mm.mk ?_ | refine CallVC.pure rfl (c1) ?_ | refine CallVC0.pure rfl (c1) ?_ | (refine Br.mk (fun h => ?_) (fun h => ?_) <;> first | (exfalso; omega; done) | (exfalso; simp at h; done) | skip))
    repeat refine Mm.mk ?_
    refine Ob.mk (by simp only [lp, eb206, List.length_cons, List.length_nil]; omega) ?_
    repeat' ((conv => whnf); first | refine Rng.g ?_ | refine Ob.g ?_ | refine Ob.e ?_ | refine Ob.m ?_ | refine Ob.mk (Nat.le_of_ble_eq_true rfl) ?_ | refine JoinVC.on ?_ | refine Nils.mk (fun h => ?_) ?_ | refine Val.t ?_ | refine Val.d ?_ | refine Mm.mk ?_ | (refine Br.mk (fun h => ?_) (fun h => ?_) <;> first | (exfalso; omega; done) | (exfalso; simp at h; done) | skip))
    refine Back.mk (l.length - (i + 1)) _ (by omega) ⟨i + 1, by omega, rfl, rfl⟩ ?_
    refine ⟨[some 0, some 5], rfl, rfl, ?_, ?_⟩ <;> repeat' (first | exact trivial | exact rfl | exact Iff.rfl | apply And.intro)
    · rw [he, g1, g2, g3, hbg, hlo]; omega
    · rw [plcA_snoc, g0, g1, g2, g3, g4, g5, g6]
      unfold plcR
      rw [hbg, hlo]
      have e : endP (l.take i) + (l.getD i p0).gap + (l.getD i p0).to - (l.getD i p0).fr = endP (l.take i) + (l.getD i p0).gap + ((l.getD i p0).to - (l.getD i p0).fr) := by omega
      rw [e]
  have e1 : l.take i = l := List.take_of_length_le (by omega)
  have e2 : i = l.length := by omega
  rw [e1]
  subst e2
  clear hi hi' hn e1
  have lp := plcA_len l l.length
  repeat' ((conv => whnf); first | refine Rng.g ?_ | refine Ob.g ?_ | refine Ob.e ?_ | refine Ob.m ?_ | refine Ob.mk (Nat.le_of_ble_eq_true rfl) ?_ | refine JoinVC.on ?_ | refine Nils.mk (fun h => ?_) ?_ | refine Val.t ?_ | refine Val.d ?_ | refine Mm.mk ?_ | (refine Br.mk (fun h => ?_) (fun h => ?_) <;> first | (exfalso; omega; done) | (exfalso; simp at h; done) | skip))
  refine LoopVC.mk (fun n st => ∃ (i : Nat), i ≤ l.length ∧ n = l.length - i ∧ st = ⟨0, envA 135 [(7, .x (.one (.ptr 0 0))), (11, .int .i64 (if 1 < i then begP l (i - 2) + (l.getD (i - 2) p0).long else 0)), (74, .x (.one (.own 1))), (75, .int .i64 (l.length : Int)), (76, .int .i64 (i : Int))], [some (bG 1 T (endP l)), some (rowG (plcA l l.length))]⟩) _ _ ⟨0, Nat.zero_le _, rfl, rfl⟩ ?_ ?_
  · refine ⟨[some 0, some 1], rfl, rfl, ?_, ?_⟩ <;> repeat' (first | exact trivial | exact rfl | exact Iff.rfl | apply And.intro)
    exact congrArg Int.ofNat lp
  rintro n _ ⟨i, hi, hn, rfl⟩
  by_cases hi' : i < l.length
  · have g8 : rI (plcA l l.length) (i : Int).toNat (0 + 1 + 1 + 1 + 1 + 1 + 1 + 1 + 1) = begP l i := plc_8 l _ i hi'
    have g9 : rI (plcA l l.length) (i : Int).toNat (0 + 1 + 1 + 1 + 1 + 1 + 1 + 1 + 1 + 1) = begP l i + (l.getD i p0).long := plc_9 l _ i hi'
    have hbi := hbd i hi'
    have hng := begP_nonneg hb hP.poss i hi'
    by_cases hz : i = 0
    · subst hz
      rw [if_neg (by omega)]
      repeat' ((conv => whnf); first | refine Rng.g ?_ | refine Ob.g ?_ | refine Ob.e ?_ | refine Ob.m ?_ | refine Ob.mk (Nat.le_of_ble_eq_true rfl) ?_ | refine JoinVC.on ?_ | refine Nils.mk (fun h => ?_) ?_ | refine Val.t ?_ | refine Val.d ?_ | refine Mm.mk ?_ | (refine Br.mk (fun h => ?_) (fun h => ?_) <;> first | (exfalso; omega; done) | (exfalso; simp at h; done) | skip))
      refine Back.mk (l.length - (0 + 1)) _ (by omega) ⟨0 + 1, by omega, rfl, rfl⟩ ?_
      refine ⟨[some 0, some 1], rfl, rfl, ?_, ?_⟩ <;> repeat' (first | exact trivial | exact rfl | exact Iff.rfl | apply And.intro)
    · have e1 : ((i : Int) - 1).toNat = i - 1 := by omega
      have m8 : rI (plcA l l.length) ((i : Int) - 1).toNat (0 + 1 + 1 + 1 + 1 + 1 + 1 + 1 + 1) = begP l (i - 1) := by rw [e1]; exact plc_8 l _ _ (by omega)
      have m9 : rI (plcA l l.length) ((i : Int) - 1).toNat (0 + 1 + 1 + 1 + 1 + 1 + 1 + 1 + 1 + 1) = begP l (i - 1) + (l.getD (i - 1) p0).long := by rw [e1]; exact plc_9 l _ _ (by omega)
      have hm := hP.poss.mono hb (by omega) hi'
      obtain ⟨v, hv⟩ : ∃ v, v = (if 1 < i then begP l (i - 2) + (l.getD (i - 2) p0).long else 0) := ⟨_, rfl⟩
      have hv2 : v ≤ begP l i := by
        rw [hv]
        split
        · exact hP.poss.free i (by omega) hi'
        · exact hng
      rw [← hv]
      repeat' ((conv => whnf); first | refine Rng.g ?_ | refine Ob.g ?_ | refine Ob.e ?_ | refine Ob.m ?_ | refine Ob.mk (Nat.le_of_ble_eq_true rfl) ?_ | refine JoinVC.on ?_ | refine Nils.mk (fun h => ?_) ?_ | refine Val.t ?_ | refine Val.d ?_ | refine Mm.mk ?_ | (refine Br.mk (fun h => ?_) (fun h => ?_) <;> first | (exfalso; omega; done) | (exfalso; simp at h; done) | skip))
      refine Back.mk (l.length - (i + 1)) _ (by omega) ⟨i + 1, by omega, rfl, rfl⟩ ?_
      refine ⟨[some 0, some 1], rfl, rfl, ?_, ?_⟩ <;> repeat' (first | exact trivial | exact rfl | exact Iff.rfl | apply And.intro)
      rw [m9, if_pos (by omega)]
      rfl
  · repeat' ((conv => whnf); first | refine Rng.g ?_ | refine Ob.g ?_ | refine Ob.e ?_ | refine Ob.m ?_ | refine Ob.mk (Nat.le_of_ble_eq_true rfl) ?_ | refine JoinVC.on ?_ | refine Nils.mk (fun h => ?_) ?_ | refine Val.t ?_ | refine Val.d ?_ | refine Mm.mk ?_ | (refine Br.mk (fun h => ?_) (fun h => ?_) <;> first | (exfalso; omega; done) | (exfalso; simp at h; done) | skip))
    repeat refine Mm.mk ?_
    refine EndVC.mk _ rfl _ _ ⟨rfl, rfl⟩ ?_
    refine ⟨[some 0, some 1], rfl, rfl, ?_, ?_⟩ <;> repeat' (first | exact trivial | exact rfl | exact Iff.rfl | apply And.intro)
end Go.Sx

namespace Go.Sx
open Go Go.Proofs
set_option maxRecDepth 10000
set_option maxHeartbeats 4000000
theorem e199 : EntersF Tryz.prog 199 := enters_of Tryz.func199 (c := bodyOf Tryz.f199) (by kernel_rfl) rfl
theorem e198 : EntersF Tryz.prog 198 := enters_of Tryz.func198 (c := bodyOf Tryz.f198) (by kernel_rfl) rfl
theorem e102 : EntersF Tryz.prog 102 := enters_of Tryz.func102 (c := bodyOf Tryz.f102) (by kernel_rfl) rfl
theorem e101 : EntersF Tryz.prog 101 := enters_of Tryz.func101 (c := bodyOf Tryz.f101) (by kernel_rfl) rfl
theorem e26 : EntersF Tryz.prog 26 := enters_of Tryz.func26 (c := bodyOf Tryz.f26) (by kernel_rfl) rfl
/-- The gain of a sample of a part. -/
theorem s199 (n d s : Int) (hd : 0 < d) (hn : -9000000000000000000 ≤ s * n ∧ s * n ≤ 9000000000000000000) (hq : -9000000000000000000 ≤ (s * n).tdiv d ∧ (s * n).tdiv d ≤ 9000000000000000000) : PSpec Tryz.prog 199 [.agg [.int .i64 n, .int .i64 d], I s] (.x (I ((s * n).tdiv d))) := by
  refine spec_of pMix (O := []) Tryz.func199 (c := bodyOf Tryz.f199) rfl (by kernel_rfl) (by kernel_rfl) Tryz.ntmps199 (res := [.tmp 4]) (by kernel_rfl) ?_
  repeat' ((conv => whnf); first | refine Rng.g ?_ | refine Ob.g ?_ | refine Ob.e ?_ | refine Ob.m ?_ | refine Ob.mk (Nat.le_of_ble_eq_true rfl) ?_ | refine JoinVC.on ?_ | refine Nils.mk (fun h => ?_) ?_ | refine Val.t ?_ | refine Val.d ?_ | refine Mm.mk ?_ | (refine Br.mk (fun h => ?_) (fun h => ?_) <;> first | (exfalso; omega; done) | (exfalso; simp at h; done) | skip))
  refine Val.mk _ rfl ?_
  repeat' ((conv => whnf); first | refine Rng.g ?_ | refine Ob.g ?_ | refine Ob.e ?_ | refine Ob.m ?_ | refine Ob.mk (Nat.le_of_ble_eq_true rfl) ?_ | refine JoinVC.on ?_ | refine Nils.mk (fun h => ?_) ?_ | refine Val.t ?_ | refine Val.d ?_ | refine Mm.mk ?_ | (refine Br.mk (fun h => ?_) (fun h => ?_) <;> first | (exfalso; omega; done) | (exfalso; simp at h; done) | skip))
  repeat refine Mm.mk ?_
  refine EndVC.mk _ rfl _ _ ⟨rfl, rfl⟩ ?_
  refine ⟨[], rfl, rfl, ?_, ?_⟩ <;> repeat' (first | exact trivial | exact rfl | exact Iff.rfl | apply And.intro)
@[reducible] def plcX (p : Prt) (i b e : Int) : XV := .agg [.int .i64 p.tk, .int .i64 p.fr, .int .i64 p.to, .int .i64 p.gap, .int .i64 p.inn, .int .i64 p.out, .int .i64 p.lev, .int .i64 i, .int .i64 b, .int .i64 e]
theorem s198 (p : Prt) (i b k lev : Int) (hF : PF p k lev) (_hb : 0 ≤ b ∧ b ≤ 100000) : PSpec Tryz.prog 198 [plcX p i b (b + p.long), I k, I lev] (.x (.agg [.int .i64 (lev * upF p k * dnF p k), .int .i64 (denF p)])) := by
  have hp := hF.pb
  have h1 := hp.fr; have h2 := hp.to; have h3 := hF.inn; have h4 := hF.out; have h5 := hF.k; have h6 := hF.lev
  have hd := hF.den
  have hL : p.long = p.to - p.fr := rfl
  have hup := hF.up; have hdn := hF.dn
  have hu : (if p.inn < k then p.inn else k) + 1 = upF p k := by unfold upF; split <;> rfl
  have hn : (if p.out < b + p.long - b - k - 1 then p.out else b + p.long - b - k - 1) + 1 = dnF p k := by unfold dnF; split <;> split <;> omega
  have m1 := mul_rng (a := lev) (b := upF p k) (A := 4000) (B := 1001) (by omega) (by omega)
  have m2 := mul_rng (a := lev * upF p k) (b := dnF p k) (A := 4004000) (B := 1001) (by omega) (by omega)
  have hd' : 1000 ≤ 1000 * (p.inn + 1) * (p.out + 1) ∧ 1000 * (p.inn + 1) * (p.out + 1) ≤ 1002001000 := hd
  refine spec_of pMix (O := []) Tryz.func198 (c := bodyOf Tryz.f198) rfl (by kernel_rfl) (by kernel_rfl) Tryz.ntmps198 (res := [.cell 6 325]) (by kernel_rfl) ?_
  repeat' ((conv => whnf); first | rw [hu] | rw [hn] | refine Rng.g ?_ | refine Ob.g ?_ | refine Ob.e ?_ | refine Ob.m ?_ | refine Ob.mk (Nat.le_of_ble_eq_true rfl) ?_ | refine JoinVC.on ?_ | refine Nils.mk (fun h => ?_) ?_ | refine Val.t ?_ | refine Val.d ?_ | refine Mm.mk ?_ | (refine Br.mk (fun h => ?_) (fun h => ?_) <;> first | (exfalso; omega; done) | (exfalso; simp at h; done) | skip))
  repeat refine Mm.mk ?_
  refine EndVC.mk _ rfl _ _ ⟨rfl, rfl⟩ ?_
  refine ⟨[], rfl, rfl, ?_, ?_⟩ <;> repeat' (first | exact trivial | exact rfl | exact Iff.rfl | apply And.intro)
theorem loud_assoc (s : Int) (p : Prt) (k lev : Int) : (s * (lev * upF p k * dnF p k)).tdiv (denF p) = loudF s p k lev := by
  unfold loudF
  rw [← Int.mul_assoc, ← Int.mul_assoc]
theorem s102 (T : List Tak) (A : Arr) (n : Int) (p : Prt) (i b k lev : Int) (hF : SF T p k lev) (hb : 0 ≤ b ∧ b ≤ 100000) : PSpec Tryz.prog 102 [gX T A n, plcX p i b (b + p.long), I k, I lev] (.x (sndF T p k lev).x) := by
  have lt := takA_len T
  have ho := hF.ok
  unfold partOK at ho
  have hk := hF.k
  have hL : p.long = p.to - p.fr := rfl
  have hbt := hF.pf.pb.to
  have e0 : rA [[Cell.sl (takA T), .sl A, .int n]] 0 0 = takA T := rfl
  have gd : rA (takA T) p.tk.toNat (0 + (0 + 1)) = smpA (T.getD p.tk.toNat t0).d := takA_d T _
  have gl : (rA (takA T) p.tk.toNat (0 + (0 + 1))).length = (T.getD p.tk.toNat t0).d.length := (congrArg List.length gd).trans (smpA_len _)
  have hs := hF.smp
  unfold Smp.ok at hs
  have hd := hF.pf.den
  have key : ∀ v, -32767 ≤ v ∧ v ≤ 32767 → PSpec Tryz.prog 199 [.agg [.int .i64 (lev * upF p k * dnF p k), .int .i64 (denF p)], I v] (.x (I (loudF v p k lev))) := fun v hv => by
    rw [← loud_assoc]
    have h1 := hF.pf.steps hv
    have h2 := hF.pf.loud hv
    refine s199 _ _ v (by omega) ?_ (by rw [loud_assoc]; omega)
    rw [← Int.mul_assoc, ← Int.mul_assoc]; omega
  have c1 : PSpec Tryz.prog 199 [.agg [.int .i64 (lev * upF p k * dnF p k), .int .i64 (denF p)], I (rI (rA (takA T) p.tk.toNat (0 + (0 + 1))) (p.fr + k).toNat 0)] (.x (I (sndF T p k lev).l)) := by
    rw [gd, smpA_l]; exact key _ (by unfold smpAt at hs; omega)
  have c2 : PSpec Tryz.prog 199 [.agg [.int .i64 (lev * upF p k * dnF p k), .int .i64 (denF p)], I (rI (rA (takA T) p.tk.toNat (0 + (0 + 1))) (p.fr + k).toNat (0 + (0 + 1)))] (.x (I (sndF T p k lev).r)) := by
    rw [gd, smpA_r]; exact key _ (by unfold smpAt at hs; omega)
  refine spec_of pMix (O := [(2, ([17], [⟨0, [], []⟩, ⟨1, [], []⟩, ⟨2, [], []⟩, ⟨3, [], []⟩, ⟨4, [], []⟩, ⟨5, [], []⟩, ⟨6, [], []⟩, ⟨7, [], []⟩, ⟨8, [], []⟩, ⟨9, [], []⟩, ⟨10, [], []⟩, ⟨11, [], []⟩, ⟨12, [], []⟩, ⟨13, [], []⟩, ⟨14, [], []⟩, ⟨15, [], []⟩, ⟨16, [], []⟩, ⟨17, [], []⟩, ⟨18, [], []⟩])), (3, ([], [⟨0, [], []⟩, ⟨1, [], []⟩, ⟨2, [], []⟩, ⟨4, [], []⟩, ⟨5, [], []⟩, ⟨6, [], []⟩, ⟨3, [4, 5, 6], []⟩, ⟨7, [], []⟩, ⟨8, [], []⟩, ⟨9, [], []⟩]))]) Tryz.func102 (c := bodyOf Tryz.f102) rfl (by kernel_rfl) (by kernel_rfl) Tryz.ntmps102 (res := [.cell 8 47]) (by kernel_rfl) ?_
  repeat' ((conv => whnf); first | rw [e0] | refine Rng.g ?_ | refine Ob.g ?_ | refine Ob.e ?_ | refine Ob.m ?_ | refine Ob.mk (Nat.le_of_ble_eq_true rfl) ?_ | refine JoinVC.on ?_ | refine Nils.mk (fun h => ?_) ?_ | refine Val.t ?_ | refine Val.d ?_ | refine Mm.mk ?_ | refine CallVC.pure rfl (s198 p i b k lev hF.pf hb) ?_ | refine CallVC.pure rfl (c1) ?_ | refine CallVC.pure rfl (c2) ?_ | refine CallVC0.pure rfl (s198 p i b k lev hF.pf hb) ?_ | refine CallVC0.pure rfl (c1) ?_ | refine CallVC0.pure rfl (c2) ?_ | (refine Br.mk (fun h => ?_) (fun h => ?_) <;> first | (exfalso; omega; done) | (exfalso; simp at h; done) | skip))
  repeat refine Mm.mk ?_
  refine EndVC.mk _ rfl _ _ ⟨rfl, rfl⟩ ?_
  refine ⟨[], rfl, rfl, ?_, ?_⟩ <;> repeat' (first | exact trivial | exact rfl | exact Iff.rfl | apply And.intro)
end Go.Sx

namespace Go.Sx
open Go Go.Proofs
set_option maxRecDepth 10000
set_option maxHeartbeats 4000000
theorem s101 (a b : Smp) (ha : (-5000000 ≤ a.l ∧ a.l ≤ 5000000) ∧ (-5000000 ≤ a.r ∧ a.r ≤ 5000000)) (hb : (-5000000 ≤ b.l ∧ b.l ≤ 5000000) ∧ (-5000000 ≤ b.r ∧ b.r ≤ 5000000)) : PSpec Tryz.prog 101 [a.x, b.x] (.x (addS a b).x) := by
  refine spec_of pMix (O := []) Tryz.func101 (c := bodyOf Tryz.f101) rfl (by kernel_rfl) (by kernel_rfl) Tryz.ntmps101 (res := [.cell 4 47]) (by kernel_rfl) ?_
  repeat' ((conv => whnf); first | refine Rng.g ?_ | refine Ob.g ?_ | refine Ob.e ?_ | refine Ob.m ?_ | refine Ob.mk (Nat.le_of_ble_eq_true rfl) ?_ | refine JoinVC.on ?_ | refine Nils.mk (fun h => ?_) ?_ | refine Val.t ?_ | refine Val.d ?_ | refine Mm.mk ?_ | (refine Br.mk (fun h => ?_) (fun h => ?_) <;> first | (exfalso; omega; done) | (exfalso; simp at h; done) | skip))
  repeat refine Mm.mk ?_
  refine EndVC.mk _ rfl _ _ ⟨rfl, rfl⟩ ?_
  refine ⟨[], rfl, rfl, ?_, ?_⟩ <;> repeat' (first | exact trivial | exact rfl | exact Iff.rfl | apply And.intro)
/-- What is rendered, part by part. -/
structure Acc (T : List Tak) (l : List Prt) (O : List Smp) (i : Nat) (e : Int) : Prop where
  len : O.length = (endP l).toNat
  get : ∀ t : Nat, t < (endP l).toNat → O.getD t s0 = if begP l i ≤ t ∧ (t : Int) < e then sumI T l t (srcI l t (i + 1)) else sumI T l t (srcI l t i)
theorem Acc.next {T : List Tak} {l : List Prt} {O : List Smp} {i : Nat} (h : Acc T l O i (begP l i + (l.getD i p0).long)) : Acc T l O (i + 1) (begP l (i + 1)) := by
  refine ⟨h.len, fun t ht => ?_⟩
  rw [h.get t ht, if_neg (by omega : ¬ (begP l (i + 1) ≤ (t : Int) ∧ (t : Int) < begP l (i + 1)))]
  split
  · rfl
  · rename_i hn
    rw [srcI_succ, if_neg (show ¬ onB l t i = true from fun h => hn (of_decide_eq_true h)), List.append_nil]
theorem Acc.step {T : List Tak} {l : List Prt} {O : List Smp} {i : Nat} {t : Nat} (h : Acc T l O i t) (ht : t < (endP l).toNat) (h1 : begP l i ≤ t) (h2 : (t : Int) < begP l i + (l.getD i p0).long) : Acc T l (O.set t (addS (O.getD t s0) (sndI T l t i))) i (t + 1 : Nat) := by
  have hl := h.len
  refine ⟨by rw [List.length_set]; exact hl, fun u hu => ?_⟩
  rw [getD_set' _ _ _ _ _ (by omega)]
  by_cases e : t = u
  · subst e
    rw [if_pos rfl, if_pos ⟨h1, by omega⟩, h.get t ht, if_neg (by omega), srcI_succ, if_pos (show onB l t i = true from decide_eq_true ⟨h1, h2⟩), sumI_snoc]
  · rw [if_neg e, h.get u hu]
    by_cases h3 : begP l i ≤ u ∧ (u : Int) < t
    · rw [if_pos h3, if_pos ⟨h3.1, by omega⟩]
    · rw [if_neg h3, if_neg (by omega)]
theorem Acc.fin {T : List Tak} {l : List Prt} {O : List Smp} (h : Acc T l O l.length (begP l l.length)) : O = rend T l := by
  refine List.ext_getElem (by rw [h.len, rend_len]) fun j h1 h2 => ?_
  have h3 := h.get j (by rw [← h.len]; exact h1)
  rw [if_neg (by omega)] at h3
  have h4 := rend_get T l j (by rw [← h.len]; exact h1)
  unfold rendAt at h4
  rw [← h4] at h3
  simpa [List.getD_eq_getElem?_getD, h1, h2] using h3
theorem sumI_bd2 {T : List Tak} {l : List Prt} (hP : ProgOK T l) (t : Int) {i : Nat} (hi : i ≤ l.length) : (-4194176 ≤ (sumI T l t (srcI l t i)).l ∧ (sumI T l t (srcI l t i)).l ≤ 4194176) ∧ (-4194176 ≤ (sumI T l t (srcI l t i)).r ∧ (sumI T l t (srcI l t i)).r ≤ 4194176) := by
  have h1 := sumI_bd (T := T) (l := l) (t := t) (L := srcI l t i) (fun j hj => hP.sf (by
    obtain ⟨h2, h3, h4⟩ := srcI_mem hj
    unfold srcI
    rw [List.mem_filter, List.mem_range]
    exact ⟨by omega, decide_eq_true ⟨h3, h4⟩⟩))
  have h2 := srcI_len l t i
  have h3 := hP.len
  omega
theorem plc_x (l : List Prt) (n i : Nat) (h : i < n) (j : Nat) : rI (plcA l n) i j = ((plcR l i).getD j (.int 0)).toInt := by simp only [rI, cellAt, plcA_at l n i h]
theorem Poss.inside {l : List Prt} (hb : PBs l) (hP : Poss l) : ∀ k i, i + k = l.length → 0 < k → begP l i + (l.getD i p0).long ≤ endP l := by
  intro k
  induction k with
  | zero => intro i _ h; omega
  | succ k ih =>
    intro i hi _
    by_cases hk : k = 0
    · have h2 := endP_succ l (show i < l.length by omega)
      have h3 : i + 1 = l.length := by omega
      rw [h3, List.take_length] at h2
      omega
    · have h1 := ih (i + 1) (by omega) (by omega)
      have h2 := hP.mono hb (i := i + 1) (by omega) (by omega)
      have h3 : i + 1 - 1 = i := by omega
      rw [h3] at h2
      omega
theorem s26 (T : List Tak) (l : List Prt) (hP : ProgOK T l) : HSpec Tryz.prog 26 [lT T, lP l] [] (fun r m' => (smpE (rend T l) = 0 ∧ r = .tup [.one (.own 0), I 0] ∧ m' = [some (rowS (rend T l))]) ∨ (smpE (rend T l) ≠ 0 ∧ r = .tup [.one .nils, I 4] ∧ m' = [])) := by
  have hb := hP.pbs
  have h32 := hb.1
  have he := endP_nonneg hb hP.poss
  have he2 := hP.poss.stop
  have lp := plcA_len l l.length
  refine spec_of pMix (O := [(11, ([], [⟨0, [], []⟩, ⟨1, [], []⟩, ⟨2, [], []⟩, ⟨3, [], []⟩, ⟨4, [], []⟩, ⟨5, [], []⟩, ⟨6, [], []⟩, ⟨7, [], []⟩, ⟨8, [], []⟩, ⟨9, [], []⟩, ⟨10, [], []⟩, ⟨11, [], []⟩, ⟨12, [], []⟩, ⟨13, [], []⟩, ⟨14, [], []⟩, ⟨15, [0, 1, 2, 3, 4, 5], []⟩, ⟨16, [0, 1], []⟩, ⟨17, [], []⟩, ⟨18, [], []⟩]))]) Tryz.func26 (c := bodyOf Tryz.f26) rfl (by kernel_rfl) (by kernel_rfl) Tryz.ntmps26 (res := [.tmp 4, .tmp 5]) (by kernel_rfl) ?_
  repeat' ((conv => whnf); first | refine Rng.g ?_ | refine Ob.g ?_ | refine Ob.e ?_ | refine Ob.m ?_ | refine Ob.mk (Nat.le_of_ble_eq_true rfl) ?_ | refine JoinVC.on ?_ | refine Nils.mk (fun h => ?_) ?_ | refine Val.t ?_ | refine Val.d ?_ | refine Mm.mk ?_ | (refine Br.mk (fun h => ?_) (fun h => ?_) <;> first | (exfalso; omega; done) | (exfalso; simp at h; done) | skip))
  conv => whnf
  refine CallVC.mk [] _ _ _ rfl rfl rfl (s100 T l hP) (fun r m' h' => ?_)
  obtain ⟨rfl, rfl⟩ := h'
  conv => whnf
  repeat' ((conv => whnf); first | refine Rng.g ?_ | refine Ob.g ?_ | refine Ob.e ?_ | refine Ob.m ?_ | refine Ob.mk (Nat.le_of_ble_eq_true rfl) ?_ | refine JoinVC.on ?_ | refine Nils.mk (fun h => ?_) ?_ | refine Val.t ?_ | refine Val.d ?_ | refine Mm.mk ?_ | (refine Br.mk (fun h => ?_) (fun h => ?_) <;> first | (exfalso; omega; done) | (exfalso; simp at h; done) | skip))
  repeat refine Mm.mk ?_
  refine Ob.mk (by simp only [eb47]; omega) ?_
  repeat' ((conv => whnf); first | refine Rng.g ?_ | refine Ob.g ?_ | refine Ob.e ?_ | refine Ob.m ?_ | refine Ob.mk (Nat.le_of_ble_eq_true rfl) ?_ | refine JoinVC.on ?_ | refine Nils.mk (fun h => ?_) ?_ | refine Val.t ?_ | refine Val.d ?_ | refine Mm.mk ?_ | (refine Br.mk (fun h => ?_) (fun h => ?_) <;> first | (exfalso; omega; done) | (exfalso; simp at h; done) | skip))
  refine LoopVC.mk (fun n st => ∃ (i : Nat) (O : List Smp), i ≤ l.length ∧ n = l.length - i ∧ Acc T l O i (begP l i) ∧ st = ⟨0, envA 66 [(6, .x (.one (.ptr 0 0))), (8, .x (.one (.own 2))), (29, .x (.one (.own 1))), (30, .int .i64 (l.length : Int)), (31, .int .i64 (i : Int))], [some (bG 1 T (endP l)), some (rowG (plcA l l.length)), some (rowS O)]⟩) _ _ ⟨0, List.replicate (endP l).toNat s0, Nat.zero_le _, rfl, ⟨by simp, fun t ht => by rw [if_neg (by omega)]; simp [List.getD_eq_getElem?_getD, List.getElem?_replicate, srcI, sumI]; split <;> rfl⟩, rfl⟩ ?_ ?_
  · refine ⟨[some 0, some 1, some 2], rfl, rfl, ?_, ?_⟩ <;> repeat' (first | exact trivial | exact rfl | exact Iff.rfl | apply And.intro)
    · exact congrArg Int.ofNat lp
    · exact smpA_rep _
  rintro n _ ⟨i, O, hi, hn, hO, rfl⟩
  by_cases hi' : i < l.length
  · have g8 : rI (plcA l l.length) (i : Int).toNat (0 + 1 + 1 + 1 + 1 + 1 + 1 + 1 + 1) = begP l i := plc_8 l _ i hi'
    have g9 : rI (plcA l l.length) (i : Int).toNat (0 + 1 + 1 + 1 + 1 + 1 + 1 + 1 + 1 + 1) = begP l i + (l.getD i p0).long := plc_9 l _ i hi'
    have hbi := begP_nonneg hb hP.poss i hi'
    have hpi := hb.2 i hi'
    obtain ⟨b1, b2, b3⟩ := id hpi
    have hlo : (l.getD i p0).long = (l.getD i p0).to - (l.getD i p0).fr := rfl
    have hin := hP.poss.inside hb (l.length - i) i (by omega) (by omega)
    repeat' ((conv => whnf); first | refine Rng.g ?_ | refine Ob.g ?_ | refine Ob.e ?_ | refine Ob.m ?_ | refine Ob.mk (Nat.le_of_ble_eq_true rfl) ?_ | refine JoinVC.on ?_ | refine Nils.mk (fun h => ?_) ?_ | refine Val.t ?_ | refine Val.d ?_ | refine Mm.mk ?_ | (refine Br.mk (fun h => ?_) (fun h => ?_) <;> first | (exfalso; omega; done) | (exfalso; simp at h; done) | skip))
    refine LoopVC.mk (fun n st => ∃ (t : Nat) (O : List Smp), begP l i ≤ t ∧ (t : Int) ≤ begP l i + (l.getD i p0).long ∧ n = (begP l i + (l.getD i p0).long).toNat - t ∧ Acc T l O i t ∧ st = ⟨0, envA 66 [(6, .x (.one (.ptr 0 0))), (8, .x (.one (.own 2))), (10, .x (.one (.ptr 3 0))), (11, .int .i64 (t : Int)), (29, .x (.one (.own 1))), (30, .int .i64 (l.length : Int)), (31, .int .i64 (i : Int))], [some (bG 1 T (endP l)), some (rowG (plcA l l.length)), some (rowS O), some (.box 206 [.int .i64 (l.getD i p0).tk, .int .i64 (l.getD i p0).fr, .int .i64 (l.getD i p0).to, .int .i64 (l.getD i p0).gap, .int .i64 (l.getD i p0).inn, .int .i64 (l.getD i p0).out, .int .i64 (l.getD i p0).lev, .int .i64 (i : Int), .int .i64 (begP l i), .int .i64 (begP l i + (l.getD i p0).long)])]⟩) _ _ ⟨(begP l i).toNat, O, by omega, by omega, rfl, by rw [Int.toNat_of_nonneg hbi]; exact hO, rfl⟩ ?_ ?_
    · rw [Int.toNat_of_nonneg hbi]
      refine ⟨[some 0, some 1, some 2, some 3], rfl, rfl, ?_, ?_⟩ <;> repeat' (first | exact trivial | exact rfl | exact Iff.rfl | apply And.intro)
      all_goals (rw [Int.toNat_natCast, plc_x l _ i hi']; rfl)
    clear hO
    rintro n2 _ ⟨t, O, ht1, ht2, hn2, hO, rfl⟩
    have lO := smpA_len O
    have hOl := hO.len
    by_cases ht : (t : Int) < begP l i + (l.getD i p0).long
    · have hsf := hP.sf (t := t) (i := i) (by unfold srcI; rw [List.mem_filter, List.mem_range]; exact ⟨hi', decide_eq_true ⟨ht1, ht⟩⟩)
      have hsn : (-131068 ≤ (sndI T l t i).l ∧ (sndI T l t i).l ≤ 131068) ∧ (-131068 ≤ (sndI T l t i).r ∧ (sndI T l t i).r ≤ 131068) := hsf.snd
      have htN : t < (endP l).toNat := by omega
      have hget := hO.get t htN
      rw [if_neg (by omega)] at hget
      have hbd := sumI_bd2 hP t (i := i) (by omega)
      rw [← hget] at hbd
      have c1 : PSpec Tryz.prog 102 [gX T (plcA l l.length) (endP l), plcX (l.getD i p0) i (begP l i) (begP l i + (l.getD i p0).long), I ((t : Int) - begP l i), I (l.getD i p0).lev] (.x (sndI T l t i).x) := s102 T _ _ _ _ _ _ _ hsf (by omega)
      have a0 : rI (smpA O) (t : Int).toNat 0 = (O.getD t s0).l := by rw [Int.toNat_natCast, smpA_l]
      have a1 : rI (smpA O) (t : Int).toNat (0 + 1) = (O.getD t s0).r := by rw [Int.toNat_natCast, smpA_r]
      have c2 : PSpec Tryz.prog 101 [.agg [.int .i64 (rI (smpA O) (t : Int).toNat 0), .int .i64 (rI (smpA O) (t : Int).toNat (0 + 1))], (sndI T l t i).x] (.x (addS (O.getD t s0) (sndI T l t i)).x) := by
        rw [a0, a1]; exact s101 _ _ (by omega) (by omega)
      have u1 : updRow (smpA O) (t : Int).toNat 0 [.int (addS (O.getD t s0) (sndI T l t i)).l, .int (addS (O.getD t s0) (sndI T l t i)).r] = smpA (O.set t (addS (O.getD t s0) (sndI T l t i))) := by rw [Int.toNat_natCast]; exact smpA_set O t _ (by omega)
      repeat' ((conv => whnf); first | rw [u1] | refine Rng.g ?_ | refine Ob.g ?_ | refine Ob.e ?_ | refine Ob.m ?_ | refine Ob.mk (Nat.le_of_ble_eq_true rfl) ?_ | refine JoinVC.on ?_ | refine Nils.mk (fun h => ?_) ?_ | refine Val.t ?_ | refine Val.d ?_ | refine Mm.mk ?_ | refine CallVC.pure rfl (c1) ?_ | refine CallVC.pure rfl (c2) ?_ | refine CallVC0.pure rfl (c1) ?_ | refine CallVC0.pure rfl (c2) ?_ | (refine Br.mk (fun h => ?_) (fun h => ?_) <;> first | (exfalso; omega; done) | (exfalso; simp at h; done) | skip))
      refine Back.mk ((begP l i + (l.getD i p0).long).toNat - (t + 1)) _ (by omega) ⟨t + 1, _, by omega, by omega, rfl, hO.step htN ht1 ht, rfl⟩ ?_
      refine ⟨[some 0, some 1, some 2, some 3], rfl, rfl, ?_, ?_⟩ <;> repeat' (first | exact trivial | exact rfl | exact Iff.rfl | apply And.intro)
    · have e : (t : Int) = begP l i + (l.getD i p0).long := by omega
      rw [e] at hO
      repeat' ((conv => whnf); first | refine Rng.g ?_ | refine Ob.g ?_ | refine Ob.e ?_ | refine Ob.m ?_ | refine Ob.mk (Nat.le_of_ble_eq_true rfl) ?_ | refine JoinVC.on ?_ | refine Nils.mk (fun h => ?_) ?_ | refine Val.t ?_ | refine Val.d ?_ | refine Mm.mk ?_ | (refine Br.mk (fun h => ?_) (fun h => ?_) <;> first | (exfalso; omega; done) | (exfalso; simp at h; done) | skip))
      refine Back.mk (l.length - (i + 1)) _ (by omega) ⟨i + 1, O, by omega, rfl, hO.next, rfl⟩ ?_
      refine ⟨[some 0, some 1, some 2], rfl, rfl, ?_, ?_⟩ <;> repeat' (first | exact trivial | exact rfl | exact Iff.rfl | apply And.intro)
  · have e1 : i = l.length := by omega
    subst e1
    rw [hO.fin]
    have c1 := s103 (rend T l)
    by_cases hE : smpE (rend T l) = 0
    · repeat' ((conv => whnf); first | refine Rng.g ?_ | refine Ob.g ?_ | refine Ob.e ?_ | refine Ob.m ?_ | refine Ob.mk (Nat.le_of_ble_eq_true rfl) ?_ | refine JoinVC.on ?_ | refine Nils.mk (fun h => ?_) ?_ | refine Val.t ?_ | refine Val.d ?_ | refine Mm.mk ?_ | refine CallVC.pure rfl (c1) ?_ | refine CallVC0.pure rfl (c1) ?_ | (refine Br.mk (fun h => ?_) (fun h => ?_) <;> first | (exfalso; omega; done) | (exfalso; simp at h; done) | skip))
      repeat refine Mm.mk ?_
      conv => whnf
      refine EndVC.mk _ rfl _ _ (.inl ⟨hE, rfl, rfl⟩) ?_
      refine ⟨[some 2], rfl, rfl, ?_, ?_⟩ <;> repeat' (first | exact trivial | exact rfl | exact Iff.rfl | apply And.intro)
    · repeat' ((conv => whnf); first | refine Rng.g ?_ | refine Ob.g ?_ | refine Ob.e ?_ | refine Ob.m ?_ | refine Ob.mk (Nat.le_of_ble_eq_true rfl) ?_ | refine JoinVC.on ?_ | refine Nils.mk (fun h => ?_) ?_ | refine Val.t ?_ | refine Val.d ?_ | refine Mm.mk ?_ | refine CallVC.pure rfl (c1) ?_ | refine CallVC0.pure rfl (c1) ?_ | (refine Br.mk (fun h => ?_) (fun h => ?_) <;> first | (exfalso; omega; done) | (exfalso; simp at h; done) | skip))
      repeat refine Mm.mk ?_
      conv => whnf
      refine EndVC.mk _ rfl _ _ (.inr ⟨hE, rfl, rfl⟩) ?_
      refine ⟨[], rfl, rfl, ?_, ?_⟩ <;> repeat' (first | exact trivial | exact rfl | exact Iff.rfl | apply And.intro)
end Go.Sx

namespace Go.Sx
open Go Go.Proofs
set_option maxRecDepth 10000
set_option maxHeartbeats 2000000
/-- The point of a sample (in, out). -/
def ptF (c : Cut) (s : Smp) : Smp := ⟨(s.r * c.gain).tdiv 1000 - c.half, (s.l * c.gain).tdiv 1000 + c.half⟩
theorem gain_rng {c : Cut} (hC : CutOK c) {n : Int} (hn : -32767 ≤ n ∧ n ≤ 32767) : (-3276700000 ≤ n * c.gain ∧ n * c.gain ≤ 3276700000) ∧ (-3276700 ≤ (n * c.gain).tdiv 1000 ∧ (n * c.gain).tdiv 1000 ≤ 3276700) := by
  have hg := hC.gain
  have h1 := mul_rng (a := n) (b := c.gain) (A := 32767) (B := 100000) hn hg
  have h2 := tdiv_rng (a := n * c.gain) (d := 1000) (B := 3276700) (by decide) (by omega)
  omega
theorem s106 (c : Cut) (s : Smp) (hC : CutOK c) (hs : s.ok) : PSpec Tryz.prog 106 [c.x, s.x] (.x (ptF c s).x) := by
  obtain ⟨h1, h2, h3, h4⟩ := hs
  have g1 := gain_rng hC ⟨h1, h2⟩
  have g2 := gain_rng hC ⟨h3, h4⟩
  have g3 := hC.half
  refine spec_of pMix (O := []) Tryz.func106 (c := bodyOf Tryz.f106) rfl (by kernel_rfl) (by kernel_rfl) Tryz.ntmps106 (res := [.cell 4 51]) (by kernel_rfl) ?_
  repeat' ((conv => whnf); first | refine Rng.g ?_ | refine Ob.g ?_ | refine Ob.e ?_ | refine Ob.m ?_ | refine Ob.mk (Nat.le_of_ble_eq_true rfl) ?_ | refine JoinVC.on ?_ | refine Nils.mk (fun h => ?_) ?_ | refine Val.t ?_ | refine Val.d ?_ | refine Mm.mk ?_ | (refine Br.mk (fun h => ?_) (fun h => ?_) <;> first | (exfalso; omega; done) | (exfalso; simp at h; done) | skip))
  refine Val.mk _ rfl ?_
  repeat' ((conv => whnf); first | refine Rng.g ?_ | refine Ob.g ?_ | refine Ob.e ?_ | refine Ob.m ?_ | refine Ob.mk (Nat.le_of_ble_eq_true rfl) ?_ | refine JoinVC.on ?_ | refine Nils.mk (fun h => ?_) ?_ | refine Val.t ?_ | refine Val.d ?_ | refine Mm.mk ?_ | (refine Br.mk (fun h => ?_) (fun h => ?_) <;> first | (exfalso; omega; done) | (exfalso; simp at h; done) | skip))
  refine Val.mk _ rfl ?_
  repeat' ((conv => whnf); first | refine Rng.g ?_ | refine Ob.g ?_ | refine Ob.e ?_ | refine Ob.m ?_ | refine Ob.mk (Nat.le_of_ble_eq_true rfl) ?_ | refine JoinVC.on ?_ | refine Nils.mk (fun h => ?_) ?_ | refine Val.t ?_ | refine Val.d ?_ | refine Mm.mk ?_ | (refine Br.mk (fun h => ?_) (fun h => ?_) <;> first | (exfalso; omega; done) | (exfalso; simp at h; done) | skip))
  repeat refine Mm.mk ?_
  refine EndVC.mk _ rfl _ _ ⟨rfl, rfl⟩ ?_
  refine ⟨[], rfl, rfl, ?_, ?_⟩ <;> repeat' (first | exact trivial | exact rfl | exact Iff.rfl | apply And.intro)
theorem s107 (p : Smp) : PSpec Tryz.prog 107 [p.x] (xP ((p.l ≥ -4194304 ∧ p.l ≤ 4194304) ∧ (p.r ≥ -4194304 ∧ p.r ≤ 4194304))) := by
  refine spec_of pMix (O := []) Tryz.func107 (c := bodyOf Tryz.f107) rfl (by kernel_rfl) (by kernel_rfl) Tryz.ntmps107 (res := [.tmp 2]) (by kernel_rfl) ?_
  repeat' ((conv => whnf); first | refine Rng.g ?_ | refine Ob.g ?_ | refine Ob.e ?_ | refine Ob.m ?_ | refine Ob.mk (Nat.le_of_ble_eq_true rfl) ?_ | refine JoinVC.on ?_ | refine Nils.mk (fun h => ?_) ?_ | refine Val.t ?_ | refine Val.d ?_ | refine Mm.mk ?_ | refine CallVC.pure rfl (s205 p.l (-4194304) 4194304) ?_ | refine CallVC.pure rfl (s205 p.r (-4194304) 4194304) ?_ | refine CallVC0.pure rfl (s205 p.l (-4194304) 4194304) ?_ | refine CallVC0.pure rfl (s205 p.r (-4194304) 4194304) ?_ | (refine Br.mk (fun h => ?_) (fun h => ?_) <;> first | (exfalso; omega; done) | (exfalso; simp at h; done) | skip))
  · repeat refine Mm.mk ?_
    refine EndVC.mk _ rfl _ _ ⟨rfl, rfl⟩ ?_
    refine ⟨[], rfl, rfl, ?_, ?_⟩ <;> repeat' (first | exact trivial | exact rfl | exact Iff.rfl | apply And.intro)
    exact ⟨fun h2 => ⟨h, h2⟩, fun h2 => h2.2⟩
  · repeat refine Mm.mk ?_
    refine EndVC.mk _ rfl _ _ ⟨rfl, rfl⟩ ?_
    refine ⟨[], rfl, rfl, ?_, ?_⟩ <;> repeat' (first | exact trivial | exact rfl | exact Iff.rfl | apply And.intro)
    exact fun h2 => h h2.1
@[reducible] def smpX (l : List Smp) (i : Nat) : XV := .agg [.int .i64 (rI (smpA l) (i : Int).toNat 0), .int .i64 (rI (smpA l) (i : Int).toNat (0 + 1))]
theorem smpX_eq (l : List Smp) (i : Nat) : smpX l i = (l.getD i s0).x := by
  unfold smpX Smp.x
  rw [Int.toNat_natCast, smpA_l, smpA_r]
/-- A list that is filled from the front. -/
structure Fill (f : Nat → Smp) (n : Nat) (O : List Smp) (i : Nat) : Prop where
  len : O.length = n
  done : ∀ j, j < i → O.getD j s0 = f j
theorem Fill.step {f : Nat → Smp} {n : Nat} {O : List Smp} {i : Nat} (h : Fill f n O i) (hi : i < n) : Fill f n (O.set i (f i)) (i + 1) := by
  have hl := h.len
  refine ⟨by rw [List.length_set]; exact hl, fun j hj => ?_⟩
  rw [getD_set' _ _ _ _ _ (by omega)]
  split
  · rename_i e; rw [e]
  · exact h.done j (by omega)
theorem Fill.fin {f : Nat → Smp} {n : Nat} {O : List Smp} (h : Fill f n O n) : O = (List.range n).map f := by
  have hl := h.len
  refine List.ext_getElem (by simp [hl]) fun j h1 h2 => ?_
  have h3 := h.done j (by omega)
  simpa [List.getD_eq_getElem?_getD, h1] using h3
@[reducible] def rowP (O : List Smp) : Blk := .row 51 false KS (smpA O)
theorem eb51 : Tryz.t51.bytes = 16 := by kernel_rfl
/-- The groove of samples. -/
def cutF (c : Cut) (l : List Smp) : List Smp := (List.range l.length).map fun i => ptF c (l.getD i s0)
theorem cutF_len (c : Cut) (l : List Smp) : (cutF c l).length = l.length := by simp [cutF]
theorem cutF_get (c : Cut) (l : List Smp) (i : Nat) (h : i < l.length) : (cutF c l).getD i s0 = ptF c (l.getD i s0) := by simp [cutF, List.getD_eq_getElem?_getD, h]
structure SmpsOK (l : List Smp) : Prop where
  len : l.length ≤ 4096
  each : ∀ j, j < l.length → (l.getD j s0).ok
theorem smpE_iff (l : List Smp) : smpE l = 0 ↔ SmpsOK l := by
  unfold smpE
  constructor
  · intro h
    by_cases h1 : 4096 < l.length
    · rw [if_pos h1] at h; cases h
    rw [if_neg h1] at h
    by_cases h2 : ∀ s ∈ l, s.ok
    · exact ⟨by omega, fun j hj => h2 _ (getD_mem' s0 hj)⟩
    · rw [if_neg h2] at h; cases h
  · intro h
    rw [if_neg (by have := h.len; omega), if_pos]
    intro s hs
    obtain ⟨q, hq, e⟩ := List.getElem_of_mem hs
    have := h.each q hq
    rw [List.getD_eq_getElem?_getD, List.getElem?_eq_getElem hq] at this
    rw [← e]
    exact this
inductive CutRs (c : Cut) (l : List Smp) (r : AV) (m' : List (Option Blk)) : Prop
  | bad (e : Int) (h : ¬ (CutOK c ∧ SmpsOK l)) (he : e ≠ 0) (hr : r = .tup [.one .nils, I e]) (hm : m' = [])
  | ok (hC : CutOK c) (hl : SmpsOK l) (hr : r = .tup [.one (.own 0), I 0]) (hm : m' = [some (rowP (cutF c l))])
theorem s30 (c : Cut) (l : List Smp) : HSpec Tryz.prog 30 [c.x, lS l] [] (CutRs c l) := by
  have ll := smpA_len l
  have v1 := s105 c
  have v2 := s103 l
  have v3 := smpE_iff l
  refine spec_of pMix (O := []) Tryz.func30 (c := bodyOf Tryz.f30) rfl (by kernel_rfl) (by kernel_rfl) Tryz.ntmps30 (res := [.tmp 4, .tmp 5]) (by kernel_rfl) ?_
  repeat' ((conv => whnf); first | refine Rng.g ?_ | refine Ob.g ?_ | refine Ob.e ?_ | refine Ob.m ?_ | refine Ob.mk (Nat.le_of_ble_eq_true rfl) ?_ | refine JoinVC.on ?_ | refine Nils.mk (fun h => ?_) ?_ | refine Val.t ?_ | refine Val.d ?_ | refine Mm.mk ?_ | (refine Br.mk (fun h => ?_) (fun h => ?_) <;> first | (exfalso; omega; done) | (exfalso; simp at h; done) | skip))
  conv => whnf
  refine CallVC.mk [] _ _ _ rfl rfl rfl (v1) (fun r m' h' => ?_)
  obtain ⟨e, rfl, rfl, he⟩ := h'
  conv => whnf
  repeat' ((conv => whnf); first | refine Rng.g ?_ | refine Ob.g ?_ | refine Ob.e ?_ | refine Ob.m ?_ | refine Ob.mk (Nat.le_of_ble_eq_true rfl) ?_ | refine JoinVC.on ?_ | refine Nils.mk (fun h => ?_) ?_ | refine Val.t ?_ | refine Val.d ?_ | refine Mm.mk ?_ | refine CallVC.pure rfl (v2) ?_ | refine CallVC0.pure rfl (v2) ?_ | (refine Br.mk (fun h => ?_) (fun h => ?_) <;> first | (exfalso; omega; done) | (exfalso; simp at h; done) | skip))
  · repeat refine Mm.mk ?_
    conv => whnf
    refine EndVC.mk _ rfl _ _ (.bad e (fun h2 => h (he.2 h2.1)) h rfl rfl) ?_
    refine ⟨[], rfl, rfl, ?_, ?_⟩ <;> repeat' (first | exact trivial | exact rfl | exact Iff.rfl | apply And.intro)
  · repeat refine Mm.mk ?_
    conv => whnf
    refine EndVC.mk _ rfl _ _ (.bad _ (fun h2 => h (v3.2 h2.2)) h rfl rfl) ?_
    refine ⟨[], rfl, rfl, ?_, ?_⟩ <;> repeat' (first | exact trivial | exact rfl | exact Iff.rfl | apply And.intro)
  · rename_i g1
    have hC := he.1 (Classical.not_not.1 g1)
    have hL := v3.1 (Classical.not_not.1 h)
    have hl4 := hL.len
    repeat refine Mm.mk ?_
    refine Ob.mk (by simp only [eb51]; omega) ?_
    repeat' ((conv => whnf); first | refine Rng.g ?_ | refine Ob.g ?_ | refine Ob.e ?_ | refine Ob.m ?_ | refine Ob.mk (Nat.le_of_ble_eq_true rfl) ?_ | refine JoinVC.on ?_ | refine Nils.mk (fun h => ?_) ?_ | refine Val.t ?_ | refine Val.d ?_ | refine Mm.mk ?_ | (refine Br.mk (fun h => ?_) (fun h => ?_) <;> first | (exfalso; omega; done) | (exfalso; simp at h; done) | skip))
    refine LoopVC.mk (fun n st => ∃ (i : Nat) (O : List Smp), i ≤ l.length ∧ n = l.length - i ∧ Fill (fun j => ptF c (l.getD j s0)) l.length O i ∧ st = ⟨0, envA 39 [(24, .x (lS l)), (2, .x (.one (.ptr 0 0))), (8, .x (.one (.own 1))), (25, .int .i64 (l.length : Int)), (26, .int .i64 (i : Int))], [some (.box 26 [.int .i64 c.half, .int .i64 c.gain, .int .i64 c.thin, .int .i64 c.wide, .int .i64 c.slope, .int .i64 c.jerk, .int .i64 c.sty]), some (rowP O)]⟩) _ _ ⟨0, List.replicate l.length s0, Nat.zero_le _, rfl, ⟨by simp, fun j hj => absurd hj (Nat.not_lt_zero j)⟩, rfl⟩ ?_ ?_
    · refine ⟨[some 0, some 1], rfl, rfl, ?_, ?_⟩ <;> repeat' (first | exact trivial | exact rfl | exact Iff.rfl | apply And.intro)
      · exact congrArg Int.ofNat ll
      · show List.replicate ((List.length (smpA l) : Int)).toNat _ = _
        rw [Int.toNat_natCast, ll]
        exact smpA_rep _
    rintro n _ ⟨i, O, hi, hn, hO, rfl⟩
    have lO := smpA_len O
    have hOl := hO.len
    by_cases hi' : i < l.length
    · have u1 : updRow (smpA O) (i : Int).toNat 0 [.int (ptF c (l.getD i s0)).l, .int (ptF c (l.getD i s0)).r] = smpA (O.set i (ptF c (l.getD i s0))) := by rw [Int.toNat_natCast]; exact smpA_set O i _ (by omega)
      have c1 : PSpec Tryz.prog 106 [c.x, smpX l i] (.x (ptF c (l.getD i s0)).x) := smpX_eq l i ▸ s106 c _ hC (hL.each i hi')
      repeat' ((conv => whnf); first | rw [u1] | refine Rng.g ?_ | refine Ob.g ?_ | refine Ob.e ?_ | refine Ob.m ?_ | refine Ob.mk (Nat.le_of_ble_eq_true rfl) ?_ | refine JoinVC.on ?_ | refine Nils.mk (fun h => ?_) ?_ | refine Val.t ?_ | refine Val.d ?_ | refine Mm.mk ?_ | refine CallVC.pure rfl (c1) ?_ | refine CallVC0.pure rfl (c1) ?_ | (refine Br.mk (fun h => ?_) (fun h => ?_) <;> first | (exfalso; omega; done) | (exfalso; simp at h; done) | skip))
      refine Back.mk (l.length - (i + 1)) _ (by omega) ⟨i + 1, _, by omega, rfl, hO.step hi', rfl⟩ ?_
      refine ⟨[some 0, some 1], rfl, rfl, ?_, ?_⟩ <;> repeat' (first | exact trivial | exact rfl | exact Iff.rfl | apply And.intro)
    · repeat' ((conv => whnf); first | refine Rng.g ?_ | refine Ob.g ?_ | refine Ob.e ?_ | refine Ob.m ?_ | refine Ob.mk (Nat.le_of_ble_eq_true rfl) ?_ | refine JoinVC.on ?_ | refine Nils.mk (fun h => ?_) ?_ | refine Val.t ?_ | refine Val.d ?_ | refine Mm.mk ?_ | (refine Br.mk (fun h => ?_) (fun h => ?_) <;> first | (exfalso; omega; done) | (exfalso; simp at h; done) | skip))
      have e1 : i = l.length := by omega
      rw [e1] at hO
      rw [hO.fin]
      repeat refine Mm.mk ?_
      conv => whnf
      refine EndVC.mk _ rfl _ _ (.ok hC hL rfl rfl) ?_
      refine ⟨[some 1], rfl, rfl, ?_, ?_⟩ <;> repeat' (first | exact trivial | exact rfl | exact Iff.rfl | apply And.intro)
end Go.Sx

namespace Go.Sx
open Go Go.Proofs
set_option maxRecDepth 10000
set_option maxHeartbeats 2000000
theorem e32 : EntersF Tryz.prog 32 := enters_of Tryz.func32 (c := bodyOf Tryz.f32) (by kernel_rfl) rfl
theorem e108 : EntersF Tryz.prog 108 := enters_of Tryz.func108 (c := bodyOf Tryz.f108) (by kernel_rfl) rfl
theorem e109 : EntersF Tryz.prog 109 := enters_of Tryz.func109 (c := bodyOf Tryz.f109) (by kernel_rfl) rfl
theorem e110 : EntersF Tryz.prog 110 := enters_of Tryz.func110 (c := bodyOf Tryz.f110) (by kernel_rfl) rfl
theorem e206 : EntersF Tryz.prog 206 := enters_of Tryz.func206 (c := bodyOf Tryz.f206) (by kernel_rfl) rfl
theorem e136 : EntersF Tryz.prog 136 := enters_of Tryz.func136 (c := bodyOf Tryz.f136) (by kernel_rfl) rfl
def amt (n : Int) : Int := if n < -n then -n else n
theorem s111 (n : Int) (hn : -1000000000000 ≤ n ∧ n ≤ 1000000000000) : PSpec Tryz.prog 111 [I n] (.x (I (amt n))) := by
  refine spec_of pMix (O := []) Tryz.func111 (c := bodyOf Tryz.f111) rfl (by kernel_rfl) (by kernel_rfl) Tryz.ntmps111 (res := [.tmp 2]) (by kernel_rfl) ?_
  repeat' ((conv => whnf); first | refine Rng.g ?_ | refine Ob.g ?_ | refine Ob.e ?_ | refine Ob.m ?_ | refine Ob.mk (Nat.le_of_ble_eq_true rfl) ?_ | refine JoinVC.on ?_ | refine Nils.mk (fun h => ?_) ?_ | refine Val.t ?_ | refine Val.d ?_ | refine Mm.mk ?_ | (refine Br.mk (fun h => ?_) (fun h => ?_) <;> first | (exfalso; omega; done) | (exfalso; simp at h; done) | skip))
  · repeat refine Mm.mk ?_
    refine EndVC.mk _ rfl _ _ ⟨rfl, rfl⟩ ?_
    refine ⟨[], rfl, rfl, ?_, ?_⟩ <;> repeat' (first | exact trivial | exact rfl | exact Iff.rfl | apply And.intro)
    unfold amt
    rw [Int.zero_sub]
@[reducible] def bCut (c : Cut) : Blk := .box 26 [.int .i64 c.half, .int .i64 c.gain, .int .i64 c.thin, .int .i64 c.wide, .int .i64 c.slope, .int .i64 c.jerk, .int .i64 c.sty]
def pB (c : Cut) (d k : Int) : Prop := (k * c.gain).tdiv 1000 ≥ amt d
instance (c : Cut) (d k : Int) : Decidable (pB c d k) := by unfold pB; exact inferInstance
theorem pB.mono {c : Cut} (hC : CutOK c) {d k q : Int} (hk : 0 ≤ k) (hq : k ≤ q) (h : pB c d k) : pB c d q := by
  have hg := hC.gain
  unfold pB at h ⊢
  have h1 : k * c.gain ≤ q * c.gain := Int.mul_le_mul_of_nonneg_right hq hg.1
  have h2 : 0 ≤ k * c.gain := Int.mul_nonneg hk hg.1
  rw [Int.tdiv_eq_ediv_of_nonneg h2] at h
  rw [Int.tdiv_eq_ediv_of_nonneg (by omega)]
  have := Int.ediv_le_ediv (show (0 : Int) < 1000 by decide) h1
  omega
theorem s110 (c : Cut) (d n : Int) (hC : CutOK c) (hd : -1000000000000 ≤ d ∧ d ≤ 1000000000000) (hn : 0 ≤ n ∧ n ≤ 32767) : HSpec Tryz.prog 110 [I n, .one (.ptr 0 0), .one (.ptr 1 0)] [bCut c, .box 2 [.int .i64 d]] (fun r m' => r = xP (pB c d n) ∧ m' = [some (bCut c), some (.box 2 [.int .i64 d])]) := by
  have g1 := gain_rng hC (n := n) ⟨by omega, by omega⟩
  refine spec_of pMix (O := [(1, ([], [⟨0, [], []⟩, ⟨1, [], []⟩, ⟨2, [], []⟩, ⟨3, [], []⟩, ⟨4, [], []⟩, ⟨5, [], []⟩, ⟨6, [0, 1, 2, 3, 4], []⟩, ⟨7, [], []⟩, ⟨8, [], []⟩]))]) Tryz.func110 (c := bodyOf Tryz.f110) rfl (by kernel_rfl) (by kernel_rfl) Tryz.ntmps110 (res := [.tmp 4]) (by kernel_rfl) ?_
  repeat' ((conv => whnf); first | refine Rng.g ?_ | refine Ob.g ?_ | refine Ob.e ?_ | refine Ob.m ?_ | refine Ob.mk (Nat.le_of_ble_eq_true rfl) ?_ | refine JoinVC.on ?_ | refine Nils.mk (fun h => ?_) ?_ | refine Val.t ?_ | refine Val.d ?_ | refine Mm.mk ?_ | refine CallVC.pure rfl (s111 d hd) ?_ | refine CallVC0.pure rfl (s111 d hd) ?_ | (refine Br.mk (fun h => ?_) (fun h => ?_) <;> first | (exfalso; omega; done) | (exfalso; simp at h; done) | skip))
  refine Val.mk _ rfl ?_
  repeat' ((conv => whnf); first | refine Rng.g ?_ | refine Ob.g ?_ | refine Ob.e ?_ | refine Ob.m ?_ | refine Ob.mk (Nat.le_of_ble_eq_true rfl) ?_ | refine JoinVC.on ?_ | refine Nils.mk (fun h => ?_) ?_ | refine Val.t ?_ | refine Val.d ?_ | refine Mm.mk ?_ | refine CallVC.pure rfl (s111 d hd) ?_ | refine CallVC0.pure rfl (s111 d hd) ?_ | (refine Br.mk (fun h => ?_) (fun h => ?_) <;> first | (exfalso; omega; done) | (exfalso; simp at h; done) | skip))
  repeat refine Mm.mk ?_
  refine EndVC.mk _ rfl _ _ ⟨rfl, rfl⟩ ?_
  refine ⟨[some 0, some 1], rfl, rfl, ?_, ?_⟩ <;> repeat' (first | exact trivial | exact rfl | exact Iff.rfl | apply And.intro)
theorem s206 (c : Cut) (d n : Int) (hC : CutOK c) (hd : -1000000000000 ≤ d ∧ d ≤ 1000000000000) (hn : 0 ≤ n ∧ n ≤ 32767) : HSpec Tryz.prog 206 [I n, .one (.ptr 0 0)] [.box 213 [.fn 110 [(1, 0), (2, 0)]], bCut c, .box 2 [.int .i64 d]] (fun r m' => r = xP (pB c d n) ∧ m' = [some (.box 213 [.fn 110 [(1, 0), (2, 0)]]), some (bCut c), some (.box 2 [.int .i64 d])]) := by
  refine spec_of pMix (O := []) Tryz.func206 (c := bodyOf Tryz.f206) rfl (by kernel_rfl) (by kernel_rfl) Tryz.ntmps206 (res := [.tmp 3]) (by kernel_rfl) ?_
  repeat' ((conv => whnf); first | refine Rng.g ?_ | refine Ob.g ?_ | refine Ob.e ?_ | refine Ob.m ?_ | refine Ob.mk (Nat.le_of_ble_eq_true rfl) ?_ | refine JoinVC.on ?_ | refine Nils.mk (fun h => ?_) ?_ | refine Val.t ?_ | refine Val.d ?_ | refine Mm.mk ?_ | (refine Br.mk (fun h => ?_) (fun h => ?_) <;> first | (exfalso; omega; done) | (exfalso; simp at h; done) | skip))
  conv => whnf
  refine CallVC.mk [1, 2] _ _ _ rfl rfl rfl (s110 c d n hC hd hn) (fun r m' h' => ?_)
  obtain ⟨rfl, rfl⟩ := h'
  conv => whnf
  repeat' ((conv => whnf); first | refine Rng.g ?_ | refine Ob.g ?_ | refine Ob.e ?_ | refine Ob.m ?_ | refine Ob.mk (Nat.le_of_ble_eq_true rfl) ?_ | refine JoinVC.on ?_ | refine Nils.mk (fun h => ?_) ?_ | refine Val.t ?_ | refine Val.d ?_ | refine Mm.mk ?_ | (refine Br.mk (fun h => ?_) (fun h => ?_) <;> first | (exfalso; omega; done) | (exfalso; simp at h; done) | skip))
  repeat refine Mm.mk ?_
  refine EndVC.mk _ rfl _ _ ⟨rfl, rfl⟩ ?_
  refine ⟨[some 0, some 1, some 2], rfl, rfl, ?_, ?_⟩ <;> repeat' (first | exact trivial | exact rfl | exact Iff.rfl | apply And.intro)
/-- What a search finds. -/
structure Least (p : Int → Prop) (n k : Int) : Prop where
  rng : 0 ≤ k ∧ k ≤ n
  no : ∀ q, 0 ≤ q → q < k → ¬ p q
  yes : k < n → p k
theorem s136b (c : Cut) (d : Int) (hC : CutOK c) (hd : -1000000000000 ≤ d ∧ d ≤ 1000000000000) : HSpec Tryz.prog 136 [I 32768, .one (.fn 206 [(0, 0)])] [.box 213 [.fn 110 [(1, 0), (2, 0)]], bCut c, .box 2 [.int .i64 d]] (fun r m' => ∃ k, Least (pB c d) 32768 k ∧ r = .x (I k) ∧ m' = [some (.box 213 [.fn 110 [(1, 0), (2, 0)]]), some (bCut c), some (.box 2 [.int .i64 d])]) := by
  refine spec_of pMix (O := []) Tryz.func136 (c := bodyOf Tryz.f136) rfl (by kernel_rfl) (by kernel_rfl) Tryz.ntmps136 (res := [.tmp 4]) (by kernel_rfl) ?_
  repeat' ((conv => whnf); first | refine Rng.g ?_ | refine Ob.g ?_ | refine Ob.e ?_ | refine Ob.m ?_ | refine Ob.mk (Nat.le_of_ble_eq_true rfl) ?_ | refine JoinVC.on ?_ | refine Nils.mk (fun h => ?_) ?_ | refine Val.t ?_ | refine Val.d ?_ | refine Mm.mk ?_ | (refine Br.mk (fun h => ?_) (fun h => ?_) <;> first | (exfalso; omega; done) | (exfalso; simp at h; done) | skip))
  refine LoopVC.mk (fun n st => ∃ (i j : Int), (0 ≤ i ∧ i ≤ j ∧ j ≤ 32768) ∧ n = (j - i).toNat ∧ (∀ q, 0 ≤ q → q < i → ¬ pB c d q) ∧ (j < 32768 → pB c d j) ∧ st = ⟨3, envA 26 [(1, .x (.one (.fn 206 [(0, 0)]))), (5, .int .i64 i), (6, .int .i64 j)], [some (.box 213 [.fn 110 [(1, 0), (2, 0)]]), some (bCut c), some (.box 2 [.int .i64 d])]⟩) _ _ ⟨0, 32768, by omega, rfl, fun q h1 h2 => by omega, fun h1 => by omega, rfl⟩ ?_ ?_
  · refine ⟨[some 0, some 1, some 2], rfl, rfl, ?_, ?_⟩ <;> repeat' (first | exact trivial | exact rfl | exact Iff.rfl | apply And.intro)
  rintro n _ ⟨i, j, hij, hn, hno, hyes, rfl⟩
  by_cases hlt : i < j
  · obtain ⟨g, hg⟩ : ∃ g, g = (i + j) / 2 := ⟨_, rfl⟩
    have h1 : i ≤ g ∧ g < j := by omega
    repeat' ((conv => whnf); first | refine Rng.g ?_ | refine Ob.g ?_ | refine Ob.e ?_ | refine Ob.m ?_ | refine Ob.mk (Nat.le_of_ble_eq_true rfl) ?_ | refine JoinVC.on ?_ | refine Nils.mk (fun h => ?_) ?_ | refine Val.t ?_ | refine Val.d ?_ | refine Mm.mk ?_ | (refine Br.mk (fun h => ?_) (fun h => ?_) <;> first | (exfalso; omega; done) | (exfalso; simp at h; done) | skip))
    refine Val.mk g (by rw [hg]; rfl) ?_
    repeat' ((conv => whnf); first | refine Rng.g ?_ | refine Ob.g ?_ | refine Ob.e ?_ | refine Ob.m ?_ | refine Ob.mk (Nat.le_of_ble_eq_true rfl) ?_ | refine JoinVC.on ?_ | refine Nils.mk (fun h => ?_) ?_ | refine Val.t ?_ | refine Val.d ?_ | refine Mm.mk ?_ | (refine Br.mk (fun h => ?_) (fun h => ?_) <;> first | (exfalso; omega; done) | (exfalso; simp at h; done) | skip))
    conv => whnf
    refine CallVC.mk [0, 1, 2] _ _ _ rfl rfl rfl (s206 c d g hC hd (by omega)) (fun r m' h' => ?_)
    obtain ⟨rfl, rfl⟩ := h'
    conv => whnf
    repeat' ((conv => whnf); first | refine Rng.g ?_ | refine Ob.g ?_ | refine Ob.e ?_ | refine Ob.m ?_ | refine Ob.mk (Nat.le_of_ble_eq_true rfl) ?_ | refine JoinVC.on ?_ | refine Nils.mk (fun h => ?_) ?_ | refine Val.t ?_ | refine Val.d ?_ | refine Mm.mk ?_ | (refine Br.mk (fun h => ?_) (fun h => ?_) <;> first | (exfalso; omega; done) | (exfalso; simp at h; done) | skip))
    · refine Back.mk (j - (g + 1)).toNat _ (by omega) ⟨g + 1, j, by omega, rfl, fun q h2 h3 h4 => h (h4.mono hC h2 (by omega)), hyes, rfl⟩ ?_
      refine ⟨[some 0, some 1, some 2], rfl, rfl, ?_, ?_⟩ <;> repeat' (first | exact trivial | exact rfl | exact Iff.rfl | apply And.intro)
    · refine Back.mk (g - i).toNat _ (by omega) ⟨i, g, by omega, rfl, hno, fun _ => Classical.not_not.1 h, rfl⟩ ?_
      refine ⟨[some 0, some 1, some 2], rfl, rfl, ?_, ?_⟩ <;> repeat' (first | exact trivial | exact rfl | exact Iff.rfl | apply And.intro)
  · repeat' ((conv => whnf); first | refine Rng.g ?_ | refine Ob.g ?_ | refine Ob.e ?_ | refine Ob.m ?_ | refine Ob.mk (Nat.le_of_ble_eq_true rfl) ?_ | refine JoinVC.on ?_ | refine Nils.mk (fun h => ?_) ?_ | refine Val.t ?_ | refine Val.d ?_ | refine Mm.mk ?_ | (refine Br.mk (fun h => ?_) (fun h => ?_) <;> first | (exfalso; omega; done) | (exfalso; simp at h; done) | skip))
    have e : i = j := by omega
    subst e
    repeat refine Mm.mk ?_
    conv => whnf
    refine EndVC.mk _ rfl _ _ (⟨i, ⟨by omega, hno, hyes⟩, rfl, rfl⟩) ?_
    refine ⟨[some 0, some 1, some 2], rfl, rfl, ?_, ?_⟩ <;> repeat' (first | exact trivial | exact rfl | exact Iff.rfl | apply And.intro)
theorem s109b (c : Cut) (d : Int) (hC : CutOK c) (hd : -1000000000000 ≤ d ∧ d ≤ 1000000000000) : HSpec Tryz.prog 109 [I 32767, .one (.fn 110 [(0, 0), (1, 0)])] [bCut c, .box 2 [.int .i64 d]] (fun r m' => ∃ k, Least (pB c d) 32768 k ∧ r = .x (I k) ∧ m' = [some (bCut c), some (.box 2 [.int .i64 d])]) := by
  refine spec_of pMix (O := []) Tryz.func109 (c := bodyOf Tryz.f109) rfl (by kernel_rfl) (by kernel_rfl) Tryz.ntmps109 (res := [.tmp 4]) (by kernel_rfl) ?_
  repeat' ((conv => whnf); first | refine Rng.g ?_ | refine Ob.g ?_ | refine Ob.e ?_ | refine Ob.m ?_ | refine Ob.mk (Nat.le_of_ble_eq_true rfl) ?_ | refine JoinVC.on ?_ | refine Nils.mk (fun h => ?_) ?_ | refine Val.t ?_ | refine Val.d ?_ | refine Mm.mk ?_ | (refine Br.mk (fun h => ?_) (fun h => ?_) <;> first | (exfalso; omega; done) | (exfalso; simp at h; done) | skip))
  conv => whnf
  refine CallVC.mk [2, 0, 1] _ _ _ rfl rfl rfl (s136b c d hC hd) (fun r m' h' => ?_)
  obtain ⟨k, hk, rfl, rfl⟩ := h'
  conv => whnf
  have hk1 := hk.rng
  repeat' ((conv => whnf); first | refine Rng.g ?_ | refine Ob.g ?_ | refine Ob.e ?_ | refine Ob.m ?_ | refine Ob.mk (Nat.le_of_ble_eq_true rfl) ?_ | refine JoinVC.on ?_ | refine Nils.mk (fun h => ?_) ?_ | refine Val.t ?_ | refine Val.d ?_ | refine Mm.mk ?_ | (refine Br.mk (fun h => ?_) (fun h => ?_) <;> first | (exfalso; omega; done) | (exfalso; simp at h; done) | skip))
  repeat refine Mm.mk ?_
  conv => whnf
  refine EndVC.mk _ rfl _ _ (⟨k, hk, rfl, rfl⟩) ?_
  refine ⟨[some 0, some 1], rfl, rfl, ?_, ?_⟩ <;> repeat' (first | exact trivial | exact rfl | exact Iff.rfl | apply And.intro)
def rdF (d k : Int) : Int := if d < 0 then -k else k
theorem s108 (c : Cut) (d : Int) (hC : CutOK c) (hd : -1000000000000 ≤ d ∧ d ≤ 1000000000000) : HSpec Tryz.prog 108 [I d, .one (.ptr 0 0)] [bCut c] (fun r m' => ∃ k, Least (pB c d) 32768 k ∧ r = .x (I (rdF d k)) ∧ m' = [some (bCut c)]) := by
  refine spec_of pMix (O := []) Tryz.func108 (c := bodyOf Tryz.f108) rfl (by kernel_rfl) (by kernel_rfl) Tryz.ntmps108 (res := [.tmp 3]) (by kernel_rfl) ?_
  repeat' ((conv => whnf); first | refine Rng.g ?_ | refine Ob.g ?_ | refine Ob.e ?_ | refine Ob.m ?_ | refine Ob.mk (Nat.le_of_ble_eq_true rfl) ?_ | refine JoinVC.on ?_ | refine Nils.mk (fun h => ?_) ?_ | refine Val.t ?_ | refine Val.d ?_ | refine Mm.mk ?_ | (refine Br.mk (fun h => ?_) (fun h => ?_) <;> first | (exfalso; omega; done) | (exfalso; simp at h; done) | skip))
  conv => whnf
  refine CallVC.mk [0, 1] _ _ _ rfl rfl rfl (s109b c d hC hd) (fun r m' h' => ?_)
  obtain ⟨k, hk, rfl, rfl⟩ := h'
  conv => whnf
  have hk1 := hk.rng
  repeat' ((conv => whnf); first | refine Rng.g ?_ | refine Ob.g ?_ | refine Ob.e ?_ | refine Ob.m ?_ | refine Ob.mk (Nat.le_of_ble_eq_true rfl) ?_ | refine JoinVC.on ?_ | refine Nils.mk (fun h => ?_) ?_ | refine Val.t ?_ | refine Val.d ?_ | refine Mm.mk ?_ | (refine Br.mk (fun h => ?_) (fun h => ?_) <;> first | (exfalso; omega; done) | (exfalso; simp at h; done) | skip))
  · repeat refine Mm.mk ?_
    conv => whnf
    refine EndVC.mk _ rfl _ _ (⟨k, hk, rfl, rfl⟩) ?_
    refine ⟨[some 0], rfl, rfl, ?_, ?_⟩ <;> repeat' (first | exact trivial | exact rfl | exact Iff.rfl | apply And.intro)
    rw [rdF, if_pos h, Int.zero_sub]
  · repeat refine Mm.mk ?_
    conv => whnf
    refine EndVC.mk _ rfl _ _ (⟨k, hk, rfl, rfl⟩) ?_
    refine ⟨[some 0], rfl, rfl, ?_, ?_⟩ <;> repeat' (first | exact trivial | exact rfl | exact Iff.rfl | apply And.intro)
    rw [rdF, if_neg h]
end Go.Sx

namespace Go.Sx
open Go Go.Proofs
set_option maxRecDepth 10000
set_option maxHeartbeats 2000000
def edgeP (p : Smp) : Prop := (p.l ≥ -4194304 ∧ p.l ≤ 4194304) ∧ (p.r ≥ -4194304 ∧ p.r ≤ 4194304)
/-- What a point is read as. -/
inductive BkRs (c : Cut) (p : Smp) (r : AV) (m' : List (Option Blk)) : Prop
  | bad (e : Int) (h : ¬ (CutOK c ∧ edgeP p)) (he : e ≠ 0) (hr : r = .tup [s0.x, I e]) (hm : m' = [])
  | none (hC : CutOK c) (hp : edgeP p) (kl kr : Int) (hl : Least (pB c (p.r - c.half)) 32768 kl) (hR : Least (pB c (p.l + c.half)) 32768 kr) (hn : ¬ ((⟨rdF (p.r - c.half) kl, rdF (p.l + c.half) kr⟩ : Smp).ok ∧ ptF c ⟨rdF (p.r - c.half) kl, rdF (p.l + c.half) kr⟩ = p)) (hr : r = .tup [s0.x, I 5]) (hm : m' = [])
  | ok (hC : CutOK c) (hp : edgeP p) (kl kr : Int) (hl : Least (pB c (p.r - c.half)) 32768 kl) (hR : Least (pB c (p.l + c.half)) 32768 kr) (hs : (⟨rdF (p.r - c.half) kl, rdF (p.l + c.half) kr⟩ : Smp).ok) (he : ptF c ⟨rdF (p.r - c.half) kl, rdF (p.l + c.half) kr⟩ = p) (hr : r = .tup [(⟨rdF (p.r - c.half) kl, rdF (p.l + c.half) kr⟩ : Smp).x, I 0]) (hm : m' = [])
theorem smp1 (s : Smp) : smpE [s] = 0 ↔ s.ok := by
  rw [smpE_iff]
  exact ⟨fun h => h.each 0 (by simp), fun h => ⟨by simp, fun j hj => (by rw [show j = 0 by simp at hj; omega]; exact h)⟩⟩
theorem s32 (c : Cut) (p : Smp) : HSpec Tryz.prog 32 [c.x, p.x] [] (BkRs c p) := by
  by_cases hC : ¬ CutOK c
  · refine spec_of pMix (O := [(7, ([15], [⟨0, [], []⟩, ⟨1, [], []⟩, ⟨2, [], []⟩, ⟨3, [], []⟩, ⟨4, [], []⟩, ⟨5, [], []⟩, ⟨7, [], []⟩, ⟨8, [], []⟩, ⟨9, [], []⟩, ⟨10, [], []⟩, ⟨11, [], []⟩, ⟨12, [], []⟩, ⟨6, [7, 8, 9, 10, 11, 12], []⟩, ⟨13, [], []⟩, ⟨14, [], []⟩, ⟨15, [], []⟩, ⟨16, [], []⟩])), (8, ([], [⟨0, [], [1]⟩, ⟨1, [], []⟩, ⟨2, [], []⟩, ⟨3, [], []⟩, ⟨4, [], []⟩, ⟨5, [], []⟩, ⟨6, [], []⟩, ⟨8, [], []⟩, ⟨7, [8], []⟩, ⟨9, [], []⟩, ⟨10, [], []⟩]))]) Tryz.func32 (c := bodyOf Tryz.f32) rfl (by kernel_rfl) (by kernel_rfl) Tryz.ntmps32 (res := [.cell 4 47, .tmp 5]) (by kernel_rfl) ?_
    repeat' ((conv => whnf); first | refine Rng.g ?_ | refine Ob.g ?_ | refine Ob.e ?_ | refine Ob.m ?_ | refine Ob.mk (Nat.le_of_ble_eq_true rfl) ?_ | refine JoinVC.on ?_ | refine Nils.mk (fun h => ?_) ?_ | refine Val.t ?_ | refine Val.d ?_ | refine Mm.mk ?_ | (refine Br.mk (fun h => ?_) (fun h => ?_) <;> first | (exfalso; omega; done) | (exfalso; simp at h; done) | skip))
    conv => whnf
    refine CallVC.mk [] _ _ _ rfl rfl rfl (s105 c) (fun r m' h' => ?_)
    obtain ⟨e, rfl, rfl, he⟩ := h'
    conv => whnf
    have he0 : e ≠ 0 := fun h0 => hC (he.1 h0)
    repeat' ((conv => whnf); first | refine Rng.g ?_ | refine Ob.g ?_ | refine Ob.e ?_ | refine Ob.m ?_ | refine Ob.mk (Nat.le_of_ble_eq_true rfl) ?_ | refine JoinVC.on ?_ | refine Nils.mk (fun h => ?_) ?_ | refine Val.t ?_ | refine Val.d ?_ | refine Mm.mk ?_ | (refine Br.mk (fun h => ?_) (fun h => ?_) <;> first | (exfalso; omega; done) | (exfalso; simp at h; done) | skip))
    repeat refine Mm.mk ?_
    conv => whnf
    refine EndVC.mk _ rfl _ _ (.bad e (fun h => hC h.1) he0 rfl rfl) ?_
    refine ⟨[], rfl, rfl, ?_, ?_⟩ <;> repeat' (first | exact trivial | exact rfl | exact Iff.rfl | apply And.intro)
  replace hC := Classical.not_not.1 hC
  by_cases hp : ¬ edgeP p
  · refine spec_of pMix (O := [(7, ([15], [⟨0, [], []⟩, ⟨1, [], []⟩, ⟨2, [], []⟩, ⟨3, [], []⟩, ⟨4, [], []⟩, ⟨5, [], []⟩, ⟨7, [], []⟩, ⟨8, [], []⟩, ⟨9, [], []⟩, ⟨10, [], []⟩, ⟨11, [], []⟩, ⟨12, [], []⟩, ⟨6, [7, 8, 9, 10, 11, 12], []⟩, ⟨13, [], []⟩, ⟨14, [], []⟩, ⟨15, [], []⟩, ⟨16, [], []⟩])), (8, ([], [⟨0, [], [1]⟩, ⟨1, [], []⟩, ⟨2, [], []⟩, ⟨3, [], []⟩, ⟨4, [], []⟩, ⟨5, [], []⟩, ⟨6, [], []⟩, ⟨8, [], []⟩, ⟨7, [8], []⟩, ⟨9, [], []⟩, ⟨10, [], []⟩]))]) Tryz.func32 (c := bodyOf Tryz.f32) rfl (by kernel_rfl) (by kernel_rfl) Tryz.ntmps32 (res := [.cell 4 47, .tmp 5]) (by kernel_rfl) ?_
    repeat' ((conv => whnf); first | refine Rng.g ?_ | refine Ob.g ?_ | refine Ob.e ?_ | refine Ob.m ?_ | refine Ob.mk (Nat.le_of_ble_eq_true rfl) ?_ | refine JoinVC.on ?_ | refine Nils.mk (fun h => ?_) ?_ | refine Val.t ?_ | refine Val.d ?_ | refine Mm.mk ?_ | (refine Br.mk (fun h => ?_) (fun h => ?_) <;> first | (exfalso; omega; done) | (exfalso; simp at h; done) | skip))
    conv => whnf
    refine CallVC.mk [] _ _ _ rfl rfl rfl (s105 c) (fun r m' h' => ?_)
    obtain ⟨e, rfl, rfl, he⟩ := h'
    conv => whnf
    cases he.2 hC
    repeat' ((conv => whnf); first | refine Rng.g ?_ | refine Ob.g ?_ | refine Ob.e ?_ | refine Ob.m ?_ | refine Ob.mk (Nat.le_of_ble_eq_true rfl) ?_ | refine JoinVC.on ?_ | refine Nils.mk (fun h => ?_) ?_ | refine Val.t ?_ | refine Val.d ?_ | refine Mm.mk ?_ | refine CallVC.pure rfl (s107 p) ?_ | refine CallVC0.pure rfl (s107 p) ?_ | (refine Br.mk (fun h => ?_) (fun h => ?_) <;> first | (exfalso; omega; done) | (exfalso; simp at h; done) | skip))
    · repeat refine Mm.mk ?_
      conv => whnf
      refine EndVC.mk _ rfl _ _ (.bad 2 (fun h => hp h.2) (by decide) rfl rfl) ?_
      refine ⟨[], rfl, rfl, ?_, ?_⟩ <;> repeat' (first | exact trivial | exact rfl | exact Iff.rfl | apply And.intro)
    · exact absurd h (fun h2 => h2 hp)
  replace hp := Classical.not_not.1 hp
  obtain ⟨h1, h2⟩ := id hp
  have hh := hC.half
  refine spec_of pMix (O := [(7, ([15], [⟨0, [], []⟩, ⟨1, [], []⟩, ⟨2, [], []⟩, ⟨3, [], []⟩, ⟨4, [], []⟩, ⟨5, [], []⟩, ⟨7, [], []⟩, ⟨8, [], []⟩, ⟨9, [], []⟩, ⟨10, [], []⟩, ⟨11, [], []⟩, ⟨12, [], []⟩, ⟨6, [7, 8, 9, 10, 11, 12], []⟩, ⟨13, [], []⟩, ⟨14, [], []⟩, ⟨15, [], []⟩, ⟨16, [], []⟩])), (8, ([], [⟨0, [], [1]⟩, ⟨1, [], []⟩, ⟨2, [], []⟩, ⟨3, [], []⟩, ⟨4, [], []⟩, ⟨5, [], []⟩, ⟨6, [], []⟩, ⟨8, [], []⟩, ⟨7, [8], []⟩, ⟨9, [], []⟩, ⟨10, [], []⟩]))]) Tryz.func32 (c := bodyOf Tryz.f32) rfl (by kernel_rfl) (by kernel_rfl) Tryz.ntmps32 (res := [.cell 4 47, .tmp 5]) (by kernel_rfl) ?_
  repeat' ((conv => whnf); first | refine Rng.g ?_ | refine Ob.g ?_ | refine Ob.e ?_ | refine Ob.m ?_ | refine Ob.mk (Nat.le_of_ble_eq_true rfl) ?_ | refine JoinVC.on ?_ | refine Nils.mk (fun h => ?_) ?_ | refine Val.t ?_ | refine Val.d ?_ | refine Mm.mk ?_ | (refine Br.mk (fun h => ?_) (fun h => ?_) <;> first | (exfalso; omega; done) | (exfalso; simp at h; done) | skip))
  conv => whnf
  refine CallVC.mk [] _ _ _ rfl rfl rfl (s105 c) (fun r m' h' => ?_)
  obtain ⟨e, rfl, rfl, he⟩ := h'
  conv => whnf
  cases he.2 hC
  repeat' ((conv => whnf); first | refine Rng.g ?_ | refine Ob.g ?_ | refine Ob.e ?_ | refine Ob.m ?_ | refine Ob.mk (Nat.le_of_ble_eq_true rfl) ?_ | refine JoinVC.on ?_ | refine Nils.mk (fun h => ?_) ?_ | refine Val.t ?_ | refine Val.d ?_ | refine Mm.mk ?_ | refine CallVC.pure rfl (s107 p) ?_ | refine CallVC0.pure rfl (s107 p) ?_ | (refine Br.mk (fun h => ?_) (fun h => ?_) <;> first | (exfalso; omega; done) | (exfalso; simp at h; done) | skip))
  conv => whnf
  refine CallVC0.same [0] _ _ _ rfl rfl rfl rfl (s108 c (p.r - c.half) hC (by omega)) (fun r m' h' => (by obtain ⟨kl, hkl, rfl, rfl⟩ := h'; rfl)) (fun r m' h' => ?_)
  obtain ⟨kl, hkl, rfl, rfl⟩ := h'
  conv => whnf
  repeat' ((conv => whnf); first | refine Rng.g ?_ | refine Ob.g ?_ | refine Ob.e ?_ | refine Ob.m ?_ | refine Ob.mk (Nat.le_of_ble_eq_true rfl) ?_ | refine JoinVC.on ?_ | refine Nils.mk (fun h => ?_) ?_ | refine Val.t ?_ | refine Val.d ?_ | refine Mm.mk ?_ | (refine Br.mk (fun h => ?_) (fun h => ?_) <;> first | (exfalso; omega; done) | (exfalso; simp at h; done) | skip))
  conv => whnf
  refine CallVC.mk [0] _ _ _ rfl rfl rfl (s108 c (p.l + c.half) hC (by omega)) (fun r m' h' => ?_)
  obtain ⟨kr, hkr, rfl, rfl⟩ := h'
  conv => whnf
  repeat' ((conv => whnf); first | refine Rng.g ?_ | refine Ob.g ?_ | refine Ob.e ?_ | refine Ob.m ?_ | refine Ob.mk (Nat.le_of_ble_eq_true rfl) ?_ | refine JoinVC.on ?_ | refine Nils.mk (fun h => ?_) ?_ | refine Val.t ?_ | refine Val.d ?_ | refine Mm.mk ?_ | (refine Br.mk (fun h => ?_) (fun h => ?_) <;> first | (exfalso; omega; done) | (exfalso; simp at h; done) | skip))
  obtain ⟨sm, hsm⟩ : ∃ sm : Smp, sm = ⟨rdF (p.r - c.half) kl, rdF (p.l + c.half) kr⟩ := ⟨_, rfl⟩
  have c1 : PSpec Tryz.prog 103 [lS [⟨rdF (p.r - c.half) kl, rdF (p.l + c.half) kr⟩]] (.x (I (smpE [sm]))) := by rw [hsm]; exact s103 _
  by_cases hok : ¬ sm.ok
  · have hne : ¬ smpE [sm] = 0 := fun h0 => hok ((smp1 sm).1 h0)
    repeat' ((conv => whnf); first | refine Rng.g ?_ | refine Ob.g ?_ | refine Ob.e ?_ | refine Ob.m ?_ | refine Ob.mk (Nat.le_of_ble_eq_true rfl) ?_ | refine JoinVC.on ?_ | refine Nils.mk (fun h => ?_) ?_ | refine Val.t ?_ | refine Val.d ?_ | refine Mm.mk ?_ | refine CallVC.pure rfl (c1) ?_ | refine CallVC0.pure rfl (c1) ?_ | (refine Br.mk (fun h => ?_) (fun h => ?_) <;> first | (exfalso; omega; done) | (exfalso; simp at h; done) | skip))
    repeat refine Mm.mk ?_
    conv => whnf
    refine EndVC.mk _ rfl _ _ (.none hC hp kl kr hkl hkr (fun h3 => hok (hsm ▸ h3.1)) rfl rfl) ?_
    refine ⟨[], rfl, rfl, ?_, ?_⟩ <;> repeat' (first | exact trivial | exact rfl | exact Iff.rfl | apply And.intro)
  replace hok := Classical.not_not.1 hok
  have hz : smpE [sm] = 0 := (smp1 sm).2 hok
  rw [hz] at c1
  have c2 : PSpec Tryz.prog 106 [c.x, .agg [.int .i64 (rdF (p.r - c.half) kl), .int .i64 (rdF (p.l + c.half) kr)]] (.x (ptF c sm).x) := by have := s106 c sm hC hok; rw [hsm] at this ⊢; exact this
  repeat' ((conv => whnf); first | refine Rng.g ?_ | refine Ob.g ?_ | refine Ob.e ?_ | refine Ob.m ?_ | refine Ob.mk (Nat.le_of_ble_eq_true rfl) ?_ | refine JoinVC.on ?_ | refine Nils.mk (fun h => ?_) ?_ | refine Val.t ?_ | refine Val.d ?_ | refine Mm.mk ?_ | refine CallVC.pure rfl (c1) ?_ | refine CallVC.pure rfl (c2) ?_ | refine CallVC0.pure rfl (c1) ?_ | refine CallVC0.pure rfl (c2) ?_ | (refine Br.mk (fun h => ?_) (fun h => ?_) <;> first | (exfalso; omega; done) | (exfalso; simp at h; done) | skip))
  · repeat refine Mm.mk ?_
    conv => whnf
    refine EndVC.mk _ rfl _ _ (.none hC hp kl kr hkl hkr (fun h3 => h (by rw [← hsm] at h3; show (ptF c sm).l = p.l ∧ (ptF c sm).r = p.r ∧ True; rw [h3.2]; exact ⟨rfl, rfl, trivial⟩)) rfl rfl) ?_
    refine ⟨[], rfl, rfl, ?_, ?_⟩ <;> repeat' (first | exact trivial | exact rfl | exact Iff.rfl | apply And.intro)
  · have h4 : (ptF c sm).l = p.l ∧ (ptF c sm).r = p.r ∧ True := Classical.not_not.1 h
    have h5 : ptF c sm = p := by
      obtain ⟨h6, h7, _⟩ := h4
      cases p with
      | mk pl pr => rw [show ptF c sm = ⟨(ptF c sm).l, (ptF c sm).r⟩ from rfl, h6, h7]
    rw [hsm] at h5 hok
    repeat refine Mm.mk ?_
    conv => whnf
    refine EndVC.mk _ rfl _ _ (.ok hC hp kl kr hkl hkr hok h5 rfl rfl) ?_
    refine ⟨[], rfl, rfl, ?_, ?_⟩ <;> repeat' (first | exact trivial | exact rfl | exact Iff.rfl | apply And.intro)
end Go.Sx

namespace Go.Sx
open Go Go.Proofs
set_option maxRecDepth 10000
set_option maxHeartbeats 4000000
theorem e112 : EntersF Tryz.prog 112 := enters_of Tryz.func112 (c := bodyOf Tryz.f112) (by kernel_rfl) rfl
theorem e113 : EntersF Tryz.prog 113 := enters_of Tryz.func113 (c := bodyOf Tryz.f113) (by kernel_rfl) rfl
theorem e153 : EntersF Tryz.prog 153 := enters_of Tryz.func153 (c := bodyOf Tryz.f153) (by kernel_rfl) rfl
theorem e116 : EntersF Tryz.prog 116 := enters_of Tryz.func116 (c := bodyOf Tryz.f116) (by kernel_rfl) rfl
theorem e281 : EntersF Tryz.prog 281 := enters_of Tryz.func281 (c := bodyOf Tryz.f281) (by kernel_rfl) rfl
theorem e128 : EntersF Tryz.prog 128 := enters_of Tryz.func128 (c := bodyOf Tryz.f128) (by kernel_rfl) rfl
theorem e129 : EntersF Tryz.prog 129 := enters_of Tryz.func129 (c := bodyOf Tryz.f129) (by kernel_rfl) rfl
theorem e213 : EntersF Tryz.prog 213 := enters_of Tryz.func213 (c := bodyOf Tryz.f213) (by kernel_rfl) rfl
theorem e214 : EntersF Tryz.prog 214 := enters_of Tryz.func214 (c := bodyOf Tryz.f214) (by kernel_rfl) rfl
theorem e215 : EntersF Tryz.prog 215 := enters_of Tryz.func215 (c := bodyOf Tryz.f215) (by kernel_rfl) rfl
theorem e216 : EntersF Tryz.prog 216 := enters_of Tryz.func216 (c := bodyOf Tryz.f216) (by kernel_rfl) rfl
theorem e217 : EntersF Tryz.prog 217 := enters_of Tryz.func217 (c := bodyOf Tryz.f217) (by kernel_rfl) rfl
theorem e283 : EntersF Tryz.prog 283 := enters_of Tryz.func283 (c := bodyOf Tryz.f283) (by kernel_rfl) rfl
theorem e284 : EntersF Tryz.prog 284 := enters_of Tryz.func284 (c := bodyOf Tryz.f284) (by kernel_rfl) rfl
theorem e285 : EntersF Tryz.prog 285 := enters_of Tryz.func285 (c := bodyOf Tryz.f285) (by kernel_rfl) rfl
theorem e286 : EntersF Tryz.prog 286 := enters_of Tryz.func286 (c := bodyOf Tryz.f286) (by kernel_rfl) rfl
theorem e327 : EntersF Tryz.prog 327 := enters_of Tryz.func327 (c := bodyOf Tryz.f327) (by kernel_rfl) rfl
theorem e114 : EntersF Tryz.prog 114 := enters_of Tryz.func114 (c := bodyOf Tryz.f114) (by kernel_rfl) rfl
theorem e115 : EntersF Tryz.prog 115 := enters_of Tryz.func115 (c := bodyOf Tryz.f115) (by kernel_rfl) rfl
theorem e207 : EntersF Tryz.prog 207 := enters_of Tryz.func207 (c := bodyOf Tryz.f207) (by kernel_rfl) rfl
theorem e35 : EntersF Tryz.prog 35 := enters_of Tryz.func35 (c := bodyOf Tryz.f35) (by kernel_rfl) rfl
theorem e44 : EntersF Tryz.prog 44 := enters_of Tryz.func44 (c := bodyOf Tryz.f44) (by kernel_rfl) rfl
theorem e127 : EntersF Tryz.prog 127 := enters_of Tryz.func127 (c := bodyOf Tryz.f127) (by kernel_rfl) rfl
theorem e51 : EntersF Tryz.prog 51 := enters_of Tryz.func51 (c := bodyOf Tryz.f51) (by kernel_rfl) rfl
theorem e208 : EntersF Tryz.prog 208 := enters_of Tryz.func208 (c := bodyOf Tryz.f208) (by kernel_rfl) rfl
instance (p : Smp) : Decidable (edgeP p) := by unfold edgeP; exact inferInstance
theorem s113 (r per : Int) : PSpec Tryz.prog 113 [I r, I per] (.x (I (if (0 ≤ r ∧ r ≤ 4194304) ∧ (1 ≤ per ∧ per ≤ 65536) then 0 else 3))) := by
  by_cases hk : (0 ≤ r ∧ r ≤ 4194304) ∧ (1 ≤ per ∧ per ≤ 65536)
  · rw [if_pos hk]
    refine spec_of pMix (O := []) Tryz.func113 (c := bodyOf Tryz.f113) rfl (by kernel_rfl) (by kernel_rfl) Tryz.ntmps113 (res := [.tmp 4]) (by kernel_rfl) ?_
    repeat' ((conv => whnf); first | refine Rng.g ?_ | refine Ob.g ?_ | refine Ob.e ?_ | refine Ob.m ?_ | refine Ob.mk (Nat.le_of_ble_eq_true rfl) ?_ | refine JoinVC.on ?_ | refine Nils.mk (fun h => ?_) ?_ | refine Val.t ?_ | refine Val.d ?_ | refine Mm.mk ?_ | refine CallVC.pure rfl (s205 r 0 4194304) ?_ | refine CallVC.pure rfl (s205 per 1 65536) ?_ | refine CallVC0.pure rfl (s205 r 0 4194304) ?_ | refine CallVC0.pure rfl (s205 per 1 65536) ?_ | (refine Br.mk (fun h => ?_) (fun h => ?_) <;> first | (exfalso; omega; done) | (exfalso; simp at h; done) | skip))
    repeat refine Mm.mk ?_
    refine EndVC.mk _ rfl _ _ ⟨rfl, rfl⟩ ?_
    refine ⟨[], rfl, rfl, ?_, ?_⟩ <;> repeat' (first | exact trivial | exact rfl | exact Iff.rfl | apply And.intro)
  · rw [if_neg hk]
    refine spec_of pMix (O := []) Tryz.func113 (c := bodyOf Tryz.f113) rfl (by kernel_rfl) (by kernel_rfl) Tryz.ntmps113 (res := [.tmp 4]) (by kernel_rfl) ?_
    repeat' ((conv => whnf); first | refine Rng.g ?_ | refine Ob.g ?_ | refine Ob.e ?_ | refine Ob.m ?_ | refine Ob.mk (Nat.le_of_ble_eq_true rfl) ?_ | refine JoinVC.on ?_ | refine Nils.mk (fun h => ?_) ?_ | refine Val.t ?_ | refine Val.d ?_ | refine Mm.mk ?_ | refine CallVC.pure rfl (s205 r 0 4194304) ?_ | refine CallVC.pure rfl (s205 per 1 65536) ?_ | refine CallVC0.pure rfl (s205 r 0 4194304) ?_ | refine CallVC0.pure rfl (s205 per 1 65536) ?_ | (refine Br.mk (fun h => ?_) (fun h => ?_) <;> first | (exfalso; omega; done) | (exfalso; simp at h; done) | skip))
    all_goals
      repeat refine Mm.mk ?_
      refine EndVC.mk _ rfl _ _ ⟨rfl, rfl⟩ ?_
      refine ⟨[], rfl, rfl, ?_, ?_⟩ <;> repeat' (first | exact trivial | exact rfl | exact Iff.rfl | apply And.intro)
structure PtsOK (l : List Smp) : Prop where
  len : l.length ≤ 4096
  each : ∀ j, j < l.length → edgeP (l.getD j s0)
theorem s153 (l : List Smp) : HSpec Tryz.prog 153 [lS l] [] (fun r m' => ∃ e, r = .x (I e) ∧ m' = [] ∧ (e = 0 ↔ PtsOK l)) := by
  have ll := smpA_len l
  by_cases hl : 4096 < l.length
  · refine spec_of pMix (O := []) Tryz.func153 (c := bodyOf Tryz.f153) rfl (by kernel_rfl) (by kernel_rfl) Tryz.ntmps153 (res := [.tmp 2]) (by kernel_rfl) ?_
    repeat' ((conv => whnf); first | refine Rng.g ?_ | refine Ob.g ?_ | refine Ob.e ?_ | refine Ob.m ?_ | refine Ob.mk (Nat.le_of_ble_eq_true rfl) ?_ | refine JoinVC.on ?_ | refine Nils.mk (fun h => ?_) ?_ | refine Val.t ?_ | refine Val.d ?_ | refine Mm.mk ?_ | (refine Br.mk (fun h => ?_) (fun h => ?_) <;> first | (exfalso; omega; done) | (exfalso; simp at h; done) | skip))
    repeat refine Mm.mk ?_
    conv => whnf
    refine EndVC.mk _ rfl _ _ (⟨6, rfl, rfl, ⟨fun h => (by cases h), fun hC => (by have := hC.len; omega)⟩⟩) ?_
    refine ⟨[], rfl, rfl, ?_, ?_⟩ <;> repeat' (first | exact trivial | exact rfl | exact Iff.rfl | apply And.intro)
  refine spec_of pMix (O := []) Tryz.func153 (c := bodyOf Tryz.f153) rfl (by kernel_rfl) (by kernel_rfl) Tryz.ntmps153 (res := [.tmp 2]) (by kernel_rfl) ?_
  repeat' ((conv => whnf); first | refine Rng.g ?_ | refine Ob.g ?_ | refine Ob.e ?_ | refine Ob.m ?_ | refine Ob.mk (Nat.le_of_ble_eq_true rfl) ?_ | refine JoinVC.on ?_ | refine Nils.mk (fun h => ?_) ?_ | refine Val.t ?_ | refine Val.d ?_ | refine Mm.mk ?_ | (refine Br.mk (fun h => ?_) (fun h => ?_) <;> first | (exfalso; omega; done) | (exfalso; simp at h; done) | skip))
  refine LoopVC.mk (fun n st => ∃ (i : Nat), i ≤ l.length ∧ n = l.length - i ∧ (∀ j, j < i → edgeP (l.getD j s0)) ∧ st = ⟨0, envA 18 [(8, .x (lS l)), (9, .int .i64 (l.length : Int)), (10, .int .i64 (i : Int))], []⟩) _ _ ⟨0, Nat.zero_le _, rfl, fun j hj => absurd hj (Nat.not_lt_zero j), rfl⟩ ?_ ?_
  · refine ⟨[], rfl, rfl, ?_, ?_⟩ <;> repeat' (first | exact trivial | exact rfl | exact Iff.rfl | apply And.intro)
    exact congrArg Int.ofNat ll
  rintro n _ ⟨i, hi, hn, hj, rfl⟩
  by_cases hi' : i < l.length
  · have c1 : PSpec Tryz.prog 107 [smpX l i] (xP (edgeP (l.getD i s0))) := smpX_eq l i ▸ s107 _
    repeat' ((conv => whnf); first | refine Rng.g ?_ | refine Ob.g ?_ | refine Ob.e ?_ | refine Ob.m ?_ | refine Ob.mk (Nat.le_of_ble_eq_true rfl) ?_ | refine JoinVC.on ?_ | refine Nils.mk (fun h => ?_) ?_ | refine Val.t ?_ | refine Val.d ?_ | refine Mm.mk ?_ | refine CallVC.pure rfl (c1) ?_ | refine CallVC0.pure rfl (c1) ?_ | (refine Br.mk (fun h => ?_) (fun h => ?_) <;> first | (exfalso; omega; done) | (exfalso; simp at h; done) | skip))
    · repeat refine Mm.mk ?_
      conv => whnf
      refine EndVC.mk _ rfl _ _ (⟨2, rfl, rfl, ⟨fun h => (by cases h), fun hC => absurd (hC.each i hi') h⟩⟩) ?_
      refine ⟨[], rfl, rfl, ?_, ?_⟩ <;> repeat' (first | exact trivial | exact rfl | exact Iff.rfl | apply And.intro)
    · refine Back.mk (l.length - (i + 1)) _ (by omega) ⟨i + 1, by omega, rfl, fun j hj' => ?_, rfl⟩ ?_
      · rcases Nat.lt_succ_iff_lt_or_eq.1 hj' with h' | rfl
        · exact hj j h'
        · exact Classical.not_not.1 h
      · refine ⟨[], rfl, rfl, ?_, ?_⟩ <;> repeat' (first | exact trivial | exact rfl | exact Iff.rfl | apply And.intro)
  · repeat' ((conv => whnf); first | refine Rng.g ?_ | refine Ob.g ?_ | refine Ob.e ?_ | refine Ob.m ?_ | refine Ob.mk (Nat.le_of_ble_eq_true rfl) ?_ | refine JoinVC.on ?_ | refine Nils.mk (fun h => ?_) ?_ | refine Val.t ?_ | refine Val.d ?_ | refine Mm.mk ?_ | (refine Br.mk (fun h => ?_) (fun h => ?_) <;> first | (exfalso; omega; done) | (exfalso; simp at h; done) | skip))
    repeat refine Mm.mk ?_
    conv => whnf
    refine EndVC.mk _ rfl _ _ (⟨0, rfl, rfl, ⟨fun _ => ⟨by omega, fun j hj' => hj j (by omega)⟩, fun _ => rfl⟩⟩) ?_
    refine ⟨[], rfl, rfl, ?_, ?_⟩ <;> repeat' (first | exact trivial | exact rfl | exact Iff.rfl | apply And.intro)
theorem s327 (a b : Int) : PSpec Tryz.prog 327 [lL [a, b]] (.x (I (if a < b then b else a))) := by
  have l2 : (i64s [a, b]).length = 2 := rfl
  refine spec_of pMix (O := []) Tryz.func327 (c := bodyOf Tryz.f327) rfl (by kernel_rfl) (by kernel_rfl) Tryz.ntmps327 (res := [.tmp 2]) (by kernel_rfl) ?_
  have l3 : (List.drop ((some (1 : Int)).getD 0).toNat (List.take ((none : Option Int).getD (List.length (i64s [a, b]) : Int)).toNat (i64s [a, b]))).length = 1 := rfl
  repeat' ((conv => whnf); first | refine Rng.g ?_ | refine Ob.g ?_ | refine Ob.e ?_ | refine Ob.m ?_ | refine Ob.mk (Nat.le_of_ble_eq_true rfl) ?_ | refine JoinVC.on ?_ | refine Nils.mk (fun h => ?_) ?_ | refine Val.t ?_ | refine Val.d ?_ | refine Mm.mk ?_ | (refine Br.mk (fun h => ?_) (fun h => ?_) <;> first | (exfalso; omega; done) | (exfalso; simp at h; done) | skip))
  refine LoopVC.un 2 ?_
  repeat' ((conv => whnf); first | refine Rng.g ?_ | refine Ob.g ?_ | refine Ob.e ?_ | refine Ob.m ?_ | refine Ob.mk (Nat.le_of_ble_eq_true rfl) ?_ | refine JoinVC.on ?_ | refine Nils.mk (fun h => ?_) ?_ | refine Val.t ?_ | refine Val.d ?_ | refine Mm.mk ?_ | (refine Br.mk (fun h => ?_) (fun h => ?_) <;> first | (exfalso; omega; done) | (exfalso; simp at h; done) | skip))
  repeat refine Mm.mk ?_
  refine EndVC.mk _ rfl _ _ ⟨rfl, rfl⟩ ?_
  refine ⟨[], rfl, rfl, ?_, ?_⟩ <;> repeat' (first | exact trivial | exact rfl | exact Iff.rfl | apply And.intro)
/-- The track of a groove (cutter, points, radius, turn). -/
structure Trk where
  c : Cut
  p : List Smp
  r : Int
  per : Int
@[reducible] def KTk : List CK := [.int .i64, .int .i64, .int .i64, .int .i64, .int .i64, .int .i64, .int .i64, .sl KS, .int .i64, .int .i64]
def tkA (t : Trk) : Arr := [[.int t.c.half, .int t.c.gain, .int t.c.thin, .int t.c.wide, .int t.c.slope, .int t.c.jerk, .int t.c.sty, .sl (smpA t.p), .int t.r, .int t.per]]
@[reducible] def tkX (t : Trk) : XV := .one (.lel true KTk (tkA t) 0 0)
@[reducible] def bTk (t : Trk) : Blk := .box 240 [.int .i64 t.c.half, .int .i64 t.c.gain, .int .i64 t.c.thin, .int .i64 t.c.wide, .int .i64 t.c.slope, .int .i64 t.c.jerk, .int .i64 t.c.sty, .lst true KS (smpA t.p), .int .i64 t.r, .int .i64 t.per]
structure TrkOK (t : Trk) : Prop where
  c : CutOK t.c
  p : PtsOK t.p
  r : 0 ≤ t.r ∧ t.r ≤ 4194304
  per : 1 ≤ t.per ∧ t.per ≤ 65536
@[reducible] def befX (l : List Smp) (i : Nat) : Bool → SV
  | true => .lel true KS (smpA l) (i - 1) 0
  | false => .nilp
@[reducible] def aftX (l : List Smp) (i : Nat) : Bool → SV
  | true => .lel true KS (smpA l) (i + 1) 0
  | false => .nilp
@[reducible] def nrX (l : List Smp) (i : Nat) (b a : Bool) : XV := .agg [befX l i b, .lel true KS (smpA l) i 0, aftX l i a]
theorem s283 (l : List Smp) (i : Nat) (b a : Bool) (hp : edgeP (l.getD i s0)) : PSpec Tryz.prog 283 [nrX l i b a] (.x (I ((l.getD i s0).r - (l.getD i s0).l))) := by
  have g0 : rI (smpA l) i (0 + 0) = (l.getD i s0).l := smpA_l l i
  have g1 : rI (smpA l) i (0 + (0 + 1)) = (l.getD i s0).r := smpA_r l i
  obtain ⟨h1, h2⟩ := hp
  cases b
  all_goals
    cases a
    all_goals
      refine spec_of pMix (O := []) Tryz.func283 (c := bodyOf Tryz.f283) rfl (by kernel_rfl) (by kernel_rfl) Tryz.ntmps283 (res := [.tmp 2]) (by kernel_rfl) ?_
      repeat' ((conv => whnf); first | refine Rng.g ?_ | refine Ob.g ?_ | refine Ob.e ?_ | refine Ob.m ?_ | refine Ob.mk (Nat.le_of_ble_eq_true rfl) ?_ | refine JoinVC.on ?_ | refine Nils.mk (fun h => ?_) ?_ | refine Val.t ?_ | refine Val.d ?_ | refine Mm.mk ?_ | (refine Br.mk (fun h => ?_) (fun h => ?_) <;> first | (exfalso; omega; done) | (exfalso; simp at h; done) | skip))
      repeat refine Mm.mk ?_
      refine EndVC.mk _ rfl _ _ ⟨rfl, rfl⟩ ?_
      refine ⟨[], rfl, rfl, ?_, ?_⟩ <;> repeat' (first | exact trivial | exact rfl | exact Iff.rfl | apply And.intro)
      rw [g0, g1]
def mx2 (a b : Int) : Int := if a < b then b else a
def stF (l : List Smp) (i : Nat) (b : Bool) : Int := if b = true then mx2 (amt ((l.getD i s0).l - (l.getD (i - 1) s0).l)) (amt ((l.getD i s0).r - (l.getD (i - 1) s0).r)) else 0
def bdF (l : List Smp) (i : Nat) (b a : Bool) : Int := if b = true ∧ a = true then mx2 (amt ((l.getD (i - 1) s0).l + (l.getD (i + 1) s0).l - 2 * (l.getD i s0).l)) (amt ((l.getD (i - 1) s0).r + (l.getD (i + 1) s0).r - 2 * (l.getD i s0).r)) else 0
theorem amt_bd {n B : Int} (h : -B ≤ n ∧ n ≤ B) : 0 ≤ amt n ∧ amt n ≤ B := by unfold amt; split <;> omega
/-- The points near a place. -/
structure NearOK (l : List Smp) (i : Nat) (b a : Bool) : Prop where
  h : edgeP (l.getD i s0)
  b : b = true → edgeP (l.getD (i - 1) s0)
  a : a = true → edgeP (l.getD (i + 1) s0)
theorem stF_bd {l : List Smp} {i : Nat} {b a : Bool} (hp : NearOK l i b a) : 0 ≤ stF l i b ∧ stF l i b ≤ 8388608 := by
  unfold stF
  split
  · rename_i hb
    obtain ⟨h1, h2⟩ := hp.h
    obtain ⟨h3, h4⟩ := hp.b hb
    have h5 := amt_bd (n := (l.getD i s0).l - (l.getD (i - 1) s0).l) (B := 8388608) (by omega)
    have h6 := amt_bd (n := (l.getD i s0).r - (l.getD (i - 1) s0).r) (B := 8388608) (by omega)
    unfold mx2
    split <;> omega
  · omega
theorem bdF_bd {l : List Smp} {i : Nat} {b a : Bool} (hp : NearOK l i b a) : 0 ≤ bdF l i b a ∧ bdF l i b a ≤ 16777216 := by
  unfold bdF
  split
  · rename_i hb
    obtain ⟨h1, h2⟩ := hp.h
    obtain ⟨h3, h4⟩ := hp.b hb.1
    obtain ⟨h7, h8⟩ := hp.a hb.2
    have h5 := amt_bd (n := (l.getD (i - 1) s0).l + (l.getD (i + 1) s0).l - 2 * (l.getD i s0).l) (B := 16777216) (by omega)
    have h6 := amt_bd (n := (l.getD (i - 1) s0).r + (l.getD (i + 1) s0).r - 2 * (l.getD i s0).r) (B := 16777216) (by omega)
    unfold mx2
    split <;> omega
  · omega
theorem s284 (l : List Smp) (i : Nat) (b a : Bool) (hp : NearOK l i b a) : PSpec Tryz.prog 284 [nrX l i b a] (.x (I (stF l i b))) := by
  have g0 : rI (smpA l) i (0 + 0) = (l.getD i s0).l := smpA_l l i
  have g1 : rI (smpA l) i (0 + (0 + 1)) = (l.getD i s0).r := smpA_r l i
  have g2 : rI (smpA l) (i - 1) (0 + 0) = (l.getD (i - 1) s0).l := smpA_l l _
  have g3 : rI (smpA l) (i - 1) (0 + (0 + 1)) = (l.getD (i - 1) s0).r := smpA_r l _
  obtain ⟨h1, h2⟩ := hp.h
  cases b with
  | false =>
    cases a
    all_goals
      refine spec_of pMix (O := [(3, ([], [⟨0, [], []⟩, ⟨1, [], []⟩, ⟨2, [], []⟩, ⟨3, [], []⟩, ⟨4, [], []⟩, ⟨5, [], []⟩, ⟨6, [], []⟩, ⟨7, [], []⟩, ⟨8, [], []⟩, ⟨9, [], []⟩, ⟨10, [], []⟩, ⟨12, [], []⟩, ⟨13, [], []⟩, ⟨14, [], []⟩, ⟨15, [], []⟩, ⟨16, [], []⟩, ⟨17, [], []⟩, ⟨18, [], []⟩, ⟨19, [], []⟩, ⟨20, [], []⟩, ⟨21, [], []⟩, ⟨22, [], []⟩, ⟨11, [12, 13, 14, 15, 16, 17, 18, 19, 20, 21, 22], []⟩, ⟨23, [], [24]⟩, ⟨24, [], []⟩, ⟨25, [], []⟩, ⟨26, [], []⟩]))]) Tryz.func284 (c := bodyOf Tryz.f284) rfl (by kernel_rfl) (by kernel_rfl) Tryz.ntmps284 (res := [.tmp 2]) (by kernel_rfl) ?_
      repeat' ((conv => whnf); first | refine Rng.g ?_ | refine Ob.g ?_ | refine Ob.e ?_ | refine Ob.m ?_ | refine Ob.mk (Nat.le_of_ble_eq_true rfl) ?_ | refine JoinVC.on ?_ | refine Nils.mk (fun h => ?_) ?_ | refine Val.t ?_ | refine Val.d ?_ | refine Mm.mk ?_ | (refine Br.mk (fun h => ?_) (fun h => ?_) <;> first | (exfalso; omega; done) | (exfalso; simp at h; done) | skip))
      repeat refine Mm.mk ?_
      refine EndVC.mk _ rfl _ _ ⟨rfl, rfl⟩ ?_
      refine ⟨[], rfl, rfl, ?_, ?_⟩ <;> repeat' (first | exact trivial | exact rfl | exact Iff.rfl | apply And.intro)
  | true =>
    obtain ⟨h3, h4⟩ := hp.b rfl
    have c1 := s111 (rI (smpA l) i (0 + 0) - rI (smpA l) (i - 1) (0 + 0)) (by omega)
    have c2 := s111 (rI (smpA l) i (0 + (0 + 1)) - rI (smpA l) (i - 1) (0 + (0 + 1))) (by omega)
    have c3 := s327 (amt (rI (smpA l) i (0 + 0) - rI (smpA l) (i - 1) (0 + 0))) (amt (rI (smpA l) i (0 + (0 + 1)) - rI (smpA l) (i - 1) (0 + (0 + 1))))
    cases a
    all_goals
      refine spec_of pMix (O := [(3, ([], [⟨0, [], []⟩, ⟨1, [], []⟩, ⟨2, [], []⟩, ⟨3, [], []⟩, ⟨4, [], []⟩, ⟨5, [], []⟩, ⟨6, [], []⟩, ⟨7, [], []⟩, ⟨8, [], []⟩, ⟨9, [], []⟩, ⟨10, [], []⟩, ⟨12, [], []⟩, ⟨13, [], []⟩, ⟨14, [], []⟩, ⟨15, [], []⟩, ⟨16, [], []⟩, ⟨17, [], []⟩, ⟨18, [], []⟩, ⟨19, [], []⟩, ⟨20, [], []⟩, ⟨21, [], []⟩, ⟨22, [], []⟩, ⟨11, [12, 13, 14, 15, 16, 17, 18, 19, 20, 21, 22], []⟩, ⟨23, [], [24]⟩, ⟨24, [], []⟩, ⟨25, [], []⟩, ⟨26, [], []⟩]))]) Tryz.func284 (c := bodyOf Tryz.f284) rfl (by kernel_rfl) (by kernel_rfl) Tryz.ntmps284 (res := [.tmp 2]) (by kernel_rfl) ?_
      repeat' ((conv => whnf); first | refine Rng.g ?_ | refine Ob.g ?_ | refine Ob.e ?_ | refine Ob.m ?_ | refine Ob.mk (Nat.le_of_ble_eq_true rfl) ?_ | refine JoinVC.on ?_ | refine Nils.mk (fun h => ?_) ?_ | refine Val.t ?_ | refine Val.d ?_ | refine Mm.mk ?_ | refine CallVC.pure rfl (c1) ?_ | refine CallVC.pure rfl (c2) ?_ | refine CallVC.pure rfl (c3) ?_ | refine CallVC0.pure rfl (c1) ?_ | refine CallVC0.pure rfl (c2) ?_ | refine CallVC0.pure rfl (c3) ?_ | (refine Br.mk (fun h => ?_) (fun h => ?_) <;> first | (exfalso; omega; done) | (exfalso; simp at h; done) | skip))
      repeat refine Mm.mk ?_
      refine EndVC.mk _ rfl _ _ ⟨rfl, rfl⟩ ?_
      refine ⟨[], rfl, rfl, ?_, ?_⟩ <;> repeat' (first | exact trivial | exact rfl | exact Iff.rfl | apply And.intro)
      rw [g0, g1, g2, g3]
      rfl
theorem s285 (l : List Smp) (i : Nat) (b a : Bool) (hp : NearOK l i b a) : PSpec Tryz.prog 285 [nrX l i b a] (.x (I (bdF l i b a))) := by
  have g0 : rI (smpA l) i (0 + 0) = (l.getD i s0).l := smpA_l l i
  have g1 : rI (smpA l) i (0 + (0 + 1)) = (l.getD i s0).r := smpA_r l i
  have g2 : rI (smpA l) (i - 1) (0 + 0) = (l.getD (i - 1) s0).l := smpA_l l _
  have g3 : rI (smpA l) (i - 1) (0 + (0 + 1)) = (l.getD (i - 1) s0).r := smpA_r l _
  have g4 : rI (smpA l) (i + 1) (0 + 0) = (l.getD (i + 1) s0).l := smpA_l l _
  have g5 : rI (smpA l) (i + 1) (0 + (0 + 1)) = (l.getD (i + 1) s0).r := smpA_r l _
  obtain ⟨h1, h2⟩ := hp.h
  by_cases hba : b = true ∧ a = true
  · obtain ⟨rfl, rfl⟩ := hba
    obtain ⟨h3, h4⟩ := hp.b rfl
    obtain ⟨h5, h6⟩ := hp.a rfl
    have c1 := s111 (rI (smpA l) (i - 1) (0 + 0) + rI (smpA l) (i + 1) (0 + 0) - 2 * rI (smpA l) i (0 + 0)) (by omega)
    have c2 := s111 (rI (smpA l) (i - 1) (0 + (0 + 1)) + rI (smpA l) (i + 1) (0 + (0 + 1)) - 2 * rI (smpA l) i (0 + (0 + 1))) (by omega)
    have c3 := s327 (amt (rI (smpA l) (i - 1) (0 + 0) + rI (smpA l) (i + 1) (0 + 0) - 2 * rI (smpA l) i (0 + 0))) (amt (rI (smpA l) (i - 1) (0 + (0 + 1)) + rI (smpA l) (i + 1) (0 + (0 + 1)) - 2 * rI (smpA l) i (0 + (0 + 1))))
    refine spec_of pMix (O := [(3, ([], [⟨0, [], []⟩, ⟨1, [], []⟩, ⟨2, [], []⟩, ⟨3, [], []⟩, ⟨4, [], []⟩, ⟨5, [], []⟩, ⟨6, [], []⟩, ⟨7, [], []⟩, ⟨8, [], []⟩, ⟨9, [], []⟩, ⟨10, [], []⟩, ⟨11, [], []⟩, ⟨12, [], []⟩, ⟨13, [], []⟩, ⟨14, [], []⟩, ⟨15, [], []⟩, ⟨16, [], []⟩, ⟨17, [], []⟩, ⟨19, [], []⟩, ⟨20, [], []⟩, ⟨21, [], []⟩, ⟨22, [], []⟩, ⟨23, [], []⟩, ⟨24, [], []⟩, ⟨25, [], []⟩, ⟨26, [], []⟩, ⟨27, [], []⟩, ⟨28, [], []⟩, ⟨29, [], []⟩, ⟨30, [], []⟩, ⟨31, [], []⟩, ⟨32, [], []⟩, ⟨33, [], []⟩, ⟨34, [], []⟩, ⟨35, [], []⟩, ⟨36, [], []⟩, ⟨18, [19, 20, 21, 22, 23, 24, 25, 26, 27, 28, 29, 30, 31, 32, 33, 34, 35, 36], []⟩, ⟨37, [], [38]⟩, ⟨38, [], []⟩, ⟨39, [], []⟩, ⟨40, [], []⟩]))]) Tryz.func285 (c := bodyOf Tryz.f285) rfl (by kernel_rfl) (by kernel_rfl) Tryz.ntmps285 (res := [.tmp 2]) (by kernel_rfl) ?_
    repeat' ((conv => whnf); first | refine Rng.g ?_ | refine Ob.g ?_ | refine Ob.e ?_ | refine Ob.m ?_ | refine Ob.mk (Nat.le_of_ble_eq_true rfl) ?_ | refine JoinVC.on ?_ | refine Nils.mk (fun h => ?_) ?_ | refine Val.t ?_ | refine Val.d ?_ | refine Mm.mk ?_ | refine CallVC.pure rfl (c1) ?_ | refine CallVC.pure rfl (c2) ?_ | refine CallVC.pure rfl (c3) ?_ | refine CallVC0.pure rfl (c1) ?_ | refine CallVC0.pure rfl (c2) ?_ | refine CallVC0.pure rfl (c3) ?_ | (refine Br.mk (fun h => ?_) (fun h => ?_) <;> first | (exfalso; omega; done) | (exfalso; simp at h; done) | skip))
    repeat refine Mm.mk ?_
    refine EndVC.mk _ rfl _ _ ⟨rfl, rfl⟩ ?_
    refine ⟨[], rfl, rfl, ?_, ?_⟩ <;> repeat' (first | exact trivial | exact rfl | exact Iff.rfl | apply And.intro)
    rw [g0, g1, g2, g3, g4, g5]
    rfl
  · cases b
    all_goals
      cases a
      all_goals first | (exact absurd ⟨rfl, rfl⟩ hba) | skip
      all_goals
        refine spec_of pMix (O := [(3, ([], [⟨0, [], []⟩, ⟨1, [], []⟩, ⟨2, [], []⟩, ⟨3, [], []⟩, ⟨4, [], []⟩, ⟨5, [], []⟩, ⟨6, [], []⟩, ⟨7, [], []⟩, ⟨8, [], []⟩, ⟨9, [], []⟩, ⟨10, [], []⟩, ⟨11, [], []⟩, ⟨12, [], []⟩, ⟨13, [], []⟩, ⟨14, [], []⟩, ⟨15, [], []⟩, ⟨16, [], []⟩, ⟨17, [], []⟩, ⟨19, [], []⟩, ⟨20, [], []⟩, ⟨21, [], []⟩, ⟨22, [], []⟩, ⟨23, [], []⟩, ⟨24, [], []⟩, ⟨25, [], []⟩, ⟨26, [], []⟩, ⟨27, [], []⟩, ⟨28, [], []⟩, ⟨29, [], []⟩, ⟨30, [], []⟩, ⟨31, [], []⟩, ⟨32, [], []⟩, ⟨33, [], []⟩, ⟨34, [], []⟩, ⟨35, [], []⟩, ⟨36, [], []⟩, ⟨18, [19, 20, 21, 22, 23, 24, 25, 26, 27, 28, 29, 30, 31, 32, 33, 34, 35, 36], []⟩, ⟨37, [], [38]⟩, ⟨38, [], []⟩, ⟨39, [], []⟩, ⟨40, [], []⟩]))]) Tryz.func285 (c := bodyOf Tryz.f285) rfl (by kernel_rfl) (by kernel_rfl) Tryz.ntmps285 (res := [.tmp 2]) (by kernel_rfl) ?_
        repeat' ((conv => whnf); first | refine Rng.g ?_ | refine Ob.g ?_ | refine Ob.e ?_ | refine Ob.m ?_ | refine Ob.mk (Nat.le_of_ble_eq_true rfl) ?_ | refine JoinVC.on ?_ | refine Nils.mk (fun h => ?_) ?_ | refine Val.t ?_ | refine Val.d ?_ | refine Mm.mk ?_ | (refine Br.mk (fun h => ?_) (fun h => ?_) <;> first | (exfalso; omega; done) | (exfalso; simp at h; done) | skip))
        repeat refine Mm.mk ?_
        refine EndVC.mk _ rfl _ _ ⟨rfl, rfl⟩ ?_
        refine ⟨[], rfl, rfl, ?_, ?_⟩ <;> repeat' (first | exact trivial | exact rfl | exact Iff.rfl | apply And.intro)
end Go.Sx

namespace Go.Sx
open Go Go.Proofs
set_option maxRecDepth 10000
set_option maxHeartbeats 4000000
def arcF (r per : Int) : Int := (710 * r * (710 * r)) / (113 * per * (113 * per))
theorem sq_rng {a A : Int} (h : 0 ≤ a ∧ a ≤ A) : 0 ≤ a * a ∧ a * a ≤ A * A :=
  ⟨Int.mul_nonneg h.1 h.1, Int.mul_le_mul h.2 h.2 h.1 (by omega)⟩
theorem s286 (t : Trk) (ht : TrkOK t) : PSpec Tryz.prog 286 [tkX t] (.x (I (arcF t.r t.per))) := by
  have hr := ht.r
  have hp := ht.per
  have h1 := sq_rng (a := 710 * t.r) (A := 2977955840) (by omega)
  have h2 := sq_rng (a := 113 * t.per) (A := 7405568) (by omega)
  have h3 : 0 < 113 * t.per * (113 * t.per) := Int.mul_pos (by omega) (by omega)
  refine spec_of pMix (O := []) Tryz.func286 (c := bodyOf Tryz.f286) rfl (by kernel_rfl) (by kernel_rfl) Tryz.ntmps286 (res := [.tmp 2]) (by kernel_rfl) ?_
  have h4 := Int.ediv_nonneg h1.1 (Int.le_of_lt h3)
  have h5 := Int.ediv_le_self (113 * t.per * (113 * t.per)) h1.1
  have f8 : rI (tkA t) 0 (0 + (0 + 1 + 1 + 1 + 1 + 1 + 1 + 1 + 1)) = t.r := rfl
  have f9 : rI (tkA t) 0 (0 + (0 + 1 + 1 + 1 + 1 + 1 + 1 + 1 + 1 + 1)) = t.per := rfl
  repeat' ((conv => whnf); first | rw [f8] | rw [f9] | refine Rng.g ?_ | refine Ob.g ?_ | refine Ob.e ?_ | refine Ob.m ?_ | refine Ob.mk (Nat.le_of_ble_eq_true rfl) ?_ | refine JoinVC.on ?_ | refine Nils.mk (fun h => ?_) ?_ | refine Val.t ?_ | refine Val.d ?_ | refine Mm.mk ?_ | (refine Br.mk (fun h => ?_) (fun h => ?_) <;> first | (exfalso; omega; done) | (exfalso; simp at h; done) | skip))
  repeat refine Mm.mk ?_
  refine EndVC.mk _ rfl _ _ ⟨rfl, rfl⟩ ?_
  refine ⟨[], rfl, rfl, ?_, ?_⟩ <;> repeat' (first | exact trivial | exact rfl | exact Iff.rfl | apply And.intro)
/-- The rules. -/
def brk (t : Trk) (i : Nat) (b a : Bool) : Nat → Prop
  | 1 => (t.p.getD i s0).r - (t.p.getD i s0).l < t.c.thin
  | 2 => (t.p.getD i s0).r - (t.p.getD i s0).l > t.c.wide
  | 3 => 113000 * t.per * stF t.p i b > 710 * t.r * t.c.slope
  | 4 => bdF t.p i b a > t.c.jerk
  | 5 => bdF t.p i b a * t.c.sty > arcF t.r t.per
  | _ => False
instance (t : Trk) (i : Nat) (b a : Bool) (k : Nat) : Decidable (brk t i b a k) := by unfold brk; split <;> exact inferInstance
@[reducible] def nrT (t : Trk) (i : Nat) (b a : Bool) : XV := nrX t.p i b a
theorem s213 (t : Trk) (i : Nat) (b a : Bool) (hn : NearOK t.p i b a) : PSpec Tryz.prog 213 [tkX t, nrX t.p i b a] (xP (brk t i b a 1)) := by
  have c1 := s283 t.p i b a hn.h
  have f2 : rI (tkA t) 0 (0 + 0 + (0 + 1 + 1)) = t.c.thin := rfl
  cases b
  all_goals
    cases a
    all_goals
      refine spec_of pMix (O := [(1, ([], [⟨0, [], []⟩, ⟨2, [], []⟩, ⟨3, [], []⟩, ⟨4, [], []⟩, ⟨5, [], []⟩, ⟨6, [], []⟩, ⟨1, [2, 3, 4, 5, 6], []⟩, ⟨7, [], []⟩, ⟨8, [], []⟩]))]) Tryz.func213 (c := bodyOf Tryz.f213) rfl (by kernel_rfl) (by kernel_rfl) Tryz.ntmps213 (res := [.tmp 4]) (by kernel_rfl) ?_
      repeat' ((conv => whnf); first | rw [f2] | refine Rng.g ?_ | refine Ob.g ?_ | refine Ob.e ?_ | refine Ob.m ?_ | refine Ob.mk (Nat.le_of_ble_eq_true rfl) ?_ | refine JoinVC.on ?_ | refine Nils.mk (fun h => ?_) ?_ | refine Val.t ?_ | refine Val.d ?_ | refine Mm.mk ?_ | refine CallVC.pure rfl (c1) ?_ | refine CallVC0.pure rfl (c1) ?_ | (refine Br.mk (fun h => ?_) (fun h => ?_) <;> first | (exfalso; omega; done) | (exfalso; simp at h; done) | skip))
      repeat refine Mm.mk ?_
      refine EndVC.mk _ rfl _ _ ⟨rfl, rfl⟩ ?_
      refine ⟨[], rfl, rfl, ?_, ?_⟩ <;> repeat' (first | exact trivial | exact rfl | exact Iff.rfl | apply And.intro)
theorem s214 (t : Trk) (i : Nat) (b a : Bool) (hn : NearOK t.p i b a) : PSpec Tryz.prog 214 [tkX t, nrX t.p i b a] (xP (brk t i b a 2)) := by
  have c1 := s283 t.p i b a hn.h
  have f2 : rI (tkA t) 0 (0 + 0 + (0 + 1 + 1 + 1)) = t.c.wide := rfl
  cases b
  all_goals
    cases a
    all_goals
      refine spec_of pMix (O := [(1, ([], [⟨0, [], []⟩, ⟨2, [], []⟩, ⟨3, [], []⟩, ⟨4, [], []⟩, ⟨5, [], []⟩, ⟨6, [], []⟩, ⟨1, [2, 3, 4, 5, 6], []⟩, ⟨7, [], []⟩, ⟨8, [], []⟩]))]) Tryz.func214 (c := bodyOf Tryz.f214) rfl (by kernel_rfl) (by kernel_rfl) Tryz.ntmps214 (res := [.tmp 4]) (by kernel_rfl) ?_
      repeat' ((conv => whnf); first | rw [f2] | refine Rng.g ?_ | refine Ob.g ?_ | refine Ob.e ?_ | refine Ob.m ?_ | refine Ob.mk (Nat.le_of_ble_eq_true rfl) ?_ | refine JoinVC.on ?_ | refine Nils.mk (fun h => ?_) ?_ | refine Val.t ?_ | refine Val.d ?_ | refine Mm.mk ?_ | refine CallVC.pure rfl (c1) ?_ | refine CallVC0.pure rfl (c1) ?_ | (refine Br.mk (fun h => ?_) (fun h => ?_) <;> first | (exfalso; omega; done) | (exfalso; simp at h; done) | skip))
      repeat refine Mm.mk ?_
      refine EndVC.mk _ rfl _ _ ⟨rfl, rfl⟩ ?_
      refine ⟨[], rfl, rfl, ?_, ?_⟩ <;> repeat' (first | exact trivial | exact rfl | exact Iff.rfl | apply And.intro)
theorem s215 (t : Trk) (i : Nat) (b a : Bool) (ht : TrkOK t) (hn : NearOK t.p i b a) : PSpec Tryz.prog 215 [tkX t, nrX t.p i b a] (xP (brk t i b a 3)) := by
  have c1 := s284 t.p i b a hn
  have f2 : rI (tkA t) 0 (0 + 0 + (0 + 1 + 1 + 1 + 1)) = t.c.slope := rfl
  have f8 : rI (tkA t) 0 (0 + (0 + 1 + 1 + 1 + 1 + 1 + 1 + 1 + 1)) = t.r := rfl
  have f9 : rI (tkA t) 0 (0 + (0 + 1 + 1 + 1 + 1 + 1 + 1 + 1 + 1 + 1)) = t.per := rfl
  have hr := ht.r
  have hp := ht.per
  have hs := ht.c.slope
  have hst := stF_bd hn
  have h1 := mul_rng (a := 113000 * t.per) (b := stF t.p i b) (A := 7405568000) (B := 8388608) (by omega) hst
  have h2 := mul_rng (a := 710 * t.r) (b := t.c.slope) (A := 2977955840) (B := 10000) (by omega) hs
  cases b
  all_goals
    cases a
    all_goals
      refine spec_of pMix (O := [(1, ([], [⟨0, [], []⟩, ⟨1, [], []⟩, ⟨2, [], []⟩, ⟨3, [], []⟩, ⟨4, [], []⟩, ⟨5, [], []⟩, ⟨8, [], []⟩, ⟨9, [], []⟩, ⟨10, [], []⟩, ⟨11, [], []⟩, ⟨12, [], []⟩, ⟨13, [], []⟩, ⟨14, [], []⟩, ⟨15, [], []⟩, ⟨16, [], []⟩, ⟨17, [], []⟩, ⟨18, [], []⟩, ⟨6, [0, 1, 2, 3, 4, 8, 9, 10, 11, 12, 13, 14, 15, 16, 17, 18], []⟩, ⟨7, [], []⟩, ⟨19, [], []⟩, ⟨20, [], []⟩]))]) Tryz.func215 (c := bodyOf Tryz.f215) rfl (by kernel_rfl) (by kernel_rfl) Tryz.ntmps215 (res := [.tmp 4]) (by kernel_rfl) ?_
      repeat' ((conv => whnf); first | rw [f2] | rw [f8] | rw [f9] | refine Rng.g ?_ | refine Ob.g ?_ | refine Ob.e ?_ | refine Ob.m ?_ | refine Ob.mk (Nat.le_of_ble_eq_true rfl) ?_ | refine JoinVC.on ?_ | refine Nils.mk (fun h => ?_) ?_ | refine Val.t ?_ | refine Val.d ?_ | refine Mm.mk ?_ | refine CallVC.pure rfl (c1) ?_ | refine CallVC0.pure rfl (c1) ?_ | (refine Br.mk (fun h => ?_) (fun h => ?_) <;> first | (exfalso; omega; done) | (exfalso; simp at h; done) | skip))
      repeat refine Mm.mk ?_
      refine EndVC.mk _ rfl _ _ ⟨rfl, rfl⟩ ?_
      refine ⟨[], rfl, rfl, ?_, ?_⟩ <;> repeat' (first | exact trivial | exact rfl | exact Iff.rfl | apply And.intro)
theorem s216 (t : Trk) (i : Nat) (b a : Bool) (hn : NearOK t.p i b a) : PSpec Tryz.prog 216 [tkX t, nrX t.p i b a] (xP (brk t i b a 4)) := by
  have c1 := s285 t.p i b a hn
  have f2 : rI (tkA t) 0 (0 + 0 + (0 + 1 + 1 + 1 + 1 + 1)) = t.c.jerk := rfl
  cases b
  all_goals
    cases a
    all_goals
      refine spec_of pMix (O := [(1, ([], [⟨0, [], []⟩, ⟨2, [], []⟩, ⟨3, [], []⟩, ⟨4, [], []⟩, ⟨5, [], []⟩, ⟨6, [], []⟩, ⟨1, [2, 3, 4, 5, 6], []⟩, ⟨7, [], []⟩, ⟨8, [], []⟩]))]) Tryz.func216 (c := bodyOf Tryz.f216) rfl (by kernel_rfl) (by kernel_rfl) Tryz.ntmps216 (res := [.tmp 4]) (by kernel_rfl) ?_
      repeat' ((conv => whnf); first | rw [f2] | refine Rng.g ?_ | refine Ob.g ?_ | refine Ob.e ?_ | refine Ob.m ?_ | refine Ob.mk (Nat.le_of_ble_eq_true rfl) ?_ | refine JoinVC.on ?_ | refine Nils.mk (fun h => ?_) ?_ | refine Val.t ?_ | refine Val.d ?_ | refine Mm.mk ?_ | refine CallVC.pure rfl (c1) ?_ | refine CallVC0.pure rfl (c1) ?_ | (refine Br.mk (fun h => ?_) (fun h => ?_) <;> first | (exfalso; omega; done) | (exfalso; simp at h; done) | skip))
      repeat refine Mm.mk ?_
      refine EndVC.mk _ rfl _ _ ⟨rfl, rfl⟩ ?_
      refine ⟨[], rfl, rfl, ?_, ?_⟩ <;> repeat' (first | exact trivial | exact rfl | exact Iff.rfl | apply And.intro)
theorem s217 (t : Trk) (i : Nat) (b a : Bool) (ht : TrkOK t) (hn : NearOK t.p i b a) : PSpec Tryz.prog 217 [tkX t, nrX t.p i b a] (xP (brk t i b a 5)) := by
  have c1 := s285 t.p i b a hn
  have c2 := s286 t ht
  have f2 : rI (tkA t) 0 (0 + 0 + (0 + 1 + 1 + 1 + 1 + 1 + 1)) = t.c.sty := rfl
  have hst := bdF_bd hn
  have hs := ht.c.sty
  have h1 := mul_rng (a := bdF t.p i b a) (b := t.c.sty) (A := 16777216) (B := 1024) (by omega) hs
  cases b
  all_goals
    cases a
    all_goals
      refine spec_of pMix (O := [(1, ([], [⟨0, [], []⟩, ⟨2, [], []⟩, ⟨3, [], []⟩, ⟨4, [], []⟩, ⟨5, [], []⟩, ⟨6, [], []⟩, ⟨8, [], []⟩, ⟨1, [2, 3, 4, 5, 6, 8], []⟩, ⟨7, [], []⟩, ⟨9, [2, 3, 4, 5, 6, 7], []⟩, ⟨10, [], []⟩, ⟨11, [], []⟩]))]) Tryz.func217 (c := bodyOf Tryz.f217) rfl (by kernel_rfl) (by kernel_rfl) Tryz.ntmps217 (res := [.tmp 4]) (by kernel_rfl) ?_
      repeat' ((conv => whnf); first | rw [f2] | refine Rng.g ?_ | refine Ob.g ?_ | refine Ob.e ?_ | refine Ob.m ?_ | refine Ob.mk (Nat.le_of_ble_eq_true rfl) ?_ | refine JoinVC.on ?_ | refine Nils.mk (fun h => ?_) ?_ | refine Val.t ?_ | refine Val.d ?_ | refine Mm.mk ?_ | refine CallVC.pure rfl (c1) ?_ | refine CallVC.pure rfl (c2) ?_ | refine CallVC0.pure rfl (c1) ?_ | refine CallVC0.pure rfl (c2) ?_ | (refine Br.mk (fun h => ?_) (fun h => ?_) <;> first | (exfalso; omega; done) | (exfalso; simp at h; done) | skip))
      repeat refine Mm.mk ?_
      refine EndVC.mk _ rfl _ _ ⟨rfl, rfl⟩ ?_
      refine ⟨[], rfl, rfl, ?_, ?_⟩ <;> repeat' (first | exact trivial | exact rfl | exact Iff.rfl | apply And.intro)
/-- The first rule that is broken. -/
def ruleF (t : Trk) (i : Nat) (b a : Bool) : Int := if brk t i b a 1 then 1 else if brk t i b a 2 then 2 else if brk t i b a 3 then 3 else if brk t i b a 4 then 4 else if brk t i b a 5 then 5 else 0
theorem s128 (t : Trk) (i : Nat) (b a : Bool) (ht : TrkOK t) (hn : NearOK t.p i b a) : PSpec Tryz.prog 128 [tkX t, nrX t.p i b a] (.x (I (ruleF t i b a))) := by
  have c1 := s213 t i b a hn
  have c2 := s214 t i b a hn
  have c3 := s215 t i b a ht hn
  have c4 := s216 t i b a hn
  have c5 := s217 t i b a ht hn
  cases b
  all_goals
    cases a
    all_goals
      refine spec_of pMix (O := []) Tryz.func128 (c := bodyOf Tryz.f128) rfl (by kernel_rfl) (by kernel_rfl) Tryz.ntmps128 (res := [.tmp 4]) (by kernel_rfl) ?_
      repeat' ((conv => whnf); first | refine Rng.g ?_ | refine Ob.g ?_ | refine Ob.e ?_ | refine Ob.m ?_ | refine Ob.mk (Nat.le_of_ble_eq_true rfl) ?_ | refine JoinVC.on ?_ | refine Nils.mk (fun h => ?_) ?_ | refine Val.t ?_ | refine Val.d ?_ | refine Mm.mk ?_ | (refine Br.mk (fun h => ?_) (fun h => ?_) <;> first | (exfalso; omega; done) | (exfalso; simp at h; done) | skip))
      refine LoopVC.un 6 ?_
      repeat' ((conv => whnf); first | refine Rng.g ?_ | refine Ob.g ?_ | refine Ob.e ?_ | refine Ob.m ?_ | refine Ob.mk (Nat.le_of_ble_eq_true rfl) ?_ | refine JoinVC.on ?_ | refine Nils.mk (fun h => ?_) ?_ | refine Val.t ?_ | refine Val.d ?_ | refine Mm.mk ?_ | refine CallVC.pure rfl (c1) ?_ | refine CallVC.pure rfl (c2) ?_ | refine CallVC.pure rfl (c3) ?_ | refine CallVC.pure rfl (c4) ?_ | refine CallVC.pure rfl (c5) ?_ | refine CallVC0.pure rfl (c1) ?_ | refine CallVC0.pure rfl (c2) ?_ | refine CallVC0.pure rfl (c3) ?_ | refine CallVC0.pure rfl (c4) ?_ | refine CallVC0.pure rfl (c5) ?_ | (refine Br.mk (fun h => ?_) (fun h => ?_) <;> first | (exfalso; omega; done) | (exfalso; simp at h; done) | skip))
      all_goals
        repeat refine Mm.mk ?_
        refine EndVC.mk _ rfl _ _ ⟨rfl, rfl⟩ ?_
        refine ⟨[], rfl, rfl, ?_, ?_⟩ <;> repeat' (first | exact trivial | exact rfl | exact Iff.rfl | apply And.intro)
        simp [ruleF, *]
end Go.Sx

namespace Go.Sx
open Go Go.Proofs
set_option maxRecDepth 10000
set_option maxHeartbeats 4000000
theorem s129 (t : Trk) (i : Nat) (b a : Bool) (hl : t.p.length ≤ 4096) (hi : i < t.p.length) (hb : b = true ↔ 0 < i) (ha : a = true ↔ i + 1 < t.p.length) : PSpec Tryz.prog 129 [tkX t, I (i : Int)] (.x (nrX t.p i b a)) := by
  have f7 : rA (tkA t) 0 (0 + (0 + 1 + 1 + 1 + 1 + 1 + 1 + 1)) = smpA t.p := rfl
  have lp := smpA_len t.p
  cases b
  all_goals
    have hb' : ¬ 0 < i ∨ 0 < i := by omega
    cases a
    all_goals
      simp only [true_iff, reduceCtorEq, false_iff] at hb ha
      refine spec_of pMix (O := []) Tryz.func129 (c := bodyOf Tryz.f129) rfl (by kernel_rfl) (by kernel_rfl) Tryz.ntmps129 (res := [.cell 4 234]) (by kernel_rfl) ?_
      repeat' ((conv => whnf); first | rw [f7] | refine Rng.g ?_ | refine Ob.g ?_ | refine Ob.e ?_ | refine Ob.m ?_ | refine Ob.mk (Nat.le_of_ble_eq_true rfl) ?_ | refine JoinVC.on ?_ | refine Nils.mk (fun h => ?_) ?_ | refine Val.t ?_ | refine Val.d ?_ | refine Mm.mk ?_ | (refine Br.mk (fun h => ?_) (fun h => ?_) <;> first | (exfalso; omega; done) | (exfalso; simp at h; done) | skip))
      repeat refine Mm.mk ?_
      refine EndVC.mk _ rfl _ _ ⟨rfl, rfl⟩ ?_
      refine ⟨[], rfl, rfl, ?_, ?_⟩ <;> repeat' (first | exact trivial | exact rfl | exact Iff.rfl | apply And.intro)
  all_goals omega
theorem s208 (t : Trk) : HSpec Tryz.prog 208 [tkX t] [] (fun r m' => r = .x (.one (.fn 281 [(0, 0)])) ∧ m' = [some (.box 214 [.lel true KTk (tkA t) 0 0])]) := by
  refine spec_of pMix (O := []) Tryz.func208 (c := bodyOf Tryz.f208) rfl (by kernel_rfl) (by kernel_rfl) Tryz.ntmps208 (res := [.tmp 2]) (by kernel_rfl) ?_
  repeat' ((conv => whnf); first | refine Rng.g ?_ | refine Ob.g ?_ | refine Ob.e ?_ | refine Ob.m ?_ | refine Ob.mk (Nat.le_of_ble_eq_true rfl) ?_ | refine JoinVC.on ?_ | refine Nils.mk (fun h => ?_) ?_ | refine Val.t ?_ | refine Val.d ?_ | refine Mm.mk ?_ | (refine Br.mk (fun h => ?_) (fun h => ?_) <;> first | (exfalso; omega; done) | (exfalso; simp at h; done) | skip))
  repeat refine Mm.mk ?_
  refine EndVC.mk _ rfl _ _ ⟨rfl, rfl⟩ ?_
  refine ⟨[some 0], rfl, rfl, ?_, ?_⟩ <;> repeat' (first | exact trivial | exact rfl | exact Iff.rfl | apply And.intro)
def bB (i : Nat) : Bool := decide (0 < i)
def aB (l : List Smp) (i : Nat) : Bool := decide (i + 1 < l.length)
theorem TrkOK.near {t : Trk} (ht : TrkOK t) {i : Nat} (hi : i < t.p.length) : NearOK t.p i (bB i) (aB t.p i) :=
  ⟨ht.p.each i hi, fun _ => ht.p.each _ (by omega), fun ha => ht.p.each _ (of_decide_eq_true ha)⟩
def ruleAt (t : Trk) (i : Nat) : Int := ruleF t i (bB i) (aB t.p i)
theorem ruleF_rng (t : Trk) (i : Nat) (b a : Bool) : 0 ≤ ruleF t i b a ∧ ruleF t i b a ≤ 5 := by
  unfold ruleF
  repeat' split
  all_goals omega
/-- The fault of a groove. -/
structure FaultIs (t : Trk) (i : Nat) (x : Int) : Prop where
  none : x = 0 → i = 0 ∧ ∀ j, j < t.p.length → ruleAt t j = 0
  some : x ≠ 0 → i < t.p.length ∧ x = ruleAt t i ∧ ∀ j, j < i → ruleAt t j = 0
def cF : Code → Code
  | .seq a _ => a
  | c => c
def cS : Code → Code
  | .seq _ b => b
  | c => c
def cB : Code → Code
  | .block _ c => c
  | c => c
def cAs : Code → Code
  | .rangeFunc _ _ x _ => x
  | c => c
def cBo : Code → Code
  | .rangeFunc _ _ _ b => b
  | c => c
noncomputable def rf116 : Code := cB (cS (cF (cS (bodyOf Tryz.f116))))
theorem s116 (t : Trk) (ht : TrkOK t) : HSpec Tryz.prog 116 [tkX t] [] (fun r m' => ∃ (i : Nat) (x : Int), FaultIs t i x ∧ r = .tup [I (i : Int), I x] ∧ m' = []) := by
  have lp := smpA_len t.p
  have hl := ht.p.len
  have f7 : rA (tkA t) 0 (0 + (0 + 1 + 1 + 1 + 1 + 1 + 1 + 1)) = smpA t.p := rfl
  refine spec_of pMix (O := []) Tryz.func116 (c := bodyOf Tryz.f116) rfl (by kernel_rfl) (by kernel_rfl) Tryz.ntmps116 (res := [.cell 2 3, .cell 3 3]) (by kernel_rfl) ?_
  repeat' ((conv => whnf); first | refine Rng.g ?_ | refine Ob.g ?_ | refine Ob.e ?_ | refine Ob.m ?_ | refine Ob.mk (Nat.le_of_ble_eq_true rfl) ?_ | refine JoinVC.on ?_ | refine Nils.mk (fun h => ?_) ?_ | refine Val.t ?_ | refine Val.d ?_ | refine Mm.mk ?_ | (refine Br.mk (fun h => ?_) (fun h => ?_) <;> first | (exfalso; omega; done) | (exfalso; simp at h; done) | skip))
  conv => whnf
  refine CallVC.mk [] _ _ _ rfl rfl rfl (s208 t) (fun r m' h' => ?_)
  obtain ⟨rfl, rfl⟩ := h'
  conv => whnf
  repeat' ((conv => whnf); first | refine Rng.g ?_ | refine Ob.g ?_ | refine Ob.e ?_ | refine Ob.m ?_ | refine Ob.mk (Nat.le_of_ble_eq_true rfl) ?_ | refine JoinVC.on ?_ | refine Nils.mk (fun h => ?_) ?_ | refine Val.t ?_ | refine Val.d ?_ | refine Mm.mk ?_ | (refine Br.mk (fun h => ?_) (fun h => ?_) <;> first | (exfalso; omega; done) | (exfalso; simp at h; done) | skip))
  change RangeVC _ _ _ _ _
  refine RangeVC.mk e281 (isem_of_awp pMix [] Tryz.func281 (c := bodyOf Tryz.f281) rfl (by kernel_rfl) Tryz.ntmps281 (by kernel_rfl) ?_)
  repeat' ((conv => whnf); first | rw [f7] | refine Rng.g ?_ | refine Ob.g ?_ | refine Ob.e ?_ | refine Ob.m ?_ | refine Ob.mk (Nat.le_of_ble_eq_true rfl) ?_ | refine JoinVC.on ?_ | refine Nils.mk (fun h => ?_) ?_ | refine Val.t ?_ | refine Val.d ?_ | refine Mm.mk ?_ | (refine Br.mk (fun h => ?_) (fun h => ?_) <;> first | (exfalso; omega; done) | (exfalso; simp at h; done) | skip))
  refine LoopVC.mk (fun n st => ∃ (i : Nat), i ≤ t.p.length ∧ n = t.p.length - i ∧ (∀ j, j < i → ruleAt t j = 0) ∧ st = ⟨5, envA 20 [(0, .x (.one (.yld 4))), (1, .x (.one (.ptr 3 0))), (8, .int .i64 (t.p.length : Int)), (9, .int .i64 (i : Int))], [some (.box 214 [.lel true KTk (tkA t) 0 0]), some (.box 3 [.int .i64 0]), some (.box 3 [.int .i64 0]), some (.box 214 [.lel true KTk (tkA t) 0 0]), some (.loop [9, 10] (cAs rf116) (cBo rf116) (envA 18 [(1, .x (.one (.ptr 0 0))), (2, .x (.one (.ptr 1 0))), (3, .x (.one (.ptr 2 0)))]) .ready)]⟩) _ _ ⟨0, Nat.zero_le _, rfl, fun j hj => absurd hj (Nat.not_lt_zero j), rfl⟩ ?_ ?_
  · refine ⟨[some 0, some 1, some 2, some 3, some 4], rfl, rfl, ?_, ?_⟩ <;> repeat' (first | exact trivial | exact rfl | exact Iff.rfl | apply And.intro)
    exact congrArg Int.ofNat lp
  rintro n _ ⟨i, hi, hn, hj, rfl⟩
  by_cases hi' : i < t.p.length
  · have c1 := s129 t i (bB i) (aB t.p i) hl hi' decide_eq_true_iff decide_eq_true_iff
    have c2 := s128 t i (bB i) (aB t.p i) ht (ht.near hi')
    have e : ruleAt t i = ruleF t i (bB i) (aB t.p i) := rfl
    have hr5 := ruleF_rng t i (bB i) (aB t.p i)
    obtain ⟨b, hb⟩ : ∃ b, bB i = b := ⟨_, rfl⟩
    obtain ⟨a, ha⟩ : ∃ a, aB t.p i = a := ⟨_, rfl⟩
    rw [hb, ha] at c1 c2 e hr5
    cases b
    all_goals
      cases a
      all_goals
        repeat' ((conv => whnf); first | refine Rng.g ?_ | refine Ob.g ?_ | refine Ob.e ?_ | refine Ob.m ?_ | refine Ob.mk (Nat.le_of_ble_eq_true rfl) ?_ | refine JoinVC.on ?_ | refine Nils.mk (fun h => ?_) ?_ | refine Val.t ?_ | refine Val.d ?_ | refine Mm.mk ?_ | refine CallVC.pure rfl (c1) ?_ | refine CallVC.pure rfl (c2) ?_ | refine CallVC0.pure rfl (c1) ?_ | refine CallVC0.pure rfl (c2) ?_ | refine YieldVC.mk (rsem_of_awp pMix [] rfl (by kernel_rfl) ?_) | (refine Br.mk (fun h => ?_) (fun h => ?_) <;> first | (exfalso; omega; done) | (exfalso; simp at h; done) | skip))
        · repeat refine Mm.mk ?_
          conv => whnf
          refine EndVC.mk _ rfl _ _ (⟨i, _, ⟨fun h0 => by rw [h0] at h; omega, fun _ => ⟨hi', e.symm, hj⟩⟩, rfl, rfl⟩) ?_
          refine ⟨[], rfl, rfl, ?_, ?_⟩ <;> repeat' (first | exact trivial | exact rfl | exact Iff.rfl | apply And.intro)
        · refine Back.mk (t.p.length - (i + 1)) _ (by omega) ⟨i + 1, by omega, rfl, fun j hj' => ?_, rfl⟩ ?_
          · rcases Nat.lt_succ_iff_lt_or_eq.1 hj' with h' | h'
            · exact hj j h'
            · rw [h', e]; omega
          · refine ⟨[some 0, some 1, some 2, some 3, some 4], rfl, rfl, ?_, ?_⟩ <;> repeat' (first | exact trivial | exact rfl | exact Iff.rfl | apply And.intro)
  · repeat' ((conv => whnf); first | refine Rng.g ?_ | refine Ob.g ?_ | refine Ob.e ?_ | refine Ob.m ?_ | refine Ob.mk (Nat.le_of_ble_eq_true rfl) ?_ | refine JoinVC.on ?_ | refine Nils.mk (fun h => ?_) ?_ | refine Val.t ?_ | refine Val.d ?_ | refine Mm.mk ?_ | (refine Br.mk (fun h => ?_) (fun h => ?_) <;> first | (exfalso; omega; done) | (exfalso; simp at h; done) | skip))
    repeat refine Mm.mk ?_
    conv => whnf
    refine EndVC.mk _ rfl _ _ (⟨0, 0, ⟨fun _ => ⟨rfl, fun j hj' => hj j (by omega)⟩, fun h0 => absurd rfl h0⟩, rfl, rfl⟩) ?_
    refine ⟨[], rfl, rfl, ?_, ?_⟩ <;> repeat' (first | exact trivial | exact rfl | exact Iff.rfl | apply And.intro)
end Go.Sx

namespace Go.Sx
open Go Go.Proofs
set_option maxRecDepth 10000
set_option maxHeartbeats 4000000
theorem s112 (c : Cut) (l : List Smp) : HSpec Tryz.prog 112 [c.x, lS l] [] (fun r m' => (∃ e, ¬ (CutOK c ∧ PtsOK l) ∧ e ≠ 0 ∧ r = .tup [.one .nilp, I e] ∧ m' = []) ∨ (CutOK c ∧ PtsOK l ∧ r = .tup [.one (.ptr 0 0), I 0] ∧ m' = [some (bTk ⟨c, l, 0, 0⟩)])) := by
  have v1 := s105 c
  have v2 := s153 l
  by_cases hC : ¬ CutOK c
  · refine spec_of pMix (O := []) Tryz.func112 (c := bodyOf Tryz.f112) rfl (by kernel_rfl) (by kernel_rfl) Tryz.ntmps112 (res := [.tmp 4, .tmp 5]) (by kernel_rfl) ?_
    repeat' ((conv => whnf); first | refine Rng.g ?_ | refine Ob.g ?_ | refine Ob.e ?_ | refine Ob.m ?_ | refine Ob.mk (Nat.le_of_ble_eq_true rfl) ?_ | refine JoinVC.on ?_ | refine Nils.mk (fun h => ?_) ?_ | refine Val.t ?_ | refine Val.d ?_ | refine Mm.mk ?_ | (refine Br.mk (fun h => ?_) (fun h => ?_) <;> first | (exfalso; omega; done) | (exfalso; simp at h; done) | skip))
    conv => whnf
    refine CallVC.mk [] _ _ _ rfl rfl rfl (v1) (fun r m' h' => ?_)
    obtain ⟨e, rfl, rfl, he⟩ := h'
    conv => whnf
    have he0 : e ≠ 0 := fun h0 => hC (he.1 h0)
    repeat' ((conv => whnf); first | refine Rng.g ?_ | refine Ob.g ?_ | refine Ob.e ?_ | refine Ob.m ?_ | refine Ob.mk (Nat.le_of_ble_eq_true rfl) ?_ | refine JoinVC.on ?_ | refine Nils.mk (fun h => ?_) ?_ | refine Val.t ?_ | refine Val.d ?_ | refine Mm.mk ?_ | (refine Br.mk (fun h => ?_) (fun h => ?_) <;> first | (exfalso; omega; done) | (exfalso; simp at h; done) | skip))
    repeat refine Mm.mk ?_
    conv => whnf
    refine EndVC.mk _ rfl _ _ (.inl ⟨e, fun h => hC h.1, he0, rfl, rfl⟩) ?_
    refine ⟨[], rfl, rfl, ?_, ?_⟩ <;> repeat' (first | exact trivial | exact rfl | exact Iff.rfl | apply And.intro)
  replace hC := Classical.not_not.1 hC
  by_cases hP : ¬ PtsOK l
  · refine spec_of pMix (O := []) Tryz.func112 (c := bodyOf Tryz.f112) rfl (by kernel_rfl) (by kernel_rfl) Tryz.ntmps112 (res := [.tmp 4, .tmp 5]) (by kernel_rfl) ?_
    repeat' ((conv => whnf); first | refine Rng.g ?_ | refine Ob.g ?_ | refine Ob.e ?_ | refine Ob.m ?_ | refine Ob.mk (Nat.le_of_ble_eq_true rfl) ?_ | refine JoinVC.on ?_ | refine Nils.mk (fun h => ?_) ?_ | refine Val.t ?_ | refine Val.d ?_ | refine Mm.mk ?_ | (refine Br.mk (fun h => ?_) (fun h => ?_) <;> first | (exfalso; omega; done) | (exfalso; simp at h; done) | skip))
    conv => whnf
    refine CallVC.mk [] _ _ _ rfl rfl rfl (v1) (fun r m' h' => ?_)
    obtain ⟨e, rfl, rfl, he⟩ := h'
    conv => whnf
    cases he.2 hC
    repeat' ((conv => whnf); first | refine Rng.g ?_ | refine Ob.g ?_ | refine Ob.e ?_ | refine Ob.m ?_ | refine Ob.mk (Nat.le_of_ble_eq_true rfl) ?_ | refine JoinVC.on ?_ | refine Nils.mk (fun h => ?_) ?_ | refine Val.t ?_ | refine Val.d ?_ | refine Mm.mk ?_ | (refine Br.mk (fun h => ?_) (fun h => ?_) <;> first | (exfalso; omega; done) | (exfalso; simp at h; done) | skip))
    conv => whnf
    refine CallVC.mk [] _ _ _ rfl rfl rfl (v2) (fun r m' h' => ?_)
    obtain ⟨e, rfl, rfl, he'⟩ := h'
    conv => whnf
    have he0 : e ≠ 0 := fun h0 => hP (he'.1 h0)
    repeat' ((conv => whnf); first | refine Rng.g ?_ | refine Ob.g ?_ | refine Ob.e ?_ | refine Ob.m ?_ | refine Ob.mk (Nat.le_of_ble_eq_true rfl) ?_ | refine JoinVC.on ?_ | refine Nils.mk (fun h => ?_) ?_ | refine Val.t ?_ | refine Val.d ?_ | refine Mm.mk ?_ | (refine Br.mk (fun h => ?_) (fun h => ?_) <;> first | (exfalso; omega; done) | (exfalso; simp at h; done) | skip))
    repeat refine Mm.mk ?_
    conv => whnf
    refine EndVC.mk _ rfl _ _ (.inl ⟨e, fun h => hP h.2, he0, rfl, rfl⟩) ?_
    refine ⟨[], rfl, rfl, ?_, ?_⟩ <;> repeat' (first | exact trivial | exact rfl | exact Iff.rfl | apply And.intro)
  replace hP := Classical.not_not.1 hP
  refine spec_of pMix (O := []) Tryz.func112 (c := bodyOf Tryz.f112) rfl (by kernel_rfl) (by kernel_rfl) Tryz.ntmps112 (res := [.tmp 4, .tmp 5]) (by kernel_rfl) ?_
  repeat' ((conv => whnf); first | refine Rng.g ?_ | refine Ob.g ?_ | refine Ob.e ?_ | refine Ob.m ?_ | refine Ob.mk (Nat.le_of_ble_eq_true rfl) ?_ | refine JoinVC.on ?_ | refine Nils.mk (fun h => ?_) ?_ | refine Val.t ?_ | refine Val.d ?_ | refine Mm.mk ?_ | (refine Br.mk (fun h => ?_) (fun h => ?_) <;> first | (exfalso; omega; done) | (exfalso; simp at h; done) | skip))
  conv => whnf
  refine CallVC.mk [] _ _ _ rfl rfl rfl (v1) (fun r m' h' => ?_)
  obtain ⟨e, rfl, rfl, he⟩ := h'
  conv => whnf
  cases he.2 hC
  repeat' ((conv => whnf); first | refine Rng.g ?_ | refine Ob.g ?_ | refine Ob.e ?_ | refine Ob.m ?_ | refine Ob.mk (Nat.le_of_ble_eq_true rfl) ?_ | refine JoinVC.on ?_ | refine Nils.mk (fun h => ?_) ?_ | refine Val.t ?_ | refine Val.d ?_ | refine Mm.mk ?_ | (refine Br.mk (fun h => ?_) (fun h => ?_) <;> first | (exfalso; omega; done) | (exfalso; simp at h; done) | skip))
  conv => whnf
  refine CallVC.mk [] _ _ _ rfl rfl rfl (v2) (fun r m' h' => ?_)
  obtain ⟨e, rfl, rfl, he'⟩ := h'
  conv => whnf
  cases he'.2 hP
  repeat' ((conv => whnf); first | refine Rng.g ?_ | refine Ob.g ?_ | refine Ob.e ?_ | refine Ob.m ?_ | refine Ob.mk (Nat.le_of_ble_eq_true rfl) ?_ | refine JoinVC.on ?_ | refine Nils.mk (fun h => ?_) ?_ | refine Val.t ?_ | refine Val.d ?_ | refine Mm.mk ?_ | (refine Br.mk (fun h => ?_) (fun h => ?_) <;> first | (exfalso; omega; done) | (exfalso; simp at h; done) | skip))
  repeat refine Mm.mk ?_
  conv => whnf
  refine EndVC.mk _ rfl _ _ (.inr ⟨hC, hP, rfl, rfl⟩) ?_
  refine ⟨[some 1], rfl, rfl, ?_, ?_⟩ <;> repeat' (first | exact trivial | exact rfl | exact Iff.rfl | apply And.intro)
/-! ### Greater radii are milder -/
def Trk.at (t : Trk) (r : Int) : Trk := ⟨t.c, t.p, r, t.per⟩
theorem arcF_mono {r q per : Int} (h0 : 0 ≤ r) (h : r ≤ q) (hp : 1 ≤ per) : arcF r per ≤ arcF q per := by
  unfold arcF
  refine Int.ediv_le_ediv (Int.mul_pos (by omega) (by omega)) ?_
  exact Int.mul_le_mul (by omega) (by omega) (by omega) (by omega)
theorem brk_mono {t : Trk} (hc : CutOK t.c) (hp : 1 ≤ t.per) {r q : Int} (h0 : 0 ≤ r) (h : r ≤ q) (i : Nat) (b a : Bool) (k : Nat) (hb : brk (t.at q) i b a k) : brk (t.at r) i b a k := by
  have hs := hc.slope
  unfold brk at hb ⊢
  match k with
  | 0 => exact hb
  | 1 => exact hb
  | 2 => exact hb
  | 3 =>
    have : 710 * r * t.c.slope ≤ 710 * q * t.c.slope := Int.mul_le_mul_of_nonneg_right (by omega) hs.1
    simp only [Trk.at] at hb ⊢
    omega
  | 4 => exact hb
  | 5 =>
    have := arcF_mono h0 h hp
    simp only [Trk.at] at hb ⊢
    omega
  | _ + 6 => exact hb
theorem ruleF_0 (t : Trk) (i : Nat) (b a : Bool) : ruleF t i b a = 0 ↔ ¬ brk t i b a 1 ∧ ¬ brk t i b a 2 ∧ ¬ brk t i b a 3 ∧ ¬ brk t i b a 4 ∧ ¬ brk t i b a 5 := by
  unfold ruleF
  repeat' split
  all_goals simp_all
def pN (t : Trk) (i : Nat) (r : Int) : Prop := ruleAt (t.at r) i = 0
instance (t : Trk) (i : Nat) (r : Int) : Decidable (pN t i r) := by unfold pN; exact inferInstance
def pL (t : Trk) (r : Int) : Prop := ∀ j, j < t.p.length → pN t j r
open Classical in
noncomputable instance (t : Trk) (r : Int) : Decidable (pL t r) := propDecidable _
theorem pN.mono {t : Trk} (hc : CutOK t.c) (hp : 1 ≤ t.per) {i : Nat} {r q : Int} (h0 : 0 ≤ r) (h : r ≤ q) (hn : pN t i r) : pN t i q := by
  unfold pN ruleAt at hn ⊢
  rw [ruleF_0] at hn ⊢
  obtain ⟨h1, h2, h3, h4, h5⟩ := hn
  exact ⟨fun hb => h1 (brk_mono hc hp h0 h _ _ _ _ hb), fun hb => h2 (brk_mono hc hp h0 h _ _ _ _ hb), fun hb => h3 (brk_mono hc hp h0 h _ _ _ _ hb), fun hb => h4 (brk_mono hc hp h0 h _ _ _ _ hb), fun hb => h5 (brk_mono hc hp h0 h _ _ _ _ hb)⟩
theorem pL.mono {t : Trk} (hc : CutOK t.c) (hp : 1 ≤ t.per) {r q : Int} (h0 : 0 ≤ r) (h : r ≤ q) (hn : pL t r) : pL t q := fun j hj => (hn j hj).mono hc hp h0 h
theorem FaultIs.zero {t : Trk} {i : Nat} {x : Int} (h : FaultIs t i x) : x = 0 ↔ pL t t.r := by
  constructor
  · intro h0 j hj
    exact (h.none h0).2 j hj
  · intro hp
    refine Classical.byContradiction fun h0 => ?_
    obtain ⟨h1, h2, _⟩ := h.some h0
    exact h0 (h2.trans (hp i h1))
/-! ### The least radius of a groove -/
theorem s115 (t : Trk) (ht : TrkOK t) : HSpec Tryz.prog 115 [.one (.ptr 0 0)] [.box 214 [.ptr 1 0], bTk t] (fun r m' => r = xP (pL t t.r) ∧ m' = [some (.box 214 [.ptr 1 0]), some (bTk t)]) := by
  refine spec_of pMix (O := []) Tryz.func115 (c := bodyOf Tryz.f115) rfl (by kernel_rfl) (by kernel_rfl) Tryz.ntmps115 (res := [.tmp 1]) (by kernel_rfl) ?_
  repeat' ((conv => whnf); first | refine Rng.g ?_ | refine Ob.g ?_ | refine Ob.e ?_ | refine Ob.m ?_ | refine Ob.mk (Nat.le_of_ble_eq_true rfl) ?_ | refine JoinVC.on ?_ | refine Nils.mk (fun h => ?_) ?_ | refine Val.t ?_ | refine Val.d ?_ | refine Mm.mk ?_ | (refine Br.mk (fun h => ?_) (fun h => ?_) <;> first | (exfalso; omega; done) | (exfalso; simp at h; done) | skip))
  conv => whnf
  refine CallVC.mk [] _ _ _ rfl rfl rfl (s116 t ht) (fun r m' h' => ?_)
  obtain ⟨i, x, hF, rfl, rfl⟩ := h'
  conv => whnf
  repeat' ((conv => whnf); first | refine Rng.g ?_ | refine Ob.g ?_ | refine Ob.e ?_ | refine Ob.m ?_ | refine Ob.mk (Nat.le_of_ble_eq_true rfl) ?_ | refine JoinVC.on ?_ | refine Nils.mk (fun h => ?_) ?_ | refine Val.t ?_ | refine Val.d ?_ | refine Mm.mk ?_ | (refine Br.mk (fun h => ?_) (fun h => ?_) <;> first | (exfalso; omega; done) | (exfalso; simp at h; done) | skip))
  repeat refine Mm.mk ?_
  refine EndVC.mk _ rfl _ _ ⟨rfl, rfl⟩ ?_
  refine ⟨[some 0, some 1], rfl, rfl, ?_, ?_⟩ <;> repeat' (first | exact trivial | exact rfl | exact Iff.rfl | apply And.intro)
  all_goals exact hF.zero
theorem s207 (t : Trk) (r : Int) (ht : TrkOK (t.at r)) : HSpec Tryz.prog 207 [I r, .one (.ptr 0 0), .one (.ptr 1 0)] [.box 214 [.ptr 2 0], .box 33 [.fn 115 [(3, 0)]], bTk t, .box 214 [.ptr 2 0]] (fun x m' => x = xP (pL t r) ∧ m' = [some (.box 214 [.ptr 2 0]), some (.box 33 [.fn 115 [(3, 0)]]), some (bTk (t.at r)), some (.box 214 [.ptr 2 0])]) := by
  refine spec_of pMix (O := []) Tryz.func207 (c := bodyOf Tryz.f207) rfl (by kernel_rfl) (by kernel_rfl) Tryz.ntmps207 (res := [.tmp 4]) (by kernel_rfl) ?_
  repeat' ((conv => whnf); first | refine Rng.g ?_ | refine Ob.g ?_ | refine Ob.e ?_ | refine Ob.m ?_ | refine Ob.mk (Nat.le_of_ble_eq_true rfl) ?_ | refine JoinVC.on ?_ | refine Nils.mk (fun h => ?_) ?_ | refine Val.t ?_ | refine Val.d ?_ | refine Mm.mk ?_ | (refine Br.mk (fun h => ?_) (fun h => ?_) <;> first | (exfalso; omega; done) | (exfalso; simp at h; done) | skip))
  conv => whnf
  refine CallVC.mk [3, 2] _ _ _ rfl rfl rfl (s115 (t.at r) ht) (fun r m' h' => ?_)
  obtain ⟨rfl, rfl⟩ := h'
  conv => whnf
  repeat' ((conv => whnf); first | refine Rng.g ?_ | refine Ob.g ?_ | refine Ob.e ?_ | refine Ob.m ?_ | refine Ob.mk (Nat.le_of_ble_eq_true rfl) ?_ | refine JoinVC.on ?_ | refine Nils.mk (fun h => ?_) ?_ | refine Val.t ?_ | refine Val.d ?_ | refine Mm.mk ?_ | (refine Br.mk (fun h => ?_) (fun h => ?_) <;> first | (exfalso; omega; done) | (exfalso; simp at h; done) | skip))
  repeat refine Mm.mk ?_
  refine EndVC.mk _ rfl _ _ ⟨rfl, rfl⟩ ?_
  refine ⟨[some 0, some 1, some 2, some 3], rfl, rfl, ?_, ?_⟩ <;> repeat' (first | exact trivial | exact rfl | exact Iff.rfl | apply And.intro)
end Go.Sx

namespace Go.Sx
open Go Go.Proofs
set_option maxRecDepth 10000
set_option maxHeartbeats 4000000
theorem s206L (t : Trk) (r0 r : Int) (ht : TrkOK (t.at r)) : HSpec Tryz.prog 206 [I r, .one (.ptr 0 0)] [.box 213 [.fn 207 [(1, 0), (2, 0)]], .box 214 [.ptr 3 0], .box 33 [.fn 115 [(4, 0)]], bTk (t.at r0), .box 214 [.ptr 3 0]] (fun x m' => x = xP (pL t r) ∧ m' = [some (.box 213 [.fn 207 [(1, 0), (2, 0)]]), some (.box 214 [.ptr 3 0]), some (.box 33 [.fn 115 [(4, 0)]]), some (bTk (t.at r)), some (.box 214 [.ptr 3 0])]) := by
  refine spec_of pMix (O := []) Tryz.func206 (c := bodyOf Tryz.f206) rfl (by kernel_rfl) (by kernel_rfl) Tryz.ntmps206 (res := [.tmp 3]) (by kernel_rfl) ?_
  repeat' ((conv => whnf); first | refine Rng.g ?_ | refine Ob.g ?_ | refine Ob.e ?_ | refine Ob.m ?_ | refine Ob.mk (Nat.le_of_ble_eq_true rfl) ?_ | refine JoinVC.on ?_ | refine Nils.mk (fun h => ?_) ?_ | refine Val.t ?_ | refine Val.d ?_ | refine Mm.mk ?_ | (refine Br.mk (fun h => ?_) (fun h => ?_) <;> first | (exfalso; omega; done) | (exfalso; simp at h; done) | skip))
  conv => whnf
  refine CallVC.mk [1, 2, 3, 4] _ _ _ rfl rfl rfl (s207 (t.at r0) r ht) (fun r m' h' => ?_)
  obtain ⟨rfl, rfl⟩ := h'
  conv => whnf
  repeat' ((conv => whnf); first | refine Rng.g ?_ | refine Ob.g ?_ | refine Ob.e ?_ | refine Ob.m ?_ | refine Ob.mk (Nat.le_of_ble_eq_true rfl) ?_ | refine JoinVC.on ?_ | refine Nils.mk (fun h => ?_) ?_ | refine Val.t ?_ | refine Val.d ?_ | refine Mm.mk ?_ | (refine Br.mk (fun h => ?_) (fun h => ?_) <;> first | (exfalso; omega; done) | (exfalso; simp at h; done) | skip))
  repeat refine Mm.mk ?_
  refine EndVC.mk _ rfl _ _ ⟨rfl, rfl⟩ ?_
  refine ⟨[some 0, some 1, some 2, some 3, some 4], rfl, rfl, ?_, ?_⟩ <;> repeat' (first | exact trivial | exact rfl | exact Iff.rfl | apply And.intro)
theorem s136L (t : Trk) (r0 : Int) (ht : ∀ r, 0 ≤ r → r ≤ 4194304 → TrkOK (t.at r)) : HSpec Tryz.prog 136 [I 4194305, .one (.fn 206 [(0, 0)])] [.box 213 [.fn 207 [(1, 0), (2, 0)]], .box 214 [.ptr 3 0], .box 33 [.fn 115 [(4, 0)]], bTk (t.at r0), .box 214 [.ptr 3 0]] (fun x m' => ∃ k r', Least (pL t) 4194305 k ∧ x = .x (I k) ∧ m' = [some (.box 213 [.fn 207 [(1, 0), (2, 0)]]), some (.box 214 [.ptr 3 0]), some (.box 33 [.fn 115 [(4, 0)]]), some (bTk (t.at r')), some (.box 214 [.ptr 3 0])]) := by
  have hc : CutOK t.c := (ht 0 (by decide) (by decide)).c
  have hp : 1 ≤ t.per := (ht 0 (by decide) (by decide)).per.1
  refine spec_of pMix (O := []) Tryz.func136 (c := bodyOf Tryz.f136) rfl (by kernel_rfl) (by kernel_rfl) Tryz.ntmps136 (res := [.tmp 4]) (by kernel_rfl) ?_
  repeat' ((conv => whnf); first | refine Rng.g ?_ | refine Ob.g ?_ | refine Ob.e ?_ | refine Ob.m ?_ | refine Ob.mk (Nat.le_of_ble_eq_true rfl) ?_ | refine JoinVC.on ?_ | refine Nils.mk (fun h => ?_) ?_ | refine Val.t ?_ | refine Val.d ?_ | refine Mm.mk ?_ | (refine Br.mk (fun h => ?_) (fun h => ?_) <;> first | (exfalso; omega; done) | (exfalso; simp at h; done) | skip))
  refine LoopVC.mk (fun n st => ∃ (i' j r1 : Int), (0 ≤ i' ∧ i' ≤ j ∧ j ≤ 4194305) ∧ n = (j - i').toNat ∧ (∀ q, 0 ≤ q → q < i' → ¬ pL t q) ∧ (j < 4194305 → pL t j) ∧ st = ⟨5, envA 26 [(1, .x (.one (.fn 206 [(0, 0)]))), (5, .int .i64 i'), (6, .int .i64 j)], [some (.box 213 [.fn 207 [(1, 0), (2, 0)]]), some (.box 214 [.ptr 3 0]), some (.box 33 [.fn 115 [(4, 0)]]), some (bTk (t.at r1)), some (.box 214 [.ptr 3 0])]⟩) _ _ ⟨0, 4194305, r0, by omega, rfl, fun q h1 h2 => by omega, fun h1 => by omega, rfl⟩ ?_ ?_
  · refine ⟨[some 0, some 1, some 2, some 3, some 4], rfl, rfl, ?_, ?_⟩ <;> repeat' (first | exact trivial | exact rfl | exact Iff.rfl | apply And.intro)
  rintro n _ ⟨i', j, r1, hij, hn, hno, hyes, rfl⟩
  by_cases hlt : i' < j
  · obtain ⟨g, hg⟩ : ∃ g, g = (i' + j) / 2 := ⟨_, rfl⟩
    have h1 : i' ≤ g ∧ g < j := by omega
    repeat' ((conv => whnf); first | refine Rng.g ?_ | refine Ob.g ?_ | refine Ob.e ?_ | refine Ob.m ?_ | refine Ob.mk (Nat.le_of_ble_eq_true rfl) ?_ | refine JoinVC.on ?_ | refine Nils.mk (fun h => ?_) ?_ | refine Val.t ?_ | refine Val.d ?_ | refine Mm.mk ?_ | (refine Br.mk (fun h => ?_) (fun h => ?_) <;> first | (exfalso; omega; done) | (exfalso; simp at h; done) | skip))
    refine Val.mk g (by rw [hg]; rfl) ?_
    repeat' ((conv => whnf); first | refine Rng.g ?_ | refine Ob.g ?_ | refine Ob.e ?_ | refine Ob.m ?_ | refine Ob.mk (Nat.le_of_ble_eq_true rfl) ?_ | refine JoinVC.on ?_ | refine Nils.mk (fun h => ?_) ?_ | refine Val.t ?_ | refine Val.d ?_ | refine Mm.mk ?_ | (refine Br.mk (fun h => ?_) (fun h => ?_) <;> first | (exfalso; omega; done) | (exfalso; simp at h; done) | skip))
    conv => whnf
    refine CallVC.mk [0, 1, 2, 3, 4] _ _ _ rfl rfl rfl (s206L t r1 g (ht g (by omega) (by omega))) (fun r m' h' => ?_)
    obtain ⟨rfl, rfl⟩ := h'
    conv => whnf
    repeat' ((conv => whnf); first | refine Rng.g ?_ | refine Ob.g ?_ | refine Ob.e ?_ | refine Ob.m ?_ | refine Ob.mk (Nat.le_of_ble_eq_true rfl) ?_ | refine JoinVC.on ?_ | refine Nils.mk (fun h => ?_) ?_ | refine Val.t ?_ | refine Val.d ?_ | refine Mm.mk ?_ | (refine Br.mk (fun h => ?_) (fun h => ?_) <;> first | (exfalso; omega; done) | (exfalso; simp at h; done) | skip))
    · refine Back.mk (j - (g + 1)).toNat _ (by omega) ⟨g + 1, j, g, by omega, rfl, fun q h2 h3 h4 => h (h4.mono hc hp h2 (by omega)), hyes, rfl⟩ ?_
      refine ⟨[some 0, some 1, some 2, some 3, some 4], rfl, rfl, ?_, ?_⟩ <;> repeat' (first | exact trivial | exact rfl | exact Iff.rfl | apply And.intro)
    · refine Back.mk (g - i').toNat _ (by omega) ⟨i', g, g, by omega, rfl, hno, fun _ => Classical.not_not.1 h, rfl⟩ ?_
      refine ⟨[some 0, some 1, some 2, some 3, some 4], rfl, rfl, ?_, ?_⟩ <;> repeat' (first | exact trivial | exact rfl | exact Iff.rfl | apply And.intro)
  · repeat' ((conv => whnf); first | refine Rng.g ?_ | refine Ob.g ?_ | refine Ob.e ?_ | refine Ob.m ?_ | refine Ob.mk (Nat.le_of_ble_eq_true rfl) ?_ | refine JoinVC.on ?_ | refine Nils.mk (fun h => ?_) ?_ | refine Val.t ?_ | refine Val.d ?_ | refine Mm.mk ?_ | (refine Br.mk (fun h => ?_) (fun h => ?_) <;> first | (exfalso; omega; done) | (exfalso; simp at h; done) | skip))
    have e : i' = j := by omega
    subst e
    repeat refine Mm.mk ?_
    conv => whnf
    refine EndVC.mk _ rfl _ _ (⟨i', r1, ⟨by omega, hno, hyes⟩, rfl, rfl⟩) ?_
    refine ⟨[some 0, some 1, some 2, some 3, some 4], rfl, rfl, ?_, ?_⟩ <;> repeat' (first | exact trivial | exact rfl | exact Iff.rfl | apply And.intro)
theorem s109L (t : Trk) (r0 : Int) (ht : ∀ r, 0 ≤ r → r ≤ 4194304 → TrkOK (t.at r)) : HSpec Tryz.prog 109 [I 4194304, .one (.fn 207 [(0, 0), (1, 0)])] [.box 214 [.ptr 2 0], .box 33 [.fn 115 [(3, 0)]], bTk (t.at r0), .box 214 [.ptr 2 0]] (fun x m' => ∃ k r', Least (pL t) 4194305 k ∧ x = .x (I k) ∧ m' = [some (.box 214 [.ptr 2 0]), some (.box 33 [.fn 115 [(3, 0)]]), some (bTk (t.at r')), some (.box 214 [.ptr 2 0])]) := by
  refine spec_of pMix (O := []) Tryz.func109 (c := bodyOf Tryz.f109) rfl (by kernel_rfl) (by kernel_rfl) Tryz.ntmps109 (res := [.tmp 4]) (by kernel_rfl) ?_
  repeat' ((conv => whnf); first | refine Rng.g ?_ | refine Ob.g ?_ | refine Ob.e ?_ | refine Ob.m ?_ | refine Ob.mk (Nat.le_of_ble_eq_true rfl) ?_ | refine JoinVC.on ?_ | refine Nils.mk (fun h => ?_) ?_ | refine Val.t ?_ | refine Val.d ?_ | refine Mm.mk ?_ | (refine Br.mk (fun h => ?_) (fun h => ?_) <;> first | (exfalso; omega; done) | (exfalso; simp at h; done) | skip))
  conv => whnf
  refine CallVC.mk [4, 0, 1, 2, 3] _ _ _ rfl rfl rfl (s136L t r0 ht) (fun r m' h' => ?_)
  obtain ⟨k, r', hk, rfl, rfl⟩ := h'
  conv => whnf
  have hk1 := hk.rng
  repeat' ((conv => whnf); first | refine Rng.g ?_ | refine Ob.g ?_ | refine Ob.e ?_ | refine Ob.m ?_ | refine Ob.mk (Nat.le_of_ble_eq_true rfl) ?_ | refine JoinVC.on ?_ | refine Nils.mk (fun h => ?_) ?_ | refine Val.t ?_ | refine Val.d ?_ | refine Mm.mk ?_ | (refine Br.mk (fun h => ?_) (fun h => ?_) <;> first | (exfalso; omega; done) | (exfalso; simp at h; done) | skip))
  repeat refine Mm.mk ?_
  conv => whnf
  refine EndVC.mk _ rfl _ _ (⟨k, r', hk, rfl, rfl⟩) ?_
  refine ⟨[some 0, some 1, some 2, some 3], rfl, rfl, ?_, ?_⟩ <;> repeat' (first | exact trivial | exact rfl | exact Iff.rfl | apply And.intro)
theorem s114L (t : Trk) (per0 : Int) (ht : ∀ r, 0 ≤ r → r ≤ 4194304 → TrkOK (t.at r)) : HSpec Tryz.prog 114 [.one (.ptr 0 0), I t.per, .one (.fn 115 [(1, 0)])] [bTk ⟨t.c, t.p, t.r, per0⟩, .box 214 [.ptr 0 0]] (fun x m' => ∃ k r', Least (pL t) 4194305 k ∧ ((4194304 < k ∧ x = .tup [I 0, I 14]) ∨ (k ≤ 4194304 ∧ x = .tup [I k, I 0])) ∧ m' = [some (bTk (t.at r')), some (.box 214 [.ptr 0 0])]) := by
  refine spec_of pMix (O := []) Tryz.func114 (c := bodyOf Tryz.f114) rfl (by kernel_rfl) (by kernel_rfl) Tryz.ntmps114 (res := [.tmp 6, .tmp 7]) (by kernel_rfl) ?_
  repeat' ((conv => whnf); first | refine Rng.g ?_ | refine Ob.g ?_ | refine Ob.e ?_ | refine Ob.m ?_ | refine Ob.mk (Nat.le_of_ble_eq_true rfl) ?_ | refine JoinVC.on ?_ | refine Nils.mk (fun h => ?_) ?_ | refine Val.t ?_ | refine Val.d ?_ | refine Mm.mk ?_ | (refine Br.mk (fun h => ?_) (fun h => ?_) <;> first | (exfalso; omega; done) | (exfalso; simp at h; done) | skip))
  conv => whnf
  refine CallVC.mk [2, 3, 0, 1] _ _ _ rfl rfl rfl (s109L t t.r ht) (fun r m' h' => ?_)
  obtain ⟨k, r', hk, rfl, rfl⟩ := h'
  conv => whnf
  have hk1 := hk.rng
  repeat' ((conv => whnf); first | refine Rng.g ?_ | refine Ob.g ?_ | refine Ob.e ?_ | refine Ob.m ?_ | refine Ob.mk (Nat.le_of_ble_eq_true rfl) ?_ | refine JoinVC.on ?_ | refine Nils.mk (fun h => ?_) ?_ | refine Val.t ?_ | refine Val.d ?_ | refine Mm.mk ?_ | (refine Br.mk (fun h => ?_) (fun h => ?_) <;> first | (exfalso; omega; done) | (exfalso; simp at h; done) | skip))
  · repeat refine Mm.mk ?_
    conv => whnf
    refine EndVC.mk _ rfl _ _ (⟨k, r', hk, .inl ⟨by omega, rfl⟩, rfl⟩) ?_
    refine ⟨[some 0, some 1], rfl, rfl, ?_, ?_⟩ <;> repeat' (first | exact trivial | exact rfl | exact Iff.rfl | apply And.intro)
  · repeat refine Mm.mk ?_
    conv => whnf
    refine EndVC.mk _ rfl _ _ (⟨k, r', hk, .inr ⟨by omega, rfl⟩, rfl⟩) ?_
    refine ⟨[some 0, some 1], rfl, rfl, ?_, ?_⟩ <;> repeat' (first | exact trivial | exact rfl | exact Iff.rfl | apply And.intro)
theorem s129h (t : Trk) (i : Nat) (b a : Bool) (hl : t.p.length ≤ 4096) (hi : i < t.p.length) (hb : b = true ↔ 0 < i) (ha : a = true ↔ i + 1 < t.p.length) : HSpec Tryz.prog 129 [.one (.ptr 0 0), I (i : Int)] [bTk t] (fun r m' => r = .x (nrX t.p i b a) ∧ m' = [some (bTk t)]) := by
  have lp := smpA_len t.p
  cases b
  all_goals
    have hb' : ¬ 0 < i ∨ 0 < i := by omega
    cases a
    all_goals
      simp only [true_iff, reduceCtorEq, false_iff] at hb ha
      refine spec_of pMix (O := []) Tryz.func129 (c := bodyOf Tryz.f129) rfl (by kernel_rfl) (by kernel_rfl) Tryz.ntmps129 (res := [.cell 4 234]) (by kernel_rfl) ?_
      repeat' ((conv => whnf); first | refine Rng.g ?_ | refine Ob.g ?_ | refine Ob.e ?_ | refine Ob.m ?_ | refine Ob.mk (Nat.le_of_ble_eq_true rfl) ?_ | refine JoinVC.on ?_ | refine Nils.mk (fun h => ?_) ?_ | refine Val.t ?_ | refine Val.d ?_ | refine Mm.mk ?_ | (refine Br.mk (fun h => ?_) (fun h => ?_) <;> first | (exfalso; omega; done) | (exfalso; simp at h; done) | skip))
      repeat refine Mm.mk ?_
      refine EndVC.mk _ rfl _ _ ⟨rfl, rfl⟩ ?_
      refine ⟨[some 0], rfl, rfl, ?_, ?_⟩ <;> repeat' (first | exact trivial | exact rfl | exact Iff.rfl | apply And.intro)
  all_goals omega
theorem s127 (t : Trk) (ht : TrkOK t) (i : Nat) (hi : i < t.p.length) : HSpec Tryz.prog 127 [.one (.ptr 0 0), .one (.ptr 1 0)] [.box 214 [.ptr 2 0], .box 3 [.int .i64 (i : Int)], bTk t] (fun r m' => r = xP (pN t i t.r) ∧ m' = [some (.box 214 [.ptr 2 0]), some (.box 3 [.int .i64 (i : Int)]), some (bTk t)]) := by
  have c1 := s129h t i (bB i) (aB t.p i) ht.p.len hi decide_eq_true_iff decide_eq_true_iff
  have c2 := s128 t i (bB i) (aB t.p i) ht (ht.near hi)
  have e : pN t i t.r ↔ ruleF t i (bB i) (aB t.p i) = 0 := Iff.rfl
  obtain ⟨b, hb⟩ : ∃ b, bB i = b := ⟨_, rfl⟩
  obtain ⟨a, ha⟩ : ∃ a, aB t.p i = a := ⟨_, rfl⟩
  rw [hb, ha] at c1 c2 e
  cases b
  all_goals
    cases a
    all_goals
      refine spec_of pMix (O := [(1, ([], [⟨0, [], []⟩, ⟨1, [], []⟩, ⟨2, [], []⟩, ⟨3, [0], []⟩, ⟨4, [], []⟩, ⟨5, [], []⟩, ⟨6, [], []⟩]))]) Tryz.func127 (c := bodyOf Tryz.f127) rfl (by kernel_rfl) (by kernel_rfl) Tryz.ntmps127 (res := [.tmp 2]) (by kernel_rfl) ?_
      repeat' ((conv => whnf); first | refine Rng.g ?_ | refine Ob.g ?_ | refine Ob.e ?_ | refine Ob.m ?_ | refine Ob.mk (Nat.le_of_ble_eq_true rfl) ?_ | refine JoinVC.on ?_ | refine Nils.mk (fun h => ?_) ?_ | refine Val.t ?_ | refine Val.d ?_ | refine Mm.mk ?_ | (refine Br.mk (fun h => ?_) (fun h => ?_) <;> first | (exfalso; omega; done) | (exfalso; simp at h; done) | skip))
      conv => whnf
      refine CallVC0.on [2] _ _ _ rfl rfl rfl rfl (c1) (fun r m' h' => ?_)
      obtain ⟨rfl, rfl⟩ := h'
      conv => whnf
      repeat' ((conv => whnf); first | refine Rng.g ?_ | refine Ob.g ?_ | refine Ob.e ?_ | refine Ob.m ?_ | refine Ob.mk (Nat.le_of_ble_eq_true rfl) ?_ | refine JoinVC.on ?_ | refine Nils.mk (fun h => ?_) ?_ | refine Val.t ?_ | refine Val.d ?_ | refine Mm.mk ?_ | refine CallVC.pure rfl (c2) ?_ | refine CallVC0.pure rfl (c2) ?_ | (refine Br.mk (fun h => ?_) (fun h => ?_) <;> first | (exfalso; omega; done) | (exfalso; simp at h; done) | skip))
      repeat refine Mm.mk ?_
      refine EndVC.mk _ rfl _ _ ⟨rfl, rfl⟩ ?_
      refine ⟨[some 0, some 1, some 2], rfl, rfl, ?_, ?_⟩ <;> repeat' (first | exact trivial | exact rfl | exact Iff.rfl | apply And.intro)
      exact e.symm
theorem s207N (t : Trk) (r : Int) (i : Nat) (hi : i < t.p.length) (ht : TrkOK (t.at r)) : HSpec Tryz.prog 207 [I r, .one (.ptr 0 0), .one (.ptr 1 0)] [.box 214 [.ptr 2 0], .box 33 [.fn 127 [(3, 0), (4, 0)]], bTk t, .box 214 [.ptr 2 0], .box 3 [.int .i64 (i : Int)]] (fun x m' => x = xP (pN t i r) ∧ m' = [some (.box 214 [.ptr 2 0]), some (.box 33 [.fn 127 [(3, 0), (4, 0)]]), some (bTk (t.at r)), some (.box 214 [.ptr 2 0]), some (.box 3 [.int .i64 (i : Int)])]) := by
  refine spec_of pMix (O := []) Tryz.func207 (c := bodyOf Tryz.f207) rfl (by kernel_rfl) (by kernel_rfl) Tryz.ntmps207 (res := [.tmp 4]) (by kernel_rfl) ?_
  repeat' ((conv => whnf); first | refine Rng.g ?_ | refine Ob.g ?_ | refine Ob.e ?_ | refine Ob.m ?_ | refine Ob.mk (Nat.le_of_ble_eq_true rfl) ?_ | refine JoinVC.on ?_ | refine Nils.mk (fun h => ?_) ?_ | refine Val.t ?_ | refine Val.d ?_ | refine Mm.mk ?_ | (refine Br.mk (fun h => ?_) (fun h => ?_) <;> first | (exfalso; omega; done) | (exfalso; simp at h; done) | skip))
  conv => whnf
  refine CallVC.mk [3, 4, 2] _ _ _ rfl rfl rfl (s127 (t.at r) ht i hi) (fun r m' h' => ?_)
  obtain ⟨rfl, rfl⟩ := h'
  conv => whnf
  repeat' ((conv => whnf); first | refine Rng.g ?_ | refine Ob.g ?_ | refine Ob.e ?_ | refine Ob.m ?_ | refine Ob.mk (Nat.le_of_ble_eq_true rfl) ?_ | refine JoinVC.on ?_ | refine Nils.mk (fun h => ?_) ?_ | refine Val.t ?_ | refine Val.d ?_ | refine Mm.mk ?_ | (refine Br.mk (fun h => ?_) (fun h => ?_) <;> first | (exfalso; omega; done) | (exfalso; simp at h; done) | skip))
  repeat refine Mm.mk ?_
  refine EndVC.mk _ rfl _ _ ⟨rfl, rfl⟩ ?_
  refine ⟨[some 0, some 1, some 2, some 3, some 4], rfl, rfl, ?_, ?_⟩ <;> repeat' (first | exact trivial | exact rfl | exact Iff.rfl | apply And.intro)
theorem s206N (t : Trk) (r0 r : Int) (i : Nat) (hi : i < t.p.length) (ht : TrkOK (t.at r)) : HSpec Tryz.prog 206 [I r, .one (.ptr 0 0)] [.box 213 [.fn 207 [(1, 0), (2, 0)]], .box 214 [.ptr 3 0], .box 33 [.fn 127 [(4, 0), (5, 0)]], bTk (t.at r0), .box 214 [.ptr 3 0], .box 3 [.int .i64 (i : Int)]] (fun x m' => x = xP (pN t i r) ∧ m' = [some (.box 213 [.fn 207 [(1, 0), (2, 0)]]), some (.box 214 [.ptr 3 0]), some (.box 33 [.fn 127 [(4, 0), (5, 0)]]), some (bTk (t.at r)), some (.box 214 [.ptr 3 0]), some (.box 3 [.int .i64 (i : Int)])]) := by
  refine spec_of pMix (O := []) Tryz.func206 (c := bodyOf Tryz.f206) rfl (by kernel_rfl) (by kernel_rfl) Tryz.ntmps206 (res := [.tmp 3]) (by kernel_rfl) ?_
  repeat' ((conv => whnf); first | refine Rng.g ?_ | refine Ob.g ?_ | refine Ob.e ?_ | refine Ob.m ?_ | refine Ob.mk (Nat.le_of_ble_eq_true rfl) ?_ | refine JoinVC.on ?_ | refine Nils.mk (fun h => ?_) ?_ | refine Val.t ?_ | refine Val.d ?_ | refine Mm.mk ?_ | (refine Br.mk (fun h => ?_) (fun h => ?_) <;> first | (exfalso; omega; done) | (exfalso; simp at h; done) | skip))
  conv => whnf
  refine CallVC.mk [1, 2, 3, 4, 5] _ _ _ rfl rfl rfl (s207N (t.at r0) r i hi ht) (fun r m' h' => ?_)
  obtain ⟨rfl, rfl⟩ := h'
  conv => whnf
  repeat' ((conv => whnf); first | refine Rng.g ?_ | refine Ob.g ?_ | refine Ob.e ?_ | refine Ob.m ?_ | refine Ob.mk (Nat.le_of_ble_eq_true rfl) ?_ | refine JoinVC.on ?_ | refine Nils.mk (fun h => ?_) ?_ | refine Val.t ?_ | refine Val.d ?_ | refine Mm.mk ?_ | (refine Br.mk (fun h => ?_) (fun h => ?_) <;> first | (exfalso; omega; done) | (exfalso; simp at h; done) | skip))
  repeat refine Mm.mk ?_
  refine EndVC.mk _ rfl _ _ ⟨rfl, rfl⟩ ?_
  refine ⟨[some 0, some 1, some 2, some 3, some 4, some 5], rfl, rfl, ?_, ?_⟩ <;> repeat' (first | exact trivial | exact rfl | exact Iff.rfl | apply And.intro)
theorem s136N (t : Trk) (r0 : Int) (i : Nat) (hi : i < t.p.length) (ht : ∀ r, 0 ≤ r → r ≤ 4194304 → TrkOK (t.at r)) : HSpec Tryz.prog 136 [I 4194305, .one (.fn 206 [(0, 0)])] [.box 213 [.fn 207 [(1, 0), (2, 0)]], .box 214 [.ptr 3 0], .box 33 [.fn 127 [(4, 0), (5, 0)]], bTk (t.at r0), .box 214 [.ptr 3 0], .box 3 [.int .i64 (i : Int)]] (fun x m' => ∃ k r', Least (pN t i) 4194305 k ∧ x = .x (I k) ∧ m' = [some (.box 213 [.fn 207 [(1, 0), (2, 0)]]), some (.box 214 [.ptr 3 0]), some (.box 33 [.fn 127 [(4, 0), (5, 0)]]), some (bTk (t.at r')), some (.box 214 [.ptr 3 0]), some (.box 3 [.int .i64 (i : Int)])]) := by
  have hc : CutOK t.c := (ht 0 (by decide) (by decide)).c
  have hp : 1 ≤ t.per := (ht 0 (by decide) (by decide)).per.1
  refine spec_of pMix (O := []) Tryz.func136 (c := bodyOf Tryz.f136) rfl (by kernel_rfl) (by kernel_rfl) Tryz.ntmps136 (res := [.tmp 4]) (by kernel_rfl) ?_
  repeat' ((conv => whnf); first | refine Rng.g ?_ | refine Ob.g ?_ | refine Ob.e ?_ | refine Ob.m ?_ | refine Ob.mk (Nat.le_of_ble_eq_true rfl) ?_ | refine JoinVC.on ?_ | refine Nils.mk (fun h => ?_) ?_ | refine Val.t ?_ | refine Val.d ?_ | refine Mm.mk ?_ | (refine Br.mk (fun h => ?_) (fun h => ?_) <;> first | (exfalso; omega; done) | (exfalso; simp at h; done) | skip))
  refine LoopVC.mk (fun n st => ∃ (i' j r1 : Int), (0 ≤ i' ∧ i' ≤ j ∧ j ≤ 4194305) ∧ n = (j - i').toNat ∧ (∀ q, 0 ≤ q → q < i' → ¬ pN t i q) ∧ (j < 4194305 → pN t i j) ∧ st = ⟨6, envA 26 [(1, .x (.one (.fn 206 [(0, 0)]))), (5, .int .i64 i'), (6, .int .i64 j)], [some (.box 213 [.fn 207 [(1, 0), (2, 0)]]), some (.box 214 [.ptr 3 0]), some (.box 33 [.fn 127 [(4, 0), (5, 0)]]), some (bTk (t.at r1)), some (.box 214 [.ptr 3 0]), some (.box 3 [.int .i64 (i : Int)])]⟩) _ _ ⟨0, 4194305, r0, by omega, rfl, fun q h1 h2 => by omega, fun h1 => by omega, rfl⟩ ?_ ?_
  · refine ⟨[some 0, some 1, some 2, some 3, some 4, some 5], rfl, rfl, ?_, ?_⟩ <;> repeat' (first | exact trivial | exact rfl | exact Iff.rfl | apply And.intro)
  rintro n _ ⟨i', j, r1, hij, hn, hno, hyes, rfl⟩
  by_cases hlt : i' < j
  · obtain ⟨g, hg⟩ : ∃ g, g = (i' + j) / 2 := ⟨_, rfl⟩
    have h1 : i' ≤ g ∧ g < j := by omega
    repeat' ((conv => whnf); first | refine Rng.g ?_ | refine Ob.g ?_ | refine Ob.e ?_ | refine Ob.m ?_ | refine Ob.mk (Nat.le_of_ble_eq_true rfl) ?_ | refine JoinVC.on ?_ | refine Nils.mk (fun h => ?_) ?_ | refine Val.t ?_ | refine Val.d ?_ | refine Mm.mk ?_ | (refine Br.mk (fun h => ?_) (fun h => ?_) <;> first | (exfalso; omega; done) | (exfalso; simp at h; done) | skip))
    refine Val.mk g (by rw [hg]; rfl) ?_
    repeat' ((conv => whnf); first | refine Rng.g ?_ | refine Ob.g ?_ | refine Ob.e ?_ | refine Ob.m ?_ | refine Ob.mk (Nat.le_of_ble_eq_true rfl) ?_ | refine JoinVC.on ?_ | refine Nils.mk (fun h => ?_) ?_ | refine Val.t ?_ | refine Val.d ?_ | refine Mm.mk ?_ | (refine Br.mk (fun h => ?_) (fun h => ?_) <;> first | (exfalso; omega; done) | (exfalso; simp at h; done) | skip))
    conv => whnf
    refine CallVC.mk [0, 1, 2, 3, 4, 5] _ _ _ rfl rfl rfl (s206N t r1 g i hi (ht g (by omega) (by omega))) (fun r m' h' => ?_)
    obtain ⟨rfl, rfl⟩ := h'
    conv => whnf
    repeat' ((conv => whnf); first | refine Rng.g ?_ | refine Ob.g ?_ | refine Ob.e ?_ | refine Ob.m ?_ | refine Ob.mk (Nat.le_of_ble_eq_true rfl) ?_ | refine JoinVC.on ?_ | refine Nils.mk (fun h => ?_) ?_ | refine Val.t ?_ | refine Val.d ?_ | refine Mm.mk ?_ | (refine Br.mk (fun h => ?_) (fun h => ?_) <;> first | (exfalso; omega; done) | (exfalso; simp at h; done) | skip))
    · refine Back.mk (j - (g + 1)).toNat _ (by omega) ⟨g + 1, j, g, by omega, rfl, fun q h2 h3 h4 => h (h4.mono hc hp h2 (by omega)), hyes, rfl⟩ ?_
      refine ⟨[some 0, some 1, some 2, some 3, some 4, some 5], rfl, rfl, ?_, ?_⟩ <;> repeat' (first | exact trivial | exact rfl | exact Iff.rfl | apply And.intro)
    · refine Back.mk (g - i').toNat _ (by omega) ⟨i', g, g, by omega, rfl, hno, fun _ => Classical.not_not.1 h, rfl⟩ ?_
      refine ⟨[some 0, some 1, some 2, some 3, some 4, some 5], rfl, rfl, ?_, ?_⟩ <;> repeat' (first | exact trivial | exact rfl | exact Iff.rfl | apply And.intro)
  · repeat' ((conv => whnf); first | refine Rng.g ?_ | refine Ob.g ?_ | refine Ob.e ?_ | refine Ob.m ?_ | refine Ob.mk (Nat.le_of_ble_eq_true rfl) ?_ | refine JoinVC.on ?_ | refine Nils.mk (fun h => ?_) ?_ | refine Val.t ?_ | refine Val.d ?_ | refine Mm.mk ?_ | (refine Br.mk (fun h => ?_) (fun h => ?_) <;> first | (exfalso; omega; done) | (exfalso; simp at h; done) | skip))
    have e : i' = j := by omega
    subst e
    repeat refine Mm.mk ?_
    conv => whnf
    refine EndVC.mk _ rfl _ _ (⟨i', r1, ⟨by omega, hno, hyes⟩, rfl, rfl⟩) ?_
    refine ⟨[some 0, some 1, some 2, some 3, some 4, some 5], rfl, rfl, ?_, ?_⟩ <;> repeat' (first | exact trivial | exact rfl | exact Iff.rfl | apply And.intro)
theorem s109N (t : Trk) (r0 : Int) (i : Nat) (hi : i < t.p.length) (ht : ∀ r, 0 ≤ r → r ≤ 4194304 → TrkOK (t.at r)) : HSpec Tryz.prog 109 [I 4194304, .one (.fn 207 [(0, 0), (1, 0)])] [.box 214 [.ptr 2 0], .box 33 [.fn 127 [(3, 0), (4, 0)]], bTk (t.at r0), .box 214 [.ptr 2 0], .box 3 [.int .i64 (i : Int)]] (fun x m' => ∃ k r', Least (pN t i) 4194305 k ∧ x = .x (I k) ∧ m' = [some (.box 214 [.ptr 2 0]), some (.box 33 [.fn 127 [(3, 0), (4, 0)]]), some (bTk (t.at r')), some (.box 214 [.ptr 2 0]), some (.box 3 [.int .i64 (i : Int)])]) := by
  refine spec_of pMix (O := []) Tryz.func109 (c := bodyOf Tryz.f109) rfl (by kernel_rfl) (by kernel_rfl) Tryz.ntmps109 (res := [.tmp 4]) (by kernel_rfl) ?_
  repeat' ((conv => whnf); first | refine Rng.g ?_ | refine Ob.g ?_ | refine Ob.e ?_ | refine Ob.m ?_ | refine Ob.mk (Nat.le_of_ble_eq_true rfl) ?_ | refine JoinVC.on ?_ | refine Nils.mk (fun h => ?_) ?_ | refine Val.t ?_ | refine Val.d ?_ | refine Mm.mk ?_ | (refine Br.mk (fun h => ?_) (fun h => ?_) <;> first | (exfalso; omega; done) | (exfalso; simp at h; done) | skip))
  conv => whnf
  refine CallVC.mk [5, 0, 1, 2, 3, 4] _ _ _ rfl rfl rfl (s136N t r0 i hi ht) (fun r m' h' => ?_)
  obtain ⟨k, r', hk, rfl, rfl⟩ := h'
  conv => whnf
  have hk1 := hk.rng
  repeat' ((conv => whnf); first | refine Rng.g ?_ | refine Ob.g ?_ | refine Ob.e ?_ | refine Ob.m ?_ | refine Ob.mk (Nat.le_of_ble_eq_true rfl) ?_ | refine JoinVC.on ?_ | refine Nils.mk (fun h => ?_) ?_ | refine Val.t ?_ | refine Val.d ?_ | refine Mm.mk ?_ | (refine Br.mk (fun h => ?_) (fun h => ?_) <;> first | (exfalso; omega; done) | (exfalso; simp at h; done) | skip))
  repeat refine Mm.mk ?_
  conv => whnf
  refine EndVC.mk _ rfl _ _ (⟨k, r', hk, rfl, rfl⟩) ?_
  refine ⟨[some 0, some 1, some 2, some 3, some 4], rfl, rfl, ?_, ?_⟩ <;> repeat' (first | exact trivial | exact rfl | exact Iff.rfl | apply And.intro)
theorem s114N (t : Trk) (per0 : Int) (i : Nat) (hi : i < t.p.length) (ht : ∀ r, 0 ≤ r → r ≤ 4194304 → TrkOK (t.at r)) : HSpec Tryz.prog 114 [.one (.ptr 0 0), I t.per, .one (.fn 127 [(1, 0), (2, 0)])] [bTk ⟨t.c, t.p, t.r, per0⟩, .box 214 [.ptr 0 0], .box 3 [.int .i64 (i : Int)]] (fun x m' => ∃ k r', Least (pN t i) 4194305 k ∧ ((4194304 < k ∧ x = .tup [I 0, I 14]) ∨ (k ≤ 4194304 ∧ x = .tup [I k, I 0])) ∧ m' = [some (bTk (t.at r')), some (.box 214 [.ptr 0 0]), some (.box 3 [.int .i64 (i : Int)])]) := by
  refine spec_of pMix (O := []) Tryz.func114 (c := bodyOf Tryz.f114) rfl (by kernel_rfl) (by kernel_rfl) Tryz.ntmps114 (res := [.tmp 6, .tmp 7]) (by kernel_rfl) ?_
  repeat' ((conv => whnf); first | refine Rng.g ?_ | refine Ob.g ?_ | refine Ob.e ?_ | refine Ob.m ?_ | refine Ob.mk (Nat.le_of_ble_eq_true rfl) ?_ | refine JoinVC.on ?_ | refine Nils.mk (fun h => ?_) ?_ | refine Val.t ?_ | refine Val.d ?_ | refine Mm.mk ?_ | (refine Br.mk (fun h => ?_) (fun h => ?_) <;> first | (exfalso; omega; done) | (exfalso; simp at h; done) | skip))
  conv => whnf
  refine CallVC.mk [3, 4, 0, 1, 2] _ _ _ rfl rfl rfl (s109N t t.r i hi ht) (fun r m' h' => ?_)
  obtain ⟨k, r', hk, rfl, rfl⟩ := h'
  conv => whnf
  have hk1 := hk.rng
  repeat' ((conv => whnf); first | refine Rng.g ?_ | refine Ob.g ?_ | refine Ob.e ?_ | refine Ob.m ?_ | refine Ob.mk (Nat.le_of_ble_eq_true rfl) ?_ | refine JoinVC.on ?_ | refine Nils.mk (fun h => ?_) ?_ | refine Val.t ?_ | refine Val.d ?_ | refine Mm.mk ?_ | (refine Br.mk (fun h => ?_) (fun h => ?_) <;> first | (exfalso; omega; done) | (exfalso; simp at h; done) | skip))
  · repeat refine Mm.mk ?_
    conv => whnf
    refine EndVC.mk _ rfl _ _ (⟨k, r', hk, .inl ⟨by omega, rfl⟩, rfl⟩) ?_
    refine ⟨[some 0, some 1, some 2], rfl, rfl, ?_, ?_⟩ <;> repeat' (first | exact trivial | exact rfl | exact Iff.rfl | apply And.intro)
  · repeat refine Mm.mk ?_
    conv => whnf
    refine EndVC.mk _ rfl _ _ (⟨k, r', hk, .inr ⟨by omega, rfl⟩, rfl⟩) ?_
    refine ⟨[some 0, some 1, some 2], rfl, rfl, ?_, ?_⟩ <;> repeat' (first | exact trivial | exact rfl | exact Iff.rfl | apply And.intro)
end Go.Sx
