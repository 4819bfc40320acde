import Derived.Test.YthlebjnhcinheaaGreatDoorPrTopPitchedB
import Derived.Test.YthlebjnhcinheaaGreatDoorPrTopPitchedA
import Derived.Test.YthlebjnhcinheaaGreatDoorXc
namespace Go.Sx
open Go Go.Proofs
set_option maxRecDepth 10000
set_option maxHeartbeats 8000000
open Classical in
theorem s144 (f : Fmt) (l : List Sng) (O : List Int) (hf : FmtOK f) (hg : SngsOK l) (hO : InR O l.length) (hl : O.length ≤ 100) : HSpec Tryz.prog 144 [.one (.ptr 0 0), .one (.lst true [.int .i64] (i64s O))] [bPl f l] (fun r m' => r = xP (LayOK f l O) ∧ m' = [some (bPl f l)]) := by
  refine spec_of pMix (O := []) Tryz.func144 (c := bodyOf Tryz.f144) rfl (by kernel_rfl) (by kernel_rfl) Tryz.ntmps144 (res := [.tmp 4]) (by kernel_rfl) ?_
  repeat' ((conv => whnf); first | refine Rng.g ?_ | refine Ob.g ?_ | refine Ob.e ?_ | refine Ob.m ?_ | refine Ob.mk (Nat.le_of_ble_eq_true rfl) ?_ | refine JoinVC.on ?_ | refine Nils.mk (fun h => ?_) ?_ | refine Val.t ?_ | refine Val.d ?_ | refine Mm.mk ?_ | (refine Br.mk (fun h => ?_) (fun h => ?_) <;> first | (exfalso; omega; done) | (exfalso; simp at h; done) | skip))
  conv => whnf
  refine CallVC.mk [0] _ _ _ rfl rfl rfl (s146 f l O hf hg hO hl) (fun r m' h' => ?_)
  cases h' with
  | rule i hi h hn hr hm =>
    subst hr hm
    repeat' ((conv => whnf); first | refine Rng.g ?_ | refine Ob.g ?_ | refine Ob.e ?_ | refine Ob.m ?_ | refine Ob.mk (Nat.le_of_ble_eq_true rfl) ?_ | refine JoinVC.on ?_ | refine Nils.mk (fun h => ?_) ?_ | refine Val.t ?_ | refine Val.d ?_ | refine Mm.mk ?_ | (refine Br.mk (fun h => ?_) (fun h => ?_) <;> first | (exfalso; omega; done) | (exfalso; simp at h; done) | skip))
    repeat refine Mm.mk ?_
    refine EndVC.mk _ rfl _ _ ⟨rfl, rfl⟩ ?_
    refine ⟨[some 0], rfl, rfl, ?_, ?_⟩ <;> repeat' (first | exact trivial | exact rfl | exact Iff.rfl | apply And.intro)
    show _ ↔ _
    exact ⟨fun h1 => absurd h1 (by decide), fun h1 => absurd (h1.1 i hi) hn⟩
  | limit h hn hr hm =>
    subst hr hm
    repeat' ((conv => whnf); first | refine Rng.g ?_ | refine Ob.g ?_ | refine Ob.e ?_ | refine Ob.m ?_ | refine Ob.mk (Nat.le_of_ble_eq_true rfl) ?_ | refine JoinVC.on ?_ | refine Nils.mk (fun h => ?_) ?_ | refine Val.t ?_ | refine Val.d ?_ | refine Mm.mk ?_ | (refine Br.mk (fun h => ?_) (fun h => ?_) <;> first | (exfalso; omega; done) | (exfalso; simp at h; done) | skip))
    repeat refine Mm.mk ?_
    refine EndVC.mk _ rfl _ _ ⟨rfl, rfl⟩ ?_
    refine ⟨[some 0], rfl, rfl, ?_, ?_⟩ <;> repeat' (first | exact trivial | exact rfl | exact Iff.rfl | apply And.intro)
    show _ ↔ _
    exact ⟨fun h1 => absurd h1 (by decide), fun h1 => absurd h1 hn⟩
  | ok h hr hm =>
    subst hr hm
    repeat' ((conv => whnf); first | refine Rng.g ?_ | refine Ob.g ?_ | refine Ob.e ?_ | refine Ob.m ?_ | refine Ob.mk (Nat.le_of_ble_eq_true rfl) ?_ | refine JoinVC.on ?_ | refine Nils.mk (fun h => ?_) ?_ | refine Val.t ?_ | refine Val.d ?_ | refine Mm.mk ?_ | (refine Br.mk (fun h => ?_) (fun h => ?_) <;> first | (exfalso; omega; done) | (exfalso; simp at h; done) | skip))
    repeat refine Mm.mk ?_
    refine EndVC.mk _ rfl _ _ ⟨rfl, rfl⟩ ?_
    refine ⟨[some 0], rfl, rfl, ?_, ?_⟩ <;> repeat' (first | exact trivial | exact rfl | exact Iff.rfl | apply And.intro)
    show _ ↔ _
    exact ⟨fun _ => h, fun _ => rfl⟩
inductive ArRs (f : Fmt) (l : List Sng) (r : AV) (m' : List (Option Blk)) : Prop
  | bad (e : Int) (h : ¬ (FmtOK f ∧ SngsOK l)) (he : e ≠ 0) (hr : r = .tup [.one .nils, I e]) (hm : m' = [])
  | none (hf : FmtOK f) (hg : SngsOK l) (hn : ¬ LayOK f l (allO l)) (hr : r = .tup [.one .nils, I 15]) (hm : m' = [])
  | ok (hf : FmtOK f) (hg : SngsOK l) (h : LayOK f l (allO l)) (hr : r = .tup [.one (.own 0), I 0]) (hm : m' = [some (rowOd (allO l))])
theorem allO_in (l : List Sng) : InR (allO l) l.length := fun i hi => (allO_idx l).rng i (by rw [(allO_idx l).len] at hi; exact hi)
theorem s59 (f : Fmt) (l : List Sng) (hI : f.nm.size ≤ 140737488355328) (hl : l.length ≤ 12) : HSpec Tryz.prog 59 [f.x, lSng l] [] (ArRs f l) := by
  refine spec_of pMix (O := []) Tryz.func59 (c := bodyOf Tryz.f59) rfl (by kernel_rfl) (by kernel_rfl) Tryz.ntmps59 (res := [.tmp 4, .tmp 5]) (by kernel_rfl) ?_
  repeat' ((conv => whnf); first | refine Rng.g ?_ | refine Ob.g ?_ | refine Ob.e ?_ | refine Ob.m ?_ | refine Ob.mk (Nat.le_of_ble_eq_true rfl) ?_ | refine JoinVC.on ?_ | refine Nils.mk (fun h => ?_) ?_ | refine Val.t ?_ | refine Val.d ?_ | refine Mm.mk ?_ | (refine Br.mk (fun h => ?_) (fun h => ?_) <;> first | (exfalso; omega; done) | (exfalso; simp at h; done) | skip))
  conv => whnf
  refine CallVC.mk [] _ _ _ rfl rfl rfl (s138 f l hI) (fun r m' h' => ?_)
  rcases h' with ⟨e, hn, he, rfl, rfl⟩ | ⟨hf, hg, rfl, rfl⟩
  · repeat' ((conv => whnf); first | refine Rng.g ?_ | refine Ob.g ?_ | refine Ob.e ?_ | refine Ob.m ?_ | refine Ob.mk (Nat.le_of_ble_eq_true rfl) ?_ | refine JoinVC.on ?_ | refine Nils.mk (fun h => ?_) ?_ | refine Val.t ?_ | refine Val.d ?_ | refine Mm.mk ?_ | (refine Br.mk (fun h => ?_) (fun h => ?_) <;> first | (exfalso; omega; done) | (exfalso; simp at h; done) | skip))
    repeat refine Mm.mk ?_
    conv => whnf
    refine EndVC.mk _ rfl _ _ (.bad e hn he rfl rfl) ?_
    refine ⟨[], rfl, rfl, ?_, ?_⟩ <;> repeat' (first | exact trivial | exact rfl | exact Iff.rfl | apply And.intro)
  · repeat' ((conv => whnf); first | refine Rng.g ?_ | refine Ob.g ?_ | refine Ob.e ?_ | refine Ob.m ?_ | refine Ob.mk (Nat.le_of_ble_eq_true rfl) ?_ | refine JoinVC.on ?_ | refine Nils.mk (fun h => ?_) ?_ | refine Val.t ?_ | refine Val.d ?_ | refine Mm.mk ?_ | (refine Br.mk (fun h => ?_) (fun h => ?_) <;> first | (exfalso; omega; done) | (exfalso; simp at h; done) | skip))
    conv => whnf
    refine CallVC.mk [1] _ _ _ rfl rfl rfl (s143 f l hl) (fun r m' h' => ?_)
    obtain ⟨rfl, rfl⟩ := h'
    conv => whnf
    repeat' ((conv => whnf); first | refine Rng.g ?_ | refine Ob.g ?_ | refine Ob.e ?_ | refine Ob.m ?_ | refine Ob.mk (Nat.le_of_ble_eq_true rfl) ?_ | refine JoinVC.on ?_ | refine Nils.mk (fun h => ?_) ?_ | refine Val.t ?_ | refine Val.d ?_ | refine Mm.mk ?_ | (refine Br.mk (fun h => ?_) (fun h => ?_) <;> first | (exfalso; omega; done) | (exfalso; simp at h; done) | skip))
    conv => whnf
    refine CallVC.mk [1] _ _ _ rfl rfl rfl (s144 f l (allO l) hf hg (allO_in l) (by rw [(allO_idx l).len]; omega)) (fun r m' h' => ?_)
    obtain ⟨rfl, rfl⟩ := h'
    conv => whnf
    repeat' ((conv => whnf); first | refine Rng.g ?_ | refine Ob.g ?_ | refine Ob.e ?_ | refine Ob.m ?_ | refine Ob.mk (Nat.le_of_ble_eq_true rfl) ?_ | refine JoinVC.on ?_ | refine Nils.mk (fun h => ?_) ?_ | refine Val.t ?_ | refine Val.d ?_ | refine Mm.mk ?_ | (refine Br.mk (fun h => ?_) (fun h => ?_) <;> first | (exfalso; omega; done) | (exfalso; simp at h; done) | skip))
    · repeat refine Mm.mk ?_
      conv => whnf
      refine EndVC.mk _ rfl _ _ (.ok hf hg h rfl rfl) ?_
      refine ⟨[some 2], rfl, rfl, ?_, ?_⟩ <;> repeat' (first | exact trivial | exact rfl | exact Iff.rfl | apply And.intro)
    · repeat refine Mm.mk ?_
      conv => whnf
      refine EndVC.mk _ rfl _ _ (.none hf hg h rfl rfl) ?_
      refine ⟨[], rfl, rfl, ?_, ?_⟩ <;> repeat' (first | exact trivial | exact rfl | exact Iff.rfl | apply And.intro)
/-! ### An order is laid -/
theorem s232 (xs : List Int) (v : Int) (hl : xs.length ≤ 1000000) (hn : ∀ j, j < xs.length → xs.getD j 0 ≠ v) : PSpec Tryz.prog 232 [.one (.lst true [.int .i64] (i64s xs)), I v] (.x (I (-1))) := by
  have lo := i64s_len xs
  refine spec_of pMix (O := []) Tryz.func232 (c := bodyOf Tryz.f232) rfl (by kernel_rfl) (by kernel_rfl) Tryz.ntmps232 (res := [.tmp 4]) (by kernel_rfl) ?_
  repeat' ((conv => whnf); first | refine Rng.g ?_ | refine Ob.g ?_ | refine Ob.e ?_ | refine Ob.m ?_ | refine Ob.mk (Nat.le_of_ble_eq_true rfl) ?_ | refine JoinVC.on ?_ | refine Nils.mk (fun h => ?_) ?_ | refine Val.t ?_ | refine Val.d ?_ | refine Mm.mk ?_ | (refine Br.mk (fun h => ?_) (fun h => ?_) <;> first | (exfalso; omega; done) | (exfalso; simp at h; done) | skip))
  refine LoopVC.mk (fun n st => ∃ (i : Nat), i ≤ xs.length ∧ n = xs.length - i ∧ st = ⟨0, envA 19 [(0, .x (.one (.lst true [.int .i64] (i64s xs)))), (1, .x (I v)), (6, .x (.one (.lst true [.int .i64] (i64s xs)))), (7, .int .i64 (xs.length : Int)), (8, .int .i64 (i : Int))], []⟩) _ _ ⟨0, Nat.zero_le _, rfl, rfl⟩ ?_ ?_
  · refine ⟨[], rfl, rfl, ?_, ?_⟩ <;> repeat' (first | exact trivial | exact rfl | exact Iff.rfl | apply And.intro)
    all_goals exact congrArg Int.ofNat lo
  rintro n _ ⟨i, hi, hm, rfl⟩
  have gi : rI (i64s xs) (i : Int).toNat 0 = xs.getD i 0 := by rw [Int.toNat_natCast]; exact i64s_get xs i
  by_cases hi' : i < xs.length
  · have hni := hn i hi'
    repeat' ((conv => whnf); first | rw [gi] | refine Rng.g ?_ | refine Ob.g ?_ | refine Ob.e ?_ | refine Ob.m ?_ | refine Ob.mk (Nat.le_of_ble_eq_true rfl) ?_ | refine JoinVC.on ?_ | refine Nils.mk (fun h => ?_) ?_ | refine Val.t ?_ | refine Val.d ?_ | refine Mm.mk ?_ | (refine Br.mk (fun h => ?_) (fun h => ?_) <;> first | (exfalso; omega; done) | (exfalso; simp at h; done) | skip))
    refine Back.mk (xs.length - (i + 1)) _ (by omega) ⟨i + 1, by omega, rfl, rfl⟩ ?_
    refine ⟨[], rfl, rfl, ?_, ?_⟩ <;> repeat' (first | exact trivial | exact rfl | exact Iff.rfl | apply And.intro)
  · repeat' ((conv => whnf); first | refine Rng.g ?_ | refine Ob.g ?_ | refine Ob.e ?_ | refine Ob.m ?_ | refine Ob.mk (Nat.le_of_ble_eq_true rfl) ?_ | refine JoinVC.on ?_ | refine Nils.mk (fun h => ?_) ?_ | refine Val.t ?_ | refine Val.d ?_ | refine Mm.mk ?_ | (refine Br.mk (fun h => ?_) (fun h => ?_) <;> first | (exfalso; omega; done) | (exfalso; simp at h; done) | skip))
    repeat refine Mm.mk ?_
    refine EndVC.mk _ rfl _ _ ⟨rfl, rfl⟩ ?_
    refine ⟨[], rfl, rfl, ?_, ?_⟩ <;> repeat' (first | exact trivial | exact rfl | exact Iff.rfl | apply And.intro)
open Classical in
theorem s145 (xs : List Int) (v : Int) (hl : xs.length ≤ 1000000) (hn : ∀ j, j < xs.length → xs.getD j 0 ≠ v) : PSpec Tryz.prog 145 [.one (.lst true [.int .i64] (i64s xs)), I v] (xP False) := by
  refine spec_of pMix (O := []) Tryz.func145 (c := bodyOf Tryz.f145) rfl (by kernel_rfl) (by kernel_rfl) Tryz.ntmps145 (res := [.tmp 4]) (by kernel_rfl) ?_
  repeat' ((conv => whnf); first | refine Rng.g ?_ | refine Ob.g ?_ | refine Ob.e ?_ | refine Ob.m ?_ | refine Ob.mk (Nat.le_of_ble_eq_true rfl) ?_ | refine JoinVC.on ?_ | refine Nils.mk (fun h => ?_) ?_ | refine Val.t ?_ | refine Val.d ?_ | refine Mm.mk ?_ | refine CallVC.pure rfl (s232 xs v hl hn) ?_ | refine CallVC0.pure rfl (s232 xs v hl hn) ?_ | (refine Br.mk (fun h => ?_) (fun h => ?_) <;> first | (exfalso; omega; done) | (exfalso; simp at h; done) | skip))
  repeat refine Mm.mk ?_
  refine EndVC.mk _ rfl _ _ ⟨rfl, rfl⟩ ?_
  refine ⟨[], rfl, rfl, ?_, ?_⟩ <;> repeat' (first | exact trivial | exact rfl | exact Iff.rfl | apply And.intro)
  show _ ↔ _
  exact ⟨fun h => absurd h (by decide), fun h => h.elim⟩
inductive LaRs (f : Fmt) (l : List Sng) (O : List Int) (r : AV) (m' : List (Option Blk)) : Prop
  | rule (i : Nat) (hi : i < O.length) (h : ∀ j, j < i → okAt f l O j) (hn : ¬ okAt f l O i) (hr : r = .tup [.one .nils, I (i : Int), I 20]) (hm : m' = [])
  | limit (h : ∀ j, j < O.length → okAt f l O j) (hn : ¬ LayOK f l O) (hr : r = .tup [.one .nils, I (O.length : Int), I 14]) (hm : m' = [])
  | ok (h : LayOK f l O) (hr : r = .tup [.one (.own 0), I (O.length : Int), I 0]) (hm : m' = [some (rowB (bndA f l O O.length))])
theorem i64s_take (xs : List Int) (k : Nat) : (i64s xs).take k = i64s (xs.take k) := by simp [i64s]
theorem s60 (f : Fmt) (l : List Sng) (O : List Int) (hf : FmtOK f) (hg : SngsOK l) (hO : InR O l.length) (hl : O.length ≤ 100) (hd : ∀ i j, i < O.length → j < O.length → O.getD i 0 = O.getD j 0 → i = j) : HSpec Tryz.prog 60 [f.x, lSng l, .one (.lst true [.int .i64] (i64s O))] [] (LaRs f l O) := by
  have lo := i64s_len O
  have lg := sngA_len l
  have hI : f.nm.size ≤ 140737488355328 := by have := hf.nm.2.1; omega
  refine spec_of pMix (O := []) Tryz.func60 (c := bodyOf Tryz.f60) rfl (by kernel_rfl) (by kernel_rfl) Tryz.ntmps60 (res := [.tmp 6, .tmp 7, .tmp 8]) (by kernel_rfl) ?_
  repeat' ((conv => whnf); first | refine Rng.g ?_ | refine Ob.g ?_ | refine Ob.e ?_ | refine Ob.m ?_ | refine Ob.mk (Nat.le_of_ble_eq_true rfl) ?_ | refine JoinVC.on ?_ | refine Nils.mk (fun h => ?_) ?_ | refine Val.t ?_ | refine Val.d ?_ | refine Mm.mk ?_ | (refine Br.mk (fun h => ?_) (fun h => ?_) <;> first | (exfalso; omega; done) | (exfalso; simp at h; done) | skip))
  conv => whnf
  refine CallVC.mk [] _ _ _ rfl rfl rfl (s138 f l hI) (fun r m' h' => ?_)
  rcases h' with ⟨e, hn, he, rfl, rfl⟩ | ⟨_, _, rfl, rfl⟩
  · exact absurd ⟨hf, hg⟩ hn
  repeat' ((conv => whnf); first | refine Rng.g ?_ | refine Ob.g ?_ | refine Ob.e ?_ | refine Ob.m ?_ | refine Ob.mk (Nat.le_of_ble_eq_true rfl) ?_ | refine JoinVC.on ?_ | refine Nils.mk (fun h => ?_) ?_ | refine Val.t ?_ | refine Val.d ?_ | refine Mm.mk ?_ | (refine Br.mk (fun h => ?_) (fun h => ?_) <;> first | (exfalso; omega; done) | (exfalso; simp at h; done) | skip))
  refine LoopVC.mk (fun n st => ∃ (i : Nat), i ≤ O.length ∧ n = O.length - i ∧ st = ⟨0, envA 51 [(1, .x (lSng l)), (2, .x (.one (.lst true [.int .i64] (i64s O)))), (9, .x (.one (.ptr 0 0))), (22, .x (.one (.lst true [.int .i64] (i64s O)))), (23, .int .i64 (O.length : Int)), (24, .int .i64 (i : Int))], [some (bPl f l)]⟩) _ _ ⟨0, Nat.zero_le _, rfl, rfl⟩ ?_ ?_
  · refine ⟨[some 1], rfl, rfl, ?_, ?_⟩ <;> repeat' (first | exact trivial | exact rfl | exact Iff.rfl | apply And.intro)
    all_goals exact congrArg Int.ofNat lo
  rintro n _ ⟨i, hi, hm, rfl⟩
  have gi : rI (i64s O) (i : Int).toNat 0 = O.getD i 0 := by rw [Int.toNat_natCast]; exact i64s_get O i
  by_cases hi' : i < O.length
  · have hr := hO i hi'
    have cc : PSpec Tryz.prog 145 [.one (.lst true [.int .i64] ((i64s O).take (i : Int).toNat)), I (O.getD i 0)] (xP False) := by
      rw [i64s_take, Int.toNat_natCast]
      refine s145 (O.take i) _ (by rw [List.length_take]; omega) (fun j hj e => ?_)
      rw [List.length_take] at hj
      have e2 : (O.take i).getD j 0 = O.getD j 0 := by simp [List.getD_eq_getElem?_getD, show j < i by omega]
      rw [e2] at e
      have := hd j i (by omega) hi' e
      omega
    repeat' ((conv => whnf); first | rw [gi] | refine Rng.g ?_ | refine Ob.g ?_ | refine Ob.e ?_ | refine Ob.m ?_ | refine Ob.mk (Nat.le_of_ble_eq_true rfl) ?_ | refine JoinVC.on ?_ | refine Nils.mk (fun h => ?_) ?_ | refine Val.t ?_ | refine Val.d ?_ | refine Mm.mk ?_ | refine CallVC.pure rfl (cc) ?_ | refine CallVC0.pure rfl (cc) ?_ | (refine Br.mk (fun h => ?_) (fun h => ?_) <;> first | (exfalso; omega; done) | (exfalso; simp at h; done) | skip))
    refine Back.mk (O.length - (i + 1)) _ (by omega) ⟨i + 1, by omega, rfl, rfl⟩ ?_
    refine ⟨[some 0], rfl, rfl, ?_, ?_⟩ <;> repeat' (first | exact trivial | exact rfl | exact Iff.rfl | apply And.intro)
  · repeat' ((conv => whnf); first | refine Rng.g ?_ | refine Ob.g ?_ | refine Ob.e ?_ | refine Ob.m ?_ | refine Ob.mk (Nat.le_of_ble_eq_true rfl) ?_ | refine JoinVC.on ?_ | refine Nils.mk (fun h => ?_) ?_ | refine Val.t ?_ | refine Val.d ?_ | refine Mm.mk ?_ | (refine Br.mk (fun h => ?_) (fun h => ?_) <;> first | (exfalso; omega; done) | (exfalso; simp at h; done) | skip))
    conv => whnf
    refine CallVC.mk [0] _ _ _ rfl rfl rfl (s146 f l O hf hg hO hl) (fun r m' h' => ?_)
    cases h' with
    | rule i hi h hn hr hm =>
      subst hr hm
      repeat' ((conv => whnf); first | refine Rng.g ?_ | refine Ob.g ?_ | refine Ob.e ?_ | refine Ob.m ?_ | refine Ob.mk (Nat.le_of_ble_eq_true rfl) ?_ | refine JoinVC.on ?_ | refine Nils.mk (fun h => ?_) ?_ | refine Val.t ?_ | refine Val.d ?_ | refine Mm.mk ?_ | (refine Br.mk (fun h => ?_) (fun h => ?_) <;> first | (exfalso; omega; done) | (exfalso; simp at h; done) | skip))
      repeat refine Mm.mk ?_
      conv => whnf
      refine EndVC.mk _ rfl _ _ (.rule i hi h hn rfl rfl) ?_
      refine ⟨[], rfl, rfl, ?_, ?_⟩ <;> repeat' (first | exact trivial | exact rfl | exact Iff.rfl | apply And.intro)
    | limit h hn hr hm =>
      subst hr hm
      repeat' ((conv => whnf); first | refine Rng.g ?_ | refine Ob.g ?_ | refine Ob.e ?_ | refine Ob.m ?_ | refine Ob.mk (Nat.le_of_ble_eq_true rfl) ?_ | refine JoinVC.on ?_ | refine Nils.mk (fun h => ?_) ?_ | refine Val.t ?_ | refine Val.d ?_ | refine Mm.mk ?_ | (refine Br.mk (fun h => ?_) (fun h => ?_) <;> first | (exfalso; omega; done) | (exfalso; simp at h; done) | skip))
      repeat refine Mm.mk ?_
      conv => whnf
      refine EndVC.mk _ rfl _ _ (.limit h hn rfl rfl) ?_
      refine ⟨[], rfl, rfl, ?_, ?_⟩ <;> repeat' (first | exact trivial | exact rfl | exact Iff.rfl | apply And.intro)
    | ok h hr hm =>
      subst hr hm
      repeat' ((conv => whnf); first | refine Rng.g ?_ | refine Ob.g ?_ | refine Ob.e ?_ | refine Ob.m ?_ | refine Ob.mk (Nat.le_of_ble_eq_true rfl) ?_ | refine JoinVC.on ?_ | refine Nils.mk (fun h => ?_) ?_ | refine Val.t ?_ | refine Val.d ?_ | refine Mm.mk ?_ | (refine Br.mk (fun h => ?_) (fun h => ?_) <;> first | (exfalso; omega; done) | (exfalso; simp at h; done) | skip))
      repeat refine Mm.mk ?_
      conv => whnf
      refine EndVC.mk _ rfl _ _ (.ok h rfl rfl) ?_
      refine ⟨[some 1], rfl, rfl, ?_, ?_⟩ <;> repeat' (first | exact trivial | exact rfl | exact Iff.rfl | apply And.intro)
/-! ### The example -/
def f4 : Fmt := ⟨⟨#[102]⟩, 1000, 400, 10, 20, 10, 30, 5⟩
def l4 : List Sng := [⟨95, 20, 500⟩, ⟨30, 40, 800⟩, ⟨41, 10, 0⟩]
theorem f4_name : nameOK ⟨#[102]⟩ := ⟨by decide, by decide, fun j hj => by
  have : j = 0 := by
    have : j < 1 := hj
    omega
  subst this
  exact .inl (by decide)⟩
theorem f4_ok : FmtOK f4 := ⟨f4_name, by decide, by decide, by decide, by decide, by decide, by decide, by decide⟩
theorem l4_ok : SngsOK l4 := ⟨by decide, fun j hj => by
  have hc : j = 0 ∨ j = 1 ∨ j = 2 := by
    have : j < 3 := hj
    omega
  rcases hc with rfl | rfl | rfl <;> (unfold Sng.ok; decide)⟩
theorem allO4 : allO l4 = [1, 0, 2] := by decide
theorem lay4 : LayOK f4 l4 (allO l4) := by
  rw [allO4]
  refine ⟨fun i hi => ?_, by decide⟩
  have hc : i = 0 ∨ i = 1 ∨ i = 2 := by
    have : i < 3 := hi
    omega
  rcases hc with rfl | rfl | rfl <;> (unfold okAt; decide)
theorem s57 : PSpec Tryz.prog 57 [] (xP True) := by
  have hw := s25
  refine spec_of pMix (O := []) Tryz.func57 (c := bodyOf Tryz.f57) rfl (by kernel_rfl) (by kernel_rfl) Tryz.ntmps57 (res := [.tmp 0]) (by kernel_rfl) ?_
  repeat' ((conv => whnf); first | refine Rng.g ?_ | refine Ob.g ?_ | refine Ob.e ?_ | refine Ob.m ?_ | refine Ob.mk (Nat.le_of_ble_eq_true rfl) ?_ | refine JoinVC.on ?_ | refine Nils.mk (fun h => ?_) ?_ | refine Val.t ?_ | refine Val.d ?_ | refine Mm.mk ?_ | (refine Br.mk (fun h => ?_) (fun h => ?_) <;> first | (exfalso; omega; done) | (exfalso; simp at h; done) | skip))
  conv => whnf
  refine CallVC.mk [] _ _ _ rfl rfl rfl (s59 f4 l4 (by decide) (by decide)) (fun r m' h' => ?_)
  cases h' with
  | bad e h he hr hm => exact absurd ⟨f4_ok, l4_ok⟩ h
  | none _ _ hN hr hm => exact absurd lay4 hN
  | ok _ _ _ hr hm =>
    subst hr hm
    rw [allO4]
    repeat' ((conv => whnf); first | refine Rng.g ?_ | refine Ob.g ?_ | refine Ob.e ?_ | refine Ob.m ?_ | refine Ob.mk (Nat.le_of_ble_eq_true rfl) ?_ | refine JoinVC.on ?_ | refine Nils.mk (fun h => ?_) ?_ | refine Val.t ?_ | refine Val.d ?_ | refine Mm.mk ?_ | (refine Br.mk (fun h => ?_) (fun h => ?_) <;> first | (exfalso; omega; done) | (exfalso; simp at h; done) | skip))
    conv => whnf
    refine CallVC.mk [] _ _ _ rfl rfl rfl (s54 f4 ⟨95, 20, 500⟩ (by decide)) (fun r m' h' => ?_)
    cases h' with
    | bad e h he hr hm => exact absurd ⟨f4_ok, (by unfold Sng.ok; decide)⟩ h
    | ok _ _ hr hm =>
      subst hr hm
      have ew : widF f4 ⟨95, 20, 500⟩ = 200 := by decide
      have g0 : rI (i64s [1, 0, 2]) (Int.toNat 0) 0 = 1 := rfl
      have g3 : ((i64s [1, 0, 2]).length : Int) = 3 := rfl
      rw [ew]
      repeat' ((conv => whnf); first | rw [g0] | refine Rng.g ?_ | refine Ob.g ?_ | refine Ob.e ?_ | refine Ob.m ?_ | refine Ob.mk (Nat.le_of_ble_eq_true rfl) ?_ | refine JoinVC.on ?_ | refine Nils.mk (fun h => ?_) ?_ | refine Val.t ?_ | refine Val.d ?_ | refine Mm.mk ?_ | refine CallVC.pure rfl (hw) ?_ | refine CallVC0.pure rfl (hw) ?_ | (refine Br.mk (fun h => ?_) (fun h => ?_) <;> first | (exfalso; omega; done) | (exfalso; simp at h; done) | skip))
      all_goals
        repeat refine Mm.mk ?_
        refine EndVC.mk _ rfl _ _ ⟨rfl, rfl⟩ ?_
        refine ⟨[], rfl, rfl, ?_, ?_⟩ <;> repeat' (first | exact trivial | exact rfl | exact Iff.rfl | apply And.intro)
end Go.Sx

namespace Go.Sx
open Go Go.Proofs
set_option maxRecDepth 10000
set_option maxHeartbeats 16000000
/-! ### The breadth of a groove -/
structure Brd (p : List Smp) (k : Nat) (mo mi : Int) : Prop where
  all : ∀ j, j < k → (p.getD j s0).r ≤ mo ∧ mi ≤ (p.getD j s0).l
  out : ∃ j, j < p.length ∧ mo = (p.getD j s0).r
  inn : ∃ j, j < p.length ∧ mi = (p.getD j s0).l
theorem s74 (p : List Smp) (la : Int) (hp : PtsOK p) (h0 : 0 < p.length) (hla : 0 ≤ la ∧ la ≤ 65535) : HSpec Tryz.prog 74 [lS p, I la] [] (fun r m' => ∃ mo mi, Brd p p.length mo mi ∧ r = .x (I (mo - mi + la)) ∧ m' = []) := by
  have lp := smpA_len p
  have hlp := hp.len
  have a0 : rI (smpA p) (Int.toNat 0) (0 + 0) = (p.getD 0 s0).l := smpA_l p 0
  have a1 : rI (smpA p) (Int.toNat 0) (0 + (0 + 1)) = (p.getD 0 s0).r := smpA_r p 0
  refine spec_of pMix (O := []) Tryz.func74 (c := bodyOf Tryz.f74) rfl (by kernel_rfl) (by kernel_rfl) Tryz.ntmps74 (res := [.tmp 4]) (by kernel_rfl) ?_
  repeat' ((conv => whnf); first | rw [a0] | rw [a1] | refine Rng.g ?_ | refine Ob.g ?_ | refine Ob.e ?_ | refine Ob.m ?_ | refine Ob.mk (Nat.le_of_ble_eq_true rfl) ?_ | refine JoinVC.on ?_ | refine Nils.mk (fun h => ?_) ?_ | refine Val.t ?_ | refine Val.d ?_ | refine Mm.mk ?_ | (refine Br.mk (fun h => ?_) (fun h => ?_) <;> first | (exfalso; omega; done) | (exfalso; simp at h; done) | skip))
  refine LoopVC.mk (fun n st => ∃ (i : Nat) (mo mi : Int), i ≤ p.length ∧ n = p.length - i ∧ Brd p i mo mi ∧ st = ⟨0, envA 44 [(0, .x (lS p)), (1, .x (I la)), (5, .int .i64 mo), (6, .int .i64 mi), (7, .int .i64 (i : Int))], []⟩) _ _ ⟨0, (p.getD 0 s0).r, (p.getD 0 s0).l, Nat.zero_le _, rfl, ⟨fun j hj => absurd hj (Nat.not_lt_zero j), ⟨0, h0, rfl⟩, ⟨0, h0, rfl⟩⟩, rfl⟩ ?_ ?_
  · refine ⟨[], rfl, rfl, ?_, ?_⟩ <;> repeat' (first | exact trivial | exact rfl | exact Iff.rfl | apply And.intro)
  rintro n _ ⟨i, mo, mi, hi, hn, hB, rfl⟩
  have g0 : rI (smpA p) (i : Int).toNat (0 + 0) = (p.getD i s0).l := by rw [Int.toNat_natCast]; exact smpA_l p i
  have g1 : rI (smpA p) (i : Int).toNat (0 + (0 + 1)) = (p.getD i s0).r := by rw [Int.toNat_natCast]; exact smpA_r p i
  obtain ⟨jo, hjo, ho⟩ := hB.out
  obtain ⟨ji, hji, hin⟩ := hB.inn
  have e1 := hp.ptb.each jo hjo
  have e2 := hp.ptb.each ji hji
  by_cases hi' : i < p.length
  · repeat' ((conv => whnf); first | rw [g0] | rw [g1] | refine Rng.g ?_ | refine Ob.g ?_ | refine Ob.e ?_ | refine Ob.m ?_ | refine Ob.mk (Nat.le_of_ble_eq_true rfl) ?_ | refine JoinVC.on ?_ | refine Nils.mk (fun h => ?_) ?_ | refine Val.t ?_ | refine Val.d ?_ | (refine Br.mk (fun h => ?_) (fun h => ?_) <;> first | (exfalso; omega; done) | (exfalso; simp at h; done) | skip))
    conv => whnf
    refine Mm.nm (fun mo' hmo => ?_)
    repeat' ((conv => whnf); first | rw [g0] | rw [g1] | refine Rng.g ?_ | refine Ob.g ?_ | refine Ob.e ?_ | refine Ob.m ?_ | refine Ob.mk (Nat.le_of_ble_eq_true rfl) ?_ | refine JoinVC.on ?_ | refine Nils.mk (fun h => ?_) ?_ | refine Val.t ?_ | refine Val.d ?_ | (refine Br.mk (fun h => ?_) (fun h => ?_) <;> first | (exfalso; omega; done) | (exfalso; simp at h; done) | skip))
    conv => whnf
    refine Mm.nm (fun mi' hmi => ?_)
    have hB' : Brd p (i + 1) mo' mi' := by
      refine ⟨fun j hj => ?_, ?_, ?_⟩
      · have h1 : (p.getD i s0).r ≤ mo' ∧ mo ≤ mo' := by rw [hmo]; split <;> omega
        have h2 : mi' ≤ (p.getD i s0).l ∧ mi' ≤ mi := by rw [hmi]; split <;> omega
        rcases Nat.lt_succ_iff_lt_or_eq.1 hj with h' | rfl
        · have := hB.all j h'
          omega
        · omega
      · rw [hmo]
        split
        · exact ⟨i, hi', rfl⟩
        · exact hB.out
      · rw [hmi]
        split
        · exact ⟨i, hi', rfl⟩
        · exact hB.inn
    clear hmo hmi
    repeat' ((conv => whnf); first | refine Rng.g ?_ | refine Ob.g ?_ | refine Ob.e ?_ | refine Ob.m ?_ | refine Ob.mk (Nat.le_of_ble_eq_true rfl) ?_ | refine JoinVC.on ?_ | refine Nils.mk (fun h => ?_) ?_ | refine Val.t ?_ | refine Val.d ?_ | refine Mm.mk ?_ | (refine Br.mk (fun h => ?_) (fun h => ?_) <;> first | (exfalso; omega; done) | (exfalso; simp at h; done) | skip))
    refine Back.mk (p.length - (i + 1)) _ (by omega) ⟨i + 1, mo', mi', by omega, rfl, hB', rfl⟩ ?_
    refine ⟨[], rfl, rfl, ?_, ?_⟩ <;> repeat' (first | exact trivial | exact rfl | exact Iff.rfl | apply And.intro)
  · repeat' ((conv => whnf); first | refine Rng.g ?_ | refine Ob.g ?_ | refine Ob.e ?_ | refine Ob.m ?_ | refine Ob.mk (Nat.le_of_ble_eq_true rfl) ?_ | refine JoinVC.on ?_ | refine Nils.mk (fun h => ?_) ?_ | refine Val.t ?_ | refine Val.d ?_ | refine Mm.mk ?_ | (refine Br.mk (fun h => ?_) (fun h => ?_) <;> first | (exfalso; omega; done) | (exfalso; simp at h; done) | skip))
    repeat refine Mm.mk ?_
    conv => whnf
    refine EndVC.mk _ rfl _ _ (⟨mo, mi, ⟨fun j hj => hB.all j (by omega), hB.out, hB.inn⟩, rfl, rfl⟩) ?_
    refine ⟨[], rfl, rfl, ?_, ?_⟩ <;> repeat' (first | exact trivial | exact rfl | exact Iff.rfl | apply And.intro)
/-! ### A groove in its band -/
def plainL (outer most pitch per : Int) (n : Nat) : List Int := (List.range n).map (plainF outer most pitch per)
theorem plainL_len (o m q e : Int) (n : Nat) : (plainL o m q e n).length = n := by simp [plainL]
theorem plainL_get (o m q e : Int) (n j : Nat) (h : j < n) : (plainL o m q e n).getD j 0 = plainF o m q e j := by simp [plainL, List.getD_eq_getElem?_getD, List.getElem?_range h]
theorem plainL_succ (o m q e : Int) (n : Nat) : plainL o m q e (n + 1) = plainL o m q e n ++ [plainF o m q e n] := by simp [plainL, List.range_succ]
theorem Feas.congr {b : Blnk} {p : List Smp} {y z : Nat → Int} (h : Feas b p y) (hb : 1 ≤ b.per) (e : ∀ i, i < p.length → y i = z i) : Feas b p z := fun i hi => by
  obtain ⟨h1, h2, h3, h4⟩ := h i hi
  rw [e i hi] at h1 h2 h3 h4
  refine ⟨h1, h2, fun h0 => ?_, fun h0 => ?_⟩
  · have := h3 h0
    rw [e (i - 1) (by omega)] at this
    exact this
  · have := h4 h0
    rw [e ((i : Int) - b.per).toNat (by omega)] at this
    exact this
def fBand (outer per : Int) : Fmt := ⟨⟨#[102]⟩, outer, 0, per, 0, 0, 0, 0⟩
theorem s75 (p : List Smp) (pitch land outer per mo mi : Int) (hp : PtsOK p) (h0 : 0 < p.length) (h40 : p.length ≤ 40) (hpi : 1 ≤ pitch ∧ pitch ≤ 4096) (hla : 0 ≤ land ∧ land ≤ 65535) (hou : 1 ≤ outer ∧ outer ≤ 4194304) (hpe : 1 ≤ per ∧ per ≤ 16) (hB : ∀ j, j < p.length → (p.getD j s0).r ≤ mo ∧ mi ≤ (p.getD j s0).l) (hfit : mo - mi + land ≤ pitch) : PSpec Tryz.prog 75 [lS p, I pitch, I land, I outer, I per] (xP True) := by
  have lp := smpA_len p
  have hf : FmtOK (fBand outer per) := ⟨f4_name, by simp only [fBand]; omega, by simp only [fBand]; omega, by simp only [fBand]; omega, by simp only [fBand]; omega, by simp only [fBand]; omega, by simp only [fBand]; omega, by simp only [fBand]; omega⟩
  have hg1 : Sng.ok ⟨(p.length : Int), pitch, 0⟩ := by unfold Sng.ok; simp only; omega
  have hg : SngsOK [⟨(p.length : Int), pitch, 0⟩] := (sngs1 _).2 hg1
  have hO : InR [0] (List.length [(⟨(p.length : Int), pitch, 0⟩ : Sng)]) := fun i hi => by
    have : i = 0 := by
      have : i < 1 := hi
      omega
    subst this
    exact ⟨by decide, by show (0 : Int) < ((1 : Nat) : Int); decide⟩
  have hd : ∀ i j, i < List.length [(0 : Int)] → j < List.length [(0 : Int)] → [(0 : Int)].getD i 0 = [(0 : Int)].getD j 0 → i = j := fun i j hi hj _ => by
    have h1 : i < 1 := hi
    have h2 : j < 1 := hj
    omega
  obtain ⟨w1, w2⟩ := wid_bd (f := fBand outer per) hf.per.1 hg1
  obtain ⟨W, hW⟩ : ∃ W, ((p.length : Int) + per - 1) / per = W := ⟨_, rfl⟩
  have ew : widF (fBand outer per) ⟨(p.length : Int), pitch, 0⟩ = pitch * W := by rw [← hW]; rfl
  rw [ew] at w2
  have w1' : 1 ≤ W ∧ W ≤ 16777216 := by rw [← hW]; exact w1
  have ea0 : atF (fBand outer per) [⟨(p.length : Int), pitch, 0⟩] [0] 0 = outer := by show outer - 0 = outer; omega
  have ea1 : atF (fBand outer per) [⟨(p.length : Int), pitch, 0⟩] [0] 1 = outer - pitch * W := by
    show (outer - 0) - 0 - widF (fBand outer per) ⟨(p.length : Int), pitch, 0⟩ = _
    rw [ew]; omega
  have eok : okAt (fBand outer per) [⟨(p.length : Int), pitch, 0⟩] [0] 0 ↔ 0 ≤ outer - pitch * W := by
    unfold okAt
    rw [ea1]
    exact Iff.rfl
  have hmo := hB 0 h0
  have hp0 := hp.ptb.each 0 h0
  have eper : (fBand outer per).per = per := rfl
  have mulE : pitch * W ≤ 4096 * 56 := by
    have h1 : W ≤ 56 := by
      rw [← hW]
      have : ((p.length : Int) + per - 1) / per ≤ (p.length : Int) + per - 1 := Int.ediv_le_self _ (by omega)
      omega
    exact Int.mul_le_mul hpi.2 h1 (by omega) (by decide)
  refine spec_of pMix (O := [(9, ([12], [⟨0, [], []⟩, ⟨1, [], []⟩, ⟨2, [], []⟩, ⟨3, [], []⟩, ⟨4, [], []⟩, ⟨5, [], []⟩, ⟨6, [], []⟩, ⟨7, [], []⟩, ⟨8, [], []⟩, ⟨9, [], []⟩, ⟨10, [], []⟩, ⟨11, [], []⟩, ⟨12, [], []⟩, ⟨13, [], []⟩]))]) Tryz.func75 (c := bodyOf Tryz.f75) rfl (by kernel_rfl) (by kernel_rfl) Tryz.ntmps75 (res := [.tmp 10]) (by kernel_rfl) ?_
  repeat' ((conv => whnf); first | rw [lp] | refine Rng.g ?_ | refine Ob.g ?_ | refine Ob.e ?_ | refine Ob.m ?_ | refine Ob.mk (Nat.le_of_ble_eq_true rfl) ?_ | refine JoinVC.on ?_ | refine Nils.mk (fun h => ?_) ?_ | refine Val.t ?_ | refine Val.d ?_ | refine Mm.mk ?_ | (refine Br.mk (fun h => ?_) (fun h => ?_) <;> first | (exfalso; omega; done) | (exfalso; simp at h; done) | skip))
  conv => whnf
  refine CallVC.mk [] _ _ _ rfl rfl rfl (s60 (fBand outer per) [⟨(p.length : Int), pitch, 0⟩] [0] hf hg hO (by decide) hd) (fun r m' h' => ?_)
  cases h' with
  | rule i hi h hn hr hm =>
    have hi0 : i = 0 := by
      have : i < 1 := hi
      omega
    subst hi0
    have hneg : outer - pitch * W < 0 := by
      by_cases hh : 0 ≤ outer - pitch * W
      · exact absurd (eok.2 hh) hn
      · omega
    subst hr hm
    repeat' ((conv => whnf); first | rw [lp] | rw [hW] | refine Rng.g ?_ | refine Ob.g ?_ | refine Ob.e ?_ | refine Ob.m ?_ | refine Ob.mk (Nat.le_of_ble_eq_true rfl) ?_ | refine JoinVC.on ?_ | refine Nils.mk (fun h => ?_) ?_ | refine Val.t ?_ | refine Val.d ?_ | refine Mm.mk ?_ | (refine Br.mk (fun h => ?_) (fun h => ?_) <;> first | (exfalso; omega; done) | (exfalso; simp at h; done) | skip))
    repeat refine Mm.mk ?_
    refine EndVC.mk _ rfl _ _ ⟨rfl, rfl⟩ ?_
    refine ⟨[], rfl, rfl, ?_, ?_⟩ <;> repeat' (first | exact trivial | exact rfl | exact Iff.rfl | apply And.intro)
    exact ⟨fun _ => trivial, fun _ => rfl⟩
  | limit h hn hr hm =>
    refine absurd ⟨h, ?_⟩ hn
    have h1 := eok.1 (h 0 (by decide))
    show (0 : Int) ≤ atF (fBand outer per) [⟨(p.length : Int), pitch, 0⟩] [0] 1 - 0
    rw [ea1]
    omega
  | ok h hr hm =>
  have hpos := eok.1 (h.1 0 (by decide))
  subst hr hm
  have lb : (bndA (fBand outer per) [⟨(p.length : Int), pitch, 0⟩] [0] (List.length [(0 : Int)])).length = 1 := bndA_len _ _ _ _
  have gb1 : rI (bndA (fBand outer per) [⟨(p.length : Int), pitch, 0⟩] [0] (List.length [(0 : Int)])) (Int.toNat 0) (0 + (0 + 1)) = outer := by
    show atF (fBand outer per) [⟨(p.length : Int), pitch, 0⟩] [0] 0 - 0 = outer
    rw [ea0]; omega
  have gb2 : rI (bndA (fBand outer per) [⟨(p.length : Int), pitch, 0⟩] [0] (List.length [(0 : Int)])) (Int.toNat 0) (0 + (0 + 1 + 1)) = outer - pitch * W := ea1
  have hBl : BlnkOK ⟨per, outer, outer - pitch * W, land, 0, pitch⟩ := by constructor <;> simp only <;> omega
  repeat' ((conv => whnf); first | rw [lp] | rw [hW] | rw [gb1] | rw [gb2] | refine Rng.g ?_ | refine Ob.g ?_ | refine Ob.e ?_ | refine Ob.m ?_ | refine Ob.mk (Nat.le_of_ble_eq_true rfl) ?_ | refine JoinVC.on ?_ | refine Nils.mk (fun h => ?_) ?_ | refine Val.t ?_ | refine Val.d ?_ | refine Mm.mk ?_ | (refine Br.mk (fun h => ?_) (fun h => ?_) <;> first | (exfalso; omega; done) | (exfalso; simp at h; done) | skip))
  conv => whnf
  refine CallVC.mk [] _ _ _ rfl rfl rfl (s82 ⟨per, outer, outer - pitch * W, land, 0, pitch⟩ p) (fun r m' h' => ?_)
  have hFe := band_feas (p := p) (outer := outer) (most := mo) (least := mi) (pitch := pitch) (land := land) (per := per) hpe.1 (by omega) hla.1 hB hfit
  rw [hW] at hFe
  cases h' with
  | bad e h he hr hm => exact absurd ⟨hBl, hp⟩ h
  | none _ _ hN hr hm => exact absurd hFe (hN _)
  | ok _ _ R hR hr hm =>
  subst hr hm
  have lR := hR.len
  have lRi := i64s_len R
  have a1 : rI (smpA p) (Int.toNat 0) (0 + (0 + 1)) = (p.getD 0 s0).r := smpA_r p 0
  repeat' ((conv => whnf); first | rw [lp] | rw [a1] | refine Rng.g ?_ | refine Ob.g ?_ | refine Ob.e ?_ | refine Ob.m ?_ | refine Ob.mk (Nat.le_of_ble_eq_true rfl) ?_ | refine JoinVC.on ?_ | refine Nils.mk (fun h => ?_) ?_ | refine Val.t ?_ | refine Val.d ?_ | refine Mm.mk ?_ | (refine Br.mk (fun h => ?_) (fun h => ?_) <;> first | (exfalso; omega; done) | (exfalso; simp at h; done) | skip))
  refine LoopVC.mk (fun n st => ∃ (i : Nat) (mx : Int), i ≤ p.length ∧ n = p.length - i ∧ (∀ j, j < i → (p.getD j s0).r ≤ mx) ∧ (mx ≤ mo ∧ -4194304 ≤ mx ∧ mx ≤ 4194304) ∧ st = ⟨0, envA 167 [(0, .x (lS p)), (1, .x (I pitch)), (2, .x (I land)), (3, .x (I outer)), (4, .x (I per)), (17, .x (.one (.ptr 0 0))), (18, .x (.one (.own 1))), (19, .int .i64 mx), (20, .int .i64 (i : Int))], [some (bBl ⟨per, outer, outer - pitch * W, land, 0, pitch⟩), some (rowRd R)]⟩) _ _ ⟨0, (p.getD 0 s0).r, Nat.zero_le _, rfl, fun j hj => absurd hj (Nat.not_lt_zero j), ⟨hmo.1, hp0.2⟩, rfl⟩ ?_ ?_
  · refine ⟨[some 5, some 6], rfl, rfl, ?_, ?_⟩ <;> repeat' (first | exact trivial | exact rfl | exact Iff.rfl | apply And.intro)
  rintro n _ ⟨i, mx, hi, hn, hM, hmx, rfl⟩
  have g1 : rI (smpA p) (i : Int).toNat (0 + (0 + 1)) = (p.getD i s0).r := by rw [Int.toNat_natCast]; exact smpA_r p i
  by_cases hi' : i < p.length
  · have hBi := hB i hi'
    have hpi2 := hp.ptb.each i hi'
    repeat' ((conv => whnf); first | rw [g1] | refine Rng.g ?_ | refine Ob.g ?_ | refine Ob.e ?_ | refine Ob.m ?_ | refine Ob.mk (Nat.le_of_ble_eq_true rfl) ?_ | refine JoinVC.on ?_ | refine Nils.mk (fun h => ?_) ?_ | refine Val.t ?_ | refine Val.d ?_ | (refine Br.mk (fun h => ?_) (fun h => ?_) <;> first | (exfalso; omega; done) | (exfalso; simp at h; done) | skip))
    conv => whnf
    refine Mm.nm (fun m' hm' => ?_)
    have h1 : (p.getD i s0).r ≤ m' ∧ mx ≤ m' ∧ m' ≤ mo ∧ m' ≤ 4194304 := by rw [hm']; split <;> omega
    clear hm'
    repeat' ((conv => whnf); first | refine Rng.g ?_ | refine Ob.g ?_ | refine Ob.e ?_ | refine Ob.m ?_ | refine Ob.mk (Nat.le_of_ble_eq_true rfl) ?_ | refine JoinVC.on ?_ | refine Nils.mk (fun h => ?_) ?_ | refine Val.t ?_ | refine Val.d ?_ | refine Mm.mk ?_ | (refine Br.mk (fun h => ?_) (fun h => ?_) <;> first | (exfalso; omega; done) | (exfalso; simp at h; done) | skip))
    refine Back.mk (p.length - (i + 1)) _ (by omega) ⟨i + 1, m', by omega, rfl, fun j hj => ?_, by omega, rfl⟩ ?_
    · rcases Nat.lt_succ_iff_lt_or_eq.1 hj with h' | rfl
      · have := hM j h'
        omega
      · omega
    · refine ⟨[some 0, some 1], rfl, rfl, ?_, ?_⟩ <;> repeat' (first | exact trivial | exact rfl | exact Iff.rfl | apply And.intro)
  have ei : i = p.length := by omega
  subst ei
  have hF2 := band_feas (p := p) (outer := outer) (most := mx) (least := mi) (pitch := pitch) (land := land) (per := per) hpe.1 (by omega) hla.1 (fun j hj => ⟨hM j hj, (hB j hj).2⟩) (by omega)
  rw [hW] at hF2
  have hq : ∀ j, j < p.length → 0 ≤ pitch * ((j : Int) / per) ∧ pitch * ((j : Int) / per) ≤ 4096 * 40 := fun j hj => by
    have h1 : 0 ≤ (j : Int) / per := Int.ediv_nonneg (by omega) (by omega)
    have h2 : (j : Int) / per ≤ 40 := by
      have : (j : Int) / per ≤ j := Int.ediv_le_self _ (by omega)
      omega
    exact ⟨Int.mul_nonneg (by omega) h1, Int.mul_le_mul hpi.2 h2 h1 (by decide)⟩
  repeat' ((conv => whnf); first | refine Rng.g ?_ | refine Ob.g ?_ | refine Ob.e ?_ | refine Ob.m ?_ | refine Ob.mk (Nat.le_of_ble_eq_true rfl) ?_ | refine JoinVC.on ?_ | refine Nils.mk (fun h => ?_) ?_ | refine Val.t ?_ | refine Val.d ?_ | refine Mm.mk ?_ | (refine Br.mk (fun h => ?_) (fun h => ?_) <;> first | (exfalso; omega; done) | (exfalso; simp at h; done) | skip))
  refine LoopVC.mk (fun n st => ∃ (i : Nat), i ≤ p.length ∧ n = p.length - i ∧ st = ⟨0, envA 167 [(0, .x (lS p)), (1, .x (I pitch)), (2, .x (I land)), (3, .x (I outer)), (4, .x (I per)), (17, .x (.one (.ptr 0 0))), (18, .x (.one (.own 1))), (19, .int .i64 mx), (21, .x (.one (.own 2))), (22, .int .i64 (i : Int))], [some (bBl ⟨per, outer, outer - pitch * W, land, 0, pitch⟩), some (rowRd R), some (rowRd (plainL outer mx pitch per i))]⟩) _ _ ⟨0, Nat.zero_le _, rfl, rfl⟩ ?_ ?_
  · refine ⟨[some 0, some 1, none], rfl, rfl, ?_, ?_⟩ <;> repeat' (first | exact trivial | exact rfl | exact Iff.rfl | apply And.intro)
  rintro n _ ⟨i, hi, hn, rfl⟩
  have lpl : (i64s (plainL outer mx pitch per i)).length = i := by rw [i64s_len, plainL_len]
  by_cases hi' : i < p.length
  · have hqi := hq i hi'
    have hdi : 0 ≤ (i : Int) / per ∧ (i : Int) / per ≤ 40 := ⟨Int.ediv_nonneg (by omega) (by omega), Int.le_trans (Int.ediv_le_self _ (by omega)) (by omega)⟩
    have hbest : plainF outer mx pitch per i ≤ R.getD i 0 := hR.best _ hF2 i hi'
    unfold plainF at hbest
    have g2 : rI (i64s R) (i : Int).toNat 0 = R.getD i 0 := by rw [Int.toNat_natCast]; exact i64s_get R i
    have u1 : i64s (plainL outer mx pitch per i) ++ [[Cell.int (outer - mx - pitch * ((i : Int) / per))]] = i64s (plainL outer mx pitch per (i + 1)) := by rw [plainL_succ, i64s_snoc]; rfl
    have g3 : rI (i64s (plainL outer mx pitch per (i + 1))) (i : Int).toNat 0 = outer - mx - pitch * ((i : Int) / per) := by
      rw [Int.toNat_natCast]
      exact (i64s_get _ i).trans (plainL_get _ _ _ _ _ i (Nat.lt_succ_self i))
    have lpl2 : (i64s (plainL outer mx pitch per (i + 1))).length = i + 1 := by rw [i64s_len, plainL_len]
    repeat' ((conv => whnf); first | refine Rng.g ?_ | refine Ob.g ?_ | refine Ob.e ?_ | refine Ob.m ?_ | refine Ob.mk (Nat.le_of_ble_eq_true rfl) ?_ | refine JoinVC.on ?_ | refine Nils.mk (fun h => ?_) ?_ | refine Val.t ?_ | refine Val.d ?_ | refine Mm.mk ?_ | (refine Br.mk (fun h => ?_) (fun h => ?_) <;> first | (exfalso; omega; done) | (exfalso; simp at h; done) | skip))
    repeat refine Mm.mk ?_
    refine Ob.mk (by rw [eb2]; simp only [List.length_cons, List.length_nil]; omega) ?_
    repeat' ((conv => whnf); first | rw [u1] | rw [g2] | rw [g3] | refine Rng.g ?_ | refine Ob.g ?_ | refine Ob.e ?_ | refine Ob.m ?_ | refine Ob.mk (Nat.le_of_ble_eq_true rfl) ?_ | refine JoinVC.on ?_ | refine Nils.mk (fun h => ?_) ?_ | refine Val.t ?_ | refine Val.d ?_ | refine Mm.mk ?_ | (refine Br.mk (fun h => ?_) (fun h => ?_) <;> first | (exfalso; omega; done) | (exfalso; simp at h; done) | skip))
    refine Back.mk (p.length - (i + 1)) _ (by omega) ⟨i + 1, by omega, rfl, rfl⟩ ?_
    refine ⟨[some 0, some 1, some 4], rfl, rfl, ?_, ?_⟩ <;> repeat' (first | exact trivial | exact rfl | exact Iff.rfl | apply And.intro)
  have ei : i = p.length := by omega
  subst ei
  have hF3 : Feas ⟨per, outer, outer - pitch * W, land, 0, pitch⟩ p (fun j => (plainL outer mx pitch per p.length).getD j 0) := hF2.congr hpe.1 (fun j hj => (plainL_get _ _ _ _ _ j hj).symm)
  have hBd : ∀ j, j < (plainL outer mx pitch per p.length).length → -16777216 ≤ (plainL outer mx pitch per p.length).getD j 0 ∧ (plainL outer mx pitch per p.length).getD j 0 ≤ 16777216 := fun j hj => by
    rw [plainL_len] at hj
    rw [plainL_get _ _ _ _ _ j hj]
    have := hq j hj
    unfold plainF
    omega
  repeat' ((conv => whnf); first | refine Rng.g ?_ | refine Ob.g ?_ | refine Ob.e ?_ | refine Ob.m ?_ | refine Ob.mk (Nat.le_of_ble_eq_true rfl) ?_ | refine JoinVC.on ?_ | refine Nils.mk (fun h => ?_) ?_ | refine Val.t ?_ | refine Val.d ?_ | refine Mm.mk ?_ | (refine Br.mk (fun h => ?_) (fun h => ?_) <;> first | (exfalso; omega; done) | (exfalso; simp at h; done) | skip))
  conv => whnf
  refine CallVC.mk [] _ _ _ rfl rfl rfl (s160 ⟨per, outer, outer - pitch * W, land, 0, pitch⟩ p (plainL outer mx pitch per p.length) hBl hp (plainL_len _ _ _ _ _) hF3 hBd) (fun r m' h' => ?_)
  obtain ⟨rfl, rfl⟩ := h'
  conv => whnf
  repeat' ((conv => whnf); first | refine Rng.g ?_ | refine Ob.g ?_ | refine Ob.e ?_ | refine Ob.m ?_ | refine Ob.mk (Nat.le_of_ble_eq_true rfl) ?_ | refine JoinVC.on ?_ | refine Nils.mk (fun h => ?_) ?_ | refine Val.t ?_ | refine Val.d ?_ | refine Mm.mk ?_ | (refine Br.mk (fun h => ?_) (fun h => ?_) <;> first | (exfalso; omega; done) | (exfalso; simp at h; done) | skip))
  repeat refine Mm.mk ?_
  refine EndVC.mk _ rfl _ _ ⟨rfl, rfl⟩ ?_
  refine ⟨[], rfl, rfl, ?_, ?_⟩ <;> repeat' (first | exact trivial | exact rfl | exact Iff.rfl | apply And.intro)
  exact ⟨fun _ => trivial, fun _ => rfl⟩
end Go.Sx

namespace Go.Sx
open Go Go.Proofs
set_option maxRecDepth 10000
set_option maxHeartbeats 4000000
/-! ### What a chain makes can be undone -/
theorem Filt.inv {c : Crv} {m : Int} {xs ys : List Int} (h : Filt false c m xs ys) (hl : ys.length = xs.length) (hx : sigB m xs) : Filt true c m ys xs := by
  refine ⟨by omega, fun j hj => ⟨?_, fun hb => ?_⟩⟩
  · have h1 := (h.each j (by omega)).1
    have e1 : nextY false c xs ys j = xs.getD j 0 + corF c (xs.take j).reverse (ys.take j).reverse := rfl
    have e2 : nextY true c ys xs j = ys.getD j 0 - corF c (xs.take j).reverse (ys.take j).reverse := rfl
    rw [e1] at h1
    rw [e2]
    omega
  · have := hx j
    unfold bey at hb
    omega
theorem ChN.cons {u : Bool} {g : Nat → Crv} {x z : List Int} (h1 : Filt u (g 0) 32767 x z) (h2 : z.length = x.length) : ∀ {n : Nat} {a : List Int}, ChN u (fun i => g (i + 1)) z n a → ChN u g x (n + 1) a
  | 0, _, h => by cases h; exact ⟨x, rfl, h1, h2⟩
  | n + 1, _, ⟨w, hw, hf, hl⟩ => ⟨w, ChN.cons h1 h2 hw, hf, hl⟩
theorem ChN.inv {f : Nat → Crv} {a : List Int} (ha : sigB 32767 a) : ∀ {n : Nat} {x : List Int}, ChN false f a n x → ChN true (fun i => f (n - 1 - i)) x n a
  | 0, _, h => h.symm
  | n + 1, x, ⟨z, hz, hf, hl⟩ => by
    have h1 := hf.inv hl (hz.sig ha)
    have h2 := ChN.inv ha hz
    refine ChN.cons (z := z) (by simpa using h1) hl.symm ?_
    have e : (fun i => f (n + 1 - 1 - (i + 1))) = fun i => f (n - 1 - i) := by
      funext i
      rw [show n + 1 - 1 - (i + 1) = n - 1 - i by omega]
    rw [e]
    exact h2
theorem ChN.uniq {u : Bool} {f : Nat → Crv} {xs : List Int} : ∀ {n : Nat} {ys zs : List Int}, ChN u f xs n ys → ChN u f xs n zs → ys = zs
  | 0, _, _, h1, h2 => by rw [h1, h2]
  | n + 1, _, _, ⟨w, h1, h2, h3⟩, ⟨v, h4, h5, h6⟩ => by
    have e := ChN.uniq h1 h4
    subst e
    exact h2.same h5 h3 h6
theorem ChN.pre {u : Bool} {f : Nat → Crv} {xs : List Int} {i : Nat} : ∀ {n : Nat} {ys : List Int}, ChN u f xs n ys → i ≤ n → ∃ zs, ChN u f xs i zs
  | 0, ys, h, hi => by rw [show i = 0 by omega]; exact ⟨ys, h⟩
  | n + 1, ys, h, hi => by
    by_cases e : i = n + 1
    · rw [e]; exact ⟨ys, h⟩
    · obtain ⟨w, hw, _⟩ := h
      exact ChN.pre hw (by omega)
theorem ChN.no_far {u : Bool} {f : Nat → Crv} {xs ys : List Int} {n : Nat} (h : ChN u f xs n ys) (hf : FarN u f xs n) : False := by
  obtain ⟨i, zs, vs, hi, hc, hv, hl, hb⟩ := hf
  obtain ⟨ws, zs', hz, hw, hwl⟩ := h.pre (i := i + 1) (by omega)
  have e := hc.uniq hz
  subst e
  exact hv.no_far hl hb hw hwl
theorem ChN.back {L : List Crv} {a x : List Int} (ha : sigB 32767 a) (h : ChN false (atC false L) a L.length x) : ChN true (atC true L) x L.length a := h.inv ha
/-! ### A point is read as its sample -/
theorem ptF_edge {c : Cut} (hC : CutOK c) {s : Smp} (hs : s.ok) : edgeP (ptF c s) := by
  obtain ⟨h1, h2, h3, h4⟩ := hs
  have g1 := gain_rng hC ⟨h1, h2⟩
  have g2 := gain_rng hC ⟨h3, h4⟩
  have hh := hC.half
  unfold edgeP ptF
  simp only
  omega
end Go.Sx

namespace Go.Sx
open Go Go.Proofs
set_option maxRecDepth 10000
set_option maxHeartbeats 8000000
/-! ### Edges of a cut groove -/
theorem cut_ok {c : Cut} (hC : CutOK c) {s : List Smp} (hs : SmpsOK s) : PtsOK (cutF c s) := ⟨by rw [cutF_len]; exact hs.len, fun j hj => by
  rw [cutF_len] at hj
  rw [cutF_get c s j hj]
  exact ptF_edge hC (hs.each j hj)⟩
theorem Least.zero {p : Int → Prop} {n k : Int} (h : Least p n k) (h0 : p 0) : k = 0 := by
  have h1 := h.rng
  by_cases hk : k = 0
  · exact hk
  · exact absurd h0 (h.no 0 (Int.le_refl _) (by omega))
end Go.Sx

namespace Go.Sx
open Go Go.Proofs
set_option maxRecDepth 10000
set_option maxHeartbeats 8000000
end Go.Sx

namespace Go.Sx
open Go Go.Proofs
set_option maxRecDepth 10000
set_option maxHeartbeats 8000000
/-- A gain with which a sample keeps to a ceiling. -/
structure GainOK (c : Int) (s : Smp) (v : Int) : Prop where
  rng : 0 ≤ v ∧ v ≤ 256
  l : amt s.l * v ≤ 256 * (c + 1) - 1
  r : amt s.r * v ≤ 256 * (c + 1) - 1
theorem GainOK.less {c : Int} {s : Smp} {v u : Int} (h : GainOK c s v) (h0 : 0 ≤ u) (hu : u ≤ v) (hl : 0 ≤ amt s.l) (hr : 0 ≤ amt s.r) : GainOK c s u := by
  obtain ⟨h1, h2, h3⟩ := h
  have a := Int.mul_le_mul_of_nonneg_left hu hl
  have b := Int.mul_le_mul_of_nonneg_left hu hr
  exact ⟨by omega, by omega, by omega⟩
/-- Gains that are fair to their samples. -/
structure GainsOK (c : Int) (p : List Smp) (G : List Int) : Prop where
  len : G.length = p.length
  each : ∀ j, j < p.length → GainOK c (p.getD j s0) (G.getD j 0)
end Go.Sx

namespace Go.Sx
open Go Go.Proofs
set_option maxRecDepth 10000
set_option maxHeartbeats 8000000
theorem GainsOK.set {c : Int} {p : List Smp} {G : List Int} (h : GainsOK c p G) (hp : SmpsOK p) {i : Nat} (hi : i < p.length) {v : Int} (h0 : 0 ≤ v) (hv : v ≤ G.getD i 0) : GainsOK c p (G.set i v) := by
  refine ⟨by rw [List.length_set]; exact h.len, fun j hj => ?_⟩
  rw [getD_set' _ _ _ _ _ (by rw [h.len]; exact hi)]
  split
  · rename_i e
    subst e
    obtain ⟨k1, k2, k3, k4⟩ := hp.each i hi
    exact (h.each i hi).less h0 hv (amt_bd (B := 32767) ⟨k1, k2⟩).1 (amt_bd (B := 32767) ⟨k3, k4⟩).1
  · exact h.each j hj
end Go.Sx

namespace Go.Sx
open Go Go.Proofs
set_option maxRecDepth 10000
set_option maxHeartbeats 8000000
theorem s40 (n : Int) (hn : -1000000000000 ≤ n ∧ n ≤ 1000000000000) : PSpec Tryz.prog 40 [I n] (.x (I (amt n))) := by
  have h5 : (0 : Int) - n = -n := by omega
  refine spec_of pMix (O := []) Tryz.func40 (c := bodyOf Tryz.f40) rfl (by kernel_rfl) (by kernel_rfl) Tryz.ntmps40 (res := [.tmp 2]) (by kernel_rfl) ?_
  repeat' ((conv => whnf); first | rw [h5] | refine Rng.g ?_ | refine Ob.g ?_ | refine Ob.e ?_ | refine Ob.m ?_ | refine Ob.mk (Nat.le_of_ble_eq_true rfl) ?_ | refine JoinVC.on ?_ | refine Nils.mk (fun h => ?_) ?_ | refine Val.t ?_ | refine Val.d ?_ | refine Mm.mk ?_ | (refine Br.mk (fun h => ?_) (fun h => ?_) <;> first | (exfalso; omega; done) | (exfalso; simp at h; done) | skip))
  repeat refine Mm.mk ?_
  refine EndVC.mk _ rfl _ _ ⟨rfl, rfl⟩ ?_
  refine ⟨[], rfl, rfl, ?_, ?_⟩ <;> repeat' (first | exact trivial | exact rfl | exact Iff.rfl | apply And.intro)
theorem amt_tdiv {n m g : Int} (hn : -m ≤ n ∧ n ≤ m) (hg : 0 ≤ g) : amt ((n * g).tdiv 1000) ≤ m * g / 1000 := by
  have h1 : n * g ≤ m * g := Int.mul_le_mul_of_nonneg_right hn.2 hg
  have h2 : -(m * g) ≤ n * g := by
    have := Int.mul_le_mul_of_nonneg_right hn.1 hg
    rwa [Int.neg_mul] at this
  generalize n * g = a at h1 h2 ⊢
  generalize m * g = b at h1 h2 ⊢
  unfold amt
  rcases Int.le_total 0 a with h0 | h0
  · rw [Int.tdiv_eq_ediv_of_nonneg h0]
    split <;> omega
  · have e : a = -(-a) := by omega
    rw [e, Int.neg_tdiv, Int.tdiv_eq_ediv_of_nonneg (by omega)]
    split <;> omega
end Go.Sx

namespace Go.Sx
open Go Go.Proofs
set_option maxRecDepth 10000
set_option maxHeartbeats 8000000
end Go.Sx

namespace Go.Sx
open Go Go.Proofs
set_option maxRecDepth 10000
set_option maxHeartbeats 8000000
end Go.Sx

namespace Go.Sx
open Go Go.Proofs
set_option maxRecDepth 10000
set_option maxHeartbeats 8000000
end Go.Sx

namespace Go.Sx
open Go Go.Proofs
set_option maxRecDepth 10000
set_option maxHeartbeats 8000000
theorem e17 : EntersF Tryz.prog 17 := enters_of Tryz.func17 (c := bodyOf Tryz.f17) (by kernel_rfl) rfl
theorem s241 (w : List Int) (hl : w.length ≤ 8) (hw : ∀ j, -4096 ≤ w.getD j 0 ∧ w.getD j 0 ≤ 4096) : PSpec Tryz.prog 241 [lL w] (.x (I (amF w))) := by
  have lw := i64s_len w
  have hbd := amN_bd hw
  have hnn := amN_nonneg w
  refine spec_of pMix (O := []) Tryz.func241 (c := bodyOf Tryz.f241) rfl (by kernel_rfl) (by kernel_rfl) Tryz.ntmps241 (res := [.tmp 2]) (by kernel_rfl) ?_
  repeat' ((conv => whnf); first | refine Rng.g ?_ | refine Ob.g ?_ | refine Ob.e ?_ | refine Ob.m ?_ | refine Ob.mk (Nat.le_of_ble_eq_true rfl) ?_ | refine JoinVC.on ?_ | refine Nils.mk (fun h => ?_) ?_ | refine Val.t ?_ | refine Val.d ?_ | refine Mm.mk ?_ | (refine Br.mk (fun h => ?_) (fun h => ?_) <;> first | (exfalso; omega; done) | (exfalso; simp at h; done) | skip))
  refine LoopVC.mk (fun n st => ∃ (i : Nat), i ≤ w.length ∧ n = w.length - i ∧ st = ⟨0, envA 20 [(3, .int .i64 (amN w i)), (6, .x (lL w)), (7, .int .i64 ((i64s w).length : Int)), (8, .int .i64 (i : Int))], []⟩) _ _ ⟨0, Nat.zero_le _, rfl, rfl⟩ ?_ ?_
  · refine ⟨[], rfl, rfl, ?_, ?_⟩ <;> repeat' (first | exact trivial | exact rfl | exact Iff.rfl | apply And.intro)
  rintro n _ ⟨i, hi, hn, rfl⟩
  have gx : rI (i64s w) (i : Int).toNat 0 = w.getD i 0 := by rw [Int.toNat_natCast, i64s_get]
  have b1 := hbd i
  have b2 := hnn i
  have b3 := hw i
  by_cases hi' : i < w.length
  · repeat' ((conv => whnf); first | rw [gx] | refine Rng.g ?_ | refine Ob.g ?_ | refine Ob.e ?_ | refine Ob.m ?_ | refine Ob.mk (Nat.le_of_ble_eq_true rfl) ?_ | refine JoinVC.on ?_ | refine Nils.mk (fun h => ?_) ?_ | refine Val.t ?_ | refine Val.d ?_ | (refine Br.mk (fun h => ?_) (fun h => ?_) <;> first | (exfalso; omega; done) | (exfalso; simp at h; done) | skip))
    conv => whnf
    refine Mm.nm (fun mx hm => ?_)
    have hmx : mx = amt (w.getD i 0) := by rw [hm]; unfold amt; split <;> split <;> omega
    have he : amN w (i + 1) = amN w i + mx := by rw [hmx]; rfl
    have b4 : 0 ≤ mx ∧ mx ≤ 4096 := by rw [hmx]; unfold amt; split <;> omega
    clear hm
    repeat' ((conv => whnf); first | refine Rng.g ?_ | refine Ob.g ?_ | refine Ob.e ?_ | refine Ob.m ?_ | refine Ob.mk (Nat.le_of_ble_eq_true rfl) ?_ | refine JoinVC.on ?_ | refine Nils.mk (fun h => ?_) ?_ | refine Val.t ?_ | refine Val.d ?_ | refine Mm.mk ?_ | (refine Br.mk (fun h => ?_) (fun h => ?_) <;> first | (exfalso; omega; done) | (exfalso; simp at h; done) | skip))
    rw [← he]
    refine Back.mk (w.length - (i + 1)) _ (by omega) ⟨i + 1, by omega, rfl, rfl⟩ ?_
    refine ⟨[], rfl, rfl, ?_, ?_⟩ <;> repeat' (first | exact trivial | exact rfl | exact Iff.rfl | apply And.intro)
  · have ei : i = w.length := by omega
    subst ei
    repeat' ((conv => whnf); first | refine Rng.g ?_ | refine Ob.g ?_ | refine Ob.e ?_ | refine Ob.m ?_ | refine Ob.mk (Nat.le_of_ble_eq_true rfl) ?_ | refine JoinVC.on ?_ | refine Nils.mk (fun h => ?_) ?_ | refine Val.t ?_ | refine Val.d ?_ | refine Mm.mk ?_ | (refine Br.mk (fun h => ?_) (fun h => ?_) <;> first | (exfalso; omega; done) | (exfalso; simp at h; done) | skip))
    repeat refine Mm.mk ?_
    refine EndVC.mk _ rfl _ _ ⟨rfl, rfl⟩ ?_
    refine ⟨[], rfl, rfl, ?_, ?_⟩ <;> repeat' (first | exact trivial | exact rfl | exact Iff.rfl | apply And.intro)
@[reducible] def bCrv (c : Crv) : Blk := .box 80 [.lst true [.int .i64] (i64s c.f), .lst true [.int .i64] (i64s c.b), .int .i64 c.sh]
theorem s161 (c : Crv) (hc : CrvOK c) : HSpec Tryz.prog 161 [c.x] [] (fun r m' => m' = [] ∧ ((byF c ≤ 0 ∧ r = .tup [I 0, I 0, I 0, I 5]) ∨ (0 < byF c ∧ r = .tup [I (facF c), I (c.sh - 1), I (byF c), I 0]))) := by
  have ⟨⟨f1, f2⟩, b1, b2⟩ := crv_am hc
  have v1 := s241 c.f hc.f.1 hc.f.2
  have v2 := s241 c.b hc.b.1 hc.b.2
  have hsh := hc.sh
  have eb : c.sh - amF c.b = byF c := rfl
  have ef : c.sh + amF c.f = facF c := rfl
  refine spec_of pMix (O := [(4, ([], [⟨0, [], []⟩, ⟨1, [], []⟩, ⟨2, [], []⟩, ⟨3, [], []⟩, ⟨4, [0, 1], []⟩, ⟨5, [], []⟩, ⟨6, [], []⟩])), (7, ([], [⟨0, [], []⟩, ⟨1, [], []⟩, ⟨2, [], []⟩, ⟨3, [], []⟩, ⟨6, [], []⟩, ⟨7, [], []⟩, ⟨8, [], []⟩, ⟨9, [], []⟩, ⟨4, [0, 1, 6, 7, 8, 9], []⟩, ⟨5, [], []⟩, ⟨10, [], []⟩, ⟨11, [], []⟩, ⟨12, [], []⟩, ⟨13, [], []⟩]))]) Tryz.func161 (c := bodyOf Tryz.f161) rfl (by kernel_rfl) (by kernel_rfl) Tryz.ntmps161 (res := [.tmp 2, .tmp 3, .tmp 4, .tmp 5]) (by kernel_rfl) ?_
  repeat' ((conv => whnf); first | refine Rng.g ?_ | refine Ob.g ?_ | refine Ob.e ?_ | refine Ob.m ?_ | refine Ob.mk (Nat.le_of_ble_eq_true rfl) ?_ | refine JoinVC.on ?_ | refine Nils.mk (fun h => ?_) ?_ | refine Val.t ?_ | refine Val.d ?_ | refine Mm.mk ?_ | (refine Br.mk (fun h => ?_) (fun h => ?_) <;> first | (exfalso; omega; done) | (exfalso; simp at h; done) | skip))
  conv => whnf
  refine CallVC.mk [] _ _ _ rfl rfl rfl (s222 c) (fun r m' h' => ?_)
  obtain ⟨e, rfl, rfl, he⟩ := h'
  conv => whnf
  cases he.2 hc
  by_cases hb : byF c ≤ 0
  · repeat' ((conv => whnf); first | refine Rng.g ?_ | refine Ob.g ?_ | refine Ob.e ?_ | refine Ob.m ?_ | refine Ob.mk (Nat.le_of_ble_eq_true rfl) ?_ | refine JoinVC.on ?_ | refine Nils.mk (fun h => ?_) ?_ | refine Val.t ?_ | refine Val.d ?_ | refine Mm.mk ?_ | refine CallVC.pure rfl (v2) ?_ | refine CallVC0.pure rfl (v2) ?_ | (refine Br.mk (fun h => ?_) (fun h => ?_) <;> first | (exfalso; omega; done) | (exfalso; simp at h; done) | skip))
    repeat refine Mm.mk ?_
    conv => whnf
    refine EndVC.mk _ rfl _ _ (⟨rfl, .inl ⟨hb, rfl⟩⟩) ?_
    refine ⟨[], rfl, rfl, ?_, ?_⟩ <;> repeat' (first | exact trivial | exact rfl | exact Iff.rfl | apply And.intro)
  · repeat' ((conv => whnf); first | refine Rng.g ?_ | refine Ob.g ?_ | refine Ob.e ?_ | refine Ob.m ?_ | refine Ob.mk (Nat.le_of_ble_eq_true rfl) ?_ | refine JoinVC.on ?_ | refine Nils.mk (fun h => ?_) ?_ | refine Val.t ?_ | refine Val.d ?_ | refine Mm.mk ?_ | refine CallVC.pure rfl (v1) ?_ | refine CallVC.pure rfl (v2) ?_ | refine CallVC0.pure rfl (v1) ?_ | refine CallVC0.pure rfl (v2) ?_ | (refine Br.mk (fun h => ?_) (fun h => ?_) <;> first | (exfalso; omega; done) | (exfalso; simp at h; done) | skip))
    repeat refine Mm.mk ?_
    conv => whnf
    refine EndVC.mk _ rfl _ _ (⟨rfl, .inr ⟨by omega, rfl⟩⟩) ?_
    refine ⟨[], rfl, rfl, ?_, ?_⟩ <;> repeat' (first | exact trivial | exact rfl | exact Iff.rfl | apply And.intro)
theorem s76 (c : Crv) (a : Int) (hc : CrvOK c) (ha : 0 ≤ a ∧ a ≤ 32767) : HSpec Tryz.prog 76 [c.x, I a] [] (fun r m' => m' = [] ∧ ((byF c ≤ 0 ∧ r = .tup [I 0, I 5]) ∨ (0 < byF c ∧ r = .tup [I (bndF c a), I 0]))) := by
  have ⟨⟨f1, f2⟩, b1, b2⟩ := crv_am hc
  have hsh := hc.sh
  have hfb : 0 ≤ facF c ∧ facF c ≤ 36864 := by unfold facF; omega
  have hmg := mul_rng (a := a) (b := facF c) (A := 32767) (B := 36864) (by omega) hfb
  have hmg0 : 0 ≤ a * facF c := Int.mul_nonneg ha.1 hfb.1
  have hbb : byF c ≤ 4096 := by unfold byF; omega
  refine spec_of pMix (O := []) Tryz.func76 (c := bodyOf Tryz.f76) rfl (by kernel_rfl) (by kernel_rfl) Tryz.ntmps76 (res := [.tmp 4, .tmp 5]) (by kernel_rfl) ?_
  repeat' ((conv => whnf); first | refine Rng.g ?_ | refine Ob.g ?_ | refine Ob.e ?_ | refine Ob.m ?_ | refine Ob.mk (Nat.le_of_ble_eq_true rfl) ?_ | refine JoinVC.on ?_ | refine Nils.mk (fun h => ?_) ?_ | refine Val.t ?_ | refine Val.d ?_ | refine Mm.mk ?_ | (refine Br.mk (fun h => ?_) (fun h => ?_) <;> first | (exfalso; omega; done) | (exfalso; simp at h; done) | skip))
  conv => whnf
  refine CallVC.mk [] _ _ _ rfl rfl rfl (s161 c hc) (fun r m' h' => ?_)
  obtain ⟨rfl, hx⟩ := h'
  conv => whnf
  rcases hx with ⟨hb, rfl⟩ | ⟨hb, rfl⟩
  · repeat' ((conv => whnf); first | refine Rng.g ?_ | refine Ob.g ?_ | refine Ob.e ?_ | refine Ob.m ?_ | refine Ob.mk (Nat.le_of_ble_eq_true rfl) ?_ | refine JoinVC.on ?_ | refine Nils.mk (fun h => ?_) ?_ | refine Val.t ?_ | refine Val.d ?_ | refine Mm.mk ?_ | (refine Br.mk (fun h => ?_) (fun h => ?_) <;> first | (exfalso; omega; done) | (exfalso; simp at h; done) | skip))
    repeat refine Mm.mk ?_
    conv => whnf
    refine EndVC.mk _ rfl _ _ (⟨rfl, .inl ⟨hb, rfl⟩⟩) ?_
    refine ⟨[], rfl, rfl, ?_, ?_⟩ <;> repeat' (first | exact trivial | exact rfl | exact Iff.rfl | apply And.intro)
  · have hdi : 0 ≤ bndF c a ∧ bndF c a ≤ 2000000000 := ⟨bnd_nonneg hc hb ha.1, Int.le_trans (Int.ediv_le_self _ (by omega)) (by omega)⟩
    unfold bndF at hdi
    repeat' ((conv => whnf); first | refine Rng.g ?_ | refine Ob.g ?_ | refine Ob.e ?_ | refine Ob.m ?_ | refine Ob.mk (Nat.le_of_ble_eq_true rfl) ?_ | refine JoinVC.on ?_ | refine Nils.mk (fun h => ?_) ?_ | refine Val.t ?_ | refine Val.d ?_ | refine Mm.mk ?_ | (refine Br.mk (fun h => ?_) (fun h => ?_) <;> first | (exfalso; omega; done) | (exfalso; simp at h; done) | skip))
    repeat refine Mm.mk ?_
    conv => whnf
    refine EndVC.mk _ rfl _ _ (⟨rfl, .inr ⟨hb, rfl⟩⟩) ?_
    refine ⟨[], rfl, rfl, ?_, ?_⟩ <;> repeat' (first | exact trivial | exact rfl | exact Iff.rfl | apply And.intro)
theorem s17 (x : List Int) (v : Crv) (c : Cut) (la ou pe : Int) (hla : 0 ≤ la ∧ la ≤ 65535) (hou : 0 ≤ ou ∧ ou ≤ 4294967295) (hpe : 0 ≤ pe ∧ pe ≤ 255) : PSpec Tryz.prog 17 [lL x, v.x, c.x, .one (.int .u16 la), .one (.int .u32 ou), .one (.int .u8 pe)] (xP True) := by
  have hw := s57
  have lx := i64s_len x
  by_cases hV : ¬ ((0 < x.length ∧ x.length ≤ 40) ∧ CutOK c ∧ CrvOK v ∧ SigOK x)
  · by_cases h40 : x.length = 0 ∨ 40 < x.length
    · refine spec_of pMix (O := [(14, ([], [⟨0, [], []⟩, ⟨1, [], []⟩, ⟨2, [], []⟩, ⟨3, [0], []⟩, ⟨4, [], []⟩, ⟨5, [], []⟩, ⟨6, [], []⟩, ⟨7, [], []⟩, ⟨8, [], []⟩, ⟨9, [], []⟩]))]) Tryz.func17 (c := bodyOf Tryz.f17) rfl (by kernel_rfl) (by kernel_rfl) Tryz.ntmps17 (res := [.tmp 12]) (by kernel_rfl) ?_
      repeat' ((conv => whnf); first | refine Rng.g ?_ | refine Ob.g ?_ | refine Ob.e ?_ | refine Ob.m ?_ | refine Ob.mk (Nat.le_of_ble_eq_true rfl) ?_ | refine JoinVC.on ?_ | refine Nils.mk (fun h => ?_) ?_ | refine Val.t ?_ | refine Val.d ?_ | refine Mm.mk ?_ | refine CallVC.pure rfl (hw) ?_ | refine CallVC0.pure rfl (hw) ?_ | (refine Br.mk (fun h => ?_) (fun h => ?_) <;> first | (exfalso; omega; done) | (exfalso; simp at h; done) | skip))
      all_goals
        repeat refine Mm.mk ?_
        refine EndVC.mk _ rfl _ _ ⟨rfl, rfl⟩ ?_
        refine ⟨[], rfl, rfl, ?_, ?_⟩ <;> repeat' (first | exact trivial | exact rfl | exact Iff.rfl | apply And.intro)
    have h41 : 0 < x.length ∧ x.length ≤ 40 := by omega
    refine spec_of pMix (O := [(14, ([], [⟨0, [], []⟩, ⟨1, [], []⟩, ⟨2, [], []⟩, ⟨3, [0], []⟩, ⟨4, [], []⟩, ⟨5, [], []⟩, ⟨6, [], []⟩, ⟨7, [], []⟩, ⟨8, [], []⟩, ⟨9, [], []⟩]))]) Tryz.func17 (c := bodyOf Tryz.f17) rfl (by kernel_rfl) (by kernel_rfl) Tryz.ntmps17 (res := [.tmp 12]) (by kernel_rfl) ?_
    repeat' ((conv => whnf); first | refine Rng.g ?_ | refine Ob.g ?_ | refine Ob.e ?_ | refine Ob.m ?_ | refine Ob.mk (Nat.le_of_ble_eq_true rfl) ?_ | refine JoinVC.on ?_ | refine Nils.mk (fun h => ?_) ?_ | refine Val.t ?_ | refine Val.d ?_ | refine Mm.mk ?_ | (refine Br.mk (fun h => ?_) (fun h => ?_) <;> first | (exfalso; omega; done) | (exfalso; simp at h; done) | skip))
    conv => whnf
    refine CallVC.mk [] _ _ _ rfl rfl rfl (s24 c) (fun r m' h' => ?_)
    obtain ⟨e2, rfl, rfl, he2⟩ := h'
    conv => whnf
    by_cases h2 : e2 = 0
    rotate_left
    · repeat' ((conv => whnf); first | refine Rng.g ?_ | refine Ob.g ?_ | refine Ob.e ?_ | refine Ob.m ?_ | refine Ob.mk (Nat.le_of_ble_eq_true rfl) ?_ | refine JoinVC.on ?_ | refine Nils.mk (fun h => ?_) ?_ | refine Val.t ?_ | refine Val.d ?_ | refine Mm.mk ?_ | refine CallVC.pure rfl (hw) ?_ | refine CallVC0.pure rfl (hw) ?_ | (refine Br.mk (fun h => ?_) (fun h => ?_) <;> first | (exfalso; omega; done) | (exfalso; simp at h; done) | skip))
      all_goals
        repeat refine Mm.mk ?_
        refine EndVC.mk _ rfl _ _ ⟨rfl, rfl⟩ ?_
        refine ⟨[], rfl, rfl, ?_, ?_⟩ <;> repeat' (first | exact trivial | exact rfl | exact Iff.rfl | apply And.intro)
    repeat' ((conv => whnf); first | refine Rng.g ?_ | refine Ob.g ?_ | refine Ob.e ?_ | refine Ob.m ?_ | refine Ob.mk (Nat.le_of_ble_eq_true rfl) ?_ | refine JoinVC.on ?_ | refine Nils.mk (fun h => ?_) ?_ | refine Val.t ?_ | refine Val.d ?_ | refine Mm.mk ?_ | (refine Br.mk (fun h => ?_) (fun h => ?_) <;> first | (exfalso; omega; done) | (exfalso; simp at h; done) | skip))
    conv => whnf
    refine CallVC.mk [] _ _ _ rfl rfl rfl (s46 v) (fun r m' h' => ?_)
    obtain ⟨e3, rfl, rfl, he3⟩ := h'
    conv => whnf
    by_cases h3 : e3 = 0
    rotate_left
    · repeat' ((conv => whnf); first | refine Rng.g ?_ | refine Ob.g ?_ | refine Ob.e ?_ | refine Ob.m ?_ | refine Ob.mk (Nat.le_of_ble_eq_true rfl) ?_ | refine JoinVC.on ?_ | refine Nils.mk (fun h => ?_) ?_ | refine Val.t ?_ | refine Val.d ?_ | refine Mm.mk ?_ | refine CallVC.pure rfl (hw) ?_ | refine CallVC0.pure rfl (hw) ?_ | (refine Br.mk (fun h => ?_) (fun h => ?_) <;> first | (exfalso; omega; done) | (exfalso; simp at h; done) | skip))
      all_goals
        repeat refine Mm.mk ?_
        refine EndVC.mk _ rfl _ _ ⟨rfl, rfl⟩ ?_
        refine ⟨[], rfl, rfl, ?_, ?_⟩ <;> repeat' (first | exact trivial | exact rfl | exact Iff.rfl | apply And.intro)
    repeat' ((conv => whnf); first | refine Rng.g ?_ | refine Ob.g ?_ | refine Ob.e ?_ | refine Ob.m ?_ | refine Ob.mk (Nat.le_of_ble_eq_true rfl) ?_ | refine JoinVC.on ?_ | refine Nils.mk (fun h => ?_) ?_ | refine Val.t ?_ | refine Val.d ?_ | refine Mm.mk ?_ | (refine Br.mk (fun h => ?_) (fun h => ?_) <;> first | (exfalso; omega; done) | (exfalso; simp at h; done) | skip))
    conv => whnf
    refine CallVC.mk [] _ _ _ rfl rfl rfl (s61 x) (fun r m' h' => ?_)
    obtain ⟨e4, rfl, rfl, he4⟩ := h'
    conv => whnf
    repeat' ((conv => whnf); first | refine Rng.g ?_ | refine Ob.g ?_ | refine Ob.e ?_ | refine Ob.m ?_ | refine Ob.mk (Nat.le_of_ble_eq_true rfl) ?_ | refine JoinVC.on ?_ | refine Nils.mk (fun h => ?_) ?_ | refine Val.t ?_ | refine Val.d ?_ | refine Mm.mk ?_ | refine CallVC.pure rfl (hw) ?_ | refine CallVC0.pure rfl (hw) ?_ | (refine Br.mk (fun h => ?_) (fun h => ?_) <;> first | (exfalso; omega; done) | (exfalso; simp at h; done) | skip))
    all_goals first | (exfalso; exact hV ⟨h41, he2.1 (by omega), he3.1 (by omega), he4.1 (by omega)⟩) | skip
    all_goals
      repeat refine Mm.mk ?_
      refine EndVC.mk _ rfl _ _ ⟨rfl, rfl⟩ ?_
      refine ⟨[], rfl, rfl, ?_, ?_⟩ <;> repeat' (first | exact trivial | exact rfl | exact Iff.rfl | apply And.intro)
  replace hV := Classical.not_not.1 hV
  obtain ⟨h40, hC, hR, hS⟩ := hV
  have hgn := hC.gain
  have hhf := hC.half
  refine spec_of pMix (O := [(14, ([], [⟨0, [], []⟩, ⟨1, [], []⟩, ⟨2, [], []⟩, ⟨3, [0], []⟩, ⟨4, [], []⟩, ⟨5, [], []⟩, ⟨6, [], []⟩, ⟨7, [], []⟩, ⟨8, [], []⟩, ⟨9, [], []⟩]))]) Tryz.func17 (c := bodyOf Tryz.f17) rfl (by kernel_rfl) (by kernel_rfl) Tryz.ntmps17 (res := [.tmp 12]) (by kernel_rfl) ?_
  repeat' ((conv => whnf); first | refine Rng.g ?_ | refine Ob.g ?_ | refine Ob.e ?_ | refine Ob.m ?_ | refine Ob.mk (Nat.le_of_ble_eq_true rfl) ?_ | refine JoinVC.on ?_ | refine Nils.mk (fun h => ?_) ?_ | refine Val.t ?_ | refine Val.d ?_ | refine Mm.mk ?_ | (refine Br.mk (fun h => ?_) (fun h => ?_) <;> first | (exfalso; omega; done) | (exfalso; simp at h; done) | skip))
  conv => whnf
  refine CallVC.mk [] _ _ _ rfl rfl rfl (s24 c) (fun r m' h' => ?_)
  obtain ⟨e2, rfl, rfl, he2⟩ := h'
  conv => whnf
  cases he2.2 hC
  repeat' ((conv => whnf); first | refine Rng.g ?_ | refine Ob.g ?_ | refine Ob.e ?_ | refine Ob.m ?_ | refine Ob.mk (Nat.le_of_ble_eq_true rfl) ?_ | refine JoinVC.on ?_ | refine Nils.mk (fun h => ?_) ?_ | refine Val.t ?_ | refine Val.d ?_ | refine Mm.mk ?_ | (refine Br.mk (fun h => ?_) (fun h => ?_) <;> first | (exfalso; omega; done) | (exfalso; simp at h; done) | skip))
  conv => whnf
  refine CallVC.mk [] _ _ _ rfl rfl rfl (s46 v) (fun r m' h' => ?_)
  obtain ⟨e3, rfl, rfl, he3⟩ := h'
  conv => whnf
  cases he3.2 hR
  repeat' ((conv => whnf); first | refine Rng.g ?_ | refine Ob.g ?_ | refine Ob.e ?_ | refine Ob.m ?_ | refine Ob.mk (Nat.le_of_ble_eq_true rfl) ?_ | refine JoinVC.on ?_ | refine Nils.mk (fun h => ?_) ?_ | refine Val.t ?_ | refine Val.d ?_ | refine Mm.mk ?_ | (refine Br.mk (fun h => ?_) (fun h => ?_) <;> first | (exfalso; omega; done) | (exfalso; simp at h; done) | skip))
  conv => whnf
  refine CallVC.mk [] _ _ _ rfl rfl rfl (s61 x) (fun r m' h' => ?_)
  obtain ⟨e4, rfl, rfl, he4⟩ := h'
  conv => whnf
  cases he4.2 hS
  repeat' ((conv => whnf); first | refine Rng.g ?_ | refine Ob.g ?_ | refine Ob.e ?_ | refine Ob.m ?_ | refine Ob.mk (Nat.le_of_ble_eq_true rfl) ?_ | refine JoinVC.on ?_ | refine Nils.mk (fun h => ?_) ?_ | refine Val.t ?_ | refine Val.d ?_ | refine Mm.mk ?_ | (refine Br.mk (fun h => ?_) (fun h => ?_) <;> first | (exfalso; omega; done) | (exfalso; simp at h; done) | skip))
  refine LoopVC.mk (fun n st => ∃ (i : Nat) (a : Int), i ≤ x.length ∧ n = x.length - i ∧ (0 ≤ a ∧ a ≤ 32767) ∧ (∀ j, j < i → -a ≤ x.getD j 0 ∧ x.getD j 0 ≤ a) ∧ st = ⟨0, envA 150 [(0, .x (lL x)), (3, .x (.one (.int .u16 la))), (4, .x (.one (.int .u32 ou))), (5, .x (.one (.int .u8 pe))), (7, .x (.one (.ptr 0 0))), (8, .x (.one (.ptr 1 0))), (13, .int .i64 a), (14, .int .i64 (i : Int))], [some (bCrv v), some (bCut c)]⟩) _ _ ⟨0, 0, Nat.zero_le _, rfl, by omega, fun j hj => absurd hj (Nat.not_lt_zero j), rfl⟩ ?_ ?_
  · refine ⟨[some 0, some 1], rfl, rfl, ?_, ?_⟩ <;> repeat' (first | exact trivial | exact rfl | exact Iff.rfl | apply And.intro)
  rintro n _ ⟨i, a, hi, hn, ha, haj, rfl⟩
  have gx : rI (i64s x) (i : Int).toNat 0 = x.getD i 0 := by rw [Int.toNat_natCast, i64s_get]
  have hxi := hS.each i
  by_cases hi' : i < x.length
  · have k1 := s40 (x.getD i 0) (by omega)
    repeat' ((conv => whnf); first | rw [gx] | refine Rng.g ?_ | refine Ob.g ?_ | refine Ob.e ?_ | refine Ob.m ?_ | refine Ob.mk (Nat.le_of_ble_eq_true rfl) ?_ | refine JoinVC.on ?_ | refine Nils.mk (fun h => ?_) ?_ | refine Val.t ?_ | refine Val.d ?_ | refine CallVC.pure rfl (k1) ?_ | refine CallVC0.pure rfl (k1) ?_ | (refine Br.mk (fun h => ?_) (fun h => ?_) <;> first | (exfalso; omega; done) | (exfalso; simp at h; done) | skip))
    conv => whnf
    refine Mm.nm (fun mx hm => ?_)
    have hm1 : a ≤ mx ∧ mx ≤ 32767 ∧ -mx ≤ x.getD i 0 ∧ x.getD i 0 ≤ mx := by rw [hm]; unfold amt; split <;> split <;> omega
    clear hm
    repeat' ((conv => whnf); first | refine Rng.g ?_ | refine Ob.g ?_ | refine Ob.e ?_ | refine Ob.m ?_ | refine Ob.mk (Nat.le_of_ble_eq_true rfl) ?_ | refine JoinVC.on ?_ | refine Nils.mk (fun h => ?_) ?_ | refine Val.t ?_ | refine Val.d ?_ | refine Mm.mk ?_ | (refine Br.mk (fun h => ?_) (fun h => ?_) <;> first | (exfalso; omega; done) | (exfalso; simp at h; done) | skip))
    refine Back.mk (x.length - (i + 1)) _ (by omega) ⟨i + 1, mx, by omega, rfl, by omega, fun j hj => ?_, rfl⟩ ?_
    · rcases Nat.lt_succ_iff_lt_or_eq.1 hj with h' | rfl
      · have := haj j h'
        omega
      · omega
    · refine ⟨[some 0, some 1], rfl, rfl, ?_, ?_⟩ <;> repeat' (first | exact trivial | exact rfl | exact Iff.rfl | apply And.intro)
  have ei : i = x.length := by omega
  subst ei
  have hsa : sigB a x := fun j => by
    by_cases hj : j < x.length
    · exact haj j hj
    · have e : x.getD j 0 = 0 := by simp [List.getD_eq_getElem?_getD, List.getElem?_eq_none (by omega : x.length ≤ j)]
      rw [e]
      omega
  repeat' ((conv => whnf); first | refine Rng.g ?_ | refine Ob.g ?_ | refine Ob.e ?_ | refine Ob.m ?_ | refine Ob.mk (Nat.le_of_ble_eq_true rfl) ?_ | refine JoinVC.on ?_ | refine Nils.mk (fun h => ?_) ?_ | refine Val.t ?_ | refine Val.d ?_ | refine Mm.mk ?_ | (refine Br.mk (fun h => ?_) (fun h => ?_) <;> first | (exfalso; omega; done) | (exfalso; simp at h; done) | skip))
  conv => whnf
  refine CallVC.mk [] _ _ _ rfl rfl rfl (s76 v a hR ha) (fun r m' h' => ?_)
  obtain ⟨rfl, hx⟩ := h'
  conv => whnf
  rcases hx with ⟨hb, rfl⟩ | ⟨hb, rfl⟩
  · repeat' ((conv => whnf); first | refine Rng.g ?_ | refine Ob.g ?_ | refine Ob.e ?_ | refine Ob.m ?_ | refine Ob.mk (Nat.le_of_ble_eq_true rfl) ?_ | refine JoinVC.on ?_ | refine Nils.mk (fun h => ?_) ?_ | refine Val.t ?_ | refine Val.d ?_ | refine Mm.mk ?_ | refine CallVC.pure rfl (hw) ?_ | refine CallVC0.pure rfl (hw) ?_ | (refine Br.mk (fun h => ?_) (fun h => ?_) <;> first | (exfalso; omega; done) | (exfalso; simp at h; done) | skip))
    all_goals
      repeat refine Mm.mk ?_
      refine EndVC.mk _ rfl _ _ ⟨rfl, rfl⟩ ?_
      refine ⟨[], rfl, rfl, ?_, ?_⟩ <;> repeat' (first | exact trivial | exact rfl | exact Iff.rfl | apply And.intro)
  have hB := bnd_nonneg hR hb ha.1
  by_cases hB2 : 32767 < bndF v a
  · repeat' ((conv => whnf); first | refine Rng.g ?_ | refine Ob.g ?_ | refine Ob.e ?_ | refine Ob.m ?_ | refine Ob.mk (Nat.le_of_ble_eq_true rfl) ?_ | refine JoinVC.on ?_ | refine Nils.mk (fun h => ?_) ?_ | refine Val.t ?_ | refine Val.d ?_ | refine Mm.mk ?_ | refine CallVC.pure rfl (hw) ?_ | refine CallVC0.pure rfl (hw) ?_ | (refine Br.mk (fun h => ?_) (fun h => ?_) <;> first | (exfalso; omega; done) | (exfalso; simp at h; done) | skip))
    all_goals
      repeat refine Mm.mk ?_
      refine EndVC.mk _ rfl _ _ ⟨rfl, rfl⟩ ?_
      refine ⟨[], rfl, rfl, ?_, ?_⟩ <;> repeat' (first | exact trivial | exact rfl | exact Iff.rfl | apply And.intro)
  repeat' ((conv => whnf); first | refine Rng.g ?_ | refine Ob.g ?_ | refine Ob.e ?_ | refine Ob.m ?_ | refine Ob.mk (Nat.le_of_ble_eq_true rfl) ?_ | refine JoinVC.on ?_ | refine Nils.mk (fun h => ?_) ?_ | refine Val.t ?_ | refine Val.d ?_ | refine Mm.mk ?_ | (refine Br.mk (fun h => ?_) (fun h => ?_) <;> first | (exfalso; omega; done) | (exfalso; simp at h; done) | skip))
  conv => whnf
  refine CallVC.mk [] _ _ _ rfl rfl rfl (s49 v x) (fun r m' h' => ?_)
  cases h' with
  | bad e h he hr hm => exact absurd ⟨hR, hS⟩ h
  | far hl hx ys h hs hb' hr hm => exact (tame_no_far hR hb ha.1 hsa h (by omega) hb').elim
  | ok hl hx ys hF hs hr hm =>
  subst hr hm
  have hy := filt_bd hR hb ha.1 hsa hF
  obtain ⟨m, hm⟩ : ∃ m, bndF v a = m := ⟨_, rfl⟩
  rw [hm] at hB hB2 hy ⊢
  have ly := i64s_len ys
  obtain ⟨q, hq⟩ : ∃ q, q = joinS ys ys := ⟨_, rfl⟩
  have lq0 : q.length = ys.length := by rw [hq, joinS_len, Nat.min_self]
  have hqe : ∀ j, j < q.length → q.getD j s0 = ⟨ys.getD j 0, ys.getD j 0⟩ := fun j hj => by rw [hq, joinS_get _ _ _ (by rw [Nat.min_self]; omega)]
  have lq := smpA_len q
  have hqS : SmpsOK q := ⟨by omega, fun j hj => by
    have := hy j
    rw [hqe j hj]
    unfold Smp.ok
    simp only
    omega⟩
  obtain ⟨far, hfar⟩ : ∃ far, far = m * c.gain / 1000 := ⟨_, rfl⟩
  have hmg := mul_rng (a := m) (b := c.gain) (A := 32767) (B := 100000) (by omega) hgn
  have hmg0 : 0 ≤ m * c.gain := Int.mul_nonneg (by omega) hgn.1
  have hfr : 0 ≤ far ∧ far ≤ 3276700 := by omega
  repeat' ((conv => whnf); first | refine Rng.g ?_ | refine Ob.g ?_ | refine Ob.e ?_ | refine Ob.m ?_ | refine Ob.mk (Nat.le_of_ble_eq_true rfl) ?_ | refine JoinVC.on ?_ | refine Nils.mk (fun h => ?_) ?_ | refine Val.t ?_ | refine Val.d ?_ | refine Mm.mk ?_ | (refine Br.mk (fun h => ?_) (fun h => ?_) <;> first | (exfalso; omega; done) | (exfalso; simp at h; done) | skip))
  conv => whnf
  refine CallVC0.mk _ _ rfl (s31 ys ys (by omega)) (fun r m' h' => ?_)
  obtain ⟨rfl, rfl⟩ := h'
  conv => whnf
  rw [← hq]
  repeat' ((conv => whnf); first | refine Rng.g ?_ | refine Ob.g ?_ | refine Ob.e ?_ | refine Ob.m ?_ | refine Ob.mk (Nat.le_of_ble_eq_true rfl) ?_ | refine JoinVC.on ?_ | refine Nils.mk (fun h => ?_) ?_ | refine Val.t ?_ | refine Val.d ?_ | refine Mm.mk ?_ | (refine Br.mk (fun h => ?_) (fun h => ?_) <;> first | (exfalso; omega; done) | (exfalso; simp at h; done) | skip))
  conv => whnf
  refine CallVC.mk [] _ _ _ rfl rfl rfl (s30 c q) (fun r m' h' => ?_)
  cases h' with
  | bad e h he hr hm => exact absurd ⟨hC, hqS⟩ h
  | ok hC' hj' hr' hm' =>
  subst hr' hm'
  obtain ⟨g, hg⟩ : ∃ g, g = cutF c q := ⟨_, rfl⟩
  rw [← hg]
  have lgl : g.length = q.length := by rw [hg, cutF_len]
  have lg := smpA_len g
  have hG : PtsOK g := by rw [hg]; exact cut_ok hC hqS
  have hed : ∀ j : Nat, j < g.length → (g.getD j s0).r ≤ c.half + far ∧ -c.half - far ≤ (g.getD j s0).l := fun j hj => by
    have q1 := hy j
    have e1 := amt_tdiv q1 hgn.1
    rw [← hfar] at e1
    rw [hg, cutF_get c q j (by omega), hqe j (by omega)]
    unfold ptF
    simp only
    unfold amt at e1
    split at e1 <;> omega
  repeat' ((conv => whnf); first | rw [← hfar] | refine Rng.g ?_ | refine Ob.g ?_ | refine Ob.e ?_ | refine Ob.m ?_ | refine Ob.mk (Nat.le_of_ble_eq_true rfl) ?_ | refine JoinVC.on ?_ | refine Nils.mk (fun h => ?_) ?_ | refine Val.t ?_ | refine Val.d ?_ | refine Mm.mk ?_ | (refine Br.mk (fun h => ?_) (fun h => ?_) <;> first | (exfalso; omega; done) | (exfalso; simp at h; done) | skip))
  conv => whnf
  refine CallVC.mk [] _ _ _ rfl rfl rfl (s74 g la hG (by omega) hla) (fun r m' h' => ?_)
  obtain ⟨mo, mi, hB, rfl, rfl⟩ := h'
  conv => whnf
  obtain ⟨jo, hjo, ho⟩ := hB.out
  obtain ⟨ji, hji, hin⟩ := hB.inn
  have e1 := hed jo hjo
  have e2 := hed ji hji
  have hE := hG.each
  unfold edgeP at hE
  have e3 := hE jo hjo
  have e4 := hE ji hji
  by_cases hs : 2 * c.half + 2 * far + la ≤ 4096
  · have h75 := s75 g (2 * c.half + 2 * far + la) la (1 + ou % 4194304) (1 + pe % 16) mo mi hG (by omega) (by omega) (by omega) hla (by omega) (by omega) hB.all (by omega)
    repeat' ((conv => whnf); first | refine Rng.g ?_ | refine Ob.g ?_ | refine Ob.e ?_ | refine Ob.m ?_ | refine Ob.mk (Nat.le_of_ble_eq_true rfl) ?_ | refine JoinVC.on ?_ | refine Nils.mk (fun h => ?_) ?_ | refine Val.t ?_ | refine Val.d ?_ | refine Mm.mk ?_ | refine CallVC.pure rfl (h75) ?_ | refine CallVC.pure rfl (hw) ?_ | refine CallVC0.pure rfl (h75) ?_ | refine CallVC0.pure rfl (hw) ?_ | (refine Br.mk (fun h => ?_) (fun h => ?_) <;> first | (exfalso; omega; done) | (exfalso; simp at h; done) | skip))
    all_goals
      repeat refine Mm.mk ?_
      refine EndVC.mk _ rfl _ _ ⟨rfl, rfl⟩ ?_
      refine ⟨[], rfl, rfl, ?_, ?_⟩ <;> repeat' (first | exact trivial | exact rfl | exact Iff.rfl | apply And.intro)
  · repeat' ((conv => whnf); first | refine Rng.g ?_ | refine Ob.g ?_ | refine Ob.e ?_ | refine Ob.m ?_ | refine Ob.mk (Nat.le_of_ble_eq_true rfl) ?_ | refine JoinVC.on ?_ | refine Nils.mk (fun h => ?_) ?_ | refine Val.t ?_ | refine Val.d ?_ | refine Mm.mk ?_ | refine CallVC.pure rfl (hw) ?_ | refine CallVC0.pure rfl (hw) ?_ | (refine Br.mk (fun h => ?_) (fun h => ?_) <;> first | (exfalso; omega; done) | (exfalso; simp at h; done) | skip))
    all_goals
      repeat refine Mm.mk ?_
      refine EndVC.mk _ rfl _ _ ⟨rfl, rfl⟩ ?_
      refine ⟨[], rfl, rfl, ?_, ?_⟩ <;> repeat' (first | exact trivial | exact rfl | exact Iff.rfl | apply And.intro)
end Go.Sx

namespace Go.Sx
open Go Go.Proofs
set_option maxRecDepth 10000
/-! ### Rows read as takes, parts, curves, samples -/
end Go.Sx
