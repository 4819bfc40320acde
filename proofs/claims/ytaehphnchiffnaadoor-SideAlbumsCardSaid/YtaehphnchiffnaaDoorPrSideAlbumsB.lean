import Derived.Test.YtaehphnchiffnaaDoorPrSideAlbumsA
import Derived.Test.YtaehphnchiffnaaDoorXc
namespace Go.Sx
open Go Go.Proofs
set_option maxRecDepth 10000
set_option maxHeartbeats 8000000
/-! ### An order is laid, as the document tells it -/
/-- How many of them end at or above their Least, up to the first one that does not. -/
structure Good (f : Fmt) (l : List Sng) (O : List Int) (g : Nat) : Prop where
  le : g ≤ O.length
  yes : ∀ j, j < g → okAt f l O j
  no : g < O.length → ¬ okAt f l O g
theorem s40 (f : Fmt) (l : List Sng) (O : List Int) (hf : FmtOK f) (hg : SngsOK l) (hO : InR O l.length) (hl : O.length ≤ 100) : HSpec Tryd.prog 66 [f.x, lSng l, .one (.lst true [.int .i64] (i64s O))] [] (fun r m' => ∃ g, Good f l O g ∧ r = .tup [.one (.own 0), I (g : Int), I (atF f l O O.length - f.tail)] ∧ m' = [some (rowB (bndA f l O O.length))]) := by
  have lo := i64s_len O
  have lg := sngA_len l
  have hbd := atF_bd hf hg hO
  have hf1 := hf.outer
  have hf2 := hf.lead
  have hf3 := hf.gap
  have hf4 := hf.tail
  have hf5 := hf.inner
  refine spec_of pMix (O := [(10, ([11], [⟨0, [], []⟩, ⟨1, [], []⟩, ⟨2, [], []⟩, ⟨3, [], []⟩, ⟨4, [], []⟩, ⟨5, [], []⟩, ⟨6, [], []⟩, ⟨7, [], []⟩, ⟨8, [0, 1, 2, 3, 4, 5], []⟩, ⟨9, [], []⟩, ⟨10, [], []⟩, ⟨11, [], []⟩, ⟨12, [], []⟩]))]) Tryd.func66 (c := bodyOf Tryd.f66) rfl (by kernel_rfl) (by kernel_rfl) Tryd.ntmps66 (res := [.tmp 6, .tmp 7, .tmp 8]) (by kernel_rfl) ?_
  repeat' ((conv => whnf); first | refine Rng.g ?_ | refine Ob.g ?_ | refine Ob.e ?_ | refine Ob.m ?_ | refine Ob.mk (Nat.le_of_ble_eq_true rfl) ?_ | refine JoinVC.on ?_ | refine Nils.mk (fun h => ?_) ?_ | refine Val.t ?_ | refine Val.d ?_ | refine Mm.mk ?_ | (refine Br.mk (fun h => ?_) (fun h => ?_) <;> first | (exfalso; omega; done) | (exfalso; simp at h; done) | skip))
  refine LoopVC.mk (fun n st => ∃ (i g : Nat), i ≤ O.length ∧ n = O.length - i ∧ ((g = O.length ∧ ∀ j, j < i → okAt f l O j) ∨ (g < i ∧ Good f l O g)) ∧ st = ⟨0, envA 76 [(1, .x (lSng l)), (2, .x (.one (.lst true [.int .i64] (i64s O)))), (3, .x (.one (.ptr 0 0))), (9, .x (.one (.own 1))), (10, .int .i64 (atF f l O i)), (11, .int .i64 (g : Int)), (12, .int .i64 (i : Int))], [some (.box 23 [.str f.nm, .int .i64 f.outer, .int .i64 f.inner, .int .i64 f.per, .int .i64 f.lead, .int .i64 f.gap, .int .i64 f.tail, .int .i64 f.cost]), some (rowB (bndA f l O i))]⟩) _ _ ⟨0, O.length, Nat.zero_le _, rfl, .inl ⟨rfl, fun j hj => absurd hj (Nat.not_lt_zero j)⟩, rfl⟩ ?_ ?_
  · refine ⟨[some 0, none], rfl, rfl, ?_, ?_⟩ <;> repeat' (first | exact trivial | exact rfl | exact Iff.rfl | apply And.intro)
    exact congrArg Int.ofNat lo
  rintro n _ ⟨i, g, hi, hn, hG, rfl⟩
  have lb := bndA_len f l O i
  have gi : rI (i64s O) (i : Int).toNat 0 = O.getD i 0 := by rw [Int.toNat_natCast]; exact i64s_get O i
  have hbi := hbd i hi
  by_cases hi' : i < O.length
  · have hr := hO i hi'
    obtain ⟨q, hq⟩ : ∃ q, O.getD i 0 = q := ⟨_, rfl⟩
    have c0 : rI (sngA l) q.toNat 0 = (l.getD q.toNat g0).long := sngA_0 l _
    have c1 : rI (sngA l) q.toNat (0 + 1) = (l.getD q.toNat g0).pitch := sngA_1 l _
    have c2 : rI (sngA l) q.toNat (0 + 1 + 1) = (l.getD q.toNat g0).least := sngA_2 l _
    rw [hq] at gi hr
    have hgk := hg.each q.toNat (by omega)
    have hw := (wid_bd hf.per.1 hgk).2
    have k1 := s58 f (l.getD q.toNat g0) hf hgk
    have ea : atF f l O (i + 1) = atF f l O i - (if 0 < i then f.gap else 0) - widF f (l.getD (O.getD i 0).toNat g0) := rfl
    rw [hq] at ea
    have eo : okAt f l O i ↔ (l.getD q.toNat g0).least ≤ atF f l O (i + 1) := by unfold okAt; rw [hq]
    have hbj := hbd (i + 1) hi'
    obtain ⟨N, hN⟩ : ∃ N, atF f l O (i + 1) = N := ⟨_, rfl⟩
    rw [hN] at ea eo hbj
    have step : ∀ g' : Nat, ((N < (l.getD q.toNat g0).least ∧ (g : Int) = O.length → g' = i) ∧ (¬ (N < (l.getD q.toNat g0).least ∧ (g : Int) = O.length) → g' = g)) → ((g' = O.length ∧ ∀ j, j < i + 1 → okAt f l O j) ∨ (g' < i + 1 ∧ Good f l O g')) := by
      rintro g' ⟨h1, h2⟩
      by_cases hc : N < (l.getD q.toNat g0).least ∧ (g : Int) = O.length
      · rw [h1 hc]
        rcases hG with ⟨rfl, h3⟩ | ⟨h3, h4⟩
        · exact .inr ⟨Nat.lt_succ_self i, hi, h3, fun _ h5 => by have := eo.1 h5; omega⟩
        · omega
      · rw [h2 hc]
        rcases hG with ⟨rfl, h3⟩ | ⟨h3, h4⟩
        · refine .inl ⟨rfl, fun j hj => ?_⟩
          rcases Nat.lt_succ_iff_lt_or_eq.1 hj with h' | rfl
          · exact h3 j h'
          · exact eo.2 (by omega)
        · exact .inr ⟨by omega, h4⟩
    by_cases h0 : 0 < i
    · have e1 : (if 0 < i then f.gap else 0) = f.gap := if_pos h0
      have e2 : (atF f l O i - f.gap) - widF f (l.getD q.toNat g0) = N := by rw [ea, e1]
      have e3 : bndR f l O i = [Cell.int q, Cell.int (atF f l O i - f.gap), Cell.int N] := by unfold bndR; rw [hq, e1, hN]
      repeat' ((conv => whnf); first | rw [gi] | rw [c0] | rw [c1] | rw [c2] | rw [e2] | refine Rng.g ?_ | refine Ob.g ?_ | refine Ob.e ?_ | refine Ob.m ?_ | refine Ob.mk (Nat.le_of_ble_eq_true rfl) ?_ | refine JoinVC.on ?_ | refine Nils.mk (fun h => ?_) ?_ | refine Val.t ?_ | refine Val.d ?_ | refine Mm.mk ?_ | refine CallVC.pure rfl (k1) ?_ | refine CallVC0.pure rfl (k1) ?_ | (refine Br.mk (fun h => ?_) (fun h => ?_) <;> first | (exfalso; omega; done) | (exfalso; simp at h; done) | skip))
      repeat refine Mm.mk ?_
      refine Ob.mk (by rw [eb116]; simp only [List.length_cons, List.length_nil]; omega) ?_
      repeat' ((conv => whnf); first | refine Rng.g ?_ | refine Ob.g ?_ | refine Ob.e ?_ | refine Ob.m ?_ | refine Ob.mk (Nat.le_of_ble_eq_true rfl) ?_ | refine JoinVC.on ?_ | refine Nils.mk (fun h => ?_) ?_ | refine Val.t ?_ | refine Val.d ?_ | refine Mm.mk ?_ | (refine Br.mk (fun h => ?_) (fun h => ?_) <;> first | (exfalso; omega; done) | (exfalso; simp at h; done) | skip))
      · refine Back.mk (O.length - (i + 1)) _ (by omega) ⟨i + 1, i, by omega, rfl, step i ⟨fun _ => rfl, fun h => absurd ⟨by omega, by omega⟩ h⟩, rfl⟩ ?_
        rw [bndA_succ, e3, hN]
        refine ⟨[some 0, some 5], rfl, rfl, ?_, ?_⟩ <;> repeat' (first | exact trivial | exact rfl | exact Iff.rfl | apply And.intro)
      all_goals
        refine Back.mk (O.length - (i + 1)) _ (by omega) ⟨i + 1, g, by omega, rfl, step g ⟨fun h => absurd h (fun h' => (by omega)), fun _ => rfl⟩, rfl⟩ ?_
        rw [bndA_succ, e3, hN]
        refine ⟨[some 0, some 5], rfl, rfl, ?_, ?_⟩ <;> repeat' (first | exact trivial | exact rfl | exact Iff.rfl | apply And.intro)
    · have e1 : (if 0 < i then f.gap else 0) = 0 := if_neg h0
      have e2 : atF f l O i - widF f (l.getD q.toNat g0) = N := by rw [ea, e1]; omega
      have e3 : bndR f l O i = [Cell.int q, Cell.int (atF f l O i), Cell.int N] := by unfold bndR; rw [hq, e1, hN]; simp only [Int.sub_zero]
      repeat' ((conv => whnf); first | rw [gi] | rw [c0] | rw [c1] | rw [c2] | rw [e2] | refine Rng.g ?_ | refine Ob.g ?_ | refine Ob.e ?_ | refine Ob.m ?_ | refine Ob.mk (Nat.le_of_ble_eq_true rfl) ?_ | refine JoinVC.on ?_ | refine Nils.mk (fun h => ?_) ?_ | refine Val.t ?_ | refine Val.d ?_ | refine Mm.mk ?_ | refine CallVC.pure rfl (k1) ?_ | refine CallVC0.pure rfl (k1) ?_ | (refine Br.mk (fun h => ?_) (fun h => ?_) <;> first | (exfalso; omega; done) | (exfalso; simp at h; done) | skip))
      repeat refine Mm.mk ?_
      refine Ob.mk (by rw [eb116]; simp only [List.length_cons, List.length_nil]; omega) ?_
      repeat' ((conv => whnf); first | refine Rng.g ?_ | refine Ob.g ?_ | refine Ob.e ?_ | refine Ob.m ?_ | refine Ob.mk (Nat.le_of_ble_eq_true rfl) ?_ | refine JoinVC.on ?_ | refine Nils.mk (fun h => ?_) ?_ | refine Val.t ?_ | refine Val.d ?_ | refine Mm.mk ?_ | (refine Br.mk (fun h => ?_) (fun h => ?_) <;> first | (exfalso; omega; done) | (exfalso; simp at h; done) | skip))
      · refine Back.mk (O.length - (i + 1)) _ (by omega) ⟨i + 1, i, by omega, rfl, step i ⟨fun _ => rfl, fun h => absurd ⟨by omega, by omega⟩ h⟩, rfl⟩ ?_
        rw [bndA_succ, e3, hN]
        refine ⟨[some 0, some 5], rfl, rfl, ?_, ?_⟩ <;> repeat' (first | exact trivial | exact rfl | exact Iff.rfl | apply And.intro)
      all_goals
        refine Back.mk (O.length - (i + 1)) _ (by omega) ⟨i + 1, g, by omega, rfl, step g ⟨fun h => absurd h (fun h' => (by omega)), fun _ => rfl⟩, rfl⟩ ?_
        rw [bndA_succ, e3, hN]
        refine ⟨[some 0, some 5], rfl, rfl, ?_, ?_⟩ <;> repeat' (first | exact trivial | exact rfl | exact Iff.rfl | apply And.intro)
  · have ei : i = O.length := by omega
    subst ei
    repeat' ((conv => whnf); first | refine Rng.g ?_ | refine Ob.g ?_ | refine Ob.e ?_ | refine Ob.m ?_ | refine Ob.mk (Nat.le_of_ble_eq_true rfl) ?_ | refine JoinVC.on ?_ | refine Nils.mk (fun h => ?_) ?_ | refine Val.t ?_ | refine Val.d ?_ | refine Mm.mk ?_ | (refine Br.mk (fun h => ?_) (fun h => ?_) <;> first | (exfalso; omega; done) | (exfalso; simp at h; done) | skip))
    repeat refine Mm.mk ?_
    conv => whnf
    refine EndVC.mk _ rfl _ _ (⟨g, (by rcases hG with ⟨rfl, h3⟩ | ⟨_, h4⟩; exact ⟨Nat.le_refl _, h3, fun h => absurd h (Nat.lt_irrefl _)⟩; exact h4), rfl, rfl⟩) ?_
    refine ⟨[some 1], rfl, rfl, ?_, ?_⟩ <;> repeat' (first | exact trivial | exact rfl | exact Iff.rfl | apply And.intro)
open Classical in
noncomputable def goodN (f : Fmt) (l : List Sng) (O : List Int) : Nat → Nat
  | 0 => 0
  | i + 1 => if goodN f l O i = i ∧ okAt f l O i then i + 1 else goodN f l O i
theorem goodN_lo {f : Fmt} {l : List Sng} {O : List Int} : ∀ n, (∀ j, j < n → okAt f l O j) → goodN f l O n = n
  | 0, _ => rfl
  | n + 1, h => if_pos ⟨goodN_lo n fun j hj => h j (by omega), h n (Nat.lt_succ_self n)⟩
open Classical in
theorem goodN_hi {f : Fmt} {l : List Sng} {O : List Int} {g : Nat} (h : ∀ j, j < g → okAt f l O j) (hn : ¬ okAt f l O g) : ∀ d, goodN f l O (g + d) = g
  | 0 => goodN_lo g h
  | d + 1 => by
    have ih := goodN_hi h hn d
    have e : ¬ (goodN f l O (g + d) = g + d ∧ okAt f l O (g + d)) := fun ⟨h1, h2⟩ => by
      rw [ih] at h1
      have : d = 0 := by omega
      subst this
      exact hn h2
    show (if goodN f l O (g + d) = g + d ∧ okAt f l O (g + d) then g + d + 1 else goodN f l O (g + d)) = g
    rw [if_neg e]
    exact ih
theorem Good.eq {f : Fmt} {l : List Sng} {O : List Int} {g : Nat} (h : Good f l O g) : goodN f l O O.length = g := by
  by_cases e : g = O.length
  · rw [e]
    exact goodN_lo _ fun j hj => h.yes j (by omega)
  · have h1 := h.le
    have := goodN_hi h.yes (h.no (by omega)) (O.length - g)
    rw [show g + (O.length - g) = O.length by omega] at this
    exact this
/-- How many of an order are good. -/
noncomputable def laN (f : Fmt) (l : List Sng) (O : List Int) : Int := if bothE f l ≠ 0 ∨ ordE l.length O ≠ 0 then 0 else (goodN f l O O.length : Int)
open Classical in
/-- The error of an order. -/
noncomputable def laE (f : Fmt) (l : List Sng) (O : List Int) : Int := if bothE f l ≠ 0 then bothE f l else if ordE l.length O ≠ 0 then ordE l.length O else if goodN f l O O.length < O.length then 20 else if LayOK f l O then 0 else 14
inductive LaS (f : Fmt) (l : List Sng) (O : List Int) (r : AV) (m' : List (Option Blk)) : Prop
  | bad (he : laE f l O ≠ 0) (hr : r = .tup [.one .nils, I (laN f l O), I (laE f l O)]) (hm : m' = [])
  | ok (hf : FmtOK f) (hg : SngsOK l) (hO : OrdOK l.length O) (h : LayOK f l O) (he : laE f l O = 0) (hn : laN f l O = O.length) (hr : r = .tup [.one (.own 0), I (laN f l O), I (laE f l O)]) (hm : m' = [some (rowB (bndA f l O O.length))])
theorem la_ok {f : Fmt} {l : List Sng} {O : List Int} (hf : FmtOK f) (hg : SngsOK l) (hO : OrdOK l.length O) (h : LayOK f l O) : laE f l O = 0 ∧ laN f l O = O.length := by
  have h1 := bothE_ok hf hg
  have h2 := ordE_0.2 hO
  have h3 := goodN_lo O.length h.1
  unfold laE laN
  rw [h1, h2, h3]
  simp [h]
theorem la_limit {f : Fmt} {l : List Sng} {O : List Int} (hf : FmtOK f) (hg : SngsOK l) (hO : OrdOK l.length O) (h : ∀ j, j < O.length → okAt f l O j) (hn : ¬ LayOK f l O) : laE f l O = 14 ∧ laN f l O = O.length := by
  have h1 := bothE_ok hf hg
  have h2 := ordE_0.2 hO
  have h3 := goodN_lo O.length h
  unfold laE laN
  rw [h1, h2, h3]
  simp [hn]
theorem la_rule {f : Fmt} {l : List Sng} {O : List Int} (hf : FmtOK f) (hg : SngsOK l) (hO : OrdOK l.length O) {i : Nat} (hi : i < O.length) (h : ∀ j, j < i → okAt f l O j) (hn : ¬ okAt f l O i) : laE f l O = 20 ∧ laN f l O = i := by
  have h1 := bothE_ok hf hg
  have h2 := ordE_0.2 hO
  have h3 := Good.eq (f := f) (l := l) (O := O) (g := i) ⟨by omega, h, fun _ => hn⟩
  unfold laE laN
  rw [h1, h2, h3]
  simp [hi]
theorem la_bad {f : Fmt} {l : List Sng} {O : List Int} (h : bothE f l ≠ 0) : laE f l O = bothE f l ∧ laN f l O = 0 := by
  unfold laE laN
  rw [if_pos h, if_pos (.inl h)]
  exact ⟨rfl, rfl⟩
theorem la_ord {f : Fmt} {l : List Sng} {O : List Int} (hf : FmtOK f) (hg : SngsOK l) (h : ordE l.length O ≠ 0) : laE f l O = ordE l.length O ∧ laN f l O = 0 := by
  have h1 := bothE_ok hf hg
  unfold laE laN
  rw [if_neg (by rw [h1]; simp), if_pos h, if_pos (.inr h)]
  exact ⟨rfl, rfl⟩
theorem LaRs.to {f : Fmt} {l : List Sng} {O : List Int} {r : AV} {m' : List (Option Blk)} (h : LaRs f l O r m') : LaS f l O r m' := by
  cases h with
  | bad h hr hm =>
    obtain ⟨h1, h2⟩ := la_bad (O := O) h
    exact .bad (by rw [h1]; exact h) (by rw [h1, h2]; exact hr) hm
  | ord hf hg h hr hm =>
    obtain ⟨h1, h2⟩ := la_ord hf hg h
    exact .bad (by rw [h1]; exact h) (by rw [h1, h2]; exact hr) hm
  | rule hf hg hO i hi h hn hr hm =>
    obtain ⟨h1, h2⟩ := la_rule hf hg hO hi h hn
    exact .bad (by rw [h1]; decide) (by rw [h1, h2]; exact hr) hm
  | limit hf hg hO h hn hr hm =>
    obtain ⟨h1, h2⟩ := la_limit hf hg hO h hn
    exact .bad (by rw [h1]; decide) (by rw [h1, h2]; exact hr) hm
  | ok hf hg hO h hr hm =>
    obtain ⟨h1, h2⟩ := la_ok hf hg hO h
    exact .ok hf hg hO h h1 h2 (by rw [h1, h2]; exact hr) hm
end Go.Sx

namespace Go.Sx
open Go Go.Proofs
set_option maxRecDepth 10000
set_option maxHeartbeats 8000000
/-! ### The examples -/
open Classical in
theorem s26 (a b : List Int) (ha : a.length ≤ 1000000) : PSpec Tryd.prog 35 [.one (.lst true [.int .i64] (i64s a)), .one (.lst true [.int .i64] (i64s b))] (xP (a = b)) := by
  have la := i64s_len a
  have lb := i64s_len b
  by_cases hl : a.length = b.length
  rotate_left
  · refine spec_of pMix (O := []) Tryd.func35 (c := bodyOf Tryd.f35) rfl (by kernel_rfl) (by kernel_rfl) Tryd.ntmps35 (res := [.tmp 4]) (by kernel_rfl) ?_
    repeat' ((conv => whnf); first | refine Rng.g ?_ | refine Ob.g ?_ | refine Ob.e ?_ | refine Ob.m ?_ | refine Ob.mk (Nat.le_of_ble_eq_true rfl) ?_ | refine JoinVC.on ?_ | refine Nils.mk (fun h => ?_) ?_ | refine Val.t ?_ | refine Val.d ?_ | refine Mm.mk ?_ | (refine Br.mk (fun h => ?_) (fun h => ?_) <;> first | (exfalso; omega; done) | (exfalso; simp at h; done) | skip))
    repeat refine Mm.mk ?_
    refine EndVC.mk _ rfl _ _ ⟨rfl, rfl⟩ ?_
    refine ⟨[], rfl, rfl, ?_, ?_⟩ <;> repeat' (first | exact trivial | exact rfl | exact Iff.rfl | apply And.intro)
    exact fun h => hl (by rw [h])
  refine spec_of pMix (O := []) Tryd.func35 (c := bodyOf Tryd.f35) rfl (by kernel_rfl) (by kernel_rfl) Tryd.ntmps35 (res := [.tmp 4]) (by kernel_rfl) ?_
  repeat' ((conv => whnf); first | refine Rng.g ?_ | refine Ob.g ?_ | refine Ob.e ?_ | refine Ob.m ?_ | refine Ob.mk (Nat.le_of_ble_eq_true rfl) ?_ | refine JoinVC.on ?_ | refine Nils.mk (fun h => ?_) ?_ | refine Val.t ?_ | refine Val.d ?_ | refine Mm.mk ?_ | (refine Br.mk (fun h => ?_) (fun h => ?_) <;> first | (exfalso; omega; done) | (exfalso; simp at h; done) | skip))
  refine LoopVC.mk (fun n st => ∃ (i : Nat), i ≤ a.length ∧ n = a.length - i ∧ (∀ j, j < i → a.getD j 0 = b.getD j 0) ∧ st = ⟨0, envA 26 [(0, .x (.one (.lst true [.int .i64] (i64s a)))), (1, .x (.one (.lst true [.int .i64] (i64s b)))), (5, .int .i64 (i : Int))], []⟩) _ _ ⟨0, Nat.zero_le _, rfl, fun j hj => absurd hj (Nat.not_lt_zero j), rfl⟩ ?_ ?_
  · refine ⟨[], rfl, rfl, ?_, ?_⟩ <;> repeat' (first | exact trivial | exact rfl | exact Iff.rfl | apply And.intro)
  rintro n _ ⟨i, hi, hm, hj, rfl⟩
  have g1 : rI (i64s a) (i : Int).toNat 0 = a.getD i 0 := by rw [Int.toNat_natCast]; exact i64s_get a i
  have g2 : rI (i64s b) (i : Int).toNat 0 = b.getD i 0 := by rw [Int.toNat_natCast]; exact i64s_get b i
  by_cases hi' : i < a.length
  · by_cases he : a.getD i 0 = b.getD i 0
    · repeat' ((conv => whnf); first | refine Rng.g ?_ | refine Ob.g ?_ | refine Ob.e ?_ | refine Ob.m ?_ | refine Ob.mk (Nat.le_of_ble_eq_true rfl) ?_ | refine JoinVC.on ?_ | refine Nils.mk (fun h => ?_) ?_ | refine Val.t ?_ | refine Val.d ?_ | refine Mm.mk ?_ | (refine Br.mk (fun h => ?_) (fun h => ?_) <;> first | (exfalso; omega; done) | (exfalso; simp at h; done) | skip))
      refine Back.mk (a.length - (i + 1)) _ (by omega) ⟨i + 1, by omega, rfl, fun j hj' => ?_, rfl⟩ ?_
      · rcases Nat.lt_succ_iff_lt_or_eq.1 hj' with h' | rfl
        · exact hj j h'
        · exact he
      · refine ⟨[], rfl, rfl, ?_, ?_⟩ <;> repeat' (first | exact trivial | exact rfl | exact Iff.rfl | apply And.intro)
    · repeat' ((conv => whnf); first | refine Rng.g ?_ | refine Ob.g ?_ | refine Ob.e ?_ | refine Ob.m ?_ | refine Ob.mk (Nat.le_of_ble_eq_true rfl) ?_ | refine JoinVC.on ?_ | refine Nils.mk (fun h => ?_) ?_ | refine Val.t ?_ | refine Val.d ?_ | refine Mm.mk ?_ | (refine Br.mk (fun h => ?_) (fun h => ?_) <;> first | (exfalso; omega; done) | (exfalso; simp at h; done) | skip))
      repeat refine Mm.mk ?_
      refine EndVC.mk _ rfl _ _ ⟨rfl, rfl⟩ ?_
      refine ⟨[], rfl, rfl, ?_, ?_⟩ <;> repeat' (first | exact trivial | exact rfl | exact Iff.rfl | apply And.intro)
      exact fun h => he (by rw [h])
  · repeat' ((conv => whnf); first | refine Rng.g ?_ | refine Ob.g ?_ | refine Ob.e ?_ | refine Ob.m ?_ | refine Ob.mk (Nat.le_of_ble_eq_true rfl) ?_ | refine JoinVC.on ?_ | refine Nils.mk (fun h => ?_) ?_ | refine Val.t ?_ | refine Val.d ?_ | refine Mm.mk ?_ | (refine Br.mk (fun h => ?_) (fun h => ?_) <;> first | (exfalso; omega; done) | (exfalso; simp at h; done) | skip))
    repeat refine Mm.mk ?_
    refine EndVC.mk _ rfl _ _ ⟨rfl, rfl⟩ ?_
    refine ⟨[], rfl, rfl, ?_, ?_⟩ <;> repeat' (first | exact trivial | exact rfl | exact Iff.rfl | apply And.intro)
    exact list_ext_getD hl fun j hj' => hj j (by omega)
open Classical in
theorem s34 (a b : List Int) (ha : a.length ≤ 1000000) : PSpec Tryd.prog 27 [.one (.lst true [.int .i64] (i64s a)), .one (.lst true [.int .i64] (i64s b))] (xP (a = b)) := by
  have la := i64s_len a
  have lb := i64s_len b
  by_cases hl : a.length = b.length
  rotate_left
  · refine spec_of pMix (O := []) Tryd.func27 (c := bodyOf Tryd.f27) rfl (by kernel_rfl) (by kernel_rfl) Tryd.ntmps27 (res := [.tmp 4]) (by kernel_rfl) ?_
    repeat' ((conv => whnf); first | refine Rng.g ?_ | refine Ob.g ?_ | refine Ob.e ?_ | refine Ob.m ?_ | refine Ob.mk (Nat.le_of_ble_eq_true rfl) ?_ | refine JoinVC.on ?_ | refine Nils.mk (fun h => ?_) ?_ | refine Val.t ?_ | refine Val.d ?_ | refine Mm.mk ?_ | (refine Br.mk (fun h => ?_) (fun h => ?_) <;> first | (exfalso; omega; done) | (exfalso; simp at h; done) | skip))
    repeat refine Mm.mk ?_
    refine EndVC.mk _ rfl _ _ ⟨rfl, rfl⟩ ?_
    refine ⟨[], rfl, rfl, ?_, ?_⟩ <;> repeat' (first | exact trivial | exact rfl | exact Iff.rfl | apply And.intro)
    exact fun h => hl (by rw [h])
  refine spec_of pMix (O := []) Tryd.func27 (c := bodyOf Tryd.f27) rfl (by kernel_rfl) (by kernel_rfl) Tryd.ntmps27 (res := [.tmp 4]) (by kernel_rfl) ?_
  repeat' ((conv => whnf); first | refine Rng.g ?_ | refine Ob.g ?_ | refine Ob.e ?_ | refine Ob.m ?_ | refine Ob.mk (Nat.le_of_ble_eq_true rfl) ?_ | refine JoinVC.on ?_ | refine Nils.mk (fun h => ?_) ?_ | refine Val.t ?_ | refine Val.d ?_ | refine Mm.mk ?_ | (refine Br.mk (fun h => ?_) (fun h => ?_) <;> first | (exfalso; omega; done) | (exfalso; simp at h; done) | skip))
  refine LoopVC.mk (fun n st => ∃ (i : Nat), i ≤ a.length ∧ n = a.length - i ∧ (∀ j, j < i → a.getD j 0 = b.getD j 0) ∧ st = ⟨0, envA 26 [(0, .x (.one (.lst true [.int .i64] (i64s a)))), (1, .x (.one (.lst true [.int .i64] (i64s b)))), (5, .int .i64 (i : Int))], []⟩) _ _ ⟨0, Nat.zero_le _, rfl, fun j hj => absurd hj (Nat.not_lt_zero j), rfl⟩ ?_ ?_
  · refine ⟨[], rfl, rfl, ?_, ?_⟩ <;> repeat' (first | exact trivial | exact rfl | exact Iff.rfl | apply And.intro)
  rintro n _ ⟨i, hi, hm, hj, rfl⟩
  have g1 : rI (i64s a) (i : Int).toNat 0 = a.getD i 0 := by rw [Int.toNat_natCast]; exact i64s_get a i
  have g2 : rI (i64s b) (i : Int).toNat 0 = b.getD i 0 := by rw [Int.toNat_natCast]; exact i64s_get b i
  by_cases hi' : i < a.length
  · by_cases he : a.getD i 0 = b.getD i 0
    · repeat' ((conv => whnf); first | refine Rng.g ?_ | refine Ob.g ?_ | refine Ob.e ?_ | refine Ob.m ?_ | refine Ob.mk (Nat.le_of_ble_eq_true rfl) ?_ | refine JoinVC.on ?_ | refine Nils.mk (fun h => ?_) ?_ | refine Val.t ?_ | refine Val.d ?_ | refine Mm.mk ?_ | (refine Br.mk (fun h => ?_) (fun h => ?_) <;> first | (exfalso; omega; done) | (exfalso; simp at h; done) | skip))
      refine Back.mk (a.length - (i + 1)) _ (by omega) ⟨i + 1, by omega, rfl, fun j hj' => ?_, rfl⟩ ?_
      · rcases Nat.lt_succ_iff_lt_or_eq.1 hj' with h' | rfl
        · exact hj j h'
        · exact he
      · refine ⟨[], rfl, rfl, ?_, ?_⟩ <;> repeat' (first | exact trivial | exact rfl | exact Iff.rfl | apply And.intro)
    · repeat' ((conv => whnf); first | refine Rng.g ?_ | refine Ob.g ?_ | refine Ob.e ?_ | refine Ob.m ?_ | refine Ob.mk (Nat.le_of_ble_eq_true rfl) ?_ | refine JoinVC.on ?_ | refine Nils.mk (fun h => ?_) ?_ | refine Val.t ?_ | refine Val.d ?_ | refine Mm.mk ?_ | (refine Br.mk (fun h => ?_) (fun h => ?_) <;> first | (exfalso; omega; done) | (exfalso; simp at h; done) | skip))
      repeat refine Mm.mk ?_
      refine EndVC.mk _ rfl _ _ ⟨rfl, rfl⟩ ?_
      refine ⟨[], rfl, rfl, ?_, ?_⟩ <;> repeat' (first | exact trivial | exact rfl | exact Iff.rfl | apply And.intro)
      exact fun h => he (by rw [h])
  · repeat' ((conv => whnf); first | refine Rng.g ?_ | refine Ob.g ?_ | refine Ob.e ?_ | refine Ob.m ?_ | refine Ob.mk (Nat.le_of_ble_eq_true rfl) ?_ | refine JoinVC.on ?_ | refine Nils.mk (fun h => ?_) ?_ | refine Val.t ?_ | refine Val.d ?_ | refine Mm.mk ?_ | (refine Br.mk (fun h => ?_) (fun h => ?_) <;> first | (exfalso; omega; done) | (exfalso; simp at h; done) | skip))
    repeat refine Mm.mk ?_
    refine EndVC.mk _ rfl _ _ ⟨rfl, rfl⟩ ?_
    refine ⟨[], rfl, rfl, ?_, ?_⟩ <;> repeat' (first | exact trivial | exact rfl | exact Iff.rfl | apply And.intro)
    exact list_ext_getD hl fun j hj' => hj j (by omega)
theorem s32 : HSpec Tryd.prog 32 [] [] (fun r m' => r = .tup [f4.x, .one (.own 0)] ∧ m' = [some (.row 25 false KSng (sngA l4))]) := by
  refine spec_of pMix (O := []) Tryd.func32 (c := bodyOf Tryd.f32) rfl (by kernel_rfl) (by kernel_rfl) Tryd.ntmps32 (res := [.cell 0 23, .tmp 1]) (by kernel_rfl) ?_
  repeat' ((conv => whnf); first | refine Rng.g ?_ | refine Ob.g ?_ | refine Ob.e ?_ | refine Ob.m ?_ | refine Ob.mk (Nat.le_of_ble_eq_true rfl) ?_ | refine JoinVC.on ?_ | refine Nils.mk (fun h => ?_) ?_ | refine Val.t ?_ | refine Val.d ?_ | refine Mm.mk ?_ | (refine Br.mk (fun h => ?_) (fun h => ?_) <;> first | (exfalso; omega; done) | (exfalso; simp at h; done) | skip))
  repeat refine Mm.mk ?_
  refine EndVC.mk _ rfl _ _ ⟨rfl, rfl⟩ ?_
  refine ⟨[some 2], rfl, rfl, ?_, ?_⟩ <;> repeat' (first | exact trivial | exact rfl | exact Iff.rfl | apply And.intro)
instance (f : Fmt) (l : List Sng) (O : List Int) (i : Nat) : Decidable (okAt f l O i) := by unfold okAt; exact inferInstance
instance (f : Fmt) (l : List Sng) (O : List Int) : Decidable (LayOK f l O) := by unfold LayOK; exact inferInstance
theorem alb4 : AlbOK [f4] l4 := ⟨by decide, fun i hi => by
  have : i = 0 := by simp at hi; omega
  subst this
  exact f4_ok, l4_ok⟩
theorem face4 {k i j : Nat} : faceP [f4] l4 k i j ↔ k = 0 ∧ i < j ∧ j ≤ 3 ∧ LayOK f4 l4 (seqL i (j - i)) := by
  constructor
  · rintro ⟨h1, h2, h3, h4⟩
    have : k = 0 := by simp at h1; omega
    subst this
    exact ⟨rfl, h2, h3, h4⟩
  · rintro ⟨rfl, h2, h3, h4⟩
    exact ⟨by simp, h2, h3, h4⟩
theorem prc4 {p : List Int} (h : PrcOK [f4] l4 (Reach [f4] l4) p) : p = [0, 5, 10, 10] := by
  have f01 : faceP [f4] l4 0 0 1 := face4.2 ⟨rfl, by decide, by decide, by decide⟩
  have f12 : faceP [f4] l4 0 1 2 := face4.2 ⟨rfl, by decide, by decide, by decide⟩
  have f13 : faceP [f4] l4 0 1 3 := face4.2 ⟨rfl, by decide, by decide, by decide⟩
  have n02 : ∀ k, ¬ faceP [f4] l4 k 0 2 := fun k h => (by have := (face4.1 h).2.2.2; revert this; decide)
  have n03 : ∀ k, ¬ faceP [f4] l4 k 0 3 := fun k h => (by have := (face4.1 h).2.2.2; revert this; decide)
  have c : ([f4].getD 0 f0).cost = 5 := rfl
  have r1 : Reach [f4] l4 1 5 := by have := Reach.nil.step f01; rw [c] at this; exact this
  have r2 : Reach [f4] l4 2 10 := by have := r1.step f12; rw [c] at this; exact this
  have r3 : Reach [f4] l4 3 10 := by have := r1.step f13; rw [c] at this; exact this
  have b1 : ∀ x, Reach [f4] l4 1 x → 5 ≤ x := fun x hx => by
    cases hx with
    | @step i _ k c' h1 h2 =>
      have h3 := (reach_bd alb4 h1).1
      have h4 := (face4.1 h2).1
      subst h4
      rw [c]
      omega
  have bb : ∀ n x, (n = 2 ∨ n = 3) → Reach [f4] l4 n x → 10 ≤ x := fun n x hn hx => by
    cases hx with
    | nil => omega
    | @step i _ k c' h1 h2 =>
      have h5 := face4.1 h2
      have h4 := h5.1
      subst h4
      rw [c]
      have hi : i = 0 ∨ i = 1 ∨ i = 2 := by omega
      rcases hi with rfl | rfl | rfl
      · rcases hn with rfl | rfl
        · exact absurd h2 (n02 0)
        · exact absurd h2 (n03 0)
      · have := b1 _ h1
        omega
      · cases h1 with
        | @step i' _ k' c'' g1 g2 =>
          have g5 := face4.1 g2
          have g4 := g5.1
          subst g4
          rw [c]
          have := (reach_bd alb4 g1).1
          omega
  have u : ∀ n v x, n ≤ 3 → Reach [f4] l4 n v → (∀ y, Reach [f4] l4 n y → v ≤ y) → p.getD n 0 = x → x = v := fun n v x hn h1 h2 h3 => by
    rcases h.each n hn with ⟨h4, h5⟩ | ⟨h4, h5, h6⟩
    · exact absurd h1 (h5 v)
    · have a := h6 v h1
      have b := h2 _ h5
      omega
  have hlen : p.length = 4 := h.len
  match p, hlen with
  | [x0, x1, x2, x3], _ =>
    have e0 := u 0 0 x0 (by decide) .nil (fun y hy => (reach_bd alb4 hy).1) rfl
    have e1 := u 1 5 x1 (by decide) r1 b1 rfl
    have e2 := u 2 10 x2 (by decide) r2 (fun y hy => bb 2 y (.inl rfl) hy) rfl
    have e3 := u 3 10 x3 (by decide) r3 (fun y hy => bb 3 y (.inr rfl) hy) rfl
    rw [e0, e1, e2, e3]
theorem s11 : PSpec Tryd.prog 8 [] (xP True) := by
  have n4 : ∀ i, ([f4].getD i f0).nm.size ≤ 9223372036854775807 := fun i => by
    cases i with
    | zero => decide
    | succ n => exact (by decide : f0.nm.size ≤ 9223372036854775807)
  refine spec_of pMix (O := []) Tryd.func8 (c := bodyOf Tryd.f8) rfl (by kernel_rfl) (by kernel_rfl) Tryd.ntmps8 (res := [.tmp 0]) (by kernel_rfl) ?_
  repeat' ((conv => whnf); first | refine Rng.g ?_ | refine Ob.g ?_ | refine Ob.e ?_ | refine Ob.m ?_ | refine Ob.mk (Nat.le_of_ble_eq_true rfl) ?_ | refine JoinVC.on ?_ | refine Nils.mk (fun h => ?_) ?_ | refine Val.t ?_ | refine Val.d ?_ | refine Mm.mk ?_ | (refine Br.mk (fun h => ?_) (fun h => ?_) <;> first | (exfalso; omega; done) | (exfalso; simp at h; done) | skip))
  conv => whnf
  refine CallVC.mk [] _ _ _ rfl rfl rfl (s32) (fun r m' h' => ?_)
  obtain ⟨rfl, rfl⟩ := h'
  conv => whnf
  repeat' ((conv => whnf); first | refine Rng.g ?_ | refine Ob.g ?_ | refine Ob.e ?_ | refine Ob.m ?_ | refine Ob.mk (Nat.le_of_ble_eq_true rfl) ?_ | refine JoinVC.on ?_ | refine Nils.mk (fun h => ?_) ?_ | refine Val.t ?_ | refine Val.d ?_ | refine Mm.mk ?_ | (refine Br.mk (fun h => ?_) (fun h => ?_) <;> first | (exfalso; omega; done) | (exfalso; simp at h; done) | skip))
  conv => whnf
  refine CallVC.mk [] _ _ _ rfl rfl rfl (s18 f4 l4 (by decide) (by decide)) (fun r m' h' => ?_)
  cases h' with
  | bad h hr hm => exact absurd (bothE_ok f4_ok l4_ok) h
  | none _ _ hN hr hm => exact absurd lay4 hN
  | ok _ _ _ hr hm =>
    subst hr hm
    rw [allO4]
    repeat' ((conv => whnf); first | refine Rng.g ?_ | refine Ob.g ?_ | refine Ob.e ?_ | refine Ob.m ?_ | refine Ob.mk (Nat.le_of_ble_eq_true rfl) ?_ | refine JoinVC.on ?_ | refine Nils.mk (fun h => ?_) ?_ | refine Val.t ?_ | refine Val.d ?_ | refine Mm.mk ?_ | (refine Br.mk (fun h => ?_) (fun h => ?_) <;> first | (exfalso; omega; done) | (exfalso; simp at h; done) | skip))
    conv => whnf
    refine CallVC.mk [] _ _ _ rfl rfl rfl (s33 [f4] l4 n4) (fun r m' h' => ?_)
    rcases h' with ⟨he, rfl, rfl⟩ | ⟨_, p, hp, rfl, rfl⟩
    · exact absurd (fmsE_0.2 alb4) he
    rw [prc4 hp]
    have k1 := s26 [1, 0, 2] [1, 0, 2] (by decide)
    have k2 := s34 [0, 5, 10, 10] [0, 5, 10, 10] (by decide)
    repeat' ((conv => whnf); first | refine Rng.g ?_ | refine Ob.g ?_ | refine Ob.e ?_ | refine Ob.m ?_ | refine Ob.mk (Nat.le_of_ble_eq_true rfl) ?_ | refine JoinVC.on ?_ | refine Nils.mk (fun h => ?_) ?_ | refine Val.t ?_ | refine Val.d ?_ | refine Mm.mk ?_ | refine CallVC.pure rfl (k1) ?_ | refine CallVC.pure rfl (k2) ?_ | refine CallVC0.pure rfl (k1) ?_ | refine CallVC0.pure rfl (k2) ?_ | (refine Br.mk (fun h => ?_) (fun h => ?_) <;> first | (exfalso; omega; done) | (exfalso; simp at h; done) | skip))
    repeat refine Mm.mk ?_
    refine EndVC.mk _ rfl _ _ ⟨rfl, rfl⟩ ?_
    refine ⟨[], rfl, rfl, ?_, ?_⟩ <;> repeat' (first | exact trivial | exact rfl | exact Iff.rfl | apply And.intro)
    exact ⟨fun _ => trivial, fun _ => rfl⟩
end Go.Sx

namespace Go.Sx
open Go Go.Proofs
set_option maxRecDepth 10000
set_option maxHeartbeats 8000000
/-! ### Which prices are right -/
def outP (n : Int) : Prop := n < -1 ∨ n > 25165824
instance (n : Int) : Decidable (outP n) := by unfold outP; exact inferInstance
theorem s51 (n : Int) : PSpec Tryd.prog 56 [I n] (xP (outP n)) := by
  have c := s52 n (-1) 25165824
  refine spec_of pMix (O := []) Tryd.func56 (c := bodyOf Tryd.f56) rfl (by kernel_rfl) (by kernel_rfl) Tryd.ntmps56 (res := [.tmp 2]) (by kernel_rfl) ?_
  repeat' ((conv => whnf); first | refine Rng.g ?_ | refine Ob.g ?_ | refine Ob.e ?_ | refine Ob.m ?_ | refine Ob.mk (Nat.le_of_ble_eq_true rfl) ?_ | refine JoinVC.on ?_ | refine Nils.mk (fun h => ?_) ?_ | refine Val.t ?_ | refine Val.d ?_ | refine Mm.mk ?_ | refine CallVC.pure rfl (c) ?_ | refine CallVC0.pure rfl (c) ?_ | (refine Br.mk (fun h => ?_) (fun h => ?_) <;> first | (exfalso; omega; done) | (exfalso; simp at h; done) | skip))
  repeat refine Mm.mk ?_
  refine EndVC.mk _ rfl _ _ ⟨rfl, rfl⟩ ?_
  refine ⟨[], rfl, rfl, ?_, ?_⟩ <;> repeat' (first | exact trivial | exact rfl | exact Iff.rfl | apply And.intro)
theorem s75 (xs : List Int) (hl : xs.length ≤ 1000000) : HSpec Tryd.prog 70 [.one (.lst true [.int .i64] (i64s xs)), .one (.fn 56 [])] [] (fun r m' => ∃ k, r = .x (I k) ∧ m' = [] ∧ (k = -1 ∧ (∀ j, j < xs.length → ¬ outP (xs.getD j 0)) ∨ 0 ≤ k ∧ ∃ j, j < xs.length ∧ outP (xs.getD j 0))) := by
  have lo := i64s_len xs
  refine spec_of pMix (O := []) Tryd.func70 (c := bodyOf Tryd.f70) rfl (by kernel_rfl) (by kernel_rfl) Tryd.ntmps70 (res := [.tmp 4]) (by kernel_rfl) ?_
  repeat' ((conv => whnf); first | refine Rng.g ?_ | refine Ob.g ?_ | refine Ob.e ?_ | refine Ob.m ?_ | refine Ob.mk (Nat.le_of_ble_eq_true rfl) ?_ | refine JoinVC.on ?_ | refine Nils.mk (fun h => ?_) ?_ | refine Val.t ?_ | refine Val.d ?_ | refine Mm.mk ?_ | (refine Br.mk (fun h => ?_) (fun h => ?_) <;> first | (exfalso; omega; done) | (exfalso; simp at h; done) | skip))
  refine LoopVC.mk (fun n st => ∃ (i : Nat), i ≤ xs.length ∧ n = xs.length - i ∧ (∀ j, j < i → ¬ outP (xs.getD j 0)) ∧ st = ⟨0, envA 19 [(0, .x (.one (.lst true [.int .i64] (i64s xs)))), (1, .x (.one (.fn 56 []))), (6, .x (.one (.lst true [.int .i64] (i64s xs)))), (7, .int .i64 (xs.length : Int)), (8, .int .i64 (i : Int))], []⟩) _ _ ⟨0, Nat.zero_le _, rfl, fun j hj => absurd hj (Nat.not_lt_zero j), rfl⟩ ?_ ?_
  · refine ⟨[], rfl, rfl, ?_, ?_⟩ <;> repeat' (first | exact trivial | exact rfl | exact Iff.rfl | apply And.intro)
    all_goals exact congrArg Int.ofNat lo
  rintro n _ ⟨i, hi, hm, hj, rfl⟩
  have gi : rI (i64s xs) (i : Int).toNat 0 = xs.getD i 0 := by rw [Int.toNat_natCast]; exact i64s_get xs i
  have c := s51 (xs.getD i 0)
  by_cases hi' : i < xs.length
  · by_cases hv : outP (xs.getD i 0)
    · repeat' ((conv => whnf); first | rw [gi] | refine Rng.g ?_ | refine Ob.g ?_ | refine Ob.e ?_ | refine Ob.m ?_ | refine Ob.mk (Nat.le_of_ble_eq_true rfl) ?_ | refine JoinVC.on ?_ | refine Nils.mk (fun h => ?_) ?_ | refine Val.t ?_ | refine Val.d ?_ | refine Mm.mk ?_ | refine CallVC.pure rfl (c) ?_ | refine CallVC0.pure rfl (c) ?_ | (refine Br.mk (fun h => ?_) (fun h => ?_) <;> first | (exfalso; omega; done) | (exfalso; simp at h; done) | skip))
      · repeat refine Mm.mk ?_
        conv => whnf
        refine EndVC.mk _ rfl _ _ (⟨(i : Int), rfl, rfl, .inr ⟨by omega, i, hi', hv⟩⟩) ?_
        refine ⟨[], rfl, rfl, ?_, ?_⟩ <;> repeat' (first | exact trivial | exact rfl | exact Iff.rfl | apply And.intro)
      · exact absurd hv h
    · repeat' ((conv => whnf); first | rw [gi] | refine Rng.g ?_ | refine Ob.g ?_ | refine Ob.e ?_ | refine Ob.m ?_ | refine Ob.mk (Nat.le_of_ble_eq_true rfl) ?_ | refine JoinVC.on ?_ | refine Nils.mk (fun h => ?_) ?_ | refine Val.t ?_ | refine Val.d ?_ | refine Mm.mk ?_ | refine CallVC.pure rfl (c) ?_ | refine CallVC0.pure rfl (c) ?_ | (refine Br.mk (fun h => ?_) (fun h => ?_) <;> first | (exfalso; omega; done) | (exfalso; simp at h; done) | skip))
      · exact absurd h hv
      · refine Back.mk (xs.length - (i + 1)) _ (by omega) ⟨i + 1, by omega, rfl, fun j hj' => ?_, rfl⟩ ?_
        · rcases Nat.lt_succ_iff_lt_or_eq.1 hj' with h' | rfl
          · exact hj j h'
          · exact hv
        · refine ⟨[], rfl, rfl, ?_, ?_⟩ <;> repeat' (first | exact trivial | exact rfl | exact Iff.rfl | apply And.intro)
  · repeat' ((conv => whnf); first | refine Rng.g ?_ | refine Ob.g ?_ | refine Ob.e ?_ | refine Ob.m ?_ | refine Ob.mk (Nat.le_of_ble_eq_true rfl) ?_ | refine JoinVC.on ?_ | refine Nils.mk (fun h => ?_) ?_ | refine Val.t ?_ | refine Val.d ?_ | refine Mm.mk ?_ | (refine Br.mk (fun h => ?_) (fun h => ?_) <;> first | (exfalso; omega; done) | (exfalso; simp at h; done) | skip))
    repeat refine Mm.mk ?_
    conv => whnf
    refine EndVC.mk _ rfl _ _ (⟨-1, rfl, rfl, .inl ⟨rfl, fun j hj' => hj j (by omega)⟩⟩) ?_
    refine ⟨[], rfl, rfl, ?_, ?_⟩ <;> repeat' (first | exact trivial | exact rfl | exact Iff.rfl | apply And.intro)
open Classical in
theorem s50 (xs : List Int) (hl : xs.length ≤ 1000000) : PSpec Tryd.prog 55 [.one (.lst true [.int .i64] (i64s xs)), .one (.fn 56 [])] (xP (∃ j, j < xs.length ∧ outP (xs.getD j 0))) := by
  refine spec_of pMix (O := []) Tryd.func55 (c := bodyOf Tryd.f55) rfl (by kernel_rfl) (by kernel_rfl) Tryd.ntmps55 (res := [.tmp 4]) (by kernel_rfl) ?_
  repeat' ((conv => whnf); first | refine Rng.g ?_ | refine Ob.g ?_ | refine Ob.e ?_ | refine Ob.m ?_ | refine Ob.mk (Nat.le_of_ble_eq_true rfl) ?_ | refine JoinVC.on ?_ | refine Nils.mk (fun h => ?_) ?_ | refine Val.t ?_ | refine Val.d ?_ | refine Mm.mk ?_ | (refine Br.mk (fun h => ?_) (fun h => ?_) <;> first | (exfalso; omega; done) | (exfalso; simp at h; done) | skip))
  conv => whnf
  refine CallVC.mk [] _ _ _ rfl rfl rfl (s75 xs hl) (fun r m' h' => ?_)
  obtain ⟨k, rfl, rfl, hk⟩ := h'
  conv => whnf
  repeat' ((conv => whnf); first | refine Rng.g ?_ | refine Ob.g ?_ | refine Ob.e ?_ | refine Ob.m ?_ | refine Ob.mk (Nat.le_of_ble_eq_true rfl) ?_ | refine JoinVC.on ?_ | refine Nils.mk (fun h => ?_) ?_ | refine Val.t ?_ | refine Val.d ?_ | refine Mm.mk ?_ | (refine Br.mk (fun h => ?_) (fun h => ?_) <;> first | (exfalso; omega; done) | (exfalso; simp at h; done) | skip))
  repeat refine Mm.mk ?_
  refine EndVC.mk _ rfl _ _ ⟨rfl, rfl⟩ ?_
  refine ⟨[], rfl, rfl, ?_, ?_⟩ <;> repeat' (first | exact trivial | exact rfl | exact Iff.rfl | apply And.intro)
  show _ ↔ _
  rcases hk with ⟨rfl, h⟩ | ⟨h0, h⟩
  · exact ⟨fun h1 => absurd h1 (by decide), fun ⟨j, h1, h2⟩ => absurd h2 (h j h1)⟩
  · exact ⟨fun _ => h, fun _ => h0⟩
/-- A face that begins before i, or one of these, shows that the price of its end is not right. -/
def badP (F : List Fmt) (l : List Sng) (p : List Int) (i : Nat) (L : List (Nat × Nat)) (j : Nat) : Prop :=
  ∃ i' k, ((i' < i ∧ faceP F l k i' j) ∨ (i' = i ∧ (k, j) ∈ L)) ∧ 0 ≤ p.getD i' 0 ∧ (p.getD j 0 < 0 ∨ p.getD i' 0 + (F.getD k f0).cost < p.getD j 0)
structure WrgOK (n : Nat) (B : Nat → Prop) (a : Int) : Prop where
  rng : 1 ≤ a ∧ a ≤ n + 1
  bad : a ≤ n → B a.toNat
  least : ∀ j, B j → a ≤ j
def stepG (F : List Fmt) (p : List Int) (i : Nat) (a : Int) (q : Nat × Nat) : Int := if p.getD q.2 0 < 0 ∨ p.getD i 0 + (F.getD q.1 f0).cost < p.getD q.2 0 then (if (q.2 : Int) < a then (q.2 : Int) else a) else a
theorem stepG_ok {F : List Fmt} {l : List Sng} {p : List Int} {i : Nat} {L : List (Nat × Nat)} {a : Int} (h : WrgOK l.length (badP F l p i L) a) (h0 : 0 ≤ p.getD i 0) {q : Nat × Nat} (hq : faceP F l q.1 i q.2) : WrgOK l.length (badP F l p i (L ++ [q])) (stepG F p i a q) := by
  have hle := hq.le
  have hlt := hq.lt
  have up : ∀ j, badP F l p i L j → badP F l p i (L ++ [q]) j := fun j ⟨i', k, h1, h2⟩ => ⟨i', k, h1.imp id fun h => ⟨h.1, List.mem_append_left _ h.2⟩, h2⟩
  have dn : ∀ j, badP F l p i (L ++ [q]) j → badP F l p i L j ∨ (j = q.2 ∧ (p.getD q.2 0 < 0 ∨ p.getD i 0 + (F.getD q.1 f0).cost < p.getD q.2 0)) := fun j ⟨i', k, h1, h2, h3⟩ => by
    rcases h1 with h1 | ⟨rfl, h1⟩
    · exact .inl ⟨i', k, .inl h1, h2, h3⟩
    · rcases List.mem_append.1 h1 with h4 | h4
      · exact .inl ⟨i', k, .inr ⟨rfl, h4⟩, h2, h3⟩
      · have e := List.mem_singleton.1 h4
        have e1 : k = q.1 := congrArg Prod.fst e
        have e2 : j = q.2 := congrArg Prod.snd e
        subst e1 e2
        exact .inr ⟨rfl, h3⟩
  have hr := h.rng
  unfold stepG
  split
  · rename_i hb
    have hnew : badP F l p i (L ++ [q]) q.2 := ⟨i, q.1, .inr ⟨rfl, List.mem_append_right _ List.mem_cons_self⟩, h0, hb⟩
    split
    · rename_i hl
      refine ⟨by omega, fun _ => by rw [Int.toNat_natCast]; exact hnew, fun j hj => ?_⟩
      rcases dn j hj with h1 | ⟨rfl, _⟩
      · have := h.least j h1
        omega
      · exact Int.le_refl _
    · rename_i hl
      refine ⟨hr, fun hn => up _ (h.bad hn), fun j hj => ?_⟩
      rcases dn j hj with h1 | ⟨rfl, _⟩
      · exact h.least j h1
      · omega
  · rename_i hb
    refine ⟨hr, fun hn => up _ (h.bad hn), fun j hj => ?_⟩
    rcases dn j hj with h1 | ⟨rfl, h1⟩
    · exact h.least j h1
    · exact absurd h1 hb
theorem WrgOK.congr {n : Nat} {B B' : Nat → Prop} {a : Int} (h : WrgOK n B a) (e : ∀ j, B j ↔ B' j) : WrgOK n B' a := ⟨h.rng, fun hn => (e _).1 (h.bad hn), fun j hj => h.least j ((e j).2 hj)⟩
theorem badP_next {F : List Fmt} {l : List Sng} {p : List Int} {i : Nat} (j : Nat) : badP F l p i (facesL F l i) j ↔ badP F l p (i + 1) [] j := by
  constructor
  · rintro ⟨i', k, h1, h2⟩
    refine ⟨i', k, .inl ?_, h2⟩
    rcases h1 with h1 | ⟨rfl, h1⟩
    · exact ⟨by omega, h1.2⟩
    · exact ⟨Nat.lt_succ_self _, mem_faces.1 h1⟩
  · rintro ⟨i', k, h1, h2⟩
    refine ⟨i', k, ?_, h2⟩
    rcases h1 with h1 | ⟨_, h1⟩
    · by_cases e : i' = i
      · subst e
        exact .inr ⟨rfl, mem_faces.2 h1.2⟩
      · exact .inl ⟨by omega, h1.2⟩
    · simp at h1
theorem badP_skip {F : List Fmt} {l : List Sng} {p : List Int} {i : Nat} (h0 : p.getD i 0 < 0) (j : Nat) : badP F l p i [] j ↔ badP F l p (i + 1) [] j := by
  constructor
  · rintro ⟨i', k, h1, h2⟩
    refine ⟨i', k, .inl ?_, h2⟩
    rcases h1 with h1 | ⟨_, h1⟩
    · exact ⟨by omega, h1.2⟩
    · simp at h1
  · rintro ⟨i', k, h1, h2, h3⟩
    rcases h1 with h1 | ⟨_, h1⟩
    · refine ⟨i', k, .inl ⟨?_, h1.2⟩, h2, h3⟩
      have : i' ≠ i := fun e => by rw [e] at h2; omega
      omega
    · simp at h1
/-- What is wrong with prices. -/
def wrongP (F : List Fmt) (l : List Sng) (p : List Int) (j : Nat) : Prop := badP F l p l.length [] j
theorem wrg_start {F : List Fmt} {l : List Sng} {p : List Int} : WrgOK l.length (badP F l p 0 []) ((l.length : Int) + 1) := ⟨by omega, fun h => by omega, fun j ⟨i', k, h1, _⟩ => by
  rcases h1 with h1 | ⟨_, h1⟩
  · omega
  · simp at h1⟩
inductive CpRs (F : List Fmt) (l : List Sng) (p : List Int) (r : AV) : Prop
  | bad (h : fmsE F l ≠ 0) (hr : r = .tup [I 0, I (fmsE F l)])
  | len (hA : AlbOK F l) (h : p.length ≠ l.length + 1) (hr : r = .tup [I 0, I 17])
  | rng (hA : AlbOK F l) (hl : p.length = l.length + 1) (h : p.getD 0 0 ≠ 0 ∨ ∃ j, j < p.length ∧ outP (p.getD j 0)) (hr : r = .tup [I 0, I 3])
  | wrong (hA : AlbOK F l) (hl : p.length = l.length + 1) (hz : p.getD 0 0 = 0) (hin : ∀ j, j < p.length → ¬ outP (p.getD j 0)) (j : Nat) (hj : 1 ≤ j ∧ j ≤ l.length) (h : wrongP F l p j) (hm : ∀ j', wrongP F l p j' → j ≤ j') (hr : r = .tup [I (j : Int), I 16])
  | ok (hA : AlbOK F l) (hl : p.length = l.length + 1) (hz : p.getD 0 0 = 0) (hin : ∀ j, j < p.length → ¬ outP (p.getD j 0)) (h : ∀ j, ¬ wrongP F l p j) (hr : r = .tup [I 0, I 0])
end Go.Sx

namespace Go.Sx
open Go Go.Proofs
set_option maxRecDepth 10000
set_option maxHeartbeats 8000000
noncomputable def rf20 : Code := cB (cS (cS (cS (cB (cF (cS (cS (cL (cB (cS (cF (cS (cS (cS (cS (bodyOf Tryd.f25))))))))))))))))
theorem s20 (F : List Fmt) (l : List Sng) (p : List Int) (hI : ∀ i, (F.getD i f0).nm.size ≤ 9223372036854775807) (hpl : p.length ≤ 1000000) : HSpec Tryd.prog 25 [lFmt F, lSng l, .one (.lst true [.int .i64] (i64s p))] [] (fun r m' => CpRs F l p r ∧ m' = []) := by
  have ll := sngA_len l
  have lpi := i64s_len p
  refine spec_of pMix (O := []) Tryd.func25 (c := bodyOf Tryd.f25) rfl (by kernel_rfl) (by kernel_rfl) Tryd.ntmps25 (res := [.tmp 6, .tmp 7]) (by kernel_rfl) ?_
  repeat' ((conv => whnf); first | refine Rng.g ?_ | refine Ob.g ?_ | refine Ob.e ?_ | refine Ob.m ?_ | refine Ob.mk (Nat.le_of_ble_eq_true rfl) ?_ | refine JoinVC.on ?_ | refine Nils.mk (fun h => ?_) ?_ | refine Val.t ?_ | refine Val.d ?_ | refine Mm.mk ?_ | (refine Br.mk (fun h => ?_) (fun h => ?_) <;> first | (exfalso; omega; done) | (exfalso; simp at h; done) | skip))
  conv => whnf
  refine CallVC.mk [] _ _ _ rfl rfl rfl (s49 F l hI) (fun r m' h' => ?_)
  rcases h' with ⟨he, rfl, rfl⟩ | ⟨he, rfl, rfl⟩ | ⟨hA, rfl, rfl⟩
  · repeat' ((conv => whnf); first | refine Rng.g ?_ | refine Ob.g ?_ | refine Ob.e ?_ | refine Ob.m ?_ | refine Ob.mk (Nat.le_of_ble_eq_true rfl) ?_ | refine JoinVC.on ?_ | refine Nils.mk (fun h => ?_) ?_ | refine Val.t ?_ | refine Val.d ?_ | refine Mm.mk ?_ | (refine Br.mk (fun h => ?_) (fun h => ?_) <;> first | (exfalso; omega; done) | (exfalso; simp at h; done) | skip))
    repeat refine Mm.mk ?_
    conv => whnf
    refine EndVC.mk _ rfl _ _ (⟨.bad he rfl, rfl⟩) ?_
    refine ⟨[], rfl, rfl, ?_, ?_⟩ <;> repeat' (first | exact trivial | exact rfl | exact Iff.rfl | apply And.intro)
  · repeat' ((conv => whnf); first | refine Rng.g ?_ | refine Ob.g ?_ | refine Ob.e ?_ | refine Ob.m ?_ | refine Ob.mk (Nat.le_of_ble_eq_true rfl) ?_ | refine JoinVC.on ?_ | refine Nils.mk (fun h => ?_) ?_ | refine Val.t ?_ | refine Val.d ?_ | refine Mm.mk ?_ | (refine Br.mk (fun h => ?_) (fun h => ?_) <;> first | (exfalso; omega; done) | (exfalso; simp at h; done) | skip))
    repeat refine Mm.mk ?_
    conv => whnf
    refine EndVC.mk _ rfl _ _ (⟨.bad he rfl, rfl⟩) ?_
    refine ⟨[], rfl, rfl, ?_, ?_⟩ <;> repeat' (first | exact trivial | exact rfl | exact Iff.rfl | apply And.intro)
  have h24 := hA.sngs.len
  by_cases hl : p.length = l.length + 1
  rotate_left
  · repeat' ((conv => whnf); first | refine Rng.g ?_ | refine Ob.g ?_ | refine Ob.e ?_ | refine Ob.m ?_ | refine Ob.mk (Nat.le_of_ble_eq_true rfl) ?_ | refine JoinVC.on ?_ | refine Nils.mk (fun h => ?_) ?_ | refine Val.t ?_ | refine Val.d ?_ | refine Mm.mk ?_ | (refine Br.mk (fun h => ?_) (fun h => ?_) <;> first | (exfalso; omega; done) | (exfalso; simp at h; done) | skip))
    repeat refine Mm.mk ?_
    conv => whnf
    refine EndVC.mk _ rfl _ _ (⟨.len hA hl rfl, rfl⟩) ?_
    refine ⟨[], rfl, rfl, ?_, ?_⟩ <;> repeat' (first | exact trivial | exact rfl | exact Iff.rfl | apply And.intro)
  have gz : rI (i64s p) (Int.toNat 0) 0 = p.getD 0 0 := i64s_get p 0
  by_cases hz : p.getD 0 0 = 0
  rotate_left
  · repeat' ((conv => whnf); first | rw [gz] | refine Rng.g ?_ | refine Ob.g ?_ | refine Ob.e ?_ | refine Ob.m ?_ | refine Ob.mk (Nat.le_of_ble_eq_true rfl) ?_ | refine JoinVC.on ?_ | refine Nils.mk (fun h => ?_) ?_ | refine Val.t ?_ | refine Val.d ?_ | refine Mm.mk ?_ | (refine Br.mk (fun h => ?_) (fun h => ?_) <;> first | (exfalso; omega; done) | (exfalso; simp at h; done) | skip))
    repeat refine Mm.mk ?_
    conv => whnf
    refine EndVC.mk _ rfl _ _ (⟨.rng hA hl (.inl hz) rfl, rfl⟩) ?_
    refine ⟨[], rfl, rfl, ?_, ?_⟩ <;> repeat' (first | exact trivial | exact rfl | exact Iff.rfl | apply And.intro)
  have c50 := s50 p hpl
  by_cases hin : ∃ j, j < p.length ∧ outP (p.getD j 0)
  · repeat' ((conv => whnf); first | rw [gz] | refine Rng.g ?_ | refine Ob.g ?_ | refine Ob.e ?_ | refine Ob.m ?_ | refine Ob.mk (Nat.le_of_ble_eq_true rfl) ?_ | refine JoinVC.on ?_ | refine Nils.mk (fun h => ?_) ?_ | refine Val.t ?_ | refine Val.d ?_ | refine Mm.mk ?_ | refine CallVC.pure rfl (c50) ?_ | refine CallVC0.pure rfl (c50) ?_ | (refine Br.mk (fun h => ?_) (fun h => ?_) <;> first | (exfalso; omega; done) | (exfalso; simp at h; done) | skip))
    · repeat refine Mm.mk ?_
      conv => whnf
      refine EndVC.mk _ rfl _ _ (⟨.rng hA hl (.inr hin) rfl, rfl⟩) ?_
      refine ⟨[], rfl, rfl, ?_, ?_⟩ <;> repeat' (first | exact trivial | exact rfl | exact Iff.rfl | apply And.intro)
    · exact absurd hin h
  repeat' ((conv => whnf); first | rw [gz] | refine Rng.g ?_ | refine Ob.g ?_ | refine Ob.e ?_ | refine Ob.m ?_ | refine Ob.mk (Nat.le_of_ble_eq_true rfl) ?_ | refine JoinVC.on ?_ | refine Nils.mk (fun h => ?_) ?_ | refine Val.t ?_ | refine Val.d ?_ | refine Mm.mk ?_ | refine CallVC.pure rfl (c50) ?_ | refine CallVC0.pure rfl (c50) ?_ | (refine Br.mk (fun h => ?_) (fun h => ?_) <;> first | (exfalso; omega; done) | (exfalso; simp at h; done) | skip))
  · exact absurd h hin
  have hin' : ∀ j, j < p.length → ¬ outP (p.getD j 0) := fun j hj ho => hin ⟨j, hj, ho⟩
  have hbd : ∀ j, j < p.length → -1 ≤ p.getD j 0 ∧ p.getD j 0 ≤ 25165824 := fun j hj => by have := hin' j hj; unfold outP at this; omega
  refine LoopVC.mk (fun m st => ∃ (i : Nat) (a : Int), i ≤ l.length ∧ m = l.length - i ∧ WrgOK l.length (badP F l p i []) a ∧ st = ⟨0, envA 99 [(1, .x (lSng l)), (5, .x (.one (.ptr 0 0))), (8, .x (.one (.ptr 2 0))), (10, .x (.one (.ptr 3 0))), (44, .int .i64 (l.length : Int)), (45, .int .i64 (i : Int))], [some (.box 38 [.lst true [.int .i64] (i64s p)]), some (bAlb F l (l.length : Int)), some (.box 82 [.ptr 1 0]), some (.box 3 [.int .i64 a])]⟩) _ _ ⟨0, (l.length : Int) + 1, Nat.zero_le _, rfl, wrg_start, rfl⟩ ?_ ?_
  · refine ⟨[some 0, some 1, some 2, some 3], rfl, rfl, ?_, ?_⟩ <;> repeat' (first | exact trivial | exact rfl | exact Iff.rfl | apply And.intro)
    all_goals rw [ll]
  rintro m _ ⟨i, a, hi, hm, hW, rfl⟩
  have hWr := hW.rng
  by_cases hi' : i < l.length
  rotate_left
  · have ei : i = l.length := by omega
    subst ei
    by_cases ha : a ≤ l.length
    · repeat' ((conv => whnf); first | refine Rng.g ?_ | refine Ob.g ?_ | refine Ob.e ?_ | refine Ob.m ?_ | refine Ob.mk (Nat.le_of_ble_eq_true rfl) ?_ | refine JoinVC.on ?_ | refine Nils.mk (fun h => ?_) ?_ | refine Val.t ?_ | refine Val.d ?_ | refine Mm.mk ?_ | (refine Br.mk (fun h => ?_) (fun h => ?_) <;> first | (exfalso; omega; done) | (exfalso; simp at h; done) | skip))
      repeat refine Mm.mk ?_
      conv => whnf
      refine EndVC.mk _ rfl _ _ (⟨.wrong hA hl hz hin' a.toNat (by omega) (hW.bad ha) (fun j hj => (by have := hW.least j hj; omega)) rfl, rfl⟩) ?_
      refine ⟨[], rfl, rfl, ?_, ?_⟩ <;> repeat' (first | exact trivial | exact rfl | exact Iff.rfl | apply And.intro)
      omega
    · have hno : ∀ j, ¬ wrongP F l p j := fun j hj => by
        have h1 := hW.least j hj
        obtain ⟨i', k, h2, _⟩ := hj
        rcases h2 with ⟨_, h2⟩ | ⟨_, h2⟩
        · have := h2.le
          omega
        · simp at h2
      repeat' ((conv => whnf); first | refine Rng.g ?_ | refine Ob.g ?_ | refine Ob.e ?_ | refine Ob.m ?_ | refine Ob.mk (Nat.le_of_ble_eq_true rfl) ?_ | refine JoinVC.on ?_ | refine Nils.mk (fun h => ?_) ?_ | refine Val.t ?_ | refine Val.d ?_ | refine Mm.mk ?_ | (refine Br.mk (fun h => ?_) (fun h => ?_) <;> first | (exfalso; omega; done) | (exfalso; simp at h; done) | skip))
      repeat refine Mm.mk ?_
      conv => whnf
      refine EndVC.mk _ rfl _ _ (⟨.ok hA hl hz hin' hno rfl, rfl⟩) ?_
      refine ⟨[], rfl, rfl, ?_, ?_⟩ <;> repeat' (first | exact trivial | exact rfl | exact Iff.rfl | apply And.intro)
  have gi : rI (i64s p) (i : Int).toNat 0 = p.getD i 0 := by rw [Int.toNat_natCast]; exact i64s_get p i
  have hbi := hbd i (by omega)
  by_cases h0 : p.getD i 0 < 0
  · repeat' ((conv => whnf); first | rw [gi] | refine Rng.g ?_ | refine Ob.g ?_ | refine Ob.e ?_ | refine Ob.m ?_ | refine Ob.mk (Nat.le_of_ble_eq_true rfl) ?_ | refine JoinVC.on ?_ | refine Nils.mk (fun h => ?_) ?_ | refine Val.t ?_ | refine Val.d ?_ | refine Mm.mk ?_ | (refine Br.mk (fun h => ?_) (fun h => ?_) <;> first | (exfalso; omega; done) | (exfalso; simp at h; done) | skip))
    refine Back.mk (l.length - (i + 1)) _ (by omega) ⟨i + 1, a, by omega, rfl, hW.congr (badP_skip h0), rfl⟩ ?_
    refine ⟨[some 0, some 1, some 2, some 3], rfl, rfl, ?_, ?_⟩ <;> repeat' (first | exact trivial | exact rfl | exact Iff.rfl | apply And.intro)
  repeat' ((conv => whnf); first | rw [gi] | refine Rng.g ?_ | refine Ob.g ?_ | refine Ob.e ?_ | refine Ob.m ?_ | refine Ob.mk (Nat.le_of_ble_eq_true rfl) ?_ | refine JoinVC.on ?_ | refine Nils.mk (fun h => ?_) ?_ | refine Val.t ?_ | refine Val.d ?_ | refine Mm.mk ?_ | (refine Br.mk (fun h => ?_) (fun h => ?_) <;> first | (exfalso; omega; done) | (exfalso; simp at h; done) | skip))
  conv => whnf
  refine CallVC.mk [1] _ _ _ rfl rfl rfl (s53 F l (l.length : Int) (i : Int)) (fun r m' h' => ?_)
  obtain ⟨rfl, rfl⟩ := h'
  conv => whnf
  have lpl := plsA_len F l
  have h8 := hA.few
  repeat' ((conv => whnf); first | refine Rng.g ?_ | refine Ob.g ?_ | refine Ob.e ?_ | refine Ob.m ?_ | refine Ob.mk (Nat.le_of_ble_eq_true rfl) ?_ | refine JoinVC.on ?_ | refine Nils.mk (fun h => ?_) ?_ | refine Val.t ?_ | refine Val.d ?_ | refine Mm.mk ?_ | (refine Br.mk (fun h => ?_) (fun h => ?_) <;> first | (exfalso; omega; done) | (exfalso; simp at h; done) | skip))
  change RangeVC _ _ _ _ _
  refine RangeVC.mk e69 (isem_of_awp pMix [] Tryd.func69 (c := bodyOf Tryd.f69) rfl (by kernel_rfl) Tryd.ntmps69 (by kernel_rfl) ?_)
  repeat' ((conv => whnf); first | refine Rng.g ?_ | refine Ob.g ?_ | refine Ob.e ?_ | refine Ob.m ?_ | refine Ob.mk (Nat.le_of_ble_eq_true rfl) ?_ | refine JoinVC.on ?_ | refine Nils.mk (fun h => ?_) ?_ | refine Val.t ?_ | refine Val.d ?_ | refine Mm.mk ?_ | (refine Br.mk (fun h => ?_) (fun h => ?_) <;> first | (exfalso; omega; done) | (exfalso; simp at h; done) | skip))
  refine LoopVC.mk (fun n st => ∃ (k : Nat) (a : Int), k ≤ F.length ∧ n = F.length - k ∧ WrgOK l.length (badP F l p i (fcs F l i k)) a ∧ st = ⟨8, envA 43 [(0, .x (.one (.yld 7))), (1, .x (.one (.ptr 5 0))), (2, .x (.one (.ptr 6 0))), (10, .x (.one (.lst true [.pt KPl] (plsA F l)))), (11, .int .i64 (F.length : Int)), (12, .int .i64 (k : Int))], [some (.box 38 [.lst true [.int .i64] (i64s p)]), some (bAlb F l (l.length : Int)), some (.box 82 [.ptr 1 0]), some (.box 3 [.int .i64 a]), some (.box 3 [.int .i64 (i : Int)]), some (.box 82 [.ptr 1 0]), some (.box 3 [.int .i64 (i : Int)]), some (.loop [56] (cAs rf20) (cBo rf20) (envA 99 [(1, .x (lSng l)), (5, .x (.one (.ptr 0 0))), (8, .x (.one (.ptr 2 0))), (10, .x (.one (.ptr 3 0))), (11, .x (.one (.ptr 4 0))), (44, .int .i64 (l.length : Int)), (45, .int .i64 (i : Int))]) .ready)]⟩) _ _ ⟨0, a, Nat.zero_le _, rfl, hW, rfl⟩ ?_ ?_
  · refine ⟨[some 0, some 1, some 2, some 3, some 4, some 5, some 6, some 7], rfl, rfl, ?_, ?_⟩ <;> repeat' (first | exact trivial | exact rfl | exact Iff.rfl | apply And.intro)
    exact congrArg Int.ofNat lpl
  clear hW hWr
  rintro n _ ⟨k, a, hk, hn, hW, rfl⟩
  by_cases hk' : k < F.length
  rotate_left
  · have ek : k = F.length := by omega
    subst ek
    repeat' ((conv => whnf); first | refine Rng.g ?_ | refine Ob.g ?_ | refine Ob.e ?_ | refine Ob.m ?_ | refine Ob.mk (Nat.le_of_ble_eq_true rfl) ?_ | refine JoinVC.on ?_ | refine Nils.mk (fun h => ?_) ?_ | refine Val.t ?_ | refine Val.d ?_ | refine Mm.mk ?_ | (refine Br.mk (fun h => ?_) (fun h => ?_) <;> first | (exfalso; omega; done) | (exfalso; simp at h; done) | skip))
    refine Back.mk (l.length - (i + 1)) _ (by omega) ⟨i + 1, a, by omega, rfl, hW.congr badP_next, rfl⟩ ?_
    refine ⟨[some 0, some 1, some 2, some 3], rfl, rfl, ?_, ?_⟩ <;> repeat' (first | exact trivial | exact rfl | exact Iff.rfl | apply And.intro)
  have gk : rA (plsA F l) (k : Int).toNat 0 = plA (F.getD k f0) l := by rw [Int.toNat_natCast]; exact plsA_at F l k hk'
  have hf := hA.fmts k hk'
  repeat' ((conv => whnf); first | rw [gk] | refine Rng.g ?_ | refine Ob.g ?_ | refine Ob.e ?_ | refine Ob.m ?_ | refine Ob.mk (Nat.le_of_ble_eq_true rfl) ?_ | refine JoinVC.on ?_ | refine Nils.mk (fun h => ?_) ?_ | refine Val.t ?_ | refine Val.d ?_ | refine Mm.mk ?_ | (refine Br.mk (fun h => ?_) (fun h => ?_) <;> first | (exfalso; omega; done) | (exfalso; simp at h; done) | skip))
  refine LoopVC.mk (fun n st => ∃ (j : Nat) (a : Int), i < j ∧ j ≤ l.length + 1 ∧ n = l.length + 1 - j ∧ WrgOK l.length (badP F l p i (fcs F l i k ++ fcj F l i k j)) a ∧ st = ⟨8, envA 43 [(0, .x (.one (.yld 7))), (1, .x (.one (.ptr 5 0))), (2, .x (.one (.ptr 6 0))), (4, .int .i64 (k : Int)), (5, .x (plX (F.getD k f0) l)), (6, .int .i64 (j : Int)), (10, .x (.one (.lst true [.pt KPl] (plsA F l)))), (11, .int .i64 (F.length : Int)), (12, .int .i64 (k : Int))], [some (.box 38 [.lst true [.int .i64] (i64s p)]), some (bAlb F l (l.length : Int)), some (.box 82 [.ptr 1 0]), some (.box 3 [.int .i64 a]), some (.box 3 [.int .i64 (i : Int)]), some (.box 82 [.ptr 1 0]), some (.box 3 [.int .i64 (i : Int)]), some (.loop [56] (cAs rf20) (cBo rf20) (envA 99 [(1, .x (lSng l)), (5, .x (.one (.ptr 0 0))), (8, .x (.one (.ptr 2 0))), (10, .x (.one (.ptr 3 0))), (11, .x (.one (.ptr 4 0))), (44, .int .i64 (l.length : Int)), (45, .int .i64 (i : Int))]) .ready)]⟩) _ _ ⟨i + 1, a, by omega, by omega, rfl, by rw [fcj_lo _ (Nat.le_refl _), List.append_nil]; exact hW, rfl⟩ ?_ ?_
  · refine ⟨[some 0, some 1, some 2, some 3, some 4, some 5, some 6, some 7], rfl, rfl, ?_, ?_⟩ <;> repeat' (first | exact trivial | exact rfl | exact Iff.rfl | apply And.intro)
  clear hW
  rintro n2 _ ⟨j, a, hij, hj, hn2, hW, rfl⟩
  have c54 := s54g i j (by omega)
  by_cases hj' : j ≤ l.length
  rotate_left
  · have ej : j = l.length + 1 := by omega
    subst ej
    repeat' ((conv => whnf); first | refine Rng.g ?_ | refine Ob.g ?_ | refine Ob.e ?_ | refine Ob.m ?_ | refine Ob.mk (Nat.le_of_ble_eq_true rfl) ?_ | refine JoinVC.on ?_ | refine Nils.mk (fun h => ?_) ?_ | refine Val.t ?_ | refine Val.d ?_ | refine Mm.mk ?_ | (refine Br.mk (fun h => ?_) (fun h => ?_) <;> first | (exfalso; omega; done) | (exfalso; simp at h; done) | skip))
    refine Back.mk (F.length - (k + 1)) _ (by omega) ⟨k + 1, a, by omega, rfl, hW, rfl⟩ ?_
    refine ⟨[some 0, some 1, some 2, some 3, some 4, some 5, some 6, some 7], rfl, rfl, ?_, ?_⟩ <;> repeat' (first | exact trivial | exact rfl | exact Iff.rfl | apply And.intro)
  have c47 := s47p (F.getD k f0) l (seqL i (j - i)) hf hA.sngs (fun x hx => by rw [seqL_len] at hx; rw [seqL_get _ _ _ hx]; omega) (by rw [seqL_len]; omega)
  repeat' ((conv => whnf); first | refine Rng.g ?_ | refine Ob.g ?_ | refine Ob.e ?_ | refine Ob.m ?_ | refine Ob.mk (Nat.le_of_ble_eq_true rfl) ?_ | refine JoinVC.on ?_ | refine Nils.mk (fun h => ?_) ?_ | refine Val.t ?_ | refine Val.d ?_ | refine Mm.mk ?_ | (refine Br.mk (fun h => ?_) (fun h => ?_) <;> first | (exfalso; omega; done) | (exfalso; simp at h; done) | skip))
  conv => whnf
  refine CallVC.mk [] _ _ _ rfl rfl rfl (c54) (fun r m' h' => ?_)
  obtain ⟨rfl, rfl⟩ := h'
  conv => whnf
  repeat' ((conv => whnf); first | refine Rng.g ?_ | refine Ob.g ?_ | refine Ob.e ?_ | refine Ob.m ?_ | refine Ob.mk (Nat.le_of_ble_eq_true rfl) ?_ | refine JoinVC.on ?_ | refine Nils.mk (fun h => ?_) ?_ | refine Val.t ?_ | refine Val.d ?_ | refine Mm.mk ?_ | (refine Br.mk (fun h => ?_) (fun h => ?_) <;> first | (exfalso; omega; done) | (exfalso; simp at h; done) | skip))
  conv => whnf
  refine CallVC.mk [] _ _ _ rfl rfl rfl (c47) (fun r m' h' => ?_)
  obtain ⟨rfl, rfl⟩ := h'
  conv => whnf
  repeat refine Mm.mk ?_
  try refine JoinVC.on ?_
  refine Br.mk (fun hL => ?_) (fun hL => ?_)
  rotate_left
  · have hnf : ¬ faceP F l k i j := fun h => hL h.lay
    rw [fcj_end hA hij hnf hj] at hW
    repeat' ((conv => whnf); first | refine Rng.g ?_ | refine Ob.g ?_ | refine Ob.e ?_ | refine Ob.m ?_ | refine Ob.mk (Nat.le_of_ble_eq_true rfl) ?_ | refine JoinVC.on ?_ | refine Nils.mk (fun h => ?_) ?_ | refine Val.t ?_ | refine Val.d ?_ | refine Mm.mk ?_ | (refine Br.mk (fun h => ?_) (fun h => ?_) <;> first | (exfalso; omega; done) | (exfalso; simp at h; done) | skip))
    refine Back.mk (F.length - (k + 1)) _ (by omega) ⟨k + 1, a, by omega, rfl, hW, rfl⟩ ?_
    refine ⟨[some 0, some 1, some 2, some 3, some 4, some 5, some 6, some 7], rfl, rfl, ?_, ?_⟩ <;> repeat' (first | exact trivial | exact rfl | exact Iff.rfl | apply And.intro)
  have hface : faceP F l k i j := ⟨hk', hij, hj', hL⟩
  have hW' := stepG_ok hW (by omega) (q := (k, j)) hface
  have hbj := hbd j (by omega)
  have hco := hf.cost
  have gc : rI (rA (plsA F l) (k : Int).toNat 0) 0 (0 + 0 + (0 + 1 + 1 + 1 + 1 + 1 + 1 + 1)) = (F.getD k f0).cost := by rw [gk]; rfl
  have et : ((i : Int) + ((j : Int) - i)).toNat = j := by omega
  have gj : rI (i64s p) ((i : Int) + ((j : Int) - i)).toNat 0 = p.getD j 0 := by rw [et]; exact i64s_get p j
  have fin : WrgOK l.length (badP F l p i (fcs F l i k ++ fcj F l i k (j + 1))) (stepG F p i a (k, j)) := by rw [fcj_yes hface, ← List.append_assoc]; exact hW'
  repeat' ((conv => whnf); first | refine Rng.g ?_ | refine Ob.g ?_ | refine Ob.e ?_ | refine Ob.m ?_ | refine Ob.mk (Nat.le_of_ble_eq_true rfl) ?_ | refine JoinVC.on ?_ | refine Nils.mk (fun h => ?_) ?_ | refine Val.t ?_ | refine Val.d ?_ | refine Mm.mk ?_ | (refine Br.mk (fun h => ?_) (fun h => ?_) <;> first | (exfalso; omega; done) | (exfalso; simp at h; done) | skip))
  change YieldVC _ _ _ _ _
  refine YieldVC.mk (rsem_of_awp pMix [] rfl (by kernel_rfl) ?_)
  repeat' ((conv => whnf); first | refine Rng.g ?_ | refine Ob.g ?_ | refine Ob.e ?_ | refine Ob.m ?_ | refine Ob.mk (Nat.le_of_ble_eq_true rfl) ?_ | refine JoinVC.on ?_ | refine Nils.mk (fun h => ?_) ?_ | refine Val.t ?_ | refine Val.d ?_ | refine Mm.mk ?_ | (refine Br.mk (fun h => ?_) (fun h => ?_) <;> first | (exfalso; omega; done) | (exfalso; simp at h; done) | skip))
  · have e : stepG F p i a (k, j) = if ((i : Int) + ((j : Int) - i)) < a then ((i : Int) + ((j : Int) - i)) else a := by
      rw [show (i : Int) + ((j : Int) - i) = j by omega]
      exact if_pos (.inl (by show p.getD j 0 < 0; omega))
    refine Back.mk (l.length + 1 - (j + 1)) _ (by omega) ⟨j + 1, _, by omega, by omega, rfl, fin, rfl⟩ ?_
    rw [e]
    refine ⟨[some 0, some 1, some 2, some 3, some 4, some 5, some 6, some 7], rfl, rfl, ?_, ?_⟩ <;> repeat' (first | exact trivial | exact rfl | exact Iff.rfl | apply And.intro)
  · have e : stepG F p i a (k, j) = if ((i : Int) + ((j : Int) - i)) < a then ((i : Int) + ((j : Int) - i)) else a := by
      rw [show (i : Int) + ((j : Int) - i) = j by omega]
      exact if_pos (.inr (by show p.getD i 0 + (F.getD k f0).cost < p.getD j 0; omega))
    refine Back.mk (l.length + 1 - (j + 1)) _ (by omega) ⟨j + 1, _, by omega, by omega, rfl, fin, rfl⟩ ?_
    rw [e]
    refine ⟨[some 0, some 1, some 2, some 3, some 4, some 5, some 6, some 7], rfl, rfl, ?_, ?_⟩ <;> repeat' (first | exact trivial | exact rfl | exact Iff.rfl | apply And.intro)
  · have e : stepG F p i a (k, j) = a := if_neg (by show ¬ (p.getD j 0 < 0 ∨ p.getD i 0 + (F.getD k f0).cost < p.getD j 0); omega)
    refine Back.mk (l.length + 1 - (j + 1)) _ (by omega) ⟨j + 1, _, by omega, by omega, rfl, fin, rfl⟩ ?_
    rw [e]
    refine ⟨[some 0, some 1, some 2, some 3, some 4, some 5, some 6, some 7], rfl, rfl, ?_, ?_⟩ <;> repeat' (first | exact trivial | exact rfl | exact Iff.rfl | apply And.intro)
end Go.Sx

namespace Go.Sx
open Go Go.Proofs
set_option maxRecDepth 10000
set_option maxHeartbeats 8000000
/-! ### SidePriced -/
theorem s48 (F : List Fmt) (l : List Sng) : PSpec Tryd.prog 47 [lFmt F, lSng l] (.x (I (fmsE F l))) := by
  have lF := fmtA_len F
  have ll := sngA_len l
  by_cases h8 : F.length = 0 ∨ 8 < F.length
  · rw [fmsE_many h8]
    refine spec_of pMix (O := []) Tryd.func47 (c := bodyOf Tryd.f47) rfl (by kernel_rfl) (by kernel_rfl) Tryd.ntmps47 (res := [.tmp 4]) (by kernel_rfl) ?_
    repeat' ((conv => whnf); first | refine Rng.g ?_ | refine Ob.g ?_ | refine Ob.e ?_ | refine Ob.m ?_ | refine Ob.mk (Nat.le_of_ble_eq_true rfl) ?_ | refine JoinVC.on ?_ | refine Nils.mk (fun h => ?_) ?_ | refine Val.t ?_ | refine Val.d ?_ | refine Mm.mk ?_ | (refine Br.mk (fun h => ?_) (fun h => ?_) <;> first | (exfalso; omega; done) | (exfalso; simp at h; done) | skip))
    all_goals
      repeat refine Mm.mk ?_
      refine EndVC.mk _ rfl _ _ ⟨rfl, rfl⟩ ?_
      refine ⟨[], rfl, rfl, ?_, ?_⟩ <;> repeat' (first | exact trivial | exact rfl | exact Iff.rfl | apply And.intro)
  refine spec_of pMix (O := []) Tryd.func47 (c := bodyOf Tryd.f47) rfl (by kernel_rfl) (by kernel_rfl) Tryd.ntmps47 (res := [.tmp 4]) (by kernel_rfl) ?_
  repeat' ((conv => whnf); first | refine Rng.g ?_ | refine Ob.g ?_ | refine Ob.e ?_ | refine Ob.m ?_ | refine Ob.mk (Nat.le_of_ble_eq_true rfl) ?_ | refine JoinVC.on ?_ | refine Nils.mk (fun h => ?_) ?_ | refine Val.t ?_ | refine Val.d ?_ | refine Mm.mk ?_ | (refine Br.mk (fun h => ?_) (fun h => ?_) <;> first | (exfalso; omega; done) | (exfalso; simp at h; done) | skip))
  refine LoopVC.mk (fun n st => ∃ (i : Nat), i ≤ F.length ∧ n = F.length - i ∧ (∀ j, j < i → FmtOK (F.getD j f0)) ∧ st = ⟨0, envA 31 [(0, .x (lFmt F)), (1, .x (lSng l)), (5, .int .i64 (i : Int))], []⟩) _ _ ⟨0, Nat.zero_le _, rfl, fun j hj => absurd hj (Nat.not_lt_zero j), rfl⟩ ?_ ?_
  · refine ⟨[], rfl, rfl, ?_, ?_⟩ <;> repeat' (first | exact trivial | exact rfl | exact Iff.rfl | apply And.intro)
  rintro n _ ⟨i, hi, hn, hj, rfl⟩
  by_cases hi' : i < F.length
  · obtain ⟨g0', g1, g2, g3, g4, g5, g6, g7⟩ := fmt_at F i hi'
    have et : (i : Int).toNat = i := Int.toNat_natCast i
    obtain ⟨f, hfe⟩ : ∃ f, F.getD i f0 = f := ⟨_, rfl⟩
    rw [hfe] at g0' g1 g2 g3 g4 g5 g6 g7
    have k0 := s41 f
    by_cases h0 : FmtOK f
    · rw [fmtE_ok h0] at k0
      repeat' ((conv => whnf); first | rw [et] | rw [g0'] | rw [g1] | rw [g2] | rw [g3] | rw [g4] | rw [g5] | rw [g6] | rw [g7] | refine Rng.g ?_ | refine Ob.g ?_ | refine Ob.e ?_ | refine Ob.m ?_ | refine Ob.mk (Nat.le_of_ble_eq_true rfl) ?_ | refine JoinVC.on ?_ | refine Nils.mk (fun h => ?_) ?_ | refine Val.t ?_ | refine Val.d ?_ | refine Mm.mk ?_ | refine CallVC.pure rfl (k0) ?_ | refine CallVC0.pure rfl (k0) ?_ | (refine Br.mk (fun h => ?_) (fun h => ?_) <;> first | (exfalso; omega; done) | (exfalso; simp at h; done) | skip))
      refine Back.mk (F.length - (i + 1)) _ (by omega) ⟨i + 1, by omega, rfl, fun j hj' => ?_, rfl⟩ ?_
      · rcases Nat.lt_succ_iff_lt_or_eq.1 hj' with h' | rfl
        · exact hj j h'
        · rw [hfe]; exact h0
      · refine ⟨[], rfl, rfl, ?_, ?_⟩ <;> repeat' (first | exact trivial | exact rfl | exact Iff.rfl | apply And.intro)
    · rw [fmtE_no h0] at k0
      have he : fmsE F l = 2 := fmsE_bad h8 hi' (by rw [hfe]; exact h0)
      rw [he]
      repeat' ((conv => whnf); first | rw [et] | rw [g0'] | rw [g1] | rw [g2] | rw [g3] | rw [g4] | rw [g5] | rw [g6] | rw [g7] | refine Rng.g ?_ | refine Ob.g ?_ | refine Ob.e ?_ | refine Ob.m ?_ | refine Ob.mk (Nat.le_of_ble_eq_true rfl) ?_ | refine JoinVC.on ?_ | refine Nils.mk (fun h => ?_) ?_ | refine Val.t ?_ | refine Val.d ?_ | refine Mm.mk ?_ | refine CallVC.pure rfl (k0) ?_ | refine CallVC0.pure rfl (k0) ?_ | (refine Br.mk (fun h => ?_) (fun h => ?_) <;> first | (exfalso; omega; done) | (exfalso; simp at h; done) | skip))
      repeat refine Mm.mk ?_
      refine EndVC.mk _ rfl _ _ ⟨rfl, rfl⟩ ?_
      refine ⟨[], rfl, rfl, ?_, ?_⟩ <;> repeat' (first | exact trivial | exact rfl | exact Iff.rfl | apply And.intro)
  · have ei : i = F.length := by omega
    subst ei
    have k1 := s42 l
    have he := fmsE_trk (l := l) h8 hj
    rw [he]
    repeat' ((conv => whnf); first | refine Rng.g ?_ | refine Ob.g ?_ | refine Ob.e ?_ | refine Ob.m ?_ | refine Ob.mk (Nat.le_of_ble_eq_true rfl) ?_ | refine JoinVC.on ?_ | refine Nils.mk (fun h => ?_) ?_ | refine Val.t ?_ | refine Val.d ?_ | refine Mm.mk ?_ | refine CallVC.pure rfl (k1) ?_ | refine CallVC0.pure rfl (k1) ?_ | (refine Br.mk (fun h => ?_) (fun h => ?_) <;> first | (exfalso; omega; done) | (exfalso; simp at h; done) | skip))
    repeat refine Mm.mk ?_
    refine EndVC.mk _ rfl _ _ ⟨rfl, rfl⟩ ?_
    refine ⟨[], rfl, rfl, ?_, ?_⟩ <;> repeat' (first | exact trivial | exact rfl | exact Iff.rfl | apply And.intro)
end Go.Sx

namespace Go.Sx
open Go Go.Proofs
set_option maxRecDepth 10000
set_option maxHeartbeats 16000000
/-! ### SideCheaper -/
end Go.Sx

namespace Go.Sx
open Go Go.Proofs
set_option maxRecDepth 10000
set_option maxHeartbeats 4000000
/-! ### Packings: plain laws -/
theorem OrdOK.up {n m : Nat} {O : List Int} (h : OrdOK n O) (hm : n ≤ m) : OrdOK m O := ⟨fun i hi => by have := h.rng i hi; omega, h.inj⟩
end Go.Sx

namespace Go.Sx
open Go Go.Proofs
set_option maxRecDepth 10000
set_option maxHeartbeats 8000000
/-! ### Sets of tracks as bits -/
end Go.Sx

namespace Go.Sx
open Go Go.Proofs
set_option maxRecDepth 10000
set_option maxHeartbeats 16000000
/-! ### The search for a packing -/
end Go.Sx

namespace Go.Sx
open Go Go.Proofs
set_option maxRecDepth 10000
set_option maxHeartbeats 16000000
end Go.Sx

namespace Go.Sx
open Go Go.Proofs
set_option maxRecDepth 10000
set_option maxHeartbeats 16000000
end Go.Sx

namespace Go.Sx
open Go Go.Proofs
set_option maxRecDepth 10000
set_option maxHeartbeats 16000000
theorem s59 (f : Fmt) (l : List Sng) (O : List Int) (hf : FmtOK f) (hg : SngsOK l) (hO : InR O l.length) (hl : O.length ≤ 100) : PSpec Tryd.prog 51 [f.x, lSng l, .one (.lst true [.int .i64] (i64s O))] (xP (LayOK f l O)) := by
  have lo := i64s_len O
  refine spec_of pMix (O := []) Tryd.func51 (c := bodyOf Tryd.f51) rfl (by kernel_rfl) (by kernel_rfl) Tryd.ntmps51 (res := [.tmp 6]) (by kernel_rfl) ?_
  repeat' ((conv => whnf); first | refine Rng.g ?_ | refine Ob.g ?_ | refine Ob.e ?_ | refine Ob.m ?_ | refine Ob.mk (Nat.le_of_ble_eq_true rfl) ?_ | refine JoinVC.on ?_ | refine Nils.mk (fun h => ?_) ?_ | refine Val.t ?_ | refine Val.d ?_ | refine Mm.mk ?_ | (refine Br.mk (fun h => ?_) (fun h => ?_) <;> first | (exfalso; omega; done) | (exfalso; simp at h; done) | skip))
  conv => whnf
  refine CallVC.mk [] _ _ _ rfl rfl rfl (s40 f l O hf hg hO hl) (fun r m' h' => ?_)
  obtain ⟨g, hG, rfl, rfl⟩ := h'
  conv => whnf
  by_cases e : g = O.length
  · subst e
    repeat' ((conv => whnf); first | refine Rng.g ?_ | refine Ob.g ?_ | refine Ob.e ?_ | refine Ob.m ?_ | refine Ob.mk (Nat.le_of_ble_eq_true rfl) ?_ | refine JoinVC.on ?_ | refine Nils.mk (fun h => ?_) ?_ | refine Val.t ?_ | refine Val.d ?_ | refine Mm.mk ?_ | (refine Br.mk (fun h => ?_) (fun h => ?_) <;> first | (exfalso; omega; done) | (exfalso; simp at h; done) | skip))
    repeat refine Mm.mk ?_
    refine EndVC.mk _ rfl _ _ ⟨rfl, rfl⟩ ?_
    refine ⟨[], rfl, rfl, ?_, ?_⟩ <;> repeat' (first | exact trivial | exact rfl | exact Iff.rfl | apply And.intro)
    show _ ↔ _
    exact ⟨fun h1 => ⟨fun i hi => hG.yes i hi, by omega⟩, fun h1 => by have := h1.2; omega⟩
  · have hgl := hG.le
    have hn : ¬ LayOK f l O := fun h1 => hG.no (by omega) (h1.1 g (by omega))
    repeat' ((conv => whnf); first | refine Rng.g ?_ | refine Ob.g ?_ | refine Ob.e ?_ | refine Ob.m ?_ | refine Ob.mk (Nat.le_of_ble_eq_true rfl) ?_ | refine JoinVC.on ?_ | refine Nils.mk (fun h => ?_) ?_ | refine Val.t ?_ | refine Val.d ?_ | refine Mm.mk ?_ | (refine Br.mk (fun h => ?_) (fun h => ?_) <;> first | (exfalso; omega; done) | (exfalso; simp at h; done) | skip))
    repeat refine Mm.mk ?_
    refine EndVC.mk _ rfl _ _ ⟨rfl, rfl⟩ ?_
    refine ⟨[], rfl, rfl, ?_, ?_⟩ <;> repeat' (first | exact trivial | exact rfl | exact Iff.rfl | apply And.intro)
    exact hn
/-! ### The usual order, by insertion from the end -/
end Go.Sx

namespace Go.Sx
open Go Go.Proofs
set_option maxRecDepth 10000
set_option maxHeartbeats 8000000
/-! ### SideAlbums: the first tracks alone -/
theorem getD_take (l : List Sng) (n j : Nat) (h : j < n) : (l.take n).getD j g0 = l.getD j g0 := by
  rw [List.getD_eq_getElem?_getD, List.getD_eq_getElem?_getD, List.getElem?_take_of_lt h]
theorem atF_tk (f : Fmt) (l l' : List Sng) (O : List Int) : ∀ k, (∀ j, j < k → l.getD (O.getD j 0).toNat g0 = l'.getD (O.getD j 0).toNat g0) → atF f l O k = atF f l' O k
  | 0, _ => rfl
  | k + 1, h => by
    unfold atF
    rw [atF_tk f l l' O k (fun j hj => h j (by omega)), h k (Nat.lt_succ_self k)]
theorem lay_tk {f : Fmt} {l l' : List Sng} {O : List Int} (h : ∀ j, j < O.length → l.getD (O.getD j 0).toNat g0 = l'.getD (O.getD j 0).toNat g0) (hL : LayOK f l O) : LayOK f l' O := by
  obtain ⟨h1, h2⟩ := hL
  refine ⟨fun i hi => ?_, ?_⟩
  · have h3 := h1 i hi
    unfold okAt at h3 ⊢
    rw [← h i hi, ← atF_tk f l l' O (i + 1) (fun j hj => h j (by omega))]
    exact h3
  · rw [← atF_tk f l l' O O.length h]
    exact h2
theorem seq_tk {l : List Sng} {n i j : Nat} (hj : j ≤ n) (k : Nat) (hk : k < (seqL i (j - i)).length) : (l.take n).getD ((seqL i (j - i)).getD k 0).toNat g0 = l.getD ((seqL i (j - i)).getD k 0).toNat g0 := by
  rw [seqL_len] at hk
  rw [seqL_get _ _ _ hk, Int.toNat_natCast]
  exact getD_take l n _ (by omega)
theorem face_tk {F : List Fmt} {l : List Sng} {n : Nat} (hn : n ≤ l.length) {k i j : Nat} : faceP F (l.take n) k i j ↔ faceP F l k i j ∧ j ≤ n := by
  have lt : (l.take n).length = n := by rw [List.length_take]; omega
  constructor
  · rintro ⟨h1, h2, h3, h4⟩
    rw [lt] at h3
    exact ⟨⟨h1, h2, by omega, lay_tk (seq_tk h3) h4⟩, h3⟩
  · rintro ⟨⟨h1, h2, h3, h4⟩, h5⟩
    exact ⟨h1, h2, by rw [lt]; exact h5, lay_tk (fun k hk => (seq_tk h5 k hk).symm) h4⟩
theorem reach_tk {F : List Fmt} {l : List Sng} {n : Nat} (hn : n ≤ l.length) {j : Nat} {c : Int} : j ≤ n → (Reach F (l.take n) j c ↔ Reach F l j c) := by
  intro hj
  constructor
  · intro h
    clear hj
    induction h with
    | nil => exact .nil
    | step h hf ih => exact ih.step (face_tk hn |>.1 hf).1
  · intro h
    induction h with
    | nil => exact .nil
    | step h hf ih =>
      have := hf.lt
      exact (ih (by omega)).step ((face_tk hn).2 ⟨hf, hj⟩)
/-- The price of the first tracks. -/
noncomputable def prcB (F : List Fmt) (l : List Sng) : Int := match bst F l 0 with | some (w, _) => w.1 | none => -1
theorem prc_tk {F : List Fmt} {l : List Sng} (hF : ∀ k, 0 ≤ (F.getD k f0).cost) {p : List Int} (hp : PrcOK F l (Reach F l) p) {n : Nat} (hn : n ≤ l.length) : prcB F (l.take n) = p.getD n 0 := by
  have h1 := bst_best (F := F) (l := l.take n) hF
  have lt : (l.take n).length = n := by rw [List.length_take]; omega
  rw [lt] at h1
  have h2 : BestC F (l.take n) n (p.getD n 0) := (hp.each n hn).congr fun c => (reach_tk hn (Nat.le_refl n)).symm
  exact h1.uniq h2
theorem SngsOK.take {l : List Sng} (h : SngsOK l) (n : Nat) : SngsOK (l.take n) := by
  refine ⟨?_, fun j hj => ?_⟩
  · rw [List.length_take]
    have := h.len
    omega
  · rw [List.length_take] at hj
    rw [getD_take l n j (by omega)]
    exact h.each j (by omega)
theorem AlbOK.take {F : List Fmt} {l : List Sng} (h : AlbOK F l) (n : Nat) : AlbOK F (l.take n) := ⟨h.few, h.fmts, h.sngs.take n⟩
theorem AlbOK.cost {F : List Fmt} {l : List Sng} (hA : AlbOK F l) (k : Nat) : 0 ≤ (F.getD k f0).cost ∧ (F.getD k f0).cost ≤ 1048576 := by
  by_cases hk : k < F.length
  · exact (hA.fmts k hk).cost
  · rw [show F.getD k f0 = f0 by simp [List.getD_eq_getElem?_getD, List.getElem?_eq_none (show F.length ≤ k by omega)]]; decide
/-! ### The document's best plans -/
/-- A plan with its cost, as the document keeps it. -/
abbrev Pln := List (Nat × Nat) × Int × Bool
def pln0 : Pln := ([], 0, false)
def plR (p : Pln) : List Cell := [.sl (fcsA p.1), .int p.2.1, .bool p.2.2]
/-- The entry of the tracks from x on. -/
noncomputable def entP (F : List Fmt) (l : List Sng) (x : Nat) : EntW → Pln
  | none => pln0
  | some (w, (k, j)) => ((k, j - x) :: planB F l l.length j, w.1, true)
noncomputable def rowP (F : List Fmt) (l : List Sng) (x : Nat) : Pln :=
  match bst F l x with
  | none => pln0
  | some (w, _) => (planB F l l.length x, w.1, true)
theorem rowP_end (F : List Fmt) (l : List Sng) : rowP F l l.length = ([], 0, true) := by
  unfold rowP
  rw [bst_end, planB_fuel l.length 0 l.length (by omega) (by omega)]
  rfl
theorem rowP_ent {F : List Fmt} {l : List Sng} {x : Nat} (hx : x < l.length) : rowP F l x = entP F l x (bst F l x) := by
  unfold rowP
  cases hb : bst F l x with
  | none => rfl
  | some e =>
    obtain ⟨w, k, j⟩ := e
    simp only [entP]
    rw [planB_step hx hb]
/-- The document's table, down to x: the entry of x is 'e'. -/
structure TabOK (F : List Fmt) (l : List Sng) (x : Nat) (e : Pln) (T : List Pln) : Prop where
  len : T.length = l.length + 1
  hi : ∀ i, x < i → i ≤ l.length → T.getD i pln0 = rowP F l i
  at_ : T.getD x pln0 = e
  lo : ∀ i, i < x → T.getD i pln0 = pln0
theorem gsetP (T : List Pln) (k j : Nat) (a : Pln) (hk : k < T.length) : (T.set k a).getD j pln0 = if j = k then a else T.getD j pln0 := by
  rw [List.getD_eq_getElem?_getD, List.getElem?_set]
  by_cases e : j = k
  · subst e
    rw [if_pos rfl, if_pos rfl, if_pos hk]
    rfl
  · rw [if_neg (fun h => e h.symm), if_neg e, ← List.getD_eq_getElem?_getD]
theorem TabOK.put {F : List Fmt} {l : List Sng} {x : Nat} {e e' : Pln} {T : List Pln} (h : TabOK F l x e T) (hx : x ≤ l.length) : TabOK F l x e' (T.set x e') := by
  have hl := h.len
  refine ⟨by rw [List.length_set]; exact hl, fun i h1 h2 => ?_, ?_, fun i hi => ?_⟩
  · rw [gsetP _ _ _ _ (by omega), if_neg (by omega)]
    exact h.hi i h1 h2
  · rw [gsetP _ _ _ _ (by omega), if_pos rfl]
  · rw [gsetP _ _ _ _ (by omega), if_neg (by omega)]
    exact h.lo i hi
theorem TabOK.down {F : List Fmt} {l : List Sng} {x : Nat} {T : List Pln} (h : TabOK F l (x + 1) (rowP F l (x + 1)) T) : TabOK F l x pln0 T := by
  refine ⟨h.len, fun i h1 h2 => ?_, h.lo x (by omega), fun i hi => h.lo i (by omega)⟩
  by_cases e : i = x + 1
  · subst e
    exact h.at_
  · exact h.hi i (by omega) h2
def plA' (T : List Pln) : Arr := T.map plR
theorem plA'_len (T : List Pln) : (plA' T).length = T.length := by simp [plA']
theorem plA'_at (T : List Pln) (i : Nat) (h : i < T.length) : (plA' T)[i]? = some (plR (T.getD i pln0)) := by
  simp [plA', List.getD_eq_getElem?_getD, h]
theorem plA'_0 (T : List Pln) (i : Nat) (h : i < T.length) : rA (plA' T) i 0 = fcsA (T.getD i pln0).1 := by
  simp [rA, cellAt, plA'_at T i h, plR, Cell.toArr]
theorem plA'_1 (T : List Pln) (i : Nat) (h : i < T.length) : rI (plA' T) i (0 + 1) = (T.getD i pln0).2.1 := by
  simp [rI, cellAt, plA'_at T i h, plR, Cell.toInt]
theorem plA'_2 (T : List Pln) (i : Nat) (h : i < T.length) : rB (plA' T) i (0 + 1 + 1) = (T.getD i pln0).2.2 := by
  simp [rB, cellAt, plA'_at T i h, plR, Cell.toBool]
theorem plA'_set (T : List Pln) (i : Nat) (p : Pln) : (plA' T).set i (plR p) = plA' (T.set i p) := by
  simp [plA', List.map_set]
/-- A plan that begins with a later face is better only by cost and number. -/
def befP (p q : Pln) : Prop := q.2.2 = false ∨ p.2.1 < q.2.1 ∨ p.2.1 = q.2.1 ∧ p.1.length < q.1.length
instance (p q : Pln) : Decidable (befP p q) := by unfold befP; exact inferInstance
theorem ent_step {F : List Fmt} {l : List Sng} {x k j : Nat} {acc : EntW} (hj : x < j) (hjl : j ≤ l.length) (hb : (rowP F l j).2.2 = true) (hacc : ∀ v q, acc = some (v, q) → v.2 = ((entP F l x acc).1.length : Int)) :
    (befP ((k, j - x) :: (rowP F l j).1, (F.getD k f0).cost + (rowP F l j).2.1, true) (entP F l x acc) → entP F l x (stepE F (bst F l) acc (k, j)) = ((k, j - x) :: (rowP F l j).1, (F.getD k f0).cost + (rowP F l j).2.1, true)) ∧
    (¬ befP ((k, j - x) :: (rowP F l j).1, (F.getD k f0).cost + (rowP F l j).2.1, true) (entP F l x acc) → stepE F (bst F l) acc (k, j) = acc) := by
  cases hbj : bst F l j with
  | none => unfold rowP at hb; rw [hbj] at hb; cases hb
  | some e =>
    obtain ⟨w, q⟩ := e
    have e1 : rowP F l j = (planB F l l.length j, w.1, true) := by unfold rowP; rw [hbj]
    have hw2 : ((planB F l l.length j).length : Int) = w.2 := (planB_ok (F := F) l.length j w q (by omega) hjl hbj).2.2
    rw [e1]
    unfold stepE befP
    simp only [hbj]
    cases acc with
    | none =>
      simp only [entP, pln0]
      exact ⟨fun _ => by rw [Int.add_comm], fun h => absurd (.inl trivial) h⟩
    | some a =>
      obtain ⟨v, k', j'⟩ := a
      have h3 := hacc v (k', j') rfl
      simp only [entP] at h3 ⊢
      have hl : ((k, j - x) :: planB F l l.length j).length = (planB F l l.length j).length + 1 := rfl
      constructor
      · intro h
        have : ltW (w.1 + (F.getD k f0).cost, w.2 + 1) v := by
          unfold ltW
          simp only
          rcases h with h | h | h
          · cases h
          · omega
          · omega
        rw [if_pos this, Int.add_comm]
      · intro h
        have : ¬ ltW (w.1 + (F.getD k f0).cost, w.2 + 1) v := by
          unfold ltW
          simp only
          intro h'
          apply h
          right
          omega
        rw [if_neg this]
end Go.Sx

namespace Go.Sx
open Go Go.Proofs
set_option maxRecDepth 10000
set_option maxHeartbeats 16000000
/-! ### The document's best plans: the walks -/
theorem s67a (n : Nat) (hn : n ≤ 100000) : PSpec Tryd.prog 67 [I (n : Int)] (.x (.one (.lst false [.int .i64] (i64s (spanL 0 n))))) := by
  refine spec_of pMix (O := []) Tryd.func67 (c := bodyOf Tryd.f67) rfl (by kernel_rfl) (by kernel_rfl) Tryd.ntmps67 (res := [.tmp 2]) (by kernel_rfl) ?_
  repeat' ((conv => whnf); first | refine Rng.g ?_ | refine Ob.g ?_ | refine Ob.e ?_ | refine Ob.m ?_ | refine Ob.mk (Nat.le_of_ble_eq_true rfl) ?_ | refine JoinVC.on ?_ | refine Nils.mk (fun h => ?_) ?_ | refine Val.t ?_ | refine Val.d ?_ | refine Mm.mk ?_ | (refine Br.mk (fun h => ?_) (fun h => ?_) <;> first | (exfalso; omega; done) | (exfalso; simp at h; done) | skip))
  refine LoopVC.mk (fun m st => ∃ (i : Nat), i ≤ n ∧ m = n - i ∧ st = ⟨0, envA 15 [(0, .x (I (n : Int))), (3, .x (.one (.own 0))), (4, .int .i64 (i : Int))], [some (rowOd (spanL 0 i))]⟩) _ _ ⟨0, Nat.zero_le _, rfl, rfl⟩ ?_ ?_
  · refine ⟨[none], rfl, rfl, ?_, ?_⟩ <;> repeat' (first | exact trivial | exact rfl | exact Iff.rfl | apply And.intro)
  rintro m _ ⟨i, hi, hm, rfl⟩
  have ls : (i64s (spanL 0 i)).length = i := by rw [i64s_len, spanL_len]
  by_cases hi' : i < n
  · repeat' ((conv => whnf); first | refine Rng.g ?_ | refine Ob.g ?_ | refine Ob.e ?_ | refine Ob.m ?_ | refine Ob.mk (Nat.le_of_ble_eq_true rfl) ?_ | refine JoinVC.on ?_ | refine Nils.mk (fun h => ?_) ?_ | refine Val.t ?_ | refine Val.d ?_ | refine Mm.mk ?_ | (refine Br.mk (fun h => ?_) (fun h => ?_) <;> first | (exfalso; omega; done) | (exfalso; simp at h; done) | skip))
    repeat refine Mm.mk ?_
    refine Ob.mk (by rw [eb3]; simp only [List.length_cons, List.length_nil]; omega) ?_
    repeat' ((conv => whnf); first | refine Rng.g ?_ | refine Ob.g ?_ | refine Ob.e ?_ | refine Ob.m ?_ | refine Ob.mk (Nat.le_of_ble_eq_true rfl) ?_ | refine JoinVC.on ?_ | refine Nils.mk (fun h => ?_) ?_ | refine Val.t ?_ | refine Val.d ?_ | refine Mm.mk ?_ | (refine Br.mk (fun h => ?_) (fun h => ?_) <;> first | (exfalso; omega; done) | (exfalso; simp at h; done) | skip))
    refine Back.mk (n - (i + 1)) _ (by omega) ⟨i + 1, by omega, rfl, rfl⟩ ?_
    rw [spanL_succ]
    refine ⟨[some 2], rfl, rfl, ?_, ?_⟩ <;> repeat' (first | exact trivial | exact rfl | exact Iff.rfl | apply And.intro)
    rw [i64s_snoc, Nat.zero_add]
  · have ei : i = n := by omega
    subst ei
    repeat' ((conv => whnf); first | refine Rng.g ?_ | refine Ob.g ?_ | refine Ob.e ?_ | refine Ob.m ?_ | refine Ob.mk (Nat.le_of_ble_eq_true rfl) ?_ | refine JoinVC.on ?_ | refine Nils.mk (fun h => ?_) ?_ | refine Val.t ?_ | refine Val.d ?_ | refine Mm.mk ?_ | (refine Br.mk (fun h => ?_) (fun h => ?_) <;> first | (exfalso; omega; done) | (exfalso; simp at h; done) | skip))
    repeat refine Mm.mk ?_
    conv => whnf
    refine EndVC.mk _ rfl _ _ (⟨rfl, rfl⟩) ?_
    refine ⟨[], rfl, rfl, ?_, ?_⟩ <;> repeat' (first | exact trivial | exact rfl | exact Iff.rfl | apply And.intro)
theorem span_drop (i j : Nat) : ((i64s (spanL 0 j)).take (i64s (spanL 0 j)).length).drop i = i64s (seqL i (j - i)) := by
  rw [List.take_length]
  unfold i64s
  rw [← List.map_drop]
  congr 1
  refine list_ext_getD (by rw [List.length_drop, spanL_len, seqL_len]) fun k hk => ?_
  rw [List.length_drop, spanL_len] at hk
  rw [seqL_get _ _ _ hk]
  rw [List.getD_eq_getElem?_getD, List.getElem?_drop, ← List.getD_eq_getElem?_getD, spanL_get _ _ _ (by omega), Nat.zero_add]
theorem s52a (i j : Nat) (hi : i ≤ j) (hj : j ≤ 100000) : PSpec Tryd.prog 52 [I (i : Int), I (j : Int)] (.x (.one (.lst false [.int .i64] (i64s (seqL i (j - i)))))) := by
  have ls : (i64s (spanL 0 j)).length = j := by rw [i64s_len, spanL_len]
  have e := span_drop i j
  refine spec_of pMix (O := []) Tryd.func52 (c := bodyOf Tryd.f52) rfl (by kernel_rfl) (by kernel_rfl) Tryd.ntmps52 (res := [.tmp 4]) (by kernel_rfl) ?_
  repeat' ((conv => whnf); first | refine Rng.g ?_ | refine Ob.g ?_ | refine Ob.e ?_ | refine Ob.m ?_ | refine Ob.mk (Nat.le_of_ble_eq_true rfl) ?_ | refine JoinVC.on ?_ | refine Nils.mk (fun h => ?_) ?_ | refine Val.t ?_ | refine Val.d ?_ | refine Mm.mk ?_ | refine CallVC.pure rfl (s67a j hj) ?_ | refine CallVC0.pure rfl (s67a j hj) ?_ | (refine Br.mk (fun h => ?_) (fun h => ?_) <;> first | (exfalso; omega; done) | (exfalso; simp at h; done) | skip))
  repeat refine Mm.mk ?_
  conv => whnf
  refine EndVC.mk _ rfl _ _ (⟨rfl, rfl⟩) ?_
  refine ⟨[], rfl, rfl, ?_, ?_⟩ <;> repeat' (first | exact trivial | exact rfl | exact Iff.rfl | apply And.intro)
  exact e
@[reducible] def KPn : List CK := [.sl KF2, .int .i64, .bool]
@[reducible] def plX1 (P : List (Nat × Nat)) (c : Int) (b : Bool) : XV := .agg [.lst true KF2 (fcsA P), .int .i64 c, .bool b]
theorem fcsA_0 (P : List (Nat × Nat)) (i : Nat) (h : i < P.length) : rI (fcsA P) i 0 = ((P.getD i (0, 0)).1 : Int) ∧ rI (fcsA P) i (0 + 1) = ((P.getD i (0, 0)).2 : Int) := by
  have h1 : (fcsA P)[i]? = some [.int ((P.getD i (0, 0)).1 : Int), .int ((P.getD i (0, 0)).2 : Int)] := by simp [fcsA, List.getD_eq_getElem?_getD, h]
  simp [rI, cellAt, h1, Cell.toInt]
theorem bef65 (k m : Nat) (t : List (Nat × Nat)) (c : Int) (Q : List (Nat × Nat)) (d : Int) (b : Bool) (h : b = true → Q.length = t.length + 1 → ∃ k' m' t', Q = (k', m') :: t' ∧ (k' < k ∨ k' = k ∧ m' < m)) : PSpec Tryd.prog 65 [.agg [.lst true KF2 (fcsA ((k, m) :: t)), .int .i64 c, .tt], plX1 Q d b] (xP (befP ((k, m) :: t, c, true) (Q, d, b))) := by
  have l1 : (fcsA ((k, m) :: t)).length = t.length + 1 := by rw [fcsA_len]; rfl
  have l2 := fcsA_len Q
  unfold befP
  simp only [List.length_cons]
  cases b with
  | false =>
    refine spec_of pMix (O := []) Tryd.func65 (c := bodyOf Tryd.f65) rfl (by kernel_rfl) (by kernel_rfl) Tryd.ntmps65 (res := [.tmp 4]) (by kernel_rfl) ?_
    repeat' ((conv => whnf); first | refine Rng.g ?_ | refine Ob.g ?_ | refine Ob.e ?_ | refine Ob.m ?_ | refine Ob.mk (Nat.le_of_ble_eq_true rfl) ?_ | refine JoinVC.on ?_ | refine Nils.mk (fun h => ?_) ?_ | refine Val.t ?_ | refine Val.d ?_ | refine Mm.mk ?_ | (refine Br.mk (fun h => ?_) (fun h => ?_) <;> first | (exfalso; omega; done) | (exfalso; simp at h; done) | skip))
    repeat refine Mm.mk ?_
    refine EndVC.mk _ rfl _ _ ⟨rfl, rfl⟩ ?_
    refine ⟨[], rfl, rfl, ?_, ?_⟩ <;> repeat' (first | exact trivial | exact rfl | exact Iff.rfl | apply And.intro)
    all_goals first | exact .inl rfl | (exfalso; rename_i h; simp at h; done) | skip
  | true =>
    by_cases hc : c = d
    rotate_left
    · refine spec_of pMix (O := []) Tryd.func65 (c := bodyOf Tryd.f65) rfl (by kernel_rfl) (by kernel_rfl) Tryd.ntmps65 (res := [.tmp 4]) (by kernel_rfl) ?_
      repeat' ((conv => whnf); first | refine Rng.g ?_ | refine Ob.g ?_ | refine Ob.e ?_ | refine Ob.m ?_ | refine Ob.mk (Nat.le_of_ble_eq_true rfl) ?_ | refine JoinVC.on ?_ | refine Nils.mk (fun h => ?_) ?_ | refine Val.t ?_ | refine Val.d ?_ | refine Mm.mk ?_ | (refine Br.mk (fun h => ?_) (fun h => ?_) <;> first | (exfalso; omega; done) | (exfalso; simp at h; done) | skip))
      repeat refine Mm.mk ?_
      refine EndVC.mk _ rfl _ _ ⟨rfl, rfl⟩ ?_
      refine ⟨[], rfl, rfl, ?_, ?_⟩ <;> repeat' (first | exact trivial | exact rfl | exact Iff.rfl | apply And.intro)
      show _ ↔ _
      simp
      omega
    by_cases hl : t.length + 1 = Q.length
    rotate_left
    · refine spec_of pMix (O := []) Tryd.func65 (c := bodyOf Tryd.f65) rfl (by kernel_rfl) (by kernel_rfl) Tryd.ntmps65 (res := [.tmp 4]) (by kernel_rfl) ?_
      repeat' ((conv => whnf); first | refine Rng.g ?_ | refine Ob.g ?_ | refine Ob.e ?_ | refine Ob.m ?_ | refine Ob.mk (Nat.le_of_ble_eq_true rfl) ?_ | refine JoinVC.on ?_ | refine Nils.mk (fun h => ?_) ?_ | refine Val.t ?_ | refine Val.d ?_ | refine Mm.mk ?_ | (refine Br.mk (fun h => ?_) (fun h => ?_) <;> first | (exfalso; omega; done) | (exfalso; simp at h; done) | skip))
      repeat refine Mm.mk ?_
      refine EndVC.mk _ rfl _ _ ⟨rfl, rfl⟩ ?_
      refine ⟨[], rfl, rfl, ?_, ?_⟩ <;> repeat' (first | exact trivial | exact rfl | exact Iff.rfl | apply And.intro)
      show _ ↔ _
      simp
      omega
    obtain ⟨k', m', t', rfl, hk⟩ := h rfl hl.symm
    have g0 := fcsA_0 ((k, m) :: t) 0 (by simp)
    have g1 := fcsA_0 ((k', m') :: t') 0 (by simp)
    simp only [List.getD_cons_zero] at g0 g1
    have e0 : Int.toNat 0 = 0 := rfl
    refine spec_of pMix (O := []) Tryd.func65 (c := bodyOf Tryd.f65) rfl (by kernel_rfl) (by kernel_rfl) Tryd.ntmps65 (res := [.tmp 4]) (by kernel_rfl) ?_
    repeat' ((conv => whnf); first | refine Rng.g ?_ | refine Ob.g ?_ | refine Ob.e ?_ | refine Ob.m ?_ | refine Ob.mk (Nat.le_of_ble_eq_true rfl) ?_ | refine JoinVC.on ?_ | refine Nils.mk (fun h => ?_) ?_ | refine Val.t ?_ | refine Val.d ?_ | refine Mm.mk ?_ | (refine Br.mk (fun h => ?_) (fun h => ?_) <;> first | (exfalso; omega; done) | (exfalso; simp at h; done) | skip))
    refine LoopVC.un 1 ?_
    repeat' ((conv => whnf); first | rw [e0] | rw [g0.1] | rw [g0.2] | rw [g1.1] | rw [g1.2] | refine Rng.g ?_ | refine Ob.g ?_ | refine Ob.e ?_ | refine Ob.m ?_ | refine Ob.mk (Nat.le_of_ble_eq_true rfl) ?_ | refine JoinVC.on ?_ | refine Nils.mk (fun h => ?_) ?_ | refine Val.t ?_ | refine Val.d ?_ | refine Mm.mk ?_ | (refine Br.mk (fun h => ?_) (fun h => ?_) <;> first | (exfalso; omega; done) | (exfalso; simp at h; done) | skip))
    all_goals
      repeat refine Mm.mk ?_
      refine EndVC.mk _ rfl _ _ ⟨rfl, rfl⟩ ?_
      refine ⟨[], rfl, rfl, ?_, ?_⟩ <;> repeat' (first | exact trivial | exact rfl | exact Iff.rfl | apply And.intro)
    all_goals (show _ ↔ _; simp; simp at hl; omega)
end Go.Sx

namespace Go.Sx
open Go Go.Proofs
set_option maxRecDepth 10000
set_option maxHeartbeats 16000000
@[reducible] def bTab (T : List Pln) : Blk := .row 96 false KPn (plA' T)
theorem eb96 : Tryd.t96.bytes = 40 := by kernel_rfl
theorem tab_upd (T : List Pln) (i : Nat) (h : i < T.length) (p : Pln) : updRow (plA' T) i 0 [.sl (fcsA p.1), .int p.2.1, .bool p.2.2] = plA' (T.set i p) := by
  have e : (plA' T).getD i [] = plR (T.getD i pln0) := by rw [List.getD_eq_getElem?_getD, plA'_at T i h]; rfl
  unfold updRow
  rw [e]
  exact plA'_set T i p
theorem tab0 (n : Nat) : updRow (List.replicate ((n : Int) + 1).toNat (zeroRow KPn)) (n : Int).toNat 0 [.sl [], .int 0, .bool true] = plA' ((List.replicate (n + 1) pln0).set n ([], 0, true)) := by
  have e : List.replicate ((n : Int) + 1).toNat (zeroRow KPn) = plA' (List.replicate (n + 1) pln0) := by
    unfold plA'
    rw [List.map_replicate, show ((n : Int) + 1).toNat = n + 1 by omega]
    rfl
  rw [e, Int.toNat_natCast]
  exact tab_upd _ n (by simp) ([], 0, true)
theorem tabOK0 (F : List Fmt) (l : List Sng) : TabOK F l l.length (rowP F l l.length) ((List.replicate (l.length + 1) pln0).set l.length ([], 0, true)) := by
  refine ⟨by simp, fun i h1 h2 => by omega, ?_, fun i hi => ?_⟩
  · rw [rowP_end, gsetP _ _ _ _ (by simp), if_pos rfl]
  · rw [gsetP _ _ _ _ (by simp), if_neg (by omega), List.getD_eq_getElem?_getD, List.getElem?_replicate, if_pos (by omega)]
    rfl
/-- Facts on entries. -/
theorem ent_bd {F : List Fmt} {l : List Sng} (hA : AlbOK F l) {i : Nat} (hi : i ≤ l.length) : (0 ≤ (rowP F l i).2.1 ∧ (rowP F l i).2.1 ≤ 100000000) ∧ (rowP F l i).1.length ≤ 24 := by
  unfold rowP
  cases hb : bst F l i with
  | none => simp [pln0]
  | some e =>
    obtain ⟨w, q⟩ := e
    obtain ⟨⟨c1, c2⟩, c3, c4⟩ := bst_bd hA hi hb
    have h24 := hA.sngs.len
    have := (planB_ok (F := F) l.length i w q (by omega) hi hb).2.2
    simp only
    omega
theorem s48a (F : List Fmt) (l : List Sng) (hA : AlbOK F l) : HSpec Tryd.prog 48 [lFmt F, lSng l] [] (fun r m' => ∃ T, TabOK F l 0 (rowP F l 0) T ∧ r = .x (.one (.own 0)) ∧ m' = [some (bTab T)]) := by
  have h24 := hA.sngs.len
  have h8 := hA.few
  have lF := fmtA_len F
  have ll := sngA_len l
  refine spec_of pMix (O := [(12, ([], [⟨0, [], []⟩, ⟨1, [], []⟩, ⟨2, [], []⟩, ⟨3, [], []⟩, ⟨4, [], []⟩, ⟨5, [], []⟩, ⟨6, [], []⟩, ⟨7, [], []⟩, ⟨8, [], []⟩, ⟨9, [], []⟩, ⟨10, [], []⟩, ⟨11, [], []⟩, ⟨12, [], []⟩, ⟨13, [], []⟩, ⟨14, [7, 8, 9, 10, 11], []⟩, ⟨15, [], []⟩, ⟨16, [], []⟩, ⟨17, [], []⟩])), (13, ([24], [⟨0, [], []⟩, ⟨1, [], []⟩, ⟨2, [], []⟩, ⟨3, [], []⟩, ⟨4, [], [5]⟩, ⟨6, [], []⟩, ⟨7, [], []⟩, ⟨8, [], []⟩, ⟨9, [], []⟩, ⟨10, [], []⟩, ⟨12, [], []⟩, ⟨13, [], []⟩, ⟨14, [], []⟩, ⟨15, [], []⟩, ⟨16, [], []⟩, ⟨17, [], []⟩, ⟨18, [], []⟩, ⟨19, [], []⟩, ⟨20, [], []⟩, ⟨21, [], []⟩, ⟨22, [], []⟩, ⟨5, [], []⟩, ⟨11, [12, 13, 14, 15, 16, 17, 18, 19, 20, 21, 22], []⟩, ⟨23, [], []⟩, ⟨24, [], []⟩, ⟨25, [], []⟩]))]) Tryd.func48 (c := bodyOf Tryd.f48) rfl (by kernel_rfl) (by kernel_rfl) Tryd.ntmps48 (res := [.tmp 4]) (by kernel_rfl) ?_
  repeat' ((conv => whnf); first | refine Rng.g ?_ | refine Ob.g ?_ | refine Ob.e ?_ | refine Ob.m ?_ | refine Ob.mk (Nat.le_of_ble_eq_true rfl) ?_ | refine JoinVC.on ?_ | refine Nils.mk (fun h => ?_) ?_ | refine Val.t ?_ | refine Val.d ?_ | refine Mm.mk ?_ | (refine Br.mk (fun h => ?_) (fun h => ?_) <;> first | (exfalso; omega; done) | (exfalso; simp at h; done) | skip))
  repeat refine Mm.mk ?_
  refine Ob.mk (by rw [eb96]; omega) ?_
  repeat' ((conv => whnf); first | refine Rng.g ?_ | refine Ob.g ?_ | refine Ob.e ?_ | refine Ob.m ?_ | refine Ob.mk (Nat.le_of_ble_eq_true rfl) ?_ | refine JoinVC.on ?_ | refine Nils.mk (fun h => ?_) ?_ | refine Val.t ?_ | refine Val.d ?_ | refine Mm.mk ?_ | (refine Br.mk (fun h => ?_) (fun h => ?_) <;> first | (exfalso; omega; done) | (exfalso; simp at h; done) | skip))
  refine LoopVC.mk (fun m st => ∃ (i : Nat) (T : List Pln), i ≤ l.length ∧ m = i ∧ TabOK F l i (rowP F l i) T ∧ st = ⟨0, envA 93 [(0, .x (lFmt F)), (1, .x (lSng l)), (5, .x (.one (.own 0))), (6, .int .i64 ((i : Int) - 1))], [some (bTab T)]⟩) _ _ ⟨l.length, _, Nat.le_refl _, rfl, tabOK0 F l, rfl⟩ ?_ ?_
  · refine ⟨[some 0], rfl, rfl, ?_, ?_⟩ <;> repeat' (first | exact trivial | exact rfl | exact Iff.rfl | apply And.intro)
    all_goals first | (rw [ll]; done) | (rw [ll]; exact tab0 _) | skip
  rintro m _ ⟨i, T, hi, hm, hT, rfl⟩
  by_cases hi' : 0 < i
  rotate_left
  · have ei : i = 0 := by omega
    subst ei
    repeat' ((conv => whnf); first | refine Rng.g ?_ | refine Ob.g ?_ | refine Ob.e ?_ | refine Ob.m ?_ | refine Ob.mk (Nat.le_of_ble_eq_true rfl) ?_ | refine JoinVC.on ?_ | refine Nils.mk (fun h => ?_) ?_ | refine Val.t ?_ | refine Val.d ?_ | refine Mm.mk ?_ | (refine Br.mk (fun h => ?_) (fun h => ?_) <;> first | (exfalso; omega; done) | (exfalso; simp at h; done) | skip))
    repeat refine Mm.mk ?_
    conv => whnf
    refine EndVC.mk _ rfl _ _ (⟨T, hT, rfl, rfl⟩) ?_
    refine ⟨[some 0], rfl, rfl, ?_, ?_⟩ <;> repeat' (first | exact trivial | exact rfl | exact Iff.rfl | apply And.intro)
  obtain ⟨x, rfl⟩ : ∃ x, i = x + 1 := ⟨i - 1, by omega⟩
  have ex : ((x + 1 : Nat) : Int) - 1 = (x : Int) := by omega
  rw [ex]
  have hT' := hT.down
  clear hT
  repeat' ((conv => whnf); first | refine Rng.g ?_ | refine Ob.g ?_ | refine Ob.e ?_ | refine Ob.m ?_ | refine Ob.mk (Nat.le_of_ble_eq_true rfl) ?_ | refine JoinVC.on ?_ | refine Nils.mk (fun h => ?_) ?_ | refine Val.t ?_ | refine Val.d ?_ | refine Mm.mk ?_ | (refine Br.mk (fun h => ?_) (fun h => ?_) <;> first | (exfalso; omega; done) | (exfalso; simp at h; done) | skip))
  refine LoopVC.mk (fun m st => ∃ (k : Nat) (T : List Pln), k ≤ F.length ∧ m = F.length - k ∧ TabOK F l x (entP F l x ((fcs F l x k).foldl (stepE F (bst F l)) none)) T ∧ st = ⟨0, envA 93 [(0, .x (lFmt F)), (1, .x (lSng l)), (5, .x (.one (.own 0))), (6, .int .i64 (x : Int)), (7, .int .i64 (k : Int))], [some (bTab T)]⟩) _ _ ⟨0, T, Nat.zero_le _, rfl, hT', rfl⟩ ?_ ?_
  · refine ⟨[some 0], rfl, rfl, ?_, ?_⟩ <;> repeat' (first | exact trivial | exact rfl | exact Iff.rfl | apply And.intro)
  clear hT' T
  rintro m2 _ ⟨k, T, hk, hm2, hT, rfl⟩
  by_cases hk' : k < F.length
  rotate_left
  · have ek : k = F.length := by omega
    subst ek
    have e1 : (fcs F l x F.length).foldl (stepE F (bst F l)) none = bst F l x := (bst_at (F := F) (l := l) (i := x) (by omega)).symm
    rw [e1, ← rowP_ent (by omega)] at hT
    repeat' ((conv => whnf); first | refine Rng.g ?_ | refine Ob.g ?_ | refine Ob.e ?_ | refine Ob.m ?_ | refine Ob.mk (Nat.le_of_ble_eq_true rfl) ?_ | refine JoinVC.on ?_ | refine Nils.mk (fun h => ?_) ?_ | refine Val.t ?_ | refine Val.d ?_ | refine Mm.mk ?_ | (refine Br.mk (fun h => ?_) (fun h => ?_) <;> first | (exfalso; omega; done) | (exfalso; simp at h; done) | skip))
    refine Back.mk x _ (by omega) ⟨x, T, by omega, rfl, hT, rfl⟩ ?_
    refine ⟨[some 0], rfl, rfl, ?_, ?_⟩ <;> repeat' (first | exact trivial | exact rfl | exact Iff.rfl | apply And.intro)
  repeat' ((conv => whnf); first | refine Rng.g ?_ | refine Ob.g ?_ | refine Ob.e ?_ | refine Ob.m ?_ | refine Ob.mk (Nat.le_of_ble_eq_true rfl) ?_ | refine JoinVC.on ?_ | refine Nils.mk (fun h => ?_) ?_ | refine Val.t ?_ | refine Val.d ?_ | refine Mm.mk ?_ | (refine Br.mk (fun h => ?_) (fun h => ?_) <;> first | (exfalso; omega; done) | (exfalso; simp at h; done) | skip))
  refine LoopVC.mk (fun m st => ∃ (j : Nat) (T : List Pln), x < j ∧ j ≤ l.length + 1 ∧ m = l.length + 1 - j ∧ TabOK F l x (entP F l x ((fcs F l x k ++ fcj F l x k j).foldl (stepE F (bst F l)) none)) T ∧ st = ⟨0, envA 93 [(0, .x (lFmt F)), (1, .x (lSng l)), (5, .x (.one (.own 0))), (6, .int .i64 (x : Int)), (7, .int .i64 (k : Int)), (8, .int .i64 (j : Int))], [some (bTab T)]⟩) _ _ ⟨x + 1, T, by omega, by omega, rfl, by rw [fcj_lo _ (Nat.le_refl _), List.append_nil]; exact hT, rfl⟩ ?_ ?_
  · refine ⟨[some 0], rfl, rfl, ?_, ?_⟩ <;> repeat' (first | exact trivial | exact rfl | exact Iff.rfl | apply And.intro)
  clear hT T
  rintro m3 _ ⟨j, T, hxj, hj, hm3, hT, rfl⟩
  by_cases hj' : j ≤ l.length
  rotate_left
  · have ej : j = l.length + 1 := by omega
    subst ej
    repeat' ((conv => whnf); first | refine Rng.g ?_ | refine Ob.g ?_ | refine Ob.e ?_ | refine Ob.m ?_ | refine Ob.mk (Nat.le_of_ble_eq_true rfl) ?_ | refine JoinVC.on ?_ | refine Nils.mk (fun h => ?_) ?_ | refine Val.t ?_ | refine Val.d ?_ | refine Mm.mk ?_ | (refine Br.mk (fun h => ?_) (fun h => ?_) <;> first | (exfalso; omega; done) | (exfalso; simp at h; done) | skip))
    refine Back.mk (F.length - (k + 1)) _ (by omega) ⟨k + 1, T, by omega, rfl, hT, rfl⟩ ?_
    refine ⟨[some 0], rfl, rfl, ?_, ?_⟩ <;> repeat' (first | exact trivial | exact rfl | exact Iff.rfl | apply And.intro)
  have hf := hA.fmts k hk'
  obtain ⟨acc, hacc⟩ : ∃ acc, (fcs F l x k ++ fcj F l x k j).foldl (stepE F (bst F l)) none = acc := ⟨_, rfl⟩
  rw [hacc] at hT
  obtain ⟨⟨Q, d, bb⟩, hE⟩ : ∃ e, entP F l x acc = e := ⟨_, rfl⟩
  have c52 := s52a x j (by omega) (by omega)
  have c59 := s59 (F.getD k f0) l (seqL x (j - x)) hf hA.sngs (fun y hy => by rw [seqL_len] at hy; rw [seqL_get _ _ _ hy]; omega) (by rw [seqL_len]; omega)
  have et : (k : Int).toNat = k := Int.toNat_natCast k
  have ej : (j : Int).toNat = j := Int.toNat_natCast j
  have ext : (x : Int).toNat = x := Int.toNat_natCast x
  obtain ⟨g0, g1, g2, g3, g4, g5, g6, g7⟩ := fmt_at F k hk'
  have lT := hT.len
  have lA := plA'_len T
  have eT := hT.hi j hxj hj'
  have b0 := plA'_0 T j (by omega)
  have b1 := plA'_1 T j (by omega)
  have b2 := plA'_2 T j (by omega)
  rw [eT] at b0 b1 b2
  have a0 := plA'_0 T x (by omega)
  have a1 := plA'_1 T x (by omega)
  have a2 := plA'_2 T x (by omega)
  rw [hT.at_, hE] at a0 a1 a2
  simp only at a0 a1 a2
  have hb := ent_bd hA hj'
  have hco := hf.cost
  have c59r : PSpec Tryd.prog 51 [.agg [.str (rS (fmtA F) (k : Int).toNat 0), .int .i64 (rI (fmtA F) (k : Int).toNat (0 + 1)), .int .i64 (rI (fmtA F) (k : Int).toNat (0 + 1 + 1)), .int .i64 (rI (fmtA F) (k : Int).toNat (0 + 1 + 1 + 1)), .int .i64 (rI (fmtA F) (k : Int).toNat (0 + 1 + 1 + 1 + 1)), .int .i64 (rI (fmtA F) (k : Int).toNat (0 + 1 + 1 + 1 + 1 + 1)), .int .i64 (rI (fmtA F) (k : Int).toNat (0 + 1 + 1 + 1 + 1 + 1 + 1)), .int .i64 (rI (fmtA F) (k : Int).toNat (0 + 1 + 1 + 1 + 1 + 1 + 1 + 1))], lSng l, .one (.lst true [.int .i64] (i64s (seqL x (j - x))))] (xP (LayOK (F.getD k f0) l (seqL x (j - x)))) := by
    rw [et, g0, g1, g2, g3, g4, g5, g6, g7]
    exact c59
  have g7r : rI (fmtA F) (k : Int).toNat (0 + (0 + 1 + 1 + 1 + 1 + 1 + 1 + 1)) = (F.getD k f0).cost := by rw [et]; exact g7
  have b0r : rA (plA' T) (j : Int).toNat 0 = fcsA (rowP F l j).1 := by rw [ej]; exact b0
  have b1r : rI (plA' T) (j : Int).toNat (0 + 1) = (rowP F l j).2.1 := by rw [ej]; exact b1
  have b2r : rB (plA' T) (j : Int).toNat (0 + 1 + 1) = (rowP F l j).2.2 := by rw [ej]; exact b2
  have a0r : rA (plA' T) (x : Int).toNat 0 = fcsA Q := by rw [ext]; exact a0
  have a1r : rI (plA' T) (x : Int).toNat (0 + 1) = d := by rw [ext]; exact a1
  have a2r : rB (plA' T) (x : Int).toNat (0 + 1 + 1) = bb := by rw [ext]; exact a2
  clear b0 b1 b2 a0 a1 a2
  clear g0 g1 g2 g3 g4 g5 g6 g7
  have hno : ¬ faceP F l k x j → fcj F l x k (j + 1) = fcj F l x k j := fcj_no
  repeat' ((conv => whnf); first | refine Rng.g ?_ | refine Ob.g ?_ | refine Ob.e ?_ | refine Ob.m ?_ | refine Ob.mk (Nat.le_of_ble_eq_true rfl) ?_ | refine JoinVC.on ?_ | refine Nils.mk (fun h => ?_) ?_ | refine Val.t ?_ | refine Val.d ?_ | refine Mm.mk ?_ | refine CallVC.pure rfl (c52) ?_ | refine CallVC.pure rfl (c59r) ?_ | refine CallVC0.pure rfl (c52) ?_ | refine CallVC0.pure rfl (c59r) ?_ | (refine Br.mk (fun h => ?_) (fun h => ?_) <;> first | (exfalso; omega; done) | (exfalso; simp at h; done) | skip))
  · have hs : (fcs F l x k ++ fcj F l x k (j + 1)).foldl (stepE F (bst F l)) none = acc := by
      by_cases hfc : faceP F l k x j
      · have hn : bst F l j = none := by
          rename_i h
          rw [b2r] at h
          cases hb : bst F l j with
          | none => rfl
          | some e => unfold rowP at h; rw [hb] at h; simp at h
        rw [fcj_yes hfc, ← List.append_assoc, List.foldl_append, hacc]
        simp only [List.foldl_cons, List.foldl_nil]
        unfold stepE
        simp only [hn]
      · rw [hno hfc, hacc]
    refine Back.mk (l.length + 1 - (j + 1)) _ (by omega) ⟨j + 1, T, by omega, by omega, rfl, by rw [hs]; exact hT, rfl⟩ ?_
    refine ⟨[some 0], rfl, rfl, ?_, ?_⟩ <;> repeat' (first | exact trivial | exact rfl | exact Iff.rfl | apply And.intro)
  · have hL : ¬ LayOK (F.getD k f0) l (seqL x (j - x)) := by assumption
    have hnf : ¬ faceP F l k x j := fun h => hL h.lay
    refine Back.mk (l.length + 1 - (j + 1)) _ (by omega) ⟨j + 1, T, by omega, by omega, rfl, by rw [hno hnf, hacc]; exact hT, rfl⟩ ?_
    refine ⟨[some 0], rfl, rfl, ?_, ?_⟩ <;> repeat' (first | exact trivial | exact rfl | exact Iff.rfl | apply And.intro)
  repeat refine Mm.mk ?_
  refine Ob.mk (by rw [b0r, eb69, fcsA_len]; simp only [List.length_cons, List.length_nil]; omega) ?_
  repeat' ((conv => whnf); first | refine Rng.g ?_ | refine Ob.g ?_ | refine Ob.e ?_ | refine Ob.m ?_ | refine Ob.mk (Nat.le_of_ble_eq_true rfl) ?_ | refine JoinVC.on ?_ | refine Nils.mk (fun h => ?_) ?_ | refine Val.t ?_ | refine Val.d ?_ | refine Mm.mk ?_ | (refine Br.mk (fun h => ?_) (fun h => ?_) <;> first | (exfalso; omega; done) | (exfalso; simp at h; done) | skip))
  have hL : LayOK (F.getD k f0) l (seqL x (j - x)) := Classical.not_not.1 (by assumption)
  have hfc : faceP F l k x j := ⟨hk', hxj, hj', hL⟩
  have hbt : (rowP F l j).2.2 = true := by
    rw [← b2r]
    have h9 : ¬ (!rB (plA' T) (j : Int).toNat (0 + 1 + 1)) = true := by assumption
    simpa using h9
  have hfo := foldE_ok F (bst F l) (fcs F l x k ++ fcj F l x k j)
  rw [hacc] at hfo
  have hst := ent_step (F := F) (l := l) (x := x) (k := k) (j := j) (acc := acc) hxj hj' hbt (fun v q hv => by
    obtain ⟨h1, w, f, h2, h3⟩ := hfo.from_ v q hv
    have h4 : q.2 ≤ l.length := by
      rcases List.mem_append.1 h1 with h5 | h5
      · exact (mem_fcs.1 h5).2.le
      · exact (mem_fcj.1 h5).2.2.le
    have h5 := (planB_ok (F := F) l.length q.2 w f (by omega) h4 h2).2.2
    rw [hv]
    obtain ⟨q1, q2⟩ := q
    simp only [entP, List.length_cons] at h5 ⊢
    rw [h3]
    simp only
    omega)
  rw [hE] at hst
  have hnext : (fcs F l x k ++ fcj F l x k (j + 1)).foldl (stepE F (bst F l)) none = stepE F (bst F l) acc (k, j) := by
    rw [fcj_yes hfc, ← List.append_assoc, List.foldl_append, hacc]
    rfl
  have P1 : [[Cell.int (k : Int), Cell.int ((j : Int) - (x : Int))]] ++ rA (plA' T) (j : Int).toNat 0 = fcsA ((k, j - x) :: (rowP F l j).1) := by
    rw [b0r, ← show ((j - x : Nat) : Int) = (j : Int) - (x : Int) by omega]
    rfl
  have c65 : PSpec Tryd.prog 65 [.agg [.lst true KF2 ([[Cell.int (k : Int), Cell.int ((j : Int) - (x : Int))]] ++ rA (plA' T) (j : Int).toNat 0), .int .i64 (rI (fmtA F) (k : Int).toNat (0 + (0 + 1 + 1 + 1 + 1 + 1 + 1 + 1)) + rI (plA' T) (j : Int).toNat (0 + 1)), .tt], .agg [.lst true KF2 (rA (plA' T) (x : Int).toNat 0), .int .i64 (rI (plA' T) (x : Int).toNat (0 + 1)), .bool (rB (plA' T) (x : Int).toNat (0 + 1 + 1))]] (xP (befP ((k, j - x) :: (rowP F l j).1, (F.getD k f0).cost + (rowP F l j).2.1, true) (Q, d, bb))) := by
    rw [P1, g7r, b1r, a0r, a1r, a2r]
    refine bef65 k (j - x) (rowP F l j).1 _ Q d bb fun hbb _ => ?_
    cases acc with
    | none => simp only [entP, pln0, Prod.mk.injEq] at hE; rw [← hE.2.2] at hbb; cases hbb
    | some a =>
      obtain ⟨v, k', j'⟩ := a
      obtain ⟨h1, _⟩ := hfo.from_ v (k', j') rfl
      simp only [entP, Prod.mk.injEq] at hE
      refine ⟨k', j' - x, _, hE.1.symm, ?_⟩
      rcases List.mem_append.1 h1 with h5 | h5
      · exact .inl (mem_fcs.1 h5).1
      · have h6 := mem_fcj.1 h5
        have h7 := h6.2.2.lt
        have h8 := h6.1
        simp only at h6 h7 h8
        exact .inr ⟨h8, by omega⟩
  repeat' ((conv => whnf); first | refine Rng.g ?_ | refine Ob.g ?_ | refine Ob.e ?_ | refine Ob.m ?_ | refine Ob.mk (Nat.le_of_ble_eq_true rfl) ?_ | refine JoinVC.on ?_ | refine Nils.mk (fun h => ?_) ?_ | refine Val.t ?_ | refine Val.d ?_ | refine Mm.mk ?_ | refine CallVC.pure rfl (c65) ?_ | refine CallVC0.pure rfl (c65) ?_ | (refine Br.mk (fun h => ?_) (fun h => ?_) <;> first | (exfalso; omega; done) | (exfalso; simp at h; done) | skip))
  · have hbf : befP ((k, j - x) :: (rowP F l j).1, (F.getD k f0).cost + (rowP F l j).2.1, true) (Q, d, bb) := by assumption
    refine Back.mk (l.length + 1 - (j + 1)) _ (by omega) ⟨j + 1, T.set x ((k, j - x) :: (rowP F l j).1, (F.getD k f0).cost + (rowP F l j).2.1, true), by omega, by omega, rfl, by rw [hnext, hst.1 hbf]; exact hT.put (by omega), rfl⟩ ?_
    refine ⟨[some 0], rfl, rfl, ?_, ?_⟩ <;> repeat' (first | exact trivial | exact rfl | exact Iff.rfl | apply And.intro)
    rw [← tab_upd T x (by omega) _, ← P1, ← g7r, ← b1r, ext]
  · have hbf : ¬ befP ((k, j - x) :: (rowP F l j).1, (F.getD k f0).cost + (rowP F l j).2.1, true) (Q, d, bb) := by assumption
    refine Back.mk (l.length + 1 - (j + 1)) _ (by omega) ⟨j + 1, T, by omega, by omega, rfl, by rw [hnext, hst.2 hbf]; exact hT, rfl⟩ ?_
    refine ⟨[some 0], rfl, rfl, ?_, ?_⟩ <;> repeat' (first | exact trivial | exact rfl | exact Iff.rfl | apply And.intro)
end Go.Sx

namespace Go.Sx
open Go Go.RowKit Go.Proofs
/-! ### What a call answers, seen more coarsely -/
theorem HSpec.le {P : Program} {f : FuncId} {args : List XV} {m : List Blk} {Rs Rs' : AV → List (Option Blk) → Prop} (h : HSpec P f args m Rs) (hq : ∀ r m', Rs r m' → ∃ r2 m2, Rs' r2 m2 ∧ Le ⟨m.length, [r], m'⟩ ⟨m.length, [r2], m2⟩) : HSpec P f args m Rs' := by
  intro w R vs h1 h2
  have fin : ∀ (e : Ending) (w' : World), (∃ v r m' R', e = .returned v ∧ Rs r m' ∧ Fr w R (m.map some) w' R' m' ∧ RepA w' R' r v) → ∃ v r m' R', e = .returned v ∧ Rs' r m' ∧ Fr w R (m.map some) w' R' m' ∧ RepA w' R' r v := by
    rintro e w' ⟨v, r, m', R', g1, g2, g3, g4⟩
    obtain ⟨r2, m2, g5, g6⟩ := hq r m' g2
    obtain ⟨R2, hC⟩ := Le_ok g6 (show Conc w R (m.map some) ⟨m.length, [r], m'⟩ R' { tmps := #[v], defers := [] } w' from ⟨g3, rfl, fun i x hx => by
      cases i with
      | zero => cases hx; exact g4
      | succ i => simp at hx, Marks.nil .., by simp⟩)
    exact ⟨v, r2, m2, R2, g1, g5, hC.fr, hC.env 0 r2 rfl⟩
  rcases h w R vs h1 h2 with ⟨q1, q2⟩ | ⟨v, w', q1, q2⟩
  · exact .inl ⟨q1, q2.mono fin⟩
  · exact .inr ⟨v, w', q1, fin _ _ q2⟩
/-- What is said of no list is said of nil. -/
theorem HSpec.nils {P : Program} {f : FuncId} {pre post : List XV} {m : List Blk} {Rs : AV → List (Option Blk) → Prop} {b : Bool} {ks : List CK} (h : HSpec P f (pre ++ .one (.lst b ks []) :: post) m Rs) : HSpec P f (pre ++ .one .nils :: post) m Rs := fun w R vs hv hm => by
  refine h w R vs ⟨by rw [hv.1]; simp, fun j x hx => ?_⟩ hm
  by_cases e : j = pre.length
  · subst e
    have h1 := hv.2 pre.length (.one .nils) (by simp)
    have h2 : x = .one (.lst b ks []) := by simpa using hx.symm
    subst h2
    have h3 : vs.getD pre.length undef = .slice none 0 0 := h1
    rw [h3]
    exact RepC.sl ks [] none 0 (fun _ _ => undef) (Nat.le_refl _) (fun r hr => absurd hr (by simp)) (fun hr => absurd rfl hr) (fun i r f c k hr => absurd hr (by simp))
  · refine hv.2 j x ?_
    rw [List.getElem?_append] at hx ⊢
    split
    · rename_i hj
      rw [if_pos hj] at hx
      exact hx
    · rename_i hj
      rw [if_neg hj] at hx
      obtain ⟨d, hd⟩ : ∃ d, j - pre.length = d + 1 := ⟨j - pre.length - 1, by omega⟩
      rw [hd] at hx ⊢
      exact hx
end Go.Sx

namespace Go.Sx
open Go Go.Proofs
set_option maxRecDepth 10000
set_option maxHeartbeats 16000000
/-! ### SideAlbums: the document's answers -/
theorem s20e (P : List (Nat × Nat)) (hl : P.length ≤ 1000000) : PSpec Tryd.prog 20 [.one (.lst true KF2 (fcsA P)), .one (.lst true KF2 (fcsA P))] (xP True) := by
  have lP := fcsA_len P
  refine spec_of pMix (O := []) Tryd.func20 (c := bodyOf Tryd.f20) rfl (by kernel_rfl) (by kernel_rfl) Tryd.ntmps20 (res := [.tmp 4]) (by kernel_rfl) ?_
  repeat' ((conv => whnf); first | refine Rng.g ?_ | refine Ob.g ?_ | refine Ob.e ?_ | refine Ob.m ?_ | refine Ob.mk (Nat.le_of_ble_eq_true rfl) ?_ | refine JoinVC.on ?_ | refine Nils.mk (fun h => ?_) ?_ | refine Val.t ?_ | refine Val.d ?_ | refine Mm.mk ?_ | (refine Br.mk (fun h => ?_) (fun h => ?_) <;> first | (exfalso; omega; done) | (exfalso; simp at h; done) | skip))
  refine LoopVC.mk (fun n st => ∃ (i : Nat), i ≤ P.length ∧ n = P.length - i ∧ st = ⟨0, envA 26 [(0, .x (.one (.lst true KF2 (fcsA P)))), (1, .x (.one (.lst true KF2 (fcsA P)))), (5, .int .i64 (i : Int))], []⟩) _ _ ⟨0, Nat.zero_le _, rfl, rfl⟩ ?_ ?_
  · refine ⟨[], rfl, rfl, ?_, ?_⟩ <;> repeat' (first | exact trivial | exact rfl | exact Iff.rfl | apply And.intro)
  rintro n _ ⟨i, hi, hm, rfl⟩
  by_cases hi' : i < P.length
  · repeat' ((conv => whnf); first | refine Rng.g ?_ | refine Ob.g ?_ | refine Ob.e ?_ | refine Ob.m ?_ | refine Ob.mk (Nat.le_of_ble_eq_true rfl) ?_ | refine JoinVC.on ?_ | refine Nils.mk (fun h => ?_) ?_ | refine Val.t ?_ | refine Val.d ?_ | refine Mm.mk ?_ | (refine Br.mk (fun h => ?_) (fun h => ?_) <;> first | (exfalso; omega; done) | (exfalso; simp at h; done) | skip))
    refine Back.mk (P.length - (i + 1)) _ (by omega) ⟨i + 1, by omega, rfl, rfl⟩ ?_
    refine ⟨[], rfl, rfl, ?_, ?_⟩ <;> repeat' (first | exact trivial | exact rfl | exact Iff.rfl | apply And.intro)
  · repeat' ((conv => whnf); first | refine Rng.g ?_ | refine Ob.g ?_ | refine Ob.e ?_ | refine Ob.m ?_ | refine Ob.mk (Nat.le_of_ble_eq_true rfl) ?_ | refine JoinVC.on ?_ | refine Nils.mk (fun h => ?_) ?_ | refine Val.t ?_ | refine Val.d ?_ | refine Mm.mk ?_ | (refine Br.mk (fun h => ?_) (fun h => ?_) <;> first | (exfalso; omega; done) | (exfalso; simp at h; done) | skip))
    repeat refine Mm.mk ?_
    refine EndVC.mk _ rfl _ _ ⟨rfl, rfl⟩ ?_
    refine ⟨[], rfl, rfl, ?_, ?_⟩ <;> repeat' (first | exact trivial | exact rfl | exact Iff.rfl | apply And.intro)
theorem s20z : PSpec Tryd.prog 20 [.one .nils, .one .nils] (xP True) := HSpec.nils (pre := []) (post := [.one .nils]) (HSpec.nils (pre := [.one (.lst true KF2 [])]) (post := []) (s20e [] (by decide)))
theorem s17a (l : List Sng) : PSpec Tryd.prog 17 [lSng l, I 8] (xP ((8 < (l.length : Int) ∧ (l.length : Int) ≤ 24) ∨ 40 < (l.length : Int))) := by
  have ll := sngA_len l
  refine spec_of pMix (O := []) Tryd.func17 (c := bodyOf Tryd.f17) rfl (by kernel_rfl) (by kernel_rfl) Tryd.ntmps17 (res := [.tmp 4]) (by kernel_rfl) ?_
  repeat' ((conv => whnf); first | refine Rng.g ?_ | refine Ob.g ?_ | refine Ob.e ?_ | refine Ob.m ?_ | refine Ob.mk (Nat.le_of_ble_eq_true rfl) ?_ | refine JoinVC.on ?_ | refine Nils.mk (fun h => ?_) ?_ | refine Val.t ?_ | refine Val.d ?_ | refine Mm.mk ?_ | (refine Br.mk (fun h => ?_) (fun h => ?_) <;> first | (exfalso; omega; done) | (exfalso; simp at h; done) | skip))
  all_goals
    repeat refine Mm.mk ?_
    refine EndVC.mk _ rfl _ _ ⟨rfl, rfl⟩ ?_
    refine ⟨[], rfl, rfl, ?_, ?_⟩ <;> repeat' (first | exact trivial | exact rfl | exact Iff.rfl | apply And.intro)
    first | (show _ ↔ _; omega) | omega | (change _ ∨ _; omega) | (change ¬ _; omega)
inductive AlRr (F : List Fmt) (l : List Sng) (r : AV) (m' : List (Option Blk)) : Prop
  | bad (h : fmsE F l ≠ 0) (hr : r = .tup [.one .nils, I 0, I (fmsE F l)]) (hm : m' = [])
  | none (hA : AlbOK F l) (h : bst F l 0 = none) (hr : r = .tup [.one .nils, I 0, I 15]) (hm : m' = [])
  | ok (hA : AlbOK F l) (w : Int × Int) (q : Nat × Nat) (h : bst F l 0 = some (w, q)) (hr : r = .tup [.one (.lst false KF2 (fcsA (planB F l l.length 0))), I w.1, I 0]) (hm : m' = [])
theorem s19r (F : List Fmt) (l : List Sng) : HSpec Tryd.prog 19 [lFmt F, lSng l] [] (AlRr F l) := by
  have c48 := s48 F l
  by_cases he : fmsE F l = 0
  rotate_left
  · refine spec_of pMix (O := []) Tryd.func19 (c := bodyOf Tryd.f19) rfl (by kernel_rfl) (by kernel_rfl) Tryd.ntmps19 (res := [.tmp 4, .tmp 5, .tmp 6]) (by kernel_rfl) ?_
    repeat' ((conv => whnf); first | refine Rng.g ?_ | refine Ob.g ?_ | refine Ob.e ?_ | refine Ob.m ?_ | refine Ob.mk (Nat.le_of_ble_eq_true rfl) ?_ | refine JoinVC.on ?_ | refine Nils.mk (fun h => ?_) ?_ | refine Val.t ?_ | refine Val.d ?_ | refine Mm.mk ?_ | refine CallVC.pure rfl (c48) ?_ | refine CallVC0.pure rfl (c48) ?_ | (refine Br.mk (fun h => ?_) (fun h => ?_) <;> first | (exfalso; omega; done) | (exfalso; simp at h; done) | skip))
    repeat refine Mm.mk ?_
    conv => whnf
    refine EndVC.mk _ rfl _ _ (.bad he rfl rfl) ?_
    refine ⟨[], rfl, rfl, ?_, ?_⟩ <;> repeat' (first | exact trivial | exact rfl | exact Iff.rfl | apply And.intro)
  have hA := fmsE_0.1 he
  refine spec_of pMix (O := []) Tryd.func19 (c := bodyOf Tryd.f19) rfl (by kernel_rfl) (by kernel_rfl) Tryd.ntmps19 (res := [.tmp 4, .tmp 5, .tmp 6]) (by kernel_rfl) ?_
  repeat' ((conv => whnf); first | refine Rng.g ?_ | refine Ob.g ?_ | refine Ob.e ?_ | refine Ob.m ?_ | refine Ob.mk (Nat.le_of_ble_eq_true rfl) ?_ | refine JoinVC.on ?_ | refine Nils.mk (fun h => ?_) ?_ | refine Val.t ?_ | refine Val.d ?_ | refine Mm.mk ?_ | refine CallVC.pure rfl (c48) ?_ | refine CallVC0.pure rfl (c48) ?_ | (refine Br.mk (fun h => ?_) (fun h => ?_) <;> first | (exfalso; omega; done) | (exfalso; simp at h; done) | skip))
  conv => whnf
  refine CallVC.mk [] _ _ _ rfl rfl rfl (s48a F l hA) (fun r m' h' => ?_)
  obtain ⟨T, hT, rfl, rfl⟩ := h'
  conv => whnf
  have lT := hT.len
  have lA := plA'_len T
  have b0 : rA (plA' T) (Int.toNat 0) 0 = fcsA (rowP F l 0).1 := by rw [show Int.toNat 0 = 0 from rfl, plA'_0 T 0 (by omega), hT.at_]
  have b1 : rI (plA' T) (Int.toNat 0) (0 + 1) = (rowP F l 0).2.1 := by rw [show Int.toNat 0 = 0 from rfl, plA'_1 T 0 (by omega), hT.at_]
  have b2 : rB (plA' T) (Int.toNat 0) (0 + 1 + 1) = (rowP F l 0).2.2 := by rw [show Int.toNat 0 = 0 from rfl, plA'_2 T 0 (by omega), hT.at_]
  cases hb : bst F l 0 with
  | none =>
    rw [show rowP F l 0 = pln0 by unfold rowP; rw [hb]] at b2
    have b2' : rB (plA' T) (Int.toNat 0) (0 + 1 + 1) = false := b2
    repeat' ((conv => whnf); first | refine Rng.g ?_ | refine Ob.g ?_ | refine Ob.e ?_ | refine Ob.m ?_ | refine Ob.mk (Nat.le_of_ble_eq_true rfl) ?_ | refine JoinVC.on ?_ | refine Nils.mk (fun h => ?_) ?_ | refine Val.t ?_ | refine Val.d ?_ | refine Mm.mk ?_ | (refine Br.mk (fun h => ?_) (fun h => ?_) <;> first | (exfalso; omega; done) | (exfalso; simp at h; done) | skip))
    all_goals first | (exfalso; rename_i h; rw [b2'] at h; simp at h; done) | skip
    repeat refine Mm.mk ?_
    conv => whnf
    refine EndVC.mk _ rfl _ _ (.none hA hb rfl rfl) ?_
    refine ⟨[], rfl, rfl, ?_, ?_⟩ <;> repeat' (first | exact trivial | exact rfl | exact Iff.rfl | apply And.intro)
  | some e =>
    obtain ⟨w, q⟩ := e
    rw [show rowP F l 0 = (planB F l l.length 0, w.1, true) by unfold rowP; rw [hb]] at b0 b1 b2
    have b2' : rB (plA' T) (Int.toNat 0) (0 + 1 + 1) = true := b2
    repeat' ((conv => whnf); first | refine Rng.g ?_ | refine Ob.g ?_ | refine Ob.e ?_ | refine Ob.m ?_ | refine Ob.mk (Nat.le_of_ble_eq_true rfl) ?_ | refine JoinVC.on ?_ | refine Nils.mk (fun h => ?_) ?_ | refine Val.t ?_ | refine Val.d ?_ | refine Mm.mk ?_ | (refine Br.mk (fun h => ?_) (fun h => ?_) <;> first | (exfalso; omega; done) | (exfalso; simp at h; done) | skip))
    all_goals first | (exfalso; rename_i h; rw [b2'] at h; simp at h; done) | skip
    repeat refine Mm.mk ?_
    conv => whnf
    refine EndVC.mk _ rfl _ _ (.ok hA w q hb rfl rfl) ?_
    refine ⟨[], rfl, rfl, ?_, ?_⟩ <;> repeat' (first | exact trivial | exact rfl | exact Iff.rfl | apply And.intro)
    · exact b0
    · exact b1
theorem s22r (F : List Fmt) (l : List Sng) (P : List Fc) : PSpec Tryd.prog 22 [lFmt F, lSng l, lFac P] (.tup [I (cosN F l P), I (cosE F l P)]) := by
  have lF := fmtA_len F
  have ll := sngA_len l
  have lP := facA_len P
  have c48 := s48 F l
  by_cases he : fmsE F l = 0
  rotate_left
  · have h1 := cosE_bad (P := P) he
    have h2 : cosN F l P = 0 := if_neg (by rw [h1]; exact he)
    rw [h1, h2]
    refine spec_of pMix (O := [(20, ([], [⟨0, [], []⟩, ⟨1, [], []⟩, ⟨2, [], []⟩, ⟨3, [], []⟩, ⟨4, [], []⟩, ⟨5, [], []⟩, ⟨6, [], []⟩, ⟨7, [], []⟩, ⟨8, [], []⟩, ⟨9, [], []⟩, ⟨10, [0, 1], []⟩, ⟨11, [], []⟩, ⟨12, [], []⟩]))]) Tryd.func22 (c := bodyOf Tryd.f22) rfl (by kernel_rfl) (by kernel_rfl) Tryd.ntmps22 (res := [.tmp 6, .tmp 7]) (by kernel_rfl) ?_
    repeat' ((conv => whnf); first | refine Rng.g ?_ | refine Ob.g ?_ | refine Ob.e ?_ | refine Ob.m ?_ | refine Ob.mk (Nat.le_of_ble_eq_true rfl) ?_ | refine JoinVC.on ?_ | refine Nils.mk (fun h => ?_) ?_ | refine Val.t ?_ | refine Val.d ?_ | refine Mm.mk ?_ | refine CallVC.pure rfl (c48) ?_ | refine CallVC0.pure rfl (c48) ?_ | (refine Br.mk (fun h => ?_) (fun h => ?_) <;> first | (exfalso; omega; done) | (exfalso; simp at h; done) | skip))
    repeat refine Mm.mk ?_
    refine EndVC.mk _ rfl _ _ ⟨rfl, rfl⟩ ?_
    refine ⟨[], rfl, rfl, ?_, ?_⟩ <;> repeat' (first | exact trivial | exact rfl | exact Iff.rfl | apply And.intro)
  have hA := fmsE_0.1 he
  have h24 := hA.sngs.len
  by_cases hm : 24 < P.length
  · have h1 := cosE_many hA hm
    have h2 : cosN F l P = 0 := if_neg (by rw [h1]; decide)
    rw [h1, h2]
    refine spec_of pMix (O := [(20, ([], [⟨0, [], []⟩, ⟨1, [], []⟩, ⟨2, [], []⟩, ⟨3, [], []⟩, ⟨4, [], []⟩, ⟨5, [], []⟩, ⟨6, [], []⟩, ⟨7, [], []⟩, ⟨8, [], []⟩, ⟨9, [], []⟩, ⟨10, [0, 1], []⟩, ⟨11, [], []⟩, ⟨12, [], []⟩]))]) Tryd.func22 (c := bodyOf Tryd.f22) rfl (by kernel_rfl) (by kernel_rfl) Tryd.ntmps22 (res := [.tmp 6, .tmp 7]) (by kernel_rfl) ?_
    repeat' ((conv => whnf); first | refine Rng.g ?_ | refine Ob.g ?_ | refine Ob.e ?_ | refine Ob.m ?_ | refine Ob.mk (Nat.le_of_ble_eq_true rfl) ?_ | refine JoinVC.on ?_ | refine Nils.mk (fun h => ?_) ?_ | refine Val.t ?_ | refine Val.d ?_ | refine Mm.mk ?_ | refine CallVC.pure rfl (c48) ?_ | refine CallVC0.pure rfl (c48) ?_ | (refine Br.mk (fun h => ?_) (fun h => ?_) <;> first | (exfalso; omega; done) | (exfalso; simp at h; done) | skip))
    repeat refine Mm.mk ?_
    refine EndVC.mk _ rfl _ _ ⟨rfl, rfl⟩ ?_
    refine ⟨[], rfl, rfl, ?_, ?_⟩ <;> repeat' (first | exact trivial | exact rfl | exact Iff.rfl | apply And.intro)
  refine spec_of pMix (O := [(20, ([], [⟨0, [], []⟩, ⟨1, [], []⟩, ⟨2, [], []⟩, ⟨3, [], []⟩, ⟨4, [], []⟩, ⟨5, [], []⟩, ⟨6, [], []⟩, ⟨7, [], []⟩, ⟨8, [], []⟩, ⟨9, [], []⟩, ⟨10, [0, 1], []⟩, ⟨11, [], []⟩, ⟨12, [], []⟩]))]) Tryd.func22 (c := bodyOf Tryd.f22) rfl (by kernel_rfl) (by kernel_rfl) Tryd.ntmps22 (res := [.tmp 6, .tmp 7]) (by kernel_rfl) ?_
  repeat' ((conv => whnf); first | refine Rng.g ?_ | refine Ob.g ?_ | refine Ob.e ?_ | refine Ob.m ?_ | refine Ob.mk (Nat.le_of_ble_eq_true rfl) ?_ | refine JoinVC.on ?_ | refine Nils.mk (fun h => ?_) ?_ | refine Val.t ?_ | refine Val.d ?_ | refine Mm.mk ?_ | refine CallVC.pure rfl (c48) ?_ | refine CallVC0.pure rfl (c48) ?_ | (refine Br.mk (fun h => ?_) (fun h => ?_) <;> first | (exfalso; omega; done) | (exfalso; simp at h; done) | skip))
  refine LoopVC.mk (fun n st => ∃ (i : Nat), i ≤ P.length ∧ n = P.length - i ∧ (∀ j, j < i → (P.getD j fc0).ok F.length) ∧ st = ⟨0, envA 112 [(0, .x (lFmt F)), (1, .x (lSng l)), (2, .x (lFac P)), (9, .int .i64 (sumM P i)), (10, .int .i64 (i : Int))], []⟩) _ _ ⟨0, Nat.zero_le _, rfl, fun j hj => absurd hj (Nat.not_lt_zero j), rfl⟩ ?_ ?_
  · refine ⟨[], rfl, rfl, ?_, ?_⟩ <;> repeat' (first | exact trivial | exact rfl | exact Iff.rfl | apply And.intro)
  rintro n _ ⟨i, hi, hn, hj, rfl⟩
  have g1 : rI (facA P) (i : Int).toNat 0 = (P.getD i fc0).fm := by rw [Int.toNat_natCast]; exact facA_0 P i
  have g2 : rI (facA P) (i : Int).toNat (0 + 1) = (P.getD i fc0).mn := by rw [Int.toNat_natCast]; exact facA_1 P i
  have g1' : rI (facA P) (i : Int).toNat (0 + 0) = (P.getD i fc0).fm := g1
  have g2' : rI (facA P) (i : Int).toNat (0 + (0 + 1)) = (P.getD i fc0).mn := g2
  have hsb := sumM_bd i hj i (Nat.le_refl _)
  by_cases hi' : i < P.length
  · by_cases hok : (P.getD i fc0).ok F.length
    · have hok' := hok
      unfold Fc.ok at hok'
      repeat' ((conv => whnf); first | refine Rng.g ?_ | refine Ob.g ?_ | refine Ob.e ?_ | refine Ob.m ?_ | refine Ob.mk (Nat.le_of_ble_eq_true rfl) ?_ | refine JoinVC.on ?_ | refine Nils.mk (fun h => ?_) ?_ | refine Val.t ?_ | refine Val.d ?_ | refine Mm.mk ?_ | (refine Br.mk (fun h => ?_) (fun h => ?_) <;> first | (exfalso; omega; done) | (exfalso; simp at h; done) | skip))
      all_goals first | (exfalso; omega) | skip
      refine Back.mk (P.length - (i + 1)) _ (by omega) ⟨i + 1, by omega, rfl, fun j hj' => ?_, rfl⟩ ?_
      · rcases Nat.lt_succ_iff_lt_or_eq.1 hj' with h' | rfl
        · exact hj j h'
        · exact hok
      · refine ⟨[], rfl, rfl, ?_, ?_⟩ <;> repeat' (first | exact trivial | exact rfl | exact Iff.rfl | apply And.intro)
        show _ = sumM P i + (P.getD i fc0).mn
        omega
    · have hok' := hok
      unfold Fc.ok at hok'
      have h1 := cosE_rng (l := l) hA hm (fun h => hok (h i hi'))
      have h2 : cosN F l P = 0 := if_neg (by rw [h1]; decide)
      rw [h1, h2]
      repeat' ((conv => whnf); first | refine Rng.g ?_ | refine Ob.g ?_ | refine Ob.e ?_ | refine Ob.m ?_ | refine Ob.mk (Nat.le_of_ble_eq_true rfl) ?_ | refine JoinVC.on ?_ | refine Nils.mk (fun h => ?_) ?_ | refine Val.t ?_ | refine Val.d ?_ | refine Mm.mk ?_ | (refine Br.mk (fun h => ?_) (fun h => ?_) <;> first | (exfalso; omega; done) | (exfalso; simp at h; done) | skip))
      all_goals first | (exfalso; omega) | skip
      all_goals
        repeat refine Mm.mk ?_
        refine EndVC.mk _ rfl _ _ ⟨rfl, rfl⟩ ?_
        refine ⟨[], rfl, rfl, ?_, ?_⟩ <;> repeat' (first | exact trivial | exact rfl | exact Iff.rfl | apply And.intro)
  have ei : i = P.length := by omega
  subst ei
  have hall : AllF F P := hj
  by_cases hs : sumM P P.length = (l.length : Int)
  rotate_left
  · have h1 := cosE_eq (l := l) hA hm hall hs
    have h2 : cosN F l P = 0 := if_neg (by rw [h1]; decide)
    rw [h1, h2]
    repeat' ((conv => whnf); first | refine Rng.g ?_ | refine Ob.g ?_ | refine Ob.e ?_ | refine Ob.m ?_ | refine Ob.mk (Nat.le_of_ble_eq_true rfl) ?_ | refine JoinVC.on ?_ | refine Nils.mk (fun h => ?_) ?_ | refine Val.t ?_ | refine Val.d ?_ | refine Mm.mk ?_ | (refine Br.mk (fun h => ?_) (fun h => ?_) <;> first | (exfalso; omega; done) | (exfalso; simp at h; done) | skip))
    repeat refine Mm.mk ?_
    refine EndVC.mk _ rfl _ _ ⟨rfl, rfl⟩ ?_
    refine ⟨[], rfl, rfl, ?_, ?_⟩ <;> repeat' (first | exact trivial | exact rfl | exact Iff.rfl | apply And.intro)
  have hpf := plan_faces (l := l) hall hs
  repeat' ((conv => whnf); first | refine Rng.g ?_ | refine Ob.g ?_ | refine Ob.e ?_ | refine Ob.m ?_ | refine Ob.mk (Nat.le_of_ble_eq_true rfl) ?_ | refine JoinVC.on ?_ | refine Nils.mk (fun h => ?_) ?_ | refine Val.t ?_ | refine Val.d ?_ | refine Mm.mk ?_ | (refine Br.mk (fun h => ?_) (fun h => ?_) <;> first | (exfalso; omega; done) | (exfalso; simp at h; done) | skip))
  refine LoopVC.mk (fun n st => ∃ (i : Nat), i ≤ P.length ∧ n = P.length - i ∧ (∀ j, j < i → LayOK (F.getD (P.getD j fc0).fm.toNat f0) l (seqL (sumM P j).toNat (P.getD j fc0).mn.toNat)) ∧ st = ⟨0, envA 112 [(0, .x (lFmt F)), (1, .x (lSng l)), (2, .x (lFac P)), (11, .int .i64 (cstM F P i)), (12, .int .i64 (sumM P i)), (13, .int .i64 (i : Int))], []⟩) _ _ ⟨0, Nat.zero_le _, rfl, fun j hj => absurd hj (Nat.not_lt_zero j), rfl⟩ ?_ ?_
  · refine ⟨[], rfl, rfl, ?_, ?_⟩ <;> repeat' (first | exact trivial | exact rfl | exact Iff.rfl | apply And.intro)
  clear g1 g2 g1' g2' hsb
  rintro n _ ⟨i, hi, hn, hlay, rfl⟩
  have g1 : rI (facA P) (i : Int).toNat (0 + 0) = (P.getD i fc0).fm := by rw [Int.toNat_natCast]; exact facA_0 P i
  have g2 : rI (facA P) (i : Int).toNat (0 + (0 + 1)) = (P.getD i fc0).mn := by rw [Int.toNat_natCast]; exact facA_1 P i
  have hsb := sumM_bd P.length hall i hi
  have hcb := cstM_bd hA hall i hi
  by_cases hi' : i < P.length
  rotate_left
  · have ei : i = P.length := by omega
    subst ei
    have hP := hpf.2 hlay
    have h1 := cosE_ok hA hm hall hs hP
    have h2 : cosN F l P = cstM F P P.length := by
      rw [cstM_eq F P _ (Nat.le_refl _), List.take_length]
      exact if_pos h1
    rw [h1, h2]
    repeat' ((conv => whnf); first | refine Rng.g ?_ | refine Ob.g ?_ | refine Ob.e ?_ | refine Ob.m ?_ | refine Ob.mk (Nat.le_of_ble_eq_true rfl) ?_ | refine JoinVC.on ?_ | refine Nils.mk (fun h => ?_) ?_ | refine Val.t ?_ | refine Val.d ?_ | refine Mm.mk ?_ | (refine Br.mk (fun h => ?_) (fun h => ?_) <;> first | (exfalso; omega; done) | (exfalso; simp at h; done) | skip))
    repeat refine Mm.mk ?_
    refine EndVC.mk _ rfl _ _ ⟨rfl, rfl⟩ ?_
    refine ⟨[], rfl, rfl, ?_, ?_⟩ <;> repeat' (first | exact trivial | exact rfl | exact Iff.rfl | apply And.intro)
  have hok := hall i hi'
  unfold Fc.ok at hok
  have hmono := sumM_mono hall (i := i + 1) (P.length - (i + 1)) (by omega)
  rw [show i + 1 + (P.length - (i + 1)) = P.length by omega, hs] at hmono
  have hs1 : sumM P (i + 1) = sumM P i + (P.getD i fc0).mn := rfl
  have hc1 : cstM F P (i + 1) = cstM F P i + (F.getD (P.getD i fc0).fm.toNat f0).cost := rfl
  obtain ⟨k, hk⟩ : ∃ k : Nat, (P.getD i fc0).fm = k := ⟨(P.getD i fc0).fm.toNat, by omega⟩
  obtain ⟨m, hmm⟩ : ∃ m : Nat, (P.getD i fc0).mn = m := ⟨(P.getD i fc0).mn.toNat, by omega⟩
  obtain ⟨s, hss⟩ : ∃ s : Nat, sumM P i = s := ⟨(sumM P i).toNat, by omega⟩
  rw [hk, hmm] at hok
  rw [hmm, hss] at hs1
  rw [hk, Int.toNat_natCast] at hc1
  rw [hk] at g1
  rw [hmm] at g2
  rw [hss] at hsb
  have hk' : k < F.length := by omega
  have hf := hA.fmts k hk'
  have hco := hf.cost
  rw [hss]
  obtain ⟨w0', w1, w2, w3, w4, w5, w6, w7⟩ := fmt_at F k hk'
  have et : (rI (facA P) (i : Int).toNat (0 + 0)).toNat = k := by rw [g1, Int.toNat_natCast]
  have c52r : PSpec Tryd.prog 52 [I (s : Int), I ((s : Int) + rI (facA P) (i : Int).toNat (0 + (0 + 1)))] (.x (.one (.lst false [.int .i64] (i64s (seqL s (s + m - s)))))) := by
    rw [g2, ← Int.natCast_add]
    exact s52a s (s + m) (by omega) (by omega)
  have c59r : PSpec Tryd.prog 51 [.agg [.str (rS (fmtA F) (rI (facA P) (i : Int).toNat (0 + 0)).toNat 0), .int .i64 (rI (fmtA F) (rI (facA P) (i : Int).toNat (0 + 0)).toNat (0 + 1)), .int .i64 (rI (fmtA F) (rI (facA P) (i : Int).toNat (0 + 0)).toNat (0 + 1 + 1)), .int .i64 (rI (fmtA F) (rI (facA P) (i : Int).toNat (0 + 0)).toNat (0 + 1 + 1 + 1)), .int .i64 (rI (fmtA F) (rI (facA P) (i : Int).toNat (0 + 0)).toNat (0 + 1 + 1 + 1 + 1)), .int .i64 (rI (fmtA F) (rI (facA P) (i : Int).toNat (0 + 0)).toNat (0 + 1 + 1 + 1 + 1 + 1)), .int .i64 (rI (fmtA F) (rI (facA P) (i : Int).toNat (0 + 0)).toNat (0 + 1 + 1 + 1 + 1 + 1 + 1)), .int .i64 (rI (fmtA F) (rI (facA P) (i : Int).toNat (0 + 0)).toNat (0 + 1 + 1 + 1 + 1 + 1 + 1 + 1))], lSng l, .one (.lst true [.int .i64] (i64s (seqL s (s + m - s))))] (xP (LayOK (F.getD k f0) l (seqL s (s + m - s)))) := by
    rw [et, w0', w1, w2, w3, w4, w5, w6, w7]
    exact s59 (F.getD k f0) l (seqL s (s + m - s)) hf hA.sngs (fun x hx => by rw [seqL_len] at hx; rw [seqL_get _ _ _ hx]; omega) (by rw [seqL_len]; omega)
  have w7r : rI (fmtA F) (rI (facA P) (i : Int).toNat (0 + 0)).toNat (0 + (0 + 1 + 1 + 1 + 1 + 1 + 1 + 1)) = (F.getD k f0).cost := by rw [et]; exact w7
  have w7s : rI (fmtA F) (rI (facA P) (i : Int).toNat (0 + 0)).toNat ((0 + 1 + 1 + 1 + 1 + 1 + 1 + 1)) = (F.getD k f0).cost := by rw [et]; exact w7
  clear w0' w1 w2 w3 w4 w5 w6 w7
  repeat' ((conv => whnf); first | refine Rng.g ?_ | refine Ob.g ?_ | refine Ob.e ?_ | refine Ob.m ?_ | refine Ob.mk (Nat.le_of_ble_eq_true rfl) ?_ | refine JoinVC.on ?_ | refine Nils.mk (fun h => ?_) ?_ | refine Val.t ?_ | refine Val.d ?_ | refine Mm.mk ?_ | refine CallVC.pure rfl (c52r) ?_ | refine CallVC.pure rfl (c59r) ?_ | refine CallVC0.pure rfl (c52r) ?_ | refine CallVC0.pure rfl (c59r) ?_ | (refine Br.mk (fun h => ?_) (fun h => ?_) <;> first | (exfalso; omega; done) | (exfalso; simp at h; done) | skip))
  · have hL : ¬ LayOK (F.getD k f0) l (seqL s (s + m - s)) := by assumption
    have hno : ¬ PlanOK F l 0 (plnP P) := fun h => by
      have := hpf.1 h i hi'
      rw [hk, hmm, hss, Int.toNat_natCast, Int.toNat_natCast, Int.toNat_natCast] at this
      rw [show s + m - s = m by omega] at hL
      exact hL this
    have h1 := cosE_plan hA hm hall hs hno
    have h2 : cosN F l P = 0 := if_neg (by rw [h1]; decide)
    rw [h1, h2]
    repeat refine Mm.mk ?_
    refine EndVC.mk _ rfl _ _ ⟨rfl, rfl⟩ ?_
    refine ⟨[], rfl, rfl, ?_, ?_⟩ <;> repeat' (first | exact trivial | exact rfl | exact Iff.rfl | apply And.intro)
  · have hL : ¬ ¬ LayOK (F.getD k f0) l (seqL s (s + m - s)) := by assumption
    refine Back.mk (P.length - (i + 1)) _ (by omega) ⟨i + 1, by omega, rfl, fun j hj' => ?_, rfl⟩ ?_
    · rcases Nat.lt_succ_iff_lt_or_eq.1 hj' with h' | rfl
      · exact hlay j h'
      · rw [hk, hmm, hss, Int.toNat_natCast, Int.toNat_natCast, Int.toNat_natCast]
        rw [show s + m - s = m by omega] at hL
        exact Classical.not_not.1 hL
    · rw [hs1, hc1]
      refine ⟨[], rfl, rfl, ?_, ?_⟩ <;> repeat' (first | exact trivial | exact rfl | exact Iff.rfl | apply And.intro)
      · rw [w7r]
      · rw [g2]
theorem s24r (F : List Fmt) (l : List Sng) : HSpec Tryd.prog 24 [lFmt F, lSng l] [] (fun r m' => (fmsE F l ≠ 0 ∧ r = .tup [.one .nils, I (fmsE F l)] ∧ m' = []) ∨ (AlbOK F l ∧ ∃ p : List Int, p.length = l.length + 1 ∧ (∀ n, n ≤ l.length → p.getD n 0 = prcB F (l.take n)) ∧ r = .tup [.one (.own 0), I 0] ∧ m' = [some (rowPr p)])) := by
  have ll := sngA_len l
  have c48 := s48 F l
  by_cases he : fmsE F l = 0
  rotate_left
  · refine spec_of pMix (O := []) Tryd.func24 (c := bodyOf Tryd.f24) rfl (by kernel_rfl) (by kernel_rfl) Tryd.ntmps24 (res := [.tmp 4, .tmp 5]) (by kernel_rfl) ?_
    repeat' ((conv => whnf); first | refine Rng.g ?_ | refine Ob.g ?_ | refine Ob.e ?_ | refine Ob.m ?_ | refine Ob.mk (Nat.le_of_ble_eq_true rfl) ?_ | refine JoinVC.on ?_ | refine Nils.mk (fun h => ?_) ?_ | refine Val.t ?_ | refine Val.d ?_ | refine Mm.mk ?_ | refine CallVC.pure rfl (c48) ?_ | refine CallVC0.pure rfl (c48) ?_ | (refine Br.mk (fun h => ?_) (fun h => ?_) <;> first | (exfalso; omega; done) | (exfalso; simp at h; done) | skip))
    repeat refine Mm.mk ?_
    conv => whnf
    refine EndVC.mk _ rfl _ _ (.inl ⟨he, rfl, rfl⟩) ?_
    refine ⟨[], rfl, rfl, ?_, ?_⟩ <;> repeat' (first | exact trivial | exact rfl | exact Iff.rfl | apply And.intro)
  have hA := fmsE_0.1 he
  have h24 := hA.sngs.len
  refine spec_of pMix (O := []) Tryd.func24 (c := bodyOf Tryd.f24) rfl (by kernel_rfl) (by kernel_rfl) Tryd.ntmps24 (res := [.tmp 4, .tmp 5]) (by kernel_rfl) ?_
  repeat' ((conv => whnf); first | refine Rng.g ?_ | refine Ob.g ?_ | refine Ob.e ?_ | refine Ob.m ?_ | refine Ob.mk (Nat.le_of_ble_eq_true rfl) ?_ | refine JoinVC.on ?_ | refine Nils.mk (fun h => ?_) ?_ | refine Val.t ?_ | refine Val.d ?_ | refine Mm.mk ?_ | refine CallVC.pure rfl (c48) ?_ | refine CallVC0.pure rfl (c48) ?_ | (refine Br.mk (fun h => ?_) (fun h => ?_) <;> first | (exfalso; omega; done) | (exfalso; simp at h; done) | skip))
  refine LoopVC.mk (fun n st => ∃ (i : Nat) (p : List Int), i ≤ l.length + 1 ∧ n = l.length + 1 - i ∧ p.length = i ∧ (∀ n, n < i → p.getD n 0 = prcB F (l.take n)) ∧ st = ⟨0, envA 40 [(0, .x (lFmt F)), (1, .x (lSng l)), (7, .x (.one (.own 0))), (8, .int .i64 (i : Int))], [some (rowPr p)]⟩) _ _ ⟨0, [], Nat.zero_le _, rfl, rfl, fun n h => absurd h (Nat.not_lt_zero n), rfl⟩ ?_ ?_
  · refine ⟨[none], rfl, rfl, ?_, ?_⟩ <;> repeat' (first | exact trivial | exact rfl | exact Iff.rfl | apply And.intro)
  rintro m _ ⟨i, p, hi, hm, hlp, hp, rfl⟩
  have lpi := i64s_len p
  by_cases hi' : i ≤ l.length
  rotate_left
  · have ei : i = l.length + 1 := by omega
    subst ei
    repeat' ((conv => whnf); first | refine Rng.g ?_ | refine Ob.g ?_ | refine Ob.e ?_ | refine Ob.m ?_ | refine Ob.mk (Nat.le_of_ble_eq_true rfl) ?_ | refine JoinVC.on ?_ | refine Nils.mk (fun h => ?_) ?_ | refine Val.t ?_ | refine Val.d ?_ | refine Mm.mk ?_ | (refine Br.mk (fun h => ?_) (fun h => ?_) <;> first | (exfalso; omega; done) | (exfalso; simp at h; done) | skip))
    repeat refine Mm.mk ?_
    conv => whnf
    refine EndVC.mk _ rfl _ _ (.inr ⟨hA, p, hlp, fun n hn => hp n (by omega), rfl, rfl⟩) ?_
    refine ⟨[some 0], rfl, rfl, ?_, ?_⟩ <;> repeat' (first | exact trivial | exact rfl | exact Iff.rfl | apply And.intro)
  have et : sngA (l.take i) = (sngA l).take i := by simp [sngA]
  have c := s48a F (l.take i) (hA.take i)
  unfold lSng at c
  rw [et] at c
  have lt : (l.take i).length = i := by rw [List.length_take]; omega
  repeat' ((conv => whnf); first | refine Rng.g ?_ | refine Ob.g ?_ | refine Ob.e ?_ | refine Ob.m ?_ | refine Ob.mk (Nat.le_of_ble_eq_true rfl) ?_ | refine JoinVC.on ?_ | refine Nils.mk (fun h => ?_) ?_ | refine Val.t ?_ | refine Val.d ?_ | refine Mm.mk ?_ | (refine Br.mk (fun h => ?_) (fun h => ?_) <;> first | (exfalso; omega; done) | (exfalso; simp at h; done) | skip))
  conv => whnf
  refine CallVC.mk [] _ _ _ rfl rfl rfl (c) (fun r m' h' => ?_)
  obtain ⟨T, hT, rfl, rfl⟩ := h'
  conv => whnf
  have lT := hT.len
  rw [lt] at lT
  have lA := plA'_len T
  have b1 : rI (plA' T) (Int.toNat 0) (0 + 1) = (rowP F (l.take i) 0).2.1 := by rw [show Int.toNat 0 = 0 from rfl, plA'_1 T 0 (by omega), hT.at_]
  have b2 : rB (plA' T) (Int.toNat 0) (0 + 1 + 1) = (rowP F (l.take i) 0).2.2 := by rw [show Int.toNat 0 = 0 from rfl, plA'_2 T 0 (by omega), hT.at_]
  have hcase : ((rowP F (l.take i) 0).2.2 = true ∧ (rowP F (l.take i) 0).2.1 = prcB F (l.take i)) ∨ ((rowP F (l.take i) 0).2.2 = false ∧ prcB F (l.take i) = -1) := by
    unfold rowP prcB
    cases bst F (l.take i) 0 with
    | none => exact .inr ⟨rfl, rfl⟩
    | some e => exact .inl ⟨rfl, rfl⟩
  have hnx : ∀ v, v = prcB F (l.take i) → ∀ n, n < i + 1 → (p ++ [v]).getD n 0 = prcB F (l.take n) := fun v hv n hn => by
    rw [List.getD_eq_getElem?_getD]
    by_cases e : n = i
    · subst e
      rw [List.getElem?_append_right (by omega), hlp, Nat.sub_self]
      exact hv
    · rw [List.getElem?_append_left (by omega), ← List.getD_eq_getElem?_getD]
      exact hp n (by omega)
  repeat' ((conv => whnf); first | refine Rng.g ?_ | refine Ob.g ?_ | refine Ob.e ?_ | refine Ob.m ?_ | refine Ob.mk (Nat.le_of_ble_eq_true rfl) ?_ | refine JoinVC.on ?_ | refine Nils.mk (fun h => ?_) ?_ | refine Val.t ?_ | refine Val.d ?_ | refine Mm.mk ?_ | (refine Br.mk (fun h => ?_) (fun h => ?_) <;> first | (exfalso; omega; done) | (exfalso; simp at h; done) | skip))
  all_goals
    repeat refine Mm.mk ?_
    refine Ob.mk (by rw [eb2]; simp only [List.length_cons, List.length_nil]; omega) ?_
    repeat' ((conv => whnf); first | refine Rng.g ?_ | refine Ob.g ?_ | refine Ob.e ?_ | refine Ob.m ?_ | refine Ob.mk (Nat.le_of_ble_eq_true rfl) ?_ | refine JoinVC.on ?_ | refine Nils.mk (fun h => ?_) ?_ | refine Val.t ?_ | refine Val.d ?_ | refine Mm.mk ?_ | (refine Br.mk (fun h => ?_) (fun h => ?_) <;> first | (exfalso; omega; done) | (exfalso; simp at h; done) | skip))
  · have h9 : rB (plA' T) (Int.toNat 0) (0 + 1 + 1) = true := by assumption
    rw [b2] at h9
    rcases hcase with ⟨_, h2⟩ | ⟨h1, _⟩
    rotate_left
    · rw [h1] at h9; cases h9
    refine Back.mk (l.length + 1 - (i + 1)) _ (by omega) ⟨i + 1, p ++ [prcB F (l.take i)], by omega, rfl, by rw [List.length_append, hlp]; rfl, hnx _ rfl, rfl⟩ ?_
    refine ⟨[some 4], rfl, rfl, ?_, ?_⟩ <;> repeat' (first | exact trivial | exact rfl | exact Iff.rfl | apply And.intro)
    rw [i64s_snoc, ← h2, ← b1]
  · have h9 : ¬ rB (plA' T) (Int.toNat 0) (0 + 1 + 1) = true := by assumption
    rw [b2] at h9
    rcases hcase with ⟨h1, _⟩ | ⟨_, h2⟩
    · rw [h1] at h9; exact absurd rfl h9
    refine Back.mk (l.length + 1 - (i + 1)) _ (by omega) ⟨i + 1, p ++ [prcB F (l.take i)], by omega, rfl, by rw [List.length_append, hlp]; rfl, hnx _ rfl, rfl⟩ ?_
    refine ⟨[some 4], rfl, rfl, ?_, ?_⟩ <;> repeat' (first | exact trivial | exact rfl | exact Iff.rfl | apply And.intro)
    rw [i64s_snoc, h2]
def badQ (F : List Fmt) (l : List Sng) (p : List Int) (k i j : Nat) : Prop := faceP F l k i j ∧ 0 ≤ p.getD i 0 ∧ (p.getD j 0 < 0 ∨ p.getD i 0 + (F.getD k f0).cost < p.getD j 0)
theorem wrong_iff {F : List Fmt} {l : List Sng} {p : List Int} {j : Nat} : wrongP F l p j ↔ ∃ i k, badQ F l p k i j := by
  constructor
  · rintro ⟨i, k, h1, h2, h3⟩
    rcases h1 with ⟨_, h1⟩ | ⟨_, h1⟩
    · exact ⟨i, k, h1, h2, h3⟩
    · exact absurd h1 (by simp)
  · rintro ⟨i, k, h1, h2, h3⟩
    have := h1.lt
    have := h1.le
    exact ⟨i, k, .inl ⟨by omega, h1⟩, h2, h3⟩
theorem s26r (F : List Fmt) (l : List Sng) (p : List Int) : HSpec Tryd.prog 26 [lFmt F, lSng l, .one (.lst true [.int .i64] (i64s p))] [] (fun r m' => CpRs F l p r ∧ m' = []) := by
  have ll := sngA_len l
  have lF := fmtA_len F
  have lpi := i64s_len p
  have c48 := s48 F l
  by_cases he : fmsE F l = 0
  rotate_left
  · refine spec_of pMix (O := [(20, ([], [⟨0, [], []⟩, ⟨1, [], []⟩, ⟨2, [], []⟩, ⟨3, [], []⟩, ⟨4, [], []⟩, ⟨5, [], []⟩, ⟨6, [], []⟩, ⟨7, [], []⟩, ⟨8, [], []⟩, ⟨9, [], []⟩, ⟨10, [], []⟩, ⟨11, [], []⟩, ⟨12, [], []⟩, ⟨13, [], []⟩, ⟨14, [], []⟩, ⟨15, [], []⟩, ⟨16, [], []⟩, ⟨17, [], []⟩, ⟨18, [], []⟩, ⟨19, [], []⟩, ⟨20, [], []⟩, ⟨21, [], []⟩, ⟨22, [], []⟩, ⟨23, [], []⟩, ⟨24, [], []⟩, ⟨25, [], []⟩, ⟨26, [], []⟩, ⟨27, [], []⟩, ⟨28, [], []⟩, ⟨29, [], []⟩, ⟨30, [], []⟩, ⟨31, [], []⟩, ⟨32, [], []⟩, ⟨33, [], []⟩, ⟨34, [], []⟩, ⟨35, [], []⟩, ⟨36, [], []⟩, ⟨37, [30, 31, 32, 33, 34], []⟩, ⟨38, [], []⟩, ⟨39, [], []⟩]))]) Tryd.func26 (c := bodyOf Tryd.f26) rfl (by kernel_rfl) (by kernel_rfl) Tryd.ntmps26 (res := [.tmp 6, .tmp 7]) (by kernel_rfl) ?_
    repeat' ((conv => whnf); first | refine Rng.g ?_ | refine Ob.g ?_ | refine Ob.e ?_ | refine Ob.m ?_ | refine Ob.mk (Nat.le_of_ble_eq_true rfl) ?_ | refine JoinVC.on ?_ | refine Nils.mk (fun h => ?_) ?_ | refine Val.t ?_ | refine Val.d ?_ | refine Mm.mk ?_ | refine CallVC.pure rfl (c48) ?_ | refine CallVC0.pure rfl (c48) ?_ | (refine Br.mk (fun h => ?_) (fun h => ?_) <;> first | (exfalso; omega; done) | (exfalso; simp at h; done) | skip))
    repeat refine Mm.mk ?_
    conv => whnf
    refine EndVC.mk _ rfl _ _ (⟨.bad he rfl, rfl⟩) ?_
    refine ⟨[], rfl, rfl, ?_, ?_⟩ <;> repeat' (first | exact trivial | exact rfl | exact Iff.rfl | apply And.intro)
  have hA := fmsE_0.1 he
  have h24 := hA.sngs.len
  by_cases hl : p.length = l.length + 1
  rotate_left
  · refine spec_of pMix (O := [(20, ([], [⟨0, [], []⟩, ⟨1, [], []⟩, ⟨2, [], []⟩, ⟨3, [], []⟩, ⟨4, [], []⟩, ⟨5, [], []⟩, ⟨6, [], []⟩, ⟨7, [], []⟩, ⟨8, [], []⟩, ⟨9, [], []⟩, ⟨10, [], []⟩, ⟨11, [], []⟩, ⟨12, [], []⟩, ⟨13, [], []⟩, ⟨14, [], []⟩, ⟨15, [], []⟩, ⟨16, [], []⟩, ⟨17, [], []⟩, ⟨18, [], []⟩, ⟨19, [], []⟩, ⟨20, [], []⟩, ⟨21, [], []⟩, ⟨22, [], []⟩, ⟨23, [], []⟩, ⟨24, [], []⟩, ⟨25, [], []⟩, ⟨26, [], []⟩, ⟨27, [], []⟩, ⟨28, [], []⟩, ⟨29, [], []⟩, ⟨30, [], []⟩, ⟨31, [], []⟩, ⟨32, [], []⟩, ⟨33, [], []⟩, ⟨34, [], []⟩, ⟨35, [], []⟩, ⟨36, [], []⟩, ⟨37, [30, 31, 32, 33, 34], []⟩, ⟨38, [], []⟩, ⟨39, [], []⟩]))]) Tryd.func26 (c := bodyOf Tryd.f26) rfl (by kernel_rfl) (by kernel_rfl) Tryd.ntmps26 (res := [.tmp 6, .tmp 7]) (by kernel_rfl) ?_
    repeat' ((conv => whnf); first | refine Rng.g ?_ | refine Ob.g ?_ | refine Ob.e ?_ | refine Ob.m ?_ | refine Ob.mk (Nat.le_of_ble_eq_true rfl) ?_ | refine JoinVC.on ?_ | refine Nils.mk (fun h => ?_) ?_ | refine Val.t ?_ | refine Val.d ?_ | refine Mm.mk ?_ | refine CallVC.pure rfl (c48) ?_ | refine CallVC0.pure rfl (c48) ?_ | (refine Br.mk (fun h => ?_) (fun h => ?_) <;> first | (exfalso; omega; done) | (exfalso; simp at h; done) | skip))
    repeat refine Mm.mk ?_
    conv => whnf
    refine EndVC.mk _ rfl _ _ (⟨.len hA hl rfl, rfl⟩) ?_
    refine ⟨[], rfl, rfl, ?_, ?_⟩ <;> repeat' (first | exact trivial | exact rfl | exact Iff.rfl | apply And.intro)
  refine spec_of pMix (O := [(20, ([], [⟨0, [], []⟩, ⟨1, [], []⟩, ⟨2, [], []⟩, ⟨3, [], []⟩, ⟨4, [], []⟩, ⟨5, [], []⟩, ⟨6, [], []⟩, ⟨7, [], []⟩, ⟨8, [], []⟩, ⟨9, [], []⟩, ⟨10, [], []⟩, ⟨11, [], []⟩, ⟨12, [], []⟩, ⟨13, [], []⟩, ⟨14, [], []⟩, ⟨15, [], []⟩, ⟨16, [], []⟩, ⟨17, [], []⟩, ⟨18, [], []⟩, ⟨19, [], []⟩, ⟨20, [], []⟩, ⟨21, [], []⟩, ⟨22, [], []⟩, ⟨23, [], []⟩, ⟨24, [], []⟩, ⟨25, [], []⟩, ⟨26, [], []⟩, ⟨27, [], []⟩, ⟨28, [], []⟩, ⟨29, [], []⟩, ⟨30, [], []⟩, ⟨31, [], []⟩, ⟨32, [], []⟩, ⟨33, [], []⟩, ⟨34, [], []⟩, ⟨35, [], []⟩, ⟨36, [], []⟩, ⟨37, [30, 31, 32, 33, 34], []⟩, ⟨38, [], []⟩, ⟨39, [], []⟩]))]) Tryd.func26 (c := bodyOf Tryd.f26) rfl (by kernel_rfl) (by kernel_rfl) Tryd.ntmps26 (res := [.tmp 6, .tmp 7]) (by kernel_rfl) ?_
  repeat' ((conv => whnf); first | refine Rng.g ?_ | refine Ob.g ?_ | refine Ob.e ?_ | refine Ob.m ?_ | refine Ob.mk (Nat.le_of_ble_eq_true rfl) ?_ | refine JoinVC.on ?_ | refine Nils.mk (fun h => ?_) ?_ | refine Val.t ?_ | refine Val.d ?_ | refine Mm.mk ?_ | refine CallVC.pure rfl (c48) ?_ | refine CallVC0.pure rfl (c48) ?_ | (refine Br.mk (fun h => ?_) (fun h => ?_) <;> first | (exfalso; omega; done) | (exfalso; simp at h; done) | skip))
  refine LoopVC.mk (fun n st => ∃ (i : Nat), i ≤ p.length ∧ n = p.length - i ∧ (∀ j, j < i → ¬ outP (p.getD j 0)) ∧ (0 < i → p.getD 0 0 = 0) ∧ st = ⟨0, envA 106 [(0, .x (lFmt F)), (1, .x (lSng l)), (2, .x (.one (.lst true [.int .i64] (i64s p)))), (9, .int .i64 (i : Int))], []⟩) _ _ ⟨0, Nat.zero_le _, rfl, fun j h => absurd h (Nat.not_lt_zero j), fun h => absurd h (Nat.lt_irrefl 0), rfl⟩ ?_ ?_
  · refine ⟨[], rfl, rfl, ?_, ?_⟩ <;> repeat' (first | exact trivial | exact rfl | exact Iff.rfl | apply And.intro)
  rintro m _ ⟨i, hi, hm, hj, hz, rfl⟩
  have gi : rI (i64s p) (i : Int).toNat 0 = p.getD i 0 := by rw [Int.toNat_natCast]; exact i64s_get p i
  by_cases hi' : i < p.length
  · have c44 := s71 (rI (i64s p) (i : Int).toNat 0) (-1) 25165824
    have ho : outP (p.getD i 0) ↔ (p.getD i 0 < -1 ∨ p.getD i 0 > 25165824) := Iff.rfl
    by_cases hb : outP (p.getD i 0) ∨ (i = 0 ∧ p.getD i 0 ≠ 0)
    · have hrs : CpRs F l p (.tup [I 0, I 3]) := by
        refine .rng hA hl ?_ rfl
        rcases hb with hb | ⟨rfl, hb⟩
        · exact .inr ⟨i, hi', hb⟩
        · exact .inl hb
      have hb' := hb
      unfold outP at hb'
      repeat' ((conv => whnf); first | refine Rng.g ?_ | refine Ob.g ?_ | refine Ob.e ?_ | refine Ob.m ?_ | refine Ob.mk (Nat.le_of_ble_eq_true rfl) ?_ | refine JoinVC.on ?_ | refine Nils.mk (fun h => ?_) ?_ | refine Val.t ?_ | refine Val.d ?_ | refine Mm.mk ?_ | refine CallVC.pure rfl (c44) ?_ | refine CallVC0.pure rfl (c44) ?_ | (refine Br.mk (fun h => ?_) (fun h => ?_) <;> first | (exfalso; omega; done) | (exfalso; simp at h; done) | skip))
      all_goals first | (exfalso; omega) | skip
      all_goals
        repeat refine Mm.mk ?_
        conv => whnf
        refine EndVC.mk _ rfl _ _ (⟨hrs, rfl⟩) ?_
        refine ⟨[], rfl, rfl, ?_, ?_⟩ <;> repeat' (first | exact trivial | exact rfl | exact Iff.rfl | apply And.intro)
    · have hb' := hb
      unfold outP at hb'
      have ho' : ¬ outP (p.getD i 0) := fun h => hb (.inl h)
      repeat' ((conv => whnf); first | refine Rng.g ?_ | refine Ob.g ?_ | refine Ob.e ?_ | refine Ob.m ?_ | refine Ob.mk (Nat.le_of_ble_eq_true rfl) ?_ | refine JoinVC.on ?_ | refine Nils.mk (fun h => ?_) ?_ | refine Val.t ?_ | refine Val.d ?_ | refine Mm.mk ?_ | refine CallVC.pure rfl (c44) ?_ | refine CallVC0.pure rfl (c44) ?_ | (refine Br.mk (fun h => ?_) (fun h => ?_) <;> first | (exfalso; omega; done) | (exfalso; simp at h; done) | skip))
      all_goals first | (exfalso; omega) | skip
      all_goals
        refine Back.mk (p.length - (i + 1)) _ (by omega) ⟨i + 1, by omega, rfl, fun j hj' => (Nat.lt_succ_iff_lt_or_eq.1 hj').elim (hj j) (fun e => e ▸ ho'), fun _ => (Nat.eq_zero_or_pos i).elim (fun e => by subst e; omega) hz, rfl⟩ ?_
        refine ⟨[], rfl, rfl, ?_, ?_⟩ <;> repeat' (first | exact trivial | exact rfl | exact Iff.rfl | apply And.intro)
  have ei : i = p.length := by omega
  subst ei
  have hz0 := hz (by omega)
  have hin : ∀ j, j < p.length → -1 ≤ p.getD j 0 ∧ p.getD j 0 ≤ 25165824 := fun k hk => by have := hj k hk; unfold outP at this; omega
  clear gi hz
  repeat' ((conv => whnf); first | refine Rng.g ?_ | refine Ob.g ?_ | refine Ob.e ?_ | refine Ob.m ?_ | refine Ob.mk (Nat.le_of_ble_eq_true rfl) ?_ | refine JoinVC.on ?_ | refine Nils.mk (fun h => ?_) ?_ | refine Val.t ?_ | refine Val.d ?_ | refine Mm.mk ?_ | (refine Br.mk (fun h => ?_) (fun h => ?_) <;> first | (exfalso; omega; done) | (exfalso; simp at h; done) | skip))
  refine LoopVC.mk (fun n st => ∃ (j : Nat), 1 ≤ j ∧ j ≤ l.length + 1 ∧ n = l.length + 1 - j ∧ (∀ j', j' < j → ¬ wrongP F l p j') ∧ st = ⟨0, envA 106 [(0, .x (lFmt F)), (1, .x (lSng l)), (2, .x (.one (.lst true [.int .i64] (i64s p)))), (10, .int .i64 (j : Int))], []⟩) _ _ ⟨1, by omega, by omega, rfl, fun j' h1 h2 => by
    obtain ⟨i, k, h3, _⟩ := wrong_iff.1 h2
    have := h3.lt
    omega, rfl⟩ ?_ ?_
  · refine ⟨[], rfl, rfl, ?_, ?_⟩ <;> repeat' (first | exact trivial | exact rfl | exact Iff.rfl | apply And.intro)
  rintro m2 _ ⟨j, hj1, hj2, hm2, hno, rfl⟩
  by_cases hj' : j ≤ l.length
  rotate_left
  · have ej : j = l.length + 1 := by omega
    subst ej
    have hfin : ∀ j, ¬ wrongP F l p j := fun j' h2 => by
      obtain ⟨i, k, h3, _⟩ := wrong_iff.1 h2
      have := h3.le
      exact hno j' (by omega) h2
    repeat' ((conv => whnf); first | refine Rng.g ?_ | refine Ob.g ?_ | refine Ob.e ?_ | refine Ob.m ?_ | refine Ob.mk (Nat.le_of_ble_eq_true rfl) ?_ | refine JoinVC.on ?_ | refine Nils.mk (fun h => ?_) ?_ | refine Val.t ?_ | refine Val.d ?_ | refine Mm.mk ?_ | (refine Br.mk (fun h => ?_) (fun h => ?_) <;> first | (exfalso; omega; done) | (exfalso; simp at h; done) | skip))
    repeat refine Mm.mk ?_
    conv => whnf
    refine EndVC.mk _ rfl _ _ (⟨.ok hA hl hz0 hj hfin rfl, rfl⟩) ?_
    refine ⟨[], rfl, rfl, ?_, ?_⟩ <;> repeat' (first | exact trivial | exact rfl | exact Iff.rfl | apply And.intro)
  repeat' ((conv => whnf); first | refine Rng.g ?_ | refine Ob.g ?_ | refine Ob.e ?_ | refine Ob.m ?_ | refine Ob.mk (Nat.le_of_ble_eq_true rfl) ?_ | refine JoinVC.on ?_ | refine Nils.mk (fun h => ?_) ?_ | refine Val.t ?_ | refine Val.d ?_ | refine Mm.mk ?_ | (refine Br.mk (fun h => ?_) (fun h => ?_) <;> first | (exfalso; omega; done) | (exfalso; simp at h; done) | skip))
  refine LoopVC.mk (fun n st => ∃ (i : Nat), i ≤ j ∧ n = j - i ∧ (∀ i' k, i' < i → ¬ badQ F l p k i' j) ∧ st = ⟨0, envA 106 [(0, .x (lFmt F)), (1, .x (lSng l)), (2, .x (.one (.lst true [.int .i64] (i64s p)))), (10, .int .i64 (j : Int)), (11, .int .i64 (i : Int))], []⟩) _ _ ⟨0, Nat.zero_le _, rfl, fun i' k h => absurd h (Nat.not_lt_zero _), rfl⟩ ?_ ?_
  · refine ⟨[], rfl, rfl, ?_, ?_⟩ <;> repeat' (first | exact trivial | exact rfl | exact Iff.rfl | apply And.intro)
  rintro m3 _ ⟨i, hi3, hm3, hno2, rfl⟩
  by_cases hi' : i < j
  rotate_left
  · have ei : i = j := by omega
    subst ei
    repeat' ((conv => whnf); first | refine Rng.g ?_ | refine Ob.g ?_ | refine Ob.e ?_ | refine Ob.m ?_ | refine Ob.mk (Nat.le_of_ble_eq_true rfl) ?_ | refine JoinVC.on ?_ | refine Nils.mk (fun h => ?_) ?_ | refine Val.t ?_ | refine Val.d ?_ | refine Mm.mk ?_ | (refine Br.mk (fun h => ?_) (fun h => ?_) <;> first | (exfalso; omega; done) | (exfalso; simp at h; done) | skip))
    refine Back.mk (l.length + 1 - (i + 1)) _ (by omega) ⟨i + 1, by omega, by omega, rfl, fun j' h1 => ?_, rfl⟩ ?_
    · rcases Nat.lt_succ_iff_lt_or_eq.1 h1 with h1 | rfl
      · exact hno j' h1
      · intro h2
        obtain ⟨i', k, h3⟩ := wrong_iff.1 h2
        exact hno2 i' k h3.1.lt h3
    · refine ⟨[], rfl, rfl, ?_, ?_⟩ <;> repeat' (first | exact trivial | exact rfl | exact Iff.rfl | apply And.intro)
  repeat' ((conv => whnf); first | refine Rng.g ?_ | refine Ob.g ?_ | refine Ob.e ?_ | refine Ob.m ?_ | refine Ob.mk (Nat.le_of_ble_eq_true rfl) ?_ | refine JoinVC.on ?_ | refine Nils.mk (fun h => ?_) ?_ | refine Val.t ?_ | refine Val.d ?_ | refine Mm.mk ?_ | (refine Br.mk (fun h => ?_) (fun h => ?_) <;> first | (exfalso; omega; done) | (exfalso; simp at h; done) | skip))
  refine LoopVC.mk (fun n st => ∃ (k : Nat), k ≤ F.length ∧ n = F.length - k ∧ (∀ k', k' < k → ¬ badQ F l p k' i j) ∧ st = ⟨0, envA 106 [(0, .x (lFmt F)), (1, .x (lSng l)), (2, .x (.one (.lst true [.int .i64] (i64s p)))), (10, .int .i64 (j : Int)), (11, .int .i64 (i : Int)), (12, .int .i64 (k : Int))], []⟩) _ _ ⟨0, Nat.zero_le _, rfl, fun k' h => absurd h (Nat.not_lt_zero _), rfl⟩ ?_ ?_
  · refine ⟨[], rfl, rfl, ?_, ?_⟩ <;> repeat' (first | exact trivial | exact rfl | exact Iff.rfl | apply And.intro)
  rintro m4 _ ⟨k, hk, hm4, hno3, rfl⟩
  have hfw := hA.few
  by_cases hk' : k < F.length
  rotate_left
  · have ek : k = F.length := by omega
    subst ek
    repeat' ((conv => whnf); first | refine Rng.g ?_ | refine Ob.g ?_ | refine Ob.e ?_ | refine Ob.m ?_ | refine Ob.mk (Nat.le_of_ble_eq_true rfl) ?_ | refine JoinVC.on ?_ | refine Nils.mk (fun h => ?_) ?_ | refine Val.t ?_ | refine Val.d ?_ | refine Mm.mk ?_ | (refine Br.mk (fun h => ?_) (fun h => ?_) <;> first | (exfalso; omega; done) | (exfalso; simp at h; done) | skip))
    refine Back.mk (j - (i + 1)) _ (by omega) ⟨i + 1, by omega, rfl, fun i' k' h1 => ?_, rfl⟩ ?_
    · rcases Nat.lt_succ_iff_lt_or_eq.1 h1 with h1 | rfl
      · exact hno2 i' k' h1
      · exact fun h2 => hno3 k' h2.1.fmt h2
    · refine ⟨[], rfl, rfl, ?_, ?_⟩ <;> repeat' (first | exact trivial | exact rfl | exact Iff.rfl | apply And.intro)
  have hf := hA.fmts k hk'
  have hco := hf.cost
  obtain ⟨g0, g1, g2, g3, g4, g5, g6, g7⟩ := fmt_at F k hk'
  have et : (k : Int).toNat = k := Int.toNat_natCast k
  have c52 := s52a i j (by omega) (by omega)
  have c59r : PSpec Tryd.prog 51 [.agg [.str (rS (fmtA F) (k : Int).toNat 0), .int .i64 (rI (fmtA F) (k : Int).toNat (0 + 1)), .int .i64 (rI (fmtA F) (k : Int).toNat (0 + 1 + 1)), .int .i64 (rI (fmtA F) (k : Int).toNat (0 + 1 + 1 + 1)), .int .i64 (rI (fmtA F) (k : Int).toNat (0 + 1 + 1 + 1 + 1)), .int .i64 (rI (fmtA F) (k : Int).toNat (0 + 1 + 1 + 1 + 1 + 1)), .int .i64 (rI (fmtA F) (k : Int).toNat (0 + 1 + 1 + 1 + 1 + 1 + 1)), .int .i64 (rI (fmtA F) (k : Int).toNat (0 + 1 + 1 + 1 + 1 + 1 + 1 + 1))], lSng l, .one (.lst true [.int .i64] (i64s (seqL i (j - i))))] (xP (LayOK (F.getD k f0) l (seqL i (j - i)))) := by
    rw [et, g0, g1, g2, g3, g4, g5, g6, g7]
    exact s59 (F.getD k f0) l (seqL i (j - i)) hf hA.sngs (fun y hy => by rw [seqL_len] at hy; rw [seqL_get _ _ _ hy]; omega) (by rw [seqL_len]; omega)
  have g7r : rI (fmtA F) (k : Int).toNat (0 + (0 + 1 + 1 + 1 + 1 + 1 + 1 + 1)) = (F.getD k f0).cost := by rw [et]; exact g7
  clear g0 g1 g2 g3 g4 g5 g6 g7
  have gi : rI (i64s p) (i : Int).toNat 0 = p.getD i 0 := by rw [Int.toNat_natCast]; exact i64s_get p i
  have gj : rI (i64s p) (j : Int).toNat 0 = p.getD j 0 := by rw [Int.toNat_natCast]; exact i64s_get p j
  have hpi := hin i (by omega)
  have hpj := hin j (by omega)
  have hend : badQ F l p k i j → CpRs F l p (.tup [I (j : Int), I 16]) := fun hq => by
    refine .wrong hA hl hz0 hj j ⟨hj1, hj'⟩ (wrong_iff.2 ⟨i, k, hq⟩) (fun j' h2 => ?_) rfl
    exact Nat.le_of_not_lt fun h3 => hno j' h3 h2
  have hback : ¬ badQ F l p k i j → ∀ k', k' < k + 1 → ¬ badQ F l p k' i j := fun hq k' h1 => by
    rcases Nat.lt_succ_iff_lt_or_eq.1 h1 with h1 | rfl
    · exact hno3 k' h1
    · exact hq
  repeat' ((conv => whnf); first | refine Rng.g ?_ | refine Ob.g ?_ | refine Ob.e ?_ | refine Ob.m ?_ | refine Ob.mk (Nat.le_of_ble_eq_true rfl) ?_ | refine JoinVC.on ?_ | refine Nils.mk (fun h => ?_) ?_ | refine Val.t ?_ | refine Val.d ?_ | refine Mm.mk ?_ | refine CallVC.pure rfl (c52) ?_ | refine CallVC.pure rfl (c59r) ?_ | refine CallVC0.pure rfl (c52) ?_ | refine CallVC0.pure rfl (c59r) ?_ | (refine Br.mk (fun h => ?_) (fun h => ?_) <;> first | (exfalso; omega; done) | (exfalso; simp at h; done) | skip))
  · repeat refine Mm.mk ?_
    conv => whnf
    refine EndVC.mk _ rfl _ _ (⟨hend ⟨⟨hk', hi', hj', by assumption⟩, by omega, by omega⟩, rfl⟩) ?_
    refine ⟨[], rfl, rfl, ?_, ?_⟩ <;> repeat' (first | exact trivial | exact rfl | exact Iff.rfl | apply And.intro)
  · refine Back.mk (F.length - (k + 1)) _ (by omega) ⟨k + 1, by omega, rfl, hback (fun hq => absurd hq.1.lay (by assumption)), rfl⟩ ?_
    refine ⟨[], rfl, rfl, ?_, ?_⟩ <;> repeat' (first | exact trivial | exact rfl | exact Iff.rfl | apply And.intro)
  · repeat refine Mm.mk ?_
    conv => whnf
    refine EndVC.mk _ rfl _ _ (⟨hend ⟨⟨hk', hi', hj', by assumption⟩, by omega, by omega⟩, rfl⟩) ?_
    refine ⟨[], rfl, rfl, ?_, ?_⟩ <;> repeat' (first | exact trivial | exact rfl | exact Iff.rfl | apply And.intro)
  · refine Back.mk (F.length - (k + 1)) _ (by omega) ⟨k + 1, by omega, rfl, hback (fun hq => absurd hq.1.lay (by assumption)), rfl⟩ ?_
    refine ⟨[], rfl, rfl, ?_, ?_⟩ <;> repeat' (first | exact trivial | exact rfl | exact Iff.rfl | apply And.intro)
  · refine Back.mk (F.length - (k + 1)) _ (by omega) ⟨k + 1, by omega, rfl, hback (fun hq => by have := hq.2; omega), rfl⟩ ?_
    refine ⟨[], rfl, rfl, ?_, ?_⟩ <;> repeat' (first | exact trivial | exact rfl | exact Iff.rfl | apply And.intro)
  · refine Back.mk (F.length - (k + 1)) _ (by omega) ⟨k + 1, by omega, rfl, hback (fun hq => by have := hq.2; omega), rfl⟩ ?_
    refine ⟨[], rfl, rfl, ?_, ?_⟩ <;> repeat' (first | exact trivial | exact rfl | exact Iff.rfl | apply And.intro)
end Go.Sx

namespace Go.Sx
open Go Go.Proofs
set_option maxRecDepth 10000
set_option maxHeartbeats 16000000
theorem e4 : EntersF Tryd.prog 4 := enters_of Tryd.func4 (c := bodyOf Tryd.f4) (by kernel_rfl) rfl
/-! ### SideAlbums: the law -/
theorem CpRs.uniq {F : List Fmt} {l : List Sng} {p : List Int} {r r' : AV} (h : CpRs F l p r) (h' : CpRs F l p r') : r = r' := by
  cases h with
  | bad h hr =>
    cases h' with
    | bad _ hr' => rw [hr, hr']
    | len hA => exact absurd (fmsE_0.2 hA) h
    | rng hA => exact absurd (fmsE_0.2 hA) h
    | wrong hA => exact absurd (fmsE_0.2 hA) h
    | ok hA => exact absurd (fmsE_0.2 hA) h
  | len hA h hr =>
    cases h' with
    | bad h _ => exact absurd (fmsE_0.2 hA) h
    | len _ _ hr' => rw [hr, hr']
    | rng _ hl => exact absurd hl h
    | wrong _ hl => exact absurd hl h
    | ok _ hl => exact absurd hl h
  | rng hA hl h hr =>
    cases h' with
    | bad h _ => exact absurd (fmsE_0.2 hA) h
    | len _ h _ => exact absurd hl h
    | rng _ _ _ hr' => rw [hr, hr']
    | wrong _ _ hz hin =>
      rcases h with h | ⟨j, h1, h2⟩
      · exact absurd hz h
      · exact absurd h2 (hin j h1)
    | ok _ _ hz hin =>
      rcases h with h | ⟨j, h1, h2⟩
      · exact absurd hz h
      · exact absurd h2 (hin j h1)
  | wrong hA hl hz hin j hj h hm hr =>
    cases h' with
    | bad h _ => exact absurd (fmsE_0.2 hA) h
    | len _ h _ => exact absurd hl h
    | rng _ _ h _ =>
      rcases h with h | ⟨j, h1, h2⟩
      · exact absurd hz h
      · exact absurd h2 (hin j h1)
    | wrong _ _ _ _ j' _ h2 hm2 hr' =>
      have e : j = j' := Nat.le_antisymm (hm j' h2) (hm2 j h)
      rw [hr, hr', e]
    | ok _ _ _ _ h2 _ => exact absurd h (h2 j)
  | ok hA hl hz hin h hr =>
    cases h' with
    | bad h _ => exact absurd (fmsE_0.2 hA) h
    | len _ h _ => exact absurd hl h
    | rng _ _ h _ =>
      rcases h with h | ⟨j, h1, h2⟩
      · exact absurd hz h
      · exact absurd h2 (hin j h1)
    | wrong _ _ _ _ j' _ h2 => exact absurd h2 (h j')
    | ok _ _ _ _ _ hr' => rw [hr, hr']
theorem CpRs.get {F : List Fmt} {l : List Sng} {p : List Int} {r : AV} (h : CpRs F l p r) : ∃ a b : Int, r = .tup [I a, I b] := by
  cases h with
  | bad _ hr => exact ⟨_, _, hr⟩
  | len _ _ hr => exact ⟨_, _, hr⟩
  | rng _ _ _ hr => exact ⟨_, _, hr⟩
  | wrong _ _ _ _ _ _ _ _ hr => exact ⟨_, _, hr⟩
  | ok _ _ _ _ _ hr => exact ⟨_, _, hr⟩
theorem s34z : PSpec Tryd.prog 27 [.one .nils, .one .nils] (xP (([] : List Int) = [])) := HSpec.nils (pre := []) (post := [.one .nils]) (HSpec.nils (pre := [.one (.lst true [.int .i64] [])]) (post := []) (s34 [] [] (by decide)))
theorem s4 (F : List Fmt) (l : List Sng) (P : List Fc) (p : List Int) : HSpec Tryd.prog 4 [lFmt F, lSng l, lFac P, .one (.lst true [.int .i64] (i64s p))] [gNone] (fun r _ => r = xP True) := by
  have hw := s11
  have ll := sngA_len l
  have lF := fmtA_len F
  have lP := facA_len P
  have lpi := i64s_len p
  have c17 := s17a l
  by_cases hV : ((8 < (l.length : Int) ∧ (l.length : Int) ≤ 24) ∨ 40 < (l.length : Int)) ∨ 12 < F.length ∨ 40 < P.length ∨ 40 < p.length
  · refine spec_of pMix (O := []) Tryd.func4 (c := bodyOf Tryd.f4) rfl (by kernel_rfl) (by kernel_rfl) Tryd.ntmps4 (res := [.tmp 8]) (by kernel_rfl) ?_
    repeat' ((conv => whnf); first | refine Rng.g ?_ | refine Ob.g ?_ | refine Ob.e ?_ | refine Ob.m ?_ | refine Ob.mk (Nat.le_of_ble_eq_true rfl) ?_ | refine JoinVC.on ?_ | refine Nils.mk (fun h => ?_) ?_ | refine Val.t ?_ | refine Val.d ?_ | refine Mm.mk ?_ | refine CallVC.pure rfl (c17) ?_ | refine CallVC.pure rfl (hw) ?_ | refine CallVC0.pure rfl (c17) ?_ | refine CallVC0.pure rfl (hw) ?_ | (refine Br.mk (fun h => ?_) (fun h => ?_) <;> first | (exfalso; omega; done) | (exfalso; simp at h; done) | skip))
    all_goals first | (exfalso; omega) | skip
    all_goals
      conv => whnf
      refine EndVC.mk _ rfl (xP True) [some gNone] rfl ?_
      refine ⟨[some 0], rfl, rfl, ?_, ?_⟩ <;> repeat' (first | exact trivial | exact rfl | exact Iff.rfl | apply And.intro)
  refine spec_of pMix (O := []) Tryd.func4 (c := bodyOf Tryd.f4) rfl (by kernel_rfl) (by kernel_rfl) Tryd.ntmps4 (res := [.tmp 8]) (by kernel_rfl) ?_
  repeat' ((conv => whnf); first | refine Rng.g ?_ | refine Ob.g ?_ | refine Ob.e ?_ | refine Ob.m ?_ | refine Ob.mk (Nat.le_of_ble_eq_true rfl) ?_ | refine JoinVC.on ?_ | refine Nils.mk (fun h => ?_) ?_ | refine Val.t ?_ | refine Val.d ?_ | refine Mm.mk ?_ | refine CallVC.pure rfl (c17) ?_ | refine CallVC0.pure rfl (c17) ?_ | (refine Br.mk (fun h => ?_) (fun h => ?_) <;> first | (exfalso; omega; done) | (exfalso; simp at h; done) | skip))
  all_goals first | (exfalso; omega) | skip
  refine LoopVC.mk (fun n st => ∃ (i : Nat), i ≤ F.length ∧ n = F.length - i ∧ (∀ j, j < i → (F.getD j f0).nm.size ≤ 40) ∧ st = ⟨1, envA 155 [(0, .x (lFmt F)), (1, .x (lSng l)), (2, .x (lFac P)), (3, .x (.one (.lst true [.int .i64] (i64s p)))), (9, .int .i64 (i : Int))], [some gNone]⟩) _ _ ⟨0, Nat.zero_le _, rfl, fun j h => absurd h (Nat.not_lt_zero j), rfl⟩ ?_ ?_
  · refine ⟨[some 0], rfl, rfl, ?_, ?_⟩ <;> repeat' (first | exact trivial | exact rfl | exact Iff.rfl | apply And.intro)
  rintro m _ ⟨i, hi, hm, hj, rfl⟩
  by_cases hi' : i < F.length
  · have gn : rS (fmtA F) (i : Int).toNat (0 + 0) = (F.getD i f0).nm := by rw [Int.toNat_natCast]; exact (fmt_at F i hi').1
    by_cases hn : (F.getD i f0).nm.size ≤ 40
    · repeat' ((conv => whnf); first | refine Rng.g ?_ | refine Ob.g ?_ | refine Ob.e ?_ | refine Ob.m ?_ | refine Ob.mk (Nat.le_of_ble_eq_true rfl) ?_ | refine JoinVC.on ?_ | refine Nils.mk (fun h => ?_) ?_ | refine Val.t ?_ | refine Val.d ?_ | refine Mm.mk ?_ | (refine Br.mk (fun h => ?_) (fun h => ?_) <;> first | (exfalso; omega; done) | (exfalso; simp at h; done) | skip))
      all_goals first | (exfalso; rw [gn] at *; omega) | skip
      refine Back.mk (F.length - (i + 1)) _ (by omega) ⟨i + 1, by omega, rfl, fun j hj' => (Nat.lt_succ_iff_lt_or_eq.1 hj').elim (hj j) (fun e => e ▸ hn), rfl⟩ ?_
      refine ⟨[some 0], rfl, rfl, ?_, ?_⟩ <;> repeat' (first | exact trivial | exact rfl | exact Iff.rfl | apply And.intro)
    · repeat' ((conv => whnf); first | refine Rng.g ?_ | refine Ob.g ?_ | refine Ob.e ?_ | refine Ob.m ?_ | refine Ob.mk (Nat.le_of_ble_eq_true rfl) ?_ | refine JoinVC.on ?_ | refine Nils.mk (fun h => ?_) ?_ | refine Val.t ?_ | refine Val.d ?_ | refine Mm.mk ?_ | refine CallVC.pure rfl (hw) ?_ | refine CallVC0.pure rfl (hw) ?_ | (refine Br.mk (fun h => ?_) (fun h => ?_) <;> first | (exfalso; omega; done) | (exfalso; simp at h; done) | skip))
      all_goals first | (exfalso; rw [gn] at *; omega) | skip
      conv => whnf
      refine EndVC.mk _ rfl (xP True) [some gNone] rfl ?_
      refine ⟨[some 0], rfl, rfl, ?_, ?_⟩ <;> repeat' (first | exact trivial | exact rfl | exact Iff.rfl | apply And.intro)
  have ei : i = F.length := by omega
  subst ei
  have hI : ∀ i, (F.getD i f0).nm.size ≤ 9223372036854775807 := fun i => by
    by_cases hi : i < F.length
    · have := hj i hi; omega
    · rw [show F.getD i f0 = f0 by simp [List.getD_eq_getElem?_getD, List.getElem?_eq_none (show F.length ≤ i by omega)]]; decide
  have c21 := s21 F l P hI
  have c22 := s22r F l P
  repeat' ((conv => whnf); first | refine Rng.g ?_ | refine Ob.g ?_ | refine Ob.e ?_ | refine Ob.m ?_ | refine Ob.mk (Nat.le_of_ble_eq_true rfl) ?_ | refine JoinVC.on ?_ | refine Nils.mk (fun h => ?_) ?_ | refine Val.t ?_ | refine Val.d ?_ | refine Mm.mk ?_ | (refine Br.mk (fun h => ?_) (fun h => ?_) <;> first | (exfalso; omega; done) | (exfalso; simp at h; done) | skip))
  conv => whnf
  refine CallVC.mk [0] _ _ _ rfl rfl rfl (s18a F l hI) (fun r m' h' => ?_)
  cases h' with
  | bad he hr hm =>
    subst hr hm
    have c20 := s20z
    repeat' ((conv => whnf); first | refine Rng.g ?_ | refine Ob.g ?_ | refine Ob.e ?_ | refine Ob.m ?_ | refine Ob.mk (Nat.le_of_ble_eq_true rfl) ?_ | refine JoinVC.on ?_ | refine Nils.mk (fun h => ?_) ?_ | refine Val.t ?_ | refine Val.d ?_ | refine Mm.mk ?_ | (refine Br.mk (fun h => ?_) (fun h => ?_) <;> first | (exfalso; omega; done) | (exfalso; simp at h; done) | skip))
    conv => whnf
    refine CallVC.mk [] _ _ _ rfl rfl rfl (s19r F l) (fun r m' h' => ?_)
    cases h' with
    | none hA => exact absurd (fmsE_0.2 hA) he
    | ok hA => exact absurd (fmsE_0.2 hA) he
    | bad _ hr hm =>
    subst hr hm
    repeat' ((conv => whnf); first | refine Rng.g ?_ | refine Ob.g ?_ | refine Ob.e ?_ | refine Ob.m ?_ | refine Ob.mk (Nat.le_of_ble_eq_true rfl) ?_ | refine JoinVC.on ?_ | refine Nils.mk (fun h => ?_) ?_ | refine Val.t ?_ | refine Val.d ?_ | refine Mm.mk ?_ | refine CallVC.pure rfl (c20) ?_ | refine CallVC.pure rfl (c21) ?_ | refine CallVC.pure rfl (c22) ?_ | refine CallVC0.pure rfl (c20) ?_ | refine CallVC0.pure rfl (c21) ?_ | refine CallVC0.pure rfl (c22) ?_ | (refine Br.mk (fun h => ?_) (fun h => ?_) <;> first | (exfalso; omega; done) | (exfalso; simp at h; done) | skip))
    conv => whnf
    refine CallVC.mk [] _ _ _ rfl rfl rfl (s33 F l hI) (fun r m' h' => ?_)
    rcases h' with ⟨_, rfl, rfl⟩ | ⟨hA, _⟩
    rotate_left
    · exact absurd (fmsE_0.2 hA) he
    repeat' ((conv => whnf); first | refine Rng.g ?_ | refine Ob.g ?_ | refine Ob.e ?_ | refine Ob.m ?_ | refine Ob.mk (Nat.le_of_ble_eq_true rfl) ?_ | refine JoinVC.on ?_ | refine Nils.mk (fun h => ?_) ?_ | refine Val.t ?_ | refine Val.d ?_ | refine Mm.mk ?_ | (refine Br.mk (fun h => ?_) (fun h => ?_) <;> first | (exfalso; omega; done) | (exfalso; simp at h; done) | skip))
    conv => whnf
    refine CallVC.mk [] _ _ _ rfl rfl rfl (s24r F l) (fun r m' h' => ?_)
    rcases h' with ⟨_, rfl, rfl⟩ | ⟨hA, _⟩
    rotate_left
    · exact absurd (fmsE_0.2 hA) he
    repeat' ((conv => whnf); first | refine Rng.g ?_ | refine Ob.g ?_ | refine Ob.e ?_ | refine Ob.m ?_ | refine Ob.mk (Nat.le_of_ble_eq_true rfl) ?_ | refine JoinVC.on ?_ | refine Nils.mk (fun h => ?_) ?_ | refine Val.t ?_ | refine Val.d ?_ | refine Mm.mk ?_ | (refine Br.mk (fun h => ?_) (fun h => ?_) <;> first | (exfalso; omega; done) | (exfalso; simp at h; done) | skip))
    conv => whnf
    refine CallVC.mk [] _ _ _ rfl rfl rfl (s20 F l p hI (by omega)) (fun r m' h' => ?_)
    obtain ⟨hc1, rfl⟩ := h'
    conv => whnf
    obtain ⟨x, y, hxy⟩ := hc1.get
    subst hxy
    repeat' ((conv => whnf); first | refine Rng.g ?_ | refine Ob.g ?_ | refine Ob.e ?_ | refine Ob.m ?_ | refine Ob.mk (Nat.le_of_ble_eq_true rfl) ?_ | refine JoinVC.on ?_ | refine Nils.mk (fun h => ?_) ?_ | refine Val.t ?_ | refine Val.d ?_ | refine Mm.mk ?_ | (refine Br.mk (fun h => ?_) (fun h => ?_) <;> first | (exfalso; omega; done) | (exfalso; simp at h; done) | skip))
    conv => whnf
    refine CallVC.mk [] _ _ _ rfl rfl rfl (s26r F l p) (fun r m' h' => ?_)
    obtain ⟨hc2, rfl⟩ := h'
    conv => whnf
    have hxy := hc1.uniq hc2
    subst hxy
    repeat' ((conv => whnf); first | refine Rng.g ?_ | refine Ob.g ?_ | refine Ob.e ?_ | refine Ob.m ?_ | refine Ob.mk (Nat.le_of_ble_eq_true rfl) ?_ | refine JoinVC.on ?_ | refine Nils.mk (fun h => ?_) ?_ | refine Val.t ?_ | refine Val.d ?_ | refine Mm.mk ?_ | refine CallVC.pure rfl (s34z) ?_ | refine CallVC.pure rfl (hw) ?_ | refine CallVC0.pure rfl (s34z) ?_ | refine CallVC0.pure rfl (hw) ?_ | (refine Br.mk (fun h => ?_) (fun h => ?_) <;> first | (exfalso; omega; done) | (exfalso; simp at h; done) | skip))
    all_goals
      conv => whnf
      refine EndVC.mk _ rfl (xP True) [some gNone] rfl ?_
      refine ⟨[some 0], rfl, rfl, ?_, ?_⟩ <;> repeat' (first | exact trivial | exact rfl | exact Iff.rfl | apply And.intro)
  | none hA hn hr hm =>
    subst hr hm
    have c20 := s20z
    repeat' ((conv => whnf); first | refine Rng.g ?_ | refine Ob.g ?_ | refine Ob.e ?_ | refine Ob.m ?_ | refine Ob.mk (Nat.le_of_ble_eq_true rfl) ?_ | refine JoinVC.on ?_ | refine Nils.mk (fun h => ?_) ?_ | refine Val.t ?_ | refine Val.d ?_ | refine Mm.mk ?_ | (refine Br.mk (fun h => ?_) (fun h => ?_) <;> first | (exfalso; omega; done) | (exfalso; simp at h; done) | skip))
    conv => whnf
    refine CallVC.mk [] _ _ _ rfl rfl rfl (s19r F l) (fun r m' h' => ?_)
    cases h' with
    | bad he => exact absurd (fmsE_0.2 hA) he
    | ok _ w q hn2 => rw [hn] at hn2; cases hn2
    | none _ _ hr hm =>
    subst hr hm
    repeat' ((conv => whnf); first | refine Rng.g ?_ | refine Ob.g ?_ | refine Ob.e ?_ | refine Ob.m ?_ | refine Ob.mk (Nat.le_of_ble_eq_true rfl) ?_ | refine JoinVC.on ?_ | refine Nils.mk (fun h => ?_) ?_ | refine Val.t ?_ | refine Val.d ?_ | refine Mm.mk ?_ | refine CallVC.pure rfl (c20) ?_ | refine CallVC.pure rfl (c21) ?_ | refine CallVC.pure rfl (c22) ?_ | refine CallVC0.pure rfl (c20) ?_ | refine CallVC0.pure rfl (c21) ?_ | refine CallVC0.pure rfl (c22) ?_ | (refine Br.mk (fun h => ?_) (fun h => ?_) <;> first | (exfalso; omega; done) | (exfalso; simp at h; done) | skip))
    conv => whnf
    refine CallVC.mk [] _ _ _ rfl rfl rfl (s33 F l hI) (fun r m' h' => ?_)
    rcases h' with ⟨he, _⟩ | ⟨_, a, ha, rfl, rfl⟩
    · exact absurd (fmsE_0.2 hA) he
    repeat' ((conv => whnf); first | refine Rng.g ?_ | refine Ob.g ?_ | refine Ob.e ?_ | refine Ob.m ?_ | refine Ob.mk (Nat.le_of_ble_eq_true rfl) ?_ | refine JoinVC.on ?_ | refine Nils.mk (fun h => ?_) ?_ | refine Val.t ?_ | refine Val.d ?_ | refine Mm.mk ?_ | (refine Br.mk (fun h => ?_) (fun h => ?_) <;> first | (exfalso; omega; done) | (exfalso; simp at h; done) | skip))
    conv => whnf
    refine CallVC.mk [] _ _ _ rfl rfl rfl (s24r F l) (fun r m' h' => ?_)
    rcases h' with ⟨he, _⟩ | ⟨_, b, hb, hb2, rfl, rfl⟩
    · exact absurd (fmsE_0.2 hA) he
    have hab : a = b := list_ext_getD (by rw [ha.len, hb]) fun n hn => by
      have hla := ha.len
      rw [hb2 n (by omega)]
      exact (prc_tk (fun k => (hA.cost k).1) ha (by omega)).symm
    subst hab
    have hla := ha.len
    have h24 := hA.sngs.len
    have c34 := s34 a a (by omega)
    repeat' ((conv => whnf); first | refine Rng.g ?_ | refine Ob.g ?_ | refine Ob.e ?_ | refine Ob.m ?_ | refine Ob.mk (Nat.le_of_ble_eq_true rfl) ?_ | refine JoinVC.on ?_ | refine Nils.mk (fun h => ?_) ?_ | refine Val.t ?_ | refine Val.d ?_ | refine Mm.mk ?_ | (refine Br.mk (fun h => ?_) (fun h => ?_) <;> first | (exfalso; omega; done) | (exfalso; simp at h; done) | skip))
    conv => whnf
    refine CallVC.mk [] _ _ _ rfl rfl rfl (s20 F l p hI (by omega)) (fun r m' h' => ?_)
    obtain ⟨hc1, rfl⟩ := h'
    conv => whnf
    obtain ⟨x, y, hxy⟩ := hc1.get
    subst hxy
    repeat' ((conv => whnf); first | refine Rng.g ?_ | refine Ob.g ?_ | refine Ob.e ?_ | refine Ob.m ?_ | refine Ob.mk (Nat.le_of_ble_eq_true rfl) ?_ | refine JoinVC.on ?_ | refine Nils.mk (fun h => ?_) ?_ | refine Val.t ?_ | refine Val.d ?_ | refine Mm.mk ?_ | (refine Br.mk (fun h => ?_) (fun h => ?_) <;> first | (exfalso; omega; done) | (exfalso; simp at h; done) | skip))
    conv => whnf
    refine CallVC.mk [] _ _ _ rfl rfl rfl (s26r F l p) (fun r m' h' => ?_)
    obtain ⟨hc2, rfl⟩ := h'
    conv => whnf
    have hxy := hc1.uniq hc2
    subst hxy
    repeat' ((conv => whnf); first | refine Rng.g ?_ | refine Ob.g ?_ | refine Ob.e ?_ | refine Ob.m ?_ | refine Ob.mk (Nat.le_of_ble_eq_true rfl) ?_ | refine JoinVC.on ?_ | refine Nils.mk (fun h => ?_) ?_ | refine Val.t ?_ | refine Val.d ?_ | refine Mm.mk ?_ | refine CallVC.pure rfl (c34) ?_ | refine CallVC.pure rfl (hw) ?_ | refine CallVC0.pure rfl (c34) ?_ | refine CallVC0.pure rfl (hw) ?_ | (refine Br.mk (fun h => ?_) (fun h => ?_) <;> first | (exfalso; omega; done) | (exfalso; simp at h; done) | skip))
    all_goals
      conv => whnf
      refine EndVC.mk _ rfl (xP True) [some gNone] rfl ?_
      refine ⟨[some 0], rfl, rfl, ?_, ?_⟩ <;> repeat' (first | exact trivial | exact rfl | exact Iff.rfl | apply And.intro)
  | ok hA w q hn hr hm =>
    subst hr hm
    have c20 := s20e (planB F l l.length 0) (by have := (planB_ok (F := F) l.length 0 w q (by omega) (Nat.zero_le _) hn).2.2; have := (bst_bd hA (Nat.zero_le _) hn).2; omega)
    repeat' ((conv => whnf); first | refine Rng.g ?_ | refine Ob.g ?_ | refine Ob.e ?_ | refine Ob.m ?_ | refine Ob.mk (Nat.le_of_ble_eq_true rfl) ?_ | refine JoinVC.on ?_ | refine Nils.mk (fun h => ?_) ?_ | refine Val.t ?_ | refine Val.d ?_ | refine Mm.mk ?_ | (refine Br.mk (fun h => ?_) (fun h => ?_) <;> first | (exfalso; omega; done) | (exfalso; simp at h; done) | skip))
    conv => whnf
    refine CallVC.mk [] _ _ _ rfl rfl rfl (s19r F l) (fun r m' h' => ?_)
    cases h' with
    | bad he => exact absurd (fmsE_0.2 hA) he
    | none _ hn2 => rw [hn] at hn2; cases hn2
    | ok _ w2 q2 hn2 hr hm =>
    rw [hn] at hn2
    cases hn2
    subst hr hm
    repeat' ((conv => whnf); first | refine Rng.g ?_ | refine Ob.g ?_ | refine Ob.e ?_ | refine Ob.m ?_ | refine Ob.mk (Nat.le_of_ble_eq_true rfl) ?_ | refine JoinVC.on ?_ | refine Nils.mk (fun h => ?_) ?_ | refine Val.t ?_ | refine Val.d ?_ | refine Mm.mk ?_ | refine CallVC.pure rfl (c20) ?_ | refine CallVC.pure rfl (c21) ?_ | refine CallVC.pure rfl (c22) ?_ | refine CallVC0.pure rfl (c20) ?_ | refine CallVC0.pure rfl (c21) ?_ | refine CallVC0.pure rfl (c22) ?_ | (refine Br.mk (fun h => ?_) (fun h => ?_) <;> first | (exfalso; omega; done) | (exfalso; simp at h; done) | skip))
    conv => whnf
    refine CallVC.mk [] _ _ _ rfl rfl rfl (s33 F l hI) (fun r m' h' => ?_)
    rcases h' with ⟨he, _⟩ | ⟨_, a, ha, rfl, rfl⟩
    · exact absurd (fmsE_0.2 hA) he
    repeat' ((conv => whnf); first | refine Rng.g ?_ | refine Ob.g ?_ | refine Ob.e ?_ | refine Ob.m ?_ | refine Ob.mk (Nat.le_of_ble_eq_true rfl) ?_ | refine JoinVC.on ?_ | refine Nils.mk (fun h => ?_) ?_ | refine Val.t ?_ | refine Val.d ?_ | refine Mm.mk ?_ | (refine Br.mk (fun h => ?_) (fun h => ?_) <;> first | (exfalso; omega; done) | (exfalso; simp at h; done) | skip))
    conv => whnf
    refine CallVC.mk [] _ _ _ rfl rfl rfl (s24r F l) (fun r m' h' => ?_)
    rcases h' with ⟨he, _⟩ | ⟨_, b, hb, hb2, rfl, rfl⟩
    · exact absurd (fmsE_0.2 hA) he
    have hab : a = b := list_ext_getD (by rw [ha.len, hb]) fun n hn => by
      have hla := ha.len
      rw [hb2 n (by omega)]
      exact (prc_tk (fun k => (hA.cost k).1) ha (by omega)).symm
    subst hab
    have hla := ha.len
    have h24 := hA.sngs.len
    have c34 := s34 a a (by omega)
    repeat' ((conv => whnf); first | refine Rng.g ?_ | refine Ob.g ?_ | refine Ob.e ?_ | refine Ob.m ?_ | refine Ob.mk (Nat.le_of_ble_eq_true rfl) ?_ | refine JoinVC.on ?_ | refine Nils.mk (fun h => ?_) ?_ | refine Val.t ?_ | refine Val.d ?_ | refine Mm.mk ?_ | (refine Br.mk (fun h => ?_) (fun h => ?_) <;> first | (exfalso; omega; done) | (exfalso; simp at h; done) | skip))
    conv => whnf
    refine CallVC.mk [] _ _ _ rfl rfl rfl (s20 F l p hI (by omega)) (fun r m' h' => ?_)
    obtain ⟨hc1, rfl⟩ := h'
    conv => whnf
    obtain ⟨x, y, hxy⟩ := hc1.get
    subst hxy
    repeat' ((conv => whnf); first | refine Rng.g ?_ | refine Ob.g ?_ | refine Ob.e ?_ | refine Ob.m ?_ | refine Ob.mk (Nat.le_of_ble_eq_true rfl) ?_ | refine JoinVC.on ?_ | refine Nils.mk (fun h => ?_) ?_ | refine Val.t ?_ | refine Val.d ?_ | refine Mm.mk ?_ | (refine Br.mk (fun h => ?_) (fun h => ?_) <;> first | (exfalso; omega; done) | (exfalso; simp at h; done) | skip))
    conv => whnf
    refine CallVC.mk [] _ _ _ rfl rfl rfl (s26r F l p) (fun r m' h' => ?_)
    obtain ⟨hc2, rfl⟩ := h'
    conv => whnf
    have hxy := hc1.uniq hc2
    subst hxy
    repeat' ((conv => whnf); first | refine Rng.g ?_ | refine Ob.g ?_ | refine Ob.e ?_ | refine Ob.m ?_ | refine Ob.mk (Nat.le_of_ble_eq_true rfl) ?_ | refine JoinVC.on ?_ | refine Nils.mk (fun h => ?_) ?_ | refine Val.t ?_ | refine Val.d ?_ | refine Mm.mk ?_ | refine CallVC.pure rfl (c34) ?_ | refine CallVC.pure rfl (hw) ?_ | refine CallVC0.pure rfl (c34) ?_ | refine CallVC0.pure rfl (hw) ?_ | (refine Br.mk (fun h => ?_) (fun h => ?_) <;> first | (exfalso; omega; done) | (exfalso; simp at h; done) | skip))
    all_goals
      conv => whnf
      refine EndVC.mk _ rfl (xP True) [some gNone] rfl ?_
      refine ⟨[some 0], rfl, rfl, ?_, ?_⟩ <;> repeat' (first | exact trivial | exact rfl | exact Iff.rfl | apply And.intro)
end Go.Sx

namespace Go.Sx
open Go Go.Proofs
set_option maxRecDepth 10000
/-! ### Rows read as tracks, formats, faces -/
theorem wfr_of : ∀ {ks : List CK} {r : List Cell}, r.length = ks.length → (∀ (j : Nat) k c, ks[j]? = some k → r[j]? = some c → Wf k c) → WfR ks r
  | [], [], _, _ => .nil
  | [], _ :: _, h, _ => by simp at h
  | _ :: _, [], h, _ => by simp at h
  | k :: ks, c :: cs, h, hw => .cons (hw 0 k c rfl rfl) (wfr_of (by simpa using h) fun j k' c' h1 h2 => hw (j + 1) k' c' (by simpa using h1) (by simpa using h2))
theorem wf_map {α : Type} {ks : List CK} {row : α → List Cell} {p : α → Prop} (hrow : ∀ r, WfR ks r → ∃ x, r = row x ∧ p x) {a : Arr} (h : Wf (.sl ks) (.sl a)) : ∃ l : List α, a = l.map row ∧ ∀ x ∈ l, p x := by
  cases h with
  | sl hl hr hw =>
    clear hl
    induction a with
    | nil => exact ⟨[], rfl, fun x hx => by simp at hx⟩
    | cons r a ih =>
      obtain ⟨l, rfl, h2⟩ := ih (fun r h => hr r (List.mem_cons_of_mem _ h)) (fun r h => hw r (List.mem_cons_of_mem _ h))
      obtain ⟨x, rfl, h3⟩ := hrow r (wfr_of (hr r (List.mem_cons_self ..)) (hw r (List.mem_cons_self ..)))
      exact ⟨x :: l, rfl, fun y hy => by rcases List.mem_cons.1 hy with rfl | hy; (· exact h3); exact h2 y hy⟩
theorem mem_getD {α : Type} {p : α → Prop} {l : List α} {d : α} (h : ∀ x ∈ l, p x) (hd : p d) (j : Nat) : p (l.getD j d) := by
  rw [List.getD_eq_getElem?_getD]
  cases hx : l[j]? with
  | none => exact hd
  | some x => exact h x (List.mem_of_getElem? hx)
def Sng.inR (g : Sng) : Prop := Go.Sx.inR .i64 g.long ∧ Go.Sx.inR .i64 g.pitch ∧ Go.Sx.inR .i64 g.least
theorem wf_sngs {a : Arr} (h : Wf (.sl KSng) (.sl a)) : ∃ l : List Sng, a = sngA l ∧ ∀ g ∈ l, g.inR := by
  obtain ⟨l, h1, h2⟩ := wf_map (row := fun g : Sng => [.int g.long, .int g.pitch, .int g.least]) (p := Sng.inR) (fun r hr => by
    obtain ⟨c0, _, rfl, g0, h1⟩ := hr.inv
    obtain ⟨n0, rfl, i0⟩ := g0.int_inv
    obtain ⟨c1, _, rfl, g1, h2⟩ := h1.inv
    obtain ⟨n1, rfl, i1⟩ := g1.int_inv
    obtain ⟨c2, _, rfl, g2, h3⟩ := h2.inv
    obtain ⟨n2, rfl, i2⟩ := g2.int_inv
    cases h3.nil_inv
    exact ⟨⟨n0, n1, n2⟩, rfl, i0, i1, i2⟩) h
  exact ⟨l, h1, h2⟩
theorem wf_fmts {a : Arr} (h : Wf (.sl KFm) (.sl a)) : ∃ F : List Fmt, a = fmtA F ∧ ∀ i, (F.getD i f0).nm.size ≤ maxLen := by
  obtain ⟨l, h1, h2⟩ := wf_map (row := fun f : Fmt => [.str f.nm, .int f.outer, .int f.inner, .int f.per, .int f.lead, .int f.gap, .int f.tail, .int f.cost]) (p := fun f => f.nm.size ≤ maxLen) (fun r hr => by
    obtain ⟨c0, _, rfl, g0, h1⟩ := hr.inv
    obtain ⟨n0, rfl, z0⟩ := g0.str_inv
    obtain ⟨c1, _, rfl, g1, h2⟩ := h1.inv
    obtain ⟨n1, rfl, _⟩ := g1.int_inv
    obtain ⟨c2, _, rfl, g2, h3⟩ := h2.inv
    obtain ⟨n2, rfl, _⟩ := g2.int_inv
    obtain ⟨c3, _, rfl, g3, h4⟩ := h3.inv
    obtain ⟨n3, rfl, _⟩ := g3.int_inv
    obtain ⟨c4, _, rfl, g4, h5⟩ := h4.inv
    obtain ⟨n4, rfl, _⟩ := g4.int_inv
    obtain ⟨c5, _, rfl, g5, h6⟩ := h5.inv
    obtain ⟨n5, rfl, _⟩ := g5.int_inv
    obtain ⟨c6, _, rfl, g6, h7⟩ := h6.inv
    obtain ⟨n6, rfl, _⟩ := g6.int_inv
    obtain ⟨c7, _, rfl, g7, h8⟩ := h7.inv
    obtain ⟨n7, rfl, _⟩ := g7.int_inv
    cases h8.nil_inv
    exact ⟨⟨n0, n1, n2, n3, n4, n5, n6, n7⟩, rfl, z0⟩) h
  exact ⟨l, h1, mem_getD h2 (by decide)⟩
end Go.Sx

namespace Go.Sx
open Go Go.Proofs
set_option maxRecDepth 10000
theorem wf_faces {a : Arr} (h : Wf (.sl KFc) (.sl a)) : ∃ l : List Fc, a = facA l ∧ ∀ g ∈ l, inR .i64 g.fm ∧ inR .i64 g.mn := by
  obtain ⟨l, h1, h2⟩ := wf_map (row := fun g : Fc => [.int g.fm, .int g.mn]) (p := fun g => inR .i64 g.fm ∧ inR .i64 g.mn) (fun r hr => by
    obtain ⟨c0, _, rfl, g0, h1⟩ := hr.inv
    obtain ⟨n0, rfl, i0⟩ := g0.int_inv
    obtain ⟨c1, _, rfl, g1, h2⟩ := h1.inv
    obtain ⟨n1, rfl, i1⟩ := g1.int_inv
    cases h2.nil_inv
    exact ⟨⟨n0, n1⟩, rfl, i0, i1⟩) h
  exact ⟨l, h1, h2⟩
end Go.Sx
