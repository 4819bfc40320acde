import Derived.Test.YtaehphnchiffnaaPrSideFewerA
import Derived.Test.YtaehphnchiffnaaXc
namespace Go.Sx
open Go Go.Proofs
set_option maxRecDepth 10000
set_option maxHeartbeats 8000000
/-! ### An order is laid, as the document tells it -/
/-- How many of them end at or above their Least, up to the first one that does not. -/
structure Good (f : Fmt) (l : List Sng) (O : List Int) (g : Nat) : Prop where
  le : g ≤ O.length
  yes : ∀ j, j < g → okAt f l O j
  no : g < O.length → ¬ okAt f l O g
theorem s40 (f : Fmt) (l : List Sng) (O : List Int) (hf : FmtOK f) (hg : SngsOK l) (hO : InR O l.length) (hl : O.length ≤ 100) : HSpec Try.prog 40 [f.x, lSng l, .one (.lst true [.int .i64] (i64s O))] [] (fun r m' => ∃ g, Good f l O g ∧ r = .tup [.one (.own 0), I (g : Int), I (atF f l O O.length - f.tail)] ∧ m' = [some (rowB (bndA f l O O.length))]) := by
  have lo := i64s_len O
  have lg := sngA_len l
  have hbd := atF_bd hf hg hO
  have hf1 := hf.outer
  have hf2 := hf.lead
  have hf3 := hf.gap
  have hf4 := hf.tail
  have hf5 := hf.inner
  refine spec_of pMix (O := [(10, ([11], [⟨0, [], []⟩, ⟨1, [], []⟩, ⟨2, [], []⟩, ⟨3, [], []⟩, ⟨4, [], []⟩, ⟨5, [], []⟩, ⟨6, [], []⟩, ⟨7, [], []⟩, ⟨8, [0, 1, 2, 3, 4, 5], []⟩, ⟨9, [], []⟩, ⟨10, [], []⟩, ⟨11, [], []⟩, ⟨12, [], []⟩]))]) Try.func40 (c := bodyOf Try.f40) rfl (by kernel_rfl) (by kernel_rfl) Try.ntmps40 (res := [.tmp 6, .tmp 7, .tmp 8]) (by kernel_rfl) ?_
  repeat' ((conv => whnf); first | refine Rng.g ?_ | refine Ob.g ?_ | refine Ob.e ?_ | refine Ob.m ?_ | refine Ob.mk (Nat.le_of_ble_eq_true rfl) ?_ | refine JoinVC.on ?_ | refine Nils.mk (fun h => ?_) ?_ | refine Val.t ?_ | refine Val.d ?_ | refine Mm.mk ?_ | (refine Br.mk (fun h => ?_) (fun h => ?_) <;> first | (exfalso; omega; done) | (exfalso; simp at h; done) | skip))
  refine LoopVC.mk (fun n st => ∃ (i g : Nat), i ≤ O.length ∧ n = O.length - i ∧ ((g = O.length ∧ ∀ j, j < i → okAt f l O j) ∨ (g < i ∧ Good f l O g)) ∧ st = ⟨0, envA 76 [(1, .x (lSng l)), (2, .x (.one (.lst true [.int .i64] (i64s O)))), (3, .x (.one (.ptr 0 0))), (9, .x (.one (.own 1))), (10, .int .i64 (atF f l O i)), (11, .int .i64 (g : Int)), (12, .int .i64 (i : Int))], [some (.box 23 [.str f.nm, .int .i64 f.outer, .int .i64 f.inner, .int .i64 f.per, .int .i64 f.lead, .int .i64 f.gap, .int .i64 f.tail, .int .i64 f.cost]), some (rowB (bndA f l O i))]⟩) _ _ ⟨0, O.length, Nat.zero_le _, rfl, .inl ⟨rfl, fun j hj => absurd hj (Nat.not_lt_zero j)⟩, rfl⟩ ?_ ?_
  · refine ⟨[some 0, none], rfl, rfl, ?_, ?_⟩ <;> repeat' (first | exact trivial | exact rfl | exact Iff.rfl | apply And.intro)
    exact congrArg Int.ofNat lo
  rintro n _ ⟨i, g, hi, hn, hG, rfl⟩
  have lb := bndA_len f l O i
  have gi : rI (i64s O) (i : Int).toNat 0 = O.getD i 0 := by rw [Int.toNat_natCast]; exact i64s_get O i
  have hbi := hbd i hi
  by_cases hi' : i < O.length
  · have hr := hO i hi'
    obtain ⟨q, hq⟩ : ∃ q, O.getD i 0 = q := ⟨_, rfl⟩
    have c0 : rI (sngA l) q.toNat 0 = (l.getD q.toNat g0).long := sngA_0 l _
    have c1 : rI (sngA l) q.toNat (0 + 1) = (l.getD q.toNat g0).pitch := sngA_1 l _
    have c2 : rI (sngA l) q.toNat (0 + 1 + 1) = (l.getD q.toNat g0).least := sngA_2 l _
    rw [hq] at gi hr
    have hgk := hg.each q.toNat (by omega)
    have hw := (wid_bd hf.per.1 hgk).2
    have k1 := s58 f (l.getD q.toNat g0) hf hgk
    have ea : atF f l O (i + 1) = atF f l O i - (if 0 < i then f.gap else 0) - widF f (l.getD (O.getD i 0).toNat g0) := rfl
    rw [hq] at ea
    have eo : okAt f l O i ↔ (l.getD q.toNat g0).least ≤ atF f l O (i + 1) := by unfold okAt; rw [hq]
    have hbj := hbd (i + 1) hi'
    obtain ⟨N, hN⟩ : ∃ N, atF f l O (i + 1) = N := ⟨_, rfl⟩
    rw [hN] at ea eo hbj
    have step : ∀ g' : Nat, ((N < (l.getD q.toNat g0).least ∧ (g : Int) = O.length → g' = i) ∧ (¬ (N < (l.getD q.toNat g0).least ∧ (g : Int) = O.length) → g' = g)) → ((g' = O.length ∧ ∀ j, j < i + 1 → okAt f l O j) ∨ (g' < i + 1 ∧ Good f l O g')) := by
      rintro g' ⟨h1, h2⟩
      by_cases hc : N < (l.getD q.toNat g0).least ∧ (g : Int) = O.length
      · rw [h1 hc]
        rcases hG with ⟨rfl, h3⟩ | ⟨h3, h4⟩
        · exact .inr ⟨Nat.lt_succ_self i, hi, h3, fun _ h5 => by have := eo.1 h5; omega⟩
        · omega
      · rw [h2 hc]
        rcases hG with ⟨rfl, h3⟩ | ⟨h3, h4⟩
        · refine .inl ⟨rfl, fun j hj => ?_⟩
          rcases Nat.lt_succ_iff_lt_or_eq.1 hj with h' | rfl
          · exact h3 j h'
          · exact eo.2 (by omega)
        · exact .inr ⟨by omega, h4⟩
    by_cases h0 : 0 < i
    · have e1 : (if 0 < i then f.gap else 0) = f.gap := if_pos h0
      have e2 : (atF f l O i - f.gap) - widF f (l.getD q.toNat g0) = N := by rw [ea, e1]
      have e3 : bndR f l O i = [Cell.int q, Cell.int (atF f l O i - f.gap), Cell.int N] := by unfold bndR; rw [hq, e1, hN]
      repeat' ((conv => whnf); first | rw [gi] | rw [c0] | rw [c1] | rw [c2] | rw [e2] | refine Rng.g ?_ | refine Ob.g ?_ | refine Ob.e ?_ | refine Ob.m ?_ | refine Ob.mk (Nat.le_of_ble_eq_true rfl) ?_ | refine JoinVC.on ?_ | refine Nils.mk (fun h => ?_) ?_ | refine Val.t ?_ | refine Val.d ?_ | refine Mm.mk ?_ | refine CallVC.pure rfl (k1) ?_ | refine CallVC0.pure rfl (k1) ?_ | (refine Br.mk (fun h => ?_) (fun h => ?_) <;> first | (exfalso; omega; done) | (exfalso; simp at h; done) | skip))
      repeat refine Mm.mk ?_
      refine Ob.mk (by rw [eb116]; simp only [List.length_cons, List.length_nil]; omega) ?_
      repeat' ((conv => whnf); first | refine Rng.g ?_ | refine Ob.g ?_ | refine Ob.e ?_ | refine Ob.m ?_ | refine Ob.mk (Nat.le_of_ble_eq_true rfl) ?_ | refine JoinVC.on ?_ | refine Nils.mk (fun h => ?_) ?_ | refine Val.t ?_ | refine Val.d ?_ | refine Mm.mk ?_ | (refine Br.mk (fun h => ?_) (fun h => ?_) <;> first | (exfalso; omega; done) | (exfalso; simp at h; done) | skip))
      · refine Back.mk (O.length - (i + 1)) _ (by omega) ⟨i + 1, i, by omega, rfl, step i ⟨fun _ => rfl, fun h => absurd ⟨by omega, by omega⟩ h⟩, rfl⟩ ?_
        rw [bndA_succ, e3, hN]
        refine ⟨[some 0, some 5], rfl, rfl, ?_, ?_⟩ <;> repeat' (first | exact trivial | exact rfl | exact Iff.rfl | apply And.intro)
      all_goals
        refine Back.mk (O.length - (i + 1)) _ (by omega) ⟨i + 1, g, by omega, rfl, step g ⟨fun h => absurd h (fun h' => (by omega)), fun _ => rfl⟩, rfl⟩ ?_
        rw [bndA_succ, e3, hN]
        refine ⟨[some 0, some 5], rfl, rfl, ?_, ?_⟩ <;> repeat' (first | exact trivial | exact rfl | exact Iff.rfl | apply And.intro)
    · have e1 : (if 0 < i then f.gap else 0) = 0 := if_neg h0
      have e2 : atF f l O i - widF f (l.getD q.toNat g0) = N := by rw [ea, e1]; omega
      have e3 : bndR f l O i = [Cell.int q, Cell.int (atF f l O i), Cell.int N] := by unfold bndR; rw [hq, e1, hN]; simp only [Int.sub_zero]
      repeat' ((conv => whnf); first | rw [gi] | rw [c0] | rw [c1] | rw [c2] | rw [e2] | refine Rng.g ?_ | refine Ob.g ?_ | refine Ob.e ?_ | refine Ob.m ?_ | refine Ob.mk (Nat.le_of_ble_eq_true rfl) ?_ | refine JoinVC.on ?_ | refine Nils.mk (fun h => ?_) ?_ | refine Val.t ?_ | refine Val.d ?_ | refine Mm.mk ?_ | refine CallVC.pure rfl (k1) ?_ | refine CallVC0.pure rfl (k1) ?_ | (refine Br.mk (fun h => ?_) (fun h => ?_) <;> first | (exfalso; omega; done) | (exfalso; simp at h; done) | skip))
      repeat refine Mm.mk ?_
      refine Ob.mk (by rw [eb116]; simp only [List.length_cons, List.length_nil]; omega) ?_
      repeat' ((conv => whnf); first | refine Rng.g ?_ | refine Ob.g ?_ | refine Ob.e ?_ | refine Ob.m ?_ | refine Ob.mk (Nat.le_of_ble_eq_true rfl) ?_ | refine JoinVC.on ?_ | refine Nils.mk (fun h => ?_) ?_ | refine Val.t ?_ | refine Val.d ?_ | refine Mm.mk ?_ | (refine Br.mk (fun h => ?_) (fun h => ?_) <;> first | (exfalso; omega; done) | (exfalso; simp at h; done) | skip))
      · refine Back.mk (O.length - (i + 1)) _ (by omega) ⟨i + 1, i, by omega, rfl, step i ⟨fun _ => rfl, fun h => absurd ⟨by omega, by omega⟩ h⟩, rfl⟩ ?_
        rw [bndA_succ, e3, hN]
        refine ⟨[some 0, some 5], rfl, rfl, ?_, ?_⟩ <;> repeat' (first | exact trivial | exact rfl | exact Iff.rfl | apply And.intro)
      all_goals
        refine Back.mk (O.length - (i + 1)) _ (by omega) ⟨i + 1, g, by omega, rfl, step g ⟨fun h => absurd h (fun h' => (by omega)), fun _ => rfl⟩, rfl⟩ ?_
        rw [bndA_succ, e3, hN]
        refine ⟨[some 0, some 5], rfl, rfl, ?_, ?_⟩ <;> repeat' (first | exact trivial | exact rfl | exact Iff.rfl | apply And.intro)
  · have ei : i = O.length := by omega
    subst ei
    repeat' ((conv => whnf); first | refine Rng.g ?_ | refine Ob.g ?_ | refine Ob.e ?_ | refine Ob.m ?_ | refine Ob.mk (Nat.le_of_ble_eq_true rfl) ?_ | refine JoinVC.on ?_ | refine Nils.mk (fun h => ?_) ?_ | refine Val.t ?_ | refine Val.d ?_ | refine Mm.mk ?_ | (refine Br.mk (fun h => ?_) (fun h => ?_) <;> first | (exfalso; omega; done) | (exfalso; simp at h; done) | skip))
    repeat refine Mm.mk ?_
    conv => whnf
    refine EndVC.mk _ rfl _ _ (⟨g, (by rcases hG with ⟨rfl, h3⟩ | ⟨_, h4⟩; exact ⟨Nat.le_refl _, h3, fun h => absurd h (Nat.lt_irrefl _)⟩; exact h4), rfl, rfl⟩) ?_
    refine ⟨[some 1], rfl, rfl, ?_, ?_⟩ <;> repeat' (first | exact trivial | exact rfl | exact Iff.rfl | apply And.intro)
open Classical in
noncomputable def goodN (f : Fmt) (l : List Sng) (O : List Int) : Nat → Nat
  | 0 => 0
  | i + 1 => if goodN f l O i = i ∧ okAt f l O i then i + 1 else goodN f l O i
theorem goodN_lo {f : Fmt} {l : List Sng} {O : List Int} : ∀ n, (∀ j, j < n → okAt f l O j) → goodN f l O n = n
  | 0, _ => rfl
  | n + 1, h => if_pos ⟨goodN_lo n fun j hj => h j (by omega), h n (Nat.lt_succ_self n)⟩
open Classical in
theorem goodN_hi {f : Fmt} {l : List Sng} {O : List Int} {g : Nat} (h : ∀ j, j < g → okAt f l O j) (hn : ¬ okAt f l O g) : ∀ d, goodN f l O (g + d) = g
  | 0 => goodN_lo g h
  | d + 1 => by
    have ih := goodN_hi h hn d
    have e : ¬ (goodN f l O (g + d) = g + d ∧ okAt f l O (g + d)) := fun ⟨h1, h2⟩ => by
      rw [ih] at h1
      have : d = 0 := by omega
      subst this
      exact hn h2
    show (if goodN f l O (g + d) = g + d ∧ okAt f l O (g + d) then g + d + 1 else goodN f l O (g + d)) = g
    rw [if_neg e]
    exact ih
theorem Good.eq {f : Fmt} {l : List Sng} {O : List Int} {g : Nat} (h : Good f l O g) : goodN f l O O.length = g := by
  by_cases e : g = O.length
  · rw [e]
    exact goodN_lo _ fun j hj => h.yes j (by omega)
  · have h1 := h.le
    have := goodN_hi h.yes (h.no (by omega)) (O.length - g)
    rw [show g + (O.length - g) = O.length by omega] at this
    exact this
/-- How many of an order are good. -/
noncomputable def laN (f : Fmt) (l : List Sng) (O : List Int) : Int := if bothE f l ≠ 0 ∨ ordE l.length O ≠ 0 then 0 else (goodN f l O O.length : Int)
open Classical in
/-- The error of an order. -/
noncomputable def laE (f : Fmt) (l : List Sng) (O : List Int) : Int := if bothE f l ≠ 0 then bothE f l else if ordE l.length O ≠ 0 then ordE l.length O else if goodN f l O O.length < O.length then 20 else if LayOK f l O then 0 else 14
inductive LaS (f : Fmt) (l : List Sng) (O : List Int) (r : AV) (m' : List (Option Blk)) : Prop
  | bad (he : laE f l O ≠ 0) (hr : r = .tup [.one .nils, I (laN f l O), I (laE f l O)]) (hm : m' = [])
  | ok (hf : FmtOK f) (hg : SngsOK l) (hO : OrdOK l.length O) (h : LayOK f l O) (he : laE f l O = 0) (hn : laN f l O = O.length) (hr : r = .tup [.one (.own 0), I (laN f l O), I (laE f l O)]) (hm : m' = [some (rowB (bndA f l O O.length))])
theorem la_ok {f : Fmt} {l : List Sng} {O : List Int} (hf : FmtOK f) (hg : SngsOK l) (hO : OrdOK l.length O) (h : LayOK f l O) : laE f l O = 0 ∧ laN f l O = O.length := by
  have h1 := bothE_ok hf hg
  have h2 := ordE_0.2 hO
  have h3 := goodN_lo O.length h.1
  unfold laE laN
  rw [h1, h2, h3]
  simp [h]
theorem la_limit {f : Fmt} {l : List Sng} {O : List Int} (hf : FmtOK f) (hg : SngsOK l) (hO : OrdOK l.length O) (h : ∀ j, j < O.length → okAt f l O j) (hn : ¬ LayOK f l O) : laE f l O = 14 ∧ laN f l O = O.length := by
  have h1 := bothE_ok hf hg
  have h2 := ordE_0.2 hO
  have h3 := goodN_lo O.length h
  unfold laE laN
  rw [h1, h2, h3]
  simp [hn]
theorem la_rule {f : Fmt} {l : List Sng} {O : List Int} (hf : FmtOK f) (hg : SngsOK l) (hO : OrdOK l.length O) {i : Nat} (hi : i < O.length) (h : ∀ j, j < i → okAt f l O j) (hn : ¬ okAt f l O i) : laE f l O = 20 ∧ laN f l O = i := by
  have h1 := bothE_ok hf hg
  have h2 := ordE_0.2 hO
  have h3 := Good.eq (f := f) (l := l) (O := O) (g := i) ⟨by omega, h, fun _ => hn⟩
  unfold laE laN
  rw [h1, h2, h3]
  simp [hi]
theorem la_bad {f : Fmt} {l : List Sng} {O : List Int} (h : bothE f l ≠ 0) : laE f l O = bothE f l ∧ laN f l O = 0 := by
  unfold laE laN
  rw [if_pos h, if_pos (.inl h)]
  exact ⟨rfl, rfl⟩
theorem la_ord {f : Fmt} {l : List Sng} {O : List Int} (hf : FmtOK f) (hg : SngsOK l) (h : ordE l.length O ≠ 0) : laE f l O = ordE l.length O ∧ laN f l O = 0 := by
  have h1 := bothE_ok hf hg
  unfold laE laN
  rw [if_neg (by rw [h1]; simp), if_pos h, if_pos (.inr h)]
  exact ⟨rfl, rfl⟩
theorem LaRs.to {f : Fmt} {l : List Sng} {O : List Int} {r : AV} {m' : List (Option Blk)} (h : LaRs f l O r m') : LaS f l O r m' := by
  cases h with
  | bad h hr hm =>
    obtain ⟨h1, h2⟩ := la_bad (O := O) h
    exact .bad (by rw [h1]; exact h) (by rw [h1, h2]; exact hr) hm
  | ord hf hg h hr hm =>
    obtain ⟨h1, h2⟩ := la_ord hf hg h
    exact .bad (by rw [h1]; exact h) (by rw [h1, h2]; exact hr) hm
  | rule hf hg hO i hi h hn hr hm =>
    obtain ⟨h1, h2⟩ := la_rule hf hg hO hi h hn
    exact .bad (by rw [h1]; decide) (by rw [h1, h2]; exact hr) hm
  | limit hf hg hO h hn hr hm =>
    obtain ⟨h1, h2⟩ := la_limit hf hg hO h hn
    exact .bad (by rw [h1]; decide) (by rw [h1, h2]; exact hr) hm
  | ok hf hg hO h hr hm =>
    obtain ⟨h1, h2⟩ := la_ok hf hg hO h
    exact .ok hf hg hO h h1 h2 (by rw [h1, h2]; exact hr) hm
end Go.Sx

namespace Go.Sx
open Go Go.Proofs
set_option maxRecDepth 10000
set_option maxHeartbeats 8000000
/-! ### The examples -/
open Classical in
theorem s26 (a b : List Int) (ha : a.length ≤ 1000000) : PSpec Try.prog 26 [.one (.lst true [.int .i64] (i64s a)), .one (.lst true [.int .i64] (i64s b))] (xP (a = b)) := by
  have la := i64s_len a
  have lb := i64s_len b
  by_cases hl : a.length = b.length
  rotate_left
  · refine spec_of pMix (O := []) Try.func26 (c := bodyOf Try.f26) rfl (by kernel_rfl) (by kernel_rfl) Try.ntmps26 (res := [.tmp 4]) (by kernel_rfl) ?_
    repeat' ((conv => whnf); first | refine Rng.g ?_ | refine Ob.g ?_ | refine Ob.e ?_ | refine Ob.m ?_ | refine Ob.mk (Nat.le_of_ble_eq_true rfl) ?_ | refine JoinVC.on ?_ | refine Nils.mk (fun h => ?_) ?_ | refine Val.t ?_ | refine Val.d ?_ | refine Mm.mk ?_ | (refine Br.mk (fun h => ?_) (fun h => ?_) <;> first | (exfalso; omega; done) | (exfalso; simp at h; done) | skip))
    repeat refine Mm.mk ?_
    refine EndVC.mk _ rfl _ _ ⟨rfl, rfl⟩ ?_
    refine ⟨[], rfl, rfl, ?_, ?_⟩ <;> repeat' (first | exact trivial | exact rfl | exact Iff.rfl | apply And.intro)
    exact fun h => hl (by rw [h])
  refine spec_of pMix (O := []) Try.func26 (c := bodyOf Try.f26) rfl (by kernel_rfl) (by kernel_rfl) Try.ntmps26 (res := [.tmp 4]) (by kernel_rfl) ?_
  repeat' ((conv => whnf); first | refine Rng.g ?_ | refine Ob.g ?_ | refine Ob.e ?_ | refine Ob.m ?_ | refine Ob.mk (Nat.le_of_ble_eq_true rfl) ?_ | refine JoinVC.on ?_ | refine Nils.mk (fun h => ?_) ?_ | refine Val.t ?_ | refine Val.d ?_ | refine Mm.mk ?_ | (refine Br.mk (fun h => ?_) (fun h => ?_) <;> first | (exfalso; omega; done) | (exfalso; simp at h; done) | skip))
  refine LoopVC.mk (fun n st => ∃ (i : Nat), i ≤ a.length ∧ n = a.length - i ∧ (∀ j, j < i → a.getD j 0 = b.getD j 0) ∧ st = ⟨0, envA 26 [(0, .x (.one (.lst true [.int .i64] (i64s a)))), (1, .x (.one (.lst true [.int .i64] (i64s b)))), (5, .int .i64 (i : Int))], []⟩) _ _ ⟨0, Nat.zero_le _, rfl, fun j hj => absurd hj (Nat.not_lt_zero j), rfl⟩ ?_ ?_
  · refine ⟨[], rfl, rfl, ?_, ?_⟩ <;> repeat' (first | exact trivial | exact rfl | exact Iff.rfl | apply And.intro)
  rintro n _ ⟨i, hi, hm, hj, rfl⟩
  have g1 : rI (i64s a) (i : Int).toNat 0 = a.getD i 0 := by rw [Int.toNat_natCast]; exact i64s_get a i
  have g2 : rI (i64s b) (i : Int).toNat 0 = b.getD i 0 := by rw [Int.toNat_natCast]; exact i64s_get b i
  by_cases hi' : i < a.length
  · by_cases he : a.getD i 0 = b.getD i 0
    · repeat' ((conv => whnf); first | refine Rng.g ?_ | refine Ob.g ?_ | refine Ob.e ?_ | refine Ob.m ?_ | refine Ob.mk (Nat.le_of_ble_eq_true rfl) ?_ | refine JoinVC.on ?_ | refine Nils.mk (fun h => ?_) ?_ | refine Val.t ?_ | refine Val.d ?_ | refine Mm.mk ?_ | (refine Br.mk (fun h => ?_) (fun h => ?_) <;> first | (exfalso; omega; done) | (exfalso; simp at h; done) | skip))
      refine Back.mk (a.length - (i + 1)) _ (by omega) ⟨i + 1, by omega, rfl, fun j hj' => ?_, rfl⟩ ?_
      · rcases Nat.lt_succ_iff_lt_or_eq.1 hj' with h' | rfl
        · exact hj j h'
        · exact he
      · refine ⟨[], rfl, rfl, ?_, ?_⟩ <;> repeat' (first | exact trivial | exact rfl | exact Iff.rfl | apply And.intro)
    · repeat' ((conv => whnf); first | refine Rng.g ?_ | refine Ob.g ?_ | refine Ob.e ?_ | refine Ob.m ?_ | refine Ob.mk (Nat.le_of_ble_eq_true rfl) ?_ | refine JoinVC.on ?_ | refine Nils.mk (fun h => ?_) ?_ | refine Val.t ?_ | refine Val.d ?_ | refine Mm.mk ?_ | (refine Br.mk (fun h => ?_) (fun h => ?_) <;> first | (exfalso; omega; done) | (exfalso; simp at h; done) | skip))
      repeat refine Mm.mk ?_
      refine EndVC.mk _ rfl _ _ ⟨rfl, rfl⟩ ?_
      refine ⟨[], rfl, rfl, ?_, ?_⟩ <;> repeat' (first | exact trivial | exact rfl | exact Iff.rfl | apply And.intro)
      exact fun h => he (by rw [h])
  · repeat' ((conv => whnf); first | refine Rng.g ?_ | refine Ob.g ?_ | refine Ob.e ?_ | refine Ob.m ?_ | refine Ob.mk (Nat.le_of_ble_eq_true rfl) ?_ | refine JoinVC.on ?_ | refine Nils.mk (fun h => ?_) ?_ | refine Val.t ?_ | refine Val.d ?_ | refine Mm.mk ?_ | (refine Br.mk (fun h => ?_) (fun h => ?_) <;> first | (exfalso; omega; done) | (exfalso; simp at h; done) | skip))
    repeat refine Mm.mk ?_
    refine EndVC.mk _ rfl _ _ ⟨rfl, rfl⟩ ?_
    refine ⟨[], rfl, rfl, ?_, ?_⟩ <;> repeat' (first | exact trivial | exact rfl | exact Iff.rfl | apply And.intro)
    exact list_ext_getD hl fun j hj' => hj j (by omega)
open Classical in
theorem s34 (a b : List Int) (ha : a.length ≤ 1000000) : PSpec Try.prog 34 [.one (.lst true [.int .i64] (i64s a)), .one (.lst true [.int .i64] (i64s b))] (xP (a = b)) := by
  have la := i64s_len a
  have lb := i64s_len b
  by_cases hl : a.length = b.length
  rotate_left
  · refine spec_of pMix (O := []) Try.func34 (c := bodyOf Try.f34) rfl (by kernel_rfl) (by kernel_rfl) Try.ntmps34 (res := [.tmp 4]) (by kernel_rfl) ?_
    repeat' ((conv => whnf); first | refine Rng.g ?_ | refine Ob.g ?_ | refine Ob.e ?_ | refine Ob.m ?_ | refine Ob.mk (Nat.le_of_ble_eq_true rfl) ?_ | refine JoinVC.on ?_ | refine Nils.mk (fun h => ?_) ?_ | refine Val.t ?_ | refine Val.d ?_ | refine Mm.mk ?_ | (refine Br.mk (fun h => ?_) (fun h => ?_) <;> first | (exfalso; omega; done) | (exfalso; simp at h; done) | skip))
    repeat refine Mm.mk ?_
    refine EndVC.mk _ rfl _ _ ⟨rfl, rfl⟩ ?_
    refine ⟨[], rfl, rfl, ?_, ?_⟩ <;> repeat' (first | exact trivial | exact rfl | exact Iff.rfl | apply And.intro)
    exact fun h => hl (by rw [h])
  refine spec_of pMix (O := []) Try.func34 (c := bodyOf Try.f34) rfl (by kernel_rfl) (by kernel_rfl) Try.ntmps34 (res := [.tmp 4]) (by kernel_rfl) ?_
  repeat' ((conv => whnf); first | refine Rng.g ?_ | refine Ob.g ?_ | refine Ob.e ?_ | refine Ob.m ?_ | refine Ob.mk (Nat.le_of_ble_eq_true rfl) ?_ | refine JoinVC.on ?_ | refine Nils.mk (fun h => ?_) ?_ | refine Val.t ?_ | refine Val.d ?_ | refine Mm.mk ?_ | (refine Br.mk (fun h => ?_) (fun h => ?_) <;> first | (exfalso; omega; done) | (exfalso; simp at h; done) | skip))
  refine LoopVC.mk (fun n st => ∃ (i : Nat), i ≤ a.length ∧ n = a.length - i ∧ (∀ j, j < i → a.getD j 0 = b.getD j 0) ∧ st = ⟨0, envA 26 [(0, .x (.one (.lst true [.int .i64] (i64s a)))), (1, .x (.one (.lst true [.int .i64] (i64s b)))), (5, .int .i64 (i : Int))], []⟩) _ _ ⟨0, Nat.zero_le _, rfl, fun j hj => absurd hj (Nat.not_lt_zero j), rfl⟩ ?_ ?_
  · refine ⟨[], rfl, rfl, ?_, ?_⟩ <;> repeat' (first | exact trivial | exact rfl | exact Iff.rfl | apply And.intro)
  rintro n _ ⟨i, hi, hm, hj, rfl⟩
  have g1 : rI (i64s a) (i : Int).toNat 0 = a.getD i 0 := by rw [Int.toNat_natCast]; exact i64s_get a i
  have g2 : rI (i64s b) (i : Int).toNat 0 = b.getD i 0 := by rw [Int.toNat_natCast]; exact i64s_get b i
  by_cases hi' : i < a.length
  · by_cases he : a.getD i 0 = b.getD i 0
    · repeat' ((conv => whnf); first | refine Rng.g ?_ | refine Ob.g ?_ | refine Ob.e ?_ | refine Ob.m ?_ | refine Ob.mk (Nat.le_of_ble_eq_true rfl) ?_ | refine JoinVC.on ?_ | refine Nils.mk (fun h => ?_) ?_ | refine Val.t ?_ | refine Val.d ?_ | refine Mm.mk ?_ | (refine Br.mk (fun h => ?_) (fun h => ?_) <;> first | (exfalso; omega; done) | (exfalso; simp at h; done) | skip))
      refine Back.mk (a.length - (i + 1)) _ (by omega) ⟨i + 1, by omega, rfl, fun j hj' => ?_, rfl⟩ ?_
      · rcases Nat.lt_succ_iff_lt_or_eq.1 hj' with h' | rfl
        · exact hj j h'
        · exact he
      · refine ⟨[], rfl, rfl, ?_, ?_⟩ <;> repeat' (first | exact trivial | exact rfl | exact Iff.rfl | apply And.intro)
    · repeat' ((conv => whnf); first | refine Rng.g ?_ | refine Ob.g ?_ | refine Ob.e ?_ | refine Ob.m ?_ | refine Ob.mk (Nat.le_of_ble_eq_true rfl) ?_ | refine JoinVC.on ?_ | refine Nils.mk (fun h => ?_) ?_ | refine Val.t ?_ | refine Val.d ?_ | refine Mm.mk ?_ | (refine Br.mk (fun h => ?_) (fun h => ?_) <;> first | (exfalso; omega; done) | (exfalso; simp at h; done) | skip))
      repeat refine Mm.mk ?_
      refine EndVC.mk _ rfl _ _ ⟨rfl, rfl⟩ ?_
      refine ⟨[], rfl, rfl, ?_, ?_⟩ <;> repeat' (first | exact trivial | exact rfl | exact Iff.rfl | apply And.intro)
      exact fun h => he (by rw [h])
  · repeat' ((conv => whnf); first | refine Rng.g ?_ | refine Ob.g ?_ | refine Ob.e ?_ | refine Ob.m ?_ | refine Ob.mk (Nat.le_of_ble_eq_true rfl) ?_ | refine JoinVC.on ?_ | refine Nils.mk (fun h => ?_) ?_ | refine Val.t ?_ | refine Val.d ?_ | refine Mm.mk ?_ | (refine Br.mk (fun h => ?_) (fun h => ?_) <;> first | (exfalso; omega; done) | (exfalso; simp at h; done) | skip))
    repeat refine Mm.mk ?_
    refine EndVC.mk _ rfl _ _ ⟨rfl, rfl⟩ ?_
    refine ⟨[], rfl, rfl, ?_, ?_⟩ <;> repeat' (first | exact trivial | exact rfl | exact Iff.rfl | apply And.intro)
    exact list_ext_getD hl fun j hj' => hj j (by omega)
theorem s32 : HSpec Try.prog 32 [] [] (fun r m' => r = .tup [f4.x, .one (.own 0)] ∧ m' = [some (.row 40 false KSng (sngA l4))]) := by
  refine spec_of pMix (O := []) Try.func32 (c := bodyOf Try.f32) rfl (by kernel_rfl) (by kernel_rfl) Try.ntmps32 (res := [.cell 0 23, .tmp 1]) (by kernel_rfl) ?_
  repeat' ((conv => whnf); first | refine Rng.g ?_ | refine Ob.g ?_ | refine Ob.e ?_ | refine Ob.m ?_ | refine Ob.mk (Nat.le_of_ble_eq_true rfl) ?_ | refine JoinVC.on ?_ | refine Nils.mk (fun h => ?_) ?_ | refine Val.t ?_ | refine Val.d ?_ | refine Mm.mk ?_ | (refine Br.mk (fun h => ?_) (fun h => ?_) <;> first | (exfalso; omega; done) | (exfalso; simp at h; done) | skip))
  repeat refine Mm.mk ?_
  refine EndVC.mk _ rfl _ _ ⟨rfl, rfl⟩ ?_
  refine ⟨[some 2], rfl, rfl, ?_, ?_⟩ <;> repeat' (first | exact trivial | exact rfl | exact Iff.rfl | apply And.intro)
instance (f : Fmt) (l : List Sng) (O : List Int) (i : Nat) : Decidable (okAt f l O i) := by unfold okAt; exact inferInstance
instance (f : Fmt) (l : List Sng) (O : List Int) : Decidable (LayOK f l O) := by unfold LayOK; exact inferInstance
theorem alb4 : AlbOK [f4] l4 := ⟨by decide, fun i hi => by
  have : i = 0 := by simp at hi; omega
  subst this
  exact f4_ok, l4_ok⟩
theorem face4 {k i j : Nat} : faceP [f4] l4 k i j ↔ k = 0 ∧ i < j ∧ j ≤ 3 ∧ LayOK f4 l4 (seqL i (j - i)) := by
  constructor
  · rintro ⟨h1, h2, h3, h4⟩
    have : k = 0 := by simp at h1; omega
    subst this
    exact ⟨rfl, h2, h3, h4⟩
  · rintro ⟨rfl, h2, h3, h4⟩
    exact ⟨by simp, h2, h3, h4⟩
theorem prc4 {p : List Int} (h : PrcOK [f4] l4 (Reach [f4] l4) p) : p = [0, 5, 10, 10] := by
  have f01 : faceP [f4] l4 0 0 1 := face4.2 ⟨rfl, by decide, by decide, by decide⟩
  have f12 : faceP [f4] l4 0 1 2 := face4.2 ⟨rfl, by decide, by decide, by decide⟩
  have f13 : faceP [f4] l4 0 1 3 := face4.2 ⟨rfl, by decide, by decide, by decide⟩
  have n02 : ∀ k, ¬ faceP [f4] l4 k 0 2 := fun k h => (by have := (face4.1 h).2.2.2; revert this; decide)
  have n03 : ∀ k, ¬ faceP [f4] l4 k 0 3 := fun k h => (by have := (face4.1 h).2.2.2; revert this; decide)
  have c : ([f4].getD 0 f0).cost = 5 := rfl
  have r1 : Reach [f4] l4 1 5 := by have := Reach.nil.step f01; rw [c] at this; exact this
  have r2 : Reach [f4] l4 2 10 := by have := r1.step f12; rw [c] at this; exact this
  have r3 : Reach [f4] l4 3 10 := by have := r1.step f13; rw [c] at this; exact this
  have b1 : ∀ x, Reach [f4] l4 1 x → 5 ≤ x := fun x hx => by
    cases hx with
    | @step i _ k c' h1 h2 =>
      have h3 := (reach_bd alb4 h1).1
      have h4 := (face4.1 h2).1
      subst h4
      rw [c]
      omega
  have bb : ∀ n x, (n = 2 ∨ n = 3) → Reach [f4] l4 n x → 10 ≤ x := fun n x hn hx => by
    cases hx with
    | nil => omega
    | @step i _ k c' h1 h2 =>
      have h5 := face4.1 h2
      have h4 := h5.1
      subst h4
      rw [c]
      have hi : i = 0 ∨ i = 1 ∨ i = 2 := by omega
      rcases hi with rfl | rfl | rfl
      · rcases hn with rfl | rfl
        · exact absurd h2 (n02 0)
        · exact absurd h2 (n03 0)
      · have := b1 _ h1
        omega
      · cases h1 with
        | @step i' _ k' c'' g1 g2 =>
          have g5 := face4.1 g2
          have g4 := g5.1
          subst g4
          rw [c]
          have := (reach_bd alb4 g1).1
          omega
  have u : ∀ n v x, n ≤ 3 → Reach [f4] l4 n v → (∀ y, Reach [f4] l4 n y → v ≤ y) → p.getD n 0 = x → x = v := fun n v x hn h1 h2 h3 => by
    rcases h.each n hn with ⟨h4, h5⟩ | ⟨h4, h5, h6⟩
    · exact absurd h1 (h5 v)
    · have a := h6 v h1
      have b := h2 _ h5
      omega
  have hlen : p.length = 4 := h.len
  match p, hlen with
  | [x0, x1, x2, x3], _ =>
    have e0 := u 0 0 x0 (by decide) .nil (fun y hy => (reach_bd alb4 hy).1) rfl
    have e1 := u 1 5 x1 (by decide) r1 b1 rfl
    have e2 := u 2 10 x2 (by decide) r2 (fun y hy => bb 2 y (.inl rfl) hy) rfl
    have e3 := u 3 10 x3 (by decide) r3 (fun y hy => bb 3 y (.inr rfl) hy) rfl
    rw [e0, e1, e2, e3]
theorem s11 : PSpec Try.prog 11 [] (xP True) := by
  have n4 : ∀ i, ([f4].getD i f0).nm.size ≤ 140737488355328 := fun i => by
    cases i with
    | zero => decide
    | succ n => exact (by decide : f0.nm.size ≤ 140737488355328)
  refine spec_of pMix (O := []) Try.func11 (c := bodyOf Try.f11) rfl (by kernel_rfl) (by kernel_rfl) Try.ntmps11 (res := [.tmp 0]) (by kernel_rfl) ?_
  repeat' ((conv => whnf); first | refine Rng.g ?_ | refine Ob.g ?_ | refine Ob.e ?_ | refine Ob.m ?_ | refine Ob.mk (Nat.le_of_ble_eq_true rfl) ?_ | refine JoinVC.on ?_ | refine Nils.mk (fun h => ?_) ?_ | refine Val.t ?_ | refine Val.d ?_ | refine Mm.mk ?_ | (refine Br.mk (fun h => ?_) (fun h => ?_) <;> first | (exfalso; omega; done) | (exfalso; simp at h; done) | skip))
  conv => whnf
  refine CallVC.mk [] _ _ _ rfl rfl rfl (s32) (fun r m' h' => ?_)
  obtain ⟨rfl, rfl⟩ := h'
  conv => whnf
  repeat' ((conv => whnf); first | refine Rng.g ?_ | refine Ob.g ?_ | refine Ob.e ?_ | refine Ob.m ?_ | refine Ob.mk (Nat.le_of_ble_eq_true rfl) ?_ | refine JoinVC.on ?_ | refine Nils.mk (fun h => ?_) ?_ | refine Val.t ?_ | refine Val.d ?_ | refine Mm.mk ?_ | (refine Br.mk (fun h => ?_) (fun h => ?_) <;> first | (exfalso; omega; done) | (exfalso; simp at h; done) | skip))
  conv => whnf
  refine CallVC.mk [] _ _ _ rfl rfl rfl (s18 f4 l4 (by decide) (by decide)) (fun r m' h' => ?_)
  cases h' with
  | bad h hr hm => exact absurd (bothE_ok f4_ok l4_ok) h
  | none _ _ hN hr hm => exact absurd lay4 hN
  | ok _ _ _ hr hm =>
    subst hr hm
    rw [allO4]
    repeat' ((conv => whnf); first | refine Rng.g ?_ | refine Ob.g ?_ | refine Ob.e ?_ | refine Ob.m ?_ | refine Ob.mk (Nat.le_of_ble_eq_true rfl) ?_ | refine JoinVC.on ?_ | refine Nils.mk (fun h => ?_) ?_ | refine Val.t ?_ | refine Val.d ?_ | refine Mm.mk ?_ | (refine Br.mk (fun h => ?_) (fun h => ?_) <;> first | (exfalso; omega; done) | (exfalso; simp at h; done) | skip))
    conv => whnf
    refine CallVC.mk [] _ _ _ rfl rfl rfl (s33 [f4] l4 n4) (fun r m' h' => ?_)
    rcases h' with ⟨he, rfl, rfl⟩ | ⟨_, p, hp, rfl, rfl⟩
    · exact absurd (fmsE_0.2 alb4) he
    rw [prc4 hp]
    have k1 := s26 [1, 0, 2] [1, 0, 2] (by decide)
    have k2 := s34 [0, 5, 10, 10] [0, 5, 10, 10] (by decide)
    repeat' ((conv => whnf); first | refine Rng.g ?_ | refine Ob.g ?_ | refine Ob.e ?_ | refine Ob.m ?_ | refine Ob.mk (Nat.le_of_ble_eq_true rfl) ?_ | refine JoinVC.on ?_ | refine Nils.mk (fun h => ?_) ?_ | refine Val.t ?_ | refine Val.d ?_ | refine Mm.mk ?_ | refine CallVC.pure rfl (k1) ?_ | refine CallVC.pure rfl (k2) ?_ | refine CallVC0.pure rfl (k1) ?_ | refine CallVC0.pure rfl (k2) ?_ | (refine Br.mk (fun h => ?_) (fun h => ?_) <;> first | (exfalso; omega; done) | (exfalso; simp at h; done) | skip))
    repeat refine Mm.mk ?_
    refine EndVC.mk _ rfl _ _ ⟨rfl, rfl⟩ ?_
    refine ⟨[], rfl, rfl, ?_, ?_⟩ <;> repeat' (first | exact trivial | exact rfl | exact Iff.rfl | apply And.intro)
    exact ⟨fun _ => trivial, fun _ => rfl⟩
end Go.Sx

namespace Go.Sx
open Go Go.Proofs
set_option maxRecDepth 10000
set_option maxHeartbeats 16000000
open Classical in
/-- What opening for few tracks answers. -/
noncomputable def fewE (f : Fmt) (l : List Sng) : Int := if bothE f l ≠ 0 then bothE f l else if 8 < l.length then 6 else 0
theorem fewE_bad {f : Fmt} {l : List Sng} (h : bothE f l ≠ 0) : fewE f l = bothE f l := if_pos h
theorem fewE_many {f : Fmt} {l : List Sng} (hf : FmtOK f) (hg : SngsOK l) (h : 8 < l.length) : fewE f l = 6 := by unfold fewE; rw [if_neg (fun h2 => h2 (bothE_ok hf hg)), if_pos h]
theorem fewE_ok {f : Fmt} {l : List Sng} (hf : FmtOK f) (hg : SngsOK l) (h : l.length ≤ 8) : fewE f l = 0 := by unfold fewE; rw [if_neg (fun h2 => h2 (bothE_ok hf hg)), if_neg (by omega)]
theorem s55 (f : Fmt) (l : List Sng) (hI : f.nm.size ≤ 140737488355328) : HSpec Try.prog 55 [f.x, lSng l] [] (fun r m' => (fewE f l ≠ 0 ∧ r = .tup [.one .nilp, I (fewE f l)] ∧ m' = []) ∨ (fewE f l ≠ 0 ∧ r = .tup [.one (.ptr 0 0), I (fewE f l)] ∧ m' = [some (bPl f l)]) ∨ (FmtOK f ∧ SngsOK l ∧ l.length ≤ 8 ∧ r = .tup [.one (.ptr 0 0), I 0] ∧ m' = [some (bPl f l)])) := by
  have ll := sngA_len l
  refine spec_of pMix (O := []) Try.func55 (c := bodyOf Try.f55) rfl (by kernel_rfl) (by kernel_rfl) Try.ntmps55 (res := [.tmp 4, .tmp 5]) (by kernel_rfl) ?_
  repeat' ((conv => whnf); first | refine Rng.g ?_ | refine Ob.g ?_ | refine Ob.e ?_ | refine Ob.m ?_ | refine Ob.mk (Nat.le_of_ble_eq_true rfl) ?_ | refine JoinVC.on ?_ | refine Nils.mk (fun h => ?_) ?_ | refine Val.t ?_ | refine Val.d ?_ | refine Mm.mk ?_ | (refine Br.mk (fun h => ?_) (fun h => ?_) <;> first | (exfalso; omega; done) | (exfalso; simp at h; done) | skip))
  conv => whnf
  refine CallVC.mk [] _ _ _ rfl rfl rfl (s35 f l hI) (fun r m' h' => ?_)
  rcases h' with ⟨hn, rfl, rfl⟩ | ⟨hf, hg, rfl, rfl⟩
  · repeat' ((conv => whnf); first | refine Rng.g ?_ | refine Ob.g ?_ | refine Ob.e ?_ | refine Ob.m ?_ | refine Ob.mk (Nat.le_of_ble_eq_true rfl) ?_ | refine JoinVC.on ?_ | refine Nils.mk (fun h => ?_) ?_ | refine Val.t ?_ | refine Val.d ?_ | refine Mm.mk ?_ | (refine Br.mk (fun h => ?_) (fun h => ?_) <;> first | (exfalso; omega; done) | (exfalso; simp at h; done) | skip))
    repeat refine Mm.mk ?_
    conv => whnf
    refine EndVC.mk _ rfl _ _ (.inl ⟨by rw [fewE_bad hn]; exact hn, by rw [fewE_bad hn], rfl⟩) ?_
    refine ⟨[], rfl, rfl, ?_, ?_⟩ <;> repeat' (first | exact trivial | exact rfl | exact Iff.rfl | apply And.intro)
  · by_cases h8 : l.length ≤ 8
    · repeat' ((conv => whnf); first | refine Rng.g ?_ | refine Ob.g ?_ | refine Ob.e ?_ | refine Ob.m ?_ | refine Ob.mk (Nat.le_of_ble_eq_true rfl) ?_ | refine JoinVC.on ?_ | refine Nils.mk (fun h => ?_) ?_ | refine Val.t ?_ | refine Val.d ?_ | refine Mm.mk ?_ | (refine Br.mk (fun h => ?_) (fun h => ?_) <;> first | (exfalso; omega; done) | (exfalso; simp at h; done) | skip))
      repeat refine Mm.mk ?_
      conv => whnf
      refine EndVC.mk _ rfl _ _ (.inr (.inr ⟨hf, hg, h8, rfl, rfl⟩)) ?_
      refine ⟨[some 1], rfl, rfl, ?_, ?_⟩ <;> repeat' (first | exact trivial | exact rfl | exact Iff.rfl | apply And.intro)
    · have e := fewE_many hf hg (by omega)
      repeat' ((conv => whnf); first | refine Rng.g ?_ | refine Ob.g ?_ | refine Ob.e ?_ | refine Ob.m ?_ | refine Ob.mk (Nat.le_of_ble_eq_true rfl) ?_ | refine JoinVC.on ?_ | refine Nils.mk (fun h => ?_) ?_ | refine Val.t ?_ | refine Val.d ?_ | refine Mm.mk ?_ | (refine Br.mk (fun h => ?_) (fun h => ?_) <;> first | (exfalso; omega; done) | (exfalso; simp at h; done) | skip))
      repeat refine Mm.mk ?_
      conv => whnf
      refine EndVC.mk _ rfl _ _ (.inr (.inl ⟨by rw [e]; decide, by rw [e], rfl⟩)) ?_
      refine ⟨[some 1], rfl, rfl, ?_, ?_⟩ <;> repeat' (first | exact trivial | exact rfl | exact Iff.rfl | apply And.intro)
/-- The best packing, as both find it. -/
inductive PaRs (f : Fmt) (l : List Sng) (r : AV) (m' : List (Option Blk)) : Prop
  | bad (h : fewE f l ≠ 0) (hr : r = .tup [.one .nils, I 0, I (fewE f l)]) (hm : m' = [])
  | none (hf : FmtOK f) (hg : SngsOK l) (h8 : l.length ≤ 8) (h : ∀ s, s ≤ l.length → packR f l s = none) (hr : r = .tup [.one .nils, I 0, I 15]) (hm : m' = [])
  | some (hf : FmtOK f) (hg : SngsOK l) (h8 : l.length ≤ 8) (s : Nat) (q : List Int) (hs : s ≤ l.length) (h : ∀ j, j < s → packR f l j = none) (hq : packR f l s = some q) (hr : r = .tup [.one (.lst false [.int .i64] (i64s q)), I (s : Int), I 0]) (hm : m' = [])
theorem s22 (f : Fmt) (l : List Sng) (hI : f.nm.size ≤ 140737488355328) : HSpec Try.prog 22 [f.x, lSng l] [] (PaRs f l) := by
  have ll := sngA_len l
  refine spec_of pMix (O := []) Try.func22 (c := bodyOf Try.f22) rfl (by kernel_rfl) (by kernel_rfl) Try.ntmps22 (res := [.tmp 4, .tmp 5, .tmp 6]) (by kernel_rfl) ?_
  repeat' ((conv => whnf); first | refine Rng.g ?_ | refine Ob.g ?_ | refine Ob.e ?_ | refine Ob.m ?_ | refine Ob.mk (Nat.le_of_ble_eq_true rfl) ?_ | refine JoinVC.on ?_ | refine Nils.mk (fun h => ?_) ?_ | refine Val.t ?_ | refine Val.d ?_ | refine Mm.mk ?_ | (refine Br.mk (fun h => ?_) (fun h => ?_) <;> first | (exfalso; omega; done) | (exfalso; simp at h; done) | skip))
  conv => whnf
  refine CallVC.mk [] _ _ _ rfl rfl rfl (s55 f l hI) (fun r m' h' => ?_)
  rcases h' with ⟨he, rfl, rfl⟩ | ⟨he, rfl, rfl⟩ | ⟨hf, hg, h8, rfl, rfl⟩
  · repeat' ((conv => whnf); first | refine Rng.g ?_ | refine Ob.g ?_ | refine Ob.e ?_ | refine Ob.m ?_ | refine Ob.mk (Nat.le_of_ble_eq_true rfl) ?_ | refine JoinVC.on ?_ | refine Nils.mk (fun h => ?_) ?_ | refine Val.t ?_ | refine Val.d ?_ | refine Mm.mk ?_ | (refine Br.mk (fun h => ?_) (fun h => ?_) <;> first | (exfalso; omega; done) | (exfalso; simp at h; done) | skip))
    repeat refine Mm.mk ?_
    conv => whnf
    refine EndVC.mk _ rfl _ _ (.bad he rfl rfl) ?_
    refine ⟨[], rfl, rfl, ?_, ?_⟩ <;> repeat' (first | exact trivial | exact rfl | exact Iff.rfl | apply And.intro)
  · repeat' ((conv => whnf); first | refine Rng.g ?_ | refine Ob.g ?_ | refine Ob.e ?_ | refine Ob.m ?_ | refine Ob.mk (Nat.le_of_ble_eq_true rfl) ?_ | refine JoinVC.on ?_ | refine Nils.mk (fun h => ?_) ?_ | refine Val.t ?_ | refine Val.d ?_ | refine Mm.mk ?_ | (refine Br.mk (fun h => ?_) (fun h => ?_) <;> first | (exfalso; omega; done) | (exfalso; simp at h; done) | skip))
    repeat refine Mm.mk ?_
    conv => whnf
    refine EndVC.mk _ rfl _ _ (.bad he rfl rfl) ?_
    refine ⟨[], rfl, rfl, ?_, ?_⟩ <;> repeat' (first | exact trivial | exact rfl | exact Iff.rfl | apply And.intro)
  repeat' ((conv => whnf); first | refine Rng.g ?_ | refine Ob.g ?_ | refine Ob.e ?_ | refine Ob.m ?_ | refine Ob.mk (Nat.le_of_ble_eq_true rfl) ?_ | refine JoinVC.on ?_ | refine Nils.mk (fun h => ?_) ?_ | refine Val.t ?_ | refine Val.d ?_ | refine Mm.mk ?_ | (refine Br.mk (fun h => ?_) (fun h => ?_) <;> first | (exfalso; omega; done) | (exfalso; simp at h; done) | skip))
  refine LoopVC.mk (fun n st => ∃ (s : Nat), s ≤ l.length ∧ n = l.length - s ∧ (∀ j, j < s → packR f l j = none) ∧ st = ⟨0, envA 38 [(1, .x (lSng l)), (7, .x (.one (.ptr 0 0))), (9, .int .i64 (s : Int))], [some (bPl f l)]⟩) _ _ ⟨0, Nat.zero_le _, rfl, fun j hj => absurd hj (Nat.not_lt_zero j), rfl⟩ ?_ ?_
  · refine ⟨[some 1], rfl, rfl, ?_, ?_⟩ <;> repeat' (first | exact trivial | exact rfl | exact Iff.rfl | apply And.intro)
  rintro n _ ⟨s, hs, hn, hno, rfl⟩
  repeat' ((conv => whnf); first | refine Rng.g ?_ | refine Ob.g ?_ | refine Ob.e ?_ | refine Ob.m ?_ | refine Ob.mk (Nat.le_of_ble_eq_true rfl) ?_ | refine JoinVC.on ?_ | refine Nils.mk (fun h => ?_) ?_ | refine Val.t ?_ | refine Val.d ?_ | refine Mm.mk ?_ | (refine Br.mk (fun h => ?_) (fun h => ?_) <;> first | (exfalso; omega; done) | (exfalso; simp at h; done) | skip))
  conv => whnf
  refine CallVC.mk [0] _ _ _ rfl rfl rfl (s56 f l hf hg h8 s (by omega)) (fun r m' h' => ?_)
  rcases h' with ⟨hp, rfl, rfl⟩ | ⟨q, hp, rfl, rfl⟩
  · by_cases hs' : s = l.length
    · repeat' ((conv => whnf); first | refine Rng.g ?_ | refine Ob.g ?_ | refine Ob.e ?_ | refine Ob.m ?_ | refine Ob.mk (Nat.le_of_ble_eq_true rfl) ?_ | refine JoinVC.on ?_ | refine Nils.mk (fun h => ?_) ?_ | refine Val.t ?_ | refine Val.d ?_ | refine Mm.mk ?_ | (refine Br.mk (fun h => ?_) (fun h => ?_) <;> first | (exfalso; omega; done) | (exfalso; simp at h; done) | skip))
      repeat refine Mm.mk ?_
      conv => whnf
      refine EndVC.mk _ rfl _ _ (.none hf hg h8 (fun j hj => (by rcases Nat.lt_or_eq_of_le hj with h1 | h1; exact hno j (by omega); rw [h1, ← hs']; exact hp)) rfl rfl) ?_
      refine ⟨[], rfl, rfl, ?_, ?_⟩ <;> repeat' (first | exact trivial | exact rfl | exact Iff.rfl | apply And.intro)
    · repeat' ((conv => whnf); first | refine Rng.g ?_ | refine Ob.g ?_ | refine Ob.e ?_ | refine Ob.m ?_ | refine Ob.mk (Nat.le_of_ble_eq_true rfl) ?_ | refine JoinVC.on ?_ | refine Nils.mk (fun h => ?_) ?_ | refine Val.t ?_ | refine Val.d ?_ | refine Mm.mk ?_ | (refine Br.mk (fun h => ?_) (fun h => ?_) <;> first | (exfalso; omega; done) | (exfalso; simp at h; done) | skip))
      refine Back.mk (l.length - (s + 1)) _ (by omega) ⟨s + 1, by omega, rfl, fun j hj => ?_, rfl⟩ ?_
      · rcases Nat.lt_succ_iff_lt_or_eq.1 hj with h' | rfl
        · exact hno j h'
        · exact hp
      · refine ⟨[some 0], rfl, rfl, ?_, ?_⟩ <;> repeat' (first | exact trivial | exact rfl | exact Iff.rfl | apply And.intro)
  · repeat' ((conv => whnf); first | refine Rng.g ?_ | refine Ob.g ?_ | refine Ob.e ?_ | refine Ob.m ?_ | refine Ob.mk (Nat.le_of_ble_eq_true rfl) ?_ | refine JoinVC.on ?_ | refine Nils.mk (fun h => ?_) ?_ | refine Val.t ?_ | refine Val.d ?_ | refine Mm.mk ?_ | (refine Br.mk (fun h => ?_) (fun h => ?_) <;> first | (exfalso; omega; done) | (exfalso; simp at h; done) | skip))
    repeat refine Mm.mk ?_
    conv => whnf
    refine EndVC.mk _ rfl _ _ (.some hf hg h8 s q hs hno hp rfl rfl) ?_
    refine ⟨[], rfl, rfl, ?_, ?_⟩ <;> repeat' (first | exact trivial | exact rfl | exact Iff.rfl | apply And.intro)
end Go.Sx

namespace Go.Sx
open Go Go.Proofs
set_option maxRecDepth 10000
set_option maxHeartbeats 16000000
theorem s59 (f : Fmt) (l : List Sng) (O : List Int) (hf : FmtOK f) (hg : SngsOK l) (hO : InR O l.length) (hl : O.length ≤ 100) : PSpec Try.prog 59 [f.x, lSng l, .one (.lst true [.int .i64] (i64s O))] (xP (LayOK f l O)) := by
  have lo := i64s_len O
  refine spec_of pMix (O := []) Try.func59 (c := bodyOf Try.f59) rfl (by kernel_rfl) (by kernel_rfl) Try.ntmps59 (res := [.tmp 6]) (by kernel_rfl) ?_
  repeat' ((conv => whnf); first | refine Rng.g ?_ | refine Ob.g ?_ | refine Ob.e ?_ | refine Ob.m ?_ | refine Ob.mk (Nat.le_of_ble_eq_true rfl) ?_ | refine JoinVC.on ?_ | refine Nils.mk (fun h => ?_) ?_ | refine Val.t ?_ | refine Val.d ?_ | refine Mm.mk ?_ | (refine Br.mk (fun h => ?_) (fun h => ?_) <;> first | (exfalso; omega; done) | (exfalso; simp at h; done) | skip))
  conv => whnf
  refine CallVC.mk [] _ _ _ rfl rfl rfl (s40 f l O hf hg hO hl) (fun r m' h' => ?_)
  obtain ⟨g, hG, rfl, rfl⟩ := h'
  conv => whnf
  by_cases e : g = O.length
  · subst e
    repeat' ((conv => whnf); first | refine Rng.g ?_ | refine Ob.g ?_ | refine Ob.e ?_ | refine Ob.m ?_ | refine Ob.mk (Nat.le_of_ble_eq_true rfl) ?_ | refine JoinVC.on ?_ | refine Nils.mk (fun h => ?_) ?_ | refine Val.t ?_ | refine Val.d ?_ | refine Mm.mk ?_ | (refine Br.mk (fun h => ?_) (fun h => ?_) <;> first | (exfalso; omega; done) | (exfalso; simp at h; done) | skip))
    repeat refine Mm.mk ?_
    refine EndVC.mk _ rfl _ _ ⟨rfl, rfl⟩ ?_
    refine ⟨[], rfl, rfl, ?_, ?_⟩ <;> repeat' (first | exact trivial | exact rfl | exact Iff.rfl | apply And.intro)
    show _ ↔ _
    exact ⟨fun h1 => ⟨fun i hi => hG.yes i hi, by omega⟩, fun h1 => by have := h1.2; omega⟩
  · have hgl := hG.le
    have hn : ¬ LayOK f l O := fun h1 => hG.no (by omega) (h1.1 g (by omega))
    repeat' ((conv => whnf); first | refine Rng.g ?_ | refine Ob.g ?_ | refine Ob.e ?_ | refine Ob.m ?_ | refine Ob.mk (Nat.le_of_ble_eq_true rfl) ?_ | refine JoinVC.on ?_ | refine Nils.mk (fun h => ?_) ?_ | refine Val.t ?_ | refine Val.d ?_ | refine Mm.mk ?_ | (refine Br.mk (fun h => ?_) (fun h => ?_) <;> first | (exfalso; omega; done) | (exfalso; simp at h; done) | skip))
    repeat refine Mm.mk ?_
    refine EndVC.mk _ rfl _ _ ⟨rfl, rfl⟩ ?_
    refine ⟨[], rfl, rfl, ?_, ?_⟩ <;> repeat' (first | exact trivial | exact rfl | exact Iff.rfl | apply And.intro)
    exact hn
/-- The tracks of a side, of the first so many. -/
def onN (P : List Int) (k : Int) (n : Nat) : List Int := ((List.range n).filter fun j => decide (P.getD j 0 = k)).map fun j : Nat => (j : Int)
theorem onN_yes {P : List Int} {k : Int} {n : Nat} (h : P.getD n 0 = k) : onN P k (n + 1) = onN P k n ++ [(n : Int)] := by
  unfold onN
  rw [List.range_succ, List.filter_append, List.map_append]
  have e : [n].filter (fun j => decide (P.getD j 0 = k)) = [n] := List.filter_cons_of_pos (decide_eq_true h)
  rw [e]
  rfl
theorem onN_no {P : List Int} {k : Int} {n : Nat} (h : ¬ P.getD n 0 = k) : onN P k (n + 1) = onN P k n := by
  unfold onN
  rw [List.range_succ, List.filter_append, List.map_append]
  have e : [n].filter (fun j => decide (P.getD j 0 = k)) = [] := List.filter_cons_of_neg (p := fun j => decide (P.getD j 0 = k)) (by rw [decide_eq_true_eq]; exact h)
  rw [e, List.map_nil, List.append_nil]
theorem onN_le (P : List Int) (k : Int) (n : Nat) : (onN P k n).length ≤ n := by
  unfold onN
  rw [List.length_map]
  exact Nat.le_trans (List.length_filter_le _ _) (by simp)
theorem s61 (P : List Int) (k : Int) (hl : P.length ≤ 100) (hk0 : onL P k ≠ []) : HSpec Try.prog 61 [.one (.lst true [.int .i64] (i64s P)), I k] [] (fun r m' => r = .x (.one (.own 0)) ∧ m' = [some (rowOd (onL P k))]) := by
  have lo := i64s_len P
  refine spec_of pMix (O := []) Try.func61 (c := bodyOf Try.f61) rfl (by kernel_rfl) (by kernel_rfl) Try.ntmps61 (res := [.tmp 4]) (by kernel_rfl) ?_
  repeat' ((conv => whnf); first | refine Rng.g ?_ | refine Ob.g ?_ | refine Ob.e ?_ | refine Ob.m ?_ | refine Ob.mk (Nat.le_of_ble_eq_true rfl) ?_ | refine JoinVC.on ?_ | refine Nils.mk (fun h => ?_) ?_ | refine Val.t ?_ | refine Val.d ?_ | refine Mm.mk ?_ | (refine Br.mk (fun h => ?_) (fun h => ?_) <;> first | (exfalso; omega; done) | (exfalso; simp at h; done) | skip))
  refine LoopVC.mk (fun n st => ∃ (i : Nat), i ≤ P.length ∧ n = P.length - i ∧ ((onN P k i = [] ∧ st = ⟨0, envA 24 [(0, .x (.one (.lst true [.int .i64] (i64s P)))), (1, .x (I k)), (5, .x (.one .nils)), (6, .int .i64 (i : Int))], []⟩) ∨ st = ⟨0, envA 24 [(0, .x (.one (.lst true [.int .i64] (i64s P)))), (1, .x (I k)), (5, .x (.one (.own 0))), (6, .int .i64 (i : Int))], [some (rowOd (onN P k i))]⟩)) _ _ ⟨0, Nat.zero_le _, rfl, .inl ⟨rfl, rfl⟩⟩ ?_ ?_
  · refine ⟨[], rfl, rfl, ?_, ?_⟩ <;> repeat' (first | exact trivial | exact rfl | exact Iff.rfl | apply And.intro)
  rintro n _ ⟨i, hi, hn, h⟩
  have gi : rI (i64s P) (i : Int).toNat 0 = P.getD i 0 := by rw [Int.toNat_natCast]; exact i64s_get P i
  have lN := onN_le P k i
  have lNi := i64s_len (onN P k i)
  rcases h with ⟨h0, rfl⟩ | rfl
  · by_cases hi' : i < P.length
    · by_cases hk : P.getD i 0 = k
      · have e : onN P k (i + 1) = [(i : Int)] := by rw [onN_yes hk, h0]; rfl
        repeat' ((conv => whnf); first | rw [gi] | refine Rng.g ?_ | refine Ob.g ?_ | refine Ob.e ?_ | refine Ob.m ?_ | refine Ob.mk (Nat.le_of_ble_eq_true rfl) ?_ | refine JoinVC.on ?_ | refine Nils.mk (fun h => ?_) ?_ | refine Val.t ?_ | refine Val.d ?_ | refine Mm.mk ?_ | (refine Br.mk (fun h => ?_) (fun h => ?_) <;> first | (exfalso; omega; done) | (exfalso; simp at h; done) | skip))
        refine Back.mk (P.length - (i + 1)) _ (by omega) ⟨i + 1, by omega, rfl, .inr rfl⟩ ?_
        rw [e]
        refine ⟨[some 1], rfl, rfl, ?_, ?_⟩ <;> repeat' (first | exact trivial | exact rfl | exact Iff.rfl | apply And.intro)
      · repeat' ((conv => whnf); first | rw [gi] | refine Rng.g ?_ | refine Ob.g ?_ | refine Ob.e ?_ | refine Ob.m ?_ | refine Ob.mk (Nat.le_of_ble_eq_true rfl) ?_ | refine JoinVC.on ?_ | refine Nils.mk (fun h => ?_) ?_ | refine Val.t ?_ | refine Val.d ?_ | refine Mm.mk ?_ | (refine Br.mk (fun h => ?_) (fun h => ?_) <;> first | (exfalso; omega; done) | (exfalso; simp at h; done) | skip))
        refine Back.mk (P.length - (i + 1)) _ (by omega) ⟨i + 1, by omega, rfl, .inl ⟨by rw [onN_no hk]; exact h0, rfl⟩⟩ ?_
        refine ⟨[], rfl, rfl, ?_, ?_⟩ <;> repeat' (first | exact trivial | exact rfl | exact Iff.rfl | apply And.intro)
    · have ei : i = P.length := by omega
      subst ei
      exact absurd h0 hk0
  · by_cases hi' : i < P.length
    · by_cases hk : P.getD i 0 = k
      · have e : i64s (onN P k (i + 1)) = i64s (onN P k i) ++ [[Cell.int (i : Int)]] := by rw [onN_yes hk, i64s_snoc]
        repeat' ((conv => whnf); first | rw [gi] | refine Rng.g ?_ | refine Ob.g ?_ | refine Ob.e ?_ | refine Ob.m ?_ | refine Ob.mk (Nat.le_of_ble_eq_true rfl) ?_ | refine JoinVC.on ?_ | refine Nils.mk (fun h => ?_) ?_ | refine Val.t ?_ | refine Val.d ?_ | refine Mm.mk ?_ | (refine Br.mk (fun h => ?_) (fun h => ?_) <;> first | (exfalso; omega; done) | (exfalso; simp at h; done) | skip))
        repeat refine Mm.mk ?_
        refine Ob.mk (by rw [eb3]; simp only [List.length_cons, List.length_nil]; omega) ?_
        repeat' ((conv => whnf); first | refine Rng.g ?_ | refine Ob.g ?_ | refine Ob.e ?_ | refine Ob.m ?_ | refine Ob.mk (Nat.le_of_ble_eq_true rfl) ?_ | refine JoinVC.on ?_ | refine Nils.mk (fun h => ?_) ?_ | refine Val.t ?_ | refine Val.d ?_ | refine Mm.mk ?_ | (refine Br.mk (fun h => ?_) (fun h => ?_) <;> first | (exfalso; omega; done) | (exfalso; simp at h; done) | skip))
        refine Back.mk (P.length - (i + 1)) _ (by omega) ⟨i + 1, by omega, rfl, .inr rfl⟩ ?_
        rw [show rowOd (onN P k (i + 1)) = .row 3 false [.int .i64] (i64s (onN P k i) ++ [[Cell.int (i : Int)]]) by rw [← e]]
        refine ⟨[some 2], rfl, rfl, ?_, ?_⟩ <;> repeat' (first | exact trivial | exact rfl | exact Iff.rfl | apply And.intro)
      · repeat' ((conv => whnf); first | rw [gi] | refine Rng.g ?_ | refine Ob.g ?_ | refine Ob.e ?_ | refine Ob.m ?_ | refine Ob.mk (Nat.le_of_ble_eq_true rfl) ?_ | refine JoinVC.on ?_ | refine Nils.mk (fun h => ?_) ?_ | refine Val.t ?_ | refine Val.d ?_ | refine Mm.mk ?_ | (refine Br.mk (fun h => ?_) (fun h => ?_) <;> first | (exfalso; omega; done) | (exfalso; simp at h; done) | skip))
        refine Back.mk (P.length - (i + 1)) _ (by omega) ⟨i + 1, by omega, rfl, .inr rfl⟩ ?_
        rw [onN_no hk]
        refine ⟨[some 0], rfl, rfl, ?_, ?_⟩ <;> repeat' (first | exact trivial | exact rfl | exact Iff.rfl | apply And.intro)
    · have ei : i = P.length := by omega
      subst ei
      repeat' ((conv => whnf); first | refine Rng.g ?_ | refine Ob.g ?_ | refine Ob.e ?_ | refine Ob.m ?_ | refine Ob.mk (Nat.le_of_ble_eq_true rfl) ?_ | refine JoinVC.on ?_ | refine Nils.mk (fun h => ?_) ?_ | refine Val.t ?_ | refine Val.d ?_ | refine Mm.mk ?_ | (refine Br.mk (fun h => ?_) (fun h => ?_) <;> first | (exfalso; omega; done) | (exfalso; simp at h; done) | skip))
      repeat refine Mm.mk ?_
      conv => whnf
      refine EndVC.mk _ rfl _ _ (⟨rfl, rfl⟩) ?_
      refine ⟨[some 0], rfl, rfl, ?_, ?_⟩ <;> repeat' (first | exact trivial | exact rfl | exact Iff.rfl | apply And.intro)
/-! ### The usual order, by insertion from the end -/
theorem srt_ins {l : List Sng} {V : List Int} {x : Int} {j : Nat} (hV : SrtU l V) (hj : j ≤ V.length) (hlt : ∀ y, y ∈ V → y < x) (ha : ∀ q, j ≤ q → q < V.length → lsF l (V.getD q 0) < lsF l x) (hb : 0 < j → lsF l x ≤ lsF l (V.getD (j - 1) 0)) : SrtU l (V.take j ++ x :: V.drop j) := by
  have hV0 := hV
  unfold SrtU at hV ⊢
  rw [← List.take_append_drop j V, List.pairwise_append] at hV
  obtain ⟨h1, h2, h3⟩ := hV
  rw [List.pairwise_append]
  refine ⟨h1, List.pairwise_cons.2 ⟨fun y hy => ?_, h2⟩, fun a ha' b hb' => ?_⟩
  · obtain ⟨p, hp, rfl⟩ := List.getElem_of_mem hy
    rw [List.length_drop] at hp
    have := ha (j + p) (by omega) (by omega)
    rw [List.getD_eq_getElem?_getD, List.getElem?_eq_getElem (show j + p < V.length by omega), Option.getD_some] at this
    rw [List.getElem_drop, usB_iff]
    exact .inl this
  · rcases List.mem_cons.1 hb' with rfl | hb'
    · obtain ⟨p, hp, rfl⟩ := List.getElem_of_mem ha'
      have hpl : p < j ∧ p < V.length := by rw [List.length_take] at hp; omega
      have h4 := hb (by omega)
      rw [List.getD_eq_getElem?_getD, List.getElem?_eq_getElem (show j - 1 < V.length by omega), Option.getD_some] at h4
      have h5 := hlt _ (List.getElem_mem hpl.2)
      rw [List.getElem_take, usB_iff]
      by_cases e : p = j - 1
      · subst e
        omega
      · have h6 := usB_iff.1 ((List.pairwise_iff_getElem.1 hV0) p (j - 1) (by omega) (by omega) (by omega))
        omega
    · exact h3 a ha' b hb'
theorem perm_ins {V W : List Int} {x : Int} (j : Nat) (h : V.Perm W) : (V.take j ++ x :: V.drop j).Perm (W ++ [x]) := by
  refine (List.perm_middle).trans ?_
  rw [List.take_append_drop]
  exact (h.cons x).trans (List.perm_append_singleton x W).symm
end Go.Sx

namespace Go.Sx
open Go Go.Proofs
set_option maxRecDepth 10000
set_option maxHeartbeats 8000000
/-! ### Orders by places -/
open Classical in
theorem s14 (f : Fmt) (l : List Sng) (m : Int) : PSpec Try.prog 14 [f.x, lSng l, I m] (xP ((l.length : Int) ≤ m ∧ FmtOK f ∧ SngsOK l)) := by
  have ll := sngA_len l
  have v1 := s41 f
  have v2 := s42 l
  by_cases hm : (l.length : Int) ≤ m
  rotate_left
  · refine spec_of pMix (O := []) Try.func14 (c := bodyOf Try.f14) rfl (by kernel_rfl) (by kernel_rfl) Try.ntmps14 (res := [.tmp 6]) (by kernel_rfl) ?_
    repeat' ((conv => whnf); first | refine Rng.g ?_ | refine Ob.g ?_ | refine Ob.e ?_ | refine Ob.m ?_ | refine Ob.mk (Nat.le_of_ble_eq_true rfl) ?_ | refine JoinVC.on ?_ | refine Nils.mk (fun h => ?_) ?_ | refine Val.t ?_ | refine Val.d ?_ | refine Mm.mk ?_ | (refine Br.mk (fun h => ?_) (fun h => ?_) <;> first | (exfalso; omega; done) | (exfalso; simp at h; done) | skip))
    repeat refine Mm.mk ?_
    refine EndVC.mk _ rfl _ _ ⟨rfl, rfl⟩ ?_
    refine ⟨[], rfl, rfl, ?_, ?_⟩ <;> repeat' (first | exact trivial | exact rfl | exact Iff.rfl | apply And.intro)
    exact fun h => hm h.1
  by_cases hf : FmtOK f
  rotate_left
  · rw [fmtE_no hf] at v1
    refine spec_of pMix (O := []) Try.func14 (c := bodyOf Try.f14) rfl (by kernel_rfl) (by kernel_rfl) Try.ntmps14 (res := [.tmp 6]) (by kernel_rfl) ?_
    repeat' ((conv => whnf); first | refine Rng.g ?_ | refine Ob.g ?_ | refine Ob.e ?_ | refine Ob.m ?_ | refine Ob.mk (Nat.le_of_ble_eq_true rfl) ?_ | refine JoinVC.on ?_ | refine Nils.mk (fun h => ?_) ?_ | refine Val.t ?_ | refine Val.d ?_ | refine Mm.mk ?_ | refine CallVC.pure rfl (v1) ?_ | refine CallVC0.pure rfl (v1) ?_ | (refine Br.mk (fun h => ?_) (fun h => ?_) <;> first | (exfalso; omega; done) | (exfalso; simp at h; done) | skip))
    repeat refine Mm.mk ?_
    refine EndVC.mk _ rfl _ _ ⟨rfl, rfl⟩ ?_
    refine ⟨[], rfl, rfl, ?_, ?_⟩ <;> repeat' (first | exact trivial | exact rfl | exact Iff.rfl | apply And.intro)
    exact fun h => absurd h.2.1 hf
  rw [fmtE_ok hf] at v1
  by_cases hg : SngsOK l
  · rw [trkE_ok hg] at v2
    refine spec_of pMix (O := []) Try.func14 (c := bodyOf Try.f14) rfl (by kernel_rfl) (by kernel_rfl) Try.ntmps14 (res := [.tmp 6]) (by kernel_rfl) ?_
    repeat' ((conv => whnf); first | refine Rng.g ?_ | refine Ob.g ?_ | refine Ob.e ?_ | refine Ob.m ?_ | refine Ob.mk (Nat.le_of_ble_eq_true rfl) ?_ | refine JoinVC.on ?_ | refine Nils.mk (fun h => ?_) ?_ | refine Val.t ?_ | refine Val.d ?_ | refine Mm.mk ?_ | refine CallVC.pure rfl (v1) ?_ | refine CallVC.pure rfl (v2) ?_ | refine CallVC0.pure rfl (v1) ?_ | refine CallVC0.pure rfl (v2) ?_ | (refine Br.mk (fun h => ?_) (fun h => ?_) <;> first | (exfalso; omega; done) | (exfalso; simp at h; done) | skip))
    repeat refine Mm.mk ?_
    refine EndVC.mk _ rfl _ _ ⟨rfl, rfl⟩ ?_
    refine ⟨[], rfl, rfl, ?_, ?_⟩ <;> repeat' (first | exact trivial | exact rfl | exact Iff.rfl | apply And.intro)
    exact ⟨fun _ => ⟨hm, hf, hg⟩, fun _ => rfl⟩
  · obtain ⟨e, he⟩ : ∃ e, trkE l = e := ⟨_, rfl⟩
    have h0 : e ≠ 0 := fun h => hg (trkE_0 (he.trans h))
    rw [he] at v2
    refine spec_of pMix (O := []) Try.func14 (c := bodyOf Try.f14) rfl (by kernel_rfl) (by kernel_rfl) Try.ntmps14 (res := [.tmp 6]) (by kernel_rfl) ?_
    repeat' ((conv => whnf); first | refine Rng.g ?_ | refine Ob.g ?_ | refine Ob.e ?_ | refine Ob.m ?_ | refine Ob.mk (Nat.le_of_ble_eq_true rfl) ?_ | refine JoinVC.on ?_ | refine Nils.mk (fun h => ?_) ?_ | refine Val.t ?_ | refine Val.d ?_ | refine Mm.mk ?_ | refine CallVC.pure rfl (v1) ?_ | refine CallVC.pure rfl (v2) ?_ | refine CallVC0.pure rfl (v1) ?_ | refine CallVC0.pure rfl (v2) ?_ | (refine Br.mk (fun h => ?_) (fun h => ?_) <;> first | (exfalso; omega; done) | (exfalso; simp at h; done) | skip))
    repeat refine Mm.mk ?_
    refine EndVC.mk _ rfl _ _ ⟨rfl, rfl⟩ ?_
    refine ⟨[], rfl, rfl, ?_, ?_⟩ <;> repeat' (first | exact trivial | exact rfl | exact Iff.rfl | apply And.intro)
    exact ⟨fun h => absurd h h0, fun h => absurd h.2.2 hg⟩
theorem ord_row (L : List Int) (q i : Int) : ([] ++ List.take q.toNat (List.drop 0 (i64s L))) ++ [[Cell.int i]] ++ List.take (((i64s L).length : Int).toNat - q.toNat) (List.drop q.toNat (i64s L)) = i64s (L.take q.toNat ++ i :: L.drop q.toNat) := by
  have h2 : List.take (((i64s L).length : Int).toNat - q.toNat) (List.drop q.toNat (i64s L)) = List.drop q.toNat (i64s L) := List.take_of_length_le (by rw [List.length_drop]; omega)
  rw [h2, List.drop_zero, List.nil_append]
  simp [i64s]
@[reducible] def lU (b : List Int) : XV := .one (.lst true [.int .u8] (i64s b))
end Go.Sx

namespace Go.Sx
open Go Go.Proofs
set_option maxRecDepth 10000
set_option maxHeartbeats 16000000
theorem s60 (l : List Sng) (O : List Int) (hO : InR O l.length) (hs : O.Pairwise (· < ·)) (hl : O.length ≤ 100) (h0O : 0 < O.length) : HSpec Try.prog 60 [lSng l, .one (.lst true [.int .i64] (i64s O))] [] (fun r m' => r = .x (.one (.own 0)) ∧ m' = [some (rowOd (usu l O))]) := by
  have lo := i64s_len O
  have lg := sngA_len l
  refine spec_of pMix (O := [(8, ([0], [⟨1, [], []⟩, ⟨2, [], []⟩, ⟨3, [], []⟩, ⟨5, [], []⟩, ⟨6, [], []⟩, ⟨7, [], []⟩, ⟨8, [], [9]⟩, ⟨11, [], []⟩, ⟨12, [], []⟩, ⟨13, [], []⟩, ⟨0, [], []⟩, ⟨4, [5, 6, 7, 8, 11, 12, 13], []⟩, ⟨9, [], []⟩, ⟨10, [11, 12, 13], []⟩, ⟨14, [], []⟩, ⟨15, [], []⟩]))]) Try.func60 (c := bodyOf Try.f60) rfl (by kernel_rfl) (by kernel_rfl) Try.ntmps60 (res := [.tmp 4]) (by kernel_rfl) ?_
  repeat' ((conv => whnf); first | refine Rng.g ?_ | refine Ob.g ?_ | refine Ob.e ?_ | refine Ob.m ?_ | refine Ob.mk (Nat.le_of_ble_eq_true rfl) ?_ | refine JoinVC.on ?_ | refine Nils.mk (fun h => ?_) ?_ | refine Val.t ?_ | refine Val.d ?_ | refine Mm.mk ?_ | (refine Br.mk (fun h => ?_) (fun h => ?_) <;> first | (exfalso; omega; done) | (exfalso; simp at h; done) | skip))
  refine LoopVC.mk (fun n st => ∃ (i : Nat) (V : List Int), i ≤ O.length ∧ n = O.length - i ∧ SrtU l V ∧ V.Perm (O.take i) ∧ ((i = 0 ∧ st = ⟨0, envA 56 [(0, .x (lSng l)), (1, .x (.one (.lst true [.int .i64] (i64s O)))), (5, .x (.one (.lst false [.int .i64] []))), (6, .int .i64 (i : Int))], []⟩) ∨ st = ⟨0, envA 56 [(0, .x (lSng l)), (1, .x (.one (.lst true [.int .i64] (i64s O)))), (5, .x (.one (.own 0))), (6, .int .i64 (i : Int))], [some (rowOd V)]⟩)) _ _ ⟨0, [], Nat.zero_le _, rfl, List.Pairwise.nil, List.Perm.refl _, .inl ⟨rfl, rfl⟩⟩ ?_ ?_
  · refine ⟨[], rfl, rfl, ?_, ?_⟩ <;> repeat' (first | exact trivial | exact rfl | exact Iff.rfl | apply And.intro)
  rintro n _ ⟨i, V, hi, hn, hV, hP, h⟩
  have gi : rI (i64s O) (i : Int).toNat 0 = O.getD i 0 := by rw [Int.toNat_natCast]; exact i64s_get O i
  have lV := i64s_len V
  have hVl : V.length = i := by rw [hP.length_eq, List.length_take]; omega
  by_cases hi' : i < O.length
  rotate_left
  · have ei : i = O.length := by omega
    have hu : V = usu l O := usu_uniq (hs.imp fun h => Int.ne_of_lt h) hV (by rw [ei, List.take_length] at hP; exact hP)
    rcases h with ⟨h0, rfl⟩ | rfl
    · omega
    · rw [hu]
      repeat' ((conv => whnf); first | refine Rng.g ?_ | refine Ob.g ?_ | refine Ob.e ?_ | refine Ob.m ?_ | refine Ob.mk (Nat.le_of_ble_eq_true rfl) ?_ | refine JoinVC.on ?_ | refine Nils.mk (fun h => ?_) ?_ | refine Val.t ?_ | refine Val.d ?_ | refine Mm.mk ?_ | (refine Br.mk (fun h => ?_) (fun h => ?_) <;> first | (exfalso; omega; done) | (exfalso; simp at h; done) | skip))
      repeat refine Mm.mk ?_
      conv => whnf
      refine EndVC.mk _ rfl _ _ (⟨rfl, rfl⟩) ?_
      refine ⟨[some 0], rfl, rfl, ?_, ?_⟩ <;> repeat' (first | exact trivial | exact rfl | exact Iff.rfl | apply And.intro)
  have hr := hO i hi'
  have ht : O.take (i + 1) = O.take i ++ [O.getD i 0] := by
    rw [List.take_succ_eq_append_getElem hi', List.getD_eq_getElem?_getD, List.getElem?_eq_getElem hi', Option.getD_some]
  have hlt : ∀ y, y ∈ V → y < O.getD i 0 := fun y hy => by
    obtain ⟨p, hp, rfl⟩ := List.getElem_of_mem (hP.mem_iff.1 hy)
    rw [List.length_take] at hp
    rw [List.getElem_take, List.getD_eq_getElem?_getD, List.getElem?_eq_getElem hi', Option.getD_some]
    exact (List.pairwise_iff_getElem.1 hs) p i (by omega) hi' (by omega)
  have hVr : ∀ p, p < V.length → 0 ≤ V.getD p 0 ∧ V.getD p 0 < l.length := fun p hp => by
    have h1 : V.getD p 0 ∈ O := by
      refine List.mem_of_mem_take (hP.mem_iff.1 ?_)
      rw [List.getD_eq_getElem?_getD, List.getElem?_eq_getElem hp, Option.getD_some]
      exact List.getElem_mem hp
    obtain ⟨q, hq, e⟩ := List.getElem_of_mem h1
    have := hO q hq
    rw [List.getD_eq_getElem?_getD, List.getElem?_eq_getElem hq, Option.getD_some, e] at this
    exact this
  obtain ⟨x, hx⟩ : ∃ x, O.getD i 0 = x := ⟨_, rfl⟩
  rw [hx] at gi hr ht hlt
  rcases h with ⟨h0, rfl⟩ | rfl
  · subst h0
    have e1 : SrtU l [x] := List.pairwise_singleton _ _
    have e2 : [x].Perm (O.take (0 + 1)) := by rw [ht]; exact List.Perm.refl _
    repeat' ((conv => whnf); first | rw [gi] | refine Rng.g ?_ | refine Ob.g ?_ | refine Ob.e ?_ | refine Ob.m ?_ | refine Ob.mk (Nat.le_of_ble_eq_true rfl) ?_ | refine JoinVC.on ?_ | refine Nils.mk (fun h => ?_) ?_ | refine Val.t ?_ | refine Val.d ?_ | refine Mm.mk ?_ | (refine Br.mk (fun h => ?_) (fun h => ?_) <;> first | (exfalso; omega; done) | (exfalso; simp at h; done) | skip))
    refine LoopVC.un 1 ?_
    repeat' ((conv => whnf); first | rw [gi] | refine Rng.g ?_ | refine Ob.g ?_ | refine Ob.e ?_ | refine Ob.m ?_ | refine Ob.mk (Nat.le_of_ble_eq_true rfl) ?_ | refine JoinVC.on ?_ | refine Nils.mk (fun h => ?_) ?_ | refine Val.t ?_ | refine Val.d ?_ | refine Mm.mk ?_ | (refine Br.mk (fun h => ?_) (fun h => ?_) <;> first | (exfalso; omega; done) | (exfalso; simp at h; done) | skip))
    refine Back.mk (O.length - (0 + 1)) _ (by omega) ⟨0 + 1, [x], by omega, rfl, e1, e2, .inr rfl⟩ ?_
    refine ⟨[some 4], rfl, rfl, ?_, ?_⟩ <;> repeat' (first | exact trivial | exact rfl | exact Iff.rfl | apply And.intro)
  · repeat' ((conv => whnf); first | rw [gi] | refine Rng.g ?_ | refine Ob.g ?_ | refine Ob.e ?_ | refine Ob.m ?_ | refine Ob.mk (Nat.le_of_ble_eq_true rfl) ?_ | refine JoinVC.on ?_ | refine Nils.mk (fun h => ?_) ?_ | refine Val.t ?_ | refine Val.d ?_ | refine Mm.mk ?_ | (refine Br.mk (fun h => ?_) (fun h => ?_) <;> first | (exfalso; omega; done) | (exfalso; simp at h; done) | skip))
    refine LoopVC.mk (fun n st => ∃ (j : Nat), j ≤ V.length ∧ n = j ∧ (∀ q, j ≤ q → q < V.length → lsF l (V.getD q 0) < lsF l x) ∧ st = ⟨0, envA 56 [(0, .x (lSng l)), (1, .x (.one (.lst true [.int .i64] (i64s O)))), (5, .x (.one (.own 0))), (6, .int .i64 (i : Int)), (7, .int .i64 (j : Int))], [some (rowOd V)]⟩) _ _ ⟨V.length, Nat.le_refl _, rfl, fun q h1 h2 => by omega, rfl⟩ ?_ ?_
    · refine ⟨[some 0], rfl, rfl, ?_, ?_⟩ <;> repeat' (first | exact trivial | exact rfl | exact Iff.rfl | apply And.intro)
      exact congrArg Int.ofNat lV
    rintro n _ ⟨j, hj, hn, ha, rfl⟩
    have fin : (0 < j → lsF l x ≤ lsF l (V.getD (j - 1) 0)) → SrtU l (V.take j ++ x :: V.drop j) ∧ (V.take j ++ x :: V.drop j).Perm (O.take (i + 1)) := fun hb => ⟨srt_ins hV hj hlt ha hb, by rw [ht]; exact perm_ins j hP⟩
    by_cases h0 : j = 0
    · subst h0
      obtain ⟨f1, f2⟩ := fin (fun h => absurd h (Nat.lt_irrefl 0))
      repeat' ((conv => whnf); first | rw [gi] | refine Rng.g ?_ | refine Ob.g ?_ | refine Ob.e ?_ | refine Ob.m ?_ | refine Ob.mk (Nat.le_of_ble_eq_true rfl) ?_ | refine JoinVC.on ?_ | refine Nils.mk (fun h => ?_) ?_ | refine Val.t ?_ | refine Val.d ?_ | refine Mm.mk ?_ | (refine Br.mk (fun h => ?_) (fun h => ?_) <;> first | (exfalso; omega; done) | (exfalso; simp at h; done) | skip))
      repeat refine Mm.mk ?_
      refine Ob.mk (by rw [eb3]; simp only [List.length_append, List.length_take, List.length_drop, List.length_cons, List.length_nil]; omega) ?_
      repeat' ((conv => whnf); first | rw [gi] | refine Rng.g ?_ | refine Ob.g ?_ | refine Ob.e ?_ | refine Ob.m ?_ | refine Ob.mk (Nat.le_of_ble_eq_true rfl) ?_ | refine JoinVC.on ?_ | refine Nils.mk (fun h => ?_) ?_ | refine Val.t ?_ | refine Val.d ?_ | refine Mm.mk ?_ | (refine Br.mk (fun h => ?_) (fun h => ?_) <;> first | (exfalso; omega; done) | (exfalso; simp at h; done) | skip))
      refine Back.mk (O.length - (i + 1)) _ (by omega) ⟨i + 1, _, by omega, rfl, f1, f2, .inr rfl⟩ ?_
      refine ⟨[some 5], rfl, rfl, ?_, ?_⟩ <;> repeat' (first | exact trivial | exact rfl | exact Iff.rfl | apply And.intro)
      exact ord_row V 0 x
    obtain ⟨k, rfl⟩ : ∃ k, j = k + 1 := ⟨j - 1, by omega⟩
    have gk : rI (i64s V) (((k + 1 : Nat) : Int) - 1).toNat 0 = V.getD k 0 := by rw [show (((k + 1 : Nat) : Int) - 1).toNat = k by omega]; exact i64s_get V k
    have hk := hVr k (by omega)
    obtain ⟨y, hy⟩ : ∃ y, V.getD k 0 = y := ⟨_, rfl⟩
    rw [hy] at gk hk
    have c1 : rI (sngA l) y.toNat (0 + (0 + 1 + 1)) = lsF l y := sngA_2 l _
    have c2 : rI (sngA l) x.toNat (0 + (0 + 1 + 1)) = lsF l x := sngA_2 l _
    by_cases hlt2 : lsF l y < lsF l x
    · repeat' ((conv => whnf); first | rw [gk] | rw [gi] | rw [c1] | rw [c2] | refine Rng.g ?_ | refine Ob.g ?_ | refine Ob.e ?_ | refine Ob.m ?_ | refine Ob.mk (Nat.le_of_ble_eq_true rfl) ?_ | refine JoinVC.on ?_ | refine Nils.mk (fun h => ?_) ?_ | refine Val.t ?_ | refine Val.d ?_ | refine Mm.mk ?_ | (refine Br.mk (fun h => ?_) (fun h => ?_) <;> first | (exfalso; omega; done) | (exfalso; simp at h; done) | skip))
      refine Back.mk k _ (by omega) ⟨k, by omega, rfl, fun q h1 h2 => ?_, rfl⟩ ?_
      · rcases Nat.lt_or_eq_of_le h1 with h' | rfl
        · exact ha q h' h2
        · rw [hy]; exact hlt2
      · refine ⟨[some 0], rfl, rfl, ?_, ?_⟩ <;> repeat' (first | exact trivial | exact rfl | exact Iff.rfl | apply And.intro)
        omega
    · obtain ⟨f1, f2⟩ := fin (fun _ => by rw [Nat.add_sub_cancel, hy]; omega)
      repeat' ((conv => whnf); first | rw [gk] | rw [gi] | rw [c1] | rw [c2] | refine Rng.g ?_ | refine Ob.g ?_ | refine Ob.e ?_ | refine Ob.m ?_ | refine Ob.mk (Nat.le_of_ble_eq_true rfl) ?_ | refine JoinVC.on ?_ | refine Nils.mk (fun h => ?_) ?_ | refine Val.t ?_ | refine Val.d ?_ | refine Mm.mk ?_ | (refine Br.mk (fun h => ?_) (fun h => ?_) <;> first | (exfalso; omega; done) | (exfalso; simp at h; done) | skip))
      repeat refine Mm.mk ?_
      refine Ob.mk (by rw [eb3]; simp only [List.length_take, List.length_drop, List.length_nil]; omega) ?_
      repeat' ((conv => whnf); first | rw [gi] | refine Rng.g ?_ | refine Ob.g ?_ | refine Ob.e ?_ | refine Ob.m ?_ | refine Ob.mk (Nat.le_of_ble_eq_true rfl) ?_ | refine JoinVC.on ?_ | refine Nils.mk (fun h => ?_) ?_ | refine Val.t ?_ | refine Val.d ?_ | refine Mm.mk ?_ | (refine Br.mk (fun h => ?_) (fun h => ?_) <;> first | (exfalso; omega; done) | (exfalso; simp at h; done) | skip))
      repeat refine Mm.mk ?_
      refine Ob.mk (by rw [eb3]; simp only [List.length_append, List.length_take, List.length_drop, List.length_cons, List.length_nil]; omega) ?_
      repeat' ((conv => whnf); first | rw [gi] | refine Rng.g ?_ | refine Ob.g ?_ | refine Ob.e ?_ | refine Ob.m ?_ | refine Ob.mk (Nat.le_of_ble_eq_true rfl) ?_ | refine JoinVC.on ?_ | refine Nils.mk (fun h => ?_) ?_ | refine Val.t ?_ | refine Val.d ?_ | refine Mm.mk ?_ | (refine Br.mk (fun h => ?_) (fun h => ?_) <;> first | (exfalso; omega; done) | (exfalso; simp at h; done) | skip))
      repeat refine Mm.mk ?_
      refine Ob.mk (by rw [eb3]; simp only [List.length_append, List.length_take, List.length_drop, List.length_cons, List.length_nil]; omega) ?_
      repeat' ((conv => whnf); first | rw [gi] | refine Rng.g ?_ | refine Ob.g ?_ | refine Ob.e ?_ | refine Ob.m ?_ | refine Ob.mk (Nat.le_of_ble_eq_true rfl) ?_ | refine JoinVC.on ?_ | refine Nils.mk (fun h => ?_) ?_ | refine Val.t ?_ | refine Val.d ?_ | refine Mm.mk ?_ | (refine Br.mk (fun h => ?_) (fun h => ?_) <;> first | (exfalso; omega; done) | (exfalso; simp at h; done) | skip))
      refine Back.mk (O.length - (i + 1)) _ (by omega) ⟨i + 1, _, by omega, rfl, f1, f2, .inr rfl⟩ ?_
      refine ⟨[some 5], rfl, rfl, ?_, ?_⟩ <;> repeat' (first | exact trivial | exact rfl | exact Iff.rfl | apply And.intro)
      exact ord_row V (k + 1 : Nat) x
end Go.Sx

namespace Go.Sx
open Go Go.Proofs
set_option maxRecDepth 10000
set_option maxHeartbeats 16000000
@[reducible] def bFm (f : Fmt) : Blk := .box 23 [.str f.nm, .int .i64 f.outer, .int .i64 f.inner, .int .i64 f.per, .int .i64 f.lead, .int .i64 f.gap, .int .i64 f.tail, .int .i64 f.cost]
/-- The first so many sides are numbered as they are first used. -/
structure NumN (P : List Int) (i used sides : Nat) : Prop where
  rng : ∀ j, j < i → 0 ≤ P.getD j 0 ∧ P.getD j 0 < used ∧ P.getD j 0 < sides
  nxt : ∀ j, j < i → ∀ v : Nat, (v : Int) < P.getD j 0 → ∃ p, p < j ∧ P.getD p 0 = v
  all : ∀ v : Nat, v < used → ∃ j, j < i ∧ P.getD j 0 = v
theorem NumN.no {f : Fmt} {l : List Sng} {P : List Int} {i used sides : Nat} (h : NumN P i used sides) (hi : i < P.length) (hb : (P.getD i 0 < 0 ∨ (used : Int) < P.getD i 0) ∨ (sides : Int) ≤ P.getD i 0) : ¬ Packd f l P sides := fun hp => by
  have h1 := hp.num i hi
  rcases hb with (hb | hb) | hb
  · omega
  · obtain ⟨j, h2, h3⟩ := hp.nxt i hi used hb
    have := (h.rng j h2).2.1
    omega
  · omega
theorem NumN.same {P : List Int} {i used sides : Nat} (h : NumN P i used sides) (h0 : 0 ≤ P.getD i 0) (h1 : P.getD i 0 < used) (h2 : P.getD i 0 < sides) : NumN P (i + 1) used sides where
  rng := fun j hj => by
    rcases Nat.lt_succ_iff_lt_or_eq.1 hj with h' | rfl
    · exact h.rng j h'
    · exact ⟨h0, h1, h2⟩
  nxt := fun j hj v hv => by
    rcases Nat.lt_succ_iff_lt_or_eq.1 hj with h' | rfl
    · exact h.nxt j h' v hv
    · exact h.all v (by omega)
  all := fun v hv => by
    obtain ⟨j, h3, h4⟩ := h.all v hv
    exact ⟨j, by omega, h4⟩
theorem NumN.new {P : List Int} {i used sides : Nat} (h : NumN P i used sides) (h1 : P.getD i 0 = used) (h2 : P.getD i 0 < sides) : NumN P (i + 1) (used + 1) sides where
  rng := fun j hj => by
    rcases Nat.lt_succ_iff_lt_or_eq.1 hj with h' | rfl
    · have := h.rng j h'
      omega
    · omega
  nxt := fun j hj v hv => by
    rcases Nat.lt_succ_iff_lt_or_eq.1 hj with h' | rfl
    · exact h.nxt j h' v hv
    · exact h.all v (by omega)
  all := fun v hv => by
    by_cases e : v = used
    · exact ⟨i, Nat.lt_succ_self i, by rw [e]; exact h1⟩
    · obtain ⟨j, h3, h4⟩ := h.all v (by omega)
      exact ⟨j, by omega, h4⟩
theorem onL_sorted (P : List Int) (k : Int) : (onL P k).Pairwise (· < ·) := by
  unfold onL
  rw [List.pairwise_map]
  refine List.Pairwise.imp (R := fun a b => a < b) (fun h => Int.ofNat_lt.2 h) ?_
  exact (List.pairwise_lt_range).filter _
theorem inR_mem {O : List Int} {m : Nat} (h : ∀ x, x ∈ O → 0 ≤ x ∧ x < m) : InR O m := fun i hi => by
  rw [List.getD_eq_getElem?_getD, List.getElem?_eq_getElem hi, Option.getD_some]
  exact h _ (List.getElem_mem hi)
theorem onL_in {P : List Int} {k : Int} {m : Nat} (h : P.length ≤ m) : ∀ x, x ∈ onL P k → 0 ≤ x ∧ x < m := fun x hx => by
  obtain ⟨j, h1, _, rfl⟩ := mem_onL.1 hx
  omega
open Classical in
theorem s27 (f : Fmt) (l : List Sng) (hf : FmtOK f) (hg : SngsOK l) (P : List Int) (sides : Nat) (hP : P.length ≤ 100) : PSpec Try.prog 27 [f.x, lSng l, .one (.lst true [.int .i64] (i64s P)), I (sides : Int)] (xP (Packd f l P sides)) := by
  have ll := sngA_len l
  have lo := i64s_len P
  refine spec_of pMix (O := [(14, ([], [⟨0, [], []⟩, ⟨1, [], []⟩, ⟨2, [], []⟩, ⟨3, [], []⟩, ⟨4, [], []⟩, ⟨5, [0, 1, 2], []⟩, ⟨6, [0, 1], []⟩, ⟨7, [], []⟩, ⟨8, [], []⟩]))]) Try.func27 (c := bodyOf Try.f27) rfl (by kernel_rfl) (by kernel_rfl) Try.ntmps27 (res := [.tmp 8]) (by kernel_rfl) ?_
  repeat' ((conv => whnf); first | refine Rng.g ?_ | refine Ob.g ?_ | refine Ob.e ?_ | refine Ob.m ?_ | refine Ob.mk (Nat.le_of_ble_eq_true rfl) ?_ | refine JoinVC.on ?_ | refine Nils.mk (fun h => ?_) ?_ | refine Val.t ?_ | refine Val.d ?_ | refine Mm.mk ?_ | (refine Br.mk (fun h => ?_) (fun h => ?_) <;> first | (exfalso; omega; done) | (exfalso; simp at h; done) | skip))
  refine LoopVC.mk (fun n st => ∃ (i used : Nat), i ≤ P.length ∧ used ≤ i ∧ n = P.length - i ∧ NumN P i used sides ∧ st = ⟨0, envA 71 [(1, .x (lSng l)), (2, .x (.one (.lst true [.int .i64] (i64s P)))), (3, .x (I (sides : Int))), (4, .x (.one (.ptr 0 0))), (9, .int .i64 (used : Int)), (10, .int .i64 (i : Int))], [some (bFm f)]⟩) _ _ ⟨0, 0, Nat.zero_le _, Nat.le_refl _, rfl, ⟨fun j hj => absurd hj (Nat.not_lt_zero j), fun j hj => absurd hj (Nat.not_lt_zero j), fun j hj => absurd hj (Nat.not_lt_zero j)⟩, rfl⟩ ?_ ?_
  · refine ⟨[some 0], rfl, rfl, ?_, ?_⟩ <;> repeat' (first | exact trivial | exact rfl | exact Iff.rfl | apply And.intro)
  rintro n _ ⟨i, used, hi, hui, hn, hN, rfl⟩
  have gi : rI (i64s P) (i : Int).toNat 0 = P.getD i 0 := by rw [Int.toNat_natCast]; exact i64s_get P i
  by_cases hi' : i < P.length
  · by_cases hb : (P.getD i 0 < 0 ∨ (used : Int) < P.getD i 0) ∨ (sides : Int) ≤ P.getD i 0
    · have hno := hN.no (f := f) (l := l) hi' hb
      rcases hb with (hb | hb) | hb
      · repeat' ((conv => whnf); first | rw [gi] | refine Rng.g ?_ | refine Ob.g ?_ | refine Ob.e ?_ | refine Ob.m ?_ | refine Ob.mk (Nat.le_of_ble_eq_true rfl) ?_ | refine JoinVC.on ?_ | refine Nils.mk (fun h => ?_) ?_ | refine Val.t ?_ | refine Val.d ?_ | refine Mm.mk ?_ | (refine Br.mk (fun h => ?_) (fun h => ?_) <;> first | (exfalso; omega; done) | (exfalso; simp at h; done) | skip))
        repeat refine Mm.mk ?_
        refine EndVC.mk _ rfl _ _ ⟨rfl, rfl⟩ ?_
        refine ⟨[], rfl, rfl, ?_, ?_⟩ <;> repeat' (first | exact trivial | exact rfl | exact Iff.rfl | apply And.intro)
        exact hno
      · by_cases hb0 : P.getD i 0 < 0
        · omega
        · repeat' ((conv => whnf); first | rw [gi] | refine Rng.g ?_ | refine Ob.g ?_ | refine Ob.e ?_ | refine Ob.m ?_ | refine Ob.mk (Nat.le_of_ble_eq_true rfl) ?_ | refine JoinVC.on ?_ | refine Nils.mk (fun h => ?_) ?_ | refine Val.t ?_ | refine Val.d ?_ | refine Mm.mk ?_ | (refine Br.mk (fun h => ?_) (fun h => ?_) <;> first | (exfalso; omega; done) | (exfalso; simp at h; done) | skip))
          repeat refine Mm.mk ?_
          refine EndVC.mk _ rfl _ _ ⟨rfl, rfl⟩ ?_
          refine ⟨[], rfl, rfl, ?_, ?_⟩ <;> repeat' (first | exact trivial | exact rfl | exact Iff.rfl | apply And.intro)
          exact hno
      · by_cases hb0 : P.getD i 0 < 0
        · omega
        · by_cases hb1 : (used : Int) < P.getD i 0
          · repeat' ((conv => whnf); first | rw [gi] | refine Rng.g ?_ | refine Ob.g ?_ | refine Ob.e ?_ | refine Ob.m ?_ | refine Ob.mk (Nat.le_of_ble_eq_true rfl) ?_ | refine JoinVC.on ?_ | refine Nils.mk (fun h => ?_) ?_ | refine Val.t ?_ | refine Val.d ?_ | refine Mm.mk ?_ | (refine Br.mk (fun h => ?_) (fun h => ?_) <;> first | (exfalso; omega; done) | (exfalso; simp at h; done) | skip))
            repeat refine Mm.mk ?_
            refine EndVC.mk _ rfl _ _ ⟨rfl, rfl⟩ ?_
            refine ⟨[], rfl, rfl, ?_, ?_⟩ <;> repeat' (first | exact trivial | exact rfl | exact Iff.rfl | apply And.intro)
            exact hno
          · repeat' ((conv => whnf); first | rw [gi] | refine Rng.g ?_ | refine Ob.g ?_ | refine Ob.e ?_ | refine Ob.m ?_ | refine Ob.mk (Nat.le_of_ble_eq_true rfl) ?_ | refine JoinVC.on ?_ | refine Nils.mk (fun h => ?_) ?_ | refine Val.t ?_ | refine Val.d ?_ | refine Mm.mk ?_ | (refine Br.mk (fun h => ?_) (fun h => ?_) <;> first | (exfalso; omega; done) | (exfalso; simp at h; done) | skip))
            repeat refine Mm.mk ?_
            refine EndVC.mk _ rfl _ _ ⟨rfl, rfl⟩ ?_
            refine ⟨[], rfl, rfl, ?_, ?_⟩ <;> repeat' (first | exact trivial | exact rfl | exact Iff.rfl | apply And.intro)
            exact hno
    · have b1 : ¬ P.getD i 0 < 0 := fun h => hb (.inl (.inl h))
      have b2 : ¬ (used : Int) < P.getD i 0 := fun h => hb (.inl (.inr h))
      have b3 : ¬ (sides : Int) ≤ P.getD i 0 := fun h => hb (.inr h)
      clear hb
      by_cases hu : P.getD i 0 = used
      · repeat' ((conv => whnf); first | rw [gi] | refine Rng.g ?_ | refine Ob.g ?_ | refine Ob.e ?_ | refine Ob.m ?_ | refine Ob.mk (Nat.le_of_ble_eq_true rfl) ?_ | refine JoinVC.on ?_ | refine Nils.mk (fun h => ?_) ?_ | refine Val.t ?_ | refine Val.d ?_ | refine Mm.mk ?_ | (refine Br.mk (fun h => ?_) (fun h => ?_) <;> first | (exfalso; omega; done) | (exfalso; simp at h; done) | skip))
        refine Back.mk (P.length - (i + 1)) _ (by omega) ⟨i + 1, used + 1, by omega, by omega, rfl, hN.new hu (by omega), rfl⟩ ?_
        refine ⟨[some 0], rfl, rfl, ?_, ?_⟩ <;> repeat' (first | exact trivial | exact rfl | exact Iff.rfl | apply And.intro)
      · repeat' ((conv => whnf); first | rw [gi] | refine Rng.g ?_ | refine Ob.g ?_ | refine Ob.e ?_ | refine Ob.m ?_ | refine Ob.mk (Nat.le_of_ble_eq_true rfl) ?_ | refine JoinVC.on ?_ | refine Nils.mk (fun h => ?_) ?_ | refine Val.t ?_ | refine Val.d ?_ | refine Mm.mk ?_ | (refine Br.mk (fun h => ?_) (fun h => ?_) <;> first | (exfalso; omega; done) | (exfalso; simp at h; done) | skip))
        refine Back.mk (P.length - (i + 1)) _ (by omega) ⟨i + 1, used, by omega, by omega, rfl, hN.same (by omega) (by omega) (by omega), rfl⟩ ?_
        refine ⟨[some 0], rfl, rfl, ?_, ?_⟩ <;> repeat' (first | exact trivial | exact rfl | exact Iff.rfl | apply And.intro)
  have ei : i = P.length := by omega
  subst ei
  by_cases hlen : P.length = l.length
  rotate_left
  · have hno : ¬ Packd f l P sides := fun h => hlen h.len
    repeat' ((conv => whnf); first | refine Rng.g ?_ | refine Ob.g ?_ | refine Ob.e ?_ | refine Ob.m ?_ | refine Ob.mk (Nat.le_of_ble_eq_true rfl) ?_ | refine JoinVC.on ?_ | refine Nils.mk (fun h => ?_) ?_ | refine Val.t ?_ | refine Val.d ?_ | refine Mm.mk ?_ | (refine Br.mk (fun h => ?_) (fun h => ?_) <;> first | (exfalso; omega; done) | (exfalso; simp at h; done) | skip))
    repeat refine Mm.mk ?_
    refine EndVC.mk _ rfl _ _ ⟨rfl, rfl⟩ ?_
    refine ⟨[], rfl, rfl, ?_, ?_⟩ <;> repeat' (first | exact trivial | exact rfl | exact Iff.rfl | apply And.intro)
    exact hno
  by_cases hus : used = sides
  rotate_left
  · have hno : ¬ Packd f l P sides := fun h => by
      by_cases h1 : used < sides
      · obtain ⟨j, h2, h3⟩ := h.all used h1
        have := (hN.rng j h2).2.1
        omega
      · obtain ⟨j, h2, h3⟩ := hN.all sides (by omega)
        have := (hN.rng j h2).2.2
        omega
    repeat' ((conv => whnf); first | refine Rng.g ?_ | refine Ob.g ?_ | refine Ob.e ?_ | refine Ob.m ?_ | refine Ob.mk (Nat.le_of_ble_eq_true rfl) ?_ | refine JoinVC.on ?_ | refine Nils.mk (fun h => ?_) ?_ | refine Val.t ?_ | refine Val.d ?_ | refine Mm.mk ?_ | (refine Br.mk (fun h => ?_) (fun h => ?_) <;> first | (exfalso; omega; done) | (exfalso; simp at h; done) | skip))
    repeat refine Mm.mk ?_
    refine EndVC.mk _ rfl _ _ ⟨rfl, rfl⟩ ?_
    refine ⟨[], rfl, rfl, ?_, ?_⟩ <;> repeat' (first | exact trivial | exact rfl | exact Iff.rfl | apply And.intro)
    exact hno
  subst hus
  repeat' ((conv => whnf); first | refine Rng.g ?_ | refine Ob.g ?_ | refine Ob.e ?_ | refine Ob.m ?_ | refine Ob.mk (Nat.le_of_ble_eq_true rfl) ?_ | refine JoinVC.on ?_ | refine Nils.mk (fun h => ?_) ?_ | refine Val.t ?_ | refine Val.d ?_ | refine Mm.mk ?_ | (refine Br.mk (fun h => ?_) (fun h => ?_) <;> first | (exfalso; omega; done) | (exfalso; simp at h; done) | skip))
  refine LoopVC.mk (fun n st => ∃ (k : Nat), k ≤ used ∧ n = used - k ∧ (∀ j : Nat, j < k → sideOK f l P j) ∧ st = ⟨0, envA 71 [(1, .x (lSng l)), (2, .x (.one (.lst true [.int .i64] (i64s P)))), (3, .x (I (used : Int))), (4, .x (.one (.ptr 0 0))), (11, .int .i64 (k : Int))], [some (bFm f)]⟩) _ _ ⟨0, Nat.zero_le _, rfl, fun j hj => absurd hj (Nat.not_lt_zero j), rfl⟩ ?_ ?_
  · refine ⟨[some 0], rfl, rfl, ?_, ?_⟩ <;> repeat' (first | exact trivial | exact rfl | exact Iff.rfl | apply And.intro)
  clear hn n
  rintro n _ ⟨k, hk, hn, hno, rfl⟩
  by_cases hk' : k < used
  rotate_left
  · have hy : Packd f l P used := ⟨fun j hj => ⟨(hN.rng j hj).1, (hN.rng j hj).2.1⟩, hN.nxt, hN.all, hlen, fun j hj => hno j (by omega)⟩
    repeat' ((conv => whnf); first | refine Rng.g ?_ | refine Ob.g ?_ | refine Ob.e ?_ | refine Ob.m ?_ | refine Ob.mk (Nat.le_of_ble_eq_true rfl) ?_ | refine JoinVC.on ?_ | refine Nils.mk (fun h => ?_) ?_ | refine Val.t ?_ | refine Val.d ?_ | refine Mm.mk ?_ | (refine Br.mk (fun h => ?_) (fun h => ?_) <;> first | (exfalso; omega; done) | (exfalso; simp at h; done) | skip))
    repeat refine Mm.mk ?_
    refine EndVC.mk _ rfl _ _ ⟨rfl, rfl⟩ ?_
    refine ⟨[], rfl, rfl, ?_, ?_⟩ <;> repeat' (first | exact trivial | exact rfl | exact Iff.rfl | apply And.intro)
    exact hy
  have hne : onL P k ≠ [] := fun h => by
    obtain ⟨j, h1, h2⟩ := hN.all k hk'
    have := mem_onL.2 ⟨j, h1, h2, rfl⟩
    rw [h] at this
    cases this
  have lL := onL_len P k
  have lL0 : 0 < (onL P k).length := List.length_pos_iff.2 hne
  have hin := onL_in (P := P) (k := k) (m := l.length) (by omega)
  have c61 := s61 P k hP hne
  have c60 := s60 l (onL P k) (inR_mem hin) (onL_sorted P k) (by omega) lL0
  have c59 := s59 f l (usu l (onL P k)) hf hg (inR_mem fun x hx => hin x (usu_mem.1 hx)) (by rw [usu_len]; omega)
  repeat' ((conv => whnf); first | refine Rng.g ?_ | refine Ob.g ?_ | refine Ob.e ?_ | refine Ob.m ?_ | refine Ob.mk (Nat.le_of_ble_eq_true rfl) ?_ | refine JoinVC.on ?_ | refine Nils.mk (fun h => ?_) ?_ | refine Val.t ?_ | refine Val.d ?_ | refine Mm.mk ?_ | (refine Br.mk (fun h => ?_) (fun h => ?_) <;> first | (exfalso; omega; done) | (exfalso; simp at h; done) | skip))
  conv => whnf
  refine CallVC0.mk _ _ rfl (c61) (fun r m' h' => ?_)
  obtain ⟨rfl, rfl⟩ := h'
  conv => whnf
  repeat' ((conv => whnf); first | refine Rng.g ?_ | refine Ob.g ?_ | refine Ob.e ?_ | refine Ob.m ?_ | refine Ob.mk (Nat.le_of_ble_eq_true rfl) ?_ | refine JoinVC.on ?_ | refine Nils.mk (fun h => ?_) ?_ | refine Val.t ?_ | refine Val.d ?_ | refine Mm.mk ?_ | (refine Br.mk (fun h => ?_) (fun h => ?_) <;> first | (exfalso; omega; done) | (exfalso; simp at h; done) | skip))
  conv => whnf
  refine CallVC0.mk _ _ rfl (c60) (fun r m' h' => ?_)
  obtain ⟨rfl, rfl⟩ := h'
  conv => whnf
  repeat' ((conv => whnf); first | refine Rng.g ?_ | refine Ob.g ?_ | refine Ob.e ?_ | refine Ob.m ?_ | refine Ob.mk (Nat.le_of_ble_eq_true rfl) ?_ | refine JoinVC.on ?_ | refine Nils.mk (fun h => ?_) ?_ | refine Val.t ?_ | refine Val.d ?_ | refine Mm.mk ?_ | refine CallVC.pure rfl (c59) ?_ | refine CallVC0.pure rfl (c59) ?_ | (refine Br.mk (fun h => ?_) (fun h => ?_) <;> first | (exfalso; omega; done) | (exfalso; simp at h; done) | skip))
  · have hno2 : ¬ Packd f l P used := fun h => absurd (h.ok k hk') ‹_›
    repeat refine Mm.mk ?_
    refine EndVC.mk _ rfl _ _ ⟨rfl, rfl⟩ ?_
    refine ⟨[], rfl, rfl, ?_, ?_⟩ <;> repeat' (first | exact trivial | exact rfl | exact Iff.rfl | apply And.intro)
    exact hno2
  · refine Back.mk (used - (k + 1)) _ (by omega) ⟨k + 1, by omega, rfl, fun j hj => ?_, rfl⟩ ?_
    · rcases Nat.lt_succ_iff_lt_or_eq.1 hj with h' | rfl
      · exact hno j h'
      · exact Classical.not_not.1 ‹_›
    · refine ⟨[some 0], rfl, rfl, ?_, ?_⟩ <;> repeat' (first | exact trivial | exact rfl | exact Iff.rfl | apply And.intro)
end Go.Sx

namespace Go.Sx
open Go Go.Proofs
set_option maxRecDepth 10000
set_option maxHeartbeats 16000000
/-! ### The document's search for a packing -/
end Go.Sx

namespace Go.Sx
open Go Go.Proofs
set_option maxRecDepth 10000
set_option maxHeartbeats 16000000
/-! ### The least number of sides by width -/
noncomputable def widS (f : Fmt) (l : List Sng) : Nat → Int
  | 0 => 0
  | n + 1 => widS f l n + (widF f (l.getD n g0) + f.gap)
theorem widS_bd {f : Fmt} {l : List Sng} (hf : FmtOK f) (hg : SngsOK l) : ∀ n, n ≤ l.length → 0 ≤ widS f l n ∧ widS f l n ≤ (n : Int) * 68723671040
  | 0, _ => by simp [widS]
  | n + 1, h => by
    have ih := widS_bd hf hg n (by omega)
    have hw := (wid_bd hf.per.1 (hg.each n (by omega))).2
    have h5 := hf.gap
    unfold widS
    omega
def roomF (f : Fmt) : Int := f.outer - f.inner - f.lead - f.tail
open Classical in
noncomputable def fewC (f : Fmt) (l : List Sng) : Int := if fewE f l ≠ 0 then fewE f l else if roomF f < 1 then 14 else 0
open Classical in
noncomputable def fewN (f : Fmt) (l : List Sng) : Int := if fewE f l ≠ 0 then 0 else if roomF f < 1 then 0 else (widS f l l.length + (roomF f + f.gap) - 1) / (roomF f + f.gap)
theorem fewC_bad {f : Fmt} {l : List Sng} (h : fewE f l ≠ 0) : fewC f l = fewE f l ∧ fewN f l = 0 := ⟨if_pos h, if_pos h⟩
theorem fewC_lim {f : Fmt} {l : List Sng} (h : fewE f l = 0) (h2 : roomF f < 1) : fewC f l = 14 ∧ fewN f l = 0 := by
  exact ⟨(if_neg (fun h3 => h3 h)).trans (if_pos h2), (if_neg (fun h3 => h3 h)).trans (if_pos h2)⟩
theorem fewC_ok {f : Fmt} {l : List Sng} (h : fewE f l = 0) (h2 : ¬ roomF f < 1) : fewC f l = 0 ∧ fewN f l = (widS f l l.length + (roomF f + f.gap) - 1) / (roomF f + f.gap) := by
  exact ⟨(if_neg (fun h3 => h3 h)).trans (if_neg h2), (if_neg (fun h3 => h3 h)).trans (if_neg h2)⟩
theorem s24 (f : Fmt) (l : List Sng) (hI : f.nm.size ≤ 140737488355328) : PSpec Try.prog 24 [f.x, lSng l] (.tup [I (fewN f l), I (fewC f l)]) := by
  have ll := sngA_len l
  refine spec_of pMix (O := [(11, ([], [⟨0, [], []⟩, ⟨1, [], []⟩, ⟨2, [], []⟩, ⟨4, [], []⟩, ⟨5, [], []⟩, ⟨3, [0, 4, 5], []⟩, ⟨6, [], []⟩, ⟨7, [], []⟩, ⟨8, [], []⟩]))]) Try.func24 (c := bodyOf Try.f24) rfl (by kernel_rfl) (by kernel_rfl) Try.ntmps24 (res := [.tmp 4, .tmp 5]) (by kernel_rfl) ?_
  repeat' ((conv => whnf); first | refine Rng.g ?_ | refine Ob.g ?_ | refine Ob.e ?_ | refine Ob.m ?_ | refine Ob.mk (Nat.le_of_ble_eq_true rfl) ?_ | refine JoinVC.on ?_ | refine Nils.mk (fun h => ?_) ?_ | refine Val.t ?_ | refine Val.d ?_ | refine Mm.mk ?_ | (refine Br.mk (fun h => ?_) (fun h => ?_) <;> first | (exfalso; omega; done) | (exfalso; simp at h; done) | skip))
  conv => whnf
  refine CallVC.mk [] _ _ _ rfl rfl rfl (s55 f l hI) (fun r m' h' => ?_)
  rcases h' with ⟨he, rfl, rfl⟩ | ⟨he, rfl, rfl⟩ | ⟨hf, hg, h8, rfl, rfl⟩
  · obtain ⟨e1, e2⟩ := fewC_bad he
    rw [e1, e2]
    repeat' ((conv => whnf); first | refine Rng.g ?_ | refine Ob.g ?_ | refine Ob.e ?_ | refine Ob.m ?_ | refine Ob.mk (Nat.le_of_ble_eq_true rfl) ?_ | refine JoinVC.on ?_ | refine Nils.mk (fun h => ?_) ?_ | refine Val.t ?_ | refine Val.d ?_ | refine Mm.mk ?_ | (refine Br.mk (fun h => ?_) (fun h => ?_) <;> first | (exfalso; omega; done) | (exfalso; simp at h; done) | skip))
    repeat refine Mm.mk ?_
    refine EndVC.mk _ rfl _ _ ⟨rfl, rfl⟩ ?_
    refine ⟨[], rfl, rfl, ?_, ?_⟩ <;> repeat' (first | exact trivial | exact rfl | exact Iff.rfl | apply And.intro)
  · obtain ⟨e1, e2⟩ := fewC_bad he
    rw [e1, e2]
    repeat' ((conv => whnf); first | refine Rng.g ?_ | refine Ob.g ?_ | refine Ob.e ?_ | refine Ob.m ?_ | refine Ob.mk (Nat.le_of_ble_eq_true rfl) ?_ | refine JoinVC.on ?_ | refine Nils.mk (fun h => ?_) ?_ | refine Val.t ?_ | refine Val.d ?_ | refine Mm.mk ?_ | (refine Br.mk (fun h => ?_) (fun h => ?_) <;> first | (exfalso; omega; done) | (exfalso; simp at h; done) | skip))
    repeat refine Mm.mk ?_
    refine EndVC.mk _ rfl _ _ ⟨rfl, rfl⟩ ?_
    refine ⟨[], rfl, rfl, ?_, ?_⟩ <;> repeat' (first | exact trivial | exact rfl | exact Iff.rfl | apply And.intro)
  have h0 := fewE_ok hf hg h8
  have hf1 := hf.outer
  have hf2 := hf.lead
  have hf3 := hf.gap
  have hf4 := hf.tail
  have hf5 := hf.inner
  have er : f.outer - f.inner - f.lead - f.tail = roomF f := rfl
  by_cases hr : roomF f < 1
  · obtain ⟨e1, e2⟩ := fewC_lim h0 hr
    rw [e1, e2]
    repeat' ((conv => whnf); first | rw [er] | refine Rng.g ?_ | refine Ob.g ?_ | refine Ob.e ?_ | refine Ob.m ?_ | refine Ob.mk (Nat.le_of_ble_eq_true rfl) ?_ | refine JoinVC.on ?_ | refine Nils.mk (fun h => ?_) ?_ | refine Val.t ?_ | refine Val.d ?_ | refine Mm.mk ?_ | (refine Br.mk (fun h => ?_) (fun h => ?_) <;> first | (exfalso; omega; done) | (exfalso; simp at h; done) | skip))
    repeat refine Mm.mk ?_
    refine EndVC.mk _ rfl _ _ ⟨rfl, rfl⟩ ?_
    refine ⟨[], rfl, rfl, ?_, ?_⟩ <;> repeat' (first | exact trivial | exact rfl | exact Iff.rfl | apply And.intro)
  obtain ⟨e1, e2⟩ := fewC_ok h0 hr
  rw [e1, e2]
  repeat' ((conv => whnf); first | rw [er] | refine Rng.g ?_ | refine Ob.g ?_ | refine Ob.e ?_ | refine Ob.m ?_ | refine Ob.mk (Nat.le_of_ble_eq_true rfl) ?_ | refine JoinVC.on ?_ | refine Nils.mk (fun h => ?_) ?_ | refine Val.t ?_ | refine Val.d ?_ | refine Mm.mk ?_ | (refine Br.mk (fun h => ?_) (fun h => ?_) <;> first | (exfalso; omega; done) | (exfalso; simp at h; done) | skip))
  refine LoopVC.mk (fun n st => ∃ (i : Nat), i ≤ l.length ∧ n = l.length - i ∧ st = ⟨0, envA 60 [(1, .x (lSng l)), (2, .x (.one (.ptr 0 0))), (6, .x (.one (.ptr 1 0))), (8, .int .i64 (roomF f)), (9, .int .i64 (widS f l i)), (35, .x (lSng l)), (36, .int .i64 (l.length : Int)), (37, .int .i64 (i : Int))], [some (bFm f), some (bPl f l)]⟩) _ _ ⟨0, Nat.zero_le _, rfl, rfl⟩ ?_ ?_
  · refine ⟨[some 0, some 1], rfl, rfl, ?_, ?_⟩ <;> repeat' (first | exact trivial | exact rfl | exact Iff.rfl | apply And.intro)
    exact congrArg Int.ofNat ll
  rintro n _ ⟨i, hi, hn, rfl⟩
  have hb := widS_bd hf hg i hi
  have hr2 : roomF f ≤ 4194304 := by unfold roomF; omega
  by_cases hi' : i < l.length
  · have c0 : rI (sngA l) (i : Int).toNat 0 = (l.getD i g0).long := by rw [Int.toNat_natCast]; exact sngA_0 l _
    have c1 : rI (sngA l) (i : Int).toNat (0 + 1) = (l.getD i g0).pitch := by rw [Int.toNat_natCast]; exact sngA_1 l _
    have c2 : rI (sngA l) (i : Int).toNat (0 + 1 + 1) = (l.getD i g0).least := by rw [Int.toNat_natCast]; exact sngA_2 l _
    have hgk := hg.each i hi'
    have hw := (wid_bd hf.per.1 hgk).2
    have hb2 := widS_bd hf hg (i + 1) hi'
    repeat' ((conv => whnf); first | rw [c0] | rw [c1] | rw [c2] | refine Rng.g ?_ | refine Ob.g ?_ | refine Ob.e ?_ | refine Ob.m ?_ | refine Ob.mk (Nat.le_of_ble_eq_true rfl) ?_ | refine JoinVC.on ?_ | refine Nils.mk (fun h => ?_) ?_ | refine Val.t ?_ | refine Val.d ?_ | refine Mm.mk ?_ | (refine Br.mk (fun h => ?_) (fun h => ?_) <;> first | (exfalso; omega; done) | (exfalso; simp at h; done) | skip))
    conv => whnf
    refine CallVC0.same [1] _ _ _ rfl rfl rfl rfl (s43 f (some l) (l.getD i g0) hf hgk) (fun r m' h' => (by obtain ⟨rfl, rfl⟩ := h'; rfl)) (fun r m' h' => ?_)
    obtain ⟨rfl, rfl⟩ := h'
    conv => whnf
    repeat' ((conv => whnf); first | refine Rng.g ?_ | refine Ob.g ?_ | refine Ob.e ?_ | refine Ob.m ?_ | refine Ob.mk (Nat.le_of_ble_eq_true rfl) ?_ | refine JoinVC.on ?_ | refine Nils.mk (fun h => ?_) ?_ | refine Val.t ?_ | refine Val.d ?_ | refine Mm.mk ?_ | (refine Br.mk (fun h => ?_) (fun h => ?_) <;> first | (exfalso; omega; done) | (exfalso; simp at h; done) | skip))
    refine Back.mk (l.length - (i + 1)) _ (by omega) ⟨i + 1, by omega, rfl, rfl⟩ ?_
    refine ⟨[some 0, some 1], rfl, rfl, ?_, ?_⟩ <;> repeat' (first | exact trivial | exact rfl | exact Iff.rfl | apply And.intro)
  have ei : i = l.length := by omega
  subst ei
  obtain ⟨Q, hQ⟩ : ∃ Q, (widS f l l.length + (roomF f + f.gap) - 1) / (roomF f + f.gap) = Q := ⟨_, rfl⟩
  have hQ1 : 0 ≤ Q := by rw [← hQ]; exact Int.ediv_nonneg (by omega) (by omega)
  have hQ2 : Q ≤ widS f l l.length + (roomF f + f.gap) - 1 := by rw [← hQ]; exact Int.ediv_le_self _ (by omega)
  rw [hQ]
  repeat' ((conv => whnf); first | rw [hQ] | refine Rng.g ?_ | refine Ob.g ?_ | refine Ob.e ?_ | refine Ob.m ?_ | refine Ob.mk (Nat.le_of_ble_eq_true rfl) ?_ | refine JoinVC.on ?_ | refine Nils.mk (fun h => ?_) ?_ | refine Val.t ?_ | refine Val.d ?_ | refine Mm.mk ?_ | (refine Br.mk (fun h => ?_) (fun h => ?_) <;> first | (exfalso; omega; done) | (exfalso; simp at h; done) | skip))
  repeat refine Mm.mk ?_
  refine EndVC.mk _ rfl _ _ ⟨rfl, rfl⟩ ?_
  refine ⟨[], rfl, rfl, ?_, ?_⟩ <;> repeat' (first | exact trivial | exact rfl | exact Iff.rfl | apply And.intro)
end Go.Sx

namespace Go.Sx
open Go Go.Proofs
set_option maxRecDepth 10000
set_option maxHeartbeats 16000000
/-- What is said of no list is said of nil. -/
theorem HSpec.nils {P : Program} {f : FuncId} {pre post : List XV} {m : List Blk} {Rs : AV → List (Option Blk) → Prop} {b : Bool} {ks : List CK} (h : HSpec P f (pre ++ .one (.lst b ks []) :: post) m Rs) : HSpec P f (pre ++ .one .nils :: post) m Rs := fun w R vs hv hm => by
  refine h w R vs ⟨by rw [hv.1]; simp, fun j x hx => ?_⟩ hm
  by_cases e : j = pre.length
  · subst e
    have h1 := hv.2 pre.length (.one .nils) (by simp)
    have h2 : x = .one (.lst b ks []) := by simpa using hx.symm
    subst h2
    have h3 : vs.getD pre.length undef = .slice none 0 0 := h1
    rw [h3]
    exact RepC.sl ks [] none 0 (fun _ _ => undef) (Nat.le_refl _) (fun r hr => absurd hr (by simp)) (fun hr => absurd rfl hr) (fun i r f c k hr => absurd hr (by simp))
  · refine hv.2 j x ?_
    rw [List.getElem?_append] at hx ⊢
    split
    · rename_i hj
      rw [if_pos hj] at hx
      exact hx
    · rename_i hj
      rw [if_neg hj] at hx
      obtain ⟨d, hd⟩ : ∃ d, j - pre.length = d + 1 := ⟨j - pre.length - 1, by omega⟩
      rw [hd] at hx ⊢
      exact hx
end Go.Sx

namespace Go.Sx
open Go Go.Proofs
set_option maxRecDepth 10000
set_option maxHeartbeats 16000000
/-- Of two answers, each is the other. -/
theorem packs_same {f : Fmt} {l : List Sng} {s s' : Nat} {q q' : List Int} (h : ∀ j, j < s → packR f l j = none) (hq : packR f l s = some q) (h' : ∀ j, j < s' → packR f l j = none) (hq' : packR f l s' = some q') : s = s' ∧ q = q' := by
  have e : s = s' := Classical.byContradiction fun hc => by
    rcases Nat.lt_or_gt_of_ne hc with h1 | h1
    · rw [h' s h1] at hq; cases hq
    · rw [h s' h1] at hq'; cases hq'
  subst e
  rw [hq] at hq'
  exact ⟨rfl, Option.some.inj hq'⟩
end Go.Sx

namespace Go.Sx
open Go Go.Proofs
set_option maxRecDepth 10000
set_option maxHeartbeats 4000000
/-! ### No packing has fewer sides than by width -/
def sumK (g : Nat → Int) : Nat → Int
  | 0 => 0
  | s + 1 => sumK g s + g s
theorem sumK_le {g : Nat → Int} {D : Int} : ∀ s : Nat, (∀ k, k < s → g k ≤ D) → sumK g s ≤ (s : Int) * D
  | 0, _ => by simp [sumK]
  | s + 1, h => by
    have h1 := sumK_le s fun k hk => h k (by omega)
    have h2 := h s (Nat.lt_succ_self s)
    have e : ((s + 1 : Nat) : Int) * D = (s : Int) * D + D := by rw [Int.natCast_add, Int.add_mul]; simp
    unfold sumK
    omega
theorem sumK_step (w : Int → Int) (P : List Int) (n p : Nat) (hp : P.getD n 0 = (p : Int)) : ∀ s, sumK (fun k => loadL w (onN P (k : Int) (n + 1))) s = sumK (fun k => loadL w (onN P (k : Int) n)) s + (if p < s then w (n : Int) else 0)
  | 0 => by simp [sumK]
  | s + 1 => by
    have ih := sumK_step w P n p hp s
    unfold sumK
    rw [ih]
    by_cases e : p = s
    · subst e
      rw [onN_yes hp, load_app, if_neg (Nat.lt_irrefl p), if_pos (Nat.lt_succ_self p)]
      simp only [loadL]
      omega
    · rw [onN_no (by omega)]
      by_cases h : p < s
      · rw [if_pos h, if_pos (by omega)]; omega
      · rw [if_neg h, if_neg (by omega)]; omega
theorem sumK_zero : ∀ s, sumK (fun _ => 0) s = 0
  | 0 => rfl
  | s + 1 => by unfold sumK; rw [sumK_zero s]; rfl
theorem widS_sum (f : Fmt) (l : List Sng) (P : List Int) (s : Nat) : ∀ n, (∀ j, j < n → 0 ≤ P.getD j 0 ∧ P.getD j 0 < s) → widS f l n = sumK (fun k => loadL (wG f l) (onN P (k : Int) n)) s
  | 0, _ => (sumK_zero s).symm
  | n + 1, h => by
    have ih := widS_sum f l P s n fun j hj => h j (by omega)
    have h1 := h n (Nat.lt_succ_self n)
    obtain ⟨p, hp⟩ : ∃ p : Nat, P.getD n 0 = (p : Int) := ⟨(P.getD n 0).toNat, by omega⟩
    rw [sumK_step _ P n p hp, if_pos (by omega), ← ih]
    show widS f l n + (widF f (l.getD n g0) + f.gap) = _
    unfold wG
    rw [Int.toNat_natCast]
theorem wG_pos {f : Fmt} {l : List Sng} (hf : FmtOK f) (hg : SngsOK l) {y : Int} (h : 0 ≤ y ∧ y < l.length) : 1 + f.gap ≤ wG f l y := by
  have := (wid_bd hf.per.1 (hg.each y.toNat (by omega))).2
  unfold wG
  omega
theorem side_load {f : Fmt} {l : List Sng} (hf : FmtOK f) (hg : SngsOK l) {P : List Int} (hP : P.length = l.length) {k : Int} (hne : onL P k ≠ []) (h : sideOK f l P k) : loadL (wG f l) (onL P k) ≤ roomF f + f.gap := by
  have h1 := h.2
  have hin := onL_in (P := P) (k := k) (m := l.length) (by omega)
  have h2 := load_le (wG f l) (X := onL P k) (Y := usu l (onL P k)) (onL_nodup P k) (fun x hx => usu_mem.2 hx) fun y hy => by
    have := wG_pos hf hg (hin y (usu_mem.1 hy))
    have := hf.gap
    omega
  have h3 := atF_load f l (usu l (onL P k)) _ (Nat.le_refl _)
  have h4 : 0 < (usu l (onL P k)).length := by rw [usu_len]; exact List.length_pos_iff.2 hne
  rw [List.take_length, if_pos h4] at h3
  rw [h3] at h1
  unfold roomF
  omega
theorem packd_ne {f : Fmt} {l : List Sng} {P : List Int} {s : Nat} (h : Packd f l P s) {k : Nat} (hk : k < s) : onL P k ≠ [] := fun e => by
  obtain ⟨j, h1, h2⟩ := h.all k hk
  have := mem_onL.2 ⟨j, h1, h2, rfl⟩
  rw [e] at this
  cases this
theorem packd_wid {f : Fmt} {l : List Sng} (hf : FmtOK f) (hg : SngsOK l) {P : List Int} {s : Nat} (h : Packd f l P s) : widS f l l.length ≤ (s : Int) * (roomF f + f.gap) := by
  have e : widS f l l.length = sumK (fun k => loadL (wG f l) (onL P (k : Int))) s := by
    rw [widS_sum f l P s l.length (fun j hj => h.num j (by rw [h.len]; exact hj))]
    unfold onL
    rw [h.len]
    rfl
  rw [e]
  exact sumK_le s fun k hk => side_load hf hg h.len (packd_ne h hk) (h.ok k hk)
theorem packd_room {f : Fmt} {l : List Sng} (hf : FmtOK f) (hg : SngsOK l) {P : List Int} {s : Nat} (h : Packd f l P s) (hl : 0 < l.length) : ¬ roomF f < 1 := by
  have hl' := h.len
  have h1 := h.num 0 (by omega)
  obtain ⟨k, hk⟩ : ∃ k : Nat, P.getD 0 0 = (k : Int) := ⟨(P.getD 0 0).toNat, by omega⟩
  have hks : k < s := by omega
  have hm : (0 : Int) ∈ onL P k := mem_onL.2 ⟨0, by omega, hk, rfl⟩
  have h2 := side_load hf hg h.len (packd_ne h hks) (h.ok k hks)
  rw [load_erase _ hm] at h2
  have hin := onL_in (P := P) (k := k) (m := l.length) (by omega)
  have h3 := load_nn (wG f l) ((onL P k).erase 0) fun x hx => by
    have := wG_pos hf hg (hin x (List.mem_of_mem_erase hx))
    have := hf.gap
    omega
  have h4 := wG_pos hf hg (hin 0 hm)
  omega
theorem packd_few {f : Fmt} {l : List Sng} (hf : FmtOK f) (hg : SngsOK l) (h8 : l.length ≤ 8) {P : List Int} {s : Nat} (h : Packd f l P s) : (fewC f l = 0 ∧ fewN f l ≤ s) ∨ (fewC f l = 14 ∧ l.length = 0) := by
  have h0 := fewE_ok hf hg h8
  by_cases hr : roomF f < 1
  · refine .inr ⟨(fewC_lim h0 hr).1, Classical.byContradiction fun hc => packd_room hf hg h (by omega) hr⟩
  · obtain ⟨e1, e2⟩ := fewC_ok h0 hr
    refine .inl ⟨e1, ?_⟩
    rw [e2]
    have h1 := packd_wid hf hg h
    have h2 := hf.gap
    have h3 : (widS f l l.length + (roomF f + f.gap) - 1) / (roomF f + f.gap) < (s : Int) + 1 := by
      refine Int.ediv_lt_of_lt_mul (by omega) ?_
      rw [Int.add_mul]
      generalize (s : Int) * (roomF f + f.gap) = z at h1 ⊢
      omega
    omega
/-! ### The tracks of a side by themselves -/
def subN (l : List Sng) (P : List Int) (k : Int) (n : Nat) : List Sng := (onN P k n).map fun x => l.getD x.toNat g0
theorem subN_get (l : List Sng) (P : List Int) (k : Int) (n i : Nat) (h : i < (onN P k n).length) : (subN l P k n).getD i g0 = l.getD ((onN P k n).getD i 0).toNat g0 := by
  unfold subN
  simp [List.getD_eq_getElem?_getD, h]
theorem subN_len (l : List Sng) (P : List Int) (k : Int) (n : Nat) : (subN l P k n).length = (onN P k n).length := by simp [subN]
theorem lay_map {f : Fmt} {l m : List Sng} {T : List Int} (hm : ∀ i, i < T.length → m.getD i g0 = l.getD (T.getD i 0).toNat g0) {O : List Int} (hO : InR O T.length) (h : LayOK f m O) : LayOK f l (O.map fun x => T.getD x.toNat 0) := by
  have hg : ∀ i, i < O.length → (O.map fun x => T.getD x.toNat 0).getD i 0 = T.getD (O.getD i 0).toNat 0 := fun i hi => by simp [List.getD_eq_getElem?_getD, hi]
  have ha : ∀ i, i ≤ O.length → atF f l (O.map fun x => T.getD x.toNat 0) i = atF f m O i := fun i => by
    induction i with
    | zero => exact fun _ => rfl
    | succ i ih =>
      intro hi
      have h1 := hO i (by omega)
      unfold atF
      rw [ih (by omega), hg i (by omega), hm _ (by omega)]
  refine ⟨fun i hi => ?_, ?_⟩
  · rw [List.length_map] at hi
    have h1 := h.1 i hi
    have h2 := hO i hi
    unfold okAt at h1 ⊢
    rw [ha _ (by omega), hg i hi, ← hm _ (by omega)]
    exact h1
  · rw [List.length_map, ha _ (Nat.le_refl _)]
    exact h.2
theorem sub_side {f : Fmt} {l : List Sng} (hf : FmtOK f) (hg : SngsOK l) {P : List Int} (hP : P.length = l.length) {k : Int} (h : LayOK f (subN l P k l.length) (allO (subN l P k l.length))) : sideOK f l P k := by
  have e : onN P k l.length = onL P k := by unfold onL; rw [hP]; rfl
  have hin := onL_in (P := P) (k := k) (m := l.length) (by omega)
  have hlen := subN_len l P k l.length
  have h1 := lay_map (l := l) (T := onL P k) (fun i hi => by rw [← e] at hi ⊢; exact subN_get l P k _ i hi) (O := allO (subN l P k l.length)) (fun i hi => by
    have := allO_in (subN l P k l.length) i hi
    rw [hlen, e] at this
    exact this) h
  have hm : ∀ x, x ∈ allO (subN l P k l.length) ↔ 0 ≤ x ∧ x < (onL P k).length := fun x => by
    rw [allO_usu, usu_mem, hlen, e]
    unfold spanL
    simp only [List.mem_map, List.mem_range]
    constructor
    · rintro ⟨i, h2, rfl⟩; omega
    · rintro ⟨h2, h3⟩; exact ⟨x.toNat, by omega, by omega⟩
  refine usu_lay hf hg (onL_nodup P k) (fun x hx => ?_) (fun y hy => ?_) h1
  · obtain ⟨i, hi, rfl⟩ := mem_at hx
    exact List.mem_map.2 ⟨(i : Int), (hm _).2 (by omega), by rw [Int.toNat_natCast]⟩
  · obtain ⟨x, hx, rfl⟩ := List.mem_map.1 hy
    have h2 := (hm x).1 hx
    exact hin _ (at_mem (by omega))
theorem sub_ok {l : List Sng} (hg : SngsOK l) {P : List Int} (hP : P.length = l.length) (k : Int) : SngsOK (subN l P k l.length) := by
  have e : onN P k l.length = onL P k := by unfold onL; rw [hP]; rfl
  have h1 := onN_le P k l.length
  have h2 := hg.len
  refine ⟨by rw [subN_len]; omega, fun j hj => ?_⟩
  rw [subN_len] at hj
  rw [subN_get _ _ _ _ _ hj, e]
  have := onL_in (P := P) (k := k) (m := l.length) (by omega) _ (at_mem (by rw [e] at hj; exact hj))
  exact hg.each _ (by omega)
end Go.Sx

namespace Go.Sx
open Go Go.Proofs
set_option maxRecDepth 10000
set_option maxHeartbeats 16000000
theorem e8 : EntersF Try.prog 8 := enters_of Try.func8 (c := bodyOf Try.f8) (by kernel_rfl) rfl
theorem eb40 : Try.t40.bytes = 24 := by kernel_rfl
/-- What a byte says of the next track. -/
def atU (b : List Int) (i : Nat) (used : Nat) : Nat := if i < b.length then (b.getD i 0 % ((used : Int) + 1)).toNat else used
theorem atU_le (b : List Int) (i used : Nat) : atU b i used ≤ used := by
  unfold atU
  split
  · have h1 := Int.emod_lt_of_pos (b.getD i 0) (show 0 < (used : Int) + 1 by omega)
    omega
  · exact Nat.le_refl _
theorem sngA_snoc (l : List Sng) (g : Sng) : sngA (l ++ [g]) = sngA l ++ [[.int g.long, .int g.pitch, .int g.least]] := by simp [sngA]
theorem s8n (f : Fmt) (l : List Sng) (b : List Int) (hb : ∀ j, 0 ≤ b.getD j 0 ∧ b.getD j 0 ≤ 255) (hV : (l.length : Int) ≤ 7 ∧ FmtOK f ∧ SngsOK l) (hno : ∀ s, s ≤ l.length → packR f l s = none) (c22 : HSpec Try.prog 22 [f.x, lSng l] [] (fun r m' => r = .tup [.one .nils, I 0, I 15] ∧ m' = [])) : PSpec Try.prog 8 [f.x, lSng l, lU b] (xP True) := by
  have ll := sngA_len l
  have lb := i64s_len b
  have hw := s11
  have c14 := s14 f l 7
  obtain ⟨h7, hf, hg⟩ := hV
  have h8 : l.length ≤ 8 := by omega
  have hI : f.nm.size ≤ 140737488355328 := by have := hf.nm.2.1; omega
  have c24 := s24 f l hI
  obtain ⟨N, hN⟩ : ∃ N, fewN f l = N := ⟨_, rfl⟩
  obtain ⟨C, hC⟩ : ∃ C, fewC f l = C := ⟨_, rfl⟩
  have hNN := hN
  rw [hN, hC] at c24
  refine spec_of pMix (O := []) Try.func8 (c := bodyOf Try.f8) rfl (by kernel_rfl) (by kernel_rfl) Try.ntmps8 (res := [.tmp 6]) (by kernel_rfl) ?_
  repeat' ((conv => whnf); first | refine Rng.g ?_ | refine Ob.g ?_ | refine Ob.e ?_ | refine Ob.m ?_ | refine Ob.mk (Nat.le_of_ble_eq_true rfl) ?_ | refine JoinVC.on ?_ | refine Nils.mk (fun h => ?_) ?_ | refine Val.t ?_ | refine Val.d ?_ | refine Mm.mk ?_ | refine CallVC.pure rfl (c14) ?_ | refine CallVC0.pure rfl (c14) ?_ | (refine Br.mk (fun h => ?_) (fun h => ?_) <;> first | (exfalso; omega; done) | (exfalso; simp at h; done) | (exfalso; simp [h7, hf, hg] at h; done) | skip))
  conv => whnf
  refine CallVC.mk [] _ _ _ rfl rfl rfl (c22) (fun r m' h' => ?_)
  obtain ⟨rfl, rfl⟩ := h'
  conv => whnf
  · skip
    repeat' ((conv => whnf); first | refine Rng.g ?_ | refine Ob.g ?_ | refine Ob.e ?_ | refine Ob.m ?_ | refine Ob.mk (Nat.le_of_ble_eq_true rfl) ?_ | refine JoinVC.on ?_ | refine Nils.mk (fun h => ?_) ?_ | refine Val.t ?_ | refine Val.d ?_ | refine Mm.mk ?_ | refine CallVC.pure rfl (c24) ?_ | refine CallVC0.pure rfl (c24) ?_ | (refine Br.mk (fun h => ?_) (fun h => ?_) <;> first | (exfalso; omega; done) | (exfalso; simp at h; done) | skip))
    refine LoopVC.mk (fun n st => ∃ (i used : Nat) (P : List Int), i ≤ l.length ∧ n = l.length - i ∧ P.length = i ∧ used ≤ i ∧ Numb P used ∧ ((i = 0 ∧ st = ⟨0, envA 158 [(1, .x (lSng l)), (2, .x (lU b)), (3, .x (.one (.ptr 0 0))), (7, .x (.one .nils)), (8, .x (I 0)), (9, .x (I 15)), (10, .x (I N)), (11, .x (I C)), (12, .x (.one .nils)), (13, .int .i64 (used : Int)), (14, .int .i64 (i : Int))], [some (bFm f)]⟩) ∨ st = ⟨0, envA 158 [(1, .x (lSng l)), (2, .x (lU b)), (3, .x (.one (.ptr 0 0))), (7, .x (.one .nils)), (8, .x (I 0)), (9, .x (I 15)), (10, .x (I N)), (11, .x (I C)), (12, .x (.one (.own 1))), (13, .int .i64 (used : Int)), (14, .int .i64 (i : Int))], [some (bFm f), some (rowOd P)]⟩)) _ _ ⟨0, 0, [], Nat.zero_le _, rfl, rfl, Nat.le_refl _, numb_nil, .inl ⟨rfl, rfl⟩⟩ ?_ ?_
    · refine ⟨[some 0], rfl, rfl, ?_, ?_⟩ <;> repeat' (first | exact trivial | exact rfl | exact Iff.rfl | apply And.intro)
    rintro n _ ⟨i, used, P, hi, hn, hPl, hui, hN, h⟩
    have lP := i64s_len P
    by_cases hi' : i < l.length
    · have hbi := hb i
      have hat := atU_le b i used
      have hN2 := hN.snoc hat
      have gi : rI (i64s b) (i : Int).toNat 0 = b.getD i 0 := by rw [Int.toNat_natCast]; exact i64s_get b i
      obtain ⟨q, hq⟩ : ∃ q, atU b i used = q := ⟨_, rfl⟩
      rw [hq] at hat hN2
      have hmx : (if (used : Int) < (q : Int) + 1 then (q : Int) + 1 else (used : Int)) = ((max used (q + 1) : Nat) : Int) := by
        rw [Nat.max_def]
        split <;> split <;> omega
      have hmu : max used (q + 1) ≤ i + 1 := Nat.max_le.2 ⟨by omega, by omega⟩
      have hPs : (P ++ [(q : Int)]).length = i + 1 := by rw [List.length_append, List.length_singleton, hPl]
      have hsn : i64s P ++ [[Cell.int (q : Int)]] = i64s (P ++ [(q : Int)]) := (i64s_snoc P q).symm
      by_cases hib : i < b.length
      · have hqe : b.getD i 0 % ((used : Int) + 1) = (q : Int) := by
          rw [← hq]
          unfold atU
          rw [if_pos hib]
          have h2 := Int.emod_nonneg (b.getD i 0) (show (used : Int) + 1 ≠ 0 by omega)
          omega
        rcases h with ⟨h0, rfl⟩ | rfl
        · subst h0
          rw [List.eq_nil_of_length_eq_zero hPl] at hN2 hPs
          repeat' ((conv => whnf); first | rw [gi] | rw [hqe] | refine Rng.g ?_ | refine Ob.g ?_ | refine Ob.e ?_ | refine Ob.m ?_ | refine Ob.mk (Nat.le_of_ble_eq_true rfl) ?_ | refine JoinVC.on ?_ | refine Nils.mk (fun h => ?_) ?_ | refine Val.t ?_ | refine Val.d ?_ | refine Mm.mk ?_ | (refine Br.mk (fun h => ?_) (fun h => ?_) <;> first | (exfalso; omega; done) | (exfalso; simp at h; done) | skip))
          refine Back.mk (l.length - (0 + 1)) _ (by omega) ⟨0 + 1, _, _, by omega, rfl, hPs, hmu, hN2, .inr rfl⟩ ?_
          refine ⟨[some 0, some 2], rfl, rfl, ?_, ?_⟩ <;> repeat' (first | exact trivial | exact rfl | exact Iff.rfl | apply And.intro)
          exact hmx
        · repeat' ((conv => whnf); first | rw [gi] | rw [hqe] | refine Rng.g ?_ | refine Ob.g ?_ | refine Ob.e ?_ | refine Ob.m ?_ | refine Ob.mk (Nat.le_of_ble_eq_true rfl) ?_ | refine JoinVC.on ?_ | refine Nils.mk (fun h => ?_) ?_ | refine Val.t ?_ | refine Val.d ?_ | refine Mm.mk ?_ | (refine Br.mk (fun h => ?_) (fun h => ?_) <;> first | (exfalso; omega; done) | (exfalso; simp at h; done) | skip))
          repeat refine Mm.mk ?_
          refine Ob.mk (by rw [eb3]; simp only [List.length_cons, List.length_nil]; omega) ?_
          repeat' ((conv => whnf); first | rw [hsn] | refine Rng.g ?_ | refine Ob.g ?_ | refine Ob.e ?_ | refine Ob.m ?_ | refine Ob.mk (Nat.le_of_ble_eq_true rfl) ?_ | refine JoinVC.on ?_ | refine Nils.mk (fun h => ?_) ?_ | refine Val.t ?_ | refine Val.d ?_ | refine Mm.mk ?_ | (refine Br.mk (fun h => ?_) (fun h => ?_) <;> first | (exfalso; omega; done) | (exfalso; simp at h; done) | skip))
          refine Back.mk (l.length - (i + 1)) _ (by omega) ⟨i + 1, _, _, by omega, rfl, hPs, hmu, hN2, .inr rfl⟩ ?_
          refine ⟨[some 0, some 3], rfl, rfl, ?_, ?_⟩ <;> repeat' (first | exact trivial | exact rfl | exact Iff.rfl | apply And.intro)
          exact hmx
      · have hqe : used = q := by
          rw [← hq]
          unfold atU
          rw [if_neg hib]
        subst hqe
        rcases h with ⟨h0, rfl⟩ | rfl
        · subst h0
          rw [List.eq_nil_of_length_eq_zero hPl] at hN2 hPs
          repeat' ((conv => whnf); first | refine Rng.g ?_ | refine Ob.g ?_ | refine Ob.e ?_ | refine Ob.m ?_ | refine Ob.mk (Nat.le_of_ble_eq_true rfl) ?_ | refine JoinVC.on ?_ | refine Nils.mk (fun h => ?_) ?_ | refine Val.t ?_ | refine Val.d ?_ | refine Mm.mk ?_ | (refine Br.mk (fun h => ?_) (fun h => ?_) <;> first | (exfalso; omega; done) | (exfalso; simp at h; done) | skip))
          refine Back.mk (l.length - (0 + 1)) _ (by omega) ⟨0 + 1, _, _, by omega, rfl, hPs, hmu, hN2, .inr rfl⟩ ?_
          refine ⟨[some 0, some 2], rfl, rfl, ?_, ?_⟩ <;> repeat' (first | exact trivial | exact rfl | exact Iff.rfl | apply And.intro)
          exact hmx
        · repeat' ((conv => whnf); first | refine Rng.g ?_ | refine Ob.g ?_ | refine Ob.e ?_ | refine Ob.m ?_ | refine Ob.mk (Nat.le_of_ble_eq_true rfl) ?_ | refine JoinVC.on ?_ | refine Nils.mk (fun h => ?_) ?_ | refine Val.t ?_ | refine Val.d ?_ | refine Mm.mk ?_ | (refine Br.mk (fun h => ?_) (fun h => ?_) <;> first | (exfalso; omega; done) | (exfalso; simp at h; done) | skip))
          repeat refine Mm.mk ?_
          refine Ob.mk (by rw [eb3]; simp only [List.length_cons, List.length_nil]; omega) ?_
          repeat' ((conv => whnf); first | rw [hsn] | refine Rng.g ?_ | refine Ob.g ?_ | refine Ob.e ?_ | refine Ob.m ?_ | refine Ob.mk (Nat.le_of_ble_eq_true rfl) ?_ | refine JoinVC.on ?_ | refine Nils.mk (fun h => ?_) ?_ | refine Val.t ?_ | refine Val.d ?_ | refine Mm.mk ?_ | (refine Br.mk (fun h => ?_) (fun h => ?_) <;> first | (exfalso; omega; done) | (exfalso; simp at h; done) | skip))
          refine Back.mk (l.length - (i + 1)) _ (by omega) ⟨i + 1, _, _, by omega, rfl, hPs, hmu, hN2, .inr rfl⟩ ?_
          refine ⟨[some 0, some 3], rfl, rfl, ?_, ?_⟩ <;> repeat' (first | exact trivial | exact rfl | exact Iff.rfl | apply And.intro)
          exact hmx
    have ei : i = l.length := by omega
    subst ei
    have hpk : (∀ k : Nat, k < used → sideOK f l P k) → Packd f l P used := fun h => ⟨hN.rng, hN.nxt, hN.all, hPl, h⟩
    rcases h with ⟨h0, rfl⟩ | rfl
    · exact absurd (hpk fun k hk => by omega) (packR_none (hno used (by omega)) P)
    have hnm : ∀ k : Nat, k < used → onN P k l.length ≠ [] := fun k hk he => by
      obtain ⟨j, h1, h2⟩ := hN.all k hk
      have e : onN P k l.length = onL P k := by unfold onL; rw [hPl]; rfl
      have := mem_onL.2 ⟨j, h1, h2, rfl⟩
      rw [← e, he] at this
      cases this
    repeat' ((conv => whnf); first | refine Rng.g ?_ | refine Ob.g ?_ | refine Ob.e ?_ | refine Ob.m ?_ | refine Ob.mk (Nat.le_of_ble_eq_true rfl) ?_ | refine JoinVC.on ?_ | refine Nils.mk (fun h => ?_) ?_ | refine Val.t ?_ | refine Val.d ?_ | refine Mm.mk ?_ | (refine Br.mk (fun h => ?_) (fun h => ?_) <;> first | (exfalso; omega; done) | (exfalso; simp at h; done) | skip))
    refine LoopVC.mk (fun n st => ∃ (k : Nat) (B : Bool), k ≤ used ∧ n = used - k ∧ (B = true → ∀ j : Nat, j < k → sideOK f l P j) ∧ st = ⟨0, envA 158 [(1, .x (lSng l)), (2, .x (lU b)), (3, .x (.one (.ptr 0 0))), (7, .x (.one .nils)), (8, .x (I 0)), (9, .x (I 15)), (10, .x (I N)), (11, .x (I C)), (12, .x (.one (.own 1))), (13, .int .i64 (used : Int)), (16, .x (.one (.bool B))), (17, .int .i64 (k : Int))], [some (bFm f), some (rowOd P)]⟩) _ _ ⟨0, true, Nat.zero_le _, rfl, fun _ j hj => absurd hj (Nat.not_lt_zero j), rfl⟩ ?_ ?_
    · refine ⟨[some 0, some 1], rfl, rfl, ?_, ?_⟩ <;> repeat' (first | exact trivial | exact rfl | exact Iff.rfl | apply And.intro)
    clear hn n
    rintro n _ ⟨k, B, hk, hn, hB, rfl⟩
    by_cases hk' : k < used
    rotate_left
    · have ek : k = used := by omega
      subst ek
      cases B with
      | true => exact absurd (hpk (hB rfl)) (packR_none (hno k (by omega)) P)
      | false =>
        repeat' ((conv => whnf); first | refine Rng.g ?_ | refine Ob.g ?_ | refine Ob.e ?_ | refine Ob.m ?_ | refine Ob.mk (Nat.le_of_ble_eq_true rfl) ?_ | refine JoinVC.on ?_ | refine Nils.mk (fun h => ?_) ?_ | refine Val.t ?_ | refine Val.d ?_ | refine Mm.mk ?_ | refine CallVC.pure rfl (hw) ?_ | refine CallVC0.pure rfl (hw) ?_ | (refine Br.mk (fun h => ?_) (fun h => ?_) <;> first | (exfalso; omega; done) | (exfalso; simp at h; done) | skip))
        all_goals
          repeat refine Mm.mk ?_
          refine EndVC.mk _ rfl _ _ ⟨rfl, rfl⟩ ?_
          refine ⟨[], rfl, rfl, ?_, ?_⟩ <;> repeat' (first | exact trivial | exact rfl | exact Iff.rfl | apply And.intro)
    have hne := hnm k hk'
    repeat' ((conv => whnf); first | refine Rng.g ?_ | refine Ob.g ?_ | refine Ob.e ?_ | refine Ob.m ?_ | refine Ob.mk (Nat.le_of_ble_eq_true rfl) ?_ | refine JoinVC.on ?_ | refine Nils.mk (fun h => ?_) ?_ | refine Val.t ?_ | refine Val.d ?_ | refine Mm.mk ?_ | (refine Br.mk (fun h => ?_) (fun h => ?_) <;> first | (exfalso; omega; done) | (exfalso; simp at h; done) | skip))
    refine LoopVC.mk (fun n st => ∃ (j : Nat), j ≤ l.length ∧ n = l.length - j ∧ ((onN P k j = [] ∧ st = ⟨0, envA 158 [(1, .x (lSng l)), (2, .x (lU b)), (3, .x (.one (.ptr 0 0))), (7, .x (.one .nils)), (8, .x (I 0)), (9, .x (I 15)), (10, .x (I N)), (11, .x (I C)), (12, .x (.one (.own 1))), (13, .int .i64 (used : Int)), (16, .x (.one (.bool B))), (17, .int .i64 (k : Int)), (18, .x (.one .nils)), (19, .int .i64 (j : Int))], [some (bFm f), some (rowOd P)]⟩) ∨ st = ⟨0, envA 158 [(1, .x (lSng l)), (2, .x (lU b)), (3, .x (.one (.ptr 0 0))), (7, .x (.one .nils)), (8, .x (I 0)), (9, .x (I 15)), (10, .x (I N)), (11, .x (I C)), (12, .x (.one (.own 1))), (13, .int .i64 (used : Int)), (16, .x (.one (.bool B))), (17, .int .i64 (k : Int)), (18, .x (.one (.own 2))), (19, .int .i64 (j : Int))], [some (bFm f), some (rowOd P), some (.row 40 false KSng (sngA (subN l P k j)))]⟩)) _ _ ⟨0, Nat.zero_le _, rfl, .inl ⟨rfl, rfl⟩⟩ ?_ ?_
    · refine ⟨[some 0, some 1], rfl, rfl, ?_, ?_⟩ <;> repeat' (first | exact trivial | exact rfl | exact Iff.rfl | apply And.intro)
    rintro n2 _ ⟨j, hj, hn2, h⟩
    have lS := sngA_len (subN l P k j)
    have lS2 := subN_len l P k j
    have lS3 := onN_le P k j
    by_cases hj' : j < l.length
    · have gj : rI (i64s P) (j : Int).toNat 0 = P.getD j 0 := by rw [Int.toNat_natCast]; exact i64s_get P j
      by_cases hpk : P.getD j 0 = k
      · have es : subN l P k (j + 1) = subN l P k j ++ [l.getD j g0] := by
          unfold subN
          rw [onN_yes hpk, List.map_append, List.map_cons, List.map_nil, Int.toNat_natCast]
        have es2 := (sngA_snoc (subN l P k j) (l.getD j g0)).symm
        rw [← es] at es2
        have c0 : rI (sngA l) (j : Int).toNat 0 = (l.getD j g0).long := by rw [Int.toNat_natCast]; exact sngA_0 l _
        have c1 : rI (sngA l) (j : Int).toNat (0 + 1) = (l.getD j g0).pitch := by rw [Int.toNat_natCast]; exact sngA_1 l _
        have c2 : rI (sngA l) (j : Int).toNat (0 + 1 + 1) = (l.getD j g0).least := by rw [Int.toNat_natCast]; exact sngA_2 l _
        rcases h with ⟨h0, rfl⟩ | rfl
        · have hz : subN l P k j = [] := by unfold subN; rw [h0]; rfl
          rw [hz] at es2
          repeat' ((conv => whnf); first | rw [gj] | rw [c0] | rw [c1] | rw [c2] | refine Rng.g ?_ | refine Ob.g ?_ | refine Ob.e ?_ | refine Ob.m ?_ | refine Ob.mk (Nat.le_of_ble_eq_true rfl) ?_ | refine JoinVC.on ?_ | refine Nils.mk (fun h => ?_) ?_ | refine Val.t ?_ | refine Val.d ?_ | refine Mm.mk ?_ | (refine Br.mk (fun h => ?_) (fun h => ?_) <;> first | (exfalso; omega; done) | (exfalso; simp at h; done) | skip))
          refine Back.mk (l.length - (j + 1)) _ (by omega) ⟨j + 1, by omega, rfl, .inr rfl⟩ ?_
          rw [← es2]
          refine ⟨[some 0, some 1, some 3], rfl, rfl, ?_, ?_⟩ <;> repeat' (first | exact trivial | exact rfl | exact Iff.rfl | apply And.intro)
        · repeat' ((conv => whnf); first | rw [gj] | rw [c0] | rw [c1] | rw [c2] | refine Rng.g ?_ | refine Ob.g ?_ | refine Ob.e ?_ | refine Ob.m ?_ | refine Ob.mk (Nat.le_of_ble_eq_true rfl) ?_ | refine JoinVC.on ?_ | refine Nils.mk (fun h => ?_) ?_ | refine Val.t ?_ | refine Val.d ?_ | refine Mm.mk ?_ | (refine Br.mk (fun h => ?_) (fun h => ?_) <;> first | (exfalso; omega; done) | (exfalso; simp at h; done) | skip))
          repeat refine Mm.mk ?_
          refine Ob.mk (by rw [eb40]; simp only [List.length_cons, List.length_nil]; omega) ?_
          repeat' ((conv => whnf); first | rw [es2] | refine Rng.g ?_ | refine Ob.g ?_ | refine Ob.e ?_ | refine Ob.m ?_ | refine Ob.mk (Nat.le_of_ble_eq_true rfl) ?_ | refine JoinVC.on ?_ | refine Nils.mk (fun h => ?_) ?_ | refine Val.t ?_ | refine Val.d ?_ | refine Mm.mk ?_ | (refine Br.mk (fun h => ?_) (fun h => ?_) <;> first | (exfalso; omega; done) | (exfalso; simp at h; done) | skip))
          refine Back.mk (l.length - (j + 1)) _ (by omega) ⟨j + 1, by omega, rfl, .inr rfl⟩ ?_
          refine ⟨[some 0, some 1, some 4], rfl, rfl, ?_, ?_⟩ <;> repeat' (first | exact trivial | exact rfl | exact Iff.rfl | apply And.intro)
      · have es : subN l P k (j + 1) = subN l P k j := by
          unfold subN
          rw [onN_no hpk]
        rcases h with ⟨h0, rfl⟩ | rfl
        · repeat' ((conv => whnf); first | rw [gj] | refine Rng.g ?_ | refine Ob.g ?_ | refine Ob.e ?_ | refine Ob.m ?_ | refine Ob.mk (Nat.le_of_ble_eq_true rfl) ?_ | refine JoinVC.on ?_ | refine Nils.mk (fun h => ?_) ?_ | refine Val.t ?_ | refine Val.d ?_ | refine Mm.mk ?_ | (refine Br.mk (fun h => ?_) (fun h => ?_) <;> first | (exfalso; omega; done) | (exfalso; simp at h; done) | skip))
          refine Back.mk (l.length - (j + 1)) _ (by omega) ⟨j + 1, by omega, rfl, .inl ⟨by rw [onN_no hpk]; exact h0, rfl⟩⟩ ?_
          refine ⟨[some 0, some 1], rfl, rfl, ?_, ?_⟩ <;> repeat' (first | exact trivial | exact rfl | exact Iff.rfl | apply And.intro)
        · repeat' ((conv => whnf); first | rw [gj] | refine Rng.g ?_ | refine Ob.g ?_ | refine Ob.e ?_ | refine Ob.m ?_ | refine Ob.mk (Nat.le_of_ble_eq_true rfl) ?_ | refine JoinVC.on ?_ | refine Nils.mk (fun h => ?_) ?_ | refine Val.t ?_ | refine Val.d ?_ | refine Mm.mk ?_ | (refine Br.mk (fun h => ?_) (fun h => ?_) <;> first | (exfalso; omega; done) | (exfalso; simp at h; done) | skip))
          refine Back.mk (l.length - (j + 1)) _ (by omega) ⟨j + 1, by omega, rfl, .inr rfl⟩ ?_
          rw [es]
          refine ⟨[some 0, some 1, some 2], rfl, rfl, ?_, ?_⟩ <;> repeat' (first | exact trivial | exact rfl | exact Iff.rfl | apply And.intro)
    have ej : j = l.length := by omega
    subst ej
    rcases h with ⟨h0, rfl⟩ | rfl
    · exact absurd h0 hne
    repeat' ((conv => whnf); first | refine Rng.g ?_ | refine Ob.g ?_ | refine Ob.e ?_ | refine Ob.m ?_ | refine Ob.mk (Nat.le_of_ble_eq_true rfl) ?_ | refine JoinVC.on ?_ | refine Nils.mk (fun h => ?_) ?_ | refine Val.t ?_ | refine Val.d ?_ | refine Mm.mk ?_ | (refine Br.mk (fun h => ?_) (fun h => ?_) <;> first | (exfalso; omega; done) | (exfalso; simp at h; done) | skip))
    conv => whnf
    refine CallVC.mk [] _ _ _ rfl rfl rfl (s18 f (subN l P k l.length) hI (by omega)) (fun r m' h' => ?_)
    cases h' with
    | bad he hr hm => exact absurd (bothE_ok hf (sub_ok hg hPl k)) he
    | none _ _ hnl hr hm =>
      subst hr hm
      cases B with
      | true =>
        repeat' ((conv => whnf); first | refine Rng.g ?_ | refine Ob.g ?_ | refine Ob.e ?_ | refine Ob.m ?_ | refine Ob.mk (Nat.le_of_ble_eq_true rfl) ?_ | refine JoinVC.on ?_ | refine Nils.mk (fun h => ?_) ?_ | refine Val.t ?_ | refine Val.d ?_ | refine Mm.mk ?_ | (refine Br.mk (fun h => ?_) (fun h => ?_) <;> first | (exfalso; omega; done) | (exfalso; simp at h; done) | skip))
        refine Back.mk (used - (k + 1)) _ (by omega) ⟨k + 1, false, by omega, rfl, fun h => (by cases h), rfl⟩ ?_
        refine ⟨[some 0, some 1], rfl, rfl, ?_, ?_⟩ <;> repeat' (first | exact trivial | exact rfl | exact Iff.rfl | apply And.intro)
      | false =>
        repeat' ((conv => whnf); first | refine Rng.g ?_ | refine Ob.g ?_ | refine Ob.e ?_ | refine Ob.m ?_ | refine Ob.mk (Nat.le_of_ble_eq_true rfl) ?_ | refine JoinVC.on ?_ | refine Nils.mk (fun h => ?_) ?_ | refine Val.t ?_ | refine Val.d ?_ | refine Mm.mk ?_ | (refine Br.mk (fun h => ?_) (fun h => ?_) <;> first | (exfalso; omega; done) | (exfalso; simp at h; done) | skip))
        refine Back.mk (used - (k + 1)) _ (by omega) ⟨k + 1, false, by omega, rfl, fun h => (by cases h), rfl⟩ ?_
        refine ⟨[some 0, some 1], rfl, rfl, ?_, ?_⟩ <;> repeat' (first | exact trivial | exact rfl | exact Iff.rfl | apply And.intro)
    | ok _ _ hL hr hm =>
      subst hr hm
      have hsd := sub_side hf hg hPl hL
      have hB2 : B = true → ∀ j : Nat, j < k + 1 → sideOK f l P j := fun h j hj => by
        rcases Nat.lt_succ_iff_lt_or_eq.1 hj with h' | rfl
        · exact hB h j h'
        · exact hsd
      cases B with
      | true =>
        repeat' ((conv => whnf); first | refine Rng.g ?_ | refine Ob.g ?_ | refine Ob.e ?_ | refine Ob.m ?_ | refine Ob.mk (Nat.le_of_ble_eq_true rfl) ?_ | refine JoinVC.on ?_ | refine Nils.mk (fun h => ?_) ?_ | refine Val.t ?_ | refine Val.d ?_ | refine Mm.mk ?_ | (refine Br.mk (fun h => ?_) (fun h => ?_) <;> first | (exfalso; omega; done) | (exfalso; simp at h; done) | skip))
        refine Back.mk (used - (k + 1)) _ (by omega) ⟨k + 1, true, by omega, rfl, hB2, rfl⟩ ?_
        refine ⟨[some 0, some 1], rfl, rfl, ?_, ?_⟩ <;> repeat' (first | exact trivial | exact rfl | exact Iff.rfl | apply And.intro)
      | false =>
        repeat' ((conv => whnf); first | refine Rng.g ?_ | refine Ob.g ?_ | refine Ob.e ?_ | refine Ob.m ?_ | refine Ob.mk (Nat.le_of_ble_eq_true rfl) ?_ | refine JoinVC.on ?_ | refine Nils.mk (fun h => ?_) ?_ | refine Val.t ?_ | refine Val.d ?_ | refine Mm.mk ?_ | (refine Br.mk (fun h => ?_) (fun h => ?_) <;> first | (exfalso; omega; done) | (exfalso; simp at h; done) | skip))
        refine Back.mk (used - (k + 1)) _ (by omega) ⟨k + 1, false, by omega, rfl, hB2, rfl⟩ ?_
        refine ⟨[some 0, some 1], rfl, rfl, ?_, ?_⟩ <;> repeat' (first | exact trivial | exact rfl | exact Iff.rfl | apply And.intro)
end Go.Sx

namespace Go.Sx
open Go Go.Proofs
set_option maxRecDepth 10000
set_option maxHeartbeats 16000000
theorem s8s (f : Fmt) (l : List Sng) (b : List Int) (hb : ∀ j, 0 ≤ b.getD j 0 ∧ b.getD j 0 ≤ 255) (hV : (l.length : Int) ≤ 7 ∧ FmtOK f ∧ SngsOK l) (s : Nat) (q0 : List Int) (hno : ∀ j, j < s → packR f l j = none) (hq0 : packR f l s = some q0) (c22 : HSpec Try.prog 22 [f.x, lSng l] [] (fun r m' => r = .tup [.one (.lst false [.int .i64] (i64s q0)), I (s : Int), I 0] ∧ m' = [])) : PSpec Try.prog 8 [f.x, lSng l, lU b] (xP True) := by
  have ll := sngA_len l
  have lb := i64s_len b
  have hw := s11
  have c14 := s14 f l 7
  obtain ⟨h7, hf, hg⟩ := hV
  have h8 : l.length ≤ 8 := by omega
  have hI : f.nm.size ≤ 140737488355328 := by have := hf.nm.2.1; omega
  have c24 := s24 f l hI
  obtain ⟨N, hN⟩ : ∃ N, fewN f l = N := ⟨_, rfl⟩
  obtain ⟨C, hC⟩ : ∃ C, fewC f l = C := ⟨_, rfl⟩
  have hNN := hN
  rw [hN, hC] at c24
  refine spec_of pMix (O := []) Try.func8 (c := bodyOf Try.f8) rfl (by kernel_rfl) (by kernel_rfl) Try.ntmps8 (res := [.tmp 6]) (by kernel_rfl) ?_
  repeat' ((conv => whnf); first | refine Rng.g ?_ | refine Ob.g ?_ | refine Ob.e ?_ | refine Ob.m ?_ | refine Ob.mk (Nat.le_of_ble_eq_true rfl) ?_ | refine JoinVC.on ?_ | refine Nils.mk (fun h => ?_) ?_ | refine Val.t ?_ | refine Val.d ?_ | refine Mm.mk ?_ | refine CallVC.pure rfl (c14) ?_ | refine CallVC0.pure rfl (c14) ?_ | (refine Br.mk (fun h => ?_) (fun h => ?_) <;> first | (exfalso; omega; done) | (exfalso; simp at h; done) | (exfalso; simp [h7, hf, hg] at h; done) | skip))
  conv => whnf
  refine CallVC.mk [] _ _ _ rfl rfl rfl (c22) (fun r m' h' => ?_)
  obtain ⟨rfl, rfl⟩ := h'
  conv => whnf
  · skip
    have hp27 : Packd f l q0 s := packR_some hq0
    have few := packd_few hf hg h8 hp27
    rw [hC, hNN] at few
    have hq8 : q0.length ≤ 100 := by have := hp27.len; omega
    have c27 := s27 f l hf hg q0 s hq8
    repeat' ((conv => whnf); first | refine Rng.g ?_ | refine Ob.g ?_ | refine Ob.e ?_ | refine Ob.m ?_ | refine Ob.mk (Nat.le_of_ble_eq_true rfl) ?_ | refine JoinVC.on ?_ | refine Nils.mk (fun h => ?_) ?_ | refine Val.t ?_ | refine Val.d ?_ | refine Mm.mk ?_ | refine CallVC.pure rfl (c24) ?_ | refine CallVC0.pure rfl (c24) ?_ | (refine Br.mk (fun h => ?_) (fun h => ?_) <;> first | (exfalso; omega; done) | (exfalso; simp at h; done) | skip))
    refine LoopVC.mk (fun n st => ∃ (i used : Nat) (P : List Int), i ≤ l.length ∧ n = l.length - i ∧ P.length = i ∧ used ≤ i ∧ Numb P used ∧ ((i = 0 ∧ st = ⟨0, envA 158 [(1, .x (lSng l)), (2, .x (lU b)), (3, .x (.one (.ptr 0 0))), (7, .x (.one (.lst false [.int .i64] (i64s q0)))), (8, .x (I (s : Int))), (9, .x (I 0)), (10, .x (I N)), (11, .x (I C)), (12, .x (.one .nils)), (13, .int .i64 (used : Int)), (14, .int .i64 (i : Int))], [some (bFm f)]⟩) ∨ st = ⟨0, envA 158 [(1, .x (lSng l)), (2, .x (lU b)), (3, .x (.one (.ptr 0 0))), (7, .x (.one (.lst false [.int .i64] (i64s q0)))), (8, .x (I (s : Int))), (9, .x (I 0)), (10, .x (I N)), (11, .x (I C)), (12, .x (.one (.own 1))), (13, .int .i64 (used : Int)), (14, .int .i64 (i : Int))], [some (bFm f), some (rowOd P)]⟩)) _ _ ⟨0, 0, [], Nat.zero_le _, rfl, rfl, Nat.le_refl _, numb_nil, .inl ⟨rfl, rfl⟩⟩ ?_ ?_
    · refine ⟨[some 0], rfl, rfl, ?_, ?_⟩ <;> repeat' (first | exact trivial | exact rfl | exact Iff.rfl | apply And.intro)
    rintro n _ ⟨i, used, P, hi, hn, hPl, hui, hN, h⟩
    have lP := i64s_len P
    by_cases hi' : i < l.length
    · have hbi := hb i
      have hat := atU_le b i used
      have hN2 := hN.snoc hat
      have gi : rI (i64s b) (i : Int).toNat 0 = b.getD i 0 := by rw [Int.toNat_natCast]; exact i64s_get b i
      obtain ⟨q, hq⟩ : ∃ q, atU b i used = q := ⟨_, rfl⟩
      rw [hq] at hat hN2
      have hmx : (if (used : Int) < (q : Int) + 1 then (q : Int) + 1 else (used : Int)) = ((max used (q + 1) : Nat) : Int) := by
        rw [Nat.max_def]
        split <;> split <;> omega
      have hmu : max used (q + 1) ≤ i + 1 := Nat.max_le.2 ⟨by omega, by omega⟩
      have hPs : (P ++ [(q : Int)]).length = i + 1 := by rw [List.length_append, List.length_singleton, hPl]
      have hsn : i64s P ++ [[Cell.int (q : Int)]] = i64s (P ++ [(q : Int)]) := (i64s_snoc P q).symm
      by_cases hib : i < b.length
      · have hqe : b.getD i 0 % ((used : Int) + 1) = (q : Int) := by
          rw [← hq]
          unfold atU
          rw [if_pos hib]
          have h2 := Int.emod_nonneg (b.getD i 0) (show (used : Int) + 1 ≠ 0 by omega)
          omega
        rcases h with ⟨h0, rfl⟩ | rfl
        · subst h0
          rw [List.eq_nil_of_length_eq_zero hPl] at hN2 hPs
          repeat' ((conv => whnf); first | rw [gi] | rw [hqe] | refine Rng.g ?_ | refine Ob.g ?_ | refine Ob.e ?_ | refine Ob.m ?_ | refine Ob.mk (Nat.le_of_ble_eq_true rfl) ?_ | refine JoinVC.on ?_ | refine Nils.mk (fun h => ?_) ?_ | refine Val.t ?_ | refine Val.d ?_ | refine Mm.mk ?_ | (refine Br.mk (fun h => ?_) (fun h => ?_) <;> first | (exfalso; omega; done) | (exfalso; simp at h; done) | skip))
          refine Back.mk (l.length - (0 + 1)) _ (by omega) ⟨0 + 1, _, _, by omega, rfl, hPs, hmu, hN2, .inr rfl⟩ ?_
          refine ⟨[some 0, some 2], rfl, rfl, ?_, ?_⟩ <;> repeat' (first | exact trivial | exact rfl | exact Iff.rfl | apply And.intro)
          exact hmx
        · repeat' ((conv => whnf); first | rw [gi] | rw [hqe] | refine Rng.g ?_ | refine Ob.g ?_ | refine Ob.e ?_ | refine Ob.m ?_ | refine Ob.mk (Nat.le_of_ble_eq_true rfl) ?_ | refine JoinVC.on ?_ | refine Nils.mk (fun h => ?_) ?_ | refine Val.t ?_ | refine Val.d ?_ | refine Mm.mk ?_ | (refine Br.mk (fun h => ?_) (fun h => ?_) <;> first | (exfalso; omega; done) | (exfalso; simp at h; done) | skip))
          repeat refine Mm.mk ?_
          refine Ob.mk (by rw [eb3]; simp only [List.length_cons, List.length_nil]; omega) ?_
          repeat' ((conv => whnf); first | rw [hsn] | refine Rng.g ?_ | refine Ob.g ?_ | refine Ob.e ?_ | refine Ob.m ?_ | refine Ob.mk (Nat.le_of_ble_eq_true rfl) ?_ | refine JoinVC.on ?_ | refine Nils.mk (fun h => ?_) ?_ | refine Val.t ?_ | refine Val.d ?_ | refine Mm.mk ?_ | (refine Br.mk (fun h => ?_) (fun h => ?_) <;> first | (exfalso; omega; done) | (exfalso; simp at h; done) | skip))
          refine Back.mk (l.length - (i + 1)) _ (by omega) ⟨i + 1, _, _, by omega, rfl, hPs, hmu, hN2, .inr rfl⟩ ?_
          refine ⟨[some 0, some 3], rfl, rfl, ?_, ?_⟩ <;> repeat' (first | exact trivial | exact rfl | exact Iff.rfl | apply And.intro)
          exact hmx
      · have hqe : used = q := by
          rw [← hq]
          unfold atU
          rw [if_neg hib]
        subst hqe
        rcases h with ⟨h0, rfl⟩ | rfl
        · subst h0
          rw [List.eq_nil_of_length_eq_zero hPl] at hN2 hPs
          repeat' ((conv => whnf); first | refine Rng.g ?_ | refine Ob.g ?_ | refine Ob.e ?_ | refine Ob.m ?_ | refine Ob.mk (Nat.le_of_ble_eq_true rfl) ?_ | refine JoinVC.on ?_ | refine Nils.mk (fun h => ?_) ?_ | refine Val.t ?_ | refine Val.d ?_ | refine Mm.mk ?_ | (refine Br.mk (fun h => ?_) (fun h => ?_) <;> first | (exfalso; omega; done) | (exfalso; simp at h; done) | skip))
          refine Back.mk (l.length - (0 + 1)) _ (by omega) ⟨0 + 1, _, _, by omega, rfl, hPs, hmu, hN2, .inr rfl⟩ ?_
          refine ⟨[some 0, some 2], rfl, rfl, ?_, ?_⟩ <;> repeat' (first | exact trivial | exact rfl | exact Iff.rfl | apply And.intro)
          exact hmx
        · repeat' ((conv => whnf); first | refine Rng.g ?_ | refine Ob.g ?_ | refine Ob.e ?_ | refine Ob.m ?_ | refine Ob.mk (Nat.le_of_ble_eq_true rfl) ?_ | refine JoinVC.on ?_ | refine Nils.mk (fun h => ?_) ?_ | refine Val.t ?_ | refine Val.d ?_ | refine Mm.mk ?_ | (refine Br.mk (fun h => ?_) (fun h => ?_) <;> first | (exfalso; omega; done) | (exfalso; simp at h; done) | skip))
          repeat refine Mm.mk ?_
          refine Ob.mk (by rw [eb3]; simp only [List.length_cons, List.length_nil]; omega) ?_
          repeat' ((conv => whnf); first | rw [hsn] | refine Rng.g ?_ | refine Ob.g ?_ | refine Ob.e ?_ | refine Ob.m ?_ | refine Ob.mk (Nat.le_of_ble_eq_true rfl) ?_ | refine JoinVC.on ?_ | refine Nils.mk (fun h => ?_) ?_ | refine Val.t ?_ | refine Val.d ?_ | refine Mm.mk ?_ | (refine Br.mk (fun h => ?_) (fun h => ?_) <;> first | (exfalso; omega; done) | (exfalso; simp at h; done) | skip))
          refine Back.mk (l.length - (i + 1)) _ (by omega) ⟨i + 1, _, _, by omega, rfl, hPs, hmu, hN2, .inr rfl⟩ ?_
          refine ⟨[some 0, some 3], rfl, rfl, ?_, ?_⟩ <;> repeat' (first | exact trivial | exact rfl | exact Iff.rfl | apply And.intro)
          exact hmx
    have ei : i = l.length := by omega
    subst ei
    have hpk : (∀ k : Nat, k < used → sideOK f l P k) → Packd f l P used := fun h => ⟨hN.rng, hN.nxt, hN.all, hPl, h⟩
    rcases h with ⟨h0, rfl⟩ | rfl
    · have hu0 : used = 0 := by omega
      have hs0 : ¬ used < s := fun h => packR_none (hno used h) P (hpk fun k hk => by omega)
      subst hu0
      repeat' ((conv => whnf); first | refine Rng.g ?_ | refine Ob.g ?_ | refine Ob.e ?_ | refine Ob.m ?_ | refine Ob.mk (Nat.le_of_ble_eq_true rfl) ?_ | refine JoinVC.on ?_ | refine Nils.mk (fun h => ?_) ?_ | refine Val.t ?_ | refine Val.d ?_ | refine Mm.mk ?_ | (refine Br.mk (fun h => ?_) (fun h => ?_) <;> first | (exfalso; omega; done) | (exfalso; simp at h; done) | skip))
      refine LoopVC.un 1 ?_
      rcases few with ⟨rfl, hle⟩ | ⟨rfl, hl0⟩
      · repeat' ((conv => whnf); first | refine Rng.g ?_ | refine Ob.g ?_ | refine Ob.e ?_ | refine Ob.m ?_ | refine Ob.mk (Nat.le_of_ble_eq_true rfl) ?_ | refine JoinVC.on ?_ | refine Nils.mk (fun h => ?_) ?_ | refine Val.t ?_ | refine Val.d ?_ | refine Mm.mk ?_ | refine CallVC.pure rfl (c27) ?_ | refine CallVC.pure rfl (hw) ?_ | refine CallVC0.pure rfl (c27) ?_ | refine CallVC0.pure rfl (hw) ?_ | (refine Br.mk (fun h => ?_) (fun h => ?_) <;> first | (exfalso; omega; done) | (exfalso; simp at h; done) | (exfalso; simp [hp27] at h; done) | skip))
        all_goals first | (exfalso; omega) | skip
        all_goals
          repeat refine Mm.mk ?_
          refine EndVC.mk _ rfl _ _ ⟨rfl, rfl⟩ ?_
          refine ⟨[], rfl, rfl, ?_, ?_⟩ <;> repeat' (first | exact trivial | exact rfl | exact Iff.rfl | apply And.intro)
        all_goals exact ⟨fun _ => trivial, fun _ => ⟨hp27, trivial⟩⟩
      · repeat' ((conv => whnf); first | refine Rng.g ?_ | refine Ob.g ?_ | refine Ob.e ?_ | refine Ob.m ?_ | refine Ob.mk (Nat.le_of_ble_eq_true rfl) ?_ | refine JoinVC.on ?_ | refine Nils.mk (fun h => ?_) ?_ | refine Val.t ?_ | refine Val.d ?_ | refine Mm.mk ?_ | refine CallVC.pure rfl (c27) ?_ | refine CallVC.pure rfl (hw) ?_ | refine CallVC0.pure rfl (c27) ?_ | refine CallVC0.pure rfl (hw) ?_ | (refine Br.mk (fun h => ?_) (fun h => ?_) <;> first | (exfalso; omega; done) | (exfalso; simp at h; done) | (exfalso; simp [hp27] at h; done) | skip))
        all_goals first | (exfalso; omega) | skip
        all_goals
          repeat refine Mm.mk ?_
          refine EndVC.mk _ rfl _ _ ⟨rfl, rfl⟩ ?_
          refine ⟨[], rfl, rfl, ?_, ?_⟩ <;> repeat' (first | exact trivial | exact rfl | exact Iff.rfl | apply And.intro)
        all_goals exact ⟨fun _ => trivial, fun _ => ⟨hp27, trivial⟩⟩
    have hnm : ∀ k : Nat, k < used → onN P k l.length ≠ [] := fun k hk he => by
      obtain ⟨j, h1, h2⟩ := hN.all k hk
      have e : onN P k l.length = onL P k := by unfold onL; rw [hPl]; rfl
      have := mem_onL.2 ⟨j, h1, h2, rfl⟩
      rw [← e, he] at this
      cases this
    repeat' ((conv => whnf); first | refine Rng.g ?_ | refine Ob.g ?_ | refine Ob.e ?_ | refine Ob.m ?_ | refine Ob.mk (Nat.le_of_ble_eq_true rfl) ?_ | refine JoinVC.on ?_ | refine Nils.mk (fun h => ?_) ?_ | refine Val.t ?_ | refine Val.d ?_ | refine Mm.mk ?_ | (refine Br.mk (fun h => ?_) (fun h => ?_) <;> first | (exfalso; omega; done) | (exfalso; simp at h; done) | skip))
    refine LoopVC.mk (fun n st => ∃ (k : Nat) (B : Bool), k ≤ used ∧ n = used - k ∧ (B = true → ∀ j : Nat, j < k → sideOK f l P j) ∧ st = ⟨0, envA 158 [(1, .x (lSng l)), (2, .x (lU b)), (3, .x (.one (.ptr 0 0))), (7, .x (.one (.lst false [.int .i64] (i64s q0)))), (8, .x (I (s : Int))), (9, .x (I 0)), (10, .x (I N)), (11, .x (I C)), (12, .x (.one (.own 1))), (13, .int .i64 (used : Int)), (16, .x (.one (.bool B))), (17, .int .i64 (k : Int))], [some (bFm f), some (rowOd P)]⟩) _ _ ⟨0, true, Nat.zero_le _, rfl, fun _ j hj => absurd hj (Nat.not_lt_zero j), rfl⟩ ?_ ?_
    · refine ⟨[some 0, some 1], rfl, rfl, ?_, ?_⟩ <;> repeat' (first | exact trivial | exact rfl | exact Iff.rfl | apply And.intro)
    clear hn n
    rintro n _ ⟨k, B, hk, hn, hB, rfl⟩
    by_cases hk' : k < used
    rotate_left
    · have ek : k = used := by omega
      subst ek
      cases B with
      | true =>
        have hs0 : ¬ k < s := fun h => packR_none (hno k h) P (hpk (hB rfl))
        rcases few with ⟨rfl, hle⟩ | ⟨rfl, hl0⟩
        · repeat' ((conv => whnf); first | refine Rng.g ?_ | refine Ob.g ?_ | refine Ob.e ?_ | refine Ob.m ?_ | refine Ob.mk (Nat.le_of_ble_eq_true rfl) ?_ | refine JoinVC.on ?_ | refine Nils.mk (fun h => ?_) ?_ | refine Val.t ?_ | refine Val.d ?_ | refine Mm.mk ?_ | refine CallVC.pure rfl (c27) ?_ | refine CallVC.pure rfl (hw) ?_ | refine CallVC0.pure rfl (c27) ?_ | refine CallVC0.pure rfl (hw) ?_ | (refine Br.mk (fun h => ?_) (fun h => ?_) <;> first | (exfalso; omega; done) | (exfalso; simp at h; done) | (exfalso; simp [hp27] at h; done) | skip))
          all_goals first | (exfalso; omega) | skip
          all_goals
            repeat refine Mm.mk ?_
            refine EndVC.mk _ rfl _ _ ⟨rfl, rfl⟩ ?_
            refine ⟨[], rfl, rfl, ?_, ?_⟩ <;> repeat' (first | exact trivial | exact rfl | exact Iff.rfl | apply And.intro)
          all_goals exact ⟨fun _ => trivial, fun _ => ⟨hp27, trivial⟩⟩
        · repeat' ((conv => whnf); first | refine Rng.g ?_ | refine Ob.g ?_ | refine Ob.e ?_ | refine Ob.m ?_ | refine Ob.mk (Nat.le_of_ble_eq_true rfl) ?_ | refine JoinVC.on ?_ | refine Nils.mk (fun h => ?_) ?_ | refine Val.t ?_ | refine Val.d ?_ | refine Mm.mk ?_ | refine CallVC.pure rfl (c27) ?_ | refine CallVC.pure rfl (hw) ?_ | refine CallVC0.pure rfl (c27) ?_ | refine CallVC0.pure rfl (hw) ?_ | (refine Br.mk (fun h => ?_) (fun h => ?_) <;> first | (exfalso; omega; done) | (exfalso; simp at h; done) | (exfalso; simp [hp27] at h; done) | skip))
          all_goals first | (exfalso; omega) | skip
          all_goals
            repeat refine Mm.mk ?_
            refine EndVC.mk _ rfl _ _ ⟨rfl, rfl⟩ ?_
            refine ⟨[], rfl, rfl, ?_, ?_⟩ <;> repeat' (first | exact trivial | exact rfl | exact Iff.rfl | apply And.intro)
          all_goals exact ⟨fun _ => trivial, fun _ => ⟨hp27, trivial⟩⟩
      | false =>
        rcases few with ⟨rfl, hle⟩ | ⟨rfl, hl0⟩
        · repeat' ((conv => whnf); first | refine Rng.g ?_ | refine Ob.g ?_ | refine Ob.e ?_ | refine Ob.m ?_ | refine Ob.mk (Nat.le_of_ble_eq_true rfl) ?_ | refine JoinVC.on ?_ | refine Nils.mk (fun h => ?_) ?_ | refine Val.t ?_ | refine Val.d ?_ | refine Mm.mk ?_ | refine CallVC.pure rfl (c27) ?_ | refine CallVC.pure rfl (hw) ?_ | refine CallVC0.pure rfl (c27) ?_ | refine CallVC0.pure rfl (hw) ?_ | (refine Br.mk (fun h => ?_) (fun h => ?_) <;> first | (exfalso; omega; done) | (exfalso; simp at h; done) | (exfalso; simp [hp27] at h; done) | skip))
          all_goals first | (exfalso; omega) | skip
          all_goals
            repeat refine Mm.mk ?_
            refine EndVC.mk _ rfl _ _ ⟨rfl, rfl⟩ ?_
            refine ⟨[], rfl, rfl, ?_, ?_⟩ <;> repeat' (first | exact trivial | exact rfl | exact Iff.rfl | apply And.intro)
          all_goals exact ⟨fun _ => trivial, fun _ => ⟨hp27, trivial⟩⟩
        · repeat' ((conv => whnf); first | refine Rng.g ?_ | refine Ob.g ?_ | refine Ob.e ?_ | refine Ob.m ?_ | refine Ob.mk (Nat.le_of_ble_eq_true rfl) ?_ | refine JoinVC.on ?_ | refine Nils.mk (fun h => ?_) ?_ | refine Val.t ?_ | refine Val.d ?_ | refine Mm.mk ?_ | refine CallVC.pure rfl (c27) ?_ | refine CallVC.pure rfl (hw) ?_ | refine CallVC0.pure rfl (c27) ?_ | refine CallVC0.pure rfl (hw) ?_ | (refine Br.mk (fun h => ?_) (fun h => ?_) <;> first | (exfalso; omega; done) | (exfalso; simp at h; done) | (exfalso; simp [hp27] at h; done) | skip))
          all_goals first | (exfalso; omega) | skip
          all_goals
            repeat refine Mm.mk ?_
            refine EndVC.mk _ rfl _ _ ⟨rfl, rfl⟩ ?_
            refine ⟨[], rfl, rfl, ?_, ?_⟩ <;> repeat' (first | exact trivial | exact rfl | exact Iff.rfl | apply And.intro)
          all_goals exact ⟨fun _ => trivial, fun _ => ⟨hp27, trivial⟩⟩
    have hne := hnm k hk'
    repeat' ((conv => whnf); first | refine Rng.g ?_ | refine Ob.g ?_ | refine Ob.e ?_ | refine Ob.m ?_ | refine Ob.mk (Nat.le_of_ble_eq_true rfl) ?_ | refine JoinVC.on ?_ | refine Nils.mk (fun h => ?_) ?_ | refine Val.t ?_ | refine Val.d ?_ | refine Mm.mk ?_ | (refine Br.mk (fun h => ?_) (fun h => ?_) <;> first | (exfalso; omega; done) | (exfalso; simp at h; done) | skip))
    refine LoopVC.mk (fun n st => ∃ (j : Nat), j ≤ l.length ∧ n = l.length - j ∧ ((onN P k j = [] ∧ st = ⟨0, envA 158 [(1, .x (lSng l)), (2, .x (lU b)), (3, .x (.one (.ptr 0 0))), (7, .x (.one (.lst false [.int .i64] (i64s q0)))), (8, .x (I (s : Int))), (9, .x (I 0)), (10, .x (I N)), (11, .x (I C)), (12, .x (.one (.own 1))), (13, .int .i64 (used : Int)), (16, .x (.one (.bool B))), (17, .int .i64 (k : Int)), (18, .x (.one .nils)), (19, .int .i64 (j : Int))], [some (bFm f), some (rowOd P)]⟩) ∨ st = ⟨0, envA 158 [(1, .x (lSng l)), (2, .x (lU b)), (3, .x (.one (.ptr 0 0))), (7, .x (.one (.lst false [.int .i64] (i64s q0)))), (8, .x (I (s : Int))), (9, .x (I 0)), (10, .x (I N)), (11, .x (I C)), (12, .x (.one (.own 1))), (13, .int .i64 (used : Int)), (16, .x (.one (.bool B))), (17, .int .i64 (k : Int)), (18, .x (.one (.own 2))), (19, .int .i64 (j : Int))], [some (bFm f), some (rowOd P), some (.row 40 false KSng (sngA (subN l P k j)))]⟩)) _ _ ⟨0, Nat.zero_le _, rfl, .inl ⟨rfl, rfl⟩⟩ ?_ ?_
    · refine ⟨[some 0, some 1], rfl, rfl, ?_, ?_⟩ <;> repeat' (first | exact trivial | exact rfl | exact Iff.rfl | apply And.intro)
    rintro n2 _ ⟨j, hj, hn2, h⟩
    have lS := sngA_len (subN l P k j)
    have lS2 := subN_len l P k j
    have lS3 := onN_le P k j
    by_cases hj' : j < l.length
    · have gj : rI (i64s P) (j : Int).toNat 0 = P.getD j 0 := by rw [Int.toNat_natCast]; exact i64s_get P j
      by_cases hpk : P.getD j 0 = k
      · have es : subN l P k (j + 1) = subN l P k j ++ [l.getD j g0] := by
          unfold subN
          rw [onN_yes hpk, List.map_append, List.map_cons, List.map_nil, Int.toNat_natCast]
        have es2 := (sngA_snoc (subN l P k j) (l.getD j g0)).symm
        rw [← es] at es2
        have c0 : rI (sngA l) (j : Int).toNat 0 = (l.getD j g0).long := by rw [Int.toNat_natCast]; exact sngA_0 l _
        have c1 : rI (sngA l) (j : Int).toNat (0 + 1) = (l.getD j g0).pitch := by rw [Int.toNat_natCast]; exact sngA_1 l _
        have c2 : rI (sngA l) (j : Int).toNat (0 + 1 + 1) = (l.getD j g0).least := by rw [Int.toNat_natCast]; exact sngA_2 l _
        rcases h with ⟨h0, rfl⟩ | rfl
        · have hz : subN l P k j = [] := by unfold subN; rw [h0]; rfl
          rw [hz] at es2
          repeat' ((conv => whnf); first | rw [gj] | rw [c0] | rw [c1] | rw [c2] | refine Rng.g ?_ | refine Ob.g ?_ | refine Ob.e ?_ | refine Ob.m ?_ | refine Ob.mk (Nat.le_of_ble_eq_true rfl) ?_ | refine JoinVC.on ?_ | refine Nils.mk (fun h => ?_) ?_ | refine Val.t ?_ | refine Val.d ?_ | refine Mm.mk ?_ | (refine Br.mk (fun h => ?_) (fun h => ?_) <;> first | (exfalso; omega; done) | (exfalso; simp at h; done) | skip))
          refine Back.mk (l.length - (j + 1)) _ (by omega) ⟨j + 1, by omega, rfl, .inr rfl⟩ ?_
          rw [← es2]
          refine ⟨[some 0, some 1, some 3], rfl, rfl, ?_, ?_⟩ <;> repeat' (first | exact trivial | exact rfl | exact Iff.rfl | apply And.intro)
        · repeat' ((conv => whnf); first | rw [gj] | rw [c0] | rw [c1] | rw [c2] | refine Rng.g ?_ | refine Ob.g ?_ | refine Ob.e ?_ | refine Ob.m ?_ | refine Ob.mk (Nat.le_of_ble_eq_true rfl) ?_ | refine JoinVC.on ?_ | refine Nils.mk (fun h => ?_) ?_ | refine Val.t ?_ | refine Val.d ?_ | refine Mm.mk ?_ | (refine Br.mk (fun h => ?_) (fun h => ?_) <;> first | (exfalso; omega; done) | (exfalso; simp at h; done) | skip))
          repeat refine Mm.mk ?_
          refine Ob.mk (by rw [eb40]; simp only [List.length_cons, List.length_nil]; omega) ?_
          repeat' ((conv => whnf); first | rw [es2] | refine Rng.g ?_ | refine Ob.g ?_ | refine Ob.e ?_ | refine Ob.m ?_ | refine Ob.mk (Nat.le_of_ble_eq_true rfl) ?_ | refine JoinVC.on ?_ | refine Nils.mk (fun h => ?_) ?_ | refine Val.t ?_ | refine Val.d ?_ | refine Mm.mk ?_ | (refine Br.mk (fun h => ?_) (fun h => ?_) <;> first | (exfalso; omega; done) | (exfalso; simp at h; done) | skip))
          refine Back.mk (l.length - (j + 1)) _ (by omega) ⟨j + 1, by omega, rfl, .inr rfl⟩ ?_
          refine ⟨[some 0, some 1, some 4], rfl, rfl, ?_, ?_⟩ <;> repeat' (first | exact trivial | exact rfl | exact Iff.rfl | apply And.intro)
      · have es : subN l P k (j + 1) = subN l P k j := by
          unfold subN
          rw [onN_no hpk]
        rcases h with ⟨h0, rfl⟩ | rfl
        · repeat' ((conv => whnf); first | rw [gj] | refine Rng.g ?_ | refine Ob.g ?_ | refine Ob.e ?_ | refine Ob.m ?_ | refine Ob.mk (Nat.le_of_ble_eq_true rfl) ?_ | refine JoinVC.on ?_ | refine Nils.mk (fun h => ?_) ?_ | refine Val.t ?_ | refine Val.d ?_ | refine Mm.mk ?_ | (refine Br.mk (fun h => ?_) (fun h => ?_) <;> first | (exfalso; omega; done) | (exfalso; simp at h; done) | skip))
          refine Back.mk (l.length - (j + 1)) _ (by omega) ⟨j + 1, by omega, rfl, .inl ⟨by rw [onN_no hpk]; exact h0, rfl⟩⟩ ?_
          refine ⟨[some 0, some 1], rfl, rfl, ?_, ?_⟩ <;> repeat' (first | exact trivial | exact rfl | exact Iff.rfl | apply And.intro)
        · repeat' ((conv => whnf); first | rw [gj] | refine Rng.g ?_ | refine Ob.g ?_ | refine Ob.e ?_ | refine Ob.m ?_ | refine Ob.mk (Nat.le_of_ble_eq_true rfl) ?_ | refine JoinVC.on ?_ | refine Nils.mk (fun h => ?_) ?_ | refine Val.t ?_ | refine Val.d ?_ | refine Mm.mk ?_ | (refine Br.mk (fun h => ?_) (fun h => ?_) <;> first | (exfalso; omega; done) | (exfalso; simp at h; done) | skip))
          refine Back.mk (l.length - (j + 1)) _ (by omega) ⟨j + 1, by omega, rfl, .inr rfl⟩ ?_
          rw [es]
          refine ⟨[some 0, some 1, some 2], rfl, rfl, ?_, ?_⟩ <;> repeat' (first | exact trivial | exact rfl | exact Iff.rfl | apply And.intro)
    have ej : j = l.length := by omega
    subst ej
    rcases h with ⟨h0, rfl⟩ | rfl
    · exact absurd h0 hne
    repeat' ((conv => whnf); first | refine Rng.g ?_ | refine Ob.g ?_ | refine Ob.e ?_ | refine Ob.m ?_ | refine Ob.mk (Nat.le_of_ble_eq_true rfl) ?_ | refine JoinVC.on ?_ | refine Nils.mk (fun h => ?_) ?_ | refine Val.t ?_ | refine Val.d ?_ | refine Mm.mk ?_ | (refine Br.mk (fun h => ?_) (fun h => ?_) <;> first | (exfalso; omega; done) | (exfalso; simp at h; done) | skip))
    conv => whnf
    refine CallVC.mk [] _ _ _ rfl rfl rfl (s18 f (subN l P k l.length) hI (by omega)) (fun r m' h' => ?_)
    cases h' with
    | bad he hr hm => exact absurd (bothE_ok hf (sub_ok hg hPl k)) he
    | none _ _ hnl hr hm =>
      subst hr hm
      cases B with
      | true =>
        repeat' ((conv => whnf); first | refine Rng.g ?_ | refine Ob.g ?_ | refine Ob.e ?_ | refine Ob.m ?_ | refine Ob.mk (Nat.le_of_ble_eq_true rfl) ?_ | refine JoinVC.on ?_ | refine Nils.mk (fun h => ?_) ?_ | refine Val.t ?_ | refine Val.d ?_ | refine Mm.mk ?_ | (refine Br.mk (fun h => ?_) (fun h => ?_) <;> first | (exfalso; omega; done) | (exfalso; simp at h; done) | skip))
        refine Back.mk (used - (k + 1)) _ (by omega) ⟨k + 1, false, by omega, rfl, fun h => (by cases h), rfl⟩ ?_
        refine ⟨[some 0, some 1], rfl, rfl, ?_, ?_⟩ <;> repeat' (first | exact trivial | exact rfl | exact Iff.rfl | apply And.intro)
      | false =>
        repeat' ((conv => whnf); first | refine Rng.g ?_ | refine Ob.g ?_ | refine Ob.e ?_ | refine Ob.m ?_ | refine Ob.mk (Nat.le_of_ble_eq_true rfl) ?_ | refine JoinVC.on ?_ | refine Nils.mk (fun h => ?_) ?_ | refine Val.t ?_ | refine Val.d ?_ | refine Mm.mk ?_ | (refine Br.mk (fun h => ?_) (fun h => ?_) <;> first | (exfalso; omega; done) | (exfalso; simp at h; done) | skip))
        refine Back.mk (used - (k + 1)) _ (by omega) ⟨k + 1, false, by omega, rfl, fun h => (by cases h), rfl⟩ ?_
        refine ⟨[some 0, some 1], rfl, rfl, ?_, ?_⟩ <;> repeat' (first | exact trivial | exact rfl | exact Iff.rfl | apply And.intro)
    | ok _ _ hL hr hm =>
      subst hr hm
      have hsd := sub_side hf hg hPl hL
      have hB2 : B = true → ∀ j : Nat, j < k + 1 → sideOK f l P j := fun h j hj => by
        rcases Nat.lt_succ_iff_lt_or_eq.1 hj with h' | rfl
        · exact hB h j h'
        · exact hsd
      cases B with
      | true =>
        repeat' ((conv => whnf); first | refine Rng.g ?_ | refine Ob.g ?_ | refine Ob.e ?_ | refine Ob.m ?_ | refine Ob.mk (Nat.le_of_ble_eq_true rfl) ?_ | refine JoinVC.on ?_ | refine Nils.mk (fun h => ?_) ?_ | refine Val.t ?_ | refine Val.d ?_ | refine Mm.mk ?_ | (refine Br.mk (fun h => ?_) (fun h => ?_) <;> first | (exfalso; omega; done) | (exfalso; simp at h; done) | skip))
        refine Back.mk (used - (k + 1)) _ (by omega) ⟨k + 1, true, by omega, rfl, hB2, rfl⟩ ?_
        refine ⟨[some 0, some 1], rfl, rfl, ?_, ?_⟩ <;> repeat' (first | exact trivial | exact rfl | exact Iff.rfl | apply And.intro)
      | false =>
        repeat' ((conv => whnf); first | refine Rng.g ?_ | refine Ob.g ?_ | refine Ob.e ?_ | refine Ob.m ?_ | refine Ob.mk (Nat.le_of_ble_eq_true rfl) ?_ | refine JoinVC.on ?_ | refine Nils.mk (fun h => ?_) ?_ | refine Val.t ?_ | refine Val.d ?_ | refine Mm.mk ?_ | (refine Br.mk (fun h => ?_) (fun h => ?_) <;> first | (exfalso; omega; done) | (exfalso; simp at h; done) | skip))
        refine Back.mk (used - (k + 1)) _ (by omega) ⟨k + 1, false, by omega, rfl, hB2, rfl⟩ ?_
        refine ⟨[some 0, some 1], rfl, rfl, ?_, ?_⟩ <;> repeat' (first | exact trivial | exact rfl | exact Iff.rfl | apply And.intro)
end Go.Sx

namespace Go.Sx
open Go Go.Proofs
set_option maxRecDepth 10000
set_option maxHeartbeats 16000000
theorem s8 (f : Fmt) (l : List Sng) (b : List Int) (hb : ∀ j, 0 ≤ b.getD j 0 ∧ b.getD j 0 ≤ 255) : PSpec Try.prog 8 [f.x, lSng l, lU b] (xP True) := by
  have c14 := s14 f l 7
  have hw := s11
  by_cases hV : (l.length : Int) ≤ 7 ∧ FmtOK f ∧ SngsOK l
  rotate_left
  · refine spec_of pMix (O := []) Try.func8 (c := bodyOf Try.f8) rfl (by kernel_rfl) (by kernel_rfl) Try.ntmps8 (res := [.tmp 6]) (by kernel_rfl) ?_
    repeat' ((conv => whnf); first | refine Rng.g ?_ | refine Ob.g ?_ | refine Ob.e ?_ | refine Ob.m ?_ | refine Ob.mk (Nat.le_of_ble_eq_true rfl) ?_ | refine JoinVC.on ?_ | refine Nils.mk (fun h => ?_) ?_ | refine Val.t ?_ | refine Val.d ?_ | refine Mm.mk ?_ | refine CallVC.pure rfl (c14) ?_ | refine CallVC.pure rfl (hw) ?_ | refine CallVC0.pure rfl (c14) ?_ | refine CallVC0.pure rfl (hw) ?_ | (refine Br.mk (fun h => ?_) (fun h => ?_) <;> first | (exfalso; omega; done) | (exfalso; simp at h; done) | (exfalso; simp [hV] at h; done) | skip))
    all_goals
      repeat refine Mm.mk ?_
      refine EndVC.mk _ rfl _ _ ⟨rfl, rfl⟩ ?_
      refine ⟨[], rfl, rfl, ?_, ?_⟩ <;> repeat' (first | exact trivial | exact rfl | exact Iff.rfl | apply And.intro)
  obtain ⟨h7, hf, hg⟩ := hV
  have h8 : l.length ≤ 8 := by omega
  have hI : f.nm.size ≤ 140737488355328 := by have := hf.nm.2.1; omega
  by_cases hx : ∃ s, s ≤ l.length ∧ (∀ j, j < s → packR f l j = none) ∧ ∃ q, packR f l s = some q
  · obtain ⟨s, hs, hno, q, hq⟩ := hx
    refine s8s f l b hb ⟨h7, hf, hg⟩ s q hno hq ((s22 f l hI).mono fun r m' h => ?_)
    cases h with
    | bad he hr hm => exact absurd (fewE_ok hf hg h8) he
    | none _ _ _ hn hr hm => rw [hn s hs] at hq; cases hq
    | some _ _ _ s' q' hs' hno' hq' hr hm =>
      obtain ⟨rfl, rfl⟩ := packs_same hno hq hno' hq'
      exact ⟨hr, hm⟩
  · have hno : ∀ s, s ≤ l.length → packR f l s = none := fun s => by
      induction s using Nat.strongRecOn with
      | ind s ih =>
        intro hs
        cases hq : packR f l s with
        | none => rfl
        | some q => exact absurd ⟨s, hs, fun j hj => ih j hj (by omega), q, hq⟩ hx
    refine s8n f l b hb ⟨h7, hf, hg⟩ hno ((s22 f l hI).mono fun r m' h => ?_)
    cases h with
    | bad he hr hm => exact absurd (fewE_ok hf hg h8) he
    | none _ _ _ hn hr hm => exact ⟨hr, hm⟩
    | some _ _ _ s' q' hs' hno' hq' hr hm => rw [hno s' hs'] at hq'; cases hq'
end Go.Sx

namespace Go.Sx
open Go Go.Proofs
set_option maxRecDepth 10000
/-! ### Rows read as tracks, formats, faces -/
theorem wfr_of : ∀ {ks : List CK} {r : List Cell}, r.length = ks.length → (∀ (j : Nat) k c, ks[j]? = some k → r[j]? = some c → Wf k c) → WfR ks r
  | [], [], _, _ => .nil
  | [], _ :: _, h, _ => by simp at h
  | _ :: _, [], h, _ => by simp at h
  | k :: ks, c :: cs, h, hw => .cons (hw 0 k c rfl rfl) (wfr_of (by simpa using h) fun j k' c' h1 h2 => hw (j + 1) k' c' (by simpa using h1) (by simpa using h2))
theorem wf_map {α : Type} {ks : List CK} {row : α → List Cell} {p : α → Prop} (hrow : ∀ r, WfR ks r → ∃ x, r = row x ∧ p x) {a : Arr} (h : Wf (.sl ks) (.sl a)) : ∃ l : List α, a = l.map row ∧ ∀ x ∈ l, p x := by
  cases h with
  | sl hl hr hw =>
    clear hl
    induction a with
    | nil => exact ⟨[], rfl, fun x hx => by simp at hx⟩
    | cons r a ih =>
      obtain ⟨l, rfl, h2⟩ := ih (fun r h => hr r (List.mem_cons_of_mem _ h)) (fun r h => hw r (List.mem_cons_of_mem _ h))
      obtain ⟨x, rfl, h3⟩ := hrow r (wfr_of (hr r (List.mem_cons_self ..)) (hw r (List.mem_cons_self ..)))
      exact ⟨x :: l, rfl, fun y hy => by rcases List.mem_cons.1 hy with rfl | hy; (· exact h3); exact h2 y hy⟩
theorem mem_getD {α : Type} {p : α → Prop} {l : List α} {d : α} (h : ∀ x ∈ l, p x) (hd : p d) (j : Nat) : p (l.getD j d) := by
  rw [List.getD_eq_getElem?_getD]
  cases hx : l[j]? with
  | none => exact hd
  | some x => exact h x (List.mem_of_getElem? hx)
def Sng.inR (g : Sng) : Prop := Go.Sx.inR .i64 g.long ∧ Go.Sx.inR .i64 g.pitch ∧ Go.Sx.inR .i64 g.least
theorem wf_sngs {a : Arr} (h : Wf (.sl KSng) (.sl a)) : ∃ l : List Sng, a = sngA l ∧ ∀ g ∈ l, g.inR := by
  obtain ⟨l, h1, h2⟩ := wf_map (row := fun g : Sng => [.int g.long, .int g.pitch, .int g.least]) (p := Sng.inR) (fun r hr => by
    obtain ⟨c0, _, rfl, g0, h1⟩ := hr.inv
    obtain ⟨n0, rfl, i0⟩ := g0.int_inv
    obtain ⟨c1, _, rfl, g1, h2⟩ := h1.inv
    obtain ⟨n1, rfl, i1⟩ := g1.int_inv
    obtain ⟨c2, _, rfl, g2, h3⟩ := h2.inv
    obtain ⟨n2, rfl, i2⟩ := g2.int_inv
    cases h3.nil_inv
    exact ⟨⟨n0, n1, n2⟩, rfl, i0, i1, i2⟩) h
  exact ⟨l, h1, h2⟩
theorem u8_getD {l : List Int} (h : l.length ≤ maxLen ∧ ∀ x ∈ l, inR .u8 x) : ∀ j, 0 ≤ l.getD j 0 ∧ l.getD j 0 ≤ 255 :=
  mem_getD (p := fun x => 0 ≤ x ∧ x ≤ 255) (fun x hx => by have := h.2 x hx; simpa [inR] using this) (by decide)
end Go.Sx

namespace Go.Sx
open Go Go.Proofs
set_option maxRecDepth 10000
set_option maxHeartbeats 8000000
/-! ### The cost of a plan -/
structure Fc where
  fm : Int
  mn : Int
@[reducible] def Fc.x (a : Fc) : XV := .agg [.int .i64 a.fm, .int .i64 a.mn]
def Fc.ok (n : Nat) (a : Fc) : Prop := (0 ≤ a.fm ∧ a.fm < n) ∧ 1 ≤ a.mn ∧ a.mn ≤ 24
instance (n : Nat) (a : Fc) : Decidable (a.ok n) := by unfold Fc.ok; exact inferInstance
def Fc.p (a : Fc) : Nat × Nat := (a.fm.toNat, a.mn.toNat)
end Go.Sx

namespace Go.Sx
open Go Go.Proofs
set_option maxRecDepth 10000
end Go.Sx
