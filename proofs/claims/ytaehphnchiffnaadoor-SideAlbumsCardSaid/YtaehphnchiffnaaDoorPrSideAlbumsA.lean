import Derived.Test.YtaehphnchiffnaaDoorXv
import Derived.Test.YtaehphnchiffnaaDoorProg
import Derived.Laws.Bits64b
namespace Go.Sx
open Go Go.Proofs
set_option maxRecDepth 10000
set_option maxHeartbeats 4000000
/-! ### Names -/
def okC (c : Int) : Prop := (97 ≤ c ∧ c ≤ 122) ∨ (48 ≤ c ∧ c ≤ 57)
def chr (s : ByteArray) (j : Nat) : Int := ((s.data.toList.getD j 0).toNat : Int)
def nameOK (s : ByteArray) : Prop := 1 ≤ s.size ∧ s.size ≤ 20 ∧ ∀ j, j < s.size → okC (chr s j)
theorem gset {α : Type} (l : List α) (i j : Nat) (a d : α) (h : i < l.length) : (l.set i a).getD j d = if j = i then a else l.getD j d := by
  simp only [List.getD_eq_getElem?_getD, List.getElem?_set]
  by_cases e : i = j
  · subst e; simp [h]
  · rw [if_neg e, if_neg (fun h => e h.symm)]
/-! ### A groove without a signal, and a groove in its band -/
/-! ### Sorting by insertion -/
def swp (O : List Int) (j : Nat) : List Int := (O.set (j + 1) (O.getD j 0)).set j (O.getD (j + 1) 0)
def ins (lt : Int → Int → Bool) (O : List Int) : Nat → List Int
  | 0 => O
  | j + 1 => if lt (O.getD (j + 1) 0) (O.getD j 0) = true then ins lt (swp O j) j else O
def isr (lt : Int → Int → Bool) (O : List Int) : Nat → List Int
  | 0 => O
  | k + 1 => ins lt (isr lt O k) (k + 1)
theorem swp_len (O : List Int) (j : Nat) : (swp O j).length = O.length := by simp [swp]
theorem ins_len (lt : Int → Int → Bool) : ∀ (j : Nat) (O : List Int), (ins lt O j).length = O.length
  | 0, O => rfl
  | j + 1, O => by
    unfold ins
    split
    · rw [ins_len lt j, swp_len]
    · rfl
theorem isr_len (lt : Int → Int → Bool) (O : List Int) : ∀ k, (isr lt O k).length = O.length
  | 0 => rfl
  | k + 1 => by
    unfold isr
    rw [ins_len, isr_len lt O k]
/-- Each number below n, once. -/
structure IdxOK (O : List Int) (n : Nat) : Prop where
  len : O.length = n
  rng : ∀ i, i < n → 0 ≤ O.getD i 0 ∧ O.getD i 0 < n
  inj : ∀ i j, i < n → j < n → O.getD i 0 = O.getD j 0 → i = j
def sgF (j i : Nat) : Nat := if i = j then j + 1 else if i = j + 1 then j else i
theorem swp_get (O : List Int) {j : Nat} (h : j + 1 < O.length) (i : Nat) : (swp O j).getD i 0 = O.getD (sgF j i) 0 := by
  unfold swp sgF
  rw [gset _ _ _ _ _ (by simp; omega), gset _ _ _ _ _ h]
  split
  · rfl
  · split <;> rfl
theorem sg_lt {n j i : Nat} (hj : j + 1 < n) (hi : i < n) : sgF j i < n := by unfold sgF; split <;> (try split) <;> omega
theorem sg_inj {j i k : Nat} (h : sgF j i = sgF j k) : i = k := by unfold sgF at h; (repeat' split at h) <;> omega
theorem IdxOK.swp {O : List Int} {n : Nat} (h : IdxOK O n) {j : Nat} (hj : j + 1 < n) : IdxOK (Go.Sx.swp O j) n := by
  have hl := h.len
  have g := swp_get O (j := j) (by omega)
  refine ⟨by rw [swp_len]; exact hl, fun i hi => ?_, fun i k hi hk => ?_⟩
  · rw [g]
    exact h.rng _ (sg_lt hj hi)
  · rw [g, g]
    exact fun e => sg_inj (h.inj _ _ (sg_lt hj hi) (sg_lt hj hk) e)
theorem IdxOK.ins {lt : Int → Int → Bool} {n : Nat} : ∀ (j : Nat) {O : List Int}, IdxOK O n → j < n → IdxOK (Go.Sx.ins lt O j) n
  | 0, O, h, _ => h
  | j + 1, O, h, hj => by
    unfold Go.Sx.ins
    split
    · exact IdxOK.ins j (h.swp hj) (by omega)
    · exact h
theorem IdxOK.isr {lt : Int → Int → Bool} {n : Nat} {O : List Int} (h : IdxOK O n) : ∀ k, k < n → IdxOK (Go.Sx.isr lt O k) n
  | 0, _ => h
  | k + 1, hk => by
    unfold Go.Sx.isr
    exact IdxOK.ins (k + 1) (h.isr k (by omega)) hk
def spanL (i n : Nat) : List Int := (List.range n).map fun k => ((i + k : Nat) : Int)
theorem spanL_len (i n : Nat) : (spanL i n).length = n := by simp [spanL]
theorem spanL_get (i n k : Nat) (h : k < n) : (spanL i n).getD k 0 = ((i + k : Nat) : Int) := by simp [spanL, List.getD_eq_getElem?_getD, List.getElem?_range h]
theorem spanL_succ (i n : Nat) : spanL i (n + 1) = spanL i n ++ [((i + n : Nat) : Int)] := by simp [spanL, List.range_succ]
theorem span_idx (n : Nat) : IdxOK (spanL 0 n) n := ⟨spanL_len 0 n, fun i hi => by rw [spanL_get _ _ _ hi]; omega, fun i j hi hj e => by rw [spanL_get _ _ _ hi, spanL_get _ _ _ hj] at e; omega⟩
/-! ### The bands of a side -/
structure Fmt where
  nm : ByteArray
  outer : Int
  inner : Int
  per : Int
  lead : Int
  gap : Int
  tail : Int
  cost : Int
structure FmtOK (f : Fmt) : Prop where
  nm : nameOK f.nm
  outer : 1 ≤ f.outer ∧ f.outer ≤ 4194304
  inner : 0 ≤ f.inner ∧ f.inner ≤ f.outer - 1
  per : 1 ≤ f.per ∧ f.per ≤ 65536
  cost : 0 ≤ f.cost ∧ f.cost ≤ 1048576
  lead : 0 ≤ f.lead ∧ f.lead ≤ 4194304
  gap : 0 ≤ f.gap ∧ f.gap ≤ 4194304
  tail : 0 ≤ f.tail ∧ f.tail ≤ 4194304
structure Sng where
  long : Int
  pitch : Int
  least : Int
abbrev g0 : Sng := ⟨0, 0, 0⟩
def Sng.ok (g : Sng) : Prop := (1 ≤ g.long ∧ g.long ≤ 16777216) ∧ (1 ≤ g.pitch ∧ g.pitch ≤ 4096) ∧ (0 ≤ g.least ∧ g.least ≤ 4194304)
structure SngsOK (l : List Sng) : Prop where
  len : l.length ≤ 24
  each : ∀ j, j < l.length → (l.getD j g0).ok
def widF (f : Fmt) (g : Sng) : Int := g.pitch * ((g.long + f.per - 1) / f.per)
theorem wid_bd {f : Fmt} {g : Sng} (hp : 1 ≤ f.per) (hg : g.ok) : (1 ≤ (g.long + f.per - 1) / f.per ∧ (g.long + f.per - 1) / f.per ≤ 16777216) ∧ 1 ≤ widF f g ∧ widF f g ≤ 68719476736 := by
  obtain ⟨⟨l1, l2⟩, ⟨p1, p2⟩, _⟩ := hg
  have h1 : 1 ≤ (g.long + f.per - 1) / f.per := by
    have := Int.add_mul_ediv_left (g.long - 1) 1 (show f.per ≠ 0 by omega)
    rw [show g.long - 1 + f.per * 1 = g.long + f.per - 1 by omega] at this
    have h2 : 0 ≤ (g.long - 1) / f.per := Int.ediv_nonneg (by omega) (by omega)
    omega
  have h2 : (g.long + f.per - 1) / f.per ≤ 16777216 := by
    have := Int.add_mul_ediv_left (g.long - 1) 1 (show f.per ≠ 0 by omega)
    rw [show g.long - 1 + f.per * 1 = g.long + f.per - 1 by omega] at this
    have h3 : (g.long - 1) / f.per ≤ g.long - 1 := Int.ediv_le_self _ (by omega)
    omega
  refine ⟨⟨h1, h2⟩, ?_, ?_⟩
  · unfold widF
    have := Int.mul_le_mul p1 h1 (by decide) (by omega)
    omega
  · unfold widF
    have := Int.mul_le_mul p2 h2 (by omega) (by decide)
    omega
/-- Where the next track begins or ends. -/
def atF (f : Fmt) (l : List Sng) (O : List Int) : Nat → Int
  | 0 => f.outer - f.lead
  | i + 1 => atF f l O i - (if 0 < i then f.gap else 0) - widF f (l.getD (O.getD i 0).toNat g0)
theorem atF_bd {f : Fmt} {l : List Sng} {O : List Int} (hf : FmtOK f) (hl : SngsOK l) (hO : ∀ i, i < O.length → 0 ≤ O.getD i 0 ∧ O.getD i 0 < l.length) : ∀ i, i ≤ O.length → atF f l O i ≤ 4194304 ∧ -4194304 - 68723671040 * (i : Int) ≤ atF f l O i
  | 0, _ => by
    have := hf.outer
    have := hf.lead
    unfold atF
    omega
  | i + 1, hi => by
    have h1 := atF_bd hf hl hO i (by omega)
    have h2 := hO i (by omega)
    have h3 := (wid_bd hf.per.1 (hl.each (O.getD i 0).toNat (by omega))).2
    have := hf.gap
    unfold atF
    split <;> omega
def bndR (f : Fmt) (l : List Sng) (O : List Int) (i : Nat) : List Cell := [.int (O.getD i 0), .int (atF f l O i - (if 0 < i then f.gap else 0)), .int (atF f l O (i + 1))]
def bndA (f : Fmt) (l : List Sng) (O : List Int) (n : Nat) : Arr := (List.range n).map (bndR f l O)
theorem bndA_len (f : Fmt) (l : List Sng) (O : List Int) (n : Nat) : (bndA f l O n).length = n := by simp [bndA]
theorem bndA_succ (f : Fmt) (l : List Sng) (O : List Int) (n : Nat) : bndA f l O (n + 1) = bndA f l O n ++ [bndR f l O n] := by simp [bndA, List.range_succ]
def okAt (f : Fmt) (l : List Sng) (O : List Int) (i : Nat) : Prop := (l.getD (O.getD i 0).toNat g0).least ≤ atF f l O (i + 1)
def LayOK (f : Fmt) (l : List Sng) (O : List Int) : Prop := (∀ i, i < O.length → okAt f l O i) ∧ f.inner ≤ atF f l O O.length - f.tail
def cmpI (x y : Int) : Int := if x < y then -1 else if y < x then 1 else 0
def usF (l : List Sng) (a b : Int) : Int := if cmpI (l.getD b.toNat g0).least (l.getD a.toNat g0).least ≠ 0 then cmpI (l.getD b.toNat g0).least (l.getD a.toNat g0).least else cmpI a b
def usB (l : List Sng) (a b : Int) : Bool := decide (usF l a b < 0)
def allO (l : List Sng) : List Int := isr (usB l) (spanL 0 l.length) (l.length - 1)
theorem allO_idx (l : List Sng) : IdxOK (allO l) l.length := by
  unfold allO
  by_cases h : l.length = 0
  · rw [h]; exact span_idx 0
  · exact (span_idx _).isr _ (by omega)
/-! ### If any order is possible, the usual one is: plain laws for the statements about sides -/
theorem mem_at {O : List Int} {x : Int} (h : x ∈ O) : ∃ i, i < O.length ∧ O.getD i 0 = x := by
  obtain ⟨i, hi, e⟩ := List.mem_iff_getElem.1 h
  exact ⟨i, hi, by simp [List.getD_eq_getElem?_getD, hi, e]⟩
theorem at_mem {O : List Int} {i : Nat} (h : i < O.length) : O.getD i 0 ∈ O := by
  have : O.getD i 0 = O[i] := by simp [List.getD_eq_getElem?_getD, h]
  rw [this]
  exact List.getElem_mem h
end Go.Sx

namespace Go.Sx
open Go Go.Proofs
set_option maxRecDepth 10000
set_option maxHeartbeats 4000000
/-! ### Error codes -/
/-- The first number that is not 0. -/
def firstE (g : Nat → Int) : Nat → Int
  | 0 => 0
  | n + 1 => if firstE g n = 0 then g n else firstE g n
theorem firstE_zero {g : Nat → Int} : ∀ {n : Nat}, (∀ j, j < n → g j = 0) → firstE g n = 0
  | 0, _ => rfl
  | n + 1, h => by
    unfold firstE
    rw [if_pos (firstE_zero fun j hj => h j (by omega))]
    exact h n (Nat.lt_succ_self n)
theorem firstE_none {g : Nat → Int} : ∀ {n : Nat}, firstE g n = 0 → ∀ j, j < n → g j = 0
  | 0, _, j, hj => absurd hj (Nat.not_lt_zero j)
  | n + 1, h, j, hj => by
    unfold firstE at h
    split at h
    · rename_i h1
      by_cases e : j = n
      · rw [e]; exact h
      · exact firstE_none h1 j (by omega)
    · rename_i h1
      exact absurd h h1
open Classical in
/-- The error of a format. -/
noncomputable def fmtE (f : Fmt) : Int := if FmtOK f then 0 else 2
open Classical in
/-- The error of tracks. -/
noncomputable def trkE (l : List Sng) : Int := if 24 < l.length then 6 else if SngsOK l then 0 else 2
open Classical in
noncomputable def bothE (f : Fmt) (l : List Sng) : Int := if FmtOK f then trkE l else 2
theorem fmtE_ok {f : Fmt} (h : FmtOK f) : fmtE f = 0 := if_pos h
theorem fmtE_no {f : Fmt} (h : ¬ FmtOK f) : fmtE f = 2 := if_neg h
theorem trkE_ok {l : List Sng} (h : SngsOK l) : trkE l = 0 := by
  unfold trkE
  rw [if_neg (by have := h.len; omega), if_pos h]
theorem trkE_many {l : List Sng} (h : 24 < l.length) : trkE l = 6 := if_pos h
theorem trkE_no {l : List Sng} (h1 : ¬ 24 < l.length) (h2 : ¬ SngsOK l) : trkE l = 2 := by
  unfold trkE
  rw [if_neg h1, if_neg h2]
theorem trkE_0 {l : List Sng} (h : trkE l = 0) : SngsOK l := Classical.byContradiction fun hc => by
  by_cases h1 : 24 < l.length
  · rw [trkE_many h1] at h; cases h
  · rw [trkE_no h1 hc] at h; cases h
theorem bothE_f {f : Fmt} {l : List Sng} (h : ¬ FmtOK f) : bothE f l = 2 := if_neg h
theorem bothE_t {f : Fmt} {l : List Sng} (h : FmtOK f) : bothE f l = trkE l := if_pos h
theorem bothE_ok {f : Fmt} {l : List Sng} (h : FmtOK f) (h2 : SngsOK l) : bothE f l = 0 := by rw [bothE_t h, trkE_ok h2]
/-- The error of an element of an order. -/
def ordA (n : Nat) (O : List Int) (i : Nat) : Int := if O.getD i 0 < 0 ∨ (n : Int) ≤ O.getD i 0 then 3 else if ∃ k, k < i ∧ O.getD k 0 = O.getD i 0 then 12 else 0
def ordE (n : Nat) (O : List Int) : Int := firstE (ordA n O) O.length
theorem ordA_0 {n : Nat} {O : List Int} {i : Nat} : ordA n O i = 0 ↔ (0 ≤ O.getD i 0 ∧ O.getD i 0 < n) ∧ ∀ k, k < i → O.getD k 0 ≠ O.getD i 0 := by
  unfold ordA
  split
  · rename_i h
    exact ⟨fun h1 => (by cases h1), fun h1 => (by omega)⟩
  · rename_i h
    split
    · rename_i h1
      obtain ⟨k, h1, h2⟩ := h1
      exact ⟨fun h1 => (by cases h1), fun h3 => absurd h2 (h3.2 k h1)⟩
    · rename_i h1
      exact ⟨fun _ => ⟨by omega, fun k hk e => h1 ⟨k, hk, e⟩⟩, fun _ => rfl⟩
/-- An order of different tracks. -/
structure OrdOK (n : Nat) (O : List Int) : Prop where
  rng : ∀ i, i < O.length → 0 ≤ O.getD i 0 ∧ O.getD i 0 < n
  inj : ∀ i j, i < O.length → j < O.length → O.getD i 0 = O.getD j 0 → i = j
theorem ordE_0 {n : Nat} {O : List Int} : ordE n O = 0 ↔ OrdOK n O := by
  constructor
  · intro h
    have h1 := fun j hj => ordA_0.1 (firstE_none h j hj)
    refine ⟨fun i hi => (h1 i hi).1, fun i j hi hj e => ?_⟩
    rcases Nat.lt_trichotomy i j with h2 | h2 | h2
    · exact absurd e ((h1 j hj).2 i h2)
    · exact h2
    · exact absurd e.symm ((h1 i hi).2 j h2)
  · intro h
    exact firstE_zero fun j hj => ordA_0.2 ⟨h.rng j hj, fun k hk e => by have := h.inj k j (by omega) hj e; omega⟩
theorem OrdOK.mem {n : Nat} {O : List Int} (h : OrdOK n O) : ∀ x, x ∈ O → 0 ≤ x ∧ x < n := fun x hx => by
  obtain ⟨i, hi, e⟩ := mem_at hx
  rw [← e]
  exact h.rng i hi
theorem nodup_at {O : List Int} (h : O.Nodup) : ∀ i j, i < O.length → j < O.length → O.getD i 0 = O.getD j 0 → i = j := fun i j hi hj e => by
  simp only [List.getD_eq_getElem?_getD, List.getElem?_eq_getElem hi, List.getElem?_eq_getElem hj, Option.getD_some] at e
  exact (List.getElem_inj h).1 e
theorem OrdOK.of {n : Nat} {O : List Int} (h : O.Nodup) (h2 : ∀ x, x ∈ O → 0 ≤ x ∧ x < n) : OrdOK n O := ⟨fun _ hi => h2 _ (at_mem hi), nodup_at h⟩
/-! ### Orders by places -/
/-! ### An order from which tracks are left out -/
end Go.Sx

namespace Go.Sx
open Go Go.Proofs
set_option maxRecDepth 10000
set_option maxHeartbeats 4000000
/-! ### The usual order of some tracks -/
/-! ### What insertion gives -/
end Go.Sx

namespace Go.Sx
open Go Go.Proofs
set_option maxRecDepth 10000
set_option maxHeartbeats 8000000
theorem pMix : Tryd.prog.follows .mixedOrders = true := by kernel_rfl
/-! ### Formats and tracks -/
@[reducible] def Fmt.x (f : Fmt) : XV := .agg [.str f.nm, .int .i64 f.outer, .int .i64 f.inner, .int .i64 f.per, .int .i64 f.lead, .int .i64 f.gap, .int .i64 f.tail, .int .i64 f.cost]
@[reducible] def Sng.x (g : Sng) : XV := .agg [.int .i64 g.long, .int .i64 g.pitch, .int .i64 g.least]
def sngA (l : List Sng) : Arr := l.map fun g => [.int g.long, .int g.pitch, .int g.least]
theorem sngA_len (l : List Sng) : (sngA l).length = l.length := by simp [sngA]
theorem sngA_0 (l : List Sng) (i : Nat) : rI (sngA l) i 0 = (l.getD i g0).long := map_rI _ g0 l i 0 rfl
theorem sngA_1 (l : List Sng) (i : Nat) : rI (sngA l) i (0 + 1) = (l.getD i g0).pitch := map_rI _ g0 l i 1 rfl
theorem sngA_2 (l : List Sng) (i : Nat) : rI (sngA l) i (0 + 1 + 1) = (l.getD i g0).least := map_rI _ g0 l i 2 rfl
@[reducible] def KSng : List CK := [.int .i64, .int .i64, .int .i64]
@[reducible] def lSng (l : List Sng) : XV := .one (.lst true KSng (sngA l))
theorem s52 (n lo hi : Int) : PSpec Tryd.prog 42 [I n, I lo, I hi] (xP (n < lo ∨ n > hi)) := by
  refine spec_of pMix (O := []) Tryd.func42 (c := bodyOf Tryd.f42) rfl (by kernel_rfl) (by kernel_rfl) Tryd.ntmps42 (res := [.tmp 6]) (by kernel_rfl) ?_
  repeat' ((conv => whnf); first | refine Rng.g ?_ | refine Ob.g ?_ | refine Ob.e ?_ | refine Ob.m ?_ | refine Ob.mk (Nat.le_of_ble_eq_true rfl) ?_ | refine JoinVC.on ?_ | refine Nils.mk (fun h => ?_) ?_ | refine Val.t ?_ | refine Val.d ?_ | refine Mm.mk ?_ | (refine Br.mk (fun h => ?_) (fun h => ?_) <;> first | (exfalso; omega; done) | (exfalso; simp at h; done) | skip))
  · repeat refine Mm.mk ?_
    refine EndVC.mk _ rfl _ _ ⟨rfl, rfl⟩ ?_
    refine ⟨[], rfl, rfl, ?_, ?_⟩ <;> repeat' (first | exact trivial | exact rfl | exact Iff.rfl | apply And.intro)
    exact .inl h
  · repeat refine Mm.mk ?_
    refine EndVC.mk _ rfl _ _ ⟨rfl, rfl⟩ ?_
    refine ⟨[], rfl, rfl, ?_, ?_⟩ <;> repeat' (first | exact trivial | exact rfl | exact Iff.rfl | apply And.intro)
    exact ⟨fun h2 => .inr h2, fun h2 => h2.elim (fun h3 => absurd h3 h) id⟩
theorem s71 (n lo hi : Int) : PSpec Tryd.prog 44 [I n, I lo, I hi] (xP (n ≥ lo ∧ n ≤ hi)) := by
  refine spec_of pMix (O := []) Tryd.func44 (c := bodyOf Tryd.f44) rfl (by kernel_rfl) (by kernel_rfl) Tryd.ntmps44 (res := [.tmp 6]) (by kernel_rfl) ?_
  repeat' ((conv => whnf); first | refine Rng.g ?_ | refine Ob.g ?_ | refine Ob.e ?_ | refine Ob.m ?_ | refine Ob.mk (Nat.le_of_ble_eq_true rfl) ?_ | refine JoinVC.on ?_ | refine Nils.mk (fun h => ?_) ?_ | refine Val.t ?_ | refine Val.d ?_ | refine Mm.mk ?_ | (refine Br.mk (fun h => ?_) (fun h => ?_) <;> first | (exfalso; omega; done) | (exfalso; simp at h; done) | skip))
  · repeat refine Mm.mk ?_
    refine EndVC.mk _ rfl _ _ ⟨rfl, rfl⟩ ?_
    refine ⟨[], rfl, rfl, ?_, ?_⟩ <;> repeat' (first | exact trivial | exact rfl | exact Iff.rfl | apply And.intro)
    exact ⟨fun h2 => ⟨h, h2⟩, fun h2 => h2.2⟩
  · repeat refine Mm.mk ?_
    refine EndVC.mk _ rfl _ _ ⟨rfl, rfl⟩ ?_
    refine ⟨[], rfl, rfl, ?_, ?_⟩ <;> repeat' (first | exact trivial | exact rfl | exact Iff.rfl | apply And.intro)
    exact fun h2 => h h2.1
theorem bytA_get (b : ByteArray) (i : Nat) : rI (bytA b) i 0 = chr b i := map_rI _ (0 : UInt8) b.data.toList i 0 rfl
theorem bytA_len (b : ByteArray) : (bytA b).length = b.size := by
  show (b.data.toList.map _).length = b.data.size
  rw [List.length_map, Array.length_toList]
open Classical in
theorem s82 (s : ByteArray) (hs : s.size ≤ 9223372036854775807) : PSpec Tryd.prog 41 [.one (.str s)] (xP (nameOK s)) := by
  have lb := bytA_len s
  refine spec_of pMix (O := []) Tryd.func41 (c := bodyOf Tryd.f41) rfl (by kernel_rfl) (by kernel_rfl) Tryd.ntmps41 (res := [.tmp 2]) (by kernel_rfl) ?_
  repeat' ((conv => whnf); first | refine Rng.g ?_ | refine Ob.g ?_ | refine Ob.e ?_ | refine Ob.m ?_ | refine Ob.mk (Nat.le_of_ble_eq_true rfl) ?_ | refine JoinVC.on ?_ | refine Nils.mk (fun h => ?_) ?_ | refine Val.t ?_ | refine Val.d ?_ | refine Mm.mk ?_ | (refine Br.mk (fun h => ?_) (fun h => ?_) <;> first | (exfalso; omega; done) | (exfalso; simp at h; done) | skip))
  refine LoopVC.mk (fun n st => ∃ (i : Nat), i ≤ s.size ∧ n = s.size - i ∧ (∀ j, j < i → okC (chr s j)) ∧ st = ⟨0, envA 34 [(0, .x (.one (.str s))), (6, .x (.one (.lst false [.int .u8] (bytA s)))), (7, .int .i64 (s.size : Int)), (8, .int .i64 (i : Int))], []⟩) _ _ ⟨0, Nat.zero_le _, rfl, fun j hj => absurd hj (Nat.not_lt_zero j), rfl⟩ ?_ ?_
  · refine ⟨[], rfl, rfl, ?_, ?_⟩ <;> repeat' (first | exact trivial | exact rfl | exact Iff.rfl | apply And.intro)
    exact congrArg Int.ofNat lb
  rintro n _ ⟨i, hi, hn, hj, rfl⟩
  have gc : rI (bytA s) (i : Int).toNat 0 = chr s i := by rw [Int.toNat_natCast, bytA_get]
  by_cases hi' : i < s.size
  · by_cases hc : okC (chr s i)
    · have hc' := hc
      unfold okC at hc'
      repeat' ((conv => whnf); first | rw [gc] | refine Rng.g ?_ | refine Ob.g ?_ | refine Ob.e ?_ | refine Ob.m ?_ | refine Ob.mk (Nat.le_of_ble_eq_true rfl) ?_ | refine JoinVC.on ?_ | refine Nils.mk (fun h => ?_) ?_ | refine Val.t ?_ | refine Val.d ?_ | refine Mm.mk ?_ | (refine Br.mk (fun h => ?_) (fun h => ?_) <;> first | (exfalso; omega; done) | (exfalso; simp at h; done) | skip))
      all_goals
        refine Back.mk (s.size - (i + 1)) _ (by omega) ⟨i + 1, by omega, rfl, fun j hj' => ?_, rfl⟩ ?_
        · rcases Nat.lt_succ_iff_lt_or_eq.1 hj' with h' | rfl
          · exact hj j h'
          · exact hc
        · refine ⟨[], rfl, rfl, ?_, ?_⟩ <;> repeat' (first | exact trivial | exact rfl | exact Iff.rfl | apply And.intro)
    · have hc' := hc
      unfold okC at hc'
      repeat' ((conv => whnf); first | rw [gc] | refine Rng.g ?_ | refine Ob.g ?_ | refine Ob.e ?_ | refine Ob.m ?_ | refine Ob.mk (Nat.le_of_ble_eq_true rfl) ?_ | refine JoinVC.on ?_ | refine Nils.mk (fun h => ?_) ?_ | refine Val.t ?_ | refine Val.d ?_ | refine Mm.mk ?_ | (refine Br.mk (fun h => ?_) (fun h => ?_) <;> first | (exfalso; omega; done) | (exfalso; simp at h; done) | skip))
      all_goals
        repeat refine Mm.mk ?_
        refine EndVC.mk _ rfl _ _ ⟨rfl, rfl⟩ ?_
        refine ⟨[], rfl, rfl, ?_, ?_⟩ <;> repeat' (first | exact trivial | exact rfl | exact Iff.rfl | apply And.intro)
        exact fun hn => hc (hn.2.2 i hi')
  · have h0 : s.size = 0 ↔ s = ⟨#[]⟩ := ⟨fun h => ByteArray.ext (Array.eq_empty_of_size_eq_zero h), fun h => by rw [h]; rfl⟩
    repeat' ((conv => whnf); first | refine Rng.g ?_ | refine Ob.g ?_ | refine Ob.e ?_ | refine Ob.m ?_ | refine Ob.mk (Nat.le_of_ble_eq_true rfl) ?_ | refine JoinVC.on ?_ | refine Nils.mk (fun h => ?_) ?_ | refine Val.t ?_ | refine Val.d ?_ | refine Mm.mk ?_ | (refine Br.mk (fun h => ?_) (fun h => ?_) <;> first | (exfalso; omega; done) | (exfalso; simp at h; done) | skip))
    · have h1 : ¬ s.size = 0 := fun e => h (h0.1 e)
      repeat refine Mm.mk ?_
      refine EndVC.mk _ rfl _ _ ⟨rfl, rfl⟩ ?_
      refine ⟨[], rfl, rfl, ?_, ?_⟩ <;> repeat' (first | exact trivial | exact rfl | exact Iff.rfl | apply And.intro)
      exact ⟨fun h2 => ⟨by omega, by omega, fun j hj' => hj j (by omega)⟩, fun hn => (by have := hn.2.1; omega)⟩
    · have h1 : s.size = 0 := h0.2 (Classical.not_not.1 h)
      repeat refine Mm.mk ?_
      refine EndVC.mk _ rfl _ _ ⟨rfl, rfl⟩ ?_
      refine ⟨[], rfl, rfl, ?_, ?_⟩ <;> repeat' (first | exact trivial | exact rfl | exact Iff.rfl | apply And.intro)
      exact fun hn => (by have := hn.1; omega)
/-! ### Which formats and tracks are valid -/
theorem s67 (f : Fmt) (hI : f.nm.size ≤ 9223372036854775807) : PSpec Tryd.prog 13 [f.x] (.x (I (fmtE f))) := by
  have k0 := s52 f.lead 0 4194304
  have k1 := s52 f.gap 0 4194304
  have k2 := s52 f.tail 0 4194304
  refine spec_of pMix (O := []) Tryd.func13 (c := bodyOf Tryd.f13) rfl (by kernel_rfl) (by kernel_rfl) Tryd.ntmps13 (res := [.tmp 2]) (by kernel_rfl) ?_
  repeat' ((conv => whnf); first | refine Rng.g ?_ | refine Ob.g ?_ | refine Ob.e ?_ | refine Ob.m ?_ | refine Ob.mk (Nat.le_of_ble_eq_true rfl) ?_ | refine JoinVC.on ?_ | refine Nils.mk (fun h => ?_) ?_ | refine Val.t ?_ | refine Val.d ?_ | refine Mm.mk ?_ | refine CallVC.pure rfl (s82 f.nm hI) ?_ | refine CallVC.pure rfl (s52 f.outer 1 4194304) ?_ | refine CallVC.pure rfl (s52 f.inner 0 (f.outer - 1)) ?_ | refine CallVC.pure rfl (s52 f.per 1 65536) ?_ | refine CallVC.pure rfl (s52 f.cost 0 1048576) ?_ | refine CallVC0.pure rfl (s82 f.nm hI) ?_ | refine CallVC0.pure rfl (s52 f.outer 1 4194304) ?_ | refine CallVC0.pure rfl (s52 f.inner 0 (f.outer - 1)) ?_ | refine CallVC0.pure rfl (s52 f.per 1 65536) ?_ | refine CallVC0.pure rfl (s52 f.cost 0 1048576) ?_ | (refine Br.mk (fun h => ?_) (fun h => ?_) <;> first | (exfalso; omega; done) | (exfalso; simp at h; done) | skip))
  all_goals
    refine LoopVC.un 4 ?_
    repeat' ((conv => whnf); first | refine Rng.g ?_ | refine Ob.g ?_ | refine Ob.e ?_ | refine Ob.m ?_ | refine Ob.mk (Nat.le_of_ble_eq_true rfl) ?_ | refine JoinVC.on ?_ | refine Nils.mk (fun h => ?_) ?_ | refine Val.t ?_ | refine Val.d ?_ | refine Mm.mk ?_ | refine CallVC.pure rfl (k0) ?_ | refine CallVC.pure rfl (k1) ?_ | refine CallVC.pure rfl (k2) ?_ | refine CallVC0.pure rfl (k0) ?_ | refine CallVC0.pure rfl (k1) ?_ | refine CallVC0.pure rfl (k2) ?_ | (refine Br.mk (fun h => ?_) (fun h => ?_) <;> first | (exfalso; omega; done) | (exfalso; simp at h; done) | skip))
  rotate_right
  · repeat refine Mm.mk ?_
    refine EndVC.mk _ rfl _ _ ⟨rfl, rfl⟩ ?_
    refine ⟨[], rfl, rfl, ?_, ?_⟩ <;> repeat' (first | exact trivial | exact rfl | exact Iff.rfl | apply And.intro)
    exact (fmtE_ok ⟨Classical.not_not.1 (by assumption), by omega, by omega, by omega, by omega, by omega, by omega, by omega⟩).symm
  all_goals
    repeat refine Mm.mk ?_
    refine EndVC.mk _ rfl _ _ ⟨rfl, rfl⟩ ?_
    refine ⟨[], rfl, rfl, ?_, ?_⟩ <;> repeat' (first | exact trivial | exact rfl | exact Iff.rfl | apply And.intro)
    exact (fmtE_no fun hC => (by obtain ⟨h0, h1, h2, h3, h4, h5, h6, h7⟩ := hC; first | contradiction | omega)).symm
theorem s68 (l : List Sng) : PSpec Tryd.prog 15 [lSng l] (.x (I (trkE l))) := by
  have lp := sngA_len l
  by_cases h24 : 24 < l.length
  · refine spec_of pMix (O := []) Tryd.func15 (c := bodyOf Tryd.f15) rfl (by kernel_rfl) (by kernel_rfl) Tryd.ntmps15 (res := [.tmp 2]) (by kernel_rfl) ?_
    repeat' ((conv => whnf); first | refine Rng.g ?_ | refine Ob.g ?_ | refine Ob.e ?_ | refine Ob.m ?_ | refine Ob.mk (Nat.le_of_ble_eq_true rfl) ?_ | refine JoinVC.on ?_ | refine Nils.mk (fun h => ?_) ?_ | refine Val.t ?_ | refine Val.d ?_ | refine Mm.mk ?_ | (refine Br.mk (fun h => ?_) (fun h => ?_) <;> first | (exfalso; omega; done) | (exfalso; simp at h; done) | skip))
    repeat refine Mm.mk ?_
    refine EndVC.mk _ rfl _ _ ⟨rfl, rfl⟩ ?_
    refine ⟨[], rfl, rfl, ?_, ?_⟩ <;> repeat' (first | exact trivial | exact rfl | exact Iff.rfl | apply And.intro)
    exact (trkE_many h24).symm
  refine spec_of pMix (O := []) Tryd.func15 (c := bodyOf Tryd.f15) rfl (by kernel_rfl) (by kernel_rfl) Tryd.ntmps15 (res := [.tmp 2]) (by kernel_rfl) ?_
  repeat' ((conv => whnf); first | refine Rng.g ?_ | refine Ob.g ?_ | refine Ob.e ?_ | refine Ob.m ?_ | refine Ob.mk (Nat.le_of_ble_eq_true rfl) ?_ | refine JoinVC.on ?_ | refine Nils.mk (fun h => ?_) ?_ | refine Val.t ?_ | refine Val.d ?_ | refine Mm.mk ?_ | (refine Br.mk (fun h => ?_) (fun h => ?_) <;> first | (exfalso; omega; done) | (exfalso; simp at h; done) | skip))
  refine LoopVC.mk (fun n st => ∃ (i : Nat), i ≤ l.length ∧ n = l.length - i ∧ (∀ j, j < i → (l.getD j g0).ok) ∧ st = ⟨0, envA 28 [(8, .x (lSng l)), (9, .int .i64 (l.length : Int)), (10, .int .i64 (i : Int))], []⟩) _ _ ⟨0, Nat.zero_le _, rfl, fun j hj => absurd hj (Nat.not_lt_zero j), rfl⟩ ?_ ?_
  · refine ⟨[], rfl, rfl, ?_, ?_⟩ <;> repeat' (first | exact trivial | exact rfl | exact Iff.rfl | apply And.intro)
    all_goals exact congrArg Int.ofNat lp
  rintro n _ ⟨i, hi, hn, hj, rfl⟩
  have c0 : rI (sngA l) (i : Int).toNat 0 = (l.getD i g0).long := by rw [Int.toNat_natCast, sngA_0]
  have c1 : rI (sngA l) (i : Int).toNat (0 + 1) = (l.getD i g0).pitch := by rw [Int.toNat_natCast, sngA_1]
  have c2 : rI (sngA l) (i : Int).toNat (0 + 1 + 1) = (l.getD i g0).least := by rw [Int.toNat_natCast, sngA_2]
  have k0 := s52 (l.getD i g0).long 1 16777216
  have k1 := s52 (l.getD i g0).pitch 1 4096
  have k2 := s52 (l.getD i g0).least 0 4194304
  by_cases hi' : i < l.length
  · by_cases hg : (l.getD i g0).ok
    · have hg' := hg
      unfold Sng.ok at hg'
      repeat' ((conv => whnf); first | rw [c0] | rw [c1] | rw [c2] | refine Rng.g ?_ | refine Ob.g ?_ | refine Ob.e ?_ | refine Ob.m ?_ | refine Ob.mk (Nat.le_of_ble_eq_true rfl) ?_ | refine JoinVC.on ?_ | refine Nils.mk (fun h => ?_) ?_ | refine Val.t ?_ | refine Val.d ?_ | refine Mm.mk ?_ | refine CallVC.pure rfl (k0) ?_ | refine CallVC.pure rfl (k1) ?_ | refine CallVC.pure rfl (k2) ?_ | refine CallVC0.pure rfl (k0) ?_ | refine CallVC0.pure rfl (k1) ?_ | refine CallVC0.pure rfl (k2) ?_ | (refine Br.mk (fun h => ?_) (fun h => ?_) <;> first | (exfalso; omega; done) | (exfalso; simp at h; done) | skip))
      refine Back.mk (l.length - (i + 1)) _ (by omega) ⟨i + 1, by omega, rfl, fun j hj' => ?_, rfl⟩ ?_
      · rcases Nat.lt_succ_iff_lt_or_eq.1 hj' with h' | rfl
        · exact hj j h'
        · exact hg
      · refine ⟨[], rfl, rfl, ?_, ?_⟩ <;> repeat' (first | exact trivial | exact rfl | exact Iff.rfl | apply And.intro)
    · have hg' := hg
      unfold Sng.ok at hg'
      repeat' ((conv => whnf); first | rw [c0] | rw [c1] | rw [c2] | refine Rng.g ?_ | refine Ob.g ?_ | refine Ob.e ?_ | refine Ob.m ?_ | refine Ob.mk (Nat.le_of_ble_eq_true rfl) ?_ | refine JoinVC.on ?_ | refine Nils.mk (fun h => ?_) ?_ | refine Val.t ?_ | refine Val.d ?_ | refine Mm.mk ?_ | refine CallVC.pure rfl (k0) ?_ | refine CallVC.pure rfl (k1) ?_ | refine CallVC.pure rfl (k2) ?_ | refine CallVC0.pure rfl (k0) ?_ | refine CallVC0.pure rfl (k1) ?_ | refine CallVC0.pure rfl (k2) ?_ | (refine Br.mk (fun h => ?_) (fun h => ?_) <;> first | (exfalso; omega; done) | (exfalso; simp at h; done) | skip))
      all_goals
        repeat refine Mm.mk ?_
        refine EndVC.mk _ rfl _ _ ⟨rfl, rfl⟩ ?_
        refine ⟨[], rfl, rfl, ?_, ?_⟩ <;> repeat' (first | exact trivial | exact rfl | exact Iff.rfl | apply And.intro)
        exact (trkE_no h24 fun h => absurd (h.each i hi') hg).symm
  · repeat' ((conv => whnf); first | refine Rng.g ?_ | refine Ob.g ?_ | refine Ob.e ?_ | refine Ob.m ?_ | refine Ob.mk (Nat.le_of_ble_eq_true rfl) ?_ | refine JoinVC.on ?_ | refine Nils.mk (fun h => ?_) ?_ | refine Val.t ?_ | refine Val.d ?_ | refine Mm.mk ?_ | (refine Br.mk (fun h => ?_) (fun h => ?_) <;> first | (exfalso; omega; done) | (exfalso; simp at h; done) | skip))
    repeat refine Mm.mk ?_
    refine EndVC.mk _ rfl _ _ ⟨rfl, rfl⟩ ?_
    refine ⟨[], rfl, rfl, ?_, ?_⟩ <;> repeat' (first | exact trivial | exact rfl | exact Iff.rfl | apply And.intro)
    exact (trkE_ok ⟨by omega, fun j hj' => hj j (by omega)⟩).symm
@[reducible] def bPl (f : Fmt) (l : List Sng) : Blk := .box 102 [.str f.nm, .int .i64 f.outer, .int .i64 f.inner, .int .i64 f.per, .int .i64 f.lead, .int .i64 f.gap, .int .i64 f.tail, .int .i64 f.cost, .lst true KSng (sngA l)]
theorem s35 (f : Fmt) (l : List Sng) (hI : f.nm.size ≤ 9223372036854775807) : HSpec Tryd.prog 37 [f.x, lSng l] [] (fun r m' => (bothE f l ≠ 0 ∧ r = .tup [.one .nilp, I (bothE f l)] ∧ m' = []) ∨ (FmtOK f ∧ SngsOK l ∧ r = .tup [.one (.ptr 0 0), I 0] ∧ m' = [some (bPl f l)])) := by
  have v1 := s67 f hI
  have v2 := s68 l
  by_cases hC : FmtOK f
  rotate_left
  · rw [fmtE_no hC] at v1
    refine spec_of pMix (O := []) Tryd.func37 (c := bodyOf Tryd.f37) rfl (by kernel_rfl) (by kernel_rfl) Tryd.ntmps37 (res := [.tmp 4, .tmp 5]) (by kernel_rfl) ?_
    repeat' ((conv => whnf); first | refine Rng.g ?_ | refine Ob.g ?_ | refine Ob.e ?_ | refine Ob.m ?_ | refine Ob.mk (Nat.le_of_ble_eq_true rfl) ?_ | refine JoinVC.on ?_ | refine Nils.mk (fun h => ?_) ?_ | refine Val.t ?_ | refine Val.d ?_ | refine Mm.mk ?_ | refine CallVC.pure rfl (v1) ?_ | refine CallVC0.pure rfl (v1) ?_ | (refine Br.mk (fun h => ?_) (fun h => ?_) <;> first | (exfalso; omega; done) | (exfalso; simp at h; done) | skip))
    repeat refine Mm.mk ?_
    conv => whnf
    refine EndVC.mk _ rfl _ _ (.inl ⟨by rw [bothE_f hC]; decide, rfl, rfl⟩) ?_
    refine ⟨[], rfl, rfl, ?_, ?_⟩ <;> repeat' (first | exact trivial | exact rfl | exact Iff.rfl | apply And.intro)
    exact (bothE_f hC).symm
  rw [fmtE_ok hC] at v1
  have hb := bothE_t (l := l) hC
  by_cases hP : SngsOK l
  · rw [trkE_ok hP] at v2
    refine spec_of pMix (O := []) Tryd.func37 (c := bodyOf Tryd.f37) rfl (by kernel_rfl) (by kernel_rfl) Tryd.ntmps37 (res := [.tmp 4, .tmp 5]) (by kernel_rfl) ?_
    repeat' ((conv => whnf); first | refine Rng.g ?_ | refine Ob.g ?_ | refine Ob.e ?_ | refine Ob.m ?_ | refine Ob.mk (Nat.le_of_ble_eq_true rfl) ?_ | refine JoinVC.on ?_ | refine Nils.mk (fun h => ?_) ?_ | refine Val.t ?_ | refine Val.d ?_ | refine Mm.mk ?_ | refine CallVC.pure rfl (v1) ?_ | refine CallVC.pure rfl (v2) ?_ | refine CallVC0.pure rfl (v1) ?_ | refine CallVC0.pure rfl (v2) ?_ | (refine Br.mk (fun h => ?_) (fun h => ?_) <;> first | (exfalso; omega; done) | (exfalso; simp at h; done) | skip))
    repeat refine Mm.mk ?_
    conv => whnf
    refine EndVC.mk _ rfl _ _ (.inr ⟨hC, hP, rfl, rfl⟩) ?_
    refine ⟨[some 1], rfl, rfl, ?_, ?_⟩ <;> repeat' (first | exact trivial | exact rfl | exact Iff.rfl | apply And.intro)
  · obtain ⟨e, he⟩ : ∃ e, trkE l = e := ⟨_, rfl⟩
    have h0 : e ≠ 0 := fun h0 => hP (trkE_0 (he.trans h0))
    rw [he] at v2 hb
    refine spec_of pMix (O := []) Tryd.func37 (c := bodyOf Tryd.f37) rfl (by kernel_rfl) (by kernel_rfl) Tryd.ntmps37 (res := [.tmp 4, .tmp 5]) (by kernel_rfl) ?_
    repeat' ((conv => whnf); first | refine Rng.g ?_ | refine Ob.g ?_ | refine Ob.e ?_ | refine Ob.m ?_ | refine Ob.mk (Nat.le_of_ble_eq_true rfl) ?_ | refine JoinVC.on ?_ | refine Nils.mk (fun h => ?_) ?_ | refine Val.t ?_ | refine Val.d ?_ | refine Mm.mk ?_ | refine CallVC.pure rfl (v1) ?_ | refine CallVC.pure rfl (v2) ?_ | refine CallVC0.pure rfl (v1) ?_ | refine CallVC0.pure rfl (v2) ?_ | (refine Br.mk (fun h => ?_) (fun h => ?_) <;> first | (exfalso; omega; done) | (exfalso; simp at h; done) | skip))
    repeat refine Mm.mk ?_
    conv => whnf
    refine EndVC.mk _ rfl _ _ (.inl ⟨by rw [hb]; exact h0, rfl, rfl⟩) ?_
    refine ⟨[], rfl, rfl, ?_, ?_⟩ <;> repeat' (first | exact trivial | exact rfl | exact Iff.rfl | apply And.intro)
    exact hb.symm
@[reducible] def pvT : Option (List Sng) → SV
  | some l => .lst true KSng (sngA l)
  | none => .any
@[reducible] def bPv (f : Fmt) (v : Option (List Sng)) : Blk := .box 102 [.str f.nm, .int .i64 f.outer, .int .i64 f.inner, .int .i64 f.per, .int .i64 f.lead, .int .i64 f.gap, .int .i64 f.tail, .int .i64 f.cost, pvT v]
theorem s43 (f : Fmt) (v : Option (List Sng)) (g : Sng) (hf : FmtOK f) (hg : g.ok) : HSpec Tryd.prog 38 [.one (.ptr 0 0), g.x] [bPv f v] (fun r m' => r = .x (I (widF f g)) ∧ m' = [some (bPv f v)]) := by
  obtain ⟨w1, w2⟩ := wid_bd hf.per.1 hg
  have hp := hf.per
  have hg1 := hg.1
  have hg2 := hg.2.1
  unfold widF at w2
  cases v
  all_goals
    refine spec_of pMix (O := []) Tryd.func38 (c := bodyOf Tryd.f38) rfl (by kernel_rfl) (by kernel_rfl) Tryd.ntmps38 (res := [.tmp 4]) (by kernel_rfl) ?_
    repeat' ((conv => whnf); first | refine Rng.g ?_ | refine Ob.g ?_ | refine Ob.e ?_ | refine Ob.m ?_ | refine Ob.mk (Nat.le_of_ble_eq_true rfl) ?_ | refine JoinVC.on ?_ | refine Nils.mk (fun h => ?_) ?_ | refine Val.t ?_ | refine Val.d ?_ | refine Mm.mk ?_ | (refine Br.mk (fun h => ?_) (fun h => ?_) <;> first | (exfalso; omega; done) | (exfalso; simp at h; done) | skip))
    repeat refine Mm.mk ?_
    refine EndVC.mk _ rfl _ _ ⟨rfl, rfl⟩ ?_
    refine ⟨[some 0], rfl, rfl, ?_, ?_⟩ <;> repeat' (first | exact trivial | exact rfl | exact Iff.rfl | apply And.intro)
open Classical in
theorem s70 (s : ByteArray) : PSpec Tryd.prog 43 [.one (.str s)] (xP (nameOK s)) := by
  by_cases hs : s.size < 1 ∨ 20 < s.size
  · refine spec_of pMix (O := []) Tryd.func43 (c := bodyOf Tryd.f43) rfl (by kernel_rfl) (by kernel_rfl) Tryd.ntmps43 (res := [.tmp 2]) (by kernel_rfl) ?_
    repeat' ((conv => whnf); first | refine Rng.g ?_ | refine Ob.g ?_ | refine Ob.e ?_ | refine Ob.m ?_ | refine Ob.mk (Nat.le_of_ble_eq_true rfl) ?_ | refine JoinVC.on ?_ | refine Nils.mk (fun h => ?_) ?_ | refine Val.t ?_ | refine Val.d ?_ | refine Mm.mk ?_ | (refine Br.mk (fun h => ?_) (fun h => ?_) <;> first | (exfalso; omega; done) | (exfalso; simp at h; done) | skip))
    all_goals
      repeat refine Mm.mk ?_
      refine EndVC.mk _ rfl _ _ ⟨rfl, rfl⟩ ?_
      refine ⟨[], rfl, rfl, ?_, ?_⟩ <;> repeat' (first | exact trivial | exact rfl | exact Iff.rfl | apply And.intro)
      show ¬ _
      intro hn
      have := hn.1
      have := hn.2.1
      omega
  refine spec_of pMix (O := []) Tryd.func43 (c := bodyOf Tryd.f43) rfl (by kernel_rfl) (by kernel_rfl) Tryd.ntmps43 (res := [.tmp 2]) (by kernel_rfl) ?_
  repeat' ((conv => whnf); first | refine Rng.g ?_ | refine Ob.g ?_ | refine Ob.e ?_ | refine Ob.m ?_ | refine Ob.mk (Nat.le_of_ble_eq_true rfl) ?_ | refine JoinVC.on ?_ | refine Nils.mk (fun h => ?_) ?_ | refine Val.t ?_ | refine Val.d ?_ | refine Mm.mk ?_ | (refine Br.mk (fun h => ?_) (fun h => ?_) <;> first | (exfalso; omega; done) | (exfalso; simp at h; done) | skip))
  refine LoopVC.mk (fun n st => ∃ (i : Nat), i ≤ s.size ∧ n = s.size - i ∧ (∀ j, j < i → okC (chr s j)) ∧ st = ⟨0, envA 42 [(0, .x (.one (.str s))), (3, .int .i64 (i : Int))], []⟩) _ _ ⟨0, Nat.zero_le _, rfl, fun j hj => absurd hj (Nat.not_lt_zero j), rfl⟩ ?_ ?_
  · refine ⟨[], rfl, rfl, ?_, ?_⟩ <;> repeat' (first | exact trivial | exact rfl | exact Iff.rfl | apply And.intro)
  rintro n _ ⟨i, hi, hn, hj, rfl⟩
  have gc : chr s i = ((s.data.toList.getD (i : Int).toNat 0).toNat : Int) := rfl
  by_cases hi' : i < s.size
  · by_cases hc : okC (chr s i)
    · have hc' := hc
      unfold okC at hc'
      rw [gc] at hc'
      repeat' ((conv => whnf); first | refine Rng.g ?_ | refine Ob.g ?_ | refine Ob.e ?_ | refine Ob.m ?_ | refine Ob.mk (Nat.le_of_ble_eq_true rfl) ?_ | refine JoinVC.on ?_ | refine Nils.mk (fun h => ?_) ?_ | refine Val.t ?_ | refine Val.d ?_ | refine Mm.mk ?_ | (refine Br.mk (fun h => ?_) (fun h => ?_) <;> first | (exfalso; omega; done) | (exfalso; simp at h; done) | skip))
      all_goals
        refine Back.mk (s.size - (i + 1)) _ (by omega) ⟨i + 1, by omega, rfl, fun j hj' => ?_, rfl⟩ ?_
        · rcases Nat.lt_succ_iff_lt_or_eq.1 hj' with h' | rfl
          · exact hj j h'
          · exact hc
        · refine ⟨[], rfl, rfl, ?_, ?_⟩ <;> repeat' (first | exact trivial | exact rfl | exact Iff.rfl | apply And.intro)
    · have hc' := hc
      unfold okC at hc'
      rw [gc] at hc'
      repeat' ((conv => whnf); first | refine Rng.g ?_ | refine Ob.g ?_ | refine Ob.e ?_ | refine Ob.m ?_ | refine Ob.mk (Nat.le_of_ble_eq_true rfl) ?_ | refine JoinVC.on ?_ | refine Nils.mk (fun h => ?_) ?_ | refine Val.t ?_ | refine Val.d ?_ | refine Mm.mk ?_ | (refine Br.mk (fun h => ?_) (fun h => ?_) <;> first | (exfalso; omega; done) | (exfalso; simp at h; done) | skip))
      all_goals
        repeat refine Mm.mk ?_
        refine EndVC.mk _ rfl _ _ ⟨rfl, rfl⟩ ?_
        refine ⟨[], rfl, rfl, ?_, ?_⟩ <;> repeat' (first | exact trivial | exact rfl | exact Iff.rfl | apply And.intro)
        exact fun hn => hc (hn.2.2 i hi')
  · repeat' ((conv => whnf); first | refine Rng.g ?_ | refine Ob.g ?_ | refine Ob.e ?_ | refine Ob.m ?_ | refine Ob.mk (Nat.le_of_ble_eq_true rfl) ?_ | refine JoinVC.on ?_ | refine Nils.mk (fun h => ?_) ?_ | refine Val.t ?_ | refine Val.d ?_ | refine Mm.mk ?_ | (refine Br.mk (fun h => ?_) (fun h => ?_) <;> first | (exfalso; omega; done) | (exfalso; simp at h; done) | skip))
    repeat refine Mm.mk ?_
    refine EndVC.mk _ rfl _ _ ⟨rfl, rfl⟩ ?_
    refine ⟨[], rfl, rfl, ?_, ?_⟩ <;> repeat' (first | exact trivial | exact rfl | exact Iff.rfl | apply And.intro)
    · omega
    · omega
    · exact fun j hj' => hj j (by omega)
/-! ### Takes -/

theorem s41 (f : Fmt) : PSpec Tryd.prog 14 [f.x] (.x (I (fmtE f))) := by
  have k0 := s71 f.lead 0 4194304
  have k1 := s71 f.gap 0 4194304
  have k2 := s71 f.tail 0 4194304
  refine spec_of pMix (O := []) Tryd.func14 (c := bodyOf Tryd.f14) rfl (by kernel_rfl) (by kernel_rfl) Tryd.ntmps14 (res := [.tmp 2]) (by kernel_rfl) ?_
  repeat' ((conv => whnf); first | refine Rng.g ?_ | refine Ob.g ?_ | refine Ob.e ?_ | refine Ob.m ?_ | refine Ob.mk (Nat.le_of_ble_eq_true rfl) ?_ | refine JoinVC.on ?_ | refine Nils.mk (fun h => ?_) ?_ | refine Val.t ?_ | refine Val.d ?_ | refine Mm.mk ?_ | refine CallVC.pure rfl (s70 f.nm) ?_ | refine CallVC.pure rfl (s71 f.outer 0 4194304) ?_ | refine CallVC.pure rfl (s71 f.inner 0 (f.outer - 1)) ?_ | refine CallVC.pure rfl (s71 f.per 1 65536) ?_ | refine CallVC.pure rfl (s71 f.cost 0 1048576) ?_ | refine CallVC.pure rfl (k0) ?_ | refine CallVC.pure rfl (k1) ?_ | refine CallVC.pure rfl (k2) ?_ | refine CallVC0.pure rfl (s70 f.nm) ?_ | refine CallVC0.pure rfl (s71 f.outer 0 4194304) ?_ | refine CallVC0.pure rfl (s71 f.inner 0 (f.outer - 1)) ?_ | refine CallVC0.pure rfl (s71 f.per 1 65536) ?_ | refine CallVC0.pure rfl (s71 f.cost 0 1048576) ?_ | refine CallVC0.pure rfl (k0) ?_ | refine CallVC0.pure rfl (k1) ?_ | refine CallVC0.pure rfl (k2) ?_ | (refine Br.mk (fun h => ?_) (fun h => ?_) <;> first | (exfalso; omega; done) | (exfalso; simp at h; done) | skip))
  rotate_right
  · repeat refine Mm.mk ?_
    refine EndVC.mk _ rfl _ _ ⟨rfl, rfl⟩ ?_
    refine ⟨[], rfl, rfl, ?_, ?_⟩ <;> repeat' (first | exact trivial | exact rfl | exact Iff.rfl | apply And.intro)
    exact (fmtE_ok ⟨Classical.not_not.1 (by assumption), by omega, by omega, by omega, by omega, by omega, by omega, by omega⟩).symm
  all_goals
    repeat refine Mm.mk ?_
    refine EndVC.mk _ rfl _ _ ⟨rfl, rfl⟩ ?_
    refine ⟨[], rfl, rfl, ?_, ?_⟩ <;> repeat' (first | exact trivial | exact rfl | exact Iff.rfl | apply And.intro)
    exact (fmtE_no fun hC => (by obtain ⟨h0, h1, h2, h3, h4, h5, h6, h7⟩ := hC; first | contradiction | omega)).symm
theorem s42 (l : List Sng) : PSpec Tryd.prog 16 [lSng l] (.x (I (trkE l))) := by
  have lp := sngA_len l
  by_cases h24 : 24 < l.length
  · refine spec_of pMix (O := []) Tryd.func16 (c := bodyOf Tryd.f16) rfl (by kernel_rfl) (by kernel_rfl) Tryd.ntmps16 (res := [.tmp 2]) (by kernel_rfl) ?_
    repeat' ((conv => whnf); first | refine Rng.g ?_ | refine Ob.g ?_ | refine Ob.e ?_ | refine Ob.m ?_ | refine Ob.mk (Nat.le_of_ble_eq_true rfl) ?_ | refine JoinVC.on ?_ | refine Nils.mk (fun h => ?_) ?_ | refine Val.t ?_ | refine Val.d ?_ | refine Mm.mk ?_ | (refine Br.mk (fun h => ?_) (fun h => ?_) <;> first | (exfalso; omega; done) | (exfalso; simp at h; done) | skip))
    repeat refine Mm.mk ?_
    refine EndVC.mk _ rfl _ _ ⟨rfl, rfl⟩ ?_
    refine ⟨[], rfl, rfl, ?_, ?_⟩ <;> repeat' (first | exact trivial | exact rfl | exact Iff.rfl | apply And.intro)
    exact (trkE_many h24).symm
  refine spec_of pMix (O := []) Tryd.func16 (c := bodyOf Tryd.f16) rfl (by kernel_rfl) (by kernel_rfl) Tryd.ntmps16 (res := [.tmp 2]) (by kernel_rfl) ?_
  repeat' ((conv => whnf); first | refine Rng.g ?_ | refine Ob.g ?_ | refine Ob.e ?_ | refine Ob.m ?_ | refine Ob.mk (Nat.le_of_ble_eq_true rfl) ?_ | refine JoinVC.on ?_ | refine Nils.mk (fun h => ?_) ?_ | refine Val.t ?_ | refine Val.d ?_ | refine Mm.mk ?_ | (refine Br.mk (fun h => ?_) (fun h => ?_) <;> first | (exfalso; omega; done) | (exfalso; simp at h; done) | skip))
  refine LoopVC.mk (fun n st => ∃ (i : Nat), i ≤ l.length ∧ n = l.length - i ∧ (∀ j, j < i → (l.getD j g0).ok) ∧ st = ⟨0, envA 38 [(0, .x (lSng l)), (3, .int .i64 (i : Int))], []⟩) _ _ ⟨0, Nat.zero_le _, rfl, fun j hj => absurd hj (Nat.not_lt_zero j), rfl⟩ ?_ ?_
  · refine ⟨[], rfl, rfl, ?_, ?_⟩ <;> repeat' (first | exact trivial | exact rfl | exact Iff.rfl | apply And.intro)
  rintro n _ ⟨i, hi, hn, hj, rfl⟩
  have c0 : rI (sngA l) (i : Int).toNat 0 = (l.getD i g0).long := by rw [Int.toNat_natCast, sngA_0]
  have c1 : rI (sngA l) (i : Int).toNat (0 + (0 + 1)) = (l.getD i g0).pitch := by rw [Int.toNat_natCast]; exact sngA_1 l i
  have c2 : rI (sngA l) (i : Int).toNat (0 + (0 + 1 + 1)) = (l.getD i g0).least := by rw [Int.toNat_natCast]; exact sngA_2 l i
  have k0 := s71 (l.getD i g0).long 1 16777216
  have k1 := s71 (l.getD i g0).pitch 1 4096
  have k2 := s71 (l.getD i g0).least 0 4194304
  by_cases hi' : i < l.length
  · by_cases hg : (l.getD i g0).ok
    · have hg' := hg
      unfold Sng.ok at hg'
      repeat' ((conv => whnf); first | rw [c0] | rw [c1] | rw [c2] | refine Rng.g ?_ | refine Ob.g ?_ | refine Ob.e ?_ | refine Ob.m ?_ | refine Ob.mk (Nat.le_of_ble_eq_true rfl) ?_ | refine JoinVC.on ?_ | refine Nils.mk (fun h => ?_) ?_ | refine Val.t ?_ | refine Val.d ?_ | refine Mm.mk ?_ | refine CallVC.pure rfl (k0) ?_ | refine CallVC.pure rfl (k1) ?_ | refine CallVC.pure rfl (k2) ?_ | refine CallVC0.pure rfl (k0) ?_ | refine CallVC0.pure rfl (k1) ?_ | refine CallVC0.pure rfl (k2) ?_ | (refine Br.mk (fun h => ?_) (fun h => ?_) <;> first | (exfalso; omega; done) | (exfalso; simp at h; done) | skip))
      refine Back.mk (l.length - (i + 1)) _ (by omega) ⟨i + 1, by omega, rfl, fun j hj' => ?_, rfl⟩ ?_
      · rcases Nat.lt_succ_iff_lt_or_eq.1 hj' with h' | rfl
        · exact hj j h'
        · exact hg
      · refine ⟨[], rfl, rfl, ?_, ?_⟩ <;> repeat' (first | exact trivial | exact rfl | exact Iff.rfl | apply And.intro)
    · have hg' := hg
      unfold Sng.ok at hg'
      repeat' ((conv => whnf); first | rw [c0] | rw [c1] | rw [c2] | refine Rng.g ?_ | refine Ob.g ?_ | refine Ob.e ?_ | refine Ob.m ?_ | refine Ob.mk (Nat.le_of_ble_eq_true rfl) ?_ | refine JoinVC.on ?_ | refine Nils.mk (fun h => ?_) ?_ | refine Val.t ?_ | refine Val.d ?_ | refine Mm.mk ?_ | refine CallVC.pure rfl (k0) ?_ | refine CallVC.pure rfl (k1) ?_ | refine CallVC.pure rfl (k2) ?_ | refine CallVC0.pure rfl (k0) ?_ | refine CallVC0.pure rfl (k1) ?_ | refine CallVC0.pure rfl (k2) ?_ | (refine Br.mk (fun h => ?_) (fun h => ?_) <;> first | (exfalso; omega; done) | (exfalso; simp at h; done) | skip))
      all_goals
        repeat refine Mm.mk ?_
        refine EndVC.mk _ rfl _ _ ⟨rfl, rfl⟩ ?_
        refine ⟨[], rfl, rfl, ?_, ?_⟩ <;> repeat' (first | exact trivial | exact rfl | exact Iff.rfl | apply And.intro)
        exact (trkE_no h24 fun h => absurd (h.each i hi') hg).symm
  · repeat' ((conv => whnf); first | refine Rng.g ?_ | refine Ob.g ?_ | refine Ob.e ?_ | refine Ob.m ?_ | refine Ob.mk (Nat.le_of_ble_eq_true rfl) ?_ | refine JoinVC.on ?_ | refine Nils.mk (fun h => ?_) ?_ | refine Val.t ?_ | refine Val.d ?_ | refine Mm.mk ?_ | (refine Br.mk (fun h => ?_) (fun h => ?_) <;> first | (exfalso; omega; done) | (exfalso; simp at h; done) | skip))
    repeat refine Mm.mk ?_
    refine EndVC.mk _ rfl _ _ ⟨rfl, rfl⟩ ?_
    refine ⟨[], rfl, rfl, ?_, ?_⟩ <;> repeat' (first | exact trivial | exact rfl | exact Iff.rfl | apply And.intro)
    exact (trkE_ok ⟨by omega, fun j hj' => hj j (by omega)⟩).symm
theorem s58 (f : Fmt) (g : Sng) (hf : FmtOK f) (hg : g.ok) : PSpec Tryd.prog 40 [f.x, g.x] (.x (I (widF f g))) := by
  obtain ⟨w1, w2⟩ := wid_bd hf.per.1 hg
  have hp := hf.per
  have hg1 := hg.1
  have hg2 := hg.2.1
  unfold widF at w2
  refine spec_of pMix (O := []) Tryd.func40 (c := bodyOf Tryd.f40) rfl (by kernel_rfl) (by kernel_rfl) Tryd.ntmps40 (res := [.tmp 4]) (by kernel_rfl) ?_
  repeat' ((conv => whnf); first | refine Rng.g ?_ | refine Ob.g ?_ | refine Ob.e ?_ | refine Ob.m ?_ | refine Ob.mk (Nat.le_of_ble_eq_true rfl) ?_ | refine JoinVC.on ?_ | refine Nils.mk (fun h => ?_) ?_ | refine Val.t ?_ | refine Val.d ?_ | refine Mm.mk ?_ | (refine Br.mk (fun h => ?_) (fun h => ?_) <;> first | (exfalso; omega; done) | (exfalso; simp at h; done) | skip))
  repeat refine Mm.mk ?_
  refine EndVC.mk _ rfl _ _ ⟨rfl, rfl⟩ ?_
  refine ⟨[], rfl, rfl, ?_, ?_⟩ <;> repeat' (first | exact trivial | exact rfl | exact Iff.rfl | apply And.intro)
end Go.Sx

namespace Go.Sx
open Go Go.Proofs
set_option maxRecDepth 10000
set_option maxHeartbeats 8000000
theorem eb3 : Tryd.t3.bytes = 8 := by kernel_rfl
/-! ### The usual order -/
theorem s110 (x : Int) : PSpec Tryd.prog 115 [I x] (xP (x ≠ x)) := by
  refine spec_of pMix (O := []) Tryd.func115 (c := bodyOf Tryd.f115) rfl (by kernel_rfl) (by kernel_rfl) Tryd.ntmps115 (res := [.tmp 2]) (by kernel_rfl) ?_
  repeat' ((conv => whnf); first | refine Rng.g ?_ | refine Ob.g ?_ | refine Ob.e ?_ | refine Ob.m ?_ | refine Ob.mk (Nat.le_of_ble_eq_true rfl) ?_ | refine JoinVC.on ?_ | refine Nils.mk (fun h => ?_) ?_ | refine Val.t ?_ | refine Val.d ?_ | refine Mm.mk ?_ | (refine Br.mk (fun h => ?_) (fun h => ?_) <;> first | (exfalso; omega; done) | (exfalso; simp at h; done) | skip))
  repeat refine Mm.mk ?_
  refine EndVC.mk _ rfl _ _ ⟨rfl, rfl⟩ ?_
  refine ⟨[], rfl, rfl, ?_, ?_⟩ <;> repeat' (first | exact trivial | exact rfl | exact Iff.rfl | apply And.intro)
theorem s111 (x : Int) : PSpec Tryd.prog 106 [I x] (xP (x ≠ x)) := by
  refine spec_of pMix (O := []) Tryd.func106 (c := bodyOf Tryd.f106) rfl (by kernel_rfl) (by kernel_rfl) Tryd.ntmps106 (res := [.tmp 2]) (by kernel_rfl) ?_
  repeat' ((conv => whnf); first | refine Rng.g ?_ | refine Ob.g ?_ | refine Ob.e ?_ | refine Ob.m ?_ | refine Ob.mk (Nat.le_of_ble_eq_true rfl) ?_ | refine JoinVC.on ?_ | refine Nils.mk (fun h => ?_) ?_ | refine Val.t ?_ | refine Val.d ?_ | refine Mm.mk ?_ | (refine Br.mk (fun h => ?_) (fun h => ?_) <;> first | (exfalso; omega; done) | (exfalso; simp at h; done) | skip))
  repeat refine Mm.mk ?_
  refine EndVC.mk _ rfl _ _ ⟨rfl, rfl⟩ ?_
  refine ⟨[], rfl, rfl, ?_, ?_⟩ <;> repeat' (first | exact trivial | exact rfl | exact Iff.rfl | apply And.intro)
theorem s85 (x y : Int) : PSpec Tryd.prog 97 [I x, I y] (.x (I (cmpI x y))) := by
  by_cases h1 : x < y
  · have e : cmpI x y = -1 := if_pos h1
    rw [e]
    refine spec_of pMix (O := []) Tryd.func97 (c := bodyOf Tryd.f97) rfl (by kernel_rfl) (by kernel_rfl) Tryd.ntmps97 (res := [.tmp 4]) (by kernel_rfl) ?_
    repeat' ((conv => whnf); first | refine Rng.g ?_ | refine Ob.g ?_ | refine Ob.e ?_ | refine Ob.m ?_ | refine Ob.mk (Nat.le_of_ble_eq_true rfl) ?_ | refine JoinVC.on ?_ | refine Nils.mk (fun h => ?_) ?_ | refine Val.t ?_ | refine Val.d ?_ | refine Mm.mk ?_ | refine CallVC.pure rfl (s110 x) ?_ | refine CallVC.pure rfl (s110 y) ?_ | refine CallVC0.pure rfl (s110 x) ?_ | refine CallVC0.pure rfl (s110 y) ?_ | (refine Br.mk (fun h => ?_) (fun h => ?_) <;> first | (exfalso; omega; done) | (exfalso; simp at h; done) | skip))
    all_goals
      repeat refine Mm.mk ?_
      refine EndVC.mk _ rfl _ _ ⟨rfl, rfl⟩ ?_
      refine ⟨[], rfl, rfl, ?_, ?_⟩ <;> repeat' (first | exact trivial | exact rfl | exact Iff.rfl | apply And.intro)
  · by_cases h2 : y < x
    · have e : cmpI x y = 1 := (if_neg h1).trans (if_pos h2)
      rw [e]
      refine spec_of pMix (O := []) Tryd.func97 (c := bodyOf Tryd.f97) rfl (by kernel_rfl) (by kernel_rfl) Tryd.ntmps97 (res := [.tmp 4]) (by kernel_rfl) ?_
      repeat' ((conv => whnf); first | refine Rng.g ?_ | refine Ob.g ?_ | refine Ob.e ?_ | refine Ob.m ?_ | refine Ob.mk (Nat.le_of_ble_eq_true rfl) ?_ | refine JoinVC.on ?_ | refine Nils.mk (fun h => ?_) ?_ | refine Val.t ?_ | refine Val.d ?_ | refine Mm.mk ?_ | refine CallVC.pure rfl (s110 x) ?_ | refine CallVC.pure rfl (s110 y) ?_ | refine CallVC0.pure rfl (s110 x) ?_ | refine CallVC0.pure rfl (s110 y) ?_ | (refine Br.mk (fun h => ?_) (fun h => ?_) <;> first | (exfalso; omega; done) | (exfalso; simp at h; done) | skip))
      all_goals
        repeat refine Mm.mk ?_
        refine EndVC.mk _ rfl _ _ ⟨rfl, rfl⟩ ?_
        refine ⟨[], rfl, rfl, ?_, ?_⟩ <;> repeat' (first | exact trivial | exact rfl | exact Iff.rfl | apply And.intro)
    · have e : cmpI x y = 0 := (if_neg h1).trans (if_neg h2)
      rw [e]
      refine spec_of pMix (O := []) Tryd.func97 (c := bodyOf Tryd.f97) rfl (by kernel_rfl) (by kernel_rfl) Tryd.ntmps97 (res := [.tmp 4]) (by kernel_rfl) ?_
      repeat' ((conv => whnf); first | refine Rng.g ?_ | refine Ob.g ?_ | refine Ob.e ?_ | refine Ob.m ?_ | refine Ob.mk (Nat.le_of_ble_eq_true rfl) ?_ | refine JoinVC.on ?_ | refine Nils.mk (fun h => ?_) ?_ | refine Val.t ?_ | refine Val.d ?_ | refine Mm.mk ?_ | refine CallVC.pure rfl (s110 x) ?_ | refine CallVC.pure rfl (s110 y) ?_ | refine CallVC0.pure rfl (s110 x) ?_ | refine CallVC0.pure rfl (s110 y) ?_ | (refine Br.mk (fun h => ?_) (fun h => ?_) <;> first | (exfalso; omega; done) | (exfalso; simp at h; done) | skip))
      all_goals
        repeat refine Mm.mk ?_
        refine EndVC.mk _ rfl _ _ ⟨rfl, rfl⟩ ?_
        refine ⟨[], rfl, rfl, ?_, ?_⟩ <;> repeat' (first | exact trivial | exact rfl | exact Iff.rfl | apply And.intro)
theorem s86 (x y : Int) : PSpec Tryd.prog 98 [I x, I y] (.x (I (cmpI x y))) := by
  by_cases h1 : x < y
  · have e : cmpI x y = -1 := if_pos h1
    rw [e]
    refine spec_of pMix (O := []) Tryd.func98 (c := bodyOf Tryd.f98) rfl (by kernel_rfl) (by kernel_rfl) Tryd.ntmps98 (res := [.tmp 4]) (by kernel_rfl) ?_
    repeat' ((conv => whnf); first | refine Rng.g ?_ | refine Ob.g ?_ | refine Ob.e ?_ | refine Ob.m ?_ | refine Ob.mk (Nat.le_of_ble_eq_true rfl) ?_ | refine JoinVC.on ?_ | refine Nils.mk (fun h => ?_) ?_ | refine Val.t ?_ | refine Val.d ?_ | refine Mm.mk ?_ | refine CallVC.pure rfl (s111 x) ?_ | refine CallVC.pure rfl (s111 y) ?_ | refine CallVC0.pure rfl (s111 x) ?_ | refine CallVC0.pure rfl (s111 y) ?_ | (refine Br.mk (fun h => ?_) (fun h => ?_) <;> first | (exfalso; omega; done) | (exfalso; simp at h; done) | skip))
    all_goals
      repeat refine Mm.mk ?_
      refine EndVC.mk _ rfl _ _ ⟨rfl, rfl⟩ ?_
      refine ⟨[], rfl, rfl, ?_, ?_⟩ <;> repeat' (first | exact trivial | exact rfl | exact Iff.rfl | apply And.intro)
  · by_cases h2 : y < x
    · have e : cmpI x y = 1 := (if_neg h1).trans (if_pos h2)
      rw [e]
      refine spec_of pMix (O := []) Tryd.func98 (c := bodyOf Tryd.f98) rfl (by kernel_rfl) (by kernel_rfl) Tryd.ntmps98 (res := [.tmp 4]) (by kernel_rfl) ?_
      repeat' ((conv => whnf); first | refine Rng.g ?_ | refine Ob.g ?_ | refine Ob.e ?_ | refine Ob.m ?_ | refine Ob.mk (Nat.le_of_ble_eq_true rfl) ?_ | refine JoinVC.on ?_ | refine Nils.mk (fun h => ?_) ?_ | refine Val.t ?_ | refine Val.d ?_ | refine Mm.mk ?_ | refine CallVC.pure rfl (s111 x) ?_ | refine CallVC.pure rfl (s111 y) ?_ | refine CallVC0.pure rfl (s111 x) ?_ | refine CallVC0.pure rfl (s111 y) ?_ | (refine Br.mk (fun h => ?_) (fun h => ?_) <;> first | (exfalso; omega; done) | (exfalso; simp at h; done) | skip))
      all_goals
        repeat refine Mm.mk ?_
        refine EndVC.mk _ rfl _ _ ⟨rfl, rfl⟩ ?_
        refine ⟨[], rfl, rfl, ?_, ?_⟩ <;> repeat' (first | exact trivial | exact rfl | exact Iff.rfl | apply And.intro)
    · have e : cmpI x y = 0 := (if_neg h1).trans (if_neg h2)
      rw [e]
      refine spec_of pMix (O := []) Tryd.func98 (c := bodyOf Tryd.f98) rfl (by kernel_rfl) (by kernel_rfl) Tryd.ntmps98 (res := [.tmp 4]) (by kernel_rfl) ?_
      repeat' ((conv => whnf); first | refine Rng.g ?_ | refine Ob.g ?_ | refine Ob.e ?_ | refine Ob.m ?_ | refine Ob.mk (Nat.le_of_ble_eq_true rfl) ?_ | refine JoinVC.on ?_ | refine Nils.mk (fun h => ?_) ?_ | refine Val.t ?_ | refine Val.d ?_ | refine Mm.mk ?_ | refine CallVC.pure rfl (s111 x) ?_ | refine CallVC.pure rfl (s111 y) ?_ | refine CallVC0.pure rfl (s111 x) ?_ | refine CallVC0.pure rfl (s111 y) ?_ | (refine Br.mk (fun h => ?_) (fun h => ?_) <;> first | (exfalso; omega; done) | (exfalso; simp at h; done) | skip))
      all_goals
        repeat refine Mm.mk ?_
        refine EndVC.mk _ rfl _ _ ⟨rfl, rfl⟩ ?_
        refine ⟨[], rfl, rfl, ?_, ?_⟩ <;> repeat' (first | exact trivial | exact rfl | exact Iff.rfl | apply And.intro)
theorem s84 (a b : Int) : PSpec Tryd.prog 96 [.one (.lst true [.int .i64] [[.int a], [.int b]])] (.x (I (if a ≠ 0 then a else b))) := by
  have g0 : rI [[Cell.int a], [Cell.int b]] (Int.toNat 0) 0 = a := rfl
  have g1 : rI [[Cell.int a], [Cell.int b]] (Int.toNat (0 + 1)) 0 = b := rfl
  by_cases h1 : a = 0
  · rw [if_neg (fun h => h h1)]
    refine spec_of pMix (O := []) Tryd.func96 (c := bodyOf Tryd.f96) rfl (by kernel_rfl) (by kernel_rfl) Tryd.ntmps96 (res := [.tmp 2]) (by kernel_rfl) ?_
    repeat' ((conv => whnf); first | refine Rng.g ?_ | refine Ob.g ?_ | refine Ob.e ?_ | refine Ob.m ?_ | refine Ob.mk (Nat.le_of_ble_eq_true rfl) ?_ | refine JoinVC.on ?_ | refine Nils.mk (fun h => ?_) ?_ | refine Val.t ?_ | refine Val.d ?_ | refine Mm.mk ?_ | (refine Br.mk (fun h => ?_) (fun h => ?_) <;> first | (exfalso; omega; done) | (exfalso; simp at h; done) | skip))
    refine LoopVC.un 4 ?_
    repeat' ((conv => whnf); first | rw [g0] | rw [g1] | refine Rng.g ?_ | refine Ob.g ?_ | refine Ob.e ?_ | refine Ob.m ?_ | refine Ob.mk (Nat.le_of_ble_eq_true rfl) ?_ | refine JoinVC.on ?_ | refine Nils.mk (fun h => ?_) ?_ | refine Val.t ?_ | refine Val.d ?_ | refine Mm.mk ?_ | (refine Br.mk (fun h => ?_) (fun h => ?_) <;> first | (exfalso; omega; done) | (exfalso; simp at h; done) | skip))
    all_goals
      repeat refine Mm.mk ?_
      refine EndVC.mk _ rfl _ _ ⟨rfl, rfl⟩ ?_
      refine ⟨[], rfl, rfl, ?_, ?_⟩ <;> repeat' (first | exact trivial | exact rfl | exact Iff.rfl | apply And.intro)
    all_goals omega
  · rw [if_pos h1]
    refine spec_of pMix (O := []) Tryd.func96 (c := bodyOf Tryd.f96) rfl (by kernel_rfl) (by kernel_rfl) Tryd.ntmps96 (res := [.tmp 2]) (by kernel_rfl) ?_
    repeat' ((conv => whnf); first | refine Rng.g ?_ | refine Ob.g ?_ | refine Ob.e ?_ | refine Ob.m ?_ | refine Ob.mk (Nat.le_of_ble_eq_true rfl) ?_ | refine JoinVC.on ?_ | refine Nils.mk (fun h => ?_) ?_ | refine Val.t ?_ | refine Val.d ?_ | refine Mm.mk ?_ | (refine Br.mk (fun h => ?_) (fun h => ?_) <;> first | (exfalso; omega; done) | (exfalso; simp at h; done) | skip))
    refine LoopVC.un 4 ?_
    repeat' ((conv => whnf); first | rw [g0] | rw [g1] | refine Rng.g ?_ | refine Ob.g ?_ | refine Ob.e ?_ | refine Ob.m ?_ | refine Ob.mk (Nat.le_of_ble_eq_true rfl) ?_ | refine JoinVC.on ?_ | refine Nils.mk (fun h => ?_) ?_ | refine Val.t ?_ | refine Val.d ?_ | refine Mm.mk ?_ | (refine Br.mk (fun h => ?_) (fun h => ?_) <;> first | (exfalso; omega; done) | (exfalso; simp at h; done) | skip))
    all_goals
      repeat refine Mm.mk ?_
      refine EndVC.mk _ rfl _ _ ⟨rfl, rfl⟩ ?_
      refine ⟨[], rfl, rfl, ?_, ?_⟩ <;> repeat' (first | exact trivial | exact rfl | exact Iff.rfl | apply And.intro)
theorem s74 (f : Fmt) (l : List Sng) (a b : Int) (ha : 0 ≤ a ∧ a < l.length) (hb : 0 ≤ b ∧ b < l.length) : HSpec Tryd.prog 81 [.one (.ptr 0 0), I a, I b] [bPl f l] (fun r m' => r = .x (I (usF l a b)) ∧ m' = [some (bPl f l)]) := by
  have lp := sngA_len l
  have c1 : rI (sngA l) a.toNat (0 + (0 + 1 + 1)) = (l.getD a.toNat g0).least := sngA_2 l _
  have c2 : rI (sngA l) b.toNat (0 + (0 + 1 + 1)) = (l.getD b.toNat g0).least := sngA_2 l _
  have k1 := s85 (l.getD b.toNat g0).least (l.getD a.toNat g0).least
  have k2 := s86 a b
  have k3 := s84 (cmpI (l.getD b.toNat g0).least (l.getD a.toNat g0).least) (cmpI a b)
  refine spec_of pMix (O := [(1, ([], [⟨0, [], []⟩, ⟨1, [], []⟩, ⟨2, [], []⟩, ⟨3, [], []⟩, ⟨4, [], []⟩, ⟨5, [], []⟩, ⟨6, [], []⟩, ⟨7, [], []⟩, ⟨8, [], []⟩, ⟨9, [], []⟩, ⟨10, [], []⟩, ⟨11, [], []⟩, ⟨12, [], []⟩, ⟨13, [], []⟩, ⟨14, [], []⟩, ⟨15, [], []⟩, ⟨17, [], []⟩, ⟨18, [], []⟩, ⟨16, [17, 18], []⟩, ⟨19, [], [20]⟩, ⟨20, [], []⟩, ⟨21, [], []⟩, ⟨22, [], []⟩]))]) Tryd.func81 (c := bodyOf Tryd.f81) rfl (by kernel_rfl) (by kernel_rfl) Tryd.ntmps81 (res := [.tmp 6]) (by kernel_rfl) ?_
  repeat' ((conv => whnf); first | rw [c1] | rw [c2] | refine Rng.g ?_ | refine Ob.g ?_ | refine Ob.e ?_ | refine Ob.m ?_ | refine Ob.mk (Nat.le_of_ble_eq_true rfl) ?_ | refine JoinVC.on ?_ | refine Nils.mk (fun h => ?_) ?_ | refine Val.t ?_ | refine Val.d ?_ | refine Mm.mk ?_ | refine CallVC.pure rfl (k1) ?_ | refine CallVC.pure rfl (k2) ?_ | refine CallVC.pure rfl (k3) ?_ | refine CallVC0.pure rfl (k1) ?_ | refine CallVC0.pure rfl (k2) ?_ | refine CallVC0.pure rfl (k3) ?_ | (refine Br.mk (fun h => ?_) (fun h => ?_) <;> first | (exfalso; omega; done) | (exfalso; simp at h; done) | skip))
  repeat refine Mm.mk ?_
  refine EndVC.mk _ rfl _ _ ⟨rfl, rfl⟩ ?_
  refine ⟨[some 0], rfl, rfl, ?_, ?_⟩ <;> repeat' (first | exact trivial | exact rfl | exact Iff.rfl | apply And.intro)
@[reducible] def rowOd (O : List Int) : Blk := .row 3 false [.int .i64] (i64s O)
theorem i64s_upd' (xs : List Int) (i : Nat) (v : Int) (h : i < xs.length) : updRow (i64s xs) i 0 [.int v] = i64s (xs.set i v) := by
  unfold updRow i64s
  rw [List.map_set]
  congr 1
  simp [List.getD_eq_getElem?_getD, h, setAll]
/-- All of them are numbers of tracks. -/
def InR (O : List Int) (m : Nat) : Prop := ∀ i, i < O.length → 0 ≤ O.getD i 0 ∧ O.getD i 0 < m
theorem InR.swp {O : List Int} {m : Nat} (h : InR O m) {j : Nat} (hj : j + 1 < O.length) : InR (Go.Sx.swp O j) m := fun i hi => by
  rw [swp_len] at hi
  rw [swp_get O hj]
  exact h _ (sg_lt hj hi)
theorem InR.ins {lt : Int → Int → Bool} {m : Nat} : ∀ (j : Nat) {O : List Int}, InR O m → j < O.length → InR (Go.Sx.ins lt O j) m
  | 0, O, h, _ => h
  | j + 1, O, h, hj => by
    unfold Go.Sx.ins
    split
    · exact InR.ins j (h.swp hj) (by rw [swp_len]; omega)
    · exact h
theorem InR.isr {lt : Int → Int → Bool} {m : Nat} {O : List Int} (h : InR O m) : ∀ k, k < O.length ∨ k = 0 → InR (Go.Sx.isr lt O k) m
  | 0, _ => h
  | k + 1, hk => by
    unfold Go.Sx.isr
    exact InR.ins (k + 1) (h.isr k (by omega)) (by rw [isr_len]; omega)
theorem s102 (f : Fmt) (l : List Sng) (O : List Int) (hO : InR O l.length) (hl : O.length ≤ 1000000) : HSpec Tryd.prog 107 [.one (.own 0), I 0, I (O.length : Int), .one (.bnd 81 false [.ptr 1 0])] [rowOd O, bPl f l] (fun r m' => r = .tup [] ∧ m' = [some (rowOd (isr (usB l) O (O.length - 1))), some (bPl f l)]) := by
  have lo := i64s_len O
  refine spec_of pMix (O := [(6, ([], [⟨0, [], []⟩, ⟨1, [], []⟩, ⟨2, [], []⟩, ⟨3, [], []⟩, ⟨4, [], []⟩, ⟨5, [], []⟩, ⟨6, [], []⟩, ⟨7, [], []⟩, ⟨8, [], []⟩, ⟨9, [], []⟩, ⟨10, [], []⟩, ⟨11, [], []⟩, ⟨12, [], []⟩, ⟨13, [], []⟩, ⟨14, [], []⟩, ⟨15, [2, 3, 4], []⟩, ⟨16, [], []⟩, ⟨17, [], []⟩]))]) Tryd.func107 (c := bodyOf Tryd.f107) rfl (by kernel_rfl) (by kernel_rfl) Tryd.ntmps107 (res := []) (by kernel_rfl) ?_
  repeat' ((conv => whnf); first | refine Rng.g ?_ | refine Ob.g ?_ | refine Ob.e ?_ | refine Ob.m ?_ | refine Ob.mk (Nat.le_of_ble_eq_true rfl) ?_ | refine JoinVC.on ?_ | refine Nils.mk (fun h => ?_) ?_ | refine Val.t ?_ | refine Val.d ?_ | refine Mm.mk ?_ | (refine Br.mk (fun h => ?_) (fun h => ?_) <;> first | (exfalso; omega; done) | (exfalso; simp at h; done) | skip))
  refine LoopVC.mk (fun n st => ∃ (k : Nat), (k < O.length ∨ k = 0) ∧ n = O.length - k ∧ st = ⟨2, envA 53 [(0, .x (.one (.own 0))), (1, .x (I 0)), (2, .x (I (O.length : Int))), (3, .x (.one (.bnd 81 false [.ptr 1 0]))), (8, .int .i64 ((k : Int) + 1))], [some (rowOd (isr (usB l) O k)), some (bPl f l)]⟩) _ _ ⟨0, .inr rfl, rfl, rfl⟩ ?_ ?_
  · refine ⟨[some 0, some 1], rfl, rfl, ?_, ?_⟩ <;> repeat' (first | exact trivial | exact rfl | exact Iff.rfl | apply And.intro)
  rintro n _ ⟨k, hk, hn, rfl⟩
  by_cases hk' : k + 1 < O.length
  · obtain ⟨Z, hZ⟩ : ∃ Z, isr (usB l) O (k + 1) = Z := ⟨_, rfl⟩
    have hZ' : ins (usB l) (isr (usB l) O k) (k + 1) = Z := hZ
    repeat' ((conv => whnf); first | refine Rng.g ?_ | refine Ob.g ?_ | refine Ob.e ?_ | refine Ob.m ?_ | refine Ob.mk (Nat.le_of_ble_eq_true rfl) ?_ | refine JoinVC.on ?_ | refine Nils.mk (fun h => ?_) ?_ | refine Val.t ?_ | refine Val.d ?_ | refine Mm.mk ?_ | (refine Br.mk (fun h => ?_) (fun h => ?_) <;> first | (exfalso; omega; done) | (exfalso; simp at h; done) | skip))
    refine LoopVC.mk (fun n st => ∃ (j : Nat) (V : List Int), j ≤ k + 1 ∧ n = j ∧ V.length = O.length ∧ InR V l.length ∧ ins (usB l) V j = Z ∧ st = ⟨2, envA 53 [(0, .x (.one (.own 0))), (1, .x (I 0)), (2, .x (I (O.length : Int))), (3, .x (.one (.bnd 81 false [.ptr 1 0]))), (8, .int .i64 ((k : Int) + 1)), (9, .int .i64 (j : Int))], [some (rowOd V), some (bPl f l)]⟩) _ _ ⟨k + 1, isr (usB l) O k, Nat.le_refl _, rfl, isr_len _ _ _, hO.isr k hk, hZ', rfl⟩ ?_ ?_
    · refine ⟨[some 0, some 1], rfl, rfl, ?_, ?_⟩ <;> repeat' (first | exact trivial | exact rfl | exact Iff.rfl | apply And.intro)
    rintro n _ ⟨j, V, hj, hn, lV, hV, hi, rfl⟩
    have lv := i64s_len V
    cases j with
    | zero =>
      have e : V = Z := hi
      repeat' ((conv => whnf); first | refine Rng.g ?_ | refine Ob.g ?_ | refine Ob.e ?_ | refine Ob.m ?_ | refine Ob.mk (Nat.le_of_ble_eq_true rfl) ?_ | refine JoinVC.on ?_ | refine Nils.mk (fun h => ?_) ?_ | refine Val.t ?_ | refine Val.d ?_ | refine Mm.mk ?_ | (refine Br.mk (fun h => ?_) (fun h => ?_) <;> first | (exfalso; omega; done) | (exfalso; simp at h; done) | skip))
      refine Back.mk (O.length - (k + 1)) _ (by omega) ⟨k + 1, .inl hk', rfl, rfl⟩ ?_
      rw [hZ, ← e]
      refine ⟨[some 0, some 1], rfl, rfl, ?_, ?_⟩ <;> repeat' (first | exact trivial | exact rfl | exact Iff.rfl | apply And.intro)
    | succ j =>
      have g1 : rI (i64s V) ((j + 1 : Nat) : Int).toNat 0 = V.getD (j + 1) 0 := by rw [Int.toNat_natCast]; exact i64s_get V _
      have g2 : rI (i64s V) (((j + 1 : Nat) : Int) - 1).toNat 0 = V.getD j 0 := by rw [show (((j + 1 : Nat) : Int) - 1).toNat = j by omega]; exact i64s_get V _
      have h1 := hV (j + 1) (by omega)
      have h2 := hV j (by omega)
      have u1 : updRow (i64s V) ((j + 1 : Nat) : Int).toNat 0 [Cell.int (V.getD j 0)] = i64s (V.set (j + 1) (V.getD j 0)) := by rw [Int.toNat_natCast]; exact i64s_upd' _ _ _ (by omega)
      have u2 : updRow (i64s (V.set (j + 1) (V.getD j 0))) (((j + 1 : Nat) : Int) - 1).toNat 0 [Cell.int (V.getD (j + 1) 0)] = i64s (swp V j) := by
        rw [show (((j + 1 : Nat) : Int) - 1).toNat = j by omega]
        exact i64s_upd' _ _ _ (by rw [List.length_set]; omega)
      have lv2 : (i64s (V.set (j + 1) (V.getD j 0))).length = V.length := by rw [i64s_len, List.length_set]
      unfold ins at hi
      repeat' ((conv => whnf); first | rw [g1] | rw [g2] | refine Rng.g ?_ | refine Ob.g ?_ | refine Ob.e ?_ | refine Ob.m ?_ | refine Ob.mk (Nat.le_of_ble_eq_true rfl) ?_ | refine JoinVC.on ?_ | refine Nils.mk (fun h => ?_) ?_ | refine Val.t ?_ | refine Val.d ?_ | refine Mm.mk ?_ | (refine Br.mk (fun h => ?_) (fun h => ?_) <;> first | (exfalso; omega; done) | (exfalso; simp at h; done) | skip))
      conv => whnf
      refine CallVC.mk [1] _ _ _ rfl rfl rfl (s74 f l (V.getD (j + 1) 0) (V.getD j 0) h1 h2) (fun r m' h' => ?_)
      obtain ⟨rfl, rfl⟩ := h'
      conv => whnf
      by_cases hlt : usF l (V.getD (j + 1) 0) (V.getD j 0) < 0
      · rw [if_pos (show usB l (V.getD (j + 1) 0) (V.getD j 0) = true from decide_eq_true hlt)] at hi
        repeat' ((conv => whnf); first | rw [g1] | rw [g2] | rw [u1] | rw [u2] | refine Rng.g ?_ | refine Ob.g ?_ | refine Ob.e ?_ | refine Ob.m ?_ | refine Ob.mk (Nat.le_of_ble_eq_true rfl) ?_ | refine JoinVC.on ?_ | refine Nils.mk (fun h => ?_) ?_ | refine Val.t ?_ | refine Val.d ?_ | refine Mm.mk ?_ | (refine Br.mk (fun h => ?_) (fun h => ?_) <;> first | (exfalso; omega; done) | (exfalso; simp at h; done) | skip))
        refine Back.mk j _ (by omega) ⟨j, swp V j, by omega, rfl, by rw [swp_len]; exact lV, hV.swp (by omega), hi, rfl⟩ ?_
        refine ⟨[some 0, some 1], rfl, rfl, ?_, ?_⟩ <;> repeat' (first | exact trivial | exact rfl | exact Iff.rfl | apply And.intro)
        all_goals omega
      · rw [if_neg (show ¬ usB l (V.getD (j + 1) 0) (V.getD j 0) = true from fun h => hlt (of_decide_eq_true h))] at hi
        repeat' ((conv => whnf); first | rw [g1] | rw [g2] | refine Rng.g ?_ | refine Ob.g ?_ | refine Ob.e ?_ | refine Ob.m ?_ | refine Ob.mk (Nat.le_of_ble_eq_true rfl) ?_ | refine JoinVC.on ?_ | refine Nils.mk (fun h => ?_) ?_ | refine Val.t ?_ | refine Val.d ?_ | refine Mm.mk ?_ | (refine Br.mk (fun h => ?_) (fun h => ?_) <;> first | (exfalso; omega; done) | (exfalso; simp at h; done) | skip))
        refine Back.mk (O.length - (k + 1)) _ (by omega) ⟨k + 1, .inl hk', rfl, rfl⟩ ?_
        rw [hZ, ← hi]
        refine ⟨[some 0, some 1], rfl, rfl, ?_, ?_⟩ <;> repeat' (first | exact trivial | exact rfl | exact Iff.rfl | apply And.intro)
  · have ek : k = O.length - 1 := by omega
    subst ek
    repeat' ((conv => whnf); first | refine Rng.g ?_ | refine Ob.g ?_ | refine Ob.e ?_ | refine Ob.m ?_ | refine Ob.mk (Nat.le_of_ble_eq_true rfl) ?_ | refine JoinVC.on ?_ | refine Nils.mk (fun h => ?_) ?_ | refine Val.t ?_ | refine Val.d ?_ | refine Mm.mk ?_ | (refine Br.mk (fun h => ?_) (fun h => ?_) <;> first | (exfalso; omega; done) | (exfalso; simp at h; done) | skip))
    repeat refine Mm.mk ?_
    refine EndVC.mk _ rfl _ _ ⟨rfl, rfl⟩ ?_
    refine ⟨[some 0, some 1], rfl, rfl, ?_, ?_⟩ <;> repeat' (first | exact trivial | exact rfl | exact Iff.rfl | apply And.intro)
theorem rngU8 (x : UInt8) : inR .i64 (x.toNat : Int) := by
  have := x.toNat_lt
  simp only [inR]
  omega
theorem rngU8' (x : UInt8) : inR .i64 (0 + (x.toNat : Int)) := by
  have := x.toNat_lt
  simp only [inR]
  omega
/-- The number of bits is a number. -/
theorem s99 (n : Int) (hn : 0 ≤ n ∧ n ≤ 12) : HSpec Tryd.prog 94 [.one (.int .u64 n)] [] (fun r m' => ∃ v, r = .x (I v) ∧ m' = []) := by
  have hc : n = 0 ∨ n = 1 ∨ n = 2 ∨ n = 3 ∨ n = 4 ∨ n = 5 ∨ n = 6 ∨ n = 7 ∨ n = 8 ∨ n = 9 ∨ n = 10 ∨ n = 11 ∨ n = 12 := by omega
  rcases hc with rfl | rfl | rfl | rfl | rfl | rfl | rfl | rfl | rfl | rfl | rfl | rfl | rfl
  all_goals
    refine spec_of pMix (O := []) Tryd.func94 (c := bodyOf Tryd.f94) rfl (by kernel_rfl) (by kernel_rfl) Tryd.ntmps94 (res := [.tmp 2]) (by kernel_rfl) ?_
    repeat' ((conv => whnf); first | refine Rng.g ?_ | refine Ob.g ?_ | refine Ob.e ?_ | refine Ob.m ?_ | refine Ob.mk (Nat.le_of_ble_eq_true rfl) ?_ | refine JoinVC.on ?_ | refine Nils.mk (fun h => ?_) ?_ | refine Val.t ?_ | refine Val.d ?_ | refine Mm.mk ?_ | (refine Br.mk (fun h => ?_) (fun h => ?_) <;> first | (exfalso; omega; done) | (exfalso; simp at h; done) | skip))
    refine Rng.ok (rngU8 _) ?_
    repeat' ((conv => whnf); first | refine Rng.g ?_ | refine Ob.g ?_ | refine Ob.e ?_ | refine Ob.m ?_ | refine Ob.mk (Nat.le_of_ble_eq_true rfl) ?_ | refine JoinVC.on ?_ | refine Nils.mk (fun h => ?_) ?_ | refine Val.t ?_ | refine Val.d ?_ | refine Mm.mk ?_ | (refine Br.mk (fun h => ?_) (fun h => ?_) <;> first | (exfalso; omega; done) | (exfalso; simp at h; done) | skip))
    refine Rng.ok (rngU8' _) ?_
    repeat' ((conv => whnf); first | refine Rng.g ?_ | refine Ob.g ?_ | refine Ob.e ?_ | refine Ob.m ?_ | refine Ob.mk (Nat.le_of_ble_eq_true rfl) ?_ | refine JoinVC.on ?_ | refine Nils.mk (fun h => ?_) ?_ | refine Val.t ?_ | refine Val.d ?_ | refine Mm.mk ?_ | (refine Br.mk (fun h => ?_) (fun h => ?_) <;> first | (exfalso; omega; done) | (exfalso; simp at h; done) | skip))
    conv => whnf
    exact EndVC.run _ rfl ⟨_, rfl, rfl⟩
theorem s80 (n : Int) (hn : 0 ≤ n ∧ n ≤ 12) : HSpec Tryd.prog 76 [.one (.int .u64 n)] [] (fun r m' => ∃ v, r = .x (I v) ∧ m' = []) := by
  refine spec_of pMix (O := []) Tryd.func76 (c := bodyOf Tryd.f76) rfl (by kernel_rfl) (by kernel_rfl) Tryd.ntmps76 (res := [.tmp 2]) (by kernel_rfl) ?_
  repeat' ((conv => whnf); first | refine Rng.g ?_ | refine Ob.g ?_ | refine Ob.e ?_ | refine Ob.m ?_ | refine Ob.mk (Nat.le_of_ble_eq_true rfl) ?_ | refine JoinVC.on ?_ | refine Nils.mk (fun h => ?_) ?_ | refine Val.t ?_ | refine Val.d ?_ | refine Mm.mk ?_ | (refine Br.mk (fun h => ?_) (fun h => ?_) <;> first | (exfalso; omega; done) | (exfalso; simp at h; done) | skip))
  conv => whnf
  refine CallVC.mk [] _ _ _ rfl rfl rfl (s99 n hn) (fun r m' h' => ?_)
  obtain ⟨v, rfl, rfl⟩ := h'
  conv => whnf
  repeat' ((conv => whnf); first | refine Rng.g ?_ | refine Ob.g ?_ | refine Ob.e ?_ | refine Ob.m ?_ | refine Ob.mk (Nat.le_of_ble_eq_true rfl) ?_ | refine JoinVC.on ?_ | refine Nils.mk (fun h => ?_) ?_ | refine Val.t ?_ | refine Val.d ?_ | refine Mm.mk ?_ | (refine Br.mk (fun h => ?_) (fun h => ?_) <;> first | (exfalso; omega; done) | (exfalso; simp at h; done) | skip))
  repeat refine Mm.mk ?_
  conv => whnf
  refine EndVC.mk _ rfl _ _ (⟨v, rfl, rfl⟩) ?_
  refine ⟨[], rfl, rfl, ?_, ?_⟩ <;> repeat' (first | exact trivial | exact rfl | exact Iff.rfl | apply And.intro)
theorem s83 (f : Fmt) (l : List Sng) (O : List Int) (v : Int) (hO : InR O l.length) (hl : O.length ≤ 12) : HSpec Tryd.prog 95 [.one (.own 0), I 0, I (O.length : Int), I v, .one (.bnd 81 false [.ptr 1 0])] [rowOd O, bPl f l] (fun r m' => r = .tup [] ∧ m' = [some (rowOd (isr (usB l) O (O.length - 1))), some (bPl f l)]) := by
  have lo := i64s_len O
  refine spec_of pMix (O := []) Tryd.func95 (c := bodyOf Tryd.f95) rfl (by kernel_rfl) (by kernel_rfl) Tryd.ntmps95 (res := []) (by kernel_rfl) ?_
  repeat' ((conv => whnf); first | refine Rng.g ?_ | refine Ob.g ?_ | refine Ob.e ?_ | refine Ob.m ?_ | refine Ob.mk (Nat.le_of_ble_eq_true rfl) ?_ | refine JoinVC.on ?_ | refine Nils.mk (fun h => ?_) ?_ | refine Val.t ?_ | refine Val.d ?_ | refine Mm.mk ?_ | (refine Br.mk (fun h => ?_) (fun h => ?_) <;> first | (exfalso; omega; done) | (exfalso; simp at h; done) | skip))
  refine LoopVC.un 1 ?_
  repeat' ((conv => whnf); first | refine Rng.g ?_ | refine Ob.g ?_ | refine Ob.e ?_ | refine Ob.m ?_ | refine Ob.mk (Nat.le_of_ble_eq_true rfl) ?_ | refine JoinVC.on ?_ | refine Nils.mk (fun h => ?_) ?_ | refine Val.t ?_ | refine Val.d ?_ | refine Mm.mk ?_ | (refine Br.mk (fun h => ?_) (fun h => ?_) <;> first | (exfalso; omega; done) | (exfalso; simp at h; done) | skip))
  conv => whnf
  refine CallVC.mk [0, 1] _ _ _ rfl rfl rfl (s102 f l O hO (by omega)) (fun r m' h' => ?_)
  obtain ⟨rfl, rfl⟩ := h'
  conv => whnf
  repeat' ((conv => whnf); first | refine Rng.g ?_ | refine Ob.g ?_ | refine Ob.e ?_ | refine Ob.m ?_ | refine Ob.mk (Nat.le_of_ble_eq_true rfl) ?_ | refine JoinVC.on ?_ | refine Nils.mk (fun h => ?_) ?_ | refine Val.t ?_ | refine Val.d ?_ | refine Mm.mk ?_ | (refine Br.mk (fun h => ?_) (fun h => ?_) <;> first | (exfalso; omega; done) | (exfalso; simp at h; done) | skip))
  repeat refine Mm.mk ?_
  refine EndVC.mk _ rfl _ _ ⟨rfl, rfl⟩ ?_
  refine ⟨[some 0, some 1], rfl, rfl, ?_, ?_⟩ <;> repeat' (first | exact trivial | exact rfl | exact Iff.rfl | apply And.intro)
theorem s73 (f : Fmt) (l : List Sng) (O : List Int) (hO : InR O l.length) (hl : O.length ≤ 12) : HSpec Tryd.prog 80 [.one (.own 0), .one (.bnd 81 false [.ptr 1 0])] [rowOd O, bPl f l] (fun r m' => r = .tup [] ∧ m' = [some (rowOd (isr (usB l) O (O.length - 1))), some (bPl f l)]) := by
  have lo := i64s_len O
  refine spec_of pMix (O := []) Tryd.func80 (c := bodyOf Tryd.f80) rfl (by kernel_rfl) (by kernel_rfl) Tryd.ntmps80 (res := []) (by kernel_rfl) ?_
  repeat' ((conv => whnf); first | rw [lo] | refine Rng.g ?_ | refine Ob.g ?_ | refine Ob.e ?_ | refine Ob.m ?_ | refine Ob.mk (Nat.le_of_ble_eq_true rfl) ?_ | refine JoinVC.on ?_ | refine Nils.mk (fun h => ?_) ?_ | refine Val.t ?_ | refine Val.d ?_ | refine Mm.mk ?_ | (refine Br.mk (fun h => ?_) (fun h => ?_) <;> first | (exfalso; omega; done) | (exfalso; simp at h; done) | skip))
  conv => whnf
  refine CallVC.mk [] _ _ _ rfl rfl rfl (s80 (O.length : Int) (by omega)) (fun r m' h' => ?_)
  obtain ⟨v, rfl, rfl⟩ := h'
  conv => whnf
  repeat' ((conv => whnf); first | refine Rng.g ?_ | refine Ob.g ?_ | refine Ob.e ?_ | refine Ob.m ?_ | refine Ob.mk (Nat.le_of_ble_eq_true rfl) ?_ | refine JoinVC.on ?_ | refine Nils.mk (fun h => ?_) ?_ | refine Val.t ?_ | refine Val.d ?_ | refine Mm.mk ?_ | (refine Br.mk (fun h => ?_) (fun h => ?_) <;> first | (exfalso; omega; done) | (exfalso; simp at h; done) | skip))
  conv => whnf
  refine CallVC.mk [0, 1] _ _ _ rfl rfl rfl (s83 f l O v hO hl) (fun r m' h' => ?_)
  obtain ⟨rfl, rfl⟩ := h'
  conv => whnf
  repeat' ((conv => whnf); first | refine Rng.g ?_ | refine Ob.g ?_ | refine Ob.e ?_ | refine Ob.m ?_ | refine Ob.mk (Nat.le_of_ble_eq_true rfl) ?_ | refine JoinVC.on ?_ | refine Nils.mk (fun h => ?_) ?_ | refine Val.t ?_ | refine Val.d ?_ | refine Mm.mk ?_ | (refine Br.mk (fun h => ?_) (fun h => ?_) <;> first | (exfalso; omega; done) | (exfalso; simp at h; done) | skip))
  repeat refine Mm.mk ?_
  refine EndVC.mk _ rfl _ _ ⟨rfl, rfl⟩ ?_
  refine ⟨[some 0, some 1], rfl, rfl, ?_, ?_⟩ <;> repeat' (first | exact trivial | exact rfl | exact Iff.rfl | apply And.intro)
theorem s72 (xs : List Int) (hl : xs.length ≤ 1000000) : HSpec Tryd.prog 79 [.one (.lst true [.int .i64] (i64s xs))] [] (fun r m' => r = .x (.one (.own 0)) ∧ m' = [some (rowOd xs)]) := by
  have lo := i64s_len xs
  refine spec_of pMix (O := []) Tryd.func79 (c := bodyOf Tryd.f79) rfl (by kernel_rfl) (by kernel_rfl) Tryd.ntmps79 (res := [.tmp 2]) (by kernel_rfl) ?_
  repeat' ((conv => whnf); first | refine Rng.g ?_ | refine Ob.g ?_ | refine Ob.e ?_ | refine Ob.m ?_ | refine Ob.mk (Nat.le_of_ble_eq_true rfl) ?_ | refine JoinVC.on ?_ | refine Nils.mk (fun h => ?_) ?_ | refine Val.t ?_ | refine Val.d ?_ | refine Mm.mk ?_ | (refine Br.mk (fun h => ?_) (fun h => ?_) <;> first | (exfalso; omega; done) | (exfalso; simp at h; done) | skip))
  · repeat refine Mm.mk ?_
    refine EndVC.mk _ rfl _ _ ⟨rfl, rfl⟩ ?_
    refine ⟨[none], rfl, rfl, ?_, ?_⟩ <;> repeat' (first | exact trivial | exact rfl | exact Iff.rfl | apply And.intro)
    exact h
  · repeat refine Mm.mk ?_
    refine Ob.mk (by simp only [eb3, List.length_nil]; omega) ?_
    repeat' ((conv => whnf); first | refine Rng.g ?_ | refine Ob.g ?_ | refine Ob.e ?_ | refine Ob.m ?_ | refine Ob.mk (Nat.le_of_ble_eq_true rfl) ?_ | refine JoinVC.on ?_ | refine Nils.mk (fun h => ?_) ?_ | refine Val.t ?_ | refine Val.d ?_ | refine Mm.mk ?_ | (refine Br.mk (fun h => ?_) (fun h => ?_) <;> first | (exfalso; omega; done) | (exfalso; simp at h; done) | skip))
    repeat refine Mm.mk ?_
    refine EndVC.mk _ rfl _ _ ⟨rfl, rfl⟩ ?_
    refine ⟨[some 1], rfl, rfl, ?_, ?_⟩ <;> repeat' (first | exact trivial | exact rfl | exact Iff.rfl | apply And.intro)
theorem spanL_nn (n : Nat) : InR (spanL 0 n) n := fun i hi => (span_idx n).rng i (by rw [spanL_len] at hi; exact hi)
theorem s54 (n : Nat) (hn : n ≤ 100000) : HSpec Tryd.prog 50 [I 0, I (n : Int)] [] (fun r m' => r = .x (.one (.own 0)) ∧ m' = [some (rowOd (spanL 0 n))]) := by
  refine spec_of pMix (O := []) Tryd.func50 (c := bodyOf Tryd.f50) rfl (by kernel_rfl) (by kernel_rfl) Tryd.ntmps50 (res := [.tmp 4]) (by kernel_rfl) ?_
  repeat' ((conv => whnf); first | refine Rng.g ?_ | refine Ob.g ?_ | refine Ob.e ?_ | refine Ob.m ?_ | refine Ob.mk (Nat.le_of_ble_eq_true rfl) ?_ | refine JoinVC.on ?_ | refine Nils.mk (fun h => ?_) ?_ | refine Val.t ?_ | refine Val.d ?_ | refine Mm.mk ?_ | (refine Br.mk (fun h => ?_) (fun h => ?_) <;> first | (exfalso; omega; done) | (exfalso; simp at h; done) | skip))
  refine LoopVC.mk (fun m st => ∃ (i : Nat), i ≤ n ∧ m = n - i ∧ st = ⟨0, envA 16 [(0, .int .i64 (i : Int)), (1, .x (I (n : Int))), (5, .x (.one (.own 0)))], [some (rowOd (spanL 0 i))]⟩) _ _ ⟨0, Nat.zero_le _, rfl, rfl⟩ ?_ ?_
  · refine ⟨[none], rfl, rfl, ?_, ?_⟩ <;> repeat' (first | exact trivial | exact rfl | exact Iff.rfl | apply And.intro)
  rintro m _ ⟨i, hi, hm, rfl⟩
  have ls : (i64s (spanL 0 i)).length = i := by rw [i64s_len, spanL_len]
  by_cases hi' : i < n
  · repeat' ((conv => whnf); first | refine Rng.g ?_ | refine Ob.g ?_ | refine Ob.e ?_ | refine Ob.m ?_ | refine Ob.mk (Nat.le_of_ble_eq_true rfl) ?_ | refine JoinVC.on ?_ | refine Nils.mk (fun h => ?_) ?_ | refine Val.t ?_ | refine Val.d ?_ | refine Mm.mk ?_ | (refine Br.mk (fun h => ?_) (fun h => ?_) <;> first | (exfalso; omega; done) | (exfalso; simp at h; done) | skip))
    repeat refine Mm.mk ?_
    refine Ob.mk (by rw [eb3]; simp only [List.length_cons, List.length_nil]; omega) ?_
    repeat' ((conv => whnf); first | refine Rng.g ?_ | refine Ob.g ?_ | refine Ob.e ?_ | refine Ob.m ?_ | refine Ob.mk (Nat.le_of_ble_eq_true rfl) ?_ | refine JoinVC.on ?_ | refine Nils.mk (fun h => ?_) ?_ | refine Val.t ?_ | refine Val.d ?_ | refine Mm.mk ?_ | (refine Br.mk (fun h => ?_) (fun h => ?_) <;> first | (exfalso; omega; done) | (exfalso; simp at h; done) | skip))
    refine Back.mk (n - (i + 1)) _ (by omega) ⟨i + 1, by omega, rfl, rfl⟩ ?_
    rw [spanL_succ]
    refine ⟨[some 2], rfl, rfl, ?_, ?_⟩ <;> repeat' (first | exact trivial | exact rfl | exact Iff.rfl | apply And.intro)
    rw [i64s_snoc, Nat.zero_add]
  · have ei : i = n := by omega
    subst ei
    repeat' ((conv => whnf); first | refine Rng.g ?_ | refine Ob.g ?_ | refine Ob.e ?_ | refine Ob.m ?_ | refine Ob.mk (Nat.le_of_ble_eq_true rfl) ?_ | refine JoinVC.on ?_ | refine Nils.mk (fun h => ?_) ?_ | refine Val.t ?_ | refine Val.d ?_ | refine Mm.mk ?_ | (refine Br.mk (fun h => ?_) (fun h => ?_) <;> first | (exfalso; omega; done) | (exfalso; simp at h; done) | skip))
    repeat refine Mm.mk ?_
    refine EndVC.mk _ rfl _ _ ⟨rfl, rfl⟩ ?_
    refine ⟨[some 0], rfl, rfl, ?_, ?_⟩ <;> repeat' (first | exact trivial | exact rfl | exact Iff.rfl | apply And.intro)
theorem s45 (f : Fmt) (l : List Sng) (O : List Int) (hO : InR O l.length) (hl : O.length ≤ 12) : HSpec Tryd.prog 71 [.one (.ptr 0 0), .one (.own 1)] [bPl f l, rowOd O] (fun r m' => r = .x (.one (.own 2)) ∧ m' = [some (bPl f l), some (rowOd O), some (rowOd (isr (usB l) O (O.length - 1)))]) := by
  refine spec_of pMix (O := []) Tryd.func71 (c := bodyOf Tryd.f71) rfl (by kernel_rfl) (by kernel_rfl) Tryd.ntmps71 (res := [.tmp 4]) (by kernel_rfl) ?_
  repeat' ((conv => whnf); first | refine Rng.g ?_ | refine Ob.g ?_ | refine Ob.e ?_ | refine Ob.m ?_ | refine Ob.mk (Nat.le_of_ble_eq_true rfl) ?_ | refine JoinVC.on ?_ | refine Nils.mk (fun h => ?_) ?_ | refine Val.t ?_ | refine Val.d ?_ | refine Mm.mk ?_ | (refine Br.mk (fun h => ?_) (fun h => ?_) <;> first | (exfalso; omega; done) | (exfalso; simp at h; done) | skip))
  conv => whnf
  refine CallVC.mk [] _ _ _ rfl rfl rfl (s72 O (by omega)) (fun r m' h' => ?_)
  obtain ⟨rfl, rfl⟩ := h'
  conv => whnf
  repeat' ((conv => whnf); first | refine Rng.g ?_ | refine Ob.g ?_ | refine Ob.e ?_ | refine Ob.m ?_ | refine Ob.mk (Nat.le_of_ble_eq_true rfl) ?_ | refine JoinVC.on ?_ | refine Nils.mk (fun h => ?_) ?_ | refine Val.t ?_ | refine Val.d ?_ | refine Mm.mk ?_ | (refine Br.mk (fun h => ?_) (fun h => ?_) <;> first | (exfalso; omega; done) | (exfalso; simp at h; done) | skip))
  conv => whnf
  refine CallVC.mk [2, 0] _ _ _ rfl rfl rfl (s73 f l O hO hl) (fun r m' h' => ?_)
  obtain ⟨rfl, rfl⟩ := h'
  conv => whnf
  repeat' ((conv => whnf); first | refine Rng.g ?_ | refine Ob.g ?_ | refine Ob.e ?_ | refine Ob.m ?_ | refine Ob.mk (Nat.le_of_ble_eq_true rfl) ?_ | refine JoinVC.on ?_ | refine Nils.mk (fun h => ?_) ?_ | refine Val.t ?_ | refine Val.d ?_ | refine Mm.mk ?_ | (refine Br.mk (fun h => ?_) (fun h => ?_) <;> first | (exfalso; omega; done) | (exfalso; simp at h; done) | skip))
  repeat refine Mm.mk ?_
  refine EndVC.mk _ rfl _ _ ⟨rfl, rfl⟩ ?_
  refine ⟨[some 0, some 1, some 2], rfl, rfl, ?_, ?_⟩ <;> repeat' (first | exact trivial | exact rfl | exact Iff.rfl | apply And.intro)
theorem s46 (f : Fmt) (l : List Sng) (hl : l.length ≤ 12) : HSpec Tryd.prog 57 [.one (.ptr 0 0)] [bPl f l] (fun r m' => r = .x (.one (.own 1)) ∧ m' = [some (bPl f l), some (rowOd (allO l))]) := by
  have lp := sngA_len l
  have c := s45 f l (spanL 0 l.length) (spanL_nn _) (by rw [spanL_len]; exact hl)
  rw [spanL_len] at c
  refine spec_of pMix (O := []) Tryd.func57 (c := bodyOf Tryd.f57) rfl (by kernel_rfl) (by kernel_rfl) Tryd.ntmps57 (res := [.tmp 2]) (by kernel_rfl) ?_
  repeat' ((conv => whnf); first | rw [lp] | refine Rng.g ?_ | refine Ob.g ?_ | refine Ob.e ?_ | refine Ob.m ?_ | refine Ob.mk (Nat.le_of_ble_eq_true rfl) ?_ | refine JoinVC.on ?_ | refine Nils.mk (fun h => ?_) ?_ | refine Val.t ?_ | refine Val.d ?_ | refine Mm.mk ?_ | (refine Br.mk (fun h => ?_) (fun h => ?_) <;> first | (exfalso; omega; done) | (exfalso; simp at h; done) | skip))
  conv => whnf
  refine CallVC.mk [] _ _ _ rfl rfl rfl (s54 l.length (by omega)) (fun r m' h' => ?_)
  obtain ⟨rfl, rfl⟩ := h'
  conv => whnf
  repeat' ((conv => whnf); first | refine Rng.g ?_ | refine Ob.g ?_ | refine Ob.e ?_ | refine Ob.m ?_ | refine Ob.mk (Nat.le_of_ble_eq_true rfl) ?_ | refine JoinVC.on ?_ | refine Nils.mk (fun h => ?_) ?_ | refine Val.t ?_ | refine Val.d ?_ | refine Mm.mk ?_ | (refine Br.mk (fun h => ?_) (fun h => ?_) <;> first | (exfalso; omega; done) | (exfalso; simp at h; done) | skip))
  conv => whnf
  refine CallVC.mk [0, 1] _ _ _ rfl rfl rfl (c) (fun r m' h' => ?_)
  obtain ⟨rfl, rfl⟩ := h'
  conv => whnf
  repeat' ((conv => whnf); first | refine Rng.g ?_ | refine Ob.g ?_ | refine Ob.e ?_ | refine Ob.m ?_ | refine Ob.mk (Nat.le_of_ble_eq_true rfl) ?_ | refine JoinVC.on ?_ | refine Nils.mk (fun h => ?_) ?_ | refine Val.t ?_ | refine Val.d ?_ | refine Mm.mk ?_ | (refine Br.mk (fun h => ?_) (fun h => ?_) <;> first | (exfalso; omega; done) | (exfalso; simp at h; done) | skip))
  repeat refine Mm.mk ?_
  refine EndVC.mk _ rfl _ _ ⟨rfl, rfl⟩ ?_
  refine ⟨[some 0, some 2], rfl, rfl, ?_, ?_⟩ <;> repeat' (first | exact trivial | exact rfl | exact Iff.rfl | apply And.intro)
/-! ### The bands -/
@[reducible] def rowB (A : Arr) : Blk := .row 67 false [.int .i64, .int .i64, .int .i64] A
theorem eb116 : Tryd.t67.bytes = 24 := by kernel_rfl
inductive LyRs (f : Fmt) (l : List Sng) (O : List Int) (r : AV) (m' : List (Option Blk)) : Prop
  | rule (i : Nat) (hi : i < O.length) (h : ∀ j, j < i → okAt f l O j) (hn : ¬ okAt f l O i) (hr : r = .tup [.one .nils, I (i : Int), I 20]) (hm : m' = [some (bPl f l)])
  | limit (h : ∀ j, j < O.length → okAt f l O j) (hn : ¬ LayOK f l O) (hr : r = .tup [.one .nils, I (O.length : Int), I 14]) (hm : m' = [some (bPl f l)])
  | ok (h : LayOK f l O) (hr : r = .tup [.one (.own 1), I (O.length : Int), I 0]) (hm : m' = [some (bPl f l), some (rowB (bndA f l O O.length))])
theorem s37 (f : Fmt) (l : List Sng) (O : List Int) (hf : FmtOK f) (hg : SngsOK l) (hO : InR O l.length) (hl : O.length ≤ 100) : HSpec Tryd.prog 61 [.one (.ptr 0 0), .one (.lst true [.int .i64] (i64s O))] [bPl f l] (LyRs f l O) := by
  have lo := i64s_len O
  have lg := sngA_len l
  have hbd := atF_bd hf hg hO
  have hf1 := hf.outer
  have hf2 := hf.lead
  have hf3 := hf.gap
  have hf4 := hf.tail
  have hf5 := hf.inner
  refine spec_of pMix (O := []) Tryd.func61 (c := bodyOf Tryd.f61) rfl (by kernel_rfl) (by kernel_rfl) Tryd.ntmps61 (res := [.tmp 4, .tmp 5, .tmp 6]) (by kernel_rfl) ?_
  repeat' ((conv => whnf); first | refine Rng.g ?_ | refine Ob.g ?_ | refine Ob.e ?_ | refine Ob.m ?_ | refine Ob.mk (Nat.le_of_ble_eq_true rfl) ?_ | refine JoinVC.on ?_ | refine Nils.mk (fun h => ?_) ?_ | refine Val.t ?_ | refine Val.d ?_ | refine Mm.mk ?_ | (refine Br.mk (fun h => ?_) (fun h => ?_) <;> first | (exfalso; omega; done) | (exfalso; simp at h; done) | skip))
  refine LoopVC.mk (fun n st => ∃ (i : Nat), i ≤ O.length ∧ n = O.length - i ∧ (∀ j, j < i → okAt f l O j) ∧ st = ⟨1, envA 89 [(0, .x (.one (.ptr 0 0))), (1, .x (.one (.lst true [.int .i64] (i64s O)))), (7, .x (.one (.own 1))), (8, .int .i64 (atF f l O i)), (23, .x (.one (.lst true [.int .i64] (i64s O)))), (24, .int .i64 (O.length : Int)), (25, .int .i64 (i : Int))], [some (bPl f l), some (rowB (bndA f l O i))]⟩) _ _ ⟨0, Nat.zero_le _, rfl, fun j hj => absurd hj (Nat.not_lt_zero j), rfl⟩ ?_ ?_
  · refine ⟨[some 0, none], rfl, rfl, ?_, ?_⟩ <;> repeat' (first | exact trivial | exact rfl | exact Iff.rfl | apply And.intro)
    exact congrArg Int.ofNat lo
  rintro n _ ⟨i, hi, hn, hj, rfl⟩
  have lb := bndA_len f l O i
  have gi : rI (i64s O) (i : Int).toNat 0 = O.getD i 0 := by rw [Int.toNat_natCast]; exact i64s_get O i
  have hbi := hbd i hi
  by_cases hi' : i < O.length
  · have hr := hO i hi'
    obtain ⟨q, hq⟩ : ∃ q, O.getD i 0 = q := ⟨_, rfl⟩
    have c0 : rI (sngA l) q.toNat 0 = (l.getD q.toNat g0).long := sngA_0 l _
    have c1 : rI (sngA l) q.toNat (0 + 1) = (l.getD q.toNat g0).pitch := sngA_1 l _
    have c2 : rI (sngA l) q.toNat (0 + 1 + 1) = (l.getD q.toNat g0).least := sngA_2 l _
    have c3 : rI (sngA l) q.toNat (0 + (0 + 1 + 1)) = (l.getD q.toNat g0).least := sngA_2 l _
    rw [hq] at gi hr
    have hgk := hg.each q.toNat (by omega)
    have hw := (wid_bd hf.per.1 hgk).2
    have k1 := s43 f (some l) (l.getD q.toNat g0) hf hgk
    have ea : atF f l O (i + 1) = atF f l O i - (if 0 < i then f.gap else 0) - widF f (l.getD (O.getD i 0).toNat g0) := rfl
    rw [hq] at ea
    have eo : okAt f l O i ↔ (l.getD q.toNat g0).least ≤ atF f l O (i + 1) := by unfold okAt; rw [hq]
    by_cases h0 : 0 < i
    · have e1 : (if 0 < i then f.gap else 0) = f.gap := if_pos h0
      have e2 : (atF f l O i - f.gap) - widF f (l.getD q.toNat g0) = atF f l O (i + 1) := by rw [ea, e1]
      have hbj := hbd (i + 1) hi'
      have e3 : bndR f l O i = [Cell.int q, Cell.int (atF f l O i - f.gap), Cell.int (atF f l O (i + 1))] := by unfold bndR; rw [hq, e1]
      repeat' ((conv => whnf); first | rw [gi] | rw [c0] | rw [c1] | rw [c2] | refine Rng.g ?_ | refine Ob.g ?_ | refine Ob.e ?_ | refine Ob.m ?_ | refine Ob.mk (Nat.le_of_ble_eq_true rfl) ?_ | refine JoinVC.on ?_ | refine Nils.mk (fun h => ?_) ?_ | refine Val.t ?_ | refine Val.d ?_ | refine Mm.mk ?_ | (refine Br.mk (fun h => ?_) (fun h => ?_) <;> first | (exfalso; omega; done) | (exfalso; simp at h; done) | skip))
      conv => whnf
      refine CallVC.mk [0] _ _ _ rfl rfl rfl (k1) (fun r m' h' => ?_)
      obtain ⟨rfl, rfl⟩ := h'
      conv => whnf
      repeat' ((conv => whnf); first | rw [e2] | rw [c3] | refine Rng.g ?_ | refine Ob.g ?_ | refine Ob.e ?_ | refine Ob.m ?_ | refine Ob.mk (Nat.le_of_ble_eq_true rfl) ?_ | refine JoinVC.on ?_ | refine Nils.mk (fun h => ?_) ?_ | refine Val.t ?_ | refine Val.d ?_ | refine Mm.mk ?_ | (refine Br.mk (fun h => ?_) (fun h => ?_) <;> first | (exfalso; omega; done) | (exfalso; simp at h; done) | skip))
      · have hno : ¬ okAt f l O i := fun hk => by have := eo.1 hk; omega
        repeat refine Mm.mk ?_
        conv => whnf
        refine EndVC.mk _ rfl _ _ (.rule i hi' hj hno rfl rfl) ?_
        refine ⟨[some 0], rfl, rfl, ?_, ?_⟩ <;> repeat' (first | exact trivial | exact rfl | exact Iff.rfl | apply And.intro)
      · repeat refine Mm.mk ?_
        refine Ob.mk (by rw [eb116]; simp only [List.length_cons, List.length_nil]; omega) ?_
        repeat' ((conv => whnf); first | rw [e2] | rw [c3] | refine Rng.g ?_ | refine Ob.g ?_ | refine Ob.e ?_ | refine Ob.m ?_ | refine Ob.mk (Nat.le_of_ble_eq_true rfl) ?_ | refine JoinVC.on ?_ | refine Nils.mk (fun h => ?_) ?_ | refine Val.t ?_ | refine Val.d ?_ | refine Mm.mk ?_ | (refine Br.mk (fun h => ?_) (fun h => ?_) <;> first | (exfalso; omega; done) | (exfalso; simp at h; done) | skip))
        refine Back.mk (O.length - (i + 1)) _ (by omega) ⟨i + 1, by omega, rfl, fun j hj' => ?_, rfl⟩ ?_
        · rcases Nat.lt_succ_iff_lt_or_eq.1 hj' with h' | rfl
          · exact hj j h'
          · exact eo.2 (by omega)
        · rw [bndA_succ, e3]
          refine ⟨[some 0, some 4], rfl, rfl, ?_, ?_⟩ <;> repeat' (first | exact trivial | exact rfl | exact Iff.rfl | apply And.intro)
    · have e1 : (if 0 < i then f.gap else 0) = 0 := if_neg h0
      have e2 : (atF f l O i) - widF f (l.getD q.toNat g0) = atF f l O (i + 1) := by rw [ea, e1]; omega
      have hbj := hbd (i + 1) hi'
      have e3 : bndR f l O i = [Cell.int q, Cell.int (atF f l O i), Cell.int (atF f l O (i + 1))] := by unfold bndR; rw [hq, e1]; simp only [Int.sub_zero]
      repeat' ((conv => whnf); first | rw [gi] | rw [c0] | rw [c1] | rw [c2] | refine Rng.g ?_ | refine Ob.g ?_ | refine Ob.e ?_ | refine Ob.m ?_ | refine Ob.mk (Nat.le_of_ble_eq_true rfl) ?_ | refine JoinVC.on ?_ | refine Nils.mk (fun h => ?_) ?_ | refine Val.t ?_ | refine Val.d ?_ | refine Mm.mk ?_ | (refine Br.mk (fun h => ?_) (fun h => ?_) <;> first | (exfalso; omega; done) | (exfalso; simp at h; done) | skip))
      conv => whnf
      refine CallVC.mk [0] _ _ _ rfl rfl rfl (k1) (fun r m' h' => ?_)
      obtain ⟨rfl, rfl⟩ := h'
      conv => whnf
      repeat' ((conv => whnf); first | rw [e2] | rw [c3] | refine Rng.g ?_ | refine Ob.g ?_ | refine Ob.e ?_ | refine Ob.m ?_ | refine Ob.mk (Nat.le_of_ble_eq_true rfl) ?_ | refine JoinVC.on ?_ | refine Nils.mk (fun h => ?_) ?_ | refine Val.t ?_ | refine Val.d ?_ | refine Mm.mk ?_ | (refine Br.mk (fun h => ?_) (fun h => ?_) <;> first | (exfalso; omega; done) | (exfalso; simp at h; done) | skip))
      · have hno : ¬ okAt f l O i := fun hk => by have := eo.1 hk; omega
        repeat refine Mm.mk ?_
        conv => whnf
        refine EndVC.mk _ rfl _ _ (.rule i hi' hj hno rfl rfl) ?_
        refine ⟨[some 0], rfl, rfl, ?_, ?_⟩ <;> repeat' (first | exact trivial | exact rfl | exact Iff.rfl | apply And.intro)
      · repeat refine Mm.mk ?_
        refine Ob.mk (by rw [eb116]; simp only [List.length_cons, List.length_nil]; omega) ?_
        repeat' ((conv => whnf); first | rw [e2] | rw [c3] | refine Rng.g ?_ | refine Ob.g ?_ | refine Ob.e ?_ | refine Ob.m ?_ | refine Ob.mk (Nat.le_of_ble_eq_true rfl) ?_ | refine JoinVC.on ?_ | refine Nils.mk (fun h => ?_) ?_ | refine Val.t ?_ | refine Val.d ?_ | refine Mm.mk ?_ | (refine Br.mk (fun h => ?_) (fun h => ?_) <;> first | (exfalso; omega; done) | (exfalso; simp at h; done) | skip))
        refine Back.mk (O.length - (i + 1)) _ (by omega) ⟨i + 1, by omega, rfl, fun j hj' => ?_, rfl⟩ ?_
        · rcases Nat.lt_succ_iff_lt_or_eq.1 hj' with h' | rfl
          · exact hj j h'
          · exact eo.2 (by omega)
        · rw [bndA_succ, e3]
          refine ⟨[some 0, some 4], rfl, rfl, ?_, ?_⟩ <;> repeat' (first | exact trivial | exact rfl | exact Iff.rfl | apply And.intro)
  · have ei : i = O.length := by omega
    subst ei
    repeat' ((conv => whnf); first | rw [lo] | refine Rng.g ?_ | refine Ob.g ?_ | refine Ob.e ?_ | refine Ob.m ?_ | refine Ob.mk (Nat.le_of_ble_eq_true rfl) ?_ | refine JoinVC.on ?_ | refine Nils.mk (fun h => ?_) ?_ | refine Val.t ?_ | refine Val.d ?_ | refine Mm.mk ?_ | (refine Br.mk (fun h => ?_) (fun h => ?_) <;> first | (exfalso; omega; done) | (exfalso; simp at h; done) | skip))
    · repeat refine Mm.mk ?_
      conv => whnf
      refine EndVC.mk _ rfl _ _ (.limit hj (fun hL => (by have := hL.2; omega)) rfl rfl) ?_
      refine ⟨[some 0], rfl, rfl, ?_, ?_⟩ <;> repeat' (first | exact trivial | exact rfl | exact Iff.rfl | apply And.intro)
    · repeat refine Mm.mk ?_
      conv => whnf
      refine EndVC.mk _ rfl _ _ (.ok ⟨hj, by omega⟩ rfl rfl) ?_
      refine ⟨[some 0, some 1], rfl, rfl, ?_, ?_⟩ <;> repeat' (first | exact trivial | exact rfl | exact Iff.rfl | apply And.intro)
end Go.Sx

namespace Go.Sx
open Go Go.Proofs
set_option maxRecDepth 10000
set_option maxHeartbeats 8000000
open Classical in
theorem s47 (f : Fmt) (l : List Sng) (O : List Int) (hf : FmtOK f) (hg : SngsOK l) (hO : InR O l.length) (hl : O.length ≤ 100) : HSpec Tryd.prog 49 [.one (.ptr 0 0), .one (.lst true [.int .i64] (i64s O))] [bPl f l] (fun r m' => r = xP (LayOK f l O) ∧ m' = [some (bPl f l)]) := by
  refine spec_of pMix (O := []) Tryd.func49 (c := bodyOf Tryd.f49) rfl (by kernel_rfl) (by kernel_rfl) Tryd.ntmps49 (res := [.tmp 4]) (by kernel_rfl) ?_
  repeat' ((conv => whnf); first | refine Rng.g ?_ | refine Ob.g ?_ | refine Ob.e ?_ | refine Ob.m ?_ | refine Ob.mk (Nat.le_of_ble_eq_true rfl) ?_ | refine JoinVC.on ?_ | refine Nils.mk (fun h => ?_) ?_ | refine Val.t ?_ | refine Val.d ?_ | refine Mm.mk ?_ | (refine Br.mk (fun h => ?_) (fun h => ?_) <;> first | (exfalso; omega; done) | (exfalso; simp at h; done) | skip))
  conv => whnf
  refine CallVC.mk [0] _ _ _ rfl rfl rfl (s37 f l O hf hg hO hl) (fun r m' h' => ?_)
  cases h' with
  | rule i hi h hn hr hm =>
    subst hr hm
    repeat' ((conv => whnf); first | refine Rng.g ?_ | refine Ob.g ?_ | refine Ob.e ?_ | refine Ob.m ?_ | refine Ob.mk (Nat.le_of_ble_eq_true rfl) ?_ | refine JoinVC.on ?_ | refine Nils.mk (fun h => ?_) ?_ | refine Val.t ?_ | refine Val.d ?_ | refine Mm.mk ?_ | (refine Br.mk (fun h => ?_) (fun h => ?_) <;> first | (exfalso; omega; done) | (exfalso; simp at h; done) | skip))
    repeat refine Mm.mk ?_
    refine EndVC.mk _ rfl _ _ ⟨rfl, rfl⟩ ?_
    refine ⟨[some 0], rfl, rfl, ?_, ?_⟩ <;> repeat' (first | exact trivial | exact rfl | exact Iff.rfl | apply And.intro)
    show _ ↔ _
    exact ⟨fun h1 => absurd h1 (by decide), fun h1 => absurd (h1.1 i hi) hn⟩
  | limit h hn hr hm =>
    subst hr hm
    repeat' ((conv => whnf); first | refine Rng.g ?_ | refine Ob.g ?_ | refine Ob.e ?_ | refine Ob.m ?_ | refine Ob.mk (Nat.le_of_ble_eq_true rfl) ?_ | refine JoinVC.on ?_ | refine Nils.mk (fun h => ?_) ?_ | refine Val.t ?_ | refine Val.d ?_ | refine Mm.mk ?_ | (refine Br.mk (fun h => ?_) (fun h => ?_) <;> first | (exfalso; omega; done) | (exfalso; simp at h; done) | skip))
    repeat refine Mm.mk ?_
    refine EndVC.mk _ rfl _ _ ⟨rfl, rfl⟩ ?_
    refine ⟨[some 0], rfl, rfl, ?_, ?_⟩ <;> repeat' (first | exact trivial | exact rfl | exact Iff.rfl | apply And.intro)
    show _ ↔ _
    exact ⟨fun h1 => absurd h1 (by decide), fun h1 => absurd h1 hn⟩
  | ok h hr hm =>
    subst hr hm
    repeat' ((conv => whnf); first | refine Rng.g ?_ | refine Ob.g ?_ | refine Ob.e ?_ | refine Ob.m ?_ | refine Ob.mk (Nat.le_of_ble_eq_true rfl) ?_ | refine JoinVC.on ?_ | refine Nils.mk (fun h => ?_) ?_ | refine Val.t ?_ | refine Val.d ?_ | refine Mm.mk ?_ | (refine Br.mk (fun h => ?_) (fun h => ?_) <;> first | (exfalso; omega; done) | (exfalso; simp at h; done) | skip))
    repeat refine Mm.mk ?_
    refine EndVC.mk _ rfl _ _ ⟨rfl, rfl⟩ ?_
    refine ⟨[some 0], rfl, rfl, ?_, ?_⟩ <;> repeat' (first | exact trivial | exact rfl | exact Iff.rfl | apply And.intro)
    show _ ↔ _
    exact ⟨fun _ => h, fun _ => rfl⟩
inductive ArRs (f : Fmt) (l : List Sng) (r : AV) (m' : List (Option Blk)) : Prop
  | bad (h : bothE f l ≠ 0) (hr : r = .tup [.one .nils, I (bothE f l)]) (hm : m' = [])
  | none (hf : FmtOK f) (hg : SngsOK l) (hn : ¬ LayOK f l (allO l)) (hr : r = .tup [.one .nils, I 15]) (hm : m' = [])
  | ok (hf : FmtOK f) (hg : SngsOK l) (h : LayOK f l (allO l)) (hr : r = .tup [.one (.own 0), I 0]) (hm : m' = [some (rowOd (allO l))])
theorem allO_in (l : List Sng) : InR (allO l) l.length := fun i hi => (allO_idx l).rng i (by rw [(allO_idx l).len] at hi; exact hi)
theorem s18 (f : Fmt) (l : List Sng) (hI : f.nm.size ≤ 9223372036854775807) (hl : l.length ≤ 12) : HSpec Tryd.prog 30 [f.x, lSng l] [] (ArRs f l) := by
  refine spec_of pMix (O := []) Tryd.func30 (c := bodyOf Tryd.f30) rfl (by kernel_rfl) (by kernel_rfl) Tryd.ntmps30 (res := [.tmp 4, .tmp 5]) (by kernel_rfl) ?_
  repeat' ((conv => whnf); first | refine Rng.g ?_ | refine Ob.g ?_ | refine Ob.e ?_ | refine Ob.m ?_ | refine Ob.mk (Nat.le_of_ble_eq_true rfl) ?_ | refine JoinVC.on ?_ | refine Nils.mk (fun h => ?_) ?_ | refine Val.t ?_ | refine Val.d ?_ | refine Mm.mk ?_ | (refine Br.mk (fun h => ?_) (fun h => ?_) <;> first | (exfalso; omega; done) | (exfalso; simp at h; done) | skip))
  conv => whnf
  refine CallVC.mk [] _ _ _ rfl rfl rfl (s35 f l hI) (fun r m' h' => ?_)
  rcases h' with ⟨hn, rfl, rfl⟩ | ⟨hf, hg, rfl, rfl⟩
  · repeat' ((conv => whnf); first | refine Rng.g ?_ | refine Ob.g ?_ | refine Ob.e ?_ | refine Ob.m ?_ | refine Ob.mk (Nat.le_of_ble_eq_true rfl) ?_ | refine JoinVC.on ?_ | refine Nils.mk (fun h => ?_) ?_ | refine Val.t ?_ | refine Val.d ?_ | refine Mm.mk ?_ | (refine Br.mk (fun h => ?_) (fun h => ?_) <;> first | (exfalso; omega; done) | (exfalso; simp at h; done) | skip))
    repeat refine Mm.mk ?_
    conv => whnf
    refine EndVC.mk _ rfl _ _ (.bad hn rfl rfl) ?_
    refine ⟨[], rfl, rfl, ?_, ?_⟩ <;> repeat' (first | exact trivial | exact rfl | exact Iff.rfl | apply And.intro)
  · repeat' ((conv => whnf); first | refine Rng.g ?_ | refine Ob.g ?_ | refine Ob.e ?_ | refine Ob.m ?_ | refine Ob.mk (Nat.le_of_ble_eq_true rfl) ?_ | refine JoinVC.on ?_ | refine Nils.mk (fun h => ?_) ?_ | refine Val.t ?_ | refine Val.d ?_ | refine Mm.mk ?_ | (refine Br.mk (fun h => ?_) (fun h => ?_) <;> first | (exfalso; omega; done) | (exfalso; simp at h; done) | skip))
    conv => whnf
    refine CallVC.mk [1] _ _ _ rfl rfl rfl (s46 f l hl) (fun r m' h' => ?_)
    obtain ⟨rfl, rfl⟩ := h'
    conv => whnf
    repeat' ((conv => whnf); first | refine Rng.g ?_ | refine Ob.g ?_ | refine Ob.e ?_ | refine Ob.m ?_ | refine Ob.mk (Nat.le_of_ble_eq_true rfl) ?_ | refine JoinVC.on ?_ | refine Nils.mk (fun h => ?_) ?_ | refine Val.t ?_ | refine Val.d ?_ | refine Mm.mk ?_ | (refine Br.mk (fun h => ?_) (fun h => ?_) <;> first | (exfalso; omega; done) | (exfalso; simp at h; done) | skip))
    conv => whnf
    refine CallVC.mk [1] _ _ _ rfl rfl rfl (s47 f l (allO l) hf hg (allO_in l) (by rw [(allO_idx l).len]; omega)) (fun r m' h' => ?_)
    obtain ⟨rfl, rfl⟩ := h'
    conv => whnf
    repeat' ((conv => whnf); first | refine Rng.g ?_ | refine Ob.g ?_ | refine Ob.e ?_ | refine Ob.m ?_ | refine Ob.mk (Nat.le_of_ble_eq_true rfl) ?_ | refine JoinVC.on ?_ | refine Nils.mk (fun h => ?_) ?_ | refine Val.t ?_ | refine Val.d ?_ | refine Mm.mk ?_ | (refine Br.mk (fun h => ?_) (fun h => ?_) <;> first | (exfalso; omega; done) | (exfalso; simp at h; done) | skip))
    · repeat refine Mm.mk ?_
      conv => whnf
      refine EndVC.mk _ rfl _ _ (.ok hf hg h rfl rfl) ?_
      refine ⟨[some 2], rfl, rfl, ?_, ?_⟩ <;> repeat' (first | exact trivial | exact rfl | exact Iff.rfl | apply And.intro)
    · repeat refine Mm.mk ?_
      conv => whnf
      refine EndVC.mk _ rfl _ _ (.none hf hg h rfl rfl) ?_
      refine ⟨[], rfl, rfl, ?_, ?_⟩ <;> repeat' (first | exact trivial | exact rfl | exact Iff.rfl | apply And.intro)
/-! ### An order is laid -/
inductive LaRs (f : Fmt) (l : List Sng) (O : List Int) (r : AV) (m' : List (Option Blk)) : Prop
  | bad (h : bothE f l ≠ 0) (hr : r = .tup [.one .nils, I 0, I (bothE f l)]) (hm : m' = [])
  | ord (hf : FmtOK f) (hg : SngsOK l) (h : ordE l.length O ≠ 0) (hr : r = .tup [.one .nils, I 0, I (ordE l.length O)]) (hm : m' = [])
  | rule (hf : FmtOK f) (hg : SngsOK l) (hO : OrdOK l.length O) (i : Nat) (hi : i < O.length) (h : ∀ j, j < i → okAt f l O j) (hn : ¬ okAt f l O i) (hr : r = .tup [.one .nils, I (i : Int), I 20]) (hm : m' = [])
  | limit (hf : FmtOK f) (hg : SngsOK l) (hO : OrdOK l.length O) (h : ∀ j, j < O.length → okAt f l O j) (hn : ¬ LayOK f l O) (hr : r = .tup [.one .nils, I (O.length : Int), I 14]) (hm : m' = [])
  | ok (hf : FmtOK f) (hg : SngsOK l) (hO : OrdOK l.length O) (h : LayOK f l O) (hr : r = .tup [.one (.own 0), I (O.length : Int), I 0]) (hm : m' = [some (rowB (bndA f l O O.length))])
/-! ### The example -/
def f4 : Fmt := ⟨⟨#[102]⟩, 1000, 400, 10, 20, 10, 30, 5⟩
def l4 : List Sng := [⟨95, 20, 500⟩, ⟨30, 40, 800⟩, ⟨41, 10, 0⟩]
theorem f4_name : nameOK ⟨#[102]⟩ := ⟨by decide, by decide, fun j hj => by
  have : j = 0 := by
    have : j < 1 := hj
    omega
  subst this
  exact .inl (by decide)⟩
theorem f4_ok : FmtOK f4 := ⟨f4_name, by decide, by decide, by decide, by decide, by decide, by decide, by decide⟩
theorem l4_ok : SngsOK l4 := ⟨by decide, fun j hj => by
  have hc : j = 0 ∨ j = 1 ∨ j = 2 := by
    have : j < 3 := hj
    omega
  rcases hc with rfl | rfl | rfl <;> (unfold Sng.ok; decide)⟩
theorem allO4 : allO l4 = [1, 0, 2] := by decide
theorem lay4 : LayOK f4 l4 (allO l4) := by
  rw [allO4]
  refine ⟨fun i hi => ?_, by decide⟩
  have hc : i = 0 ∨ i = 1 ∨ i = 2 := by
    have : i < 3 := hi
    omega
  rcases hc with rfl | rfl | rfl <;> (unfold okAt; decide)
end Go.Sx

namespace Go.Sx
open Go Go.Proofs
set_option maxRecDepth 10000
set_option maxHeartbeats 4000000
/-- The tracks from one on. -/
def seqL (i n : Nat) : List Int := (List.range n).map fun k => ((i + k : Nat) : Int)
theorem seqL_len (i n : Nat) : (seqL i n).length = n := by simp [seqL]
theorem seqL_succ (i n : Nat) : seqL i (n + 1) = seqL i n ++ [((i + n : Nat) : Int)] := by simp [seqL, List.range_succ]
theorem seqL_get (i n k : Nat) (h : k < n) : (seqL i n).getD k 0 = ((i + k : Nat) : Int) := by simp [seqL, List.getD_eq_getElem?_getD, List.getElem?_range h]
def f0 : Fmt := ⟨⟨#[]⟩, 0, 0, 0, 0, 0, 0, 0⟩
structure AlbOK (F : List Fmt) (l : List Sng) : Prop where
  few : 1 ≤ F.length ∧ F.length ≤ 8
  fmts : ∀ i, i < F.length → FmtOK (F.getD i f0)
  sngs : SngsOK l
/-! ### Faces, plans and prices: plain laws for the statements about sides -/
theorem atF_congr (f : Fmt) (l : List Sng) {O Q : List Int} : ∀ k, (∀ j, j < k → O.getD j 0 = Q.getD j 0) → atF f l O k = atF f l Q k
  | 0, _ => rfl
  | k + 1, h => by
    unfold atF
    rw [atF_congr f l k (fun j hj => h j (by omega)), h k (Nat.lt_succ_self k)]
/-- What is possible stays so without its last track. -/
theorem lay_prefix {f : Fmt} {l : List Sng} (hf : FmtOK f) (hl : SngsOK l) {i n : Nat} (hn : i + (n + 1) ≤ l.length) (h : LayOK f l (seqL i (n + 1))) : LayOK f l (seqL i n) := by
  have e : ∀ k, k ≤ n → atF f l (seqL i n) k = atF f l (seqL i (n + 1)) k := fun k hk => atF_congr f l k fun j hj => by
    rw [seqL_get _ _ _ (by omega), seqL_get _ _ _ (by omega)]
  have hw := (wid_bd hf.per.1 (hl.each (i + n) (by omega))).2.1
  have hg := hf.gap.1
  have h2 := h.2
  have ea : atF f l (seqL i (n + 1)) (n + 1) = atF f l (seqL i (n + 1)) n - (if 0 < n then f.gap else 0) - widF f (l.getD (i + n) g0) := by
    show _ - _ - widF f (l.getD ((seqL i (n + 1)).getD n 0).toNat g0) = _
    rw [seqL_get _ _ _ (Nat.lt_succ_self n), Int.toNat_natCast]
  rw [seqL_len, ea] at h2
  refine ⟨fun k hk => ?_, ?_⟩
  · rw [seqL_len] at hk
    have h3 := h.1 k (by rw [seqL_len]; omega)
    unfold okAt at h3 ⊢
    rw [seqL_get _ _ _ (by omega)] at h3 ⊢
    rw [e _ (by omega)]
    exact h3
  · rw [seqL_len, e n (Nat.le_refl n)]
    split at h2 <;> omega
/-- A face: the tracks from i on and before j on the format k. -/
structure faceP (F : List Fmt) (l : List Sng) (k i j : Nat) : Prop where
  fmt : k < F.length
  lt : i < j
  le : j ≤ l.length
  lay : LayOK (F.getD k f0) l (seqL i (j - i))
theorem face_pre {F : List Fmt} {l : List Sng} (hA : AlbOK F l) {k i j : Nat} (h : faceP F l k i (j + 1)) (hj : i < j) : faceP F l k i j := by
  refine ⟨h.fmt, hj, by have := h.le; omega, ?_⟩
  have h1 := h.lay
  rw [show j + 1 - i = j - i + 1 by omega] at h1
  exact lay_prefix (hA.fmts k h.fmt) hA.sngs (by have := h.le; omega) h1
/-- A plan from a track on: formats and numbers of tracks. -/
def PlanOK (F : List Fmt) (l : List Sng) : Nat → List (Nat × Nat) → Prop
  | i, [] => i = l.length
  | i, (k, m) :: t => faceP F l k i (i + m) ∧ PlanOK F l (i + m) t
def costP (F : List Fmt) : List (Nat × Nat) → Int
  | [] => 0
  | (k, _) :: t => (F.getD k f0).cost + costP F t
/-- The tracks before one can be laid out at a cost. -/
inductive Reach (F : List Fmt) (l : List Sng) : Nat → Int → Prop
  | nil : Reach F l 0 0
  | step {i j k : Nat} {c : Int} (h : Reach F l i c) (hf : faceP F l k i j) : Reach F l j (c + (F.getD k f0).cost)
theorem PlanOK.app {F : List Fmt} {l : List Sng} {j : Nat} {c : Int} (h : Reach F l j c) : ∀ {t}, PlanOK F l j t → ∃ pl, PlanOK F l 0 pl ∧ costP F pl = c + costP F t := by
  induction h with
  | nil => exact fun {t} ht => ⟨t, ht, by omega⟩
  | @step i j k c h hf ih =>
    intro t ht
    have hl := hf.lt
    obtain ⟨pl, h1, h2⟩ := ih (t := (k, j - i) :: t) ⟨by rw [show i + (j - i) = j by omega]; exact hf, by rw [show i + (j - i) = j by omega]; exact ht⟩
    refine ⟨pl, h1, ?_⟩
    rw [h2]
    simp only [costP]
    omega
/-- What is reached at the end is the cost of a plan. -/
theorem Reach.plan {F : List Fmt} {l : List Sng} {c : Int} (h : Reach F l l.length c) : ∃ pl, PlanOK F l 0 pl ∧ costP F pl = c := by
  obtain ⟨pl, h1, h2⟩ := PlanOK.app h (t := []) rfl
  exact ⟨pl, h1, by rw [h2]; simp only [costP]; omega⟩
/-! ### The faces in their order -/
theorem face_pre' {F : List Fmt} {l : List Sng} (hA : AlbOK F l) {k i j : Nat} (hj : i < j) : ∀ d, faceP F l k i (j + d) → faceP F l k i j
  | 0, h => h
  | d + 1, h => face_pre' hA hj d (face_pre hA h (by omega))
open Classical in
/-- The faces of a format that begin at i and end before j. -/
noncomputable def fcj (F : List Fmt) (l : List Sng) (i k : Nat) : Nat → List (Nat × Nat)
  | 0 => []
  | j + 1 => if faceP F l k i j then fcj F l i k j ++ [(k, j)] else fcj F l i k j
/-- The faces that begin at i, of the first formats. -/
noncomputable def fcs (F : List Fmt) (l : List Sng) (i : Nat) : Nat → List (Nat × Nat)
  | 0 => []
  | k + 1 => fcs F l i k ++ fcj F l i k (l.length + 1)
theorem fcj_yes {F : List Fmt} {l : List Sng} {i k j : Nat} (h : faceP F l k i j) : fcj F l i k (j + 1) = fcj F l i k j ++ [(k, j)] := if_pos h
theorem fcj_no {F : List Fmt} {l : List Sng} {i k j : Nat} (h : ¬ faceP F l k i j) : fcj F l i k (j + 1) = fcj F l i k j := if_neg h
theorem fcj_lo {F : List Fmt} {l : List Sng} {i k : Nat} : ∀ j, j ≤ i + 1 → fcj F l i k j = []
  | 0, _ => rfl
  | j + 1, h => by
    rw [fcj_no fun hf => by have := hf.lt; omega]
    exact fcj_lo j (by omega)
theorem fcj_stop {F : List Fmt} {l : List Sng} (hA : AlbOK F l) {i k j : Nat} (hj : i < j) (h : ¬ faceP F l k i j) : ∀ d, fcj F l i k (j + d) = fcj F l i k j
  | 0 => rfl
  | d + 1 => by
    rw [show j + (d + 1) = j + d + 1 from rfl, fcj_no fun hf => h (face_pre' hA hj d hf)]
    exact fcj_stop hA hj h d
theorem fcj_end {F : List Fmt} {l : List Sng} (hA : AlbOK F l) {i k j : Nat} (hj : i < j) (h : ¬ faceP F l k i j) (hl : j ≤ l.length + 1) : fcj F l i k j = fcj F l i k (l.length + 1) := by
  have := fcj_stop hA hj h (l.length + 1 - j)
  rw [show j + (l.length + 1 - j) = l.length + 1 by omega] at this
  exact this.symm
theorem mem_fcj {F : List Fmt} {l : List Sng} {i k : Nat} {p : Nat × Nat} : ∀ {j}, p ∈ fcj F l i k j ↔ p.1 = k ∧ p.2 < j ∧ faceP F l k i p.2
  | 0 => ⟨fun h => (by simp [fcj] at h), fun h => (by omega)⟩
  | j + 1 => by
    by_cases h : faceP F l k i j
    · rw [fcj_yes h, List.mem_append, mem_fcj, List.mem_singleton]
      constructor
      · rintro (⟨h1, h2, h3⟩ | rfl)
        · exact ⟨h1, by omega, h3⟩
        · exact ⟨rfl, Nat.lt_succ_self j, h⟩
      · rintro ⟨h1, h2, h3⟩
        by_cases e : p.2 = j
        · exact .inr (Prod.ext h1 e)
        · exact .inl ⟨h1, by omega, h3⟩
    · rw [fcj_no h, mem_fcj]
      constructor
      · rintro ⟨h1, h2, h3⟩
        exact ⟨h1, by omega, h3⟩
      · rintro ⟨h1, h2, h3⟩
        refine ⟨h1, ?_, h3⟩
        by_cases e : p.2 = j
        · rw [e] at h3; exact absurd h3 h
        · omega
theorem mem_fcs {F : List Fmt} {l : List Sng} {i : Nat} {p : Nat × Nat} : ∀ {k}, p ∈ fcs F l i k ↔ p.1 < k ∧ faceP F l p.1 i p.2
  | 0 => ⟨fun h => (by simp [fcs] at h), fun h => (by omega)⟩
  | k + 1 => by
    unfold fcs
    rw [List.mem_append, mem_fcs, mem_fcj]
    constructor
    · rintro (⟨h1, h2⟩ | ⟨h1, h2, h3⟩)
      · exact ⟨by omega, h2⟩
      · rw [h1]; exact ⟨Nat.lt_succ_self k, h3⟩
    · rintro ⟨h1, h2⟩
      by_cases e : p.1 = k
      · rw [e] at h2; exact .inr ⟨e, by have := h2.le; omega, h2⟩
      · exact .inl ⟨by omega, h2⟩
/-- All faces that begin at i, by formats and then by their ends. -/
noncomputable def facesL (F : List Fmt) (l : List Sng) (i : Nat) : List (Nat × Nat) := fcs F l i F.length
theorem mem_faces {F : List Fmt} {l : List Sng} {i : Nat} {p : Nat × Nat} : p ∈ facesL F l i ↔ faceP F l p.1 i p.2 := by
  unfold facesL
  rw [mem_fcs]
  exact ⟨fun h => h.2, fun h => ⟨h.fmt, h⟩⟩
/-! ### Best plans -/
/-- A worth is better than another one. -/
def ltW (a b : Int × Int) : Prop := a.1 < b.1 ∨ a.1 = b.1 ∧ a.2 < b.2
instance (a b : Int × Int) : Decidable (ltW a b) := by unfold ltW; exact inferInstance
/-- The best worth from a track on, with its first face. -/
abbrev EntW := Option ((Int × Int) × (Nat × Nat))
def stepE (F : List Fmt) (T : Nat → EntW) (acc : EntW) (p : Nat × Nat) : EntW :=
  match T p.2 with
  | none => acc
  | some (w, _) => match acc with
    | none => some ((w.1 + (F.getD p.1 f0).cost, w.2 + 1), p)
    | some (v, q) => if ltW (w.1 + (F.getD p.1 f0).cost, w.2 + 1) v then some ((w.1 + (F.getD p.1 f0).cost, w.2 + 1), p) else some (v, q)
/-- The entries of the last d tracks, and of the end. -/
noncomputable def bstT (F : List Fmt) (l : List Sng) : Nat → Nat → EntW
  | 0 => fun i => if i = l.length then some ((0, 0), (0, 0)) else none
  | d + 1 => fun i => if i + (d + 1) = l.length then (facesL F l i).foldl (stepE F (bstT F l d)) none else bstT F l d i
noncomputable def bst (F : List Fmt) (l : List Sng) : Nat → EntW := bstT F l l.length
theorem bstT_up {F : List Fmt} {l : List Sng} {i : Nat} : ∀ {d}, l.length ≤ i + d → ∀ m, i + d + m ≤ l.length + l.length → bstT F l (d + m) i = bstT F l d i
  | d, h, 0, _ => rfl
  | d, h, m + 1, hm => by
    have e : bstT F l (d + (m + 1)) i = bstT F l (d + m) i := if_neg (show ¬ i + (d + m + 1) = l.length by omega)
    rw [e]
    exact bstT_up h m (by omega)
theorem bstT_bst {F : List Fmt} {l : List Sng} {i d : Nat} (h : l.length ≤ i + d) (hi : i ≤ l.length) (hd : d ≤ l.length) : bstT F l d i = bst F l i := by
  have := bstT_up (F := F) (l := l) (i := i) (d := d) h (l.length - d) (by omega)
  rw [show d + (l.length - d) = l.length by omega] at this
  exact this.symm
theorem bst_end (F : List Fmt) (l : List Sng) : bst F l l.length = some ((0, 0), (0, 0)) := by
  rw [← bstT_bst (d := 0) (by omega) (Nat.le_refl _) (Nat.zero_le _)]
  exact if_pos rfl
theorem foldE_congr (F : List Fmt) {T T' : Nat → EntW} : ∀ (L : List (Nat × Nat)) (acc : EntW), (∀ p, p ∈ L → T p.2 = T' p.2) → L.foldl (stepE F T) acc = L.foldl (stepE F T') acc
  | [], _, _ => rfl
  | p :: L, acc, h => by
    simp only [List.foldl_cons]
    have e : stepE F T acc p = stepE F T' acc p := by unfold stepE; rw [h p List.mem_cons_self]
    rw [e]
    exact foldE_congr F L _ fun q hq => h q (List.mem_cons_of_mem _ hq)
theorem bst_at {F : List Fmt} {l : List Sng} {i : Nat} (hi : i < l.length) : bst F l i = (facesL F l i).foldl (stepE F (bst F l)) none := by
  rw [← bstT_bst (d := l.length - i - 1 + 1) (by omega) (by omega) (by omega)]
  unfold bstT
  rw [if_pos (by omega)]
  refine foldE_congr F _ _ fun p hp => ?_
  have h1 := mem_faces.1 hp
  have h2 := h1.lt
  have h3 := h1.le
  exact bstT_bst (by omega) h3 (by omega)
/-- What the fold keeps: an entry of one of the faces, and none is better. -/
structure FoldOK (F : List Fmt) (T : Nat → EntW) (L : List (Nat × Nat)) (e : EntW) : Prop where
  from_ : ∀ v q, e = some (v, q) → q ∈ L ∧ ∃ w f, T q.2 = some (w, f) ∧ v = (w.1 + (F.getD q.1 f0).cost, w.2 + 1)
  best : ∀ p w f, p ∈ L → T p.2 = some (w, f) → ∃ v q, e = some (v, q) ∧ ¬ ltW (w.1 + (F.getD p.1 f0).cost, w.2 + 1) v
theorem ltW_tr {a b c : Int × Int} (h : ltW a b) (h2 : ltW b c) : ltW a c := by
  unfold ltW at *
  omega
theorem foldE_ok (F : List Fmt) (T : Nat → EntW) (L : List (Nat × Nat)) : FoldOK F T L (L.foldl (stepE F T) none) := by
  refine snoc_ind (p := fun L => FoldOK F T L (L.foldl (stepE F T) none)) ?_ ?_ L
  · exact ⟨fun v q h => by simp at h, fun p w f h => by simp at h⟩
  · intro L p ih
    rw [List.foldl_append]
    simp only [List.foldl_cons, List.foldl_nil]
    obtain ⟨acc, hacc⟩ : ∃ acc, L.foldl (stepE F T) none = acc := ⟨_, rfl⟩
    rw [hacc] at ih ⊢
    unfold stepE
    cases hT : T p.2 with
    | none =>
      simp only
      refine ⟨fun v q h => ?_, fun q w f hq hw => ?_⟩
      · obtain ⟨h1, h2⟩ := ih.from_ v q h
        exact ⟨List.mem_append_left _ h1, h2⟩
      · rcases List.mem_append.1 hq with h1 | h1
        · exact ih.best q w f h1 hw
        · rw [List.mem_singleton.1 h1, hT] at hw; cases hw
    | some e =>
      obtain ⟨w, f⟩ := e
      cases acc with
      | none =>
        simp only
        refine ⟨fun v q h => ?_, fun q w' f' hq hw => ?_⟩
        · cases h
          exact ⟨List.mem_append_right _ List.mem_cons_self, w, f, hT, rfl⟩
        · rcases List.mem_append.1 hq with h1 | h1
          · obtain ⟨v, q', h2, _⟩ := ih.best q w' f' h1 hw
            cases h2
          · rw [List.mem_singleton.1 h1] at hw ⊢
            rw [hT] at hw
            cases hw
            exact ⟨_, _, rfl, fun h => by unfold ltW at h; omega⟩
      | some a =>
        obtain ⟨v, q⟩ := a
        simp only
        split
        · rename_i hlt
          refine ⟨fun v' q' h => ?_, fun q' w' f' hq hw => ?_⟩
          · cases h
            exact ⟨List.mem_append_right _ List.mem_cons_self, w, f, hT, rfl⟩
          · rcases List.mem_append.1 hq with h1 | h1
            · obtain ⟨v2, q2, h2, h3⟩ := ih.best q' w' f' h1 hw
              cases h2
              exact ⟨_, _, rfl, fun h => h3 (ltW_tr h hlt)⟩
            · rw [List.mem_singleton.1 h1] at hw ⊢
              rw [hT] at hw
              cases hw
              exact ⟨_, _, rfl, fun h => by unfold ltW at h; omega⟩
        · rename_i hlt
          refine ⟨fun v' q' h => ?_, fun q' w' f' hq hw => ?_⟩
          · cases h
            obtain ⟨h1, h2⟩ := ih.from_ v q rfl
            exact ⟨List.mem_append_left _ h1, h2⟩
          · rcases List.mem_append.1 hq with h1 | h1
            · exact ih.best q' w' f' h1 hw
            · rw [List.mem_singleton.1 h1] at hw ⊢
              rw [hT] at hw
              cases hw
              exact ⟨_, _, rfl, hlt⟩
theorem bst_ok {F : List Fmt} {l : List Sng} {i : Nat} (hi : i < l.length) : FoldOK F (bst F l) (facesL F l i) (bst F l i) := by
  rw [bst_at hi]
  exact foldE_ok F (bst F l) (facesL F l i)
/-- The plan that follows the first faces. -/
noncomputable def planB (F : List Fmt) (l : List Sng) : Nat → Nat → List (Nat × Nat)
  | 0, _ => []
  | n + 1, i => if i < l.length then match bst F l i with
    | some (_, (k, j)) => (k, j - i) :: planB F l n j
    | none => []
    else []
theorem planB_ok {F : List Fmt} {l : List Sng} : ∀ (n i : Nat) (w : Int × Int) (q : Nat × Nat), l.length ≤ i + n → i ≤ l.length → bst F l i = some (w, q) → PlanOK F l i (planB F l n i) ∧ costP F (planB F l n i) = w.1 ∧ ((planB F l n i).length : Int) = w.2
  | 0, i, w, q, h1, h2, h3 => by
    have e : i = l.length := by omega
    rw [e, bst_end] at h3
    cases h3
    exact ⟨e, rfl, rfl⟩
  | n + 1, i, w, q, h1, h2, h3 => by
    by_cases hi : i < l.length
    · obtain ⟨k, j⟩ := q
      obtain ⟨h4, w', f', h5, h6⟩ := (bst_ok (F := F) hi).from_ w (k, j) h3
      have h7 := mem_faces.1 h4
      simp only at h5 h6 h7
      have h8 := h7.lt
      obtain ⟨i1, i2, i3⟩ := planB_ok n j w' f' (by omega) h7.le h5
      unfold planB
      rw [if_pos hi, h3]
      simp only
      have e : i + (j - i) = j := by omega
      refine ⟨⟨by rw [e]; exact h7, by rw [e]; exact i1⟩, ?_, ?_⟩
      · simp only [costP, i2, h6]
        omega
      · simp only [List.length_cons, h6]
        omega
    · have e : i = l.length := by omega
      rw [e, bst_end] at h3
      cases h3
      unfold planB
      rw [if_neg hi]
      exact ⟨e, rfl, rfl⟩
theorem plan_le {F : List Fmt} {l : List Sng} : ∀ (pl : List (Nat × Nat)) (i : Nat), i ≤ l.length → PlanOK F l i pl → ∃ w q, bst F l i = some (w, q) ∧ ¬ ltW (costP F pl, (pl.length : Int)) w
  | [], i, _, h => by
    have e : i = l.length := h
    rw [e, bst_end]
    exact ⟨_, _, rfl, fun h => by unfold ltW costP at h; simp at h⟩
  | (k, m) :: t, i, hi, h => by
    obtain ⟨h1, h2⟩ := h
    have h3 := h1.lt
    obtain ⟨w, q, h4, h5⟩ := plan_le t (i + m) h1.le h2
    obtain ⟨v, q', h6, h7⟩ := (bst_ok (F := F) (i := i) (by have := h1.le; omega)).best (k, i + m) w q (mem_faces.2 h1) h4
    refine ⟨v, q', h6, fun h8 => ?_⟩
    simp only at h7
    unfold ltW at h5 h7 h8
    simp only [costP, List.length_cons] at h8
    omega
/-- The least cost of a plan for the tracks before one; -1: there is none. -/
def BestC (F : List Fmt) (l : List Sng) (n : Nat) (v : Int) : Prop := (v = -1 ∧ ∀ c, ¬ Reach F l n c) ∨ (0 ≤ v ∧ Reach F l n v ∧ ∀ c, Reach F l n c → v ≤ c)
theorem BestC.uniq {F : List Fmt} {l : List Sng} {n : Nat} {v w : Int} (h : BestC F l n v) (h2 : BestC F l n w) : v = w := by
  rcases h with ⟨rfl, h⟩ | ⟨h0, h3, h4⟩ <;> rcases h2 with ⟨rfl, h2⟩ | ⟨g0, g3, g4⟩
  · rfl
  · exact absurd g3 (h _)
  · exact absurd h3 (h2 _)
  · have := h4 _ g3
    have := g4 _ h3
    omega
theorem costP_nn {F : List Fmt} (hF : ∀ k, 0 ≤ (F.getD k f0).cost) : ∀ pl, 0 ≤ costP F pl
  | [] => Int.le_refl 0
  | (k, m) :: t => by
    have h1 := hF k
    have h2 := costP_nn hF t
    unfold costP
    omega
theorem plan_reach {F : List Fmt} {l : List Sng} : ∀ (pl : List (Nat × Nat)) (i : Nat) (c : Int), Reach F l i c → PlanOK F l i pl → Reach F l l.length (c + costP F pl)
  | [], i, c, h, hp => by
    have e : i = l.length := hp
    rw [← e]
    simp only [costP, Int.add_zero]
    exact h
  | (k, m) :: t, i, c, h, hp => by
    have := plan_reach t (i + m) _ (h.step hp.1) hp.2
    simp only [costP]
    rw [← Int.add_assoc]
    exact this
/-- The best worth has the least cost. -/
theorem bst_best {F : List Fmt} {l : List Sng} (hF : ∀ k, 0 ≤ (F.getD k f0).cost) : BestC F l l.length (match bst F l 0 with | some (w, _) => w.1 | none => -1) := by
  cases hb : bst F l 0 with
  | none =>
    refine .inl ⟨rfl, fun c hc => ?_⟩
    obtain ⟨pl, h1, h2⟩ := hc.plan
    obtain ⟨w, q, h3, _⟩ := plan_le pl 0 (Nat.zero_le _) h1
    rw [hb] at h3
    cases h3
  | some e =>
    obtain ⟨w, q⟩ := e
    obtain ⟨h1, h2, h3⟩ := planB_ok l.length 0 w q (by omega) (Nat.zero_le _) hb
    refine .inr ⟨?_, ?_, fun c hc => ?_⟩
    · show 0 ≤ w.1
      rw [← h2]
      exact costP_nn hF _
    · have := plan_reach _ 0 0 .nil h1
      rw [Int.zero_add, h2] at this
      exact this
    · obtain ⟨pl, h4, h5⟩ := hc.plan
      obtain ⟨w', q', h6, h7⟩ := plan_le pl 0 (Nat.zero_le _) h4
      rw [hb] at h6
      cases h6
      show w.1 ≤ c
      unfold ltW at h7
      simp only at h7
      omega
end Go.Sx

namespace Go.Sx
open Go Go.Proofs
set_option maxRecDepth 10000
set_option maxHeartbeats 8000000
/-! ### Plates that nothing writes into any more -/
@[reducible] def KPl : List CK := [.str, .int .i64, .int .i64, .int .i64, .int .i64, .int .i64, .int .i64, .int .i64, .sl KSng]
def plA (f : Fmt) (l : List Sng) : Arr := [[.str f.nm, .int f.outer, .int f.inner, .int f.per, .int f.lead, .int f.gap, .int f.tail, .int f.cost, .sl (sngA l)]]
@[reducible] def plX (f : Fmt) (l : List Sng) : XV := .one (.lel true KPl (plA f l) 0 0)
theorem s43p (f : Fmt) (l : List Sng) (g : Sng) (hf : FmtOK f) (hg : g.ok) : HSpec Tryd.prog 38 [plX f l, g.x] [] (fun r m' => r = .x (I (widF f g)) ∧ m' = []) := by
  obtain ⟨w1, w2⟩ := wid_bd hf.per.1 hg
  have hp := hf.per
  have hg1 := hg.1
  have hg2 := hg.2.1
  have e3 : rI (plA f l) 0 (0 + 0 + (0 + 1 + 1 + 1)) = f.per := rfl
  unfold widF at w2
  refine spec_of pMix (O := []) Tryd.func38 (c := bodyOf Tryd.f38) rfl (by kernel_rfl) (by kernel_rfl) Tryd.ntmps38 (res := [.tmp 4]) (by kernel_rfl) ?_
  repeat' ((conv => whnf); first | rw [e3] | refine Rng.g ?_ | refine Ob.g ?_ | refine Ob.e ?_ | refine Ob.m ?_ | refine Ob.mk (Nat.le_of_ble_eq_true rfl) ?_ | refine JoinVC.on ?_ | refine Nils.mk (fun h => ?_) ?_ | refine Val.t ?_ | refine Val.d ?_ | refine Mm.mk ?_ | (refine Br.mk (fun h => ?_) (fun h => ?_) <;> first | (exfalso; omega; done) | (exfalso; simp at h; done) | skip))
  repeat refine Mm.mk ?_
  conv => whnf
  refine EndVC.mk _ rfl _ _ (⟨rfl, rfl⟩) ?_
  refine ⟨[], rfl, rfl, ?_, ?_⟩ <;> repeat' (first | exact trivial | exact rfl | exact Iff.rfl | apply And.intro)
inductive LyRs0 (f : Fmt) (l : List Sng) (O : List Int) (r : AV) (m' : List (Option Blk)) : Prop
  | rule (i : Nat) (hi : i < O.length) (h : ∀ j, j < i → okAt f l O j) (hn : ¬ okAt f l O i) (hr : r = .tup [.one .nils, I (i : Int), I 20]) (hm : m' = [])
  | limit (h : ∀ j, j < O.length → okAt f l O j) (hn : ¬ LayOK f l O) (hr : r = .tup [.one .nils, I (O.length : Int), I 14]) (hm : m' = [])
  | ok (h : LayOK f l O) (hr : r = .tup [.one (.own 0), I (O.length : Int), I 0]) (hm : m' = [some (rowB (bndA f l O O.length))])
theorem s37p (f : Fmt) (l : List Sng) (O : List Int) (hf : FmtOK f) (hg : SngsOK l) (hO : InR O l.length) (hl : O.length ≤ 100) : HSpec Tryd.prog 61 [plX f l, .one (.lst true [.int .i64] (i64s O))] [] (LyRs0 f l O) := by
  have lo := i64s_len O
  have lg := sngA_len l
  have hbd := atF_bd hf hg hO
  have hf1 := hf.outer
  have hf2 := hf.lead
  have hf3 := hf.gap
  have hf4 := hf.tail
  have hf5 := hf.inner
  have p1 : rI (plA f l) 0 (0 + 0 + (0 + 1)) = f.outer := rfl
  have p2 : rI (plA f l) 0 (0 + 0 + (0 + 1 + 1)) = f.inner := rfl
  have p4 : rI (plA f l) 0 (0 + 0 + (0 + 1 + 1 + 1 + 1)) = f.lead := rfl
  have p5 : rI (plA f l) 0 (0 + 0 + (0 + 1 + 1 + 1 + 1 + 1)) = f.gap := rfl
  have p6 : rI (plA f l) 0 (0 + 0 + (0 + 1 + 1 + 1 + 1 + 1 + 1)) = f.tail := rfl
  have p8 : rA (plA f l) 0 (0 + (0 + 1 + 1 + 1 + 1 + 1 + 1 + 1 + 1)) = sngA l := rfl
  refine spec_of pMix (O := []) Tryd.func61 (c := bodyOf Tryd.f61) rfl (by kernel_rfl) (by kernel_rfl) Tryd.ntmps61 (res := [.tmp 4, .tmp 5, .tmp 6]) (by kernel_rfl) ?_
  repeat' ((conv => whnf); first | rw [p1] | rw [p2] | rw [p4] | rw [p5] | rw [p6] | rw [p8] | refine Rng.g ?_ | refine Ob.g ?_ | refine Ob.e ?_ | refine Ob.m ?_ | refine Ob.mk (Nat.le_of_ble_eq_true rfl) ?_ | refine JoinVC.on ?_ | refine Nils.mk (fun h => ?_) ?_ | refine Val.t ?_ | refine Val.d ?_ | refine Mm.mk ?_ | (refine Br.mk (fun h => ?_) (fun h => ?_) <;> first | (exfalso; omega; done) | (exfalso; simp at h; done) | skip))
  refine LoopVC.mk (fun n st => ∃ (i : Nat), i ≤ O.length ∧ n = O.length - i ∧ (∀ j, j < i → okAt f l O j) ∧ st = ⟨0, envA 89 [(0, .x (plX f l)), (1, .x (.one (.lst true [.int .i64] (i64s O)))), (7, .x (.one (.own 0))), (8, .int .i64 (atF f l O i)), (23, .x (.one (.lst true [.int .i64] (i64s O)))), (24, .int .i64 (O.length : Int)), (25, .int .i64 (i : Int))], [some (rowB (bndA f l O i))]⟩) _ _ ⟨0, Nat.zero_le _, rfl, fun j hj => absurd hj (Nat.not_lt_zero j), rfl⟩ ?_ ?_
  · refine ⟨[none], rfl, rfl, ?_, ?_⟩ <;> repeat' (first | exact trivial | exact rfl | exact Iff.rfl | apply And.intro)
    exact congrArg Int.ofNat lo
  rintro n _ ⟨i, hi, hn, hj, rfl⟩
  have lb := bndA_len f l O i
  have gi : rI (i64s O) (i : Int).toNat 0 = O.getD i 0 := by rw [Int.toNat_natCast]; exact i64s_get O i
  have hbi := hbd i hi
  by_cases hi' : i < O.length
  · have hr := hO i hi'
    obtain ⟨q, hq⟩ : ∃ q, O.getD i 0 = q := ⟨_, rfl⟩
    have c0 : rI (sngA l) q.toNat 0 = (l.getD q.toNat g0).long := sngA_0 l _
    have c1 : rI (sngA l) q.toNat (0 + 1) = (l.getD q.toNat g0).pitch := sngA_1 l _
    have c2 : rI (sngA l) q.toNat (0 + 1 + 1) = (l.getD q.toNat g0).least := sngA_2 l _
    have c3 : rI (sngA l) q.toNat (0 + (0 + 1 + 1)) = (l.getD q.toNat g0).least := sngA_2 l _
    rw [hq] at gi hr
    have hgk := hg.each q.toNat (by omega)
    have hw := (wid_bd hf.per.1 hgk).2
    have k1 := s43p f l (l.getD q.toNat g0) hf hgk
    have ea : atF f l O (i + 1) = atF f l O i - (if 0 < i then f.gap else 0) - widF f (l.getD (O.getD i 0).toNat g0) := rfl
    rw [hq] at ea
    have eo : okAt f l O i ↔ (l.getD q.toNat g0).least ≤ atF f l O (i + 1) := by unfold okAt; rw [hq]
    by_cases h0 : 0 < i
    · have e1 : (if 0 < i then f.gap else 0) = f.gap := if_pos h0
      have e2 : (atF f l O i - f.gap) - widF f (l.getD q.toNat g0) = atF f l O (i + 1) := by rw [ea, e1]
      have hbj := hbd (i + 1) hi'
      have e3 : bndR f l O i = [Cell.int q, Cell.int (atF f l O i - f.gap), Cell.int (atF f l O (i + 1))] := by unfold bndR; rw [hq, e1]
      repeat' ((conv => whnf); first | rw [p1] | rw [p2] | rw [p4] | rw [p5] | rw [p6] | rw [p8] | rw [gi] | rw [c0] | rw [c1] | rw [c2] | refine Rng.g ?_ | refine Ob.g ?_ | refine Ob.e ?_ | refine Ob.m ?_ | refine Ob.mk (Nat.le_of_ble_eq_true rfl) ?_ | refine JoinVC.on ?_ | refine Nils.mk (fun h => ?_) ?_ | refine Val.t ?_ | refine Val.d ?_ | refine Mm.mk ?_ | (refine Br.mk (fun h => ?_) (fun h => ?_) <;> first | (exfalso; omega; done) | (exfalso; simp at h; done) | skip))
      conv => whnf
      refine CallVC.mk [] _ _ _ rfl rfl rfl (k1) (fun r m' h' => ?_)
      obtain ⟨rfl, rfl⟩ := h'
      conv => whnf
      repeat' ((conv => whnf); first | rw [p1] | rw [p2] | rw [p4] | rw [p5] | rw [p6] | rw [p8] | rw [e2] | rw [c3] | refine Rng.g ?_ | refine Ob.g ?_ | refine Ob.e ?_ | refine Ob.m ?_ | refine Ob.mk (Nat.le_of_ble_eq_true rfl) ?_ | refine JoinVC.on ?_ | refine Nils.mk (fun h => ?_) ?_ | refine Val.t ?_ | refine Val.d ?_ | refine Mm.mk ?_ | (refine Br.mk (fun h => ?_) (fun h => ?_) <;> first | (exfalso; omega; done) | (exfalso; simp at h; done) | skip))
      · have hno : ¬ okAt f l O i := fun hk => by have := eo.1 hk; omega
        repeat refine Mm.mk ?_
        conv => whnf
        refine EndVC.mk _ rfl _ _ (.rule i hi' hj hno rfl rfl) ?_
        refine ⟨[], rfl, rfl, ?_, ?_⟩ <;> repeat' (first | exact trivial | exact rfl | exact Iff.rfl | apply And.intro)
      · repeat refine Mm.mk ?_
        refine Ob.mk (by rw [eb116]; simp only [List.length_cons, List.length_nil]; omega) ?_
        repeat' ((conv => whnf); first | rw [p1] | rw [p2] | rw [p4] | rw [p5] | rw [p6] | rw [p8] | rw [e2] | rw [c3] | refine Rng.g ?_ | refine Ob.g ?_ | refine Ob.e ?_ | refine Ob.m ?_ | refine Ob.mk (Nat.le_of_ble_eq_true rfl) ?_ | refine JoinVC.on ?_ | refine Nils.mk (fun h => ?_) ?_ | refine Val.t ?_ | refine Val.d ?_ | refine Mm.mk ?_ | (refine Br.mk (fun h => ?_) (fun h => ?_) <;> first | (exfalso; omega; done) | (exfalso; simp at h; done) | skip))
        refine Back.mk (O.length - (i + 1)) _ (by omega) ⟨i + 1, by omega, rfl, fun j hj' => ?_, rfl⟩ ?_
        · rcases Nat.lt_succ_iff_lt_or_eq.1 hj' with h' | rfl
          · exact hj j h'
          · exact eo.2 (by omega)
        · rw [bndA_succ, e3]
          refine ⟨[some 3], rfl, rfl, ?_, ?_⟩ <;> repeat' (first | exact trivial | exact rfl | exact Iff.rfl | apply And.intro)
    · have e1 : (if 0 < i then f.gap else 0) = 0 := if_neg h0
      have e2 : (atF f l O i) - widF f (l.getD q.toNat g0) = atF f l O (i + 1) := by rw [ea, e1]; omega
      have hbj := hbd (i + 1) hi'
      have e3 : bndR f l O i = [Cell.int q, Cell.int (atF f l O i), Cell.int (atF f l O (i + 1))] := by unfold bndR; rw [hq, e1]; simp only [Int.sub_zero]
      repeat' ((conv => whnf); first | rw [p1] | rw [p2] | rw [p4] | rw [p5] | rw [p6] | rw [p8] | rw [gi] | rw [c0] | rw [c1] | rw [c2] | refine Rng.g ?_ | refine Ob.g ?_ | refine Ob.e ?_ | refine Ob.m ?_ | refine Ob.mk (Nat.le_of_ble_eq_true rfl) ?_ | refine JoinVC.on ?_ | refine Nils.mk (fun h => ?_) ?_ | refine Val.t ?_ | refine Val.d ?_ | refine Mm.mk ?_ | (refine Br.mk (fun h => ?_) (fun h => ?_) <;> first | (exfalso; omega; done) | (exfalso; simp at h; done) | skip))
      conv => whnf
      refine CallVC.mk [] _ _ _ rfl rfl rfl (k1) (fun r m' h' => ?_)
      obtain ⟨rfl, rfl⟩ := h'
      conv => whnf
      repeat' ((conv => whnf); first | rw [p1] | rw [p2] | rw [p4] | rw [p5] | rw [p6] | rw [p8] | rw [e2] | rw [c3] | refine Rng.g ?_ | refine Ob.g ?_ | refine Ob.e ?_ | refine Ob.m ?_ | refine Ob.mk (Nat.le_of_ble_eq_true rfl) ?_ | refine JoinVC.on ?_ | refine Nils.mk (fun h => ?_) ?_ | refine Val.t ?_ | refine Val.d ?_ | refine Mm.mk ?_ | (refine Br.mk (fun h => ?_) (fun h => ?_) <;> first | (exfalso; omega; done) | (exfalso; simp at h; done) | skip))
      · have hno : ¬ okAt f l O i := fun hk => by have := eo.1 hk; omega
        repeat refine Mm.mk ?_
        conv => whnf
        refine EndVC.mk _ rfl _ _ (.rule i hi' hj hno rfl rfl) ?_
        refine ⟨[], rfl, rfl, ?_, ?_⟩ <;> repeat' (first | exact trivial | exact rfl | exact Iff.rfl | apply And.intro)
      · repeat refine Mm.mk ?_
        refine Ob.mk (by rw [eb116]; simp only [List.length_cons, List.length_nil]; omega) ?_
        repeat' ((conv => whnf); first | rw [p1] | rw [p2] | rw [p4] | rw [p5] | rw [p6] | rw [p8] | rw [e2] | rw [c3] | refine Rng.g ?_ | refine Ob.g ?_ | refine Ob.e ?_ | refine Ob.m ?_ | refine Ob.mk (Nat.le_of_ble_eq_true rfl) ?_ | refine JoinVC.on ?_ | refine Nils.mk (fun h => ?_) ?_ | refine Val.t ?_ | refine Val.d ?_ | refine Mm.mk ?_ | (refine Br.mk (fun h => ?_) (fun h => ?_) <;> first | (exfalso; omega; done) | (exfalso; simp at h; done) | skip))
        refine Back.mk (O.length - (i + 1)) _ (by omega) ⟨i + 1, by omega, rfl, fun j hj' => ?_, rfl⟩ ?_
        · rcases Nat.lt_succ_iff_lt_or_eq.1 hj' with h' | rfl
          · exact hj j h'
          · exact eo.2 (by omega)
        · rw [bndA_succ, e3]
          refine ⟨[some 3], rfl, rfl, ?_, ?_⟩ <;> repeat' (first | exact trivial | exact rfl | exact Iff.rfl | apply And.intro)
  · have ei : i = O.length := by omega
    subst ei
    repeat' ((conv => whnf); first | rw [p1] | rw [p2] | rw [p4] | rw [p5] | rw [p6] | rw [p8] | rw [lo] | refine Rng.g ?_ | refine Ob.g ?_ | refine Ob.e ?_ | refine Ob.m ?_ | refine Ob.mk (Nat.le_of_ble_eq_true rfl) ?_ | refine JoinVC.on ?_ | refine Nils.mk (fun h => ?_) ?_ | refine Val.t ?_ | refine Val.d ?_ | refine Mm.mk ?_ | (refine Br.mk (fun h => ?_) (fun h => ?_) <;> first | (exfalso; omega; done) | (exfalso; simp at h; done) | skip))
    · repeat refine Mm.mk ?_
      conv => whnf
      refine EndVC.mk _ rfl _ _ (.limit hj (fun hL => (by have := hL.2; omega)) rfl rfl) ?_
      refine ⟨[], rfl, rfl, ?_, ?_⟩ <;> repeat' (first | exact trivial | exact rfl | exact Iff.rfl | apply And.intro)
    · repeat refine Mm.mk ?_
      conv => whnf
      refine EndVC.mk _ rfl _ _ (.ok ⟨hj, by omega⟩ rfl rfl) ?_
      refine ⟨[some 0], rfl, rfl, ?_, ?_⟩ <;> repeat' (first | exact trivial | exact rfl | exact Iff.rfl | apply And.intro)
open Classical in
theorem s47p (f : Fmt) (l : List Sng) (O : List Int) (hf : FmtOK f) (hg : SngsOK l) (hO : InR O l.length) (hl : O.length ≤ 100) : HSpec Tryd.prog 49 [plX f l, .one (.lst true [.int .i64] (i64s O))] [] (fun r m' => r = xP (LayOK f l O) ∧ m' = []) := by
  refine spec_of pMix (O := []) Tryd.func49 (c := bodyOf Tryd.f49) rfl (by kernel_rfl) (by kernel_rfl) Tryd.ntmps49 (res := [.tmp 4]) (by kernel_rfl) ?_
  repeat' ((conv => whnf); first | refine Rng.g ?_ | refine Ob.g ?_ | refine Ob.e ?_ | refine Ob.m ?_ | refine Ob.mk (Nat.le_of_ble_eq_true rfl) ?_ | refine JoinVC.on ?_ | refine Nils.mk (fun h => ?_) ?_ | refine Val.t ?_ | refine Val.d ?_ | refine Mm.mk ?_ | (refine Br.mk (fun h => ?_) (fun h => ?_) <;> first | (exfalso; omega; done) | (exfalso; simp at h; done) | skip))
  conv => whnf
  refine CallVC.mk [] _ _ _ rfl rfl rfl (s37p f l O hf hg hO hl) (fun r m' h' => ?_)
  cases h' with
  | rule i hi h hn hr hm =>
    subst hr hm
    repeat' ((conv => whnf); first | refine Rng.g ?_ | refine Ob.g ?_ | refine Ob.e ?_ | refine Ob.m ?_ | refine Ob.mk (Nat.le_of_ble_eq_true rfl) ?_ | refine JoinVC.on ?_ | refine Nils.mk (fun h => ?_) ?_ | refine Val.t ?_ | refine Val.d ?_ | refine Mm.mk ?_ | (refine Br.mk (fun h => ?_) (fun h => ?_) <;> first | (exfalso; omega; done) | (exfalso; simp at h; done) | skip))
    repeat refine Mm.mk ?_
    refine EndVC.mk _ rfl _ _ ⟨rfl, rfl⟩ ?_
    refine ⟨[], rfl, rfl, ?_, ?_⟩ <;> repeat' (first | exact trivial | exact rfl | exact Iff.rfl | apply And.intro)
    show _ ↔ _
    exact ⟨fun h1 => absurd h1 (by decide), fun h1 => absurd (h1.1 i hi) hn⟩
  | limit h hn hr hm =>
    subst hr hm
    repeat' ((conv => whnf); first | refine Rng.g ?_ | refine Ob.g ?_ | refine Ob.e ?_ | refine Ob.m ?_ | refine Ob.mk (Nat.le_of_ble_eq_true rfl) ?_ | refine JoinVC.on ?_ | refine Nils.mk (fun h => ?_) ?_ | refine Val.t ?_ | refine Val.d ?_ | refine Mm.mk ?_ | (refine Br.mk (fun h => ?_) (fun h => ?_) <;> first | (exfalso; omega; done) | (exfalso; simp at h; done) | skip))
    repeat refine Mm.mk ?_
    refine EndVC.mk _ rfl _ _ ⟨rfl, rfl⟩ ?_
    refine ⟨[], rfl, rfl, ?_, ?_⟩ <;> repeat' (first | exact trivial | exact rfl | exact Iff.rfl | apply And.intro)
    show _ ↔ _
    exact ⟨fun h1 => absurd h1 (by decide), fun h1 => absurd h1 hn⟩
  | ok h hr hm =>
    subst hr hm
    repeat' ((conv => whnf); first | refine Rng.g ?_ | refine Ob.g ?_ | refine Ob.e ?_ | refine Ob.m ?_ | refine Ob.mk (Nat.le_of_ble_eq_true rfl) ?_ | refine JoinVC.on ?_ | refine Nils.mk (fun h => ?_) ?_ | refine Val.t ?_ | refine Val.d ?_ | refine Mm.mk ?_ | (refine Br.mk (fun h => ?_) (fun h => ?_) <;> first | (exfalso; omega; done) | (exfalso; simp at h; done) | skip))
    repeat refine Mm.mk ?_
    refine EndVC.mk _ rfl _ _ ⟨rfl, rfl⟩ ?_
    refine ⟨[], rfl, rfl, ?_, ?_⟩ <;> repeat' (first | exact trivial | exact rfl | exact Iff.rfl | apply And.intro)
    show _ ↔ _
    exact ⟨fun _ => h, fun _ => rfl⟩
theorem s54g (i j : Nat) (hj : j ≤ 100000) : HSpec Tryd.prog 50 [I (i : Int), I (j : Int)] [] (fun r m' => r = .x (.one (.own 0)) ∧ m' = [some (rowOd (seqL i (j - i)))]) := by
  refine spec_of pMix (O := []) Tryd.func50 (c := bodyOf Tryd.f50) rfl (by kernel_rfl) (by kernel_rfl) Tryd.ntmps50 (res := [.tmp 4]) (by kernel_rfl) ?_
  repeat' ((conv => whnf); first | refine Rng.g ?_ | refine Ob.g ?_ | refine Ob.e ?_ | refine Ob.m ?_ | refine Ob.mk (Nat.le_of_ble_eq_true rfl) ?_ | refine JoinVC.on ?_ | refine Nils.mk (fun h => ?_) ?_ | refine Val.t ?_ | refine Val.d ?_ | refine Mm.mk ?_ | (refine Br.mk (fun h => ?_) (fun h => ?_) <;> first | (exfalso; omega; done) | (exfalso; simp at h; done) | skip))
  refine LoopVC.mk (fun m st => ∃ (k : Nat), (k ≤ j - i) ∧ m = j - i - k ∧ st = ⟨0, envA 16 [(0, .int .i64 ((i + k : Nat) : Int)), (1, .x (I (j : Int))), (5, .x (.one (.own 0)))], [some (rowOd (seqL i k))]⟩) _ _ ⟨0, Nat.zero_le _, rfl, rfl⟩ ?_ ?_
  · refine ⟨[none], rfl, rfl, ?_, ?_⟩ <;> repeat' (first | exact trivial | exact rfl | exact Iff.rfl | apply And.intro)
  rintro m _ ⟨k, hk, hm, rfl⟩
  have ls : (i64s (seqL i k)).length = k := by rw [i64s_len, seqL_len]
  by_cases hk' : k < j - i
  · repeat' ((conv => whnf); first | refine Rng.g ?_ | refine Ob.g ?_ | refine Ob.e ?_ | refine Ob.m ?_ | refine Ob.mk (Nat.le_of_ble_eq_true rfl) ?_ | refine JoinVC.on ?_ | refine Nils.mk (fun h => ?_) ?_ | refine Val.t ?_ | refine Val.d ?_ | refine Mm.mk ?_ | (refine Br.mk (fun h => ?_) (fun h => ?_) <;> first | (exfalso; omega; done) | (exfalso; simp at h; done) | skip))
    repeat refine Mm.mk ?_
    refine Ob.mk (by rw [eb3]; simp only [List.length_cons, List.length_nil]; omega) ?_
    repeat' ((conv => whnf); first | refine Rng.g ?_ | refine Ob.g ?_ | refine Ob.e ?_ | refine Ob.m ?_ | refine Ob.mk (Nat.le_of_ble_eq_true rfl) ?_ | refine JoinVC.on ?_ | refine Nils.mk (fun h => ?_) ?_ | refine Val.t ?_ | refine Val.d ?_ | refine Mm.mk ?_ | (refine Br.mk (fun h => ?_) (fun h => ?_) <;> first | (exfalso; omega; done) | (exfalso; simp at h; done) | skip))
    refine Back.mk (j - i - (k + 1)) _ (by omega) ⟨k + 1, by omega, rfl, rfl⟩ ?_
    rw [seqL_succ]
    refine ⟨[some 2], rfl, rfl, ?_, ?_⟩ <;> repeat' (first | exact trivial | exact rfl | exact Iff.rfl | apply And.intro)
    rw [i64s_snoc]
  · have ek : k = j - i := by omega
    subst ek
    repeat' ((conv => whnf); first | refine Rng.g ?_ | refine Ob.g ?_ | refine Ob.e ?_ | refine Ob.m ?_ | refine Ob.mk (Nat.le_of_ble_eq_true rfl) ?_ | refine JoinVC.on ?_ | refine Nils.mk (fun h => ?_) ?_ | refine Val.t ?_ | refine Val.d ?_ | refine Mm.mk ?_ | (refine Br.mk (fun h => ?_) (fun h => ?_) <;> first | (exfalso; omega; done) | (exfalso; simp at h; done) | skip))
    repeat refine Mm.mk ?_
    refine EndVC.mk _ rfl _ _ ⟨rfl, rfl⟩ ?_
    refine ⟨[some 0], rfl, rfl, ?_, ?_⟩ <;> repeat' (first | exact trivial | exact rfl | exact Iff.rfl | apply And.intro)
end Go.Sx

namespace Go.Sx
open Go Go.Proofs
set_option maxRecDepth 10000
set_option maxHeartbeats 8000000
/-! ### Formats and their plates -/
@[reducible] def KFm : List CK := [.str, .int .i64, .int .i64, .int .i64, .int .i64, .int .i64, .int .i64, .int .i64]
def fmtA (F : List Fmt) : Arr := F.map fun f => [.str f.nm, .int f.outer, .int f.inner, .int f.per, .int f.lead, .int f.gap, .int f.tail, .int f.cost]
theorem fmtA_len (F : List Fmt) : (fmtA F).length = F.length := by simp [fmtA]
@[reducible] def lFmt (F : List Fmt) : XV := .one (.lst true KFm (fmtA F))
theorem fmt_at (F : List Fmt) (i : Nat) (h : i < F.length) : rS (fmtA F) i 0 = (F.getD i f0).nm ∧ rI (fmtA F) i (0 + 1) = (F.getD i f0).outer ∧ rI (fmtA F) i (0 + 1 + 1) = (F.getD i f0).inner ∧ rI (fmtA F) i (0 + 1 + 1 + 1) = (F.getD i f0).per ∧ rI (fmtA F) i (0 + 1 + 1 + 1 + 1) = (F.getD i f0).lead ∧ rI (fmtA F) i (0 + 1 + 1 + 1 + 1 + 1) = (F.getD i f0).gap ∧ rI (fmtA F) i (0 + 1 + 1 + 1 + 1 + 1 + 1) = (F.getD i f0).tail ∧ rI (fmtA F) i (0 + 1 + 1 + 1 + 1 + 1 + 1 + 1) = (F.getD i f0).cost := by
  have h1 : (fmtA F)[i]? = some [.str (F.getD i f0).nm, .int (F.getD i f0).outer, .int (F.getD i f0).inner, .int (F.getD i f0).per, .int (F.getD i f0).lead, .int (F.getD i f0).gap, .int (F.getD i f0).tail, .int (F.getD i f0).cost] := by simp [fmtA, List.getD_eq_getElem?_getD, h]
  simp [rS, rI, cellAt, h1, Cell.toInt, Cell.toStr]
def plsA (F : List Fmt) (l : List Sng) : Arr := F.map fun f => [.sl (plA f l)]
theorem plsA_len (F : List Fmt) (l : List Sng) : (plsA F l).length = F.length := by simp [plsA]
theorem plsA_snoc (F : List Fmt) (l : List Sng) (f : Fmt) : plsA (F ++ [f]) l = plsA F l ++ [[.sl (plA f l)]] := by simp [plsA]
theorem plsA_at (F : List Fmt) (l : List Sng) (i : Nat) (h : i < F.length) : rA (plsA F l) i 0 = plA (F.getD i f0) l := by
  have h1 : (plsA F l)[i]? = some [.sl (plA (F.getD i f0) l)] := by simp [plsA, List.getD_eq_getElem?_getD, h]
  simp [rA, cellAt, h1, Cell.toArr]
@[reducible] def rowPl (F : List Fmt) (l : List Sng) : Blk := .row 73 true [.pt KPl] (plsA F l)
theorem eb246 : Tryd.t73.bytes = 8 := by kernel_rfl
@[reducible] def bAlb (F : List Fmt) (l : List Sng) (n : Int) : Blk := .box 93 [.lst true [.pt KPl] (plsA F l), .int .i64 n]
open Classical in
/-- The error of formats and tracks. -/
noncomputable def fmsE (F : List Fmt) (l : List Sng) : Int := if F.length = 0 ∨ 8 < F.length then 6 else if ∀ i, i < F.length → FmtOK (F.getD i f0) then trkE l else 2
theorem fmsE_many {F : List Fmt} {l : List Sng} (h : F.length = 0 ∨ 8 < F.length) : fmsE F l = 6 := if_pos h
theorem fmsE_bad {F : List Fmt} {l : List Sng} (h : ¬ (F.length = 0 ∨ 8 < F.length)) {i : Nat} (hi : i < F.length) (hn : ¬ FmtOK (F.getD i f0)) : fmsE F l = 2 := (if_neg h).trans (if_neg fun h => hn (h i hi))
theorem fmsE_trk {F : List Fmt} {l : List Sng} (h : ¬ (F.length = 0 ∨ 8 < F.length)) (hn : ∀ i, i < F.length → FmtOK (F.getD i f0)) : fmsE F l = trkE l := (if_neg h).trans (if_pos hn)
theorem fmsE_0 {F : List Fmt} {l : List Sng} : fmsE F l = 0 ↔ AlbOK F l := by
  constructor
  · intro h
    by_cases h1 : F.length = 0 ∨ 8 < F.length
    · rw [fmsE_many h1] at h; cases h
    · by_cases h2 : ∀ i, i < F.length → FmtOK (F.getD i f0)
      · rw [fmsE_trk h1 h2] at h
        exact ⟨by omega, h2, trkE_0 h⟩
      · unfold fmsE at h
        rw [if_neg h1, if_neg h2] at h; cases h
  · intro h
    rw [fmsE_trk (by have := h.few; omega) h.fmts, trkE_ok h.sngs]
theorem s49 (F : List Fmt) (l : List Sng) (hI : ∀ i, (F.getD i f0).nm.size ≤ 9223372036854775807) : HSpec Tryd.prog 45 [lFmt F, lSng l] [] (fun r m' => (fmsE F l ≠ 0 ∧ r = .tup [.one .nilp, I (fmsE F l)] ∧ m' = []) ∨ (fmsE F l ≠ 0 ∧ r = .tup [.one (.ptr 0 0), I (fmsE F l)] ∧ m' = [some (bAlb F l (l.length : Int))]) ∨ (AlbOK F l ∧ r = .tup [.one (.ptr 0 0), I 0] ∧ m' = [some (bAlb F l (l.length : Int))])) := by
  have lF := fmtA_len F
  have ll := sngA_len l
  by_cases h8 : F.length = 0 ∨ 8 < F.length
  · refine spec_of pMix (O := [(10, ([], [⟨0, [], []⟩, ⟨1, [], []⟩, ⟨2, [], []⟩, ⟨3, [], []⟩, ⟨4, [], []⟩, ⟨5, [], []⟩, ⟨6, [], []⟩, ⟨7, [], []⟩, ⟨8, [0, 1, 2, 3, 4], [9]⟩, ⟨9, [], []⟩, ⟨10, [0], []⟩, ⟨11, [], []⟩, ⟨12, [], []⟩, ⟨13, [], []⟩]))]) Tryd.func45 (c := bodyOf Tryd.f45) rfl (by kernel_rfl) (by kernel_rfl) Tryd.ntmps45 (res := [.tmp 4, .tmp 5]) (by kernel_rfl) ?_
    repeat' ((conv => whnf); first | refine Rng.g ?_ | refine Ob.g ?_ | refine Ob.e ?_ | refine Ob.m ?_ | refine Ob.mk (Nat.le_of_ble_eq_true rfl) ?_ | refine JoinVC.on ?_ | refine Nils.mk (fun h => ?_) ?_ | refine Val.t ?_ | refine Val.d ?_ | refine Mm.mk ?_ | (refine Br.mk (fun h => ?_) (fun h => ?_) <;> first | (exfalso; omega; done) | (exfalso; simp at h; done) | skip))
    all_goals
      repeat refine Mm.mk ?_
      conv => whnf
      refine EndVC.mk _ rfl _ _ (.inl ⟨by rw [fmsE_many h8]; decide, rfl, rfl⟩) ?_
      refine ⟨[], rfl, rfl, ?_, ?_⟩ <;> repeat' (first | exact trivial | exact rfl | exact Iff.rfl | apply And.intro)
      exact (fmsE_many h8).symm
  refine spec_of pMix (O := [(10, ([], [⟨0, [], []⟩, ⟨1, [], []⟩, ⟨2, [], []⟩, ⟨3, [], []⟩, ⟨4, [], []⟩, ⟨5, [], []⟩, ⟨6, [], []⟩, ⟨7, [], []⟩, ⟨8, [0, 1, 2, 3, 4], [9]⟩, ⟨9, [], []⟩, ⟨10, [0], []⟩, ⟨11, [], []⟩, ⟨12, [], []⟩, ⟨13, [], []⟩]))]) Tryd.func45 (c := bodyOf Tryd.f45) rfl (by kernel_rfl) (by kernel_rfl) Tryd.ntmps45 (res := [.tmp 4, .tmp 5]) (by kernel_rfl) ?_
  repeat' ((conv => whnf); first | refine Rng.g ?_ | refine Ob.g ?_ | refine Ob.e ?_ | refine Ob.m ?_ | refine Ob.mk (Nat.le_of_ble_eq_true rfl) ?_ | refine JoinVC.on ?_ | refine Nils.mk (fun h => ?_) ?_ | refine Val.t ?_ | refine Val.d ?_ | refine Mm.mk ?_ | (refine Br.mk (fun h => ?_) (fun h => ?_) <;> first | (exfalso; omega; done) | (exfalso; simp at h; done) | skip))
  refine LoopVC.mk (fun n st => ∃ (i : Nat), i ≤ F.length ∧ n = F.length - i ∧ (∀ j, j < i → FmtOK (F.getD j f0)) ∧ st = ⟨0, envA 50 [(1, .x (lSng l)), (6, .x (.one (.ptr 0 0))), (22, .x (lFmt F)), (23, .int .i64 (F.length : Int)), (24, .int .i64 (i : Int))], [some (.box 93 [.own 1, .int .i64 (l.length : Int)]), some (rowPl (F.take i) l)]⟩) _ _ ⟨0, Nat.zero_le _, rfl, fun j hj => absurd hj (Nat.not_lt_zero j), rfl⟩ ?_ ?_
  · refine ⟨[some 0, none], rfl, rfl, ?_, ?_⟩ <;> repeat' (first | exact trivial | exact rfl | exact Iff.rfl | apply And.intro)
    all_goals first | exact congrArg Int.ofNat lF | exact congrArg Int.ofNat ll
  rintro n _ ⟨i, hi, hn, hj, rfl⟩
  have lr : (plsA (F.take i) l).length = i := by rw [plsA_len, List.length_take]; omega
  by_cases hi' : i < F.length
  · obtain ⟨g0', g1, g2, g3, g4, g5, g6, g7⟩ := fmt_at F i hi'
    have et : (i : Int).toNat = i := Int.toNat_natCast i
    have u1 := plsA_snoc (F.take i) l (F.getD i f0)
    rw [← take_snoc F i f0 hi'] at u1
    have hf := hI i
    obtain ⟨f, hfe⟩ : ∃ f, F.getD i f0 = f := ⟨_, rfl⟩
    rw [hfe] at g0' g1 g2 g3 g4 g5 g6 g7 u1 hf
    repeat' ((conv => whnf); first | rw [et] | rw [g0'] | rw [g1] | rw [g2] | rw [g3] | rw [g4] | rw [g5] | rw [g6] | rw [g7] | refine Rng.g ?_ | refine Ob.g ?_ | refine Ob.e ?_ | refine Ob.m ?_ | refine Ob.mk (Nat.le_of_ble_eq_true rfl) ?_ | refine JoinVC.on ?_ | refine Nils.mk (fun h => ?_) ?_ | refine Val.t ?_ | refine Val.d ?_ | refine Mm.mk ?_ | (refine Br.mk (fun h => ?_) (fun h => ?_) <;> first | (exfalso; omega; done) | (exfalso; simp at h; done) | skip))
    have k0 := s67 f hf
    by_cases h0 : FmtOK f
    rotate_left
    · rw [fmtE_no h0] at k0
      have he : fmsE F l = 2 := fmsE_bad h8 hi' (by rw [hfe]; exact h0)
      repeat' ((conv => whnf); first | refine Rng.g ?_ | refine Ob.g ?_ | refine Ob.e ?_ | refine Ob.m ?_ | refine Ob.mk (Nat.le_of_ble_eq_true rfl) ?_ | refine JoinVC.on ?_ | refine Nils.mk (fun h => ?_) ?_ | refine Val.t ?_ | refine Val.d ?_ | refine Mm.mk ?_ | refine CallVC.pure rfl (k0) ?_ | refine CallVC0.pure rfl (k0) ?_ | (refine Br.mk (fun h => ?_) (fun h => ?_) <;> first | (exfalso; omega; done) | (exfalso; simp at h; done) | skip))
      repeat refine Mm.mk ?_
      conv => whnf
      refine EndVC.mk _ rfl _ _ (.inl ⟨by rw [he]; decide, rfl, rfl⟩) ?_
      refine ⟨[], rfl, rfl, ?_, ?_⟩ <;> repeat' (first | exact trivial | exact rfl | exact Iff.rfl | apply And.intro)
      exact he.symm
    have hfo := h0
    rw [fmtE_ok h0] at k0
    unfold plA at u1
    repeat' ((conv => whnf); first | refine Rng.g ?_ | refine Ob.g ?_ | refine Ob.e ?_ | refine Ob.m ?_ | refine Ob.mk (Nat.le_of_ble_eq_true rfl) ?_ | refine JoinVC.on ?_ | refine Nils.mk (fun h => ?_) ?_ | refine Val.t ?_ | refine Val.d ?_ | refine Mm.mk ?_ | refine CallVC.pure rfl (k0) ?_ | refine CallVC0.pure rfl (k0) ?_ | (refine Br.mk (fun h => ?_) (fun h => ?_) <;> first | (exfalso; omega; done) | (exfalso; simp at h; done) | skip))
    repeat refine Mm.mk ?_
    refine Ob.mk (by simp only [eb246, lr, List.length_cons, List.length_nil]; omega) ?_
    repeat' ((conv => whnf); first | rw [← u1] | refine Rng.g ?_ | refine Ob.g ?_ | refine Ob.e ?_ | refine Ob.m ?_ | refine Ob.mk (Nat.le_of_ble_eq_true rfl) ?_ | refine JoinVC.on ?_ | refine Nils.mk (fun h => ?_) ?_ | refine Val.t ?_ | refine Val.d ?_ | refine Mm.mk ?_ | (refine Br.mk (fun h => ?_) (fun h => ?_) <;> first | (exfalso; omega; done) | (exfalso; simp at h; done) | skip))
    refine Back.mk (F.length - (i + 1)) _ (by omega) ⟨i + 1, by omega, rfl, fun j hj' => ?_, rfl⟩ ?_
    · rcases Nat.lt_succ_iff_lt_or_eq.1 hj' with h' | rfl
      · exact hj j h'
      · rw [hfe]; exact hfo
    · refine ⟨[some 0, some 5], rfl, rfl, ?_, ?_⟩ <;> repeat' (first | exact trivial | exact rfl | exact Iff.rfl | apply And.intro)
  · have ei : i = F.length := by omega
    subst ei
    rw [show F.take F.length = F from List.take_length]
    repeat' ((conv => whnf); first | refine Rng.g ?_ | refine Ob.g ?_ | refine Ob.e ?_ | refine Ob.m ?_ | refine Ob.mk (Nat.le_of_ble_eq_true rfl) ?_ | refine JoinVC.on ?_ | refine Nils.mk (fun h => ?_) ?_ | refine Val.t ?_ | refine Val.d ?_ | refine Mm.mk ?_ | (refine Br.mk (fun h => ?_) (fun h => ?_) <;> first | (exfalso; omega; done) | (exfalso; simp at h; done) | skip))
    have k1 := s68 l
    have he := fmsE_trk (l := l) h8 hj
    by_cases h0 : SngsOK l
    · rw [trkE_ok h0] at k1
      repeat' ((conv => whnf); first | refine Rng.g ?_ | refine Ob.g ?_ | refine Ob.e ?_ | refine Ob.m ?_ | refine Ob.mk (Nat.le_of_ble_eq_true rfl) ?_ | refine JoinVC.on ?_ | refine Nils.mk (fun h => ?_) ?_ | refine Val.t ?_ | refine Val.d ?_ | refine Mm.mk ?_ | refine CallVC.pure rfl (k1) ?_ | refine CallVC0.pure rfl (k1) ?_ | (refine Br.mk (fun h => ?_) (fun h => ?_) <;> first | (exfalso; omega; done) | (exfalso; simp at h; done) | skip))
      repeat refine Mm.mk ?_
      conv => whnf
      refine EndVC.mk _ rfl _ _ (.inr (.inr ⟨⟨by omega, hj, h0⟩, rfl, rfl⟩)) ?_
      refine ⟨[some 0], rfl, rfl, ?_, ?_⟩ <;> repeat' (first | exact trivial | exact rfl | exact Iff.rfl | apply And.intro)
    · obtain ⟨e, hee⟩ : ∃ e, trkE l = e := ⟨_, rfl⟩
      have hn : e ≠ 0 := fun h => h0 (trkE_0 (hee.trans h))
      rw [hee] at k1 he
      repeat' ((conv => whnf); first | refine Rng.g ?_ | refine Ob.g ?_ | refine Ob.e ?_ | refine Ob.m ?_ | refine Ob.mk (Nat.le_of_ble_eq_true rfl) ?_ | refine JoinVC.on ?_ | refine Nils.mk (fun h => ?_) ?_ | refine Val.t ?_ | refine Val.d ?_ | refine Mm.mk ?_ | refine CallVC.pure rfl (k1) ?_ | refine CallVC0.pure rfl (k1) ?_ | (refine Br.mk (fun h => ?_) (fun h => ?_) <;> first | (exfalso; omega; done) | (exfalso; simp at h; done) | skip))
      repeat refine Mm.mk ?_
      conv => whnf
      refine EndVC.mk _ rfl _ _ (.inr (.inl ⟨by rw [he]; exact hn, rfl, rfl⟩)) ?_
      refine ⟨[some 0], rfl, rfl, ?_, ?_⟩ <;> repeat' (first | exact trivial | exact rfl | exact Iff.rfl | apply And.intro)
      exact he.symm
/-! ### Parts of code -/
def cF : Code → Code
  | .seq a _ => a
  | c => c
def cS : Code → Code
  | .seq _ b => b
  | c => c
def cB : Code → Code
  | .block _ c => c
  | c => c
def cAs : Code → Code
  | .rangeFunc _ _ x _ => x
  | c => c
def cBo : Code → Code
  | .rangeFunc _ _ _ b => b
  | c => c
def cL : Code → Code
  | .loop c => c
  | c => c
end Go.Sx

namespace Go.Sx
open Go Go.Proofs
set_option maxRecDepth 10000
set_option maxHeartbeats 4000000
/-! ### Best prices, forwards -/
def BestU (P : Int → Prop) (v : Int) : Prop := (v = -1 ∧ ∀ c, ¬ P c) ∨ (0 ≤ v ∧ P v ∧ ∀ c, P c → v ≤ c)
theorem BestU.congr {P Q : Int → Prop} {v : Int} (h : BestU P v) (e : ∀ c, P c ↔ Q c) : BestU Q v := by
  rcases h with ⟨h1, h2⟩ | ⟨h1, h2, h3⟩
  · exact .inl ⟨h1, fun c hc => h2 c ((e c).2 hc)⟩
  · exact .inr ⟨h1, (e v).1 h2, fun c hc => h3 c ((e c).2 hc)⟩
theorem BestU.add {P : Int → Prop} {v x : Int} (h : BestU P v) (hx : 0 ≤ x) {Q : Int → Prop} (hQx : Q x) (hQ : ∀ c, Q c → x ≤ c) : BestU (fun c => P c ∨ Q c) (if v < 0 ∨ x < v then x else v) := by
  rcases h with ⟨h1, h2⟩ | ⟨h1, h2, h3⟩
  · rw [if_pos (by omega)]
    exact .inr ⟨hx, .inr hQx, fun c hc => hc.elim (fun h => absurd h (h2 c)) (hQ c)⟩
  · split
    · exact .inr ⟨hx, .inr hQx, fun c hc => hc.elim (fun h => (by have := h3 c h; omega)) (hQ c)⟩
    · exact .inr ⟨h1, .inl h2, fun c hc => hc.elim (h3 c) (fun h => (by have := hQ c h; omega))⟩
/-- What the tracks before one may cost, if the last side begins before i. -/
def Cand (F : List Fmt) (l : List Sng) (i n : Nat) (c : Int) : Prop := (n = 0 ∧ c = 0) ∨ ∃ m k c', m < i ∧ Reach F l m c' ∧ faceP F l k m n ∧ c = c' + (F.getD k f0).cost
theorem cand_reach {F : List Fmt} {l : List Sng} {i n : Nat} (h : n ≤ i) (c : Int) : Cand F l i n c ↔ Reach F l n c := by
  constructor
  · rintro (⟨rfl, rfl⟩ | ⟨m, k, c', _, h2, h3, rfl⟩)
    · exact .nil
    · exact h2.step h3
  · intro hr
    cases hr with
    | nil => exact .inl ⟨rfl, rfl⟩
    | @step m _ k c' h1 h2 => exact .inr ⟨m, k, c', by have := h2.lt; omega, h1, h2, rfl⟩
/-- .. or with one of these faces from i on. -/
def CandL (F : List Fmt) (l : List Sng) (i : Nat) (L : List (Nat × Nat)) (n : Nat) (c : Int) : Prop := Cand F l i n c ∨ ∃ p, p ∈ L ∧ p.2 = n ∧ ∃ c', Reach F l i c' ∧ c = c' + (F.getD p.1 f0).cost
theorem candL_all {F : List Fmt} {l : List Sng} {i n : Nat} (c : Int) : CandL F l i (facesL F l i) n c ↔ Cand F l (i + 1) n c := by
  constructor
  · rintro ((h | ⟨m, k, c', h1, h2⟩) | ⟨p, h1, h2, c', h3, h4⟩)
    · exact .inl h
    · exact .inr ⟨m, k, c', by omega, h2⟩
    · exact .inr ⟨i, p.1, c', Nat.lt_succ_self i, h3, h2 ▸ mem_faces.1 h1, h4⟩
  · rintro (h | ⟨m, k, c', h1, h2, h3, h4⟩)
    · exact .inl (.inl h)
    · by_cases e : m = i
      · subst e
        exact .inr ⟨(k, n), mem_faces.2 h3, rfl, c', h2, h4⟩
      · exact .inl (.inr ⟨m, k, c', by omega, h2, h3, h4⟩)
theorem cand_skip {F : List Fmt} {l : List Sng} {i n : Nat} (h : ∀ c, ¬ Reach F l i c) (c : Int) : Cand F l i n c ↔ Cand F l (i + 1) n c := by
  rw [← candL_all]
  constructor
  · exact .inl
  · rintro (h1 | ⟨p, _, _, c', h3, _⟩)
    · exact h1
    · exact absurd h3 (h c')
/-- The prices, when the last side begins before i. -/
structure PrcOK (F : List Fmt) (l : List Sng) (P : Nat → Int → Prop) (p : List Int) : Prop where
  len : p.length = l.length + 1
  each : ∀ n, n ≤ l.length → BestU (P n) (p.getD n 0)
def stepP (F : List Fmt) (i : Nat) (p : List Int) (q : Nat × Nat) : List Int := if p.getD q.2 0 < 0 ∨ p.getD i 0 + (F.getD q.1 f0).cost < p.getD q.2 0 then p.set q.2 (p.getD i 0 + (F.getD q.1 f0).cost) else p
theorem stepP_ok {F : List Fmt} {l : List Sng} (hA : AlbOK F l) {i : Nat} (hi : i < l.length) {L : List (Nat × Nat)} {p : List Int} (h : PrcOK F l (CandL F l i L) p) (hL : ∀ q, q ∈ L → faceP F l q.1 i q.2) (h0 : 0 ≤ p.getD i 0) {q : Nat × Nat} (hq : faceP F l q.1 i q.2) : PrcOK F l (CandL F l i (L ++ [q])) (stepP F i p q) ∧ (stepP F i p q).getD i 0 = p.getD i 0 := by
  have hlt := hq.lt
  have hle := hq.le
  have hc := (hA.fmts q.1 hq.fmt).cost
  have hlen := h.len
  have hbi : BestU (Reach F l i) (p.getD i 0) := (h.each i (by omega)).congr fun c => by
    constructor
    · rintro (h1 | ⟨q', h1, h2, _⟩)
      · exact (cand_reach (Nat.le_refl i) c).1 h1
      · have := (hL q' h1).lt
        omega
    · exact fun h1 => .inl ((cand_reach (Nat.le_refl i) c).2 h1)
  obtain ⟨r1, r2⟩ : Reach F l i (p.getD i 0) ∧ ∀ c, Reach F l i c → p.getD i 0 ≤ c := by
    rcases hbi with ⟨h1, _⟩ | ⟨_, h1, h2⟩
    · omega
    · exact ⟨h1, h2⟩
  have key : ∀ n, n ≤ l.length → BestU (CandL F l i (L ++ [q]) n) (if n = q.2 then (if p.getD n 0 < 0 ∨ p.getD i 0 + (F.getD q.1 f0).cost < p.getD n 0 then p.getD i 0 + (F.getD q.1 f0).cost else p.getD n 0) else p.getD n 0) := fun n hn => by
    split
    · rename_i e
      subst e
      refine ((h.each q.2 hn).add (x := p.getD i 0 + (F.getD q.1 f0).cost) (Q := fun c => ∃ c', Reach F l i c' ∧ c = c' + (F.getD q.1 f0).cost) (by omega) ⟨_, r1, rfl⟩ fun c ⟨c', h1, h2⟩ => (by have := r2 c' h1; omega)).congr fun c => ?_
      constructor
      · rintro ((h1 | ⟨q', h1, h2⟩) | ⟨c', h1, h2⟩)
        · exact .inl h1
        · exact .inr ⟨q', List.mem_append_left _ h1, h2⟩
        · exact .inr ⟨q, List.mem_append_right _ List.mem_cons_self, rfl, c', h1, h2⟩
      · rintro (h1 | ⟨q', h1, h2, h3⟩)
        · exact .inl (.inl h1)
        · rcases List.mem_append.1 h1 with h4 | h4
          · exact .inl (.inr ⟨q', h4, h2, h3⟩)
          · rw [List.mem_singleton.1 h4] at h3
            exact .inr h3
    · rename_i e
      refine (h.each n hn).congr fun c => ?_
      constructor
      · rintro (h1 | ⟨q', h1, h2⟩)
        · exact .inl h1
        · exact .inr ⟨q', List.mem_append_left _ h1, h2⟩
      · rintro (h1 | ⟨q', h1, h2, h3⟩)
        · exact .inl h1
        · rcases List.mem_append.1 h1 with h4 | h4
          · exact .inr ⟨q', h4, h2, h3⟩
          · rw [List.mem_singleton.1 h4] at h2
            exact absurd h2.symm e
  have g : ∀ n, (stepP F i p q).getD n 0 = if n = q.2 then (if p.getD n 0 < 0 ∨ p.getD i 0 + (F.getD q.1 f0).cost < p.getD n 0 then p.getD i 0 + (F.getD q.1 f0).cost else p.getD n 0) else p.getD n 0 := fun n => by
    unfold stepP
    by_cases e : n = q.2
    · subst e
      rw [if_pos rfl]
      split
      · rw [gset _ _ _ _ _ (by omega), if_pos rfl]
      · rfl
    · rw [if_neg e]
      split
      · rw [gset _ _ _ _ _ (by omega), if_neg e]
      · rfl
  refine ⟨⟨?_, fun n hn => by rw [g]; exact key n hn⟩, ?_⟩
  · unfold stepP
    split
    · rw [List.length_set]; exact hlen
    · exact hlen
  · rw [g, if_neg (by omega)]
theorem reach_bd {F : List Fmt} {l : List Sng} (hA : AlbOK F l) {n : Nat} {c : Int} (h : Reach F l n c) : 0 ≤ c ∧ c ≤ 1048576 * (n : Int) := by
  induction h with
  | nil => omega
  | step h hf ih =>
    have h1 := (hA.fmts _ hf.fmt).cost
    have h2 := hf.lt
    omega
theorem candL_bd {F : List Fmt} {l : List Sng} (hA : AlbOK F l) {i n : Nat} {L : List (Nat × Nat)} (hL : ∀ q, q ∈ L → faceP F l q.1 i q.2) {c : Int} (h : CandL F l i L n c) : 0 ≤ c ∧ c ≤ 1048576 * (n : Int) := by
  rcases h with (⟨rfl, rfl⟩ | ⟨m, k, c', h1, h2, h3, rfl⟩) | ⟨q, h1, rfl, c', h2, rfl⟩
  · omega
  · exact reach_bd hA (h2.step h3)
  · exact reach_bd hA (h2.step (hL q h1))
theorem PrcOK.bd {F : List Fmt} {l : List Sng} (hA : AlbOK F l) {i : Nat} {L : List (Nat × Nat)} (hL : ∀ q, q ∈ L → faceP F l q.1 i q.2) {p : List Int} (h : PrcOK F l (CandL F l i L) p) {n : Nat} (hn : n ≤ l.length) : -1 ≤ p.getD n 0 ∧ p.getD n 0 ≤ 1048576 * (n : Int) := by
  rcases h.each n hn with ⟨h1, _⟩ | ⟨_, h1, _⟩
  · omega
  · have := candL_bd hA hL h1
    omega
theorem prc_nil {F : List Fmt} {l : List Sng} {i : Nat} {p : List Int} (h : PrcOK F l (Cand F l i) p) : PrcOK F l (CandL F l i []) p := ⟨h.len, fun n hn => (h.each n hn).congr fun c => ⟨.inl, fun h1 => h1.elim id fun ⟨q, h2, _⟩ => absurd h2 (by simp)⟩⟩
theorem prc_next {F : List Fmt} {l : List Sng} {i : Nat} {p : List Int} (h : PrcOK F l (CandL F l i (facesL F l i)) p) : PrcOK F l (Cand F l (i + 1)) p := ⟨h.len, fun n hn => (h.each n hn).congr fun c => candL_all c⟩
theorem prc_skip {F : List Fmt} {l : List Sng} {i : Nat} {p : List Int} (h : PrcOK F l (Cand F l i) p) (hi : i ≤ l.length) (h0 : p.getD i 0 < 0) : PrcOK F l (Cand F l (i + 1)) p := ⟨h.len, fun n hn => (h.each n hn).congr fun c => cand_skip (fun c hc => by
  rcases h.each i hi with ⟨_, h1⟩ | ⟨h1, _⟩
  · exact h1 c ((cand_reach (Nat.le_refl i) c).2 hc)
  · omega) c⟩
theorem prc_end {F : List Fmt} {l : List Sng} {p : List Int} (h : PrcOK F l (Cand F l l.length) p) : PrcOK F l (Reach F l) p := ⟨h.len, fun n hn => (h.each n hn).congr fun c => cand_reach hn c⟩
theorem prc_start {F : List Fmt} {l : List Sng} : PrcOK F l (Cand F l 0) ((List.replicate (l.length + 1) (-1)).set 0 0) := ⟨by simp, fun n hn => by
  rw [gset _ _ _ _ _ (by simp)]
  split
  · rename_i e
    subst e
    exact .inr ⟨Int.le_refl 0, .inl ⟨rfl, rfl⟩, fun c hc => (by
      rcases hc with ⟨_, rfl⟩ | ⟨m, k, c', h1, _⟩
      · exact Int.le_refl 0
      · omega)⟩
  · rename_i e
    have : (List.replicate (l.length + 1) (-1 : Int)).getD n 0 = -1 := by simp [List.getD_eq_getElem?_getD, show n < l.length + 1 by omega]
    rw [this]
    exact .inl ⟨rfl, fun c hc => (by
      rcases hc with ⟨h1, _⟩ | ⟨m, k, c', h1, _⟩
      · exact e h1
      · omega)⟩⟩
end Go.Sx

namespace Go.Sx
open Go Go.Proofs
set_option maxRecDepth 10000
set_option maxHeartbeats 8000000
/-! ### slices.Repeat -/
theorem shr_val {n c : Int} {m : Nat} (h : (2 : Int) ^ m = c) : n / 2 ^ m = n / c := by rw [h]
@[reducible] def U64 (n : Int) : XV := .one (.int .u64 n)
theorem mask32 {n : Int} (h : 0 ≤ n ∧ n ≤ 18446744073709551615) : bits .and .u64 n 4294967295 = n % 4294967296 := by
  obtain ⟨k, rfl⟩ := Int.eq_ofNat_of_zero_le h.1
  have := bits_and_u64_nat k 4294967295 (by omega) (by omega)
  rw [show ((4294967295 : Nat) : Int) = 4294967295 from rfl] at this
  rw [this, show (4294967295 : Nat) = 2 ^ 32 - 1 from rfl, Nat.and_two_pow_sub_one_eq_mod]
  omega
theorem s101 (n : Int) (h : 0 ≤ n ∧ n ≤ 25) : PSpec Tryd.prog 78 [U64 1, U64 n] (.tup [U64 0, U64 n]) := by
  refine spec_of pMix (O := []) Tryd.func78 (c := bodyOf Tryd.f78) rfl (by kernel_rfl) (by kernel_rfl) Tryd.ntmps78 (res := [.tmp 4, .tmp 5]) (by kernel_rfl) ?_
  repeat' (conv => whnf
           first
           | refine Rng.ok (by simp only [inR]; omega) ?_
           | refine Ob.mk (by first | omega | (simp; done) | decide | (simp; omega)) ?_
           | refine Val.mk _ (shr_val (by simp; rfl)) ?_
           | refine Val.mk _ (mask32 (by omega)) ?_)
  repeat refine Mm.mk ?_
  refine EndVC.mk _ rfl _ _ ⟨rfl, rfl⟩ ?_
  refine ⟨[], rfl, rfl, ?_, ?_⟩ <;> repeat' (first | exact trivial | exact rfl | exact Iff.rfl | apply And.intro)
  all_goals omega
theorem s81 (n : Int) (h : 0 ≤ n ∧ n ≤ 25) : PSpec Tryd.prog 68 [U64 1, U64 n] (.tup [U64 0, U64 n]) := by
  refine spec_of pMix (O := []) Tryd.func68 (c := bodyOf Tryd.f68) rfl (by kernel_rfl) (by kernel_rfl) Tryd.ntmps68 (res := [.tmp 4, .tmp 5]) (by kernel_rfl) ?_
  repeat' ((conv => whnf); first | refine Rng.g ?_ | refine Ob.g ?_ | refine Ob.e ?_ | refine Ob.m ?_ | refine Ob.mk (Nat.le_of_ble_eq_true rfl) ?_ | refine JoinVC.on ?_ | refine Nils.mk (fun h => ?_) ?_ | refine Val.t ?_ | refine Val.d ?_ | refine Mm.mk ?_ | refine CallVC.pure rfl (s101 n h) ?_ | refine CallVC0.pure rfl (s101 n h) ?_ | (refine Br.mk (fun h => ?_) (fun h => ?_) <;> first | (exfalso; omega; done) | (exfalso; simp at h; done) | skip))
  repeat refine Mm.mk ?_
  refine EndVC.mk _ rfl _ _ ⟨rfl, rfl⟩ ?_
  refine ⟨[], rfl, rfl, ?_, ?_⟩ <;> repeat' (first | exact trivial | exact rfl | exact Iff.rfl | apply And.intro)
theorem rep_copy (n k : Nat) : (i64s (List.replicate k (-1) ++ List.replicate (n - k) 0)).take k ++ (((i64s (List.replicate k (-1) ++ List.replicate (n - k) 0)).take k).take (min (n - k) k) ++ (i64s (List.replicate k (-1) ++ List.replicate (n - k) 0)).drop (k + min (n - k) k)) = i64s (List.replicate (k + min (n - k) k) (-1) ++ List.replicate (n - (k + min (n - k) k)) 0) := by
  obtain ⟨m, hm⟩ : ∃ m, min (n - k) k = m := ⟨_, rfl⟩
  have h1 : m ≤ n - k := hm ▸ Nat.min_le_left _ _
  have h2 : m ≤ k := hm ▸ Nat.min_le_right _ _
  rw [hm]
  unfold i64s
  rw [← List.map_take, ← List.map_take, ← List.map_drop, ← List.map_append, ← List.map_append]
  congr 1
  rw [List.take_left' (by simp), List.take_replicate, Nat.min_eq_left h2, List.drop_append, List.drop_replicate, List.drop_replicate, ← List.append_assoc, List.replicate_append_replicate]
  simp only [List.length_replicate]
  rw [show k - (k + m) = 0 by omega, show n - k - (k + m - k) = n - (k + m) by omega]
  rfl
@[reducible] def rowPr (p : List Int) : Blk := .row 2 false [.int .i64] (i64s p)
theorem rep_min (n : Nat) (h : 1 ≤ n) : min (List.replicate (n : Int).toNat (zeroRow [.int .i64])).length ([[Cell.int (-1)]] : Arr).length = 1 := by
  rw [List.length_replicate, Int.toNat_natCast]
  exact Nat.min_eq_right h
theorem rep_init (n : Nat) (h : 1 ≤ n) : List.take 0 (List.replicate (n : Int).toNat (zeroRow [.int .i64])) ++ (List.take (min (List.replicate (n : Int).toNat (zeroRow [.int .i64])).length ([[Cell.int (-1)]] : Arr).length) [[Cell.int (-1)]] ++ List.drop (0 + min (List.replicate (n : Int).toNat (zeroRow [.int .i64])).length ([[Cell.int (-1)]] : Arr).length) (List.replicate (n : Int).toNat (zeroRow [.int .i64]))) = i64s (List.replicate 1 (-1) ++ List.replicate (n - 1) 0) := by
  rw [rep_min n h, Int.toNat_natCast, List.drop_replicate]
  simp [i64s, zeroRow, zeroCell]
theorem eb2 : Tryd.t2.bytes = 8 := by kernel_rfl
theorem s66 (n : Nat) (h1 : 1 ≤ n ∧ n ≤ 25) : HSpec Tryd.prog 53 [.one (.lst true [.int .i64] [[.int (-1)]]), I (n : Int)] [] (fun r m' => r = .x (.one (.own 0)) ∧ m' = [some (rowPr (List.replicate n (-1)))]) := by
  have hs := s81 (n : Int) (by omega)
  have l1 : (([[Cell.int (-1)]] : Arr).length : Int) = 1 := rfl
  refine spec_of pMix (O := [(9, ([], [⟨0, [], []⟩, ⟨1, [], []⟩, ⟨2, [], []⟩, ⟨3, [], []⟩, ⟨4, [], []⟩, ⟨5, [], []⟩, ⟨6, [], []⟩, ⟨7, [0], []⟩, ⟨8, [], []⟩, ⟨9, [], []⟩]))]) Tryd.func53 (c := bodyOf Tryd.f53) rfl (by kernel_rfl) (by kernel_rfl) Tryd.ntmps53 (res := [.tmp 4]) (by kernel_rfl) ?_
  repeat' ((conv => whnf); first | rw [l1] | refine Rng.g ?_ | refine Ob.g ?_ | refine Ob.e ?_ | refine Ob.m ?_ | refine Ob.mk (Nat.le_of_ble_eq_true rfl) ?_ | refine JoinVC.on ?_ | refine Nils.mk (fun h => ?_) ?_ | refine Val.t ?_ | refine Val.d ?_ | refine Mm.mk ?_ | refine CallVC.pure rfl (hs) ?_ | refine CallVC0.pure rfl (hs) ?_ | (refine Br.mk (fun h => ?_) (fun h => ?_) <;> first | (exfalso; omega; done) | (exfalso; simp at h; done) | skip))
  repeat refine Mm.mk ?_
  refine Ob.mk (by rw [eb2]; omega) ?_
  repeat' ((conv => whnf); first | rw [l1] | refine Rng.g ?_ | refine Ob.g ?_ | refine Ob.e ?_ | refine Ob.m ?_ | refine Ob.mk (Nat.le_of_ble_eq_true rfl) ?_ | refine JoinVC.on ?_ | refine Nils.mk (fun h => ?_) ?_ | refine Val.t ?_ | refine Val.d ?_ | refine Mm.mk ?_ | refine CallVC.pure rfl (hs) ?_ | refine CallVC0.pure rfl (hs) ?_ | (refine Br.mk (fun h => ?_) (fun h => ?_) <;> first | (exfalso; omega; done) | (exfalso; simp at h; done) | skip))
  have ln : ∀ k, (i64s (List.replicate k (-1) ++ List.replicate (n - k) 0)).length = k + (n - k) := fun k => by rw [i64s_len, List.length_append, List.length_replicate, List.length_replicate]
  refine LoopVC.mk (fun m st => ∃ (k : Nat), (1 ≤ k ∧ k ≤ n) ∧ m = n - k ∧ st = ⟨0, envA 48 [(7, .x (.one (.own 0))), (8, .int .i64 (k : Int))], [some (rowPr (List.replicate k (-1) ++ List.replicate (n - k) 0))]⟩) _ _ ⟨1, by omega, rfl, rfl⟩ ?_ ?_
  · refine ⟨[some 0], rfl, rfl, ?_, ?_⟩ <;> repeat' (first | exact trivial | exact rfl | exact Iff.rfl | apply And.intro)
    · rw [rep_min n h1.1]
    · exact rep_init n h1.1
  rintro m _ ⟨k, hk, hm, rfl⟩
  have lk := ln k
  by_cases hk' : k < n
  · have lt : ((i64s (List.replicate k (-1) ++ List.replicate (n - k) 0)).take (k : Int).toNat).length = k := by rw [List.length_take, lk]; omega
    have e1 : ((i64s (List.replicate k (-1) ++ List.replicate (n - k) 0)).length : Int).toNat - (k : Int).toNat = n - k := by rw [lk]; omega
    have e2 : (k : Int).toNat = k := Int.toNat_natCast k
    have e3 := rep_copy n k
    obtain ⟨d, hd⟩ : ∃ d, min (n - k) k = d := ⟨_, rfl⟩
    have hd1 : 1 ≤ d := by rw [← hd]; exact Nat.le_min.2 ⟨by omega, hk.1⟩
    have hd2 : d ≤ n - k := by rw [← hd]; exact Nat.min_le_left _ _
    rw [hd] at e3
    obtain ⟨A, hA⟩ : ∃ A, i64s (List.replicate k (-1) ++ List.replicate (n - k) 0) = A := ⟨_, rfl⟩
    rw [hA] at lt e1 e3 lk
    have hM : min (((none : Option Int).getD (A.length : Int)).toNat - (k : Int).toNat) (List.take ((some (k : Int)).getD (A.length : Int)).toNat (List.drop 0 A)).length = d := by
      show min ((A.length : Int).toNat - (k : Int).toNat) (List.take (k : Int).toNat A).length = d
      rw [e1, lt]
      exact hd
    simp only [rowPr, hA]
    repeat' ((conv => whnf); first | rw [hM] | refine Rng.g ?_ | refine Ob.g ?_ | refine Ob.e ?_ | refine Ob.m ?_ | refine Ob.mk (Nat.le_of_ble_eq_true rfl) ?_ | refine JoinVC.on ?_ | refine Nils.mk (fun h => ?_) ?_ | refine Val.t ?_ | refine Val.d ?_ | refine Mm.mk ?_ | (refine Br.mk (fun h => ?_) (fun h => ?_) <;> first | (exfalso; omega; done) | (exfalso; simp at h; done) | skip))
    refine Back.mk (n - (k + d)) _ (by omega) ⟨k + d, by omega, rfl, rfl⟩ ?_
    refine ⟨[some 0], rfl, rfl, ?_, ?_⟩ <;> repeat' (first | exact trivial | exact rfl | exact Iff.rfl | apply And.intro)
    · show List.take (k : Int).toNat A ++ (List.take d (List.take (k : Int).toNat (List.drop 0 A)) ++ List.drop ((k : Int).toNat + d) A) = _
      rw [e2, List.drop_zero]
      exact e3
  · have ek : k = n := by omega
    subst ek
    have e0 : List.replicate k (-1 : Int) ++ List.replicate (k - k) 0 = List.replicate k (-1) := by rw [Nat.sub_self]; simp
    rw [e0] at lk
    rw [e0]
    repeat' ((conv => whnf); first | refine Rng.g ?_ | refine Ob.g ?_ | refine Ob.e ?_ | refine Ob.m ?_ | refine Ob.mk (Nat.le_of_ble_eq_true rfl) ?_ | refine JoinVC.on ?_ | refine Nils.mk (fun h => ?_) ?_ | refine Val.t ?_ | refine Val.d ?_ | refine Mm.mk ?_ | (refine Br.mk (fun h => ?_) (fun h => ?_) <;> first | (exfalso; omega; done) | (exfalso; simp at h; done) | skip))
    repeat refine Mm.mk ?_
    refine EndVC.mk _ rfl _ _ ⟨rfl, rfl⟩ ?_
    refine ⟨[some 0], rfl, rfl, ?_, ?_⟩ <;> repeat' (first | exact trivial | exact rfl | exact Iff.rfl | apply And.intro)
end Go.Sx

namespace Go.Sx
open Go Go.Proofs
set_option maxRecDepth 10000
set_option maxHeartbeats 8000000
theorem e69 : EntersF Tryd.prog 69 := enters_of Tryd.func69 (c := bodyOf Tryd.f69) (by kernel_rfl) rfl
theorem upd0 (n : Nat) : updRow (i64s (List.replicate (n + 1) (-1))) (Int.toNat 0) 0 [Cell.int 0] = i64s ((List.replicate (n + 1) (-1)).set 0 0) := i64s_upd' _ 0 0 (by simp)
noncomputable def rf33 : Code := cB (cS (cS (cS (cB (cF (cS (cS (cL (cB (cS (cF (cS (cS (cS (cS (cS (bodyOf Tryd.f23)))))))))))))))))
theorem s53 (F : List Fmt) (l : List Sng) (n : Int) (i : Int) : HSpec Tryd.prog 54 [.one (.ptr 0 0), I i] [bAlb F l n] (fun r m' => r = .x (.one (.fn 69 [(1, 0), (2, 0)])) ∧ m' = [some (bAlb F l n), some (.box 82 [.ptr 0 0]), some (.box 3 [.int .i64 i])]) := by
  refine spec_of pMix (O := []) Tryd.func54 (c := bodyOf Tryd.f54) rfl (by kernel_rfl) (by kernel_rfl) Tryd.ntmps54 (res := [.tmp 4]) (by kernel_rfl) ?_
  repeat' ((conv => whnf); first | refine Rng.g ?_ | refine Ob.g ?_ | refine Ob.e ?_ | refine Ob.m ?_ | refine Ob.mk (Nat.le_of_ble_eq_true rfl) ?_ | refine JoinVC.on ?_ | refine Nils.mk (fun h => ?_) ?_ | refine Val.t ?_ | refine Val.d ?_ | refine Mm.mk ?_ | (refine Br.mk (fun h => ?_) (fun h => ?_) <;> first | (exfalso; omega; done) | (exfalso; simp at h; done) | skip))
  repeat refine Mm.mk ?_
  conv => whnf
  refine EndVC.mk _ rfl _ _ (⟨rfl, rfl⟩) ?_
  refine ⟨[some 0, some 1, some 2], rfl, rfl, ?_, ?_⟩ <;> repeat' (first | exact trivial | exact rfl | exact Iff.rfl | apply And.intro)
theorem s33 (F : List Fmt) (l : List Sng) (hI : ∀ i, (F.getD i f0).nm.size ≤ 9223372036854775807) : HSpec Tryd.prog 23 [lFmt F, lSng l] [] (fun r m' => (fmsE F l ≠ 0 ∧ r = .tup [.one .nils, I (fmsE F l)] ∧ m' = []) ∨ (AlbOK F l ∧ ∃ p, PrcOK F l (Reach F l) p ∧ r = .tup [.one (.own 0), I 0] ∧ m' = [some (rowPr p)])) := by
  have ll := sngA_len l
  refine spec_of pMix (O := []) Tryd.func23 (c := bodyOf Tryd.f23) rfl (by kernel_rfl) (by kernel_rfl) Tryd.ntmps23 (res := [.tmp 4, .tmp 5]) (by kernel_rfl) ?_
  repeat' ((conv => whnf); first | refine Rng.g ?_ | refine Ob.g ?_ | refine Ob.e ?_ | refine Ob.m ?_ | refine Ob.mk (Nat.le_of_ble_eq_true rfl) ?_ | refine JoinVC.on ?_ | refine Nils.mk (fun h => ?_) ?_ | refine Val.t ?_ | refine Val.d ?_ | refine Mm.mk ?_ | (refine Br.mk (fun h => ?_) (fun h => ?_) <;> first | (exfalso; omega; done) | (exfalso; simp at h; done) | skip))
  conv => whnf
  refine CallVC.mk [] _ _ _ rfl rfl rfl (s49 F l hI) (fun r m' h' => ?_)
  rcases h' with ⟨he, rfl, rfl⟩ | ⟨he, rfl, rfl⟩ | ⟨hA, rfl, rfl⟩
  · repeat' ((conv => whnf); first | refine Rng.g ?_ | refine Ob.g ?_ | refine Ob.e ?_ | refine Ob.m ?_ | refine Ob.mk (Nat.le_of_ble_eq_true rfl) ?_ | refine JoinVC.on ?_ | refine Nils.mk (fun h => ?_) ?_ | refine Val.t ?_ | refine Val.d ?_ | refine Mm.mk ?_ | (refine Br.mk (fun h => ?_) (fun h => ?_) <;> first | (exfalso; omega; done) | (exfalso; simp at h; done) | skip))
    repeat refine Mm.mk ?_
    conv => whnf
    refine EndVC.mk _ rfl _ _ (.inl ⟨he, rfl, rfl⟩) ?_
    refine ⟨[], rfl, rfl, ?_, ?_⟩ <;> repeat' (first | exact trivial | exact rfl | exact Iff.rfl | apply And.intro)
  · repeat' ((conv => whnf); first | refine Rng.g ?_ | refine Ob.g ?_ | refine Ob.e ?_ | refine Ob.m ?_ | refine Ob.mk (Nat.le_of_ble_eq_true rfl) ?_ | refine JoinVC.on ?_ | refine Nils.mk (fun h => ?_) ?_ | refine Val.t ?_ | refine Val.d ?_ | refine Mm.mk ?_ | (refine Br.mk (fun h => ?_) (fun h => ?_) <;> first | (exfalso; omega; done) | (exfalso; simp at h; done) | skip))
    repeat refine Mm.mk ?_
    conv => whnf
    refine EndVC.mk _ rfl _ _ (.inl ⟨he, rfl, rfl⟩) ?_
    refine ⟨[], rfl, rfl, ?_, ?_⟩ <;> repeat' (first | exact trivial | exact rfl | exact Iff.rfl | apply And.intro)
  have h24 := hA.sngs.len
  have e1 : ((l.length + 1 : Nat) : Int) = (l.length : Int) + 1 := by omega
  have c66 := s66 (l.length + 1) (by omega)
  rw [e1] at c66
  have lr : (i64s (List.replicate (l.length + 1) (-1))).length = l.length + 1 := by rw [i64s_len, List.length_replicate]
  repeat' ((conv => whnf); first | rw [ll] | refine Rng.g ?_ | refine Ob.g ?_ | refine Ob.e ?_ | refine Ob.m ?_ | refine Ob.mk (Nat.le_of_ble_eq_true rfl) ?_ | refine JoinVC.on ?_ | refine Nils.mk (fun h => ?_) ?_ | refine Val.t ?_ | refine Val.d ?_ | refine Mm.mk ?_ | (refine Br.mk (fun h => ?_) (fun h => ?_) <;> first | (exfalso; omega; done) | (exfalso; simp at h; done) | skip))
  conv => whnf
  refine CallVC.mk [] _ _ _ rfl rfl rfl (c66) (fun r m' h' => ?_)
  obtain ⟨rfl, rfl⟩ := h'
  conv => whnf
  repeat' ((conv => whnf); first | refine Rng.g ?_ | refine Ob.g ?_ | refine Ob.e ?_ | refine Ob.m ?_ | refine Ob.mk (Nat.le_of_ble_eq_true rfl) ?_ | refine JoinVC.on ?_ | refine Nils.mk (fun h => ?_) ?_ | refine Val.t ?_ | refine Val.d ?_ | refine Mm.mk ?_ | (refine Br.mk (fun h => ?_) (fun h => ?_) <;> first | (exfalso; omega; done) | (exfalso; simp at h; done) | skip))
  refine LoopVC.mk (fun m st => ∃ (i : Nat) (p : List Int), i ≤ l.length ∧ m = l.length - i ∧ PrcOK F l (Cand F l i) p ∧ st = ⟨0, envA 83 [(6, .x (.one (.ptr 1 0))), (8, .x (.one (.ptr 3 0))), (30, .int .i64 (l.length : Int)), (31, .int .i64 (i : Int))], [some (bAlb F l (l.length : Int)), some (.box 82 [.ptr 0 0]), some (rowPr p), some (.box 38 [.own 2])]⟩) _ _ ⟨0, _, Nat.zero_le _, rfl, prc_start, rfl⟩ ?_ ?_
  · rw [upd0]
    refine ⟨[some 0, some 1, some 3, some 4], rfl, rfl, ?_, ?_⟩ <;> repeat' (first | exact trivial | exact rfl | exact Iff.rfl | apply And.intro)
    exact congrArg Int.ofNat ll
  rintro m _ ⟨i, p, hi, hm, hP, rfl⟩
  have lp := hP.len
  have lpi := i64s_len p
  by_cases hi' : i < l.length
  rotate_left
  · have ei : i = l.length := by omega
    subst ei
    repeat' ((conv => whnf); first | refine Rng.g ?_ | refine Ob.g ?_ | refine Ob.e ?_ | refine Ob.m ?_ | refine Ob.mk (Nat.le_of_ble_eq_true rfl) ?_ | refine JoinVC.on ?_ | refine Nils.mk (fun h => ?_) ?_ | refine Val.t ?_ | refine Val.d ?_ | refine Mm.mk ?_ | (refine Br.mk (fun h => ?_) (fun h => ?_) <;> first | (exfalso; omega; done) | (exfalso; simp at h; done) | skip))
    repeat refine Mm.mk ?_
    conv => whnf
    refine EndVC.mk _ rfl _ _ (.inr ⟨hA, p, prc_end hP, rfl, rfl⟩) ?_
    refine ⟨[some 2], rfl, rfl, ?_, ?_⟩ <;> repeat' (first | exact trivial | exact rfl | exact Iff.rfl | apply And.intro)
  have gi : rI (i64s p) (i : Int).toNat 0 = p.getD i 0 := by rw [Int.toNat_natCast]; exact i64s_get p i
  by_cases h0 : p.getD i 0 < 0
  · repeat' ((conv => whnf); first | rw [gi] | refine Rng.g ?_ | refine Ob.g ?_ | refine Ob.e ?_ | refine Ob.m ?_ | refine Ob.mk (Nat.le_of_ble_eq_true rfl) ?_ | refine JoinVC.on ?_ | refine Nils.mk (fun h => ?_) ?_ | refine Val.t ?_ | refine Val.d ?_ | refine Mm.mk ?_ | (refine Br.mk (fun h => ?_) (fun h => ?_) <;> first | (exfalso; omega; done) | (exfalso; simp at h; done) | skip))
    refine Back.mk (l.length - (i + 1)) _ (by omega) ⟨i + 1, p, by omega, rfl, prc_skip hP hi h0, rfl⟩ ?_
    refine ⟨[some 0, some 1, some 2, some 3], rfl, rfl, ?_, ?_⟩ <;> repeat' (first | exact trivial | exact rfl | exact Iff.rfl | apply And.intro)
  repeat' ((conv => whnf); first | rw [gi] | refine Rng.g ?_ | refine Ob.g ?_ | refine Ob.e ?_ | refine Ob.m ?_ | refine Ob.mk (Nat.le_of_ble_eq_true rfl) ?_ | refine JoinVC.on ?_ | refine Nils.mk (fun h => ?_) ?_ | refine Val.t ?_ | refine Val.d ?_ | refine Mm.mk ?_ | (refine Br.mk (fun h => ?_) (fun h => ?_) <;> first | (exfalso; omega; done) | (exfalso; simp at h; done) | skip))
  conv => whnf
  refine CallVC.mk [0] _ _ _ rfl rfl rfl (s53 F l (l.length : Int) (i : Int)) (fun r m' h' => ?_)
  obtain ⟨rfl, rfl⟩ := h'
  conv => whnf
  repeat' ((conv => whnf); first | refine Rng.g ?_ | refine Ob.g ?_ | refine Ob.e ?_ | refine Ob.m ?_ | refine Ob.mk (Nat.le_of_ble_eq_true rfl) ?_ | refine JoinVC.on ?_ | refine Nils.mk (fun h => ?_) ?_ | refine Val.t ?_ | refine Val.d ?_ | refine Mm.mk ?_ | (refine Br.mk (fun h => ?_) (fun h => ?_) <;> first | (exfalso; omega; done) | (exfalso; simp at h; done) | skip))
  have lpl := plsA_len F l
  have h8 := hA.few
  change RangeVC _ _ _ _ _
  refine RangeVC.mk e69 (isem_of_awp pMix [] Tryd.func69 (c := bodyOf Tryd.f69) rfl (by kernel_rfl) Tryd.ntmps69 (by kernel_rfl) ?_)
  repeat' ((conv => whnf); first | refine Rng.g ?_ | refine Ob.g ?_ | refine Ob.e ?_ | refine Ob.m ?_ | refine Ob.mk (Nat.le_of_ble_eq_true rfl) ?_ | refine JoinVC.on ?_ | refine Nils.mk (fun h => ?_) ?_ | refine Val.t ?_ | refine Val.d ?_ | refine Mm.mk ?_ | (refine Br.mk (fun h => ?_) (fun h => ?_) <;> first | (exfalso; omega; done) | (exfalso; simp at h; done) | skip))
  refine LoopVC.mk (fun n st => ∃ (k : Nat) (q : List Int), k ≤ F.length ∧ n = F.length - k ∧ PrcOK F l (CandL F l i (fcs F l i k)) q ∧ q.getD i 0 = p.getD i 0 ∧ st = ⟨8, envA 43 [(0, .x (.one (.yld 7))), (1, .x (.one (.ptr 5 0))), (2, .x (.one (.ptr 6 0))), (10, .x (.one (.lst true [.pt KPl] (plsA F l)))), (11, .int .i64 (F.length : Int)), (12, .int .i64 (k : Int))], [some (bAlb F l (l.length : Int)), some (.box 82 [.ptr 0 0]), some (rowPr q), some (.box 38 [.own 2]), some (.box 3 [.int .i64 (i : Int)]), some (.box 82 [.ptr 0 0]), some (.box 3 [.int .i64 (i : Int)]), some (.loop [42] (cAs rf33) (cBo rf33) (envA 83 [(6, .x (.one (.ptr 1 0))), (8, .x (.one (.ptr 3 0))), (9, .x (.one (.ptr 4 0))), (30, .int .i64 (l.length : Int)), (31, .int .i64 (i : Int))]) .ready)]⟩) _ _ ⟨0, p, Nat.zero_le _, rfl, prc_nil hP, rfl, rfl⟩ ?_ ?_
  · refine ⟨[some 0, some 1, some 2, some 3, some 4, some 5, some 6, some 7], rfl, rfl, ?_, ?_⟩ <;> repeat' (first | exact trivial | exact rfl | exact Iff.rfl | apply And.intro)
    exact congrArg Int.ofNat lpl
  rintro n _ ⟨k, q, hk, hn, hQ, hqi, rfl⟩
  by_cases hk' : k < F.length
  rotate_left
  · have ek : k = F.length := by omega
    subst ek
    repeat' ((conv => whnf); first | refine Rng.g ?_ | refine Ob.g ?_ | refine Ob.e ?_ | refine Ob.m ?_ | refine Ob.mk (Nat.le_of_ble_eq_true rfl) ?_ | refine JoinVC.on ?_ | refine Nils.mk (fun h => ?_) ?_ | refine Val.t ?_ | refine Val.d ?_ | refine Mm.mk ?_ | (refine Br.mk (fun h => ?_) (fun h => ?_) <;> first | (exfalso; omega; done) | (exfalso; simp at h; done) | skip))
    refine Back.mk (l.length - (i + 1)) _ (by omega) ⟨i + 1, q, by omega, rfl, prc_next hQ, rfl⟩ ?_
    refine ⟨[some 0, some 1, some 2, some 3], rfl, rfl, ?_, ?_⟩ <;> repeat' (first | exact trivial | exact rfl | exact Iff.rfl | apply And.intro)
  have gk : rA (plsA F l) (k : Int).toNat 0 = plA (F.getD k f0) l := by rw [Int.toNat_natCast]; exact plsA_at F l k hk'
  have hf := hA.fmts k hk'
  repeat' ((conv => whnf); first | rw [gk] | refine Rng.g ?_ | refine Ob.g ?_ | refine Ob.e ?_ | refine Ob.m ?_ | refine Ob.mk (Nat.le_of_ble_eq_true rfl) ?_ | refine JoinVC.on ?_ | refine Nils.mk (fun h => ?_) ?_ | refine Val.t ?_ | refine Val.d ?_ | refine Mm.mk ?_ | (refine Br.mk (fun h => ?_) (fun h => ?_) <;> first | (exfalso; omega; done) | (exfalso; simp at h; done) | skip))
  refine LoopVC.mk (fun n st => ∃ (j : Nat) (q : List Int), i < j ∧ j ≤ l.length + 1 ∧ n = l.length + 1 - j ∧ PrcOK F l (CandL F l i (fcs F l i k ++ fcj F l i k j)) q ∧ q.getD i 0 = p.getD i 0 ∧ st = ⟨8, envA 43 [(0, .x (.one (.yld 7))), (1, .x (.one (.ptr 5 0))), (2, .x (.one (.ptr 6 0))), (4, .int .i64 (k : Int)), (5, .x (plX (F.getD k f0) l)), (6, .int .i64 (j : Int)), (10, .x (.one (.lst true [.pt KPl] (plsA F l)))), (11, .int .i64 (F.length : Int)), (12, .int .i64 (k : Int))], [some (bAlb F l (l.length : Int)), some (.box 82 [.ptr 0 0]), some (rowPr q), some (.box 38 [.own 2]), some (.box 3 [.int .i64 (i : Int)]), some (.box 82 [.ptr 0 0]), some (.box 3 [.int .i64 (i : Int)]), some (.loop [42] (cAs rf33) (cBo rf33) (envA 83 [(6, .x (.one (.ptr 1 0))), (8, .x (.one (.ptr 3 0))), (9, .x (.one (.ptr 4 0))), (30, .int .i64 (l.length : Int)), (31, .int .i64 (i : Int))]) .ready)]⟩) _ _ ⟨i + 1, q, by omega, by omega, rfl, by rw [fcj_lo _ (Nat.le_refl _), List.append_nil]; exact hQ, hqi, rfl⟩ ?_ ?_
  · refine ⟨[some 0, some 1, some 2, some 3, some 4, some 5, some 6, some 7], rfl, rfl, ?_, ?_⟩ <;> repeat' (first | exact trivial | exact rfl | exact Iff.rfl | apply And.intro)
  clear hQ hqi q
  rintro n2 _ ⟨j, q, hij, hj, hn2, hQ, hqi, rfl⟩
  have c54 := s54g i j (by omega)
  by_cases hj' : j ≤ l.length
  rotate_left
  · have ej : j = l.length + 1 := by omega
    subst ej
    repeat' ((conv => whnf); first | refine Rng.g ?_ | refine Ob.g ?_ | refine Ob.e ?_ | refine Ob.m ?_ | refine Ob.mk (Nat.le_of_ble_eq_true rfl) ?_ | refine JoinVC.on ?_ | refine Nils.mk (fun h => ?_) ?_ | refine Val.t ?_ | refine Val.d ?_ | refine Mm.mk ?_ | (refine Br.mk (fun h => ?_) (fun h => ?_) <;> first | (exfalso; omega; done) | (exfalso; simp at h; done) | skip))
    refine Back.mk (F.length - (k + 1)) _ (by omega) ⟨k + 1, q, by omega, rfl, hQ, hqi, rfl⟩ ?_
    refine ⟨[some 0, some 1, some 2, some 3, some 4, some 5, some 6, some 7], rfl, rfl, ?_, ?_⟩ <;> repeat' (first | exact trivial | exact rfl | exact Iff.rfl | apply And.intro)
  have c47 := s47p (F.getD k f0) l (seqL i (j - i)) hf hA.sngs (fun x hx => by rw [seqL_len] at hx; rw [seqL_get _ _ _ hx]; omega) (by rw [seqL_len]; omega)
  repeat' ((conv => whnf); first | refine Rng.g ?_ | refine Ob.g ?_ | refine Ob.e ?_ | refine Ob.m ?_ | refine Ob.mk (Nat.le_of_ble_eq_true rfl) ?_ | refine JoinVC.on ?_ | refine Nils.mk (fun h => ?_) ?_ | refine Val.t ?_ | refine Val.d ?_ | refine Mm.mk ?_ | (refine Br.mk (fun h => ?_) (fun h => ?_) <;> first | (exfalso; omega; done) | (exfalso; simp at h; done) | skip))
  conv => whnf
  refine CallVC.mk [] _ _ _ rfl rfl rfl (c54) (fun r m' h' => ?_)
  obtain ⟨rfl, rfl⟩ := h'
  conv => whnf
  repeat' ((conv => whnf); first | refine Rng.g ?_ | refine Ob.g ?_ | refine Ob.e ?_ | refine Ob.m ?_ | refine Ob.mk (Nat.le_of_ble_eq_true rfl) ?_ | refine JoinVC.on ?_ | refine Nils.mk (fun h => ?_) ?_ | refine Val.t ?_ | refine Val.d ?_ | refine Mm.mk ?_ | (refine Br.mk (fun h => ?_) (fun h => ?_) <;> first | (exfalso; omega; done) | (exfalso; simp at h; done) | skip))
  conv => whnf
  refine CallVC.mk [] _ _ _ rfl rfl rfl (c47) (fun r m' h' => ?_)
  obtain ⟨rfl, rfl⟩ := h'
  conv => whnf
  repeat refine Mm.mk ?_
  try refine JoinVC.on ?_
  refine Br.mk (fun hL => ?_) (fun hL => ?_)
  rotate_left
  · have hnf : ¬ faceP F l k i j := fun h => hL h.lay
    rw [fcj_end hA hij hnf hj] at hQ
    repeat' ((conv => whnf); first | refine Rng.g ?_ | refine Ob.g ?_ | refine Ob.e ?_ | refine Ob.m ?_ | refine Ob.mk (Nat.le_of_ble_eq_true rfl) ?_ | refine JoinVC.on ?_ | refine Nils.mk (fun h => ?_) ?_ | refine Val.t ?_ | refine Val.d ?_ | refine Mm.mk ?_ | (refine Br.mk (fun h => ?_) (fun h => ?_) <;> first | (exfalso; omega; done) | (exfalso; simp at h; done) | skip))
    refine Back.mk (F.length - (k + 1)) _ (by omega) ⟨k + 1, q, by omega, rfl, hQ, hqi, rfl⟩ ?_
    refine ⟨[some 0, some 1, some 2, some 3, some 4, some 5, some 6, some 7], rfl, rfl, ?_, ?_⟩ <;> repeat' (first | exact trivial | exact rfl | exact Iff.rfl | apply And.intro)
  have hface : faceP F l k i j := ⟨hk', hij, hj', hL⟩
  have hLm : ∀ x, x ∈ fcs F l i k ++ fcj F l i k j → faceP F l x.1 i x.2 := fun x hx => by
    rcases List.mem_append.1 hx with h | h
    · exact (mem_fcs.1 h).2
    · have h3 := mem_fcj.1 h
      rw [h3.1]; exact h3.2.2
  obtain ⟨hQ', hqi'⟩ := stepP_ok hA hi' hQ hLm (by omega) (q := (k, j)) hface
  have hbd := hQ.bd hA hLm (n := i) (by omega)
  have hco := hf.cost
  have lq := hQ.len
  have lqi := i64s_len q
  have gc : rI (rA (plsA F l) (k : Int).toNat 0) 0 (0 + 0 + (0 + 1 + 1 + 1 + 1 + 1 + 1 + 1)) = (F.getD k f0).cost := by rw [gk]; rfl
  have ga : rI (i64s q) (i : Int).toNat 0 = q.getD i 0 := by rw [Int.toNat_natCast]; exact i64s_get q i
  have gj : rI (i64s q) ((i : Int) + ((j : Int) - i)).toNat 0 = q.getD j 0 := by rw [show ((i : Int) + ((j : Int) - i)).toNat = j by omega]; exact i64s_get q j
  have et : ((i : Int) + ((j : Int) - i)).toNat = j := by omega
  have upd : updRow (i64s q) ((i : Int) + ((j : Int) - i)).toNat 0 [Cell.int (rI (i64s q) (i : Int).toNat 0 + rI (rA (plsA F l) (k : Int).toNat 0) 0 (0 + 0 + (0 + 1 + 1 + 1 + 1 + 1 + 1 + 1)))] = i64s (q.set j (q.getD i 0 + (F.getD k f0).cost)) := by
    rw [gc, ga, et]
    exact i64s_upd' q j _ (by omega)
  have fin : PrcOK F l (CandL F l i (fcs F l i k ++ fcj F l i k (j + 1))) (stepP F i q (k, j)) := by rw [fcj_yes hface, ← List.append_assoc]; exact hQ'
  repeat' ((conv => whnf); first | refine Rng.g ?_ | refine Ob.g ?_ | refine Ob.e ?_ | refine Ob.m ?_ | refine Ob.mk (Nat.le_of_ble_eq_true rfl) ?_ | refine JoinVC.on ?_ | refine Nils.mk (fun h => ?_) ?_ | refine Val.t ?_ | refine Val.d ?_ | refine Mm.mk ?_ | (refine Br.mk (fun h => ?_) (fun h => ?_) <;> first | (exfalso; omega; done) | (exfalso; simp at h; done) | skip))
  change YieldVC _ _ _ _ _
  refine YieldVC.mk (rsem_of_awp pMix [] rfl (by kernel_rfl) ?_)
  repeat' ((conv => whnf); first | refine Rng.g ?_ | refine Ob.g ?_ | refine Ob.e ?_ | refine Ob.m ?_ | refine Ob.mk (Nat.le_of_ble_eq_true rfl) ?_ | refine JoinVC.on ?_ | refine Nils.mk (fun h => ?_) ?_ | refine Val.t ?_ | refine Val.d ?_ | refine Mm.mk ?_ | (refine Br.mk (fun h => ?_) (fun h => ?_) <;> first | (exfalso; omega; done) | (exfalso; simp at h; done) | skip))
  · have e : stepP F i q (k, j) = q.set j (q.getD i 0 + (F.getD k f0).cost) := if_pos (.inl (by show q.getD j 0 < 0; omega))
    refine Back.mk (l.length + 1 - (j + 1)) _ (by omega) ⟨j + 1, _, by omega, by omega, rfl, fin, by rw [hqi']; exact hqi, rfl⟩ ?_
    rw [e]
    refine ⟨[some 0, some 1, some 2, some 3, some 4, some 5, some 6, some 7], rfl, rfl, ?_, ?_⟩ <;> repeat' (first | exact trivial | exact rfl | exact Iff.rfl | apply And.intro)
    exact upd
  · have e : stepP F i q (k, j) = q.set j (q.getD i 0 + (F.getD k f0).cost) := if_pos (.inr (by show q.getD i 0 + (F.getD k f0).cost < q.getD j 0; omega))
    refine Back.mk (l.length + 1 - (j + 1)) _ (by omega) ⟨j + 1, _, by omega, by omega, rfl, fin, by rw [hqi']; exact hqi, rfl⟩ ?_
    rw [e]
    refine ⟨[some 0, some 1, some 2, some 3, some 4, some 5, some 6, some 7], rfl, rfl, ?_, ?_⟩ <;> repeat' (first | exact trivial | exact rfl | exact Iff.rfl | apply And.intro)
    exact upd
  · have e : stepP F i q (k, j) = q := if_neg (by show ¬ (q.getD j 0 < 0 ∨ q.getD i 0 + (F.getD k f0).cost < q.getD j 0); omega)
    refine Back.mk (l.length + 1 - (j + 1)) _ (by omega) ⟨j + 1, _, by omega, by omega, rfl, fin, by rw [hqi']; exact hqi, rfl⟩ ?_
    rw [e]
    refine ⟨[some 0, some 1, some 2, some 3, some 4, some 5, some 6, some 7], rfl, rfl, ?_, ?_⟩ <;> repeat' (first | exact trivial | exact rfl | exact Iff.rfl | apply And.intro)
end Go.Sx

namespace Go.Sx
open Go Go.Proofs
set_option maxRecDepth 10000
set_option maxHeartbeats 16000000
/-! ### The worth of a plan -/
structure Wth where
  c : Int
  n : Int
@[reducible] def Wth.x (w : Wth) : XV := .agg [.int .i64 w.c, .int .i64 w.n]
/-- What is known of the variable 'none'. -/
@[reducible] def gNone : Blk := .gbox 1 [.int .i64, .int .i64] [.int (-1), .int 0]
def Wth.none (w : Wth) : Prop := w.c = -1 ∧ w.n = 0
instance (w : Wth) : Decidable w.none := by unfold Wth.none; exact inferInstance
/-- Whether a worth is better than another one. -/
def lessW (w v : Wth) : Prop := ((v.none ∨ w.none) ∧ ¬ w.none) ∨ (¬ (v.none ∨ w.none) ∧ (w.c < v.c ∨ w.c = v.c ∧ w.n < v.n))
instance (w v : Wth) : Decidable (lessW w v) := by unfold lessW; exact inferInstance
theorem s64w (w v : Wth) : HSpec Tryd.prog 64 [w.x, v.x] [gNone] (fun r m' => r = xP (lessW w v) ∧ m' = [some gNone]) := by
  have e0 : rI [[Cell.int (-1), Cell.int 0]] 0 0 = -1 := rfl
  have e1 : rI [[Cell.int (-1), Cell.int 0]] 0 (0 + 1) = 0 := rfl
  have hw : w.none ↔ (w.c = -1 ∧ w.n = 0) := Iff.rfl
  have hv : v.none ↔ (v.c = -1 ∧ v.n = 0) := Iff.rfl
  unfold lessW
  refine spec_of pMix (O := []) Tryd.func64 (c := bodyOf Tryd.f64) rfl (by kernel_rfl) (by kernel_rfl) Tryd.ntmps64 (res := [.tmp 4]) (by kernel_rfl) ?_
  repeat' ((conv => whnf); first | rw [e0] | rw [e1] | refine Rng.g ?_ | refine Ob.g ?_ | refine Ob.e ?_ | refine Ob.m ?_ | refine Ob.mk (Nat.le_of_ble_eq_true rfl) ?_ | refine JoinVC.on ?_ | refine Nils.mk (fun h => ?_) ?_ | refine Val.t ?_ | refine Val.d ?_ | refine Mm.mk ?_ | (refine Br.mk (fun h => ?_) (fun h => ?_) <;> first | (exfalso; omega; done) | (exfalso; simp at h; done) | skip))
  all_goals
    conv => whnf
    refine EndVC.mk _ rfl _ _ ⟨rfl, rfl⟩ ?_
    refine ⟨[some 0], rfl, rfl, ?_, ?_⟩ <;> repeat' (first | exact trivial | exact rfl | exact Iff.rfl | apply And.intro)
  · have a : v.c = -1 ∧ v.n = 0 ∧ True := by assumption
    simp only [and_true] at a
    show ¬ (w.c = -1 ∧ w.n = 0 ∧ True) ↔ _
    simp only [Wth.none, and_true]
    omega
  · have a : w.c = -1 ∧ w.n = 0 ∧ True := by assumption
    simp only [and_true] at a
    show ¬ (w.c = -1 ∧ w.n = 0 ∧ True) ↔ _
    simp only [Wth.none, and_true]
    omega
  all_goals
    have a : ¬ (v.c = -1 ∧ v.n = 0 ∧ True) := by assumption
    have b : ¬ (w.c = -1 ∧ w.n = 0 ∧ True) := by assumption
    simp only [and_true] at a b
  · show (_ ∨ _)
    simp only [Wth.none]
    omega
  · show (w.n < v.n) ↔ _
    simp only [Wth.none]
    omega
  · show ¬ (_ ∨ _)
    simp only [Wth.none]
    omega
/-! ### Arrays of pairs -/
def pcs (W : List Wth) : List SV := W.flatMap fun w => [.int .i64 w.c, .int .i64 w.n]
@[reducible] def bWs (W : List Wth) : Blk := .box 87 (pcs W)
@[reducible] def bFs (W : List Wth) : Blk := .box 88 (pcs W)
def w0 : Wth := ⟨0, 0⟩
theorem pcs_set : ∀ (W : List Wth) (k : Nat) (a b : Int), ((pcs W).set (k * 2) (SV.int .i64 a)).set (k * 2 + 1) (SV.int .i64 b) = pcs (W.set k ⟨a, b⟩)
  | [], k, a, b => by simp [pcs]
  | w :: W, 0, a, b => by simp [pcs]
  | w :: W, k + 1, a, b => by
    have h := pcs_set W k a b
    have e1 : (k + 1) * 2 = k * 2 + 1 + 1 := by omega
    rw [e1]
    simp only [pcs, List.flatMap_cons, List.cons_append, List.nil_append, List.set_cons_succ] at h ⊢
    rw [h]
theorem pcs_at : ∀ (W : List Wth) (k : Nat), k < W.length → ((pcs W).drop (k * 2)).take 2 = [SV.int .i64 (W.getD k w0).c, SV.int .i64 (W.getD k w0).n]
  | [], k, h => absurd h (Nat.not_lt_zero k)
  | w :: W, 0, _ => by simp [pcs]
  | w :: W, k + 1, h => by
    have h1 := pcs_at W k (by simpa using h)
    have e1 : (k + 1) * 2 = k * 2 + 1 + 1 := by omega
    rw [e1]
    simpa [pcs] using h1
theorem pcs_len (W : List Wth) : (pcs W).length = W.length * 2 := by
  induction W with
  | nil => rfl
  | cons w W ih => simp only [pcs, List.flatMap_cons, List.length_append, List.length_cons, List.length_nil] at ih ⊢; omega
/-- A pair is written. -/
theorem pw_set (W : List Wth) (k : Nat) (a b : Int) (K : List SV → Prop) : setsL (pcs W) (0 + k * (0 + 1 + 1)) (xvCells (.agg [.int .i64 a, .int .i64 b])) K = K (pcs (W.set k ⟨a, b⟩)) := by
  rw [show xvCells (.agg [.int .i64 a, .int .i64 b]) = [SV.int .i64 a, SV.int .i64 b] from rfl, setsL_eq]
  rw [← pcs_set]
  simp [setAll]
theorem pw_ble (W : List Wth) (k n : Nat) (hn : n ≤ 2) (hk : k < W.length) : (0 + k * (0 + 1 + 1) + n).ble (lenL (pcs W)) = true := by
  rw [lenL_eq, pcs_len]
  exact Nat.ble_eq_true_of_le (by omega)
theorem pw_get (W : List Wth) (k : Nat) (hk : k < W.length) : takeL (dropL (pcs W) (0 + k * (0 + 1 + 1))) 2 = [SV.int .i64 (W.getD k w0).c, SV.int .i64 (W.getD k w0).n] := by
  rw [takeL_eq, dropL_eq, ← pcs_at W k hk]
  simp
theorem pcs_le (k : Nat) (mm : List (Option Blk)) (r : List (Option Nat)) : ∀ W : List Wth, leSs k mm r (pcs W) (pcs W)
  | [] => trivial
  | _ :: W => ⟨⟨rfl, rfl⟩, ⟨rfl, rfl⟩, pcs_le k mm r W⟩
theorem pcs_all (W : List Wth) (n : Nat) (hn : n = W.length * 2) : takeL (dropL (pcs W) (0 + 0)) n = pcs W := by
  rw [takeL_eq, dropL_eq, show (0 + 0 : Nat) = 0 from rfl, List.drop_zero]
  exact List.take_of_length_le (by rw [pcs_len]; omega)
theorem setAll_full : ∀ (vs l : List SV) (n : Nat), l.length = n + vs.length → setAll l n vs = l.take n ++ vs
  | [], l, n, h => by
    simp only [List.length_nil, Nat.add_zero] at h
    rw [List.append_nil, List.take_of_length_le (by omega)]
    rfl
  | v :: vs, l, n, h => by
    simp only [List.length_cons] at h
    show setAll (l.set n v) (n + 1) vs = _
    rw [setAll_full vs (l.set n v) (n + 1) (by rw [List.length_set]; omega)]
    rw [List.take_succ_eq_append_getElem (by rw [List.length_set]; omega), List.take_set_of_le (Nat.le_refl n)]
    simp
/-- A whole array is written. -/
theorem sets_full (l vs : List SV) (K : List SV → Prop) (h : l.length = vs.length) : setsL l (0 + 0) vs K = K vs := by
  rw [setsL_eq, show (0 + 0 : Nat) = 0 from rfl, setAll_full vs l 0 (by omega)]
  rfl
theorem sz87 : Tryd.t87.size = 50 := by kernel_rfl
theorem sz88 : Tryd.t88.size = 48 := by kernel_rfl
theorem sz86 : Tryd.t86.size = 2 := by kernel_rfl
theorem sz69 : Tryd.t69.size = 2 := by kernel_rfl
noncomputable def rf46 : Code := cB (cS (cS (cB (cF (cS (cL (cB (cS (cF (cS (cS (cS (bodyOf Tryd.f46)))))))))))))
/-! ### What the arrays hold -/
def wOf : EntW → Wth
  | some (w, _) => ⟨w.1, w.2⟩
  | none => ⟨-1, 0⟩
def fOf (i : Nat) : EntW → Wth
  | some (_, q) => ⟨(q.1 : Int), (q.2 : Int) - (i : Int)⟩
  | none => ⟨0, 0⟩
/-- The entries from a track on are known. -/
structure ArrOK (F : List Fmt) (l : List Sng) (i : Nat) (W Fa : List Wth) : Prop where
  lw : W.length = 25
  lf : Fa.length = 24
  w : ∀ t, i ≤ t → t ≤ l.length → W.getD t w0 = wOf (bst F l t)
  f : ∀ t e, i ≤ t → t < l.length → bst F l t = some e → Fa.getD t w0 = fOf t (some e)
theorem bst_bd {F : List Fmt} {l : List Sng} (hA : AlbOK F l) {i : Nat} (hi : i ≤ l.length) {w : Int × Int} {q : Nat × Nat} (h : bst F l i = some (w, q)) : (0 ≤ w.1 ∧ w.1 ≤ 1048576 * ((l.length : Int) - i)) ∧ 0 ≤ w.2 ∧ w.2 ≤ (l.length : Int) - i := by
  obtain ⟨h1, h2, h3⟩ := planB_ok (F := F) (l := l) l.length i w q (by omega) hi h
  have key : ∀ (pl : List (Nat × Nat)) (i : Nat), i ≤ l.length → PlanOK F l i pl → (0 ≤ costP F pl ∧ costP F pl ≤ 1048576 * ((l.length : Int) - i)) ∧ (pl.length : Int) ≤ (l.length : Int) - i := by
    intro pl
    induction pl with
    | nil =>
      intro i hi h
      have e : i = l.length := h
      subst e
      simp [costP]
    | cons p t ih =>
      obtain ⟨k, m⟩ := p
      intro i hi h
      have h4 := h.1.lt
      have h5 := h.1.le
      obtain ⟨g1, g2⟩ := ih (i + m) h5 h.2
      have g3 := (hA.fmts k h.1.fmt).cost
      simp only [costP, List.length_cons]
      omega
  obtain ⟨g1, g2⟩ := key _ i hi h1
  rw [h2] at g1
  rw [h3] at g2
  refine ⟨g1, ?_, g2⟩
  rw [← h3]
  omega
/-- .. and the one of a track, of these faces. -/
structure InOK (F : List Fmt) (l : List Sng) (x : Nat) (acc : EntW) (W Fa : List Wth) : Prop where
  lw : W.length = 25
  lf : Fa.length = 24
  w : ∀ t, x < t → t ≤ l.length → W.getD t w0 = wOf (bst F l t)
  wx : W.getD x w0 = wOf acc
  f : ∀ t e, x < t → t < l.length → bst F l t = some e → Fa.getD t w0 = fOf t (some e)
  fx : ∀ e, acc = some e → Fa.getD x w0 = fOf x (some e)
theorem ArrOK.start {F : List Fmt} {l : List Sng} {x : Nat} {W Fa : List Wth} (h : ArrOK F l (x + 1) W Fa) (hx : x < 25) : InOK F l x none (W.set x ⟨-1, 0⟩) Fa := by
  have lw := h.lw
  refine ⟨by rw [List.length_set]; exact h.lw, h.lf, fun t h1 h2 => ?_, ?_, fun t e h1 h2 => h.f t e h1 h2, fun e he => by cases he⟩
  · rw [gset _ _ _ _ _ (by omega), if_neg (by omega)]
    exact h.w t h1 h2
  · rw [gset _ _ _ _ _ (by omega), if_pos rfl]
    rfl
theorem InOK.fin {F : List Fmt} {l : List Sng} {x : Nat} {W Fa : List Wth} (hx : x < l.length) (h : InOK F l x ((facesL F l x).foldl (stepE F (bst F l)) none) W Fa) : ArrOK F l x W Fa := by
  rw [← bst_at hx] at h
  refine ⟨h.lw, h.lf, fun t h1 h2 => ?_, fun t e h1 h2 he => ?_⟩
  · by_cases e : t = x
    · subst e; exact h.wx
    · exact h.w t (by omega) h2
  · by_cases ex : t = x
    · subst ex; exact h.fx e he
    · exact h.f t e (by omega) h2 he
/-- A face that does not help. -/
theorem InOK.skip {F : List Fmt} {l : List Sng} {x : Nat} {acc : EntW} {W Fa : List Wth} (h : InOK F l x acc W Fa) {p : Nat × Nat} (he : stepE F (bst F l) acc p = acc) : InOK F l x (stepE F (bst F l) acc p) W Fa := by rw [he]; exact h
/-- A face that is better. -/
theorem InOK.put {F : List Fmt} {l : List Sng} {x : Nat} {acc : EntW} {W Fa : List Wth} (h : InOK F l x acc W Fa) (hx : x < 24) {p : Nat × Nat} {e : (Int × Int) × (Nat × Nat)} (he : stepE F (bst F l) acc p = some e) : InOK F l x (stepE F (bst F l) acc p) (W.set x (wOf (some e))) (Fa.set x (fOf x (some e))) := by
  have lw := h.lw
  have lf := h.lf
  rw [he]
  refine ⟨by rw [List.length_set]; exact h.lw, by rw [List.length_set]; exact h.lf, fun t h1 h2 => ?_, ?_, fun t e' h1 h2 he' => ?_, fun e' he' => ?_⟩
  · rw [gset _ _ _ _ _ (by omega), if_neg (by omega)]
    exact h.w t h1 h2
  · rw [gset _ _ _ _ _ (by omega), if_pos rfl]
  · rw [gset _ _ _ _ _ (by omega), if_neg (by omega)]
    exact h.f t e' h1 h2 he'
  · cases he'
    rw [gset _ _ _ _ _ (by omega), if_pos rfl]
/-- One face more. -/
theorem step_h2 {F : List Fmt} {l : List Sng} (hA : AlbOK F l) {x : Nat} {acc : EntW} {W Fa : List Wth} (hx : x < 24) (hQ : InOK F l x acc W Fa) {L : List (Nat × Nat)} (hacc : L.foldl (stepE F (bst F l)) none = acc) (hL : ∀ p, p ∈ L → faceP F l p.1 x p.2) {k j : Nat} (hf : faceP F l k x j) {d : Int} (hd : d = (j : Int) - x) :
    (¬ (W.getD j w0).none → (0 ≤ (W.getD j w0).c ∧ (W.getD j w0).c ≤ 100000000) ∧ 0 ≤ (W.getD j w0).n ∧ (W.getD j w0).n ≤ 100) ∧ ((W.getD x w0).c ≤ 100000000 ∧ (W.getD x w0).n ≤ 100 ∧ -1 ≤ (W.getD x w0).c ∧ 0 ≤ (W.getD x w0).n) ∧ ∃ W2 Fa2,
    (((W.getD j w0).none ∧ W2 = W ∧ Fa2 = Fa) ∨ (¬ (W.getD j w0).none ∧ ¬ lessW ⟨(W.getD j w0).c + (F.getD k f0).cost, (W.getD j w0).n + 1⟩ (W.getD x w0) ∧ W2 = W ∧ Fa2 = Fa) ∨ (¬ (W.getD j w0).none ∧ lessW ⟨(W.getD j w0).c + (F.getD k f0).cost, (W.getD j w0).n + 1⟩ (W.getD x w0) ∧ W2 = W.set x ⟨(W.getD j w0).c + (F.getD k f0).cost, (W.getD j w0).n + 1⟩ ∧ Fa2 = Fa.set x ⟨(k : Int), d⟩)) ∧ InOK F l x (stepE F (bst F l) acc (k, j)) W2 Fa2 := by
  have hlt := hf.lt
  have hle := hf.le
  have h24 := hA.sngs.len
  have hco := (hA.fmts k hf.fmt).cost
  have hj := hQ.w j hlt hle
  have hxw := hQ.wx
  have hcur : (W.getD x w0).c ≤ 100000000 ∧ (W.getD x w0).n ≤ 100 ∧ -1 ≤ (W.getD x w0).c ∧ 0 ≤ (W.getD x w0).n := by
    rw [hxw]
    cases ha : acc with
    | none => simp [wOf]
    | some e =>
      obtain ⟨v, q⟩ := e
      obtain ⟨h1, w, f, h2, h3⟩ := (foldE_ok F (bst F l) L).from_ v q (by rw [hacc]; exact ha)
      have h4 := hL q h1
      obtain ⟨h5, h6, h7⟩ := bst_bd hA h4.le h2
      have h8 := (hA.fmts q.1 h4.fmt).cost
      have h9 := h4.lt
      have h10 := h4.le
      rw [h3]
      simp only [wOf]
      omega
  refine ⟨?_, hcur, ?_⟩
  · rw [hj]
    cases hb : bst F l j with
    | none => exact fun h => absurd ⟨rfl, rfl⟩ h
    | some e =>
      obtain ⟨w, f⟩ := e
      obtain ⟨h5, h6, h7⟩ := bst_bd hA hle hb
      intro _
      simp only [wOf]
      omega
  · rw [hj, hxw]
    cases hb : bst F l j with
    | none =>
      have hst : stepE F (bst F l) acc (k, j) = acc := by unfold stepE; rw [hb]
      exact ⟨W, Fa, .inl ⟨⟨rfl, rfl⟩, rfl, rfl⟩, hQ.skip hst⟩
    | some e =>
      obtain ⟨w, f⟩ := e
      obtain ⟨⟨h5, h5'⟩, h6, h7⟩ := bst_bd hA hle hb
      have hnn : ¬ (wOf (some (w, f))).none := fun h => by have := h.1; simp only [wOf] at this; omega
      cases ha : acc with
      | none =>
        have hst : stepE F (bst F l) acc (k, j) = some ((w.1 + (F.getD k f0).cost, w.2 + 1), (k, j)) := by unfold stepE; rw [hb, ha]
        refine ⟨_, _, .inr (.inr ⟨hnn, ?_, rfl, rfl⟩), ?_⟩
        · refine .inl ⟨.inl ⟨rfl, rfl⟩, fun h => ?_⟩
          have := h.1
          simp only [wOf] at this
          omega
        · have := hQ.put hx hst
          rw [hd]
          rw [← ha]
          exact this
      | some e2 =>
        obtain ⟨v, q⟩ := e2
        have hvn : ¬ (wOf (some (v, q))).none := fun h => by
          obtain ⟨h1, w', f', h2, h3⟩ := (foldE_ok F (bst F l) L).from_ v q (by rw [hacc]; exact ha)
          have h4 := hL q h1
          obtain ⟨g5, _, _⟩ := bst_bd hA h4.le h2
          have h8 := (hA.fmts q.1 h4.fmt).cost
          have := h.1
          rw [h3] at this
          simp only [wOf] at this
          omega
        have hnew : ¬ (⟨w.1 + (F.getD k f0).cost, w.2 + 1⟩ : Wth).none := fun h => by have := h.1; simp only at this; omega
        by_cases hlt2 : ltW (w.1 + (F.getD k f0).cost, w.2 + 1) v
        · have hst : stepE F (bst F l) acc (k, j) = some ((w.1 + (F.getD k f0).cost, w.2 + 1), (k, j)) := by
            unfold stepE
            rw [hb, ha]
            exact if_pos hlt2
          refine ⟨_, _, .inr (.inr ⟨hnn, .inr ⟨fun h => h.elim hvn hnew, hlt2⟩, rfl, rfl⟩), ?_⟩
          have := hQ.put hx hst
          rw [hd]
          rw [← ha]
          exact this
        · have hst : stepE F (bst F l) acc (k, j) = acc := by
            unfold stepE
            rw [hb, ha]
            exact if_neg hlt2
          refine ⟨W, Fa, .inr (.inl ⟨hnn, fun h => ?_, rfl, rfl⟩), ?_⟩
          · rcases h with h | h
            · exact h.1.elim hvn hnew
            · exact hlt2 h.2
          · rw [← ha]
            exact hQ.skip hst
end Go.Sx

namespace Go.Sx
open Go Go.RowKit
/-! ### Rounds and iterators, proved by themselves -/
theorem Fr.le {w w' : World} {R R' : Rp} {M m' m2 : List (Option Blk)} (hf : Fr w R M w' R' m') (h : Le ⟨M.length, [], m'⟩ ⟨M.length, [], m2⟩) : ∃ R2, Fr w R M w' R2 m2 := by
  obtain ⟨R2, hC⟩ := Le_ok h (show Conc w R M ⟨M.length, [], m'⟩ R' { tmps := #[], defers := [] } w' from ⟨hf, rfl, fun i v hv => by simp at hv, Marks.nil .., rfl⟩)
  exact ⟨R2, hC.fr⟩
theorem RSem.le {P : Program} {id : Nat} {args : List XV} {M : List (Option Blk)} {Q Q' : Bool → List (Option Blk) → Prop} (h : RSem P id args M Q) (hq : ∀ b m', Q b m' → ∃ m2, Q' b m2 ∧ Le ⟨M.length, [], m'⟩ ⟨M.length, [], m2⟩) : RSem P id args M Q' := by
  intro w R vs l h1 h2 h3 h4
  obtain ⟨r, e1, e2, e3⟩ := h w R vs l h1 h2 h3 h4
  refine ⟨r, e1, e2, e3.mono ?_⟩
  rintro e w' ⟨b, m', R', rfl, hQ, hf⟩
  obtain ⟨m2, q2, hl⟩ := hq b m' hQ
  obtain ⟨R2, hf2⟩ := hf.le hl
  exact ⟨b, m2, R2, rfl, q2, hf2⟩
theorem ISem.le {P : Program} {f : FuncId} {args : List XV} {M : List (Option Blk)} {Q Q' : List (Option Blk) → Prop} (h : ISem P f args M Q) (hq : ∀ m', Q m' → ∃ m2, Q' m2 ∧ Le ⟨M.length, [], m'⟩ ⟨M.length, [], m2⟩) : ISem P f args M Q' := by
  intro w R vs h1 h2
  refine (h w R vs h1 h2).mono ?_
  rintro e w' ⟨v, m', R', rfl, hQ, hf⟩
  obtain ⟨m2, q2, hl⟩ := hq m' hQ
  obtain ⟨R2, hf2⟩ := hf.le hl
  exact ⟨v, m2, R2, rfl, q2, hf2⟩
theorem RSem.mono {P : Program} {id : Nat} {args : List XV} {M : List (Option Blk)} {Q Q' : Bool → List (Option Blk) → Prop} (h : RSem P id args M Q) (hq : ∀ b m', Q b m' → Q' b m') : RSem P id args M Q' := by
  intro w R vs l h1 h2 h3 h4
  obtain ⟨r, e1, e2, e3⟩ := h w R vs l h1 h2 h3 h4
  refine ⟨r, e1, e2, e3.mono ?_⟩
  rintro e w' ⟨b, m', R', rfl, hQ, hf⟩
  exact ⟨b, m', R', rfl, hq _ _ hQ, hf⟩
theorem ISem.mono {P : Program} {f : FuncId} {args : List XV} {M : List (Option Blk)} {Q Q' : List (Option Blk) → Prop} (h : ISem P f args M Q) (hq : ∀ m', Q m' → Q' m') : ISem P f args M Q' := by
  intro w R vs h1 h2
  refine (h w R vs h1 h2).mono ?_
  rintro e w' ⟨v, m', R', rfl, hQ, hf⟩
  exact ⟨v, m', R', rfl, hq _ hQ, hf⟩
theorem YieldVC.of {P : Program} {id : Nat} {args : List XV} {s : St} {K : AV → St → Prop} {m2 : List (Option Blk)} (h : RSem P id args s.mem (fun b m' => b = true ∧ m' = m2)) (k : K (.x (.one .tt)) ⟨s.k, s.env, m2⟩) : YieldVC P id args s K :=
  .mk (h.mono fun b m' hh => by obtain ⟨rfl, rfl⟩ := hh; exact k)
theorem RangeVC.of {P : Program} {f : FuncId} {args : List XV} {m : List (Option Blk)} {Q Q' : List (Option Blk) → Prop} (he : EntersF P f) (h : ISem P f args m Q') (k : ∀ m', Q' m' → Q m') : RangeVC P f args m Q := .mk he (h.mono k)
end Go.Sx

namespace Go.Sx
open Go Go.Proofs
set_option maxRecDepth 10000
set_option maxHeartbeats 16000000
@[reducible] noncomputable def MB (F : List Fmt) (l : List Sng) (x : Nat) (Z : List Int) (W' Fa' : List Wth) : List (Option Blk) := [some gNone, some (bAlb F l (l.length : Int)), some (.box 82 [.ptr 1 0]), some (bWs (List.replicate 25 w0)), some (bFs (List.replicate 24 w0)), some (bWs W'), some (bFs Fa'), some (.box 3 [.int .i64 (x : Int)]), some (.box 82 [.ptr 1 0]), some (.box 3 [.int .i64 (x : Int)]), some (.loop [25] (cAs rf46) (cBo rf46) (envA 68 [(1, .x (.one (.ptr 2 0))), (2, .x (.one (.ptr 3 0))), (3, .x (.one (.ptr 4 0))), (4, .x (.one (.ptr 5 0))), (5, .x (.one (.ptr 6 0))), (6, .x (.one (.ptr 7 0)))]) .ready), some (rowOd Z)]
@[reducible] def fcX (k : Nat) (d : Int) : XV := .agg [.int .i64 (k : Int), .int .i64 d]
theorem rnd46 (F : List Fmt) (l : List Sng) (hA : AlbOK F l) (x : Nat) (Z : List Int) (W Fa : List Wth) (lW : W.length = 25) (lF : Fa.length = 24) (hx : x < 24) (k : Nat) (hk : k < F.length) (d : Int) (j : Nat) (hj : j < 25) (ejt : ((x : Int) + d).toNat = j) (hd : 0 ≤ (x : Int) + d) (rest cur : Wth) (hrest : W.getD j w0 = rest) (hcur : W.getD x w0 = cur) (hr : ¬ rest.none → (0 ≤ rest.c ∧ rest.c ≤ 100000000) ∧ 0 ≤ rest.n ∧ rest.n ≤ 100) (_ : cur.c ≤ 100000000 ∧ cur.n ≤ 100 ∧ -1 ≤ cur.c ∧ 0 ≤ cur.n) (W2 Fa2 : List Wth)
    (h2 : (rest.none ∧ W2 = W ∧ Fa2 = Fa) ∨ (¬ rest.none ∧ ¬ lessW ⟨rest.c + (F.getD k f0).cost, rest.n + 1⟩ cur ∧ W2 = W ∧ Fa2 = Fa) ∨ (¬ rest.none ∧ lessW ⟨rest.c + (F.getD k f0).cost, rest.n + 1⟩ cur ∧ W2 = W.set x ⟨rest.c + (F.getD k f0).cost, rest.n + 1⟩ ∧ Fa2 = Fa.set x ⟨(k : Int), d⟩)) :
    RSem Tryd.prog 10 [fcX k d] (MB F l x Z W Fa) (fun bb m' => bb = true ∧ m' = MB F l x Z W2 Fa2) := by
  have hf := hA.fmts k hk
  have hco := hf.cost
  have h8 := hA.few
  have lpl := plsA_len F l
  have ext : (x : Int).toNat = x := Int.toNat_natCast x
  have gk : rA (plsA F l) (k : Int).toNat 0 = plA (F.getD k f0) l := by rw [Int.toNat_natCast]; exact plsA_at F l k hk
  have gc : rI (plA (F.getD k f0) l) 0 (0 + 0 + (0 + 1 + 1 + 1 + 1 + 1 + 1 + 1)) = (F.getD k f0).cost := rfl
  have e0 : rI [[Cell.int (-1), Cell.int 0]] 0 0 = -1 := rfl
  have e1 : rI [[Cell.int (-1), Cell.int 0]] 0 (0 + 1) = 0 := rfl
  have b1 := pw_ble W j Tryd.t86.size (by rw [sz86]; exact Nat.le_refl 2) (by omega)
  have g1 : takeL (dropL (pcs W) (0 + j * (0 + 1 + 1))) Tryd.t86.size = [SV.int .i64 (W.getD j w0).c, SV.int .i64 (W.getD j w0).n] := by rw [sz86]; exact pw_get W j (by omega)
  have b2 := pw_ble W x Tryd.t86.size (by rw [sz86]; exact Nat.le_refl 2) (by omega)
  have g2 : takeL (dropL (pcs W) (0 + x * (0 + 1 + 1))) Tryd.t86.size = [SV.int .i64 (W.getD x w0).c, SV.int .i64 (W.getD x w0).n] := by rw [sz86]; exact pw_get W x (by omega)
  have b3 := pw_ble Fa x Tryd.t69.size (by rw [sz69]; exact Nat.le_refl 2) (by omega)
  rw [hrest] at g1
  rw [hcur] at g2
  refine RSem.le (rsem_of_awp (Q := fun bb m' => ∃ m2, (bb = true ∧ m2 = MB F l x Z W2 Fa2) ∧ Le ⟨(MB F l x Z W Fa).length, [], m'⟩ ⟨(MB F l x Z W Fa).length, [], m2⟩) pMix ([(11, ([19], [⟨0, [], []⟩, ⟨1, [], []⟩, ⟨2, [], []⟩, ⟨3, [], []⟩, ⟨4, [], []⟩, ⟨5, [], []⟩, ⟨6, [], []⟩, ⟨7, [], []⟩, ⟨8, [], []⟩, ⟨9, [], []⟩, ⟨10, [], []⟩, ⟨11, [], []⟩, ⟨12, [], []⟩, ⟨13, [], []⟩, ⟨14, [], []⟩, ⟨15, [], []⟩, ⟨16, [], []⟩, ⟨17, [], []⟩, ⟨18, [], []⟩, ⟨19, [], []⟩, ⟨20, [], []⟩])), (13, ([], [⟨0, [], []⟩, ⟨1, [], []⟩, ⟨2, [], []⟩, ⟨3, [], []⟩, ⟨4, [], []⟩, ⟨5, [1, 3], []⟩, ⟨6, [], []⟩, ⟨7, [], []⟩])), (16, ([], [⟨0, [], []⟩, ⟨1, [], []⟩, ⟨2, [1], []⟩, ⟨3, [], []⟩]))]) rfl (by kernel_rfl) ?_) (fun bb m' h => by obtain ⟨m2, h1, h2⟩ := h; exact ⟨m2, h1, h2⟩)
  have hrn : rest.none ↔ (rest.c = -1 ∧ rest.n = 0) := Iff.rfl
  by_cases hn : rest.none
  · have hn2 := hrn.1 hn
    obtain ⟨rfl, rfl⟩ : W2 = W ∧ Fa2 = Fa := by
      rcases h2 with ⟨_, h⟩ | ⟨h, _⟩ | ⟨h, _⟩
      · exact h
      · exact absurd hn h
      · exact absurd hn h
    repeat' ((conv => whnf); first | rw [ejt] | rw [b1] | rw [g1] | rw [e0] | rw [e1] | refine Rng.g ?_ | refine Ob.g ?_ | refine Ob.e ?_ | refine Ob.m ?_ | refine Ob.mk (Nat.le_of_ble_eq_true rfl) ?_ | refine JoinVC.on ?_ | refine Nils.mk (fun h => ?_) ?_ | refine Val.t ?_ | refine Val.d ?_ | refine Mm.mk ?_ | (refine Br.mk (fun h => ?_) (fun h => ?_) <;> first | (exfalso; omega; done) | (exfalso; simp at h; done) | (exfalso; simp [hn2] at h; done) | skip))
    refine ⟨_, ⟨rfl, rfl⟩, [some 0, some 1, some 2, some 3, some 4, some 5, some 6, some 7, some 8, some 9, some 10, some 11], rfl, rfl, ?_, ?_⟩ <;> repeat' (first | exact trivial | exact rfl | exact Iff.rfl | exact pcs_le _ _ _ _ | apply And.intro)
  · have hn2 : ¬ (rest.c = -1 ∧ rest.n = 0) := fun h => hn (hrn.2 h)
    have hr' := hr hn
    repeat' ((conv => whnf); first | rw [ejt] | rw [ext] | rw [b1] | rw [g1] | rw [e0] | rw [e1] | rw [b2] | rw [g2] | rw [gk] | rw [gc] | refine Rng.g ?_ | refine Ob.g ?_ | refine Ob.e ?_ | refine Ob.m ?_ | refine Ob.mk (Nat.le_of_ble_eq_true rfl) ?_ | refine JoinVC.on ?_ | refine Nils.mk (fun h => ?_) ?_ | refine Val.t ?_ | refine Val.d ?_ | refine Mm.mk ?_ | (refine Br.mk (fun h => ?_) (fun h => ?_) <;> first | (exfalso; omega; done) | (exfalso; simp at h; done) | (exfalso; simp [hn2] at h; done) | skip))
    conv => whnf
    refine CallVC.mk [0] _ _ _ rfl rfl rfl (s64w ⟨rest.c + (F.getD k f0).cost, rest.n + 1⟩ cur) (fun r m' h' => ?_)
    obtain ⟨rfl, rfl⟩ := h'
    conv => whnf
    by_cases hl : lessW ⟨rest.c + (F.getD k f0).cost, rest.n + 1⟩ cur
    · obtain ⟨rfl, rfl⟩ : W2 = W.set x ⟨rest.c + (F.getD k f0).cost, rest.n + 1⟩ ∧ Fa2 = Fa.set x ⟨(k : Int), d⟩ := by
        rcases h2 with ⟨h, _⟩ | ⟨_, h, _⟩ | ⟨_, _, h⟩
        · exact absurd h hn
        · exact absurd hl h
        · exact h
      repeat' ((conv => whnf); first | rw [ext] | rw [b2, pw_set] | rw [b3, pw_set] | rw [fSs_eq] | refine Rng.g ?_ | refine Ob.g ?_ | refine Ob.e ?_ | refine Ob.m ?_ | refine Ob.mk (Nat.le_of_ble_eq_true rfl) ?_ | refine JoinVC.on ?_ | refine Nils.mk (fun h => ?_) ?_ | refine Val.t ?_ | refine Val.d ?_ | refine Mm.mk ?_ | (refine Br.mk (fun h => ?_) (fun h => ?_) <;> first | (exfalso; omega; done) | (exfalso; simp at h; done) | skip))
      all_goals first | contradiction | skip
      refine ⟨_, ⟨rfl, rfl⟩, [some 0, some 1, some 2, some 3, some 4, some 5, some 6, some 7, some 8, some 9, some 10, some 11], rfl, rfl, ?_, ?_⟩ <;> repeat' (first | exact trivial | exact rfl | exact Iff.rfl | exact pcs_le _ _ _ _ | apply And.intro)
    · obtain ⟨rfl, rfl⟩ : W2 = W ∧ Fa2 = Fa := by
        rcases h2 with ⟨h, _⟩ | ⟨_, _, h⟩ | ⟨_, h, _⟩
        · exact absurd h hn
        · exact h
        · exact absurd h hl
      repeat' ((conv => whnf); first | rw [ext] | rw [b2, pw_set] | rw [b3, pw_set] | rw [fSs_eq] | refine Rng.g ?_ | refine Ob.g ?_ | refine Ob.e ?_ | refine Ob.m ?_ | refine Ob.mk (Nat.le_of_ble_eq_true rfl) ?_ | refine JoinVC.on ?_ | refine Nils.mk (fun h => ?_) ?_ | refine Val.t ?_ | refine Val.d ?_ | refine Mm.mk ?_ | (refine Br.mk (fun h => ?_) (fun h => ?_) <;> first | (exfalso; omega; done) | (exfalso; simp at h; done) | skip))
      all_goals first | contradiction | skip
      refine ⟨_, ⟨rfl, rfl⟩, [some 0, some 1, some 2, some 3, some 4, some 5, some 6, some 7, some 8, some 9, some 10, some 11], rfl, rfl, ?_, ?_⟩ <;> repeat' (first | exact trivial | exact rfl | exact Iff.rfl | exact pcs_le _ _ _ _ | apply And.intro)
end Go.Sx

namespace Go.Sx
open Go Go.Proofs
set_option maxRecDepth 10000
set_option maxHeartbeats 16000000
theorem res87 (W : List Wth) (lW : W.length = 25) (s : St) (id : Nat) (h1 : s.get 2 = .x (.one (.ptr id 0))) (h2 : s.blk id = some (.box 87 (pcs W))) : resV Tryd.prog s (.cell 2 87) = some (.agg (pcs W)) := by
  have c1 : cellsOf Tryd.prog 87 = some Tryd.t87.size := by kernel_rfl
  have c2 : aggSize Tryd.prog 87 = some (some Tryd.t87.size) := by kernel_rfl
  have n1 : (0 + Tryd.t87.size).ble (lenL (pcs W)) = true := by rw [lenL_eq, pcs_len, lW, sz87]; rfl
  have a1 : takeL (dropL (pcs W) 0) Tryd.t87.size = pcs W := pcs_all W Tryd.t87.size (by rw [sz87, lW])
  unfold resV
  simp only [h1, c1, c2, h2, n1, a1, if_true]
theorem res88 (W : List Wth) (lW : W.length = 24) (s : St) (id : Nat) (h1 : s.get 3 = .x (.one (.ptr id 0))) (h2 : s.blk id = some (.box 88 (pcs W))) : resV Tryd.prog s (.cell 3 88) = some (.agg (pcs W)) := by
  have c1 : cellsOf Tryd.prog 88 = some Tryd.t88.size := by kernel_rfl
  have c2 : aggSize Tryd.prog 88 = some (some Tryd.t88.size) := by kernel_rfl
  have n1 : (0 + Tryd.t88.size).ble (lenL (pcs W)) = true := by rw [lenL_eq, pcs_len, lW, sz88]; rfl
  have a1 : takeL (dropL (pcs W) 0) Tryd.t88.size = pcs W := pcs_all W Tryd.t88.size (by rw [sz88, lW])
  unfold resV
  simp only [h1, c1, c2, h2, n1, a1, if_true]
theorem noAny_pcs : ∀ W : List Wth, noAny (pcs W) = true
  | [] => rfl
  | _ :: W => noAny_pcs W
theorem s46b (F : List Fmt) (l : List Sng) (hA : AlbOK F l) : HSpec Tryd.prog 46 [.one (.ptr 1 0)] [gNone, bAlb F l (l.length : Int)] (fun r m' => ∃ W Fa, ArrOK F l 0 W Fa ∧ r = .tup [.agg (pcs W), .agg (pcs Fa)] ∧ m' = [some gNone, some (bAlb F l (l.length : Int))]) := by
  have h24 := hA.sngs.len
  refine spec_of pMix (O := [(11, ([19], [⟨0, [], []⟩, ⟨1, [], []⟩, ⟨2, [], []⟩, ⟨3, [], []⟩, ⟨4, [], []⟩, ⟨5, [], []⟩, ⟨6, [], []⟩, ⟨7, [], []⟩, ⟨8, [], []⟩, ⟨9, [], []⟩, ⟨10, [], []⟩, ⟨11, [], []⟩, ⟨12, [], []⟩, ⟨13, [], []⟩, ⟨14, [], []⟩, ⟨15, [], []⟩, ⟨16, [], []⟩, ⟨17, [], []⟩, ⟨18, [], []⟩, ⟨19, [], []⟩, ⟨20, [], []⟩])), (13, ([], [⟨0, [], []⟩, ⟨1, [], []⟩, ⟨2, [], []⟩, ⟨3, [], []⟩, ⟨4, [], []⟩, ⟨5, [1, 3], []⟩, ⟨6, [], []⟩, ⟨7, [], []⟩])), (16, ([], [⟨0, [], []⟩, ⟨1, [], []⟩, ⟨2, [1], []⟩, ⟨3, [], []⟩]))]) Tryd.func46 (c := bodyOf Tryd.f46) rfl (by kernel_rfl) (by kernel_rfl) Tryd.ntmps46 (res := [.cell 2 87, .cell 3 88]) (by kernel_rfl) ?_
  repeat' ((conv => whnf); first | refine Rng.g ?_ | refine Ob.g ?_ | refine Ob.e ?_ | refine Ob.m ?_ | refine Ob.mk (Nat.le_of_ble_eq_true rfl) ?_ | refine JoinVC.on ?_ | refine Nils.mk (fun h => ?_) ?_ | refine Val.t ?_ | refine Val.d ?_ | refine Mm.mk ?_ | (refine Br.mk (fun h => ?_) (fun h => ?_) <;> first | (exfalso; omega; done) | (exfalso; simp at h; done) | skip))
  refine LoopVC.mk (fun m st => ∃ (i : Nat) (W Fa : List Wth), i ≤ l.length ∧ m = i ∧ ArrOK F l i W Fa ∧ st = ⟨2, envA 68 [(1, .x (.one (.ptr 2 0))), (2, .x (.one (.ptr 3 0))), (3, .x (.one (.ptr 4 0))), (4, .x (.one (.ptr 5 0))), (5, .x (.one (.ptr 6 0))), (6, .x (.one (.ptr 7 0)))], [some gNone, some (bAlb F l (l.length : Int)), some (.box 82 [.ptr 1 0]), some (bWs (List.replicate 25 w0)), some (bFs (List.replicate 24 w0)), some (bWs W), some (bFs Fa), some (.box 3 [.int .i64 ((i : Int) - 1)])]⟩) _ _ ⟨l.length, List.replicate 25 w0, List.replicate 24 w0, Nat.le_refl _, rfl, ⟨by simp, by simp, fun t h1 h2 => ?_, fun t e h1 h2 => by omega⟩, rfl⟩ ?_ ?_
  · have e : t = l.length := by omega
    subst e
    rw [bst_end]
    rw [List.getD_eq_getElem?_getD, List.getElem?_replicate, if_pos (by omega)]
    rfl
  · refine ⟨[some 0, some 1, some 2, some 3, some 4, some 5, some 6, some 7], rfl, rfl, ?_, ?_⟩ <;> repeat' (first | exact trivial | exact rfl | exact Iff.rfl | apply And.intro)
  rintro m _ ⟨i, W, Fa, hi, hm, hW, rfl⟩
  have lW := hW.lw
  have lF := hW.lf
  by_cases hi' : 0 < i
  rotate_left
  · have ei : i = 0 := by omega
    subst ei
    have a1 : takeL (dropL (pcs W) 0) Tryd.t87.size = pcs W := pcs_all W Tryd.t87.size (by rw [sz87, lW])
    have a2 : takeL (dropL (pcs Fa) 0) Tryd.t88.size = pcs Fa := pcs_all Fa Tryd.t88.size (by rw [sz88, lF])
    have n1 : (0 + Tryd.t87.size).ble (lenL (pcs W)) = true := by rw [lenL_eq, pcs_len, lW, sz87]; rfl
    have n2 : (0 + Tryd.t88.size).ble (lenL (pcs Fa)) = true := by rw [lenL_eq, pcs_len, lF, sz88]; rfl
    have f1 : ∀ K, setsL (pcs (List.replicate 25 w0)) 0 (xvCells (.agg (pcs W))) K = K (pcs W) := fun K => sets_full (pcs (List.replicate 25 w0)) (pcs W) K (by rw [pcs_len, pcs_len, lW]; rfl)
    have f2 : ∀ K, setsL (pcs (List.replicate 24 w0)) 0 (xvCells (.agg (pcs Fa))) K = K (pcs Fa) := fun K => sets_full (pcs (List.replicate 24 w0)) (pcs Fa) K (by rw [pcs_len, pcs_len, lF]; rfl)
    have q1 : ((lenL (xvCells (XV.agg (pcs W)))).beq Tryd.t87.size && noAny (xvCells (XV.agg (pcs W)))) = true := by
      rw [show xvCells (XV.agg (pcs W)) = pcs W from rfl, noAny_pcs, lenL_eq, pcs_len, lW, sz87]
      rfl
    have q2 : ((lenL (xvCells (XV.agg (pcs Fa)))).beq Tryd.t88.size && noAny (xvCells (XV.agg (pcs Fa)))) = true := by
      rw [show xvCells (XV.agg (pcs Fa)) = pcs Fa from rfl, noAny_pcs, lenL_eq, pcs_len, lF, sz88]
      rfl
    have n3 : (0 + Tryd.t87.size).ble (lenL (pcs (List.replicate 25 w0))) = true := by rw [lenL_eq, pcs_len, sz87]; rfl
    have n4 : (0 + Tryd.t88.size).ble (lenL (pcs (List.replicate 24 w0))) = true := by rw [lenL_eq, pcs_len, sz88]; rfl
    repeat' ((conv => whnf); first | rw [n1] | rw [n2] | rw [n3] | rw [n4] | rw [q1] | rw [q2] | rw [a1] | rw [a2] | rw [f1] | rw [f2] | rw [fSs_eq] | refine Rng.g ?_ | refine Ob.g ?_ | refine Ob.e ?_ | refine Ob.m ?_ | refine Ob.mk (Nat.le_of_ble_eq_true rfl) ?_ | refine JoinVC.on ?_ | refine Nils.mk (fun h => ?_) ?_ | refine Val.t ?_ | refine Val.d ?_ | refine Mm.mk ?_ | (refine Br.mk (fun h => ?_) (fun h => ?_) <;> first | (exfalso; omega; done) | (exfalso; simp at h; done) | skip))
    refine EndVC.mk [.agg (pcs W), .agg (pcs Fa)] ?_ _ _ ⟨W, Fa, hW, rfl, rfl⟩ ?_
    · unfold resVs
      rw [res87 W lW _ 3 rfl rfl]
      unfold resVs
      rw [res88 Fa lF _ 4 rfl rfl]
      rfl
    · refine ⟨[some 0, some 1], rfl, rfl, ?_, ?_⟩ <;> repeat' (first | exact trivial | exact rfl | exact Iff.rfl | exact pcs_le _ _ _ _ | apply And.intro)
  obtain ⟨x, rfl⟩ : ∃ x, i = x + 1 := ⟨i - 1, by omega⟩
  have ex : ((x + 1 : Nat) : Int) - 1 = (x : Int) := by omega
  rw [ex]
  have b1 := pw_ble W (x : Int).toNat Tryd.t86.size (by rw [sz86]; exact Nat.le_refl 2) (by omega)
  have e0 : rI [[Cell.int (-1), Cell.int 0]] 0 0 = -1 := rfl
  have e1 : rI [[Cell.int (-1), Cell.int 0]] 0 (0 + 1) = 0 := rfl
  repeat' ((conv => whnf); first | rw [e0] | rw [e1] | rw [b1, pw_set] | rw [fSs_eq] | refine Rng.g ?_ | refine Ob.g ?_ | refine Ob.e ?_ | refine Ob.m ?_ | refine Ob.mk (Nat.le_of_ble_eq_true rfl) ?_ | refine JoinVC.on ?_ | refine Nils.mk (fun h => ?_) ?_ | refine Val.t ?_ | refine Val.d ?_ | refine Mm.mk ?_ | (refine Br.mk (fun h => ?_) (fun h => ?_) <;> first | (exfalso; omega; done) | (exfalso; simp at h; done) | skip))
  conv => whnf
  refine CallVC.mk [1] _ _ _ rfl rfl rfl (s53 F l (l.length : Int) (x : Int)) (fun r m' h' => ?_)
  obtain ⟨rfl, rfl⟩ := h'
  conv => whnf
  repeat' ((conv => whnf); first | refine Rng.g ?_ | refine Ob.g ?_ | refine Ob.e ?_ | refine Ob.m ?_ | refine Ob.mk (Nat.le_of_ble_eq_true rfl) ?_ | refine JoinVC.on ?_ | refine Nils.mk (fun h => ?_) ?_ | refine Val.t ?_ | refine Val.d ?_ | refine Mm.mk ?_ | (refine Br.mk (fun h => ?_) (fun h => ?_) <;> first | (exfalso; omega; done) | (exfalso; simp at h; done) | skip))
  have lpl := plsA_len F l
  have h8 := hA.few
  have hx24 : x < 24 := by omega
  have hW1 := hW.start (x := x) (by omega)
  have ext : (x : Int).toNat = x := Int.toNat_natCast x
  change RangeVC _ _ _ _ _
  refine RangeVC.mk e69 (isem_of_awp pMix [] Tryd.func69 (c := bodyOf Tryd.f69) rfl (by kernel_rfl) Tryd.ntmps69 (by kernel_rfl) ?_)
  repeat' ((conv => whnf); first | refine Rng.g ?_ | refine Ob.g ?_ | refine Ob.e ?_ | refine Ob.m ?_ | refine Ob.mk (Nat.le_of_ble_eq_true rfl) ?_ | refine JoinVC.on ?_ | refine Nils.mk (fun h => ?_) ?_ | refine Val.t ?_ | refine Val.d ?_ | refine Mm.mk ?_ | (refine Br.mk (fun h => ?_) (fun h => ?_) <;> first | (exfalso; omega; done) | (exfalso; simp at h; done) | skip))
  refine LoopVC.mk (fun n st => ∃ (k : Nat) (W' Fa' : List Wth), k ≤ F.length ∧ n = F.length - k ∧ InOK F l x ((fcs F l x k).foldl (stepE F (bst F l)) none) W' Fa' ∧ st = ⟨11, envA 43 [(0, .x (.one (.yld 10))), (1, .x (.one (.ptr 8 0))), (2, .x (.one (.ptr 9 0))), (10, .x (.one (.lst true [.pt KPl] (plsA F l)))), (11, .int .i64 (F.length : Int)), (12, .int .i64 (k : Int))], [some gNone, some (bAlb F l (l.length : Int)), some (.box 82 [.ptr 1 0]), some (bWs (List.replicate 25 w0)), some (bFs (List.replicate 24 w0)), some (bWs W'), some (bFs Fa'), some (.box 3 [.int .i64 (x : Int)]), some (.box 82 [.ptr 1 0]), some (.box 3 [.int .i64 (x : Int)]), some (.loop [25] (cAs rf46) (cBo rf46) (envA 68 [(1, .x (.one (.ptr 2 0))), (2, .x (.one (.ptr 3 0))), (3, .x (.one (.ptr 4 0))), (4, .x (.one (.ptr 5 0))), (5, .x (.one (.ptr 6 0))), (6, .x (.one (.ptr 7 0)))]) .ready)]⟩) _ _ ⟨0, _, Fa, Nat.zero_le _, rfl, hW1, rfl⟩ ?_ ?_
  · refine ⟨[some 0, some 1, some 2, some 3, some 4, some 5, some 6, some 7, some 8, some 9, some 10], rfl, rfl, ?_, ?_⟩ <;> repeat' (first | exact trivial | exact rfl | exact Iff.rfl | apply And.intro)
    all_goals first | exact pcs_le _ _ _ _ | skip
    all_goals first | exact congrArg Int.ofNat lpl | rw [ext]
  clear hW1
  rintro n _ ⟨k, W', Fa', hk, hn, hQ, rfl⟩
  have lW' := hQ.lw
  have lF' := hQ.lf
  by_cases hk' : k < F.length
  rotate_left
  · have ek : k = F.length := by omega
    subst ek
    have hfin := InOK.fin (by omega) hQ
    repeat' ((conv => whnf); first | refine Rng.g ?_ | refine Ob.g ?_ | refine Ob.e ?_ | refine Ob.m ?_ | refine Ob.mk (Nat.le_of_ble_eq_true rfl) ?_ | refine JoinVC.on ?_ | refine Nils.mk (fun h => ?_) ?_ | refine Val.t ?_ | refine Val.d ?_ | refine Mm.mk ?_ | (refine Br.mk (fun h => ?_) (fun h => ?_) <;> first | (exfalso; omega; done) | (exfalso; simp at h; done) | skip))
    refine Back.mk x _ (by omega) ⟨x, W', Fa', by omega, rfl, hfin, rfl⟩ ?_
    refine ⟨[some 0, some 1, some 2, some 3, some 4, some 5, some 6, some 11], rfl, rfl, ?_, ?_⟩ <;> repeat' (first | exact trivial | exact rfl | exact Iff.rfl | apply And.intro)
    all_goals first | exact pcs_le _ _ _ _ | skip
  have gk : rA (plsA F l) (k : Int).toNat 0 = plA (F.getD k f0) l := by rw [Int.toNat_natCast]; exact plsA_at F l k hk'
  have hf := hA.fmts k hk'
  repeat' ((conv => whnf); first | rw [gk] | refine Rng.g ?_ | refine Ob.g ?_ | refine Ob.e ?_ | refine Ob.m ?_ | refine Ob.mk (Nat.le_of_ble_eq_true rfl) ?_ | refine JoinVC.on ?_ | refine Nils.mk (fun h => ?_) ?_ | refine Val.t ?_ | refine Val.d ?_ | refine Mm.mk ?_ | (refine Br.mk (fun h => ?_) (fun h => ?_) <;> first | (exfalso; omega; done) | (exfalso; simp at h; done) | skip))
  refine LoopVC.mk (fun n st => ∃ (j : Nat) (W' Fa' : List Wth), x < j ∧ j ≤ l.length + 1 ∧ n = l.length + 1 - j ∧ InOK F l x ((fcs F l x k ++ fcj F l x k j).foldl (stepE F (bst F l)) none) W' Fa' ∧ st = ⟨11, envA 43 [(0, .x (.one (.yld 10))), (1, .x (.one (.ptr 8 0))), (2, .x (.one (.ptr 9 0))), (4, .int .i64 (k : Int)), (5, .x (plX (F.getD k f0) l)), (6, .int .i64 (j : Int)), (10, .x (.one (.lst true [.pt KPl] (plsA F l)))), (11, .int .i64 (F.length : Int)), (12, .int .i64 (k : Int))], [some gNone, some (bAlb F l (l.length : Int)), some (.box 82 [.ptr 1 0]), some (bWs (List.replicate 25 w0)), some (bFs (List.replicate 24 w0)), some (bWs W'), some (bFs Fa'), some (.box 3 [.int .i64 (x : Int)]), some (.box 82 [.ptr 1 0]), some (.box 3 [.int .i64 (x : Int)]), some (.loop [25] (cAs rf46) (cBo rf46) (envA 68 [(1, .x (.one (.ptr 2 0))), (2, .x (.one (.ptr 3 0))), (3, .x (.one (.ptr 4 0))), (4, .x (.one (.ptr 5 0))), (5, .x (.one (.ptr 6 0))), (6, .x (.one (.ptr 7 0)))]) .ready)]⟩) _ _ ⟨x + 1, W', Fa', by omega, by omega, rfl, by rw [fcj_lo _ (Nat.le_refl _), List.append_nil]; exact hQ, rfl⟩ ?_ ?_
  · refine ⟨[some 0, some 1, some 2, some 3, some 4, some 5, some 6, some 7, some 8, some 9, some 10], rfl, rfl, ?_, ?_⟩ <;> repeat' (first | exact trivial | exact rfl | exact Iff.rfl | apply And.intro)
    all_goals first | exact pcs_le _ _ _ _ | skip
  clear hQ lW' lF' W' Fa'
  rintro n2 _ ⟨j, W', Fa', hij, hj, hn2, hQ, rfl⟩
  have lW' := hQ.lw
  have lF' := hQ.lf
  have c54 := s54g x j (by omega)
  by_cases hj' : j ≤ l.length
  rotate_left
  · have ej : j = l.length + 1 := by omega
    subst ej
    repeat' ((conv => whnf); first | refine Rng.g ?_ | refine Ob.g ?_ | refine Ob.e ?_ | refine Ob.m ?_ | refine Ob.mk (Nat.le_of_ble_eq_true rfl) ?_ | refine JoinVC.on ?_ | refine Nils.mk (fun h => ?_) ?_ | refine Val.t ?_ | refine Val.d ?_ | refine Mm.mk ?_ | (refine Br.mk (fun h => ?_) (fun h => ?_) <;> first | (exfalso; omega; done) | (exfalso; simp at h; done) | skip))
    refine Back.mk (F.length - (k + 1)) _ (by omega) ⟨k + 1, W', Fa', by omega, rfl, hQ, rfl⟩ ?_
    refine ⟨[some 0, some 1, some 2, some 3, some 4, some 5, some 6, some 7, some 8, some 9, some 10], rfl, rfl, ?_, ?_⟩ <;> repeat' (first | exact trivial | exact rfl | exact Iff.rfl | apply And.intro)
    all_goals first | exact pcs_le _ _ _ _ | skip
  have c47 := s47p (F.getD k f0) l (seqL x (j - x)) hf hA.sngs (fun y hy => by rw [seqL_len] at hy; rw [seqL_get _ _ _ hy]; omega) (by rw [seqL_len]; omega)
  repeat' ((conv => whnf); first | refine Rng.g ?_ | refine Ob.g ?_ | refine Ob.e ?_ | refine Ob.m ?_ | refine Ob.mk (Nat.le_of_ble_eq_true rfl) ?_ | refine JoinVC.on ?_ | refine Nils.mk (fun h => ?_) ?_ | refine Val.t ?_ | refine Val.d ?_ | refine Mm.mk ?_ | (refine Br.mk (fun h => ?_) (fun h => ?_) <;> first | (exfalso; omega; done) | (exfalso; simp at h; done) | skip))
  conv => whnf
  refine CallVC.mk [] _ _ _ rfl rfl rfl (c54) (fun r m' h' => ?_)
  obtain ⟨rfl, rfl⟩ := h'
  conv => whnf
  repeat' ((conv => whnf); first | refine Rng.g ?_ | refine Ob.g ?_ | refine Ob.e ?_ | refine Ob.m ?_ | refine Ob.mk (Nat.le_of_ble_eq_true rfl) ?_ | refine JoinVC.on ?_ | refine Nils.mk (fun h => ?_) ?_ | refine Val.t ?_ | refine Val.d ?_ | refine Mm.mk ?_ | (refine Br.mk (fun h => ?_) (fun h => ?_) <;> first | (exfalso; omega; done) | (exfalso; simp at h; done) | skip))
  conv => whnf
  refine CallVC.mk [] _ _ _ rfl rfl rfl (c47) (fun r m' h' => ?_)
  obtain ⟨rfl, rfl⟩ := h'
  conv => whnf
  repeat refine Mm.mk ?_
  try refine JoinVC.on ?_
  refine Br.mk (fun hL => ?_) (fun hL => ?_)
  rotate_left
  · have hnf : ¬ faceP F l k x j := fun h => hL h.lay
    rw [fcj_end hA hij hnf hj] at hQ
    repeat' ((conv => whnf); first | refine Rng.g ?_ | refine Ob.g ?_ | refine Ob.e ?_ | refine Ob.m ?_ | refine Ob.mk (Nat.le_of_ble_eq_true rfl) ?_ | refine JoinVC.on ?_ | refine Nils.mk (fun h => ?_) ?_ | refine Val.t ?_ | refine Val.d ?_ | refine Mm.mk ?_ | (refine Br.mk (fun h => ?_) (fun h => ?_) <;> first | (exfalso; omega; done) | (exfalso; simp at h; done) | skip))
    refine Back.mk (F.length - (k + 1)) _ (by omega) ⟨k + 1, W', Fa', by omega, rfl, hQ, rfl⟩ ?_
    refine ⟨[some 0, some 1, some 2, some 3, some 4, some 5, some 6, some 7, some 8, some 9, some 10], rfl, rfl, ?_, ?_⟩ <;> repeat' (first | exact trivial | exact rfl | exact Iff.rfl | apply And.intro)
    all_goals first | exact pcs_le _ _ _ _ | skip
  have hface : faceP F l k x j := ⟨hk', hij, hj', hL⟩
  have hco := hf.cost
  have gc : rI (rA (plsA F l) (k : Int).toNat 0) 0 (0 + 0 + (0 + 1 + 1 + 1 + 1 + 1 + 1 + 1)) = (F.getD k f0).cost := by rw [gk]; rfl
  have ejt : ((x : Int) + ((j : Int) - x)).toNat = j := by omega
  obtain ⟨acc, hacc⟩ : ∃ acc, (fcs F l x k ++ fcj F l x k j).foldl (stepE F (bst F l)) none = acc := ⟨_, rfl⟩
  have hnext : (fcs F l x k ++ fcj F l x k (j + 1)).foldl (stepE F (bst F l)) none = stepE F (bst F l) acc (k, j) := by
    rw [fcj_yes hface, ← List.append_assoc, List.foldl_append, hacc]
    rfl
  rw [hacc] at hQ
  have hLm : ∀ y, y ∈ fcs F l x k ++ fcj F l x k j → faceP F l y.1 x y.2 := fun y hy => by
    rcases List.mem_append.1 hy with h | h
    · exact (mem_fcs.1 h).2
    · have h3 := mem_fcj.1 h
      rw [h3.1]; exact h3.2.2
  obtain ⟨d, hd⟩ : ∃ d : Int, (j : Int) - (x : Int) = d := ⟨_, rfl⟩
  obtain ⟨s1, s2, W2, Fa2, s3, s4⟩ := step_h2 hA hx24 hQ hacc hLm hface hd.symm
  have rnd := rnd46 F l hA x (seqL x (j - x)) W' Fa' lW' lF' hx24 k hk' d j (by omega) (by omega) (by omega) _ _ rfl rfl s1 s2 W2 Fa2 s3
  rw [← hd] at rnd
  repeat' ((conv => whnf); first | refine Rng.g ?_ | refine Ob.g ?_ | refine Ob.e ?_ | refine Ob.m ?_ | refine Ob.mk (Nat.le_of_ble_eq_true rfl) ?_ | refine JoinVC.on ?_ | refine Nils.mk (fun h => ?_) ?_ | refine Val.t ?_ | refine Val.d ?_ | refine Mm.mk ?_ | (refine Br.mk (fun h => ?_) (fun h => ?_) <;> first | (exfalso; omega; done) | (exfalso; simp at h; done) | skip))
  refine YieldVC.of rnd ?_
  repeat' ((conv => whnf); first | refine Rng.g ?_ | refine Ob.g ?_ | refine Ob.e ?_ | refine Ob.m ?_ | refine Ob.mk (Nat.le_of_ble_eq_true rfl) ?_ | refine JoinVC.on ?_ | refine Nils.mk (fun h => ?_) ?_ | refine Val.t ?_ | refine Val.d ?_ | refine Mm.mk ?_ | (refine Br.mk (fun h => ?_) (fun h => ?_) <;> first | (exfalso; omega; done) | (exfalso; simp at h; done) | skip))
  refine Back.mk (l.length + 1 - (j + 1)) _ (by omega) ⟨j + 1, W2, Fa2, by omega, by omega, rfl, by rw [hnext]; exact s4, rfl⟩ ?_
  refine ⟨[some 0, some 1, some 2, some 3, some 4, some 5, some 6, some 7, some 8, some 9, some 10], rfl, rfl, ?_, ?_⟩ <;> repeat' (first | exact trivial | exact rfl | exact Iff.rfl | apply And.intro)
  all_goals first | exact pcs_le _ _ _ _ | skip
end Go.Sx

namespace Go.Sx
open Go Go.Proofs
set_option maxRecDepth 10000
set_option maxHeartbeats 8000000
/-! ### The cost of a plan -/
structure Fc where
  fm : Int
  mn : Int
abbrev fc0 : Fc := ⟨0, 0⟩
@[reducible] def Fc.x (a : Fc) : XV := .agg [.int .i64 a.fm, .int .i64 a.mn]
@[reducible] def KFc : List CK := [.int .i64, .int .i64]
def facA (P : List Fc) : Arr := P.map fun a => [.int a.fm, .int a.mn]
theorem facA_len (P : List Fc) : (facA P).length = P.length := by simp [facA]
theorem facA_0 (P : List Fc) (i : Nat) : rI (facA P) i 0 = (P.getD i fc0).fm := map_rI _ fc0 P i 0 rfl
theorem facA_1 (P : List Fc) (i : Nat) : rI (facA P) i (0 + 1) = (P.getD i fc0).mn := map_rI _ fc0 P i 1 rfl
@[reducible] def lFac (P : List Fc) : XV := .one (.lst true KFc (facA P))
def Fc.ok (n : Nat) (a : Fc) : Prop := (0 ≤ a.fm ∧ a.fm < n) ∧ 1 ≤ a.mn ∧ a.mn ≤ 24
instance (n : Nat) (a : Fc) : Decidable (a.ok n) := by unfold Fc.ok; exact inferInstance
def Fc.p (a : Fc) : Nat × Nat := (a.fm.toNat, a.mn.toNat)
/-- How many tracks the first faces have. -/
def sumM (P : List Fc) : Nat → Int
  | 0 => 0
  | i + 1 => sumM P i + (P.getD i fc0).mn
def sumN : List (Nat × Nat) → Nat → Nat
  | _, 0 => 0
  | [], _ + 1 => 0
  | a :: t, i + 1 => a.2 + sumN t i
theorem planOK_iff {F : List Fmt} {l : List Sng} : ∀ (pl : List (Nat × Nat)) (s : Nat), PlanOK F l s pl ↔ (∀ i, i < pl.length → faceP F l (pl.getD i (0, 0)).1 (s + sumN pl i) (s + sumN pl i + (pl.getD i (0, 0)).2)) ∧ s + sumN pl pl.length = l.length
  | [], s => by
    constructor
    · exact fun h => ⟨fun i hi => absurd hi (Nat.not_lt_zero i), h⟩
    · exact fun h => h.2
  | (k, m) :: t, s => by
    show (faceP F l k s (s + m) ∧ PlanOK F l (s + m) t) ↔ _
    rw [planOK_iff t (s + m)]
    constructor
    · rintro ⟨h1, h2, h3⟩
      refine ⟨fun i hi => ?_, ?_⟩
      · cases i with
        | zero => exact h1
        | succ i =>
          have := h2 i (by simpa using hi)
          simp only [sumN, List.getD_cons_succ]
          rw [show s + (m + sumN t i) = s + m + sumN t i by omega]
          exact this
      · simp only [List.length_cons, sumN]
        omega
    · rintro ⟨h1, h2⟩
      refine ⟨h1 0 (by simp), fun i hi => ?_, ?_⟩
      · have := h1 (i + 1) (by simpa using hi)
        simp only [sumN, List.getD_cons_succ] at this
        rw [show s + (m + sumN t i) = s + m + sumN t i by omega] at this
        exact this
      · simp only [List.length_cons, sumN] at h2
        omega
theorem sumN_succ : ∀ (pl : List (Nat × Nat)) (i : Nat), i < pl.length → sumN pl (i + 1) = sumN pl i + (pl.getD i (0, 0)).2
  | [], i, h => absurd h (Nat.not_lt_zero i)
  | a :: t, 0, _ => by simp [sumN]
  | a :: t, i + 1, h => by
    have := sumN_succ t i (by simpa using h)
    simp only [sumN, List.getD_cons_succ] at this ⊢
    omega
theorem map_p_get (P : List Fc) (i : Nat) (h : i < P.length) : (P.map Fc.p).getD i (0, 0) = (P.getD i fc0).p := by
  simp [List.getD_eq_getElem?_getD, h]
theorem sumM_N {P : List Fc} {n : Nat} (h : ∀ i, i < P.length → (P.getD i fc0).ok n) : ∀ i, i ≤ P.length → (sumN (P.map Fc.p) i : Int) = sumM P i
  | 0, _ => by cases P <;> rfl
  | i + 1, hi => by
    have h1 := sumM_N h i (by omega)
    have h2 := (h i (by omega)).2.1
    rw [sumN_succ _ _ (by rw [List.length_map]; omega), map_p_get P i (by omega)]
    simp only [sumM, Fc.p]
    omega
theorem sumM_bd {P : List Fc} {n : Nat} (k : Nat) (h : ∀ i, i < k → (P.getD i fc0).ok n) : ∀ i, i ≤ k → (i : Int) ≤ sumM P i ∧ sumM P i ≤ 24 * (i : Int)
  | 0, _ => by simp [sumM]
  | i + 1, hi => by
    have h1 := sumM_bd k h i (by omega)
    have h2 := (h i (by omega)).2
    simp only [sumM]
    omega
theorem sumM_mono {P : List Fc} {n : Nat} {k : Nat} (h : ∀ i, i < k → (P.getD i fc0).ok n) {i : Nat} : ∀ d, i + d ≤ k → sumM P i ≤ sumM P (i + d)
  | 0, _ => Int.le_refl _
  | d + 1, hd => by
    have h1 := sumM_mono h (i := i) d (by omega)
    have h2 := (h (i + d) (by omega)).2.1
    show _ ≤ sumM P (i + d) + (P.getD (i + d) fc0).mn
    omega
/-- The cost of the first faces. -/
def cstM (F : List Fmt) (P : List Fc) : Nat → Int
  | 0 => 0
  | i + 1 => cstM F P i + (F.getD (P.getD i fc0).fm.toNat f0).cost
theorem costP_app (F : List Fmt) : ∀ (a b : List (Nat × Nat)), costP F (a ++ b) = costP F a + costP F b
  | [], b => by simp [costP]
  | (k, m) :: t, b => by
    simp only [List.cons_append, costP, costP_app F t b]
    omega
theorem cstM_eq (F : List Fmt) (P : List Fc) : ∀ i, i ≤ P.length → cstM F P i = costP F ((P.take i).map Fc.p)
  | 0, _ => by simp [cstM, costP]
  | i + 1, h => by
    rw [take_snoc P i fc0 (by omega), List.map_append, costP_app, ← cstM_eq F P i (by omega)]
    simp [cstM, costP, Fc.p]
theorem cstM_bd {F : List Fmt} {l : List Sng} (hA : AlbOK F l) {P : List Fc} {k : Nat} (h : ∀ i, i < k → (P.getD i fc0).ok F.length) : ∀ i, i ≤ k → 0 ≤ cstM F P i ∧ cstM F P i ≤ 1048576 * (i : Int)
  | 0, _ => by simp [cstM]
  | i + 1, hi => by
    have h1 := cstM_bd hA h i (by omega)
    have h2 := (h i (by omega)).1
    have h3 := (hA.fmts (P.getD i fc0).fm.toNat (by omega)).cost
    simp only [cstM]
    omega
def AllF (F : List Fmt) (P : List Fc) : Prop := ∀ i, i < P.length → (P.getD i fc0).ok F.length
def plnP (P : List Fc) : List (Nat × Nat) := P.map Fc.p
open Classical in
noncomputable def cosE (F : List Fmt) (l : List Sng) (P : List Fc) : Int := if fmsE F l ≠ 0 then fmsE F l else if 24 < P.length then 6 else if ¬ AllF F P then 3 else if sumM P P.length ≠ (l.length : Int) then 17 else if PlanOK F l 0 (plnP P) then 0 else 15
open Classical in
noncomputable def cosN (F : List Fmt) (l : List Sng) (P : List Fc) : Int := if cosE F l P = 0 then costP F (plnP P) else 0
theorem cosE_bad {F : List Fmt} {l : List Sng} {P : List Fc} (h : fmsE F l ≠ 0) : cosE F l P = fmsE F l := if_pos h
theorem cosE_many {F : List Fmt} {l : List Sng} {P : List Fc} (hA : AlbOK F l) (h : 24 < P.length) : cosE F l P = 6 := by
  unfold cosE
  rw [if_neg (by rw [fmsE_0.2 hA]; simp), if_pos h]
theorem cosE_rng {F : List Fmt} {l : List Sng} {P : List Fc} (hA : AlbOK F l) (h : ¬ 24 < P.length) (h2 : ¬ AllF F P) : cosE F l P = 3 := by
  unfold cosE
  rw [if_neg (by rw [fmsE_0.2 hA]; simp), if_neg h, if_pos h2]
theorem cosE_eq {F : List Fmt} {l : List Sng} {P : List Fc} (hA : AlbOK F l) (h : ¬ 24 < P.length) (h2 : AllF F P) (h3 : sumM P P.length ≠ (l.length : Int)) : cosE F l P = 17 := by
  unfold cosE
  rw [if_neg (by rw [fmsE_0.2 hA]; simp), if_neg h, if_neg (fun hc => hc h2), if_pos h3]
theorem cosE_plan {F : List Fmt} {l : List Sng} {P : List Fc} (hA : AlbOK F l) (h : ¬ 24 < P.length) (h2 : AllF F P) (h3 : sumM P P.length = (l.length : Int)) (h4 : ¬ PlanOK F l 0 (plnP P)) : cosE F l P = 15 := by
  unfold cosE
  rw [if_neg (by rw [fmsE_0.2 hA]; simp), if_neg h, if_neg (fun hc => hc h2), if_neg (fun hc => hc h3), if_neg h4]
theorem cosE_ok {F : List Fmt} {l : List Sng} {P : List Fc} (hA : AlbOK F l) (h : ¬ 24 < P.length) (h2 : AllF F P) (h3 : sumM P P.length = (l.length : Int)) (h4 : PlanOK F l 0 (plnP P)) : cosE F l P = 0 := by
  unfold cosE
  rw [if_neg (by rw [fmsE_0.2 hA]; simp), if_neg h, if_neg (fun hc => hc h2), if_neg (fun hc => hc h3), if_pos h4]
/-- A plan is possible if each of its faces is. -/
theorem plan_faces {F : List Fmt} {l : List Sng} {P : List Fc} (h2 : AllF F P) (h3 : sumM P P.length = (l.length : Int)) : PlanOK F l 0 (plnP P) ↔ ∀ i, i < P.length → LayOK (F.getD (P.getD i fc0).fm.toNat f0) l (seqL (sumM P i).toNat (P.getD i fc0).mn.toNat) := by
  have hs := fun i hi => sumM_N h2 i hi
  rw [planOK_iff]
  have hl : (plnP P).length = P.length := by simp [plnP]
  rw [hl]
  constructor
  · rintro ⟨h4, _⟩ i hi
    have := (h4 i hi).lay
    have h6 := hs i (by omega)
    unfold plnP at this
    rw [map_p_get P i hi] at this
    simp only [Fc.p, Nat.zero_add] at this
    rw [show sumN (P.map Fc.p) i = (sumM P i).toNat by omega] at this
    rw [show (sumM P i).toNat + (P.getD i fc0).mn.toNat - (sumM P i).toNat = (P.getD i fc0).mn.toNat by omega] at this
    exact this
  · intro h4
    refine ⟨fun i hi => ?_, ?_⟩
    · have h6 := hs i (by omega)
      have h7 := h2 i hi
      have h8 := sumM_mono h2 (i := i + 1) (P.length - (i + 1)) (by omega)
      rw [show i + 1 + (P.length - (i + 1)) = P.length by omega, h3] at h8
      have h9 : sumM P (i + 1) = sumM P i + (P.getD i fc0).mn := rfl
      have h10 := (sumM_bd P.length h2 i (by omega)).1
      unfold plnP
      rw [map_p_get P i hi]
      simp only [Fc.p, Nat.zero_add]
      rw [show sumN (P.map Fc.p) i = (sumM P i).toNat by omega]
      have h11 := h7.1
      have h12 := h7.2
      refine ⟨by omega, by omega, by omega, ?_⟩
      rw [show (sumM P i).toNat + (P.getD i fc0).mn.toNat - (sumM P i).toNat = (P.getD i fc0).mn.toNat by omega]
      exact h4 i hi
    · have := hs P.length (Nat.le_refl _)
      unfold plnP
      omega
theorem s21 (F : List Fmt) (l : List Sng) (P : List Fc) (hI : ∀ i, (F.getD i f0).nm.size ≤ 9223372036854775807) : PSpec Tryd.prog 21 [lFmt F, lSng l, lFac P] (.tup [I (cosN F l P), I (cosE F l P)]) := by
  have lF := fmtA_len F
  have ll := sngA_len l
  have lP := facA_len P
  refine spec_of pMix (O := []) Tryd.func21 (c := bodyOf Tryd.f21) rfl (by kernel_rfl) (by kernel_rfl) Tryd.ntmps21 (res := [.tmp 6, .tmp 7]) (by kernel_rfl) ?_
  repeat' ((conv => whnf); first | refine Rng.g ?_ | refine Ob.g ?_ | refine Ob.e ?_ | refine Ob.m ?_ | refine Ob.mk (Nat.le_of_ble_eq_true rfl) ?_ | refine JoinVC.on ?_ | refine Nils.mk (fun h => ?_) ?_ | refine Val.t ?_ | refine Val.d ?_ | refine Mm.mk ?_ | (refine Br.mk (fun h => ?_) (fun h => ?_) <;> first | (exfalso; omega; done) | (exfalso; simp at h; done) | skip))
  conv => whnf
  refine CallVC.mk [] _ _ _ rfl rfl rfl (s49 F l hI) (fun r m' h' => ?_)
  rcases h' with ⟨he, rfl, rfl⟩ | ⟨he, rfl, rfl⟩ | ⟨hA, rfl, rfl⟩
  · have h1 := cosE_bad (P := P) he
    have h2 : cosN F l P = 0 := if_neg (by rw [h1]; exact he)
    rw [h1, h2]
    repeat' ((conv => whnf); first | refine Rng.g ?_ | refine Ob.g ?_ | refine Ob.e ?_ | refine Ob.m ?_ | refine Ob.mk (Nat.le_of_ble_eq_true rfl) ?_ | refine JoinVC.on ?_ | refine Nils.mk (fun h => ?_) ?_ | refine Val.t ?_ | refine Val.d ?_ | refine Mm.mk ?_ | (refine Br.mk (fun h => ?_) (fun h => ?_) <;> first | (exfalso; omega; done) | (exfalso; simp at h; done) | skip))
    repeat refine Mm.mk ?_
    refine EndVC.mk _ rfl _ _ ⟨rfl, rfl⟩ ?_
    refine ⟨[], rfl, rfl, ?_, ?_⟩ <;> repeat' (first | exact trivial | exact rfl | exact Iff.rfl | apply And.intro)
  · have h1 := cosE_bad (P := P) he
    have h2 : cosN F l P = 0 := if_neg (by rw [h1]; exact he)
    rw [h1, h2]
    repeat' ((conv => whnf); first | refine Rng.g ?_ | refine Ob.g ?_ | refine Ob.e ?_ | refine Ob.m ?_ | refine Ob.mk (Nat.le_of_ble_eq_true rfl) ?_ | refine JoinVC.on ?_ | refine Nils.mk (fun h => ?_) ?_ | refine Val.t ?_ | refine Val.d ?_ | refine Mm.mk ?_ | (refine Br.mk (fun h => ?_) (fun h => ?_) <;> first | (exfalso; omega; done) | (exfalso; simp at h; done) | skip))
    repeat refine Mm.mk ?_
    refine EndVC.mk _ rfl _ _ ⟨rfl, rfl⟩ ?_
    refine ⟨[], rfl, rfl, ?_, ?_⟩ <;> repeat' (first | exact trivial | exact rfl | exact Iff.rfl | apply And.intro)
  have h24 := hA.sngs.len
  by_cases hm : 24 < P.length
  · have h1 := cosE_many hA hm
    have h2 : cosN F l P = 0 := if_neg (by rw [h1]; decide)
    rw [h1, h2]
    repeat' ((conv => whnf); first | refine Rng.g ?_ | refine Ob.g ?_ | refine Ob.e ?_ | refine Ob.m ?_ | refine Ob.mk (Nat.le_of_ble_eq_true rfl) ?_ | refine JoinVC.on ?_ | refine Nils.mk (fun h => ?_) ?_ | refine Val.t ?_ | refine Val.d ?_ | refine Mm.mk ?_ | (refine Br.mk (fun h => ?_) (fun h => ?_) <;> first | (exfalso; omega; done) | (exfalso; simp at h; done) | skip))
    repeat refine Mm.mk ?_
    refine EndVC.mk _ rfl _ _ ⟨rfl, rfl⟩ ?_
    refine ⟨[], rfl, rfl, ?_, ?_⟩ <;> repeat' (first | exact trivial | exact rfl | exact Iff.rfl | apply And.intro)
  repeat' ((conv => whnf); first | refine Rng.g ?_ | refine Ob.g ?_ | refine Ob.e ?_ | refine Ob.m ?_ | refine Ob.mk (Nat.le_of_ble_eq_true rfl) ?_ | refine JoinVC.on ?_ | refine Nils.mk (fun h => ?_) ?_ | refine Val.t ?_ | refine Val.d ?_ | refine Mm.mk ?_ | (refine Br.mk (fun h => ?_) (fun h => ?_) <;> first | (exfalso; omega; done) | (exfalso; simp at h; done) | skip))
  refine LoopVC.mk (fun n st => ∃ (i : Nat), i ≤ P.length ∧ n = P.length - i ∧ (∀ j, j < i → (P.getD j fc0).ok F.length) ∧ st = ⟨0, envA 101 [(0, .x (lFmt F)), (1, .x (lSng l)), (2, .x (lFac P)), (8, .x (.one (.ptr 0 0))), (10, .int .i64 (sumM P i)), (30, .x (lFac P)), (31, .int .i64 (P.length : Int)), (32, .int .i64 (i : Int))], [some (bAlb F l (l.length : Int))]⟩) _ _ ⟨0, Nat.zero_le _, rfl, fun j hj => absurd hj (Nat.not_lt_zero j), rfl⟩ ?_ ?_
  · refine ⟨[some 0], rfl, rfl, ?_, ?_⟩ <;> repeat' (first | exact trivial | exact rfl | exact Iff.rfl | apply And.intro)
    all_goals exact congrArg Int.ofNat lP
  rintro n _ ⟨i, hi, hn, hj, rfl⟩
  have g1 : rI (facA P) (i : Int).toNat 0 = (P.getD i fc0).fm := by rw [Int.toNat_natCast]; exact facA_0 P i
  have g2 : rI (facA P) (i : Int).toNat (0 + 1) = (P.getD i fc0).mn := by rw [Int.toNat_natCast]; exact facA_1 P i
  have hsb := sumM_bd i hj i (Nat.le_refl _)
  by_cases hi' : i < P.length
  · by_cases hok : (P.getD i fc0).ok F.length
    · have hok' := hok
      unfold Fc.ok at hok'
      repeat' ((conv => whnf); first | rw [g1] | rw [g2] | refine Rng.g ?_ | refine Ob.g ?_ | refine Ob.e ?_ | refine Ob.m ?_ | refine Ob.mk (Nat.le_of_ble_eq_true rfl) ?_ | refine JoinVC.on ?_ | refine Nils.mk (fun h => ?_) ?_ | refine Val.t ?_ | refine Val.d ?_ | refine Mm.mk ?_ | (refine Br.mk (fun h => ?_) (fun h => ?_) <;> first | (exfalso; omega; done) | (exfalso; simp at h; done) | skip))
      refine Back.mk (P.length - (i + 1)) _ (by omega) ⟨i + 1, by omega, rfl, fun j hj' => ?_, rfl⟩ ?_
      · rcases Nat.lt_succ_iff_lt_or_eq.1 hj' with h' | rfl
        · exact hj j h'
        · exact hok
      · refine ⟨[some 0], rfl, rfl, ?_, ?_⟩ <;> repeat' (first | exact trivial | exact rfl | exact Iff.rfl | apply And.intro)
    · have hok' := hok
      unfold Fc.ok at hok'
      have h1 := cosE_rng (l := l) hA hm (fun h => hok (h i hi'))
      have h2 : cosN F l P = 0 := if_neg (by rw [h1]; decide)
      rw [h1, h2]
      repeat' ((conv => whnf); first | rw [g1] | rw [g2] | refine Rng.g ?_ | refine Ob.g ?_ | refine Ob.e ?_ | refine Ob.m ?_ | refine Ob.mk (Nat.le_of_ble_eq_true rfl) ?_ | refine JoinVC.on ?_ | refine Nils.mk (fun h => ?_) ?_ | refine Val.t ?_ | refine Val.d ?_ | refine Mm.mk ?_ | (refine Br.mk (fun h => ?_) (fun h => ?_) <;> first | (exfalso; omega; done) | (exfalso; simp at h; done) | skip))
      all_goals
        repeat refine Mm.mk ?_
        refine EndVC.mk _ rfl _ _ ⟨rfl, rfl⟩ ?_
        refine ⟨[], rfl, rfl, ?_, ?_⟩ <;> repeat' (first | exact trivial | exact rfl | exact Iff.rfl | apply And.intro)
  have ei : i = P.length := by omega
  subst ei
  have hall : AllF F P := hj
  by_cases hs : sumM P P.length = (l.length : Int)
  rotate_left
  · have h1 := cosE_eq (l := l) hA hm hall hs
    have h2 : cosN F l P = 0 := if_neg (by rw [h1]; decide)
    rw [h1, h2]
    repeat' ((conv => whnf); first | refine Rng.g ?_ | refine Ob.g ?_ | refine Ob.e ?_ | refine Ob.m ?_ | refine Ob.mk (Nat.le_of_ble_eq_true rfl) ?_ | refine JoinVC.on ?_ | refine Nils.mk (fun h => ?_) ?_ | refine Val.t ?_ | refine Val.d ?_ | refine Mm.mk ?_ | (refine Br.mk (fun h => ?_) (fun h => ?_) <;> first | (exfalso; omega; done) | (exfalso; simp at h; done) | skip))
    repeat refine Mm.mk ?_
    refine EndVC.mk _ rfl _ _ ⟨rfl, rfl⟩ ?_
    refine ⟨[], rfl, rfl, ?_, ?_⟩ <;> repeat' (first | exact trivial | exact rfl | exact Iff.rfl | apply And.intro)
  have hpf := plan_faces (l := l) hall hs
  repeat' ((conv => whnf); first | refine Rng.g ?_ | refine Ob.g ?_ | refine Ob.e ?_ | refine Ob.m ?_ | refine Ob.mk (Nat.le_of_ble_eq_true rfl) ?_ | refine JoinVC.on ?_ | refine Nils.mk (fun h => ?_) ?_ | refine Val.t ?_ | refine Val.d ?_ | refine Mm.mk ?_ | (refine Br.mk (fun h => ?_) (fun h => ?_) <;> first | (exfalso; omega; done) | (exfalso; simp at h; done) | skip))
  refine LoopVC.mk (fun n st => ∃ (i : Nat), i ≤ P.length ∧ n = P.length - i ∧ (∀ j, j < i → LayOK (F.getD (P.getD j fc0).fm.toNat f0) l (seqL (sumM P j).toNat (P.getD j fc0).mn.toNat)) ∧ st = ⟨0, envA 101 [(2, .x (lFac P)), (8, .x (.one (.ptr 0 0))), (13, .int .i64 (cstM F P i)), (14, .int .i64 (sumM P i)), (65, .x (lFac P)), (66, .int .i64 (P.length : Int)), (67, .int .i64 (i : Int))], [some (bAlb F l (l.length : Int))]⟩) _ _ ⟨0, Nat.zero_le _, rfl, fun j hj => absurd hj (Nat.not_lt_zero j), rfl⟩ ?_ ?_
  · refine ⟨[some 0], rfl, rfl, ?_, ?_⟩ <;> repeat' (first | exact trivial | exact rfl | exact Iff.rfl | apply And.intro)
    all_goals exact congrArg Int.ofNat lP
  rintro n _ ⟨i, hi, hn, hlay, rfl⟩
  have g1 : rI (facA P) (i : Int).toNat 0 = (P.getD i fc0).fm := by rw [Int.toNat_natCast]; exact facA_0 P i
  have g2 : rI (facA P) (i : Int).toNat (0 + 1) = (P.getD i fc0).mn := by rw [Int.toNat_natCast]; exact facA_1 P i
  have hsb := sumM_bd P.length hall i hi
  have hcb := cstM_bd hA hall i hi
  by_cases hi' : i < P.length
  rotate_left
  · have ei : i = P.length := by omega
    subst ei
    have hP := hpf.2 hlay
    have h1 := cosE_ok hA hm hall hs hP
    have h2 : cosN F l P = cstM F P P.length := by
      rw [cstM_eq F P _ (Nat.le_refl _), List.take_length]
      exact if_pos h1
    rw [h1, h2]
    repeat' ((conv => whnf); first | refine Rng.g ?_ | refine Ob.g ?_ | refine Ob.e ?_ | refine Ob.m ?_ | refine Ob.mk (Nat.le_of_ble_eq_true rfl) ?_ | refine JoinVC.on ?_ | refine Nils.mk (fun h => ?_) ?_ | refine Val.t ?_ | refine Val.d ?_ | refine Mm.mk ?_ | (refine Br.mk (fun h => ?_) (fun h => ?_) <;> first | (exfalso; omega; done) | (exfalso; simp at h; done) | skip))
    repeat refine Mm.mk ?_
    refine EndVC.mk _ rfl _ _ ⟨rfl, rfl⟩ ?_
    refine ⟨[], rfl, rfl, ?_, ?_⟩ <;> repeat' (first | exact trivial | exact rfl | exact Iff.rfl | apply And.intro)
  have hok := hall i hi'
  unfold Fc.ok at hok
  have hmono := sumM_mono hall (i := i + 1) (P.length - (i + 1)) (by omega)
  rw [show i + 1 + (P.length - (i + 1)) = P.length by omega, hs] at hmono
  have hs1 : sumM P (i + 1) = sumM P i + (P.getD i fc0).mn := rfl
  have hc1 : cstM F P (i + 1) = cstM F P i + (F.getD (P.getD i fc0).fm.toNat f0).cost := rfl
  obtain ⟨k, hk⟩ : ∃ k : Nat, (P.getD i fc0).fm = k := ⟨(P.getD i fc0).fm.toNat, by omega⟩
  obtain ⟨m, hmm⟩ : ∃ m : Nat, (P.getD i fc0).mn = m := ⟨(P.getD i fc0).mn.toNat, by omega⟩
  obtain ⟨s, hss⟩ : ∃ s : Nat, sumM P i = s := ⟨(sumM P i).toNat, by omega⟩
  rw [hk, hmm] at hok
  rw [hmm, hss] at hs1
  rw [hk, Int.toNat_natCast] at hc1
  rw [hk] at g1
  rw [hmm] at g2
  rw [hss] at hsb
  have hk' : k < F.length := by omega
  have hf := hA.fmts k hk'
  have hco := hf.cost
  have gk : rA (plsA F l) (k : Int).toNat 0 = plA (F.getD k f0) l := by rw [Int.toNat_natCast]; exact plsA_at F l k hk'
  have lpl := plsA_len F l
  have c54 := s54g s (s + m) (by omega)
  rw [Int.natCast_add] at c54
  have c47 := s47p (F.getD k f0) l (seqL s (s + m - s)) hf hA.sngs (fun x hx => by rw [seqL_len] at hx; rw [seqL_get _ _ _ hx]; omega) (by rw [seqL_len]; omega)
  rw [hss]
  repeat' ((conv => whnf); first | rw [g1] | rw [g2] | rw [gk] | refine Rng.g ?_ | refine Ob.g ?_ | refine Ob.e ?_ | refine Ob.m ?_ | refine Ob.mk (Nat.le_of_ble_eq_true rfl) ?_ | refine JoinVC.on ?_ | refine Nils.mk (fun h => ?_) ?_ | refine Val.t ?_ | refine Val.d ?_ | refine Mm.mk ?_ | (refine Br.mk (fun h => ?_) (fun h => ?_) <;> first | (exfalso; omega; done) | (exfalso; simp at h; done) | skip))
  conv => whnf
  refine CallVC.mk [] _ _ _ rfl rfl rfl (c54) (fun r m' h' => ?_)
  obtain ⟨rfl, rfl⟩ := h'
  conv => whnf
  repeat' ((conv => whnf); first | refine Rng.g ?_ | refine Ob.g ?_ | refine Ob.e ?_ | refine Ob.m ?_ | refine Ob.mk (Nat.le_of_ble_eq_true rfl) ?_ | refine JoinVC.on ?_ | refine Nils.mk (fun h => ?_) ?_ | refine Val.t ?_ | refine Val.d ?_ | refine Mm.mk ?_ | (refine Br.mk (fun h => ?_) (fun h => ?_) <;> first | (exfalso; omega; done) | (exfalso; simp at h; done) | skip))
  conv => whnf
  refine CallVC.mk [] _ _ _ rfl rfl rfl (c47) (fun r m' h' => ?_)
  obtain ⟨rfl, rfl⟩ := h'
  conv => whnf
  repeat refine Mm.mk ?_
  try refine JoinVC.on ?_
  refine Br.mk (fun hL => ?_) (fun hL => ?_)
  · have hno : ¬ PlanOK F l 0 (plnP P) := fun h => by
      have := hpf.1 h i hi'
      rw [hk, hmm, hss, Int.toNat_natCast, Int.toNat_natCast, Int.toNat_natCast] at this
      rw [show s + m - s = m by omega] at hL
      exact hL this
    have h1 := cosE_plan hA hm hall hs hno
    have h2 : cosN F l P = 0 := if_neg (by rw [h1]; decide)
    rw [h1, h2]
    repeat' ((conv => whnf); first | refine Rng.g ?_ | refine Ob.g ?_ | refine Ob.e ?_ | refine Ob.m ?_ | refine Ob.mk (Nat.le_of_ble_eq_true rfl) ?_ | refine JoinVC.on ?_ | refine Nils.mk (fun h => ?_) ?_ | refine Val.t ?_ | refine Val.d ?_ | refine Mm.mk ?_ | (refine Br.mk (fun h => ?_) (fun h => ?_) <;> first | (exfalso; omega; done) | (exfalso; simp at h; done) | skip))
    repeat refine Mm.mk ?_
    refine EndVC.mk _ rfl _ _ ⟨rfl, rfl⟩ ?_
    refine ⟨[], rfl, rfl, ?_, ?_⟩ <;> repeat' (first | exact trivial | exact rfl | exact Iff.rfl | apply And.intro)
  · have gc' : rI (plA (F.getD k f0) l) 0 (0 + 0 + (0 + 1 + 1 + 1 + 1 + 1 + 1 + 1)) = (F.getD k f0).cost := rfl
    repeat' ((conv => whnf); first | rw [g2] | rw [gc'] | refine Rng.g ?_ | refine Ob.g ?_ | refine Ob.e ?_ | refine Ob.m ?_ | refine Ob.mk (Nat.le_of_ble_eq_true rfl) ?_ | refine JoinVC.on ?_ | refine Nils.mk (fun h => ?_) ?_ | refine Val.t ?_ | refine Val.d ?_ | refine Mm.mk ?_ | (refine Br.mk (fun h => ?_) (fun h => ?_) <;> first | (exfalso; omega; done) | (exfalso; simp at h; done) | skip))
    refine Back.mk (P.length - (i + 1)) _ (by omega) ⟨i + 1, by omega, rfl, fun j hj' => ?_, rfl⟩ ?_
    · rcases Nat.lt_succ_iff_lt_or_eq.1 hj' with h' | rfl
      · exact hlay j h'
      · rw [hk, hmm, hss, Int.toNat_natCast, Int.toNat_natCast, Int.toNat_natCast]
        rw [show s + m - s = m by omega] at hL
        exact Classical.not_not.1 hL
    · rw [hs1, hc1]
      refine ⟨[some 0], rfl, rfl, ?_, ?_⟩ <;> repeat' (first | exact trivial | exact rfl | exact Iff.rfl | apply And.intro)
end Go.Sx

namespace Go.Sx
open Go Go.Proofs
set_option maxRecDepth 10000
set_option maxHeartbeats 16000000
/-! ### The best plan -/
theorem planB_fuel {F : List Fmt} {l : List Sng} : ∀ (n m i : Nat), l.length ≤ i + n → l.length ≤ i + m → planB F l n i = planB F l m i
  | 0, 0, _, _, _ => rfl
  | 0, m + 1, i, h1, _ => by
    unfold planB
    rw [if_neg (by omega)]
  | n + 1, 0, i, _, h2 => by
    unfold planB
    rw [if_neg (by omega)]
  | n + 1, m + 1, i, h1, h2 => by
    unfold planB
    by_cases hi : i < l.length
    · rw [if_pos hi, if_pos hi]
      cases hb : bst F l i with
      | none => rfl
      | some e =>
        obtain ⟨w, k, j⟩ := e
        have h3 := (mem_faces.1 ((bst_ok (F := F) hi).from_ w (k, j) hb).1).lt
        simp only at h3 ⊢
        rw [planB_fuel n m j (by omega) (by omega)]
    · rw [if_neg hi, if_neg hi]
theorem planB_step {F : List Fmt} {l : List Sng} {i k j : Nat} {w : Int × Int} (hi : i < l.length) (hb : bst F l i = some (w, (k, j))) : planB F l l.length i = (k, j - i) :: planB F l l.length j := by
  have h3 := (mem_faces.1 ((bst_ok (F := F) hi).from_ w (k, j) hb).1).lt
  simp only at h3
  rw [planB_fuel l.length (l.length + 1) i (by omega) (by omega)]
  show (if i < l.length then _ else _) = _
  rw [if_pos hi, hb]
def fcsA (P : List (Nat × Nat)) : Arr := P.map fun p => [.int (p.1 : Int), .int (p.2 : Int)]
theorem fcsA_len (P : List (Nat × Nat)) : (fcsA P).length = P.length := by simp [fcsA]
theorem fcsA_snoc (P : List (Nat × Nat)) (p : Nat × Nat) : fcsA (P ++ [p]) = fcsA P ++ [[.int (p.1 : Int), .int (p.2 : Int)]] := by simp [fcsA]
@[reducible] def KF2 : List CK := [.int .i64, .int .i64]
theorem eb69 : Tryd.t69.bytes = 16 := by kernel_rfl
theorem back_pcs (b : Bool) (sel : List Nat) (n : Nat) : ∀ W : List Wth, backSs b sel n (pcs W) = pcs W
  | [] => rfl
  | w :: W => by
    show SV.int .i64 w.c :: SV.int .i64 w.n :: backSs b sel n (pcs W) = _
    rw [back_pcs b sel n W]
    rfl
theorem sets_mk {l A : List SV} {K : List SV → Prop} (h : l.length = A.length) (k : K A) : setsL l 0 (xvCells (.agg A)) K := by
  show setsL l (0 + 0) A K
  rw [sets_full l A K h]
  exact k
theorem pcs_c : ∀ (W : List Wth) (k : Nat), k < W.length → (pcs W)[k * 2]? = some (SV.int .i64 (W.getD k w0).c) ∧ (pcs W)[k * 2 + 1]? = some (SV.int .i64 (W.getD k w0).n)
  | [], k, h => absurd h (Nat.not_lt_zero k)
  | w :: W, 0, _ => ⟨rfl, rfl⟩
  | w :: W, k + 1, h => by
    have h1 := pcs_c W k (by simpa using h)
    rw [show (k + 1) * 2 = k * 2 + 1 + 1 by omega]
    exact h1
theorem pg1 (W : List Wth) (k : Nat) (hk : k < W.length) : getL (pcs W) (0 + k * (0 + 1 + 1) + (0 + 1)) = some (SV.int .i64 (W.getD k w0).n) := by
  rw [getL_eq, ← (pcs_c W k hk).2]
  congr 1
  omega
theorem pg0 (W : List Wth) (k : Nat) (hk : k < W.length) : getL (pcs W) (0 + k * (0 + 1 + 1)) = some (SV.int .i64 (W.getD k w0).c) := by
  rw [getL_eq, ← (pcs_c W k hk).1]
  congr 1
  omega
inductive AlRs (F : List Fmt) (l : List Sng) (r : AV) (m' : List (Option Blk)) : Prop
  | bad (h : fmsE F l ≠ 0) (hr : r = .tup [.one .nils, I 0, I (fmsE F l)]) (hm : m' = [some gNone])
  | none (hA : AlbOK F l) (h : bst F l 0 = none) (hr : r = .tup [.one .nils, I 0, I 15]) (hm : m' = [some gNone])
  | ok (hA : AlbOK F l) (w : Int × Int) (q : Nat × Nat) (h : bst F l 0 = some (w, q)) (hr : r = .tup [.one (.lst false KF2 (fcsA (planB F l l.length 0))), I w.1, I 0]) (hm : m' = [some gNone])
theorem s18a (F : List Fmt) (l : List Sng) (hI : ∀ i, (F.getD i f0).nm.size ≤ 9223372036854775807) : HSpec Tryd.prog 18 [lFmt F, lSng l] [gNone] (AlRs F l) := by
  have e0 : rI [[Cell.int (-1), Cell.int 0]] 0 0 = -1 := rfl
  have e1 : rI [[Cell.int (-1), Cell.int 0]] 0 (0 + 1) = 0 := rfl
  refine spec_of pMix (O := []) Tryd.func18 (c := bodyOf Tryd.f18) rfl (by kernel_rfl) (by kernel_rfl) Tryd.ntmps18 (res := [.tmp 4, .tmp 5, .tmp 6]) (by kernel_rfl) ?_
  repeat' ((conv => whnf); first | refine Rng.g ?_ | refine Ob.g ?_ | refine Ob.e ?_ | refine Ob.m ?_ | refine Ob.mk (Nat.le_of_ble_eq_true rfl) ?_ | refine JoinVC.on ?_ | refine Nils.mk (fun h => ?_) ?_ | refine Val.t ?_ | refine Val.d ?_ | refine Mm.mk ?_ | (refine Br.mk (fun h => ?_) (fun h => ?_) <;> first | (exfalso; omega; done) | (exfalso; simp at h; done) | skip))
  conv => whnf
  refine CallVC.mk [] _ _ _ rfl rfl rfl (s49 F l hI) (fun r m' h' => ?_)
  rcases h' with ⟨he, rfl, rfl⟩ | ⟨he, rfl, rfl⟩ | ⟨hA, rfl, rfl⟩
  · repeat' ((conv => whnf); first | refine Rng.g ?_ | refine Ob.g ?_ | refine Ob.e ?_ | refine Ob.m ?_ | refine Ob.mk (Nat.le_of_ble_eq_true rfl) ?_ | refine JoinVC.on ?_ | refine Nils.mk (fun h => ?_) ?_ | refine Val.t ?_ | refine Val.d ?_ | refine Mm.mk ?_ | (refine Br.mk (fun h => ?_) (fun h => ?_) <;> first | (exfalso; omega; done) | (exfalso; simp at h; done) | skip))
    repeat refine Mm.mk ?_
    conv => whnf
    refine EndVC.mk _ rfl _ _ (.bad he rfl rfl) ?_
    refine ⟨[some 0], rfl, rfl, ?_, ?_⟩ <;> repeat' (first | exact trivial | exact rfl | exact Iff.rfl | apply And.intro)
  · repeat' ((conv => whnf); first | refine Rng.g ?_ | refine Ob.g ?_ | refine Ob.e ?_ | refine Ob.m ?_ | refine Ob.mk (Nat.le_of_ble_eq_true rfl) ?_ | refine JoinVC.on ?_ | refine Nils.mk (fun h => ?_) ?_ | refine Val.t ?_ | refine Val.d ?_ | refine Mm.mk ?_ | (refine Br.mk (fun h => ?_) (fun h => ?_) <;> first | (exfalso; omega; done) | (exfalso; simp at h; done) | skip))
    repeat refine Mm.mk ?_
    conv => whnf
    refine EndVC.mk _ rfl _ _ (.bad he rfl rfl) ?_
    refine ⟨[some 0], rfl, rfl, ?_, ?_⟩ <;> repeat' (first | exact trivial | exact rfl | exact Iff.rfl | apply And.intro)
  have h24 := hA.sngs.len
  repeat' ((conv => whnf); first | refine Rng.g ?_ | refine Ob.g ?_ | refine Ob.e ?_ | refine Ob.m ?_ | refine Ob.mk (Nat.le_of_ble_eq_true rfl) ?_ | refine JoinVC.on ?_ | refine Nils.mk (fun h => ?_) ?_ | refine Val.t ?_ | refine Val.d ?_ | refine Mm.mk ?_ | (refine Br.mk (fun h => ?_) (fun h => ?_) <;> first | (exfalso; omega; done) | (exfalso; simp at h; done) | skip))
  conv => whnf
  refine CallVC.mk [0, 1] _ _ _ rfl rfl rfl (s46b F l hA) (fun r m' h' => ?_)
  obtain ⟨W, Fa, hArr, rfl, rfl⟩ := h'
  conv => whnf
  have lW := hArr.lw
  have lF := hArr.lf
  have q1 : ((lenL (xvCells (XV.agg (pcs W)))).beq Tryd.t87.size && noAny (xvCells (XV.agg (pcs W)))) = true := by
    rw [show xvCells (XV.agg (pcs W)) = pcs W from rfl, noAny_pcs, lenL_eq, pcs_len, lW, sz87]
    rfl
  have q2 : ((lenL (xvCells (XV.agg (pcs Fa)))).beq Tryd.t88.size && noAny (xvCells (XV.agg (pcs Fa)))) = true := by
    rw [show xvCells (XV.agg (pcs Fa)) = pcs Fa from rfl, noAny_pcs, lenL_eq, pcs_len, lF, sz88]
    rfl
  have b1 := pw_ble W 0 Tryd.t86.size (by rw [sz86]; exact Nat.le_refl 2) (by omega)
  have g1 : takeL (dropL (pcs W) (0 + 0 * (0 + 1 + 1))) Tryd.t86.size = [SV.int .i64 (W.getD 0 w0).c, SV.int .i64 (W.getD 0 w0).n] := by rw [sz86]; exact pw_get W 0 (by omega)
  rw [back_pcs]
  repeat' ((conv => whnf); first | rw [q1] | rw [q2] | rw [fSs_eq] | rw [back_pcs] | refine Rng.g ?_ | refine Ob.g ?_ | refine Ob.e ?_ | refine Ob.m ?_ | refine Ob.mk (Nat.le_of_ble_eq_true rfl) ?_ | refine JoinVC.on ?_ | refine Nils.mk (fun h => ?_) ?_ | refine Val.t ?_ | refine Val.d ?_ | refine Mm.mk ?_ | (refine Br.mk (fun h => ?_) (fun h => ?_) <;> first | (exfalso; omega; done) | (exfalso; simp at h; done) | skip))
  refine sets_mk (by rw [pcs_len, lW]; rfl) ?_
  repeat' ((conv => whnf); first | rw [q1] | rw [q2] | rw [fSs_eq] | rw [back_pcs] | refine Rng.g ?_ | refine Ob.g ?_ | refine Ob.e ?_ | refine Ob.m ?_ | refine Ob.mk (Nat.le_of_ble_eq_true rfl) ?_ | refine JoinVC.on ?_ | refine Nils.mk (fun h => ?_) ?_ | refine Val.t ?_ | refine Val.d ?_ | refine Mm.mk ?_ | (refine Br.mk (fun h => ?_) (fun h => ?_) <;> first | (exfalso; omega; done) | (exfalso; simp at h; done) | skip))
  refine sets_mk (by rw [pcs_len, lF]; rfl) ?_
  have hw0 := hArr.w 0 (Nat.le_refl 0) (Nat.zero_le _)
  rw [hw0] at g1
  have e00 : Int.toNat 0 = 0 := rfl
  cases hb : bst F l 0 with
  | none =>
    rw [hb] at g1
    repeat' ((conv => whnf); first | rw [q1] | rw [q2] | rw [fSs_eq] | rw [e00] | rw [b1] | rw [g1] | rw [e0] | rw [e1] | refine Rng.g ?_ | refine Ob.g ?_ | refine Ob.e ?_ | refine Ob.m ?_ | refine Ob.mk (Nat.le_of_ble_eq_true rfl) ?_ | refine JoinVC.on ?_ | refine Nils.mk (fun h => ?_) ?_ | refine Val.t ?_ | refine Val.d ?_ | refine Mm.mk ?_ | (refine Br.mk (fun h => ?_) (fun h => ?_) <;> first | (exfalso; omega; done) | (exfalso; simp at h; done) | skip))
    all_goals first | (exfalso; exact h ⟨rfl, rfl, trivial⟩) | skip
    repeat refine Mm.mk ?_
    conv => whnf
    refine EndVC.mk _ rfl _ _ (.none hA hb rfl rfl) ?_
    refine ⟨[some 0], rfl, rfl, ?_, ?_⟩ <;> repeat' (first | exact trivial | exact rfl | exact Iff.rfl | apply And.intro)
  | some e =>
    rw [hb] at g1
    obtain ⟨w, q⟩ := e
    obtain ⟨⟨c1, c2⟩, c3, c4⟩ := bst_bd hA (Nat.zero_le _) hb
    have hne : ¬ ((wOf (some (w, q))).c = -1) := fun h => by simp only [wOf] at h; omega
    have hne2 : ¬ ((wOf (some (w, q))).c = -1 ∧ (wOf (some (w, q))).n = 0 ∧ True) := fun h => hne h.1
    repeat' ((conv => whnf); first | rw [q1] | rw [q2] | rw [fSs_eq] | rw [e00] | rw [b1] | rw [g1] | rw [e0] | rw [e1] | refine Rng.g ?_ | refine Ob.g ?_ | refine Ob.e ?_ | refine Ob.m ?_ | refine Ob.mk (Nat.le_of_ble_eq_true rfl) ?_ | refine JoinVC.on ?_ | refine Nils.mk (fun h => ?_) ?_ | refine Val.t ?_ | refine Val.d ?_ | refine Mm.mk ?_ | (refine Br.mk (fun h => ?_) (fun h => ?_) <;> first | (exfalso; omega; done) | (exfalso; simp at h; done) | skip))
    all_goals first | contradiction | skip
    all_goals (first | (exfalso; rename_i hx; exact hne2 hx) | skip)
    refine LoopVC.mk (fun n st => ∃ (i : Nat) (D : List (Nat × Nat)), i ≤ l.length ∧ n = l.length - i ∧ (∃ e, bst F l i = some e) ∧ planB F l l.length 0 = D ++ planB F l l.length i ∧ D.length ≤ i ∧ st = ⟨1, envA 53 [(7, .x (.one (.ptr 1 0))), (9, .x (.one (.ptr 2 0))), (10, .x (.one (.ptr 3 0))), (11, .x (.one (.own 4))), (12, .int .i64 (i : Int))], [some gNone, some (bAlb F l (l.length : Int)), some (.box 87 (pcs W)), some (.box 88 (pcs Fa)), some (.row 69 false KF2 (fcsA D))]⟩) _ _ ⟨0, [], Nat.zero_le _, rfl, ⟨_, hb⟩, rfl, Nat.le_refl _, rfl⟩ ?_ ?_
    · refine ⟨[some 0, some 1, some 2, some 3, none], rfl, rfl, ?_, ?_⟩ <;> repeat' (first | exact trivial | exact rfl | exact Iff.rfl | apply And.intro)
      all_goals first | exact pcs_le _ _ _ _ | skip
    rintro n _ ⟨i, D, hi, hn, ⟨e, he⟩, hP, hD, rfl⟩
    have lD := fcsA_len D
    have ext : (i : Int).toNat = i := Int.toNat_natCast i
    by_cases hi' : i < l.length
    rotate_left
    · have ei : i = l.length := by omega
      subst ei
      have hfin : planB F l l.length l.length = [] := by
        rw [planB_fuel l.length 0 l.length (by omega) (by omega)]
        rfl
      rw [hfin, List.append_nil] at hP
      have p0 : getL (pcs W) (0 + 0 * (0 + 1 + 1)) = some (SV.int .i64 w.1) := by rw [pg0 W 0 (by omega), hw0, hb]; rfl
      repeat' ((conv => whnf); first | rw [e00] | rw [p0] | refine Rng.g ?_ | refine Ob.g ?_ | refine Ob.e ?_ | refine Ob.m ?_ | refine Ob.mk (Nat.le_of_ble_eq_true rfl) ?_ | refine JoinVC.on ?_ | refine Nils.mk (fun h => ?_) ?_ | refine Val.t ?_ | refine Val.d ?_ | refine Mm.mk ?_ | (refine Br.mk (fun h => ?_) (fun h => ?_) <;> first | (exfalso; omega; done) | (exfalso; simp at h; done) | skip))
      repeat refine Mm.mk ?_
      conv => whnf
      refine EndVC.mk _ rfl _ _ (.ok hA w q hb rfl rfl) ?_
      refine ⟨[some 0], rfl, rfl, ?_, ?_⟩ <;> repeat' (first | exact trivial | exact rfl | exact Iff.rfl | apply And.intro)
      rw [hP]
    obtain ⟨w', k, j⟩ := e
    have hfi : Fa.getD i w0 = ⟨(k : Int), (j : Int) - (i : Int)⟩ := hArr.f i _ (Nat.zero_le _) hi' he
    have hstep := planB_step hi' he
    have hj := mem_faces.1 ((bst_ok (F := F) hi').from_ w' (k, j) he).1
    have hj1 := hj.lt
    have hj2 := hj.le
    obtain ⟨h1, w2, f2, h3, _⟩ := (bst_ok (F := F) hi').from_ w' (k, j) he
    have b3 := pw_ble Fa i Tryd.t69.size (by rw [sz69]; exact Nat.le_refl 2) (by omega)
    have g3 : takeL (dropL (pcs Fa) (0 + i * (0 + 1 + 1))) Tryd.t69.size = [SV.int .i64 (Fa.getD i w0).c, SV.int .i64 (Fa.getD i w0).n] := by rw [sz69]; exact pw_get Fa i (by omega)
    have g4 := pg1 Fa i (by omega)
    rw [hfi] at g3 g4
    simp only at g3 g4
    have hsn := (fcsA_snoc D (k, j - i)).symm
    simp only at hj1 hj2 h3
    have ek : ((j - i : Nat) : Int) = (j : Int) - (i : Int) := by omega
    simp only [ek] at hsn
    repeat' ((conv => whnf); first | rw [ext] | rw [b3] | rw [g3] | rw [g4] | rw [fSs_eq] | refine Rng.g ?_ | refine Ob.g ?_ | refine Ob.e ?_ | refine Ob.m ?_ | refine Ob.mk (Nat.le_of_ble_eq_true rfl) ?_ | refine JoinVC.on ?_ | refine Nils.mk (fun h => ?_) ?_ | refine Val.t ?_ | refine Val.d ?_ | refine Mm.mk ?_ | (refine Br.mk (fun h => ?_) (fun h => ?_) <;> first | (exfalso; omega; done) | (exfalso; simp at h; done) | skip))
    repeat refine Mm.mk ?_
    refine Ob.mk (by rw [eb69]; simp only [List.length_cons, List.length_nil]; omega) ?_
    repeat' ((conv => whnf); first | rw [ext] | rw [b3] | rw [g3] | rw [g4] | rw [fSs_eq] | refine Rng.g ?_ | refine Ob.g ?_ | refine Ob.e ?_ | refine Ob.m ?_ | refine Ob.mk (Nat.le_of_ble_eq_true rfl) ?_ | refine JoinVC.on ?_ | refine Nils.mk (fun h => ?_) ?_ | refine Val.t ?_ | refine Val.d ?_ | refine Mm.mk ?_ | (refine Br.mk (fun h => ?_) (fun h => ?_) <;> first | (exfalso; omega; done) | (exfalso; simp at h; done) | skip))
    refine Back.mk (l.length - j) _ (by omega) ⟨j, D ++ [(k, j - i)], by omega, rfl, ⟨_, h3⟩, by rw [hP, hstep, List.append_assoc]; rfl, by rw [List.length_append, List.length_singleton]; omega, rfl⟩ ?_
    refine ⟨[some 0, some 1, some 2, some 3, some 6], rfl, rfl, ?_, ?_⟩ <;> repeat' (first | exact trivial | exact rfl | exact Iff.rfl | apply And.intro)
    all_goals first | exact pcs_le _ _ _ _ | omega | exact hsn | (rw [fcsA_snoc]; simp only [ek])
end Go.Sx
