import Derived.Test.YtaehphnchiffnaaDoorXd
import Derived.Test.YtaehphnchiffnaaDoorProg
import Derived.Laws.Bits64b
namespace Go.Sx
open Go Go.Proofs
set_option maxRecDepth 10000
set_option maxHeartbeats 4000000
/-! ### Names -/
def okC (c : Int) : Prop := (97 ≤ c ∧ c ≤ 122) ∨ (48 ≤ c ∧ c ≤ 57)
def chr (s : ByteArray) (j : Nat) : Int := ((s.data.toList.getD j 0).toNat : Int)
def nameOK (s : ByteArray) : Prop := 1 ≤ s.size ∧ s.size ≤ 20 ∧ ∀ j, j < s.size → okC (chr s j)
theorem gset {α : Type} (l : List α) (i j : Nat) (a d : α) (h : i < l.length) : (l.set i a).getD j d = if j = i then a else l.getD j d := by
  simp only [List.getD_eq_getElem?_getD, List.getElem?_set]
  by_cases e : i = j
  · subst e; simp [h]
  · rw [if_neg e, if_neg (fun h => e h.symm)]
/-! ### A groove without a signal, and a groove in its band -/
/-! ### Sorting by insertion -/
def swp (O : List Int) (j : Nat) : List Int := (O.set (j + 1) (O.getD j 0)).set j (O.getD (j + 1) 0)
def ins (lt : Int → Int → Bool) (O : List Int) : Nat → List Int
  | 0 => O
  | j + 1 => if lt (O.getD (j + 1) 0) (O.getD j 0) = true then ins lt (swp O j) j else O
def isr (lt : Int → Int → Bool) (O : List Int) : Nat → List Int
  | 0 => O
  | k + 1 => ins lt (isr lt O k) (k + 1)
theorem swp_len (O : List Int) (j : Nat) : (swp O j).length = O.length := by simp [swp]
theorem ins_len (lt : Int → Int → Bool) : ∀ (j : Nat) (O : List Int), (ins lt O j).length = O.length
  | 0, O => rfl
  | j + 1, O => by
    unfold ins
    split
    · rw [ins_len lt j, swp_len]
    · rfl
theorem isr_len (lt : Int → Int → Bool) (O : List Int) : ∀ k, (isr lt O k).length = O.length
  | 0 => rfl
  | k + 1 => by
    unfold isr
    rw [ins_len, isr_len lt O k]
/-- Each number below n, once. -/
structure IdxOK (O : List Int) (n : Nat) : Prop where
  len : O.length = n
  rng : ∀ i, i < n → 0 ≤ O.getD i 0 ∧ O.getD i 0 < n
  inj : ∀ i j, i < n → j < n → O.getD i 0 = O.getD j 0 → i = j
def sgF (j i : Nat) : Nat := if i = j then j + 1 else if i = j + 1 then j else i
theorem swp_get (O : List Int) {j : Nat} (h : j + 1 < O.length) (i : Nat) : (swp O j).getD i 0 = O.getD (sgF j i) 0 := by
  unfold swp sgF
  rw [gset _ _ _ _ _ (by simp; omega), gset _ _ _ _ _ h]
  split
  · rfl
  · split <;> rfl
theorem sg_lt {n j i : Nat} (hj : j + 1 < n) (hi : i < n) : sgF j i < n := by unfold sgF; split <;> (try split) <;> omega
theorem sg_inj {j i k : Nat} (h : sgF j i = sgF j k) : i = k := by unfold sgF at h; (repeat' split at h) <;> omega
theorem IdxOK.swp {O : List Int} {n : Nat} (h : IdxOK O n) {j : Nat} (hj : j + 1 < n) : IdxOK (Go.Sx.swp O j) n := by
  have hl := h.len
  have g := swp_get O (j := j) (by omega)
  refine ⟨by rw [swp_len]; exact hl, fun i hi => ?_, fun i k hi hk => ?_⟩
  · rw [g]
    exact h.rng _ (sg_lt hj hi)
  · rw [g, g]
    exact fun e => sg_inj (h.inj _ _ (sg_lt hj hi) (sg_lt hj hk) e)
theorem IdxOK.ins {lt : Int → Int → Bool} {n : Nat} : ∀ (j : Nat) {O : List Int}, IdxOK O n → j < n → IdxOK (Go.Sx.ins lt O j) n
  | 0, O, h, _ => h
  | j + 1, O, h, hj => by
    unfold Go.Sx.ins
    split
    · exact IdxOK.ins j (h.swp hj) (by omega)
    · exact h
theorem IdxOK.isr {lt : Int → Int → Bool} {n : Nat} {O : List Int} (h : IdxOK O n) : ∀ k, k < n → IdxOK (Go.Sx.isr lt O k) n
  | 0, _ => h
  | k + 1, hk => by
    unfold Go.Sx.isr
    exact IdxOK.ins (k + 1) (h.isr k (by omega)) hk
def spanL (i n : Nat) : List Int := (List.range n).map fun k => ((i + k : Nat) : Int)
theorem spanL_len (i n : Nat) : (spanL i n).length = n := by simp [spanL]
theorem spanL_get (i n k : Nat) (h : k < n) : (spanL i n).getD k 0 = ((i + k : Nat) : Int) := by simp [spanL, List.getD_eq_getElem?_getD, List.getElem?_range h]
theorem spanL_succ (i n : Nat) : spanL i (n + 1) = spanL i n ++ [((i + n : Nat) : Int)] := by simp [spanL, List.range_succ]
theorem span_idx (n : Nat) : IdxOK (spanL 0 n) n := ⟨spanL_len 0 n, fun i hi => by rw [spanL_get _ _ _ hi]; omega, fun i j hi hj e => by rw [spanL_get _ _ _ hi, spanL_get _ _ _ hj] at e; omega⟩
/-! ### The bands of a side -/
structure Fmt where
  nm : ByteArray
  outer : Int
  inner : Int
  per : Int
  lead : Int
  gap : Int
  tail : Int
  cost : Int
structure FmtOK (f : Fmt) : Prop where
  nm : nameOK f.nm
  outer : 1 ≤ f.outer ∧ f.outer ≤ 4194304
  inner : 0 ≤ f.inner ∧ f.inner ≤ f.outer - 1
  per : 1 ≤ f.per ∧ f.per ≤ 65536
  cost : 0 ≤ f.cost ∧ f.cost ≤ 1048576
  lead : 0 ≤ f.lead ∧ f.lead ≤ 4194304
  gap : 0 ≤ f.gap ∧ f.gap ≤ 4194304
  tail : 0 ≤ f.tail ∧ f.tail ≤ 4194304
structure Sng where
  long : Int
  pitch : Int
  least : Int
abbrev g0 : Sng := ⟨0, 0, 0⟩
def Sng.ok (g : Sng) : Prop := (1 ≤ g.long ∧ g.long ≤ 16777216) ∧ (1 ≤ g.pitch ∧ g.pitch ≤ 4096) ∧ (0 ≤ g.least ∧ g.least ≤ 4194304)
structure SngsOK (l : List Sng) : Prop where
  len : l.length ≤ 24
  each : ∀ j, j < l.length → (l.getD j g0).ok
def widF (f : Fmt) (g : Sng) : Int := g.pitch * ((g.long + f.per - 1) / f.per)
theorem wid_bd {f : Fmt} {g : Sng} (hp : 1 ≤ f.per) (hg : g.ok) : (1 ≤ (g.long + f.per - 1) / f.per ∧ (g.long + f.per - 1) / f.per ≤ 16777216) ∧ 1 ≤ widF f g ∧ widF f g ≤ 68719476736 := by
  obtain ⟨⟨l1, l2⟩, ⟨p1, p2⟩, _⟩ := hg
  have h1 : 1 ≤ (g.long + f.per - 1) / f.per := by
    have := Int.add_mul_ediv_left (g.long - 1) 1 (show f.per ≠ 0 by omega)
    rw [show g.long - 1 + f.per * 1 = g.long + f.per - 1 by omega] at this
    have h2 : 0 ≤ (g.long - 1) / f.per := Int.ediv_nonneg (by omega) (by omega)
    omega
  have h2 : (g.long + f.per - 1) / f.per ≤ 16777216 := by
    have := Int.add_mul_ediv_left (g.long - 1) 1 (show f.per ≠ 0 by omega)
    rw [show g.long - 1 + f.per * 1 = g.long + f.per - 1 by omega] at this
    have h3 : (g.long - 1) / f.per ≤ g.long - 1 := Int.ediv_le_self _ (by omega)
    omega
  refine ⟨⟨h1, h2⟩, ?_, ?_⟩
  · unfold widF
    have := Int.mul_le_mul p1 h1 (by decide) (by omega)
    omega
  · unfold widF
    have := Int.mul_le_mul p2 h2 (by omega) (by decide)
    omega
/-- Where the next track begins or ends. -/
def atF (f : Fmt) (l : List Sng) (O : List Int) : Nat → Int
  | 0 => f.outer - f.lead
  | i + 1 => atF f l O i - (if 0 < i then f.gap else 0) - widF f (l.getD (O.getD i 0).toNat g0)
theorem atF_bd {f : Fmt} {l : List Sng} {O : List Int} (hf : FmtOK f) (hl : SngsOK l) (hO : ∀ i, i < O.length → 0 ≤ O.getD i 0 ∧ O.getD i 0 < l.length) : ∀ i, i ≤ O.length → atF f l O i ≤ 4194304 ∧ -4194304 - 68723671040 * (i : Int) ≤ atF f l O i
  | 0, _ => by
    have := hf.outer
    have := hf.lead
    unfold atF
    omega
  | i + 1, hi => by
    have h1 := atF_bd hf hl hO i (by omega)
    have h2 := hO i (by omega)
    have h3 := (wid_bd hf.per.1 (hl.each (O.getD i 0).toNat (by omega))).2
    have := hf.gap
    unfold atF
    split <;> omega
def bndR (f : Fmt) (l : List Sng) (O : List Int) (i : Nat) : List Cell := [.int (O.getD i 0), .int (atF f l O i - (if 0 < i then f.gap else 0)), .int (atF f l O (i + 1))]
def bndA (f : Fmt) (l : List Sng) (O : List Int) (n : Nat) : Arr := (List.range n).map (bndR f l O)
theorem bndA_len (f : Fmt) (l : List Sng) (O : List Int) (n : Nat) : (bndA f l O n).length = n := by simp [bndA]
theorem bndA_succ (f : Fmt) (l : List Sng) (O : List Int) (n : Nat) : bndA f l O (n + 1) = bndA f l O n ++ [bndR f l O n] := by simp [bndA, List.range_succ]
def okAt (f : Fmt) (l : List Sng) (O : List Int) (i : Nat) : Prop := (l.getD (O.getD i 0).toNat g0).least ≤ atF f l O (i + 1)
def LayOK (f : Fmt) (l : List Sng) (O : List Int) : Prop := (∀ i, i < O.length → okAt f l O i) ∧ f.inner ≤ atF f l O O.length - f.tail
def cmpI (x y : Int) : Int := if x < y then -1 else if y < x then 1 else 0
def usF (l : List Sng) (a b : Int) : Int := if cmpI (l.getD b.toNat g0).least (l.getD a.toNat g0).least ≠ 0 then cmpI (l.getD b.toNat g0).least (l.getD a.toNat g0).least else cmpI a b
def usB (l : List Sng) (a b : Int) : Bool := decide (usF l a b < 0)
def allO (l : List Sng) : List Int := isr (usB l) (spanL 0 l.length) (l.length - 1)
theorem allO_idx (l : List Sng) : IdxOK (allO l) l.length := by
  unfold allO
  by_cases h : l.length = 0
  · rw [h]; exact span_idx 0
  · exact (span_idx _).isr _ (by omega)
/-! ### If any order is possible, the usual one is: plain laws for the statements about sides -/
def loadL (w : Int → Int) : List Int → Int
  | [] => 0
  | x :: t => w x + loadL w t
theorem load_app (w : Int → Int) : ∀ X Y, loadL w (X ++ Y) = loadL w X + loadL w Y
  | [], Y => by simp [loadL]
  | x :: X, Y => by
    simp only [List.cons_append, loadL, load_app w X Y]
    omega
theorem load_nn (w : Int → Int) : ∀ X, (∀ x, x ∈ X → 0 ≤ w x) → 0 ≤ loadL w X
  | [], _ => Int.le_refl 0
  | x :: X, h => by
    have h1 := h x List.mem_cons_self
    have h2 := load_nn w X fun y hy => h y (List.mem_cons_of_mem _ hy)
    unfold loadL
    omega
theorem load_erase (w : Int → Int) {x : Int} : ∀ {Y : List Int}, x ∈ Y → loadL w Y = w x + loadL w (Y.erase x)
  | [], h => by simp at h
  | y :: Y, h => by
    by_cases e : y = x
    · subst e
      rw [List.erase_cons_head]
      rfl
    · have hx : x ∈ Y := by
        rcases List.mem_cons.1 h with h1 | h1
        · exact absurd h1.symm e
        · exact h1
      rw [List.erase_cons_tail (by simpa using e)]
      simp only [loadL]
      rw [load_erase w hx]
      omega
theorem load_le (w : Int → Int) : ∀ {X Y : List Int}, X.Nodup → (∀ x, x ∈ X → x ∈ Y) → (∀ y, y ∈ Y → 0 ≤ w y) → loadL w X ≤ loadL w Y
  | [], Y, _, _, hw => load_nn w Y hw
  | x :: X, Y, hn, hs, hw => by
    have hx : x ∈ Y := hs x List.mem_cons_self
    obtain ⟨h1, h2⟩ := List.nodup_cons.1 hn
    rw [load_erase w hx]
    have h3 := load_le w (X := X) (Y := Y.erase x) h2 (fun y hy => by
      have hne : y ≠ x := fun e => h1 (e ▸ hy)
      exact (List.mem_erase_of_ne hne).2 (hs y (List.mem_cons_of_mem _ hy))) (fun y hy => hw y (List.mem_of_mem_erase hy))
    show w x + loadL w X ≤ w x + loadL w (Y.erase x)
    omega
def wG (f : Fmt) (l : List Sng) (q : Int) : Int := widF f (l.getD q.toNat g0) + f.gap
theorem take_at (O : List Int) (i : Nat) (h : i < O.length) : O.take (i + 1) = O.take i ++ [O.getD i 0] := by
  rw [List.take_succ_eq_append_getElem h]
  simp [List.getD_eq_getElem?_getD, h]
theorem atF_load (f : Fmt) (l : List Sng) (O : List Int) : ∀ i, i ≤ O.length → atF f l O i = f.outer - f.lead + (if 0 < i then f.gap else 0) - loadL (wG f l) (O.take i)
  | 0, _ => by simp [atF, loadL]
  | i + 1, h => by
    have h1 := atF_load f l O i (by omega)
    rw [take_at O i h, load_app, if_pos (Nat.succ_pos i)]
    unfold atF
    rw [h1]
    simp only [loadL, wG]
    split <;> omega
/-- The usual order: nothing stands before what ends nearer to the middle .. -/
def Usu (l : List Sng) (O : List Int) : Prop := ∀ i j, i ≤ j → j < O.length → (l.getD (O.getD j 0).toNat g0).least ≤ (l.getD (O.getD i 0).toNat g0).least
theorem mem_at {O : List Int} {x : Int} (h : x ∈ O) : ∃ i, i < O.length ∧ O.getD i 0 = x := by
  obtain ⟨i, hi, e⟩ := List.mem_iff_getElem.1 h
  exact ⟨i, hi, by simp [List.getD_eq_getElem?_getD, hi, e]⟩
theorem at_mem {O : List Int} {i : Nat} (h : i < O.length) : O.getD i 0 ∈ O := by
  have : O.getD i 0 = O[i] := by simp [List.getD_eq_getElem?_getD, h]
  rw [this]
  exact List.getElem_mem h
theorem at_take {O : List Int} {i k : Nat} (h : i < k) (hk : k ≤ O.length) : O.getD i 0 ∈ O.take k := by
  have h2 : i < (O.take k).length := by rw [List.length_take]; omega
  have := at_mem h2
  have e : (O.take k).getD i 0 = O.getD i 0 := by simp [List.getD_eq_getElem?_getD, h]
  rwa [e] at this
theorem mem_take {O : List Int} {x : Int} {k : Nat} (h : x ∈ O.take k) : ∃ i, i < k ∧ i < O.length ∧ O.getD i 0 = x := by
  obtain ⟨i, hi, e⟩ := mem_at h
  rw [List.length_take] at hi
  refine ⟨i, by omega, by omega, ?_⟩
  rw [← e]
  simp [List.getD_eq_getElem?_getD, show i < k by omega]
/-- The last place of one of some things. -/
theorem last_of (P X : List Int) : ∀ n, n ≤ P.length → (∃ i, i < n ∧ P.getD i 0 ∈ X) → ∃ p, p < n ∧ P.getD p 0 ∈ X ∧ ∀ i, p < i → i < n → P.getD i 0 ∉ X
  | 0, _, ⟨i, hi, _⟩ => absurd hi (Nat.not_lt_zero i)
  | n + 1, hn, ⟨i, hi, hx⟩ => by
    by_cases h : P.getD n 0 ∈ X
    · exact ⟨n, Nat.lt_succ_self n, h, fun i h1 h2 => by omega⟩
    · have : i ≠ n := fun e => h (e ▸ hx)
      obtain ⟨p, h1, h2, h3⟩ := last_of P X n (by omega) ⟨i, by omega, hx⟩
      refine ⟨p, by omega, h2, fun j h4 h5 => ?_⟩
      by_cases e : j = n
      · rw [e]; exact h
      · exact h3 j h4 (by omega)
theorem edd {f : Fmt} {l : List Sng} {O P : List Int} (hO : O.Nodup) (hs : ∀ x, x ∈ O → x ∈ P) (hU : Usu l O) (hw : ∀ y, y ∈ P → 0 ≤ wG f l y) (hP : ∀ i, i < P.length → okAt f l P i) : ∀ i, i < O.length → okAt f l O i := fun i hi => by
  obtain ⟨X, hX⟩ : ∃ X, X = O.take (i + 1) := ⟨_, rfl⟩
  obtain ⟨p0, hp0, e0⟩ := mem_at (hs _ (at_mem hi))
  obtain ⟨p, hp, hpx, hpl⟩ := last_of P X P.length (Nat.le_refl _) ⟨p0, hp0, by rw [e0, hX]; exact at_take (Nat.lt_succ_self i) hi⟩
  have hXn : X.Nodup := by rw [hX]; exact hO.sublist (List.take_sublist _ _)
  have hXP : ∀ x, x ∈ X → x ∈ P.take (p + 1) := fun x hx => by
    obtain ⟨j, hj, e⟩ := mem_at (hs x (by rw [hX] at hx; exact List.mem_of_mem_take hx))
    have hjp : j ≤ p := Classical.byContradiction fun hc => hpl j (by omega) hj (by rw [e]; exact hx)
    rw [← e]
    exact at_take (by omega) hp
  have h1 := load_le (wG f l) hXn hXP fun y hy => hw y (List.mem_of_mem_take hy)
  have h2 := atF_load f l O (i + 1) hi
  have h3 := atF_load f l P (p + 1) hp
  rw [← hX, if_pos (Nat.succ_pos i)] at h2
  rw [if_pos (Nat.succ_pos p)] at h3
  have h4 := hP p hp
  obtain ⟨j, hj1, hj2, e⟩ := mem_take (hX ▸ hpx)
  have h5 := hU j i (by omega) hi
  rw [e] at h5
  unfold okAt at h4 ⊢
  omega
theorem end_le {f : Fmt} {l : List Sng} {O P : List Int} (hO : O.Nodup) (hs : ∀ x, x ∈ O → x ∈ P) (_ : 0 ≤ f.gap) (hw : ∀ y, y ∈ P → 0 ≤ wG f l y) (hw2 : ∀ y, y ∈ P → f.gap ≤ wG f l y) : atF f l P P.length ≤ atF f l O O.length := by
  have h1 := load_le (wG f l) hO hs hw
  have h2 := atF_load f l O O.length (Nat.le_refl _)
  have h3 := atF_load f l P P.length (Nat.le_refl _)
  rw [List.take_length] at h2 h3
  by_cases hO0 : 0 < O.length
  · have hP0 : 0 < P.length := by
      obtain ⟨j, hj, _⟩ := mem_at (hs _ (at_mem hO0))
      omega
    rw [if_pos hO0] at h2
    rw [if_pos hP0] at h3
    omega
  · rw [if_neg hO0] at h2
    have e : O = [] := List.length_eq_zero_iff.1 (by omega)
    rw [e] at h2 h1 ⊢
    by_cases hP0 : 0 < P.length
    · rw [if_pos hP0] at h3
      cases P with
      | nil => simp at hP0
      | cons x P =>
        have h6 := hw2 x List.mem_cons_self
        have h7 := load_nn (wG f l) P fun y hy => hw y (List.mem_cons_of_mem _ hy)
        simp only [loadL, List.length_nil] at h2 h3 ⊢
        omega
    · rw [if_neg hP0] at h3
      simp only [loadL, List.length_nil] at h1 h2 ⊢
      omega
/-- The usual order of some of the tracks is possible if any order of them and others is. -/
theorem usual_ok {f : Fmt} {l : List Sng} {O P : List Int} (hf : FmtOK f) (hl : SngsOK l) (hO : O.Nodup) (hs : ∀ x, x ∈ O → x ∈ P) (hr : ∀ y, y ∈ P → 0 ≤ y ∧ y < l.length) (hU : Usu l O) (hP : LayOK f l P) : LayOK f l O := by
  have hg := hf.gap.1
  have hw2 : ∀ y, y ∈ P → f.gap ≤ wG f l y := fun y hy => by
    have h1 := hr y hy
    have h2 := (wid_bd hf.per.1 (hl.each y.toNat (by omega))).2.1
    unfold wG
    omega
  have hw : ∀ y, y ∈ P → 0 ≤ wG f l y := fun y hy => by have := hw2 y hy; omega
  have h3 := end_le hO hs hg hw hw2
  have h4 := hP.2
  exact ⟨edd hO hs hU hw hP.1, by omega⟩
end Go.Sx

namespace Go.Sx
open Go Go.Proofs
set_option maxRecDepth 10000
set_option maxHeartbeats 4000000
/-! ### Error codes -/
/-- The first number that is not 0. -/
def firstE (g : Nat → Int) : Nat → Int
  | 0 => 0
  | n + 1 => if firstE g n = 0 then g n else firstE g n
theorem firstE_zero {g : Nat → Int} : ∀ {n : Nat}, (∀ j, j < n → g j = 0) → firstE g n = 0
  | 0, _ => rfl
  | n + 1, h => by
    unfold firstE
    rw [if_pos (firstE_zero fun j hj => h j (by omega))]
    exact h n (Nat.lt_succ_self n)
theorem firstE_none {g : Nat → Int} : ∀ {n : Nat}, firstE g n = 0 → ∀ j, j < n → g j = 0
  | 0, _, j, hj => absurd hj (Nat.not_lt_zero j)
  | n + 1, h, j, hj => by
    unfold firstE at h
    split at h
    · rename_i h1
      by_cases e : j = n
      · rw [e]; exact h
      · exact firstE_none h1 j (by omega)
    · rename_i h1
      exact absurd h h1
open Classical in
/-- The error of a format. -/
noncomputable def fmtE (f : Fmt) : Int := if FmtOK f then 0 else 2
open Classical in
/-- The error of tracks. -/
noncomputable def trkE (l : List Sng) : Int := if 24 < l.length then 6 else if SngsOK l then 0 else 2
open Classical in
noncomputable def bothE (f : Fmt) (l : List Sng) : Int := if FmtOK f then trkE l else 2
theorem fmtE_ok {f : Fmt} (h : FmtOK f) : fmtE f = 0 := if_pos h
theorem fmtE_no {f : Fmt} (h : ¬ FmtOK f) : fmtE f = 2 := if_neg h
theorem trkE_ok {l : List Sng} (h : SngsOK l) : trkE l = 0 := by
  unfold trkE
  rw [if_neg (by have := h.len; omega), if_pos h]
theorem trkE_many {l : List Sng} (h : 24 < l.length) : trkE l = 6 := if_pos h
theorem trkE_no {l : List Sng} (h1 : ¬ 24 < l.length) (h2 : ¬ SngsOK l) : trkE l = 2 := by
  unfold trkE
  rw [if_neg h1, if_neg h2]
theorem trkE_0 {l : List Sng} (h : trkE l = 0) : SngsOK l := Classical.byContradiction fun hc => by
  by_cases h1 : 24 < l.length
  · rw [trkE_many h1] at h; cases h
  · rw [trkE_no h1 hc] at h; cases h
theorem bothE_f {f : Fmt} {l : List Sng} (h : ¬ FmtOK f) : bothE f l = 2 := if_neg h
theorem bothE_t {f : Fmt} {l : List Sng} (h : FmtOK f) : bothE f l = trkE l := if_pos h
theorem bothE_ok {f : Fmt} {l : List Sng} (h : FmtOK f) (h2 : SngsOK l) : bothE f l = 0 := by rw [bothE_t h, trkE_ok h2]
/-- The error of an element of an order. -/
def ordA (n : Nat) (O : List Int) (i : Nat) : Int := if O.getD i 0 < 0 ∨ (n : Int) ≤ O.getD i 0 then 3 else if ∃ k, k < i ∧ O.getD k 0 = O.getD i 0 then 12 else 0
def ordE (n : Nat) (O : List Int) : Int := firstE (ordA n O) O.length
theorem ordA_0 {n : Nat} {O : List Int} {i : Nat} : ordA n O i = 0 ↔ (0 ≤ O.getD i 0 ∧ O.getD i 0 < n) ∧ ∀ k, k < i → O.getD k 0 ≠ O.getD i 0 := by
  unfold ordA
  split
  · rename_i h
    exact ⟨fun h1 => (by cases h1), fun h1 => (by omega)⟩
  · rename_i h
    split
    · rename_i h1
      obtain ⟨k, h1, h2⟩ := h1
      exact ⟨fun h1 => (by cases h1), fun h3 => absurd h2 (h3.2 k h1)⟩
    · rename_i h1
      exact ⟨fun _ => ⟨by omega, fun k hk e => h1 ⟨k, hk, e⟩⟩, fun _ => rfl⟩
/-- An order of different tracks. -/
structure OrdOK (n : Nat) (O : List Int) : Prop where
  rng : ∀ i, i < O.length → 0 ≤ O.getD i 0 ∧ O.getD i 0 < n
  inj : ∀ i j, i < O.length → j < O.length → O.getD i 0 = O.getD j 0 → i = j
theorem ordE_0 {n : Nat} {O : List Int} : ordE n O = 0 ↔ OrdOK n O := by
  constructor
  · intro h
    have h1 := fun j hj => ordA_0.1 (firstE_none h j hj)
    refine ⟨fun i hi => (h1 i hi).1, fun i j hi hj e => ?_⟩
    rcases Nat.lt_trichotomy i j with h2 | h2 | h2
    · exact absurd e ((h1 j hj).2 i h2)
    · exact h2
    · exact absurd e.symm ((h1 i hi).2 j h2)
  · intro h
    exact firstE_zero fun j hj => ordA_0.2 ⟨h.rng j hj, fun k hk e => by have := h.inj k j (by omega) hj e; omega⟩
theorem at_nodup {O : List Int} (h : ∀ i j, i < O.length → j < O.length → O.getD i 0 = O.getD j 0 → i = j) : O.Nodup := by
  rw [List.nodup_iff_pairwise_ne, List.pairwise_iff_getElem]
  intro i j hi hj hij e
  have := h i j hi hj (by simp [List.getD_eq_getElem?_getD, hi, hj, e])
  omega
theorem OrdOK.nodup {n : Nat} {O : List Int} (h : OrdOK n O) : O.Nodup := at_nodup h.inj
theorem OrdOK.mem {n : Nat} {O : List Int} (h : OrdOK n O) : ∀ x, x ∈ O → 0 ≤ x ∧ x < n := fun x hx => by
  obtain ⟨i, hi, e⟩ := mem_at hx
  rw [← e]
  exact h.rng i hi
theorem nodup_at {O : List Int} (h : O.Nodup) : ∀ i j, i < O.length → j < O.length → O.getD i 0 = O.getD j 0 → i = j := fun i j hi hj e => by
  simp only [List.getD_eq_getElem?_getD, List.getElem?_eq_getElem hi, List.getElem?_eq_getElem hj, Option.getD_some] at e
  exact (List.getElem_inj h).1 e
theorem OrdOK.of {n : Nat} {O : List Int} (h : O.Nodup) (h2 : ∀ x, x ∈ O → 0 ≤ x ∧ x < n) : OrdOK n O := ⟨fun _ hi => h2 _ (at_mem hi), nodup_at h⟩
/-! ### Orders by places -/
/-! ### An order from which tracks are left out -/
end Go.Sx

namespace Go.Sx
open Go Go.Proofs
set_option maxRecDepth 10000
set_option maxHeartbeats 4000000
/-! ### The usual order of some tracks -/
def lsF (l : List Sng) (x : Int) : Int := (l.getD x.toNat g0).least
theorem usB_iff {l : List Sng} {x y : Int} : usB l x y = true ↔ lsF l y < lsF l x ∨ lsF l x = lsF l y ∧ x < y := by
  unfold usB usF cmpI lsF
  rw [decide_eq_true_iff]
  split <;> split <;> (try split) <;> (try split) <;> omega
theorem usB_irr (l : List Sng) (x : Int) : ¬ usB l x x = true := fun h => by have := usB_iff.1 h; omega
theorem usB_tr {l : List Sng} {x y z : Int} (h : usB l x y = true) (h2 : usB l y z = true) : usB l x z = true := by
  rw [usB_iff] at h h2 ⊢
  omega
theorem usB_tot {l : List Sng} {x y : Int} (h : x ≠ y) : usB l x y = true ∨ usB l y x = true := by
  rw [usB_iff, usB_iff]
  omega
theorem usB_asym {l : List Sng} {x y : Int} (h : usB l x y = true) : ¬ usB l y x = true := fun h2 => usB_irr l x (usB_tr h h2)
def insU (l : List Sng) (x : Int) : List Int → List Int
  | [] => [x]
  | y :: t => if usB l x y = true then x :: y :: t else y :: insU l x t
/-- Some tracks in the usual order. -/
def usu (l : List Sng) : List Int → List Int
  | [] => []
  | x :: t => insU l x (usu l t)
/-- Sorted in the usual order. -/
def SrtU (l : List Sng) (O : List Int) : Prop := O.Pairwise fun x y => usB l x y = true
theorem insU_perm (l : List Sng) (x : Int) : ∀ O, (insU l x O).Perm (x :: O)
  | [] => List.Perm.refl _
  | y :: t => by
    unfold insU
    split
    · exact List.Perm.refl _
    · exact ((insU_perm l x t).cons y).trans (List.Perm.swap x y t)
theorem usu_perm (l : List Sng) : ∀ O, (usu l O).Perm O
  | [] => List.Perm.refl _
  | x :: t => (insU_perm l x _).trans ((usu_perm l t).cons x)
theorem insU_srt {l : List Sng} {x : Int} : ∀ {O : List Int}, SrtU l O → x ∉ O → SrtU l (insU l x O)
  | [], _, _ => by unfold insU SrtU; exact List.pairwise_singleton _ _
  | y :: t, h, hx => by
    unfold SrtU at h ⊢
    obtain ⟨h1, h2⟩ := List.pairwise_cons.1 h
    unfold insU
    split
    · rename_i h3
      refine List.pairwise_cons.2 ⟨fun z hz => ?_, h⟩
      rcases List.mem_cons.1 hz with rfl | hz
      · exact h3
      · exact usB_tr h3 (h1 z hz)
    · rename_i h3
      have hne : x ≠ y := fun e => hx (e ▸ List.mem_cons_self)
      refine List.pairwise_cons.2 ⟨fun z hz => ?_, insU_srt h2 fun h4 => hx (List.mem_cons_of_mem _ h4)⟩
      rcases List.mem_cons.1 ((insU_perm l x t).mem_iff.1 hz) with rfl | hz
      · exact (usB_tot hne).resolve_left h3
      · exact h1 z hz
theorem usu_srt {l : List Sng} : ∀ {O : List Int}, O.Nodup → SrtU l (usu l O)
  | [], _ => List.Pairwise.nil
  | x :: t, h => by
    obtain ⟨h1, h2⟩ := List.nodup_cons.1 h
    exact insU_srt (usu_srt h2) fun h3 => h1 ((usu_perm l t).mem_iff.1 h3)
/-- What is sorted and has the same tracks is the same. -/
theorem srt_uniq {l : List Sng} : ∀ {A B : List Int}, SrtU l A → SrtU l B → A.Perm B → A = B
  | [], B, _, _, h => (List.nil_perm.1 h).symm
  | x :: A, [], _, _, h => absurd (List.perm_nil.1 h) (by simp)
  | x :: A, y :: B, hA, hB, h => by
    unfold SrtU at hA hB
    obtain ⟨a1, a2⟩ := List.pairwise_cons.1 hA
    obtain ⟨b1, b2⟩ := List.pairwise_cons.1 hB
    have e : x = y := by
      refine Classical.byContradiction fun hne => ?_
      have h1 : x ∈ B := by
        rcases List.mem_cons.1 (h.mem_iff.1 List.mem_cons_self) with h1 | h1
        · exact absurd h1 hne
        · exact h1
      have h2 : y ∈ A := by
        rcases List.mem_cons.1 (h.symm.mem_iff.1 List.mem_cons_self) with h1 | h1
        · exact absurd h1.symm hne
        · exact h1
      exact usB_asym (a1 y h2) (b1 x h1)
    subst e
    rw [srt_uniq a2 b2 (List.Perm.cons_inv h)]
theorem usu_uniq {l : List Sng} {O A : List Int} (hO : O.Nodup) (h : SrtU l A) (hp : A.Perm O) : A = usu l O := srt_uniq h (usu_srt hO) (hp.trans (usu_perm l O).symm)
theorem usu_len (l : List Sng) (O : List Int) : (usu l O).length = O.length := (usu_perm l O).length_eq
theorem usu_nodup {l : List Sng} {O : List Int} (h : O.Nodup) : (usu l O).Nodup := (usu_perm l O).nodup_iff.2 h
theorem usu_mem {l : List Sng} {O : List Int} {x : Int} : x ∈ usu l O ↔ x ∈ O := (usu_perm l O).mem_iff
theorem usu_ord {l : List Sng} {n : Nat} {O : List Int} (h : OrdOK n O) : OrdOK n (usu l O) := .of (usu_nodup h.nodup) fun x hx => h.mem x (usu_mem.1 hx)
theorem srt_usu {l : List Sng} {O : List Int} (h : SrtU l O) : Usu l O := fun i j hij hj => by
  by_cases e : i = j
  · rw [e]; exact Int.le_refl _
  · have h1 := (List.pairwise_iff_getElem.1 h) i j (by omega) hj (by omega)
    have h2 := usB_iff.1 h1
    unfold lsF at h2
    simp only [List.getD_eq_getElem?_getD, List.getElem?_eq_getElem hj, List.getElem?_eq_getElem (show i < O.length by omega), Option.getD_some] at h2 ⊢
    omega
/-- If a possible order has all of these tracks, their usual one is possible. -/
theorem usu_lay {f : Fmt} {l : List Sng} {O P : List Int} (hf : FmtOK f) (hl : SngsOK l) (hO : O.Nodup) (hs : ∀ x, x ∈ O → x ∈ P) (hr : ∀ y, y ∈ P → 0 ≤ y ∧ y < l.length) (hP : LayOK f l P) : LayOK f l (usu l O) :=
  usual_ok hf hl (usu_nodup hO) (fun x hx => hs x (usu_mem.1 hx)) hr (srt_usu (usu_srt hO)) hP
/-! ### What insertion gives -/
theorem set_two (a b : Int) : ∀ (A B : List Int), ((A ++ a :: b :: B).set (A.length + 1) a).set A.length b = A ++ b :: a :: B
  | [], B => rfl
  | x :: A, B => by
    have h := set_two a b A B
    simp only [List.cons_append, List.length_cons, List.set_cons_succ]
    rw [h]
theorem swp_perm {O : List Int} {j : Nat} (h : j + 1 < O.length) : (swp O j).Perm O := by
  have h2 : O = O.take j ++ O[j] :: O[j + 1] :: O.drop (j + 2) := by
    conv => lhs; rw [← List.take_append_drop j O, List.drop_eq_getElem_cons (show j < O.length by omega), List.drop_eq_getElem_cons h]
  have hl : (O.take j).length = j := by rw [List.length_take]; omega
  have e1 : O.getD j 0 = O[j] := by simp [List.getD_eq_getElem?_getD, show j < O.length by omega]
  have e2 : O.getD (j + 1) 0 = O[j + 1] := by simp [List.getD_eq_getElem?_getD, h]
  have h3 := set_two O[j] O[j + 1] (O.take j) (O.drop (j + 2))
  rw [← h2, hl] at h3
  unfold swp
  rw [e1, e2, h3]
  conv => rhs; rw [h2]
  exact List.Perm.append_left _ (List.Perm.swap _ _ _)
theorem ins_perm (lt : Int → Int → Bool) : ∀ (j : Nat) (O : List Int), j < O.length → (ins lt O j).Perm O
  | 0, O, _ => List.Perm.refl _
  | j + 1, O, h => by
    unfold ins
    split
    · exact (ins_perm lt j _ (by rw [swp_len]; omega)).trans (swp_perm h)
    · exact List.Perm.refl _
theorem isr_perm (lt : Int → Int → Bool) (O : List Int) : ∀ k, (k < O.length ∨ k = 0) → (isr lt O k).Perm O
  | 0, _ => List.Perm.refl _
  | k + 1, h => by
    unfold isr
    exact (ins_perm lt _ _ (by rw [isr_len]; omega)).trans (isr_perm lt O k (by omega))
/-- Sorted at the first places. -/
def SrtN (l : List Sng) (O : List Int) (n : Nat) : Prop := ∀ i j, i < j → j < n → usB l (O.getD i 0) (O.getD j 0) = true
theorem ins_srt {l : List Sng} (n : Nat) : ∀ (j : Nat) (O : List Int), O.Nodup → j < n → n ≤ O.length → (∀ a b, a < b → b < n → a ≠ j → b ≠ j → usB l (O.getD a 0) (O.getD b 0) = true) → (∀ b, j < b → b < n → usB l (O.getD j 0) (O.getD b 0) = true) → SrtN l (ins (usB l) O j) n
  | 0, O, _, _, _, h1, h2 => by
    intro a b hab hb
    unfold ins
    by_cases e : a = 0
    · rw [e]; exact h2 b (by omega) hb
    · exact h1 a b hab hb e (by omega)
  | j + 1, O, hO, hj, hn, h1, h2 => by
    unfold ins
    split
    · rename_i h3
      have g := swp_get O (j := j) (by omega)
      refine ins_srt n j (swp O j) ((swp_perm (by omega)).nodup_iff.2 hO) (by omega) (by rw [swp_len]; exact hn) (fun a b hab hb ha hb' => ?_) (fun b hjb hb => ?_)
      · rw [g, g]
        unfold sgF
        rw [if_neg ha, if_neg hb']
        split
        · rename_i e
          rw [if_neg (by omega)]
          exact h1 j b (by omega) hb (by omega) (by omega)
        · split
          · exact h1 a j (by omega) (by omega) (by omega) (by omega)
          · exact h1 a b hab hb (by omega) (by omega)
      · rw [g, g]
        unfold sgF
        rw [if_pos rfl, if_neg (by omega)]
        split
        · exact h3
        · exact h2 b (by omega) hb
    · rename_i h3
      have h4 : usB l (O.getD j 0) (O.getD (j + 1) 0) = true := (usB_tot (fun e => by have := nodup_at hO (j + 1) j (by omega) (by omega) e; omega)).resolve_left h3
      intro a b hab hb
      by_cases e1 : a = j + 1
      · rw [e1]; exact h2 b (by omega) hb
      · by_cases e2 : b = j + 1
        · rw [e2]
          by_cases e3 : a = j
          · rw [e3]; exact h4
          · exact usB_tr (h1 a j (by omega) (by omega) (by omega) (by omega)) h4
        · exact h1 a b hab hb e1 e2
theorem isr_srt {l : List Sng} {O : List Int} (hO : O.Nodup) : ∀ k, k < O.length → SrtN l (isr (usB l) O k) (k + 1)
  | 0, _ => fun i j h1 h2 => by omega
  | k + 1, hk => by
    have ih := isr_srt (l := l) hO k (by omega)
    unfold isr
    refine ins_srt (k + 1 + 1) (k + 1) _ ((isr_perm _ O k (by omega)).nodup_iff.2 hO) (by omega) (by rw [isr_len]; omega) (fun a b hab hb ha hb' => ih a b hab (by omega)) (fun b h1 h2 => by omega)
theorem srtN_U {l : List Sng} {O : List Int} (h : SrtN l O O.length) : SrtU l O := by
  unfold SrtU
  rw [List.pairwise_iff_getElem]
  intro i j hi hj hij
  have := h i j hij hj
  simpa [List.getD_eq_getElem?_getD, hi, hj] using this
theorem isr_usu {l : List Sng} {O : List Int} (hO : O.Nodup) : isr (usB l) O (O.length - 1) = usu l O := by
  by_cases h0 : O.length = 0
  · rw [List.length_eq_zero_iff.1 h0]; rfl
  · have h1 := isr_srt (l := l) hO (O.length - 1) (by omega)
    have h2 := isr_len (usB l) O (O.length - 1)
    refine usu_uniq hO (srtN_U ?_) (isr_perm _ O _ (by omega))
    rw [h2, show O.length = O.length - 1 + 1 by omega]
    exact h1
end Go.Sx

namespace Go.Sx
open Go Go.Proofs
set_option maxRecDepth 10000
set_option maxHeartbeats 4000000
/-! ### Packings: plain laws -/
/-- The tracks of a side, by increasing indexes. -/
def onL (P : List Int) (k : Int) : List Int := ((List.range P.length).filter fun j => decide (P.getD j 0 = k)).map fun j : Nat => (j : Int)
theorem getD_app_lt (P : List Int) (x : Int) {j : Nat} (h : j < P.length) : (P ++ [x]).getD j 0 = P.getD j 0 := by
  simp [List.getD_eq_getElem?_getD, List.getElem?_append_left h]
theorem getD_app_eq (P : List Int) (x : Int) : (P ++ [x]).getD P.length 0 = x := by simp [List.getD_eq_getElem?_getD]
theorem onL_snoc (P : List Int) (x k : Int) : onL (P ++ [x]) k = onL P k ++ (if x = k then [(P.length : Int)] else []) := by
  unfold onL
  rw [List.length_append, List.length_singleton, List.range_succ, List.filter_append, List.map_append]
  have e : (List.range P.length).filter (fun j => decide ((P ++ [x]).getD j 0 = k)) = (List.range P.length).filter fun j => decide (P.getD j 0 = k) := by
    refine List.filter_congr fun j hj => ?_
    rw [getD_app_lt P x (List.mem_range.1 hj)]
  rw [e]
  congr 1
  simp only [List.filter_cons, List.filter_nil, getD_app_eq]
  by_cases h : x = k
  · simp [h]
  · simp [h]
theorem mem_onL {P : List Int} {k x : Int} : x ∈ onL P k ↔ ∃ j, j < P.length ∧ P.getD j 0 = k ∧ x = (j : Int) := by
  unfold onL
  simp only [List.mem_map, List.mem_filter, List.mem_range, decide_eq_true_eq]
  constructor
  · rintro ⟨j, ⟨h1, h2⟩, rfl⟩
    exact ⟨j, h1, h2, rfl⟩
  · rintro ⟨j, h1, h2, rfl⟩
    exact ⟨j, ⟨h1, h2⟩, rfl⟩
theorem onL_nodup (P : List Int) (k : Int) : (onL P k).Nodup := by
  unfold onL
  rw [List.nodup_iff_pairwise_ne, List.pairwise_map]
  refine List.Pairwise.imp (R := fun a b => a ≠ b) (fun h e => h (Int.natCast_inj.1 e)) ?_
  exact (List.nodup_iff_pairwise_ne.1 List.nodup_range).filter _
theorem onL_ord (P : List Int) (k : Int) : OrdOK P.length (onL P k) := .of (onL_nodup P k) fun x hx => by
  obtain ⟨j, h1, _, rfl⟩ := mem_onL.1 hx
  omega
theorem OrdOK.up {n m : Nat} {O : List Int} (h : OrdOK n O) (hm : n ≤ m) : OrdOK m O := ⟨fun i hi => by have := h.rng i hi; omega, h.inj⟩
/-- A set of tracks as bits. -/
def maskO : List Int → Nat → Int → Int
  | _, 0, _ => 0
  | P, n + 1, k => maskO P n k + (if P.getD n 0 = k then 2 ^ n else 0)
theorem maskO_bd (P : List Int) (k : Int) : ∀ n, 0 ≤ maskO P n k ∧ maskO P n k < 2 ^ n
  | 0 => by simp [maskO]
  | n + 1 => by
    have h := maskO_bd P k n
    have e : (2 : Int) ^ (n + 1) = 2 ^ n + 2 ^ n := by rw [Int.pow_succ]; omega
    have p : (0 : Int) < 2 ^ n := Int.pow_pos (by decide)
    unfold maskO
    split <;> omega
theorem maskO_congr {P Q : List Int} (k : Int) : ∀ n, (∀ j, j < n → P.getD j 0 = Q.getD j 0) → maskO P n k = maskO Q n k
  | 0, _ => rfl
  | n + 1, h => by
    unfold maskO
    rw [maskO_congr k n fun j hj => h j (by omega), h n (Nat.lt_succ_self n)]
theorem pow_split {j n : Nat} (h : j ≤ n) : (2 : Int) ^ n = 2 ^ (n - j) * 2 ^ j := by
  rw [← Int.pow_add, Nat.sub_add_cancel h]
theorem maskO_bit (P : List Int) (k : Int) (j : Nat) : ∀ n, j < n → maskO P n k / 2 ^ j % 2 = if P.getD j 0 = k then 1 else 0
  | 0, h => absurd h (Nat.not_lt_zero j)
  | n + 1, h => by
    have p : (0 : Int) < 2 ^ j := Int.pow_pos (by decide)
    unfold maskO
    by_cases e : j = n
    · subst e
      have hb := maskO_bd P k j
      by_cases hk : P.getD j 0 = k
      · rw [if_pos hk, if_pos hk]
        have h1 := Int.add_mul_ediv_left (maskO P j k) 1 (Int.ne_of_gt p)
        rw [Int.mul_one] at h1
        rw [h1, Int.ediv_eq_zero_of_lt hb.1 hb.2]
        rfl
      · rw [if_neg hk, if_neg hk, Int.add_zero, Int.ediv_eq_zero_of_lt hb.1 hb.2]
        rfl
    · have ih := maskO_bit P k j n (by omega)
      by_cases hk : P.getD n 0 = k
      · rw [if_pos hk, pow_split (show j ≤ n by omega), Int.mul_comm]
        rw [Int.add_mul_ediv_left _ _ (Int.ne_of_gt p)]
        obtain ⟨d, hd⟩ : ∃ d, n - j = d + 1 := ⟨n - j - 1, by omega⟩
        rw [hd, Int.pow_succ]
        omega
      · rw [if_neg hk, Int.add_zero]
        exact ih
/-- The first of some. -/
def fsO {α : Type} (g : Nat → Option α) : Nat → Option α
  | 0 => none
  | n + 1 => match fsO g n with
    | some x => some x
    | none => g n
theorem fsO_none {α : Type} {g : Nat → Option α} : ∀ {n : Nat}, fsO g n = none ↔ ∀ k, k < n → g k = none
  | 0 => ⟨fun _ k h => absurd h (Nat.not_lt_zero k), fun _ => rfl⟩
  | n + 1 => by
    unfold fsO
    cases h : fsO g n with
    | none =>
      have h1 := fsO_none.1 h
      simp only
      constructor
      · intro h2 k hk
        rcases Nat.lt_succ_iff_lt_or_eq.1 hk with h3 | rfl
        · exact h1 k h3
        · exact h2
      · exact fun h2 => h2 n (Nat.lt_succ_self n)
    | some x =>
      simp only
      constructor
      · intro h2; cases h2
      · intro h2
        rw [fsO_none.2 fun k hk => h2 k (by omega)] at h
        cases h
theorem fsO_at {α : Type} {g : Nat → Option α} {k : Nat} {x : α} (h0 : ∀ j, j < k → g j = none) (h1 : g k = some x) : ∀ {n : Nat}, k < n → fsO g n = some x
  | 0, h => absurd h (Nat.not_lt_zero k)
  | n + 1, h => by
    unfold fsO
    by_cases e : k = n
    · subst e
      rw [fsO_none.2 h0]
      exact h1
    · rw [fsO_at h0 h1 (n := n) (by omega)]
theorem fsO_some {α : Type} {g : Nat → Option α} {x : α} : ∀ {n : Nat}, fsO g n = some x → ∃ k, k < n ∧ g k = some x ∧ ∀ j, j < k → g j = none
  | 0, h => by cases h
  | n + 1, h => by
    unfold fsO at h
    cases h2 : fsO g n with
    | some y =>
      rw [h2] at h
      cases h
      obtain ⟨k, h3, h4⟩ := fsO_some h2
      exact ⟨k, by omega, h4⟩
    | none =>
      rw [h2] at h
      exact ⟨n, Nat.lt_succ_self n, h, fsO_none.1 h2⟩
/-- Have the tracks of a side a possible order? -/
def sideOK (f : Fmt) (l : List Sng) (P : List Int) (k : Int) : Prop := LayOK f l (usu l (onL P k))
open Classical in
/-- The first packing on so many sides that goes on from here: d tracks are left. -/
noncomputable def pkF (f : Fmt) (l : List Sng) (sides : Nat) : Nat → List Int → Nat → Option (List Int)
  | 0, on, used => if used = sides then some on else none
  | d + 1, on, used => fsO (fun k => if sideOK f l (on ++ [(k : Int)]) k then pkF f l sides d (on ++ [(k : Int)]) (max used (k + 1)) else none) (min (used + 1) sides)
/-- A possible packing. -/
structure Packd (f : Fmt) (l : List Sng) (P : List Int) (sides : Nat) : Prop where
  num : ∀ i, i < P.length → 0 ≤ P.getD i 0 ∧ P.getD i 0 < sides
  nxt : ∀ i, i < P.length → ∀ v : Nat, (v : Int) < P.getD i 0 → ∃ j, j < i ∧ P.getD j 0 = v
  all : ∀ v : Nat, v < sides → ∃ j, j < P.length ∧ P.getD j 0 = v
  len : P.length = l.length
  ok : ∀ k : Nat, k < sides → sideOK f l P k
open Classical in
/-- .. as the document finds it. -/
noncomputable def pkR (f : Fmt) (l : List Sng) (sides : Nat) : Nat → List Int → Nat → Option (List Int)
  | 0, on, _ => if Packd f l on sides then some on else none
  | d + 1, on, used => fsO (fun k => pkR f l sides d (on ++ [(k : Int)]) (max used (k + 1))) (min (used + 1) sides)
/-- A list that is numbered as its numbers are first used, with so many used. -/
structure Numb (on : List Int) (used : Nat) : Prop where
  rng : ∀ i, i < on.length → 0 ≤ on.getD i 0 ∧ on.getD i 0 < used
  nxt : ∀ i, i < on.length → ∀ v : Nat, (v : Int) < on.getD i 0 → ∃ j, j < i ∧ on.getD j 0 = v
  all : ∀ v : Nat, v < used → ∃ j, j < on.length ∧ on.getD j 0 = v
theorem numb_nil : Numb [] 0 := ⟨fun i h => absurd h (Nat.not_lt_zero i), fun i h => absurd h (Nat.not_lt_zero i), fun v h => absurd h (Nat.not_lt_zero v)⟩
theorem Numb.snoc {on : List Int} {used k : Nat} (h : Numb on used) (hk : k ≤ used) : Numb (on ++ [(k : Int)]) (max used (k + 1)) := by
  have hm1 : used ≤ max used (k + 1) := Nat.le_max_left _ _
  have hm2 : k + 1 ≤ max used (k + 1) := Nat.le_max_right _ _
  refine ⟨fun i hi => ?_, fun i hi v hv => ?_, fun v hv => ?_⟩
  · rw [List.length_append, List.length_singleton] at hi
    by_cases e : i = on.length
    · rw [e, getD_app_eq]; omega
    · rw [getD_app_lt _ _ (by omega)]
      have := h.rng i (by omega)
      omega
  · rw [List.length_append, List.length_singleton] at hi
    by_cases e : i = on.length
    · rw [e, getD_app_eq] at hv
      obtain ⟨j, h1, h2⟩ := h.all v (by omega)
      exact ⟨j, by omega, by rw [getD_app_lt _ _ h1]; exact h2⟩
    · rw [getD_app_lt _ _ (by omega)] at hv
      obtain ⟨j, h1, h2⟩ := h.nxt i (by omega) v hv
      exact ⟨j, h1, by rw [getD_app_lt _ _ (by omega)]; exact h2⟩
  · by_cases e : v < used
    · obtain ⟨j, h1, h2⟩ := h.all v e
      exact ⟨j, by rw [List.length_append]; omega, by rw [getD_app_lt _ _ h1]; exact h2⟩
    · have e2 : v = k := by
        have : max used (k + 1) = if used ≤ k + 1 then k + 1 else used := Nat.max_def ..
        rw [this] at hv
        split at hv <;> omega
      exact ⟨on.length, by simp, by rw [getD_app_eq, e2]⟩
/-- What is possible of more tracks is possible of fewer. -/
theorem sideOK_mono {f : Fmt} {l : List Sng} (hf : FmtOK f) (hl : SngsOK l) {P Q : List Int} (k : Int) (hQ : Q.length ≤ l.length) (hs : ∀ j, j < P.length → j < Q.length ∧ Q.getD j 0 = P.getD j 0) (h : sideOK f l Q k) : sideOK f l P k := by
  refine usu_lay hf hl (onL_nodup P k) (P := usu l (onL Q k)) (fun x hx => ?_) (fun y hy => ?_) h
  · rw [usu_mem]
    obtain ⟨j, h1, h2, h3⟩ := mem_onL.1 hx
    exact mem_onL.2 ⟨j, (hs j h1).1, by rw [(hs j h1).2]; exact h2, h3⟩
  · rw [usu_mem] at hy
    obtain ⟨j, h1, _, rfl⟩ := mem_onL.1 hy
    omega
theorem onL_other {P : List Int} {x k : Int} (h : x ≠ k) : onL (P ++ [x]) k = onL P k := by
  rw [onL_snoc, if_neg h, List.append_nil]
/-- All sides that are used so far are possible. -/
def Sofar (f : Fmt) (l : List Sng) (on : List Int) (used : Nat) : Prop := ∀ k : Nat, k < used → sideOK f l on k
theorem pkR_pre {f : Fmt} {l : List Sng} {sides : Nat} : ∀ (d : Nat) (on : List Int) (used : Nat) (q : List Int), pkR f l sides d on used = some q → Packd f l q sides ∧ ∀ j, j < on.length → j < q.length ∧ q.getD j 0 = on.getD j 0
  | 0, on, used, q, h => by
    unfold pkR at h
    split at h
    · rename_i hp
      cases h
      exact ⟨hp, fun j hj => ⟨hj, rfl⟩⟩
    · cases h
  | d + 1, on, used, q, h => by
    unfold pkR at h
    obtain ⟨k, _, h2, _⟩ := fsO_some h
    obtain ⟨h3, h4⟩ := pkR_pre d _ _ q h2
    refine ⟨h3, fun j hj => ?_⟩
    have := h4 j (by rw [List.length_append]; omega)
    rw [getD_app_lt _ _ hj] at this
    exact this
open Classical in
/-- The works' packing is the document's. -/
theorem pk_eq {f : Fmt} {l : List Sng} (hf : FmtOK f) (hl : SngsOK l) {sides : Nat} : ∀ (d : Nat) (on : List Int) (used : Nat), on.length + d = l.length → Numb on used → used ≤ sides → Sofar f l on used → pkF f l sides d on used = pkR f l sides d on used
  | 0, on, used, hlen, hN, hu, hS => by
    unfold pkF pkR
    by_cases h : used = sides
    · subst h
      rw [if_pos rfl, if_pos ⟨hN.rng, hN.nxt, hN.all, hlen, hS⟩]
    · rw [if_neg h, if_neg]
      intro hp
      obtain ⟨j, h1, h2⟩ := hp.all used (by omega)
      have := (hN.rng j h1).2
      omega
  | d + 1, on, used, hlen, hN, hu, hS => by
    unfold pkF pkR
    have key : ∀ k, k < min (used + 1) sides → (if sideOK f l (on ++ [(k : Int)]) k then pkF f l sides d (on ++ [(k : Int)]) (max used (k + 1)) else none) = pkR f l sides d (on ++ [(k : Int)]) (max used (k + 1)) := fun k hk => by
      have hk1 : k < used + 1 := Nat.lt_of_lt_of_le hk (Nat.min_le_left _ _)
      have hk2 : k < sides := Nat.lt_of_lt_of_le hk (Nat.min_le_right _ _)
      split
      · rename_i hs
        refine pk_eq hf hl d _ _ (by rw [List.length_append, List.length_singleton]; omega) (hN.snoc (by omega)) (Nat.max_le.2 ⟨hu, hk2⟩) fun v hv => ?_
        by_cases e : (k : Int) = v
        · rw [← e]; exact hs
        · unfold sideOK
          rw [onL_other e]
          refine hS v ?_
          have : max used (k + 1) = if used ≤ k + 1 then k + 1 else used := Nat.max_def ..
          rw [this] at hv
          split at hv <;> omega
      · rename_i hs
        cases h : pkR f l sides d (on ++ [(k : Int)]) (max used (k + 1)) with
        | none => rfl
        | some q =>
          obtain ⟨h1, h2⟩ := pkR_pre d _ _ q h
          exact absurd (sideOK_mono hf hl k (by rw [h1.len]; exact Nat.le_refl _) h2 (h1.ok k hk2)) hs
    have : ∀ n, n ≤ min (used + 1) sides → fsO (fun k => if sideOK f l (on ++ [(k : Int)]) k then pkF f l sides d (on ++ [(k : Int)]) (max used (k + 1)) else none) n = fsO (fun k => pkR f l sides d (on ++ [(k : Int)]) (max used (k + 1))) n := fun n => by
      induction n with
      | zero => exact fun _ => rfl
      | succ n ih =>
        intro hn
        unfold fsO
        rw [ih (by omega)]
        simp only [key n (by omega)]
    exact this _ (Nat.le_refl _)
/-- If there is a packing that goes on from here, one is found. -/
theorem pkR_has {f : Fmt} {l : List Sng} {sides : Nat} {q : List Int} (hq : Packd f l q sides) : ∀ (d : Nat) (on : List Int) (used : Nat), on.length + d = l.length → Numb on used → (∀ j, j < on.length → q.getD j 0 = on.getD j 0) → pkR f l sides d on used ≠ none
  | 0, on, used, hlen, hN, hpre => by
    have e : q = on := list_ext_getD (by rw [hq.len]; omega) fun j hj => hpre j (by have := hq.len; omega)
    unfold pkR
    rw [if_pos (e ▸ hq)]
    simp
  | d + 1, on, used, hlen, hN, hpre => by
    unfold pkR
    intro hn
    have hql := hq.len
    obtain ⟨k, hk⟩ : ∃ k : Nat, q.getD on.length 0 = k := ⟨(q.getD on.length 0).toNat, by have := (hq.num on.length (by omega)).1; omega⟩
    have h1 := hq.num on.length (by omega)
    have hku : k ≤ used := Classical.byContradiction fun hc => by
      obtain ⟨j, h2, h3⟩ := hq.nxt on.length (by omega) used (by omega)
      rw [hpre j h2] at h3
      have := (hN.rng j h2).2
      omega
    have h2 := fsO_none.1 hn k (Nat.lt_min.2 ⟨by omega, by omega⟩)
    refine pkR_has hq d _ _ (by rw [List.length_append, List.length_singleton]; omega) (hN.snoc hku) (fun j hj => ?_) h2
    rw [List.length_append, List.length_singleton] at hj
    by_cases e : j = on.length
    · rw [e, getD_app_eq]; exact hk
    · rw [getD_app_lt _ _ (by omega)]
      exact hpre j (by omega)
/-- The first packing on so many sides. -/
noncomputable def packR (f : Fmt) (l : List Sng) (sides : Nat) : Option (List Int) := pkR f l sides l.length [] 0
theorem packR_some {f : Fmt} {l : List Sng} {sides : Nat} {q : List Int} (h : packR f l sides = some q) : Packd f l q sides := (pkR_pre _ _ _ q h).1
theorem packR_none {f : Fmt} {l : List Sng} {sides : Nat} (h : packR f l sides = none) (q : List Int) : ¬ Packd f l q sides := fun hq => pkR_has hq _ _ _ (by simp) numb_nil (fun j hj => absurd hj (Nat.not_lt_zero j)) h
end Go.Sx

namespace Go.Sx
open Go Go.Proofs
set_option maxRecDepth 10000
set_option maxHeartbeats 4000000
/-- The tracks from one on. -/
def seqL (i n : Nat) : List Int := (List.range n).map fun k => ((i + k : Nat) : Int)
theorem seqL_len (i n : Nat) : (seqL i n).length = n := by simp [seqL]
theorem seqL_succ (i n : Nat) : seqL i (n + 1) = seqL i n ++ [((i + n : Nat) : Int)] := by simp [seqL, List.range_succ]
theorem seqL_get (i n k : Nat) (h : k < n) : (seqL i n).getD k 0 = ((i + k : Nat) : Int) := by simp [seqL, List.getD_eq_getElem?_getD, List.getElem?_range h]
def f0 : Fmt := ⟨⟨#[]⟩, 0, 0, 0, 0, 0, 0, 0⟩
structure AlbOK (F : List Fmt) (l : List Sng) : Prop where
  few : 1 ≤ F.length ∧ F.length ≤ 8
  fmts : ∀ i, i < F.length → FmtOK (F.getD i f0)
  sngs : SngsOK l
/-! ### Faces, plans and prices: plain laws for the statements about sides -/
theorem atF_congr (f : Fmt) (l : List Sng) {O Q : List Int} : ∀ k, (∀ j, j < k → O.getD j 0 = Q.getD j 0) → atF f l O k = atF f l Q k
  | 0, _ => rfl
  | k + 1, h => by
    unfold atF
    rw [atF_congr f l k (fun j hj => h j (by omega)), h k (Nat.lt_succ_self k)]
/-- What is possible stays so without its last track. -/
theorem lay_prefix {f : Fmt} {l : List Sng} (hf : FmtOK f) (hl : SngsOK l) {i n : Nat} (hn : i + (n + 1) ≤ l.length) (h : LayOK f l (seqL i (n + 1))) : LayOK f l (seqL i n) := by
  have e : ∀ k, k ≤ n → atF f l (seqL i n) k = atF f l (seqL i (n + 1)) k := fun k hk => atF_congr f l k fun j hj => by
    rw [seqL_get _ _ _ (by omega), seqL_get _ _ _ (by omega)]
  have hw := (wid_bd hf.per.1 (hl.each (i + n) (by omega))).2.1
  have hg := hf.gap.1
  have h2 := h.2
  have ea : atF f l (seqL i (n + 1)) (n + 1) = atF f l (seqL i (n + 1)) n - (if 0 < n then f.gap else 0) - widF f (l.getD (i + n) g0) := by
    show _ - _ - widF f (l.getD ((seqL i (n + 1)).getD n 0).toNat g0) = _
    rw [seqL_get _ _ _ (Nat.lt_succ_self n), Int.toNat_natCast]
  rw [seqL_len, ea] at h2
  refine ⟨fun k hk => ?_, ?_⟩
  · rw [seqL_len] at hk
    have h3 := h.1 k (by rw [seqL_len]; omega)
    unfold okAt at h3 ⊢
    rw [seqL_get _ _ _ (by omega)] at h3 ⊢
    rw [e _ (by omega)]
    exact h3
  · rw [seqL_len, e n (Nat.le_refl n)]
    split at h2 <;> omega
/-- A face: the tracks from i on and before j on the format k. -/
structure faceP (F : List Fmt) (l : List Sng) (k i j : Nat) : Prop where
  fmt : k < F.length
  lt : i < j
  le : j ≤ l.length
  lay : LayOK (F.getD k f0) l (seqL i (j - i))
theorem face_pre {F : List Fmt} {l : List Sng} (hA : AlbOK F l) {k i j : Nat} (h : faceP F l k i (j + 1)) (hj : i < j) : faceP F l k i j := by
  refine ⟨h.fmt, hj, by have := h.le; omega, ?_⟩
  have h1 := h.lay
  rw [show j + 1 - i = j - i + 1 by omega] at h1
  exact lay_prefix (hA.fmts k h.fmt) hA.sngs (by have := h.le; omega) h1
/-- A plan from a track on: formats and numbers of tracks. -/
def PlanOK (F : List Fmt) (l : List Sng) : Nat → List (Nat × Nat) → Prop
  | i, [] => i = l.length
  | i, (k, m) :: t => faceP F l k i (i + m) ∧ PlanOK F l (i + m) t
def costP (F : List Fmt) : List (Nat × Nat) → Int
  | [] => 0
  | (k, _) :: t => (F.getD k f0).cost + costP F t
/-- The tracks before one can be laid out at a cost. -/
inductive Reach (F : List Fmt) (l : List Sng) : Nat → Int → Prop
  | nil : Reach F l 0 0
  | step {i j k : Nat} {c : Int} (h : Reach F l i c) (hf : faceP F l k i j) : Reach F l j (c + (F.getD k f0).cost)
theorem PlanOK.app {F : List Fmt} {l : List Sng} {j : Nat} {c : Int} (h : Reach F l j c) : ∀ {t}, PlanOK F l j t → ∃ pl, PlanOK F l 0 pl ∧ costP F pl = c + costP F t := by
  induction h with
  | nil => exact fun {t} ht => ⟨t, ht, by omega⟩
  | @step i j k c h hf ih =>
    intro t ht
    have hl := hf.lt
    obtain ⟨pl, h1, h2⟩ := ih (t := (k, j - i) :: t) ⟨by rw [show i + (j - i) = j by omega]; exact hf, by rw [show i + (j - i) = j by omega]; exact ht⟩
    refine ⟨pl, h1, ?_⟩
    rw [h2]
    simp only [costP]
    omega
/-- What is reached at the end is the cost of a plan. -/
theorem Reach.plan {F : List Fmt} {l : List Sng} {c : Int} (h : Reach F l l.length c) : ∃ pl, PlanOK F l 0 pl ∧ costP F pl = c := by
  obtain ⟨pl, h1, h2⟩ := PlanOK.app h (t := []) rfl
  exact ⟨pl, h1, by rw [h2]; simp only [costP]; omega⟩
/-! ### The faces in their order -/
theorem face_pre' {F : List Fmt} {l : List Sng} (hA : AlbOK F l) {k i j : Nat} (hj : i < j) : ∀ d, faceP F l k i (j + d) → faceP F l k i j
  | 0, h => h
  | d + 1, h => face_pre' hA hj d (face_pre hA h (by omega))
open Classical in
/-- The faces of a format that begin at i and end before j. -/
noncomputable def fcj (F : List Fmt) (l : List Sng) (i k : Nat) : Nat → List (Nat × Nat)
  | 0 => []
  | j + 1 => if faceP F l k i j then fcj F l i k j ++ [(k, j)] else fcj F l i k j
/-- The faces that begin at i, of the first formats. -/
noncomputable def fcs (F : List Fmt) (l : List Sng) (i : Nat) : Nat → List (Nat × Nat)
  | 0 => []
  | k + 1 => fcs F l i k ++ fcj F l i k (l.length + 1)
theorem fcj_yes {F : List Fmt} {l : List Sng} {i k j : Nat} (h : faceP F l k i j) : fcj F l i k (j + 1) = fcj F l i k j ++ [(k, j)] := if_pos h
theorem fcj_no {F : List Fmt} {l : List Sng} {i k j : Nat} (h : ¬ faceP F l k i j) : fcj F l i k (j + 1) = fcj F l i k j := if_neg h
theorem fcj_lo {F : List Fmt} {l : List Sng} {i k : Nat} : ∀ j, j ≤ i + 1 → fcj F l i k j = []
  | 0, _ => rfl
  | j + 1, h => by
    rw [fcj_no fun hf => by have := hf.lt; omega]
    exact fcj_lo j (by omega)
theorem fcj_stop {F : List Fmt} {l : List Sng} (hA : AlbOK F l) {i k j : Nat} (hj : i < j) (h : ¬ faceP F l k i j) : ∀ d, fcj F l i k (j + d) = fcj F l i k j
  | 0 => rfl
  | d + 1 => by
    rw [show j + (d + 1) = j + d + 1 from rfl, fcj_no fun hf => h (face_pre' hA hj d hf)]
    exact fcj_stop hA hj h d
theorem fcj_end {F : List Fmt} {l : List Sng} (hA : AlbOK F l) {i k j : Nat} (hj : i < j) (h : ¬ faceP F l k i j) (hl : j ≤ l.length + 1) : fcj F l i k j = fcj F l i k (l.length + 1) := by
  have := fcj_stop hA hj h (l.length + 1 - j)
  rw [show j + (l.length + 1 - j) = l.length + 1 by omega] at this
  exact this.symm
theorem mem_fcj {F : List Fmt} {l : List Sng} {i k : Nat} {p : Nat × Nat} : ∀ {j}, p ∈ fcj F l i k j ↔ p.1 = k ∧ p.2 < j ∧ faceP F l k i p.2
  | 0 => ⟨fun h => (by simp [fcj] at h), fun h => (by omega)⟩
  | j + 1 => by
    by_cases h : faceP F l k i j
    · rw [fcj_yes h, List.mem_append, mem_fcj, List.mem_singleton]
      constructor
      · rintro (⟨h1, h2, h3⟩ | rfl)
        · exact ⟨h1, by omega, h3⟩
        · exact ⟨rfl, Nat.lt_succ_self j, h⟩
      · rintro ⟨h1, h2, h3⟩
        by_cases e : p.2 = j
        · exact .inr (Prod.ext h1 e)
        · exact .inl ⟨h1, by omega, h3⟩
    · rw [fcj_no h, mem_fcj]
      constructor
      · rintro ⟨h1, h2, h3⟩
        exact ⟨h1, by omega, h3⟩
      · rintro ⟨h1, h2, h3⟩
        refine ⟨h1, ?_, h3⟩
        by_cases e : p.2 = j
        · rw [e] at h3; exact absurd h3 h
        · omega
theorem mem_fcs {F : List Fmt} {l : List Sng} {i : Nat} {p : Nat × Nat} : ∀ {k}, p ∈ fcs F l i k ↔ p.1 < k ∧ faceP F l p.1 i p.2
  | 0 => ⟨fun h => (by simp [fcs] at h), fun h => (by omega)⟩
  | k + 1 => by
    unfold fcs
    rw [List.mem_append, mem_fcs, mem_fcj]
    constructor
    · rintro (⟨h1, h2⟩ | ⟨h1, h2, h3⟩)
      · exact ⟨by omega, h2⟩
      · rw [h1]; exact ⟨Nat.lt_succ_self k, h3⟩
    · rintro ⟨h1, h2⟩
      by_cases e : p.1 = k
      · rw [e] at h2; exact .inr ⟨e, by have := h2.le; omega, h2⟩
      · exact .inl ⟨by omega, h2⟩
/-- All faces that begin at i, by formats and then by their ends. -/
noncomputable def facesL (F : List Fmt) (l : List Sng) (i : Nat) : List (Nat × Nat) := fcs F l i F.length
theorem mem_faces {F : List Fmt} {l : List Sng} {i : Nat} {p : Nat × Nat} : p ∈ facesL F l i ↔ faceP F l p.1 i p.2 := by
  unfold facesL
  rw [mem_fcs]
  exact ⟨fun h => h.2, fun h => ⟨h.fmt, h⟩⟩
/-! ### Best plans -/
/-- A worth is better than another one. -/
def ltW (a b : Int × Int) : Prop := a.1 < b.1 ∨ a.1 = b.1 ∧ a.2 < b.2
instance (a b : Int × Int) : Decidable (ltW a b) := by unfold ltW; exact inferInstance
/-- The best worth from a track on, with its first face. -/
abbrev EntW := Option ((Int × Int) × (Nat × Nat))
def stepE (F : List Fmt) (T : Nat → EntW) (acc : EntW) (p : Nat × Nat) : EntW :=
  match T p.2 with
  | none => acc
  | some (w, _) => match acc with
    | none => some ((w.1 + (F.getD p.1 f0).cost, w.2 + 1), p)
    | some (v, q) => if ltW (w.1 + (F.getD p.1 f0).cost, w.2 + 1) v then some ((w.1 + (F.getD p.1 f0).cost, w.2 + 1), p) else some (v, q)
/-- The entries of the last d tracks, and of the end. -/
noncomputable def bstT (F : List Fmt) (l : List Sng) : Nat → Nat → EntW
  | 0 => fun i => if i = l.length then some ((0, 0), (0, 0)) else none
  | d + 1 => fun i => if i + (d + 1) = l.length then (facesL F l i).foldl (stepE F (bstT F l d)) none else bstT F l d i
noncomputable def bst (F : List Fmt) (l : List Sng) : Nat → EntW := bstT F l l.length
theorem bstT_up {F : List Fmt} {l : List Sng} {i : Nat} : ∀ {d}, l.length ≤ i + d → ∀ m, i + d + m ≤ l.length + l.length → bstT F l (d + m) i = bstT F l d i
  | d, h, 0, _ => rfl
  | d, h, m + 1, hm => by
    have e : bstT F l (d + (m + 1)) i = bstT F l (d + m) i := if_neg (show ¬ i + (d + m + 1) = l.length by omega)
    rw [e]
    exact bstT_up h m (by omega)
theorem bstT_bst {F : List Fmt} {l : List Sng} {i d : Nat} (h : l.length ≤ i + d) (hi : i ≤ l.length) (hd : d ≤ l.length) : bstT F l d i = bst F l i := by
  have := bstT_up (F := F) (l := l) (i := i) (d := d) h (l.length - d) (by omega)
  rw [show d + (l.length - d) = l.length by omega] at this
  exact this.symm
theorem bst_end (F : List Fmt) (l : List Sng) : bst F l l.length = some ((0, 0), (0, 0)) := by
  rw [← bstT_bst (d := 0) (by omega) (Nat.le_refl _) (Nat.zero_le _)]
  exact if_pos rfl
theorem foldE_congr (F : List Fmt) {T T' : Nat → EntW} : ∀ (L : List (Nat × Nat)) (acc : EntW), (∀ p, p ∈ L → T p.2 = T' p.2) → L.foldl (stepE F T) acc = L.foldl (stepE F T') acc
  | [], _, _ => rfl
  | p :: L, acc, h => by
    simp only [List.foldl_cons]
    have e : stepE F T acc p = stepE F T' acc p := by unfold stepE; rw [h p List.mem_cons_self]
    rw [e]
    exact foldE_congr F L _ fun q hq => h q (List.mem_cons_of_mem _ hq)
theorem bst_at {F : List Fmt} {l : List Sng} {i : Nat} (hi : i < l.length) : bst F l i = (facesL F l i).foldl (stepE F (bst F l)) none := by
  rw [← bstT_bst (d := l.length - i - 1 + 1) (by omega) (by omega) (by omega)]
  unfold bstT
  rw [if_pos (by omega)]
  refine foldE_congr F _ _ fun p hp => ?_
  have h1 := mem_faces.1 hp
  have h2 := h1.lt
  have h3 := h1.le
  exact bstT_bst (by omega) h3 (by omega)
/-- What the fold keeps: an entry of one of the faces, and none is better. -/
structure FoldOK (F : List Fmt) (T : Nat → EntW) (L : List (Nat × Nat)) (e : EntW) : Prop where
  from_ : ∀ v q, e = some (v, q) → q ∈ L ∧ ∃ w f, T q.2 = some (w, f) ∧ v = (w.1 + (F.getD q.1 f0).cost, w.2 + 1)
  best : ∀ p w f, p ∈ L → T p.2 = some (w, f) → ∃ v q, e = some (v, q) ∧ ¬ ltW (w.1 + (F.getD p.1 f0).cost, w.2 + 1) v
theorem ltW_tr {a b c : Int × Int} (h : ltW a b) (h2 : ltW b c) : ltW a c := by
  unfold ltW at *
  omega
theorem foldE_ok (F : List Fmt) (T : Nat → EntW) (L : List (Nat × Nat)) : FoldOK F T L (L.foldl (stepE F T) none) := by
  refine snoc_ind (p := fun L => FoldOK F T L (L.foldl (stepE F T) none)) ?_ ?_ L
  · exact ⟨fun v q h => by simp at h, fun p w f h => by simp at h⟩
  · intro L p ih
    rw [List.foldl_append]
    simp only [List.foldl_cons, List.foldl_nil]
    obtain ⟨acc, hacc⟩ : ∃ acc, L.foldl (stepE F T) none = acc := ⟨_, rfl⟩
    rw [hacc] at ih ⊢
    unfold stepE
    cases hT : T p.2 with
    | none =>
      simp only
      refine ⟨fun v q h => ?_, fun q w f hq hw => ?_⟩
      · obtain ⟨h1, h2⟩ := ih.from_ v q h
        exact ⟨List.mem_append_left _ h1, h2⟩
      · rcases List.mem_append.1 hq with h1 | h1
        · exact ih.best q w f h1 hw
        · rw [List.mem_singleton.1 h1, hT] at hw; cases hw
    | some e =>
      obtain ⟨w, f⟩ := e
      cases acc with
      | none =>
        simp only
        refine ⟨fun v q h => ?_, fun q w' f' hq hw => ?_⟩
        · cases h
          exact ⟨List.mem_append_right _ List.mem_cons_self, w, f, hT, rfl⟩
        · rcases List.mem_append.1 hq with h1 | h1
          · obtain ⟨v, q', h2, _⟩ := ih.best q w' f' h1 hw
            cases h2
          · rw [List.mem_singleton.1 h1] at hw ⊢
            rw [hT] at hw
            cases hw
            exact ⟨_, _, rfl, fun h => by unfold ltW at h; omega⟩
      | some a =>
        obtain ⟨v, q⟩ := a
        simp only
        split
        · rename_i hlt
          refine ⟨fun v' q' h => ?_, fun q' w' f' hq hw => ?_⟩
          · cases h
            exact ⟨List.mem_append_right _ List.mem_cons_self, w, f, hT, rfl⟩
          · rcases List.mem_append.1 hq with h1 | h1
            · obtain ⟨v2, q2, h2, h3⟩ := ih.best q' w' f' h1 hw
              cases h2
              exact ⟨_, _, rfl, fun h => h3 (ltW_tr h hlt)⟩
            · rw [List.mem_singleton.1 h1] at hw ⊢
              rw [hT] at hw
              cases hw
              exact ⟨_, _, rfl, fun h => by unfold ltW at h; omega⟩
        · rename_i hlt
          refine ⟨fun v' q' h => ?_, fun q' w' f' hq hw => ?_⟩
          · cases h
            obtain ⟨h1, h2⟩ := ih.from_ v q rfl
            exact ⟨List.mem_append_left _ h1, h2⟩
          · rcases List.mem_append.1 hq with h1 | h1
            · exact ih.best q' w' f' h1 hw
            · rw [List.mem_singleton.1 h1] at hw ⊢
              rw [hT] at hw
              cases hw
              exact ⟨_, _, rfl, hlt⟩
theorem bst_ok {F : List Fmt} {l : List Sng} {i : Nat} (hi : i < l.length) : FoldOK F (bst F l) (facesL F l i) (bst F l i) := by
  rw [bst_at hi]
  exact foldE_ok F (bst F l) (facesL F l i)
/-- The plan that follows the first faces. -/
noncomputable def planB (F : List Fmt) (l : List Sng) : Nat → Nat → List (Nat × Nat)
  | 0, _ => []
  | n + 1, i => if i < l.length then match bst F l i with
    | some (_, (k, j)) => (k, j - i) :: planB F l n j
    | none => []
    else []
theorem planB_ok {F : List Fmt} {l : List Sng} : ∀ (n i : Nat) (w : Int × Int) (q : Nat × Nat), l.length ≤ i + n → i ≤ l.length → bst F l i = some (w, q) → PlanOK F l i (planB F l n i) ∧ costP F (planB F l n i) = w.1 ∧ ((planB F l n i).length : Int) = w.2
  | 0, i, w, q, h1, h2, h3 => by
    have e : i = l.length := by omega
    rw [e, bst_end] at h3
    cases h3
    exact ⟨e, rfl, rfl⟩
  | n + 1, i, w, q, h1, h2, h3 => by
    by_cases hi : i < l.length
    · obtain ⟨k, j⟩ := q
      obtain ⟨h4, w', f', h5, h6⟩ := (bst_ok (F := F) hi).from_ w (k, j) h3
      have h7 := mem_faces.1 h4
      simp only at h5 h6 h7
      have h8 := h7.lt
      obtain ⟨i1, i2, i3⟩ := planB_ok n j w' f' (by omega) h7.le h5
      unfold planB
      rw [if_pos hi, h3]
      simp only
      have e : i + (j - i) = j := by omega
      refine ⟨⟨by rw [e]; exact h7, by rw [e]; exact i1⟩, ?_, ?_⟩
      · simp only [costP, i2, h6]
        omega
      · simp only [List.length_cons, h6]
        omega
    · have e : i = l.length := by omega
      rw [e, bst_end] at h3
      cases h3
      unfold planB
      rw [if_neg hi]
      exact ⟨e, rfl, rfl⟩
theorem plan_le {F : List Fmt} {l : List Sng} : ∀ (pl : List (Nat × Nat)) (i : Nat), i ≤ l.length → PlanOK F l i pl → ∃ w q, bst F l i = some (w, q) ∧ ¬ ltW (costP F pl, (pl.length : Int)) w
  | [], i, _, h => by
    have e : i = l.length := h
    rw [e, bst_end]
    exact ⟨_, _, rfl, fun h => by unfold ltW costP at h; simp at h⟩
  | (k, m) :: t, i, hi, h => by
    obtain ⟨h1, h2⟩ := h
    have h3 := h1.lt
    obtain ⟨w, q, h4, h5⟩ := plan_le t (i + m) h1.le h2
    obtain ⟨v, q', h6, h7⟩ := (bst_ok (F := F) (i := i) (by have := h1.le; omega)).best (k, i + m) w q (mem_faces.2 h1) h4
    refine ⟨v, q', h6, fun h8 => ?_⟩
    simp only at h7
    unfold ltW at h5 h7 h8
    simp only [costP, List.length_cons] at h8
    omega
end Go.Sx

namespace Go.Sx
open Go Go.Proofs
set_option maxRecDepth 10000
set_option maxHeartbeats 8000000
theorem pMix : Tryd.prog.follows .mixedOrders = true := by kernel_rfl
/-! ### Formats and tracks -/
@[reducible] def Fmt.x (f : Fmt) : XV := .agg [.str f.nm, .int .i64 f.outer, .int .i64 f.inner, .int .i64 f.per, .int .i64 f.lead, .int .i64 f.gap, .int .i64 f.tail, .int .i64 f.cost]
@[reducible] def Sng.x (g : Sng) : XV := .agg [.int .i64 g.long, .int .i64 g.pitch, .int .i64 g.least]
def sngA (l : List Sng) : Arr := l.map fun g => [.int g.long, .int g.pitch, .int g.least]
theorem sngA_len (l : List Sng) : (sngA l).length = l.length := by simp [sngA]
theorem sngA_0 (l : List Sng) (i : Nat) : rI (sngA l) i 0 = (l.getD i g0).long := map_rI _ g0 l i 0 rfl
theorem sngA_1 (l : List Sng) (i : Nat) : rI (sngA l) i (0 + 1) = (l.getD i g0).pitch := map_rI _ g0 l i 1 rfl
theorem sngA_2 (l : List Sng) (i : Nat) : rI (sngA l) i (0 + 1 + 1) = (l.getD i g0).least := map_rI _ g0 l i 2 rfl
@[reducible] def KSng : List CK := [.int .i64, .int .i64, .int .i64]
@[reducible] def lSng (l : List Sng) : XV := .one (.lst true KSng (sngA l))
theorem s52 (n lo hi : Int) : PSpec Tryd.prog 42 [I n, I lo, I hi] (xP (n < lo ∨ n > hi)) := by
  refine spec_of pMix (O := []) Tryd.func42 (c := bodyOf Tryd.f42) rfl (by kernel_rfl) (by kernel_rfl) Tryd.ntmps42 (res := [.tmp 6]) (by kernel_rfl) ?_
  repeat' ((conv => whnf); first | refine Rng.g ?_ | refine Ob.g ?_ | refine Ob.e ?_ | refine Ob.m ?_ | refine Ob.mk (Nat.le_of_ble_eq_true rfl) ?_ | refine JoinVC.on ?_ | refine Nils.mk (fun h => ?_) ?_ | refine Val.t ?_ | refine Val.d ?_ | refine Mm.mk ?_ | (refine Br.mk (fun h => ?_) (fun h => ?_) <;> first | (exfalso; omega; done) | (exfalso; simp at h; done) | skip))
  · repeat refine Mm.mk ?_
    refine EndVC.mk _ rfl _ _ ⟨rfl, rfl⟩ ?_
    refine ⟨[], rfl, rfl, ?_, ?_⟩ <;> repeat' (first | exact trivial | exact rfl | exact Iff.rfl | apply And.intro)
    exact .inl h
  · repeat refine Mm.mk ?_
    refine EndVC.mk _ rfl _ _ ⟨rfl, rfl⟩ ?_
    refine ⟨[], rfl, rfl, ?_, ?_⟩ <;> repeat' (first | exact trivial | exact rfl | exact Iff.rfl | apply And.intro)
    exact ⟨fun h2 => .inr h2, fun h2 => h2.elim (fun h3 => absurd h3 h) id⟩
theorem s71 (n lo hi : Int) : PSpec Tryd.prog 44 [I n, I lo, I hi] (xP (n ≥ lo ∧ n ≤ hi)) := by
  refine spec_of pMix (O := []) Tryd.func44 (c := bodyOf Tryd.f44) rfl (by kernel_rfl) (by kernel_rfl) Tryd.ntmps44 (res := [.tmp 6]) (by kernel_rfl) ?_
  repeat' ((conv => whnf); first | refine Rng.g ?_ | refine Ob.g ?_ | refine Ob.e ?_ | refine Ob.m ?_ | refine Ob.mk (Nat.le_of_ble_eq_true rfl) ?_ | refine JoinVC.on ?_ | refine Nils.mk (fun h => ?_) ?_ | refine Val.t ?_ | refine Val.d ?_ | refine Mm.mk ?_ | (refine Br.mk (fun h => ?_) (fun h => ?_) <;> first | (exfalso; omega; done) | (exfalso; simp at h; done) | skip))
  · repeat refine Mm.mk ?_
    refine EndVC.mk _ rfl _ _ ⟨rfl, rfl⟩ ?_
    refine ⟨[], rfl, rfl, ?_, ?_⟩ <;> repeat' (first | exact trivial | exact rfl | exact Iff.rfl | apply And.intro)
    exact ⟨fun h2 => ⟨h, h2⟩, fun h2 => h2.2⟩
  · repeat refine Mm.mk ?_
    refine EndVC.mk _ rfl _ _ ⟨rfl, rfl⟩ ?_
    refine ⟨[], rfl, rfl, ?_, ?_⟩ <;> repeat' (first | exact trivial | exact rfl | exact Iff.rfl | apply And.intro)
    exact fun h2 => h h2.1
theorem bytA_get (b : ByteArray) (i : Nat) : rI (bytA b) i 0 = chr b i := map_rI _ (0 : UInt8) b.data.toList i 0 rfl
theorem bytA_len (b : ByteArray) : (bytA b).length = b.size := by
  show (b.data.toList.map _).length = b.data.size
  rw [List.length_map, Array.length_toList]
open Classical in
theorem s82 (s : ByteArray) (hs : s.size ≤ 9223372036854775807) : PSpec Tryd.prog 41 [.one (.str s)] (xP (nameOK s)) := by
  have lb := bytA_len s
  refine spec_of pMix (O := []) Tryd.func41 (c := bodyOf Tryd.f41) rfl (by kernel_rfl) (by kernel_rfl) Tryd.ntmps41 (res := [.tmp 2]) (by kernel_rfl) ?_
  repeat' ((conv => whnf); first | refine Rng.g ?_ | refine Ob.g ?_ | refine Ob.e ?_ | refine Ob.m ?_ | refine Ob.mk (Nat.le_of_ble_eq_true rfl) ?_ | refine JoinVC.on ?_ | refine Nils.mk (fun h => ?_) ?_ | refine Val.t ?_ | refine Val.d ?_ | refine Mm.mk ?_ | (refine Br.mk (fun h => ?_) (fun h => ?_) <;> first | (exfalso; omega; done) | (exfalso; simp at h; done) | skip))
  refine LoopVC.mk (fun n st => ∃ (i : Nat), i ≤ s.size ∧ n = s.size - i ∧ (∀ j, j < i → okC (chr s j)) ∧ st = ⟨0, envA 34 [(0, .x (.one (.str s))), (6, .x (.one (.lst false [.int .u8] (bytA s)))), (7, .int .i64 (s.size : Int)), (8, .int .i64 (i : Int))], []⟩) _ _ ⟨0, Nat.zero_le _, rfl, fun j hj => absurd hj (Nat.not_lt_zero j), rfl⟩ ?_ ?_
  · refine ⟨[], rfl, rfl, ?_, ?_⟩ <;> repeat' (first | exact trivial | exact rfl | exact Iff.rfl | apply And.intro)
    exact congrArg Int.ofNat lb
  rintro n _ ⟨i, hi, hn, hj, rfl⟩
  have gc : rI (bytA s) (i : Int).toNat 0 = chr s i := by rw [Int.toNat_natCast, bytA_get]
  by_cases hi' : i < s.size
  · by_cases hc : okC (chr s i)
    · have hc' := hc
      unfold okC at hc'
      repeat' ((conv => whnf); first | rw [gc] | refine Rng.g ?_ | refine Ob.g ?_ | refine Ob.e ?_ | refine Ob.m ?_ | refine Ob.mk (Nat.le_of_ble_eq_true rfl) ?_ | refine JoinVC.on ?_ | refine Nils.mk (fun h => ?_) ?_ | refine Val.t ?_ | refine Val.d ?_ | refine Mm.mk ?_ | (refine Br.mk (fun h => ?_) (fun h => ?_) <;> first | (exfalso; omega; done) | (exfalso; simp at h; done) | skip))
      all_goals
        refine Back.mk (s.size - (i + 1)) _ (by omega) ⟨i + 1, by omega, rfl, fun j hj' => ?_, rfl⟩ ?_
        · rcases Nat.lt_succ_iff_lt_or_eq.1 hj' with h' | rfl
          · exact hj j h'
          · exact hc
        · refine ⟨[], rfl, rfl, ?_, ?_⟩ <;> repeat' (first | exact trivial | exact rfl | exact Iff.rfl | apply And.intro)
    · have hc' := hc
      unfold okC at hc'
      repeat' ((conv => whnf); first | rw [gc] | refine Rng.g ?_ | refine Ob.g ?_ | refine Ob.e ?_ | refine Ob.m ?_ | refine Ob.mk (Nat.le_of_ble_eq_true rfl) ?_ | refine JoinVC.on ?_ | refine Nils.mk (fun h => ?_) ?_ | refine Val.t ?_ | refine Val.d ?_ | refine Mm.mk ?_ | (refine Br.mk (fun h => ?_) (fun h => ?_) <;> first | (exfalso; omega; done) | (exfalso; simp at h; done) | skip))
      all_goals
        repeat refine Mm.mk ?_
        refine EndVC.mk _ rfl _ _ ⟨rfl, rfl⟩ ?_
        refine ⟨[], rfl, rfl, ?_, ?_⟩ <;> repeat' (first | exact trivial | exact rfl | exact Iff.rfl | apply And.intro)
        exact fun hn => hc (hn.2.2 i hi')
  · have h0 : s.size = 0 ↔ s = ⟨#[]⟩ := ⟨fun h => ByteArray.ext (Array.eq_empty_of_size_eq_zero h), fun h => by rw [h]; rfl⟩
    repeat' ((conv => whnf); first | refine Rng.g ?_ | refine Ob.g ?_ | refine Ob.e ?_ | refine Ob.m ?_ | refine Ob.mk (Nat.le_of_ble_eq_true rfl) ?_ | refine JoinVC.on ?_ | refine Nils.mk (fun h => ?_) ?_ | refine Val.t ?_ | refine Val.d ?_ | refine Mm.mk ?_ | (refine Br.mk (fun h => ?_) (fun h => ?_) <;> first | (exfalso; omega; done) | (exfalso; simp at h; done) | skip))
    · have h1 : ¬ s.size = 0 := fun e => h (h0.1 e)
      repeat refine Mm.mk ?_
      refine EndVC.mk _ rfl _ _ ⟨rfl, rfl⟩ ?_
      refine ⟨[], rfl, rfl, ?_, ?_⟩ <;> repeat' (first | exact trivial | exact rfl | exact Iff.rfl | apply And.intro)
      exact ⟨fun h2 => ⟨by omega, by omega, fun j hj' => hj j (by omega)⟩, fun hn => (by have := hn.2.1; omega)⟩
    · have h1 : s.size = 0 := h0.2 (Classical.not_not.1 h)
      repeat refine Mm.mk ?_
      refine EndVC.mk _ rfl _ _ ⟨rfl, rfl⟩ ?_
      refine ⟨[], rfl, rfl, ?_, ?_⟩ <;> repeat' (first | exact trivial | exact rfl | exact Iff.rfl | apply And.intro)
      exact fun hn => (by have := hn.1; omega)
/-! ### Which formats and tracks are valid -/
theorem s67 (f : Fmt) (hI : f.nm.size ≤ 9223372036854775807) : PSpec Tryd.prog 13 [f.x] (.x (I (fmtE f))) := by
  have k0 := s52 f.lead 0 4194304
  have k1 := s52 f.gap 0 4194304
  have k2 := s52 f.tail 0 4194304
  refine spec_of pMix (O := []) Tryd.func13 (c := bodyOf Tryd.f13) rfl (by kernel_rfl) (by kernel_rfl) Tryd.ntmps13 (res := [.tmp 2]) (by kernel_rfl) ?_
  repeat' ((conv => whnf); first | refine Rng.g ?_ | refine Ob.g ?_ | refine Ob.e ?_ | refine Ob.m ?_ | refine Ob.mk (Nat.le_of_ble_eq_true rfl) ?_ | refine JoinVC.on ?_ | refine Nils.mk (fun h => ?_) ?_ | refine Val.t ?_ | refine Val.d ?_ | refine Mm.mk ?_ | refine CallVC.pure rfl (s82 f.nm hI) ?_ | refine CallVC.pure rfl (s52 f.outer 1 4194304) ?_ | refine CallVC.pure rfl (s52 f.inner 0 (f.outer - 1)) ?_ | refine CallVC.pure rfl (s52 f.per 1 65536) ?_ | refine CallVC.pure rfl (s52 f.cost 0 1048576) ?_ | refine CallVC0.pure rfl (s82 f.nm hI) ?_ | refine CallVC0.pure rfl (s52 f.outer 1 4194304) ?_ | refine CallVC0.pure rfl (s52 f.inner 0 (f.outer - 1)) ?_ | refine CallVC0.pure rfl (s52 f.per 1 65536) ?_ | refine CallVC0.pure rfl (s52 f.cost 0 1048576) ?_ | (refine Br.mk (fun h => ?_) (fun h => ?_) <;> first | (exfalso; omega; done) | (exfalso; simp at h; done) | skip))
  all_goals
    refine LoopVC.un 4 ?_
    repeat' ((conv => whnf); first | refine Rng.g ?_ | refine Ob.g ?_ | refine Ob.e ?_ | refine Ob.m ?_ | refine Ob.mk (Nat.le_of_ble_eq_true rfl) ?_ | refine JoinVC.on ?_ | refine Nils.mk (fun h => ?_) ?_ | refine Val.t ?_ | refine Val.d ?_ | refine Mm.mk ?_ | refine CallVC.pure rfl (k0) ?_ | refine CallVC.pure rfl (k1) ?_ | refine CallVC.pure rfl (k2) ?_ | refine CallVC0.pure rfl (k0) ?_ | refine CallVC0.pure rfl (k1) ?_ | refine CallVC0.pure rfl (k2) ?_ | (refine Br.mk (fun h => ?_) (fun h => ?_) <;> first | (exfalso; omega; done) | (exfalso; simp at h; done) | skip))
  rotate_right
  · repeat refine Mm.mk ?_
    refine EndVC.mk _ rfl _ _ ⟨rfl, rfl⟩ ?_
    refine ⟨[], rfl, rfl, ?_, ?_⟩ <;> repeat' (first | exact trivial | exact rfl | exact Iff.rfl | apply And.intro)
    exact (fmtE_ok ⟨Classical.not_not.1 (by assumption), by omega, by omega, by omega, by omega, by omega, by omega, by omega⟩).symm
  all_goals
    repeat refine Mm.mk ?_
    refine EndVC.mk _ rfl _ _ ⟨rfl, rfl⟩ ?_
    refine ⟨[], rfl, rfl, ?_, ?_⟩ <;> repeat' (first | exact trivial | exact rfl | exact Iff.rfl | apply And.intro)
    exact (fmtE_no fun hC => (by obtain ⟨h0, h1, h2, h3, h4, h5, h6, h7⟩ := hC; first | contradiction | omega)).symm
theorem s68 (l : List Sng) : PSpec Tryd.prog 15 [lSng l] (.x (I (trkE l))) := by
  have lp := sngA_len l
  by_cases h24 : 24 < l.length
  · refine spec_of pMix (O := []) Tryd.func15 (c := bodyOf Tryd.f15) rfl (by kernel_rfl) (by kernel_rfl) Tryd.ntmps15 (res := [.tmp 2]) (by kernel_rfl) ?_
    repeat' ((conv => whnf); first | refine Rng.g ?_ | refine Ob.g ?_ | refine Ob.e ?_ | refine Ob.m ?_ | refine Ob.mk (Nat.le_of_ble_eq_true rfl) ?_ | refine JoinVC.on ?_ | refine Nils.mk (fun h => ?_) ?_ | refine Val.t ?_ | refine Val.d ?_ | refine Mm.mk ?_ | (refine Br.mk (fun h => ?_) (fun h => ?_) <;> first | (exfalso; omega; done) | (exfalso; simp at h; done) | skip))
    repeat refine Mm.mk ?_
    refine EndVC.mk _ rfl _ _ ⟨rfl, rfl⟩ ?_
    refine ⟨[], rfl, rfl, ?_, ?_⟩ <;> repeat' (first | exact trivial | exact rfl | exact Iff.rfl | apply And.intro)
    exact (trkE_many h24).symm
  refine spec_of pMix (O := []) Tryd.func15 (c := bodyOf Tryd.f15) rfl (by kernel_rfl) (by kernel_rfl) Tryd.ntmps15 (res := [.tmp 2]) (by kernel_rfl) ?_
  repeat' ((conv => whnf); first | refine Rng.g ?_ | refine Ob.g ?_ | refine Ob.e ?_ | refine Ob.m ?_ | refine Ob.mk (Nat.le_of_ble_eq_true rfl) ?_ | refine JoinVC.on ?_ | refine Nils.mk (fun h => ?_) ?_ | refine Val.t ?_ | refine Val.d ?_ | refine Mm.mk ?_ | (refine Br.mk (fun h => ?_) (fun h => ?_) <;> first | (exfalso; omega; done) | (exfalso; simp at h; done) | skip))
  refine LoopVC.mk (fun n st => ∃ (i : Nat), i ≤ l.length ∧ n = l.length - i ∧ (∀ j, j < i → (l.getD j g0).ok) ∧ st = ⟨0, envA 28 [(8, .x (lSng l)), (9, .int .i64 (l.length : Int)), (10, .int .i64 (i : Int))], []⟩) _ _ ⟨0, Nat.zero_le _, rfl, fun j hj => absurd hj (Nat.not_lt_zero j), rfl⟩ ?_ ?_
  · refine ⟨[], rfl, rfl, ?_, ?_⟩ <;> repeat' (first | exact trivial | exact rfl | exact Iff.rfl | apply And.intro)
    all_goals exact congrArg Int.ofNat lp
  rintro n _ ⟨i, hi, hn, hj, rfl⟩
  have c0 : rI (sngA l) (i : Int).toNat 0 = (l.getD i g0).long := by rw [Int.toNat_natCast, sngA_0]
  have c1 : rI (sngA l) (i : Int).toNat (0 + 1) = (l.getD i g0).pitch := by rw [Int.toNat_natCast, sngA_1]
  have c2 : rI (sngA l) (i : Int).toNat (0 + 1 + 1) = (l.getD i g0).least := by rw [Int.toNat_natCast, sngA_2]
  have k0 := s52 (l.getD i g0).long 1 16777216
  have k1 := s52 (l.getD i g0).pitch 1 4096
  have k2 := s52 (l.getD i g0).least 0 4194304
  by_cases hi' : i < l.length
  · by_cases hg : (l.getD i g0).ok
    · have hg' := hg
      unfold Sng.ok at hg'
      repeat' ((conv => whnf); first | rw [c0] | rw [c1] | rw [c2] | refine Rng.g ?_ | refine Ob.g ?_ | refine Ob.e ?_ | refine Ob.m ?_ | refine Ob.mk (Nat.le_of_ble_eq_true rfl) ?_ | refine JoinVC.on ?_ | refine Nils.mk (fun h => ?_) ?_ | refine Val.t ?_ | refine Val.d ?_ | refine Mm.mk ?_ | refine CallVC.pure rfl (k0) ?_ | refine CallVC.pure rfl (k1) ?_ | refine CallVC.pure rfl (k2) ?_ | refine CallVC0.pure rfl (k0) ?_ | refine CallVC0.pure rfl (k1) ?_ | refine CallVC0.pure rfl (k2) ?_ | (refine Br.mk (fun h => ?_) (fun h => ?_) <;> first | (exfalso; omega; done) | (exfalso; simp at h; done) | skip))
      refine Back.mk (l.length - (i + 1)) _ (by omega) ⟨i + 1, by omega, rfl, fun j hj' => ?_, rfl⟩ ?_
      · rcases Nat.lt_succ_iff_lt_or_eq.1 hj' with h' | rfl
        · exact hj j h'
        · exact hg
      · refine ⟨[], rfl, rfl, ?_, ?_⟩ <;> repeat' (first | exact trivial | exact rfl | exact Iff.rfl | apply And.intro)
    · have hg' := hg
      unfold Sng.ok at hg'
      repeat' ((conv => whnf); first | rw [c0] | rw [c1] | rw [c2] | refine Rng.g ?_ | refine Ob.g ?_ | refine Ob.e ?_ | refine Ob.m ?_ | refine Ob.mk (Nat.le_of_ble_eq_true rfl) ?_ | refine JoinVC.on ?_ | refine Nils.mk (fun h => ?_) ?_ | refine Val.t ?_ | refine Val.d ?_ | refine Mm.mk ?_ | refine CallVC.pure rfl (k0) ?_ | refine CallVC.pure rfl (k1) ?_ | refine CallVC.pure rfl (k2) ?_ | refine CallVC0.pure rfl (k0) ?_ | refine CallVC0.pure rfl (k1) ?_ | refine CallVC0.pure rfl (k2) ?_ | (refine Br.mk (fun h => ?_) (fun h => ?_) <;> first | (exfalso; omega; done) | (exfalso; simp at h; done) | skip))
      all_goals
        repeat refine Mm.mk ?_
        refine EndVC.mk _ rfl _ _ ⟨rfl, rfl⟩ ?_
        refine ⟨[], rfl, rfl, ?_, ?_⟩ <;> repeat' (first | exact trivial | exact rfl | exact Iff.rfl | apply And.intro)
        exact (trkE_no h24 fun h => absurd (h.each i hi') hg).symm
  · repeat' ((conv => whnf); first | refine Rng.g ?_ | refine Ob.g ?_ | refine Ob.e ?_ | refine Ob.m ?_ | refine Ob.mk (Nat.le_of_ble_eq_true rfl) ?_ | refine JoinVC.on ?_ | refine Nils.mk (fun h => ?_) ?_ | refine Val.t ?_ | refine Val.d ?_ | refine Mm.mk ?_ | (refine Br.mk (fun h => ?_) (fun h => ?_) <;> first | (exfalso; omega; done) | (exfalso; simp at h; done) | skip))
    repeat refine Mm.mk ?_
    refine EndVC.mk _ rfl _ _ ⟨rfl, rfl⟩ ?_
    refine ⟨[], rfl, rfl, ?_, ?_⟩ <;> repeat' (first | exact trivial | exact rfl | exact Iff.rfl | apply And.intro)
    exact (trkE_ok ⟨by omega, fun j hj' => hj j (by omega)⟩).symm
@[reducible] def bPl (f : Fmt) (l : List Sng) : Blk := .box 102 [.str f.nm, .int .i64 f.outer, .int .i64 f.inner, .int .i64 f.per, .int .i64 f.lead, .int .i64 f.gap, .int .i64 f.tail, .int .i64 f.cost, .lst true KSng (sngA l)]
theorem s35 (f : Fmt) (l : List Sng) (hI : f.nm.size ≤ 9223372036854775807) : HSpec Tryd.prog 37 [f.x, lSng l] [] (fun r m' => (bothE f l ≠ 0 ∧ r = .tup [.one .nilp, I (bothE f l)] ∧ m' = []) ∨ (FmtOK f ∧ SngsOK l ∧ r = .tup [.one (.ptr 0 0), I 0] ∧ m' = [some (bPl f l)])) := by
  have v1 := s67 f hI
  have v2 := s68 l
  by_cases hC : FmtOK f
  rotate_left
  · rw [fmtE_no hC] at v1
    refine spec_of pMix (O := []) Tryd.func37 (c := bodyOf Tryd.f37) rfl (by kernel_rfl) (by kernel_rfl) Tryd.ntmps37 (res := [.tmp 4, .tmp 5]) (by kernel_rfl) ?_
    repeat' ((conv => whnf); first | refine Rng.g ?_ | refine Ob.g ?_ | refine Ob.e ?_ | refine Ob.m ?_ | refine Ob.mk (Nat.le_of_ble_eq_true rfl) ?_ | refine JoinVC.on ?_ | refine Nils.mk (fun h => ?_) ?_ | refine Val.t ?_ | refine Val.d ?_ | refine Mm.mk ?_ | refine CallVC.pure rfl (v1) ?_ | refine CallVC0.pure rfl (v1) ?_ | (refine Br.mk (fun h => ?_) (fun h => ?_) <;> first | (exfalso; omega; done) | (exfalso; simp at h; done) | skip))
    repeat refine Mm.mk ?_
    conv => whnf
    refine EndVC.mk _ rfl _ _ (.inl ⟨by rw [bothE_f hC]; decide, rfl, rfl⟩) ?_
    refine ⟨[], rfl, rfl, ?_, ?_⟩ <;> repeat' (first | exact trivial | exact rfl | exact Iff.rfl | apply And.intro)
    exact (bothE_f hC).symm
  rw [fmtE_ok hC] at v1
  have hb := bothE_t (l := l) hC
  by_cases hP : SngsOK l
  · rw [trkE_ok hP] at v2
    refine spec_of pMix (O := []) Tryd.func37 (c := bodyOf Tryd.f37) rfl (by kernel_rfl) (by kernel_rfl) Tryd.ntmps37 (res := [.tmp 4, .tmp 5]) (by kernel_rfl) ?_
    repeat' ((conv => whnf); first | refine Rng.g ?_ | refine Ob.g ?_ | refine Ob.e ?_ | refine Ob.m ?_ | refine Ob.mk (Nat.le_of_ble_eq_true rfl) ?_ | refine JoinVC.on ?_ | refine Nils.mk (fun h => ?_) ?_ | refine Val.t ?_ | refine Val.d ?_ | refine Mm.mk ?_ | refine CallVC.pure rfl (v1) ?_ | refine CallVC.pure rfl (v2) ?_ | refine CallVC0.pure rfl (v1) ?_ | refine CallVC0.pure rfl (v2) ?_ | (refine Br.mk (fun h => ?_) (fun h => ?_) <;> first | (exfalso; omega; done) | (exfalso; simp at h; done) | skip))
    repeat refine Mm.mk ?_
    conv => whnf
    refine EndVC.mk _ rfl _ _ (.inr ⟨hC, hP, rfl, rfl⟩) ?_
    refine ⟨[some 1], rfl, rfl, ?_, ?_⟩ <;> repeat' (first | exact trivial | exact rfl | exact Iff.rfl | apply And.intro)
  · obtain ⟨e, he⟩ : ∃ e, trkE l = e := ⟨_, rfl⟩
    have h0 : e ≠ 0 := fun h0 => hP (trkE_0 (he.trans h0))
    rw [he] at v2 hb
    refine spec_of pMix (O := []) Tryd.func37 (c := bodyOf Tryd.f37) rfl (by kernel_rfl) (by kernel_rfl) Tryd.ntmps37 (res := [.tmp 4, .tmp 5]) (by kernel_rfl) ?_
    repeat' ((conv => whnf); first | refine Rng.g ?_ | refine Ob.g ?_ | refine Ob.e ?_ | refine Ob.m ?_ | refine Ob.mk (Nat.le_of_ble_eq_true rfl) ?_ | refine JoinVC.on ?_ | refine Nils.mk (fun h => ?_) ?_ | refine Val.t ?_ | refine Val.d ?_ | refine Mm.mk ?_ | refine CallVC.pure rfl (v1) ?_ | refine CallVC.pure rfl (v2) ?_ | refine CallVC0.pure rfl (v1) ?_ | refine CallVC0.pure rfl (v2) ?_ | (refine Br.mk (fun h => ?_) (fun h => ?_) <;> first | (exfalso; omega; done) | (exfalso; simp at h; done) | skip))
    repeat refine Mm.mk ?_
    conv => whnf
    refine EndVC.mk _ rfl _ _ (.inl ⟨by rw [hb]; exact h0, rfl, rfl⟩) ?_
    refine ⟨[], rfl, rfl, ?_, ?_⟩ <;> repeat' (first | exact trivial | exact rfl | exact Iff.rfl | apply And.intro)
    exact hb.symm
@[reducible] def pvT : Option (List Sng) → SV
  | some l => .lst true KSng (sngA l)
  | none => .any
@[reducible] def bPv (f : Fmt) (v : Option (List Sng)) : Blk := .box 102 [.str f.nm, .int .i64 f.outer, .int .i64 f.inner, .int .i64 f.per, .int .i64 f.lead, .int .i64 f.gap, .int .i64 f.tail, .int .i64 f.cost, pvT v]
theorem s43 (f : Fmt) (v : Option (List Sng)) (g : Sng) (hf : FmtOK f) (hg : g.ok) : HSpec Tryd.prog 38 [.one (.ptr 0 0), g.x] [bPv f v] (fun r m' => r = .x (I (widF f g)) ∧ m' = [some (bPv f v)]) := by
  obtain ⟨w1, w2⟩ := wid_bd hf.per.1 hg
  have hp := hf.per
  have hg1 := hg.1
  have hg2 := hg.2.1
  unfold widF at w2
  cases v
  all_goals
    refine spec_of pMix (O := []) Tryd.func38 (c := bodyOf Tryd.f38) rfl (by kernel_rfl) (by kernel_rfl) Tryd.ntmps38 (res := [.tmp 4]) (by kernel_rfl) ?_
    repeat' ((conv => whnf); first | refine Rng.g ?_ | refine Ob.g ?_ | refine Ob.e ?_ | refine Ob.m ?_ | refine Ob.mk (Nat.le_of_ble_eq_true rfl) ?_ | refine JoinVC.on ?_ | refine Nils.mk (fun h => ?_) ?_ | refine Val.t ?_ | refine Val.d ?_ | refine Mm.mk ?_ | (refine Br.mk (fun h => ?_) (fun h => ?_) <;> first | (exfalso; omega; done) | (exfalso; simp at h; done) | skip))
    repeat refine Mm.mk ?_
    refine EndVC.mk _ rfl _ _ ⟨rfl, rfl⟩ ?_
    refine ⟨[some 0], rfl, rfl, ?_, ?_⟩ <;> repeat' (first | exact trivial | exact rfl | exact Iff.rfl | apply And.intro)
open Classical in
theorem s70 (s : ByteArray) : PSpec Tryd.prog 43 [.one (.str s)] (xP (nameOK s)) := by
  by_cases hs : s.size < 1 ∨ 20 < s.size
  · refine spec_of pMix (O := []) Tryd.func43 (c := bodyOf Tryd.f43) rfl (by kernel_rfl) (by kernel_rfl) Tryd.ntmps43 (res := [.tmp 2]) (by kernel_rfl) ?_
    repeat' ((conv => whnf); first | refine Rng.g ?_ | refine Ob.g ?_ | refine Ob.e ?_ | refine Ob.m ?_ | refine Ob.mk (Nat.le_of_ble_eq_true rfl) ?_ | refine JoinVC.on ?_ | refine Nils.mk (fun h => ?_) ?_ | refine Val.t ?_ | refine Val.d ?_ | refine Mm.mk ?_ | (refine Br.mk (fun h => ?_) (fun h => ?_) <;> first | (exfalso; omega; done) | (exfalso; simp at h; done) | skip))
    all_goals
      repeat refine Mm.mk ?_
      refine EndVC.mk _ rfl _ _ ⟨rfl, rfl⟩ ?_
      refine ⟨[], rfl, rfl, ?_, ?_⟩ <;> repeat' (first | exact trivial | exact rfl | exact Iff.rfl | apply And.intro)
      show ¬ _
      intro hn
      have := hn.1
      have := hn.2.1
      omega
  refine spec_of pMix (O := []) Tryd.func43 (c := bodyOf Tryd.f43) rfl (by kernel_rfl) (by kernel_rfl) Tryd.ntmps43 (res := [.tmp 2]) (by kernel_rfl) ?_
  repeat' ((conv => whnf); first | refine Rng.g ?_ | refine Ob.g ?_ | refine Ob.e ?_ | refine Ob.m ?_ | refine Ob.mk (Nat.le_of_ble_eq_true rfl) ?_ | refine JoinVC.on ?_ | refine Nils.mk (fun h => ?_) ?_ | refine Val.t ?_ | refine Val.d ?_ | refine Mm.mk ?_ | (refine Br.mk (fun h => ?_) (fun h => ?_) <;> first | (exfalso; omega; done) | (exfalso; simp at h; done) | skip))
  refine LoopVC.mk (fun n st => ∃ (i : Nat), i ≤ s.size ∧ n = s.size - i ∧ (∀ j, j < i → okC (chr s j)) ∧ st = ⟨0, envA 42 [(0, .x (.one (.str s))), (3, .int .i64 (i : Int))], []⟩) _ _ ⟨0, Nat.zero_le _, rfl, fun j hj => absurd hj (Nat.not_lt_zero j), rfl⟩ ?_ ?_
  · refine ⟨[], rfl, rfl, ?_, ?_⟩ <;> repeat' (first | exact trivial | exact rfl | exact Iff.rfl | apply And.intro)
  rintro n _ ⟨i, hi, hn, hj, rfl⟩
  have gc : chr s i = ((s.data.toList.getD (i : Int).toNat 0).toNat : Int) := rfl
  by_cases hi' : i < s.size
  · by_cases hc : okC (chr s i)
    · have hc' := hc
      unfold okC at hc'
      rw [gc] at hc'
      repeat' ((conv => whnf); first | refine Rng.g ?_ | refine Ob.g ?_ | refine Ob.e ?_ | refine Ob.m ?_ | refine Ob.mk (Nat.le_of_ble_eq_true rfl) ?_ | refine JoinVC.on ?_ | refine Nils.mk (fun h => ?_) ?_ | refine Val.t ?_ | refine Val.d ?_ | refine Mm.mk ?_ | (refine Br.mk (fun h => ?_) (fun h => ?_) <;> first | (exfalso; omega; done) | (exfalso; simp at h; done) | skip))
      all_goals
        refine Back.mk (s.size - (i + 1)) _ (by omega) ⟨i + 1, by omega, rfl, fun j hj' => ?_, rfl⟩ ?_
        · rcases Nat.lt_succ_iff_lt_or_eq.1 hj' with h' | rfl
          · exact hj j h'
          · exact hc
        · refine ⟨[], rfl, rfl, ?_, ?_⟩ <;> repeat' (first | exact trivial | exact rfl | exact Iff.rfl | apply And.intro)
    · have hc' := hc
      unfold okC at hc'
      rw [gc] at hc'
      repeat' ((conv => whnf); first | refine Rng.g ?_ | refine Ob.g ?_ | refine Ob.e ?_ | refine Ob.m ?_ | refine Ob.mk (Nat.le_of_ble_eq_true rfl) ?_ | refine JoinVC.on ?_ | refine Nils.mk (fun h => ?_) ?_ | refine Val.t ?_ | refine Val.d ?_ | refine Mm.mk ?_ | (refine Br.mk (fun h => ?_) (fun h => ?_) <;> first | (exfalso; omega; done) | (exfalso; simp at h; done) | skip))
      all_goals
        repeat refine Mm.mk ?_
        refine EndVC.mk _ rfl _ _ ⟨rfl, rfl⟩ ?_
        refine ⟨[], rfl, rfl, ?_, ?_⟩ <;> repeat' (first | exact trivial | exact rfl | exact Iff.rfl | apply And.intro)
        exact fun hn => hc (hn.2.2 i hi')
  · repeat' ((conv => whnf); first | refine Rng.g ?_ | refine Ob.g ?_ | refine Ob.e ?_ | refine Ob.m ?_ | refine Ob.mk (Nat.le_of_ble_eq_true rfl) ?_ | refine JoinVC.on ?_ | refine Nils.mk (fun h => ?_) ?_ | refine Val.t ?_ | refine Val.d ?_ | refine Mm.mk ?_ | (refine Br.mk (fun h => ?_) (fun h => ?_) <;> first | (exfalso; omega; done) | (exfalso; simp at h; done) | skip))
    repeat refine Mm.mk ?_
    refine EndVC.mk _ rfl _ _ ⟨rfl, rfl⟩ ?_
    refine ⟨[], rfl, rfl, ?_, ?_⟩ <;> repeat' (first | exact trivial | exact rfl | exact Iff.rfl | apply And.intro)
    · omega
    · omega
    · exact fun j hj' => hj j (by omega)
/-! ### Takes -/

theorem s41 (f : Fmt) : PSpec Tryd.prog 14 [f.x] (.x (I (fmtE f))) := by
  have k0 := s71 f.lead 0 4194304
  have k1 := s71 f.gap 0 4194304
  have k2 := s71 f.tail 0 4194304
  refine spec_of pMix (O := []) Tryd.func14 (c := bodyOf Tryd.f14) rfl (by kernel_rfl) (by kernel_rfl) Tryd.ntmps14 (res := [.tmp 2]) (by kernel_rfl) ?_
  repeat' ((conv => whnf); first | refine Rng.g ?_ | refine Ob.g ?_ | refine Ob.e ?_ | refine Ob.m ?_ | refine Ob.mk (Nat.le_of_ble_eq_true rfl) ?_ | refine JoinVC.on ?_ | refine Nils.mk (fun h => ?_) ?_ | refine Val.t ?_ | refine Val.d ?_ | refine Mm.mk ?_ | refine CallVC.pure rfl (s70 f.nm) ?_ | refine CallVC.pure rfl (s71 f.outer 0 4194304) ?_ | refine CallVC.pure rfl (s71 f.inner 0 (f.outer - 1)) ?_ | refine CallVC.pure rfl (s71 f.per 1 65536) ?_ | refine CallVC.pure rfl (s71 f.cost 0 1048576) ?_ | refine CallVC.pure rfl (k0) ?_ | refine CallVC.pure rfl (k1) ?_ | refine CallVC.pure rfl (k2) ?_ | refine CallVC0.pure rfl (s70 f.nm) ?_ | refine CallVC0.pure rfl (s71 f.outer 0 4194304) ?_ | refine CallVC0.pure rfl (s71 f.inner 0 (f.outer - 1)) ?_ | refine CallVC0.pure rfl (s71 f.per 1 65536) ?_ | refine CallVC0.pure rfl (s71 f.cost 0 1048576) ?_ | refine CallVC0.pure rfl (k0) ?_ | refine CallVC0.pure rfl (k1) ?_ | refine CallVC0.pure rfl (k2) ?_ | (refine Br.mk (fun h => ?_) (fun h => ?_) <;> first | (exfalso; omega; done) | (exfalso; simp at h; done) | skip))
  rotate_right
  · repeat refine Mm.mk ?_
    refine EndVC.mk _ rfl _ _ ⟨rfl, rfl⟩ ?_
    refine ⟨[], rfl, rfl, ?_, ?_⟩ <;> repeat' (first | exact trivial | exact rfl | exact Iff.rfl | apply And.intro)
    exact (fmtE_ok ⟨Classical.not_not.1 (by assumption), by omega, by omega, by omega, by omega, by omega, by omega, by omega⟩).symm
  all_goals
    repeat refine Mm.mk ?_
    refine EndVC.mk _ rfl _ _ ⟨rfl, rfl⟩ ?_
    refine ⟨[], rfl, rfl, ?_, ?_⟩ <;> repeat' (first | exact trivial | exact rfl | exact Iff.rfl | apply And.intro)
    exact (fmtE_no fun hC => (by obtain ⟨h0, h1, h2, h3, h4, h5, h6, h7⟩ := hC; first | contradiction | omega)).symm
theorem s42 (l : List Sng) : PSpec Tryd.prog 16 [lSng l] (.x (I (trkE l))) := by
  have lp := sngA_len l
  by_cases h24 : 24 < l.length
  · refine spec_of pMix (O := []) Tryd.func16 (c := bodyOf Tryd.f16) rfl (by kernel_rfl) (by kernel_rfl) Tryd.ntmps16 (res := [.tmp 2]) (by kernel_rfl) ?_
    repeat' ((conv => whnf); first | refine Rng.g ?_ | refine Ob.g ?_ | refine Ob.e ?_ | refine Ob.m ?_ | refine Ob.mk (Nat.le_of_ble_eq_true rfl) ?_ | refine JoinVC.on ?_ | refine Nils.mk (fun h => ?_) ?_ | refine Val.t ?_ | refine Val.d ?_ | refine Mm.mk ?_ | (refine Br.mk (fun h => ?_) (fun h => ?_) <;> first | (exfalso; omega; done) | (exfalso; simp at h; done) | skip))
    repeat refine Mm.mk ?_
    refine EndVC.mk _ rfl _ _ ⟨rfl, rfl⟩ ?_
    refine ⟨[], rfl, rfl, ?_, ?_⟩ <;> repeat' (first | exact trivial | exact rfl | exact Iff.rfl | apply And.intro)
    exact (trkE_many h24).symm
  refine spec_of pMix (O := []) Tryd.func16 (c := bodyOf Tryd.f16) rfl (by kernel_rfl) (by kernel_rfl) Tryd.ntmps16 (res := [.tmp 2]) (by kernel_rfl) ?_
  repeat' ((conv => whnf); first | refine Rng.g ?_ | refine Ob.g ?_ | refine Ob.e ?_ | refine Ob.m ?_ | refine Ob.mk (Nat.le_of_ble_eq_true rfl) ?_ | refine JoinVC.on ?_ | refine Nils.mk (fun h => ?_) ?_ | refine Val.t ?_ | refine Val.d ?_ | refine Mm.mk ?_ | (refine Br.mk (fun h => ?_) (fun h => ?_) <;> first | (exfalso; omega; done) | (exfalso; simp at h; done) | skip))
  refine LoopVC.mk (fun n st => ∃ (i : Nat), i ≤ l.length ∧ n = l.length - i ∧ (∀ j, j < i → (l.getD j g0).ok) ∧ st = ⟨0, envA 38 [(0, .x (lSng l)), (3, .int .i64 (i : Int))], []⟩) _ _ ⟨0, Nat.zero_le _, rfl, fun j hj => absurd hj (Nat.not_lt_zero j), rfl⟩ ?_ ?_
  · refine ⟨[], rfl, rfl, ?_, ?_⟩ <;> repeat' (first | exact trivial | exact rfl | exact Iff.rfl | apply And.intro)
  rintro n _ ⟨i, hi, hn, hj, rfl⟩
  have c0 : rI (sngA l) (i : Int).toNat 0 = (l.getD i g0).long := by rw [Int.toNat_natCast, sngA_0]
  have c1 : rI (sngA l) (i : Int).toNat (0 + (0 + 1)) = (l.getD i g0).pitch := by rw [Int.toNat_natCast]; exact sngA_1 l i
  have c2 : rI (sngA l) (i : Int).toNat (0 + (0 + 1 + 1)) = (l.getD i g0).least := by rw [Int.toNat_natCast]; exact sngA_2 l i
  have k0 := s71 (l.getD i g0).long 1 16777216
  have k1 := s71 (l.getD i g0).pitch 1 4096
  have k2 := s71 (l.getD i g0).least 0 4194304
  by_cases hi' : i < l.length
  · by_cases hg : (l.getD i g0).ok
    · have hg' := hg
      unfold Sng.ok at hg'
      repeat' ((conv => whnf); first | rw [c0] | rw [c1] | rw [c2] | refine Rng.g ?_ | refine Ob.g ?_ | refine Ob.e ?_ | refine Ob.m ?_ | refine Ob.mk (Nat.le_of_ble_eq_true rfl) ?_ | refine JoinVC.on ?_ | refine Nils.mk (fun h => ?_) ?_ | refine Val.t ?_ | refine Val.d ?_ | refine Mm.mk ?_ | refine CallVC.pure rfl (k0) ?_ | refine CallVC.pure rfl (k1) ?_ | refine CallVC.pure rfl (k2) ?_ | refine CallVC0.pure rfl (k0) ?_ | refine CallVC0.pure rfl (k1) ?_ | refine CallVC0.pure rfl (k2) ?_ | (refine Br.mk (fun h => ?_) (fun h => ?_) <;> first | (exfalso; omega; done) | (exfalso; simp at h; done) | skip))
      refine Back.mk (l.length - (i + 1)) _ (by omega) ⟨i + 1, by omega, rfl, fun j hj' => ?_, rfl⟩ ?_
      · rcases Nat.lt_succ_iff_lt_or_eq.1 hj' with h' | rfl
        · exact hj j h'
        · exact hg
      · refine ⟨[], rfl, rfl, ?_, ?_⟩ <;> repeat' (first | exact trivial | exact rfl | exact Iff.rfl | apply And.intro)
    · have hg' := hg
      unfold Sng.ok at hg'
      repeat' ((conv => whnf); first | rw [c0] | rw [c1] | rw [c2] | refine Rng.g ?_ | refine Ob.g ?_ | refine Ob.e ?_ | refine Ob.m ?_ | refine Ob.mk (Nat.le_of_ble_eq_true rfl) ?_ | refine JoinVC.on ?_ | refine Nils.mk (fun h => ?_) ?_ | refine Val.t ?_ | refine Val.d ?_ | refine Mm.mk ?_ | refine CallVC.pure rfl (k0) ?_ | refine CallVC.pure rfl (k1) ?_ | refine CallVC.pure rfl (k2) ?_ | refine CallVC0.pure rfl (k0) ?_ | refine CallVC0.pure rfl (k1) ?_ | refine CallVC0.pure rfl (k2) ?_ | (refine Br.mk (fun h => ?_) (fun h => ?_) <;> first | (exfalso; omega; done) | (exfalso; simp at h; done) | skip))
      all_goals
        repeat refine Mm.mk ?_
        refine EndVC.mk _ rfl _ _ ⟨rfl, rfl⟩ ?_
        refine ⟨[], rfl, rfl, ?_, ?_⟩ <;> repeat' (first | exact trivial | exact rfl | exact Iff.rfl | apply And.intro)
        exact (trkE_no h24 fun h => absurd (h.each i hi') hg).symm
  · repeat' ((conv => whnf); first | refine Rng.g ?_ | refine Ob.g ?_ | refine Ob.e ?_ | refine Ob.m ?_ | refine Ob.mk (Nat.le_of_ble_eq_true rfl) ?_ | refine JoinVC.on ?_ | refine Nils.mk (fun h => ?_) ?_ | refine Val.t ?_ | refine Val.d ?_ | refine Mm.mk ?_ | (refine Br.mk (fun h => ?_) (fun h => ?_) <;> first | (exfalso; omega; done) | (exfalso; simp at h; done) | skip))
    repeat refine Mm.mk ?_
    refine EndVC.mk _ rfl _ _ ⟨rfl, rfl⟩ ?_
    refine ⟨[], rfl, rfl, ?_, ?_⟩ <;> repeat' (first | exact trivial | exact rfl | exact Iff.rfl | apply And.intro)
    exact (trkE_ok ⟨by omega, fun j hj' => hj j (by omega)⟩).symm
end Go.Sx

namespace Go.Sx
open Go Go.Proofs
set_option maxRecDepth 10000
set_option maxHeartbeats 8000000
theorem eb3 : Tryd.t3.bytes = 8 := by kernel_rfl
/-! ### The usual order -/
theorem s110 (x : Int) : PSpec Tryd.prog 115 [I x] (xP (x ≠ x)) := by
  refine spec_of pMix (O := []) Tryd.func115 (c := bodyOf Tryd.f115) rfl (by kernel_rfl) (by kernel_rfl) Tryd.ntmps115 (res := [.tmp 2]) (by kernel_rfl) ?_
  repeat' ((conv => whnf); first | refine Rng.g ?_ | refine Ob.g ?_ | refine Ob.e ?_ | refine Ob.m ?_ | refine Ob.mk (Nat.le_of_ble_eq_true rfl) ?_ | refine JoinVC.on ?_ | refine Nils.mk (fun h => ?_) ?_ | refine Val.t ?_ | refine Val.d ?_ | refine Mm.mk ?_ | (refine Br.mk (fun h => ?_) (fun h => ?_) <;> first | (exfalso; omega; done) | (exfalso; simp at h; done) | skip))
  repeat refine Mm.mk ?_
  refine EndVC.mk _ rfl _ _ ⟨rfl, rfl⟩ ?_
  refine ⟨[], rfl, rfl, ?_, ?_⟩ <;> repeat' (first | exact trivial | exact rfl | exact Iff.rfl | apply And.intro)
theorem s111 (x : Int) : PSpec Tryd.prog 106 [I x] (xP (x ≠ x)) := by
  refine spec_of pMix (O := []) Tryd.func106 (c := bodyOf Tryd.f106) rfl (by kernel_rfl) (by kernel_rfl) Tryd.ntmps106 (res := [.tmp 2]) (by kernel_rfl) ?_
  repeat' ((conv => whnf); first | refine Rng.g ?_ | refine Ob.g ?_ | refine Ob.e ?_ | refine Ob.m ?_ | refine Ob.mk (Nat.le_of_ble_eq_true rfl) ?_ | refine JoinVC.on ?_ | refine Nils.mk (fun h => ?_) ?_ | refine Val.t ?_ | refine Val.d ?_ | refine Mm.mk ?_ | (refine Br.mk (fun h => ?_) (fun h => ?_) <;> first | (exfalso; omega; done) | (exfalso; simp at h; done) | skip))
  repeat refine Mm.mk ?_
  refine EndVC.mk _ rfl _ _ ⟨rfl, rfl⟩ ?_
  refine ⟨[], rfl, rfl, ?_, ?_⟩ <;> repeat' (first | exact trivial | exact rfl | exact Iff.rfl | apply And.intro)
theorem s85 (x y : Int) : PSpec Tryd.prog 97 [I x, I y] (.x (I (cmpI x y))) := by
  by_cases h1 : x < y
  · have e : cmpI x y = -1 := if_pos h1
    rw [e]
    refine spec_of pMix (O := []) Tryd.func97 (c := bodyOf Tryd.f97) rfl (by kernel_rfl) (by kernel_rfl) Tryd.ntmps97 (res := [.tmp 4]) (by kernel_rfl) ?_
    repeat' ((conv => whnf); first | refine Rng.g ?_ | refine Ob.g ?_ | refine Ob.e ?_ | refine Ob.m ?_ | refine Ob.mk (Nat.le_of_ble_eq_true rfl) ?_ | refine JoinVC.on ?_ | refine Nils.mk (fun h => ?_) ?_ | refine Val.t ?_ | refine Val.d ?_ | refine Mm.mk ?_ | refine CallVC.pure rfl (s110 x) ?_ | refine CallVC.pure rfl (s110 y) ?_ | refine CallVC0.pure rfl (s110 x) ?_ | refine CallVC0.pure rfl (s110 y) ?_ | (refine Br.mk (fun h => ?_) (fun h => ?_) <;> first | (exfalso; omega; done) | (exfalso; simp at h; done) | skip))
    all_goals
      repeat refine Mm.mk ?_
      refine EndVC.mk _ rfl _ _ ⟨rfl, rfl⟩ ?_
      refine ⟨[], rfl, rfl, ?_, ?_⟩ <;> repeat' (first | exact trivial | exact rfl | exact Iff.rfl | apply And.intro)
  · by_cases h2 : y < x
    · have e : cmpI x y = 1 := (if_neg h1).trans (if_pos h2)
      rw [e]
      refine spec_of pMix (O := []) Tryd.func97 (c := bodyOf Tryd.f97) rfl (by kernel_rfl) (by kernel_rfl) Tryd.ntmps97 (res := [.tmp 4]) (by kernel_rfl) ?_
      repeat' ((conv => whnf); first | refine Rng.g ?_ | refine Ob.g ?_ | refine Ob.e ?_ | refine Ob.m ?_ | refine Ob.mk (Nat.le_of_ble_eq_true rfl) ?_ | refine JoinVC.on ?_ | refine Nils.mk (fun h => ?_) ?_ | refine Val.t ?_ | refine Val.d ?_ | refine Mm.mk ?_ | refine CallVC.pure rfl (s110 x) ?_ | refine CallVC.pure rfl (s110 y) ?_ | refine CallVC0.pure rfl (s110 x) ?_ | refine CallVC0.pure rfl (s110 y) ?_ | (refine Br.mk (fun h => ?_) (fun h => ?_) <;> first | (exfalso; omega; done) | (exfalso; simp at h; done) | skip))
      all_goals
        repeat refine Mm.mk ?_
        refine EndVC.mk _ rfl _ _ ⟨rfl, rfl⟩ ?_
        refine ⟨[], rfl, rfl, ?_, ?_⟩ <;> repeat' (first | exact trivial | exact rfl | exact Iff.rfl | apply And.intro)
    · have e : cmpI x y = 0 := (if_neg h1).trans (if_neg h2)
      rw [e]
      refine spec_of pMix (O := []) Tryd.func97 (c := bodyOf Tryd.f97) rfl (by kernel_rfl) (by kernel_rfl) Tryd.ntmps97 (res := [.tmp 4]) (by kernel_rfl) ?_
      repeat' ((conv => whnf); first | refine Rng.g ?_ | refine Ob.g ?_ | refine Ob.e ?_ | refine Ob.m ?_ | refine Ob.mk (Nat.le_of_ble_eq_true rfl) ?_ | refine JoinVC.on ?_ | refine Nils.mk (fun h => ?_) ?_ | refine Val.t ?_ | refine Val.d ?_ | refine Mm.mk ?_ | refine CallVC.pure rfl (s110 x) ?_ | refine CallVC.pure rfl (s110 y) ?_ | refine CallVC0.pure rfl (s110 x) ?_ | refine CallVC0.pure rfl (s110 y) ?_ | (refine Br.mk (fun h => ?_) (fun h => ?_) <;> first | (exfalso; omega; done) | (exfalso; simp at h; done) | skip))
      all_goals
        repeat refine Mm.mk ?_
        refine EndVC.mk _ rfl _ _ ⟨rfl, rfl⟩ ?_
        refine ⟨[], rfl, rfl, ?_, ?_⟩ <;> repeat' (first | exact trivial | exact rfl | exact Iff.rfl | apply And.intro)
theorem s86 (x y : Int) : PSpec Tryd.prog 98 [I x, I y] (.x (I (cmpI x y))) := by
  by_cases h1 : x < y
  · have e : cmpI x y = -1 := if_pos h1
    rw [e]
    refine spec_of pMix (O := []) Tryd.func98 (c := bodyOf Tryd.f98) rfl (by kernel_rfl) (by kernel_rfl) Tryd.ntmps98 (res := [.tmp 4]) (by kernel_rfl) ?_
    repeat' ((conv => whnf); first | refine Rng.g ?_ | refine Ob.g ?_ | refine Ob.e ?_ | refine Ob.m ?_ | refine Ob.mk (Nat.le_of_ble_eq_true rfl) ?_ | refine JoinVC.on ?_ | refine Nils.mk (fun h => ?_) ?_ | refine Val.t ?_ | refine Val.d ?_ | refine Mm.mk ?_ | refine CallVC.pure rfl (s111 x) ?_ | refine CallVC.pure rfl (s111 y) ?_ | refine CallVC0.pure rfl (s111 x) ?_ | refine CallVC0.pure rfl (s111 y) ?_ | (refine Br.mk (fun h => ?_) (fun h => ?_) <;> first | (exfalso; omega; done) | (exfalso; simp at h; done) | skip))
    all_goals
      repeat refine Mm.mk ?_
      refine EndVC.mk _ rfl _ _ ⟨rfl, rfl⟩ ?_
      refine ⟨[], rfl, rfl, ?_, ?_⟩ <;> repeat' (first | exact trivial | exact rfl | exact Iff.rfl | apply And.intro)
  · by_cases h2 : y < x
    · have e : cmpI x y = 1 := (if_neg h1).trans (if_pos h2)
      rw [e]
      refine spec_of pMix (O := []) Tryd.func98 (c := bodyOf Tryd.f98) rfl (by kernel_rfl) (by kernel_rfl) Tryd.ntmps98 (res := [.tmp 4]) (by kernel_rfl) ?_
      repeat' ((conv => whnf); first | refine Rng.g ?_ | refine Ob.g ?_ | refine Ob.e ?_ | refine Ob.m ?_ | refine Ob.mk (Nat.le_of_ble_eq_true rfl) ?_ | refine JoinVC.on ?_ | refine Nils.mk (fun h => ?_) ?_ | refine Val.t ?_ | refine Val.d ?_ | refine Mm.mk ?_ | refine CallVC.pure rfl (s111 x) ?_ | refine CallVC.pure rfl (s111 y) ?_ | refine CallVC0.pure rfl (s111 x) ?_ | refine CallVC0.pure rfl (s111 y) ?_ | (refine Br.mk (fun h => ?_) (fun h => ?_) <;> first | (exfalso; omega; done) | (exfalso; simp at h; done) | skip))
      all_goals
        repeat refine Mm.mk ?_
        refine EndVC.mk _ rfl _ _ ⟨rfl, rfl⟩ ?_
        refine ⟨[], rfl, rfl, ?_, ?_⟩ <;> repeat' (first | exact trivial | exact rfl | exact Iff.rfl | apply And.intro)
    · have e : cmpI x y = 0 := (if_neg h1).trans (if_neg h2)
      rw [e]
      refine spec_of pMix (O := []) Tryd.func98 (c := bodyOf Tryd.f98) rfl (by kernel_rfl) (by kernel_rfl) Tryd.ntmps98 (res := [.tmp 4]) (by kernel_rfl) ?_
      repeat' ((conv => whnf); first | refine Rng.g ?_ | refine Ob.g ?_ | refine Ob.e ?_ | refine Ob.m ?_ | refine Ob.mk (Nat.le_of_ble_eq_true rfl) ?_ | refine JoinVC.on ?_ | refine Nils.mk (fun h => ?_) ?_ | refine Val.t ?_ | refine Val.d ?_ | refine Mm.mk ?_ | refine CallVC.pure rfl (s111 x) ?_ | refine CallVC.pure rfl (s111 y) ?_ | refine CallVC0.pure rfl (s111 x) ?_ | refine CallVC0.pure rfl (s111 y) ?_ | (refine Br.mk (fun h => ?_) (fun h => ?_) <;> first | (exfalso; omega; done) | (exfalso; simp at h; done) | skip))
      all_goals
        repeat refine Mm.mk ?_
        refine EndVC.mk _ rfl _ _ ⟨rfl, rfl⟩ ?_
        refine ⟨[], rfl, rfl, ?_, ?_⟩ <;> repeat' (first | exact trivial | exact rfl | exact Iff.rfl | apply And.intro)
theorem s84 (a b : Int) : PSpec Tryd.prog 96 [.one (.lst true [.int .i64] [[.int a], [.int b]])] (.x (I (if a ≠ 0 then a else b))) := by
  have g0 : rI [[Cell.int a], [Cell.int b]] (Int.toNat 0) 0 = a := rfl
  have g1 : rI [[Cell.int a], [Cell.int b]] (Int.toNat (0 + 1)) 0 = b := rfl
  by_cases h1 : a = 0
  · rw [if_neg (fun h => h h1)]
    refine spec_of pMix (O := []) Tryd.func96 (c := bodyOf Tryd.f96) rfl (by kernel_rfl) (by kernel_rfl) Tryd.ntmps96 (res := [.tmp 2]) (by kernel_rfl) ?_
    repeat' ((conv => whnf); first | refine Rng.g ?_ | refine Ob.g ?_ | refine Ob.e ?_ | refine Ob.m ?_ | refine Ob.mk (Nat.le_of_ble_eq_true rfl) ?_ | refine JoinVC.on ?_ | refine Nils.mk (fun h => ?_) ?_ | refine Val.t ?_ | refine Val.d ?_ | refine Mm.mk ?_ | (refine Br.mk (fun h => ?_) (fun h => ?_) <;> first | (exfalso; omega; done) | (exfalso; simp at h; done) | skip))
    refine LoopVC.un 4 ?_
    repeat' ((conv => whnf); first | rw [g0] | rw [g1] | refine Rng.g ?_ | refine Ob.g ?_ | refine Ob.e ?_ | refine Ob.m ?_ | refine Ob.mk (Nat.le_of_ble_eq_true rfl) ?_ | refine JoinVC.on ?_ | refine Nils.mk (fun h => ?_) ?_ | refine Val.t ?_ | refine Val.d ?_ | refine Mm.mk ?_ | (refine Br.mk (fun h => ?_) (fun h => ?_) <;> first | (exfalso; omega; done) | (exfalso; simp at h; done) | skip))
    all_goals
      repeat refine Mm.mk ?_
      refine EndVC.mk _ rfl _ _ ⟨rfl, rfl⟩ ?_
      refine ⟨[], rfl, rfl, ?_, ?_⟩ <;> repeat' (first | exact trivial | exact rfl | exact Iff.rfl | apply And.intro)
    all_goals omega
  · rw [if_pos h1]
    refine spec_of pMix (O := []) Tryd.func96 (c := bodyOf Tryd.f96) rfl (by kernel_rfl) (by kernel_rfl) Tryd.ntmps96 (res := [.tmp 2]) (by kernel_rfl) ?_
    repeat' ((conv => whnf); first | refine Rng.g ?_ | refine Ob.g ?_ | refine Ob.e ?_ | refine Ob.m ?_ | refine Ob.mk (Nat.le_of_ble_eq_true rfl) ?_ | refine JoinVC.on ?_ | refine Nils.mk (fun h => ?_) ?_ | refine Val.t ?_ | refine Val.d ?_ | refine Mm.mk ?_ | (refine Br.mk (fun h => ?_) (fun h => ?_) <;> first | (exfalso; omega; done) | (exfalso; simp at h; done) | skip))
    refine LoopVC.un 4 ?_
    repeat' ((conv => whnf); first | rw [g0] | rw [g1] | refine Rng.g ?_ | refine Ob.g ?_ | refine Ob.e ?_ | refine Ob.m ?_ | refine Ob.mk (Nat.le_of_ble_eq_true rfl) ?_ | refine JoinVC.on ?_ | refine Nils.mk (fun h => ?_) ?_ | refine Val.t ?_ | refine Val.d ?_ | refine Mm.mk ?_ | (refine Br.mk (fun h => ?_) (fun h => ?_) <;> first | (exfalso; omega; done) | (exfalso; simp at h; done) | skip))
    all_goals
      repeat refine Mm.mk ?_
      refine EndVC.mk _ rfl _ _ ⟨rfl, rfl⟩ ?_
      refine ⟨[], rfl, rfl, ?_, ?_⟩ <;> repeat' (first | exact trivial | exact rfl | exact Iff.rfl | apply And.intro)
theorem s74 (f : Fmt) (l : List Sng) (a b : Int) (ha : 0 ≤ a ∧ a < l.length) (hb : 0 ≤ b ∧ b < l.length) : HSpec Tryd.prog 81 [.one (.ptr 0 0), I a, I b] [bPl f l] (fun r m' => r = .x (I (usF l a b)) ∧ m' = [some (bPl f l)]) := by
  have lp := sngA_len l
  have c1 : rI (sngA l) a.toNat (0 + (0 + 1 + 1)) = (l.getD a.toNat g0).least := sngA_2 l _
  have c2 : rI (sngA l) b.toNat (0 + (0 + 1 + 1)) = (l.getD b.toNat g0).least := sngA_2 l _
  have k1 := s85 (l.getD b.toNat g0).least (l.getD a.toNat g0).least
  have k2 := s86 a b
  have k3 := s84 (cmpI (l.getD b.toNat g0).least (l.getD a.toNat g0).least) (cmpI a b)
  refine spec_of pMix (O := [(1, ([], [⟨0, [], []⟩, ⟨1, [], []⟩, ⟨2, [], []⟩, ⟨3, [], []⟩, ⟨4, [], []⟩, ⟨5, [], []⟩, ⟨6, [], []⟩, ⟨7, [], []⟩, ⟨8, [], []⟩, ⟨9, [], []⟩, ⟨10, [], []⟩, ⟨11, [], []⟩, ⟨12, [], []⟩, ⟨13, [], []⟩, ⟨14, [], []⟩, ⟨15, [], []⟩, ⟨17, [], []⟩, ⟨18, [], []⟩, ⟨16, [17, 18], []⟩, ⟨19, [], [20]⟩, ⟨20, [], []⟩, ⟨21, [], []⟩, ⟨22, [], []⟩]))]) Tryd.func81 (c := bodyOf Tryd.f81) rfl (by kernel_rfl) (by kernel_rfl) Tryd.ntmps81 (res := [.tmp 6]) (by kernel_rfl) ?_
  repeat' ((conv => whnf); first | rw [c1] | rw [c2] | refine Rng.g ?_ | refine Ob.g ?_ | refine Ob.e ?_ | refine Ob.m ?_ | refine Ob.mk (Nat.le_of_ble_eq_true rfl) ?_ | refine JoinVC.on ?_ | refine Nils.mk (fun h => ?_) ?_ | refine Val.t ?_ | refine Val.d ?_ | refine Mm.mk ?_ | refine CallVC.pure rfl (k1) ?_ | refine CallVC.pure rfl (k2) ?_ | refine CallVC.pure rfl (k3) ?_ | refine CallVC0.pure rfl (k1) ?_ | refine CallVC0.pure rfl (k2) ?_ | refine CallVC0.pure rfl (k3) ?_ | (refine Br.mk (fun h => ?_) (fun h => ?_) <;> first | (exfalso; omega; done) | (exfalso; simp at h; done) | skip))
  repeat refine Mm.mk ?_
  refine EndVC.mk _ rfl _ _ ⟨rfl, rfl⟩ ?_
  refine ⟨[some 0], rfl, rfl, ?_, ?_⟩ <;> repeat' (first | exact trivial | exact rfl | exact Iff.rfl | apply And.intro)
@[reducible] def rowOd (O : List Int) : Blk := .row 3 false [.int .i64] (i64s O)
theorem i64s_upd' (xs : List Int) (i : Nat) (v : Int) (h : i < xs.length) : updRow (i64s xs) i 0 [.int v] = i64s (xs.set i v) := by
  unfold updRow i64s
  rw [List.map_set]
  congr 1
  simp [List.getD_eq_getElem?_getD, h, setAll]
/-- All of them are numbers of tracks. -/
def InR (O : List Int) (m : Nat) : Prop := ∀ i, i < O.length → 0 ≤ O.getD i 0 ∧ O.getD i 0 < m
theorem InR.swp {O : List Int} {m : Nat} (h : InR O m) {j : Nat} (hj : j + 1 < O.length) : InR (Go.Sx.swp O j) m := fun i hi => by
  rw [swp_len] at hi
  rw [swp_get O hj]
  exact h _ (sg_lt hj hi)
theorem InR.ins {lt : Int → Int → Bool} {m : Nat} : ∀ (j : Nat) {O : List Int}, InR O m → j < O.length → InR (Go.Sx.ins lt O j) m
  | 0, O, h, _ => h
  | j + 1, O, h, hj => by
    unfold Go.Sx.ins
    split
    · exact InR.ins j (h.swp hj) (by rw [swp_len]; omega)
    · exact h
theorem InR.isr {lt : Int → Int → Bool} {m : Nat} {O : List Int} (h : InR O m) : ∀ k, k < O.length ∨ k = 0 → InR (Go.Sx.isr lt O k) m
  | 0, _ => h
  | k + 1, hk => by
    unfold Go.Sx.isr
    exact InR.ins (k + 1) (h.isr k (by omega)) (by rw [isr_len]; omega)
theorem s102 (f : Fmt) (l : List Sng) (O : List Int) (hO : InR O l.length) (hl : O.length ≤ 1000000) : HSpec Tryd.prog 107 [.one (.own 0), I 0, I (O.length : Int), .one (.bnd 81 false [.ptr 1 0])] [rowOd O, bPl f l] (fun r m' => r = .tup [] ∧ m' = [some (rowOd (isr (usB l) O (O.length - 1))), some (bPl f l)]) := by
  have lo := i64s_len O
  refine spec_of pMix (O := [(6, ([], [⟨0, [], []⟩, ⟨1, [], []⟩, ⟨2, [], []⟩, ⟨3, [], []⟩, ⟨4, [], []⟩, ⟨5, [], []⟩, ⟨6, [], []⟩, ⟨7, [], []⟩, ⟨8, [], []⟩, ⟨9, [], []⟩, ⟨10, [], []⟩, ⟨11, [], []⟩, ⟨12, [], []⟩, ⟨13, [], []⟩, ⟨14, [], []⟩, ⟨15, [2, 3, 4], []⟩, ⟨16, [], []⟩, ⟨17, [], []⟩]))]) Tryd.func107 (c := bodyOf Tryd.f107) rfl (by kernel_rfl) (by kernel_rfl) Tryd.ntmps107 (res := []) (by kernel_rfl) ?_
  repeat' ((conv => whnf); first | refine Rng.g ?_ | refine Ob.g ?_ | refine Ob.e ?_ | refine Ob.m ?_ | refine Ob.mk (Nat.le_of_ble_eq_true rfl) ?_ | refine JoinVC.on ?_ | refine Nils.mk (fun h => ?_) ?_ | refine Val.t ?_ | refine Val.d ?_ | refine Mm.mk ?_ | (refine Br.mk (fun h => ?_) (fun h => ?_) <;> first | (exfalso; omega; done) | (exfalso; simp at h; done) | skip))
  refine LoopVC.mk (fun n st => ∃ (k : Nat), (k < O.length ∨ k = 0) ∧ n = O.length - k ∧ st = ⟨2, envA 53 [(0, .x (.one (.own 0))), (1, .x (I 0)), (2, .x (I (O.length : Int))), (3, .x (.one (.bnd 81 false [.ptr 1 0]))), (8, .int .i64 ((k : Int) + 1))], [some (rowOd (isr (usB l) O k)), some (bPl f l)]⟩) _ _ ⟨0, .inr rfl, rfl, rfl⟩ ?_ ?_
  · refine ⟨[some 0, some 1], rfl, rfl, ?_, ?_⟩ <;> repeat' (first | exact trivial | exact rfl | exact Iff.rfl | apply And.intro)
  rintro n _ ⟨k, hk, hn, rfl⟩
  by_cases hk' : k + 1 < O.length
  · obtain ⟨Z, hZ⟩ : ∃ Z, isr (usB l) O (k + 1) = Z := ⟨_, rfl⟩
    have hZ' : ins (usB l) (isr (usB l) O k) (k + 1) = Z := hZ
    repeat' ((conv => whnf); first | refine Rng.g ?_ | refine Ob.g ?_ | refine Ob.e ?_ | refine Ob.m ?_ | refine Ob.mk (Nat.le_of_ble_eq_true rfl) ?_ | refine JoinVC.on ?_ | refine Nils.mk (fun h => ?_) ?_ | refine Val.t ?_ | refine Val.d ?_ | refine Mm.mk ?_ | (refine Br.mk (fun h => ?_) (fun h => ?_) <;> first | (exfalso; omega; done) | (exfalso; simp at h; done) | skip))
    refine LoopVC.mk (fun n st => ∃ (j : Nat) (V : List Int), j ≤ k + 1 ∧ n = j ∧ V.length = O.length ∧ InR V l.length ∧ ins (usB l) V j = Z ∧ st = ⟨2, envA 53 [(0, .x (.one (.own 0))), (1, .x (I 0)), (2, .x (I (O.length : Int))), (3, .x (.one (.bnd 81 false [.ptr 1 0]))), (8, .int .i64 ((k : Int) + 1)), (9, .int .i64 (j : Int))], [some (rowOd V), some (bPl f l)]⟩) _ _ ⟨k + 1, isr (usB l) O k, Nat.le_refl _, rfl, isr_len _ _ _, hO.isr k hk, hZ', rfl⟩ ?_ ?_
    · refine ⟨[some 0, some 1], rfl, rfl, ?_, ?_⟩ <;> repeat' (first | exact trivial | exact rfl | exact Iff.rfl | apply And.intro)
    rintro n _ ⟨j, V, hj, hn, lV, hV, hi, rfl⟩
    have lv := i64s_len V
    cases j with
    | zero =>
      have e : V = Z := hi
      repeat' ((conv => whnf); first | refine Rng.g ?_ | refine Ob.g ?_ | refine Ob.e ?_ | refine Ob.m ?_ | refine Ob.mk (Nat.le_of_ble_eq_true rfl) ?_ | refine JoinVC.on ?_ | refine Nils.mk (fun h => ?_) ?_ | refine Val.t ?_ | refine Val.d ?_ | refine Mm.mk ?_ | (refine Br.mk (fun h => ?_) (fun h => ?_) <;> first | (exfalso; omega; done) | (exfalso; simp at h; done) | skip))
      refine Back.mk (O.length - (k + 1)) _ (by omega) ⟨k + 1, .inl hk', rfl, rfl⟩ ?_
      rw [hZ, ← e]
      refine ⟨[some 0, some 1], rfl, rfl, ?_, ?_⟩ <;> repeat' (first | exact trivial | exact rfl | exact Iff.rfl | apply And.intro)
    | succ j =>
      have g1 : rI (i64s V) ((j + 1 : Nat) : Int).toNat 0 = V.getD (j + 1) 0 := by rw [Int.toNat_natCast]; exact i64s_get V _
      have g2 : rI (i64s V) (((j + 1 : Nat) : Int) - 1).toNat 0 = V.getD j 0 := by rw [show (((j + 1 : Nat) : Int) - 1).toNat = j by omega]; exact i64s_get V _
      have h1 := hV (j + 1) (by omega)
      have h2 := hV j (by omega)
      have u1 : updRow (i64s V) ((j + 1 : Nat) : Int).toNat 0 [Cell.int (V.getD j 0)] = i64s (V.set (j + 1) (V.getD j 0)) := by rw [Int.toNat_natCast]; exact i64s_upd' _ _ _ (by omega)
      have u2 : updRow (i64s (V.set (j + 1) (V.getD j 0))) (((j + 1 : Nat) : Int) - 1).toNat 0 [Cell.int (V.getD (j + 1) 0)] = i64s (swp V j) := by
        rw [show (((j + 1 : Nat) : Int) - 1).toNat = j by omega]
        exact i64s_upd' _ _ _ (by rw [List.length_set]; omega)
      have lv2 : (i64s (V.set (j + 1) (V.getD j 0))).length = V.length := by rw [i64s_len, List.length_set]
      unfold ins at hi
      repeat' ((conv => whnf); first | rw [g1] | rw [g2] | refine Rng.g ?_ | refine Ob.g ?_ | refine Ob.e ?_ | refine Ob.m ?_ | refine Ob.mk (Nat.le_of_ble_eq_true rfl) ?_ | refine JoinVC.on ?_ | refine Nils.mk (fun h => ?_) ?_ | refine Val.t ?_ | refine Val.d ?_ | refine Mm.mk ?_ | (refine Br.mk (fun h => ?_) (fun h => ?_) <;> first | (exfalso; omega; done) | (exfalso; simp at h; done) | skip))
      conv => whnf
      refine CallVC.mk [1] _ _ _ rfl rfl rfl (s74 f l (V.getD (j + 1) 0) (V.getD j 0) h1 h2) (fun r m' h' => ?_)
      obtain ⟨rfl, rfl⟩ := h'
      conv => whnf
      by_cases hlt : usF l (V.getD (j + 1) 0) (V.getD j 0) < 0
      · rw [if_pos (show usB l (V.getD (j + 1) 0) (V.getD j 0) = true from decide_eq_true hlt)] at hi
        repeat' ((conv => whnf); first | rw [g1] | rw [g2] | rw [u1] | rw [u2] | refine Rng.g ?_ | refine Ob.g ?_ | refine Ob.e ?_ | refine Ob.m ?_ | refine Ob.mk (Nat.le_of_ble_eq_true rfl) ?_ | refine JoinVC.on ?_ | refine Nils.mk (fun h => ?_) ?_ | refine Val.t ?_ | refine Val.d ?_ | refine Mm.mk ?_ | (refine Br.mk (fun h => ?_) (fun h => ?_) <;> first | (exfalso; omega; done) | (exfalso; simp at h; done) | skip))
        refine Back.mk j _ (by omega) ⟨j, swp V j, by omega, rfl, by rw [swp_len]; exact lV, hV.swp (by omega), hi, rfl⟩ ?_
        refine ⟨[some 0, some 1], rfl, rfl, ?_, ?_⟩ <;> repeat' (first | exact trivial | exact rfl | exact Iff.rfl | apply And.intro)
        all_goals omega
      · rw [if_neg (show ¬ usB l (V.getD (j + 1) 0) (V.getD j 0) = true from fun h => hlt (of_decide_eq_true h))] at hi
        repeat' ((conv => whnf); first | rw [g1] | rw [g2] | refine Rng.g ?_ | refine Ob.g ?_ | refine Ob.e ?_ | refine Ob.m ?_ | refine Ob.mk (Nat.le_of_ble_eq_true rfl) ?_ | refine JoinVC.on ?_ | refine Nils.mk (fun h => ?_) ?_ | refine Val.t ?_ | refine Val.d ?_ | refine Mm.mk ?_ | (refine Br.mk (fun h => ?_) (fun h => ?_) <;> first | (exfalso; omega; done) | (exfalso; simp at h; done) | skip))
        refine Back.mk (O.length - (k + 1)) _ (by omega) ⟨k + 1, .inl hk', rfl, rfl⟩ ?_
        rw [hZ, ← hi]
        refine ⟨[some 0, some 1], rfl, rfl, ?_, ?_⟩ <;> repeat' (first | exact trivial | exact rfl | exact Iff.rfl | apply And.intro)
  · have ek : k = O.length - 1 := by omega
    subst ek
    repeat' ((conv => whnf); first | refine Rng.g ?_ | refine Ob.g ?_ | refine Ob.e ?_ | refine Ob.m ?_ | refine Ob.mk (Nat.le_of_ble_eq_true rfl) ?_ | refine JoinVC.on ?_ | refine Nils.mk (fun h => ?_) ?_ | refine Val.t ?_ | refine Val.d ?_ | refine Mm.mk ?_ | (refine Br.mk (fun h => ?_) (fun h => ?_) <;> first | (exfalso; omega; done) | (exfalso; simp at h; done) | skip))
    repeat refine Mm.mk ?_
    refine EndVC.mk _ rfl _ _ ⟨rfl, rfl⟩ ?_
    refine ⟨[some 0, some 1], rfl, rfl, ?_, ?_⟩ <;> repeat' (first | exact trivial | exact rfl | exact Iff.rfl | apply And.intro)
theorem rngU8 (x : UInt8) : inR .i64 (x.toNat : Int) := by
  have := x.toNat_lt
  simp only [inR]
  omega
theorem rngU8' (x : UInt8) : inR .i64 (0 + (x.toNat : Int)) := by
  have := x.toNat_lt
  simp only [inR]
  omega
/-- The number of bits is a number. -/
theorem s99 (n : Int) (hn : 0 ≤ n ∧ n ≤ 12) : HSpec Tryd.prog 94 [.one (.int .u64 n)] [] (fun r m' => ∃ v, r = .x (I v) ∧ m' = []) := by
  have hc : n = 0 ∨ n = 1 ∨ n = 2 ∨ n = 3 ∨ n = 4 ∨ n = 5 ∨ n = 6 ∨ n = 7 ∨ n = 8 ∨ n = 9 ∨ n = 10 ∨ n = 11 ∨ n = 12 := by omega
  rcases hc with rfl | rfl | rfl | rfl | rfl | rfl | rfl | rfl | rfl | rfl | rfl | rfl | rfl
  all_goals
    refine spec_of pMix (O := []) Tryd.func94 (c := bodyOf Tryd.f94) rfl (by kernel_rfl) (by kernel_rfl) Tryd.ntmps94 (res := [.tmp 2]) (by kernel_rfl) ?_
    repeat' ((conv => whnf); first | refine Rng.g ?_ | refine Ob.g ?_ | refine Ob.e ?_ | refine Ob.m ?_ | refine Ob.mk (Nat.le_of_ble_eq_true rfl) ?_ | refine JoinVC.on ?_ | refine Nils.mk (fun h => ?_) ?_ | refine Val.t ?_ | refine Val.d ?_ | refine Mm.mk ?_ | (refine Br.mk (fun h => ?_) (fun h => ?_) <;> first | (exfalso; omega; done) | (exfalso; simp at h; done) | skip))
    refine Rng.ok (rngU8 _) ?_
    repeat' ((conv => whnf); first | refine Rng.g ?_ | refine Ob.g ?_ | refine Ob.e ?_ | refine Ob.m ?_ | refine Ob.mk (Nat.le_of_ble_eq_true rfl) ?_ | refine JoinVC.on ?_ | refine Nils.mk (fun h => ?_) ?_ | refine Val.t ?_ | refine Val.d ?_ | refine Mm.mk ?_ | (refine Br.mk (fun h => ?_) (fun h => ?_) <;> first | (exfalso; omega; done) | (exfalso; simp at h; done) | skip))
    refine Rng.ok (rngU8' _) ?_
    repeat' ((conv => whnf); first | refine Rng.g ?_ | refine Ob.g ?_ | refine Ob.e ?_ | refine Ob.m ?_ | refine Ob.mk (Nat.le_of_ble_eq_true rfl) ?_ | refine JoinVC.on ?_ | refine Nils.mk (fun h => ?_) ?_ | refine Val.t ?_ | refine Val.d ?_ | refine Mm.mk ?_ | (refine Br.mk (fun h => ?_) (fun h => ?_) <;> first | (exfalso; omega; done) | (exfalso; simp at h; done) | skip))
    conv => whnf
    exact EndVC.run _ rfl ⟨_, rfl, rfl⟩
theorem s80 (n : Int) (hn : 0 ≤ n ∧ n ≤ 12) : HSpec Tryd.prog 76 [.one (.int .u64 n)] [] (fun r m' => ∃ v, r = .x (I v) ∧ m' = []) := by
  refine spec_of pMix (O := []) Tryd.func76 (c := bodyOf Tryd.f76) rfl (by kernel_rfl) (by kernel_rfl) Tryd.ntmps76 (res := [.tmp 2]) (by kernel_rfl) ?_
  repeat' ((conv => whnf); first | refine Rng.g ?_ | refine Ob.g ?_ | refine Ob.e ?_ | refine Ob.m ?_ | refine Ob.mk (Nat.le_of_ble_eq_true rfl) ?_ | refine JoinVC.on ?_ | refine Nils.mk (fun h => ?_) ?_ | refine Val.t ?_ | refine Val.d ?_ | refine Mm.mk ?_ | (refine Br.mk (fun h => ?_) (fun h => ?_) <;> first | (exfalso; omega; done) | (exfalso; simp at h; done) | skip))
  conv => whnf
  refine CallVC.mk [] _ _ _ rfl rfl rfl (s99 n hn) (fun r m' h' => ?_)
  obtain ⟨v, rfl, rfl⟩ := h'
  conv => whnf
  repeat' ((conv => whnf); first | refine Rng.g ?_ | refine Ob.g ?_ | refine Ob.e ?_ | refine Ob.m ?_ | refine Ob.mk (Nat.le_of_ble_eq_true rfl) ?_ | refine JoinVC.on ?_ | refine Nils.mk (fun h => ?_) ?_ | refine Val.t ?_ | refine Val.d ?_ | refine Mm.mk ?_ | (refine Br.mk (fun h => ?_) (fun h => ?_) <;> first | (exfalso; omega; done) | (exfalso; simp at h; done) | skip))
  repeat refine Mm.mk ?_
  conv => whnf
  refine EndVC.mk _ rfl _ _ (⟨v, rfl, rfl⟩) ?_
  refine ⟨[], rfl, rfl, ?_, ?_⟩ <;> repeat' (first | exact trivial | exact rfl | exact Iff.rfl | apply And.intro)
theorem s83 (f : Fmt) (l : List Sng) (O : List Int) (v : Int) (hO : InR O l.length) (hl : O.length ≤ 12) : HSpec Tryd.prog 95 [.one (.own 0), I 0, I (O.length : Int), I v, .one (.bnd 81 false [.ptr 1 0])] [rowOd O, bPl f l] (fun r m' => r = .tup [] ∧ m' = [some (rowOd (isr (usB l) O (O.length - 1))), some (bPl f l)]) := by
  have lo := i64s_len O
  refine spec_of pMix (O := []) Tryd.func95 (c := bodyOf Tryd.f95) rfl (by kernel_rfl) (by kernel_rfl) Tryd.ntmps95 (res := []) (by kernel_rfl) ?_
  repeat' ((conv => whnf); first | refine Rng.g ?_ | refine Ob.g ?_ | refine Ob.e ?_ | refine Ob.m ?_ | refine Ob.mk (Nat.le_of_ble_eq_true rfl) ?_ | refine JoinVC.on ?_ | refine Nils.mk (fun h => ?_) ?_ | refine Val.t ?_ | refine Val.d ?_ | refine Mm.mk ?_ | (refine Br.mk (fun h => ?_) (fun h => ?_) <;> first | (exfalso; omega; done) | (exfalso; simp at h; done) | skip))
  refine LoopVC.un 1 ?_
  repeat' ((conv => whnf); first | refine Rng.g ?_ | refine Ob.g ?_ | refine Ob.e ?_ | refine Ob.m ?_ | refine Ob.mk (Nat.le_of_ble_eq_true rfl) ?_ | refine JoinVC.on ?_ | refine Nils.mk (fun h => ?_) ?_ | refine Val.t ?_ | refine Val.d ?_ | refine Mm.mk ?_ | (refine Br.mk (fun h => ?_) (fun h => ?_) <;> first | (exfalso; omega; done) | (exfalso; simp at h; done) | skip))
  conv => whnf
  refine CallVC.mk [0, 1] _ _ _ rfl rfl rfl (s102 f l O hO (by omega)) (fun r m' h' => ?_)
  obtain ⟨rfl, rfl⟩ := h'
  conv => whnf
  repeat' ((conv => whnf); first | refine Rng.g ?_ | refine Ob.g ?_ | refine Ob.e ?_ | refine Ob.m ?_ | refine Ob.mk (Nat.le_of_ble_eq_true rfl) ?_ | refine JoinVC.on ?_ | refine Nils.mk (fun h => ?_) ?_ | refine Val.t ?_ | refine Val.d ?_ | refine Mm.mk ?_ | (refine Br.mk (fun h => ?_) (fun h => ?_) <;> first | (exfalso; omega; done) | (exfalso; simp at h; done) | skip))
  repeat refine Mm.mk ?_
  refine EndVC.mk _ rfl _ _ ⟨rfl, rfl⟩ ?_
  refine ⟨[some 0, some 1], rfl, rfl, ?_, ?_⟩ <;> repeat' (first | exact trivial | exact rfl | exact Iff.rfl | apply And.intro)
theorem s73 (f : Fmt) (l : List Sng) (O : List Int) (hO : InR O l.length) (hl : O.length ≤ 12) : HSpec Tryd.prog 80 [.one (.own 0), .one (.bnd 81 false [.ptr 1 0])] [rowOd O, bPl f l] (fun r m' => r = .tup [] ∧ m' = [some (rowOd (isr (usB l) O (O.length - 1))), some (bPl f l)]) := by
  have lo := i64s_len O
  refine spec_of pMix (O := []) Tryd.func80 (c := bodyOf Tryd.f80) rfl (by kernel_rfl) (by kernel_rfl) Tryd.ntmps80 (res := []) (by kernel_rfl) ?_
  repeat' ((conv => whnf); first | rw [lo] | refine Rng.g ?_ | refine Ob.g ?_ | refine Ob.e ?_ | refine Ob.m ?_ | refine Ob.mk (Nat.le_of_ble_eq_true rfl) ?_ | refine JoinVC.on ?_ | refine Nils.mk (fun h => ?_) ?_ | refine Val.t ?_ | refine Val.d ?_ | refine Mm.mk ?_ | (refine Br.mk (fun h => ?_) (fun h => ?_) <;> first | (exfalso; omega; done) | (exfalso; simp at h; done) | skip))
  conv => whnf
  refine CallVC.mk [] _ _ _ rfl rfl rfl (s80 (O.length : Int) (by omega)) (fun r m' h' => ?_)
  obtain ⟨v, rfl, rfl⟩ := h'
  conv => whnf
  repeat' ((conv => whnf); first | refine Rng.g ?_ | refine Ob.g ?_ | refine Ob.e ?_ | refine Ob.m ?_ | refine Ob.mk (Nat.le_of_ble_eq_true rfl) ?_ | refine JoinVC.on ?_ | refine Nils.mk (fun h => ?_) ?_ | refine Val.t ?_ | refine Val.d ?_ | refine Mm.mk ?_ | (refine Br.mk (fun h => ?_) (fun h => ?_) <;> first | (exfalso; omega; done) | (exfalso; simp at h; done) | skip))
  conv => whnf
  refine CallVC.mk [0, 1] _ _ _ rfl rfl rfl (s83 f l O v hO hl) (fun r m' h' => ?_)
  obtain ⟨rfl, rfl⟩ := h'
  conv => whnf
  repeat' ((conv => whnf); first | refine Rng.g ?_ | refine Ob.g ?_ | refine Ob.e ?_ | refine Ob.m ?_ | refine Ob.mk (Nat.le_of_ble_eq_true rfl) ?_ | refine JoinVC.on ?_ | refine Nils.mk (fun h => ?_) ?_ | refine Val.t ?_ | refine Val.d ?_ | refine Mm.mk ?_ | (refine Br.mk (fun h => ?_) (fun h => ?_) <;> first | (exfalso; omega; done) | (exfalso; simp at h; done) | skip))
  repeat refine Mm.mk ?_
  refine EndVC.mk _ rfl _ _ ⟨rfl, rfl⟩ ?_
  refine ⟨[some 0, some 1], rfl, rfl, ?_, ?_⟩ <;> repeat' (first | exact trivial | exact rfl | exact Iff.rfl | apply And.intro)
theorem s72 (xs : List Int) (hl : xs.length ≤ 1000000) : HSpec Tryd.prog 79 [.one (.lst true [.int .i64] (i64s xs))] [] (fun r m' => r = .x (.one (.own 0)) ∧ m' = [some (rowOd xs)]) := by
  have lo := i64s_len xs
  refine spec_of pMix (O := []) Tryd.func79 (c := bodyOf Tryd.f79) rfl (by kernel_rfl) (by kernel_rfl) Tryd.ntmps79 (res := [.tmp 2]) (by kernel_rfl) ?_
  repeat' ((conv => whnf); first | refine Rng.g ?_ | refine Ob.g ?_ | refine Ob.e ?_ | refine Ob.m ?_ | refine Ob.mk (Nat.le_of_ble_eq_true rfl) ?_ | refine JoinVC.on ?_ | refine Nils.mk (fun h => ?_) ?_ | refine Val.t ?_ | refine Val.d ?_ | refine Mm.mk ?_ | (refine Br.mk (fun h => ?_) (fun h => ?_) <;> first | (exfalso; omega; done) | (exfalso; simp at h; done) | skip))
  · repeat refine Mm.mk ?_
    refine EndVC.mk _ rfl _ _ ⟨rfl, rfl⟩ ?_
    refine ⟨[none], rfl, rfl, ?_, ?_⟩ <;> repeat' (first | exact trivial | exact rfl | exact Iff.rfl | apply And.intro)
    exact h
  · repeat refine Mm.mk ?_
    refine Ob.mk (by simp only [eb3, List.length_nil]; omega) ?_
    repeat' ((conv => whnf); first | refine Rng.g ?_ | refine Ob.g ?_ | refine Ob.e ?_ | refine Ob.m ?_ | refine Ob.mk (Nat.le_of_ble_eq_true rfl) ?_ | refine JoinVC.on ?_ | refine Nils.mk (fun h => ?_) ?_ | refine Val.t ?_ | refine Val.d ?_ | refine Mm.mk ?_ | (refine Br.mk (fun h => ?_) (fun h => ?_) <;> first | (exfalso; omega; done) | (exfalso; simp at h; done) | skip))
    repeat refine Mm.mk ?_
    refine EndVC.mk _ rfl _ _ ⟨rfl, rfl⟩ ?_
    refine ⟨[some 1], rfl, rfl, ?_, ?_⟩ <;> repeat' (first | exact trivial | exact rfl | exact Iff.rfl | apply And.intro)
theorem spanL_nn (n : Nat) : InR (spanL 0 n) n := fun i hi => (span_idx n).rng i (by rw [spanL_len] at hi; exact hi)
theorem s54 (n : Nat) (hn : n ≤ 100000) : HSpec Tryd.prog 50 [I 0, I (n : Int)] [] (fun r m' => r = .x (.one (.own 0)) ∧ m' = [some (rowOd (spanL 0 n))]) := by
  refine spec_of pMix (O := []) Tryd.func50 (c := bodyOf Tryd.f50) rfl (by kernel_rfl) (by kernel_rfl) Tryd.ntmps50 (res := [.tmp 4]) (by kernel_rfl) ?_
  repeat' ((conv => whnf); first | refine Rng.g ?_ | refine Ob.g ?_ | refine Ob.e ?_ | refine Ob.m ?_ | refine Ob.mk (Nat.le_of_ble_eq_true rfl) ?_ | refine JoinVC.on ?_ | refine Nils.mk (fun h => ?_) ?_ | refine Val.t ?_ | refine Val.d ?_ | refine Mm.mk ?_ | (refine Br.mk (fun h => ?_) (fun h => ?_) <;> first | (exfalso; omega; done) | (exfalso; simp at h; done) | skip))
  refine LoopVC.mk (fun m st => ∃ (i : Nat), i ≤ n ∧ m = n - i ∧ st = ⟨0, envA 16 [(0, .int .i64 (i : Int)), (1, .x (I (n : Int))), (5, .x (.one (.own 0)))], [some (rowOd (spanL 0 i))]⟩) _ _ ⟨0, Nat.zero_le _, rfl, rfl⟩ ?_ ?_
  · refine ⟨[none], rfl, rfl, ?_, ?_⟩ <;> repeat' (first | exact trivial | exact rfl | exact Iff.rfl | apply And.intro)
  rintro m _ ⟨i, hi, hm, rfl⟩
  have ls : (i64s (spanL 0 i)).length = i := by rw [i64s_len, spanL_len]
  by_cases hi' : i < n
  · repeat' ((conv => whnf); first | refine Rng.g ?_ | refine Ob.g ?_ | refine Ob.e ?_ | refine Ob.m ?_ | refine Ob.mk (Nat.le_of_ble_eq_true rfl) ?_ | refine JoinVC.on ?_ | refine Nils.mk (fun h => ?_) ?_ | refine Val.t ?_ | refine Val.d ?_ | refine Mm.mk ?_ | (refine Br.mk (fun h => ?_) (fun h => ?_) <;> first | (exfalso; omega; done) | (exfalso; simp at h; done) | skip))
    repeat refine Mm.mk ?_
    refine Ob.mk (by rw [eb3]; simp only [List.length_cons, List.length_nil]; omega) ?_
    repeat' ((conv => whnf); first | refine Rng.g ?_ | refine Ob.g ?_ | refine Ob.e ?_ | refine Ob.m ?_ | refine Ob.mk (Nat.le_of_ble_eq_true rfl) ?_ | refine JoinVC.on ?_ | refine Nils.mk (fun h => ?_) ?_ | refine Val.t ?_ | refine Val.d ?_ | refine Mm.mk ?_ | (refine Br.mk (fun h => ?_) (fun h => ?_) <;> first | (exfalso; omega; done) | (exfalso; simp at h; done) | skip))
    refine Back.mk (n - (i + 1)) _ (by omega) ⟨i + 1, by omega, rfl, rfl⟩ ?_
    rw [spanL_succ]
    refine ⟨[some 2], rfl, rfl, ?_, ?_⟩ <;> repeat' (first | exact trivial | exact rfl | exact Iff.rfl | apply And.intro)
    rw [i64s_snoc, Nat.zero_add]
  · have ei : i = n := by omega
    subst ei
    repeat' ((conv => whnf); first | refine Rng.g ?_ | refine Ob.g ?_ | refine Ob.e ?_ | refine Ob.m ?_ | refine Ob.mk (Nat.le_of_ble_eq_true rfl) ?_ | refine JoinVC.on ?_ | refine Nils.mk (fun h => ?_) ?_ | refine Val.t ?_ | refine Val.d ?_ | refine Mm.mk ?_ | (refine Br.mk (fun h => ?_) (fun h => ?_) <;> first | (exfalso; omega; done) | (exfalso; simp at h; done) | skip))
    repeat refine Mm.mk ?_
    refine EndVC.mk _ rfl _ _ ⟨rfl, rfl⟩ ?_
    refine ⟨[some 0], rfl, rfl, ?_, ?_⟩ <;> repeat' (first | exact trivial | exact rfl | exact Iff.rfl | apply And.intro)
theorem s45 (f : Fmt) (l : List Sng) (O : List Int) (hO : InR O l.length) (hl : O.length ≤ 12) : HSpec Tryd.prog 71 [.one (.ptr 0 0), .one (.own 1)] [bPl f l, rowOd O] (fun r m' => r = .x (.one (.own 2)) ∧ m' = [some (bPl f l), some (rowOd O), some (rowOd (isr (usB l) O (O.length - 1)))]) := by
  refine spec_of pMix (O := []) Tryd.func71 (c := bodyOf Tryd.f71) rfl (by kernel_rfl) (by kernel_rfl) Tryd.ntmps71 (res := [.tmp 4]) (by kernel_rfl) ?_
  repeat' ((conv => whnf); first | refine Rng.g ?_ | refine Ob.g ?_ | refine Ob.e ?_ | refine Ob.m ?_ | refine Ob.mk (Nat.le_of_ble_eq_true rfl) ?_ | refine JoinVC.on ?_ | refine Nils.mk (fun h => ?_) ?_ | refine Val.t ?_ | refine Val.d ?_ | refine Mm.mk ?_ | (refine Br.mk (fun h => ?_) (fun h => ?_) <;> first | (exfalso; omega; done) | (exfalso; simp at h; done) | skip))
  conv => whnf
  refine CallVC.mk [] _ _ _ rfl rfl rfl (s72 O (by omega)) (fun r m' h' => ?_)
  obtain ⟨rfl, rfl⟩ := h'
  conv => whnf
  repeat' ((conv => whnf); first | refine Rng.g ?_ | refine Ob.g ?_ | refine Ob.e ?_ | refine Ob.m ?_ | refine Ob.mk (Nat.le_of_ble_eq_true rfl) ?_ | refine JoinVC.on ?_ | refine Nils.mk (fun h => ?_) ?_ | refine Val.t ?_ | refine Val.d ?_ | refine Mm.mk ?_ | (refine Br.mk (fun h => ?_) (fun h => ?_) <;> first | (exfalso; omega; done) | (exfalso; simp at h; done) | skip))
  conv => whnf
  refine CallVC.mk [2, 0] _ _ _ rfl rfl rfl (s73 f l O hO hl) (fun r m' h' => ?_)
  obtain ⟨rfl, rfl⟩ := h'
  conv => whnf
  repeat' ((conv => whnf); first | refine Rng.g ?_ | refine Ob.g ?_ | refine Ob.e ?_ | refine Ob.m ?_ | refine Ob.mk (Nat.le_of_ble_eq_true rfl) ?_ | refine JoinVC.on ?_ | refine Nils.mk (fun h => ?_) ?_ | refine Val.t ?_ | refine Val.d ?_ | refine Mm.mk ?_ | (refine Br.mk (fun h => ?_) (fun h => ?_) <;> first | (exfalso; omega; done) | (exfalso; simp at h; done) | skip))
  repeat refine Mm.mk ?_
  refine EndVC.mk _ rfl _ _ ⟨rfl, rfl⟩ ?_
  refine ⟨[some 0, some 1, some 2], rfl, rfl, ?_, ?_⟩ <;> repeat' (first | exact trivial | exact rfl | exact Iff.rfl | apply And.intro)
theorem s46 (f : Fmt) (l : List Sng) (hl : l.length ≤ 12) : HSpec Tryd.prog 57 [.one (.ptr 0 0)] [bPl f l] (fun r m' => r = .x (.one (.own 1)) ∧ m' = [some (bPl f l), some (rowOd (allO l))]) := by
  have lp := sngA_len l
  have c := s45 f l (spanL 0 l.length) (spanL_nn _) (by rw [spanL_len]; exact hl)
  rw [spanL_len] at c
  refine spec_of pMix (O := []) Tryd.func57 (c := bodyOf Tryd.f57) rfl (by kernel_rfl) (by kernel_rfl) Tryd.ntmps57 (res := [.tmp 2]) (by kernel_rfl) ?_
  repeat' ((conv => whnf); first | rw [lp] | refine Rng.g ?_ | refine Ob.g ?_ | refine Ob.e ?_ | refine Ob.m ?_ | refine Ob.mk (Nat.le_of_ble_eq_true rfl) ?_ | refine JoinVC.on ?_ | refine Nils.mk (fun h => ?_) ?_ | refine Val.t ?_ | refine Val.d ?_ | refine Mm.mk ?_ | (refine Br.mk (fun h => ?_) (fun h => ?_) <;> first | (exfalso; omega; done) | (exfalso; simp at h; done) | skip))
  conv => whnf
  refine CallVC.mk [] _ _ _ rfl rfl rfl (s54 l.length (by omega)) (fun r m' h' => ?_)
  obtain ⟨rfl, rfl⟩ := h'
  conv => whnf
  repeat' ((conv => whnf); first | refine Rng.g ?_ | refine Ob.g ?_ | refine Ob.e ?_ | refine Ob.m ?_ | refine Ob.mk (Nat.le_of_ble_eq_true rfl) ?_ | refine JoinVC.on ?_ | refine Nils.mk (fun h => ?_) ?_ | refine Val.t ?_ | refine Val.d ?_ | refine Mm.mk ?_ | (refine Br.mk (fun h => ?_) (fun h => ?_) <;> first | (exfalso; omega; done) | (exfalso; simp at h; done) | skip))
  conv => whnf
  refine CallVC.mk [0, 1] _ _ _ rfl rfl rfl (c) (fun r m' h' => ?_)
  obtain ⟨rfl, rfl⟩ := h'
  conv => whnf
  repeat' ((conv => whnf); first | refine Rng.g ?_ | refine Ob.g ?_ | refine Ob.e ?_ | refine Ob.m ?_ | refine Ob.mk (Nat.le_of_ble_eq_true rfl) ?_ | refine JoinVC.on ?_ | refine Nils.mk (fun h => ?_) ?_ | refine Val.t ?_ | refine Val.d ?_ | refine Mm.mk ?_ | (refine Br.mk (fun h => ?_) (fun h => ?_) <;> first | (exfalso; omega; done) | (exfalso; simp at h; done) | skip))
  repeat refine Mm.mk ?_
  refine EndVC.mk _ rfl _ _ ⟨rfl, rfl⟩ ?_
  refine ⟨[some 0, some 2], rfl, rfl, ?_, ?_⟩ <;> repeat' (first | exact trivial | exact rfl | exact Iff.rfl | apply And.intro)
/-! ### The bands -/
@[reducible] def rowB (A : Arr) : Blk := .row 67 false [.int .i64, .int .i64, .int .i64] A
theorem eb116 : Tryd.t67.bytes = 24 := by kernel_rfl
inductive LyRs (f : Fmt) (l : List Sng) (O : List Int) (r : AV) (m' : List (Option Blk)) : Prop
  | rule (i : Nat) (hi : i < O.length) (h : ∀ j, j < i → okAt f l O j) (hn : ¬ okAt f l O i) (hr : r = .tup [.one .nils, I (i : Int), I 20]) (hm : m' = [some (bPl f l)])
  | limit (h : ∀ j, j < O.length → okAt f l O j) (hn : ¬ LayOK f l O) (hr : r = .tup [.one .nils, I (O.length : Int), I 14]) (hm : m' = [some (bPl f l)])
  | ok (h : LayOK f l O) (hr : r = .tup [.one (.own 1), I (O.length : Int), I 0]) (hm : m' = [some (bPl f l), some (rowB (bndA f l O O.length))])
theorem s37 (f : Fmt) (l : List Sng) (O : List Int) (hf : FmtOK f) (hg : SngsOK l) (hO : InR O l.length) (hl : O.length ≤ 100) : HSpec Tryd.prog 61 [.one (.ptr 0 0), .one (.lst true [.int .i64] (i64s O))] [bPl f l] (LyRs f l O) := by
  have lo := i64s_len O
  have lg := sngA_len l
  have hbd := atF_bd hf hg hO
  have hf1 := hf.outer
  have hf2 := hf.lead
  have hf3 := hf.gap
  have hf4 := hf.tail
  have hf5 := hf.inner
  refine spec_of pMix (O := []) Tryd.func61 (c := bodyOf Tryd.f61) rfl (by kernel_rfl) (by kernel_rfl) Tryd.ntmps61 (res := [.tmp 4, .tmp 5, .tmp 6]) (by kernel_rfl) ?_
  repeat' ((conv => whnf); first | refine Rng.g ?_ | refine Ob.g ?_ | refine Ob.e ?_ | refine Ob.m ?_ | refine Ob.mk (Nat.le_of_ble_eq_true rfl) ?_ | refine JoinVC.on ?_ | refine Nils.mk (fun h => ?_) ?_ | refine Val.t ?_ | refine Val.d ?_ | refine Mm.mk ?_ | (refine Br.mk (fun h => ?_) (fun h => ?_) <;> first | (exfalso; omega; done) | (exfalso; simp at h; done) | skip))
  refine LoopVC.mk (fun n st => ∃ (i : Nat), i ≤ O.length ∧ n = O.length - i ∧ (∀ j, j < i → okAt f l O j) ∧ st = ⟨1, envA 89 [(0, .x (.one (.ptr 0 0))), (1, .x (.one (.lst true [.int .i64] (i64s O)))), (7, .x (.one (.own 1))), (8, .int .i64 (atF f l O i)), (23, .x (.one (.lst true [.int .i64] (i64s O)))), (24, .int .i64 (O.length : Int)), (25, .int .i64 (i : Int))], [some (bPl f l), some (rowB (bndA f l O i))]⟩) _ _ ⟨0, Nat.zero_le _, rfl, fun j hj => absurd hj (Nat.not_lt_zero j), rfl⟩ ?_ ?_
  · refine ⟨[some 0, none], rfl, rfl, ?_, ?_⟩ <;> repeat' (first | exact trivial | exact rfl | exact Iff.rfl | apply And.intro)
    exact congrArg Int.ofNat lo
  rintro n _ ⟨i, hi, hn, hj, rfl⟩
  have lb := bndA_len f l O i
  have gi : rI (i64s O) (i : Int).toNat 0 = O.getD i 0 := by rw [Int.toNat_natCast]; exact i64s_get O i
  have hbi := hbd i hi
  by_cases hi' : i < O.length
  · have hr := hO i hi'
    obtain ⟨q, hq⟩ : ∃ q, O.getD i 0 = q := ⟨_, rfl⟩
    have c0 : rI (sngA l) q.toNat 0 = (l.getD q.toNat g0).long := sngA_0 l _
    have c1 : rI (sngA l) q.toNat (0 + 1) = (l.getD q.toNat g0).pitch := sngA_1 l _
    have c2 : rI (sngA l) q.toNat (0 + 1 + 1) = (l.getD q.toNat g0).least := sngA_2 l _
    have c3 : rI (sngA l) q.toNat (0 + (0 + 1 + 1)) = (l.getD q.toNat g0).least := sngA_2 l _
    rw [hq] at gi hr
    have hgk := hg.each q.toNat (by omega)
    have hw := (wid_bd hf.per.1 hgk).2
    have k1 := s43 f (some l) (l.getD q.toNat g0) hf hgk
    have ea : atF f l O (i + 1) = atF f l O i - (if 0 < i then f.gap else 0) - widF f (l.getD (O.getD i 0).toNat g0) := rfl
    rw [hq] at ea
    have eo : okAt f l O i ↔ (l.getD q.toNat g0).least ≤ atF f l O (i + 1) := by unfold okAt; rw [hq]
    by_cases h0 : 0 < i
    · have e1 : (if 0 < i then f.gap else 0) = f.gap := if_pos h0
      have e2 : (atF f l O i - f.gap) - widF f (l.getD q.toNat g0) = atF f l O (i + 1) := by rw [ea, e1]
      have hbj := hbd (i + 1) hi'
      have e3 : bndR f l O i = [Cell.int q, Cell.int (atF f l O i - f.gap), Cell.int (atF f l O (i + 1))] := by unfold bndR; rw [hq, e1]
      repeat' ((conv => whnf); first | rw [gi] | rw [c0] | rw [c1] | rw [c2] | refine Rng.g ?_ | refine Ob.g ?_ | refine Ob.e ?_ | refine Ob.m ?_ | refine Ob.mk (Nat.le_of_ble_eq_true rfl) ?_ | refine JoinVC.on ?_ | refine Nils.mk (fun h => ?_) ?_ | refine Val.t ?_ | refine Val.d ?_ | refine Mm.mk ?_ | (refine Br.mk (fun h => ?_) (fun h => ?_) <;> first | (exfalso; omega; done) | (exfalso; simp at h; done) | skip))
      conv => whnf
      refine CallVC.mk [0] _ _ _ rfl rfl rfl (k1) (fun r m' h' => ?_)
      obtain ⟨rfl, rfl⟩ := h'
      conv => whnf
      repeat' ((conv => whnf); first | rw [e2] | rw [c3] | refine Rng.g ?_ | refine Ob.g ?_ | refine Ob.e ?_ | refine Ob.m ?_ | refine Ob.mk (Nat.le_of_ble_eq_true rfl) ?_ | refine JoinVC.on ?_ | refine Nils.mk (fun h => ?_) ?_ | refine Val.t ?_ | refine Val.d ?_ | refine Mm.mk ?_ | (refine Br.mk (fun h => ?_) (fun h => ?_) <;> first | (exfalso; omega; done) | (exfalso; simp at h; done) | skip))
      · have hno : ¬ okAt f l O i := fun hk => by have := eo.1 hk; omega
        repeat refine Mm.mk ?_
        conv => whnf
        refine EndVC.mk _ rfl _ _ (.rule i hi' hj hno rfl rfl) ?_
        refine ⟨[some 0], rfl, rfl, ?_, ?_⟩ <;> repeat' (first | exact trivial | exact rfl | exact Iff.rfl | apply And.intro)
      · repeat refine Mm.mk ?_
        refine Ob.mk (by rw [eb116]; simp only [List.length_cons, List.length_nil]; omega) ?_
        repeat' ((conv => whnf); first | rw [e2] | rw [c3] | refine Rng.g ?_ | refine Ob.g ?_ | refine Ob.e ?_ | refine Ob.m ?_ | refine Ob.mk (Nat.le_of_ble_eq_true rfl) ?_ | refine JoinVC.on ?_ | refine Nils.mk (fun h => ?_) ?_ | refine Val.t ?_ | refine Val.d ?_ | refine Mm.mk ?_ | (refine Br.mk (fun h => ?_) (fun h => ?_) <;> first | (exfalso; omega; done) | (exfalso; simp at h; done) | skip))
        refine Back.mk (O.length - (i + 1)) _ (by omega) ⟨i + 1, by omega, rfl, fun j hj' => ?_, rfl⟩ ?_
        · rcases Nat.lt_succ_iff_lt_or_eq.1 hj' with h' | rfl
          · exact hj j h'
          · exact eo.2 (by omega)
        · rw [bndA_succ, e3]
          refine ⟨[some 0, some 4], rfl, rfl, ?_, ?_⟩ <;> repeat' (first | exact trivial | exact rfl | exact Iff.rfl | apply And.intro)
    · have e1 : (if 0 < i then f.gap else 0) = 0 := if_neg h0
      have e2 : (atF f l O i) - widF f (l.getD q.toNat g0) = atF f l O (i + 1) := by rw [ea, e1]; omega
      have hbj := hbd (i + 1) hi'
      have e3 : bndR f l O i = [Cell.int q, Cell.int (atF f l O i), Cell.int (atF f l O (i + 1))] := by unfold bndR; rw [hq, e1]; simp only [Int.sub_zero]
      repeat' ((conv => whnf); first | rw [gi] | rw [c0] | rw [c1] | rw [c2] | refine Rng.g ?_ | refine Ob.g ?_ | refine Ob.e ?_ | refine Ob.m ?_ | refine Ob.mk (Nat.le_of_ble_eq_true rfl) ?_ | refine JoinVC.on ?_ | refine Nils.mk (fun h => ?_) ?_ | refine Val.t ?_ | refine Val.d ?_ | refine Mm.mk ?_ | (refine Br.mk (fun h => ?_) (fun h => ?_) <;> first | (exfalso; omega; done) | (exfalso; simp at h; done) | skip))
      conv => whnf
      refine CallVC.mk [0] _ _ _ rfl rfl rfl (k1) (fun r m' h' => ?_)
      obtain ⟨rfl, rfl⟩ := h'
      conv => whnf
      repeat' ((conv => whnf); first | rw [e2] | rw [c3] | refine Rng.g ?_ | refine Ob.g ?_ | refine Ob.e ?_ | refine Ob.m ?_ | refine Ob.mk (Nat.le_of_ble_eq_true rfl) ?_ | refine JoinVC.on ?_ | refine Nils.mk (fun h => ?_) ?_ | refine Val.t ?_ | refine Val.d ?_ | refine Mm.mk ?_ | (refine Br.mk (fun h => ?_) (fun h => ?_) <;> first | (exfalso; omega; done) | (exfalso; simp at h; done) | skip))
      · have hno : ¬ okAt f l O i := fun hk => by have := eo.1 hk; omega
        repeat refine Mm.mk ?_
        conv => whnf
        refine EndVC.mk _ rfl _ _ (.rule i hi' hj hno rfl rfl) ?_
        refine ⟨[some 0], rfl, rfl, ?_, ?_⟩ <;> repeat' (first | exact trivial | exact rfl | exact Iff.rfl | apply And.intro)
      · repeat refine Mm.mk ?_
        refine Ob.mk (by rw [eb116]; simp only [List.length_cons, List.length_nil]; omega) ?_
        repeat' ((conv => whnf); first | rw [e2] | rw [c3] | refine Rng.g ?_ | refine Ob.g ?_ | refine Ob.e ?_ | refine Ob.m ?_ | refine Ob.mk (Nat.le_of_ble_eq_true rfl) ?_ | refine JoinVC.on ?_ | refine Nils.mk (fun h => ?_) ?_ | refine Val.t ?_ | refine Val.d ?_ | refine Mm.mk ?_ | (refine Br.mk (fun h => ?_) (fun h => ?_) <;> first | (exfalso; omega; done) | (exfalso; simp at h; done) | skip))
        refine Back.mk (O.length - (i + 1)) _ (by omega) ⟨i + 1, by omega, rfl, fun j hj' => ?_, rfl⟩ ?_
        · rcases Nat.lt_succ_iff_lt_or_eq.1 hj' with h' | rfl
          · exact hj j h'
          · exact eo.2 (by omega)
        · rw [bndA_succ, e3]
          refine ⟨[some 0, some 4], rfl, rfl, ?_, ?_⟩ <;> repeat' (first | exact trivial | exact rfl | exact Iff.rfl | apply And.intro)
  · have ei : i = O.length := by omega
    subst ei
    repeat' ((conv => whnf); first | rw [lo] | refine Rng.g ?_ | refine Ob.g ?_ | refine Ob.e ?_ | refine Ob.m ?_ | refine Ob.mk (Nat.le_of_ble_eq_true rfl) ?_ | refine JoinVC.on ?_ | refine Nils.mk (fun h => ?_) ?_ | refine Val.t ?_ | refine Val.d ?_ | refine Mm.mk ?_ | (refine Br.mk (fun h => ?_) (fun h => ?_) <;> first | (exfalso; omega; done) | (exfalso; simp at h; done) | skip))
    · repeat refine Mm.mk ?_
      conv => whnf
      refine EndVC.mk _ rfl _ _ (.limit hj (fun hL => (by have := hL.2; omega)) rfl rfl) ?_
      refine ⟨[some 0], rfl, rfl, ?_, ?_⟩ <;> repeat' (first | exact trivial | exact rfl | exact Iff.rfl | apply And.intro)
    · repeat refine Mm.mk ?_
      conv => whnf
      refine EndVC.mk _ rfl _ _ (.ok ⟨hj, by omega⟩ rfl rfl) ?_
      refine ⟨[some 0, some 1], rfl, rfl, ?_, ?_⟩ <;> repeat' (first | exact trivial | exact rfl | exact Iff.rfl | apply And.intro)
theorem s45u (f : Fmt) (l : List Sng) (O : List Int) (hO : OrdOK l.length O) (hl : O.length ≤ 12) : HSpec Tryd.prog 71 [.one (.ptr 0 0), .one (.own 1)] [bPl f l, rowOd O] (fun r m' => r = .x (.one (.own 2)) ∧ m' = [some (bPl f l), some (rowOd O), some (rowOd (usu l O))]) := by
  rw [← isr_usu hO.nodup]
  exact s45 f l O hO.rng hl
theorem allO_usu (l : List Sng) : allO l = usu l (spanL 0 l.length) := by
  unfold allO
  have h := isr_usu (l := l) (O := spanL 0 l.length) (at_nodup fun i j hi hj e => (span_idx l.length).inj i j (by rw [spanL_len] at hi; exact hi) (by rw [spanL_len] at hj; exact hj) e)
  rw [spanL_len] at h
  exact h
theorem span_ok (n : Nat) : OrdOK n (spanL 0 n) := ⟨fun i hi => (span_idx n).rng i (by rw [spanL_len] at hi; exact hi), fun i j hi hj e => (span_idx n).inj i j (by rw [spanL_len] at hi; exact hi) (by rw [spanL_len] at hj; exact hj) e⟩
end Go.Sx

namespace Go.Sx
open Go Go.Proofs
set_option maxRecDepth 10000
set_option maxHeartbeats 4000000
/-! ### With more room and less to cut what is possible stays possible (plain) -/
structure LessP (f g : Fmt) (l m : List Sng) : Prop where
  len : m.length = l.length
  outer : f.outer ≤ g.outer
  inner : g.inner ≤ f.inner
  per : g.per = f.per
  lead : g.lead = f.lead
  gap : g.gap = f.gap
  tail : g.tail = f.tail
  cost : g.cost = f.cost
  each : ∀ j, j < l.length → (m.getD j g0).long ≤ (l.getD j g0).long ∧ (m.getD j g0).pitch ≤ (l.getD j g0).pitch ∧ (m.getD j g0).least ≤ (l.getD j g0).least
theorem wid_mono {f g : Fmt} {a b : Sng} (hp : 1 ≤ f.per) (he : g.per = f.per) (hb : b.ok) (h1 : b.long ≤ a.long) (h2 : b.pitch ≤ a.pitch) : widF g b ≤ widF f a := by
  unfold widF
  rw [he]
  have h3 : (b.long + f.per - 1) / f.per ≤ (a.long + f.per - 1) / f.per := Int.ediv_le_ediv (by omega) (by omega)
  have h4 : 0 ≤ (b.long + f.per - 1) / f.per := Int.ediv_nonneg (by have := hb.1.1; omega) (by omega)
  exact Int.mul_le_mul h2 h3 h4 (by have := hb.2.1.1; omega)
theorem at_mono {f g : Fmt} {l m : List Sng} {O : List Int} (hf : FmtOK f) (hm : SngsOK m) (h : LessP f g l m) (hr : ∀ y, y ∈ O → 0 ≤ y ∧ y < l.length) : ∀ i, i ≤ O.length → atF f l O i ≤ atF g m O i
  | 0, _ => by
    have := h.outer
    have := h.lead
    unfold atF
    omega
  | i + 1, hi => by
    have h1 := at_mono hf hm h hr i (by omega)
    have h2 := hr (O.getD i 0) (by rw [List.getD_eq_getElem?_getD, List.getElem?_eq_getElem (by omega)]; exact List.getElem_mem _)
    have hj : (O.getD i 0).toNat < l.length := by omega
    have h3 := h.each _ hj
    have h4 := wid_mono hf.per.1 h.per (hm.each (O.getD i 0).toNat (by rw [h.len]; exact hj)) h3.1 h3.2.1
    have := h.gap
    unfold atF
    split <;> omega
theorem lay_mono {f g : Fmt} {l m : List Sng} {O : List Int} (hf : FmtOK f) (hm : SngsOK m) (h : LessP f g l m) (hr : ∀ y, y ∈ O → 0 ≤ y ∧ y < l.length) (hL : LayOK f l O) : LayOK g m O := by
  refine ⟨fun i hi => ?_, ?_⟩
  · have h1 := hL.1 i hi
    have h2 := hr (O.getD i 0) (by rw [List.getD_eq_getElem?_getD, List.getElem?_eq_getElem hi]; exact List.getElem_mem _)
    have h3 := (h.each (O.getD i 0).toNat (by omega)).2.2
    have h4 := at_mono hf hm h hr (i + 1) (by omega)
    unfold okAt at h1 ⊢
    omega
  · have h1 := hL.2
    have h4 := at_mono hf hm h hr O.length (Nat.le_refl _)
    have := h.inner
    have := h.tail
    omega
theorem face_mono {f g : Fmt} {l m : List Sng} {k i j : Nat} (hf : FmtOK f) (hm : SngsOK m) (h : LessP f g l m) (hF : faceP [f] l k i j) : faceP [g] m k i j := by
  have hk : k = 0 := by have := hF.fmt; simp at this; exact this
  subst hk
  refine ⟨by simp, hF.lt, by rw [h.len]; exact hF.le, ?_⟩
  have h1 : LayOK f l (seqL i (j - i)) := hF.lay
  have hl := hF.le
  have hlt := hF.lt
  refine lay_mono hf hm h (fun y hy => ?_) h1
  obtain ⟨n, hn, rfl⟩ := List.getElem_of_mem hy
  rw [seqL_len] at hn
  have := seqL_get i (j - i) n hn
  rw [List.getD_eq_getElem?_getD, List.getElem?_eq_getElem (by rw [seqL_len]; exact hn)] at this
  simp only [Option.getD_some] at this
  rw [this]
  omega
theorem plan_mono {f g : Fmt} {l m : List Sng} (hf : FmtOK f) (hm : SngsOK m) (h : LessP f g l m) : ∀ (P : List (Nat × Nat)) (i : Nat), PlanOK [f] l i P → PlanOK [g] m i P ∧ costP [g] P = costP [f] P
  | [], i, hP => ⟨by rw [PlanOK] at hP ⊢; rw [h.len]; exact hP, rfl⟩
  | (k, n) :: t, i, hP => by
    rw [PlanOK] at hP
    obtain ⟨h1, h2⟩ := plan_mono hf hm h t (i + n) hP.2
    have hk : k = 0 := by have := hP.1.fmt; simp at this; exact this
    subst hk
    refine ⟨by rw [PlanOK]; exact ⟨face_mono hf hm h hP.1, h1⟩, ?_⟩
    unfold costP
    rw [h2]
    have : g.cost = f.cost := h.cost
    simp [this]
theorem side_mono {f g : Fmt} {l m : List Sng} {P : List Int} {k : Int} (hf : FmtOK f) (hg : FmtOK g) (hm : SngsOK m) (h : LessP f g l m) (hP : P.length = l.length) (hS : sideOK f l P k) : sideOK g m P k := by
  unfold sideOK at hS ⊢
  have hr : ∀ y, y ∈ usu l (onL P k) → 0 ≤ y ∧ y < l.length := fun y hy => by
    obtain ⟨j, h1, _, rfl⟩ := mem_onL.1 (usu_mem.1 hy)
    omega
  exact usu_lay hg hm (onL_nodup P k) (fun x hx => usu_mem.2 hx) (fun y hy => by rw [h.len]; exact hr y hy) (lay_mono hf hm h hr hS)
theorem packd_mono {f g : Fmt} {l m : List Sng} {P : List Int} {s : Nat} (hf : FmtOK f) (hg : FmtOK g) (hm : SngsOK m) (h : LessP f g l m) (hP : Packd f l P s) : Packd g m P s :=
  ⟨hP.num, hP.nxt, hP.all, by rw [h.len]; exact hP.len, fun k hk => side_mono hf hg hm h hP.len (hP.ok k hk)⟩
theorem pack_mono {f g : Fmt} {l m : List Sng} {s : Nat} {q : List Int} (hf : FmtOK f) (hg : FmtOK g) (hm : SngsOK m) (h : LessP f g l m) (hq : packR f l s = some q) : packR g m s ≠ none := fun hn =>
  packR_none hn q (packd_mono hf hg hm h (packR_some hq))
theorem bst_mono {f g : Fmt} {l m : List Sng} (hf : FmtOK f) (hm : SngsOK m) (h : LessP f g l m) {w : Int × Int} {q : Nat × Nat} (hb : bst [f] l 0 = some (w, q)) : ∃ w2 q2, bst [g] m 0 = some (w2, q2) ∧ w2.1 ≤ w.1 := by
  obtain ⟨h1, h2, _⟩ := planB_ok (F := [f]) (l := l) l.length 0 w q (by omega) (Nat.zero_le _) hb
  obtain ⟨h3, h4⟩ := plan_mono hf hm h _ 0 h1
  obtain ⟨w2, q2, h5, h6⟩ := plan_le (F := [g]) (l := m) _ 0 (Nat.zero_le _) h3
  refine ⟨w2, q2, h5, ?_⟩
  rw [h4, h2] at h6
  unfold ltW at h6
  simp only at h6
  omega
theorem plan_more {f a : Fmt} {l : List Sng} : ∀ (P : List (Nat × Nat)) (i : Nat), PlanOK [f] l i P → PlanOK [f, a] l i P ∧ costP [f, a] P = costP [f] P
  | [], i, hP => ⟨hP, rfl⟩
  | (k, n) :: t, i, hP => by
    rw [PlanOK] at hP
    obtain ⟨h1, h2⟩ := plan_more (a := a) t (i + n) hP.2
    have hk : k = 0 := by have := hP.1.fmt; simp at this; exact this
    subst hk
    refine ⟨by rw [PlanOK]; exact ⟨⟨by simp, hP.1.lt, hP.1.le, hP.1.lay⟩, h1⟩, ?_⟩
    unfold costP
    rw [h2]
    rfl
theorem bst_more {f a : Fmt} {l : List Sng} {w : Int × Int} {q : Nat × Nat} (hb : bst [f] l 0 = some (w, q)) : ∃ w2 q2, bst [f, a] l 0 = some (w2, q2) ∧ w2.1 ≤ w.1 := by
  obtain ⟨h1, h2, _⟩ := planB_ok (F := [f]) (l := l) l.length 0 w q (by omega) (Nat.zero_le _) hb
  obtain ⟨h3, h4⟩ := plan_more (a := a) _ 0 h1
  obtain ⟨w2, q2, h5, h6⟩ := plan_le (F := [f, a]) (l := l) _ 0 (Nat.zero_le _) h3
  refine ⟨w2, q2, h5, ?_⟩
  rw [h4, h2] at h6
  unfold ltW at h6
  simp only at h6
  omega
theorem all_mono {f g : Fmt} {l m : List Sng} (hf : FmtOK f) (hg : FmtOK g) (hm : SngsOK m) (h : LessP f g l m) (hL : LayOK f l (allO l)) : LayOK g m (allO m) := by
  have hr : ∀ y, y ∈ allO l → 0 ≤ y ∧ y < l.length := fun y hy => by
    rw [allO_usu] at hy
    exact (span_ok l.length).mem y (usu_mem.1 hy)
  have h1 := lay_mono hf hm h hr hL
  rw [allO_usu m]
  refine usu_lay hg hm (span_ok m.length).nodup (fun x hx => ?_) (fun y hy => by rw [h.len]; exact hr y hy) h1
  rw [allO_usu]
  rw [h.len] at hx
  exact usu_mem.2 hx
/-- The format and the tracks that the statement makes. -/
def mF (f : Fmt) (a b : Int) : Fmt := ⟨f.nm, (if f.outer + a < 4194304 then f.outer + a else 4194304), (if 0 < f.inner - b then f.inner - b else 0), f.per, f.lead, f.gap, f.tail, f.cost⟩
def mS (x y z : Int) (g : Sng) : Sng := ⟨(if 1 < g.long - x then g.long - x else 1), (if 1 < g.pitch - y then g.pitch - y else 1), (if 0 < g.least - z then g.least - z else 0)⟩
theorem mF_ok {f : Fmt} {a b : Int} (ha : 0 ≤ a) (hb : 0 ≤ b) (hf : FmtOK f) : FmtOK (mF f a b) := by
  have h1 := hf.outer
  have h2 := hf.inner
  refine ⟨hf.nm, ?_, ?_, hf.per, hf.cost, hf.lead, hf.gap, hf.tail⟩
  · unfold mF
    simp only
    split <;> omega
  · unfold mF
    simp only
    split <;> split <;> omega
theorem mS_at {x y z : Int} (l : List Sng) (j : Nat) (hj : j < l.length) : (l.map (mS x y z)).getD j g0 = mS x y z (l.getD j g0) := by
  simp [List.getD_eq_getElem?_getD, hj]
theorem mS_ok {x y z : Int} {l : List Sng} (hx : 0 ≤ x) (hy : 0 ≤ y) (hz : 0 ≤ z) (hl : SngsOK l) : SngsOK (l.map (mS x y z)) := by
  refine ⟨by rw [List.length_map]; exact hl.len, fun j hj => ?_⟩
  rw [List.length_map] at hj
  rw [mS_at l j hj]
  obtain ⟨⟨h1, h2⟩, ⟨h3, h4⟩, h5, h6⟩ := hl.each j hj
  unfold mS Sng.ok
  simp only
  refine ⟨⟨?_, ?_⟩, ⟨?_, ?_⟩, ?_, ?_⟩ <;> split <;> omega
theorem m_less {f : Fmt} {l : List Sng} {a b x y z : Int} (ha : 0 ≤ a) (hb : 0 ≤ b) (hx : 0 ≤ x) (hy : 0 ≤ y) (hz : 0 ≤ z) (hf : FmtOK f) (hl : SngsOK l) : LessP f (mF f a b) l (l.map (mS x y z)) := by
  have h1 := hf.outer
  have h2 := hf.inner
  refine ⟨List.length_map _, ?_, ?_, rfl, rfl, rfl, rfl, rfl, fun j hj => ?_⟩
  · unfold mF
    simp only
    split <;> omega
  · unfold mF
    simp only
    split <;> omega
  · rw [mS_at l j hj]
    obtain ⟨⟨h1, h2⟩, ⟨h3, h4⟩, h5, h6⟩ := hl.each j hj
    unfold mS
    simp only
    refine ⟨?_, ?_, ?_⟩ <;> split <;> omega
end Go.Sx

namespace Go.Sx
open Go Go.RowKit
/-! ### Rounds and iterators, proved by themselves -/
theorem Fr.le {w w' : World} {R R' : Rp} {M m' m2 : List (Option Blk)} (hf : Fr w R M w' R' m') (h : Le ⟨M.length, [], m'⟩ ⟨M.length, [], m2⟩) : ∃ R2, Fr w R M w' R2 m2 := by
  obtain ⟨R2, hC⟩ := Le_ok h (show Conc w R M ⟨M.length, [], m'⟩ R' { tmps := #[], defers := [] } w' from ⟨hf, rfl, fun i v hv => by simp at hv, Marks.nil .., rfl⟩)
  exact ⟨R2, hC.fr⟩
theorem RSem.le {P : Program} {id : Nat} {args : List XV} {M : List (Option Blk)} {Q Q' : Bool → List (Option Blk) → Prop} (h : RSem P id args M Q) (hq : ∀ b m', Q b m' → ∃ m2, Q' b m2 ∧ Le ⟨M.length, [], m'⟩ ⟨M.length, [], m2⟩) : RSem P id args M Q' := by
  intro w R vs l h1 h2 h3 h4
  obtain ⟨r, e1, e2, e3⟩ := h w R vs l h1 h2 h3 h4
  refine ⟨r, e1, e2, e3.mono ?_⟩
  rintro e w' ⟨b, m', R', rfl, hQ, hf⟩
  obtain ⟨m2, q2, hl⟩ := hq b m' hQ
  obtain ⟨R2, hf2⟩ := hf.le hl
  exact ⟨b, m2, R2, rfl, q2, hf2⟩
theorem ISem.le {P : Program} {f : FuncId} {args : List XV} {M : List (Option Blk)} {Q Q' : List (Option Blk) → Prop} (h : ISem P f args M Q) (hq : ∀ m', Q m' → ∃ m2, Q' m2 ∧ Le ⟨M.length, [], m'⟩ ⟨M.length, [], m2⟩) : ISem P f args M Q' := by
  intro w R vs h1 h2
  refine (h w R vs h1 h2).mono ?_
  rintro e w' ⟨v, m', R', rfl, hQ, hf⟩
  obtain ⟨m2, q2, hl⟩ := hq m' hQ
  obtain ⟨R2, hf2⟩ := hf.le hl
  exact ⟨v, m2, R2, rfl, q2, hf2⟩
theorem RSem.mono {P : Program} {id : Nat} {args : List XV} {M : List (Option Blk)} {Q Q' : Bool → List (Option Blk) → Prop} (h : RSem P id args M Q) (hq : ∀ b m', Q b m' → Q' b m') : RSem P id args M Q' := by
  intro w R vs l h1 h2 h3 h4
  obtain ⟨r, e1, e2, e3⟩ := h w R vs l h1 h2 h3 h4
  refine ⟨r, e1, e2, e3.mono ?_⟩
  rintro e w' ⟨b, m', R', rfl, hQ, hf⟩
  exact ⟨b, m', R', rfl, hq _ _ hQ, hf⟩
theorem ISem.mono {P : Program} {f : FuncId} {args : List XV} {M : List (Option Blk)} {Q Q' : List (Option Blk) → Prop} (h : ISem P f args M Q) (hq : ∀ m', Q m' → Q' m') : ISem P f args M Q' := by
  intro w R vs h1 h2
  refine (h w R vs h1 h2).mono ?_
  rintro e w' ⟨v, m', R', rfl, hQ, hf⟩
  exact ⟨v, m', R', rfl, hq _ hQ, hf⟩
theorem YieldVC.of {P : Program} {id : Nat} {args : List XV} {s : St} {K : AV → St → Prop} {m2 : List (Option Blk)} (h : RSem P id args s.mem (fun b m' => b = true ∧ m' = m2)) (k : K (.x (.one .tt)) ⟨s.k, s.env, m2⟩) : YieldVC P id args s K :=
  .mk (h.mono fun b m' hh => by obtain ⟨rfl, rfl⟩ := hh; exact k)
theorem RangeVC.of {P : Program} {f : FuncId} {args : List XV} {m : List (Option Blk)} {Q Q' : List (Option Blk) → Prop} (he : EntersF P f) (h : ISem P f args m Q') (k : ∀ m', Q' m' → Q m') : RangeVC P f args m Q := .mk he (h.mono k)
end Go.Sx

namespace Go.Sx
open Go Go.Proofs
set_option maxRecDepth 10000
set_option maxHeartbeats 8000000
open Classical in
theorem s47 (f : Fmt) (l : List Sng) (O : List Int) (hf : FmtOK f) (hg : SngsOK l) (hO : InR O l.length) (hl : O.length ≤ 100) : HSpec Tryd.prog 49 [.one (.ptr 0 0), .one (.lst true [.int .i64] (i64s O))] [bPl f l] (fun r m' => r = xP (LayOK f l O) ∧ m' = [some (bPl f l)]) := by
  refine spec_of pMix (O := []) Tryd.func49 (c := bodyOf Tryd.f49) rfl (by kernel_rfl) (by kernel_rfl) Tryd.ntmps49 (res := [.tmp 4]) (by kernel_rfl) ?_
  repeat' ((conv => whnf); first | refine Rng.g ?_ | refine Ob.g ?_ | refine Ob.e ?_ | refine Ob.m ?_ | refine Ob.mk (Nat.le_of_ble_eq_true rfl) ?_ | refine JoinVC.on ?_ | refine Nils.mk (fun h => ?_) ?_ | refine Val.t ?_ | refine Val.d ?_ | refine Mm.mk ?_ | (refine Br.mk (fun h => ?_) (fun h => ?_) <;> first | (exfalso; omega; done) | (exfalso; simp at h; done) | skip))
  conv => whnf
  refine CallVC.mk [0] _ _ _ rfl rfl rfl (s37 f l O hf hg hO hl) (fun r m' h' => ?_)
  cases h' with
  | rule i hi h hn hr hm =>
    subst hr hm
    repeat' ((conv => whnf); first | refine Rng.g ?_ | refine Ob.g ?_ | refine Ob.e ?_ | refine Ob.m ?_ | refine Ob.mk (Nat.le_of_ble_eq_true rfl) ?_ | refine JoinVC.on ?_ | refine Nils.mk (fun h => ?_) ?_ | refine Val.t ?_ | refine Val.d ?_ | refine Mm.mk ?_ | (refine Br.mk (fun h => ?_) (fun h => ?_) <;> first | (exfalso; omega; done) | (exfalso; simp at h; done) | skip))
    repeat refine Mm.mk ?_
    refine EndVC.mk _ rfl _ _ ⟨rfl, rfl⟩ ?_
    refine ⟨[some 0], rfl, rfl, ?_, ?_⟩ <;> repeat' (first | exact trivial | exact rfl | exact Iff.rfl | apply And.intro)
    show _ ↔ _
    exact ⟨fun h1 => absurd h1 (by decide), fun h1 => absurd (h1.1 i hi) hn⟩
  | limit h hn hr hm =>
    subst hr hm
    repeat' ((conv => whnf); first | refine Rng.g ?_ | refine Ob.g ?_ | refine Ob.e ?_ | refine Ob.m ?_ | refine Ob.mk (Nat.le_of_ble_eq_true rfl) ?_ | refine JoinVC.on ?_ | refine Nils.mk (fun h => ?_) ?_ | refine Val.t ?_ | refine Val.d ?_ | refine Mm.mk ?_ | (refine Br.mk (fun h => ?_) (fun h => ?_) <;> first | (exfalso; omega; done) | (exfalso; simp at h; done) | skip))
    repeat refine Mm.mk ?_
    refine EndVC.mk _ rfl _ _ ⟨rfl, rfl⟩ ?_
    refine ⟨[some 0], rfl, rfl, ?_, ?_⟩ <;> repeat' (first | exact trivial | exact rfl | exact Iff.rfl | apply And.intro)
    show _ ↔ _
    exact ⟨fun h1 => absurd h1 (by decide), fun h1 => absurd h1 hn⟩
  | ok h hr hm =>
    subst hr hm
    repeat' ((conv => whnf); first | refine Rng.g ?_ | refine Ob.g ?_ | refine Ob.e ?_ | refine Ob.m ?_ | refine Ob.mk (Nat.le_of_ble_eq_true rfl) ?_ | refine JoinVC.on ?_ | refine Nils.mk (fun h => ?_) ?_ | refine Val.t ?_ | refine Val.d ?_ | refine Mm.mk ?_ | (refine Br.mk (fun h => ?_) (fun h => ?_) <;> first | (exfalso; omega; done) | (exfalso; simp at h; done) | skip))
    repeat refine Mm.mk ?_
    refine EndVC.mk _ rfl _ _ ⟨rfl, rfl⟩ ?_
    refine ⟨[some 0], rfl, rfl, ?_, ?_⟩ <;> repeat' (first | exact trivial | exact rfl | exact Iff.rfl | apply And.intro)
    show _ ↔ _
    exact ⟨fun _ => h, fun _ => rfl⟩
inductive ArRs (f : Fmt) (l : List Sng) (r : AV) (m' : List (Option Blk)) : Prop
  | bad (h : bothE f l ≠ 0) (hr : r = .tup [.one .nils, I (bothE f l)]) (hm : m' = [])
  | none (hf : FmtOK f) (hg : SngsOK l) (hn : ¬ LayOK f l (allO l)) (hr : r = .tup [.one .nils, I 15]) (hm : m' = [])
  | ok (hf : FmtOK f) (hg : SngsOK l) (h : LayOK f l (allO l)) (hr : r = .tup [.one (.own 0), I 0]) (hm : m' = [some (rowOd (allO l))])
theorem allO_in (l : List Sng) : InR (allO l) l.length := fun i hi => (allO_idx l).rng i (by rw [(allO_idx l).len] at hi; exact hi)
theorem s18 (f : Fmt) (l : List Sng) (hI : f.nm.size ≤ 9223372036854775807) (hl : l.length ≤ 12) : HSpec Tryd.prog 30 [f.x, lSng l] [] (ArRs f l) := by
  refine spec_of pMix (O := []) Tryd.func30 (c := bodyOf Tryd.f30) rfl (by kernel_rfl) (by kernel_rfl) Tryd.ntmps30 (res := [.tmp 4, .tmp 5]) (by kernel_rfl) ?_
  repeat' ((conv => whnf); first | refine Rng.g ?_ | refine Ob.g ?_ | refine Ob.e ?_ | refine Ob.m ?_ | refine Ob.mk (Nat.le_of_ble_eq_true rfl) ?_ | refine JoinVC.on ?_ | refine Nils.mk (fun h => ?_) ?_ | refine Val.t ?_ | refine Val.d ?_ | refine Mm.mk ?_ | (refine Br.mk (fun h => ?_) (fun h => ?_) <;> first | (exfalso; omega; done) | (exfalso; simp at h; done) | skip))
  conv => whnf
  refine CallVC.mk [] _ _ _ rfl rfl rfl (s35 f l hI) (fun r m' h' => ?_)
  rcases h' with ⟨hn, rfl, rfl⟩ | ⟨hf, hg, rfl, rfl⟩
  · repeat' ((conv => whnf); first | refine Rng.g ?_ | refine Ob.g ?_ | refine Ob.e ?_ | refine Ob.m ?_ | refine Ob.mk (Nat.le_of_ble_eq_true rfl) ?_ | refine JoinVC.on ?_ | refine Nils.mk (fun h => ?_) ?_ | refine Val.t ?_ | refine Val.d ?_ | refine Mm.mk ?_ | (refine Br.mk (fun h => ?_) (fun h => ?_) <;> first | (exfalso; omega; done) | (exfalso; simp at h; done) | skip))
    repeat refine Mm.mk ?_
    conv => whnf
    refine EndVC.mk _ rfl _ _ (.bad hn rfl rfl) ?_
    refine ⟨[], rfl, rfl, ?_, ?_⟩ <;> repeat' (first | exact trivial | exact rfl | exact Iff.rfl | apply And.intro)
  · repeat' ((conv => whnf); first | refine Rng.g ?_ | refine Ob.g ?_ | refine Ob.e ?_ | refine Ob.m ?_ | refine Ob.mk (Nat.le_of_ble_eq_true rfl) ?_ | refine JoinVC.on ?_ | refine Nils.mk (fun h => ?_) ?_ | refine Val.t ?_ | refine Val.d ?_ | refine Mm.mk ?_ | (refine Br.mk (fun h => ?_) (fun h => ?_) <;> first | (exfalso; omega; done) | (exfalso; simp at h; done) | skip))
    conv => whnf
    refine CallVC.mk [1] _ _ _ rfl rfl rfl (s46 f l hl) (fun r m' h' => ?_)
    obtain ⟨rfl, rfl⟩ := h'
    conv => whnf
    repeat' ((conv => whnf); first | refine Rng.g ?_ | refine Ob.g ?_ | refine Ob.e ?_ | refine Ob.m ?_ | refine Ob.mk (Nat.le_of_ble_eq_true rfl) ?_ | refine JoinVC.on ?_ | refine Nils.mk (fun h => ?_) ?_ | refine Val.t ?_ | refine Val.d ?_ | refine Mm.mk ?_ | (refine Br.mk (fun h => ?_) (fun h => ?_) <;> first | (exfalso; omega; done) | (exfalso; simp at h; done) | skip))
    conv => whnf
    refine CallVC.mk [1] _ _ _ rfl rfl rfl (s47 f l (allO l) hf hg (allO_in l) (by rw [(allO_idx l).len]; omega)) (fun r m' h' => ?_)
    obtain ⟨rfl, rfl⟩ := h'
    conv => whnf
    repeat' ((conv => whnf); first | refine Rng.g ?_ | refine Ob.g ?_ | refine Ob.e ?_ | refine Ob.m ?_ | refine Ob.mk (Nat.le_of_ble_eq_true rfl) ?_ | refine JoinVC.on ?_ | refine Nils.mk (fun h => ?_) ?_ | refine Val.t ?_ | refine Val.d ?_ | refine Mm.mk ?_ | (refine Br.mk (fun h => ?_) (fun h => ?_) <;> first | (exfalso; omega; done) | (exfalso; simp at h; done) | skip))
    · repeat refine Mm.mk ?_
      conv => whnf
      refine EndVC.mk _ rfl _ _ (.ok hf hg h rfl rfl) ?_
      refine ⟨[some 2], rfl, rfl, ?_, ?_⟩ <;> repeat' (first | exact trivial | exact rfl | exact Iff.rfl | apply And.intro)
    · repeat refine Mm.mk ?_
      conv => whnf
      refine EndVC.mk _ rfl _ _ (.none hf hg h rfl rfl) ?_
      refine ⟨[], rfl, rfl, ?_, ?_⟩ <;> repeat' (first | exact trivial | exact rfl | exact Iff.rfl | apply And.intro)
/-! ### An order is laid -/
inductive LaRs (f : Fmt) (l : List Sng) (O : List Int) (r : AV) (m' : List (Option Blk)) : Prop
  | bad (h : bothE f l ≠ 0) (hr : r = .tup [.one .nils, I 0, I (bothE f l)]) (hm : m' = [])
  | ord (hf : FmtOK f) (hg : SngsOK l) (h : ordE l.length O ≠ 0) (hr : r = .tup [.one .nils, I 0, I (ordE l.length O)]) (hm : m' = [])
  | rule (hf : FmtOK f) (hg : SngsOK l) (hO : OrdOK l.length O) (i : Nat) (hi : i < O.length) (h : ∀ j, j < i → okAt f l O j) (hn : ¬ okAt f l O i) (hr : r = .tup [.one .nils, I (i : Int), I 20]) (hm : m' = [])
  | limit (hf : FmtOK f) (hg : SngsOK l) (hO : OrdOK l.length O) (h : ∀ j, j < O.length → okAt f l O j) (hn : ¬ LayOK f l O) (hr : r = .tup [.one .nils, I (O.length : Int), I 14]) (hm : m' = [])
  | ok (hf : FmtOK f) (hg : SngsOK l) (hO : OrdOK l.length O) (h : LayOK f l O) (hr : r = .tup [.one (.own 0), I (O.length : Int), I 0]) (hm : m' = [some (rowB (bndA f l O O.length))])
theorem i64s_take (xs : List Int) (k : Nat) : (i64s xs).take k = i64s (xs.take k) := by simp [i64s]
/-! ### The example -/
def f4 : Fmt := ⟨⟨#[102]⟩, 1000, 400, 10, 20, 10, 30, 5⟩
def l4 : List Sng := [⟨95, 20, 500⟩, ⟨30, 40, 800⟩, ⟨41, 10, 0⟩]
theorem f4_name : nameOK ⟨#[102]⟩ := ⟨by decide, by decide, fun j hj => by
  have : j = 0 := by
    have : j < 1 := hj
    omega
  subst this
  exact .inl (by decide)⟩
theorem f4_ok : FmtOK f4 := ⟨f4_name, by decide, by decide, by decide, by decide, by decide, by decide, by decide⟩
theorem l4_ok : SngsOK l4 := ⟨by decide, fun j hj => by
  have hc : j = 0 ∨ j = 1 ∨ j = 2 := by
    have : j < 3 := hj
    omega
  rcases hc with rfl | rfl | rfl <;> (unfold Sng.ok; decide)⟩
theorem allO4 : allO l4 = [1, 0, 2] := by decide
theorem lay4 : LayOK f4 l4 (allO l4) := by
  rw [allO4]
  refine ⟨fun i hi => ?_, by decide⟩
  have hc : i = 0 ∨ i = 1 ∨ i = 2 := by
    have : i < 3 := hi
    omega
  rcases hc with rfl | rfl | rfl <;> (unfold okAt; decide)
end Go.Sx

namespace Go.Sx
open Go Go.Proofs
set_option maxRecDepth 10000
set_option maxHeartbeats 8000000
/-! ### Plates that nothing writes into any more -/
@[reducible] def KPl : List CK := [.str, .int .i64, .int .i64, .int .i64, .int .i64, .int .i64, .int .i64, .int .i64, .sl KSng]
def plA (f : Fmt) (l : List Sng) : Arr := [[.str f.nm, .int f.outer, .int f.inner, .int f.per, .int f.lead, .int f.gap, .int f.tail, .int f.cost, .sl (sngA l)]]
@[reducible] def plX (f : Fmt) (l : List Sng) : XV := .one (.lel true KPl (plA f l) 0 0)
theorem s43p (f : Fmt) (l : List Sng) (g : Sng) (hf : FmtOK f) (hg : g.ok) : HSpec Tryd.prog 38 [plX f l, g.x] [] (fun r m' => r = .x (I (widF f g)) ∧ m' = []) := by
  obtain ⟨w1, w2⟩ := wid_bd hf.per.1 hg
  have hp := hf.per
  have hg1 := hg.1
  have hg2 := hg.2.1
  have e3 : rI (plA f l) 0 (0 + 0 + (0 + 1 + 1 + 1)) = f.per := rfl
  unfold widF at w2
  refine spec_of pMix (O := []) Tryd.func38 (c := bodyOf Tryd.f38) rfl (by kernel_rfl) (by kernel_rfl) Tryd.ntmps38 (res := [.tmp 4]) (by kernel_rfl) ?_
  repeat' ((conv => whnf); first | rw [e3] | refine Rng.g ?_ | refine Ob.g ?_ | refine Ob.e ?_ | refine Ob.m ?_ | refine Ob.mk (Nat.le_of_ble_eq_true rfl) ?_ | refine JoinVC.on ?_ | refine Nils.mk (fun h => ?_) ?_ | refine Val.t ?_ | refine Val.d ?_ | refine Mm.mk ?_ | (refine Br.mk (fun h => ?_) (fun h => ?_) <;> first | (exfalso; omega; done) | (exfalso; simp at h; done) | skip))
  repeat refine Mm.mk ?_
  conv => whnf
  refine EndVC.mk _ rfl _ _ (⟨rfl, rfl⟩) ?_
  refine ⟨[], rfl, rfl, ?_, ?_⟩ <;> repeat' (first | exact trivial | exact rfl | exact Iff.rfl | apply And.intro)
inductive LyRs0 (f : Fmt) (l : List Sng) (O : List Int) (r : AV) (m' : List (Option Blk)) : Prop
  | rule (i : Nat) (hi : i < O.length) (h : ∀ j, j < i → okAt f l O j) (hn : ¬ okAt f l O i) (hr : r = .tup [.one .nils, I (i : Int), I 20]) (hm : m' = [])
  | limit (h : ∀ j, j < O.length → okAt f l O j) (hn : ¬ LayOK f l O) (hr : r = .tup [.one .nils, I (O.length : Int), I 14]) (hm : m' = [])
  | ok (h : LayOK f l O) (hr : r = .tup [.one (.own 0), I (O.length : Int), I 0]) (hm : m' = [some (rowB (bndA f l O O.length))])
theorem s37p (f : Fmt) (l : List Sng) (O : List Int) (hf : FmtOK f) (hg : SngsOK l) (hO : InR O l.length) (hl : O.length ≤ 100) : HSpec Tryd.prog 61 [plX f l, .one (.lst true [.int .i64] (i64s O))] [] (LyRs0 f l O) := by
  have lo := i64s_len O
  have lg := sngA_len l
  have hbd := atF_bd hf hg hO
  have hf1 := hf.outer
  have hf2 := hf.lead
  have hf3 := hf.gap
  have hf4 := hf.tail
  have hf5 := hf.inner
  have p1 : rI (plA f l) 0 (0 + 0 + (0 + 1)) = f.outer := rfl
  have p2 : rI (plA f l) 0 (0 + 0 + (0 + 1 + 1)) = f.inner := rfl
  have p4 : rI (plA f l) 0 (0 + 0 + (0 + 1 + 1 + 1 + 1)) = f.lead := rfl
  have p5 : rI (plA f l) 0 (0 + 0 + (0 + 1 + 1 + 1 + 1 + 1)) = f.gap := rfl
  have p6 : rI (plA f l) 0 (0 + 0 + (0 + 1 + 1 + 1 + 1 + 1 + 1)) = f.tail := rfl
  have p8 : rA (plA f l) 0 (0 + (0 + 1 + 1 + 1 + 1 + 1 + 1 + 1 + 1)) = sngA l := rfl
  refine spec_of pMix (O := []) Tryd.func61 (c := bodyOf Tryd.f61) rfl (by kernel_rfl) (by kernel_rfl) Tryd.ntmps61 (res := [.tmp 4, .tmp 5, .tmp 6]) (by kernel_rfl) ?_
  repeat' ((conv => whnf); first | rw [p1] | rw [p2] | rw [p4] | rw [p5] | rw [p6] | rw [p8] | refine Rng.g ?_ | refine Ob.g ?_ | refine Ob.e ?_ | refine Ob.m ?_ | refine Ob.mk (Nat.le_of_ble_eq_true rfl) ?_ | refine JoinVC.on ?_ | refine Nils.mk (fun h => ?_) ?_ | refine Val.t ?_ | refine Val.d ?_ | refine Mm.mk ?_ | (refine Br.mk (fun h => ?_) (fun h => ?_) <;> first | (exfalso; omega; done) | (exfalso; simp at h; done) | skip))
  refine LoopVC.mk (fun n st => ∃ (i : Nat), i ≤ O.length ∧ n = O.length - i ∧ (∀ j, j < i → okAt f l O j) ∧ st = ⟨0, envA 89 [(0, .x (plX f l)), (1, .x (.one (.lst true [.int .i64] (i64s O)))), (7, .x (.one (.own 0))), (8, .int .i64 (atF f l O i)), (23, .x (.one (.lst true [.int .i64] (i64s O)))), (24, .int .i64 (O.length : Int)), (25, .int .i64 (i : Int))], [some (rowB (bndA f l O i))]⟩) _ _ ⟨0, Nat.zero_le _, rfl, fun j hj => absurd hj (Nat.not_lt_zero j), rfl⟩ ?_ ?_
  · refine ⟨[none], rfl, rfl, ?_, ?_⟩ <;> repeat' (first | exact trivial | exact rfl | exact Iff.rfl | apply And.intro)
    exact congrArg Int.ofNat lo
  rintro n _ ⟨i, hi, hn, hj, rfl⟩
  have lb := bndA_len f l O i
  have gi : rI (i64s O) (i : Int).toNat 0 = O.getD i 0 := by rw [Int.toNat_natCast]; exact i64s_get O i
  have hbi := hbd i hi
  by_cases hi' : i < O.length
  · have hr := hO i hi'
    obtain ⟨q, hq⟩ : ∃ q, O.getD i 0 = q := ⟨_, rfl⟩
    have c0 : rI (sngA l) q.toNat 0 = (l.getD q.toNat g0).long := sngA_0 l _
    have c1 : rI (sngA l) q.toNat (0 + 1) = (l.getD q.toNat g0).pitch := sngA_1 l _
    have c2 : rI (sngA l) q.toNat (0 + 1 + 1) = (l.getD q.toNat g0).least := sngA_2 l _
    have c3 : rI (sngA l) q.toNat (0 + (0 + 1 + 1)) = (l.getD q.toNat g0).least := sngA_2 l _
    rw [hq] at gi hr
    have hgk := hg.each q.toNat (by omega)
    have hw := (wid_bd hf.per.1 hgk).2
    have k1 := s43p f l (l.getD q.toNat g0) hf hgk
    have ea : atF f l O (i + 1) = atF f l O i - (if 0 < i then f.gap else 0) - widF f (l.getD (O.getD i 0).toNat g0) := rfl
    rw [hq] at ea
    have eo : okAt f l O i ↔ (l.getD q.toNat g0).least ≤ atF f l O (i + 1) := by unfold okAt; rw [hq]
    by_cases h0 : 0 < i
    · have e1 : (if 0 < i then f.gap else 0) = f.gap := if_pos h0
      have e2 : (atF f l O i - f.gap) - widF f (l.getD q.toNat g0) = atF f l O (i + 1) := by rw [ea, e1]
      have hbj := hbd (i + 1) hi'
      have e3 : bndR f l O i = [Cell.int q, Cell.int (atF f l O i - f.gap), Cell.int (atF f l O (i + 1))] := by unfold bndR; rw [hq, e1]
      repeat' ((conv => whnf); first | rw [p1] | rw [p2] | rw [p4] | rw [p5] | rw [p6] | rw [p8] | rw [gi] | rw [c0] | rw [c1] | rw [c2] | refine Rng.g ?_ | refine Ob.g ?_ | refine Ob.e ?_ | refine Ob.m ?_ | refine Ob.mk (Nat.le_of_ble_eq_true rfl) ?_ | refine JoinVC.on ?_ | refine Nils.mk (fun h => ?_) ?_ | refine Val.t ?_ | refine Val.d ?_ | refine Mm.mk ?_ | (refine Br.mk (fun h => ?_) (fun h => ?_) <;> first | (exfalso; omega; done) | (exfalso; simp at h; done) | skip))
      conv => whnf
      refine CallVC.mk [] _ _ _ rfl rfl rfl (k1) (fun r m' h' => ?_)
      obtain ⟨rfl, rfl⟩ := h'
      conv => whnf
      repeat' ((conv => whnf); first | rw [p1] | rw [p2] | rw [p4] | rw [p5] | rw [p6] | rw [p8] | rw [e2] | rw [c3] | refine Rng.g ?_ | refine Ob.g ?_ | refine Ob.e ?_ | refine Ob.m ?_ | refine Ob.mk (Nat.le_of_ble_eq_true rfl) ?_ | refine JoinVC.on ?_ | refine Nils.mk (fun h => ?_) ?_ | refine Val.t ?_ | refine Val.d ?_ | refine Mm.mk ?_ | (refine Br.mk (fun h => ?_) (fun h => ?_) <;> first | (exfalso; omega; done) | (exfalso; simp at h; done) | skip))
      · have hno : ¬ okAt f l O i := fun hk => by have := eo.1 hk; omega
        repeat refine Mm.mk ?_
        conv => whnf
        refine EndVC.mk _ rfl _ _ (.rule i hi' hj hno rfl rfl) ?_
        refine ⟨[], rfl, rfl, ?_, ?_⟩ <;> repeat' (first | exact trivial | exact rfl | exact Iff.rfl | apply And.intro)
      · repeat refine Mm.mk ?_
        refine Ob.mk (by rw [eb116]; simp only [List.length_cons, List.length_nil]; omega) ?_
        repeat' ((conv => whnf); first | rw [p1] | rw [p2] | rw [p4] | rw [p5] | rw [p6] | rw [p8] | rw [e2] | rw [c3] | refine Rng.g ?_ | refine Ob.g ?_ | refine Ob.e ?_ | refine Ob.m ?_ | refine Ob.mk (Nat.le_of_ble_eq_true rfl) ?_ | refine JoinVC.on ?_ | refine Nils.mk (fun h => ?_) ?_ | refine Val.t ?_ | refine Val.d ?_ | refine Mm.mk ?_ | (refine Br.mk (fun h => ?_) (fun h => ?_) <;> first | (exfalso; omega; done) | (exfalso; simp at h; done) | skip))
        refine Back.mk (O.length - (i + 1)) _ (by omega) ⟨i + 1, by omega, rfl, fun j hj' => ?_, rfl⟩ ?_
        · rcases Nat.lt_succ_iff_lt_or_eq.1 hj' with h' | rfl
          · exact hj j h'
          · exact eo.2 (by omega)
        · rw [bndA_succ, e3]
          refine ⟨[some 3], rfl, rfl, ?_, ?_⟩ <;> repeat' (first | exact trivial | exact rfl | exact Iff.rfl | apply And.intro)
    · have e1 : (if 0 < i then f.gap else 0) = 0 := if_neg h0
      have e2 : (atF f l O i) - widF f (l.getD q.toNat g0) = atF f l O (i + 1) := by rw [ea, e1]; omega
      have hbj := hbd (i + 1) hi'
      have e3 : bndR f l O i = [Cell.int q, Cell.int (atF f l O i), Cell.int (atF f l O (i + 1))] := by unfold bndR; rw [hq, e1]; simp only [Int.sub_zero]
      repeat' ((conv => whnf); first | rw [p1] | rw [p2] | rw [p4] | rw [p5] | rw [p6] | rw [p8] | rw [gi] | rw [c0] | rw [c1] | rw [c2] | refine Rng.g ?_ | refine Ob.g ?_ | refine Ob.e ?_ | refine Ob.m ?_ | refine Ob.mk (Nat.le_of_ble_eq_true rfl) ?_ | refine JoinVC.on ?_ | refine Nils.mk (fun h => ?_) ?_ | refine Val.t ?_ | refine Val.d ?_ | refine Mm.mk ?_ | (refine Br.mk (fun h => ?_) (fun h => ?_) <;> first | (exfalso; omega; done) | (exfalso; simp at h; done) | skip))
      conv => whnf
      refine CallVC.mk [] _ _ _ rfl rfl rfl (k1) (fun r m' h' => ?_)
      obtain ⟨rfl, rfl⟩ := h'
      conv => whnf
      repeat' ((conv => whnf); first | rw [p1] | rw [p2] | rw [p4] | rw [p5] | rw [p6] | rw [p8] | rw [e2] | rw [c3] | refine Rng.g ?_ | refine Ob.g ?_ | refine Ob.e ?_ | refine Ob.m ?_ | refine Ob.mk (Nat.le_of_ble_eq_true rfl) ?_ | refine JoinVC.on ?_ | refine Nils.mk (fun h => ?_) ?_ | refine Val.t ?_ | refine Val.d ?_ | refine Mm.mk ?_ | (refine Br.mk (fun h => ?_) (fun h => ?_) <;> first | (exfalso; omega; done) | (exfalso; simp at h; done) | skip))
      · have hno : ¬ okAt f l O i := fun hk => by have := eo.1 hk; omega
        repeat refine Mm.mk ?_
        conv => whnf
        refine EndVC.mk _ rfl _ _ (.rule i hi' hj hno rfl rfl) ?_
        refine ⟨[], rfl, rfl, ?_, ?_⟩ <;> repeat' (first | exact trivial | exact rfl | exact Iff.rfl | apply And.intro)
      · repeat refine Mm.mk ?_
        refine Ob.mk (by rw [eb116]; simp only [List.length_cons, List.length_nil]; omega) ?_
        repeat' ((conv => whnf); first | rw [p1] | rw [p2] | rw [p4] | rw [p5] | rw [p6] | rw [p8] | rw [e2] | rw [c3] | refine Rng.g ?_ | refine Ob.g ?_ | refine Ob.e ?_ | refine Ob.m ?_ | refine Ob.mk (Nat.le_of_ble_eq_true rfl) ?_ | refine JoinVC.on ?_ | refine Nils.mk (fun h => ?_) ?_ | refine Val.t ?_ | refine Val.d ?_ | refine Mm.mk ?_ | (refine Br.mk (fun h => ?_) (fun h => ?_) <;> first | (exfalso; omega; done) | (exfalso; simp at h; done) | skip))
        refine Back.mk (O.length - (i + 1)) _ (by omega) ⟨i + 1, by omega, rfl, fun j hj' => ?_, rfl⟩ ?_
        · rcases Nat.lt_succ_iff_lt_or_eq.1 hj' with h' | rfl
          · exact hj j h'
          · exact eo.2 (by omega)
        · rw [bndA_succ, e3]
          refine ⟨[some 3], rfl, rfl, ?_, ?_⟩ <;> repeat' (first | exact trivial | exact rfl | exact Iff.rfl | apply And.intro)
  · have ei : i = O.length := by omega
    subst ei
    repeat' ((conv => whnf); first | rw [p1] | rw [p2] | rw [p4] | rw [p5] | rw [p6] | rw [p8] | rw [lo] | refine Rng.g ?_ | refine Ob.g ?_ | refine Ob.e ?_ | refine Ob.m ?_ | refine Ob.mk (Nat.le_of_ble_eq_true rfl) ?_ | refine JoinVC.on ?_ | refine Nils.mk (fun h => ?_) ?_ | refine Val.t ?_ | refine Val.d ?_ | refine Mm.mk ?_ | (refine Br.mk (fun h => ?_) (fun h => ?_) <;> first | (exfalso; omega; done) | (exfalso; simp at h; done) | skip))
    · repeat refine Mm.mk ?_
      conv => whnf
      refine EndVC.mk _ rfl _ _ (.limit hj (fun hL => (by have := hL.2; omega)) rfl rfl) ?_
      refine ⟨[], rfl, rfl, ?_, ?_⟩ <;> repeat' (first | exact trivial | exact rfl | exact Iff.rfl | apply And.intro)
    · repeat refine Mm.mk ?_
      conv => whnf
      refine EndVC.mk _ rfl _ _ (.ok ⟨hj, by omega⟩ rfl rfl) ?_
      refine ⟨[some 0], rfl, rfl, ?_, ?_⟩ <;> repeat' (first | exact trivial | exact rfl | exact Iff.rfl | apply And.intro)
open Classical in
theorem s47p (f : Fmt) (l : List Sng) (O : List Int) (hf : FmtOK f) (hg : SngsOK l) (hO : InR O l.length) (hl : O.length ≤ 100) : HSpec Tryd.prog 49 [plX f l, .one (.lst true [.int .i64] (i64s O))] [] (fun r m' => r = xP (LayOK f l O) ∧ m' = []) := by
  refine spec_of pMix (O := []) Tryd.func49 (c := bodyOf Tryd.f49) rfl (by kernel_rfl) (by kernel_rfl) Tryd.ntmps49 (res := [.tmp 4]) (by kernel_rfl) ?_
  repeat' ((conv => whnf); first | refine Rng.g ?_ | refine Ob.g ?_ | refine Ob.e ?_ | refine Ob.m ?_ | refine Ob.mk (Nat.le_of_ble_eq_true rfl) ?_ | refine JoinVC.on ?_ | refine Nils.mk (fun h => ?_) ?_ | refine Val.t ?_ | refine Val.d ?_ | refine Mm.mk ?_ | (refine Br.mk (fun h => ?_) (fun h => ?_) <;> first | (exfalso; omega; done) | (exfalso; simp at h; done) | skip))
  conv => whnf
  refine CallVC.mk [] _ _ _ rfl rfl rfl (s37p f l O hf hg hO hl) (fun r m' h' => ?_)
  cases h' with
  | rule i hi h hn hr hm =>
    subst hr hm
    repeat' ((conv => whnf); first | refine Rng.g ?_ | refine Ob.g ?_ | refine Ob.e ?_ | refine Ob.m ?_ | refine Ob.mk (Nat.le_of_ble_eq_true rfl) ?_ | refine JoinVC.on ?_ | refine Nils.mk (fun h => ?_) ?_ | refine Val.t ?_ | refine Val.d ?_ | refine Mm.mk ?_ | (refine Br.mk (fun h => ?_) (fun h => ?_) <;> first | (exfalso; omega; done) | (exfalso; simp at h; done) | skip))
    repeat refine Mm.mk ?_
    refine EndVC.mk _ rfl _ _ ⟨rfl, rfl⟩ ?_
    refine ⟨[], rfl, rfl, ?_, ?_⟩ <;> repeat' (first | exact trivial | exact rfl | exact Iff.rfl | apply And.intro)
    show _ ↔ _
    exact ⟨fun h1 => absurd h1 (by decide), fun h1 => absurd (h1.1 i hi) hn⟩
  | limit h hn hr hm =>
    subst hr hm
    repeat' ((conv => whnf); first | refine Rng.g ?_ | refine Ob.g ?_ | refine Ob.e ?_ | refine Ob.m ?_ | refine Ob.mk (Nat.le_of_ble_eq_true rfl) ?_ | refine JoinVC.on ?_ | refine Nils.mk (fun h => ?_) ?_ | refine Val.t ?_ | refine Val.d ?_ | refine Mm.mk ?_ | (refine Br.mk (fun h => ?_) (fun h => ?_) <;> first | (exfalso; omega; done) | (exfalso; simp at h; done) | skip))
    repeat refine Mm.mk ?_
    refine EndVC.mk _ rfl _ _ ⟨rfl, rfl⟩ ?_
    refine ⟨[], rfl, rfl, ?_, ?_⟩ <;> repeat' (first | exact trivial | exact rfl | exact Iff.rfl | apply And.intro)
    show _ ↔ _
    exact ⟨fun h1 => absurd h1 (by decide), fun h1 => absurd h1 hn⟩
  | ok h hr hm =>
    subst hr hm
    repeat' ((conv => whnf); first | refine Rng.g ?_ | refine Ob.g ?_ | refine Ob.e ?_ | refine Ob.m ?_ | refine Ob.mk (Nat.le_of_ble_eq_true rfl) ?_ | refine JoinVC.on ?_ | refine Nils.mk (fun h => ?_) ?_ | refine Val.t ?_ | refine Val.d ?_ | refine Mm.mk ?_ | (refine Br.mk (fun h => ?_) (fun h => ?_) <;> first | (exfalso; omega; done) | (exfalso; simp at h; done) | skip))
    repeat refine Mm.mk ?_
    refine EndVC.mk _ rfl _ _ ⟨rfl, rfl⟩ ?_
    refine ⟨[], rfl, rfl, ?_, ?_⟩ <;> repeat' (first | exact trivial | exact rfl | exact Iff.rfl | apply And.intro)
    show _ ↔ _
    exact ⟨fun _ => h, fun _ => rfl⟩
theorem s54g (i j : Nat) (hj : j ≤ 100000) : HSpec Tryd.prog 50 [I (i : Int), I (j : Int)] [] (fun r m' => r = .x (.one (.own 0)) ∧ m' = [some (rowOd (seqL i (j - i)))]) := by
  refine spec_of pMix (O := []) Tryd.func50 (c := bodyOf Tryd.f50) rfl (by kernel_rfl) (by kernel_rfl) Tryd.ntmps50 (res := [.tmp 4]) (by kernel_rfl) ?_
  repeat' ((conv => whnf); first | refine Rng.g ?_ | refine Ob.g ?_ | refine Ob.e ?_ | refine Ob.m ?_ | refine Ob.mk (Nat.le_of_ble_eq_true rfl) ?_ | refine JoinVC.on ?_ | refine Nils.mk (fun h => ?_) ?_ | refine Val.t ?_ | refine Val.d ?_ | refine Mm.mk ?_ | (refine Br.mk (fun h => ?_) (fun h => ?_) <;> first | (exfalso; omega; done) | (exfalso; simp at h; done) | skip))
  refine LoopVC.mk (fun m st => ∃ (k : Nat), (k ≤ j - i) ∧ m = j - i - k ∧ st = ⟨0, envA 16 [(0, .int .i64 ((i + k : Nat) : Int)), (1, .x (I (j : Int))), (5, .x (.one (.own 0)))], [some (rowOd (seqL i k))]⟩) _ _ ⟨0, Nat.zero_le _, rfl, rfl⟩ ?_ ?_
  · refine ⟨[none], rfl, rfl, ?_, ?_⟩ <;> repeat' (first | exact trivial | exact rfl | exact Iff.rfl | apply And.intro)
  rintro m _ ⟨k, hk, hm, rfl⟩
  have ls : (i64s (seqL i k)).length = k := by rw [i64s_len, seqL_len]
  by_cases hk' : k < j - i
  · repeat' ((conv => whnf); first | refine Rng.g ?_ | refine Ob.g ?_ | refine Ob.e ?_ | refine Ob.m ?_ | refine Ob.mk (Nat.le_of_ble_eq_true rfl) ?_ | refine JoinVC.on ?_ | refine Nils.mk (fun h => ?_) ?_ | refine Val.t ?_ | refine Val.d ?_ | refine Mm.mk ?_ | (refine Br.mk (fun h => ?_) (fun h => ?_) <;> first | (exfalso; omega; done) | (exfalso; simp at h; done) | skip))
    repeat refine Mm.mk ?_
    refine Ob.mk (by rw [eb3]; simp only [List.length_cons, List.length_nil]; omega) ?_
    repeat' ((conv => whnf); first | refine Rng.g ?_ | refine Ob.g ?_ | refine Ob.e ?_ | refine Ob.m ?_ | refine Ob.mk (Nat.le_of_ble_eq_true rfl) ?_ | refine JoinVC.on ?_ | refine Nils.mk (fun h => ?_) ?_ | refine Val.t ?_ | refine Val.d ?_ | refine Mm.mk ?_ | (refine Br.mk (fun h => ?_) (fun h => ?_) <;> first | (exfalso; omega; done) | (exfalso; simp at h; done) | skip))
    refine Back.mk (j - i - (k + 1)) _ (by omega) ⟨k + 1, by omega, rfl, rfl⟩ ?_
    rw [seqL_succ]
    refine ⟨[some 2], rfl, rfl, ?_, ?_⟩ <;> repeat' (first | exact trivial | exact rfl | exact Iff.rfl | apply And.intro)
    rw [i64s_snoc]
  · have ek : k = j - i := by omega
    subst ek
    repeat' ((conv => whnf); first | refine Rng.g ?_ | refine Ob.g ?_ | refine Ob.e ?_ | refine Ob.m ?_ | refine Ob.mk (Nat.le_of_ble_eq_true rfl) ?_ | refine JoinVC.on ?_ | refine Nils.mk (fun h => ?_) ?_ | refine Val.t ?_ | refine Val.d ?_ | refine Mm.mk ?_ | (refine Br.mk (fun h => ?_) (fun h => ?_) <;> first | (exfalso; omega; done) | (exfalso; simp at h; done) | skip))
    repeat refine Mm.mk ?_
    refine EndVC.mk _ rfl _ _ ⟨rfl, rfl⟩ ?_
    refine ⟨[some 0], rfl, rfl, ?_, ?_⟩ <;> repeat' (first | exact trivial | exact rfl | exact Iff.rfl | apply And.intro)
end Go.Sx

namespace Go.Sx
open Go Go.Proofs
set_option maxRecDepth 10000
set_option maxHeartbeats 8000000
/-! ### Formats and their plates -/
@[reducible] def KFm : List CK := [.str, .int .i64, .int .i64, .int .i64, .int .i64, .int .i64, .int .i64, .int .i64]
def fmtA (F : List Fmt) : Arr := F.map fun f => [.str f.nm, .int f.outer, .int f.inner, .int f.per, .int f.lead, .int f.gap, .int f.tail, .int f.cost]
theorem fmtA_len (F : List Fmt) : (fmtA F).length = F.length := by simp [fmtA]
@[reducible] def lFmt (F : List Fmt) : XV := .one (.lst true KFm (fmtA F))
theorem fmt_at (F : List Fmt) (i : Nat) (h : i < F.length) : rS (fmtA F) i 0 = (F.getD i f0).nm ∧ rI (fmtA F) i (0 + 1) = (F.getD i f0).outer ∧ rI (fmtA F) i (0 + 1 + 1) = (F.getD i f0).inner ∧ rI (fmtA F) i (0 + 1 + 1 + 1) = (F.getD i f0).per ∧ rI (fmtA F) i (0 + 1 + 1 + 1 + 1) = (F.getD i f0).lead ∧ rI (fmtA F) i (0 + 1 + 1 + 1 + 1 + 1) = (F.getD i f0).gap ∧ rI (fmtA F) i (0 + 1 + 1 + 1 + 1 + 1 + 1) = (F.getD i f0).tail ∧ rI (fmtA F) i (0 + 1 + 1 + 1 + 1 + 1 + 1 + 1) = (F.getD i f0).cost := by
  have h1 : (fmtA F)[i]? = some [.str (F.getD i f0).nm, .int (F.getD i f0).outer, .int (F.getD i f0).inner, .int (F.getD i f0).per, .int (F.getD i f0).lead, .int (F.getD i f0).gap, .int (F.getD i f0).tail, .int (F.getD i f0).cost] := by simp [fmtA, List.getD_eq_getElem?_getD, h]
  simp [rS, rI, cellAt, h1, Cell.toInt, Cell.toStr]
def plsA (F : List Fmt) (l : List Sng) : Arr := F.map fun f => [.sl (plA f l)]
theorem plsA_len (F : List Fmt) (l : List Sng) : (plsA F l).length = F.length := by simp [plsA]
theorem plsA_snoc (F : List Fmt) (l : List Sng) (f : Fmt) : plsA (F ++ [f]) l = plsA F l ++ [[.sl (plA f l)]] := by simp [plsA]
theorem plsA_at (F : List Fmt) (l : List Sng) (i : Nat) (h : i < F.length) : rA (plsA F l) i 0 = plA (F.getD i f0) l := by
  have h1 : (plsA F l)[i]? = some [.sl (plA (F.getD i f0) l)] := by simp [plsA, List.getD_eq_getElem?_getD, h]
  simp [rA, cellAt, h1, Cell.toArr]
@[reducible] def rowPl (F : List Fmt) (l : List Sng) : Blk := .row 73 true [.pt KPl] (plsA F l)
theorem eb246 : Tryd.t73.bytes = 8 := by kernel_rfl
@[reducible] def bAlb (F : List Fmt) (l : List Sng) (n : Int) : Blk := .box 93 [.lst true [.pt KPl] (plsA F l), .int .i64 n]
open Classical in
/-- The error of formats and tracks. -/
noncomputable def fmsE (F : List Fmt) (l : List Sng) : Int := if F.length = 0 ∨ 8 < F.length then 6 else if ∀ i, i < F.length → FmtOK (F.getD i f0) then trkE l else 2
theorem fmsE_many {F : List Fmt} {l : List Sng} (h : F.length = 0 ∨ 8 < F.length) : fmsE F l = 6 := if_pos h
theorem fmsE_bad {F : List Fmt} {l : List Sng} (h : ¬ (F.length = 0 ∨ 8 < F.length)) {i : Nat} (hi : i < F.length) (hn : ¬ FmtOK (F.getD i f0)) : fmsE F l = 2 := (if_neg h).trans (if_neg fun h => hn (h i hi))
theorem fmsE_trk {F : List Fmt} {l : List Sng} (h : ¬ (F.length = 0 ∨ 8 < F.length)) (hn : ∀ i, i < F.length → FmtOK (F.getD i f0)) : fmsE F l = trkE l := (if_neg h).trans (if_pos hn)
theorem fmsE_0 {F : List Fmt} {l : List Sng} : fmsE F l = 0 ↔ AlbOK F l := by
  constructor
  · intro h
    by_cases h1 : F.length = 0 ∨ 8 < F.length
    · rw [fmsE_many h1] at h; cases h
    · by_cases h2 : ∀ i, i < F.length → FmtOK (F.getD i f0)
      · rw [fmsE_trk h1 h2] at h
        exact ⟨by omega, h2, trkE_0 h⟩
      · unfold fmsE at h
        rw [if_neg h1, if_neg h2] at h; cases h
  · intro h
    rw [fmsE_trk (by have := h.few; omega) h.fmts, trkE_ok h.sngs]
theorem s49 (F : List Fmt) (l : List Sng) (hI : ∀ i, (F.getD i f0).nm.size ≤ 9223372036854775807) : HSpec Tryd.prog 45 [lFmt F, lSng l] [] (fun r m' => (fmsE F l ≠ 0 ∧ r = .tup [.one .nilp, I (fmsE F l)] ∧ m' = []) ∨ (fmsE F l ≠ 0 ∧ r = .tup [.one (.ptr 0 0), I (fmsE F l)] ∧ m' = [some (bAlb F l (l.length : Int))]) ∨ (AlbOK F l ∧ r = .tup [.one (.ptr 0 0), I 0] ∧ m' = [some (bAlb F l (l.length : Int))])) := by
  have lF := fmtA_len F
  have ll := sngA_len l
  by_cases h8 : F.length = 0 ∨ 8 < F.length
  · refine spec_of pMix (O := [(10, ([], [⟨0, [], []⟩, ⟨1, [], []⟩, ⟨2, [], []⟩, ⟨3, [], []⟩, ⟨4, [], []⟩, ⟨5, [], []⟩, ⟨6, [], []⟩, ⟨7, [], []⟩, ⟨8, [0, 1, 2, 3, 4], [9]⟩, ⟨9, [], []⟩, ⟨10, [0], []⟩, ⟨11, [], []⟩, ⟨12, [], []⟩, ⟨13, [], []⟩]))]) Tryd.func45 (c := bodyOf Tryd.f45) rfl (by kernel_rfl) (by kernel_rfl) Tryd.ntmps45 (res := [.tmp 4, .tmp 5]) (by kernel_rfl) ?_
    repeat' ((conv => whnf); first | refine Rng.g ?_ | refine Ob.g ?_ | refine Ob.e ?_ | refine Ob.m ?_ | refine Ob.mk (Nat.le_of_ble_eq_true rfl) ?_ | refine JoinVC.on ?_ | refine Nils.mk (fun h => ?_) ?_ | refine Val.t ?_ | refine Val.d ?_ | refine Mm.mk ?_ | (refine Br.mk (fun h => ?_) (fun h => ?_) <;> first | (exfalso; omega; done) | (exfalso; simp at h; done) | skip))
    all_goals
      repeat refine Mm.mk ?_
      conv => whnf
      refine EndVC.mk _ rfl _ _ (.inl ⟨by rw [fmsE_many h8]; decide, rfl, rfl⟩) ?_
      refine ⟨[], rfl, rfl, ?_, ?_⟩ <;> repeat' (first | exact trivial | exact rfl | exact Iff.rfl | apply And.intro)
      exact (fmsE_many h8).symm
  refine spec_of pMix (O := [(10, ([], [⟨0, [], []⟩, ⟨1, [], []⟩, ⟨2, [], []⟩, ⟨3, [], []⟩, ⟨4, [], []⟩, ⟨5, [], []⟩, ⟨6, [], []⟩, ⟨7, [], []⟩, ⟨8, [0, 1, 2, 3, 4], [9]⟩, ⟨9, [], []⟩, ⟨10, [0], []⟩, ⟨11, [], []⟩, ⟨12, [], []⟩, ⟨13, [], []⟩]))]) Tryd.func45 (c := bodyOf Tryd.f45) rfl (by kernel_rfl) (by kernel_rfl) Tryd.ntmps45 (res := [.tmp 4, .tmp 5]) (by kernel_rfl) ?_
  repeat' ((conv => whnf); first | refine Rng.g ?_ | refine Ob.g ?_ | refine Ob.e ?_ | refine Ob.m ?_ | refine Ob.mk (Nat.le_of_ble_eq_true rfl) ?_ | refine JoinVC.on ?_ | refine Nils.mk (fun h => ?_) ?_ | refine Val.t ?_ | refine Val.d ?_ | refine Mm.mk ?_ | (refine Br.mk (fun h => ?_) (fun h => ?_) <;> first | (exfalso; omega; done) | (exfalso; simp at h; done) | skip))
  refine LoopVC.mk (fun n st => ∃ (i : Nat), i ≤ F.length ∧ n = F.length - i ∧ (∀ j, j < i → FmtOK (F.getD j f0)) ∧ st = ⟨0, envA 50 [(1, .x (lSng l)), (6, .x (.one (.ptr 0 0))), (22, .x (lFmt F)), (23, .int .i64 (F.length : Int)), (24, .int .i64 (i : Int))], [some (.box 93 [.own 1, .int .i64 (l.length : Int)]), some (rowPl (F.take i) l)]⟩) _ _ ⟨0, Nat.zero_le _, rfl, fun j hj => absurd hj (Nat.not_lt_zero j), rfl⟩ ?_ ?_
  · refine ⟨[some 0, none], rfl, rfl, ?_, ?_⟩ <;> repeat' (first | exact trivial | exact rfl | exact Iff.rfl | apply And.intro)
    all_goals first | exact congrArg Int.ofNat lF | exact congrArg Int.ofNat ll
  rintro n _ ⟨i, hi, hn, hj, rfl⟩
  have lr : (plsA (F.take i) l).length = i := by rw [plsA_len, List.length_take]; omega
  by_cases hi' : i < F.length
  · obtain ⟨g0', g1, g2, g3, g4, g5, g6, g7⟩ := fmt_at F i hi'
    have et : (i : Int).toNat = i := Int.toNat_natCast i
    have u1 := plsA_snoc (F.take i) l (F.getD i f0)
    rw [← take_snoc F i f0 hi'] at u1
    have hf := hI i
    obtain ⟨f, hfe⟩ : ∃ f, F.getD i f0 = f := ⟨_, rfl⟩
    rw [hfe] at g0' g1 g2 g3 g4 g5 g6 g7 u1 hf
    repeat' ((conv => whnf); first | rw [et] | rw [g0'] | rw [g1] | rw [g2] | rw [g3] | rw [g4] | rw [g5] | rw [g6] | rw [g7] | refine Rng.g ?_ | refine Ob.g ?_ | refine Ob.e ?_ | refine Ob.m ?_ | refine Ob.mk (Nat.le_of_ble_eq_true rfl) ?_ | refine JoinVC.on ?_ | refine Nils.mk (fun h => ?_) ?_ | refine Val.t ?_ | refine Val.d ?_ | refine Mm.mk ?_ | (refine Br.mk (fun h => ?_) (fun h => ?_) <;> first | (exfalso; omega; done) | (exfalso; simp at h; done) | skip))
    have k0 := s67 f hf
    by_cases h0 : FmtOK f
    rotate_left
    · rw [fmtE_no h0] at k0
      have he : fmsE F l = 2 := fmsE_bad h8 hi' (by rw [hfe]; exact h0)
      repeat' ((conv => whnf); first | refine Rng.g ?_ | refine Ob.g ?_ | refine Ob.e ?_ | refine Ob.m ?_ | refine Ob.mk (Nat.le_of_ble_eq_true rfl) ?_ | refine JoinVC.on ?_ | refine Nils.mk (fun h => ?_) ?_ | refine Val.t ?_ | refine Val.d ?_ | refine Mm.mk ?_ | refine CallVC.pure rfl (k0) ?_ | refine CallVC0.pure rfl (k0) ?_ | (refine Br.mk (fun h => ?_) (fun h => ?_) <;> first | (exfalso; omega; done) | (exfalso; simp at h; done) | skip))
      repeat refine Mm.mk ?_
      conv => whnf
      refine EndVC.mk _ rfl _ _ (.inl ⟨by rw [he]; decide, rfl, rfl⟩) ?_
      refine ⟨[], rfl, rfl, ?_, ?_⟩ <;> repeat' (first | exact trivial | exact rfl | exact Iff.rfl | apply And.intro)
      exact he.symm
    have hfo := h0
    rw [fmtE_ok h0] at k0
    unfold plA at u1
    repeat' ((conv => whnf); first | refine Rng.g ?_ | refine Ob.g ?_ | refine Ob.e ?_ | refine Ob.m ?_ | refine Ob.mk (Nat.le_of_ble_eq_true rfl) ?_ | refine JoinVC.on ?_ | refine Nils.mk (fun h => ?_) ?_ | refine Val.t ?_ | refine Val.d ?_ | refine Mm.mk ?_ | refine CallVC.pure rfl (k0) ?_ | refine CallVC0.pure rfl (k0) ?_ | (refine Br.mk (fun h => ?_) (fun h => ?_) <;> first | (exfalso; omega; done) | (exfalso; simp at h; done) | skip))
    repeat refine Mm.mk ?_
    refine Ob.mk (by simp only [eb246, lr, List.length_cons, List.length_nil]; omega) ?_
    repeat' ((conv => whnf); first | rw [← u1] | refine Rng.g ?_ | refine Ob.g ?_ | refine Ob.e ?_ | refine Ob.m ?_ | refine Ob.mk (Nat.le_of_ble_eq_true rfl) ?_ | refine JoinVC.on ?_ | refine Nils.mk (fun h => ?_) ?_ | refine Val.t ?_ | refine Val.d ?_ | refine Mm.mk ?_ | (refine Br.mk (fun h => ?_) (fun h => ?_) <;> first | (exfalso; omega; done) | (exfalso; simp at h; done) | skip))
    refine Back.mk (F.length - (i + 1)) _ (by omega) ⟨i + 1, by omega, rfl, fun j hj' => ?_, rfl⟩ ?_
    · rcases Nat.lt_succ_iff_lt_or_eq.1 hj' with h' | rfl
      · exact hj j h'
      · rw [hfe]; exact hfo
    · refine ⟨[some 0, some 5], rfl, rfl, ?_, ?_⟩ <;> repeat' (first | exact trivial | exact rfl | exact Iff.rfl | apply And.intro)
  · have ei : i = F.length := by omega
    subst ei
    rw [show F.take F.length = F from List.take_length]
    repeat' ((conv => whnf); first | refine Rng.g ?_ | refine Ob.g ?_ | refine Ob.e ?_ | refine Ob.m ?_ | refine Ob.mk (Nat.le_of_ble_eq_true rfl) ?_ | refine JoinVC.on ?_ | refine Nils.mk (fun h => ?_) ?_ | refine Val.t ?_ | refine Val.d ?_ | refine Mm.mk ?_ | (refine Br.mk (fun h => ?_) (fun h => ?_) <;> first | (exfalso; omega; done) | (exfalso; simp at h; done) | skip))
    have k1 := s68 l
    have he := fmsE_trk (l := l) h8 hj
    by_cases h0 : SngsOK l
    · rw [trkE_ok h0] at k1
      repeat' ((conv => whnf); first | refine Rng.g ?_ | refine Ob.g ?_ | refine Ob.e ?_ | refine Ob.m ?_ | refine Ob.mk (Nat.le_of_ble_eq_true rfl) ?_ | refine JoinVC.on ?_ | refine Nils.mk (fun h => ?_) ?_ | refine Val.t ?_ | refine Val.d ?_ | refine Mm.mk ?_ | refine CallVC.pure rfl (k1) ?_ | refine CallVC0.pure rfl (k1) ?_ | (refine Br.mk (fun h => ?_) (fun h => ?_) <;> first | (exfalso; omega; done) | (exfalso; simp at h; done) | skip))
      repeat refine Mm.mk ?_
      conv => whnf
      refine EndVC.mk _ rfl _ _ (.inr (.inr ⟨⟨by omega, hj, h0⟩, rfl, rfl⟩)) ?_
      refine ⟨[some 0], rfl, rfl, ?_, ?_⟩ <;> repeat' (first | exact trivial | exact rfl | exact Iff.rfl | apply And.intro)
    · obtain ⟨e, hee⟩ : ∃ e, trkE l = e := ⟨_, rfl⟩
      have hn : e ≠ 0 := fun h => h0 (trkE_0 (hee.trans h))
      rw [hee] at k1 he
      repeat' ((conv => whnf); first | refine Rng.g ?_ | refine Ob.g ?_ | refine Ob.e ?_ | refine Ob.m ?_ | refine Ob.mk (Nat.le_of_ble_eq_true rfl) ?_ | refine JoinVC.on ?_ | refine Nils.mk (fun h => ?_) ?_ | refine Val.t ?_ | refine Val.d ?_ | refine Mm.mk ?_ | refine CallVC.pure rfl (k1) ?_ | refine CallVC0.pure rfl (k1) ?_ | (refine Br.mk (fun h => ?_) (fun h => ?_) <;> first | (exfalso; omega; done) | (exfalso; simp at h; done) | skip))
      repeat refine Mm.mk ?_
      conv => whnf
      refine EndVC.mk _ rfl _ _ (.inr (.inl ⟨by rw [he]; exact hn, rfl, rfl⟩)) ?_
      refine ⟨[some 0], rfl, rfl, ?_, ?_⟩ <;> repeat' (first | exact trivial | exact rfl | exact Iff.rfl | apply And.intro)
      exact he.symm
/-! ### Parts of code -/
def cF : Code → Code
  | .seq a _ => a
  | c => c
def cS : Code → Code
  | .seq _ b => b
  | c => c
def cB : Code → Code
  | .block _ c => c
  | c => c
def cAs : Code → Code
  | .rangeFunc _ _ x _ => x
  | c => c
def cBo : Code → Code
  | .rangeFunc _ _ _ b => b
  | c => c
def cL : Code → Code
  | .loop c => c
  | c => c
end Go.Sx

namespace Go.Sx
open Go Go.Proofs
set_option maxRecDepth 10000
set_option maxHeartbeats 8000000
/-! ### Sets of tracks as bits -/
theorem or_dec : ∀ i : Fin 9, ∀ m : Fin 256, m.1 < 2 ^ i.1 → bits .or .i64 (m.1 : Int) ((2 ^ i.1 : Nat) : Int) = ((m.1 + 2 ^ i.1 : Nat) : Int) := by decide +kernel
theorem andNot_dec : ∀ i : Fin 9, ∀ m : Fin 256, m.1 < 2 ^ i.1 → bits .andNot .i64 ((m.1 + 2 ^ i.1 : Nat) : Int) ((2 ^ i.1 : Nat) : Int) = (m.1 : Int) := by decide +kernel
theorem and1_dec : ∀ n : Fin 512, bits .and .i64 (n.1 : Int) 1 = ((n.1 % 2 : Nat) : Int) := by decide +kernel
theorem pow_nat (i : Nat) : ((2 ^ i : Nat) : Int) = (2 : Int) ^ i := by simp
theorem or_mask {m : Int} {i : Nat} (hm : 0 ≤ m ∧ m < 2 ^ i) (hi : i ≤ 8) : bits .or .i64 m ((2 : Int) ^ i) = m + 2 ^ i := by
  obtain ⟨k, rfl⟩ := Int.eq_ofNat_of_zero_le hm.1
  have h1 : k < 2 ^ i := by have := hm.2; rw [← pow_nat] at this; omega
  have h2 : 2 ^ i ≤ 2 ^ 8 := Nat.pow_le_pow_right (by decide) hi
  have := or_dec ⟨i, by omega⟩ ⟨k, by omega⟩ h1
  rw [Int.natCast_add, pow_nat] at this
  exact this
theorem andNot_mask {m : Int} {i : Nat} (hm : 0 ≤ m ∧ m < 2 ^ i) (hi : i ≤ 8) : bits .andNot .i64 (m + 2 ^ i) ((2 : Int) ^ i) = m := by
  obtain ⟨k, rfl⟩ := Int.eq_ofNat_of_zero_le hm.1
  have h1 : k < 2 ^ i := by have := hm.2; rw [← pow_nat] at this; omega
  have h2 : 2 ^ i ≤ 2 ^ 8 := Nat.pow_le_pow_right (by decide) hi
  have := andNot_dec ⟨i, by omega⟩ ⟨k, by omega⟩ h1
  rw [Int.natCast_add, pow_nat] at this
  exact this
theorem and1 {n : Int} (h : 0 ≤ n ∧ n < 512) : bits .and .i64 n 1 = n % 2 := by
  obtain ⟨k, rfl⟩ := Int.eq_ofNat_of_zero_le h.1
  have := and1_dec ⟨k, by omega⟩
  rw [show ((k : Nat) : Int) % 2 = ((k % 2 : Nat) : Int) by omega]
  exact this
/-- The members of a set. -/
def memB (m : Int) (n : Nat) : List Int := ((List.range n).filter fun j => decide (m / 2 ^ j % 2 = 1)).map fun j : Nat => (j : Int)
theorem memB_succ (m : Int) (n : Nat) : memB m (n + 1) = memB m n ++ (if m / 2 ^ n % 2 = 1 then [(n : Int)] else []) := by
  unfold memB
  rw [List.range_succ, List.filter_append, List.map_append]
  congr 1
  by_cases h : m / 2 ^ n % 2 = 1
  · simp [h]
  · simp [h]
theorem memB_len (m : Int) (n : Nat) : (memB m n).length ≤ n := by
  unfold memB
  rw [List.length_map]
  exact Nat.le_trans (List.length_filter_le _ _) (by simp)
theorem memB_mask (P : List Int) (k : Int) : memB (maskO P P.length k) P.length = onL P k := by
  unfold memB onL
  congr 1
  refine List.filter_congr fun j hj => ?_
  rw [maskO_bit P k j P.length (List.mem_range.1 hj)]
  by_cases h : P.getD j 0 = k
  · rw [if_pos h, h]
    simp
  · rw [if_neg h, decide_eq_false h]
    rfl
theorem memB_end {m : Int} (hm : 0 ≤ m) {n : Nat} (h : m / 2 ^ n ≤ 0) : ∀ d, memB m (n + d) = memB m n
  | 0 => rfl
  | d + 1 => by
    rw [show n + (d + 1) = n + d + 1 from rfl, memB_succ, memB_end hm h d]
    have p : (0 : Int) < 2 ^ n := Int.pow_pos (by decide)
    have q : (0 : Int) < 2 ^ d := Int.pow_pos (by decide)
    have h0 : m / 2 ^ n = 0 := by have := Int.ediv_nonneg hm (Int.le_of_lt p); omega
    have : m / 2 ^ (n + d) = 0 := by
      rw [Int.pow_add, ← Int.ediv_ediv_of_nonneg (Int.le_of_lt p), h0, Int.zero_ediv]
    rw [this, if_neg (by decide), List.append_nil]
theorem memB_up {m : Int} {n : Nat} (hm : 0 ≤ m ∧ m < 2 ^ n) : ∀ {d}, n ≤ d → memB m d = memB m n := fun {d} h => by
  have := memB_end hm.1 (n := n) (by rw [Int.ediv_eq_zero_of_lt hm.1 hm.2]; exact Int.le_refl 0) (d - n)
  rw [show n + (d - n) = d by omega] at this
  exact this
theorem e100 : EntersF Tryd.prog 100 := enters_of Tryd.func100 (c := bodyOf Tryd.f100) (by kernel_rfl) rfl
theorem s88 (m : Int) : HSpec Tryd.prog 83 [I m] [] (fun r m' => r = .x (.one (.fn 100 [(0, 0)])) ∧ m' = [some (.box 3 [.int .i64 m])]) := by
  refine spec_of pMix (O := []) Tryd.func83 (c := bodyOf Tryd.f83) rfl (by kernel_rfl) (by kernel_rfl) Tryd.ntmps83 (res := [.tmp 2]) (by kernel_rfl) ?_
  repeat' ((conv => whnf); first | refine Rng.g ?_ | refine Ob.g ?_ | refine Ob.e ?_ | refine Ob.m ?_ | refine Ob.mk (Nat.le_of_ble_eq_true rfl) ?_ | refine JoinVC.on ?_ | refine Nils.mk (fun h => ?_) ?_ | refine Val.t ?_ | refine Val.d ?_ | refine Mm.mk ?_ | (refine Br.mk (fun h => ?_) (fun h => ?_) <;> first | (exfalso; omega; done) | (exfalso; simp at h; done) | skip))
  repeat refine Mm.mk ?_
  conv => whnf
  refine EndVC.mk _ rfl _ _ (⟨rfl, rfl⟩) ?_
  refine ⟨[some 0], rfl, rfl, ?_, ?_⟩ <;> repeat' (first | exact trivial | exact rfl | exact Iff.rfl | apply And.intro)
noncomputable def rf112 : Code := cB (cS (cF (cS (bodyOf Tryd.f99))))
theorem s112 (m : Int) (hm : 0 ≤ m ∧ m < 512) : HSpec Tryd.prog 99 [.one .nils, .one (.fn 100 [(0, 0)])] [.box 3 [.int .i64 m]] (fun r m' => r = .x (.one (.own 1)) ∧ m' = [some (.box 3 [.int .i64 m]), some (rowOd (memB m 9))]) := by
  refine spec_of pMix (O := []) Tryd.func99 (c := bodyOf Tryd.f99) rfl (by kernel_rfl) (by kernel_rfl) Tryd.ntmps99 (res := [.tmp 4]) (by kernel_rfl) ?_
  repeat' ((conv => whnf); first | refine Rng.g ?_ | refine Ob.g ?_ | refine Ob.e ?_ | refine Ob.m ?_ | refine Ob.mk (Nat.le_of_ble_eq_true rfl) ?_ | refine JoinVC.on ?_ | refine Nils.mk (fun h => ?_) ?_ | refine Val.t ?_ | refine Val.d ?_ | refine Mm.mk ?_ | (refine Br.mk (fun h => ?_) (fun h => ?_) <;> first | (exfalso; omega; done) | (exfalso; simp at h; done) | skip))
  change RangeVC _ _ _ _ _
  refine RangeVC.mk e100 (isem_of_awp pMix [] Tryd.func100 (c := bodyOf Tryd.f100) rfl (by kernel_rfl) Tryd.ntmps100 (by kernel_rfl) ?_)
  repeat' ((conv => whnf); first | refine Rng.g ?_ | refine Ob.g ?_ | refine Ob.e ?_ | refine Ob.m ?_ | refine Ob.mk (Nat.le_of_ble_eq_true rfl) ?_ | refine JoinVC.on ?_ | refine Nils.mk (fun h => ?_) ?_ | refine Val.t ?_ | refine Val.d ?_ | refine Mm.mk ?_ | (refine Br.mk (fun h => ?_) (fun h => ?_) <;> first | (exfalso; omega; done) | (exfalso; simp at h; done) | skip))
  refine LoopVC.mk (fun n st => ∃ (i : Nat), i ≤ 9 ∧ n = 9 - i ∧ st = ⟨3, envA 21 [(0, .x (.one (.yld 2))), (1, .x (.one (.ptr 0 0))), (3, .int .i64 (i : Int))], [some (.box 3 [.int .i64 m]), some (.box 55 [.own 3]), some (.loop [7] (cAs rf112) (cBo rf112) (envA 13 [(2, .x (.one (.ptr 1 0)))]) .ready), some (rowOd (memB m i))]⟩) _ _ ⟨0, by omega, rfl, rfl⟩ ?_ ?_
  · refine ⟨[some 0, some 1, some 2, none], rfl, rfl, ?_, ?_⟩ <;> repeat' (first | exact trivial | exact rfl | exact Iff.rfl | apply And.intro)
  rintro n _ ⟨i, hi, hn, rfl⟩
  have lm := memB_len m i
  have lmi := i64s_len (memB m i)
  have p : (0 : Int) < 2 ^ i := Int.pow_pos (by decide)
  have h0 : 0 ≤ m / 2 ^ i := Int.ediv_nonneg hm.1 (Int.le_of_lt p)
  have h1 : m / 2 ^ i ≤ m := Int.ediv_le_self _ hm.1
  have hb64 : ((IntKind.i64.bits : Nat) : Int) = 64 := rfl
  have he := fun hz => memB_end hm.1 (n := i) hz (9 - i)
  rw [show i + (9 - i) = 9 by omega] at he
  have hs := memB_succ m i
  have hz9 : i = 9 → m / 2 ^ i ≤ 0 := fun e => by
    subst e
    have e9 : (2 : Int) ^ 9 = 512 := by decide
    have : m / 2 ^ 9 = 0 := Int.ediv_eq_zero_of_lt hm.1 (by omega)
    omega
  obtain ⟨q, hq⟩ : ∃ q, m / 2 ^ i = q := ⟨_, rfl⟩
  have hv : m / 2 ^ (i : Int).toNat = q := by rw [Int.toNat_natCast]; exact hq
  rw [hq] at he hs hz9 h0 h1
  repeat' ((conv => whnf); first | refine Rng.g ?_ | refine Ob.g ?_ | refine Ob.e ?_ | refine Ob.m ?_ | refine Ob.mk (Nat.le_of_ble_eq_true rfl) ?_ | refine JoinVC.on ?_ | refine Nils.mk (fun h => ?_) ?_ | refine Val.t ?_ | refine Val.d ?_ | refine Mm.mk ?_ | (refine Br.mk (fun h => ?_) (fun h => ?_) <;> first | (exfalso; omega; done) | (exfalso; simp at h; done) | skip))
  conv => whnf
  refine Val.mk (q) (hv) ?_
  by_cases hz : q ≤ 0
  · rw [← he hz]
    repeat' ((conv => whnf); first | refine Rng.g ?_ | refine Ob.g ?_ | refine Ob.e ?_ | refine Ob.m ?_ | refine Ob.mk (Nat.le_of_ble_eq_true rfl) ?_ | refine JoinVC.on ?_ | refine Nils.mk (fun h => ?_) ?_ | refine Val.t ?_ | refine Val.d ?_ | refine Mm.mk ?_ | (refine Br.mk (fun h => ?_) (fun h => ?_) <;> first | (exfalso; omega; done) | (exfalso; simp at h; done) | skip))
    repeat refine Mm.mk ?_
    refine EndVC.mk _ rfl _ _ ⟨rfl, rfl⟩ ?_
    refine ⟨[some 0, some 3], rfl, rfl, ?_, ?_⟩ <;> repeat' (first | exact trivial | exact rfl | exact Iff.rfl | apply And.intro)
  have hi9 : i < 9 := by
    refine Classical.byContradiction fun hc => hz (hz9 (by omega))
  repeat' ((conv => whnf); first | refine Rng.g ?_ | refine Ob.g ?_ | refine Ob.e ?_ | refine Ob.m ?_ | refine Ob.mk (Nat.le_of_ble_eq_true rfl) ?_ | refine JoinVC.on ?_ | refine Nils.mk (fun h => ?_) ?_ | refine Val.t ?_ | refine Val.d ?_ | refine Mm.mk ?_ | (refine Br.mk (fun h => ?_) (fun h => ?_) <;> first | (exfalso; omega; done) | (exfalso; simp at h; done) | skip))
  conv => whnf
  refine Val.mk (q) (hv) ?_
  repeat' ((conv => whnf); first | refine Rng.g ?_ | refine Ob.g ?_ | refine Ob.e ?_ | refine Ob.m ?_ | refine Ob.mk (Nat.le_of_ble_eq_true rfl) ?_ | refine JoinVC.on ?_ | refine Nils.mk (fun h => ?_) ?_ | refine Val.t ?_ | refine Val.d ?_ | refine Mm.mk ?_ | (refine Br.mk (fun h => ?_) (fun h => ?_) <;> first | (exfalso; omega; done) | (exfalso; simp at h; done) | skip))
  conv => whnf
  refine Val.mk ((q%2)) ((and1 (by omega))) ?_
  by_cases hb : q % 2 = 1
  · rw [if_pos hb] at hs
    repeat' ((conv => whnf); first | refine Rng.g ?_ | refine Ob.g ?_ | refine Ob.e ?_ | refine Ob.m ?_ | refine Ob.mk (Nat.le_of_ble_eq_true rfl) ?_ | refine JoinVC.on ?_ | refine Nils.mk (fun h => ?_) ?_ | refine Val.t ?_ | refine Val.d ?_ | refine Mm.mk ?_ | refine YieldVC.mk (rsem_of_awp pMix [] rfl (by kernel_rfl) ?_) | (refine Br.mk (fun h => ?_) (fun h => ?_) <;> first | (exfalso; omega; done) | (exfalso; simp at h; done) | skip))
    repeat refine Mm.mk ?_
    refine Ob.mk (by rw [eb3]; simp only [List.length_cons, List.length_nil]; omega) ?_
    repeat' ((conv => whnf); first | refine Rng.g ?_ | refine Ob.g ?_ | refine Ob.e ?_ | refine Ob.m ?_ | refine Ob.mk (Nat.le_of_ble_eq_true rfl) ?_ | refine JoinVC.on ?_ | refine Nils.mk (fun h => ?_) ?_ | refine Val.t ?_ | refine Val.d ?_ | refine Mm.mk ?_ | (refine Br.mk (fun h => ?_) (fun h => ?_) <;> first | (exfalso; omega; done) | (exfalso; simp at h; done) | skip))
    refine Back.mk (9 - (i + 1)) _ (by omega) ⟨i + 1, by omega, rfl, rfl⟩ ?_
    rw [hs]
    refine ⟨[some 0, some 1, some 2, some 5], rfl, rfl, ?_, ?_⟩ <;> repeat' (first | exact trivial | exact rfl | exact Iff.rfl | apply And.intro)
    exact (i64s_snoc _ _).symm
  · rw [if_neg hb, List.append_nil] at hs
    repeat' ((conv => whnf); first | refine Rng.g ?_ | refine Ob.g ?_ | refine Ob.e ?_ | refine Ob.m ?_ | refine Ob.mk (Nat.le_of_ble_eq_true rfl) ?_ | refine JoinVC.on ?_ | refine Nils.mk (fun h => ?_) ?_ | refine Val.t ?_ | refine Val.d ?_ | refine Mm.mk ?_ | (refine Br.mk (fun h => ?_) (fun h => ?_) <;> first | (exfalso; omega; done) | (exfalso; simp at h; done) | skip))
    refine Back.mk (9 - (i + 1)) _ (by omega) ⟨i + 1, by omega, rfl, rfl⟩ ?_
    rw [hs]
    refine ⟨[some 0, some 1, some 2, some 3], rfl, rfl, ?_, ?_⟩ <;> repeat' (first | exact trivial | exact rfl | exact Iff.rfl | apply And.intro)
theorem s87 (m : Int) (hm : 0 ≤ m ∧ m < 512) : HSpec Tryd.prog 82 [.one (.fn 100 [(0, 0)])] [.box 3 [.int .i64 m]] (fun r m' => r = .x (.one (.own 1)) ∧ m' = [some (.box 3 [.int .i64 m]), some (rowOd (memB m 9))]) := by
  refine spec_of pMix (O := []) Tryd.func82 (c := bodyOf Tryd.f82) rfl (by kernel_rfl) (by kernel_rfl) Tryd.ntmps82 (res := [.tmp 2]) (by kernel_rfl) ?_
  repeat' ((conv => whnf); first | refine Rng.g ?_ | refine Ob.g ?_ | refine Ob.e ?_ | refine Ob.m ?_ | refine Ob.mk (Nat.le_of_ble_eq_true rfl) ?_ | refine JoinVC.on ?_ | refine Nils.mk (fun h => ?_) ?_ | refine Val.t ?_ | refine Val.d ?_ | refine Mm.mk ?_ | (refine Br.mk (fun h => ?_) (fun h => ?_) <;> first | (exfalso; omega; done) | (exfalso; simp at h; done) | skip))
  conv => whnf
  refine CallVC.mk [0] _ _ _ rfl rfl rfl (s112 m hm) (fun r m' h' => ?_)
  obtain ⟨rfl, rfl⟩ := h'
  conv => whnf
  repeat' ((conv => whnf); first | refine Rng.g ?_ | refine Ob.g ?_ | refine Ob.e ?_ | refine Ob.m ?_ | refine Ob.mk (Nat.le_of_ble_eq_true rfl) ?_ | refine JoinVC.on ?_ | refine Nils.mk (fun h => ?_) ?_ | refine Val.t ?_ | refine Val.d ?_ | refine Mm.mk ?_ | (refine Br.mk (fun h => ?_) (fun h => ?_) <;> first | (exfalso; omega; done) | (exfalso; simp at h; done) | skip))
  repeat refine Mm.mk ?_
  refine EndVC.mk _ rfl _ _ ⟨rfl, rfl⟩ ?_
  refine ⟨[some 0, some 1], rfl, rfl, ?_, ?_⟩ <;> repeat' (first | exact trivial | exact rfl | exact Iff.rfl | apply And.intro)
open Classical in
theorem s78 (f : Fmt) (l : List Sng) (m : Int) (hf : FmtOK f) (hg : SngsOK l) (hm : 0 ≤ m ∧ m < 512) (hO : OrdOK l.length (memB m 9)) : HSpec Tryd.prog 73 [.one (.ptr 0 0), I m] [bPl f l] (fun r m' => r = xP (LayOK f l (usu l (memB m 9))) ∧ m' = [some (bPl f l)]) := by
  have lm := memB_len m 9
  refine spec_of pMix (O := []) Tryd.func73 (c := bodyOf Tryd.f73) rfl (by kernel_rfl) (by kernel_rfl) Tryd.ntmps73 (res := [.tmp 4]) (by kernel_rfl) ?_
  repeat' ((conv => whnf); first | refine Rng.g ?_ | refine Ob.g ?_ | refine Ob.e ?_ | refine Ob.m ?_ | refine Ob.mk (Nat.le_of_ble_eq_true rfl) ?_ | refine JoinVC.on ?_ | refine Nils.mk (fun h => ?_) ?_ | refine Val.t ?_ | refine Val.d ?_ | refine Mm.mk ?_ | (refine Br.mk (fun h => ?_) (fun h => ?_) <;> first | (exfalso; omega; done) | (exfalso; simp at h; done) | skip))
  conv => whnf
  refine CallVC.mk [] _ _ _ rfl rfl rfl (s88 m) (fun r m' h' => ?_)
  obtain ⟨rfl, rfl⟩ := h'
  conv => whnf
  repeat' ((conv => whnf); first | refine Rng.g ?_ | refine Ob.g ?_ | refine Ob.e ?_ | refine Ob.m ?_ | refine Ob.mk (Nat.le_of_ble_eq_true rfl) ?_ | refine JoinVC.on ?_ | refine Nils.mk (fun h => ?_) ?_ | refine Val.t ?_ | refine Val.d ?_ | refine Mm.mk ?_ | (refine Br.mk (fun h => ?_) (fun h => ?_) <;> first | (exfalso; omega; done) | (exfalso; simp at h; done) | skip))
  conv => whnf
  refine CallVC.mk [1] _ _ _ rfl rfl rfl (s87 m hm) (fun r m' h' => ?_)
  obtain ⟨rfl, rfl⟩ := h'
  conv => whnf
  repeat' ((conv => whnf); first | refine Rng.g ?_ | refine Ob.g ?_ | refine Ob.e ?_ | refine Ob.m ?_ | refine Ob.mk (Nat.le_of_ble_eq_true rfl) ?_ | refine JoinVC.on ?_ | refine Nils.mk (fun h => ?_) ?_ | refine Val.t ?_ | refine Val.d ?_ | refine Mm.mk ?_ | (refine Br.mk (fun h => ?_) (fun h => ?_) <;> first | (exfalso; omega; done) | (exfalso; simp at h; done) | skip))
  conv => whnf
  refine CallVC.mk [0, 2] _ _ _ rfl rfl rfl (s45u f l (memB m 9) hO (by omega)) (fun r m' h' => ?_)
  obtain ⟨rfl, rfl⟩ := h'
  conv => whnf
  repeat' ((conv => whnf); first | refine Rng.g ?_ | refine Ob.g ?_ | refine Ob.e ?_ | refine Ob.m ?_ | refine Ob.mk (Nat.le_of_ble_eq_true rfl) ?_ | refine JoinVC.on ?_ | refine Nils.mk (fun h => ?_) ?_ | refine Val.t ?_ | refine Val.d ?_ | refine Mm.mk ?_ | (refine Br.mk (fun h => ?_) (fun h => ?_) <;> first | (exfalso; omega; done) | (exfalso; simp at h; done) | skip))
  conv => whnf
  refine CallVC.mk [] _ _ _ rfl rfl rfl (s47p f l (usu l (memB m 9)) hf hg (usu_ord hO).rng (by rw [usu_len]; omega)) (fun r m' h' => ?_)
  obtain ⟨rfl, rfl⟩ := h'
  conv => whnf
  repeat' ((conv => whnf); first | refine Rng.g ?_ | refine Ob.g ?_ | refine Ob.e ?_ | refine Ob.m ?_ | refine Ob.mk (Nat.le_of_ble_eq_true rfl) ?_ | refine JoinVC.on ?_ | refine Nils.mk (fun h => ?_) ?_ | refine Val.t ?_ | refine Val.d ?_ | refine Mm.mk ?_ | (refine Br.mk (fun h => ?_) (fun h => ?_) <;> first | (exfalso; omega; done) | (exfalso; simp at h; done) | skip))
  repeat refine Mm.mk ?_
  refine EndVC.mk _ rfl _ _ ⟨rfl, rfl⟩ ?_
  refine ⟨[some 0], rfl, rfl, ?_, ?_⟩ <;> repeat' (first | exact trivial | exact rfl | exact Iff.rfl | apply And.intro)
end Go.Sx

namespace Go.Sx
open Go Go.Proofs
set_option maxRecDepth 10000
set_option maxHeartbeats 16000000
/-! ### The search for a packing -/
def setsO (on : List Int) (sides : Nat) : List Int := (List.range sides).map fun k : Nat => maskO on on.length (k : Int)
theorem setsO_len (on : List Int) (sides : Nat) : (setsO on sides).length = sides := by simp [setsO]
theorem setsO_get (on : List Int) (sides k : Nat) (h : k < sides) : (setsO on sides).getD k 0 = maskO on on.length (k : Int) := by
  simp [setsO, List.getD_eq_getElem?_getD, h]
theorem mask_snoc (on : List Int) (x k : Int) : maskO (on ++ [x]) (on ++ [x]).length k = maskO on on.length k + (if x = k then 2 ^ on.length else 0) := by
  rw [List.length_append, List.length_singleton]
  show maskO (on ++ [x]) on.length k + (if (on ++ [x]).getD on.length 0 = k then 2 ^ on.length else 0) = _
  rw [getD_app_eq, maskO_congr (P := on ++ [x]) (Q := on) k on.length fun j hj => getD_app_lt on x hj]
theorem setsO_snoc (on : List Int) (sides k : Nat) (h : k < sides) : (setsO on sides).set k (maskO on on.length (k : Int) + 2 ^ on.length) = setsO (on ++ [(k : Int)]) sides := by
  refine list_ext_getD (by rw [List.length_set, setsO_len, setsO_len]) fun j hj => ?_
  rw [List.length_set, setsO_len] at hj
  rw [gset _ _ _ _ _ (by rw [setsO_len]; exact h), setsO_get (on ++ [(k : Int)]) _ _ hj, mask_snoc]
  split
  · rename_i e
    rw [e, if_pos rfl]
  · rename_i e
    rw [setsO_get _ _ _ hj, if_neg (fun e2 => e (by omega)), Int.add_zero]
theorem setsO_back (on : List Int) (sides k : Nat) (h : k < sides) : (setsO (on ++ [(k : Int)]) sides).set k (maskO on on.length (k : Int)) = setsO on sides := by
  rw [← setsO_snoc on sides k h, List.set_set]
  refine list_ext_getD (by rw [List.length_set]) fun j hj => ?_
  rw [List.length_set, setsO_len] at hj
  rw [gset _ _ _ _ _ (by rw [setsO_len]; exact h)]
  split
  · rename_i e
    rw [e, setsO_get _ _ _ h]
  · rfl
@[reducible] def capsN : List (Nat × Nat) := [(0, 0), (1, 0), (2, 0), (3, 0), (4, 0)]
@[reducible] noncomputable def Mpk (f : Fmt) (l : List Sng) (sides : Nat) (n : Nat) (S A : List Int) : List (Option Blk) := [some (.box 55 [.vw 8 Tryd.t3.size 0 n true]), some (.box 73 [.ptr 5 0]), some (.box 3 [.int .i64 (sides : Int)]), some (.box 55 [.own 6]), some (.box 128 [.fn 72 capsN]), some (bPl f l), some (rowOd S), none, some (rowOd A)]
@[reducible] def argN (used : Nat) : List XV := [I (used : Int), .one (.ptr 0 0), .one (.ptr 1 0), .one (.ptr 2 0), .one (.ptr 3 0), .one (.ptr 4 0)]
structure PkRs (f : Fmt) (l : List Sng) (sides d : Nat) (on : List Int) (used : Nat) (b : Bool) (n : Nat) (S A : List Int) : Prop where
  le : n ≤ A.length
  sl : S.length = sides
  yes : b = true → pkF f l sides d on used = some (A.take n)
  no : b = false → pkF f l sides d on used = none ∧ n = on.length ∧ A.take n = on ∧ S = setsO on sides
theorem s77 (f : Fmt) (l : List Sng) (hf : FmtOK f) (hg : SngsOK l) (h8 : l.length ≤ 8) (sides : Nat) (hs : sides ≤ 8) : ∀ (d : Nat) (on : List Int) (used : Nat), on.length + d = l.length → used ≤ sides → HSpec Tryd.prog 72 (argN used) [.box 55 [.own 7], .box 73 [.ptr 5 0], .box 3 [.int .i64 (sides : Int)], .box 55 [.own 6], .box 128 [.fn 72 capsN], bPl f l, rowOd (setsO on sides), rowOd on] (fun r m' => ∃ b n S A, PkRs f l sides d on used b n S A ∧ r = .x (.one (.bool b)) ∧ m' = Mpk f l sides n S A)
  | 0, on, used, hlen, hu => by
    have ll := sngA_len l
    have lo := i64s_len on
    refine spec_of pMix (O := []) Tryd.func72 (c := bodyOf Tryd.f72) rfl (by kernel_rfl) (by kernel_rfl) Tryd.ntmps72 (res := [.tmp 7]) (by kernel_rfl) ?_
    repeat' ((conv => whnf); first | refine Rng.g ?_ | refine Ob.g ?_ | refine Ob.e ?_ | refine Ob.m ?_ | refine Ob.mk (Nat.le_of_ble_eq_true rfl) ?_ | refine JoinVC.on ?_ | refine Nils.mk (fun h => ?_) ?_ | refine Val.t ?_ | refine Val.d ?_ | refine Mm.mk ?_ | (refine Br.mk (fun h => ?_) (fun h => ?_) <;> first | (exfalso; omega; done) | (exfalso; simp at h; done) | skip))
    repeat refine Mm.mk ?_
    conv => whnf
    refine EndVC.mk _ rfl _ _ (⟨decide (used = sides), on.length, setsO on sides, on, ⟨Nat.le_refl _, setsO_len _ _, fun h => (by rw [List.take_length]; exact if_pos (of_decide_eq_true h)), fun h => ⟨if_neg (of_decide_eq_false h), rfl, List.take_length, rfl⟩⟩, rfl, rfl⟩) ?_
    refine ⟨[some 0, some 1, some 2, some 3, some 4, some 5, some 6, none, some 7], rfl, rfl, ?_, ?_⟩ <;> repeat' (first | exact trivial | exact rfl | exact Iff.rfl | apply And.intro)
    · exact decide_eq_decide.2 ⟨fun h => (by omega), fun h => (by omega)⟩
    · exact lo.symm
  | d + 1, on, used, hlen, hu => by
    have ih := s77 f l hf hg h8 sides hs d
    have ll := sngA_len l
    have lo := i64s_len on
    have hm1 := Nat.min_le_left (used + 1) sides
    have hm2 := Nat.min_le_right (used + 1) sides
    have hmin : (if (sides : Int) < (used : Int) + 1 then (sides : Int) else (used : Int) + 1) = ((min (used + 1) sides : Nat) : Int) := by
      rw [Nat.min_def]
      split <;> split <;> omega
    obtain ⟨K, hK⟩ : ∃ K, min (used + 1) sides = K := ⟨_, rfl⟩
    rw [hK] at hm1 hm2 hmin
    obtain ⟨g, hgd⟩ : ∃ g : Nat → Option (List Int), g = fun k : Nat => @ite _ (sideOK f l (on ++ [(k : Int)]) k) (Classical.propDecidable _) (pkF f l sides d (on ++ [(k : Int)]) (max used (k + 1))) none := ⟨_, rfl⟩
    have hpk : pkF f l sides (d + 1) on used = fsO g K := by rw [hgd, ← hK]; rfl
    refine spec_of pMix (O := []) Tryd.func72 (c := bodyOf Tryd.f72) rfl (by kernel_rfl) (by kernel_rfl) Tryd.ntmps72 (res := [.tmp 7]) (by kernel_rfl) ?_
    repeat' ((conv => whnf); first | refine Rng.g ?_ | refine Ob.g ?_ | refine Ob.e ?_ | refine Ob.m ?_ | refine Ob.mk (Nat.le_of_ble_eq_true rfl) ?_ | refine JoinVC.on ?_ | refine Nils.mk (fun h => ?_) ?_ | refine Val.t ?_ | refine Val.d ?_ | refine Mm.mk ?_ | (refine Br.mk (fun h => ?_) (fun h => ?_) <;> first | (exfalso; omega; done) | (exfalso; simp at h; done) | skip))
    refine LoopVC.mk (fun n st => ∃ (k : Nat) (A : List Int), k ≤ K ∧ n = K - k ∧ (∀ j, j < k → g j = none) ∧ on.length ≤ A.length ∧ A.take on.length = on ∧ st = ⟨8, envA 69 [(0, .int .i64 (used : Int)), (1, .x (.one (.ptr 0 0))), (2, .x (.one (.ptr 1 0))), (3, .x (.one (.ptr 2 0))), (4, .x (.one (.ptr 3 0))), (5, .x (.one (.ptr 4 0))), (8, .int .i64 (on.length : Int)), (25, .int .i64 (K : Int)), (26, .int .i64 (k : Int))], Mpk f l sides on.length (setsO on sides) A⟩) _ _ ⟨0, on, Nat.zero_le _, rfl, fun j hj => absurd hj (Nat.not_lt_zero j), Nat.le_refl _, List.take_length, rfl⟩ ?_ ?_
    · refine ⟨[some 0, some 1, some 2, some 3, some 4, some 5, some 6, none, some 7], rfl, rfl, ?_, ?_⟩ <;> repeat' (first | exact trivial | exact rfl | exact Iff.rfl | apply And.intro)
      · exact congrArg Int.ofNat lo
      · exact hmin
      · exact lo.symm
    rintro n _ ⟨k, A, hk, hn, hno, hA1, hA2, rfl⟩
    have lA := i64s_len A
    have lS := setsO_len on sides
    have lSi := i64s_len (setsO on sides)
    by_cases hk' : k < K
    rotate_left
    · have ek : k = K := by omega
      subst ek
      have hres : pkF f l sides (d + 1) on used = none := by rw [hpk]; exact fsO_none.2 hno
      repeat' ((conv => whnf); first | refine Rng.g ?_ | refine Ob.g ?_ | refine Ob.e ?_ | refine Ob.m ?_ | refine Ob.mk (Nat.le_of_ble_eq_true rfl) ?_ | refine JoinVC.on ?_ | refine Nils.mk (fun h => ?_) ?_ | refine Val.t ?_ | refine Val.d ?_ | refine Mm.mk ?_ | (refine Br.mk (fun h => ?_) (fun h => ?_) <;> first | (exfalso; omega; done) | (exfalso; simp at h; done) | skip))
      repeat refine Mm.mk ?_
      conv => whnf
      refine EndVC.mk _ rfl _ _ (⟨false, on.length, setsO on sides, A, ⟨hA1, lS, fun h => (by cases h), fun _ => ⟨hres, rfl, hA2, rfl⟩⟩, rfl, rfl⟩) ?_
      refine ⟨[some 0, some 1, some 2, some 3, some 4, some 5, some 6, none, some 8], rfl, rfl, ?_, ?_⟩ <;> repeat' (first | exact trivial | exact rfl | exact Iff.rfl | apply And.intro)
    have hb := maskO_bd on (k : Int) on.length
    have hsk : rI (i64s (setsO on sides)) (k : Int).toNat 0 = maskO on on.length (k : Int) := by rw [Int.toNat_natCast]; exact (i64s_get _ k).trans (setsO_get on sides k (by omega))
    have hb64 : ((IntKind.i64.bits : Nat) : Int) = 64 := rfl
    have hsn := setsO_snoc on sides k (by omega)
    have hbk := setsO_back on sides k (by omega)
    have hms := mask_snoc on (k : Int) (k : Int)
    rw [if_pos rfl] at hms
    have hmem := memB_mask (on ++ [(k : Int)]) (k : Int)
    have hlen2 : (on ++ [(k : Int)]).length = on.length + 1 := by rw [List.length_append, List.length_singleton]
    have hbd2 := maskO_bd (on ++ [(k : Int)]) (k : Int) (on ++ [(k : Int)]).length
    rw [hms] at hmem hbd2
    have h9 := memB_up (m := maskO on on.length (k : Int) + 2 ^ on.length) hbd2 (d := 9) (by omega)
    rw [hmem] at h9
    have hOk : OrdOK l.length (onL (on ++ [(k : Int)]) (k : Int)) := (onL_ord _ _).up (by omega)
    rw [← h9] at hOk
    have hpw : (2 : Int) ^ on.length ≤ 256 := by
      have h1 : 2 ^ on.length ≤ 2 ^ 8 := Nat.pow_le_pow_right (by decide) (by omega)
      have h2 := pow_nat on.length
      omega
    have hor := or_mask hb (by omega)
    have hnt := andNot_mask hb (by omega)
    have hsd : sideOK f l (on ++ [(k : Int)]) (k : Int) ↔ LayOK f l (usu l (memB (maskO on on.length (k : Int) + 2 ^ on.length) 9)) := by rw [h9]; exact Iff.rfl
    obtain ⟨w, hw⟩ : ∃ w : Int, 2 ^ on.length = w := ⟨_, rfl⟩
    obtain ⟨m, hm⟩ : ∃ m, maskO on on.length (k : Int) = m := ⟨_, rfl⟩
    rw [hw] at hb hsn hpw hor hnt hsd hOk
    rw [hm] at hb hsk hsn hbk hor hnt hsd hOk
    have hsh : 1 * 2 ^ (on.length : Int).toNat = w := by rw [Int.toNat_natCast, Int.one_mul]; exact hw
    have c78 := s78 f l (m + w) hf hg (by omega) hOk
    repeat' ((conv => whnf); first | rw [hsk] | refine Rng.g ?_ | refine Ob.g ?_ | refine Ob.e ?_ | refine Ob.m ?_ | refine Ob.mk (Nat.le_of_ble_eq_true rfl) ?_ | refine JoinVC.on ?_ | refine Nils.mk (fun h => ?_) ?_ | refine Val.t ?_ | refine Val.d ?_ | refine Mm.mk ?_ | (refine Br.mk (fun h => ?_) (fun h => ?_) <;> first | (exfalso; omega; done) | (exfalso; simp at h; done) | skip))
    conv => whnf
    refine Val.mk (w) (hsh) ?_
    repeat' ((conv => whnf); first | rw [hsk] | refine Rng.g ?_ | refine Ob.g ?_ | refine Ob.e ?_ | refine Ob.m ?_ | refine Ob.mk (Nat.le_of_ble_eq_true rfl) ?_ | refine JoinVC.on ?_ | refine Nils.mk (fun h => ?_) ?_ | refine Val.t ?_ | refine Val.d ?_ | refine Mm.mk ?_ | (refine Br.mk (fun h => ?_) (fun h => ?_) <;> first | (exfalso; omega; done) | (exfalso; simp at h; done) | skip))
    conv => whnf
    refine Val.mk ((m+w)) (hor) ?_
    repeat' ((conv => whnf); first | refine Rng.g ?_ | refine Ob.g ?_ | refine Ob.e ?_ | refine Ob.m ?_ | refine Ob.mk (Nat.le_of_ble_eq_true rfl) ?_ | refine JoinVC.on ?_ | refine Nils.mk (fun h => ?_) ?_ | refine Val.t ?_ | refine Val.d ?_ | refine Mm.mk ?_ | (refine Br.mk (fun h => ?_) (fun h => ?_) <;> first | (exfalso; omega; done) | (exfalso; simp at h; done) | skip))
    conv => whnf
    refine CallVC.mk [5] _ _ _ rfl rfl rfl (c78) (fun r m' h' => ?_)
    obtain ⟨rfl, rfl⟩ := h'
    conv => whnf
    repeat refine Mm.mk ?_
    try refine JoinVC.on ?_
    refine Br.mk (fun hL => ?_) (fun hL => ?_)
    · have hgk : g k = none := by rw [hgd]; exact if_neg fun h => hL (hsd.1 h)
      repeat' ((conv => whnf); first | refine Rng.g ?_ | refine Ob.g ?_ | refine Ob.e ?_ | refine Ob.m ?_ | refine Ob.mk (Nat.le_of_ble_eq_true rfl) ?_ | refine JoinVC.on ?_ | refine Nils.mk (fun h => ?_) ?_ | refine Val.t ?_ | refine Val.d ?_ | refine Mm.mk ?_ | (refine Br.mk (fun h => ?_) (fun h => ?_) <;> first | (exfalso; omega; done) | (exfalso; simp at h; done) | skip))
      refine Back.mk (K - (k + 1)) _ (by omega) ⟨k + 1, A, by omega, rfl, fun j hj => ?_, hA1, hA2, rfl⟩ ?_
      · rcases Nat.lt_succ_iff_lt_or_eq.1 hj with h' | rfl
        · exact hno j h'
        · exact hgk
      · refine ⟨[some 0, some 1, some 2, some 3, some 4, some 5, some 6, none, some 8], rfl, rfl, ?_, ?_⟩ <;> repeat' (first | exact trivial | exact rfl | exact Iff.rfl | apply And.intro)
    have hL' := Classical.not_not.1 hL
    have hgk : g k = pkF f l sides d (on ++ [(k : Int)]) (max used (k + 1)) := by rw [hgd]; exact if_pos (hsd.2 hL')
    have hup : updRow (i64s (setsO on sides)) (k : Int).toNat 0 [Cell.int (m + w)] = i64s (setsO (on ++ [(k : Int)]) sides) := by
      rw [Int.toNat_natCast, ← hsn]
      exact i64s_upd' _ k _ (by omega)
    have hap : List.take on.length (i64s A) ++ [[Cell.int (k : Int)]] = i64s (on ++ [(k : Int)]) := by
      rw [i64s_take, hA2, i64s_snoc]
    have hmx : (if (used : Int) < (k : Int) + 1 then (k : Int) + 1 else (used : Int)) = ((max used (k + 1) : Nat) : Int) := by
      rw [Nat.max_def]
      split <;> split <;> omega
    repeat' ((conv => whnf); first | rw [hsk] | refine Rng.g ?_ | refine Ob.g ?_ | refine Ob.e ?_ | refine Ob.m ?_ | refine Ob.mk (Nat.le_of_ble_eq_true rfl) ?_ | refine JoinVC.on ?_ | refine Nils.mk (fun h => ?_) ?_ | refine Val.t ?_ | refine Val.d ?_ | refine Mm.mk ?_ | (refine Br.mk (fun h => ?_) (fun h => ?_) <;> first | (exfalso; omega; done) | (exfalso; simp at h; done) | skip))
    conv => whnf
    refine Val.mk (w) (hsh) ?_
    repeat' ((conv => whnf); first | rw [hsk] | refine Rng.g ?_ | refine Ob.g ?_ | refine Ob.e ?_ | refine Ob.m ?_ | refine Ob.mk (Nat.le_of_ble_eq_true rfl) ?_ | refine JoinVC.on ?_ | refine Nils.mk (fun h => ?_) ?_ | refine Val.t ?_ | refine Val.d ?_ | refine Mm.mk ?_ | (refine Br.mk (fun h => ?_) (fun h => ?_) <;> first | (exfalso; omega; done) | (exfalso; simp at h; done) | skip))
    conv => whnf
    refine Val.mk ((m+w)) (hor) ?_
    repeat' ((conv => whnf); first | rw [hup] | refine Rng.g ?_ | refine Ob.g ?_ | refine Ob.e ?_ | refine Ob.m ?_ | refine Ob.mk (Nat.le_of_ble_eq_true rfl) ?_ | refine JoinVC.on ?_ | refine Nils.mk (fun h => ?_) ?_ | refine Val.t ?_ | refine Val.d ?_ | refine Mm.mk ?_ | (refine Br.mk (fun h => ?_) (fun h => ?_) <;> first | (exfalso; omega; done) | (exfalso; simp at h; done) | skip))
    repeat refine Mm.mk ?_
    refine Ob.mk (by rw [eb3]; simp only [List.length_cons, List.length_nil]; omega) ?_
    repeat' ((conv => whnf); first | rw [hup] | rw [hap] | refine Rng.g ?_ | refine Ob.g ?_ | refine Ob.e ?_ | refine Ob.m ?_ | refine Ob.mk (Nat.le_of_ble_eq_true rfl) ?_ | refine JoinVC.on ?_ | refine Nils.mk (fun h => ?_) ?_ | refine Val.t ?_ | refine Val.d ?_ | (refine Br.mk (fun h => ?_) (fun h => ?_) <;> first | (exfalso; omega; done) | (exfalso; simp at h; done) | skip))
    conv => whnf
    rw [hmx]
    refine Mm.mk ?_
    conv => whnf
    refine CallVC.mk [0, 1, 2, 3, 4, 5, 6, 10] _ _ _ rfl rfl rfl (ih (on ++ [(k : Int)]) (max used (k + 1)) (by rw [hlen2]; omega) (Nat.max_le.2 ⟨hu, by omega⟩)) (fun r m' h' => ?_)
    obtain ⟨b, n', S', A', hR, rfl, rfl⟩ := h'
    conv => whnf
    have lA' := i64s_len A'
    have lS' := i64s_len S'
    have hsl := hR.sl
    cases b with
    | true =>
      have hres : pkF f l sides (d + 1) on used = some (A'.take n') := by rw [hpk]; exact fsO_at hno (hgk.trans (hR.yes rfl)) hk'
      repeat' ((conv => whnf); first | refine Rng.g ?_ | refine Ob.g ?_ | refine Ob.e ?_ | refine Ob.m ?_ | refine Ob.mk (Nat.le_of_ble_eq_true rfl) ?_ | refine JoinVC.on ?_ | refine Nils.mk (fun h => ?_) ?_ | refine Val.t ?_ | refine Val.d ?_ | refine Mm.mk ?_ | (refine Br.mk (fun h => ?_) (fun h => ?_) <;> first | (exfalso; omega; done) | (exfalso; simp at h; done) | skip))
      repeat refine Mm.mk ?_
      conv => whnf
      refine EndVC.mk _ rfl _ _ (⟨true, n', S', A', ⟨hR.le, hsl, fun _ => hres, fun h => (by cases h)⟩, rfl, rfl⟩) ?_
      refine ⟨[some 0, some 1, some 2, some 3, some 4, some 5, some 6, none, some 11], rfl, rfl, ?_, ?_⟩ <;> repeat' (first | exact trivial | exact rfl | exact Iff.rfl | apply And.intro)
    | false =>
      obtain ⟨r1, r2, r3, r4⟩ := hR.no rfl
      subst r2 r4
      have hle := hR.le
      rw [hlen2] at hle r3
      have r5 : A'.take on.length = on := by
        have : (A'.take (on.length + 1)).take on.length = on := by rw [r3]; simp
        rwa [List.take_take, Nat.min_eq_left (by omega)] at this
      have hsk2 : rI (i64s (setsO (on ++ [(k : Int)]) sides)) (k : Int).toNat 0 = m + w := by
        rw [Int.toNat_natCast]
        refine (i64s_get _ k).trans ?_
        rw [setsO_get _ _ _ (by omega), hms, hw, hm]
      have hup2 : updRow (i64s (setsO (on ++ [(k : Int)]) sides)) (k : Int).toNat 0 [Cell.int m] = i64s (setsO on sides) := by
        rw [Int.toNat_natCast, ← hbk]
        exact i64s_upd' _ k _ (by omega)
      repeat' ((conv => whnf); first | rw [hsk2] | refine Rng.g ?_ | refine Ob.g ?_ | refine Ob.e ?_ | refine Ob.m ?_ | refine Ob.mk (Nat.le_of_ble_eq_true rfl) ?_ | refine JoinVC.on ?_ | refine Nils.mk (fun h => ?_) ?_ | refine Val.t ?_ | refine Val.d ?_ | refine Mm.mk ?_ | (refine Br.mk (fun h => ?_) (fun h => ?_) <;> first | (exfalso; omega; done) | (exfalso; simp at h; done) | skip))
      conv => whnf
      refine Val.mk (w) (hsh) ?_
      repeat' ((conv => whnf); first | rw [hsk2] | refine Rng.g ?_ | refine Ob.g ?_ | refine Ob.e ?_ | refine Ob.m ?_ | refine Ob.mk (Nat.le_of_ble_eq_true rfl) ?_ | refine JoinVC.on ?_ | refine Nils.mk (fun h => ?_) ?_ | refine Val.t ?_ | refine Val.d ?_ | refine Mm.mk ?_ | (refine Br.mk (fun h => ?_) (fun h => ?_) <;> first | (exfalso; omega; done) | (exfalso; simp at h; done) | skip))
      conv => whnf
      refine Val.mk (m) (hnt) ?_
      repeat' ((conv => whnf); first | rw [hup2] | refine Rng.g ?_ | refine Ob.g ?_ | refine Ob.e ?_ | refine Ob.m ?_ | refine Ob.mk (Nat.le_of_ble_eq_true rfl) ?_ | refine JoinVC.on ?_ | refine Nils.mk (fun h => ?_) ?_ | refine Val.t ?_ | refine Val.d ?_ | refine Mm.mk ?_ | (refine Br.mk (fun h => ?_) (fun h => ?_) <;> first | (exfalso; omega; done) | (exfalso; simp at h; done) | skip))
      refine Back.mk (K - (k + 1)) _ (by omega) ⟨k + 1, A', by omega, rfl, fun j hj => ?_, by omega, r5, rfl⟩ ?_
      · rcases Nat.lt_succ_iff_lt_or_eq.1 hj with h' | rfl
        · exact hno j h'
        · exact hgk.trans r1
      · refine ⟨[some 0, some 1, some 2, some 3, some 4, some 5, some 6, none, some 11], rfl, rfl, ?_, ?_⟩ <;> repeat' (first | exact trivial | exact rfl | exact Iff.rfl | apply And.intro)
end Go.Sx

namespace Go.Sx
open Go Go.Proofs
set_option maxRecDepth 10000
set_option maxHeartbeats 16000000
@[reducible] noncomputable def Mpn (f : Fmt) (l : List Sng) (sides : Nat) (n : Nat) (S A : List Int) : List (Option Blk) := [some (.box 55 [.vw 7 Tryd.t3.size 0 n true]), some (.box 73 [.ptr 5 0]), some (.box 3 [.int .i64 (sides : Int)]), some (.box 55 [.own 6]), some (.box 128 [.fn 72 capsN]), some (bPl f l), some (rowOd S), some (rowOd A)]
theorem s77n (f : Fmt) (l : List Sng) (hf : FmtOK f) (hg : SngsOK l) (h8 : l.length ≤ 8) (sides : Nat) (hs : sides ≤ 8) (d : Nat) (hd : l.length = d + 1) (on : List Int) (hon : on = []) (used : Nat) (hus : used = 0) : HSpec Tryd.prog 72 (argN used) [.box 55 [.nils], .box 73 [.ptr 5 0], .box 3 [.int .i64 (sides : Int)], .box 55 [.own 6], .box 128 [.fn 72 capsN], bPl f l, rowOd (setsO on sides)] (fun r m' => ∃ b n S A, PkRs f l sides (d + 1) on used b n S A ∧ r = .x (.one (.bool b)) ∧ m' = Mpn f l sides n S A) := by
  have lo0 : on.length = 0 := by rw [hon]; rfl
  have hlen : on.length + (d + 1) = l.length := by omega
  have hu : used ≤ sides := by omega
  have ih := s77 f l hf hg h8 sides hs d
  have ll := sngA_len l
  have lo := i64s_len on
  have hm1 := Nat.min_le_left (used + 1) sides
  have hm2 := Nat.min_le_right (used + 1) sides
  have hmin : (if (sides : Int) < (used : Int) + 1 then (sides : Int) else (used : Int) + 1) = ((min (used + 1) sides : Nat) : Int) := by
    rw [Nat.min_def]
    split <;> split <;> omega
  obtain ⟨K, hK⟩ : ∃ K, min (used + 1) sides = K := ⟨_, rfl⟩
  rw [hK] at hm1 hm2 hmin
  obtain ⟨g, hgd⟩ : ∃ g : Nat → Option (List Int), g = fun k : Nat => @ite _ (sideOK f l (on ++ [(k : Int)]) k) (Classical.propDecidable _) (pkF f l sides d (on ++ [(k : Int)]) (max used (k + 1))) none := ⟨_, rfl⟩
  have hpk : pkF f l sides (d + 1) on used = fsO g K := by rw [hgd, ← hK]; rfl
  refine spec_of pMix (O := []) Tryd.func72 (c := bodyOf Tryd.f72) rfl (by kernel_rfl) (by kernel_rfl) Tryd.ntmps72 (res := [.tmp 7]) (by kernel_rfl) ?_
  repeat' ((conv => whnf); first | refine Rng.g ?_ | refine Ob.g ?_ | refine Ob.e ?_ | refine Ob.m ?_ | refine Ob.mk (Nat.le_of_ble_eq_true rfl) ?_ | refine JoinVC.on ?_ | refine Nils.mk (fun h => ?_) ?_ | refine Val.t ?_ | refine Val.d ?_ | refine Mm.mk ?_ | (refine Br.mk (fun h => ?_) (fun h => ?_) <;> first | (exfalso; omega; done) | (exfalso; simp at h; done) | skip))
  refine LoopVC.mk (fun n st => ∃ (k : Nat) (A : List Int), k ≤ K ∧ n = K - k ∧ (∀ j, j < k → g j = none) ∧ on.length ≤ A.length ∧ A.take on.length = on ∧ st = ⟨7, envA 69 [(0, .int .i64 (used : Int)), (1, .x (.one (.ptr 0 0))), (2, .x (.one (.ptr 1 0))), (3, .x (.one (.ptr 2 0))), (4, .x (.one (.ptr 3 0))), (5, .x (.one (.ptr 4 0))), (8, .int .i64 (on.length : Int)), (25, .int .i64 (K : Int)), (26, .int .i64 (k : Int))], Mpn f l sides on.length (setsO on sides) A⟩) _ _ ⟨0, on, Nat.zero_le _, rfl, fun j hj => absurd hj (Nat.not_lt_zero j), Nat.le_refl _, List.take_length, rfl⟩ ?_ ?_
  · refine ⟨[some 0, some 1, some 2, some 3, some 4, some 5, some 6, none], rfl, rfl, ?_, ?_⟩ <;> repeat' (first | exact trivial | exact rfl | exact Iff.rfl | apply And.intro)
    · rw [lo0]; rfl
    · exact hmin
    · exact lo0
    · rw [hon]; rfl
  rintro n _ ⟨k, A, hk, hn, hno, hA1, hA2, rfl⟩
  have lA := i64s_len A
  have lS := setsO_len on sides
  have lSi := i64s_len (setsO on sides)
  by_cases hk' : k < K
  rotate_left
  · have ek : k = K := by omega
    subst ek
    have hres : pkF f l sides (d + 1) on used = none := by rw [hpk]; exact fsO_none.2 hno
    repeat' ((conv => whnf); first | refine Rng.g ?_ | refine Ob.g ?_ | refine Ob.e ?_ | refine Ob.m ?_ | refine Ob.mk (Nat.le_of_ble_eq_true rfl) ?_ | refine JoinVC.on ?_ | refine Nils.mk (fun h => ?_) ?_ | refine Val.t ?_ | refine Val.d ?_ | refine Mm.mk ?_ | (refine Br.mk (fun h => ?_) (fun h => ?_) <;> first | (exfalso; omega; done) | (exfalso; simp at h; done) | skip))
    repeat refine Mm.mk ?_
    conv => whnf
    refine EndVC.mk _ rfl _ _ (⟨false, on.length, setsO on sides, A, ⟨hA1, lS, fun h => (by cases h), fun _ => ⟨hres, rfl, hA2, rfl⟩⟩, rfl, rfl⟩) ?_
    refine ⟨[some 0, some 1, some 2, some 3, some 4, some 5, some 6, some 7], rfl, rfl, ?_, ?_⟩ <;> repeat' (first | exact trivial | exact rfl | exact Iff.rfl | apply And.intro)
  have hb := maskO_bd on (k : Int) on.length
  have hsk : rI (i64s (setsO on sides)) (k : Int).toNat 0 = maskO on on.length (k : Int) := by rw [Int.toNat_natCast]; exact (i64s_get _ k).trans (setsO_get on sides k (by omega))
  have hb64 : ((IntKind.i64.bits : Nat) : Int) = 64 := rfl
  have hsn := setsO_snoc on sides k (by omega)
  have hbk := setsO_back on sides k (by omega)
  have hms := mask_snoc on (k : Int) (k : Int)
  rw [if_pos rfl] at hms
  have hmem := memB_mask (on ++ [(k : Int)]) (k : Int)
  have hlen2 : (on ++ [(k : Int)]).length = on.length + 1 := by rw [List.length_append, List.length_singleton]
  have hbd2 := maskO_bd (on ++ [(k : Int)]) (k : Int) (on ++ [(k : Int)]).length
  rw [hms] at hmem hbd2
  have h9 := memB_up (m := maskO on on.length (k : Int) + 2 ^ on.length) hbd2 (d := 9) (by omega)
  rw [hmem] at h9
  have hOk : OrdOK l.length (onL (on ++ [(k : Int)]) (k : Int)) := (onL_ord _ _).up (by omega)
  rw [← h9] at hOk
  have hpw : (2 : Int) ^ on.length ≤ 256 := by
    have h1 : 2 ^ on.length ≤ 2 ^ 8 := Nat.pow_le_pow_right (by decide) (by omega)
    have h2 := pow_nat on.length
    omega
  have hor := or_mask hb (by omega)
  have hnt := andNot_mask hb (by omega)
  have hsd : sideOK f l (on ++ [(k : Int)]) (k : Int) ↔ LayOK f l (usu l (memB (maskO on on.length (k : Int) + 2 ^ on.length) 9)) := by rw [h9]; exact Iff.rfl
  obtain ⟨w, hw⟩ : ∃ w : Int, 2 ^ on.length = w := ⟨_, rfl⟩
  obtain ⟨m, hm⟩ : ∃ m, maskO on on.length (k : Int) = m := ⟨_, rfl⟩
  rw [hw] at hb hsn hpw hor hnt hsd hOk
  rw [hm] at hb hsk hsn hbk hor hnt hsd hOk
  have hsh : 1 * 2 ^ (on.length : Int).toNat = w := by rw [Int.toNat_natCast, Int.one_mul]; exact hw
  have c78 := s78 f l (m + w) hf hg (by omega) hOk
  repeat' ((conv => whnf); first | rw [hsk] | refine Rng.g ?_ | refine Ob.g ?_ | refine Ob.e ?_ | refine Ob.m ?_ | refine Ob.mk (Nat.le_of_ble_eq_true rfl) ?_ | refine JoinVC.on ?_ | refine Nils.mk (fun h => ?_) ?_ | refine Val.t ?_ | refine Val.d ?_ | refine Mm.mk ?_ | (refine Br.mk (fun h => ?_) (fun h => ?_) <;> first | (exfalso; omega; done) | (exfalso; simp at h; done) | skip))
  conv => whnf
  refine Val.mk (w) (hsh) ?_
  repeat' ((conv => whnf); first | rw [hsk] | refine Rng.g ?_ | refine Ob.g ?_ | refine Ob.e ?_ | refine Ob.m ?_ | refine Ob.mk (Nat.le_of_ble_eq_true rfl) ?_ | refine JoinVC.on ?_ | refine Nils.mk (fun h => ?_) ?_ | refine Val.t ?_ | refine Val.d ?_ | refine Mm.mk ?_ | (refine Br.mk (fun h => ?_) (fun h => ?_) <;> first | (exfalso; omega; done) | (exfalso; simp at h; done) | skip))
  conv => whnf
  refine Val.mk ((m+w)) (hor) ?_
  repeat' ((conv => whnf); first | refine Rng.g ?_ | refine Ob.g ?_ | refine Ob.e ?_ | refine Ob.m ?_ | refine Ob.mk (Nat.le_of_ble_eq_true rfl) ?_ | refine JoinVC.on ?_ | refine Nils.mk (fun h => ?_) ?_ | refine Val.t ?_ | refine Val.d ?_ | refine Mm.mk ?_ | (refine Br.mk (fun h => ?_) (fun h => ?_) <;> first | (exfalso; omega; done) | (exfalso; simp at h; done) | skip))
  conv => whnf
  refine CallVC.mk [5] _ _ _ rfl rfl rfl (c78) (fun r m' h' => ?_)
  obtain ⟨rfl, rfl⟩ := h'
  conv => whnf
  repeat refine Mm.mk ?_
  try refine JoinVC.on ?_
  refine Br.mk (fun hL => ?_) (fun hL => ?_)
  · have hgk : g k = none := by rw [hgd]; exact if_neg fun h => hL (hsd.1 h)
    repeat' ((conv => whnf); first | refine Rng.g ?_ | refine Ob.g ?_ | refine Ob.e ?_ | refine Ob.m ?_ | refine Ob.mk (Nat.le_of_ble_eq_true rfl) ?_ | refine JoinVC.on ?_ | refine Nils.mk (fun h => ?_) ?_ | refine Val.t ?_ | refine Val.d ?_ | refine Mm.mk ?_ | (refine Br.mk (fun h => ?_) (fun h => ?_) <;> first | (exfalso; omega; done) | (exfalso; simp at h; done) | skip))
    refine Back.mk (K - (k + 1)) _ (by omega) ⟨k + 1, A, by omega, rfl, fun j hj => ?_, hA1, hA2, rfl⟩ ?_
    · rcases Nat.lt_succ_iff_lt_or_eq.1 hj with h' | rfl
      · exact hno j h'
      · exact hgk
    · refine ⟨[some 0, some 1, some 2, some 3, some 4, some 5, some 6, some 7], rfl, rfl, ?_, ?_⟩ <;> repeat' (first | exact trivial | exact rfl | exact Iff.rfl | apply And.intro)
  have hL' := Classical.not_not.1 hL
  have hgk : g k = pkF f l sides d (on ++ [(k : Int)]) (max used (k + 1)) := by rw [hgd]; exact if_pos (hsd.2 hL')
  have hup : updRow (i64s (setsO on sides)) (k : Int).toNat 0 [Cell.int (m + w)] = i64s (setsO (on ++ [(k : Int)]) sides) := by
    rw [Int.toNat_natCast, ← hsn]
    exact i64s_upd' _ k _ (by omega)
  have hap : List.take on.length (i64s A) ++ [[Cell.int (k : Int)]] = i64s (on ++ [(k : Int)]) := by
    rw [i64s_take, hA2, i64s_snoc]
  have hmx : (if (used : Int) < (k : Int) + 1 then (k : Int) + 1 else (used : Int)) = ((max used (k + 1) : Nat) : Int) := by
    rw [Nat.max_def]
    split <;> split <;> omega
  repeat' ((conv => whnf); first | rw [hsk] | refine Rng.g ?_ | refine Ob.g ?_ | refine Ob.e ?_ | refine Ob.m ?_ | refine Ob.mk (Nat.le_of_ble_eq_true rfl) ?_ | refine JoinVC.on ?_ | refine Nils.mk (fun h => ?_) ?_ | refine Val.t ?_ | refine Val.d ?_ | refine Mm.mk ?_ | (refine Br.mk (fun h => ?_) (fun h => ?_) <;> first | (exfalso; omega; done) | (exfalso; simp at h; done) | skip))
  conv => whnf
  refine Val.mk (w) (hsh) ?_
  repeat' ((conv => whnf); first | rw [hsk] | refine Rng.g ?_ | refine Ob.g ?_ | refine Ob.e ?_ | refine Ob.m ?_ | refine Ob.mk (Nat.le_of_ble_eq_true rfl) ?_ | refine JoinVC.on ?_ | refine Nils.mk (fun h => ?_) ?_ | refine Val.t ?_ | refine Val.d ?_ | refine Mm.mk ?_ | (refine Br.mk (fun h => ?_) (fun h => ?_) <;> first | (exfalso; omega; done) | (exfalso; simp at h; done) | skip))
  conv => whnf
  refine Val.mk ((m+w)) (hor) ?_
  repeat' ((conv => whnf); first | rw [hup] | refine Rng.g ?_ | refine Ob.g ?_ | refine Ob.e ?_ | refine Ob.m ?_ | refine Ob.mk (Nat.le_of_ble_eq_true rfl) ?_ | refine JoinVC.on ?_ | refine Nils.mk (fun h => ?_) ?_ | refine Val.t ?_ | refine Val.d ?_ | refine Mm.mk ?_ | (refine Br.mk (fun h => ?_) (fun h => ?_) <;> first | (exfalso; omega; done) | (exfalso; simp at h; done) | skip))
  repeat refine Mm.mk ?_
  refine Ob.mk (by rw [eb3]; simp only [List.length_cons, List.length_nil]; omega) ?_
  repeat' ((conv => whnf); first | rw [hup] | rw [hap] | refine Rng.g ?_ | refine Ob.g ?_ | refine Ob.e ?_ | refine Ob.m ?_ | refine Ob.mk (Nat.le_of_ble_eq_true rfl) ?_ | refine JoinVC.on ?_ | refine Nils.mk (fun h => ?_) ?_ | refine Val.t ?_ | refine Val.d ?_ | (refine Br.mk (fun h => ?_) (fun h => ?_) <;> first | (exfalso; omega; done) | (exfalso; simp at h; done) | skip))
  conv => whnf
  rw [hmx]
  refine Mm.mk ?_
  conv => whnf
  refine CallVC.mk [0, 1, 2, 3, 4, 5, 6, 9] _ _ _ rfl rfl rfl (ih (on ++ [(k : Int)]) (max used (k + 1)) (by rw [hlen2]; omega) (Nat.max_le.2 ⟨hu, by omega⟩)) (fun r m' h' => ?_)
  obtain ⟨b, n', S', A', hR, rfl, rfl⟩ := h'
  conv => whnf
  have lA' := i64s_len A'
  have lS' := i64s_len S'
  have hsl := hR.sl
  cases b with
  | true =>
    have hres : pkF f l sides (d + 1) on used = some (A'.take n') := by rw [hpk]; exact fsO_at hno (hgk.trans (hR.yes rfl)) hk'
    repeat' ((conv => whnf); first | refine Rng.g ?_ | refine Ob.g ?_ | refine Ob.e ?_ | refine Ob.m ?_ | refine Ob.mk (Nat.le_of_ble_eq_true rfl) ?_ | refine JoinVC.on ?_ | refine Nils.mk (fun h => ?_) ?_ | refine Val.t ?_ | refine Val.d ?_ | refine Mm.mk ?_ | (refine Br.mk (fun h => ?_) (fun h => ?_) <;> first | (exfalso; omega; done) | (exfalso; simp at h; done) | skip))
    repeat refine Mm.mk ?_
    conv => whnf
    refine EndVC.mk _ rfl _ _ (⟨true, n', S', A', ⟨hR.le, hsl, fun _ => hres, fun h => (by cases h)⟩, rfl, rfl⟩) ?_
    refine ⟨[some 0, some 1, some 2, some 3, some 4, some 5, some 6, some 10], rfl, rfl, ?_, ?_⟩ <;> repeat' (first | exact trivial | exact rfl | exact Iff.rfl | apply And.intro)
  | false =>
    obtain ⟨r1, r2, r3, r4⟩ := hR.no rfl
    subst r2 r4
    have hle := hR.le
    rw [hlen2] at hle r3
    have r5 : A'.take on.length = on := by
      have : (A'.take (on.length + 1)).take on.length = on := by rw [r3]; simp
      rwa [List.take_take, Nat.min_eq_left (by omega)] at this
    have hsk2 : rI (i64s (setsO (on ++ [(k : Int)]) sides)) (k : Int).toNat 0 = m + w := by
      rw [Int.toNat_natCast]
      refine (i64s_get _ k).trans ?_
      rw [setsO_get _ _ _ (by omega), hms, hw, hm]
    have hup2 : updRow (i64s (setsO (on ++ [(k : Int)]) sides)) (k : Int).toNat 0 [Cell.int m] = i64s (setsO on sides) := by
      rw [Int.toNat_natCast, ← hbk]
      exact i64s_upd' _ k _ (by omega)
    repeat' ((conv => whnf); first | rw [hsk2] | refine Rng.g ?_ | refine Ob.g ?_ | refine Ob.e ?_ | refine Ob.m ?_ | refine Ob.mk (Nat.le_of_ble_eq_true rfl) ?_ | refine JoinVC.on ?_ | refine Nils.mk (fun h => ?_) ?_ | refine Val.t ?_ | refine Val.d ?_ | refine Mm.mk ?_ | (refine Br.mk (fun h => ?_) (fun h => ?_) <;> first | (exfalso; omega; done) | (exfalso; simp at h; done) | skip))
    conv => whnf
    refine Val.mk (w) (hsh) ?_
    repeat' ((conv => whnf); first | rw [hsk2] | refine Rng.g ?_ | refine Ob.g ?_ | refine Ob.e ?_ | refine Ob.m ?_ | refine Ob.mk (Nat.le_of_ble_eq_true rfl) ?_ | refine JoinVC.on ?_ | refine Nils.mk (fun h => ?_) ?_ | refine Val.t ?_ | refine Val.d ?_ | refine Mm.mk ?_ | (refine Br.mk (fun h => ?_) (fun h => ?_) <;> first | (exfalso; omega; done) | (exfalso; simp at h; done) | skip))
    conv => whnf
    refine Val.mk (m) (hnt) ?_
    repeat' ((conv => whnf); first | rw [hup2] | refine Rng.g ?_ | refine Ob.g ?_ | refine Ob.e ?_ | refine Ob.m ?_ | refine Ob.mk (Nat.le_of_ble_eq_true rfl) ?_ | refine JoinVC.on ?_ | refine Nils.mk (fun h => ?_) ?_ | refine Val.t ?_ | refine Val.d ?_ | refine Mm.mk ?_ | (refine Br.mk (fun h => ?_) (fun h => ?_) <;> first | (exfalso; omega; done) | (exfalso; simp at h; done) | skip))
    refine Back.mk (K - (k + 1)) _ (by omega) ⟨k + 1, A', by omega, rfl, fun j hj => ?_, by omega, r5, rfl⟩ ?_
    · rcases Nat.lt_succ_iff_lt_or_eq.1 hj with h' | rfl
      · exact hno j h'
      · exact hgk.trans r1
    · refine ⟨[some 0, some 1, some 2, some 3, some 4, some 5, some 6, some 10], rfl, rfl, ?_, ?_⟩ <;> repeat' (first | exact trivial | exact rfl | exact Iff.rfl | apply And.intro)
/-- What 'pack' hands back. -/
inductive PcRs (f : Fmt) (l : List Sng) (sides : Nat) (r : AV) (m' : List (Option Blk)) : Prop
  | none (h : packR f l sides = none) (hr : r = .tup [.one .any, .one (.bool false)]) (hm : m' = [some (bPl f l)])
  | some (q : List Int) (h : packR f l sides = some q) (hr : r = .tup [.one (.lst false [.int .i64] (i64s q)), .one (.bool true)]) (hm : m' = [some (bPl f l)])
theorem s77z (f : Fmt) (l : List Sng) (sides : Nat) (S : List Int) (h0 : l.length = 0) : HSpec Tryd.prog 72 (argN 0) [.box 55 [.nils], .box 73 [.ptr 5 0], .box 3 [.int .i64 (sides : Int)], .box 55 [.own 6], .box 128 [.fn 72 capsN], bPl f l, rowOd S] (fun r m' => r = xP (0 = sides) ∧ m' = [some (.box 55 [.nils]), some (.box 73 [.ptr 5 0]), some (.box 3 [.int .i64 (sides : Int)]), some (.box 55 [.own 6]), some (.box 128 [.fn 72 capsN]), some (bPl f l), some (rowOd S)]) := by
  have ll := sngA_len l
  refine spec_of pMix (O := []) Tryd.func72 (c := bodyOf Tryd.f72) rfl (by kernel_rfl) (by kernel_rfl) Tryd.ntmps72 (res := [.tmp 7]) (by kernel_rfl) ?_
  repeat' ((conv => whnf); first | refine Rng.g ?_ | refine Ob.g ?_ | refine Ob.e ?_ | refine Ob.m ?_ | refine Ob.mk (Nat.le_of_ble_eq_true rfl) ?_ | refine JoinVC.on ?_ | refine Nils.mk (fun h => ?_) ?_ | refine Val.t ?_ | refine Val.d ?_ | refine Mm.mk ?_ | (refine Br.mk (fun h => ?_) (fun h => ?_) <;> first | (exfalso; omega; done) | (exfalso; simp at h; done) | skip))
  repeat refine Mm.mk ?_
  refine EndVC.mk _ rfl _ _ ⟨rfl, rfl⟩ ?_
  refine ⟨[some 0, some 1, some 2, some 3, some 4, some 5, some 6], rfl, rfl, ?_, ?_⟩ <;> repeat' (first | exact trivial | exact rfl | exact Iff.rfl | apply And.intro)
  show _ ↔ _
  exact ⟨fun h => (by omega), fun h => (by omega)⟩
theorem sets0 (sides : Nat) : List.replicate (sides : Int).toNat (zeroRow [.int .i64]) = i64s (setsO [] sides) := by
  have e : setsO [] sides = List.replicate sides 0 := by
    refine List.ext_getElem (by simp [setsO]) fun i h1 h2 => ?_
    simp [setsO, maskO]
  rw [e, Int.toNat_natCast]
  simp [i64s, zeroRow, zeroCell]
theorem s56 (f : Fmt) (l : List Sng) (hf : FmtOK f) (hg : SngsOK l) (h8 : l.length ≤ 8) (sides : Nat) (hs : sides ≤ 8) : HSpec Tryd.prog 59 [.one (.ptr 0 0), I (sides : Int)] [bPl f l] (fun r m' => PcRs f l sides r m') := by
  have hpk := pk_eq hf hg (sides := sides) l.length [] 0 (by simp) numb_nil (Nat.zero_le _) (fun k hk => absurd hk (Nat.not_lt_zero k))
  have e0 := sets0 sides
  by_cases h0 : l.length = 0
  · refine spec_of pMix (O := []) Tryd.func59 (c := bodyOf Tryd.f59) rfl (by kernel_rfl) (by kernel_rfl) Tryd.ntmps59 (res := [.tmp 4, .tmp 5]) (by kernel_rfl) ?_
    repeat' ((conv => whnf); first | refine Rng.g ?_ | refine Ob.g ?_ | refine Ob.e ?_ | refine Ob.m ?_ | refine Ob.mk (Nat.le_of_ble_eq_true rfl) ?_ | refine JoinVC.on ?_ | refine Nils.mk (fun h => ?_) ?_ | refine Val.t ?_ | refine Val.d ?_ | refine Mm.mk ?_ | (refine Br.mk (fun h => ?_) (fun h => ?_) <;> first | (exfalso; omega; done) | (exfalso; simp at h; done) | skip))
    repeat refine Mm.mk ?_
    refine Ob.mk (by rw [eb3]; omega) ?_
    repeat' ((conv => whnf); first | rw [e0] | refine Rng.g ?_ | refine Ob.g ?_ | refine Ob.e ?_ | refine Ob.m ?_ | refine Ob.mk (Nat.le_of_ble_eq_true rfl) ?_ | refine JoinVC.on ?_ | refine Nils.mk (fun h => ?_) ?_ | refine Val.t ?_ | refine Val.d ?_ | refine Mm.mk ?_ | (refine Br.mk (fun h => ?_) (fun h => ?_) <;> first | (exfalso; omega; done) | (exfalso; simp at h; done) | skip))
    conv => whnf
    refine CallVC.mk [5, 1, 2, 4, 6, 0, 3] _ _ _ rfl rfl rfl (s77z f l sides (setsO [] sides) h0) (fun r m' h' => ?_)
    obtain ⟨rfl, rfl⟩ := h'
    conv => whnf
    rw [h0] at hpk
    by_cases hz : 0 = sides
    · have hr : packR f l sides = some [] := by
        show pkR f l sides l.length [] 0 = some []
        rw [h0, ← hpk]
        exact if_pos hz
      repeat' ((conv => whnf); first | refine Rng.g ?_ | refine Ob.g ?_ | refine Ob.e ?_ | refine Ob.m ?_ | refine Ob.mk (Nat.le_of_ble_eq_true rfl) ?_ | refine JoinVC.on ?_ | refine Nils.mk (fun h => ?_) ?_ | refine Val.t ?_ | refine Val.d ?_ | refine Mm.mk ?_ | (refine Br.mk (fun h => ?_) (fun h => ?_) <;> first | (exfalso; omega; done) | (exfalso; simp at h; done) | skip))
      repeat refine Mm.mk ?_
      conv => whnf
      refine EndVC.mk _ rfl _ _ (.some [] hr rfl rfl) ?_
      refine ⟨[some 0], rfl, rfl, ?_, ?_⟩ <;> repeat' (first | exact trivial | exact rfl | exact Iff.rfl | apply And.intro)
      exact decide_eq_true hz
    · have hr : packR f l sides = none := by
        show pkR f l sides l.length [] 0 = none
        rw [h0, ← hpk]
        exact if_neg hz
      repeat' ((conv => whnf); first | refine Rng.g ?_ | refine Ob.g ?_ | refine Ob.e ?_ | refine Ob.m ?_ | refine Ob.mk (Nat.le_of_ble_eq_true rfl) ?_ | refine JoinVC.on ?_ | refine Nils.mk (fun h => ?_) ?_ | refine Val.t ?_ | refine Val.d ?_ | refine Mm.mk ?_ | (refine Br.mk (fun h => ?_) (fun h => ?_) <;> first | (exfalso; omega; done) | (exfalso; simp at h; done) | skip))
      repeat refine Mm.mk ?_
      conv => whnf
      refine EndVC.mk _ rfl _ _ (.none hr rfl rfl) ?_
      refine ⟨[some 0], rfl, rfl, ?_, ?_⟩ <;> repeat' (first | exact trivial | exact rfl | exact Iff.rfl | apply And.intro)
      exact decide_eq_false hz
  · obtain ⟨d, hd⟩ : ∃ d, l.length = d + 1 := ⟨l.length - 1, by omega⟩
    rw [hd] at hpk
    refine spec_of pMix (O := []) Tryd.func59 (c := bodyOf Tryd.f59) rfl (by kernel_rfl) (by kernel_rfl) Tryd.ntmps59 (res := [.tmp 4, .tmp 5]) (by kernel_rfl) ?_
    repeat' ((conv => whnf); first | refine Rng.g ?_ | refine Ob.g ?_ | refine Ob.e ?_ | refine Ob.m ?_ | refine Ob.mk (Nat.le_of_ble_eq_true rfl) ?_ | refine JoinVC.on ?_ | refine Nils.mk (fun h => ?_) ?_ | refine Val.t ?_ | refine Val.d ?_ | refine Mm.mk ?_ | (refine Br.mk (fun h => ?_) (fun h => ?_) <;> first | (exfalso; omega; done) | (exfalso; simp at h; done) | skip))
    repeat refine Mm.mk ?_
    refine Ob.mk (by rw [eb3]; omega) ?_
    repeat' ((conv => whnf); first | rw [e0] | refine Rng.g ?_ | refine Ob.g ?_ | refine Ob.e ?_ | refine Ob.m ?_ | refine Ob.mk (Nat.le_of_ble_eq_true rfl) ?_ | refine JoinVC.on ?_ | refine Nils.mk (fun h => ?_) ?_ | refine Val.t ?_ | refine Val.d ?_ | refine Mm.mk ?_ | (refine Br.mk (fun h => ?_) (fun h => ?_) <;> first | (exfalso; omega; done) | (exfalso; simp at h; done) | skip))
    conv => whnf
    refine CallVC.mk [5, 1, 2, 4, 6, 0, 3] _ _ _ rfl rfl rfl (s77n f l hf hg h8 sides hs d hd [] rfl 0 rfl) (fun r m' h' => ?_)
    obtain ⟨b, n, S, A, hR, rfl, rfl⟩ := h'
    conv => whnf
    cases b with
    | true =>
      have hr : packR f l sides = some (A.take n) := by
        show pkR f l sides l.length [] 0 = _
        rw [hd, ← hpk]
        exact hR.yes rfl
      repeat' ((conv => whnf); first | refine Rng.g ?_ | refine Ob.g ?_ | refine Ob.e ?_ | refine Ob.m ?_ | refine Ob.mk (Nat.le_of_ble_eq_true rfl) ?_ | refine JoinVC.on ?_ | refine Nils.mk (fun h => ?_) ?_ | refine Val.t ?_ | refine Val.d ?_ | refine Mm.mk ?_ | (refine Br.mk (fun h => ?_) (fun h => ?_) <;> first | (exfalso; omega; done) | (exfalso; simp at h; done) | skip))
      repeat refine Mm.mk ?_
      conv => whnf
      refine EndVC.mk _ rfl _ _ (.some (A.take n) hr rfl rfl) ?_
      refine ⟨[some 0], rfl, rfl, ?_, ?_⟩ <;> repeat' (first | exact trivial | exact rfl | exact Iff.rfl | apply And.intro)
      exact i64s_take _ _
    | false =>
      have hr : packR f l sides = none := by
        show pkR f l sides l.length [] 0 = _
        rw [hd, ← hpk]
        exact (hR.no rfl).1
      repeat' ((conv => whnf); first | refine Rng.g ?_ | refine Ob.g ?_ | refine Ob.e ?_ | refine Ob.m ?_ | refine Ob.mk (Nat.le_of_ble_eq_true rfl) ?_ | refine JoinVC.on ?_ | refine Nils.mk (fun h => ?_) ?_ | refine Val.t ?_ | refine Val.d ?_ | refine Mm.mk ?_ | (refine Br.mk (fun h => ?_) (fun h => ?_) <;> first | (exfalso; omega; done) | (exfalso; simp at h; done) | skip))
      repeat refine Mm.mk ?_
      conv => whnf
      refine EndVC.mk _ rfl _ _ (.none hr rfl rfl) ?_
      refine ⟨[some 0], rfl, rfl, ?_, ?_⟩ <;> repeat' (first | exact trivial | exact rfl | exact Iff.rfl | apply And.intro)
end Go.Sx

namespace Go.Sx
open Go Go.Proofs
set_option maxRecDepth 10000
set_option maxHeartbeats 4000000
/-! ### Best prices, forwards -/
def BestU (P : Int → Prop) (v : Int) : Prop := (v = -1 ∧ ∀ c, ¬ P c) ∨ (0 ≤ v ∧ P v ∧ ∀ c, P c → v ≤ c)
theorem BestU.congr {P Q : Int → Prop} {v : Int} (h : BestU P v) (e : ∀ c, P c ↔ Q c) : BestU Q v := by
  rcases h with ⟨h1, h2⟩ | ⟨h1, h2, h3⟩
  · exact .inl ⟨h1, fun c hc => h2 c ((e c).2 hc)⟩
  · exact .inr ⟨h1, (e v).1 h2, fun c hc => h3 c ((e c).2 hc)⟩
theorem BestU.add {P : Int → Prop} {v x : Int} (h : BestU P v) (hx : 0 ≤ x) {Q : Int → Prop} (hQx : Q x) (hQ : ∀ c, Q c → x ≤ c) : BestU (fun c => P c ∨ Q c) (if v < 0 ∨ x < v then x else v) := by
  rcases h with ⟨h1, h2⟩ | ⟨h1, h2, h3⟩
  · rw [if_pos (by omega)]
    exact .inr ⟨hx, .inr hQx, fun c hc => hc.elim (fun h => absurd h (h2 c)) (hQ c)⟩
  · split
    · exact .inr ⟨hx, .inr hQx, fun c hc => hc.elim (fun h => (by have := h3 c h; omega)) (hQ c)⟩
    · exact .inr ⟨h1, .inl h2, fun c hc => hc.elim (h3 c) (fun h => (by have := hQ c h; omega))⟩
/-- What the tracks before one may cost, if the last side begins before i. -/
def Cand (F : List Fmt) (l : List Sng) (i n : Nat) (c : Int) : Prop := (n = 0 ∧ c = 0) ∨ ∃ m k c', m < i ∧ Reach F l m c' ∧ faceP F l k m n ∧ c = c' + (F.getD k f0).cost
theorem cand_reach {F : List Fmt} {l : List Sng} {i n : Nat} (h : n ≤ i) (c : Int) : Cand F l i n c ↔ Reach F l n c := by
  constructor
  · rintro (⟨rfl, rfl⟩ | ⟨m, k, c', _, h2, h3, rfl⟩)
    · exact .nil
    · exact h2.step h3
  · intro hr
    cases hr with
    | nil => exact .inl ⟨rfl, rfl⟩
    | @step m _ k c' h1 h2 => exact .inr ⟨m, k, c', by have := h2.lt; omega, h1, h2, rfl⟩
/-- .. or with one of these faces from i on. -/
def CandL (F : List Fmt) (l : List Sng) (i : Nat) (L : List (Nat × Nat)) (n : Nat) (c : Int) : Prop := Cand F l i n c ∨ ∃ p, p ∈ L ∧ p.2 = n ∧ ∃ c', Reach F l i c' ∧ c = c' + (F.getD p.1 f0).cost
theorem candL_all {F : List Fmt} {l : List Sng} {i n : Nat} (c : Int) : CandL F l i (facesL F l i) n c ↔ Cand F l (i + 1) n c := by
  constructor
  · rintro ((h | ⟨m, k, c', h1, h2⟩) | ⟨p, h1, h2, c', h3, h4⟩)
    · exact .inl h
    · exact .inr ⟨m, k, c', by omega, h2⟩
    · exact .inr ⟨i, p.1, c', Nat.lt_succ_self i, h3, h2 ▸ mem_faces.1 h1, h4⟩
  · rintro (h | ⟨m, k, c', h1, h2, h3, h4⟩)
    · exact .inl (.inl h)
    · by_cases e : m = i
      · subst e
        exact .inr ⟨(k, n), mem_faces.2 h3, rfl, c', h2, h4⟩
      · exact .inl (.inr ⟨m, k, c', by omega, h2, h3, h4⟩)
theorem cand_skip {F : List Fmt} {l : List Sng} {i n : Nat} (h : ∀ c, ¬ Reach F l i c) (c : Int) : Cand F l i n c ↔ Cand F l (i + 1) n c := by
  rw [← candL_all]
  constructor
  · exact .inl
  · rintro (h1 | ⟨p, _, _, c', h3, _⟩)
    · exact h1
    · exact absurd h3 (h c')
/-- The prices, when the last side begins before i. -/
structure PrcOK (F : List Fmt) (l : List Sng) (P : Nat → Int → Prop) (p : List Int) : Prop where
  len : p.length = l.length + 1
  each : ∀ n, n ≤ l.length → BestU (P n) (p.getD n 0)
def stepP (F : List Fmt) (i : Nat) (p : List Int) (q : Nat × Nat) : List Int := if p.getD q.2 0 < 0 ∨ p.getD i 0 + (F.getD q.1 f0).cost < p.getD q.2 0 then p.set q.2 (p.getD i 0 + (F.getD q.1 f0).cost) else p
theorem stepP_ok {F : List Fmt} {l : List Sng} (hA : AlbOK F l) {i : Nat} (hi : i < l.length) {L : List (Nat × Nat)} {p : List Int} (h : PrcOK F l (CandL F l i L) p) (hL : ∀ q, q ∈ L → faceP F l q.1 i q.2) (h0 : 0 ≤ p.getD i 0) {q : Nat × Nat} (hq : faceP F l q.1 i q.2) : PrcOK F l (CandL F l i (L ++ [q])) (stepP F i p q) ∧ (stepP F i p q).getD i 0 = p.getD i 0 := by
  have hlt := hq.lt
  have hle := hq.le
  have hc := (hA.fmts q.1 hq.fmt).cost
  have hlen := h.len
  have hbi : BestU (Reach F l i) (p.getD i 0) := (h.each i (by omega)).congr fun c => by
    constructor
    · rintro (h1 | ⟨q', h1, h2, _⟩)
      · exact (cand_reach (Nat.le_refl i) c).1 h1
      · have := (hL q' h1).lt
        omega
    · exact fun h1 => .inl ((cand_reach (Nat.le_refl i) c).2 h1)
  obtain ⟨r1, r2⟩ : Reach F l i (p.getD i 0) ∧ ∀ c, Reach F l i c → p.getD i 0 ≤ c := by
    rcases hbi with ⟨h1, _⟩ | ⟨_, h1, h2⟩
    · omega
    · exact ⟨h1, h2⟩
  have key : ∀ n, n ≤ l.length → BestU (CandL F l i (L ++ [q]) n) (if n = q.2 then (if p.getD n 0 < 0 ∨ p.getD i 0 + (F.getD q.1 f0).cost < p.getD n 0 then p.getD i 0 + (F.getD q.1 f0).cost else p.getD n 0) else p.getD n 0) := fun n hn => by
    split
    · rename_i e
      subst e
      refine ((h.each q.2 hn).add (x := p.getD i 0 + (F.getD q.1 f0).cost) (Q := fun c => ∃ c', Reach F l i c' ∧ c = c' + (F.getD q.1 f0).cost) (by omega) ⟨_, r1, rfl⟩ fun c ⟨c', h1, h2⟩ => (by have := r2 c' h1; omega)).congr fun c => ?_
      constructor
      · rintro ((h1 | ⟨q', h1, h2⟩) | ⟨c', h1, h2⟩)
        · exact .inl h1
        · exact .inr ⟨q', List.mem_append_left _ h1, h2⟩
        · exact .inr ⟨q, List.mem_append_right _ List.mem_cons_self, rfl, c', h1, h2⟩
      · rintro (h1 | ⟨q', h1, h2, h3⟩)
        · exact .inl (.inl h1)
        · rcases List.mem_append.1 h1 with h4 | h4
          · exact .inl (.inr ⟨q', h4, h2, h3⟩)
          · rw [List.mem_singleton.1 h4] at h3
            exact .inr h3
    · rename_i e
      refine (h.each n hn).congr fun c => ?_
      constructor
      · rintro (h1 | ⟨q', h1, h2⟩)
        · exact .inl h1
        · exact .inr ⟨q', List.mem_append_left _ h1, h2⟩
      · rintro (h1 | ⟨q', h1, h2, h3⟩)
        · exact .inl h1
        · rcases List.mem_append.1 h1 with h4 | h4
          · exact .inr ⟨q', h4, h2, h3⟩
          · rw [List.mem_singleton.1 h4] at h2
            exact absurd h2.symm e
  have g : ∀ n, (stepP F i p q).getD n 0 = if n = q.2 then (if p.getD n 0 < 0 ∨ p.getD i 0 + (F.getD q.1 f0).cost < p.getD n 0 then p.getD i 0 + (F.getD q.1 f0).cost else p.getD n 0) else p.getD n 0 := fun n => by
    unfold stepP
    by_cases e : n = q.2
    · subst e
      rw [if_pos rfl]
      split
      · rw [gset _ _ _ _ _ (by omega), if_pos rfl]
      · rfl
    · rw [if_neg e]
      split
      · rw [gset _ _ _ _ _ (by omega), if_neg e]
      · rfl
  refine ⟨⟨?_, fun n hn => by rw [g]; exact key n hn⟩, ?_⟩
  · unfold stepP
    split
    · rw [List.length_set]; exact hlen
    · exact hlen
  · rw [g, if_neg (by omega)]
theorem reach_bd {F : List Fmt} {l : List Sng} (hA : AlbOK F l) {n : Nat} {c : Int} (h : Reach F l n c) : 0 ≤ c ∧ c ≤ 1048576 * (n : Int) := by
  induction h with
  | nil => omega
  | step h hf ih =>
    have h1 := (hA.fmts _ hf.fmt).cost
    have h2 := hf.lt
    omega
theorem candL_bd {F : List Fmt} {l : List Sng} (hA : AlbOK F l) {i n : Nat} {L : List (Nat × Nat)} (hL : ∀ q, q ∈ L → faceP F l q.1 i q.2) {c : Int} (h : CandL F l i L n c) : 0 ≤ c ∧ c ≤ 1048576 * (n : Int) := by
  rcases h with (⟨rfl, rfl⟩ | ⟨m, k, c', h1, h2, h3, rfl⟩) | ⟨q, h1, rfl, c', h2, rfl⟩
  · omega
  · exact reach_bd hA (h2.step h3)
  · exact reach_bd hA (h2.step (hL q h1))
theorem PrcOK.bd {F : List Fmt} {l : List Sng} (hA : AlbOK F l) {i : Nat} {L : List (Nat × Nat)} (hL : ∀ q, q ∈ L → faceP F l q.1 i q.2) {p : List Int} (h : PrcOK F l (CandL F l i L) p) {n : Nat} (hn : n ≤ l.length) : -1 ≤ p.getD n 0 ∧ p.getD n 0 ≤ 1048576 * (n : Int) := by
  rcases h.each n hn with ⟨h1, _⟩ | ⟨_, h1, _⟩
  · omega
  · have := candL_bd hA hL h1
    omega
theorem prc_nil {F : List Fmt} {l : List Sng} {i : Nat} {p : List Int} (h : PrcOK F l (Cand F l i) p) : PrcOK F l (CandL F l i []) p := ⟨h.len, fun n hn => (h.each n hn).congr fun c => ⟨.inl, fun h1 => h1.elim id fun ⟨q, h2, _⟩ => absurd h2 (by simp)⟩⟩
theorem prc_next {F : List Fmt} {l : List Sng} {i : Nat} {p : List Int} (h : PrcOK F l (CandL F l i (facesL F l i)) p) : PrcOK F l (Cand F l (i + 1)) p := ⟨h.len, fun n hn => (h.each n hn).congr fun c => candL_all c⟩
theorem prc_skip {F : List Fmt} {l : List Sng} {i : Nat} {p : List Int} (h : PrcOK F l (Cand F l i) p) (hi : i ≤ l.length) (h0 : p.getD i 0 < 0) : PrcOK F l (Cand F l (i + 1)) p := ⟨h.len, fun n hn => (h.each n hn).congr fun c => cand_skip (fun c hc => by
  rcases h.each i hi with ⟨_, h1⟩ | ⟨h1, _⟩
  · exact h1 c ((cand_reach (Nat.le_refl i) c).2 hc)
  · omega) c⟩
theorem prc_end {F : List Fmt} {l : List Sng} {p : List Int} (h : PrcOK F l (Cand F l l.length) p) : PrcOK F l (Reach F l) p := ⟨h.len, fun n hn => (h.each n hn).congr fun c => cand_reach hn c⟩
theorem prc_start {F : List Fmt} {l : List Sng} : PrcOK F l (Cand F l 0) ((List.replicate (l.length + 1) (-1)).set 0 0) := ⟨by simp, fun n hn => by
  rw [gset _ _ _ _ _ (by simp)]
  split
  · rename_i e
    subst e
    exact .inr ⟨Int.le_refl 0, .inl ⟨rfl, rfl⟩, fun c hc => (by
      rcases hc with ⟨_, rfl⟩ | ⟨m, k, c', h1, _⟩
      · exact Int.le_refl 0
      · omega)⟩
  · rename_i e
    have : (List.replicate (l.length + 1) (-1 : Int)).getD n 0 = -1 := by simp [List.getD_eq_getElem?_getD, show n < l.length + 1 by omega]
    rw [this]
    exact .inl ⟨rfl, fun c hc => (by
      rcases hc with ⟨h1, _⟩ | ⟨m, k, c', h1, _⟩
      · exact e h1
      · omega)⟩⟩
end Go.Sx

namespace Go.Sx
open Go Go.Proofs
set_option maxRecDepth 10000
set_option maxHeartbeats 8000000
/-! ### slices.Repeat -/
theorem shr_val {n c : Int} {m : Nat} (h : (2 : Int) ^ m = c) : n / 2 ^ m = n / c := by rw [h]
@[reducible] def U64 (n : Int) : XV := .one (.int .u64 n)
theorem mask32 {n : Int} (h : 0 ≤ n ∧ n ≤ 18446744073709551615) : bits .and .u64 n 4294967295 = n % 4294967296 := by
  obtain ⟨k, rfl⟩ := Int.eq_ofNat_of_zero_le h.1
  have := bits_and_u64_nat k 4294967295 (by omega) (by omega)
  rw [show ((4294967295 : Nat) : Int) = 4294967295 from rfl] at this
  rw [this, show (4294967295 : Nat) = 2 ^ 32 - 1 from rfl, Nat.and_two_pow_sub_one_eq_mod]
  omega
theorem s101 (n : Int) (h : 0 ≤ n ∧ n ≤ 25) : PSpec Tryd.prog 78 [U64 1, U64 n] (.tup [U64 0, U64 n]) := by
  refine spec_of pMix (O := []) Tryd.func78 (c := bodyOf Tryd.f78) rfl (by kernel_rfl) (by kernel_rfl) Tryd.ntmps78 (res := [.tmp 4, .tmp 5]) (by kernel_rfl) ?_
  repeat' (conv => whnf
           first
           | refine Rng.ok (by simp only [inR]; omega) ?_
           | refine Ob.mk (by first | omega | (simp; done) | decide | (simp; omega)) ?_
           | refine Val.mk _ (shr_val (by simp; rfl)) ?_
           | refine Val.mk _ (mask32 (by omega)) ?_)
  repeat refine Mm.mk ?_
  refine EndVC.mk _ rfl _ _ ⟨rfl, rfl⟩ ?_
  refine ⟨[], rfl, rfl, ?_, ?_⟩ <;> repeat' (first | exact trivial | exact rfl | exact Iff.rfl | apply And.intro)
  all_goals omega
theorem s81 (n : Int) (h : 0 ≤ n ∧ n ≤ 25) : PSpec Tryd.prog 68 [U64 1, U64 n] (.tup [U64 0, U64 n]) := by
  refine spec_of pMix (O := []) Tryd.func68 (c := bodyOf Tryd.f68) rfl (by kernel_rfl) (by kernel_rfl) Tryd.ntmps68 (res := [.tmp 4, .tmp 5]) (by kernel_rfl) ?_
  repeat' ((conv => whnf); first | refine Rng.g ?_ | refine Ob.g ?_ | refine Ob.e ?_ | refine Ob.m ?_ | refine Ob.mk (Nat.le_of_ble_eq_true rfl) ?_ | refine JoinVC.on ?_ | refine Nils.mk (fun h => ?_) ?_ | refine Val.t ?_ | refine Val.d ?_ | refine Mm.mk ?_ | refine CallVC.pure rfl (s101 n h) ?_ | refine CallVC0.pure rfl (s101 n h) ?_ | (refine Br.mk (fun h => ?_) (fun h => ?_) <;> first | (exfalso; omega; done) | (exfalso; simp at h; done) | skip))
  repeat refine Mm.mk ?_
  refine EndVC.mk _ rfl _ _ ⟨rfl, rfl⟩ ?_
  refine ⟨[], rfl, rfl, ?_, ?_⟩ <;> repeat' (first | exact trivial | exact rfl | exact Iff.rfl | apply And.intro)
theorem rep_copy (n k : Nat) : (i64s (List.replicate k (-1) ++ List.replicate (n - k) 0)).take k ++ (((i64s (List.replicate k (-1) ++ List.replicate (n - k) 0)).take k).take (min (n - k) k) ++ (i64s (List.replicate k (-1) ++ List.replicate (n - k) 0)).drop (k + min (n - k) k)) = i64s (List.replicate (k + min (n - k) k) (-1) ++ List.replicate (n - (k + min (n - k) k)) 0) := by
  obtain ⟨m, hm⟩ : ∃ m, min (n - k) k = m := ⟨_, rfl⟩
  have h1 : m ≤ n - k := hm ▸ Nat.min_le_left _ _
  have h2 : m ≤ k := hm ▸ Nat.min_le_right _ _
  rw [hm]
  unfold i64s
  rw [← List.map_take, ← List.map_take, ← List.map_drop, ← List.map_append, ← List.map_append]
  congr 1
  rw [List.take_left' (by simp), List.take_replicate, Nat.min_eq_left h2, List.drop_append, List.drop_replicate, List.drop_replicate, ← List.append_assoc, List.replicate_append_replicate]
  simp only [List.length_replicate]
  rw [show k - (k + m) = 0 by omega, show n - k - (k + m - k) = n - (k + m) by omega]
  rfl
@[reducible] def rowPr (p : List Int) : Blk := .row 2 false [.int .i64] (i64s p)
theorem rep_min (n : Nat) (h : 1 ≤ n) : min (List.replicate (n : Int).toNat (zeroRow [.int .i64])).length ([[Cell.int (-1)]] : Arr).length = 1 := by
  rw [List.length_replicate, Int.toNat_natCast]
  exact Nat.min_eq_right h
theorem rep_init (n : Nat) (h : 1 ≤ n) : List.take 0 (List.replicate (n : Int).toNat (zeroRow [.int .i64])) ++ (List.take (min (List.replicate (n : Int).toNat (zeroRow [.int .i64])).length ([[Cell.int (-1)]] : Arr).length) [[Cell.int (-1)]] ++ List.drop (0 + min (List.replicate (n : Int).toNat (zeroRow [.int .i64])).length ([[Cell.int (-1)]] : Arr).length) (List.replicate (n : Int).toNat (zeroRow [.int .i64]))) = i64s (List.replicate 1 (-1) ++ List.replicate (n - 1) 0) := by
  rw [rep_min n h, Int.toNat_natCast, List.drop_replicate]
  simp [i64s, zeroRow, zeroCell]
theorem eb2 : Tryd.t2.bytes = 8 := by kernel_rfl
theorem s66 (n : Nat) (h1 : 1 ≤ n ∧ n ≤ 25) : HSpec Tryd.prog 53 [.one (.lst true [.int .i64] [[.int (-1)]]), I (n : Int)] [] (fun r m' => r = .x (.one (.own 0)) ∧ m' = [some (rowPr (List.replicate n (-1)))]) := by
  have hs := s81 (n : Int) (by omega)
  have l1 : (([[Cell.int (-1)]] : Arr).length : Int) = 1 := rfl
  refine spec_of pMix (O := [(9, ([], [⟨0, [], []⟩, ⟨1, [], []⟩, ⟨2, [], []⟩, ⟨3, [], []⟩, ⟨4, [], []⟩, ⟨5, [], []⟩, ⟨6, [], []⟩, ⟨7, [0], []⟩, ⟨8, [], []⟩, ⟨9, [], []⟩]))]) Tryd.func53 (c := bodyOf Tryd.f53) rfl (by kernel_rfl) (by kernel_rfl) Tryd.ntmps53 (res := [.tmp 4]) (by kernel_rfl) ?_
  repeat' ((conv => whnf); first | rw [l1] | refine Rng.g ?_ | refine Ob.g ?_ | refine Ob.e ?_ | refine Ob.m ?_ | refine Ob.mk (Nat.le_of_ble_eq_true rfl) ?_ | refine JoinVC.on ?_ | refine Nils.mk (fun h => ?_) ?_ | refine Val.t ?_ | refine Val.d ?_ | refine Mm.mk ?_ | refine CallVC.pure rfl (hs) ?_ | refine CallVC0.pure rfl (hs) ?_ | (refine Br.mk (fun h => ?_) (fun h => ?_) <;> first | (exfalso; omega; done) | (exfalso; simp at h; done) | skip))
  repeat refine Mm.mk ?_
  refine Ob.mk (by rw [eb2]; omega) ?_
  repeat' ((conv => whnf); first | rw [l1] | refine Rng.g ?_ | refine Ob.g ?_ | refine Ob.e ?_ | refine Ob.m ?_ | refine Ob.mk (Nat.le_of_ble_eq_true rfl) ?_ | refine JoinVC.on ?_ | refine Nils.mk (fun h => ?_) ?_ | refine Val.t ?_ | refine Val.d ?_ | refine Mm.mk ?_ | refine CallVC.pure rfl (hs) ?_ | refine CallVC0.pure rfl (hs) ?_ | (refine Br.mk (fun h => ?_) (fun h => ?_) <;> first | (exfalso; omega; done) | (exfalso; simp at h; done) | skip))
  have ln : ∀ k, (i64s (List.replicate k (-1) ++ List.replicate (n - k) 0)).length = k + (n - k) := fun k => by rw [i64s_len, List.length_append, List.length_replicate, List.length_replicate]
  refine LoopVC.mk (fun m st => ∃ (k : Nat), (1 ≤ k ∧ k ≤ n) ∧ m = n - k ∧ st = ⟨0, envA 48 [(7, .x (.one (.own 0))), (8, .int .i64 (k : Int))], [some (rowPr (List.replicate k (-1) ++ List.replicate (n - k) 0))]⟩) _ _ ⟨1, by omega, rfl, rfl⟩ ?_ ?_
  · refine ⟨[some 0], rfl, rfl, ?_, ?_⟩ <;> repeat' (first | exact trivial | exact rfl | exact Iff.rfl | apply And.intro)
    · rw [rep_min n h1.1]
    · exact rep_init n h1.1
  rintro m _ ⟨k, hk, hm, rfl⟩
  have lk := ln k
  by_cases hk' : k < n
  · have lt : ((i64s (List.replicate k (-1) ++ List.replicate (n - k) 0)).take (k : Int).toNat).length = k := by rw [List.length_take, lk]; omega
    have e1 : ((i64s (List.replicate k (-1) ++ List.replicate (n - k) 0)).length : Int).toNat - (k : Int).toNat = n - k := by rw [lk]; omega
    have e2 : (k : Int).toNat = k := Int.toNat_natCast k
    have e3 := rep_copy n k
    obtain ⟨d, hd⟩ : ∃ d, min (n - k) k = d := ⟨_, rfl⟩
    have hd1 : 1 ≤ d := by rw [← hd]; exact Nat.le_min.2 ⟨by omega, hk.1⟩
    have hd2 : d ≤ n - k := by rw [← hd]; exact Nat.min_le_left _ _
    rw [hd] at e3
    obtain ⟨A, hA⟩ : ∃ A, i64s (List.replicate k (-1) ++ List.replicate (n - k) 0) = A := ⟨_, rfl⟩
    rw [hA] at lt e1 e3 lk
    have hM : min (((none : Option Int).getD (A.length : Int)).toNat - (k : Int).toNat) (List.take ((some (k : Int)).getD (A.length : Int)).toNat (List.drop 0 A)).length = d := by
      show min ((A.length : Int).toNat - (k : Int).toNat) (List.take (k : Int).toNat A).length = d
      rw [e1, lt]
      exact hd
    simp only [rowPr, hA]
    repeat' ((conv => whnf); first | rw [hM] | refine Rng.g ?_ | refine Ob.g ?_ | refine Ob.e ?_ | refine Ob.m ?_ | refine Ob.mk (Nat.le_of_ble_eq_true rfl) ?_ | refine JoinVC.on ?_ | refine Nils.mk (fun h => ?_) ?_ | refine Val.t ?_ | refine Val.d ?_ | refine Mm.mk ?_ | (refine Br.mk (fun h => ?_) (fun h => ?_) <;> first | (exfalso; omega; done) | (exfalso; simp at h; done) | skip))
    refine Back.mk (n - (k + d)) _ (by omega) ⟨k + d, by omega, rfl, rfl⟩ ?_
    refine ⟨[some 0], rfl, rfl, ?_, ?_⟩ <;> repeat' (first | exact trivial | exact rfl | exact Iff.rfl | apply And.intro)
    · show List.take (k : Int).toNat A ++ (List.take d (List.take (k : Int).toNat (List.drop 0 A)) ++ List.drop ((k : Int).toNat + d) A) = _
      rw [e2, List.drop_zero]
      exact e3
  · have ek : k = n := by omega
    subst ek
    have e0 : List.replicate k (-1 : Int) ++ List.replicate (k - k) 0 = List.replicate k (-1) := by rw [Nat.sub_self]; simp
    rw [e0] at lk
    rw [e0]
    repeat' ((conv => whnf); first | refine Rng.g ?_ | refine Ob.g ?_ | refine Ob.e ?_ | refine Ob.m ?_ | refine Ob.mk (Nat.le_of_ble_eq_true rfl) ?_ | refine JoinVC.on ?_ | refine Nils.mk (fun h => ?_) ?_ | refine Val.t ?_ | refine Val.d ?_ | refine Mm.mk ?_ | (refine Br.mk (fun h => ?_) (fun h => ?_) <;> first | (exfalso; omega; done) | (exfalso; simp at h; done) | skip))
    repeat refine Mm.mk ?_
    refine EndVC.mk _ rfl _ _ ⟨rfl, rfl⟩ ?_
    refine ⟨[some 0], rfl, rfl, ?_, ?_⟩ <;> repeat' (first | exact trivial | exact rfl | exact Iff.rfl | apply And.intro)
end Go.Sx
