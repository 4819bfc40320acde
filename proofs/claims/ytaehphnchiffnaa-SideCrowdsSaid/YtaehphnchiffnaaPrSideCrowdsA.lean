import Derived.Test.YtaehphnchiffnaaXd
import Derived.Test.YtaehphnchiffnaaProg
import Derived.Sort.AssemblyPlain
import Derived.Laws.Bits64b
namespace Go.Sx
open Go Go.Proofs
set_option maxRecDepth 10000
set_option maxHeartbeats 4000000
/-! ### Names -/
def okC (c : Int) : Prop := (97 ≤ c ∧ c ≤ 122) ∨ (48 ≤ c ∧ c ≤ 57)
def chr (s : ByteArray) (j : Nat) : Int := ((s.data.toList.getD j 0).toNat : Int)
def nameOK (s : ByteArray) : Prop := 1 ≤ s.size ∧ s.size ≤ 20 ∧ ∀ j, j < s.size → okC (chr s j)
theorem gset {α : Type} (l : List α) (i j : Nat) (a d : α) (h : i < l.length) : (l.set i a).getD j d = if j = i then a else l.getD j d := by
  simp only [List.getD_eq_getElem?_getD, List.getElem?_set]
  by_cases e : i = j
  · subst e; simp [h]
  · rw [if_neg e, if_neg (fun h => e h.symm)]
/-! ### A groove without a signal, and a groove in its band -/
/-! ### Sorting by insertion -/
def swp (O : List Int) (j : Nat) : List Int := (O.set (j + 1) (O.getD j 0)).set j (O.getD (j + 1) 0)
def ins (lt : Int → Int → Bool) (O : List Int) : Nat → List Int
  | 0 => O
  | j + 1 => if lt (O.getD (j + 1) 0) (O.getD j 0) = true then ins lt (swp O j) j else O
def isr (lt : Int → Int → Bool) (O : List Int) : Nat → List Int
  | 0 => O
  | k + 1 => ins lt (isr lt O k) (k + 1)
theorem swp_len (O : List Int) (j : Nat) : (swp O j).length = O.length := by simp [swp]
theorem ins_len (lt : Int → Int → Bool) : ∀ (j : Nat) (O : List Int), (ins lt O j).length = O.length
  | 0, O => rfl
  | j + 1, O => by
    unfold ins
    split
    · rw [ins_len lt j, swp_len]
    · rfl
theorem isr_len (lt : Int → Int → Bool) (O : List Int) : ∀ k, (isr lt O k).length = O.length
  | 0 => rfl
  | k + 1 => by
    unfold isr
    rw [ins_len, isr_len lt O k]
/-- Each number below n, once. -/
structure IdxOK (O : List Int) (n : Nat) : Prop where
  len : O.length = n
  rng : ∀ i, i < n → 0 ≤ O.getD i 0 ∧ O.getD i 0 < n
  inj : ∀ i j, i < n → j < n → O.getD i 0 = O.getD j 0 → i = j
def sgF (j i : Nat) : Nat := if i = j then j + 1 else if i = j + 1 then j else i
theorem swp_get (O : List Int) {j : Nat} (h : j + 1 < O.length) (i : Nat) : (swp O j).getD i 0 = O.getD (sgF j i) 0 := by
  unfold swp sgF
  rw [gset _ _ _ _ _ (by simp; omega), gset _ _ _ _ _ h]
  split
  · rfl
  · split <;> rfl
theorem sg_lt {n j i : Nat} (hj : j + 1 < n) (hi : i < n) : sgF j i < n := by unfold sgF; split <;> (try split) <;> omega
theorem sg_inj {j i k : Nat} (h : sgF j i = sgF j k) : i = k := by unfold sgF at h; (repeat' split at h) <;> omega
theorem IdxOK.swp {O : List Int} {n : Nat} (h : IdxOK O n) {j : Nat} (hj : j + 1 < n) : IdxOK (Go.Sx.swp O j) n := by
  have hl := h.len
  have g := swp_get O (j := j) (by omega)
  refine ⟨by rw [swp_len]; exact hl, fun i hi => ?_, fun i k hi hk => ?_⟩
  · rw [g]
    exact h.rng _ (sg_lt hj hi)
  · rw [g, g]
    exact fun e => sg_inj (h.inj _ _ (sg_lt hj hi) (sg_lt hj hk) e)
theorem IdxOK.ins {lt : Int → Int → Bool} {n : Nat} : ∀ (j : Nat) {O : List Int}, IdxOK O n → j < n → IdxOK (Go.Sx.ins lt O j) n
  | 0, O, h, _ => h
  | j + 1, O, h, hj => by
    unfold Go.Sx.ins
    split
    · exact IdxOK.ins j (h.swp hj) (by omega)
    · exact h
theorem IdxOK.isr {lt : Int → Int → Bool} {n : Nat} {O : List Int} (h : IdxOK O n) : ∀ k, k < n → IdxOK (Go.Sx.isr lt O k) n
  | 0, _ => h
  | k + 1, hk => by
    unfold Go.Sx.isr
    exact IdxOK.ins (k + 1) (h.isr k (by omega)) hk
def spanL (i n : Nat) : List Int := (List.range n).map fun k => ((i + k : Nat) : Int)
theorem spanL_len (i n : Nat) : (spanL i n).length = n := by simp [spanL]
theorem spanL_get (i n k : Nat) (h : k < n) : (spanL i n).getD k 0 = ((i + k : Nat) : Int) := by simp [spanL, List.getD_eq_getElem?_getD, List.getElem?_range h]
theorem spanL_succ (i n : Nat) : spanL i (n + 1) = spanL i n ++ [((i + n : Nat) : Int)] := by simp [spanL, List.range_succ]
theorem span_idx (n : Nat) : IdxOK (spanL 0 n) n := ⟨spanL_len 0 n, fun i hi => by rw [spanL_get _ _ _ hi]; omega, fun i j hi hj e => by rw [spanL_get _ _ _ hi, spanL_get _ _ _ hj] at e; omega⟩
/-! ### The bands of a side -/
structure Fmt where
  nm : ByteArray
  outer : Int
  inner : Int
  per : Int
  lead : Int
  gap : Int
  tail : Int
  cost : Int
structure FmtOK (f : Fmt) : Prop where
  nm : nameOK f.nm
  outer : 1 ≤ f.outer ∧ f.outer ≤ 4194304
  inner : 0 ≤ f.inner ∧ f.inner ≤ f.outer - 1
  per : 1 ≤ f.per ∧ f.per ≤ 65536
  cost : 0 ≤ f.cost ∧ f.cost ≤ 1048576
  lead : 0 ≤ f.lead ∧ f.lead ≤ 4194304
  gap : 0 ≤ f.gap ∧ f.gap ≤ 4194304
  tail : 0 ≤ f.tail ∧ f.tail ≤ 4194304
structure Sng where
  long : Int
  pitch : Int
  least : Int
abbrev g0 : Sng := ⟨0, 0, 0⟩
def Sng.ok (g : Sng) : Prop := (1 ≤ g.long ∧ g.long ≤ 16777216) ∧ (1 ≤ g.pitch ∧ g.pitch ≤ 4096) ∧ (0 ≤ g.least ∧ g.least ≤ 4194304)
structure SngsOK (l : List Sng) : Prop where
  len : l.length ≤ 24
  each : ∀ j, j < l.length → (l.getD j g0).ok
def widF (f : Fmt) (g : Sng) : Int := g.pitch * ((g.long + f.per - 1) / f.per)
theorem wid_bd {f : Fmt} {g : Sng} (hp : 1 ≤ f.per) (hg : g.ok) : (1 ≤ (g.long + f.per - 1) / f.per ∧ (g.long + f.per - 1) / f.per ≤ 16777216) ∧ 1 ≤ widF f g ∧ widF f g ≤ 68719476736 := by
  obtain ⟨⟨l1, l2⟩, ⟨p1, p2⟩, _⟩ := hg
  have h1 : 1 ≤ (g.long + f.per - 1) / f.per := by
    have := Int.add_mul_ediv_left (g.long - 1) 1 (show f.per ≠ 0 by omega)
    rw [show g.long - 1 + f.per * 1 = g.long + f.per - 1 by omega] at this
    have h2 : 0 ≤ (g.long - 1) / f.per := Int.ediv_nonneg (by omega) (by omega)
    omega
  have h2 : (g.long + f.per - 1) / f.per ≤ 16777216 := by
    have := Int.add_mul_ediv_left (g.long - 1) 1 (show f.per ≠ 0 by omega)
    rw [show g.long - 1 + f.per * 1 = g.long + f.per - 1 by omega] at this
    have h3 : (g.long - 1) / f.per ≤ g.long - 1 := Int.ediv_le_self _ (by omega)
    omega
  refine ⟨⟨h1, h2⟩, ?_, ?_⟩
  · unfold widF
    have := Int.mul_le_mul p1 h1 (by decide) (by omega)
    omega
  · unfold widF
    have := Int.mul_le_mul p2 h2 (by omega) (by decide)
    omega
/-- Where the next track begins or ends. -/
def atF (f : Fmt) (l : List Sng) (O : List Int) : Nat → Int
  | 0 => f.outer - f.lead
  | i + 1 => atF f l O i - (if 0 < i then f.gap else 0) - widF f (l.getD (O.getD i 0).toNat g0)
theorem atF_bd {f : Fmt} {l : List Sng} {O : List Int} (hf : FmtOK f) (hl : SngsOK l) (hO : ∀ i, i < O.length → 0 ≤ O.getD i 0 ∧ O.getD i 0 < l.length) : ∀ i, i ≤ O.length → atF f l O i ≤ 4194304 ∧ -4194304 - 68723671040 * (i : Int) ≤ atF f l O i
  | 0, _ => by
    have := hf.outer
    have := hf.lead
    unfold atF
    omega
  | i + 1, hi => by
    have h1 := atF_bd hf hl hO i (by omega)
    have h2 := hO i (by omega)
    have h3 := (wid_bd hf.per.1 (hl.each (O.getD i 0).toNat (by omega))).2
    have := hf.gap
    unfold atF
    split <;> omega
def bndR (f : Fmt) (l : List Sng) (O : List Int) (i : Nat) : List Cell := [.int (O.getD i 0), .int (atF f l O i - (if 0 < i then f.gap else 0)), .int (atF f l O (i + 1))]
def bndA (f : Fmt) (l : List Sng) (O : List Int) (n : Nat) : Arr := (List.range n).map (bndR f l O)
theorem bndA_len (f : Fmt) (l : List Sng) (O : List Int) (n : Nat) : (bndA f l O n).length = n := by simp [bndA]
theorem bndA_succ (f : Fmt) (l : List Sng) (O : List Int) (n : Nat) : bndA f l O (n + 1) = bndA f l O n ++ [bndR f l O n] := by simp [bndA, List.range_succ]
def okAt (f : Fmt) (l : List Sng) (O : List Int) (i : Nat) : Prop := (l.getD (O.getD i 0).toNat g0).least ≤ atF f l O (i + 1)
def LayOK (f : Fmt) (l : List Sng) (O : List Int) : Prop := (∀ i, i < O.length → okAt f l O i) ∧ f.inner ≤ atF f l O O.length - f.tail
def cmpI (x y : Int) : Int := if x < y then -1 else if y < x then 1 else 0
def usF (l : List Sng) (a b : Int) : Int := if cmpI (l.getD b.toNat g0).least (l.getD a.toNat g0).least ≠ 0 then cmpI (l.getD b.toNat g0).least (l.getD a.toNat g0).least else cmpI a b
def usB (l : List Sng) (a b : Int) : Bool := decide (usF l a b < 0)
def allO (l : List Sng) : List Int := isr (usB l) (spanL 0 l.length) (l.length - 1)
theorem allO_idx (l : List Sng) : IdxOK (allO l) l.length := by
  unfold allO
  by_cases h : l.length = 0
  · rw [h]; exact span_idx 0
  · exact (span_idx _).isr _ (by omega)
/-! ### If any order is possible, the usual one is: plain laws for the statements about sides -/
def loadL (w : Int → Int) : List Int → Int
  | [] => 0
  | x :: t => w x + loadL w t
theorem load_app (w : Int → Int) : ∀ X Y, loadL w (X ++ Y) = loadL w X + loadL w Y
  | [], Y => by simp [loadL]
  | x :: X, Y => by
    simp only [List.cons_append, loadL, load_app w X Y]
    omega
theorem load_nn (w : Int → Int) : ∀ X, (∀ x, x ∈ X → 0 ≤ w x) → 0 ≤ loadL w X
  | [], _ => Int.le_refl 0
  | x :: X, h => by
    have h1 := h x List.mem_cons_self
    have h2 := load_nn w X fun y hy => h y (List.mem_cons_of_mem _ hy)
    unfold loadL
    omega
theorem load_erase (w : Int → Int) {x : Int} : ∀ {Y : List Int}, x ∈ Y → loadL w Y = w x + loadL w (Y.erase x)
  | [], h => by simp at h
  | y :: Y, h => by
    by_cases e : y = x
    · subst e
      rw [List.erase_cons_head]
      rfl
    · have hx : x ∈ Y := by
        rcases List.mem_cons.1 h with h1 | h1
        · exact absurd h1.symm e
        · exact h1
      rw [List.erase_cons_tail (by simpa using e)]
      simp only [loadL]
      rw [load_erase w hx]
      omega
theorem load_le (w : Int → Int) : ∀ {X Y : List Int}, X.Nodup → (∀ x, x ∈ X → x ∈ Y) → (∀ y, y ∈ Y → 0 ≤ w y) → loadL w X ≤ loadL w Y
  | [], Y, _, _, hw => load_nn w Y hw
  | x :: X, Y, hn, hs, hw => by
    have hx : x ∈ Y := hs x List.mem_cons_self
    obtain ⟨h1, h2⟩ := List.nodup_cons.1 hn
    rw [load_erase w hx]
    have h3 := load_le w (X := X) (Y := Y.erase x) h2 (fun y hy => by
      have hne : y ≠ x := fun e => h1 (e ▸ hy)
      exact (List.mem_erase_of_ne hne).2 (hs y (List.mem_cons_of_mem _ hy))) (fun y hy => hw y (List.mem_of_mem_erase hy))
    show w x + loadL w X ≤ w x + loadL w (Y.erase x)
    omega
def wG (f : Fmt) (l : List Sng) (q : Int) : Int := widF f (l.getD q.toNat g0) + f.gap
theorem take_at (O : List Int) (i : Nat) (h : i < O.length) : O.take (i + 1) = O.take i ++ [O.getD i 0] := by
  rw [List.take_succ_eq_append_getElem h]
  simp [List.getD_eq_getElem?_getD, h]
theorem atF_load (f : Fmt) (l : List Sng) (O : List Int) : ∀ i, i ≤ O.length → atF f l O i = f.outer - f.lead + (if 0 < i then f.gap else 0) - loadL (wG f l) (O.take i)
  | 0, _ => by simp [atF, loadL]
  | i + 1, h => by
    have h1 := atF_load f l O i (by omega)
    rw [take_at O i h, load_app, if_pos (Nat.succ_pos i)]
    unfold atF
    rw [h1]
    simp only [loadL, wG]
    split <;> omega
/-- The usual order: nothing stands before what ends nearer to the middle .. -/
def Usu (l : List Sng) (O : List Int) : Prop := ∀ i j, i ≤ j → j < O.length → (l.getD (O.getD j 0).toNat g0).least ≤ (l.getD (O.getD i 0).toNat g0).least
theorem mem_at {O : List Int} {x : Int} (h : x ∈ O) : ∃ i, i < O.length ∧ O.getD i 0 = x := by
  obtain ⟨i, hi, e⟩ := List.mem_iff_getElem.1 h
  exact ⟨i, hi, by simp [List.getD_eq_getElem?_getD, hi, e]⟩
theorem at_mem {O : List Int} {i : Nat} (h : i < O.length) : O.getD i 0 ∈ O := by
  have : O.getD i 0 = O[i] := by simp [List.getD_eq_getElem?_getD, h]
  rw [this]
  exact List.getElem_mem h
theorem at_take {O : List Int} {i k : Nat} (h : i < k) (hk : k ≤ O.length) : O.getD i 0 ∈ O.take k := by
  have h2 : i < (O.take k).length := by rw [List.length_take]; omega
  have := at_mem h2
  have e : (O.take k).getD i 0 = O.getD i 0 := by simp [List.getD_eq_getElem?_getD, h]
  rwa [e] at this
theorem mem_take {O : List Int} {x : Int} {k : Nat} (h : x ∈ O.take k) : ∃ i, i < k ∧ i < O.length ∧ O.getD i 0 = x := by
  obtain ⟨i, hi, e⟩ := mem_at h
  rw [List.length_take] at hi
  refine ⟨i, by omega, by omega, ?_⟩
  rw [← e]
  simp [List.getD_eq_getElem?_getD, show i < k by omega]
/-- The last place of one of some things. -/
theorem last_of (P X : List Int) : ∀ n, n ≤ P.length → (∃ i, i < n ∧ P.getD i 0 ∈ X) → ∃ p, p < n ∧ P.getD p 0 ∈ X ∧ ∀ i, p < i → i < n → P.getD i 0 ∉ X
  | 0, _, ⟨i, hi, _⟩ => absurd hi (Nat.not_lt_zero i)
  | n + 1, hn, ⟨i, hi, hx⟩ => by
    by_cases h : P.getD n 0 ∈ X
    · exact ⟨n, Nat.lt_succ_self n, h, fun i h1 h2 => by omega⟩
    · have : i ≠ n := fun e => h (e ▸ hx)
      obtain ⟨p, h1, h2, h3⟩ := last_of P X n (by omega) ⟨i, by omega, hx⟩
      refine ⟨p, by omega, h2, fun j h4 h5 => ?_⟩
      by_cases e : j = n
      · rw [e]; exact h
      · exact h3 j h4 (by omega)
theorem edd {f : Fmt} {l : List Sng} {O P : List Int} (hO : O.Nodup) (hs : ∀ x, x ∈ O → x ∈ P) (hU : Usu l O) (hw : ∀ y, y ∈ P → 0 ≤ wG f l y) (hP : ∀ i, i < P.length → okAt f l P i) : ∀ i, i < O.length → okAt f l O i := fun i hi => by
  obtain ⟨X, hX⟩ : ∃ X, X = O.take (i + 1) := ⟨_, rfl⟩
  obtain ⟨p0, hp0, e0⟩ := mem_at (hs _ (at_mem hi))
  obtain ⟨p, hp, hpx, hpl⟩ := last_of P X P.length (Nat.le_refl _) ⟨p0, hp0, by rw [e0, hX]; exact at_take (Nat.lt_succ_self i) hi⟩
  have hXn : X.Nodup := by rw [hX]; exact hO.sublist (List.take_sublist _ _)
  have hXP : ∀ x, x ∈ X → x ∈ P.take (p + 1) := fun x hx => by
    obtain ⟨j, hj, e⟩ := mem_at (hs x (by rw [hX] at hx; exact List.mem_of_mem_take hx))
    have hjp : j ≤ p := Classical.byContradiction fun hc => hpl j (by omega) hj (by rw [e]; exact hx)
    rw [← e]
    exact at_take (by omega) hp
  have h1 := load_le (wG f l) hXn hXP fun y hy => hw y (List.mem_of_mem_take hy)
  have h2 := atF_load f l O (i + 1) hi
  have h3 := atF_load f l P (p + 1) hp
  rw [← hX, if_pos (Nat.succ_pos i)] at h2
  rw [if_pos (Nat.succ_pos p)] at h3
  have h4 := hP p hp
  obtain ⟨j, hj1, hj2, e⟩ := mem_take (hX ▸ hpx)
  have h5 := hU j i (by omega) hi
  rw [e] at h5
  unfold okAt at h4 ⊢
  omega
theorem end_le {f : Fmt} {l : List Sng} {O P : List Int} (hO : O.Nodup) (hs : ∀ x, x ∈ O → x ∈ P) (_ : 0 ≤ f.gap) (hw : ∀ y, y ∈ P → 0 ≤ wG f l y) (hw2 : ∀ y, y ∈ P → f.gap ≤ wG f l y) : atF f l P P.length ≤ atF f l O O.length := by
  have h1 := load_le (wG f l) hO hs hw
  have h2 := atF_load f l O O.length (Nat.le_refl _)
  have h3 := atF_load f l P P.length (Nat.le_refl _)
  rw [List.take_length] at h2 h3
  by_cases hO0 : 0 < O.length
  · have hP0 : 0 < P.length := by
      obtain ⟨j, hj, _⟩ := mem_at (hs _ (at_mem hO0))
      omega
    rw [if_pos hO0] at h2
    rw [if_pos hP0] at h3
    omega
  · rw [if_neg hO0] at h2
    have e : O = [] := List.length_eq_zero_iff.1 (by omega)
    rw [e] at h2 h1 ⊢
    by_cases hP0 : 0 < P.length
    · rw [if_pos hP0] at h3
      cases P with
      | nil => simp at hP0
      | cons x P =>
        have h6 := hw2 x List.mem_cons_self
        have h7 := load_nn (wG f l) P fun y hy => hw y (List.mem_cons_of_mem _ hy)
        simp only [loadL, List.length_nil] at h2 h3 ⊢
        omega
    · rw [if_neg hP0] at h3
      simp only [loadL, List.length_nil] at h1 h2 ⊢
      omega
/-- The usual order of some of the tracks is possible if any order of them and others is. -/
theorem usual_ok {f : Fmt} {l : List Sng} {O P : List Int} (hf : FmtOK f) (hl : SngsOK l) (hO : O.Nodup) (hs : ∀ x, x ∈ O → x ∈ P) (hr : ∀ y, y ∈ P → 0 ≤ y ∧ y < l.length) (hU : Usu l O) (hP : LayOK f l P) : LayOK f l O := by
  have hg := hf.gap.1
  have hw2 : ∀ y, y ∈ P → f.gap ≤ wG f l y := fun y hy => by
    have h1 := hr y hy
    have h2 := (wid_bd hf.per.1 (hl.each y.toNat (by omega))).2.1
    unfold wG
    omega
  have hw : ∀ y, y ∈ P → 0 ≤ wG f l y := fun y hy => by have := hw2 y hy; omega
  have h3 := end_le hO hs hg hw hw2
  have h4 := hP.2
  exact ⟨edd hO hs hU hw hP.1, by omega⟩
end Go.Sx

namespace Go.Sx
open Go Go.Proofs
set_option maxRecDepth 10000
set_option maxHeartbeats 4000000
/-! ### Error codes -/
/-- The first number that is not 0. -/
def firstE (g : Nat → Int) : Nat → Int
  | 0 => 0
  | n + 1 => if firstE g n = 0 then g n else firstE g n
theorem firstE_zero {g : Nat → Int} : ∀ {n : Nat}, (∀ j, j < n → g j = 0) → firstE g n = 0
  | 0, _ => rfl
  | n + 1, h => by
    unfold firstE
    rw [if_pos (firstE_zero fun j hj => h j (by omega))]
    exact h n (Nat.lt_succ_self n)
theorem firstE_at {g : Nat → Int} {i : Nat} : ∀ {n : Nat}, i < n → (∀ j, j < i → g j = 0) → g i ≠ 0 → firstE g n = g i
  | 0, h, _, _ => absurd h (Nat.not_lt_zero i)
  | n + 1, h, h1, h2 => by
    unfold firstE
    by_cases e : i = n
    · subst e
      rw [if_pos (firstE_zero h1)]
    · have h3 := firstE_at (n := n) (by omega) h1 h2
      rw [if_neg (by rw [h3]; exact h2), h3]
theorem firstE_none {g : Nat → Int} : ∀ {n : Nat}, firstE g n = 0 → ∀ j, j < n → g j = 0
  | 0, _, j, hj => absurd hj (Nat.not_lt_zero j)
  | n + 1, h, j, hj => by
    unfold firstE at h
    split at h
    · rename_i h1
      by_cases e : j = n
      · rw [e]; exact h
      · exact firstE_none h1 j (by omega)
    · rename_i h1
      exact absurd h h1
open Classical in
/-- The error of a format. -/
noncomputable def fmtE (f : Fmt) : Int := if FmtOK f then 0 else 2
open Classical in
/-- The error of tracks. -/
noncomputable def trkE (l : List Sng) : Int := if 24 < l.length then 6 else if SngsOK l then 0 else 2
open Classical in
noncomputable def bothE (f : Fmt) (l : List Sng) : Int := if FmtOK f then trkE l else 2
theorem fmtE_ok {f : Fmt} (h : FmtOK f) : fmtE f = 0 := if_pos h
theorem fmtE_no {f : Fmt} (h : ¬ FmtOK f) : fmtE f = 2 := if_neg h
theorem trkE_ok {l : List Sng} (h : SngsOK l) : trkE l = 0 := by
  unfold trkE
  rw [if_neg (by have := h.len; omega), if_pos h]
theorem trkE_many {l : List Sng} (h : 24 < l.length) : trkE l = 6 := if_pos h
theorem trkE_no {l : List Sng} (h1 : ¬ 24 < l.length) (h2 : ¬ SngsOK l) : trkE l = 2 := by
  unfold trkE
  rw [if_neg h1, if_neg h2]
theorem trkE_0 {l : List Sng} (h : trkE l = 0) : SngsOK l := Classical.byContradiction fun hc => by
  by_cases h1 : 24 < l.length
  · rw [trkE_many h1] at h; cases h
  · rw [trkE_no h1 hc] at h; cases h
theorem bothE_f {f : Fmt} {l : List Sng} (h : ¬ FmtOK f) : bothE f l = 2 := if_neg h
theorem bothE_t {f : Fmt} {l : List Sng} (h : FmtOK f) : bothE f l = trkE l := if_pos h
theorem bothE_ok {f : Fmt} {l : List Sng} (h : FmtOK f) (h2 : SngsOK l) : bothE f l = 0 := by rw [bothE_t h, trkE_ok h2]
/-- The error of an element of an order. -/
def ordA (n : Nat) (O : List Int) (i : Nat) : Int := if O.getD i 0 < 0 ∨ (n : Int) ≤ O.getD i 0 then 3 else if ∃ k, k < i ∧ O.getD k 0 = O.getD i 0 then 12 else 0
def ordE (n : Nat) (O : List Int) : Int := firstE (ordA n O) O.length
theorem ordA_0 {n : Nat} {O : List Int} {i : Nat} : ordA n O i = 0 ↔ (0 ≤ O.getD i 0 ∧ O.getD i 0 < n) ∧ ∀ k, k < i → O.getD k 0 ≠ O.getD i 0 := by
  unfold ordA
  split
  · rename_i h
    exact ⟨fun h1 => (by cases h1), fun h1 => (by omega)⟩
  · rename_i h
    split
    · rename_i h1
      obtain ⟨k, h1, h2⟩ := h1
      exact ⟨fun h1 => (by cases h1), fun h3 => absurd h2 (h3.2 k h1)⟩
    · rename_i h1
      exact ⟨fun _ => ⟨by omega, fun k hk e => h1 ⟨k, hk, e⟩⟩, fun _ => rfl⟩
/-- An order of different tracks. -/
structure OrdOK (n : Nat) (O : List Int) : Prop where
  rng : ∀ i, i < O.length → 0 ≤ O.getD i 0 ∧ O.getD i 0 < n
  inj : ∀ i j, i < O.length → j < O.length → O.getD i 0 = O.getD j 0 → i = j
theorem ordE_0 {n : Nat} {O : List Int} : ordE n O = 0 ↔ OrdOK n O := by
  constructor
  · intro h
    have h1 := fun j hj => ordA_0.1 (firstE_none h j hj)
    refine ⟨fun i hi => (h1 i hi).1, fun i j hi hj e => ?_⟩
    rcases Nat.lt_trichotomy i j with h2 | h2 | h2
    · exact absurd e ((h1 j hj).2 i h2)
    · exact h2
    · exact absurd e.symm ((h1 i hi).2 j h2)
  · intro h
    exact firstE_zero fun j hj => ordA_0.2 ⟨h.rng j hj, fun k hk e => by have := h.inj k j (by omega) hj e; omega⟩
theorem at_nodup {O : List Int} (h : ∀ i j, i < O.length → j < O.length → O.getD i 0 = O.getD j 0 → i = j) : O.Nodup := by
  rw [List.nodup_iff_pairwise_ne, List.pairwise_iff_getElem]
  intro i j hi hj hij e
  have := h i j hi hj (by simp [List.getD_eq_getElem?_getD, hi, hj, e])
  omega
theorem OrdOK.nodup {n : Nat} {O : List Int} (h : OrdOK n O) : O.Nodup := at_nodup h.inj
theorem OrdOK.mem {n : Nat} {O : List Int} (h : OrdOK n O) : ∀ x, x ∈ O → 0 ≤ x ∧ x < n := fun x hx => by
  obtain ⟨i, hi, e⟩ := mem_at hx
  rw [← e]
  exact h.rng i hi
theorem nodup_at {O : List Int} (h : O.Nodup) : ∀ i j, i < O.length → j < O.length → O.getD i 0 = O.getD j 0 → i = j := fun i j hi hj e => by
  simp only [List.getD_eq_getElem?_getD, List.getElem?_eq_getElem hi, List.getElem?_eq_getElem hj, Option.getD_some] at e
  exact (List.getElem_inj h).1 e
theorem OrdOK.of {n : Nat} {O : List Int} (h : O.Nodup) (h2 : ∀ x, x ∈ O → 0 ≤ x ∧ x < n) : OrdOK n O := ⟨fun _ hi => h2 _ (at_mem hi), nodup_at h⟩
/-! ### Orders by places -/
def atB (by' : List Int) (i : Nat) : Nat := if i < by'.length then (by'.getD i 0 % ((i : Int) + 1)).toNat else 0
def byO (by' : List Int) : Nat → List Int
  | 0 => []
  | i + 1 => (byO by' i).take (atB by' i) ++ (i : Int) :: (byO by' i).drop (atB by' i)
theorem byO_perm (by' : List Int) (i : Nat) : (byO by' (i + 1)).Perm ((i : Int) :: byO by' i) := by
  show ((byO by' i).take (atB by' i) ++ (i : Int) :: (byO by' i).drop (atB by' i)).Perm _
  have h := List.perm_middle (a := (i : Int)) (l₁ := (byO by' i).take (atB by' i)) (l₂ := (byO by' i).drop (atB by' i))
  rw [List.take_append_drop] at h
  exact h
theorem byO_len (by' : List Int) : ∀ n, (byO by' n).length = n
  | 0 => rfl
  | n + 1 => by rw [(byO_perm by' n).length_eq, List.length_cons, byO_len by' n]
theorem byO_mem (by' : List Int) : ∀ n x, x ∈ byO by' n ↔ 0 ≤ x ∧ x < n
  | 0, x => ⟨fun h => absurd h (by simp [byO]), fun h => (by omega)⟩
  | n + 1, x => by
    rw [(byO_perm by' n).mem_iff, List.mem_cons, byO_mem by' n x]
    omega
theorem byO_nodup (by' : List Int) : ∀ n, (byO by' n).Nodup
  | 0 => List.nodup_nil
  | n + 1 => by
    rw [(byO_perm by' n).nodup_iff, List.nodup_cons]
    exact ⟨fun h => by have := (byO_mem by' n _).1 h; omega, byO_nodup by' n⟩
theorem byO_ok (by' : List Int) (n : Nat) : OrdOK n (byO by' n) := .of (byO_nodup by' n) fun x hx => (byO_mem by' n x).1 hx
/-! ### An order from which tracks are left out -/
end Go.Sx

namespace Go.Sx
open Go Go.Proofs
set_option maxRecDepth 10000
set_option maxHeartbeats 4000000
/-! ### The usual order of some tracks -/
def lsF (l : List Sng) (x : Int) : Int := (l.getD x.toNat g0).least
theorem usB_iff {l : List Sng} {x y : Int} : usB l x y = true ↔ lsF l y < lsF l x ∨ lsF l x = lsF l y ∧ x < y := by
  unfold usB usF cmpI lsF
  rw [decide_eq_true_iff]
  split <;> split <;> (try split) <;> (try split) <;> omega
theorem usB_irr (l : List Sng) (x : Int) : ¬ usB l x x = true := fun h => by have := usB_iff.1 h; omega
theorem usB_tr {l : List Sng} {x y z : Int} (h : usB l x y = true) (h2 : usB l y z = true) : usB l x z = true := by
  rw [usB_iff] at h h2 ⊢
  omega
theorem usB_tot {l : List Sng} {x y : Int} (h : x ≠ y) : usB l x y = true ∨ usB l y x = true := by
  rw [usB_iff, usB_iff]
  omega
theorem usB_asym {l : List Sng} {x y : Int} (h : usB l x y = true) : ¬ usB l y x = true := fun h2 => usB_irr l x (usB_tr h h2)
def insU (l : List Sng) (x : Int) : List Int → List Int
  | [] => [x]
  | y :: t => if usB l x y = true then x :: y :: t else y :: insU l x t
/-- Some tracks in the usual order. -/
def usu (l : List Sng) : List Int → List Int
  | [] => []
  | x :: t => insU l x (usu l t)
/-- Sorted in the usual order. -/
def SrtU (l : List Sng) (O : List Int) : Prop := O.Pairwise fun x y => usB l x y = true
theorem insU_perm (l : List Sng) (x : Int) : ∀ O, (insU l x O).Perm (x :: O)
  | [] => List.Perm.refl _
  | y :: t => by
    unfold insU
    split
    · exact List.Perm.refl _
    · exact ((insU_perm l x t).cons y).trans (List.Perm.swap x y t)
theorem usu_perm (l : List Sng) : ∀ O, (usu l O).Perm O
  | [] => List.Perm.refl _
  | x :: t => (insU_perm l x _).trans ((usu_perm l t).cons x)
theorem insU_srt {l : List Sng} {x : Int} : ∀ {O : List Int}, SrtU l O → x ∉ O → SrtU l (insU l x O)
  | [], _, _ => by unfold insU SrtU; exact List.pairwise_singleton _ _
  | y :: t, h, hx => by
    unfold SrtU at h ⊢
    obtain ⟨h1, h2⟩ := List.pairwise_cons.1 h
    unfold insU
    split
    · rename_i h3
      refine List.pairwise_cons.2 ⟨fun z hz => ?_, h⟩
      rcases List.mem_cons.1 hz with rfl | hz
      · exact h3
      · exact usB_tr h3 (h1 z hz)
    · rename_i h3
      have hne : x ≠ y := fun e => hx (e ▸ List.mem_cons_self)
      refine List.pairwise_cons.2 ⟨fun z hz => ?_, insU_srt h2 fun h4 => hx (List.mem_cons_of_mem _ h4)⟩
      rcases List.mem_cons.1 ((insU_perm l x t).mem_iff.1 hz) with rfl | hz
      · exact (usB_tot hne).resolve_left h3
      · exact h1 z hz
theorem usu_srt {l : List Sng} : ∀ {O : List Int}, O.Nodup → SrtU l (usu l O)
  | [], _ => List.Pairwise.nil
  | x :: t, h => by
    obtain ⟨h1, h2⟩ := List.nodup_cons.1 h
    exact insU_srt (usu_srt h2) fun h3 => h1 ((usu_perm l t).mem_iff.1 h3)
/-- What is sorted and has the same tracks is the same. -/
theorem srt_uniq {l : List Sng} : ∀ {A B : List Int}, SrtU l A → SrtU l B → A.Perm B → A = B
  | [], B, _, _, h => (List.nil_perm.1 h).symm
  | x :: A, [], _, _, h => absurd (List.perm_nil.1 h) (by simp)
  | x :: A, y :: B, hA, hB, h => by
    unfold SrtU at hA hB
    obtain ⟨a1, a2⟩ := List.pairwise_cons.1 hA
    obtain ⟨b1, b2⟩ := List.pairwise_cons.1 hB
    have e : x = y := by
      refine Classical.byContradiction fun hne => ?_
      have h1 : x ∈ B := by
        rcases List.mem_cons.1 (h.mem_iff.1 List.mem_cons_self) with h1 | h1
        · exact absurd h1 hne
        · exact h1
      have h2 : y ∈ A := by
        rcases List.mem_cons.1 (h.symm.mem_iff.1 List.mem_cons_self) with h1 | h1
        · exact absurd h1.symm hne
        · exact h1
      exact usB_asym (a1 y h2) (b1 x h1)
    subst e
    rw [srt_uniq a2 b2 (List.Perm.cons_inv h)]
theorem usu_uniq {l : List Sng} {O A : List Int} (hO : O.Nodup) (h : SrtU l A) (hp : A.Perm O) : A = usu l O := srt_uniq h (usu_srt hO) (hp.trans (usu_perm l O).symm)
theorem usu_len (l : List Sng) (O : List Int) : (usu l O).length = O.length := (usu_perm l O).length_eq
theorem usu_nodup {l : List Sng} {O : List Int} (h : O.Nodup) : (usu l O).Nodup := (usu_perm l O).nodup_iff.2 h
theorem usu_mem {l : List Sng} {O : List Int} {x : Int} : x ∈ usu l O ↔ x ∈ O := (usu_perm l O).mem_iff
theorem usu_ord {l : List Sng} {n : Nat} {O : List Int} (h : OrdOK n O) : OrdOK n (usu l O) := .of (usu_nodup h.nodup) fun x hx => h.mem x (usu_mem.1 hx)
theorem srt_usu {l : List Sng} {O : List Int} (h : SrtU l O) : Usu l O := fun i j hij hj => by
  by_cases e : i = j
  · rw [e]; exact Int.le_refl _
  · have h1 := (List.pairwise_iff_getElem.1 h) i j (by omega) hj (by omega)
    have h2 := usB_iff.1 h1
    unfold lsF at h2
    simp only [List.getD_eq_getElem?_getD, List.getElem?_eq_getElem hj, List.getElem?_eq_getElem (show i < O.length by omega), Option.getD_some] at h2 ⊢
    omega
/-- If a possible order has all of these tracks, their usual one is possible. -/
theorem usu_lay {f : Fmt} {l : List Sng} {O P : List Int} (hf : FmtOK f) (hl : SngsOK l) (hO : O.Nodup) (hs : ∀ x, x ∈ O → x ∈ P) (hr : ∀ y, y ∈ P → 0 ≤ y ∧ y < l.length) (hP : LayOK f l P) : LayOK f l (usu l O) :=
  usual_ok hf hl (usu_nodup hO) (fun x hx => hs x (usu_mem.1 hx)) hr (srt_usu (usu_srt hO)) hP
/-! ### What insertion gives -/
theorem set_two (a b : Int) : ∀ (A B : List Int), ((A ++ a :: b :: B).set (A.length + 1) a).set A.length b = A ++ b :: a :: B
  | [], B => rfl
  | x :: A, B => by
    have h := set_two a b A B
    simp only [List.cons_append, List.length_cons, List.set_cons_succ]
    rw [h]
theorem swp_perm {O : List Int} {j : Nat} (h : j + 1 < O.length) : (swp O j).Perm O := by
  have h2 : O = O.take j ++ O[j] :: O[j + 1] :: O.drop (j + 2) := by
    conv => lhs; rw [← List.take_append_drop j O, List.drop_eq_getElem_cons (show j < O.length by omega), List.drop_eq_getElem_cons h]
  have hl : (O.take j).length = j := by rw [List.length_take]; omega
  have e1 : O.getD j 0 = O[j] := by simp [List.getD_eq_getElem?_getD, show j < O.length by omega]
  have e2 : O.getD (j + 1) 0 = O[j + 1] := by simp [List.getD_eq_getElem?_getD, h]
  have h3 := set_two O[j] O[j + 1] (O.take j) (O.drop (j + 2))
  rw [← h2, hl] at h3
  unfold swp
  rw [e1, e2, h3]
  conv => rhs; rw [h2]
  exact List.Perm.append_left _ (List.Perm.swap _ _ _)
theorem ins_perm (lt : Int → Int → Bool) : ∀ (j : Nat) (O : List Int), j < O.length → (ins lt O j).Perm O
  | 0, O, _ => List.Perm.refl _
  | j + 1, O, h => by
    unfold ins
    split
    · exact (ins_perm lt j _ (by rw [swp_len]; omega)).trans (swp_perm h)
    · exact List.Perm.refl _
theorem isr_perm (lt : Int → Int → Bool) (O : List Int) : ∀ k, (k < O.length ∨ k = 0) → (isr lt O k).Perm O
  | 0, _ => List.Perm.refl _
  | k + 1, h => by
    unfold isr
    exact (ins_perm lt _ _ (by rw [isr_len]; omega)).trans (isr_perm lt O k (by omega))
/-- Sorted at the first places. -/
def SrtN (l : List Sng) (O : List Int) (n : Nat) : Prop := ∀ i j, i < j → j < n → usB l (O.getD i 0) (O.getD j 0) = true
theorem ins_srt {l : List Sng} (n : Nat) : ∀ (j : Nat) (O : List Int), O.Nodup → j < n → n ≤ O.length → (∀ a b, a < b → b < n → a ≠ j → b ≠ j → usB l (O.getD a 0) (O.getD b 0) = true) → (∀ b, j < b → b < n → usB l (O.getD j 0) (O.getD b 0) = true) → SrtN l (ins (usB l) O j) n
  | 0, O, _, _, _, h1, h2 => by
    intro a b hab hb
    unfold ins
    by_cases e : a = 0
    · rw [e]; exact h2 b (by omega) hb
    · exact h1 a b hab hb e (by omega)
  | j + 1, O, hO, hj, hn, h1, h2 => by
    unfold ins
    split
    · rename_i h3
      have g := swp_get O (j := j) (by omega)
      refine ins_srt n j (swp O j) ((swp_perm (by omega)).nodup_iff.2 hO) (by omega) (by rw [swp_len]; exact hn) (fun a b hab hb ha hb' => ?_) (fun b hjb hb => ?_)
      · rw [g, g]
        unfold sgF
        rw [if_neg ha, if_neg hb']
        split
        · rename_i e
          rw [if_neg (by omega)]
          exact h1 j b (by omega) hb (by omega) (by omega)
        · split
          · exact h1 a j (by omega) (by omega) (by omega) (by omega)
          · exact h1 a b hab hb (by omega) (by omega)
      · rw [g, g]
        unfold sgF
        rw [if_pos rfl, if_neg (by omega)]
        split
        · exact h3
        · exact h2 b (by omega) hb
    · rename_i h3
      have h4 : usB l (O.getD j 0) (O.getD (j + 1) 0) = true := (usB_tot (fun e => by have := nodup_at hO (j + 1) j (by omega) (by omega) e; omega)).resolve_left h3
      intro a b hab hb
      by_cases e1 : a = j + 1
      · rw [e1]; exact h2 b (by omega) hb
      · by_cases e2 : b = j + 1
        · rw [e2]
          by_cases e3 : a = j
          · rw [e3]; exact h4
          · exact usB_tr (h1 a j (by omega) (by omega) (by omega) (by omega)) h4
        · exact h1 a b hab hb e1 e2
theorem isr_srt {l : List Sng} {O : List Int} (hO : O.Nodup) : ∀ k, k < O.length → SrtN l (isr (usB l) O k) (k + 1)
  | 0, _ => fun i j h1 h2 => by omega
  | k + 1, hk => by
    have ih := isr_srt (l := l) hO k (by omega)
    unfold isr
    refine ins_srt (k + 1 + 1) (k + 1) _ ((isr_perm _ O k (by omega)).nodup_iff.2 hO) (by omega) (by rw [isr_len]; omega) (fun a b hab hb ha hb' => ih a b hab (by omega)) (fun b h1 h2 => by omega)
theorem srtN_U {l : List Sng} {O : List Int} (h : SrtN l O O.length) : SrtU l O := by
  unfold SrtU
  rw [List.pairwise_iff_getElem]
  intro i j hi hj hij
  have := h i j hij hj
  simpa [List.getD_eq_getElem?_getD, hi, hj] using this
theorem isr_usu {l : List Sng} {O : List Int} (hO : O.Nodup) : isr (usB l) O (O.length - 1) = usu l O := by
  by_cases h0 : O.length = 0
  · rw [List.length_eq_zero_iff.1 h0]; rfl
  · have h1 := isr_srt (l := l) hO (O.length - 1) (by omega)
    have h2 := isr_len (usB l) O (O.length - 1)
    refine usu_uniq hO (srtN_U ?_) (isr_perm _ O _ (by omega))
    rw [h2, show O.length = O.length - 1 + 1 by omega]
    exact h1
end Go.Sx

namespace Go.Sx
open Go Go.Proofs
set_option maxRecDepth 10000
set_option maxHeartbeats 8000000
theorem pMix : Try.prog.follows .mixedOrders = true := by kernel_rfl
/-! ### Formats and tracks -/
@[reducible] def Fmt.x (f : Fmt) : XV := .agg [.str f.nm, .int .i64 f.outer, .int .i64 f.inner, .int .i64 f.per, .int .i64 f.lead, .int .i64 f.gap, .int .i64 f.tail, .int .i64 f.cost]
@[reducible] def Sng.x (g : Sng) : XV := .agg [.int .i64 g.long, .int .i64 g.pitch, .int .i64 g.least]
def sngA (l : List Sng) : Arr := l.map fun g => [.int g.long, .int g.pitch, .int g.least]
theorem sngA_len (l : List Sng) : (sngA l).length = l.length := by simp [sngA]
theorem sngA_0 (l : List Sng) (i : Nat) : rI (sngA l) i 0 = (l.getD i g0).long := map_rI _ g0 l i 0 rfl
theorem sngA_1 (l : List Sng) (i : Nat) : rI (sngA l) i (0 + 1) = (l.getD i g0).pitch := map_rI _ g0 l i 1 rfl
theorem sngA_2 (l : List Sng) (i : Nat) : rI (sngA l) i (0 + 1 + 1) = (l.getD i g0).least := map_rI _ g0 l i 2 rfl
@[reducible] def KSng : List CK := [.int .i64, .int .i64, .int .i64]
@[reducible] def lSng (l : List Sng) : XV := .one (.lst true KSng (sngA l))
theorem s52 (n lo hi : Int) : PSpec Try.prog 52 [I n, I lo, I hi] (xP (n < lo ∨ n > hi)) := by
  refine spec_of pMix (O := []) Try.func52 (c := bodyOf Try.f52) rfl (by kernel_rfl) (by kernel_rfl) Try.ntmps52 (res := [.tmp 6]) (by kernel_rfl) ?_
  repeat' ((conv => whnf); first | refine Rng.g ?_ | refine Ob.g ?_ | refine Ob.e ?_ | refine Ob.m ?_ | refine Ob.mk (Nat.le_of_ble_eq_true rfl) ?_ | refine JoinVC.on ?_ | refine Nils.mk (fun h => ?_) ?_ | refine Val.t ?_ | refine Val.d ?_ | refine Mm.mk ?_ | (refine Br.mk (fun h => ?_) (fun h => ?_) <;> first | (exfalso; omega; done) | (exfalso; simp at h; done) | skip))
  · repeat refine Mm.mk ?_
    refine EndVC.mk _ rfl _ _ ⟨rfl, rfl⟩ ?_
    refine ⟨[], rfl, rfl, ?_, ?_⟩ <;> repeat' (first | exact trivial | exact rfl | exact Iff.rfl | apply And.intro)
    exact .inl h
  · repeat refine Mm.mk ?_
    refine EndVC.mk _ rfl _ _ ⟨rfl, rfl⟩ ?_
    refine ⟨[], rfl, rfl, ?_, ?_⟩ <;> repeat' (first | exact trivial | exact rfl | exact Iff.rfl | apply And.intro)
    exact ⟨fun h2 => .inr h2, fun h2 => h2.elim (fun h3 => absurd h3 h) id⟩
theorem s71 (n lo hi : Int) : PSpec Try.prog 71 [I n, I lo, I hi] (xP (n ≥ lo ∧ n ≤ hi)) := by
  refine spec_of pMix (O := []) Try.func71 (c := bodyOf Try.f71) rfl (by kernel_rfl) (by kernel_rfl) Try.ntmps71 (res := [.tmp 6]) (by kernel_rfl) ?_
  repeat' ((conv => whnf); first | refine Rng.g ?_ | refine Ob.g ?_ | refine Ob.e ?_ | refine Ob.m ?_ | refine Ob.mk (Nat.le_of_ble_eq_true rfl) ?_ | refine JoinVC.on ?_ | refine Nils.mk (fun h => ?_) ?_ | refine Val.t ?_ | refine Val.d ?_ | refine Mm.mk ?_ | (refine Br.mk (fun h => ?_) (fun h => ?_) <;> first | (exfalso; omega; done) | (exfalso; simp at h; done) | skip))
  · repeat refine Mm.mk ?_
    refine EndVC.mk _ rfl _ _ ⟨rfl, rfl⟩ ?_
    refine ⟨[], rfl, rfl, ?_, ?_⟩ <;> repeat' (first | exact trivial | exact rfl | exact Iff.rfl | apply And.intro)
    exact ⟨fun h2 => ⟨h, h2⟩, fun h2 => h2.2⟩
  · repeat refine Mm.mk ?_
    refine EndVC.mk _ rfl _ _ ⟨rfl, rfl⟩ ?_
    refine ⟨[], rfl, rfl, ?_, ?_⟩ <;> repeat' (first | exact trivial | exact rfl | exact Iff.rfl | apply And.intro)
    exact fun h2 => h h2.1
theorem bytA_get (b : ByteArray) (i : Nat) : rI (bytA b) i 0 = chr b i := map_rI _ (0 : UInt8) b.data.toList i 0 rfl
theorem bytA_len (b : ByteArray) : (bytA b).length = b.size := by
  show (b.data.toList.map _).length = b.data.size
  rw [List.length_map, Array.length_toList]
open Classical in
theorem s82 (s : ByteArray) (hs : s.size ≤ 140737488355328) : PSpec Try.prog 82 [.one (.str s)] (xP (nameOK s)) := by
  have lb := bytA_len s
  refine spec_of pMix (O := []) Try.func82 (c := bodyOf Try.f82) rfl (by kernel_rfl) (by kernel_rfl) Try.ntmps82 (res := [.tmp 2]) (by kernel_rfl) ?_
  repeat' ((conv => whnf); first | refine Rng.g ?_ | refine Ob.g ?_ | refine Ob.e ?_ | refine Ob.m ?_ | refine Ob.mk (Nat.le_of_ble_eq_true rfl) ?_ | refine JoinVC.on ?_ | refine Nils.mk (fun h => ?_) ?_ | refine Val.t ?_ | refine Val.d ?_ | refine Mm.mk ?_ | (refine Br.mk (fun h => ?_) (fun h => ?_) <;> first | (exfalso; omega; done) | (exfalso; simp at h; done) | skip))
  refine LoopVC.mk (fun n st => ∃ (i : Nat), i ≤ s.size ∧ n = s.size - i ∧ (∀ j, j < i → okC (chr s j)) ∧ st = ⟨0, envA 34 [(0, .x (.one (.str s))), (6, .x (.one (.lst false [.int .u8] (bytA s)))), (7, .int .i64 (s.size : Int)), (8, .int .i64 (i : Int))], []⟩) _ _ ⟨0, Nat.zero_le _, rfl, fun j hj => absurd hj (Nat.not_lt_zero j), rfl⟩ ?_ ?_
  · refine ⟨[], rfl, rfl, ?_, ?_⟩ <;> repeat' (first | exact trivial | exact rfl | exact Iff.rfl | apply And.intro)
    exact congrArg Int.ofNat lb
  rintro n _ ⟨i, hi, hn, hj, rfl⟩
  have gc : rI (bytA s) (i : Int).toNat 0 = chr s i := by rw [Int.toNat_natCast, bytA_get]
  by_cases hi' : i < s.size
  · by_cases hc : okC (chr s i)
    · have hc' := hc
      unfold okC at hc'
      repeat' ((conv => whnf); first | rw [gc] | refine Rng.g ?_ | refine Ob.g ?_ | refine Ob.e ?_ | refine Ob.m ?_ | refine Ob.mk (Nat.le_of_ble_eq_true rfl) ?_ | refine JoinVC.on ?_ | refine Nils.mk (fun h => ?_) ?_ | refine Val.t ?_ | refine Val.d ?_ | refine Mm.mk ?_ | (refine Br.mk (fun h => ?_) (fun h => ?_) <;> first | (exfalso; omega; done) | (exfalso; simp at h; done) | skip))
      all_goals
        refine Back.mk (s.size - (i + 1)) _ (by omega) ⟨i + 1, by omega, rfl, fun j hj' => ?_, rfl⟩ ?_
        · rcases Nat.lt_succ_iff_lt_or_eq.1 hj' with h' | rfl
          · exact hj j h'
          · exact hc
        · refine ⟨[], rfl, rfl, ?_, ?_⟩ <;> repeat' (first | exact trivial | exact rfl | exact Iff.rfl | apply And.intro)
    · have hc' := hc
      unfold okC at hc'
      repeat' ((conv => whnf); first | rw [gc] | refine Rng.g ?_ | refine Ob.g ?_ | refine Ob.e ?_ | refine Ob.m ?_ | refine Ob.mk (Nat.le_of_ble_eq_true rfl) ?_ | refine JoinVC.on ?_ | refine Nils.mk (fun h => ?_) ?_ | refine Val.t ?_ | refine Val.d ?_ | refine Mm.mk ?_ | (refine Br.mk (fun h => ?_) (fun h => ?_) <;> first | (exfalso; omega; done) | (exfalso; simp at h; done) | skip))
      all_goals
        repeat refine Mm.mk ?_
        refine EndVC.mk _ rfl _ _ ⟨rfl, rfl⟩ ?_
        refine ⟨[], rfl, rfl, ?_, ?_⟩ <;> repeat' (first | exact trivial | exact rfl | exact Iff.rfl | apply And.intro)
        exact fun hn => hc (hn.2.2 i hi')
  · have h0 : s.size = 0 ↔ s = ⟨#[]⟩ := ⟨fun h => ByteArray.ext (Array.eq_empty_of_size_eq_zero h), fun h => by rw [h]; rfl⟩
    repeat' ((conv => whnf); first | refine Rng.g ?_ | refine Ob.g ?_ | refine Ob.e ?_ | refine Ob.m ?_ | refine Ob.mk (Nat.le_of_ble_eq_true rfl) ?_ | refine JoinVC.on ?_ | refine Nils.mk (fun h => ?_) ?_ | refine Val.t ?_ | refine Val.d ?_ | refine Mm.mk ?_ | (refine Br.mk (fun h => ?_) (fun h => ?_) <;> first | (exfalso; omega; done) | (exfalso; simp at h; done) | skip))
    · have h1 : ¬ s.size = 0 := fun e => h (h0.1 e)
      repeat refine Mm.mk ?_
      refine EndVC.mk _ rfl _ _ ⟨rfl, rfl⟩ ?_
      refine ⟨[], rfl, rfl, ?_, ?_⟩ <;> repeat' (first | exact trivial | exact rfl | exact Iff.rfl | apply And.intro)
      exact ⟨fun h2 => ⟨by omega, by omega, fun j hj' => hj j (by omega)⟩, fun hn => (by have := hn.2.1; omega)⟩
    · have h1 : s.size = 0 := h0.2 (Classical.not_not.1 h)
      repeat refine Mm.mk ?_
      refine EndVC.mk _ rfl _ _ ⟨rfl, rfl⟩ ?_
      refine ⟨[], rfl, rfl, ?_, ?_⟩ <;> repeat' (first | exact trivial | exact rfl | exact Iff.rfl | apply And.intro)
      exact fun hn => (by have := hn.1; omega)
/-! ### Which formats and tracks are valid -/
theorem s67 (f : Fmt) (hI : f.nm.size ≤ 140737488355328) : PSpec Try.prog 67 [f.x] (.x (I (fmtE f))) := by
  have k0 := s52 f.lead 0 4194304
  have k1 := s52 f.gap 0 4194304
  have k2 := s52 f.tail 0 4194304
  refine spec_of pMix (O := []) Try.func67 (c := bodyOf Try.f67) rfl (by kernel_rfl) (by kernel_rfl) Try.ntmps67 (res := [.tmp 2]) (by kernel_rfl) ?_
  repeat' ((conv => whnf); first | refine Rng.g ?_ | refine Ob.g ?_ | refine Ob.e ?_ | refine Ob.m ?_ | refine Ob.mk (Nat.le_of_ble_eq_true rfl) ?_ | refine JoinVC.on ?_ | refine Nils.mk (fun h => ?_) ?_ | refine Val.t ?_ | refine Val.d ?_ | refine Mm.mk ?_ | refine CallVC.pure rfl (s82 f.nm hI) ?_ | refine CallVC.pure rfl (s52 f.outer 1 4194304) ?_ | refine CallVC.pure rfl (s52 f.inner 0 (f.outer - 1)) ?_ | refine CallVC.pure rfl (s52 f.per 1 65536) ?_ | refine CallVC.pure rfl (s52 f.cost 0 1048576) ?_ | refine CallVC0.pure rfl (s82 f.nm hI) ?_ | refine CallVC0.pure rfl (s52 f.outer 1 4194304) ?_ | refine CallVC0.pure rfl (s52 f.inner 0 (f.outer - 1)) ?_ | refine CallVC0.pure rfl (s52 f.per 1 65536) ?_ | refine CallVC0.pure rfl (s52 f.cost 0 1048576) ?_ | (refine Br.mk (fun h => ?_) (fun h => ?_) <;> first | (exfalso; omega; done) | (exfalso; simp at h; done) | skip))
  all_goals
    refine LoopVC.un 4 ?_
    repeat' ((conv => whnf); first | refine Rng.g ?_ | refine Ob.g ?_ | refine Ob.e ?_ | refine Ob.m ?_ | refine Ob.mk (Nat.le_of_ble_eq_true rfl) ?_ | refine JoinVC.on ?_ | refine Nils.mk (fun h => ?_) ?_ | refine Val.t ?_ | refine Val.d ?_ | refine Mm.mk ?_ | refine CallVC.pure rfl (k0) ?_ | refine CallVC.pure rfl (k1) ?_ | refine CallVC.pure rfl (k2) ?_ | refine CallVC0.pure rfl (k0) ?_ | refine CallVC0.pure rfl (k1) ?_ | refine CallVC0.pure rfl (k2) ?_ | (refine Br.mk (fun h => ?_) (fun h => ?_) <;> first | (exfalso; omega; done) | (exfalso; simp at h; done) | skip))
  rotate_right
  · repeat refine Mm.mk ?_
    refine EndVC.mk _ rfl _ _ ⟨rfl, rfl⟩ ?_
    refine ⟨[], rfl, rfl, ?_, ?_⟩ <;> repeat' (first | exact trivial | exact rfl | exact Iff.rfl | apply And.intro)
    exact (fmtE_ok ⟨Classical.not_not.1 (by assumption), by omega, by omega, by omega, by omega, by omega, by omega, by omega⟩).symm
  all_goals
    repeat refine Mm.mk ?_
    refine EndVC.mk _ rfl _ _ ⟨rfl, rfl⟩ ?_
    refine ⟨[], rfl, rfl, ?_, ?_⟩ <;> repeat' (first | exact trivial | exact rfl | exact Iff.rfl | apply And.intro)
    exact (fmtE_no fun hC => (by obtain ⟨h0, h1, h2, h3, h4, h5, h6, h7⟩ := hC; first | contradiction | omega)).symm
theorem s68 (l : List Sng) : PSpec Try.prog 68 [lSng l] (.x (I (trkE l))) := by
  have lp := sngA_len l
  by_cases h24 : 24 < l.length
  · refine spec_of pMix (O := []) Try.func68 (c := bodyOf Try.f68) rfl (by kernel_rfl) (by kernel_rfl) Try.ntmps68 (res := [.tmp 2]) (by kernel_rfl) ?_
    repeat' ((conv => whnf); first | refine Rng.g ?_ | refine Ob.g ?_ | refine Ob.e ?_ | refine Ob.m ?_ | refine Ob.mk (Nat.le_of_ble_eq_true rfl) ?_ | refine JoinVC.on ?_ | refine Nils.mk (fun h => ?_) ?_ | refine Val.t ?_ | refine Val.d ?_ | refine Mm.mk ?_ | (refine Br.mk (fun h => ?_) (fun h => ?_) <;> first | (exfalso; omega; done) | (exfalso; simp at h; done) | skip))
    repeat refine Mm.mk ?_
    refine EndVC.mk _ rfl _ _ ⟨rfl, rfl⟩ ?_
    refine ⟨[], rfl, rfl, ?_, ?_⟩ <;> repeat' (first | exact trivial | exact rfl | exact Iff.rfl | apply And.intro)
    exact (trkE_many h24).symm
  refine spec_of pMix (O := []) Try.func68 (c := bodyOf Try.f68) rfl (by kernel_rfl) (by kernel_rfl) Try.ntmps68 (res := [.tmp 2]) (by kernel_rfl) ?_
  repeat' ((conv => whnf); first | refine Rng.g ?_ | refine Ob.g ?_ | refine Ob.e ?_ | refine Ob.m ?_ | refine Ob.mk (Nat.le_of_ble_eq_true rfl) ?_ | refine JoinVC.on ?_ | refine Nils.mk (fun h => ?_) ?_ | refine Val.t ?_ | refine Val.d ?_ | refine Mm.mk ?_ | (refine Br.mk (fun h => ?_) (fun h => ?_) <;> first | (exfalso; omega; done) | (exfalso; simp at h; done) | skip))
  refine LoopVC.mk (fun n st => ∃ (i : Nat), i ≤ l.length ∧ n = l.length - i ∧ (∀ j, j < i → (l.getD j g0).ok) ∧ st = ⟨0, envA 28 [(8, .x (lSng l)), (9, .int .i64 (l.length : Int)), (10, .int .i64 (i : Int))], []⟩) _ _ ⟨0, Nat.zero_le _, rfl, fun j hj => absurd hj (Nat.not_lt_zero j), rfl⟩ ?_ ?_
  · refine ⟨[], rfl, rfl, ?_, ?_⟩ <;> repeat' (first | exact trivial | exact rfl | exact Iff.rfl | apply And.intro)
    all_goals exact congrArg Int.ofNat lp
  rintro n _ ⟨i, hi, hn, hj, rfl⟩
  have c0 : rI (sngA l) (i : Int).toNat 0 = (l.getD i g0).long := by rw [Int.toNat_natCast, sngA_0]
  have c1 : rI (sngA l) (i : Int).toNat (0 + 1) = (l.getD i g0).pitch := by rw [Int.toNat_natCast, sngA_1]
  have c2 : rI (sngA l) (i : Int).toNat (0 + 1 + 1) = (l.getD i g0).least := by rw [Int.toNat_natCast, sngA_2]
  have k0 := s52 (l.getD i g0).long 1 16777216
  have k1 := s52 (l.getD i g0).pitch 1 4096
  have k2 := s52 (l.getD i g0).least 0 4194304
  by_cases hi' : i < l.length
  · by_cases hg : (l.getD i g0).ok
    · have hg' := hg
      unfold Sng.ok at hg'
      repeat' ((conv => whnf); first | rw [c0] | rw [c1] | rw [c2] | refine Rng.g ?_ | refine Ob.g ?_ | refine Ob.e ?_ | refine Ob.m ?_ | refine Ob.mk (Nat.le_of_ble_eq_true rfl) ?_ | refine JoinVC.on ?_ | refine Nils.mk (fun h => ?_) ?_ | refine Val.t ?_ | refine Val.d ?_ | refine Mm.mk ?_ | refine CallVC.pure rfl (k0) ?_ | refine CallVC.pure rfl (k1) ?_ | refine CallVC.pure rfl (k2) ?_ | refine CallVC0.pure rfl (k0) ?_ | refine CallVC0.pure rfl (k1) ?_ | refine CallVC0.pure rfl (k2) ?_ | (refine Br.mk (fun h => ?_) (fun h => ?_) <;> first | (exfalso; omega; done) | (exfalso; simp at h; done) | skip))
      refine Back.mk (l.length - (i + 1)) _ (by omega) ⟨i + 1, by omega, rfl, fun j hj' => ?_, rfl⟩ ?_
      · rcases Nat.lt_succ_iff_lt_or_eq.1 hj' with h' | rfl
        · exact hj j h'
        · exact hg
      · refine ⟨[], rfl, rfl, ?_, ?_⟩ <;> repeat' (first | exact trivial | exact rfl | exact Iff.rfl | apply And.intro)
    · have hg' := hg
      unfold Sng.ok at hg'
      repeat' ((conv => whnf); first | rw [c0] | rw [c1] | rw [c2] | refine Rng.g ?_ | refine Ob.g ?_ | refine Ob.e ?_ | refine Ob.m ?_ | refine Ob.mk (Nat.le_of_ble_eq_true rfl) ?_ | refine JoinVC.on ?_ | refine Nils.mk (fun h => ?_) ?_ | refine Val.t ?_ | refine Val.d ?_ | refine Mm.mk ?_ | refine CallVC.pure rfl (k0) ?_ | refine CallVC.pure rfl (k1) ?_ | refine CallVC.pure rfl (k2) ?_ | refine CallVC0.pure rfl (k0) ?_ | refine CallVC0.pure rfl (k1) ?_ | refine CallVC0.pure rfl (k2) ?_ | (refine Br.mk (fun h => ?_) (fun h => ?_) <;> first | (exfalso; omega; done) | (exfalso; simp at h; done) | skip))
      all_goals
        repeat refine Mm.mk ?_
        refine EndVC.mk _ rfl _ _ ⟨rfl, rfl⟩ ?_
        refine ⟨[], rfl, rfl, ?_, ?_⟩ <;> repeat' (first | exact trivial | exact rfl | exact Iff.rfl | apply And.intro)
        exact (trkE_no h24 fun h => absurd (h.each i hi') hg).symm
  · repeat' ((conv => whnf); first | refine Rng.g ?_ | refine Ob.g ?_ | refine Ob.e ?_ | refine Ob.m ?_ | refine Ob.mk (Nat.le_of_ble_eq_true rfl) ?_ | refine JoinVC.on ?_ | refine Nils.mk (fun h => ?_) ?_ | refine Val.t ?_ | refine Val.d ?_ | refine Mm.mk ?_ | (refine Br.mk (fun h => ?_) (fun h => ?_) <;> first | (exfalso; omega; done) | (exfalso; simp at h; done) | skip))
    repeat refine Mm.mk ?_
    refine EndVC.mk _ rfl _ _ ⟨rfl, rfl⟩ ?_
    refine ⟨[], rfl, rfl, ?_, ?_⟩ <;> repeat' (first | exact trivial | exact rfl | exact Iff.rfl | apply And.intro)
    exact (trkE_ok ⟨by omega, fun j hj' => hj j (by omega)⟩).symm
@[reducible] def bPl (f : Fmt) (l : List Sng) : Blk := .box 95 [.str f.nm, .int .i64 f.outer, .int .i64 f.inner, .int .i64 f.per, .int .i64 f.lead, .int .i64 f.gap, .int .i64 f.tail, .int .i64 f.cost, .lst true KSng (sngA l)]
theorem s35 (f : Fmt) (l : List Sng) (hI : f.nm.size ≤ 140737488355328) : HSpec Try.prog 35 [f.x, lSng l] [] (fun r m' => (bothE f l ≠ 0 ∧ r = .tup [.one .nilp, I (bothE f l)] ∧ m' = []) ∨ (FmtOK f ∧ SngsOK l ∧ r = .tup [.one (.ptr 0 0), I 0] ∧ m' = [some (bPl f l)])) := by
  have v1 := s67 f hI
  have v2 := s68 l
  by_cases hC : FmtOK f
  rotate_left
  · rw [fmtE_no hC] at v1
    refine spec_of pMix (O := []) Try.func35 (c := bodyOf Try.f35) rfl (by kernel_rfl) (by kernel_rfl) Try.ntmps35 (res := [.tmp 4, .tmp 5]) (by kernel_rfl) ?_
    repeat' ((conv => whnf); first | refine Rng.g ?_ | refine Ob.g ?_ | refine Ob.e ?_ | refine Ob.m ?_ | refine Ob.mk (Nat.le_of_ble_eq_true rfl) ?_ | refine JoinVC.on ?_ | refine Nils.mk (fun h => ?_) ?_ | refine Val.t ?_ | refine Val.d ?_ | refine Mm.mk ?_ | refine CallVC.pure rfl (v1) ?_ | refine CallVC0.pure rfl (v1) ?_ | (refine Br.mk (fun h => ?_) (fun h => ?_) <;> first | (exfalso; omega; done) | (exfalso; simp at h; done) | skip))
    repeat refine Mm.mk ?_
    conv => whnf
    refine EndVC.mk _ rfl _ _ (.inl ⟨by rw [bothE_f hC]; decide, rfl, rfl⟩) ?_
    refine ⟨[], rfl, rfl, ?_, ?_⟩ <;> repeat' (first | exact trivial | exact rfl | exact Iff.rfl | apply And.intro)
    exact (bothE_f hC).symm
  rw [fmtE_ok hC] at v1
  have hb := bothE_t (l := l) hC
  by_cases hP : SngsOK l
  · rw [trkE_ok hP] at v2
    refine spec_of pMix (O := []) Try.func35 (c := bodyOf Try.f35) rfl (by kernel_rfl) (by kernel_rfl) Try.ntmps35 (res := [.tmp 4, .tmp 5]) (by kernel_rfl) ?_
    repeat' ((conv => whnf); first | refine Rng.g ?_ | refine Ob.g ?_ | refine Ob.e ?_ | refine Ob.m ?_ | refine Ob.mk (Nat.le_of_ble_eq_true rfl) ?_ | refine JoinVC.on ?_ | refine Nils.mk (fun h => ?_) ?_ | refine Val.t ?_ | refine Val.d ?_ | refine Mm.mk ?_ | refine CallVC.pure rfl (v1) ?_ | refine CallVC.pure rfl (v2) ?_ | refine CallVC0.pure rfl (v1) ?_ | refine CallVC0.pure rfl (v2) ?_ | (refine Br.mk (fun h => ?_) (fun h => ?_) <;> first | (exfalso; omega; done) | (exfalso; simp at h; done) | skip))
    repeat refine Mm.mk ?_
    conv => whnf
    refine EndVC.mk _ rfl _ _ (.inr ⟨hC, hP, rfl, rfl⟩) ?_
    refine ⟨[some 1], rfl, rfl, ?_, ?_⟩ <;> repeat' (first | exact trivial | exact rfl | exact Iff.rfl | apply And.intro)
  · obtain ⟨e, he⟩ : ∃ e, trkE l = e := ⟨_, rfl⟩
    have h0 : e ≠ 0 := fun h0 => hP (trkE_0 (he.trans h0))
    rw [he] at v2 hb
    refine spec_of pMix (O := []) Try.func35 (c := bodyOf Try.f35) rfl (by kernel_rfl) (by kernel_rfl) Try.ntmps35 (res := [.tmp 4, .tmp 5]) (by kernel_rfl) ?_
    repeat' ((conv => whnf); first | refine Rng.g ?_ | refine Ob.g ?_ | refine Ob.e ?_ | refine Ob.m ?_ | refine Ob.mk (Nat.le_of_ble_eq_true rfl) ?_ | refine JoinVC.on ?_ | refine Nils.mk (fun h => ?_) ?_ | refine Val.t ?_ | refine Val.d ?_ | refine Mm.mk ?_ | refine CallVC.pure rfl (v1) ?_ | refine CallVC.pure rfl (v2) ?_ | refine CallVC0.pure rfl (v1) ?_ | refine CallVC0.pure rfl (v2) ?_ | (refine Br.mk (fun h => ?_) (fun h => ?_) <;> first | (exfalso; omega; done) | (exfalso; simp at h; done) | skip))
    repeat refine Mm.mk ?_
    conv => whnf
    refine EndVC.mk _ rfl _ _ (.inl ⟨by rw [hb]; exact h0, rfl, rfl⟩) ?_
    refine ⟨[], rfl, rfl, ?_, ?_⟩ <;> repeat' (first | exact trivial | exact rfl | exact Iff.rfl | apply And.intro)
    exact hb.symm
@[reducible] def pvT : Option (List Sng) → SV
  | some l => .lst true KSng (sngA l)
  | none => .any
@[reducible] def bPv (f : Fmt) (v : Option (List Sng)) : Blk := .box 95 [.str f.nm, .int .i64 f.outer, .int .i64 f.inner, .int .i64 f.per, .int .i64 f.lead, .int .i64 f.gap, .int .i64 f.tail, .int .i64 f.cost, pvT v]
theorem s43 (f : Fmt) (v : Option (List Sng)) (g : Sng) (hf : FmtOK f) (hg : g.ok) : HSpec Try.prog 43 [.one (.ptr 0 0), g.x] [bPv f v] (fun r m' => r = .x (I (widF f g)) ∧ m' = [some (bPv f v)]) := by
  obtain ⟨w1, w2⟩ := wid_bd hf.per.1 hg
  have hp := hf.per
  have hg1 := hg.1
  have hg2 := hg.2.1
  unfold widF at w2
  cases v
  all_goals
    refine spec_of pMix (O := []) Try.func43 (c := bodyOf Try.f43) rfl (by kernel_rfl) (by kernel_rfl) Try.ntmps43 (res := [.tmp 4]) (by kernel_rfl) ?_
    repeat' ((conv => whnf); first | refine Rng.g ?_ | refine Ob.g ?_ | refine Ob.e ?_ | refine Ob.m ?_ | refine Ob.mk (Nat.le_of_ble_eq_true rfl) ?_ | refine JoinVC.on ?_ | refine Nils.mk (fun h => ?_) ?_ | refine Val.t ?_ | refine Val.d ?_ | refine Mm.mk ?_ | (refine Br.mk (fun h => ?_) (fun h => ?_) <;> first | (exfalso; omega; done) | (exfalso; simp at h; done) | skip))
    repeat refine Mm.mk ?_
    refine EndVC.mk _ rfl _ _ ⟨rfl, rfl⟩ ?_
    refine ⟨[some 0], rfl, rfl, ?_, ?_⟩ <;> repeat' (first | exact trivial | exact rfl | exact Iff.rfl | apply And.intro)
open Classical in
theorem s70 (s : ByteArray) : PSpec Try.prog 70 [.one (.str s)] (xP (nameOK s)) := by
  by_cases hs : s.size < 1 ∨ 20 < s.size
  · refine spec_of pMix (O := []) Try.func70 (c := bodyOf Try.f70) rfl (by kernel_rfl) (by kernel_rfl) Try.ntmps70 (res := [.tmp 2]) (by kernel_rfl) ?_
    repeat' ((conv => whnf); first | refine Rng.g ?_ | refine Ob.g ?_ | refine Ob.e ?_ | refine Ob.m ?_ | refine Ob.mk (Nat.le_of_ble_eq_true rfl) ?_ | refine JoinVC.on ?_ | refine Nils.mk (fun h => ?_) ?_ | refine Val.t ?_ | refine Val.d ?_ | refine Mm.mk ?_ | (refine Br.mk (fun h => ?_) (fun h => ?_) <;> first | (exfalso; omega; done) | (exfalso; simp at h; done) | skip))
    all_goals
      repeat refine Mm.mk ?_
      refine EndVC.mk _ rfl _ _ ⟨rfl, rfl⟩ ?_
      refine ⟨[], rfl, rfl, ?_, ?_⟩ <;> repeat' (first | exact trivial | exact rfl | exact Iff.rfl | apply And.intro)
      show ¬ _
      intro hn
      have := hn.1
      have := hn.2.1
      omega
  refine spec_of pMix (O := []) Try.func70 (c := bodyOf Try.f70) rfl (by kernel_rfl) (by kernel_rfl) Try.ntmps70 (res := [.tmp 2]) (by kernel_rfl) ?_
  repeat' ((conv => whnf); first | refine Rng.g ?_ | refine Ob.g ?_ | refine Ob.e ?_ | refine Ob.m ?_ | refine Ob.mk (Nat.le_of_ble_eq_true rfl) ?_ | refine JoinVC.on ?_ | refine Nils.mk (fun h => ?_) ?_ | refine Val.t ?_ | refine Val.d ?_ | refine Mm.mk ?_ | (refine Br.mk (fun h => ?_) (fun h => ?_) <;> first | (exfalso; omega; done) | (exfalso; simp at h; done) | skip))
  refine LoopVC.mk (fun n st => ∃ (i : Nat), i ≤ s.size ∧ n = s.size - i ∧ (∀ j, j < i → okC (chr s j)) ∧ st = ⟨0, envA 42 [(0, .x (.one (.str s))), (3, .int .i64 (i : Int))], []⟩) _ _ ⟨0, Nat.zero_le _, rfl, fun j hj => absurd hj (Nat.not_lt_zero j), rfl⟩ ?_ ?_
  · refine ⟨[], rfl, rfl, ?_, ?_⟩ <;> repeat' (first | exact trivial | exact rfl | exact Iff.rfl | apply And.intro)
  rintro n _ ⟨i, hi, hn, hj, rfl⟩
  have gc : chr s i = ((s.data.toList.getD (i : Int).toNat 0).toNat : Int) := rfl
  by_cases hi' : i < s.size
  · by_cases hc : okC (chr s i)
    · have hc' := hc
      unfold okC at hc'
      rw [gc] at hc'
      repeat' ((conv => whnf); first | refine Rng.g ?_ | refine Ob.g ?_ | refine Ob.e ?_ | refine Ob.m ?_ | refine Ob.mk (Nat.le_of_ble_eq_true rfl) ?_ | refine JoinVC.on ?_ | refine Nils.mk (fun h => ?_) ?_ | refine Val.t ?_ | refine Val.d ?_ | refine Mm.mk ?_ | (refine Br.mk (fun h => ?_) (fun h => ?_) <;> first | (exfalso; omega; done) | (exfalso; simp at h; done) | skip))
      all_goals
        refine Back.mk (s.size - (i + 1)) _ (by omega) ⟨i + 1, by omega, rfl, fun j hj' => ?_, rfl⟩ ?_
        · rcases Nat.lt_succ_iff_lt_or_eq.1 hj' with h' | rfl
          · exact hj j h'
          · exact hc
        · refine ⟨[], rfl, rfl, ?_, ?_⟩ <;> repeat' (first | exact trivial | exact rfl | exact Iff.rfl | apply And.intro)
    · have hc' := hc
      unfold okC at hc'
      rw [gc] at hc'
      repeat' ((conv => whnf); first | refine Rng.g ?_ | refine Ob.g ?_ | refine Ob.e ?_ | refine Ob.m ?_ | refine Ob.mk (Nat.le_of_ble_eq_true rfl) ?_ | refine JoinVC.on ?_ | refine Nils.mk (fun h => ?_) ?_ | refine Val.t ?_ | refine Val.d ?_ | refine Mm.mk ?_ | (refine Br.mk (fun h => ?_) (fun h => ?_) <;> first | (exfalso; omega; done) | (exfalso; simp at h; done) | skip))
      all_goals
        repeat refine Mm.mk ?_
        refine EndVC.mk _ rfl _ _ ⟨rfl, rfl⟩ ?_
        refine ⟨[], rfl, rfl, ?_, ?_⟩ <;> repeat' (first | exact trivial | exact rfl | exact Iff.rfl | apply And.intro)
        exact fun hn => hc (hn.2.2 i hi')
  · repeat' ((conv => whnf); first | refine Rng.g ?_ | refine Ob.g ?_ | refine Ob.e ?_ | refine Ob.m ?_ | refine Ob.mk (Nat.le_of_ble_eq_true rfl) ?_ | refine JoinVC.on ?_ | refine Nils.mk (fun h => ?_) ?_ | refine Val.t ?_ | refine Val.d ?_ | refine Mm.mk ?_ | (refine Br.mk (fun h => ?_) (fun h => ?_) <;> first | (exfalso; omega; done) | (exfalso; simp at h; done) | skip))
    repeat refine Mm.mk ?_
    refine EndVC.mk _ rfl _ _ ⟨rfl, rfl⟩ ?_
    refine ⟨[], rfl, rfl, ?_, ?_⟩ <;> repeat' (first | exact trivial | exact rfl | exact Iff.rfl | apply And.intro)
    · omega
    · omega
    · exact fun j hj' => hj j (by omega)
/-! ### Takes -/

theorem s41 (f : Fmt) : PSpec Try.prog 41 [f.x] (.x (I (fmtE f))) := by
  have k0 := s71 f.lead 0 4194304
  have k1 := s71 f.gap 0 4194304
  have k2 := s71 f.tail 0 4194304
  refine spec_of pMix (O := []) Try.func41 (c := bodyOf Try.f41) rfl (by kernel_rfl) (by kernel_rfl) Try.ntmps41 (res := [.tmp 2]) (by kernel_rfl) ?_
  repeat' ((conv => whnf); first | refine Rng.g ?_ | refine Ob.g ?_ | refine Ob.e ?_ | refine Ob.m ?_ | refine Ob.mk (Nat.le_of_ble_eq_true rfl) ?_ | refine JoinVC.on ?_ | refine Nils.mk (fun h => ?_) ?_ | refine Val.t ?_ | refine Val.d ?_ | refine Mm.mk ?_ | refine CallVC.pure rfl (s70 f.nm) ?_ | refine CallVC.pure rfl (s71 f.outer 0 4194304) ?_ | refine CallVC.pure rfl (s71 f.inner 0 (f.outer - 1)) ?_ | refine CallVC.pure rfl (s71 f.per 1 65536) ?_ | refine CallVC.pure rfl (s71 f.cost 0 1048576) ?_ | refine CallVC.pure rfl (k0) ?_ | refine CallVC.pure rfl (k1) ?_ | refine CallVC.pure rfl (k2) ?_ | refine CallVC0.pure rfl (s70 f.nm) ?_ | refine CallVC0.pure rfl (s71 f.outer 0 4194304) ?_ | refine CallVC0.pure rfl (s71 f.inner 0 (f.outer - 1)) ?_ | refine CallVC0.pure rfl (s71 f.per 1 65536) ?_ | refine CallVC0.pure rfl (s71 f.cost 0 1048576) ?_ | refine CallVC0.pure rfl (k0) ?_ | refine CallVC0.pure rfl (k1) ?_ | refine CallVC0.pure rfl (k2) ?_ | (refine Br.mk (fun h => ?_) (fun h => ?_) <;> first | (exfalso; omega; done) | (exfalso; simp at h; done) | skip))
  rotate_right
  · repeat refine Mm.mk ?_
    refine EndVC.mk _ rfl _ _ ⟨rfl, rfl⟩ ?_
    refine ⟨[], rfl, rfl, ?_, ?_⟩ <;> repeat' (first | exact trivial | exact rfl | exact Iff.rfl | apply And.intro)
    exact (fmtE_ok ⟨Classical.not_not.1 (by assumption), by omega, by omega, by omega, by omega, by omega, by omega, by omega⟩).symm
  all_goals
    repeat refine Mm.mk ?_
    refine EndVC.mk _ rfl _ _ ⟨rfl, rfl⟩ ?_
    refine ⟨[], rfl, rfl, ?_, ?_⟩ <;> repeat' (first | exact trivial | exact rfl | exact Iff.rfl | apply And.intro)
    exact (fmtE_no fun hC => (by obtain ⟨h0, h1, h2, h3, h4, h5, h6, h7⟩ := hC; first | contradiction | omega)).symm
theorem s42 (l : List Sng) : PSpec Try.prog 42 [lSng l] (.x (I (trkE l))) := by
  have lp := sngA_len l
  by_cases h24 : 24 < l.length
  · refine spec_of pMix (O := []) Try.func42 (c := bodyOf Try.f42) rfl (by kernel_rfl) (by kernel_rfl) Try.ntmps42 (res := [.tmp 2]) (by kernel_rfl) ?_
    repeat' ((conv => whnf); first | refine Rng.g ?_ | refine Ob.g ?_ | refine Ob.e ?_ | refine Ob.m ?_ | refine Ob.mk (Nat.le_of_ble_eq_true rfl) ?_ | refine JoinVC.on ?_ | refine Nils.mk (fun h => ?_) ?_ | refine Val.t ?_ | refine Val.d ?_ | refine Mm.mk ?_ | (refine Br.mk (fun h => ?_) (fun h => ?_) <;> first | (exfalso; omega; done) | (exfalso; simp at h; done) | skip))
    repeat refine Mm.mk ?_
    refine EndVC.mk _ rfl _ _ ⟨rfl, rfl⟩ ?_
    refine ⟨[], rfl, rfl, ?_, ?_⟩ <;> repeat' (first | exact trivial | exact rfl | exact Iff.rfl | apply And.intro)
    exact (trkE_many h24).symm
  refine spec_of pMix (O := []) Try.func42 (c := bodyOf Try.f42) rfl (by kernel_rfl) (by kernel_rfl) Try.ntmps42 (res := [.tmp 2]) (by kernel_rfl) ?_
  repeat' ((conv => whnf); first | refine Rng.g ?_ | refine Ob.g ?_ | refine Ob.e ?_ | refine Ob.m ?_ | refine Ob.mk (Nat.le_of_ble_eq_true rfl) ?_ | refine JoinVC.on ?_ | refine Nils.mk (fun h => ?_) ?_ | refine Val.t ?_ | refine Val.d ?_ | refine Mm.mk ?_ | (refine Br.mk (fun h => ?_) (fun h => ?_) <;> first | (exfalso; omega; done) | (exfalso; simp at h; done) | skip))
  refine LoopVC.mk (fun n st => ∃ (i : Nat), i ≤ l.length ∧ n = l.length - i ∧ (∀ j, j < i → (l.getD j g0).ok) ∧ st = ⟨0, envA 38 [(0, .x (lSng l)), (3, .int .i64 (i : Int))], []⟩) _ _ ⟨0, Nat.zero_le _, rfl, fun j hj => absurd hj (Nat.not_lt_zero j), rfl⟩ ?_ ?_
  · refine ⟨[], rfl, rfl, ?_, ?_⟩ <;> repeat' (first | exact trivial | exact rfl | exact Iff.rfl | apply And.intro)
  rintro n _ ⟨i, hi, hn, hj, rfl⟩
  have c0 : rI (sngA l) (i : Int).toNat 0 = (l.getD i g0).long := by rw [Int.toNat_natCast, sngA_0]
  have c1 : rI (sngA l) (i : Int).toNat (0 + (0 + 1)) = (l.getD i g0).pitch := by rw [Int.toNat_natCast]; exact sngA_1 l i
  have c2 : rI (sngA l) (i : Int).toNat (0 + (0 + 1 + 1)) = (l.getD i g0).least := by rw [Int.toNat_natCast]; exact sngA_2 l i
  have k0 := s71 (l.getD i g0).long 1 16777216
  have k1 := s71 (l.getD i g0).pitch 1 4096
  have k2 := s71 (l.getD i g0).least 0 4194304
  by_cases hi' : i < l.length
  · by_cases hg : (l.getD i g0).ok
    · have hg' := hg
      unfold Sng.ok at hg'
      repeat' ((conv => whnf); first | rw [c0] | rw [c1] | rw [c2] | refine Rng.g ?_ | refine Ob.g ?_ | refine Ob.e ?_ | refine Ob.m ?_ | refine Ob.mk (Nat.le_of_ble_eq_true rfl) ?_ | refine JoinVC.on ?_ | refine Nils.mk (fun h => ?_) ?_ | refine Val.t ?_ | refine Val.d ?_ | refine Mm.mk ?_ | refine CallVC.pure rfl (k0) ?_ | refine CallVC.pure rfl (k1) ?_ | refine CallVC.pure rfl (k2) ?_ | refine CallVC0.pure rfl (k0) ?_ | refine CallVC0.pure rfl (k1) ?_ | refine CallVC0.pure rfl (k2) ?_ | (refine Br.mk (fun h => ?_) (fun h => ?_) <;> first | (exfalso; omega; done) | (exfalso; simp at h; done) | skip))
      refine Back.mk (l.length - (i + 1)) _ (by omega) ⟨i + 1, by omega, rfl, fun j hj' => ?_, rfl⟩ ?_
      · rcases Nat.lt_succ_iff_lt_or_eq.1 hj' with h' | rfl
        · exact hj j h'
        · exact hg
      · refine ⟨[], rfl, rfl, ?_, ?_⟩ <;> repeat' (first | exact trivial | exact rfl | exact Iff.rfl | apply And.intro)
    · have hg' := hg
      unfold Sng.ok at hg'
      repeat' ((conv => whnf); first | rw [c0] | rw [c1] | rw [c2] | refine Rng.g ?_ | refine Ob.g ?_ | refine Ob.e ?_ | refine Ob.m ?_ | refine Ob.mk (Nat.le_of_ble_eq_true rfl) ?_ | refine JoinVC.on ?_ | refine Nils.mk (fun h => ?_) ?_ | refine Val.t ?_ | refine Val.d ?_ | refine Mm.mk ?_ | refine CallVC.pure rfl (k0) ?_ | refine CallVC.pure rfl (k1) ?_ | refine CallVC.pure rfl (k2) ?_ | refine CallVC0.pure rfl (k0) ?_ | refine CallVC0.pure rfl (k1) ?_ | refine CallVC0.pure rfl (k2) ?_ | (refine Br.mk (fun h => ?_) (fun h => ?_) <;> first | (exfalso; omega; done) | (exfalso; simp at h; done) | skip))
      all_goals
        repeat refine Mm.mk ?_
        refine EndVC.mk _ rfl _ _ ⟨rfl, rfl⟩ ?_
        refine ⟨[], rfl, rfl, ?_, ?_⟩ <;> repeat' (first | exact trivial | exact rfl | exact Iff.rfl | apply And.intro)
        exact (trkE_no h24 fun h => absurd (h.each i hi') hg).symm
  · repeat' ((conv => whnf); first | refine Rng.g ?_ | refine Ob.g ?_ | refine Ob.e ?_ | refine Ob.m ?_ | refine Ob.mk (Nat.le_of_ble_eq_true rfl) ?_ | refine JoinVC.on ?_ | refine Nils.mk (fun h => ?_) ?_ | refine Val.t ?_ | refine Val.d ?_ | refine Mm.mk ?_ | (refine Br.mk (fun h => ?_) (fun h => ?_) <;> first | (exfalso; omega; done) | (exfalso; simp at h; done) | skip))
    repeat refine Mm.mk ?_
    refine EndVC.mk _ rfl _ _ ⟨rfl, rfl⟩ ?_
    refine ⟨[], rfl, rfl, ?_, ?_⟩ <;> repeat' (first | exact trivial | exact rfl | exact Iff.rfl | apply And.intro)
    exact (trkE_ok ⟨by omega, fun j hj' => hj j (by omega)⟩).symm
end Go.Sx

namespace Go.Sx
open Go Go.Proofs
set_option maxRecDepth 10000
set_option maxHeartbeats 8000000
theorem eb3 : Try.t3.bytes = 8 := by kernel_rfl
/-! ### The usual order -/
theorem s110 (x : Int) : PSpec Try.prog 110 [I x] (xP (x ≠ x)) := by
  refine spec_of pMix (O := []) Try.func110 (c := bodyOf Try.f110) rfl (by kernel_rfl) (by kernel_rfl) Try.ntmps110 (res := [.tmp 2]) (by kernel_rfl) ?_
  repeat' ((conv => whnf); first | refine Rng.g ?_ | refine Ob.g ?_ | refine Ob.e ?_ | refine Ob.m ?_ | refine Ob.mk (Nat.le_of_ble_eq_true rfl) ?_ | refine JoinVC.on ?_ | refine Nils.mk (fun h => ?_) ?_ | refine Val.t ?_ | refine Val.d ?_ | refine Mm.mk ?_ | (refine Br.mk (fun h => ?_) (fun h => ?_) <;> first | (exfalso; omega; done) | (exfalso; simp at h; done) | skip))
  repeat refine Mm.mk ?_
  refine EndVC.mk _ rfl _ _ ⟨rfl, rfl⟩ ?_
  refine ⟨[], rfl, rfl, ?_, ?_⟩ <;> repeat' (first | exact trivial | exact rfl | exact Iff.rfl | apply And.intro)
theorem s111 (x : Int) : PSpec Try.prog 111 [I x] (xP (x ≠ x)) := by
  refine spec_of pMix (O := []) Try.func111 (c := bodyOf Try.f111) rfl (by kernel_rfl) (by kernel_rfl) Try.ntmps111 (res := [.tmp 2]) (by kernel_rfl) ?_
  repeat' ((conv => whnf); first | refine Rng.g ?_ | refine Ob.g ?_ | refine Ob.e ?_ | refine Ob.m ?_ | refine Ob.mk (Nat.le_of_ble_eq_true rfl) ?_ | refine JoinVC.on ?_ | refine Nils.mk (fun h => ?_) ?_ | refine Val.t ?_ | refine Val.d ?_ | refine Mm.mk ?_ | (refine Br.mk (fun h => ?_) (fun h => ?_) <;> first | (exfalso; omega; done) | (exfalso; simp at h; done) | skip))
  repeat refine Mm.mk ?_
  refine EndVC.mk _ rfl _ _ ⟨rfl, rfl⟩ ?_
  refine ⟨[], rfl, rfl, ?_, ?_⟩ <;> repeat' (first | exact trivial | exact rfl | exact Iff.rfl | apply And.intro)
theorem s85 (x y : Int) : PSpec Try.prog 85 [I x, I y] (.x (I (cmpI x y))) := by
  by_cases h1 : x < y
  · have e : cmpI x y = -1 := if_pos h1
    rw [e]
    refine spec_of pMix (O := []) Try.func85 (c := bodyOf Try.f85) rfl (by kernel_rfl) (by kernel_rfl) Try.ntmps85 (res := [.tmp 4]) (by kernel_rfl) ?_
    repeat' ((conv => whnf); first | refine Rng.g ?_ | refine Ob.g ?_ | refine Ob.e ?_ | refine Ob.m ?_ | refine Ob.mk (Nat.le_of_ble_eq_true rfl) ?_ | refine JoinVC.on ?_ | refine Nils.mk (fun h => ?_) ?_ | refine Val.t ?_ | refine Val.d ?_ | refine Mm.mk ?_ | refine CallVC.pure rfl (s110 x) ?_ | refine CallVC.pure rfl (s110 y) ?_ | refine CallVC0.pure rfl (s110 x) ?_ | refine CallVC0.pure rfl (s110 y) ?_ | (refine Br.mk (fun h => ?_) (fun h => ?_) <;> first | (exfalso; omega; done) | (exfalso; simp at h; done) | skip))
    all_goals
      repeat refine Mm.mk ?_
      refine EndVC.mk _ rfl _ _ ⟨rfl, rfl⟩ ?_
      refine ⟨[], rfl, rfl, ?_, ?_⟩ <;> repeat' (first | exact trivial | exact rfl | exact Iff.rfl | apply And.intro)
  · by_cases h2 : y < x
    · have e : cmpI x y = 1 := (if_neg h1).trans (if_pos h2)
      rw [e]
      refine spec_of pMix (O := []) Try.func85 (c := bodyOf Try.f85) rfl (by kernel_rfl) (by kernel_rfl) Try.ntmps85 (res := [.tmp 4]) (by kernel_rfl) ?_
      repeat' ((conv => whnf); first | refine Rng.g ?_ | refine Ob.g ?_ | refine Ob.e ?_ | refine Ob.m ?_ | refine Ob.mk (Nat.le_of_ble_eq_true rfl) ?_ | refine JoinVC.on ?_ | refine Nils.mk (fun h => ?_) ?_ | refine Val.t ?_ | refine Val.d ?_ | refine Mm.mk ?_ | refine CallVC.pure rfl (s110 x) ?_ | refine CallVC.pure rfl (s110 y) ?_ | refine CallVC0.pure rfl (s110 x) ?_ | refine CallVC0.pure rfl (s110 y) ?_ | (refine Br.mk (fun h => ?_) (fun h => ?_) <;> first | (exfalso; omega; done) | (exfalso; simp at h; done) | skip))
      all_goals
        repeat refine Mm.mk ?_
        refine EndVC.mk _ rfl _ _ ⟨rfl, rfl⟩ ?_
        refine ⟨[], rfl, rfl, ?_, ?_⟩ <;> repeat' (first | exact trivial | exact rfl | exact Iff.rfl | apply And.intro)
    · have e : cmpI x y = 0 := (if_neg h1).trans (if_neg h2)
      rw [e]
      refine spec_of pMix (O := []) Try.func85 (c := bodyOf Try.f85) rfl (by kernel_rfl) (by kernel_rfl) Try.ntmps85 (res := [.tmp 4]) (by kernel_rfl) ?_
      repeat' ((conv => whnf); first | refine Rng.g ?_ | refine Ob.g ?_ | refine Ob.e ?_ | refine Ob.m ?_ | refine Ob.mk (Nat.le_of_ble_eq_true rfl) ?_ | refine JoinVC.on ?_ | refine Nils.mk (fun h => ?_) ?_ | refine Val.t ?_ | refine Val.d ?_ | refine Mm.mk ?_ | refine CallVC.pure rfl (s110 x) ?_ | refine CallVC.pure rfl (s110 y) ?_ | refine CallVC0.pure rfl (s110 x) ?_ | refine CallVC0.pure rfl (s110 y) ?_ | (refine Br.mk (fun h => ?_) (fun h => ?_) <;> first | (exfalso; omega; done) | (exfalso; simp at h; done) | skip))
      all_goals
        repeat refine Mm.mk ?_
        refine EndVC.mk _ rfl _ _ ⟨rfl, rfl⟩ ?_
        refine ⟨[], rfl, rfl, ?_, ?_⟩ <;> repeat' (first | exact trivial | exact rfl | exact Iff.rfl | apply And.intro)
theorem s86 (x y : Int) : PSpec Try.prog 86 [I x, I y] (.x (I (cmpI x y))) := by
  by_cases h1 : x < y
  · have e : cmpI x y = -1 := if_pos h1
    rw [e]
    refine spec_of pMix (O := []) Try.func86 (c := bodyOf Try.f86) rfl (by kernel_rfl) (by kernel_rfl) Try.ntmps86 (res := [.tmp 4]) (by kernel_rfl) ?_
    repeat' ((conv => whnf); first | refine Rng.g ?_ | refine Ob.g ?_ | refine Ob.e ?_ | refine Ob.m ?_ | refine Ob.mk (Nat.le_of_ble_eq_true rfl) ?_ | refine JoinVC.on ?_ | refine Nils.mk (fun h => ?_) ?_ | refine Val.t ?_ | refine Val.d ?_ | refine Mm.mk ?_ | refine CallVC.pure rfl (s111 x) ?_ | refine CallVC.pure rfl (s111 y) ?_ | refine CallVC0.pure rfl (s111 x) ?_ | refine CallVC0.pure rfl (s111 y) ?_ | (refine Br.mk (fun h => ?_) (fun h => ?_) <;> first | (exfalso; omega; done) | (exfalso; simp at h; done) | skip))
    all_goals
      repeat refine Mm.mk ?_
      refine EndVC.mk _ rfl _ _ ⟨rfl, rfl⟩ ?_
      refine ⟨[], rfl, rfl, ?_, ?_⟩ <;> repeat' (first | exact trivial | exact rfl | exact Iff.rfl | apply And.intro)
  · by_cases h2 : y < x
    · have e : cmpI x y = 1 := (if_neg h1).trans (if_pos h2)
      rw [e]
      refine spec_of pMix (O := []) Try.func86 (c := bodyOf Try.f86) rfl (by kernel_rfl) (by kernel_rfl) Try.ntmps86 (res := [.tmp 4]) (by kernel_rfl) ?_
      repeat' ((conv => whnf); first | refine Rng.g ?_ | refine Ob.g ?_ | refine Ob.e ?_ | refine Ob.m ?_ | refine Ob.mk (Nat.le_of_ble_eq_true rfl) ?_ | refine JoinVC.on ?_ | refine Nils.mk (fun h => ?_) ?_ | refine Val.t ?_ | refine Val.d ?_ | refine Mm.mk ?_ | refine CallVC.pure rfl (s111 x) ?_ | refine CallVC.pure rfl (s111 y) ?_ | refine CallVC0.pure rfl (s111 x) ?_ | refine CallVC0.pure rfl (s111 y) ?_ | (refine Br.mk (fun h => ?_) (fun h => ?_) <;> first | (exfalso; omega; done) | (exfalso; simp at h; done) | skip))
      all_goals
        repeat refine Mm.mk ?_
        refine EndVC.mk _ rfl _ _ ⟨rfl, rfl⟩ ?_
        refine ⟨[], rfl, rfl, ?_, ?_⟩ <;> repeat' (first | exact trivial | exact rfl | exact Iff.rfl | apply And.intro)
    · have e : cmpI x y = 0 := (if_neg h1).trans (if_neg h2)
      rw [e]
      refine spec_of pMix (O := []) Try.func86 (c := bodyOf Try.f86) rfl (by kernel_rfl) (by kernel_rfl) Try.ntmps86 (res := [.tmp 4]) (by kernel_rfl) ?_
      repeat' ((conv => whnf); first | refine Rng.g ?_ | refine Ob.g ?_ | refine Ob.e ?_ | refine Ob.m ?_ | refine Ob.mk (Nat.le_of_ble_eq_true rfl) ?_ | refine JoinVC.on ?_ | refine Nils.mk (fun h => ?_) ?_ | refine Val.t ?_ | refine Val.d ?_ | refine Mm.mk ?_ | refine CallVC.pure rfl (s111 x) ?_ | refine CallVC.pure rfl (s111 y) ?_ | refine CallVC0.pure rfl (s111 x) ?_ | refine CallVC0.pure rfl (s111 y) ?_ | (refine Br.mk (fun h => ?_) (fun h => ?_) <;> first | (exfalso; omega; done) | (exfalso; simp at h; done) | skip))
      all_goals
        repeat refine Mm.mk ?_
        refine EndVC.mk _ rfl _ _ ⟨rfl, rfl⟩ ?_
        refine ⟨[], rfl, rfl, ?_, ?_⟩ <;> repeat' (first | exact trivial | exact rfl | exact Iff.rfl | apply And.intro)
theorem s84 (a b : Int) : PSpec Try.prog 84 [.one (.lst true [.int .i64] [[.int a], [.int b]])] (.x (I (if a ≠ 0 then a else b))) := by
  have g0 : rI [[Cell.int a], [Cell.int b]] (Int.toNat 0) 0 = a := rfl
  have g1 : rI [[Cell.int a], [Cell.int b]] (Int.toNat (0 + 1)) 0 = b := rfl
  by_cases h1 : a = 0
  · rw [if_neg (fun h => h h1)]
    refine spec_of pMix (O := []) Try.func84 (c := bodyOf Try.f84) rfl (by kernel_rfl) (by kernel_rfl) Try.ntmps84 (res := [.tmp 2]) (by kernel_rfl) ?_
    repeat' ((conv => whnf); first | refine Rng.g ?_ | refine Ob.g ?_ | refine Ob.e ?_ | refine Ob.m ?_ | refine Ob.mk (Nat.le_of_ble_eq_true rfl) ?_ | refine JoinVC.on ?_ | refine Nils.mk (fun h => ?_) ?_ | refine Val.t ?_ | refine Val.d ?_ | refine Mm.mk ?_ | (refine Br.mk (fun h => ?_) (fun h => ?_) <;> first | (exfalso; omega; done) | (exfalso; simp at h; done) | skip))
    refine LoopVC.un 4 ?_
    repeat' ((conv => whnf); first | rw [g0] | rw [g1] | refine Rng.g ?_ | refine Ob.g ?_ | refine Ob.e ?_ | refine Ob.m ?_ | refine Ob.mk (Nat.le_of_ble_eq_true rfl) ?_ | refine JoinVC.on ?_ | refine Nils.mk (fun h => ?_) ?_ | refine Val.t ?_ | refine Val.d ?_ | refine Mm.mk ?_ | (refine Br.mk (fun h => ?_) (fun h => ?_) <;> first | (exfalso; omega; done) | (exfalso; simp at h; done) | skip))
    all_goals
      repeat refine Mm.mk ?_
      refine EndVC.mk _ rfl _ _ ⟨rfl, rfl⟩ ?_
      refine ⟨[], rfl, rfl, ?_, ?_⟩ <;> repeat' (first | exact trivial | exact rfl | exact Iff.rfl | apply And.intro)
    all_goals omega
  · rw [if_pos h1]
    refine spec_of pMix (O := []) Try.func84 (c := bodyOf Try.f84) rfl (by kernel_rfl) (by kernel_rfl) Try.ntmps84 (res := [.tmp 2]) (by kernel_rfl) ?_
    repeat' ((conv => whnf); first | refine Rng.g ?_ | refine Ob.g ?_ | refine Ob.e ?_ | refine Ob.m ?_ | refine Ob.mk (Nat.le_of_ble_eq_true rfl) ?_ | refine JoinVC.on ?_ | refine Nils.mk (fun h => ?_) ?_ | refine Val.t ?_ | refine Val.d ?_ | refine Mm.mk ?_ | (refine Br.mk (fun h => ?_) (fun h => ?_) <;> first | (exfalso; omega; done) | (exfalso; simp at h; done) | skip))
    refine LoopVC.un 4 ?_
    repeat' ((conv => whnf); first | rw [g0] | rw [g1] | refine Rng.g ?_ | refine Ob.g ?_ | refine Ob.e ?_ | refine Ob.m ?_ | refine Ob.mk (Nat.le_of_ble_eq_true rfl) ?_ | refine JoinVC.on ?_ | refine Nils.mk (fun h => ?_) ?_ | refine Val.t ?_ | refine Val.d ?_ | refine Mm.mk ?_ | (refine Br.mk (fun h => ?_) (fun h => ?_) <;> first | (exfalso; omega; done) | (exfalso; simp at h; done) | skip))
    all_goals
      repeat refine Mm.mk ?_
      refine EndVC.mk _ rfl _ _ ⟨rfl, rfl⟩ ?_
      refine ⟨[], rfl, rfl, ?_, ?_⟩ <;> repeat' (first | exact trivial | exact rfl | exact Iff.rfl | apply And.intro)
theorem s74 (f : Fmt) (l : List Sng) (a b : Int) (ha : 0 ≤ a ∧ a < l.length) (hb : 0 ≤ b ∧ b < l.length) : HSpec Try.prog 74 [.one (.ptr 0 0), I a, I b] [bPl f l] (fun r m' => r = .x (I (usF l a b)) ∧ m' = [some (bPl f l)]) := by
  have lp := sngA_len l
  have c1 : rI (sngA l) a.toNat (0 + (0 + 1 + 1)) = (l.getD a.toNat g0).least := sngA_2 l _
  have c2 : rI (sngA l) b.toNat (0 + (0 + 1 + 1)) = (l.getD b.toNat g0).least := sngA_2 l _
  have k1 := s85 (l.getD b.toNat g0).least (l.getD a.toNat g0).least
  have k2 := s86 a b
  have k3 := s84 (cmpI (l.getD b.toNat g0).least (l.getD a.toNat g0).least) (cmpI a b)
  refine spec_of pMix (O := [(1, ([], [⟨0, [], []⟩, ⟨1, [], []⟩, ⟨2, [], []⟩, ⟨3, [], []⟩, ⟨4, [], []⟩, ⟨5, [], []⟩, ⟨6, [], []⟩, ⟨7, [], []⟩, ⟨8, [], []⟩, ⟨9, [], []⟩, ⟨10, [], []⟩, ⟨11, [], []⟩, ⟨12, [], []⟩, ⟨13, [], []⟩, ⟨14, [], []⟩, ⟨15, [], []⟩, ⟨17, [], []⟩, ⟨18, [], []⟩, ⟨16, [17, 18], []⟩, ⟨19, [], [20]⟩, ⟨20, [], []⟩, ⟨21, [], []⟩, ⟨22, [], []⟩]))]) Try.func74 (c := bodyOf Try.f74) rfl (by kernel_rfl) (by kernel_rfl) Try.ntmps74 (res := [.tmp 6]) (by kernel_rfl) ?_
  repeat' ((conv => whnf); first | rw [c1] | rw [c2] | refine Rng.g ?_ | refine Ob.g ?_ | refine Ob.e ?_ | refine Ob.m ?_ | refine Ob.mk (Nat.le_of_ble_eq_true rfl) ?_ | refine JoinVC.on ?_ | refine Nils.mk (fun h => ?_) ?_ | refine Val.t ?_ | refine Val.d ?_ | refine Mm.mk ?_ | refine CallVC.pure rfl (k1) ?_ | refine CallVC.pure rfl (k2) ?_ | refine CallVC.pure rfl (k3) ?_ | refine CallVC0.pure rfl (k1) ?_ | refine CallVC0.pure rfl (k2) ?_ | refine CallVC0.pure rfl (k3) ?_ | (refine Br.mk (fun h => ?_) (fun h => ?_) <;> first | (exfalso; omega; done) | (exfalso; simp at h; done) | skip))
  repeat refine Mm.mk ?_
  refine EndVC.mk _ rfl _ _ ⟨rfl, rfl⟩ ?_
  refine ⟨[some 0], rfl, rfl, ?_, ?_⟩ <;> repeat' (first | exact trivial | exact rfl | exact Iff.rfl | apply And.intro)
@[reducible] def rowOd (O : List Int) : Blk := .row 3 false [.int .i64] (i64s O)
theorem i64s_upd' (xs : List Int) (i : Nat) (v : Int) (h : i < xs.length) : updRow (i64s xs) i 0 [.int v] = i64s (xs.set i v) := by
  unfold updRow i64s
  rw [List.map_set]
  congr 1
  simp [List.getD_eq_getElem?_getD, h, setAll]
/-- All of them are numbers of tracks. -/
def InR (O : List Int) (m : Nat) : Prop := ∀ i, i < O.length → 0 ≤ O.getD i 0 ∧ O.getD i 0 < m
theorem InR.swp {O : List Int} {m : Nat} (h : InR O m) {j : Nat} (hj : j + 1 < O.length) : InR (Go.Sx.swp O j) m := fun i hi => by
  rw [swp_len] at hi
  rw [swp_get O hj]
  exact h _ (sg_lt hj hi)
theorem InR.ins {lt : Int → Int → Bool} {m : Nat} : ∀ (j : Nat) {O : List Int}, InR O m → j < O.length → InR (Go.Sx.ins lt O j) m
  | 0, O, h, _ => h
  | j + 1, O, h, hj => by
    unfold Go.Sx.ins
    split
    · exact InR.ins j (h.swp hj) (by rw [swp_len]; omega)
    · exact h
theorem InR.isr {lt : Int → Int → Bool} {m : Nat} {O : List Int} (h : InR O m) : ∀ k, k < O.length ∨ k = 0 → InR (Go.Sx.isr lt O k) m
  | 0, _ => h
  | k + 1, hk => by
    unfold Go.Sx.isr
    exact InR.ins (k + 1) (h.isr k (by omega)) (by rw [isr_len]; omega)
theorem s102 (f : Fmt) (l : List Sng) (O : List Int) (hO : InR O l.length) (hl : O.length ≤ 1000000) : HSpec Try.prog 102 [.one (.own 0), I 0, I (O.length : Int), .one (.bnd 74 false [.ptr 1 0])] [rowOd O, bPl f l] (fun r m' => r = .tup [] ∧ m' = [some (rowOd (isr (usB l) O (O.length - 1))), some (bPl f l)]) := by
  have lo := i64s_len O
  refine spec_of pMix (O := [(6, ([], [⟨0, [], []⟩, ⟨1, [], []⟩, ⟨2, [], []⟩, ⟨3, [], []⟩, ⟨4, [], []⟩, ⟨5, [], []⟩, ⟨6, [], []⟩, ⟨7, [], []⟩, ⟨8, [], []⟩, ⟨9, [], []⟩, ⟨10, [], []⟩, ⟨11, [], []⟩, ⟨12, [], []⟩, ⟨13, [], []⟩, ⟨14, [], []⟩, ⟨15, [2, 3, 4], []⟩, ⟨16, [], []⟩, ⟨17, [], []⟩]))]) Try.func102 (c := bodyOf Try.f102) rfl (by kernel_rfl) (by kernel_rfl) Try.ntmps102 (res := []) (by kernel_rfl) ?_
  repeat' ((conv => whnf); first | refine Rng.g ?_ | refine Ob.g ?_ | refine Ob.e ?_ | refine Ob.m ?_ | refine Ob.mk (Nat.le_of_ble_eq_true rfl) ?_ | refine JoinVC.on ?_ | refine Nils.mk (fun h => ?_) ?_ | refine Val.t ?_ | refine Val.d ?_ | refine Mm.mk ?_ | (refine Br.mk (fun h => ?_) (fun h => ?_) <;> first | (exfalso; omega; done) | (exfalso; simp at h; done) | skip))
  refine LoopVC.mk (fun n st => ∃ (k : Nat), (k < O.length ∨ k = 0) ∧ n = O.length - k ∧ st = ⟨2, envA 53 [(0, .x (.one (.own 0))), (1, .x (I 0)), (2, .x (I (O.length : Int))), (3, .x (.one (.bnd 74 false [.ptr 1 0]))), (8, .int .i64 ((k : Int) + 1))], [some (rowOd (isr (usB l) O k)), some (bPl f l)]⟩) _ _ ⟨0, .inr rfl, rfl, rfl⟩ ?_ ?_
  · refine ⟨[some 0, some 1], rfl, rfl, ?_, ?_⟩ <;> repeat' (first | exact trivial | exact rfl | exact Iff.rfl | apply And.intro)
  rintro n _ ⟨k, hk, hn, rfl⟩
  by_cases hk' : k + 1 < O.length
  · obtain ⟨Z, hZ⟩ : ∃ Z, isr (usB l) O (k + 1) = Z := ⟨_, rfl⟩
    have hZ' : ins (usB l) (isr (usB l) O k) (k + 1) = Z := hZ
    repeat' ((conv => whnf); first | refine Rng.g ?_ | refine Ob.g ?_ | refine Ob.e ?_ | refine Ob.m ?_ | refine Ob.mk (Nat.le_of_ble_eq_true rfl) ?_ | refine JoinVC.on ?_ | refine Nils.mk (fun h => ?_) ?_ | refine Val.t ?_ | refine Val.d ?_ | refine Mm.mk ?_ | (refine Br.mk (fun h => ?_) (fun h => ?_) <;> first | (exfalso; omega; done) | (exfalso; simp at h; done) | skip))
    refine LoopVC.mk (fun n st => ∃ (j : Nat) (V : List Int), j ≤ k + 1 ∧ n = j ∧ V.length = O.length ∧ InR V l.length ∧ ins (usB l) V j = Z ∧ st = ⟨2, envA 53 [(0, .x (.one (.own 0))), (1, .x (I 0)), (2, .x (I (O.length : Int))), (3, .x (.one (.bnd 74 false [.ptr 1 0]))), (8, .int .i64 ((k : Int) + 1)), (9, .int .i64 (j : Int))], [some (rowOd V), some (bPl f l)]⟩) _ _ ⟨k + 1, isr (usB l) O k, Nat.le_refl _, rfl, isr_len _ _ _, hO.isr k hk, hZ', rfl⟩ ?_ ?_
    · refine ⟨[some 0, some 1], rfl, rfl, ?_, ?_⟩ <;> repeat' (first | exact trivial | exact rfl | exact Iff.rfl | apply And.intro)
    rintro n _ ⟨j, V, hj, hn, lV, hV, hi, rfl⟩
    have lv := i64s_len V
    cases j with
    | zero =>
      have e : V = Z := hi
      repeat' ((conv => whnf); first | refine Rng.g ?_ | refine Ob.g ?_ | refine Ob.e ?_ | refine Ob.m ?_ | refine Ob.mk (Nat.le_of_ble_eq_true rfl) ?_ | refine JoinVC.on ?_ | refine Nils.mk (fun h => ?_) ?_ | refine Val.t ?_ | refine Val.d ?_ | refine Mm.mk ?_ | (refine Br.mk (fun h => ?_) (fun h => ?_) <;> first | (exfalso; omega; done) | (exfalso; simp at h; done) | skip))
      refine Back.mk (O.length - (k + 1)) _ (by omega) ⟨k + 1, .inl hk', rfl, rfl⟩ ?_
      rw [hZ, ← e]
      refine ⟨[some 0, some 1], rfl, rfl, ?_, ?_⟩ <;> repeat' (first | exact trivial | exact rfl | exact Iff.rfl | apply And.intro)
    | succ j =>
      have g1 : rI (i64s V) ((j + 1 : Nat) : Int).toNat 0 = V.getD (j + 1) 0 := by rw [Int.toNat_natCast]; exact i64s_get V _
      have g2 : rI (i64s V) (((j + 1 : Nat) : Int) - 1).toNat 0 = V.getD j 0 := by rw [show (((j + 1 : Nat) : Int) - 1).toNat = j by omega]; exact i64s_get V _
      have h1 := hV (j + 1) (by omega)
      have h2 := hV j (by omega)
      have u1 : updRow (i64s V) ((j + 1 : Nat) : Int).toNat 0 [Cell.int (V.getD j 0)] = i64s (V.set (j + 1) (V.getD j 0)) := by rw [Int.toNat_natCast]; exact i64s_upd' _ _ _ (by omega)
      have u2 : updRow (i64s (V.set (j + 1) (V.getD j 0))) (((j + 1 : Nat) : Int) - 1).toNat 0 [Cell.int (V.getD (j + 1) 0)] = i64s (swp V j) := by
        rw [show (((j + 1 : Nat) : Int) - 1).toNat = j by omega]
        exact i64s_upd' _ _ _ (by rw [List.length_set]; omega)
      have lv2 : (i64s (V.set (j + 1) (V.getD j 0))).length = V.length := by rw [i64s_len, List.length_set]
      unfold ins at hi
      repeat' ((conv => whnf); first | rw [g1] | rw [g2] | refine Rng.g ?_ | refine Ob.g ?_ | refine Ob.e ?_ | refine Ob.m ?_ | refine Ob.mk (Nat.le_of_ble_eq_true rfl) ?_ | refine JoinVC.on ?_ | refine Nils.mk (fun h => ?_) ?_ | refine Val.t ?_ | refine Val.d ?_ | refine Mm.mk ?_ | (refine Br.mk (fun h => ?_) (fun h => ?_) <;> first | (exfalso; omega; done) | (exfalso; simp at h; done) | skip))
      conv => whnf
      refine CallVC.mk [1] _ _ _ rfl rfl rfl (s74 f l (V.getD (j + 1) 0) (V.getD j 0) h1 h2) (fun r m' h' => ?_)
      obtain ⟨rfl, rfl⟩ := h'
      conv => whnf
      by_cases hlt : usF l (V.getD (j + 1) 0) (V.getD j 0) < 0
      · rw [if_pos (show usB l (V.getD (j + 1) 0) (V.getD j 0) = true from decide_eq_true hlt)] at hi
        repeat' ((conv => whnf); first | rw [g1] | rw [g2] | rw [u1] | rw [u2] | refine Rng.g ?_ | refine Ob.g ?_ | refine Ob.e ?_ | refine Ob.m ?_ | refine Ob.mk (Nat.le_of_ble_eq_true rfl) ?_ | refine JoinVC.on ?_ | refine Nils.mk (fun h => ?_) ?_ | refine Val.t ?_ | refine Val.d ?_ | refine Mm.mk ?_ | (refine Br.mk (fun h => ?_) (fun h => ?_) <;> first | (exfalso; omega; done) | (exfalso; simp at h; done) | skip))
        refine Back.mk j _ (by omega) ⟨j, swp V j, by omega, rfl, by rw [swp_len]; exact lV, hV.swp (by omega), hi, rfl⟩ ?_
        refine ⟨[some 0, some 1], rfl, rfl, ?_, ?_⟩ <;> repeat' (first | exact trivial | exact rfl | exact Iff.rfl | apply And.intro)
        all_goals omega
      · rw [if_neg (show ¬ usB l (V.getD (j + 1) 0) (V.getD j 0) = true from fun h => hlt (of_decide_eq_true h))] at hi
        repeat' ((conv => whnf); first | rw [g1] | rw [g2] | refine Rng.g ?_ | refine Ob.g ?_ | refine Ob.e ?_ | refine Ob.m ?_ | refine Ob.mk (Nat.le_of_ble_eq_true rfl) ?_ | refine JoinVC.on ?_ | refine Nils.mk (fun h => ?_) ?_ | refine Val.t ?_ | refine Val.d ?_ | refine Mm.mk ?_ | (refine Br.mk (fun h => ?_) (fun h => ?_) <;> first | (exfalso; omega; done) | (exfalso; simp at h; done) | skip))
        refine Back.mk (O.length - (k + 1)) _ (by omega) ⟨k + 1, .inl hk', rfl, rfl⟩ ?_
        rw [hZ, ← hi]
        refine ⟨[some 0, some 1], rfl, rfl, ?_, ?_⟩ <;> repeat' (first | exact trivial | exact rfl | exact Iff.rfl | apply And.intro)
  · have ek : k = O.length - 1 := by omega
    subst ek
    repeat' ((conv => whnf); first | refine Rng.g ?_ | refine Ob.g ?_ | refine Ob.e ?_ | refine Ob.m ?_ | refine Ob.mk (Nat.le_of_ble_eq_true rfl) ?_ | refine JoinVC.on ?_ | refine Nils.mk (fun h => ?_) ?_ | refine Val.t ?_ | refine Val.d ?_ | refine Mm.mk ?_ | (refine Br.mk (fun h => ?_) (fun h => ?_) <;> first | (exfalso; omega; done) | (exfalso; simp at h; done) | skip))
    repeat refine Mm.mk ?_
    refine EndVC.mk _ rfl _ _ ⟨rfl, rfl⟩ ?_
    refine ⟨[some 0, some 1], rfl, rfl, ?_, ?_⟩ <;> repeat' (first | exact trivial | exact rfl | exact Iff.rfl | apply And.intro)
theorem rngU8 (x : UInt8) : inR .i64 (x.toNat : Int) := by
  have := x.toNat_lt
  simp only [inR]
  omega
theorem rngU8' (x : UInt8) : inR .i64 (0 + (x.toNat : Int)) := by
  have := x.toNat_lt
  simp only [inR]
  omega
/-- The number of bits is a number. -/
theorem s99 (n : Int) (hn : 0 ≤ n ∧ n ≤ 12) : HSpec Try.prog 99 [.one (.int .u64 n)] [] (fun r m' => ∃ v, r = .x (I v) ∧ m' = []) := by
  have hc : n = 0 ∨ n = 1 ∨ n = 2 ∨ n = 3 ∨ n = 4 ∨ n = 5 ∨ n = 6 ∨ n = 7 ∨ n = 8 ∨ n = 9 ∨ n = 10 ∨ n = 11 ∨ n = 12 := by omega
  rcases hc with rfl | rfl | rfl | rfl | rfl | rfl | rfl | rfl | rfl | rfl | rfl | rfl | rfl
  all_goals
    refine spec_of pMix (O := []) Try.func99 (c := bodyOf Try.f99) rfl (by kernel_rfl) (by kernel_rfl) Try.ntmps99 (res := [.tmp 2]) (by kernel_rfl) ?_
    repeat' ((conv => whnf); first | refine Rng.g ?_ | refine Ob.g ?_ | refine Ob.e ?_ | refine Ob.m ?_ | refine Ob.mk (Nat.le_of_ble_eq_true rfl) ?_ | refine JoinVC.on ?_ | refine Nils.mk (fun h => ?_) ?_ | refine Val.t ?_ | refine Val.d ?_ | refine Mm.mk ?_ | (refine Br.mk (fun h => ?_) (fun h => ?_) <;> first | (exfalso; omega; done) | (exfalso; simp at h; done) | skip))
    refine Rng.ok (rngU8 _) ?_
    repeat' ((conv => whnf); first | refine Rng.g ?_ | refine Ob.g ?_ | refine Ob.e ?_ | refine Ob.m ?_ | refine Ob.mk (Nat.le_of_ble_eq_true rfl) ?_ | refine JoinVC.on ?_ | refine Nils.mk (fun h => ?_) ?_ | refine Val.t ?_ | refine Val.d ?_ | refine Mm.mk ?_ | (refine Br.mk (fun h => ?_) (fun h => ?_) <;> first | (exfalso; omega; done) | (exfalso; simp at h; done) | skip))
    refine Rng.ok (rngU8' _) ?_
    repeat' ((conv => whnf); first | refine Rng.g ?_ | refine Ob.g ?_ | refine Ob.e ?_ | refine Ob.m ?_ | refine Ob.mk (Nat.le_of_ble_eq_true rfl) ?_ | refine JoinVC.on ?_ | refine Nils.mk (fun h => ?_) ?_ | refine Val.t ?_ | refine Val.d ?_ | refine Mm.mk ?_ | (refine Br.mk (fun h => ?_) (fun h => ?_) <;> first | (exfalso; omega; done) | (exfalso; simp at h; done) | skip))
    conv => whnf
    exact EndVC.run _ rfl ⟨_, rfl, rfl⟩
theorem s80 (n : Int) (hn : 0 ≤ n ∧ n ≤ 12) : HSpec Try.prog 80 [.one (.int .u64 n)] [] (fun r m' => ∃ v, r = .x (I v) ∧ m' = []) := by
  refine spec_of pMix (O := []) Try.func80 (c := bodyOf Try.f80) rfl (by kernel_rfl) (by kernel_rfl) Try.ntmps80 (res := [.tmp 2]) (by kernel_rfl) ?_
  repeat' ((conv => whnf); first | refine Rng.g ?_ | refine Ob.g ?_ | refine Ob.e ?_ | refine Ob.m ?_ | refine Ob.mk (Nat.le_of_ble_eq_true rfl) ?_ | refine JoinVC.on ?_ | refine Nils.mk (fun h => ?_) ?_ | refine Val.t ?_ | refine Val.d ?_ | refine Mm.mk ?_ | (refine Br.mk (fun h => ?_) (fun h => ?_) <;> first | (exfalso; omega; done) | (exfalso; simp at h; done) | skip))
  conv => whnf
  refine CallVC.mk [] _ _ _ rfl rfl rfl (s99 n hn) (fun r m' h' => ?_)
  obtain ⟨v, rfl, rfl⟩ := h'
  conv => whnf
  repeat' ((conv => whnf); first | refine Rng.g ?_ | refine Ob.g ?_ | refine Ob.e ?_ | refine Ob.m ?_ | refine Ob.mk (Nat.le_of_ble_eq_true rfl) ?_ | refine JoinVC.on ?_ | refine Nils.mk (fun h => ?_) ?_ | refine Val.t ?_ | refine Val.d ?_ | refine Mm.mk ?_ | (refine Br.mk (fun h => ?_) (fun h => ?_) <;> first | (exfalso; omega; done) | (exfalso; simp at h; done) | skip))
  repeat refine Mm.mk ?_
  conv => whnf
  refine EndVC.mk _ rfl _ _ (⟨v, rfl, rfl⟩) ?_
  refine ⟨[], rfl, rfl, ?_, ?_⟩ <;> repeat' (first | exact trivial | exact rfl | exact Iff.rfl | apply And.intro)
theorem s83 (f : Fmt) (l : List Sng) (O : List Int) (v : Int) (hO : InR O l.length) (hl : O.length ≤ 12) : HSpec Try.prog 83 [.one (.own 0), I 0, I (O.length : Int), I v, .one (.bnd 74 false [.ptr 1 0])] [rowOd O, bPl f l] (fun r m' => r = .tup [] ∧ m' = [some (rowOd (isr (usB l) O (O.length - 1))), some (bPl f l)]) := by
  have lo := i64s_len O
  refine spec_of pMix (O := []) Try.func83 (c := bodyOf Try.f83) rfl (by kernel_rfl) (by kernel_rfl) Try.ntmps83 (res := []) (by kernel_rfl) ?_
  repeat' ((conv => whnf); first | refine Rng.g ?_ | refine Ob.g ?_ | refine Ob.e ?_ | refine Ob.m ?_ | refine Ob.mk (Nat.le_of_ble_eq_true rfl) ?_ | refine JoinVC.on ?_ | refine Nils.mk (fun h => ?_) ?_ | refine Val.t ?_ | refine Val.d ?_ | refine Mm.mk ?_ | (refine Br.mk (fun h => ?_) (fun h => ?_) <;> first | (exfalso; omega; done) | (exfalso; simp at h; done) | skip))
  refine LoopVC.un 1 ?_
  repeat' ((conv => whnf); first | refine Rng.g ?_ | refine Ob.g ?_ | refine Ob.e ?_ | refine Ob.m ?_ | refine Ob.mk (Nat.le_of_ble_eq_true rfl) ?_ | refine JoinVC.on ?_ | refine Nils.mk (fun h => ?_) ?_ | refine Val.t ?_ | refine Val.d ?_ | refine Mm.mk ?_ | (refine Br.mk (fun h => ?_) (fun h => ?_) <;> first | (exfalso; omega; done) | (exfalso; simp at h; done) | skip))
  conv => whnf
  refine CallVC.mk [0, 1] _ _ _ rfl rfl rfl (s102 f l O hO (by omega)) (fun r m' h' => ?_)
  obtain ⟨rfl, rfl⟩ := h'
  conv => whnf
  repeat' ((conv => whnf); first | refine Rng.g ?_ | refine Ob.g ?_ | refine Ob.e ?_ | refine Ob.m ?_ | refine Ob.mk (Nat.le_of_ble_eq_true rfl) ?_ | refine JoinVC.on ?_ | refine Nils.mk (fun h => ?_) ?_ | refine Val.t ?_ | refine Val.d ?_ | refine Mm.mk ?_ | (refine Br.mk (fun h => ?_) (fun h => ?_) <;> first | (exfalso; omega; done) | (exfalso; simp at h; done) | skip))
  repeat refine Mm.mk ?_
  refine EndVC.mk _ rfl _ _ ⟨rfl, rfl⟩ ?_
  refine ⟨[some 0, some 1], rfl, rfl, ?_, ?_⟩ <;> repeat' (first | exact trivial | exact rfl | exact Iff.rfl | apply And.intro)
theorem s73 (f : Fmt) (l : List Sng) (O : List Int) (hO : InR O l.length) (hl : O.length ≤ 12) : HSpec Try.prog 73 [.one (.own 0), .one (.bnd 74 false [.ptr 1 0])] [rowOd O, bPl f l] (fun r m' => r = .tup [] ∧ m' = [some (rowOd (isr (usB l) O (O.length - 1))), some (bPl f l)]) := by
  have lo := i64s_len O
  refine spec_of pMix (O := []) Try.func73 (c := bodyOf Try.f73) rfl (by kernel_rfl) (by kernel_rfl) Try.ntmps73 (res := []) (by kernel_rfl) ?_
  repeat' ((conv => whnf); first | rw [lo] | refine Rng.g ?_ | refine Ob.g ?_ | refine Ob.e ?_ | refine Ob.m ?_ | refine Ob.mk (Nat.le_of_ble_eq_true rfl) ?_ | refine JoinVC.on ?_ | refine Nils.mk (fun h => ?_) ?_ | refine Val.t ?_ | refine Val.d ?_ | refine Mm.mk ?_ | (refine Br.mk (fun h => ?_) (fun h => ?_) <;> first | (exfalso; omega; done) | (exfalso; simp at h; done) | skip))
  conv => whnf
  refine CallVC.mk [] _ _ _ rfl rfl rfl (s80 (O.length : Int) (by omega)) (fun r m' h' => ?_)
  obtain ⟨v, rfl, rfl⟩ := h'
  conv => whnf
  repeat' ((conv => whnf); first | refine Rng.g ?_ | refine Ob.g ?_ | refine Ob.e ?_ | refine Ob.m ?_ | refine Ob.mk (Nat.le_of_ble_eq_true rfl) ?_ | refine JoinVC.on ?_ | refine Nils.mk (fun h => ?_) ?_ | refine Val.t ?_ | refine Val.d ?_ | refine Mm.mk ?_ | (refine Br.mk (fun h => ?_) (fun h => ?_) <;> first | (exfalso; omega; done) | (exfalso; simp at h; done) | skip))
  conv => whnf
  refine CallVC.mk [0, 1] _ _ _ rfl rfl rfl (s83 f l O v hO hl) (fun r m' h' => ?_)
  obtain ⟨rfl, rfl⟩ := h'
  conv => whnf
  repeat' ((conv => whnf); first | refine Rng.g ?_ | refine Ob.g ?_ | refine Ob.e ?_ | refine Ob.m ?_ | refine Ob.mk (Nat.le_of_ble_eq_true rfl) ?_ | refine JoinVC.on ?_ | refine Nils.mk (fun h => ?_) ?_ | refine Val.t ?_ | refine Val.d ?_ | refine Mm.mk ?_ | (refine Br.mk (fun h => ?_) (fun h => ?_) <;> first | (exfalso; omega; done) | (exfalso; simp at h; done) | skip))
  repeat refine Mm.mk ?_
  refine EndVC.mk _ rfl _ _ ⟨rfl, rfl⟩ ?_
  refine ⟨[some 0, some 1], rfl, rfl, ?_, ?_⟩ <;> repeat' (first | exact trivial | exact rfl | exact Iff.rfl | apply And.intro)
theorem s72 (xs : List Int) (hl : xs.length ≤ 1000000) : HSpec Try.prog 72 [.one (.lst true [.int .i64] (i64s xs))] [] (fun r m' => r = .x (.one (.own 0)) ∧ m' = [some (rowOd xs)]) := by
  have lo := i64s_len xs
  refine spec_of pMix (O := []) Try.func72 (c := bodyOf Try.f72) rfl (by kernel_rfl) (by kernel_rfl) Try.ntmps72 (res := [.tmp 2]) (by kernel_rfl) ?_
  repeat' ((conv => whnf); first | refine Rng.g ?_ | refine Ob.g ?_ | refine Ob.e ?_ | refine Ob.m ?_ | refine Ob.mk (Nat.le_of_ble_eq_true rfl) ?_ | refine JoinVC.on ?_ | refine Nils.mk (fun h => ?_) ?_ | refine Val.t ?_ | refine Val.d ?_ | refine Mm.mk ?_ | (refine Br.mk (fun h => ?_) (fun h => ?_) <;> first | (exfalso; omega; done) | (exfalso; simp at h; done) | skip))
  · repeat refine Mm.mk ?_
    refine EndVC.mk _ rfl _ _ ⟨rfl, rfl⟩ ?_
    refine ⟨[none], rfl, rfl, ?_, ?_⟩ <;> repeat' (first | exact trivial | exact rfl | exact Iff.rfl | apply And.intro)
    exact h
  · repeat refine Mm.mk ?_
    refine Ob.mk (by simp only [eb3, List.length_nil]; omega) ?_
    repeat' ((conv => whnf); first | refine Rng.g ?_ | refine Ob.g ?_ | refine Ob.e ?_ | refine Ob.m ?_ | refine Ob.mk (Nat.le_of_ble_eq_true rfl) ?_ | refine JoinVC.on ?_ | refine Nils.mk (fun h => ?_) ?_ | refine Val.t ?_ | refine Val.d ?_ | refine Mm.mk ?_ | (refine Br.mk (fun h => ?_) (fun h => ?_) <;> first | (exfalso; omega; done) | (exfalso; simp at h; done) | skip))
    repeat refine Mm.mk ?_
    refine EndVC.mk _ rfl _ _ ⟨rfl, rfl⟩ ?_
    refine ⟨[some 1], rfl, rfl, ?_, ?_⟩ <;> repeat' (first | exact trivial | exact rfl | exact Iff.rfl | apply And.intro)
theorem spanL_nn (n : Nat) : InR (spanL 0 n) n := fun i hi => (span_idx n).rng i (by rw [spanL_len] at hi; exact hi)
theorem s54 (n : Nat) (hn : n ≤ 100000) : HSpec Try.prog 54 [I 0, I (n : Int)] [] (fun r m' => r = .x (.one (.own 0)) ∧ m' = [some (rowOd (spanL 0 n))]) := by
  refine spec_of pMix (O := []) Try.func54 (c := bodyOf Try.f54) rfl (by kernel_rfl) (by kernel_rfl) Try.ntmps54 (res := [.tmp 4]) (by kernel_rfl) ?_
  repeat' ((conv => whnf); first | refine Rng.g ?_ | refine Ob.g ?_ | refine Ob.e ?_ | refine Ob.m ?_ | refine Ob.mk (Nat.le_of_ble_eq_true rfl) ?_ | refine JoinVC.on ?_ | refine Nils.mk (fun h => ?_) ?_ | refine Val.t ?_ | refine Val.d ?_ | refine Mm.mk ?_ | (refine Br.mk (fun h => ?_) (fun h => ?_) <;> first | (exfalso; omega; done) | (exfalso; simp at h; done) | skip))
  refine LoopVC.mk (fun m st => ∃ (i : Nat), i ≤ n ∧ m = n - i ∧ st = ⟨0, envA 16 [(0, .int .i64 (i : Int)), (1, .x (I (n : Int))), (5, .x (.one (.own 0)))], [some (rowOd (spanL 0 i))]⟩) _ _ ⟨0, Nat.zero_le _, rfl, rfl⟩ ?_ ?_
  · refine ⟨[none], rfl, rfl, ?_, ?_⟩ <;> repeat' (first | exact trivial | exact rfl | exact Iff.rfl | apply And.intro)
  rintro m _ ⟨i, hi, hm, rfl⟩
  have ls : (i64s (spanL 0 i)).length = i := by rw [i64s_len, spanL_len]
  by_cases hi' : i < n
  · repeat' ((conv => whnf); first | refine Rng.g ?_ | refine Ob.g ?_ | refine Ob.e ?_ | refine Ob.m ?_ | refine Ob.mk (Nat.le_of_ble_eq_true rfl) ?_ | refine JoinVC.on ?_ | refine Nils.mk (fun h => ?_) ?_ | refine Val.t ?_ | refine Val.d ?_ | refine Mm.mk ?_ | (refine Br.mk (fun h => ?_) (fun h => ?_) <;> first | (exfalso; omega; done) | (exfalso; simp at h; done) | skip))
    repeat refine Mm.mk ?_
    refine Ob.mk (by rw [eb3]; simp only [List.length_cons, List.length_nil]; omega) ?_
    repeat' ((conv => whnf); first | refine Rng.g ?_ | refine Ob.g ?_ | refine Ob.e ?_ | refine Ob.m ?_ | refine Ob.mk (Nat.le_of_ble_eq_true rfl) ?_ | refine JoinVC.on ?_ | refine Nils.mk (fun h => ?_) ?_ | refine Val.t ?_ | refine Val.d ?_ | refine Mm.mk ?_ | (refine Br.mk (fun h => ?_) (fun h => ?_) <;> first | (exfalso; omega; done) | (exfalso; simp at h; done) | skip))
    refine Back.mk (n - (i + 1)) _ (by omega) ⟨i + 1, by omega, rfl, rfl⟩ ?_
    rw [spanL_succ]
    refine ⟨[some 2], rfl, rfl, ?_, ?_⟩ <;> repeat' (first | exact trivial | exact rfl | exact Iff.rfl | apply And.intro)
    rw [i64s_snoc, Nat.zero_add]
  · have ei : i = n := by omega
    subst ei
    repeat' ((conv => whnf); first | refine Rng.g ?_ | refine Ob.g ?_ | refine Ob.e ?_ | refine Ob.m ?_ | refine Ob.mk (Nat.le_of_ble_eq_true rfl) ?_ | refine JoinVC.on ?_ | refine Nils.mk (fun h => ?_) ?_ | refine Val.t ?_ | refine Val.d ?_ | refine Mm.mk ?_ | (refine Br.mk (fun h => ?_) (fun h => ?_) <;> first | (exfalso; omega; done) | (exfalso; simp at h; done) | skip))
    repeat refine Mm.mk ?_
    refine EndVC.mk _ rfl _ _ ⟨rfl, rfl⟩ ?_
    refine ⟨[some 0], rfl, rfl, ?_, ?_⟩ <;> repeat' (first | exact trivial | exact rfl | exact Iff.rfl | apply And.intro)
theorem s45 (f : Fmt) (l : List Sng) (O : List Int) (hO : InR O l.length) (hl : O.length ≤ 12) : HSpec Try.prog 45 [.one (.ptr 0 0), .one (.own 1)] [bPl f l, rowOd O] (fun r m' => r = .x (.one (.own 2)) ∧ m' = [some (bPl f l), some (rowOd O), some (rowOd (isr (usB l) O (O.length - 1)))]) := by
  refine spec_of pMix (O := []) Try.func45 (c := bodyOf Try.f45) rfl (by kernel_rfl) (by kernel_rfl) Try.ntmps45 (res := [.tmp 4]) (by kernel_rfl) ?_
  repeat' ((conv => whnf); first | refine Rng.g ?_ | refine Ob.g ?_ | refine Ob.e ?_ | refine Ob.m ?_ | refine Ob.mk (Nat.le_of_ble_eq_true rfl) ?_ | refine JoinVC.on ?_ | refine Nils.mk (fun h => ?_) ?_ | refine Val.t ?_ | refine Val.d ?_ | refine Mm.mk ?_ | (refine Br.mk (fun h => ?_) (fun h => ?_) <;> first | (exfalso; omega; done) | (exfalso; simp at h; done) | skip))
  conv => whnf
  refine CallVC.mk [] _ _ _ rfl rfl rfl (s72 O (by omega)) (fun r m' h' => ?_)
  obtain ⟨rfl, rfl⟩ := h'
  conv => whnf
  repeat' ((conv => whnf); first | refine Rng.g ?_ | refine Ob.g ?_ | refine Ob.e ?_ | refine Ob.m ?_ | refine Ob.mk (Nat.le_of_ble_eq_true rfl) ?_ | refine JoinVC.on ?_ | refine Nils.mk (fun h => ?_) ?_ | refine Val.t ?_ | refine Val.d ?_ | refine Mm.mk ?_ | (refine Br.mk (fun h => ?_) (fun h => ?_) <;> first | (exfalso; omega; done) | (exfalso; simp at h; done) | skip))
  conv => whnf
  refine CallVC.mk [2, 0] _ _ _ rfl rfl rfl (s73 f l O hO hl) (fun r m' h' => ?_)
  obtain ⟨rfl, rfl⟩ := h'
  conv => whnf
  repeat' ((conv => whnf); first | refine Rng.g ?_ | refine Ob.g ?_ | refine Ob.e ?_ | refine Ob.m ?_ | refine Ob.mk (Nat.le_of_ble_eq_true rfl) ?_ | refine JoinVC.on ?_ | refine Nils.mk (fun h => ?_) ?_ | refine Val.t ?_ | refine Val.d ?_ | refine Mm.mk ?_ | (refine Br.mk (fun h => ?_) (fun h => ?_) <;> first | (exfalso; omega; done) | (exfalso; simp at h; done) | skip))
  repeat refine Mm.mk ?_
  refine EndVC.mk _ rfl _ _ ⟨rfl, rfl⟩ ?_
  refine ⟨[some 0, some 1, some 2], rfl, rfl, ?_, ?_⟩ <;> repeat' (first | exact trivial | exact rfl | exact Iff.rfl | apply And.intro)
theorem s46 (f : Fmt) (l : List Sng) (hl : l.length ≤ 12) : HSpec Try.prog 46 [.one (.ptr 0 0)] [bPl f l] (fun r m' => r = .x (.one (.own 1)) ∧ m' = [some (bPl f l), some (rowOd (allO l))]) := by
  have lp := sngA_len l
  have c := s45 f l (spanL 0 l.length) (spanL_nn _) (by rw [spanL_len]; exact hl)
  rw [spanL_len] at c
  refine spec_of pMix (O := []) Try.func46 (c := bodyOf Try.f46) rfl (by kernel_rfl) (by kernel_rfl) Try.ntmps46 (res := [.tmp 2]) (by kernel_rfl) ?_
  repeat' ((conv => whnf); first | rw [lp] | refine Rng.g ?_ | refine Ob.g ?_ | refine Ob.e ?_ | refine Ob.m ?_ | refine Ob.mk (Nat.le_of_ble_eq_true rfl) ?_ | refine JoinVC.on ?_ | refine Nils.mk (fun h => ?_) ?_ | refine Val.t ?_ | refine Val.d ?_ | refine Mm.mk ?_ | (refine Br.mk (fun h => ?_) (fun h => ?_) <;> first | (exfalso; omega; done) | (exfalso; simp at h; done) | skip))
  conv => whnf
  refine CallVC.mk [] _ _ _ rfl rfl rfl (s54 l.length (by omega)) (fun r m' h' => ?_)
  obtain ⟨rfl, rfl⟩ := h'
  conv => whnf
  repeat' ((conv => whnf); first | refine Rng.g ?_ | refine Ob.g ?_ | refine Ob.e ?_ | refine Ob.m ?_ | refine Ob.mk (Nat.le_of_ble_eq_true rfl) ?_ | refine JoinVC.on ?_ | refine Nils.mk (fun h => ?_) ?_ | refine Val.t ?_ | refine Val.d ?_ | refine Mm.mk ?_ | (refine Br.mk (fun h => ?_) (fun h => ?_) <;> first | (exfalso; omega; done) | (exfalso; simp at h; done) | skip))
  conv => whnf
  refine CallVC.mk [0, 1] _ _ _ rfl rfl rfl (c) (fun r m' h' => ?_)
  obtain ⟨rfl, rfl⟩ := h'
  conv => whnf
  repeat' ((conv => whnf); first | refine Rng.g ?_ | refine Ob.g ?_ | refine Ob.e ?_ | refine Ob.m ?_ | refine Ob.mk (Nat.le_of_ble_eq_true rfl) ?_ | refine JoinVC.on ?_ | refine Nils.mk (fun h => ?_) ?_ | refine Val.t ?_ | refine Val.d ?_ | refine Mm.mk ?_ | (refine Br.mk (fun h => ?_) (fun h => ?_) <;> first | (exfalso; omega; done) | (exfalso; simp at h; done) | skip))
  repeat refine Mm.mk ?_
  refine EndVC.mk _ rfl _ _ ⟨rfl, rfl⟩ ?_
  refine ⟨[some 0, some 2], rfl, rfl, ?_, ?_⟩ <;> repeat' (first | exact trivial | exact rfl | exact Iff.rfl | apply And.intro)
/-! ### The bands -/
@[reducible] def rowB (A : Arr) : Blk := .row 32 false [.int .i64, .int .i64, .int .i64] A
theorem eb116 : Try.t32.bytes = 24 := by kernel_rfl
inductive LyRs (f : Fmt) (l : List Sng) (O : List Int) (r : AV) (m' : List (Option Blk)) : Prop
  | rule (i : Nat) (hi : i < O.length) (h : ∀ j, j < i → okAt f l O j) (hn : ¬ okAt f l O i) (hr : r = .tup [.one .nils, I (i : Int), I 20]) (hm : m' = [some (bPl f l)])
  | limit (h : ∀ j, j < O.length → okAt f l O j) (hn : ¬ LayOK f l O) (hr : r = .tup [.one .nils, I (O.length : Int), I 14]) (hm : m' = [some (bPl f l)])
  | ok (h : LayOK f l O) (hr : r = .tup [.one (.own 1), I (O.length : Int), I 0]) (hm : m' = [some (bPl f l), some (rowB (bndA f l O O.length))])
theorem s37 (f : Fmt) (l : List Sng) (O : List Int) (hf : FmtOK f) (hg : SngsOK l) (hO : InR O l.length) (hl : O.length ≤ 100) : HSpec Try.prog 37 [.one (.ptr 0 0), .one (.lst true [.int .i64] (i64s O))] [bPl f l] (LyRs f l O) := by
  have lo := i64s_len O
  have lg := sngA_len l
  have hbd := atF_bd hf hg hO
  have hf1 := hf.outer
  have hf2 := hf.lead
  have hf3 := hf.gap
  have hf4 := hf.tail
  have hf5 := hf.inner
  refine spec_of pMix (O := []) Try.func37 (c := bodyOf Try.f37) rfl (by kernel_rfl) (by kernel_rfl) Try.ntmps37 (res := [.tmp 4, .tmp 5, .tmp 6]) (by kernel_rfl) ?_
  repeat' ((conv => whnf); first | refine Rng.g ?_ | refine Ob.g ?_ | refine Ob.e ?_ | refine Ob.m ?_ | refine Ob.mk (Nat.le_of_ble_eq_true rfl) ?_ | refine JoinVC.on ?_ | refine Nils.mk (fun h => ?_) ?_ | refine Val.t ?_ | refine Val.d ?_ | refine Mm.mk ?_ | (refine Br.mk (fun h => ?_) (fun h => ?_) <;> first | (exfalso; omega; done) | (exfalso; simp at h; done) | skip))
  refine LoopVC.mk (fun n st => ∃ (i : Nat), i ≤ O.length ∧ n = O.length - i ∧ (∀ j, j < i → okAt f l O j) ∧ st = ⟨1, envA 89 [(0, .x (.one (.ptr 0 0))), (1, .x (.one (.lst true [.int .i64] (i64s O)))), (7, .x (.one (.own 1))), (8, .int .i64 (atF f l O i)), (23, .x (.one (.lst true [.int .i64] (i64s O)))), (24, .int .i64 (O.length : Int)), (25, .int .i64 (i : Int))], [some (bPl f l), some (rowB (bndA f l O i))]⟩) _ _ ⟨0, Nat.zero_le _, rfl, fun j hj => absurd hj (Nat.not_lt_zero j), rfl⟩ ?_ ?_
  · refine ⟨[some 0, none], rfl, rfl, ?_, ?_⟩ <;> repeat' (first | exact trivial | exact rfl | exact Iff.rfl | apply And.intro)
    exact congrArg Int.ofNat lo
  rintro n _ ⟨i, hi, hn, hj, rfl⟩
  have lb := bndA_len f l O i
  have gi : rI (i64s O) (i : Int).toNat 0 = O.getD i 0 := by rw [Int.toNat_natCast]; exact i64s_get O i
  have hbi := hbd i hi
  by_cases hi' : i < O.length
  · have hr := hO i hi'
    obtain ⟨q, hq⟩ : ∃ q, O.getD i 0 = q := ⟨_, rfl⟩
    have c0 : rI (sngA l) q.toNat 0 = (l.getD q.toNat g0).long := sngA_0 l _
    have c1 : rI (sngA l) q.toNat (0 + 1) = (l.getD q.toNat g0).pitch := sngA_1 l _
    have c2 : rI (sngA l) q.toNat (0 + 1 + 1) = (l.getD q.toNat g0).least := sngA_2 l _
    have c3 : rI (sngA l) q.toNat (0 + (0 + 1 + 1)) = (l.getD q.toNat g0).least := sngA_2 l _
    rw [hq] at gi hr
    have hgk := hg.each q.toNat (by omega)
    have hw := (wid_bd hf.per.1 hgk).2
    have k1 := s43 f (some l) (l.getD q.toNat g0) hf hgk
    have ea : atF f l O (i + 1) = atF f l O i - (if 0 < i then f.gap else 0) - widF f (l.getD (O.getD i 0).toNat g0) := rfl
    rw [hq] at ea
    have eo : okAt f l O i ↔ (l.getD q.toNat g0).least ≤ atF f l O (i + 1) := by unfold okAt; rw [hq]
    by_cases h0 : 0 < i
    · have e1 : (if 0 < i then f.gap else 0) = f.gap := if_pos h0
      have e2 : (atF f l O i - f.gap) - widF f (l.getD q.toNat g0) = atF f l O (i + 1) := by rw [ea, e1]
      have hbj := hbd (i + 1) hi'
      have e3 : bndR f l O i = [Cell.int q, Cell.int (atF f l O i - f.gap), Cell.int (atF f l O (i + 1))] := by unfold bndR; rw [hq, e1]
      repeat' ((conv => whnf); first | rw [gi] | rw [c0] | rw [c1] | rw [c2] | refine Rng.g ?_ | refine Ob.g ?_ | refine Ob.e ?_ | refine Ob.m ?_ | refine Ob.mk (Nat.le_of_ble_eq_true rfl) ?_ | refine JoinVC.on ?_ | refine Nils.mk (fun h => ?_) ?_ | refine Val.t ?_ | refine Val.d ?_ | refine Mm.mk ?_ | (refine Br.mk (fun h => ?_) (fun h => ?_) <;> first | (exfalso; omega; done) | (exfalso; simp at h; done) | skip))
      conv => whnf
      refine CallVC.mk [0] _ _ _ rfl rfl rfl (k1) (fun r m' h' => ?_)
      obtain ⟨rfl, rfl⟩ := h'
      conv => whnf
      repeat' ((conv => whnf); first | rw [e2] | rw [c3] | refine Rng.g ?_ | refine Ob.g ?_ | refine Ob.e ?_ | refine Ob.m ?_ | refine Ob.mk (Nat.le_of_ble_eq_true rfl) ?_ | refine JoinVC.on ?_ | refine Nils.mk (fun h => ?_) ?_ | refine Val.t ?_ | refine Val.d ?_ | refine Mm.mk ?_ | (refine Br.mk (fun h => ?_) (fun h => ?_) <;> first | (exfalso; omega; done) | (exfalso; simp at h; done) | skip))
      · have hno : ¬ okAt f l O i := fun hk => by have := eo.1 hk; omega
        repeat refine Mm.mk ?_
        conv => whnf
        refine EndVC.mk _ rfl _ _ (.rule i hi' hj hno rfl rfl) ?_
        refine ⟨[some 0], rfl, rfl, ?_, ?_⟩ <;> repeat' (first | exact trivial | exact rfl | exact Iff.rfl | apply And.intro)
      · repeat refine Mm.mk ?_
        refine Ob.mk (by rw [eb116]; simp only [List.length_cons, List.length_nil]; omega) ?_
        repeat' ((conv => whnf); first | rw [e2] | rw [c3] | refine Rng.g ?_ | refine Ob.g ?_ | refine Ob.e ?_ | refine Ob.m ?_ | refine Ob.mk (Nat.le_of_ble_eq_true rfl) ?_ | refine JoinVC.on ?_ | refine Nils.mk (fun h => ?_) ?_ | refine Val.t ?_ | refine Val.d ?_ | refine Mm.mk ?_ | (refine Br.mk (fun h => ?_) (fun h => ?_) <;> first | (exfalso; omega; done) | (exfalso; simp at h; done) | skip))
        refine Back.mk (O.length - (i + 1)) _ (by omega) ⟨i + 1, by omega, rfl, fun j hj' => ?_, rfl⟩ ?_
        · rcases Nat.lt_succ_iff_lt_or_eq.1 hj' with h' | rfl
          · exact hj j h'
          · exact eo.2 (by omega)
        · rw [bndA_succ, e3]
          refine ⟨[some 0, some 4], rfl, rfl, ?_, ?_⟩ <;> repeat' (first | exact trivial | exact rfl | exact Iff.rfl | apply And.intro)
    · have e1 : (if 0 < i then f.gap else 0) = 0 := if_neg h0
      have e2 : (atF f l O i) - widF f (l.getD q.toNat g0) = atF f l O (i + 1) := by rw [ea, e1]; omega
      have hbj := hbd (i + 1) hi'
      have e3 : bndR f l O i = [Cell.int q, Cell.int (atF f l O i), Cell.int (atF f l O (i + 1))] := by unfold bndR; rw [hq, e1]; simp only [Int.sub_zero]
      repeat' ((conv => whnf); first | rw [gi] | rw [c0] | rw [c1] | rw [c2] | refine Rng.g ?_ | refine Ob.g ?_ | refine Ob.e ?_ | refine Ob.m ?_ | refine Ob.mk (Nat.le_of_ble_eq_true rfl) ?_ | refine JoinVC.on ?_ | refine Nils.mk (fun h => ?_) ?_ | refine Val.t ?_ | refine Val.d ?_ | refine Mm.mk ?_ | (refine Br.mk (fun h => ?_) (fun h => ?_) <;> first | (exfalso; omega; done) | (exfalso; simp at h; done) | skip))
      conv => whnf
      refine CallVC.mk [0] _ _ _ rfl rfl rfl (k1) (fun r m' h' => ?_)
      obtain ⟨rfl, rfl⟩ := h'
      conv => whnf
      repeat' ((conv => whnf); first | rw [e2] | rw [c3] | refine Rng.g ?_ | refine Ob.g ?_ | refine Ob.e ?_ | refine Ob.m ?_ | refine Ob.mk (Nat.le_of_ble_eq_true rfl) ?_ | refine JoinVC.on ?_ | refine Nils.mk (fun h => ?_) ?_ | refine Val.t ?_ | refine Val.d ?_ | refine Mm.mk ?_ | (refine Br.mk (fun h => ?_) (fun h => ?_) <;> first | (exfalso; omega; done) | (exfalso; simp at h; done) | skip))
      · have hno : ¬ okAt f l O i := fun hk => by have := eo.1 hk; omega
        repeat refine Mm.mk ?_
        conv => whnf
        refine EndVC.mk _ rfl _ _ (.rule i hi' hj hno rfl rfl) ?_
        refine ⟨[some 0], rfl, rfl, ?_, ?_⟩ <;> repeat' (first | exact trivial | exact rfl | exact Iff.rfl | apply And.intro)
      · repeat refine Mm.mk ?_
        refine Ob.mk (by rw [eb116]; simp only [List.length_cons, List.length_nil]; omega) ?_
        repeat' ((conv => whnf); first | rw [e2] | rw [c3] | refine Rng.g ?_ | refine Ob.g ?_ | refine Ob.e ?_ | refine Ob.m ?_ | refine Ob.mk (Nat.le_of_ble_eq_true rfl) ?_ | refine JoinVC.on ?_ | refine Nils.mk (fun h => ?_) ?_ | refine Val.t ?_ | refine Val.d ?_ | refine Mm.mk ?_ | (refine Br.mk (fun h => ?_) (fun h => ?_) <;> first | (exfalso; omega; done) | (exfalso; simp at h; done) | skip))
        refine Back.mk (O.length - (i + 1)) _ (by omega) ⟨i + 1, by omega, rfl, fun j hj' => ?_, rfl⟩ ?_
        · rcases Nat.lt_succ_iff_lt_or_eq.1 hj' with h' | rfl
          · exact hj j h'
          · exact eo.2 (by omega)
        · rw [bndA_succ, e3]
          refine ⟨[some 0, some 4], rfl, rfl, ?_, ?_⟩ <;> repeat' (first | exact trivial | exact rfl | exact Iff.rfl | apply And.intro)
  · have ei : i = O.length := by omega
    subst ei
    repeat' ((conv => whnf); first | rw [lo] | refine Rng.g ?_ | refine Ob.g ?_ | refine Ob.e ?_ | refine Ob.m ?_ | refine Ob.mk (Nat.le_of_ble_eq_true rfl) ?_ | refine JoinVC.on ?_ | refine Nils.mk (fun h => ?_) ?_ | refine Val.t ?_ | refine Val.d ?_ | refine Mm.mk ?_ | (refine Br.mk (fun h => ?_) (fun h => ?_) <;> first | (exfalso; omega; done) | (exfalso; simp at h; done) | skip))
    · repeat refine Mm.mk ?_
      conv => whnf
      refine EndVC.mk _ rfl _ _ (.limit hj (fun hL => (by have := hL.2; omega)) rfl rfl) ?_
      refine ⟨[some 0], rfl, rfl, ?_, ?_⟩ <;> repeat' (first | exact trivial | exact rfl | exact Iff.rfl | apply And.intro)
    · repeat refine Mm.mk ?_
      conv => whnf
      refine EndVC.mk _ rfl _ _ (.ok ⟨hj, by omega⟩ rfl rfl) ?_
      refine ⟨[some 0, some 1], rfl, rfl, ?_, ?_⟩ <;> repeat' (first | exact trivial | exact rfl | exact Iff.rfl | apply And.intro)
theorem allO_usu (l : List Sng) : allO l = usu l (spanL 0 l.length) := by
  unfold allO
  have h := isr_usu (l := l) (O := spanL 0 l.length) (at_nodup fun i j hi hj e => (span_idx l.length).inj i j (by rw [spanL_len] at hi; exact hi) (by rw [spanL_len] at hj; exact hj) e)
  rw [spanL_len] at h
  exact h
theorem span_ok (n : Nat) : OrdOK n (spanL 0 n) := ⟨fun i hi => (span_idx n).rng i (by rw [spanL_len] at hi; exact hi), fun i j hi hj e => (span_idx n).inj i j (by rw [spanL_len] at hi; exact hi) (by rw [spanL_len] at hj; exact hj) e⟩
end Go.Sx

namespace Go.Sx
open Go Go.Proofs
set_option maxRecDepth 10000
set_option maxHeartbeats 8000000
/-! ### Rows as arrays: for the sorts of the library -/
@[reducible] def rowA (d : Array Int) : Blk := rowOd d.toList
theorem arr_len (d : Array Int) : (i64s d.toList).length = d.size := by rw [i64s_len, Array.length_toList]
theorem arr_getD (d : Array Int) (i : Nat) : d.toList.getD i 0 = d[i]! := by
  rw [List.getD_eq_getElem?_getD, Array.getElem?_toList]
  by_cases h : i < d.size
  · rw [getElem!_pos d i h, Array.getElem?_eq_getElem h]; rfl
  · rw [getElem!_neg d i h, Array.getElem?_eq_none (by omega)]; rfl
theorem arr_get (d : Array Int) (i : Nat) : rI (i64s d.toList) i 0 = d[i]! := (i64s_get d.toList i).trans (arr_getD d i)
theorem arr_up1 (d : Array Int) (i : Nat) (v : Int) (h : i < d.size) : updRow (i64s d.toList) i 0 [.int v] = i64s (d.toList.set i v) := i64s_upd' _ _ _ (by rw [Array.length_toList]; exact h)
theorem arr_up2 (d : Array Int) (i j : Nat) (hj : j < d.size) : updRow (i64s (d.toList.set i d[j]!)) j 0 [.int d[i]!] = i64s (Go.Sort.swp d i j).toList := by
  rw [i64s_upd' _ _ _ (by rw [List.length_set, Array.length_toList]; exact hj)]
  unfold Go.Sort.swp
  rw [Array.toList_setIfInBounds, Array.toList_setIfInBounds]
theorem arr_l1 (d : Array Int) (i : Nat) (v : Int) : (i64s (d.toList.set i v)).length = d.size := by rw [i64s_len, List.length_set, Array.length_toList]
theorem swo_us (l : List Sng) : Go.Sort.SWO (usB l) where
  irrefl x := by
    cases h : usB l x x with
    | false => rfl
    | true => exact absurd h (usB_irr l x)
  trans x y z := usB_tr
  ntrans x y z h1 h2 := by
    cases h : usB l x z with
    | false => rfl
    | true =>
      have h1' : ¬ usB l x y = true := fun e => by rw [h1] at e; cases e
      have h2' : ¬ usB l y z = true := fun e => by rw [h2] at e; cases e
      rw [usB_iff] at h h1' h2'
      omega
/-- All of them are numbers below m. -/
def InA (d : Array Int) (m : Nat) : Prop := ∀ i, i < d.size → 0 ≤ d[i]! ∧ d[i]! < m
theorem InA.swp {d : Array Int} {m : Nat} (h : InA d m) {i j : Nat} (hi : i < d.size) (hj : j < d.size) : InA (Go.Sort.swp d i j) m := fun k hk => by
  rw [Go.Sort.size_swp] at hk
  rw [Go.Sort.swp_get d hi hj]
  split
  · exact h _ hi
  · split
    · exact h _ hj
    · exact h _ hk
theorem InA.perm {d d' : Array Int} {m a b : Nat} (h : InA d m) (hb : b ≤ d.size) (hp : Go.Sort.PermIn a b d d') : InA d' m := fun k hk => by
  have hs := hp.1
  by_cases hin : a ≤ k ∧ k < b
  · exact Go.Sort.permIn_all d d' a b (fun x => 0 ≤ x ∧ x < (m : Int)) hb hp (fun i _ h2 => h i (by omega)) k hin.1 hin.2
  · rw [hp.2.1 k (by omega)]
    exact h k (by omega)
theorem perm_in {d d' : Array Int} (h : Go.Sort.PermIn 0 d.size d d') : d'.toList.Perm d.toList := by
  have h3 := h.2.2
  have e : d.extract 0 d.size = d := by simp
  have e' : d'.extract 0 d.size = d' := by rw [← h.1]; simp
  rw [e, e'] at h3
  exact h3
theorem usF_yes {l : List Sng} {x y : Int} (h : usB l x y = true) : usF l x y < 0 := of_decide_eq_true h
theorem usF_no {l : List Sng} {x y : Int} (h : ¬ usB l x y = true) : ¬ usF l x y < 0 := fun hc => h (decide_eq_true hc)
/-! ### One round of each loop -/
section
variable {lt : Int → Int → Bool}
theorem insI_stop {a j : Nat} (d : Array Int) (h : j ≤ a) : Go.Sort.insInner lt a j d = d := by
  cases j with
  | zero => rfl
  | succ j =>
    unfold Go.Sort.insInner
    rw [if_neg (by simp; omega)]
theorem insI_no {a j : Nat} (d : Array Int) (h : ¬ lt d[j + 1]! d[j]! = true) : Go.Sort.insInner lt a (j + 1) d = d := by
  unfold Go.Sort.insInner
  rw [if_neg (by simp [h])]
theorem insI_yes {a j : Nat} (d : Array Int) (h : a < j + 1) (h2 : lt d[j + 1]! d[j]! = true) : Go.Sort.insInner lt a (j + 1) d = Go.Sort.insInner lt a j (Go.Sort.swp d (j + 1) j) := by
  conv => lhs; unfold Go.Sort.insInner
  rw [if_pos (by simp [h2]; omega)]
theorem insO_yes {a b i : Nat} (d : Array Int) (h : i < b) : Go.Sort.insOuter lt a b i d = Go.Sort.insOuter lt a b (i + 1) (Go.Sort.insInner lt a i d) := by
  conv => lhs; rw [Go.Sort.insOuter]
  rw [if_pos h]
theorem insO_no {a b i : Nat} (d : Array Int) (h : ¬ i < b) : Go.Sort.insOuter lt a b i d = d := by
  rw [Go.Sort.insOuter, if_neg h]
theorem sd_stop {hi first root : Nat} (d : Array Int) (h : 2 * root + 1 ≥ hi) : Go.Sort.siftDown lt hi first root d = d := by
  rw [Go.Sort.siftDown, dif_pos h]
theorem sd_r {hi first root : Nat} (d : Array Int) (h : 2 * root + 2 < hi) (h1 : lt d[first + (2 * root + 1)]! d[first + (2 * root + 1) + 1]! = true) (h2 : lt d[first + root]! d[first + (2 * root + 2)]! = true) : Go.Sort.siftDown lt hi first root d = Go.Sort.siftDown lt hi first (2 * root + 2) (Go.Sort.swp d (first + root) (first + (2 * root + 2))) := by
  conv => lhs; rw [Go.Sort.siftDown]
  rw [dif_neg (by omega), if_pos (by simp [h1]; omega), if_neg (by simp [h2]), dif_pos h]
theorem sd_r0 {hi first root : Nat} (d : Array Int) (h : 2 * root + 2 < hi) (h1 : lt d[first + (2 * root + 1)]! d[first + (2 * root + 1) + 1]! = true) (h2 : ¬ lt d[first + root]! d[first + (2 * root + 2)]! = true) : Go.Sort.siftDown lt hi first root d = d := by
  rw [Go.Sort.siftDown, dif_neg (by omega), if_pos (by simp [h1]; omega), if_pos (by simp [h2])]
theorem sd_l {hi first root : Nat} (d : Array Int) (h : 2 * root + 1 < hi) (h1 : ¬ (2 * root + 2 < hi ∧ lt d[first + (2 * root + 1)]! d[first + (2 * root + 1) + 1]! = true)) (h2 : lt d[first + root]! d[first + (2 * root + 1)]! = true) : Go.Sort.siftDown lt hi first root d = Go.Sort.siftDown lt hi first (2 * root + 1) (Go.Sort.swp d (first + root) (first + (2 * root + 1))) := by
  conv => lhs; rw [Go.Sort.siftDown]
  rw [dif_neg (by omega), if_neg (by simp only [Bool.and_eq_true, decide_eq_true_eq]; exact fun e => h1 ⟨by omega, e.2⟩), if_neg (by simp [h2])]
theorem sd_l0 {hi first root : Nat} (d : Array Int) (h : 2 * root + 1 < hi) (h1 : ¬ (2 * root + 2 < hi ∧ lt d[first + (2 * root + 1)]! d[first + (2 * root + 1) + 1]! = true)) (h2 : ¬ lt d[first + root]! d[first + (2 * root + 1)]! = true) : Go.Sort.siftDown lt hi first root d = d := by
  rw [Go.Sort.siftDown, dif_neg (by omega), if_neg (by simp only [Bool.and_eq_true, decide_eq_true_eq]; exact fun e => h1 ⟨by omega, e.2⟩), if_pos (by simp [h2])]
theorem sd_size {hi first : Nat} : ∀ (n root : Nat) (d : Array Int), hi - root ≤ n → (Go.Sort.siftDown lt hi first root d).size = d.size
  | 0, root, d, h => by rw [sd_stop d (by omega)]
  | n + 1, root, d, h => by
    rw [Go.Sort.siftDown]
    split
    · rfl
    · split
      · split
        · rfl
        · split
          · rw [sd_size n _ _ (by omega), Go.Sort.size_swp]
          · rfl
      · split
        · rfl
        · rw [sd_size n _ _ (by omega), Go.Sort.size_swp]
theorem su_yes {p : Int → Bool} {j i : Nat} {d : Array Int} (h : i ≤ j) (h2 : p d[i]! = true) : Go.Sort.scanUp p d j i = Go.Sort.scanUp p d j (i + 1) := by
  conv => lhs; rw [Go.Sort.scanUp]
  rw [if_pos (by simp [h2, h])]
theorem su_no {p : Int → Bool} {j i : Nat} {d : Array Int} (h : ¬ (i ≤ j ∧ p d[i]! = true)) : Go.Sort.scanUp p d j i = i := by
  rw [Go.Sort.scanUp, if_neg (by simp only [Bool.and_eq_true, decide_eq_true_eq]; exact h)]
theorem sn_yes {p : Int → Bool} {j i : Nat} {d : Array Int} (h : i ≤ j + 1) (h2 : p d[j + 1]! = true) : Go.Sort.scanDown p d i (j + 1) = Go.Sort.scanDown p d i j := by
  conv => lhs; unfold Go.Sort.scanDown
  rw [if_pos (by simp [h2, h])]
theorem sn_no {p : Int → Bool} {j i : Nat} {d : Array Int} (h : ¬ (i ≤ j ∧ p d[j]! = true)) : Go.Sort.scanDown p d i j = j := by
  cases j with
  | zero => rfl
  | succ j =>
    unfold Go.Sort.scanDown
    rw [if_neg (by simp only [Bool.and_eq_true, decide_eq_true_eq]; exact h)]
theorem ss_yes {b i : Nat} {d : Array Int} (h : i < b) (h2 : ¬ lt d[i]! d[i - 1]! = true) : Go.Sort.scanSorted lt d b i = Go.Sort.scanSorted lt d b (i + 1) := by
  conv => lhs; rw [Go.Sort.scanSorted]
  rw [if_pos (by simp [h2, h])]
theorem ss_no {b i : Nat} {d : Array Int} (h : ¬ (i < b ∧ ¬ lt d[i]! d[i - 1]! = true)) : Go.Sort.scanSorted lt d b i = i := by
  rw [Go.Sort.scanSorted, if_neg (by simp only [Bool.and_eq_true, decide_eq_true_eq, Bool.not_eq_true', Bool.not_eq_true] at h ⊢; exact h)]
/-- The short parts of partialInsertionSort. -/
theorem pi_short {a b : Nat} (d : Array Int) (h : b - a < 50) : Go.Sort.partialInsertionSort lt d a b = (d, decide (Go.Sort.scanSorted lt d b (a + 1) = b)) := by
  unfold Go.Sort.partialInsertionSort
  rw [Go.Sort.partialIns_succ]
  by_cases e : Go.Sort.scanSorted lt d b (a + 1) = b
  · simp [e]
  · simp [e, h]
theorem scan_facts {p q : Int → Bool} (hq : ∀ x, q x = !p x) (d : Array Int) {i j I J : Nat} (ha : 0 < i) (hij : i ≤ j + 1) (hI : Go.Sort.scanUp p d j i = I) (hJ : Go.Sort.scanDown q d I j = J) : i ≤ I ∧ I ≤ j + 1 ∧ J ≤ j ∧ I ≤ J + 1 ∧ (¬ J < I → I < J) := by
  obtain ⟨h1, h2, h3, h4, _, _, h5⟩ := Go.Sort.round_facts p q hq d (i - 1) (j + 1) i j (by omega) hij (fun t h1 h2 => by omega) (fun t h1 h2 => by omega)
  rw [hI] at h1 h2 h3 h4 h5
  rw [hJ] at h3 h4 h5
  exact ⟨h1, h2, h3, h4, fun h => (h5 (by omega)).2.2⟩
theorem part_t {d : Array Int} {a b p I J : Nat} (hI : Go.Sort.scanUp (fun x => lt x (Go.Sort.swp d a p)[a]!) (Go.Sort.swp d a p) (b - 1) (a + 1) = I) (hJ : Go.Sort.scanDown (fun x => !lt x (Go.Sort.swp d a p)[a]!) (Go.Sort.swp d a p) I (b - 1) = J) (h : J < I) : Go.Sort.partition lt d a b p = (J, true, Go.Sort.swp (Go.Sort.swp d a p) J a) := by
  unfold Go.Sort.partition
  simp only [hI, hJ]
  rw [if_pos h]
theorem part_f {d : Array Int} {a b p I J ZJ : Nat} {ZV : Array Int} (hI : Go.Sort.scanUp (fun x => lt x (Go.Sort.swp d a p)[a]!) (Go.Sort.swp d a p) (b - 1) (a + 1) = I) (hJ : Go.Sort.scanDown (fun x => !lt x (Go.Sort.swp d a p)[a]!) (Go.Sort.swp d a p) I (b - 1) = J) (h : ¬ J < I) (hZ : Go.Sort.partLoop lt a (I + 1) (J - 1) (Go.Sort.swp (Go.Sort.swp d a p) I J) = (ZJ, ZV)) : Go.Sort.partition lt d a b p = (ZJ, false, Go.Sort.swp ZV ZJ a) := by
  unfold Go.Sort.partition
  simp only [hI, hJ]
  rw [if_neg h]
  simp only [hZ]
theorem ploop_t {d : Array Int} {a i j I J : Nat} (hI : Go.Sort.scanUp (fun x => lt x d[a]!) d j i = I) (hJ : Go.Sort.scanDown (fun x => !lt x d[a]!) d I j = J) (h : J < I) : Go.Sort.partLoop lt a i j d = (J, d) := by
  rw [Go.Sort.partLoop_eq]
  simp only [hI, hJ]
  rw [if_pos h]
theorem ploop_f {d : Array Int} {a i j I J : Nat} (hI : Go.Sort.scanUp (fun x => lt x d[a]!) d j i = I) (hJ : Go.Sort.scanDown (fun x => !lt x d[a]!) d I j = J) (h : ¬ J < I) : Go.Sort.partLoop lt a i j d = Go.Sort.partLoop lt a (I + 1) (J - 1) (Go.Sort.swp d I J) := by
  conv => lhs; rw [Go.Sort.partLoop_eq]
  simp only [hI, hJ]
  rw [if_neg h]
theorem pel_t {d : Array Int} {a i j I J : Nat} (hI : Go.Sort.scanUp (fun x => !lt d[a]! x) d j i = I) (hJ : Go.Sort.scanDown (fun x => lt d[a]! x) d I j = J) (h : J < I) : Go.Sort.partEqLoop lt a i j d = (I, d) := by
  rw [Go.Sort.partEqLoop_eq]
  simp only [hI, hJ]
  rw [if_pos h]
theorem pel_f {d : Array Int} {a i j I J : Nat} (hI : Go.Sort.scanUp (fun x => !lt d[a]! x) d j i = I) (hJ : Go.Sort.scanDown (fun x => lt d[a]! x) d I j = J) (h : ¬ J < I) : Go.Sort.partEqLoop lt a i j d = Go.Sort.partEqLoop lt a (I + 1) (J - 1) (Go.Sort.swp d I J) := by
  conv => lhs; rw [Go.Sort.partEqLoop_eq]
  simp only [hI, hJ]
  rw [if_neg h]
end
end Go.Sx

namespace Go.Sx
open Go Go.Proofs
set_option maxRecDepth 10000
set_option maxHeartbeats 16000000
/-! ### Insertion -/
theorem cins (f : Fmt) (l : List Sng) (d : Array Int) (hz : d.size ≤ 1000) (hI : InA d l.length) (a b : Nat) (hab : a ≤ b) (hb : b ≤ d.size) : HSpec Try.prog 102 [.one (.own 0), I (a : Int), I (b : Int), .one (.bnd 74 false [.ptr 1 0])] [rowA (d), bPl f l] (fun r m' => r = .tup [] ∧ m' = [some (rowA (Go.Sort.insertionSort (usB l) d a b)), some (bPl f l)]) := by
  obtain ⟨Z, hZ⟩ : ∃ Z, Go.Sort.insOuter (usB l) a b (a + 1) d = Z := ⟨_, rfl⟩
  have hZ' : Go.Sort.insertionSort (usB l) d a b = Z := hZ
  rw [hZ']
  refine spec_of pMix (O := [(6, ([], [⟨0, [], []⟩, ⟨1, [], []⟩, ⟨2, [], []⟩, ⟨3, [], []⟩, ⟨4, [], []⟩, ⟨5, [], []⟩, ⟨6, [], []⟩, ⟨7, [], []⟩, ⟨8, [], []⟩, ⟨9, [], []⟩, ⟨10, [], []⟩, ⟨11, [], []⟩, ⟨12, [], []⟩, ⟨13, [], []⟩, ⟨14, [], []⟩, ⟨15, [2, 3, 4], []⟩, ⟨16, [], []⟩, ⟨17, [], []⟩]))]) Try.func102 (c := bodyOf Try.f102) rfl (by kernel_rfl) (by kernel_rfl) Try.ntmps102 (res := []) (by kernel_rfl) ?_
  repeat' ((conv => whnf); first | refine Rng.g ?_ | refine Ob.g ?_ | refine Ob.e ?_ | refine Ob.m ?_ | refine Ob.mk (Nat.le_of_ble_eq_true rfl) ?_ | refine JoinVC.on ?_ | refine Nils.mk (fun h => ?_) ?_ | refine Val.t ?_ | refine Val.d ?_ | refine Mm.mk ?_ | (refine Br.mk (fun h => ?_) (fun h => ?_) <;> first | (exfalso; omega; done) | (exfalso; simp at h; done) | skip))
  refine LoopVC.mk (fun m st => ∃ (i : Nat) (V : Array Int), a + 1 ≤ i ∧ i ≤ b + 1 ∧ m = b + 1 - i ∧ V.size = d.size ∧ InA V l.length ∧ Go.Sort.insOuter (usB l) a b i V = Z ∧ st = ⟨2, envA 53 [(0, .x (.one (.own 0))), (1, .x (I (a : Int))), (2, .x (I (b : Int))), (3, .x (.one (.bnd 74 false [.ptr 1 0]))), (8, .int .i64 (i : Int))], [some (rowA (V)), some (bPl f l)]⟩) _ _ ⟨a + 1, d, Nat.le_refl _, by omega, rfl, rfl, hI, hZ, rfl⟩ ?_ ?_
  · refine ⟨[some 0, some 1], rfl, rfl, ?_, ?_⟩ <;> repeat' (first | exact trivial | exact rfl | exact Iff.rfl | apply And.intro)
  rintro m _ ⟨i, V, h1, h2, hm, lV, hV, hi, rfl⟩
  have la := arr_len V
  by_cases hib : i < b
  rotate_left
  · rw [insO_no V hib] at hi
    subst hi
    repeat' ((conv => whnf); first | refine Rng.g ?_ | refine Ob.g ?_ | refine Ob.e ?_ | refine Ob.m ?_ | refine Ob.mk (Nat.le_of_ble_eq_true rfl) ?_ | refine JoinVC.on ?_ | refine Nils.mk (fun h => ?_) ?_ | refine Val.t ?_ | refine Val.d ?_ | refine Mm.mk ?_ | (refine Br.mk (fun h => ?_) (fun h => ?_) <;> first | (exfalso; omega; done) | (exfalso; simp at h; done) | skip))
    repeat refine Mm.mk ?_
    refine EndVC.mk _ rfl _ _ ⟨rfl, rfl⟩ ?_
    refine ⟨[some 0, some 1], rfl, rfl, ?_, ?_⟩ <;> repeat' (first | exact trivial | exact rfl | exact Iff.rfl | apply And.intro)
  rw [insO_yes V hib] at hi
  obtain ⟨Y, hY⟩ : ∃ Y, Go.Sort.insInner (usB l) a i V = Y := ⟨_, rfl⟩
  rw [hY] at hi
  repeat' ((conv => whnf); first | refine Rng.g ?_ | refine Ob.g ?_ | refine Ob.e ?_ | refine Ob.m ?_ | refine Ob.mk (Nat.le_of_ble_eq_true rfl) ?_ | refine JoinVC.on ?_ | refine Nils.mk (fun h => ?_) ?_ | refine Val.t ?_ | refine Val.d ?_ | refine Mm.mk ?_ | (refine Br.mk (fun h => ?_) (fun h => ?_) <;> first | (exfalso; omega; done) | (exfalso; simp at h; done) | skip))
  refine LoopVC.mk (fun m st => ∃ (j : Nat) (W : Array Int), j ≤ i ∧ m = j ∧ W.size = d.size ∧ InA W l.length ∧ Go.Sort.insInner (usB l) a j W = Y ∧ st = ⟨2, envA 53 [(0, .x (.one (.own 0))), (1, .x (I (a : Int))), (2, .x (I (b : Int))), (3, .x (.one (.bnd 74 false [.ptr 1 0]))), (8, .int .i64 (i : Int)), (9, .int .i64 (j : Int))], [some (rowA (W)), some (bPl f l)]⟩) _ _ ⟨i, V, Nat.le_refl _, rfl, lV, hV, hY, rfl⟩ ?_ ?_
  · refine ⟨[some 0, some 1], rfl, rfl, ?_, ?_⟩ <;> repeat' (first | exact trivial | exact rfl | exact Iff.rfl | apply And.intro)
  clear hY hV lV la V
  rintro m2 _ ⟨j, V, hj, hm2, lV, hV, hY, rfl⟩
  have la := arr_len V
  by_cases haj : a < j
  rotate_left
  · rw [insI_stop V (by omega)] at hY
    subst hY
    repeat' ((conv => whnf); first | refine Rng.g ?_ | refine Ob.g ?_ | refine Ob.e ?_ | refine Ob.m ?_ | refine Ob.mk (Nat.le_of_ble_eq_true rfl) ?_ | refine JoinVC.on ?_ | refine Nils.mk (fun h => ?_) ?_ | refine Val.t ?_ | refine Val.d ?_ | refine Mm.mk ?_ | (refine Br.mk (fun h => ?_) (fun h => ?_) <;> first | (exfalso; omega; done) | (exfalso; simp at h; done) | skip))
    refine Back.mk (b + 1 - (i + 1)) _ (by omega) ⟨i + 1, V, by omega, by omega, rfl, lV, hV, hi, rfl⟩ ?_
    refine ⟨[some 0, some 1], rfl, rfl, ?_, ?_⟩ <;> repeat' (first | exact trivial | exact rfl | exact Iff.rfl | apply And.intro)
  obtain ⟨k, rfl⟩ : ∃ k, j = k + 1 := ⟨j - 1, by omega⟩
  have g1 : rI (i64s V.toList) (((k + 1 : Nat) : Int)).toNat 0 = V[k + 1]! := by rw [show (((k + 1 : Nat) : Int)).toNat = k + 1 by omega]; exact arr_get V _
  have g2 : rI (i64s V.toList) (((k + 1 : Nat) : Int) - 1).toNat 0 = V[k]! := by rw [show (((k + 1 : Nat) : Int) - 1).toNat = k by omega]; exact arr_get V _
  repeat' ((conv => whnf); first | rw [g1] | rw [g2] | refine Rng.g ?_ | refine Ob.g ?_ | refine Ob.e ?_ | refine Ob.m ?_ | refine Ob.mk (Nat.le_of_ble_eq_true rfl) ?_ | refine JoinVC.on ?_ | refine Nils.mk (fun h => ?_) ?_ | refine Val.t ?_ | refine Val.d ?_ | refine Mm.mk ?_ | (refine Br.mk (fun h => ?_) (fun h => ?_) <;> first | (exfalso; omega; done) | (exfalso; simp at h; done) | skip))
  conv => whnf
  refine CallVC.mk [1] _ _ _ rfl rfl rfl (s74 f l V[k + 1]! V[k]! (hV (k + 1) (by omega)) (hV k (by omega))) (fun r m' h' => ?_)
  obtain ⟨rfl, rfl⟩ := h'
  conv => whnf
  by_cases hlt : (usB l) V[k + 1]! V[k]! = true
  · have hc := usF_yes hlt
    have u1 : updRow (i64s V.toList) (((k + 1 : Nat) : Int)).toNat 0 [Cell.int V[k]!] = i64s (V.toList.set (k + 1) V[k]!) := by rw [show (((k + 1 : Nat) : Int)).toNat = k + 1 by omega]; exact arr_up1 V _ _ (by omega)
    have u2 : updRow (i64s (V.toList.set (k + 1) V[k]!)) (((k + 1 : Nat) : Int) - 1).toNat 0 [Cell.int V[k + 1]!] = i64s (Go.Sort.swp V (k + 1) (k)).toList := by rw [show (((k + 1 : Nat) : Int) - 1).toNat = k by omega]; exact arr_up2 V _ _ (by omega)
    have la1 := arr_l1 V (k + 1) V[k]!
    have la2 := arr_len (Go.Sort.swp V (k + 1) (k))
    have ls2 := Go.Sort.size_swp V (k + 1) (k)
    rw [insI_yes V haj hlt] at hY
    repeat' ((conv => whnf); first | rw [g1] | rw [g2] | rw [u1] | rw [u2] | refine Rng.g ?_ | refine Ob.g ?_ | refine Ob.e ?_ | refine Ob.m ?_ | refine Ob.mk (Nat.le_of_ble_eq_true rfl) ?_ | refine JoinVC.on ?_ | refine Nils.mk (fun h => ?_) ?_ | refine Val.t ?_ | refine Val.d ?_ | refine Mm.mk ?_ | (refine Br.mk (fun h => ?_) (fun h => ?_) <;> first | (exfalso; omega; done) | (exfalso; simp at h; done) | skip))
    refine Back.mk k _ (by omega) ⟨k, Go.Sort.swp V (k + 1) k, by omega, rfl, by omega, hV.swp (by omega) (by omega), hY, rfl⟩ ?_
    refine ⟨[some 0, some 1], rfl, rfl, ?_, ?_⟩ <;> repeat' (first | exact trivial | exact rfl | exact Iff.rfl | apply And.intro)
    all_goals omega
  · have hc := usF_no hlt
    rw [insI_no V hlt] at hY
    subst hY
    repeat' ((conv => whnf); first | rw [g1] | rw [g2] | refine Rng.g ?_ | refine Ob.g ?_ | refine Ob.e ?_ | refine Ob.m ?_ | refine Ob.mk (Nat.le_of_ble_eq_true rfl) ?_ | refine JoinVC.on ?_ | refine Nils.mk (fun h => ?_) ?_ | refine Val.t ?_ | refine Val.d ?_ | refine Mm.mk ?_ | (refine Br.mk (fun h => ?_) (fun h => ?_) <;> first | (exfalso; omega; done) | (exfalso; simp at h; done) | skip))
    refine Back.mk (b + 1 - (i + 1)) _ (by omega) ⟨i + 1, V, by omega, by omega, rfl, lV, hV, hi, rfl⟩ ?_
    refine ⟨[some 0, some 1], rfl, rfl, ?_, ?_⟩ <;> repeat' (first | exact trivial | exact rfl | exact Iff.rfl | apply And.intro)
/-! ### Heaps -/
theorem csd (f : Fmt) (l : List Sng) (d : Array Int) (hz : d.size ≤ 1000) (hI : InA d l.length) (lo hi first : Nat) (hf : first + hi ≤ d.size) (hl : lo ≤ 1000) : HSpec Try.prog 119 [.one (.own 0), I (lo : Int), I (hi : Int), I (first : Int), .one (.bnd 74 false [.ptr 1 0])] [rowA (d), bPl f l] (fun r m' => r = .tup [] ∧ m' = [some (rowA (Go.Sort.siftDown (usB l) hi first lo d)), some (bPl f l)]) := by
  obtain ⟨Z, hZ⟩ : ∃ Z, Go.Sort.siftDown (usB l) hi first lo d = Z := ⟨_, rfl⟩
  rw [hZ]
  refine spec_of pMix (O := [(6, ([], [⟨0, [], []⟩, ⟨1, [], []⟩, ⟨2, [], []⟩, ⟨3, [], []⟩, ⟨4, [], []⟩, ⟨5, [], []⟩, ⟨6, [], []⟩, ⟨7, [], []⟩, ⟨8, [], []⟩, ⟨9, [], []⟩, ⟨10, [], []⟩, ⟨11, [], []⟩, ⟨12, [], []⟩, ⟨13, [], []⟩, ⟨14, [], []⟩, ⟨15, [], []⟩, ⟨16, [], []⟩, ⟨17, [], []⟩, ⟨18, [], []⟩, ⟨19, [], []⟩, ⟨20, [], []⟩, ⟨21, [4, 5, 6, 7], []⟩, ⟨22, [], []⟩, ⟨23, [], []⟩]))]) Try.func119 (c := bodyOf Try.f119) rfl (by kernel_rfl) (by kernel_rfl) Try.ntmps119 (res := []) (by kernel_rfl) ?_
  repeat' ((conv => whnf); first | refine Rng.g ?_ | refine Ob.g ?_ | refine Ob.e ?_ | refine Ob.m ?_ | refine Ob.mk (Nat.le_of_ble_eq_true rfl) ?_ | refine JoinVC.on ?_ | refine Nils.mk (fun h => ?_) ?_ | refine Val.t ?_ | refine Val.d ?_ | refine Mm.mk ?_ | (refine Br.mk (fun h => ?_) (fun h => ?_) <;> first | (exfalso; omega; done) | (exfalso; simp at h; done) | skip))
  refine LoopVC.mk (fun m st => ∃ (root : Nat) (V : Array Int), (root = lo ∨ root < hi) ∧ m = hi - root ∧ V.size = d.size ∧ InA V l.length ∧ Go.Sort.siftDown (usB l) hi first root V = Z ∧ st = ⟨2, envA 82 [(0, .x (.one (.own 0))), (1, .x (I (lo : Int))), (2, .x (I (hi : Int))), (3, .x (I (first : Int))), (4, .x (.one (.bnd 74 false [.ptr 1 0]))), (10, .int .i64 (root : Int))], [some (rowA (V)), some (bPl f l)]⟩) _ _ ⟨lo, d, .inl rfl, rfl, rfl, hI, hZ, rfl⟩ ?_ ?_
  · refine ⟨[some 0, some 1], rfl, rfl, ?_, ?_⟩ <;> repeat' (first | exact trivial | exact rfl | exact Iff.rfl | apply And.intro)
  clear hZ
  rintro m _ ⟨root, V, hr, hm, lV, hV, hZ, rfl⟩
  have la := arr_len V
  by_cases hs : 2 * root + 1 ≥ hi
  · rw [sd_stop V hs] at hZ
    subst hZ
    repeat' ((conv => whnf); first | refine Rng.g ?_ | refine Ob.g ?_ | refine Ob.e ?_ | refine Ob.m ?_ | refine Ob.mk (Nat.le_of_ble_eq_true rfl) ?_ | refine JoinVC.on ?_ | refine Nils.mk (fun h => ?_) ?_ | refine Val.t ?_ | refine Val.d ?_ | refine Mm.mk ?_ | (refine Br.mk (fun h => ?_) (fun h => ?_) <;> first | (exfalso; omega; done) | (exfalso; simp at h; done) | skip))
    repeat refine Mm.mk ?_
    refine EndVC.mk _ rfl _ _ ⟨rfl, rfl⟩ ?_
    refine ⟨[some 0, some 1], rfl, rfl, ?_, ?_⟩ <;> repeat' (first | exact trivial | exact rfl | exact Iff.rfl | apply And.intro)
  have hs' : 2 * root + 1 < hi := by omega
  have g0 : rI (i64s V.toList) ((first : Int) + (root : Int)).toNat 0 = V[first + root]! := by rw [show ((first : Int) + (root : Int)).toNat = first + root by omega]; exact arr_get V _
  have g1 : rI (i64s V.toList) ((first : Int) + (2 * (root : Int) + 1)).toNat 0 = V[first + (2 * root + 1)]! := by rw [show ((first : Int) + (2 * (root : Int) + 1)).toNat = first + (2 * root + 1) by omega]; exact arr_get V _
  have g2 : rI (i64s V.toList) ((first : Int) + (2 * (root : Int) + 1) + 1).toNat 0 = V[first + (2 * root + 1) + 1]! := by rw [show ((first : Int) + (2 * (root : Int) + 1) + 1).toNat = first + (2 * root + 1) + 1 by omega]; exact arr_get V _
  have g3 : rI (i64s V.toList) ((first : Int) + (2 * (root : Int) + 1 + 1)).toNat 0 = V[first + (2 * root + 2)]! := by rw [show ((first : Int) + (2 * (root : Int) + 1 + 1)).toNat = first + (2 * root + 2) by omega]; exact arr_get V _
  by_cases hr2 : 2 * root + 2 < hi
  rotate_left
  · have hno : ¬ (2 * root + 2 < hi ∧ (usB l) V[first + (2 * root + 1)]! V[first + (2 * root + 1) + 1]! = true) := fun h => hr2 h.1
    repeat' ((conv => whnf); first | rw [g0] | rw [g1] | refine Rng.g ?_ | refine Ob.g ?_ | refine Ob.e ?_ | refine Ob.m ?_ | refine Ob.mk (Nat.le_of_ble_eq_true rfl) ?_ | refine JoinVC.on ?_ | refine Nils.mk (fun h => ?_) ?_ | refine Val.t ?_ | refine Val.d ?_ | refine Mm.mk ?_ | (refine Br.mk (fun h => ?_) (fun h => ?_) <;> first | (exfalso; omega; done) | (exfalso; simp at h; done) | skip))
    conv => whnf
    refine CallVC.mk [1] _ _ _ rfl rfl rfl (s74 f l V[first + root]! V[first + (2 * root + 1)]! (hV (first + root) (by omega)) (hV (first + (2 * root + 1)) (by omega))) (fun r m' h' => ?_)
    obtain ⟨rfl, rfl⟩ := h'
    conv => whnf
    by_cases h2 : (usB l) V[first + root]! V[first + (2 * root + 1)]! = true
    · have hc := usF_yes h2
      rw [sd_l V hs' hno h2] at hZ
      have u1 : updRow (i64s V.toList) ((first : Int) + (root : Int)).toNat 0 [Cell.int V[first + (2 * root + 1)]!] = i64s (V.toList.set (first + root) V[first + (2 * root + 1)]!) := by rw [show ((first : Int) + (root : Int)).toNat = first + root by omega]; exact arr_up1 V _ _ (by omega)
      have u2 : updRow (i64s (V.toList.set (first + root) V[first + (2 * root + 1)]!)) ((first : Int) + (2 * (root : Int) + 1)).toNat 0 [Cell.int V[first + root]!] = i64s (Go.Sort.swp V (first + root) (first + (2 * root + 1))).toList := by rw [show ((first : Int) + (2 * (root : Int) + 1)).toNat = first + (2 * root + 1) by omega]; exact arr_up2 V _ _ (by omega)
      have la1 := arr_l1 V (first + root) V[first + (2 * root + 1)]!
      have la2 := arr_len (Go.Sort.swp V (first + root) (first + (2 * root + 1)))
      have ls2 := Go.Sort.size_swp V (first + root) (first + (2 * root + 1))
      repeat' ((conv => whnf); first | rw [g0] | rw [g1] | rw [u1] | rw [u2] | refine Rng.g ?_ | refine Ob.g ?_ | refine Ob.e ?_ | refine Ob.m ?_ | refine Ob.mk (Nat.le_of_ble_eq_true rfl) ?_ | refine JoinVC.on ?_ | refine Nils.mk (fun h => ?_) ?_ | refine Val.t ?_ | refine Val.d ?_ | refine Mm.mk ?_ | (refine Br.mk (fun h => ?_) (fun h => ?_) <;> first | (exfalso; omega; done) | (exfalso; simp at h; done) | skip))
      refine Back.mk (hi - (2 * root + 1)) _ (by omega) ⟨2 * root + 1, _, .inr hs', rfl, by omega, hV.swp (by omega) (by omega), hZ, rfl⟩ ?_
      refine ⟨[some 0, some 1], rfl, rfl, ?_, ?_⟩ <;> repeat' (first | exact trivial | exact rfl | exact Iff.rfl | apply And.intro)
    · have hc := usF_no h2
      rw [sd_l0 V hs' hno h2] at hZ
      subst hZ
      repeat' ((conv => whnf); first | rw [g0] | rw [g1] | refine Rng.g ?_ | refine Ob.g ?_ | refine Ob.e ?_ | refine Ob.m ?_ | refine Ob.mk (Nat.le_of_ble_eq_true rfl) ?_ | refine JoinVC.on ?_ | refine Nils.mk (fun h => ?_) ?_ | refine Val.t ?_ | refine Val.d ?_ | refine Mm.mk ?_ | (refine Br.mk (fun h => ?_) (fun h => ?_) <;> first | (exfalso; omega; done) | (exfalso; simp at h; done) | skip))
      repeat refine Mm.mk ?_
      refine EndVC.mk _ rfl _ _ ⟨rfl, rfl⟩ ?_
      refine ⟨[some 0, some 1], rfl, rfl, ?_, ?_⟩ <;> repeat' (first | exact trivial | exact rfl | exact Iff.rfl | apply And.intro)
  repeat' ((conv => whnf); first | rw [g0] | rw [g1] | rw [g2] | refine Rng.g ?_ | refine Ob.g ?_ | refine Ob.e ?_ | refine Ob.m ?_ | refine Ob.mk (Nat.le_of_ble_eq_true rfl) ?_ | refine JoinVC.on ?_ | refine Nils.mk (fun h => ?_) ?_ | refine Val.t ?_ | refine Val.d ?_ | refine Mm.mk ?_ | (refine Br.mk (fun h => ?_) (fun h => ?_) <;> first | (exfalso; omega; done) | (exfalso; simp at h; done) | skip))
  conv => whnf
  refine CallVC.mk [1] _ _ _ rfl rfl rfl (s74 f l V[first + (2 * root + 1)]! V[first + (2 * root + 1) + 1]! (hV (first + (2 * root + 1)) (by omega)) (hV (first + (2 * root + 1) + 1) (by omega))) (fun r m' h' => ?_)
  obtain ⟨rfl, rfl⟩ := h'
  conv => whnf
  by_cases h1 : (usB l) V[first + (2 * root + 1)]! V[first + (2 * root + 1) + 1]! = true
  · have hc1 := usF_yes h1
    repeat' ((conv => whnf); first | rw [g0] | rw [g3] | refine Rng.g ?_ | refine Ob.g ?_ | refine Ob.e ?_ | refine Ob.m ?_ | refine Ob.mk (Nat.le_of_ble_eq_true rfl) ?_ | refine JoinVC.on ?_ | refine Nils.mk (fun h => ?_) ?_ | refine Val.t ?_ | refine Val.d ?_ | refine Mm.mk ?_ | (refine Br.mk (fun h => ?_) (fun h => ?_) <;> first | (exfalso; omega; done) | (exfalso; simp at h; done) | skip))
    conv => whnf
    refine CallVC.mk [1] _ _ _ rfl rfl rfl (s74 f l V[first + root]! V[first + (2 * root + 2)]! (hV (first + root) (by omega)) (hV (first + (2 * root + 2)) (by omega))) (fun r m' h' => ?_)
    obtain ⟨rfl, rfl⟩ := h'
    conv => whnf
    by_cases h2 : (usB l) V[first + root]! V[first + (2 * root + 2)]! = true
    · have hc := usF_yes h2
      rw [sd_r V hr2 h1 h2] at hZ
      have u1 : updRow (i64s V.toList) ((first : Int) + (root : Int)).toNat 0 [Cell.int V[first + (2 * root + 2)]!] = i64s (V.toList.set (first + root) V[first + (2 * root + 2)]!) := by rw [show ((first : Int) + (root : Int)).toNat = first + root by omega]; exact arr_up1 V _ _ (by omega)
      have u2 : updRow (i64s (V.toList.set (first + root) V[first + (2 * root + 2)]!)) ((first : Int) + (2 * (root : Int) + 1 + 1)).toNat 0 [Cell.int V[first + root]!] = i64s (Go.Sort.swp V (first + root) (first + (2 * root + 2))).toList := by rw [show ((first : Int) + (2 * (root : Int) + 1 + 1)).toNat = first + (2 * root + 2) by omega]; exact arr_up2 V _ _ (by omega)
      have la1 := arr_l1 V (first + root) V[first + (2 * root + 2)]!
      have la2 := arr_len (Go.Sort.swp V (first + root) (first + (2 * root + 2)))
      have ls2 := Go.Sort.size_swp V (first + root) (first + (2 * root + 2))
      repeat' ((conv => whnf); first | rw [g0] | rw [g3] | rw [u1] | rw [u2] | refine Rng.g ?_ | refine Ob.g ?_ | refine Ob.e ?_ | refine Ob.m ?_ | refine Ob.mk (Nat.le_of_ble_eq_true rfl) ?_ | refine JoinVC.on ?_ | refine Nils.mk (fun h => ?_) ?_ | refine Val.t ?_ | refine Val.d ?_ | refine Mm.mk ?_ | (refine Br.mk (fun h => ?_) (fun h => ?_) <;> first | (exfalso; omega; done) | (exfalso; simp at h; done) | skip))
      refine Back.mk (hi - (2 * root + 2)) _ (by omega) ⟨2 * root + 2, _, .inr hr2, rfl, by omega, hV.swp (by omega) (by omega), hZ, rfl⟩ ?_
      refine ⟨[some 0, some 1], rfl, rfl, ?_, ?_⟩ <;> repeat' (first | exact trivial | exact rfl | exact Iff.rfl | apply And.intro)
      all_goals omega
    · have hc := usF_no h2
      rw [sd_r0 V hr2 h1 h2] at hZ
      subst hZ
      repeat' ((conv => whnf); first | rw [g0] | rw [g3] | refine Rng.g ?_ | refine Ob.g ?_ | refine Ob.e ?_ | refine Ob.m ?_ | refine Ob.mk (Nat.le_of_ble_eq_true rfl) ?_ | refine JoinVC.on ?_ | refine Nils.mk (fun h => ?_) ?_ | refine Val.t ?_ | refine Val.d ?_ | refine Mm.mk ?_ | (refine Br.mk (fun h => ?_) (fun h => ?_) <;> first | (exfalso; omega; done) | (exfalso; simp at h; done) | skip))
      repeat refine Mm.mk ?_
      refine EndVC.mk _ rfl _ _ ⟨rfl, rfl⟩ ?_
      refine ⟨[some 0, some 1], rfl, rfl, ?_, ?_⟩ <;> repeat' (first | exact trivial | exact rfl | exact Iff.rfl | apply And.intro)
  · have hc1 := usF_no h1
    have hno : ¬ (2 * root + 2 < hi ∧ (usB l) V[first + (2 * root + 1)]! V[first + (2 * root + 1) + 1]! = true) := fun h => h1 h.2
    repeat' ((conv => whnf); first | rw [g0] | rw [g1] | refine Rng.g ?_ | refine Ob.g ?_ | refine Ob.e ?_ | refine Ob.m ?_ | refine Ob.mk (Nat.le_of_ble_eq_true rfl) ?_ | refine JoinVC.on ?_ | refine Nils.mk (fun h => ?_) ?_ | refine Val.t ?_ | refine Val.d ?_ | refine Mm.mk ?_ | (refine Br.mk (fun h => ?_) (fun h => ?_) <;> first | (exfalso; omega; done) | (exfalso; simp at h; done) | skip))
    conv => whnf
    refine CallVC.mk [1] _ _ _ rfl rfl rfl (s74 f l V[first + root]! V[first + (2 * root + 1)]! (hV (first + root) (by omega)) (hV (first + (2 * root + 1)) (by omega))) (fun r m' h' => ?_)
    obtain ⟨rfl, rfl⟩ := h'
    conv => whnf
    by_cases h2 : (usB l) V[first + root]! V[first + (2 * root + 1)]! = true
    · have hc := usF_yes h2
      rw [sd_l V hs' hno h2] at hZ
      have u1 : updRow (i64s V.toList) ((first : Int) + (root : Int)).toNat 0 [Cell.int V[first + (2 * root + 1)]!] = i64s (V.toList.set (first + root) V[first + (2 * root + 1)]!) := by rw [show ((first : Int) + (root : Int)).toNat = first + root by omega]; exact arr_up1 V _ _ (by omega)
      have u2 : updRow (i64s (V.toList.set (first + root) V[first + (2 * root + 1)]!)) ((first : Int) + (2 * (root : Int) + 1)).toNat 0 [Cell.int V[first + root]!] = i64s (Go.Sort.swp V (first + root) (first + (2 * root + 1))).toList := by rw [show ((first : Int) + (2 * (root : Int) + 1)).toNat = first + (2 * root + 1) by omega]; exact arr_up2 V _ _ (by omega)
      have la1 := arr_l1 V (first + root) V[first + (2 * root + 1)]!
      have la2 := arr_len (Go.Sort.swp V (first + root) (first + (2 * root + 1)))
      have ls2 := Go.Sort.size_swp V (first + root) (first + (2 * root + 1))
      repeat' ((conv => whnf); first | rw [g0] | rw [g1] | rw [u1] | rw [u2] | refine Rng.g ?_ | refine Ob.g ?_ | refine Ob.e ?_ | refine Ob.m ?_ | refine Ob.mk (Nat.le_of_ble_eq_true rfl) ?_ | refine JoinVC.on ?_ | refine Nils.mk (fun h => ?_) ?_ | refine Val.t ?_ | refine Val.d ?_ | refine Mm.mk ?_ | (refine Br.mk (fun h => ?_) (fun h => ?_) <;> first | (exfalso; omega; done) | (exfalso; simp at h; done) | skip))
      refine Back.mk (hi - (2 * root + 1)) _ (by omega) ⟨2 * root + 1, _, .inr hs', rfl, by omega, hV.swp (by omega) (by omega), hZ, rfl⟩ ?_
      refine ⟨[some 0, some 1], rfl, rfl, ?_, ?_⟩ <;> repeat' (first | exact trivial | exact rfl | exact Iff.rfl | apply And.intro)
    · have hc := usF_no h2
      rw [sd_l0 V hs' hno h2] at hZ
      subst hZ
      repeat' ((conv => whnf); first | rw [g0] | rw [g1] | refine Rng.g ?_ | refine Ob.g ?_ | refine Ob.e ?_ | refine Ob.m ?_ | refine Ob.mk (Nat.le_of_ble_eq_true rfl) ?_ | refine JoinVC.on ?_ | refine Nils.mk (fun h => ?_) ?_ | refine Val.t ?_ | refine Val.d ?_ | refine Mm.mk ?_ | (refine Br.mk (fun h => ?_) (fun h => ?_) <;> first | (exfalso; omega; done) | (exfalso; simp at h; done) | skip))
      repeat refine Mm.mk ?_
      refine EndVC.mk _ rfl _ _ ⟨rfl, rfl⟩ ?_
      refine ⟨[some 0, some 1], rfl, rfl, ?_, ?_⟩ <;> repeat' (first | exact trivial | exact rfl | exact Iff.rfl | apply And.intro)
theorem csd_q {V : Array Int} {l : List Sng} {hi first lo : Nat} (hb : first + hi ≤ V.size) (h : InA V l.length) : (Go.Sort.siftDown (usB l) hi first lo V).size = V.size ∧ InA (Go.Sort.siftDown (usB l) hi first lo V) l.length := by
  have hsz := sd_size (lt := (usB l)) (hi := hi) (first := first) (hi - lo) lo V (Nat.le_refl _)
  refine ⟨hsz, ?_⟩
  have key : ∀ (n root : Nat) (V : Array Int), hi - root ≤ n → first + hi ≤ V.size → InA V l.length → InA (Go.Sort.siftDown (usB l) hi first root V) l.length := by
    intro n
    induction n with
    | zero =>
      intro root V h1 _ h3
      rw [sd_stop V (by omega)]
      exact h3
    | succ n ih =>
      intro root V h1 h2 h3
      rw [Go.Sort.siftDown]
      split
      · exact h3
      · split
        · split
          · exact h3
          · split
            · exact ih _ _ (by omega) (by rw [Go.Sort.size_swp]; exact h2) (h3.swp (by omega) (by omega))
            · exact h3
        · split
          · exact h3
          · exact ih _ _ (by omega) (by rw [Go.Sort.size_swp]; exact h2) (h3.swp (by omega) (by omega))
  exact key _ _ _ (Nat.le_refl _) hb h
theorem cheap (f : Fmt) (l : List Sng) (d : Array Int) (hz : d.size ≤ 1000) (hI : InA d l.length) (a b : Nat) (hab : a ≤ b) (hb : b ≤ d.size) : HSpec Try.prog 103 [.one (.own 0), I (a : Int), I (b : Int), .one (.bnd 74 false [.ptr 1 0])] [rowA (d), bPl f l] (fun r m' => r = .tup [] ∧ m' = [some (rowA (Go.Sort.heapSort (usB l) d a b)), some (bPl f l)]) := by
  obtain ⟨Y, hY⟩ : ∃ Y, Go.Sort.heapBuild (usB l) (b - a) a ((b - a - 1) / 2 + 1) d = Y := ⟨_, rfl⟩
  obtain ⟨Z, hZ⟩ : ∃ Z, Go.Sort.heapPop (usB l) a (b - a) Y = Z := ⟨_, rfl⟩
  have hZ' : Go.Sort.heapSort (usB l) d a b = Z := by rw [← hZ, ← hY]; rfl
  rw [hZ']
  have hq : ((b : Int) - (a : Int) - 1).tdiv 2 = (((b - a - 1) / 2 : Nat) : Int) := by
    by_cases h0 : b = a
    · subst h0
      rw [show ((b : Int) - (b : Int) - 1) = -1 by omega, show b - b - 1 = 0 by omega]
      decide
    · rw [Int.tdiv_eq_ediv_of_nonneg (by omega)]
      omega
  refine spec_of pMix (O := [(10, ([], [⟨0, [], []⟩, ⟨1, [], []⟩, ⟨2, [], []⟩, ⟨3, [], []⟩, ⟨4, [], []⟩, ⟨5, [], []⟩, ⟨6, [], []⟩, ⟨7, [], []⟩, ⟨8, [], []⟩, ⟨9, [], []⟩, ⟨10, [], []⟩, ⟨11, [], []⟩, ⟨12, [], []⟩, ⟨13, [], []⟩, ⟨14, [], []⟩, ⟨15, [], []⟩, ⟨16, [], []⟩, ⟨17, [2, 3, 4, 5], []⟩, ⟨18, [], []⟩, ⟨19, [], []⟩]))]) Try.func103 (c := bodyOf Try.f103) rfl (by kernel_rfl) (by kernel_rfl) Try.ntmps103 (res := []) (by kernel_rfl) ?_
  repeat' ((conv => whnf); first | refine Rng.g ?_ | refine Ob.g ?_ | refine Ob.e ?_ | refine Ob.m ?_ | refine Ob.mk (Nat.le_of_ble_eq_true rfl) ?_ | refine JoinVC.on ?_ | refine Nils.mk (fun h => ?_) ?_ | refine Val.t ?_ | refine Val.d ?_ | refine Mm.mk ?_ | (refine Br.mk (fun h => ?_) (fun h => ?_) <;> first | (exfalso; omega; done) | (exfalso; simp at h; done) | skip))
  conv => whnf
  refine Val.mk ((((b-a-1)/2:Nat):Int)) (hq) ?_
  repeat' ((conv => whnf); first | refine Rng.g ?_ | refine Ob.g ?_ | refine Ob.e ?_ | refine Ob.m ?_ | refine Ob.mk (Nat.le_of_ble_eq_true rfl) ?_ | refine JoinVC.on ?_ | refine Nils.mk (fun h => ?_) ?_ | refine Val.t ?_ | refine Val.d ?_ | refine Mm.mk ?_ | (refine Br.mk (fun h => ?_) (fun h => ?_) <;> first | (exfalso; omega; done) | (exfalso; simp at h; done) | skip))
  refine LoopVC.mk (fun m st => ∃ (k : Nat) (x : Int) (V : Array Int), x = (k : Int) - 1 ∧ k ≤ b - a + 1 ∧ m = k ∧ V.size = d.size ∧ InA V l.length ∧ Go.Sort.heapBuild (usB l) (b - a) a k V = Y ∧ st = ⟨2, envA 60 [(0, .x (.one (.own 0))), (1, .x (I (a : Int))), (2, .x (I (b : Int))), (3, .x (.one (.bnd 74 false [.ptr 1 0]))), (8, .int .i64 (a : Int)), (9, .int .i64 0), (10, .int .i64 ((b - a : Nat) : Int)), (11, .int .i64 x)], [some (rowA (V)), some (bPl f l)]⟩) _ _ ⟨(b - a - 1) / 2 + 1, _, d, rfl, by omega, rfl, rfl, hI, hY, rfl⟩ ?_ ?_
  · refine ⟨[some 0, some 1], rfl, rfl, ?_, ?_⟩ <;> repeat' (first | exact trivial | exact rfl | exact Iff.rfl | apply And.intro)
    all_goals omega
  clear hY
  rintro m _ ⟨k, x, V, hx, hk, hm, lV, hV, hY, rfl⟩
  have la := arr_len V
  cases k with
  | succ k =>
    have ex : x = (k : Int) := by omega
    subst ex
    have hq2 := csd_q (V := V) (l := l) (hi := b - a) (first := a) (lo := k) (by omega) hV
    repeat' ((conv => whnf); first | refine Rng.g ?_ | refine Ob.g ?_ | refine Ob.e ?_ | refine Ob.m ?_ | refine Ob.mk (Nat.le_of_ble_eq_true rfl) ?_ | refine JoinVC.on ?_ | refine Nils.mk (fun h => ?_) ?_ | refine Val.t ?_ | refine Val.d ?_ | refine Mm.mk ?_ | (refine Br.mk (fun h => ?_) (fun h => ?_) <;> first | (exfalso; omega; done) | (exfalso; simp at h; done) | skip))
    conv => whnf
    refine CallVC.mk [0, 1] _ _ _ rfl rfl rfl (csd f l V (by omega) hV k (b - a) a (by omega) (by omega)) (fun r m' h' => ?_)
    obtain ⟨rfl, rfl⟩ := h'
    conv => whnf
    repeat' ((conv => whnf); first | refine Rng.g ?_ | refine Ob.g ?_ | refine Ob.e ?_ | refine Ob.m ?_ | refine Ob.mk (Nat.le_of_ble_eq_true rfl) ?_ | refine JoinVC.on ?_ | refine Nils.mk (fun h => ?_) ?_ | refine Val.t ?_ | refine Val.d ?_ | refine Mm.mk ?_ | (refine Br.mk (fun h => ?_) (fun h => ?_) <;> first | (exfalso; omega; done) | (exfalso; simp at h; done) | skip))
    refine Back.mk k _ (by omega) ⟨k, _, _, rfl, by omega, rfl, by rw [hq2.1]; exact lV, hq2.2, hY, rfl⟩ ?_
    refine ⟨[some 0, some 1], rfl, rfl, ?_, ?_⟩ <;> repeat' (first | exact trivial | exact rfl | exact Iff.rfl | apply And.intro)
  | zero =>
    have ex : x = -1 := by omega
    subst ex
    have hY' : V = Y := hY
    subst hY'
    repeat' ((conv => whnf); first | refine Rng.g ?_ | refine Ob.g ?_ | refine Ob.e ?_ | refine Ob.m ?_ | refine Ob.mk (Nat.le_of_ble_eq_true rfl) ?_ | refine JoinVC.on ?_ | refine Nils.mk (fun h => ?_) ?_ | refine Val.t ?_ | refine Val.d ?_ | refine Mm.mk ?_ | (refine Br.mk (fun h => ?_) (fun h => ?_) <;> first | (exfalso; omega; done) | (exfalso; simp at h; done) | skip))
    refine LoopVC.mk (fun m st => ∃ (k : Nat) (x : Int) (W : Array Int), x = (k : Int) - 1 ∧ k ≤ b - a ∧ m = k ∧ W.size = d.size ∧ InA W l.length ∧ Go.Sort.heapPop (usB l) a k W = Z ∧ st = ⟨2, envA 60 [(0, .x (.one (.own 0))), (1, .x (I (a : Int))), (2, .x (I (b : Int))), (3, .x (.one (.bnd 74 false [.ptr 1 0]))), (8, .int .i64 (a : Int)), (9, .int .i64 0), (10, .int .i64 ((b - a : Nat) : Int)), (12, .int .i64 x)], [some (rowA (W)), some (bPl f l)]⟩) _ _ ⟨b - a, _, V, rfl, Nat.le_refl _, rfl, lV, hV, hZ, rfl⟩ ?_ ?_
    · refine ⟨[some 0, some 1], rfl, rfl, ?_, ?_⟩ <;> repeat' (first | exact trivial | exact rfl | exact Iff.rfl | apply And.intro)
    clear hY hZ la hV lV V
    rintro m _ ⟨k, x, V, hx, hk, hm, lV, hV, hZ, rfl⟩
    have la := arr_len V
    cases k with
    | zero =>
      have ex : x = -1 := by omega
      subst ex
      have hZ' : V = Z := hZ
      subst hZ'
      repeat' ((conv => whnf); first | refine Rng.g ?_ | refine Ob.g ?_ | refine Ob.e ?_ | refine Ob.m ?_ | refine Ob.mk (Nat.le_of_ble_eq_true rfl) ?_ | refine JoinVC.on ?_ | refine Nils.mk (fun h => ?_) ?_ | refine Val.t ?_ | refine Val.d ?_ | refine Mm.mk ?_ | (refine Br.mk (fun h => ?_) (fun h => ?_) <;> first | (exfalso; omega; done) | (exfalso; simp at h; done) | skip))
      repeat refine Mm.mk ?_
      refine EndVC.mk _ rfl _ _ ⟨rfl, rfl⟩ ?_
      refine ⟨[some 0, some 1], rfl, rfl, ?_, ?_⟩ <;> repeat' (first | exact trivial | exact rfl | exact Iff.rfl | apply And.intro)
    | succ k =>
      have ex : x = (k : Int) := by omega
      subst ex
      have g1 : rI (i64s V.toList) ((a : Int)).toNat 0 = V[a]! := by rw [show ((a : Int)).toNat = a by omega]; exact arr_get V _
      have g2 : rI (i64s V.toList) ((a : Int) + (k : Int)).toNat 0 = V[a + k]! := by rw [show ((a : Int) + (k : Int)).toNat = a + k by omega]; exact arr_get V _
      have u1 : updRow (i64s V.toList) ((a : Int)).toNat 0 [Cell.int V[a + k]!] = i64s (V.toList.set (a) V[a + k]!) := by rw [show ((a : Int)).toNat = a by omega]; exact arr_up1 V _ _ (by omega)
      have u2 : updRow (i64s (V.toList.set (a) V[a + k]!)) ((a : Int) + (k : Int)).toNat 0 [Cell.int V[a]!] = i64s (Go.Sort.swp V (a) (a + k)).toList := by rw [show ((a : Int) + (k : Int)).toNat = a + k by omega]; exact arr_up2 V _ _ (by omega)
      have la1 := arr_l1 V (a) V[a + k]!
      have la2 := arr_len (Go.Sort.swp V (a) (a + k))
      have ls2 := Go.Sort.size_swp V (a) (a + k)
      have hVs : InA (Go.Sort.swp V a (a + k)) l.length := hV.swp (by omega) (by omega)
      have hq2 := csd_q (V := Go.Sort.swp V a (a + k)) (l := l) (hi := k) (first := a) (lo := 0) (by omega) hVs
      repeat' ((conv => whnf); first | rw [g1] | rw [g2] | rw [u1] | rw [u2] | refine Rng.g ?_ | refine Ob.g ?_ | refine Ob.e ?_ | refine Ob.m ?_ | refine Ob.mk (Nat.le_of_ble_eq_true rfl) ?_ | refine JoinVC.on ?_ | refine Nils.mk (fun h => ?_) ?_ | refine Val.t ?_ | refine Val.d ?_ | refine Mm.mk ?_ | (refine Br.mk (fun h => ?_) (fun h => ?_) <;> first | (exfalso; omega; done) | (exfalso; simp at h; done) | skip))
      conv => whnf
      refine CallVC.mk [0, 1] _ _ _ rfl rfl rfl (csd f l (Go.Sort.swp V a (a + k)) (by omega) hVs 0 k a (by omega) (by omega)) (fun r m' h' => ?_)
      obtain ⟨rfl, rfl⟩ := h'
      conv => whnf
      repeat' ((conv => whnf); first | refine Rng.g ?_ | refine Ob.g ?_ | refine Ob.e ?_ | refine Ob.m ?_ | refine Ob.mk (Nat.le_of_ble_eq_true rfl) ?_ | refine JoinVC.on ?_ | refine Nils.mk (fun h => ?_) ?_ | refine Val.t ?_ | refine Val.d ?_ | refine Mm.mk ?_ | (refine Br.mk (fun h => ?_) (fun h => ?_) <;> first | (exfalso; omega; done) | (exfalso; simp at h; done) | skip))
      refine Back.mk k _ (by omega) ⟨k, _, _, rfl, by omega, rfl, by rw [hq2.1]; omega, hq2.2, hZ, rfl⟩ ?_
      refine ⟨[some 0, some 1], rfl, rfl, ?_, ?_⟩ <;> repeat' (first | exact trivial | exact rfl | exact Iff.rfl | apply And.intro)
end Go.Sx

namespace Go.Sx
open Go Go.Proofs
set_option maxRecDepth 10000
set_option maxHeartbeats 16000000
/-! ### Partitions -/
theorem cpart (f : Fmt) (l : List Sng) (d : Array Int) (hz : d.size ≤ 1000) (hI : InA d l.length) (a b p : Nat) (hp : a ≤ p ∧ p < b) (hb : b ≤ d.size) : HSpec Try.prog 109 [.one (.own 0), I (a : Int), I (b : Int), I (p : Int), .one (.bnd 74 false [.ptr 1 0])] [rowA (d), bPl f l] (fun r m' => ∃ (x : Nat) (y : Bool) (W : Array Int), Go.Sort.partition (usB l) d a b p = (x, y, W) ∧ r = .tup [I (x : Int), .one (.bool y)] ∧ m' = [some (rowA (W)), some (bPl f l)]) := by
  have la := arr_len d
  have ga : rI (i64s d.toList) ((a : Int)).toNat 0 = d[a]! := by rw [show ((a : Int)).toNat = a by omega]; exact arr_get d _
  have gp : rI (i64s d.toList) ((p : Int)).toNat 0 = d[p]! := by rw [show ((p : Int)).toNat = p by omega]; exact arr_get d _
  have u1 : updRow (i64s d.toList) ((a : Int)).toNat 0 [Cell.int d[p]!] = i64s (d.toList.set (a) d[p]!) := by rw [show ((a : Int)).toNat = a by omega]; exact arr_up1 d _ _ (by omega)
  have u2 : updRow (i64s (d.toList.set (a) d[p]!)) ((p : Int)).toNat 0 [Cell.int d[a]!] = i64s (Go.Sort.swp d (a) (p)).toList := by rw [show ((p : Int)).toNat = p by omega]; exact arr_up2 d _ _ (by omega)
  have la1 := arr_l1 d (a) d[p]!
  have la2 := arr_len (Go.Sort.swp d (a) (p))
  have ls2 := Go.Sort.size_swp d (a) (p)
  have hV : InA d l.length := hI
  have hV0' : InA (Go.Sort.swp d a p) l.length := hV.swp (by omega) (by omega)
  have pt := fun I J => part_t (lt := (usB l)) (d := d) (a := a) (b := b) (p := p) (I := I) (J := J)
  have pf := fun I J ZJ ZV => part_f (lt := (usB l)) (d := d) (a := a) (b := b) (p := p) (I := I) (J := J) (ZJ := ZJ) (ZV := ZV)
  refine spec_of pMix (O := [(1, ([], [⟨0, [], []⟩, ⟨1, [], []⟩, ⟨2, [], []⟩, ⟨3, [], []⟩, ⟨4, [], []⟩, ⟨5, [], []⟩, ⟨6, [], []⟩, ⟨7, [], []⟩, ⟨8, [], []⟩, ⟨9, [], []⟩, ⟨10, [], []⟩, ⟨11, [], []⟩, ⟨12, [], []⟩, ⟨13, [2, 3], []⟩, ⟨14, [], []⟩, ⟨15, [], []⟩])), (8, ([], [⟨0, [], []⟩, ⟨1, [], []⟩, ⟨2, [], []⟩, ⟨3, [], []⟩, ⟨4, [], []⟩, ⟨5, [], []⟩, ⟨6, [], []⟩, ⟨7, [], []⟩, ⟨8, [], []⟩, ⟨9, [], []⟩, ⟨10, [], []⟩, ⟨11, [], []⟩, ⟨12, [], []⟩, ⟨13, [2, 3], []⟩, ⟨14, [], []⟩, ⟨15, [], []⟩])), (10, ([], [⟨0, [], []⟩, ⟨1, [], []⟩, ⟨2, [], []⟩, ⟨3, [], []⟩, ⟨4, [], []⟩, ⟨5, [], []⟩, ⟨6, [], []⟩, ⟨7, [], []⟩, ⟨8, [], []⟩, ⟨9, [], []⟩, ⟨10, [], []⟩, ⟨11, [], []⟩, ⟨12, [], []⟩, ⟨13, [2, 3], []⟩, ⟨14, [], []⟩, ⟨15, [], []⟩])), (18, ([], [⟨0, [], []⟩, ⟨1, [], []⟩, ⟨2, [], []⟩, ⟨3, [], []⟩, ⟨4, [], []⟩, ⟨5, [], []⟩, ⟨6, [], []⟩, ⟨7, [], []⟩, ⟨8, [], []⟩, ⟨9, [], []⟩, ⟨10, [], []⟩, ⟨11, [], []⟩, ⟨12, [], []⟩, ⟨13, [2, 3], []⟩, ⟨14, [], []⟩, ⟨15, [], []⟩])), (21, ([], [⟨0, [], []⟩, ⟨1, [], []⟩, ⟨2, [], []⟩, ⟨3, [], []⟩, ⟨4, [], []⟩, ⟨5, [], []⟩, ⟨6, [], []⟩, ⟨7, [], []⟩, ⟨8, [], []⟩, ⟨9, [], []⟩, ⟨10, [], []⟩, ⟨11, [], []⟩, ⟨12, [], []⟩, ⟨13, [2, 3], []⟩, ⟨14, [], []⟩, ⟨15, [], []⟩]))]) Try.func109 (c := bodyOf Try.f109) rfl (by kernel_rfl) (by kernel_rfl) Try.ntmps109 (res := [.tmp 10, .tmp 11]) (by kernel_rfl) ?_
  repeat' ((conv => whnf); first | rw [ga] | rw [gp] | rw [u1] | rw [u2] | refine Rng.g ?_ | refine Ob.g ?_ | refine Ob.e ?_ | refine Ob.m ?_ | refine Ob.mk (Nat.le_of_ble_eq_true rfl) ?_ | refine JoinVC.on ?_ | refine Nils.mk (fun h => ?_) ?_ | refine Val.t ?_ | refine Val.d ?_ | refine Mm.mk ?_ | (refine Br.mk (fun h => ?_) (fun h => ?_) <;> first | (exfalso; omega; done) | (exfalso; simp at h; done) | skip))
  clear hV
  obtain ⟨V, hVe⟩ : ∃ V, Go.Sort.swp d a p = V := ⟨_, rfl⟩
  rw [hVe] at hV0' la2 ls2 u2 pt pf
  rw [hVe]
  have hV := hV0'
  obtain ⟨I1, hI1⟩ : ∃ I1, Go.Sort.scanUp (fun x => (usB l) x V[a]!) V (b - 1) (a + 1) = I1 := ⟨_, rfl⟩
  obtain ⟨J1, hJ1⟩ : ∃ J1, Go.Sort.scanDown (fun x => !(usB l) x V[a]!) V I1 (b - 1) = J1 := ⟨_, rfl⟩
  obtain ⟨sf1, sf2, sf3, sf4, sf5⟩ := scan_facts (fun _ => rfl) V (by omega) (by omega) hI1 hJ1
  clear ga
  have ga : rI (i64s V.toList) ((a : Int)).toNat 0 = V[a]! := by rw [show ((a : Int)).toNat = a by omega]; exact arr_get V _
  refine LoopVC.cut (fun m st => ∃ i : Nat, (a + 1) ≤ i ∧ i ≤ (b - 1) + 1 ∧ m = (b - 1) + 1 - i ∧ Go.Sort.scanUp (fun x => (usB l) x V[a]!) V (b - 1) i = I1 ∧ st = ⟨2, envA 178 [(0, .x (.one (.own 0))), (1, .x (I (a : Int))), (2, .x (I (b : Int))), (4, .x (.one (.bnd 74 false [.ptr 1 0]))), (12, .int .i64 (i : Int)), (13, .int .i64 (((b - 1) : Nat) : Int))], [some (rowA (V)), some (bPl f l)]⟩) _ _ (fun e st => e = .exit 0 ∧ st = ⟨2, envA 178 [(0, .x (.one (.own 0))), (1, .x (I (a : Int))), (2, .x (I (b : Int))), (4, .x (.one (.bnd 74 false [.ptr 1 0]))), (12, .int .i64 (I1 : Int)), (13, .int .i64 (((b - 1) : Nat) : Int))], [some (rowA (V)), some (bPl f l)]⟩) ⟨(a + 1), Nat.le_refl _, by omega, rfl, hI1, rfl⟩ ?_ ?_ ?_
  · refine ⟨[some 0, some 1], rfl, rfl, ?_, ?_⟩ <;> repeat' (first | exact trivial | exact rfl | exact Iff.rfl | apply And.intro)
    all_goals omega
  · rintro m _ ⟨i, i1, i2, hm, hi, rfl⟩
    by_cases hij : i ≤ (b - 1)
    rotate_left
    · rw [su_no (p := (fun x => (usB l) x V[a]!)) (fun h => hij h.1)] at hi
      subst hi
      repeat' ((conv => whnf); first | refine Rng.g ?_ | refine Ob.g ?_ | refine Ob.e ?_ | refine Ob.m ?_ | refine Ob.mk (Nat.le_of_ble_eq_true rfl) ?_ | refine JoinVC.on ?_ | refine Nils.mk (fun h => ?_) ?_ | refine Val.t ?_ | refine Val.d ?_ | refine Mm.mk ?_ | (refine Br.mk (fun h => ?_) (fun h => ?_) <;> first | (exfalso; omega; done) | (exfalso; simp at h; done) | skip))
      refine Meet.mk _ ⟨rfl, rfl⟩ ?_
      refine ⟨[some 0, some 1], rfl, rfl, ?_, ?_⟩ <;> repeat' (first | exact trivial | exact rfl | exact Iff.rfl | apply And.intro)
    have gi : rI (i64s V.toList) ((i : Int)).toNat 0 = V[i]! := by rw [show ((i : Int)).toNat = i by omega]; exact arr_get V _
    repeat' ((conv => whnf); first | rw [gi] | rw [ga] | refine Rng.g ?_ | refine Ob.g ?_ | refine Ob.e ?_ | refine Ob.m ?_ | refine Ob.mk (Nat.le_of_ble_eq_true rfl) ?_ | refine JoinVC.on ?_ | refine Nils.mk (fun h => ?_) ?_ | refine Val.t ?_ | refine Val.d ?_ | refine Mm.mk ?_ | (refine Br.mk (fun h => ?_) (fun h => ?_) <;> first | (exfalso; omega; done) | (exfalso; simp at h; done) | skip))
    conv => whnf
    refine CallVC.mk [1] _ _ _ rfl rfl rfl (s74 f l V[i]! V[a]! (hV i (by omega)) (hV a (by omega))) (fun r m' h' => ?_)
    obtain ⟨rfl, rfl⟩ := h'
    conv => whnf
    by_cases hlt : (usB l) V[i]! V[a]! = true
    · have hc := usF_yes hlt
      rw [su_yes (p := (fun x => (usB l) x V[a]!)) hij hlt] at hi
      repeat' ((conv => whnf); first | rw [gi] | rw [ga] | refine Rng.g ?_ | refine Ob.g ?_ | refine Ob.e ?_ | refine Ob.m ?_ | refine Ob.mk (Nat.le_of_ble_eq_true rfl) ?_ | refine JoinVC.on ?_ | refine Nils.mk (fun h => ?_) ?_ | refine Val.t ?_ | refine Val.d ?_ | refine Mm.mk ?_ | (refine Br.mk (fun h => ?_) (fun h => ?_) <;> first | (exfalso; omega; done) | (exfalso; simp at h; done) | skip))
      refine Back.mk ((b - 1) + 1 - (i + 1)) _ (by omega) ⟨i + 1, by omega, by omega, rfl, hi, rfl⟩ ?_
      refine ⟨[some 0, some 1], rfl, rfl, ?_, ?_⟩ <;> repeat' (first | exact trivial | exact rfl | exact Iff.rfl | apply And.intro)
    · have hc := usF_no hlt
      rw [su_no (p := (fun x => (usB l) x V[a]!)) (fun h => hlt h.2)] at hi
      subst hi
      repeat' ((conv => whnf); first | rw [gi] | rw [ga] | refine Rng.g ?_ | refine Ob.g ?_ | refine Ob.e ?_ | refine Ob.m ?_ | refine Ob.mk (Nat.le_of_ble_eq_true rfl) ?_ | refine JoinVC.on ?_ | refine Nils.mk (fun h => ?_) ?_ | refine Val.t ?_ | refine Val.d ?_ | refine Mm.mk ?_ | (refine Br.mk (fun h => ?_) (fun h => ?_) <;> first | (exfalso; omega; done) | (exfalso; simp at h; done) | skip))
      refine Meet.mk _ ⟨rfl, rfl⟩ ?_
      refine ⟨[some 0, some 1], rfl, rfl, ?_, ?_⟩ <;> repeat' (first | exact trivial | exact rfl | exact Iff.rfl | apply And.intro)
  rintro e _ ⟨rfl, rfl⟩
  repeat' ((conv => whnf); first | refine Rng.g ?_ | refine Ob.g ?_ | refine Ob.e ?_ | refine Ob.m ?_ | refine Ob.mk (Nat.le_of_ble_eq_true rfl) ?_ | refine JoinVC.on ?_ | refine Nils.mk (fun h => ?_) ?_ | refine Val.t ?_ | refine Val.d ?_ | refine Mm.mk ?_ | (refine Br.mk (fun h => ?_) (fun h => ?_) <;> first | (exfalso; omega; done) | (exfalso; simp at h; done) | skip))
  refine LoopVC.cut (fun m st => ∃ j : Nat, I1 ≤ j + 1 ∧ j ≤ (b - 1) ∧ m = j + 1 - I1 ∧ Go.Sort.scanDown (fun x => !(usB l) x V[a]!) V I1 j = J1 ∧ st = ⟨2, envA 178 [(0, .x (.one (.own 0))), (1, .x (I (a : Int))), (2, .x (I (b : Int))), (4, .x (.one (.bnd 74 false [.ptr 1 0]))), (12, .int .i64 (I1 : Int)), (13, .int .i64 (j : Int))], [some (rowA (V)), some (bPl f l)]⟩) _ _ (fun e st => e = .exit 2 ∧ st = ⟨2, envA 178 [(0, .x (.one (.own 0))), (1, .x (I (a : Int))), (2, .x (I (b : Int))), (4, .x (.one (.bnd 74 false [.ptr 1 0]))), (12, .int .i64 (I1 : Int)), (13, .int .i64 (J1 : Int))], [some (rowA (V)), some (bPl f l)]⟩) ⟨(b - 1), by omega, Nat.le_refl _, rfl, hJ1, rfl⟩ ?_ ?_ ?_
  · refine ⟨[some 0, some 1], rfl, rfl, ?_, ?_⟩ <;> repeat' (first | exact trivial | exact rfl | exact Iff.rfl | apply And.intro)
  · rintro m _ ⟨j, j1, j2, hm, hj, rfl⟩
    by_cases hij : I1 ≤ j
    rotate_left
    · rw [sn_no (p := (fun x => !(usB l) x V[a]!)) (fun h => hij h.1)] at hj
      subst hj
      repeat' ((conv => whnf); first | refine Rng.g ?_ | refine Ob.g ?_ | refine Ob.e ?_ | refine Ob.m ?_ | refine Ob.mk (Nat.le_of_ble_eq_true rfl) ?_ | refine JoinVC.on ?_ | refine Nils.mk (fun h => ?_) ?_ | refine Val.t ?_ | refine Val.d ?_ | refine Mm.mk ?_ | (refine Br.mk (fun h => ?_) (fun h => ?_) <;> first | (exfalso; omega; done) | (exfalso; simp at h; done) | skip))
      refine Meet.mk _ ⟨rfl, rfl⟩ ?_
      refine ⟨[some 0, some 1], rfl, rfl, ?_, ?_⟩ <;> repeat' (first | exact trivial | exact rfl | exact Iff.rfl | apply And.intro)
    obtain ⟨k, rfl⟩ : ∃ k, j = k + 1 := ⟨j - 1, by omega⟩
    have gj : rI (i64s V.toList) (((k + 1 : Nat) : Int)).toNat 0 = V[k + 1]! := by rw [show (((k + 1 : Nat) : Int)).toNat = k + 1 by omega]; exact arr_get V _
    repeat' ((conv => whnf); first | rw [gj] | rw [ga] | refine Rng.g ?_ | refine Ob.g ?_ | refine Ob.e ?_ | refine Ob.m ?_ | refine Ob.mk (Nat.le_of_ble_eq_true rfl) ?_ | refine JoinVC.on ?_ | refine Nils.mk (fun h => ?_) ?_ | refine Val.t ?_ | refine Val.d ?_ | refine Mm.mk ?_ | (refine Br.mk (fun h => ?_) (fun h => ?_) <;> first | (exfalso; omega; done) | (exfalso; simp at h; done) | skip))
    conv => whnf
    refine CallVC.mk [1] _ _ _ rfl rfl rfl (s74 f l V[k + 1]! V[a]! (hV (k + 1) (by omega)) (hV a (by omega))) (fun r m' h' => ?_)
    obtain ⟨rfl, rfl⟩ := h'
    conv => whnf
    by_cases hlt : (usB l) V[k + 1]! V[a]! = true
    · have hc := usF_yes hlt
      rw [sn_no (p := (fun x => !(usB l) x V[a]!)) (fun h => by simp [hlt] at h)] at hj
      subst hj
      repeat' ((conv => whnf); first | rw [gj] | rw [ga] | refine Rng.g ?_ | refine Ob.g ?_ | refine Ob.e ?_ | refine Ob.m ?_ | refine Ob.mk (Nat.le_of_ble_eq_true rfl) ?_ | refine JoinVC.on ?_ | refine Nils.mk (fun h => ?_) ?_ | refine Val.t ?_ | refine Val.d ?_ | refine Mm.mk ?_ | (refine Br.mk (fun h => ?_) (fun h => ?_) <;> first | (exfalso; omega; done) | (exfalso; simp at h; done) | skip))
      refine Meet.mk _ ⟨rfl, rfl⟩ ?_
      refine ⟨[some 0, some 1], rfl, rfl, ?_, ?_⟩ <;> repeat' (first | exact trivial | exact rfl | exact Iff.rfl | apply And.intro)
    · have hc := usF_no hlt
      rw [sn_yes (p := (fun x => !(usB l) x V[a]!)) hij (by simp [hlt])] at hj
      repeat' ((conv => whnf); first | rw [gj] | rw [ga] | refine Rng.g ?_ | refine Ob.g ?_ | refine Ob.e ?_ | refine Ob.m ?_ | refine Ob.mk (Nat.le_of_ble_eq_true rfl) ?_ | refine JoinVC.on ?_ | refine Nils.mk (fun h => ?_) ?_ | refine Val.t ?_ | refine Val.d ?_ | refine Mm.mk ?_ | (refine Br.mk (fun h => ?_) (fun h => ?_) <;> first | (exfalso; omega; done) | (exfalso; simp at h; done) | skip))
      refine Back.mk (k + 1 - I1) _ (by omega) ⟨k, by omega, by omega, rfl, hj, rfl⟩ ?_
      refine ⟨[some 0, some 1], rfl, rfl, ?_, ?_⟩ <;> repeat' (first | exact trivial | exact rfl | exact Iff.rfl | apply And.intro)
      all_goals omega
  rintro e _ ⟨rfl, rfl⟩
  repeat' ((conv => whnf); first | refine Rng.g ?_ | refine Ob.g ?_ | refine Ob.e ?_ | refine Ob.m ?_ | refine Ob.mk (Nat.le_of_ble_eq_true rfl) ?_ | refine JoinVC.on ?_ | refine Nils.mk (fun h => ?_) ?_ | refine Val.t ?_ | refine Val.d ?_ | refine Mm.mk ?_ | (refine Br.mk (fun h => ?_) (fun h => ?_) <;> first | (exfalso; omega; done) | (exfalso; simp at h; done) | skip))
  · have e1 := pt _ _ hI1 hJ1 (by omega)
    have gj : rI (i64s V.toList) ((J1 : Int)).toNat 0 = V[J1]! := by rw [show ((J1 : Int)).toNat = J1 by omega]; exact arr_get V _
    clear u1 u2 la1
    have u1 : updRow (i64s V.toList) ((J1 : Int)).toNat 0 [Cell.int V[a]!] = i64s (V.toList.set (J1) V[a]!) := by rw [show ((J1 : Int)).toNat = J1 by omega]; exact arr_up1 V _ _ (by omega)
    have u2 : updRow (i64s (V.toList.set (J1) V[a]!)) ((a : Int)).toNat 0 [Cell.int V[J1]!] = i64s (Go.Sort.swp V (J1) (a)).toList := by rw [show ((a : Int)).toNat = a by omega]; exact arr_up2 V _ _ (by omega)
    have la1 := arr_l1 V (J1) V[a]!
    have la2 := arr_len (Go.Sort.swp V (J1) (a))
    have ls2 := Go.Sort.size_swp V (J1) (a)
    repeat' ((conv => whnf); first | rw [ga] | rw [gj] | rw [u1] | rw [u2] | refine Rng.g ?_ | refine Ob.g ?_ | refine Ob.e ?_ | refine Ob.m ?_ | refine Ob.mk (Nat.le_of_ble_eq_true rfl) ?_ | refine JoinVC.on ?_ | refine Nils.mk (fun h => ?_) ?_ | refine Val.t ?_ | refine Val.d ?_ | refine Mm.mk ?_ | (refine Br.mk (fun h => ?_) (fun h => ?_) <;> first | (exfalso; omega; done) | (exfalso; simp at h; done) | skip))
    repeat refine Mm.mk ?_
    conv => whnf
    refine EndVC.mk _ rfl _ _ (⟨J1, true, _, e1, rfl, rfl⟩) ?_
    refine ⟨[some 0, some 1], rfl, rfl, ?_, ?_⟩ <;> repeat' (first | exact trivial | exact rfl | exact Iff.rfl | apply And.intro)
  have hJI : I1 < J1 := sf5 (by omega)
  clear u1 u2 la1
  have gi : rI (i64s V.toList) ((I1 : Int)).toNat 0 = V[I1]! := by rw [show ((I1 : Int)).toNat = I1 by omega]; exact arr_get V _
  have gj : rI (i64s V.toList) ((J1 : Int)).toNat 0 = V[J1]! := by rw [show ((J1 : Int)).toNat = J1 by omega]; exact arr_get V _
  have u1 : updRow (i64s V.toList) ((I1 : Int)).toNat 0 [Cell.int V[J1]!] = i64s (V.toList.set (I1) V[J1]!) := by rw [show ((I1 : Int)).toNat = I1 by omega]; exact arr_up1 V _ _ (by omega)
  have u2 : updRow (i64s (V.toList.set (I1) V[J1]!)) ((J1 : Int)).toNat 0 [Cell.int V[I1]!] = i64s (Go.Sort.swp V (I1) (J1)).toList := by rw [show ((J1 : Int)).toNat = J1 by omega]; exact arr_up2 V _ _ (by omega)
  have la1 := arr_l1 V (I1) V[J1]!
  have la2 := arr_len (Go.Sort.swp V (I1) (J1))
  have ls2 := Go.Sort.size_swp V (I1) (J1)
  have hV1 : InA (Go.Sort.swp V I1 J1) l.length := hV.swp (by omega) (by omega)
  obtain ⟨ZJ, ZV, hZ⟩ : ∃ ZJ ZV, Go.Sort.partLoop (usB l) a (I1 + 1) (J1 - 1) (Go.Sort.swp V I1 J1) = (ZJ, ZV) := ⟨_, _, rfl⟩
  have e1 := pf _ _ _ _ hI1 hJ1 (by omega) hZ
  repeat' ((conv => whnf); first | rw [gi] | rw [gj] | rw [u1] | rw [u2] | refine Rng.g ?_ | refine Ob.g ?_ | refine Ob.e ?_ | refine Ob.m ?_ | refine Ob.mk (Nat.le_of_ble_eq_true rfl) ?_ | refine JoinVC.on ?_ | refine Nils.mk (fun h => ?_) ?_ | refine Val.t ?_ | refine Val.d ?_ | refine Mm.mk ?_ | (refine Br.mk (fun h => ?_) (fun h => ?_) <;> first | (exfalso; omega; done) | (exfalso; simp at h; done) | skip))
  refine LoopVC.cut (fun m st => ∃ (i j : Nat) (W : Array Int), a < i ∧ i ≤ j + 1 ∧ j < b ∧ m = j + 1 - i ∧ W.size = d.size ∧ InA W l.length ∧ Go.Sort.partLoop (usB l) a i j W = (ZJ, ZV) ∧ st = ⟨2, envA 178 [(0, .x (.one (.own 0))), (1, .x (I (a : Int))), (2, .x (I (b : Int))), (4, .x (.one (.bnd 74 false [.ptr 1 0]))), (12, .int .i64 (i : Int)), (13, .int .i64 (j : Int))], [some (rowA (W)), some (bPl f l)]⟩) _ _ (fun e st => e = .exit 4 ∧ a ≤ ZJ ∧ ZJ < b ∧ ZV.size = d.size ∧ (InA ZV l.length) ∧ st = ⟨2, envA 178 [(0, .x (.one (.own 0))), (1, .x (I (a : Int))), (2, .x (I (b : Int))), (4, .x (.one (.bnd 74 false [.ptr 1 0]))), (13, .int .i64 (ZJ : Int))], [some (rowA (ZV)), some (bPl f l)]⟩) ⟨I1 + 1, J1 - 1, _, by omega, by omega, by omega, rfl, by omega, hV1, hZ, rfl⟩ ?_ ?_ ?_
  · refine ⟨[some 0, some 1], rfl, rfl, ?_, ?_⟩ <;> repeat' (first | exact trivial | exact rfl | exact Iff.rfl | apply And.intro)
    all_goals omega
  · clear hZ gi gj u1 u2 la1 la2 ls2 hV1 hJI hI1 hJ1 sf1 sf2 sf3 sf4 sf5 ga hV la hV0' pt pf e1
    rintro m _ ⟨x, y, V, h1, h2, h3, hm, lV, hV, hZ, rfl⟩
    have la := arr_len V
    have ga : rI (i64s V.toList) ((a : Int)).toNat 0 = V[a]! := by rw [show ((a : Int)).toNat = a by omega]; exact arr_get V _
    obtain ⟨I2, hI2⟩ : ∃ I2, Go.Sort.scanUp (fun x => (usB l) x V[a]!) V y x = I2 := ⟨_, rfl⟩
    obtain ⟨J2, hJ2⟩ : ∃ J2, Go.Sort.scanDown (fun x => !(usB l) x V[a]!) V I2 y = J2 := ⟨_, rfl⟩
    obtain ⟨sf1, sf2, sf3, sf4, sf5⟩ := scan_facts (fun _ => rfl) V (by omega) (by omega) hI2 hJ2
    repeat' ((conv => whnf); first | refine Rng.g ?_ | refine Ob.g ?_ | refine Ob.e ?_ | refine Ob.m ?_ | refine Ob.mk (Nat.le_of_ble_eq_true rfl) ?_ | refine JoinVC.on ?_ | refine Nils.mk (fun h => ?_) ?_ | refine Val.t ?_ | refine Val.d ?_ | refine Mm.mk ?_ | (refine Br.mk (fun h => ?_) (fun h => ?_) <;> first | (exfalso; omega; done) | (exfalso; simp at h; done) | skip))
    refine LoopVC.cut (fun m st => ∃ i : Nat, x ≤ i ∧ i ≤ y + 1 ∧ m = y + 1 - i ∧ Go.Sort.scanUp (fun x => (usB l) x V[a]!) V y i = I2 ∧ st = ⟨2, envA 178 [(0, .x (.one (.own 0))), (1, .x (I (a : Int))), (2, .x (I (b : Int))), (4, .x (.one (.bnd 74 false [.ptr 1 0]))), (12, .int .i64 (i : Int)), (13, .int .i64 ((y : Nat) : Int))], [some (rowA (V)), some (bPl f l)]⟩) _ _ (fun e st => e = .exit 6 ∧ st = ⟨2, envA 178 [(0, .x (.one (.own 0))), (1, .x (I (a : Int))), (2, .x (I (b : Int))), (4, .x (.one (.bnd 74 false [.ptr 1 0]))), (12, .int .i64 (I2 : Int)), (13, .int .i64 ((y : Nat) : Int))], [some (rowA (V)), some (bPl f l)]⟩) ⟨x, Nat.le_refl _, by omega, rfl, hI2, rfl⟩ ?_ ?_ ?_
    · refine ⟨[some 0, some 1], rfl, rfl, ?_, ?_⟩ <;> repeat' (first | exact trivial | exact rfl | exact Iff.rfl | apply And.intro)
      all_goals omega
    · rintro m _ ⟨i, i1, i2, hm, hi, rfl⟩
      by_cases hij : i ≤ y
      rotate_left
      · rw [su_no (p := (fun x => (usB l) x V[a]!)) (fun h => hij h.1)] at hi
        subst hi
        repeat' ((conv => whnf); first | refine Rng.g ?_ | refine Ob.g ?_ | refine Ob.e ?_ | refine Ob.m ?_ | refine Ob.mk (Nat.le_of_ble_eq_true rfl) ?_ | refine JoinVC.on ?_ | refine Nils.mk (fun h => ?_) ?_ | refine Val.t ?_ | refine Val.d ?_ | refine Mm.mk ?_ | (refine Br.mk (fun h => ?_) (fun h => ?_) <;> first | (exfalso; omega; done) | (exfalso; simp at h; done) | skip))
        refine Meet.mk _ ⟨rfl, rfl⟩ ?_
        refine ⟨[some 0, some 1], rfl, rfl, ?_, ?_⟩ <;> repeat' (first | exact trivial | exact rfl | exact Iff.rfl | apply And.intro)
      have gi : rI (i64s V.toList) ((i : Int)).toNat 0 = V[i]! := by rw [show ((i : Int)).toNat = i by omega]; exact arr_get V _
      repeat' ((conv => whnf); first | rw [gi] | rw [ga] | refine Rng.g ?_ | refine Ob.g ?_ | refine Ob.e ?_ | refine Ob.m ?_ | refine Ob.mk (Nat.le_of_ble_eq_true rfl) ?_ | refine JoinVC.on ?_ | refine Nils.mk (fun h => ?_) ?_ | refine Val.t ?_ | refine Val.d ?_ | refine Mm.mk ?_ | (refine Br.mk (fun h => ?_) (fun h => ?_) <;> first | (exfalso; omega; done) | (exfalso; simp at h; done) | skip))
      conv => whnf
      refine CallVC.mk [1] _ _ _ rfl rfl rfl (s74 f l V[i]! V[a]! (hV i (by omega)) (hV a (by omega))) (fun r m' h' => ?_)
      obtain ⟨rfl, rfl⟩ := h'
      conv => whnf
      by_cases hlt : (usB l) V[i]! V[a]! = true
      · have hc := usF_yes hlt
        rw [su_yes (p := (fun x => (usB l) x V[a]!)) hij hlt] at hi
        repeat' ((conv => whnf); first | rw [gi] | rw [ga] | refine Rng.g ?_ | refine Ob.g ?_ | refine Ob.e ?_ | refine Ob.m ?_ | refine Ob.mk (Nat.le_of_ble_eq_true rfl) ?_ | refine JoinVC.on ?_ | refine Nils.mk (fun h => ?_) ?_ | refine Val.t ?_ | refine Val.d ?_ | refine Mm.mk ?_ | (refine Br.mk (fun h => ?_) (fun h => ?_) <;> first | (exfalso; omega; done) | (exfalso; simp at h; done) | skip))
        refine Back.mk (y + 1 - (i + 1)) _ (by omega) ⟨i + 1, by omega, by omega, rfl, hi, rfl⟩ ?_
        refine ⟨[some 0, some 1], rfl, rfl, ?_, ?_⟩ <;> repeat' (first | exact trivial | exact rfl | exact Iff.rfl | apply And.intro)
      · have hc := usF_no hlt
        rw [su_no (p := (fun x => (usB l) x V[a]!)) (fun h => hlt h.2)] at hi
        subst hi
        repeat' ((conv => whnf); first | rw [gi] | rw [ga] | refine Rng.g ?_ | refine Ob.g ?_ | refine Ob.e ?_ | refine Ob.m ?_ | refine Ob.mk (Nat.le_of_ble_eq_true rfl) ?_ | refine JoinVC.on ?_ | refine Nils.mk (fun h => ?_) ?_ | refine Val.t ?_ | refine Val.d ?_ | refine Mm.mk ?_ | (refine Br.mk (fun h => ?_) (fun h => ?_) <;> first | (exfalso; omega; done) | (exfalso; simp at h; done) | skip))
        refine Meet.mk _ ⟨rfl, rfl⟩ ?_
        refine ⟨[some 0, some 1], rfl, rfl, ?_, ?_⟩ <;> repeat' (first | exact trivial | exact rfl | exact Iff.rfl | apply And.intro)
    rintro e _ ⟨rfl, rfl⟩
    repeat' ((conv => whnf); first | refine Rng.g ?_ | refine Ob.g ?_ | refine Ob.e ?_ | refine Ob.m ?_ | refine Ob.mk (Nat.le_of_ble_eq_true rfl) ?_ | refine JoinVC.on ?_ | refine Nils.mk (fun h => ?_) ?_ | refine Val.t ?_ | refine Val.d ?_ | refine Mm.mk ?_ | (refine Br.mk (fun h => ?_) (fun h => ?_) <;> first | (exfalso; omega; done) | (exfalso; simp at h; done) | skip))
    refine LoopVC.cut (fun m st => ∃ j : Nat, I2 ≤ j + 1 ∧ j ≤ y ∧ m = j + 1 - I2 ∧ Go.Sort.scanDown (fun x => !(usB l) x V[a]!) V I2 j = J2 ∧ st = ⟨2, envA 178 [(0, .x (.one (.own 0))), (1, .x (I (a : Int))), (2, .x (I (b : Int))), (4, .x (.one (.bnd 74 false [.ptr 1 0]))), (12, .int .i64 (I2 : Int)), (13, .int .i64 (j : Int))], [some (rowA (V)), some (bPl f l)]⟩) _ _ (fun e st => e = .exit 8 ∧ st = ⟨2, envA 178 [(0, .x (.one (.own 0))), (1, .x (I (a : Int))), (2, .x (I (b : Int))), (4, .x (.one (.bnd 74 false [.ptr 1 0]))), (12, .int .i64 (I2 : Int)), (13, .int .i64 (J2 : Int))], [some (rowA (V)), some (bPl f l)]⟩) ⟨y, by omega, Nat.le_refl _, rfl, hJ2, rfl⟩ ?_ ?_ ?_
    · refine ⟨[some 0, some 1], rfl, rfl, ?_, ?_⟩ <;> repeat' (first | exact trivial | exact rfl | exact Iff.rfl | apply And.intro)
    · rintro m _ ⟨j, j1, j2, hm, hj, rfl⟩
      by_cases hij : I2 ≤ j
      rotate_left
      · rw [sn_no (p := (fun x => !(usB l) x V[a]!)) (fun h => hij h.1)] at hj
        subst hj
        repeat' ((conv => whnf); first | refine Rng.g ?_ | refine Ob.g ?_ | refine Ob.e ?_ | refine Ob.m ?_ | refine Ob.mk (Nat.le_of_ble_eq_true rfl) ?_ | refine JoinVC.on ?_ | refine Nils.mk (fun h => ?_) ?_ | refine Val.t ?_ | refine Val.d ?_ | refine Mm.mk ?_ | (refine Br.mk (fun h => ?_) (fun h => ?_) <;> first | (exfalso; omega; done) | (exfalso; simp at h; done) | skip))
        refine Meet.mk _ ⟨rfl, rfl⟩ ?_
        refine ⟨[some 0, some 1], rfl, rfl, ?_, ?_⟩ <;> repeat' (first | exact trivial | exact rfl | exact Iff.rfl | apply And.intro)
      obtain ⟨k, rfl⟩ : ∃ k, j = k + 1 := ⟨j - 1, by omega⟩
      have gj : rI (i64s V.toList) (((k + 1 : Nat) : Int)).toNat 0 = V[k + 1]! := by rw [show (((k + 1 : Nat) : Int)).toNat = k + 1 by omega]; exact arr_get V _
      repeat' ((conv => whnf); first | rw [gj] | rw [ga] | refine Rng.g ?_ | refine Ob.g ?_ | refine Ob.e ?_ | refine Ob.m ?_ | refine Ob.mk (Nat.le_of_ble_eq_true rfl) ?_ | refine JoinVC.on ?_ | refine Nils.mk (fun h => ?_) ?_ | refine Val.t ?_ | refine Val.d ?_ | refine Mm.mk ?_ | (refine Br.mk (fun h => ?_) (fun h => ?_) <;> first | (exfalso; omega; done) | (exfalso; simp at h; done) | skip))
      conv => whnf
      refine CallVC.mk [1] _ _ _ rfl rfl rfl (s74 f l V[k + 1]! V[a]! (hV (k + 1) (by omega)) (hV a (by omega))) (fun r m' h' => ?_)
      obtain ⟨rfl, rfl⟩ := h'
      conv => whnf
      by_cases hlt : (usB l) V[k + 1]! V[a]! = true
      · have hc := usF_yes hlt
        rw [sn_no (p := (fun x => !(usB l) x V[a]!)) (fun h => by simp [hlt] at h)] at hj
        subst hj
        repeat' ((conv => whnf); first | rw [gj] | rw [ga] | refine Rng.g ?_ | refine Ob.g ?_ | refine Ob.e ?_ | refine Ob.m ?_ | refine Ob.mk (Nat.le_of_ble_eq_true rfl) ?_ | refine JoinVC.on ?_ | refine Nils.mk (fun h => ?_) ?_ | refine Val.t ?_ | refine Val.d ?_ | refine Mm.mk ?_ | (refine Br.mk (fun h => ?_) (fun h => ?_) <;> first | (exfalso; omega; done) | (exfalso; simp at h; done) | skip))
        refine Meet.mk _ ⟨rfl, rfl⟩ ?_
        refine ⟨[some 0, some 1], rfl, rfl, ?_, ?_⟩ <;> repeat' (first | exact trivial | exact rfl | exact Iff.rfl | apply And.intro)
      · have hc := usF_no hlt
        rw [sn_yes (p := (fun x => !(usB l) x V[a]!)) hij (by simp [hlt])] at hj
        repeat' ((conv => whnf); first | rw [gj] | rw [ga] | refine Rng.g ?_ | refine Ob.g ?_ | refine Ob.e ?_ | refine Ob.m ?_ | refine Ob.mk (Nat.le_of_ble_eq_true rfl) ?_ | refine JoinVC.on ?_ | refine Nils.mk (fun h => ?_) ?_ | refine Val.t ?_ | refine Val.d ?_ | refine Mm.mk ?_ | (refine Br.mk (fun h => ?_) (fun h => ?_) <;> first | (exfalso; omega; done) | (exfalso; simp at h; done) | skip))
        refine Back.mk (k + 1 - I2) _ (by omega) ⟨k, by omega, by omega, rfl, hj, rfl⟩ ?_
        refine ⟨[some 0, some 1], rfl, rfl, ?_, ?_⟩ <;> repeat' (first | exact trivial | exact rfl | exact Iff.rfl | apply And.intro)
        all_goals omega
    rintro e _ ⟨rfl, rfl⟩
    repeat' ((conv => whnf); first | refine Rng.g ?_ | refine Ob.g ?_ | refine Ob.e ?_ | refine Ob.m ?_ | refine Ob.mk (Nat.le_of_ble_eq_true rfl) ?_ | refine JoinVC.on ?_ | refine Nils.mk (fun h => ?_) ?_ | refine Val.t ?_ | refine Val.d ?_ | refine Mm.mk ?_ | (refine Br.mk (fun h => ?_) (fun h => ?_) <;> first | (exfalso; omega; done) | (exfalso; simp at h; done) | skip))
    · rw [ploop_t hI2 hJ2 (by omega)] at hZ
      cases hZ
      refine Meet.mk _ ⟨rfl, by omega, by omega, lV, hV, rfl⟩ ?_
      refine ⟨[some 0, some 1], rfl, rfl, ?_, ?_⟩ <;> repeat' (first | exact trivial | exact rfl | exact Iff.rfl | apply And.intro)
    have hJI : I2 < J2 := sf5 (by omega)
    rw [ploop_f hI2 hJ2 (by omega)] at hZ
    have gi : rI (i64s V.toList) ((I2 : Int)).toNat 0 = V[I2]! := by rw [show ((I2 : Int)).toNat = I2 by omega]; exact arr_get V _
    have gj : rI (i64s V.toList) ((J2 : Int)).toNat 0 = V[J2]! := by rw [show ((J2 : Int)).toNat = J2 by omega]; exact arr_get V _
    have u1 : updRow (i64s V.toList) ((I2 : Int)).toNat 0 [Cell.int V[J2]!] = i64s (V.toList.set (I2) V[J2]!) := by rw [show ((I2 : Int)).toNat = I2 by omega]; exact arr_up1 V _ _ (by omega)
    have u2 : updRow (i64s (V.toList.set (I2) V[J2]!)) ((J2 : Int)).toNat 0 [Cell.int V[I2]!] = i64s (Go.Sort.swp V (I2) (J2)).toList := by rw [show ((J2 : Int)).toNat = J2 by omega]; exact arr_up2 V _ _ (by omega)
    have la1 := arr_l1 V (I2) V[J2]!
    have la2 := arr_len (Go.Sort.swp V (I2) (J2))
    have ls2 := Go.Sort.size_swp V (I2) (J2)
    repeat' ((conv => whnf); first | rw [gi] | rw [gj] | rw [u1] | rw [u2] | refine Rng.g ?_ | refine Ob.g ?_ | refine Ob.e ?_ | refine Ob.m ?_ | refine Ob.mk (Nat.le_of_ble_eq_true rfl) ?_ | refine JoinVC.on ?_ | refine Nils.mk (fun h => ?_) ?_ | refine Val.t ?_ | refine Val.d ?_ | refine Mm.mk ?_ | (refine Br.mk (fun h => ?_) (fun h => ?_) <;> first | (exfalso; omega; done) | (exfalso; simp at h; done) | skip))
    refine Back.mk (J2 - 1 + 1 - (I2 + 1)) _ (by omega) ⟨I2 + 1, J2 - 1, _, by omega, by omega, by omega, rfl, by omega, hV.swp (by omega) (by omega), hZ, rfl⟩ ?_
    refine ⟨[some 0, some 1], rfl, rfl, ?_, ?_⟩ <;> repeat' (first | exact trivial | exact rfl | exact Iff.rfl | apply And.intro)
    all_goals omega
  rintro e _ ⟨rfl, z1, z2, z3, hV, rfl⟩
  have la := arr_len ZV
  clear u1 u2 la1 la2 ls2 gi gj ga
  have ga : rI (i64s ZV.toList) ((a : Int)).toNat 0 = ZV[a]! := by rw [show ((a : Int)).toNat = a by omega]; exact arr_get ZV _
  have gj : rI (i64s ZV.toList) ((ZJ : Int)).toNat 0 = ZV[ZJ]! := by rw [show ((ZJ : Int)).toNat = ZJ by omega]; exact arr_get ZV _
  have u1 : updRow (i64s ZV.toList) ((ZJ : Int)).toNat 0 [Cell.int ZV[a]!] = i64s (ZV.toList.set (ZJ) ZV[a]!) := by rw [show ((ZJ : Int)).toNat = ZJ by omega]; exact arr_up1 ZV _ _ (by omega)
  have u2 : updRow (i64s (ZV.toList.set (ZJ) ZV[a]!)) ((a : Int)).toNat 0 [Cell.int ZV[ZJ]!] = i64s (Go.Sort.swp ZV (ZJ) (a)).toList := by rw [show ((a : Int)).toNat = a by omega]; exact arr_up2 ZV _ _ (by omega)
  have la1 := arr_l1 ZV (ZJ) ZV[a]!
  have la2 := arr_len (Go.Sort.swp ZV (ZJ) (a))
  have ls2 := Go.Sort.size_swp ZV (ZJ) (a)
  repeat' ((conv => whnf); first | rw [ga] | rw [gj] | rw [u1] | rw [u2] | refine Rng.g ?_ | refine Ob.g ?_ | refine Ob.e ?_ | refine Ob.m ?_ | refine Ob.mk (Nat.le_of_ble_eq_true rfl) ?_ | refine JoinVC.on ?_ | refine Nils.mk (fun h => ?_) ?_ | refine Val.t ?_ | refine Val.d ?_ | refine Mm.mk ?_ | (refine Br.mk (fun h => ?_) (fun h => ?_) <;> first | (exfalso; omega; done) | (exfalso; simp at h; done) | skip))
  repeat refine Mm.mk ?_
  conv => whnf
  refine EndVC.mk _ rfl _ _ (⟨ZJ, false, _, e1, rfl, rfl⟩) ?_
  refine ⟨[some 0, some 1], rfl, rfl, ?_, ?_⟩ <;> repeat' (first | exact trivial | exact rfl | exact Iff.rfl | apply And.intro)
theorem cpeq (f : Fmt) (l : List Sng) (d : Array Int) (hz : d.size ≤ 1000) (hI : InA d l.length) (a b p : Nat) (hp : a ≤ p ∧ p < b) (hb : b ≤ d.size) : HSpec Try.prog 108 [.one (.own 0), I (a : Int), I (b : Int), I (p : Int), .one (.bnd 74 false [.ptr 1 0])] [rowA (d), bPl f l] (fun r m' => ∃ (x : Nat) (W : Array Int), Go.Sort.partitionEqual (usB l) d a b p = (x, W) ∧ r = .x (I (x : Int)) ∧ m' = [some (rowA (W)), some (bPl f l)]) := by
  have la := arr_len d
  have ga : rI (i64s d.toList) ((a : Int)).toNat 0 = d[a]! := by rw [show ((a : Int)).toNat = a by omega]; exact arr_get d _
  have gp : rI (i64s d.toList) ((p : Int)).toNat 0 = d[p]! := by rw [show ((p : Int)).toNat = p by omega]; exact arr_get d _
  have u1 : updRow (i64s d.toList) ((a : Int)).toNat 0 [Cell.int d[p]!] = i64s (d.toList.set (a) d[p]!) := by rw [show ((a : Int)).toNat = a by omega]; exact arr_up1 d _ _ (by omega)
  have u2 : updRow (i64s (d.toList.set (a) d[p]!)) ((p : Int)).toNat 0 [Cell.int d[a]!] = i64s (Go.Sort.swp d (a) (p)).toList := by rw [show ((p : Int)).toNat = p by omega]; exact arr_up2 d _ _ (by omega)
  have la1 := arr_l1 d (a) d[p]!
  have la2 := arr_len (Go.Sort.swp d (a) (p))
  have ls2 := Go.Sort.size_swp d (a) (p)
  have hV : InA d l.length := hI
  have hV0' : InA (Go.Sort.swp d a p) l.length := hV.swp (by omega) (by omega)
  obtain ⟨ZI, ZV, hZ⟩ : ∃ ZI ZV, Go.Sort.partitionEqual (usB l) d a b p = (ZI, ZV) := ⟨_, _, rfl⟩
  have hZ2 : Go.Sort.partEqLoop (usB l) a (a + 1) (b - 1) (Go.Sort.swp d a p) = (ZI, ZV) := hZ
  refine spec_of pMix (O := [(1, ([], [⟨0, [], []⟩, ⟨1, [], []⟩, ⟨2, [], []⟩, ⟨3, [], []⟩, ⟨4, [], []⟩, ⟨5, [], []⟩, ⟨6, [], []⟩, ⟨7, [], []⟩, ⟨8, [], []⟩, ⟨9, [], []⟩, ⟨10, [], []⟩, ⟨11, [], []⟩, ⟨12, [], []⟩, ⟨13, [2, 3], []⟩, ⟨14, [], []⟩, ⟨15, [], []⟩])), (8, ([], [⟨0, [], []⟩, ⟨1, [], []⟩, ⟨2, [], []⟩, ⟨3, [], []⟩, ⟨4, [], []⟩, ⟨5, [], []⟩, ⟨6, [], []⟩, ⟨7, [], []⟩, ⟨8, [], []⟩, ⟨9, [], []⟩, ⟨10, [], []⟩, ⟨11, [], []⟩, ⟨12, [], []⟩, ⟨13, [2, 3], []⟩, ⟨14, [], []⟩, ⟨15, [], []⟩]))]) Try.func108 (c := bodyOf Try.f108) rfl (by kernel_rfl) (by kernel_rfl) Try.ntmps108 (res := [.tmp 10]) (by kernel_rfl) ?_
  repeat' ((conv => whnf); first | rw [ga] | rw [gp] | rw [u1] | rw [u2] | refine Rng.g ?_ | refine Ob.g ?_ | refine Ob.e ?_ | refine Ob.m ?_ | refine Ob.mk (Nat.le_of_ble_eq_true rfl) ?_ | refine JoinVC.on ?_ | refine Nils.mk (fun h => ?_) ?_ | refine Val.t ?_ | refine Val.d ?_ | refine Mm.mk ?_ | (refine Br.mk (fun h => ?_) (fun h => ?_) <;> first | (exfalso; omega; done) | (exfalso; simp at h; done) | skip))
  refine LoopVC.cut (fun m st => ∃ (i j : Nat) (W : Array Int), a < i ∧ i ≤ j + 1 ∧ j < b ∧ m = j + 1 - i ∧ W.size = d.size ∧ InA W l.length ∧ Go.Sort.partEqLoop (usB l) a i j W = (ZI, ZV) ∧ st = ⟨2, envA 90 [(0, .x (.one (.own 0))), (1, .x (I (a : Int))), (2, .x (I (b : Int))), (4, .x (.one (.bnd 74 false [.ptr 1 0]))), (11, .int .i64 (i : Int)), (12, .int .i64 (j : Int))], [some (rowA (W)), some (bPl f l)]⟩) _ _ (fun e st => e = .exit 0 ∧ st = ⟨2, envA 90 [(0, .x (.one (.own 0))), (1, .x (I (a : Int))), (2, .x (I (b : Int))), (4, .x (.one (.bnd 74 false [.ptr 1 0]))), (11, .int .i64 (ZI : Int))], [some (rowA (ZV)), some (bPl f l)]⟩) ⟨a + 1, b - 1, _, by omega, by omega, by omega, rfl, by omega, hV0', hZ2, rfl⟩ ?_ ?_ ?_
  · refine ⟨[some 0, some 1], rfl, rfl, ?_, ?_⟩ <;> repeat' (first | exact trivial | exact rfl | exact Iff.rfl | apply And.intro)
    all_goals omega
  · clear hZ hZ2 ga gp u1 u2 la1 la2 ls2 hV0' hV la
    rintro m _ ⟨x, y, V, h1, h2, h3, hm, lV, hV, hZ, rfl⟩
    have la := arr_len V
    have ga : rI (i64s V.toList) ((a : Int)).toNat 0 = V[a]! := by rw [show ((a : Int)).toNat = a by omega]; exact arr_get V _
    obtain ⟨I2, hI2⟩ : ∃ I2, Go.Sort.scanUp (fun x => !(usB l) V[a]! x) V y x = I2 := ⟨_, rfl⟩
    obtain ⟨J2, hJ2⟩ : ∃ J2, Go.Sort.scanDown (fun x => (usB l) V[a]! x) V I2 y = J2 := ⟨_, rfl⟩
    obtain ⟨sf1, sf2, sf3, sf4, sf5⟩ := scan_facts (fun x => (Bool.not_not _).symm) V (by omega) (by omega) hI2 hJ2
    repeat' ((conv => whnf); first | refine Rng.g ?_ | refine Ob.g ?_ | refine Ob.e ?_ | refine Ob.m ?_ | refine Ob.mk (Nat.le_of_ble_eq_true rfl) ?_ | refine JoinVC.on ?_ | refine Nils.mk (fun h => ?_) ?_ | refine Val.t ?_ | refine Val.d ?_ | refine Mm.mk ?_ | (refine Br.mk (fun h => ?_) (fun h => ?_) <;> first | (exfalso; omega; done) | (exfalso; simp at h; done) | skip))
    refine LoopVC.cut (fun m st => ∃ i : Nat, x ≤ i ∧ i ≤ y + 1 ∧ m = y + 1 - i ∧ Go.Sort.scanUp (fun x => !(usB l) V[a]! x) V y i = I2 ∧ st = ⟨2, envA 90 [(0, .x (.one (.own 0))), (1, .x (I (a : Int))), (2, .x (I (b : Int))), (4, .x (.one (.bnd 74 false [.ptr 1 0]))), (11, .int .i64 (i : Int)), (12, .int .i64 ((y : Nat) : Int))], [some (rowA (V)), some (bPl f l)]⟩) _ _ (fun e st => e = .exit 2 ∧ st = ⟨2, envA 90 [(0, .x (.one (.own 0))), (1, .x (I (a : Int))), (2, .x (I (b : Int))), (4, .x (.one (.bnd 74 false [.ptr 1 0]))), (11, .int .i64 (I2 : Int)), (12, .int .i64 ((y : Nat) : Int))], [some (rowA (V)), some (bPl f l)]⟩) ⟨x, Nat.le_refl _, by omega, rfl, hI2, rfl⟩ ?_ ?_ ?_
    · refine ⟨[some 0, some 1], rfl, rfl, ?_, ?_⟩ <;> repeat' (first | exact trivial | exact rfl | exact Iff.rfl | apply And.intro)
      all_goals omega
    · rintro m _ ⟨i, i1, i2, hm, hi, rfl⟩
      by_cases hij : i ≤ y
      rotate_left
      · rw [su_no (p := (fun x => !(usB l) V[a]! x)) (fun h => hij h.1)] at hi
        subst hi
        repeat' ((conv => whnf); first | refine Rng.g ?_ | refine Ob.g ?_ | refine Ob.e ?_ | refine Ob.m ?_ | refine Ob.mk (Nat.le_of_ble_eq_true rfl) ?_ | refine JoinVC.on ?_ | refine Nils.mk (fun h => ?_) ?_ | refine Val.t ?_ | refine Val.d ?_ | refine Mm.mk ?_ | (refine Br.mk (fun h => ?_) (fun h => ?_) <;> first | (exfalso; omega; done) | (exfalso; simp at h; done) | skip))
        refine Meet.mk _ ⟨rfl, rfl⟩ ?_
        refine ⟨[some 0, some 1], rfl, rfl, ?_, ?_⟩ <;> repeat' (first | exact trivial | exact rfl | exact Iff.rfl | apply And.intro)
      have gi : rI (i64s V.toList) ((i : Int)).toNat 0 = V[i]! := by rw [show ((i : Int)).toNat = i by omega]; exact arr_get V _
      repeat' ((conv => whnf); first | rw [gi] | rw [ga] | refine Rng.g ?_ | refine Ob.g ?_ | refine Ob.e ?_ | refine Ob.m ?_ | refine Ob.mk (Nat.le_of_ble_eq_true rfl) ?_ | refine JoinVC.on ?_ | refine Nils.mk (fun h => ?_) ?_ | refine Val.t ?_ | refine Val.d ?_ | refine Mm.mk ?_ | (refine Br.mk (fun h => ?_) (fun h => ?_) <;> first | (exfalso; omega; done) | (exfalso; simp at h; done) | skip))
      conv => whnf
      refine CallVC.mk [1] _ _ _ rfl rfl rfl (s74 f l V[a]! V[i]! (hV a (by omega)) (hV i (by omega))) (fun r m' h' => ?_)
      obtain ⟨rfl, rfl⟩ := h'
      conv => whnf
      by_cases hlt : (usB l) V[a]! V[i]! = true
      · have hc := usF_yes hlt
        rw [su_no (p := (fun x => !(usB l) V[a]! x)) (fun h => by simp [hlt] at h)] at hi
        subst hi
        repeat' ((conv => whnf); first | rw [gi] | rw [ga] | refine Rng.g ?_ | refine Ob.g ?_ | refine Ob.e ?_ | refine Ob.m ?_ | refine Ob.mk (Nat.le_of_ble_eq_true rfl) ?_ | refine JoinVC.on ?_ | refine Nils.mk (fun h => ?_) ?_ | refine Val.t ?_ | refine Val.d ?_ | refine Mm.mk ?_ | (refine Br.mk (fun h => ?_) (fun h => ?_) <;> first | (exfalso; omega; done) | (exfalso; simp at h; done) | skip))
        refine Meet.mk _ ⟨rfl, rfl⟩ ?_
        refine ⟨[some 0, some 1], rfl, rfl, ?_, ?_⟩ <;> repeat' (first | exact trivial | exact rfl | exact Iff.rfl | apply And.intro)
      · have hc := usF_no hlt
        rw [su_yes (p := (fun x => !(usB l) V[a]! x)) hij (by simp [hlt])] at hi
        repeat' ((conv => whnf); first | rw [gi] | rw [ga] | refine Rng.g ?_ | refine Ob.g ?_ | refine Ob.e ?_ | refine Ob.m ?_ | refine Ob.mk (Nat.le_of_ble_eq_true rfl) ?_ | refine JoinVC.on ?_ | refine Nils.mk (fun h => ?_) ?_ | refine Val.t ?_ | refine Val.d ?_ | refine Mm.mk ?_ | (refine Br.mk (fun h => ?_) (fun h => ?_) <;> first | (exfalso; omega; done) | (exfalso; simp at h; done) | skip))
        refine Back.mk (y + 1 - (i + 1)) _ (by omega) ⟨i + 1, by omega, by omega, rfl, hi, rfl⟩ ?_
        refine ⟨[some 0, some 1], rfl, rfl, ?_, ?_⟩ <;> repeat' (first | exact trivial | exact rfl | exact Iff.rfl | apply And.intro)
    rintro e _ ⟨rfl, rfl⟩
    repeat' ((conv => whnf); first | refine Rng.g ?_ | refine Ob.g ?_ | refine Ob.e ?_ | refine Ob.m ?_ | refine Ob.mk (Nat.le_of_ble_eq_true rfl) ?_ | refine JoinVC.on ?_ | refine Nils.mk (fun h => ?_) ?_ | refine Val.t ?_ | refine Val.d ?_ | refine Mm.mk ?_ | (refine Br.mk (fun h => ?_) (fun h => ?_) <;> first | (exfalso; omega; done) | (exfalso; simp at h; done) | skip))
    refine LoopVC.cut (fun m st => ∃ j : Nat, I2 ≤ j + 1 ∧ j ≤ y ∧ m = j + 1 - I2 ∧ Go.Sort.scanDown (fun x => (usB l) V[a]! x) V I2 j = J2 ∧ st = ⟨2, envA 90 [(0, .x (.one (.own 0))), (1, .x (I (a : Int))), (2, .x (I (b : Int))), (4, .x (.one (.bnd 74 false [.ptr 1 0]))), (11, .int .i64 (I2 : Int)), (12, .int .i64 (j : Int))], [some (rowA (V)), some (bPl f l)]⟩) _ _ (fun e st => e = .exit 4 ∧ st = ⟨2, envA 90 [(0, .x (.one (.own 0))), (1, .x (I (a : Int))), (2, .x (I (b : Int))), (4, .x (.one (.bnd 74 false [.ptr 1 0]))), (11, .int .i64 (I2 : Int)), (12, .int .i64 (J2 : Int))], [some (rowA (V)), some (bPl f l)]⟩) ⟨y, by omega, Nat.le_refl _, rfl, hJ2, rfl⟩ ?_ ?_ ?_
    · refine ⟨[some 0, some 1], rfl, rfl, ?_, ?_⟩ <;> repeat' (first | exact trivial | exact rfl | exact Iff.rfl | apply And.intro)
    · rintro m _ ⟨j, j1, j2, hm, hj, rfl⟩
      by_cases hij : I2 ≤ j
      rotate_left
      · rw [sn_no (p := (fun x => (usB l) V[a]! x)) (fun h => hij h.1)] at hj
        subst hj
        repeat' ((conv => whnf); first | refine Rng.g ?_ | refine Ob.g ?_ | refine Ob.e ?_ | refine Ob.m ?_ | refine Ob.mk (Nat.le_of_ble_eq_true rfl) ?_ | refine JoinVC.on ?_ | refine Nils.mk (fun h => ?_) ?_ | refine Val.t ?_ | refine Val.d ?_ | refine Mm.mk ?_ | (refine Br.mk (fun h => ?_) (fun h => ?_) <;> first | (exfalso; omega; done) | (exfalso; simp at h; done) | skip))
        refine Meet.mk _ ⟨rfl, rfl⟩ ?_
        refine ⟨[some 0, some 1], rfl, rfl, ?_, ?_⟩ <;> repeat' (first | exact trivial | exact rfl | exact Iff.rfl | apply And.intro)
      obtain ⟨k, rfl⟩ : ∃ k, j = k + 1 := ⟨j - 1, by omega⟩
      have gj : rI (i64s V.toList) (((k + 1 : Nat) : Int)).toNat 0 = V[k + 1]! := by rw [show (((k + 1 : Nat) : Int)).toNat = k + 1 by omega]; exact arr_get V _
      repeat' ((conv => whnf); first | rw [gj] | rw [ga] | refine Rng.g ?_ | refine Ob.g ?_ | refine Ob.e ?_ | refine Ob.m ?_ | refine Ob.mk (Nat.le_of_ble_eq_true rfl) ?_ | refine JoinVC.on ?_ | refine Nils.mk (fun h => ?_) ?_ | refine Val.t ?_ | refine Val.d ?_ | refine Mm.mk ?_ | (refine Br.mk (fun h => ?_) (fun h => ?_) <;> first | (exfalso; omega; done) | (exfalso; simp at h; done) | skip))
      conv => whnf
      refine CallVC.mk [1] _ _ _ rfl rfl rfl (s74 f l V[a]! V[k + 1]! (hV a (by omega)) (hV (k + 1) (by omega))) (fun r m' h' => ?_)
      obtain ⟨rfl, rfl⟩ := h'
      conv => whnf
      by_cases hlt : (usB l) V[a]! V[k + 1]! = true
      · have hc := usF_yes hlt
        rw [sn_yes (p := (fun x => (usB l) V[a]! x)) hij hlt] at hj
        repeat' ((conv => whnf); first | rw [gj] | rw [ga] | refine Rng.g ?_ | refine Ob.g ?_ | refine Ob.e ?_ | refine Ob.m ?_ | refine Ob.mk (Nat.le_of_ble_eq_true rfl) ?_ | refine JoinVC.on ?_ | refine Nils.mk (fun h => ?_) ?_ | refine Val.t ?_ | refine Val.d ?_ | refine Mm.mk ?_ | (refine Br.mk (fun h => ?_) (fun h => ?_) <;> first | (exfalso; omega; done) | (exfalso; simp at h; done) | skip))
        refine Back.mk (k + 1 - I2) _ (by omega) ⟨k, by omega, by omega, rfl, hj, rfl⟩ ?_
        refine ⟨[some 0, some 1], rfl, rfl, ?_, ?_⟩ <;> repeat' (first | exact trivial | exact rfl | exact Iff.rfl | apply And.intro)
        all_goals omega
      · have hc := usF_no hlt
        rw [sn_no (p := (fun x => (usB l) V[a]! x)) (fun h => hlt h.2)] at hj
        subst hj
        repeat' ((conv => whnf); first | rw [gj] | rw [ga] | refine Rng.g ?_ | refine Ob.g ?_ | refine Ob.e ?_ | refine Ob.m ?_ | refine Ob.mk (Nat.le_of_ble_eq_true rfl) ?_ | refine JoinVC.on ?_ | refine Nils.mk (fun h => ?_) ?_ | refine Val.t ?_ | refine Val.d ?_ | refine Mm.mk ?_ | (refine Br.mk (fun h => ?_) (fun h => ?_) <;> first | (exfalso; omega; done) | (exfalso; simp at h; done) | skip))
        refine Meet.mk _ ⟨rfl, rfl⟩ ?_
        refine ⟨[some 0, some 1], rfl, rfl, ?_, ?_⟩ <;> repeat' (first | exact trivial | exact rfl | exact Iff.rfl | apply And.intro)
    rintro e _ ⟨rfl, rfl⟩
    repeat' ((conv => whnf); first | refine Rng.g ?_ | refine Ob.g ?_ | refine Ob.e ?_ | refine Ob.m ?_ | refine Ob.mk (Nat.le_of_ble_eq_true rfl) ?_ | refine JoinVC.on ?_ | refine Nils.mk (fun h => ?_) ?_ | refine Val.t ?_ | refine Val.d ?_ | refine Mm.mk ?_ | (refine Br.mk (fun h => ?_) (fun h => ?_) <;> first | (exfalso; omega; done) | (exfalso; simp at h; done) | skip))
    · rw [pel_t hI2 hJ2 (by omega)] at hZ
      cases hZ
      refine Meet.mk _ ⟨rfl, rfl⟩ ?_
      refine ⟨[some 0, some 1], rfl, rfl, ?_, ?_⟩ <;> repeat' (first | exact trivial | exact rfl | exact Iff.rfl | apply And.intro)
    have hJI : I2 < J2 := sf5 (by omega)
    rw [pel_f hI2 hJ2 (by omega)] at hZ
    have gi : rI (i64s V.toList) ((I2 : Int)).toNat 0 = V[I2]! := by rw [show ((I2 : Int)).toNat = I2 by omega]; exact arr_get V _
    have gj : rI (i64s V.toList) ((J2 : Int)).toNat 0 = V[J2]! := by rw [show ((J2 : Int)).toNat = J2 by omega]; exact arr_get V _
    have u1 : updRow (i64s V.toList) ((I2 : Int)).toNat 0 [Cell.int V[J2]!] = i64s (V.toList.set (I2) V[J2]!) := by rw [show ((I2 : Int)).toNat = I2 by omega]; exact arr_up1 V _ _ (by omega)
    have u2 : updRow (i64s (V.toList.set (I2) V[J2]!)) ((J2 : Int)).toNat 0 [Cell.int V[I2]!] = i64s (Go.Sort.swp V (I2) (J2)).toList := by rw [show ((J2 : Int)).toNat = J2 by omega]; exact arr_up2 V _ _ (by omega)
    have la1 := arr_l1 V (I2) V[J2]!
    have la2 := arr_len (Go.Sort.swp V (I2) (J2))
    have ls2 := Go.Sort.size_swp V (I2) (J2)
    repeat' ((conv => whnf); first | rw [gi] | rw [gj] | rw [u1] | rw [u2] | refine Rng.g ?_ | refine Ob.g ?_ | refine Ob.e ?_ | refine Ob.m ?_ | refine Ob.mk (Nat.le_of_ble_eq_true rfl) ?_ | refine JoinVC.on ?_ | refine Nils.mk (fun h => ?_) ?_ | refine Val.t ?_ | refine Val.d ?_ | refine Mm.mk ?_ | (refine Br.mk (fun h => ?_) (fun h => ?_) <;> first | (exfalso; omega; done) | (exfalso; simp at h; done) | skip))
    refine Back.mk (J2 - 1 + 1 - (I2 + 1)) _ (by omega) ⟨I2 + 1, J2 - 1, _, by omega, by omega, by omega, rfl, by omega, hV.swp (by omega) (by omega), hZ, rfl⟩ ?_
    refine ⟨[some 0, some 1], rfl, rfl, ?_, ?_⟩ <;> repeat' (first | exact trivial | exact rfl | exact Iff.rfl | apply And.intro)
    all_goals omega
  rintro e _ ⟨rfl, rfl⟩
  repeat' ((conv => whnf); first | refine Rng.g ?_ | refine Ob.g ?_ | refine Ob.e ?_ | refine Ob.m ?_ | refine Ob.mk (Nat.le_of_ble_eq_true rfl) ?_ | refine JoinVC.on ?_ | refine Nils.mk (fun h => ?_) ?_ | refine Val.t ?_ | refine Val.d ?_ | refine Mm.mk ?_ | (refine Br.mk (fun h => ?_) (fun h => ?_) <;> first | (exfalso; omega; done) | (exfalso; simp at h; done) | skip))
  repeat refine Mm.mk ?_
  conv => whnf
  refine EndVC.mk _ rfl _ _ (⟨ZI, ZV, hZ, rfl, rfl⟩) ?_
  refine ⟨[some 0, some 1], rfl, rfl, ?_, ?_⟩ <;> repeat' (first | exact trivial | exact rfl | exact Iff.rfl | apply And.intro)
end Go.Sx

namespace Go.Sx
open Go Go.Proofs
set_option maxRecDepth 10000
set_option maxHeartbeats 8000000
open Classical in
theorem s47 (f : Fmt) (l : List Sng) (O : List Int) (hf : FmtOK f) (hg : SngsOK l) (hO : InR O l.length) (hl : O.length ≤ 100) : HSpec Try.prog 47 [.one (.ptr 0 0), .one (.lst true [.int .i64] (i64s O))] [bPl f l] (fun r m' => r = xP (LayOK f l O) ∧ m' = [some (bPl f l)]) := by
  refine spec_of pMix (O := []) Try.func47 (c := bodyOf Try.f47) rfl (by kernel_rfl) (by kernel_rfl) Try.ntmps47 (res := [.tmp 4]) (by kernel_rfl) ?_
  repeat' ((conv => whnf); first | refine Rng.g ?_ | refine Ob.g ?_ | refine Ob.e ?_ | refine Ob.m ?_ | refine Ob.mk (Nat.le_of_ble_eq_true rfl) ?_ | refine JoinVC.on ?_ | refine Nils.mk (fun h => ?_) ?_ | refine Val.t ?_ | refine Val.d ?_ | refine Mm.mk ?_ | (refine Br.mk (fun h => ?_) (fun h => ?_) <;> first | (exfalso; omega; done) | (exfalso; simp at h; done) | skip))
  conv => whnf
  refine CallVC.mk [0] _ _ _ rfl rfl rfl (s37 f l O hf hg hO hl) (fun r m' h' => ?_)
  cases h' with
  | rule i hi h hn hr hm =>
    subst hr hm
    repeat' ((conv => whnf); first | refine Rng.g ?_ | refine Ob.g ?_ | refine Ob.e ?_ | refine Ob.m ?_ | refine Ob.mk (Nat.le_of_ble_eq_true rfl) ?_ | refine JoinVC.on ?_ | refine Nils.mk (fun h => ?_) ?_ | refine Val.t ?_ | refine Val.d ?_ | refine Mm.mk ?_ | (refine Br.mk (fun h => ?_) (fun h => ?_) <;> first | (exfalso; omega; done) | (exfalso; simp at h; done) | skip))
    repeat refine Mm.mk ?_
    refine EndVC.mk _ rfl _ _ ⟨rfl, rfl⟩ ?_
    refine ⟨[some 0], rfl, rfl, ?_, ?_⟩ <;> repeat' (first | exact trivial | exact rfl | exact Iff.rfl | apply And.intro)
    show _ ↔ _
    exact ⟨fun h1 => absurd h1 (by decide), fun h1 => absurd (h1.1 i hi) hn⟩
  | limit h hn hr hm =>
    subst hr hm
    repeat' ((conv => whnf); first | refine Rng.g ?_ | refine Ob.g ?_ | refine Ob.e ?_ | refine Ob.m ?_ | refine Ob.mk (Nat.le_of_ble_eq_true rfl) ?_ | refine JoinVC.on ?_ | refine Nils.mk (fun h => ?_) ?_ | refine Val.t ?_ | refine Val.d ?_ | refine Mm.mk ?_ | (refine Br.mk (fun h => ?_) (fun h => ?_) <;> first | (exfalso; omega; done) | (exfalso; simp at h; done) | skip))
    repeat refine Mm.mk ?_
    refine EndVC.mk _ rfl _ _ ⟨rfl, rfl⟩ ?_
    refine ⟨[some 0], rfl, rfl, ?_, ?_⟩ <;> repeat' (first | exact trivial | exact rfl | exact Iff.rfl | apply And.intro)
    show _ ↔ _
    exact ⟨fun h1 => absurd h1 (by decide), fun h1 => absurd h1 hn⟩
  | ok h hr hm =>
    subst hr hm
    repeat' ((conv => whnf); first | refine Rng.g ?_ | refine Ob.g ?_ | refine Ob.e ?_ | refine Ob.m ?_ | refine Ob.mk (Nat.le_of_ble_eq_true rfl) ?_ | refine JoinVC.on ?_ | refine Nils.mk (fun h => ?_) ?_ | refine Val.t ?_ | refine Val.d ?_ | refine Mm.mk ?_ | (refine Br.mk (fun h => ?_) (fun h => ?_) <;> first | (exfalso; omega; done) | (exfalso; simp at h; done) | skip))
    repeat refine Mm.mk ?_
    refine EndVC.mk _ rfl _ _ ⟨rfl, rfl⟩ ?_
    refine ⟨[some 0], rfl, rfl, ?_, ?_⟩ <;> repeat' (first | exact trivial | exact rfl | exact Iff.rfl | apply And.intro)
    show _ ↔ _
    exact ⟨fun _ => h, fun _ => rfl⟩
inductive ArRs (f : Fmt) (l : List Sng) (r : AV) (m' : List (Option Blk)) : Prop
  | bad (h : bothE f l ≠ 0) (hr : r = .tup [.one .nils, I (bothE f l)]) (hm : m' = [])
  | none (hf : FmtOK f) (hg : SngsOK l) (hn : ¬ LayOK f l (allO l)) (hr : r = .tup [.one .nils, I 15]) (hm : m' = [])
  | ok (hf : FmtOK f) (hg : SngsOK l) (h : LayOK f l (allO l)) (hr : r = .tup [.one (.own 0), I 0]) (hm : m' = [some (rowOd (allO l))])
theorem allO_in (l : List Sng) : InR (allO l) l.length := fun i hi => (allO_idx l).rng i (by rw [(allO_idx l).len] at hi; exact hi)
theorem s18 (f : Fmt) (l : List Sng) (hI : f.nm.size ≤ 140737488355328) (hl : l.length ≤ 12) : HSpec Try.prog 18 [f.x, lSng l] [] (ArRs f l) := by
  refine spec_of pMix (O := []) Try.func18 (c := bodyOf Try.f18) rfl (by kernel_rfl) (by kernel_rfl) Try.ntmps18 (res := [.tmp 4, .tmp 5]) (by kernel_rfl) ?_
  repeat' ((conv => whnf); first | refine Rng.g ?_ | refine Ob.g ?_ | refine Ob.e ?_ | refine Ob.m ?_ | refine Ob.mk (Nat.le_of_ble_eq_true rfl) ?_ | refine JoinVC.on ?_ | refine Nils.mk (fun h => ?_) ?_ | refine Val.t ?_ | refine Val.d ?_ | refine Mm.mk ?_ | (refine Br.mk (fun h => ?_) (fun h => ?_) <;> first | (exfalso; omega; done) | (exfalso; simp at h; done) | skip))
  conv => whnf
  refine CallVC.mk [] _ _ _ rfl rfl rfl (s35 f l hI) (fun r m' h' => ?_)
  rcases h' with ⟨hn, rfl, rfl⟩ | ⟨hf, hg, rfl, rfl⟩
  · repeat' ((conv => whnf); first | refine Rng.g ?_ | refine Ob.g ?_ | refine Ob.e ?_ | refine Ob.m ?_ | refine Ob.mk (Nat.le_of_ble_eq_true rfl) ?_ | refine JoinVC.on ?_ | refine Nils.mk (fun h => ?_) ?_ | refine Val.t ?_ | refine Val.d ?_ | refine Mm.mk ?_ | (refine Br.mk (fun h => ?_) (fun h => ?_) <;> first | (exfalso; omega; done) | (exfalso; simp at h; done) | skip))
    repeat refine Mm.mk ?_
    conv => whnf
    refine EndVC.mk _ rfl _ _ (.bad hn rfl rfl) ?_
    refine ⟨[], rfl, rfl, ?_, ?_⟩ <;> repeat' (first | exact trivial | exact rfl | exact Iff.rfl | apply And.intro)
  · repeat' ((conv => whnf); first | refine Rng.g ?_ | refine Ob.g ?_ | refine Ob.e ?_ | refine Ob.m ?_ | refine Ob.mk (Nat.le_of_ble_eq_true rfl) ?_ | refine JoinVC.on ?_ | refine Nils.mk (fun h => ?_) ?_ | refine Val.t ?_ | refine Val.d ?_ | refine Mm.mk ?_ | (refine Br.mk (fun h => ?_) (fun h => ?_) <;> first | (exfalso; omega; done) | (exfalso; simp at h; done) | skip))
    conv => whnf
    refine CallVC.mk [1] _ _ _ rfl rfl rfl (s46 f l hl) (fun r m' h' => ?_)
    obtain ⟨rfl, rfl⟩ := h'
    conv => whnf
    repeat' ((conv => whnf); first | refine Rng.g ?_ | refine Ob.g ?_ | refine Ob.e ?_ | refine Ob.m ?_ | refine Ob.mk (Nat.le_of_ble_eq_true rfl) ?_ | refine JoinVC.on ?_ | refine Nils.mk (fun h => ?_) ?_ | refine Val.t ?_ | refine Val.d ?_ | refine Mm.mk ?_ | (refine Br.mk (fun h => ?_) (fun h => ?_) <;> first | (exfalso; omega; done) | (exfalso; simp at h; done) | skip))
    conv => whnf
    refine CallVC.mk [1] _ _ _ rfl rfl rfl (s47 f l (allO l) hf hg (allO_in l) (by rw [(allO_idx l).len]; omega)) (fun r m' h' => ?_)
    obtain ⟨rfl, rfl⟩ := h'
    conv => whnf
    repeat' ((conv => whnf); first | refine Rng.g ?_ | refine Ob.g ?_ | refine Ob.e ?_ | refine Ob.m ?_ | refine Ob.mk (Nat.le_of_ble_eq_true rfl) ?_ | refine JoinVC.on ?_ | refine Nils.mk (fun h => ?_) ?_ | refine Val.t ?_ | refine Val.d ?_ | refine Mm.mk ?_ | (refine Br.mk (fun h => ?_) (fun h => ?_) <;> first | (exfalso; omega; done) | (exfalso; simp at h; done) | skip))
    · repeat refine Mm.mk ?_
      conv => whnf
      refine EndVC.mk _ rfl _ _ (.ok hf hg h rfl rfl) ?_
      refine ⟨[some 2], rfl, rfl, ?_, ?_⟩ <;> repeat' (first | exact trivial | exact rfl | exact Iff.rfl | apply And.intro)
    · repeat refine Mm.mk ?_
      conv => whnf
      refine EndVC.mk _ rfl _ _ (.none hf hg h rfl rfl) ?_
      refine ⟨[], rfl, rfl, ?_, ?_⟩ <;> repeat' (first | exact trivial | exact rfl | exact Iff.rfl | apply And.intro)
/-! ### An order is laid -/
theorem s69 (xs : List Int) (v : Int) (hl : xs.length ≤ 1000000) : HSpec Try.prog 69 [.one (.lst true [.int .i64] (i64s xs)), I v] [] (fun r m' => ∃ k, r = .x (I k) ∧ m' = [] ∧ (k = -1 ∧ (∀ j, j < xs.length → xs.getD j 0 ≠ v) ∨ 0 ≤ k ∧ ∃ j, j < xs.length ∧ xs.getD j 0 = v)) := by
  have lo := i64s_len xs
  refine spec_of pMix (O := []) Try.func69 (c := bodyOf Try.f69) rfl (by kernel_rfl) (by kernel_rfl) Try.ntmps69 (res := [.tmp 4]) (by kernel_rfl) ?_
  repeat' ((conv => whnf); first | refine Rng.g ?_ | refine Ob.g ?_ | refine Ob.e ?_ | refine Ob.m ?_ | refine Ob.mk (Nat.le_of_ble_eq_true rfl) ?_ | refine JoinVC.on ?_ | refine Nils.mk (fun h => ?_) ?_ | refine Val.t ?_ | refine Val.d ?_ | refine Mm.mk ?_ | (refine Br.mk (fun h => ?_) (fun h => ?_) <;> first | (exfalso; omega; done) | (exfalso; simp at h; done) | skip))
  refine LoopVC.mk (fun n st => ∃ (i : Nat), i ≤ xs.length ∧ n = xs.length - i ∧ (∀ j, j < i → xs.getD j 0 ≠ v) ∧ st = ⟨0, envA 19 [(0, .x (.one (.lst true [.int .i64] (i64s xs)))), (1, .x (I v)), (6, .x (.one (.lst true [.int .i64] (i64s xs)))), (7, .int .i64 (xs.length : Int)), (8, .int .i64 (i : Int))], []⟩) _ _ ⟨0, Nat.zero_le _, rfl, fun j hj => absurd hj (Nat.not_lt_zero j), rfl⟩ ?_ ?_
  · refine ⟨[], rfl, rfl, ?_, ?_⟩ <;> repeat' (first | exact trivial | exact rfl | exact Iff.rfl | apply And.intro)
    all_goals exact congrArg Int.ofNat lo
  rintro n _ ⟨i, hi, hm, hj, rfl⟩
  have gi : rI (i64s xs) (i : Int).toNat 0 = xs.getD i 0 := by rw [Int.toNat_natCast]; exact i64s_get xs i
  by_cases hi' : i < xs.length
  · by_cases hv : xs.getD i 0 = v
    · repeat' ((conv => whnf); first | rw [gi] | refine Rng.g ?_ | refine Ob.g ?_ | refine Ob.e ?_ | refine Ob.m ?_ | refine Ob.mk (Nat.le_of_ble_eq_true rfl) ?_ | refine JoinVC.on ?_ | refine Nils.mk (fun h => ?_) ?_ | refine Val.t ?_ | refine Val.d ?_ | refine Mm.mk ?_ | (refine Br.mk (fun h => ?_) (fun h => ?_) <;> first | (exfalso; omega; done) | (exfalso; simp at h; done) | skip))
      repeat refine Mm.mk ?_
      conv => whnf
      refine EndVC.mk _ rfl _ _ (⟨(i : Int), rfl, rfl, .inr ⟨by omega, i, hi', hv⟩⟩) ?_
      refine ⟨[], rfl, rfl, ?_, ?_⟩ <;> repeat' (first | exact trivial | exact rfl | exact Iff.rfl | apply And.intro)
    · have hv' : ¬ v = xs.getD i 0 := fun h => hv h.symm
      repeat' ((conv => whnf); first | rw [gi] | refine Rng.g ?_ | refine Ob.g ?_ | refine Ob.e ?_ | refine Ob.m ?_ | refine Ob.mk (Nat.le_of_ble_eq_true rfl) ?_ | refine JoinVC.on ?_ | refine Nils.mk (fun h => ?_) ?_ | refine Val.t ?_ | refine Val.d ?_ | refine Mm.mk ?_ | (refine Br.mk (fun h => ?_) (fun h => ?_) <;> first | (exfalso; omega; done) | (exfalso; simp at h; done) | skip))
      refine Back.mk (xs.length - (i + 1)) _ (by omega) ⟨i + 1, by omega, rfl, fun j hj' => ?_, rfl⟩ ?_
      · rcases Nat.lt_succ_iff_lt_or_eq.1 hj' with h' | rfl
        · exact hj j h'
        · exact hv
      · refine ⟨[], rfl, rfl, ?_, ?_⟩ <;> repeat' (first | exact trivial | exact rfl | exact Iff.rfl | apply And.intro)
  · repeat' ((conv => whnf); first | refine Rng.g ?_ | refine Ob.g ?_ | refine Ob.e ?_ | refine Ob.m ?_ | refine Ob.mk (Nat.le_of_ble_eq_true rfl) ?_ | refine JoinVC.on ?_ | refine Nils.mk (fun h => ?_) ?_ | refine Val.t ?_ | refine Val.d ?_ | refine Mm.mk ?_ | (refine Br.mk (fun h => ?_) (fun h => ?_) <;> first | (exfalso; omega; done) | (exfalso; simp at h; done) | skip))
    repeat refine Mm.mk ?_
    conv => whnf
    refine EndVC.mk _ rfl _ _ (⟨-1, rfl, rfl, .inl ⟨rfl, fun j hj' => hj j (by omega)⟩⟩) ?_
    refine ⟨[], rfl, rfl, ?_, ?_⟩ <;> repeat' (first | exact trivial | exact rfl | exact Iff.rfl | apply And.intro)
open Classical in
theorem s36 (xs : List Int) (v : Int) (hl : xs.length ≤ 1000000) : PSpec Try.prog 36 [.one (.lst true [.int .i64] (i64s xs)), I v] (xP (∃ j, j < xs.length ∧ xs.getD j 0 = v)) := by
  refine spec_of pMix (O := []) Try.func36 (c := bodyOf Try.f36) rfl (by kernel_rfl) (by kernel_rfl) Try.ntmps36 (res := [.tmp 4]) (by kernel_rfl) ?_
  repeat' ((conv => whnf); first | refine Rng.g ?_ | refine Ob.g ?_ | refine Ob.e ?_ | refine Ob.m ?_ | refine Ob.mk (Nat.le_of_ble_eq_true rfl) ?_ | refine JoinVC.on ?_ | refine Nils.mk (fun h => ?_) ?_ | refine Val.t ?_ | refine Val.d ?_ | refine Mm.mk ?_ | (refine Br.mk (fun h => ?_) (fun h => ?_) <;> first | (exfalso; omega; done) | (exfalso; simp at h; done) | skip))
  conv => whnf
  refine CallVC.mk [] _ _ _ rfl rfl rfl (s69 xs v hl) (fun r m' h' => ?_)
  obtain ⟨k, rfl, rfl, hk⟩ := h'
  conv => whnf
  repeat' ((conv => whnf); first | refine Rng.g ?_ | refine Ob.g ?_ | refine Ob.e ?_ | refine Ob.m ?_ | refine Ob.mk (Nat.le_of_ble_eq_true rfl) ?_ | refine JoinVC.on ?_ | refine Nils.mk (fun h => ?_) ?_ | refine Val.t ?_ | refine Val.d ?_ | refine Mm.mk ?_ | (refine Br.mk (fun h => ?_) (fun h => ?_) <;> first | (exfalso; omega; done) | (exfalso; simp at h; done) | skip))
  repeat refine Mm.mk ?_
  refine EndVC.mk _ rfl _ _ ⟨rfl, rfl⟩ ?_
  refine ⟨[], rfl, rfl, ?_, ?_⟩ <;> repeat' (first | exact trivial | exact rfl | exact Iff.rfl | apply And.intro)
  show _ ↔ _
  rcases hk with ⟨rfl, h⟩ | ⟨h0, h⟩
  · exact ⟨fun h1 => absurd h1 (by decide), fun ⟨j, h1, h2⟩ => absurd h2 (h j h1)⟩
  · exact ⟨fun _ => h, fun _ => h0⟩
inductive LaRs (f : Fmt) (l : List Sng) (O : List Int) (r : AV) (m' : List (Option Blk)) : Prop
  | bad (h : bothE f l ≠ 0) (hr : r = .tup [.one .nils, I 0, I (bothE f l)]) (hm : m' = [])
  | ord (hf : FmtOK f) (hg : SngsOK l) (h : ordE l.length O ≠ 0) (hr : r = .tup [.one .nils, I 0, I (ordE l.length O)]) (hm : m' = [])
  | rule (hf : FmtOK f) (hg : SngsOK l) (hO : OrdOK l.length O) (i : Nat) (hi : i < O.length) (h : ∀ j, j < i → okAt f l O j) (hn : ¬ okAt f l O i) (hr : r = .tup [.one .nils, I (i : Int), I 20]) (hm : m' = [])
  | limit (hf : FmtOK f) (hg : SngsOK l) (hO : OrdOK l.length O) (h : ∀ j, j < O.length → okAt f l O j) (hn : ¬ LayOK f l O) (hr : r = .tup [.one .nils, I (O.length : Int), I 14]) (hm : m' = [])
  | ok (hf : FmtOK f) (hg : SngsOK l) (hO : OrdOK l.length O) (h : LayOK f l O) (hr : r = .tup [.one (.own 0), I (O.length : Int), I 0]) (hm : m' = [some (rowB (bndA f l O O.length))])
theorem i64s_take (xs : List Int) (k : Nat) : (i64s xs).take k = i64s (xs.take k) := by simp [i64s]
theorem s12 (f : Fmt) (l : List Sng) (O : List Int) (hI : f.nm.size ≤ 140737488355328) (hl : O.length ≤ 100) : HSpec Try.prog 12 [f.x, lSng l, .one (.lst true [.int .i64] (i64s O))] [] (LaRs f l O) := by
  have lo := i64s_len O
  have lg := sngA_len l
  refine spec_of pMix (O := []) Try.func12 (c := bodyOf Try.f12) rfl (by kernel_rfl) (by kernel_rfl) Try.ntmps12 (res := [.tmp 6, .tmp 7, .tmp 8]) (by kernel_rfl) ?_
  repeat' ((conv => whnf); first | refine Rng.g ?_ | refine Ob.g ?_ | refine Ob.e ?_ | refine Ob.m ?_ | refine Ob.mk (Nat.le_of_ble_eq_true rfl) ?_ | refine JoinVC.on ?_ | refine Nils.mk (fun h => ?_) ?_ | refine Val.t ?_ | refine Val.d ?_ | refine Mm.mk ?_ | (refine Br.mk (fun h => ?_) (fun h => ?_) <;> first | (exfalso; omega; done) | (exfalso; simp at h; done) | skip))
  conv => whnf
  refine CallVC.mk [] _ _ _ rfl rfl rfl (s35 f l hI) (fun r m' h' => ?_)
  rcases h' with ⟨he, rfl, rfl⟩ | ⟨hf, hg, rfl, rfl⟩
  · repeat' ((conv => whnf); first | refine Rng.g ?_ | refine Ob.g ?_ | refine Ob.e ?_ | refine Ob.m ?_ | refine Ob.mk (Nat.le_of_ble_eq_true rfl) ?_ | refine JoinVC.on ?_ | refine Nils.mk (fun h => ?_) ?_ | refine Val.t ?_ | refine Val.d ?_ | refine Mm.mk ?_ | (refine Br.mk (fun h => ?_) (fun h => ?_) <;> first | (exfalso; omega; done) | (exfalso; simp at h; done) | skip))
    repeat refine Mm.mk ?_
    conv => whnf
    refine EndVC.mk _ rfl _ _ (.bad he rfl rfl) ?_
    refine ⟨[], rfl, rfl, ?_, ?_⟩ <;> repeat' (first | exact trivial | exact rfl | exact Iff.rfl | apply And.intro)
  repeat' ((conv => whnf); first | refine Rng.g ?_ | refine Ob.g ?_ | refine Ob.e ?_ | refine Ob.m ?_ | refine Ob.mk (Nat.le_of_ble_eq_true rfl) ?_ | refine JoinVC.on ?_ | refine Nils.mk (fun h => ?_) ?_ | refine Val.t ?_ | refine Val.d ?_ | refine Mm.mk ?_ | (refine Br.mk (fun h => ?_) (fun h => ?_) <;> first | (exfalso; omega; done) | (exfalso; simp at h; done) | skip))
  refine LoopVC.mk (fun n st => ∃ (i : Nat), i ≤ O.length ∧ n = O.length - i ∧ (∀ j, j < i → ordA l.length O j = 0) ∧ st = ⟨0, envA 51 [(1, .x (lSng l)), (2, .x (.one (.lst true [.int .i64] (i64s O)))), (9, .x (.one (.ptr 0 0))), (22, .x (.one (.lst true [.int .i64] (i64s O)))), (23, .int .i64 (O.length : Int)), (24, .int .i64 (i : Int))], [some (bPl f l)]⟩) _ _ ⟨0, Nat.zero_le _, rfl, fun j hj => absurd hj (Nat.not_lt_zero j), rfl⟩ ?_ ?_
  · refine ⟨[some 1], rfl, rfl, ?_, ?_⟩ <;> repeat' (first | exact trivial | exact rfl | exact Iff.rfl | apply And.intro)
    all_goals exact congrArg Int.ofNat lo
  rintro n _ ⟨i, hi, hm, hj, rfl⟩
  have gi : rI (i64s O) (i : Int).toNat 0 = O.getD i 0 := by rw [Int.toNat_natCast]; exact i64s_get O i
  by_cases hi' : i < O.length
  · by_cases hr : O.getD i 0 < 0 ∨ (l.length : Int) ≤ O.getD i 0
    · have ea : ordA l.length O i = 3 := if_pos hr
      have hee := firstE_at (g := ordA l.length O) hi' hj (by rw [ea]; decide)
      have he : ordE l.length O = 3 := hee.trans ea
      repeat' ((conv => whnf); first | rw [gi] | refine Rng.g ?_ | refine Ob.g ?_ | refine Ob.e ?_ | refine Ob.m ?_ | refine Ob.mk (Nat.le_of_ble_eq_true rfl) ?_ | refine JoinVC.on ?_ | refine Nils.mk (fun h => ?_) ?_ | refine Val.t ?_ | refine Val.d ?_ | refine Mm.mk ?_ | (refine Br.mk (fun h => ?_) (fun h => ?_) <;> first | (exfalso; omega; done) | (exfalso; simp at h; done) | skip))
      all_goals
        repeat refine Mm.mk ?_
        conv => whnf
        refine EndVC.mk _ rfl _ _ (.ord hf hg (by rw [he]; decide) rfl rfl) ?_
        refine ⟨[], rfl, rfl, ?_, ?_⟩ <;> repeat' (first | exact trivial | exact rfl | exact Iff.rfl | apply And.intro)
        exact he.symm
    have cc : PSpec Try.prog 36 [.one (.lst true [.int .i64] ((i64s O).take (i : Int).toNat)), I (O.getD i 0)] (xP (∃ j, j < (O.take i).length ∧ (O.take i).getD j 0 = O.getD i 0)) := by
      rw [i64s_take, Int.toNat_natCast]
      exact s36 (O.take i) (O.getD i 0) (by rw [List.length_take]; omega)
    have et : (O.take i).length = i := by rw [List.length_take]; omega
    have eg : ∀ j, j < i → (O.take i).getD j 0 = O.getD j 0 := fun j hj => by simp [List.getD_eq_getElem?_getD, hj]
    by_cases hk : ∃ k, k < i ∧ O.getD k 0 = O.getD i 0
    · have ea : ordA l.length O i = 12 := (if_neg hr).trans (if_pos hk)
      have he : ordE l.length O = 12 := (firstE_at (g := ordA l.length O) hi' hj (by rw [ea]; decide)).trans ea
      repeat' ((conv => whnf); first | rw [gi] | refine Rng.g ?_ | refine Ob.g ?_ | refine Ob.e ?_ | refine Ob.m ?_ | refine Ob.mk (Nat.le_of_ble_eq_true rfl) ?_ | refine JoinVC.on ?_ | refine Nils.mk (fun h => ?_) ?_ | refine Val.t ?_ | refine Val.d ?_ | refine Mm.mk ?_ | refine CallVC.pure rfl (cc) ?_ | refine CallVC0.pure rfl (cc) ?_ | (refine Br.mk (fun h => ?_) (fun h => ?_) <;> first | (exfalso; omega; done) | (exfalso; simp at h; done) | skip))
      · repeat refine Mm.mk ?_
        conv => whnf
        refine EndVC.mk _ rfl _ _ (.ord hf hg (by rw [he]; decide) rfl rfl) ?_
        refine ⟨[], rfl, rfl, ?_, ?_⟩ <;> repeat' (first | exact trivial | exact rfl | exact Iff.rfl | apply And.intro)
        exact he.symm
      · exfalso
        obtain ⟨k, h1, h2⟩ := hk
        exact h ⟨k, by omega, by rw [eg k h1]; exact h2⟩
    · have ea : ordA l.length O i = 0 := (if_neg hr).trans (if_neg hk)
      repeat' ((conv => whnf); first | rw [gi] | refine Rng.g ?_ | refine Ob.g ?_ | refine Ob.e ?_ | refine Ob.m ?_ | refine Ob.mk (Nat.le_of_ble_eq_true rfl) ?_ | refine JoinVC.on ?_ | refine Nils.mk (fun h => ?_) ?_ | refine Val.t ?_ | refine Val.d ?_ | refine Mm.mk ?_ | refine CallVC.pure rfl (cc) ?_ | refine CallVC0.pure rfl (cc) ?_ | (refine Br.mk (fun h => ?_) (fun h => ?_) <;> first | (exfalso; omega; done) | (exfalso; simp at h; done) | skip))
      · exfalso
        obtain ⟨k, h1, h2⟩ := h
        exact hk ⟨k, by omega, by rw [eg k (by omega)] at h2; exact h2⟩
      · refine Back.mk (O.length - (i + 1)) _ (by omega) ⟨i + 1, by omega, rfl, fun j hj' => ?_, rfl⟩ ?_
        · rcases Nat.lt_succ_iff_lt_or_eq.1 hj' with h' | rfl
          · exact hj j h'
          · exact ea
        · refine ⟨[some 0], rfl, rfl, ?_, ?_⟩ <;> repeat' (first | exact trivial | exact rfl | exact Iff.rfl | apply And.intro)
  · have hO : OrdOK l.length O := ordE_0.1 (firstE_zero fun j hj' => hj j (by omega))
    repeat' ((conv => whnf); first | refine Rng.g ?_ | refine Ob.g ?_ | refine Ob.e ?_ | refine Ob.m ?_ | refine Ob.mk (Nat.le_of_ble_eq_true rfl) ?_ | refine JoinVC.on ?_ | refine Nils.mk (fun h => ?_) ?_ | refine Val.t ?_ | refine Val.d ?_ | refine Mm.mk ?_ | (refine Br.mk (fun h => ?_) (fun h => ?_) <;> first | (exfalso; omega; done) | (exfalso; simp at h; done) | skip))
    conv => whnf
    refine CallVC.mk [0] _ _ _ rfl rfl rfl (s37 f l O hf hg hO.rng hl) (fun r m' h' => ?_)
    cases h' with
    | rule i hi h hn hr hm =>
      subst hr hm
      repeat' ((conv => whnf); first | refine Rng.g ?_ | refine Ob.g ?_ | refine Ob.e ?_ | refine Ob.m ?_ | refine Ob.mk (Nat.le_of_ble_eq_true rfl) ?_ | refine JoinVC.on ?_ | refine Nils.mk (fun h => ?_) ?_ | refine Val.t ?_ | refine Val.d ?_ | refine Mm.mk ?_ | (refine Br.mk (fun h => ?_) (fun h => ?_) <;> first | (exfalso; omega; done) | (exfalso; simp at h; done) | skip))
      repeat refine Mm.mk ?_
      conv => whnf
      refine EndVC.mk _ rfl _ _ (.rule hf hg hO i hi h hn rfl rfl) ?_
      refine ⟨[], rfl, rfl, ?_, ?_⟩ <;> repeat' (first | exact trivial | exact rfl | exact Iff.rfl | apply And.intro)
    | limit h hn hr hm =>
      subst hr hm
      repeat' ((conv => whnf); first | refine Rng.g ?_ | refine Ob.g ?_ | refine Ob.e ?_ | refine Ob.m ?_ | refine Ob.mk (Nat.le_of_ble_eq_true rfl) ?_ | refine JoinVC.on ?_ | refine Nils.mk (fun h => ?_) ?_ | refine Val.t ?_ | refine Val.d ?_ | refine Mm.mk ?_ | (refine Br.mk (fun h => ?_) (fun h => ?_) <;> first | (exfalso; omega; done) | (exfalso; simp at h; done) | skip))
      repeat refine Mm.mk ?_
      conv => whnf
      refine EndVC.mk _ rfl _ _ (.limit hf hg hO h hn rfl rfl) ?_
      refine ⟨[], rfl, rfl, ?_, ?_⟩ <;> repeat' (first | exact trivial | exact rfl | exact Iff.rfl | apply And.intro)
    | ok h hr hm =>
      subst hr hm
      repeat' ((conv => whnf); first | refine Rng.g ?_ | refine Ob.g ?_ | refine Ob.e ?_ | refine Ob.m ?_ | refine Ob.mk (Nat.le_of_ble_eq_true rfl) ?_ | refine JoinVC.on ?_ | refine Nils.mk (fun h => ?_) ?_ | refine Val.t ?_ | refine Val.d ?_ | refine Mm.mk ?_ | (refine Br.mk (fun h => ?_) (fun h => ?_) <;> first | (exfalso; omega; done) | (exfalso; simp at h; done) | skip))
      repeat refine Mm.mk ?_
      conv => whnf
      refine EndVC.mk _ rfl _ _ (.ok hf hg hO h rfl rfl) ?_
      refine ⟨[some 1], rfl, rfl, ?_, ?_⟩ <;> repeat' (first | exact trivial | exact rfl | exact Iff.rfl | apply And.intro)
/-! ### The example -/
def f4 : Fmt := ⟨⟨#[102]⟩, 1000, 400, 10, 20, 10, 30, 5⟩
def l4 : List Sng := [⟨95, 20, 500⟩, ⟨30, 40, 800⟩, ⟨41, 10, 0⟩]
theorem f4_name : nameOK ⟨#[102]⟩ := ⟨by decide, by decide, fun j hj => by
  have : j = 0 := by
    have : j < 1 := hj
    omega
  subst this
  exact .inl (by decide)⟩
theorem f4_ok : FmtOK f4 := ⟨f4_name, by decide, by decide, by decide, by decide, by decide, by decide, by decide⟩
theorem l4_ok : SngsOK l4 := ⟨by decide, fun j hj => by
  have hc : j = 0 ∨ j = 1 ∨ j = 2 := by
    have : j < 3 := hj
    omega
  rcases hc with rfl | rfl | rfl <;> (unfold Sng.ok; decide)⟩
theorem allO4 : allO l4 = [1, 0, 2] := by decide
theorem lay4 : LayOK f4 l4 (allO l4) := by
  rw [allO4]
  refine ⟨fun i hi => ?_, by decide⟩
  have hc : i = 0 ∨ i = 1 ∨ i = 2 := by
    have : i < 3 := hi
    omega
  rcases hc with rfl | rfl | rfl <;> (unfold okAt; decide)
end Go.Sx

namespace Go.Sx
open Go Go.Proofs
set_option maxRecDepth 10000
set_option maxHeartbeats 4000000
/-- The tracks from one on. -/
def seqL (i n : Nat) : List Int := (List.range n).map fun k => ((i + k : Nat) : Int)
theorem seqL_len (i n : Nat) : (seqL i n).length = n := by simp [seqL]
theorem seqL_succ (i n : Nat) : seqL i (n + 1) = seqL i n ++ [((i + n : Nat) : Int)] := by simp [seqL, List.range_succ]
theorem seqL_get (i n k : Nat) (h : k < n) : (seqL i n).getD k 0 = ((i + k : Nat) : Int) := by simp [seqL, List.getD_eq_getElem?_getD, List.getElem?_range h]
def f0 : Fmt := ⟨⟨#[]⟩, 0, 0, 0, 0, 0, 0, 0⟩
structure AlbOK (F : List Fmt) (l : List Sng) : Prop where
  few : 1 ≤ F.length ∧ F.length ≤ 8
  fmts : ∀ i, i < F.length → FmtOK (F.getD i f0)
  sngs : SngsOK l
/-! ### Faces, plans and prices: plain laws for the statements about sides -/
theorem atF_congr (f : Fmt) (l : List Sng) {O Q : List Int} : ∀ k, (∀ j, j < k → O.getD j 0 = Q.getD j 0) → atF f l O k = atF f l Q k
  | 0, _ => rfl
  | k + 1, h => by
    unfold atF
    rw [atF_congr f l k (fun j hj => h j (by omega)), h k (Nat.lt_succ_self k)]
/-- What is possible stays so without its last track. -/
theorem lay_prefix {f : Fmt} {l : List Sng} (hf : FmtOK f) (hl : SngsOK l) {i n : Nat} (hn : i + (n + 1) ≤ l.length) (h : LayOK f l (seqL i (n + 1))) : LayOK f l (seqL i n) := by
  have e : ∀ k, k ≤ n → atF f l (seqL i n) k = atF f l (seqL i (n + 1)) k := fun k hk => atF_congr f l k fun j hj => by
    rw [seqL_get _ _ _ (by omega), seqL_get _ _ _ (by omega)]
  have hw := (wid_bd hf.per.1 (hl.each (i + n) (by omega))).2.1
  have hg := hf.gap.1
  have h2 := h.2
  have ea : atF f l (seqL i (n + 1)) (n + 1) = atF f l (seqL i (n + 1)) n - (if 0 < n then f.gap else 0) - widF f (l.getD (i + n) g0) := by
    show _ - _ - widF f (l.getD ((seqL i (n + 1)).getD n 0).toNat g0) = _
    rw [seqL_get _ _ _ (Nat.lt_succ_self n), Int.toNat_natCast]
  rw [seqL_len, ea] at h2
  refine ⟨fun k hk => ?_, ?_⟩
  · rw [seqL_len] at hk
    have h3 := h.1 k (by rw [seqL_len]; omega)
    unfold okAt at h3 ⊢
    rw [seqL_get _ _ _ (by omega)] at h3 ⊢
    rw [e _ (by omega)]
    exact h3
  · rw [seqL_len, e n (Nat.le_refl n)]
    split at h2 <;> omega
/-- A face: the tracks from i on and before j on the format k. -/
structure faceP (F : List Fmt) (l : List Sng) (k i j : Nat) : Prop where
  fmt : k < F.length
  lt : i < j
  le : j ≤ l.length
  lay : LayOK (F.getD k f0) l (seqL i (j - i))
theorem face_pre {F : List Fmt} {l : List Sng} (hA : AlbOK F l) {k i j : Nat} (h : faceP F l k i (j + 1)) (hj : i < j) : faceP F l k i j := by
  refine ⟨h.fmt, hj, by have := h.le; omega, ?_⟩
  have h1 := h.lay
  rw [show j + 1 - i = j - i + 1 by omega] at h1
  exact lay_prefix (hA.fmts k h.fmt) hA.sngs (by have := h.le; omega) h1
/-- A plan from a track on: formats and numbers of tracks. -/
def PlanOK (F : List Fmt) (l : List Sng) : Nat → List (Nat × Nat) → Prop
  | i, [] => i = l.length
  | i, (k, m) :: t => faceP F l k i (i + m) ∧ PlanOK F l (i + m) t
def costP (F : List Fmt) : List (Nat × Nat) → Int
  | [] => 0
  | (k, _) :: t => (F.getD k f0).cost + costP F t
/-- The tracks before one can be laid out at a cost. -/
inductive Reach (F : List Fmt) (l : List Sng) : Nat → Int → Prop
  | nil : Reach F l 0 0
  | step {i j k : Nat} {c : Int} (h : Reach F l i c) (hf : faceP F l k i j) : Reach F l j (c + (F.getD k f0).cost)
theorem PlanOK.app {F : List Fmt} {l : List Sng} {j : Nat} {c : Int} (h : Reach F l j c) : ∀ {t}, PlanOK F l j t → ∃ pl, PlanOK F l 0 pl ∧ costP F pl = c + costP F t := by
  induction h with
  | nil => exact fun {t} ht => ⟨t, ht, by omega⟩
  | @step i j k c h hf ih =>
    intro t ht
    have hl := hf.lt
    obtain ⟨pl, h1, h2⟩ := ih (t := (k, j - i) :: t) ⟨by rw [show i + (j - i) = j by omega]; exact hf, by rw [show i + (j - i) = j by omega]; exact ht⟩
    refine ⟨pl, h1, ?_⟩
    rw [h2]
    simp only [costP]
    omega
/-- What is reached at the end is the cost of a plan. -/
theorem Reach.plan {F : List Fmt} {l : List Sng} {c : Int} (h : Reach F l l.length c) : ∃ pl, PlanOK F l 0 pl ∧ costP F pl = c := by
  obtain ⟨pl, h1, h2⟩ := PlanOK.app h (t := []) rfl
  exact ⟨pl, h1, by rw [h2]; simp only [costP]; omega⟩
/-! ### The faces in their order -/
theorem face_pre' {F : List Fmt} {l : List Sng} (hA : AlbOK F l) {k i j : Nat} (hj : i < j) : ∀ d, faceP F l k i (j + d) → faceP F l k i j
  | 0, h => h
  | d + 1, h => face_pre' hA hj d (face_pre hA h (by omega))
open Classical in
/-- The faces of a format that begin at i and end before j. -/
noncomputable def fcj (F : List Fmt) (l : List Sng) (i k : Nat) : Nat → List (Nat × Nat)
  | 0 => []
  | j + 1 => if faceP F l k i j then fcj F l i k j ++ [(k, j)] else fcj F l i k j
/-- The faces that begin at i, of the first formats. -/
noncomputable def fcs (F : List Fmt) (l : List Sng) (i : Nat) : Nat → List (Nat × Nat)
  | 0 => []
  | k + 1 => fcs F l i k ++ fcj F l i k (l.length + 1)
theorem fcj_yes {F : List Fmt} {l : List Sng} {i k j : Nat} (h : faceP F l k i j) : fcj F l i k (j + 1) = fcj F l i k j ++ [(k, j)] := if_pos h
theorem fcj_no {F : List Fmt} {l : List Sng} {i k j : Nat} (h : ¬ faceP F l k i j) : fcj F l i k (j + 1) = fcj F l i k j := if_neg h
theorem fcj_lo {F : List Fmt} {l : List Sng} {i k : Nat} : ∀ j, j ≤ i + 1 → fcj F l i k j = []
  | 0, _ => rfl
  | j + 1, h => by
    rw [fcj_no fun hf => by have := hf.lt; omega]
    exact fcj_lo j (by omega)
theorem fcj_stop {F : List Fmt} {l : List Sng} (hA : AlbOK F l) {i k j : Nat} (hj : i < j) (h : ¬ faceP F l k i j) : ∀ d, fcj F l i k (j + d) = fcj F l i k j
  | 0 => rfl
  | d + 1 => by
    rw [show j + (d + 1) = j + d + 1 from rfl, fcj_no fun hf => h (face_pre' hA hj d hf)]
    exact fcj_stop hA hj h d
theorem fcj_end {F : List Fmt} {l : List Sng} (hA : AlbOK F l) {i k j : Nat} (hj : i < j) (h : ¬ faceP F l k i j) (hl : j ≤ l.length + 1) : fcj F l i k j = fcj F l i k (l.length + 1) := by
  have := fcj_stop hA hj h (l.length + 1 - j)
  rw [show j + (l.length + 1 - j) = l.length + 1 by omega] at this
  exact this.symm
theorem mem_fcj {F : List Fmt} {l : List Sng} {i k : Nat} {p : Nat × Nat} : ∀ {j}, p ∈ fcj F l i k j ↔ p.1 = k ∧ p.2 < j ∧ faceP F l k i p.2
  | 0 => ⟨fun h => (by simp [fcj] at h), fun h => (by omega)⟩
  | j + 1 => by
    by_cases h : faceP F l k i j
    · rw [fcj_yes h, List.mem_append, mem_fcj, List.mem_singleton]
      constructor
      · rintro (⟨h1, h2, h3⟩ | rfl)
        · exact ⟨h1, by omega, h3⟩
        · exact ⟨rfl, Nat.lt_succ_self j, h⟩
      · rintro ⟨h1, h2, h3⟩
        by_cases e : p.2 = j
        · exact .inr (Prod.ext h1 e)
        · exact .inl ⟨h1, by omega, h3⟩
    · rw [fcj_no h, mem_fcj]
      constructor
      · rintro ⟨h1, h2, h3⟩
        exact ⟨h1, by omega, h3⟩
      · rintro ⟨h1, h2, h3⟩
        refine ⟨h1, ?_, h3⟩
        by_cases e : p.2 = j
        · rw [e] at h3; exact absurd h3 h
        · omega
theorem mem_fcs {F : List Fmt} {l : List Sng} {i : Nat} {p : Nat × Nat} : ∀ {k}, p ∈ fcs F l i k ↔ p.1 < k ∧ faceP F l p.1 i p.2
  | 0 => ⟨fun h => (by simp [fcs] at h), fun h => (by omega)⟩
  | k + 1 => by
    unfold fcs
    rw [List.mem_append, mem_fcs, mem_fcj]
    constructor
    · rintro (⟨h1, h2⟩ | ⟨h1, h2, h3⟩)
      · exact ⟨by omega, h2⟩
      · rw [h1]; exact ⟨Nat.lt_succ_self k, h3⟩
    · rintro ⟨h1, h2⟩
      by_cases e : p.1 = k
      · rw [e] at h2; exact .inr ⟨e, by have := h2.le; omega, h2⟩
      · exact .inl ⟨by omega, h2⟩
/-- All faces that begin at i, by formats and then by their ends. -/
noncomputable def facesL (F : List Fmt) (l : List Sng) (i : Nat) : List (Nat × Nat) := fcs F l i F.length
theorem mem_faces {F : List Fmt} {l : List Sng} {i : Nat} {p : Nat × Nat} : p ∈ facesL F l i ↔ faceP F l p.1 i p.2 := by
  unfold facesL
  rw [mem_fcs]
  exact ⟨fun h => h.2, fun h => ⟨h.fmt, h⟩⟩
/-! ### Best plans -/
/-- A worth is better than another one. -/
def ltW (a b : Int × Int) : Prop := a.1 < b.1 ∨ a.1 = b.1 ∧ a.2 < b.2
instance (a b : Int × Int) : Decidable (ltW a b) := by unfold ltW; exact inferInstance
end Go.Sx

namespace Go.Sx
open Go Go.Proofs
set_option maxRecDepth 10000
set_option maxHeartbeats 8000000
/-! ### Plates that nothing writes into any more -/
@[reducible] def KPl : List CK := [.str, .int .i64, .int .i64, .int .i64, .int .i64, .int .i64, .int .i64, .int .i64, .sl KSng]
def plA (f : Fmt) (l : List Sng) : Arr := [[.str f.nm, .int f.outer, .int f.inner, .int f.per, .int f.lead, .int f.gap, .int f.tail, .int f.cost, .sl (sngA l)]]
@[reducible] def plX (f : Fmt) (l : List Sng) : XV := .one (.lel true KPl (plA f l) 0 0)
theorem s43p (f : Fmt) (l : List Sng) (g : Sng) (hf : FmtOK f) (hg : g.ok) : HSpec Try.prog 43 [plX f l, g.x] [] (fun r m' => r = .x (I (widF f g)) ∧ m' = []) := by
  obtain ⟨w1, w2⟩ := wid_bd hf.per.1 hg
  have hp := hf.per
  have hg1 := hg.1
  have hg2 := hg.2.1
  have e3 : rI (plA f l) 0 (0 + 0 + (0 + 1 + 1 + 1)) = f.per := rfl
  unfold widF at w2
  refine spec_of pMix (O := []) Try.func43 (c := bodyOf Try.f43) rfl (by kernel_rfl) (by kernel_rfl) Try.ntmps43 (res := [.tmp 4]) (by kernel_rfl) ?_
  repeat' ((conv => whnf); first | rw [e3] | refine Rng.g ?_ | refine Ob.g ?_ | refine Ob.e ?_ | refine Ob.m ?_ | refine Ob.mk (Nat.le_of_ble_eq_true rfl) ?_ | refine JoinVC.on ?_ | refine Nils.mk (fun h => ?_) ?_ | refine Val.t ?_ | refine Val.d ?_ | refine Mm.mk ?_ | (refine Br.mk (fun h => ?_) (fun h => ?_) <;> first | (exfalso; omega; done) | (exfalso; simp at h; done) | skip))
  repeat refine Mm.mk ?_
  conv => whnf
  refine EndVC.mk _ rfl _ _ (⟨rfl, rfl⟩) ?_
  refine ⟨[], rfl, rfl, ?_, ?_⟩ <;> repeat' (first | exact trivial | exact rfl | exact Iff.rfl | apply And.intro)
inductive LyRs0 (f : Fmt) (l : List Sng) (O : List Int) (r : AV) (m' : List (Option Blk)) : Prop
  | rule (i : Nat) (hi : i < O.length) (h : ∀ j, j < i → okAt f l O j) (hn : ¬ okAt f l O i) (hr : r = .tup [.one .nils, I (i : Int), I 20]) (hm : m' = [])
  | limit (h : ∀ j, j < O.length → okAt f l O j) (hn : ¬ LayOK f l O) (hr : r = .tup [.one .nils, I (O.length : Int), I 14]) (hm : m' = [])
  | ok (h : LayOK f l O) (hr : r = .tup [.one (.own 0), I (O.length : Int), I 0]) (hm : m' = [some (rowB (bndA f l O O.length))])
theorem s37p (f : Fmt) (l : List Sng) (O : List Int) (hf : FmtOK f) (hg : SngsOK l) (hO : InR O l.length) (hl : O.length ≤ 100) : HSpec Try.prog 37 [plX f l, .one (.lst true [.int .i64] (i64s O))] [] (LyRs0 f l O) := by
  have lo := i64s_len O
  have lg := sngA_len l
  have hbd := atF_bd hf hg hO
  have hf1 := hf.outer
  have hf2 := hf.lead
  have hf3 := hf.gap
  have hf4 := hf.tail
  have hf5 := hf.inner
  have p1 : rI (plA f l) 0 (0 + 0 + (0 + 1)) = f.outer := rfl
  have p2 : rI (plA f l) 0 (0 + 0 + (0 + 1 + 1)) = f.inner := rfl
  have p4 : rI (plA f l) 0 (0 + 0 + (0 + 1 + 1 + 1 + 1)) = f.lead := rfl
  have p5 : rI (plA f l) 0 (0 + 0 + (0 + 1 + 1 + 1 + 1 + 1)) = f.gap := rfl
  have p6 : rI (plA f l) 0 (0 + 0 + (0 + 1 + 1 + 1 + 1 + 1 + 1)) = f.tail := rfl
  have p8 : rA (plA f l) 0 (0 + (0 + 1 + 1 + 1 + 1 + 1 + 1 + 1 + 1)) = sngA l := rfl
  refine spec_of pMix (O := []) Try.func37 (c := bodyOf Try.f37) rfl (by kernel_rfl) (by kernel_rfl) Try.ntmps37 (res := [.tmp 4, .tmp 5, .tmp 6]) (by kernel_rfl) ?_
  repeat' ((conv => whnf); first | rw [p1] | rw [p2] | rw [p4] | rw [p5] | rw [p6] | rw [p8] | refine Rng.g ?_ | refine Ob.g ?_ | refine Ob.e ?_ | refine Ob.m ?_ | refine Ob.mk (Nat.le_of_ble_eq_true rfl) ?_ | refine JoinVC.on ?_ | refine Nils.mk (fun h => ?_) ?_ | refine Val.t ?_ | refine Val.d ?_ | refine Mm.mk ?_ | (refine Br.mk (fun h => ?_) (fun h => ?_) <;> first | (exfalso; omega; done) | (exfalso; simp at h; done) | skip))
  refine LoopVC.mk (fun n st => ∃ (i : Nat), i ≤ O.length ∧ n = O.length - i ∧ (∀ j, j < i → okAt f l O j) ∧ st = ⟨0, envA 89 [(0, .x (plX f l)), (1, .x (.one (.lst true [.int .i64] (i64s O)))), (7, .x (.one (.own 0))), (8, .int .i64 (atF f l O i)), (23, .x (.one (.lst true [.int .i64] (i64s O)))), (24, .int .i64 (O.length : Int)), (25, .int .i64 (i : Int))], [some (rowB (bndA f l O i))]⟩) _ _ ⟨0, Nat.zero_le _, rfl, fun j hj => absurd hj (Nat.not_lt_zero j), rfl⟩ ?_ ?_
  · refine ⟨[none], rfl, rfl, ?_, ?_⟩ <;> repeat' (first | exact trivial | exact rfl | exact Iff.rfl | apply And.intro)
    exact congrArg Int.ofNat lo
  rintro n _ ⟨i, hi, hn, hj, rfl⟩
  have lb := bndA_len f l O i
  have gi : rI (i64s O) (i : Int).toNat 0 = O.getD i 0 := by rw [Int.toNat_natCast]; exact i64s_get O i
  have hbi := hbd i hi
  by_cases hi' : i < O.length
  · have hr := hO i hi'
    obtain ⟨q, hq⟩ : ∃ q, O.getD i 0 = q := ⟨_, rfl⟩
    have c0 : rI (sngA l) q.toNat 0 = (l.getD q.toNat g0).long := sngA_0 l _
    have c1 : rI (sngA l) q.toNat (0 + 1) = (l.getD q.toNat g0).pitch := sngA_1 l _
    have c2 : rI (sngA l) q.toNat (0 + 1 + 1) = (l.getD q.toNat g0).least := sngA_2 l _
    have c3 : rI (sngA l) q.toNat (0 + (0 + 1 + 1)) = (l.getD q.toNat g0).least := sngA_2 l _
    rw [hq] at gi hr
    have hgk := hg.each q.toNat (by omega)
    have hw := (wid_bd hf.per.1 hgk).2
    have k1 := s43p f l (l.getD q.toNat g0) hf hgk
    have ea : atF f l O (i + 1) = atF f l O i - (if 0 < i then f.gap else 0) - widF f (l.getD (O.getD i 0).toNat g0) := rfl
    rw [hq] at ea
    have eo : okAt f l O i ↔ (l.getD q.toNat g0).least ≤ atF f l O (i + 1) := by unfold okAt; rw [hq]
    by_cases h0 : 0 < i
    · have e1 : (if 0 < i then f.gap else 0) = f.gap := if_pos h0
      have e2 : (atF f l O i - f.gap) - widF f (l.getD q.toNat g0) = atF f l O (i + 1) := by rw [ea, e1]
      have hbj := hbd (i + 1) hi'
      have e3 : bndR f l O i = [Cell.int q, Cell.int (atF f l O i - f.gap), Cell.int (atF f l O (i + 1))] := by unfold bndR; rw [hq, e1]
      repeat' ((conv => whnf); first | rw [p1] | rw [p2] | rw [p4] | rw [p5] | rw [p6] | rw [p8] | rw [gi] | rw [c0] | rw [c1] | rw [c2] | refine Rng.g ?_ | refine Ob.g ?_ | refine Ob.e ?_ | refine Ob.m ?_ | refine Ob.mk (Nat.le_of_ble_eq_true rfl) ?_ | refine JoinVC.on ?_ | refine Nils.mk (fun h => ?_) ?_ | refine Val.t ?_ | refine Val.d ?_ | refine Mm.mk ?_ | (refine Br.mk (fun h => ?_) (fun h => ?_) <;> first | (exfalso; omega; done) | (exfalso; simp at h; done) | skip))
      conv => whnf
      refine CallVC.mk [] _ _ _ rfl rfl rfl (k1) (fun r m' h' => ?_)
      obtain ⟨rfl, rfl⟩ := h'
      conv => whnf
      repeat' ((conv => whnf); first | rw [p1] | rw [p2] | rw [p4] | rw [p5] | rw [p6] | rw [p8] | rw [e2] | rw [c3] | refine Rng.g ?_ | refine Ob.g ?_ | refine Ob.e ?_ | refine Ob.m ?_ | refine Ob.mk (Nat.le_of_ble_eq_true rfl) ?_ | refine JoinVC.on ?_ | refine Nils.mk (fun h => ?_) ?_ | refine Val.t ?_ | refine Val.d ?_ | refine Mm.mk ?_ | (refine Br.mk (fun h => ?_) (fun h => ?_) <;> first | (exfalso; omega; done) | (exfalso; simp at h; done) | skip))
      · have hno : ¬ okAt f l O i := fun hk => by have := eo.1 hk; omega
        repeat refine Mm.mk ?_
        conv => whnf
        refine EndVC.mk _ rfl _ _ (.rule i hi' hj hno rfl rfl) ?_
        refine ⟨[], rfl, rfl, ?_, ?_⟩ <;> repeat' (first | exact trivial | exact rfl | exact Iff.rfl | apply And.intro)
      · repeat refine Mm.mk ?_
        refine Ob.mk (by rw [eb116]; simp only [List.length_cons, List.length_nil]; omega) ?_
        repeat' ((conv => whnf); first | rw [p1] | rw [p2] | rw [p4] | rw [p5] | rw [p6] | rw [p8] | rw [e2] | rw [c3] | refine Rng.g ?_ | refine Ob.g ?_ | refine Ob.e ?_ | refine Ob.m ?_ | refine Ob.mk (Nat.le_of_ble_eq_true rfl) ?_ | refine JoinVC.on ?_ | refine Nils.mk (fun h => ?_) ?_ | refine Val.t ?_ | refine Val.d ?_ | refine Mm.mk ?_ | (refine Br.mk (fun h => ?_) (fun h => ?_) <;> first | (exfalso; omega; done) | (exfalso; simp at h; done) | skip))
        refine Back.mk (O.length - (i + 1)) _ (by omega) ⟨i + 1, by omega, rfl, fun j hj' => ?_, rfl⟩ ?_
        · rcases Nat.lt_succ_iff_lt_or_eq.1 hj' with h' | rfl
          · exact hj j h'
          · exact eo.2 (by omega)
        · rw [bndA_succ, e3]
          refine ⟨[some 3], rfl, rfl, ?_, ?_⟩ <;> repeat' (first | exact trivial | exact rfl | exact Iff.rfl | apply And.intro)
    · have e1 : (if 0 < i then f.gap else 0) = 0 := if_neg h0
      have e2 : (atF f l O i) - widF f (l.getD q.toNat g0) = atF f l O (i + 1) := by rw [ea, e1]; omega
      have hbj := hbd (i + 1) hi'
      have e3 : bndR f l O i = [Cell.int q, Cell.int (atF f l O i), Cell.int (atF f l O (i + 1))] := by unfold bndR; rw [hq, e1]; simp only [Int.sub_zero]
      repeat' ((conv => whnf); first | rw [p1] | rw [p2] | rw [p4] | rw [p5] | rw [p6] | rw [p8] | rw [gi] | rw [c0] | rw [c1] | rw [c2] | refine Rng.g ?_ | refine Ob.g ?_ | refine Ob.e ?_ | refine Ob.m ?_ | refine Ob.mk (Nat.le_of_ble_eq_true rfl) ?_ | refine JoinVC.on ?_ | refine Nils.mk (fun h => ?_) ?_ | refine Val.t ?_ | refine Val.d ?_ | refine Mm.mk ?_ | (refine Br.mk (fun h => ?_) (fun h => ?_) <;> first | (exfalso; omega; done) | (exfalso; simp at h; done) | skip))
      conv => whnf
      refine CallVC.mk [] _ _ _ rfl rfl rfl (k1) (fun r m' h' => ?_)
      obtain ⟨rfl, rfl⟩ := h'
      conv => whnf
      repeat' ((conv => whnf); first | rw [p1] | rw [p2] | rw [p4] | rw [p5] | rw [p6] | rw [p8] | rw [e2] | rw [c3] | refine Rng.g ?_ | refine Ob.g ?_ | refine Ob.e ?_ | refine Ob.m ?_ | refine Ob.mk (Nat.le_of_ble_eq_true rfl) ?_ | refine JoinVC.on ?_ | refine Nils.mk (fun h => ?_) ?_ | refine Val.t ?_ | refine Val.d ?_ | refine Mm.mk ?_ | (refine Br.mk (fun h => ?_) (fun h => ?_) <;> first | (exfalso; omega; done) | (exfalso; simp at h; done) | skip))
      · have hno : ¬ okAt f l O i := fun hk => by have := eo.1 hk; omega
        repeat refine Mm.mk ?_
        conv => whnf
        refine EndVC.mk _ rfl _ _ (.rule i hi' hj hno rfl rfl) ?_
        refine ⟨[], rfl, rfl, ?_, ?_⟩ <;> repeat' (first | exact trivial | exact rfl | exact Iff.rfl | apply And.intro)
      · repeat refine Mm.mk ?_
        refine Ob.mk (by rw [eb116]; simp only [List.length_cons, List.length_nil]; omega) ?_
        repeat' ((conv => whnf); first | rw [p1] | rw [p2] | rw [p4] | rw [p5] | rw [p6] | rw [p8] | rw [e2] | rw [c3] | refine Rng.g ?_ | refine Ob.g ?_ | refine Ob.e ?_ | refine Ob.m ?_ | refine Ob.mk (Nat.le_of_ble_eq_true rfl) ?_ | refine JoinVC.on ?_ | refine Nils.mk (fun h => ?_) ?_ | refine Val.t ?_ | refine Val.d ?_ | refine Mm.mk ?_ | (refine Br.mk (fun h => ?_) (fun h => ?_) <;> first | (exfalso; omega; done) | (exfalso; simp at h; done) | skip))
        refine Back.mk (O.length - (i + 1)) _ (by omega) ⟨i + 1, by omega, rfl, fun j hj' => ?_, rfl⟩ ?_
        · rcases Nat.lt_succ_iff_lt_or_eq.1 hj' with h' | rfl
          · exact hj j h'
          · exact eo.2 (by omega)
        · rw [bndA_succ, e3]
          refine ⟨[some 3], rfl, rfl, ?_, ?_⟩ <;> repeat' (first | exact trivial | exact rfl | exact Iff.rfl | apply And.intro)
  · have ei : i = O.length := by omega
    subst ei
    repeat' ((conv => whnf); first | rw [p1] | rw [p2] | rw [p4] | rw [p5] | rw [p6] | rw [p8] | rw [lo] | refine Rng.g ?_ | refine Ob.g ?_ | refine Ob.e ?_ | refine Ob.m ?_ | refine Ob.mk (Nat.le_of_ble_eq_true rfl) ?_ | refine JoinVC.on ?_ | refine Nils.mk (fun h => ?_) ?_ | refine Val.t ?_ | refine Val.d ?_ | refine Mm.mk ?_ | (refine Br.mk (fun h => ?_) (fun h => ?_) <;> first | (exfalso; omega; done) | (exfalso; simp at h; done) | skip))
    · repeat refine Mm.mk ?_
      conv => whnf
      refine EndVC.mk _ rfl _ _ (.limit hj (fun hL => (by have := hL.2; omega)) rfl rfl) ?_
      refine ⟨[], rfl, rfl, ?_, ?_⟩ <;> repeat' (first | exact trivial | exact rfl | exact Iff.rfl | apply And.intro)
    · repeat refine Mm.mk ?_
      conv => whnf
      refine EndVC.mk _ rfl _ _ (.ok ⟨hj, by omega⟩ rfl rfl) ?_
      refine ⟨[some 0], rfl, rfl, ?_, ?_⟩ <;> repeat' (first | exact trivial | exact rfl | exact Iff.rfl | apply And.intro)
open Classical in
theorem s47p (f : Fmt) (l : List Sng) (O : List Int) (hf : FmtOK f) (hg : SngsOK l) (hO : InR O l.length) (hl : O.length ≤ 100) : HSpec Try.prog 47 [plX f l, .one (.lst true [.int .i64] (i64s O))] [] (fun r m' => r = xP (LayOK f l O) ∧ m' = []) := by
  refine spec_of pMix (O := []) Try.func47 (c := bodyOf Try.f47) rfl (by kernel_rfl) (by kernel_rfl) Try.ntmps47 (res := [.tmp 4]) (by kernel_rfl) ?_
  repeat' ((conv => whnf); first | refine Rng.g ?_ | refine Ob.g ?_ | refine Ob.e ?_ | refine Ob.m ?_ | refine Ob.mk (Nat.le_of_ble_eq_true rfl) ?_ | refine JoinVC.on ?_ | refine Nils.mk (fun h => ?_) ?_ | refine Val.t ?_ | refine Val.d ?_ | refine Mm.mk ?_ | (refine Br.mk (fun h => ?_) (fun h => ?_) <;> first | (exfalso; omega; done) | (exfalso; simp at h; done) | skip))
  conv => whnf
  refine CallVC.mk [] _ _ _ rfl rfl rfl (s37p f l O hf hg hO hl) (fun r m' h' => ?_)
  cases h' with
  | rule i hi h hn hr hm =>
    subst hr hm
    repeat' ((conv => whnf); first | refine Rng.g ?_ | refine Ob.g ?_ | refine Ob.e ?_ | refine Ob.m ?_ | refine Ob.mk (Nat.le_of_ble_eq_true rfl) ?_ | refine JoinVC.on ?_ | refine Nils.mk (fun h => ?_) ?_ | refine Val.t ?_ | refine Val.d ?_ | refine Mm.mk ?_ | (refine Br.mk (fun h => ?_) (fun h => ?_) <;> first | (exfalso; omega; done) | (exfalso; simp at h; done) | skip))
    repeat refine Mm.mk ?_
    refine EndVC.mk _ rfl _ _ ⟨rfl, rfl⟩ ?_
    refine ⟨[], rfl, rfl, ?_, ?_⟩ <;> repeat' (first | exact trivial | exact rfl | exact Iff.rfl | apply And.intro)
    show _ ↔ _
    exact ⟨fun h1 => absurd h1 (by decide), fun h1 => absurd (h1.1 i hi) hn⟩
  | limit h hn hr hm =>
    subst hr hm
    repeat' ((conv => whnf); first | refine Rng.g ?_ | refine Ob.g ?_ | refine Ob.e ?_ | refine Ob.m ?_ | refine Ob.mk (Nat.le_of_ble_eq_true rfl) ?_ | refine JoinVC.on ?_ | refine Nils.mk (fun h => ?_) ?_ | refine Val.t ?_ | refine Val.d ?_ | refine Mm.mk ?_ | (refine Br.mk (fun h => ?_) (fun h => ?_) <;> first | (exfalso; omega; done) | (exfalso; simp at h; done) | skip))
    repeat refine Mm.mk ?_
    refine EndVC.mk _ rfl _ _ ⟨rfl, rfl⟩ ?_
    refine ⟨[], rfl, rfl, ?_, ?_⟩ <;> repeat' (first | exact trivial | exact rfl | exact Iff.rfl | apply And.intro)
    show _ ↔ _
    exact ⟨fun h1 => absurd h1 (by decide), fun h1 => absurd h1 hn⟩
  | ok h hr hm =>
    subst hr hm
    repeat' ((conv => whnf); first | refine Rng.g ?_ | refine Ob.g ?_ | refine Ob.e ?_ | refine Ob.m ?_ | refine Ob.mk (Nat.le_of_ble_eq_true rfl) ?_ | refine JoinVC.on ?_ | refine Nils.mk (fun h => ?_) ?_ | refine Val.t ?_ | refine Val.d ?_ | refine Mm.mk ?_ | (refine Br.mk (fun h => ?_) (fun h => ?_) <;> first | (exfalso; omega; done) | (exfalso; simp at h; done) | skip))
    repeat refine Mm.mk ?_
    refine EndVC.mk _ rfl _ _ ⟨rfl, rfl⟩ ?_
    refine ⟨[], rfl, rfl, ?_, ?_⟩ <;> repeat' (first | exact trivial | exact rfl | exact Iff.rfl | apply And.intro)
    show _ ↔ _
    exact ⟨fun _ => h, fun _ => rfl⟩
theorem s54g (i j : Nat) (hj : j ≤ 100000) : HSpec Try.prog 54 [I (i : Int), I (j : Int)] [] (fun r m' => r = .x (.one (.own 0)) ∧ m' = [some (rowOd (seqL i (j - i)))]) := by
  refine spec_of pMix (O := []) Try.func54 (c := bodyOf Try.f54) rfl (by kernel_rfl) (by kernel_rfl) Try.ntmps54 (res := [.tmp 4]) (by kernel_rfl) ?_
  repeat' ((conv => whnf); first | refine Rng.g ?_ | refine Ob.g ?_ | refine Ob.e ?_ | refine Ob.m ?_ | refine Ob.mk (Nat.le_of_ble_eq_true rfl) ?_ | refine JoinVC.on ?_ | refine Nils.mk (fun h => ?_) ?_ | refine Val.t ?_ | refine Val.d ?_ | refine Mm.mk ?_ | (refine Br.mk (fun h => ?_) (fun h => ?_) <;> first | (exfalso; omega; done) | (exfalso; simp at h; done) | skip))
  refine LoopVC.mk (fun m st => ∃ (k : Nat), (k ≤ j - i) ∧ m = j - i - k ∧ st = ⟨0, envA 16 [(0, .int .i64 ((i + k : Nat) : Int)), (1, .x (I (j : Int))), (5, .x (.one (.own 0)))], [some (rowOd (seqL i k))]⟩) _ _ ⟨0, Nat.zero_le _, rfl, rfl⟩ ?_ ?_
  · refine ⟨[none], rfl, rfl, ?_, ?_⟩ <;> repeat' (first | exact trivial | exact rfl | exact Iff.rfl | apply And.intro)
  rintro m _ ⟨k, hk, hm, rfl⟩
  have ls : (i64s (seqL i k)).length = k := by rw [i64s_len, seqL_len]
  by_cases hk' : k < j - i
  · repeat' ((conv => whnf); first | refine Rng.g ?_ | refine Ob.g ?_ | refine Ob.e ?_ | refine Ob.m ?_ | refine Ob.mk (Nat.le_of_ble_eq_true rfl) ?_ | refine JoinVC.on ?_ | refine Nils.mk (fun h => ?_) ?_ | refine Val.t ?_ | refine Val.d ?_ | refine Mm.mk ?_ | (refine Br.mk (fun h => ?_) (fun h => ?_) <;> first | (exfalso; omega; done) | (exfalso; simp at h; done) | skip))
    repeat refine Mm.mk ?_
    refine Ob.mk (by rw [eb3]; simp only [List.length_cons, List.length_nil]; omega) ?_
    repeat' ((conv => whnf); first | refine Rng.g ?_ | refine Ob.g ?_ | refine Ob.e ?_ | refine Ob.m ?_ | refine Ob.mk (Nat.le_of_ble_eq_true rfl) ?_ | refine JoinVC.on ?_ | refine Nils.mk (fun h => ?_) ?_ | refine Val.t ?_ | refine Val.d ?_ | refine Mm.mk ?_ | (refine Br.mk (fun h => ?_) (fun h => ?_) <;> first | (exfalso; omega; done) | (exfalso; simp at h; done) | skip))
    refine Back.mk (j - i - (k + 1)) _ (by omega) ⟨k + 1, by omega, rfl, rfl⟩ ?_
    rw [seqL_succ]
    refine ⟨[some 2], rfl, rfl, ?_, ?_⟩ <;> repeat' (first | exact trivial | exact rfl | exact Iff.rfl | apply And.intro)
    rw [i64s_snoc]
  · have ek : k = j - i := by omega
    subst ek
    repeat' ((conv => whnf); first | refine Rng.g ?_ | refine Ob.g ?_ | refine Ob.e ?_ | refine Ob.m ?_ | refine Ob.mk (Nat.le_of_ble_eq_true rfl) ?_ | refine JoinVC.on ?_ | refine Nils.mk (fun h => ?_) ?_ | refine Val.t ?_ | refine Val.d ?_ | refine Mm.mk ?_ | (refine Br.mk (fun h => ?_) (fun h => ?_) <;> first | (exfalso; omega; done) | (exfalso; simp at h; done) | skip))
    repeat refine Mm.mk ?_
    refine EndVC.mk _ rfl _ _ ⟨rfl, rfl⟩ ?_
    refine ⟨[some 0], rfl, rfl, ?_, ?_⟩ <;> repeat' (first | exact trivial | exact rfl | exact Iff.rfl | apply And.intro)
end Go.Sx

namespace Go.Sx
open Go Go.Proofs
set_option maxRecDepth 10000
set_option maxHeartbeats 8000000
/-! ### Formats and their plates -/
@[reducible] def KFm : List CK := [.str, .int .i64, .int .i64, .int .i64, .int .i64, .int .i64, .int .i64, .int .i64]
def fmtA (F : List Fmt) : Arr := F.map fun f => [.str f.nm, .int f.outer, .int f.inner, .int f.per, .int f.lead, .int f.gap, .int f.tail, .int f.cost]
theorem fmtA_len (F : List Fmt) : (fmtA F).length = F.length := by simp [fmtA]
@[reducible] def lFmt (F : List Fmt) : XV := .one (.lst true KFm (fmtA F))
theorem fmt_at (F : List Fmt) (i : Nat) (h : i < F.length) : rS (fmtA F) i 0 = (F.getD i f0).nm ∧ rI (fmtA F) i (0 + 1) = (F.getD i f0).outer ∧ rI (fmtA F) i (0 + 1 + 1) = (F.getD i f0).inner ∧ rI (fmtA F) i (0 + 1 + 1 + 1) = (F.getD i f0).per ∧ rI (fmtA F) i (0 + 1 + 1 + 1 + 1) = (F.getD i f0).lead ∧ rI (fmtA F) i (0 + 1 + 1 + 1 + 1 + 1) = (F.getD i f0).gap ∧ rI (fmtA F) i (0 + 1 + 1 + 1 + 1 + 1 + 1) = (F.getD i f0).tail ∧ rI (fmtA F) i (0 + 1 + 1 + 1 + 1 + 1 + 1 + 1) = (F.getD i f0).cost := by
  have h1 : (fmtA F)[i]? = some [.str (F.getD i f0).nm, .int (F.getD i f0).outer, .int (F.getD i f0).inner, .int (F.getD i f0).per, .int (F.getD i f0).lead, .int (F.getD i f0).gap, .int (F.getD i f0).tail, .int (F.getD i f0).cost] := by simp [fmtA, List.getD_eq_getElem?_getD, h]
  simp [rS, rI, cellAt, h1, Cell.toInt, Cell.toStr]
def plsA (F : List Fmt) (l : List Sng) : Arr := F.map fun f => [.sl (plA f l)]
theorem plsA_len (F : List Fmt) (l : List Sng) : (plsA F l).length = F.length := by simp [plsA]
theorem plsA_snoc (F : List Fmt) (l : List Sng) (f : Fmt) : plsA (F ++ [f]) l = plsA F l ++ [[.sl (plA f l)]] := by simp [plsA]
theorem plsA_at (F : List Fmt) (l : List Sng) (i : Nat) (h : i < F.length) : rA (plsA F l) i 0 = plA (F.getD i f0) l := by
  have h1 : (plsA F l)[i]? = some [.sl (plA (F.getD i f0) l)] := by simp [plsA, List.getD_eq_getElem?_getD, h]
  simp [rA, cellAt, h1, Cell.toArr]
@[reducible] def rowPl (F : List Fmt) (l : List Sng) : Blk := .row 69 true [.pt KPl] (plsA F l)
theorem eb246 : Try.t69.bytes = 8 := by kernel_rfl
@[reducible] def bAlb (F : List Fmt) (l : List Sng) (n : Int) : Blk := .box 98 [.lst true [.pt KPl] (plsA F l), .int .i64 n]
open Classical in
/-- The error of formats and tracks. -/
noncomputable def fmsE (F : List Fmt) (l : List Sng) : Int := if F.length = 0 ∨ 8 < F.length then 6 else if ∀ i, i < F.length → FmtOK (F.getD i f0) then trkE l else 2
theorem fmsE_many {F : List Fmt} {l : List Sng} (h : F.length = 0 ∨ 8 < F.length) : fmsE F l = 6 := if_pos h
theorem fmsE_bad {F : List Fmt} {l : List Sng} (h : ¬ (F.length = 0 ∨ 8 < F.length)) {i : Nat} (hi : i < F.length) (hn : ¬ FmtOK (F.getD i f0)) : fmsE F l = 2 := (if_neg h).trans (if_neg fun h => hn (h i hi))
theorem fmsE_trk {F : List Fmt} {l : List Sng} (h : ¬ (F.length = 0 ∨ 8 < F.length)) (hn : ∀ i, i < F.length → FmtOK (F.getD i f0)) : fmsE F l = trkE l := (if_neg h).trans (if_pos hn)
theorem fmsE_0 {F : List Fmt} {l : List Sng} : fmsE F l = 0 ↔ AlbOK F l := by
  constructor
  · intro h
    by_cases h1 : F.length = 0 ∨ 8 < F.length
    · rw [fmsE_many h1] at h; cases h
    · by_cases h2 : ∀ i, i < F.length → FmtOK (F.getD i f0)
      · rw [fmsE_trk h1 h2] at h
        exact ⟨by omega, h2, trkE_0 h⟩
      · unfold fmsE at h
        rw [if_neg h1, if_neg h2] at h; cases h
  · intro h
    rw [fmsE_trk (by have := h.few; omega) h.fmts, trkE_ok h.sngs]
theorem s49 (F : List Fmt) (l : List Sng) (hI : ∀ i, (F.getD i f0).nm.size ≤ 140737488355328) : HSpec Try.prog 49 [lFmt F, lSng l] [] (fun r m' => (fmsE F l ≠ 0 ∧ r = .tup [.one .nilp, I (fmsE F l)] ∧ m' = []) ∨ (fmsE F l ≠ 0 ∧ r = .tup [.one (.ptr 0 0), I (fmsE F l)] ∧ m' = [some (bAlb F l (l.length : Int))]) ∨ (AlbOK F l ∧ r = .tup [.one (.ptr 0 0), I 0] ∧ m' = [some (bAlb F l (l.length : Int))])) := by
  have lF := fmtA_len F
  have ll := sngA_len l
  by_cases h8 : F.length = 0 ∨ 8 < F.length
  · refine spec_of pMix (O := [(10, ([], [⟨0, [], []⟩, ⟨1, [], []⟩, ⟨2, [], []⟩, ⟨3, [], []⟩, ⟨4, [], []⟩, ⟨5, [], []⟩, ⟨6, [], []⟩, ⟨7, [], []⟩, ⟨8, [0, 1, 2, 3, 4], [9]⟩, ⟨9, [], []⟩, ⟨10, [0], []⟩, ⟨11, [], []⟩, ⟨12, [], []⟩, ⟨13, [], []⟩]))]) Try.func49 (c := bodyOf Try.f49) rfl (by kernel_rfl) (by kernel_rfl) Try.ntmps49 (res := [.tmp 4, .tmp 5]) (by kernel_rfl) ?_
    repeat' ((conv => whnf); first | refine Rng.g ?_ | refine Ob.g ?_ | refine Ob.e ?_ | refine Ob.m ?_ | refine Ob.mk (Nat.le_of_ble_eq_true rfl) ?_ | refine JoinVC.on ?_ | refine Nils.mk (fun h => ?_) ?_ | refine Val.t ?_ | refine Val.d ?_ | refine Mm.mk ?_ | (refine Br.mk (fun h => ?_) (fun h => ?_) <;> first | (exfalso; omega; done) | (exfalso; simp at h; done) | skip))
    all_goals
      repeat refine Mm.mk ?_
      conv => whnf
      refine EndVC.mk _ rfl _ _ (.inl ⟨by rw [fmsE_many h8]; decide, rfl, rfl⟩) ?_
      refine ⟨[], rfl, rfl, ?_, ?_⟩ <;> repeat' (first | exact trivial | exact rfl | exact Iff.rfl | apply And.intro)
      exact (fmsE_many h8).symm
  refine spec_of pMix (O := [(10, ([], [⟨0, [], []⟩, ⟨1, [], []⟩, ⟨2, [], []⟩, ⟨3, [], []⟩, ⟨4, [], []⟩, ⟨5, [], []⟩, ⟨6, [], []⟩, ⟨7, [], []⟩, ⟨8, [0, 1, 2, 3, 4], [9]⟩, ⟨9, [], []⟩, ⟨10, [0], []⟩, ⟨11, [], []⟩, ⟨12, [], []⟩, ⟨13, [], []⟩]))]) Try.func49 (c := bodyOf Try.f49) rfl (by kernel_rfl) (by kernel_rfl) Try.ntmps49 (res := [.tmp 4, .tmp 5]) (by kernel_rfl) ?_
  repeat' ((conv => whnf); first | refine Rng.g ?_ | refine Ob.g ?_ | refine Ob.e ?_ | refine Ob.m ?_ | refine Ob.mk (Nat.le_of_ble_eq_true rfl) ?_ | refine JoinVC.on ?_ | refine Nils.mk (fun h => ?_) ?_ | refine Val.t ?_ | refine Val.d ?_ | refine Mm.mk ?_ | (refine Br.mk (fun h => ?_) (fun h => ?_) <;> first | (exfalso; omega; done) | (exfalso; simp at h; done) | skip))
  refine LoopVC.mk (fun n st => ∃ (i : Nat), i ≤ F.length ∧ n = F.length - i ∧ (∀ j, j < i → FmtOK (F.getD j f0)) ∧ st = ⟨0, envA 50 [(1, .x (lSng l)), (6, .x (.one (.ptr 0 0))), (22, .x (lFmt F)), (23, .int .i64 (F.length : Int)), (24, .int .i64 (i : Int))], [some (.box 98 [.own 1, .int .i64 (l.length : Int)]), some (rowPl (F.take i) l)]⟩) _ _ ⟨0, Nat.zero_le _, rfl, fun j hj => absurd hj (Nat.not_lt_zero j), rfl⟩ ?_ ?_
  · refine ⟨[some 0, none], rfl, rfl, ?_, ?_⟩ <;> repeat' (first | exact trivial | exact rfl | exact Iff.rfl | apply And.intro)
    all_goals first | exact congrArg Int.ofNat lF | exact congrArg Int.ofNat ll
  rintro n _ ⟨i, hi, hn, hj, rfl⟩
  have lr : (plsA (F.take i) l).length = i := by rw [plsA_len, List.length_take]; omega
  by_cases hi' : i < F.length
  · obtain ⟨g0', g1, g2, g3, g4, g5, g6, g7⟩ := fmt_at F i hi'
    have et : (i : Int).toNat = i := Int.toNat_natCast i
    have u1 := plsA_snoc (F.take i) l (F.getD i f0)
    rw [← take_snoc F i f0 hi'] at u1
    have hf := hI i
    obtain ⟨f, hfe⟩ : ∃ f, F.getD i f0 = f := ⟨_, rfl⟩
    rw [hfe] at g0' g1 g2 g3 g4 g5 g6 g7 u1 hf
    repeat' ((conv => whnf); first | rw [et] | rw [g0'] | rw [g1] | rw [g2] | rw [g3] | rw [g4] | rw [g5] | rw [g6] | rw [g7] | refine Rng.g ?_ | refine Ob.g ?_ | refine Ob.e ?_ | refine Ob.m ?_ | refine Ob.mk (Nat.le_of_ble_eq_true rfl) ?_ | refine JoinVC.on ?_ | refine Nils.mk (fun h => ?_) ?_ | refine Val.t ?_ | refine Val.d ?_ | refine Mm.mk ?_ | (refine Br.mk (fun h => ?_) (fun h => ?_) <;> first | (exfalso; omega; done) | (exfalso; simp at h; done) | skip))
    have k0 := s67 f hf
    by_cases h0 : FmtOK f
    rotate_left
    · rw [fmtE_no h0] at k0
      have he : fmsE F l = 2 := fmsE_bad h8 hi' (by rw [hfe]; exact h0)
      repeat' ((conv => whnf); first | refine Rng.g ?_ | refine Ob.g ?_ | refine Ob.e ?_ | refine Ob.m ?_ | refine Ob.mk (Nat.le_of_ble_eq_true rfl) ?_ | refine JoinVC.on ?_ | refine Nils.mk (fun h => ?_) ?_ | refine Val.t ?_ | refine Val.d ?_ | refine Mm.mk ?_ | refine CallVC.pure rfl (k0) ?_ | refine CallVC0.pure rfl (k0) ?_ | (refine Br.mk (fun h => ?_) (fun h => ?_) <;> first | (exfalso; omega; done) | (exfalso; simp at h; done) | skip))
      repeat refine Mm.mk ?_
      conv => whnf
      refine EndVC.mk _ rfl _ _ (.inl ⟨by rw [he]; decide, rfl, rfl⟩) ?_
      refine ⟨[], rfl, rfl, ?_, ?_⟩ <;> repeat' (first | exact trivial | exact rfl | exact Iff.rfl | apply And.intro)
      exact he.symm
    have hfo := h0
    rw [fmtE_ok h0] at k0
    unfold plA at u1
    repeat' ((conv => whnf); first | refine Rng.g ?_ | refine Ob.g ?_ | refine Ob.e ?_ | refine Ob.m ?_ | refine Ob.mk (Nat.le_of_ble_eq_true rfl) ?_ | refine JoinVC.on ?_ | refine Nils.mk (fun h => ?_) ?_ | refine Val.t ?_ | refine Val.d ?_ | refine Mm.mk ?_ | refine CallVC.pure rfl (k0) ?_ | refine CallVC0.pure rfl (k0) ?_ | (refine Br.mk (fun h => ?_) (fun h => ?_) <;> first | (exfalso; omega; done) | (exfalso; simp at h; done) | skip))
    repeat refine Mm.mk ?_
    refine Ob.mk (by simp only [eb246, lr, List.length_cons, List.length_nil]; omega) ?_
    repeat' ((conv => whnf); first | rw [← u1] | refine Rng.g ?_ | refine Ob.g ?_ | refine Ob.e ?_ | refine Ob.m ?_ | refine Ob.mk (Nat.le_of_ble_eq_true rfl) ?_ | refine JoinVC.on ?_ | refine Nils.mk (fun h => ?_) ?_ | refine Val.t ?_ | refine Val.d ?_ | refine Mm.mk ?_ | (refine Br.mk (fun h => ?_) (fun h => ?_) <;> first | (exfalso; omega; done) | (exfalso; simp at h; done) | skip))
    refine Back.mk (F.length - (i + 1)) _ (by omega) ⟨i + 1, by omega, rfl, fun j hj' => ?_, rfl⟩ ?_
    · rcases Nat.lt_succ_iff_lt_or_eq.1 hj' with h' | rfl
      · exact hj j h'
      · rw [hfe]; exact hfo
    · refine ⟨[some 0, some 5], rfl, rfl, ?_, ?_⟩ <;> repeat' (first | exact trivial | exact rfl | exact Iff.rfl | apply And.intro)
  · have ei : i = F.length := by omega
    subst ei
    rw [show F.take F.length = F from List.take_length]
    repeat' ((conv => whnf); first | refine Rng.g ?_ | refine Ob.g ?_ | refine Ob.e ?_ | refine Ob.m ?_ | refine Ob.mk (Nat.le_of_ble_eq_true rfl) ?_ | refine JoinVC.on ?_ | refine Nils.mk (fun h => ?_) ?_ | refine Val.t ?_ | refine Val.d ?_ | refine Mm.mk ?_ | (refine Br.mk (fun h => ?_) (fun h => ?_) <;> first | (exfalso; omega; done) | (exfalso; simp at h; done) | skip))
    have k1 := s68 l
    have he := fmsE_trk (l := l) h8 hj
    by_cases h0 : SngsOK l
    · rw [trkE_ok h0] at k1
      repeat' ((conv => whnf); first | refine Rng.g ?_ | refine Ob.g ?_ | refine Ob.e ?_ | refine Ob.m ?_ | refine Ob.mk (Nat.le_of_ble_eq_true rfl) ?_ | refine JoinVC.on ?_ | refine Nils.mk (fun h => ?_) ?_ | refine Val.t ?_ | refine Val.d ?_ | refine Mm.mk ?_ | refine CallVC.pure rfl (k1) ?_ | refine CallVC0.pure rfl (k1) ?_ | (refine Br.mk (fun h => ?_) (fun h => ?_) <;> first | (exfalso; omega; done) | (exfalso; simp at h; done) | skip))
      repeat refine Mm.mk ?_
      conv => whnf
      refine EndVC.mk _ rfl _ _ (.inr (.inr ⟨⟨by omega, hj, h0⟩, rfl, rfl⟩)) ?_
      refine ⟨[some 0], rfl, rfl, ?_, ?_⟩ <;> repeat' (first | exact trivial | exact rfl | exact Iff.rfl | apply And.intro)
    · obtain ⟨e, hee⟩ : ∃ e, trkE l = e := ⟨_, rfl⟩
      have hn : e ≠ 0 := fun h => h0 (trkE_0 (hee.trans h))
      rw [hee] at k1 he
      repeat' ((conv => whnf); first | refine Rng.g ?_ | refine Ob.g ?_ | refine Ob.e ?_ | refine Ob.m ?_ | refine Ob.mk (Nat.le_of_ble_eq_true rfl) ?_ | refine JoinVC.on ?_ | refine Nils.mk (fun h => ?_) ?_ | refine Val.t ?_ | refine Val.d ?_ | refine Mm.mk ?_ | refine CallVC.pure rfl (k1) ?_ | refine CallVC0.pure rfl (k1) ?_ | (refine Br.mk (fun h => ?_) (fun h => ?_) <;> first | (exfalso; omega; done) | (exfalso; simp at h; done) | skip))
      repeat refine Mm.mk ?_
      conv => whnf
      refine EndVC.mk _ rfl _ _ (.inr (.inl ⟨by rw [he]; exact hn, rfl, rfl⟩)) ?_
      refine ⟨[some 0], rfl, rfl, ?_, ?_⟩ <;> repeat' (first | exact trivial | exact rfl | exact Iff.rfl | apply And.intro)
      exact he.symm
/-! ### Parts of code -/
def cF : Code → Code
  | .seq a _ => a
  | c => c
def cS : Code → Code
  | .seq _ b => b
  | c => c
def cB : Code → Code
  | .block _ c => c
  | c => c
def cAs : Code → Code
  | .rangeFunc _ _ x _ => x
  | c => c
def cBo : Code → Code
  | .rangeFunc _ _ _ b => b
  | c => c
def cL : Code → Code
  | .loop c => c
  | c => c
end Go.Sx

namespace Go.Sx
open Go Go.Proofs
set_option maxRecDepth 10000
set_option maxHeartbeats 8000000
/-! ### slices.Repeat -/
theorem shr_val {n c : Int} {m : Nat} (h : (2 : Int) ^ m = c) : n / 2 ^ m = n / c := by rw [h]
@[reducible] def U64 (n : Int) : XV := .one (.int .u64 n)
theorem mask32 {n : Int} (h : 0 ≤ n ∧ n ≤ 18446744073709551615) : bits .and .u64 n 4294967295 = n % 4294967296 := by
  obtain ⟨k, rfl⟩ := Int.eq_ofNat_of_zero_le h.1
  have := bits_and_u64_nat k 4294967295 (by omega) (by omega)
  rw [show ((4294967295 : Nat) : Int) = 4294967295 from rfl] at this
  rw [this, show (4294967295 : Nat) = 2 ^ 32 - 1 from rfl, Nat.and_two_pow_sub_one_eq_mod]
  omega
theorem s101 (n : Int) (h : 0 ≤ n ∧ n ≤ 25) : PSpec Try.prog 101 [U64 1, U64 n] (.tup [U64 0, U64 n]) := by
  refine spec_of pMix (O := []) Try.func101 (c := bodyOf Try.f101) rfl (by kernel_rfl) (by kernel_rfl) Try.ntmps101 (res := [.tmp 4, .tmp 5]) (by kernel_rfl) ?_
  repeat' (conv => whnf
           first
           | refine Rng.ok (by simp only [inR]; omega) ?_
           | refine Ob.mk (by first | omega | (simp; done) | decide | (simp; omega)) ?_
           | refine Val.mk _ (shr_val (by simp; rfl)) ?_
           | refine Val.mk _ (mask32 (by omega)) ?_)
  repeat refine Mm.mk ?_
  refine EndVC.mk _ rfl _ _ ⟨rfl, rfl⟩ ?_
  refine ⟨[], rfl, rfl, ?_, ?_⟩ <;> repeat' (first | exact trivial | exact rfl | exact Iff.rfl | apply And.intro)
  all_goals omega
theorem s81 (n : Int) (h : 0 ≤ n ∧ n ≤ 25) : PSpec Try.prog 81 [U64 1, U64 n] (.tup [U64 0, U64 n]) := by
  refine spec_of pMix (O := []) Try.func81 (c := bodyOf Try.f81) rfl (by kernel_rfl) (by kernel_rfl) Try.ntmps81 (res := [.tmp 4, .tmp 5]) (by kernel_rfl) ?_
  repeat' ((conv => whnf); first | refine Rng.g ?_ | refine Ob.g ?_ | refine Ob.e ?_ | refine Ob.m ?_ | refine Ob.mk (Nat.le_of_ble_eq_true rfl) ?_ | refine JoinVC.on ?_ | refine Nils.mk (fun h => ?_) ?_ | refine Val.t ?_ | refine Val.d ?_ | refine Mm.mk ?_ | refine CallVC.pure rfl (s101 n h) ?_ | refine CallVC0.pure rfl (s101 n h) ?_ | (refine Br.mk (fun h => ?_) (fun h => ?_) <;> first | (exfalso; omega; done) | (exfalso; simp at h; done) | skip))
  repeat refine Mm.mk ?_
  refine EndVC.mk _ rfl _ _ ⟨rfl, rfl⟩ ?_
  refine ⟨[], rfl, rfl, ?_, ?_⟩ <;> repeat' (first | exact trivial | exact rfl | exact Iff.rfl | apply And.intro)
theorem rep_copy (n k : Nat) : (i64s (List.replicate k (-1) ++ List.replicate (n - k) 0)).take k ++ (((i64s (List.replicate k (-1) ++ List.replicate (n - k) 0)).take k).take (min (n - k) k) ++ (i64s (List.replicate k (-1) ++ List.replicate (n - k) 0)).drop (k + min (n - k) k)) = i64s (List.replicate (k + min (n - k) k) (-1) ++ List.replicate (n - (k + min (n - k) k)) 0) := by
  obtain ⟨m, hm⟩ : ∃ m, min (n - k) k = m := ⟨_, rfl⟩
  have h1 : m ≤ n - k := hm ▸ Nat.min_le_left _ _
  have h2 : m ≤ k := hm ▸ Nat.min_le_right _ _
  rw [hm]
  unfold i64s
  rw [← List.map_take, ← List.map_take, ← List.map_drop, ← List.map_append, ← List.map_append]
  congr 1
  rw [List.take_left' (by simp), List.take_replicate, Nat.min_eq_left h2, List.drop_append, List.drop_replicate, List.drop_replicate, ← List.append_assoc, List.replicate_append_replicate]
  simp only [List.length_replicate]
  rw [show k - (k + m) = 0 by omega, show n - k - (k + m - k) = n - (k + m) by omega]
  rfl
@[reducible] def rowPr (p : List Int) : Blk := .row 2 false [.int .i64] (i64s p)
theorem rep_min (n : Nat) (h : 1 ≤ n) : min (List.replicate (n : Int).toNat (zeroRow [.int .i64])).length ([[Cell.int (-1)]] : Arr).length = 1 := by
  rw [List.length_replicate, Int.toNat_natCast]
  exact Nat.min_eq_right h
theorem rep_init (n : Nat) (h : 1 ≤ n) : List.take 0 (List.replicate (n : Int).toNat (zeroRow [.int .i64])) ++ (List.take (min (List.replicate (n : Int).toNat (zeroRow [.int .i64])).length ([[Cell.int (-1)]] : Arr).length) [[Cell.int (-1)]] ++ List.drop (0 + min (List.replicate (n : Int).toNat (zeroRow [.int .i64])).length ([[Cell.int (-1)]] : Arr).length) (List.replicate (n : Int).toNat (zeroRow [.int .i64]))) = i64s (List.replicate 1 (-1) ++ List.replicate (n - 1) 0) := by
  rw [rep_min n h, Int.toNat_natCast, List.drop_replicate]
  simp [i64s, zeroRow, zeroCell]
theorem eb2 : Try.t2.bytes = 8 := by kernel_rfl
theorem s66 (n : Nat) (h1 : 1 ≤ n ∧ n ≤ 25) : HSpec Try.prog 66 [.one (.lst true [.int .i64] [[.int (-1)]]), I (n : Int)] [] (fun r m' => r = .x (.one (.own 0)) ∧ m' = [some (rowPr (List.replicate n (-1)))]) := by
  have hs := s81 (n : Int) (by omega)
  have l1 : (([[Cell.int (-1)]] : Arr).length : Int) = 1 := rfl
  refine spec_of pMix (O := [(9, ([], [⟨0, [], []⟩, ⟨1, [], []⟩, ⟨2, [], []⟩, ⟨3, [], []⟩, ⟨4, [], []⟩, ⟨5, [], []⟩, ⟨6, [], []⟩, ⟨7, [0], []⟩, ⟨8, [], []⟩, ⟨9, [], []⟩]))]) Try.func66 (c := bodyOf Try.f66) rfl (by kernel_rfl) (by kernel_rfl) Try.ntmps66 (res := [.tmp 4]) (by kernel_rfl) ?_
  repeat' ((conv => whnf); first | rw [l1] | refine Rng.g ?_ | refine Ob.g ?_ | refine Ob.e ?_ | refine Ob.m ?_ | refine Ob.mk (Nat.le_of_ble_eq_true rfl) ?_ | refine JoinVC.on ?_ | refine Nils.mk (fun h => ?_) ?_ | refine Val.t ?_ | refine Val.d ?_ | refine Mm.mk ?_ | refine CallVC.pure rfl (hs) ?_ | refine CallVC0.pure rfl (hs) ?_ | (refine Br.mk (fun h => ?_) (fun h => ?_) <;> first | (exfalso; omega; done) | (exfalso; simp at h; done) | skip))
  repeat refine Mm.mk ?_
  refine Ob.mk (by rw [eb2]; omega) ?_
  repeat' ((conv => whnf); first | rw [l1] | refine Rng.g ?_ | refine Ob.g ?_ | refine Ob.e ?_ | refine Ob.m ?_ | refine Ob.mk (Nat.le_of_ble_eq_true rfl) ?_ | refine JoinVC.on ?_ | refine Nils.mk (fun h => ?_) ?_ | refine Val.t ?_ | refine Val.d ?_ | refine Mm.mk ?_ | refine CallVC.pure rfl (hs) ?_ | refine CallVC0.pure rfl (hs) ?_ | (refine Br.mk (fun h => ?_) (fun h => ?_) <;> first | (exfalso; omega; done) | (exfalso; simp at h; done) | skip))
  have ln : ∀ k, (i64s (List.replicate k (-1) ++ List.replicate (n - k) 0)).length = k + (n - k) := fun k => by rw [i64s_len, List.length_append, List.length_replicate, List.length_replicate]
  refine LoopVC.mk (fun m st => ∃ (k : Nat), (1 ≤ k ∧ k ≤ n) ∧ m = n - k ∧ st = ⟨0, envA 48 [(7, .x (.one (.own 0))), (8, .int .i64 (k : Int))], [some (rowPr (List.replicate k (-1) ++ List.replicate (n - k) 0))]⟩) _ _ ⟨1, by omega, rfl, rfl⟩ ?_ ?_
  · refine ⟨[some 0], rfl, rfl, ?_, ?_⟩ <;> repeat' (first | exact trivial | exact rfl | exact Iff.rfl | apply And.intro)
    · rw [rep_min n h1.1]
    · exact rep_init n h1.1
  rintro m _ ⟨k, hk, hm, rfl⟩
  have lk := ln k
  by_cases hk' : k < n
  · have lt : ((i64s (List.replicate k (-1) ++ List.replicate (n - k) 0)).take (k : Int).toNat).length = k := by rw [List.length_take, lk]; omega
    have e1 : ((i64s (List.replicate k (-1) ++ List.replicate (n - k) 0)).length : Int).toNat - (k : Int).toNat = n - k := by rw [lk]; omega
    have e2 : (k : Int).toNat = k := Int.toNat_natCast k
    have e3 := rep_copy n k
    obtain ⟨d, hd⟩ : ∃ d, min (n - k) k = d := ⟨_, rfl⟩
    have hd1 : 1 ≤ d := by rw [← hd]; exact Nat.le_min.2 ⟨by omega, hk.1⟩
    have hd2 : d ≤ n - k := by rw [← hd]; exact Nat.min_le_left _ _
    rw [hd] at e3
    obtain ⟨A, hA⟩ : ∃ A, i64s (List.replicate k (-1) ++ List.replicate (n - k) 0) = A := ⟨_, rfl⟩
    rw [hA] at lt e1 e3 lk
    have hM : min (((none : Option Int).getD (A.length : Int)).toNat - (k : Int).toNat) (List.take ((some (k : Int)).getD (A.length : Int)).toNat (List.drop 0 A)).length = d := by
      show min ((A.length : Int).toNat - (k : Int).toNat) (List.take (k : Int).toNat A).length = d
      rw [e1, lt]
      exact hd
    simp only [rowPr, hA]
    repeat' ((conv => whnf); first | rw [hM] | refine Rng.g ?_ | refine Ob.g ?_ | refine Ob.e ?_ | refine Ob.m ?_ | refine Ob.mk (Nat.le_of_ble_eq_true rfl) ?_ | refine JoinVC.on ?_ | refine Nils.mk (fun h => ?_) ?_ | refine Val.t ?_ | refine Val.d ?_ | refine Mm.mk ?_ | (refine Br.mk (fun h => ?_) (fun h => ?_) <;> first | (exfalso; omega; done) | (exfalso; simp at h; done) | skip))
    refine Back.mk (n - (k + d)) _ (by omega) ⟨k + d, by omega, rfl, rfl⟩ ?_
    refine ⟨[some 0], rfl, rfl, ?_, ?_⟩ <;> repeat' (first | exact trivial | exact rfl | exact Iff.rfl | apply And.intro)
    · show List.take (k : Int).toNat A ++ (List.take d (List.take (k : Int).toNat (List.drop 0 A)) ++ List.drop ((k : Int).toNat + d) A) = _
      rw [e2, List.drop_zero]
      exact e3
  · have ek : k = n := by omega
    subst ek
    have e0 : List.replicate k (-1 : Int) ++ List.replicate (k - k) 0 = List.replicate k (-1) := by rw [Nat.sub_self]; simp
    rw [e0] at lk
    rw [e0]
    repeat' ((conv => whnf); first | refine Rng.g ?_ | refine Ob.g ?_ | refine Ob.e ?_ | refine Ob.m ?_ | refine Ob.mk (Nat.le_of_ble_eq_true rfl) ?_ | refine JoinVC.on ?_ | refine Nils.mk (fun h => ?_) ?_ | refine Val.t ?_ | refine Val.d ?_ | refine Mm.mk ?_ | (refine Br.mk (fun h => ?_) (fun h => ?_) <;> first | (exfalso; omega; done) | (exfalso; simp at h; done) | skip))
    repeat refine Mm.mk ?_
    refine EndVC.mk _ rfl _ _ ⟨rfl, rfl⟩ ?_
    refine ⟨[some 0], rfl, rfl, ?_, ?_⟩ <;> repeat' (first | exact trivial | exact rfl | exact Iff.rfl | apply And.intro)
end Go.Sx
