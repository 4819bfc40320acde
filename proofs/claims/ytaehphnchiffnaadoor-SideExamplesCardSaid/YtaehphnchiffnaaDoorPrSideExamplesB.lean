import Derived.Test.YtaehphnchiffnaaDoorPrSideExamplesA
import Derived.Sort.AssemblyPlain
import Derived.Test.YtaehphnchiffnaaDoorXy
import Derived.ChangeArms
import Derived.Test.YtaehphnchiffnaaDoorXc
namespace Go.Sx
open Go Go.Proofs
set_option maxRecDepth 10000
set_option maxHeartbeats 4000000
/-! ### Packings: plain laws -/
/-- The tracks of a side, by increasing indexes. -/
def onL (P : List Int) (k : Int) : List Int := ((List.range P.length).filter fun j => decide (P.getD j 0 = k)).map fun j : Nat => (j : Int)
theorem getD_app_lt (P : List Int) (x : Int) {j : Nat} (h : j < P.length) : (P ++ [x]).getD j 0 = P.getD j 0 := by
  simp [List.getD_eq_getElem?_getD, List.getElem?_append_left h]
theorem getD_app_eq (P : List Int) (x : Int) : (P ++ [x]).getD P.length 0 = x := by simp [List.getD_eq_getElem?_getD]
theorem onL_snoc (P : List Int) (x k : Int) : onL (P ++ [x]) k = onL P k ++ (if x = k then [(P.length : Int)] else []) := by
  unfold onL
  rw [List.length_append, List.length_singleton, List.range_succ, List.filter_append, List.map_append]
  have e : (List.range P.length).filter (fun j => decide ((P ++ [x]).getD j 0 = k)) = (List.range P.length).filter fun j => decide (P.getD j 0 = k) := by
    refine List.filter_congr fun j hj => ?_
    rw [getD_app_lt P x (List.mem_range.1 hj)]
  rw [e]
  congr 1
  simp only [List.filter_cons, List.filter_nil, getD_app_eq]
  by_cases h : x = k
  · simp [h]
  · simp [h]
theorem mem_onL {P : List Int} {k x : Int} : x ∈ onL P k ↔ ∃ j, j < P.length ∧ P.getD j 0 = k ∧ x = (j : Int) := by
  unfold onL
  simp only [List.mem_map, List.mem_filter, List.mem_range, decide_eq_true_eq]
  constructor
  · rintro ⟨j, ⟨h1, h2⟩, rfl⟩
    exact ⟨j, h1, h2, rfl⟩
  · rintro ⟨j, h1, h2, rfl⟩
    exact ⟨j, ⟨h1, h2⟩, rfl⟩
theorem onL_nodup (P : List Int) (k : Int) : (onL P k).Nodup := by
  unfold onL
  rw [List.nodup_iff_pairwise_ne, List.pairwise_map]
  refine List.Pairwise.imp (R := fun a b => a ≠ b) (fun h e => h (Int.natCast_inj.1 e)) ?_
  exact (List.nodup_iff_pairwise_ne.1 List.nodup_range).filter _
theorem onL_ord (P : List Int) (k : Int) : OrdOK P.length (onL P k) := .of (onL_nodup P k) fun x hx => by
  obtain ⟨j, h1, _, rfl⟩ := mem_onL.1 hx
  omega
theorem OrdOK.up {n m : Nat} {O : List Int} (h : OrdOK n O) (hm : n ≤ m) : OrdOK m O := ⟨fun i hi => by have := h.rng i hi; omega, h.inj⟩
/-- A set of tracks as bits. -/
def maskO : List Int → Nat → Int → Int
  | _, 0, _ => 0
  | P, n + 1, k => maskO P n k + (if P.getD n 0 = k then 2 ^ n else 0)
theorem maskO_bd (P : List Int) (k : Int) : ∀ n, 0 ≤ maskO P n k ∧ maskO P n k < 2 ^ n
  | 0 => by simp [maskO]
  | n + 1 => by
    have h := maskO_bd P k n
    have e : (2 : Int) ^ (n + 1) = 2 ^ n + 2 ^ n := by rw [Int.pow_succ]; omega
    have p : (0 : Int) < 2 ^ n := Int.pow_pos (by decide)
    unfold maskO
    split <;> omega
theorem maskO_congr {P Q : List Int} (k : Int) : ∀ n, (∀ j, j < n → P.getD j 0 = Q.getD j 0) → maskO P n k = maskO Q n k
  | 0, _ => rfl
  | n + 1, h => by
    unfold maskO
    rw [maskO_congr k n fun j hj => h j (by omega), h n (Nat.lt_succ_self n)]
theorem pow_split {j n : Nat} (h : j ≤ n) : (2 : Int) ^ n = 2 ^ (n - j) * 2 ^ j := by
  rw [← Int.pow_add, Nat.sub_add_cancel h]
theorem maskO_bit (P : List Int) (k : Int) (j : Nat) : ∀ n, j < n → maskO P n k / 2 ^ j % 2 = if P.getD j 0 = k then 1 else 0
  | 0, h => absurd h (Nat.not_lt_zero j)
  | n + 1, h => by
    have p : (0 : Int) < 2 ^ j := Int.pow_pos (by decide)
    unfold maskO
    by_cases e : j = n
    · subst e
      have hb := maskO_bd P k j
      by_cases hk : P.getD j 0 = k
      · rw [if_pos hk, if_pos hk]
        have h1 := Int.add_mul_ediv_left (maskO P j k) 1 (Int.ne_of_gt p)
        rw [Int.mul_one] at h1
        rw [h1, Int.ediv_eq_zero_of_lt hb.1 hb.2]
        rfl
      · rw [if_neg hk, if_neg hk, Int.add_zero, Int.ediv_eq_zero_of_lt hb.1 hb.2]
        rfl
    · have ih := maskO_bit P k j n (by omega)
      by_cases hk : P.getD n 0 = k
      · rw [if_pos hk, pow_split (show j ≤ n by omega), Int.mul_comm]
        rw [Int.add_mul_ediv_left _ _ (Int.ne_of_gt p)]
        obtain ⟨d, hd⟩ : ∃ d, n - j = d + 1 := ⟨n - j - 1, by omega⟩
        rw [hd, Int.pow_succ]
        omega
      · rw [if_neg hk, Int.add_zero]
        exact ih
/-- The first of some. -/
def fsO {α : Type} (g : Nat → Option α) : Nat → Option α
  | 0 => none
  | n + 1 => match fsO g n with
    | some x => some x
    | none => g n
theorem fsO_none {α : Type} {g : Nat → Option α} : ∀ {n : Nat}, fsO g n = none ↔ ∀ k, k < n → g k = none
  | 0 => ⟨fun _ k h => absurd h (Nat.not_lt_zero k), fun _ => rfl⟩
  | n + 1 => by
    unfold fsO
    cases h : fsO g n with
    | none =>
      have h1 := fsO_none.1 h
      simp only
      constructor
      · intro h2 k hk
        rcases Nat.lt_succ_iff_lt_or_eq.1 hk with h3 | rfl
        · exact h1 k h3
        · exact h2
      · exact fun h2 => h2 n (Nat.lt_succ_self n)
    | some x =>
      simp only
      constructor
      · intro h2; cases h2
      · intro h2
        rw [fsO_none.2 fun k hk => h2 k (by omega)] at h
        cases h
theorem fsO_at {α : Type} {g : Nat → Option α} {k : Nat} {x : α} (h0 : ∀ j, j < k → g j = none) (h1 : g k = some x) : ∀ {n : Nat}, k < n → fsO g n = some x
  | 0, h => absurd h (Nat.not_lt_zero k)
  | n + 1, h => by
    unfold fsO
    by_cases e : k = n
    · subst e
      rw [fsO_none.2 h0]
      exact h1
    · rw [fsO_at h0 h1 (n := n) (by omega)]
theorem fsO_some {α : Type} {g : Nat → Option α} {x : α} : ∀ {n : Nat}, fsO g n = some x → ∃ k, k < n ∧ g k = some x ∧ ∀ j, j < k → g j = none
  | 0, h => by cases h
  | n + 1, h => by
    unfold fsO at h
    cases h2 : fsO g n with
    | some y =>
      rw [h2] at h
      cases h
      obtain ⟨k, h3, h4⟩ := fsO_some h2
      exact ⟨k, by omega, h4⟩
    | none =>
      rw [h2] at h
      exact ⟨n, Nat.lt_succ_self n, h, fsO_none.1 h2⟩
/-- Have the tracks of a side a possible order? -/
def sideOK (f : Fmt) (l : List Sng) (P : List Int) (k : Int) : Prop := LayOK f l (usu l (onL P k))
open Classical in
/-- The first packing on so many sides that goes on from here: d tracks are left. -/
noncomputable def pkF (f : Fmt) (l : List Sng) (sides : Nat) : Nat → List Int → Nat → Option (List Int)
  | 0, on, used => if used = sides then some on else none
  | d + 1, on, used => fsO (fun k => if sideOK f l (on ++ [(k : Int)]) k then pkF f l sides d (on ++ [(k : Int)]) (max used (k + 1)) else none) (min (used + 1) sides)
/-- A possible packing. -/
structure Packd (f : Fmt) (l : List Sng) (P : List Int) (sides : Nat) : Prop where
  num : ∀ i, i < P.length → 0 ≤ P.getD i 0 ∧ P.getD i 0 < sides
  nxt : ∀ i, i < P.length → ∀ v : Nat, (v : Int) < P.getD i 0 → ∃ j, j < i ∧ P.getD j 0 = v
  all : ∀ v : Nat, v < sides → ∃ j, j < P.length ∧ P.getD j 0 = v
  len : P.length = l.length
  ok : ∀ k : Nat, k < sides → sideOK f l P k
open Classical in
/-- .. as the document finds it. -/
noncomputable def pkR (f : Fmt) (l : List Sng) (sides : Nat) : Nat → List Int → Nat → Option (List Int)
  | 0, on, _ => if Packd f l on sides then some on else none
  | d + 1, on, used => fsO (fun k => pkR f l sides d (on ++ [(k : Int)]) (max used (k + 1))) (min (used + 1) sides)
/-- A list that is numbered as its numbers are first used, with so many used. -/
structure Numb (on : List Int) (used : Nat) : Prop where
  rng : ∀ i, i < on.length → 0 ≤ on.getD i 0 ∧ on.getD i 0 < used
  nxt : ∀ i, i < on.length → ∀ v : Nat, (v : Int) < on.getD i 0 → ∃ j, j < i ∧ on.getD j 0 = v
  all : ∀ v : Nat, v < used → ∃ j, j < on.length ∧ on.getD j 0 = v
theorem numb_nil : Numb [] 0 := ⟨fun i h => absurd h (Nat.not_lt_zero i), fun i h => absurd h (Nat.not_lt_zero i), fun v h => absurd h (Nat.not_lt_zero v)⟩
theorem Numb.snoc {on : List Int} {used k : Nat} (h : Numb on used) (hk : k ≤ used) : Numb (on ++ [(k : Int)]) (max used (k + 1)) := by
  have hm1 : used ≤ max used (k + 1) := Nat.le_max_left _ _
  have hm2 : k + 1 ≤ max used (k + 1) := Nat.le_max_right _ _
  refine ⟨fun i hi => ?_, fun i hi v hv => ?_, fun v hv => ?_⟩
  · rw [List.length_append, List.length_singleton] at hi
    by_cases e : i = on.length
    · rw [e, getD_app_eq]; omega
    · rw [getD_app_lt _ _ (by omega)]
      have := h.rng i (by omega)
      omega
  · rw [List.length_append, List.length_singleton] at hi
    by_cases e : i = on.length
    · rw [e, getD_app_eq] at hv
      obtain ⟨j, h1, h2⟩ := h.all v (by omega)
      exact ⟨j, by omega, by rw [getD_app_lt _ _ h1]; exact h2⟩
    · rw [getD_app_lt _ _ (by omega)] at hv
      obtain ⟨j, h1, h2⟩ := h.nxt i (by omega) v hv
      exact ⟨j, h1, by rw [getD_app_lt _ _ (by omega)]; exact h2⟩
  · by_cases e : v < used
    · obtain ⟨j, h1, h2⟩ := h.all v e
      exact ⟨j, by rw [List.length_append]; omega, by rw [getD_app_lt _ _ h1]; exact h2⟩
    · have e2 : v = k := by
        have : max used (k + 1) = if used ≤ k + 1 then k + 1 else used := Nat.max_def ..
        rw [this] at hv
        split at hv <;> omega
      exact ⟨on.length, by simp, by rw [getD_app_eq, e2]⟩
/-- What is possible of more tracks is possible of fewer. -/
theorem sideOK_mono {f : Fmt} {l : List Sng} (hf : FmtOK f) (hl : SngsOK l) {P Q : List Int} (k : Int) (hQ : Q.length ≤ l.length) (hs : ∀ j, j < P.length → j < Q.length ∧ Q.getD j 0 = P.getD j 0) (h : sideOK f l Q k) : sideOK f l P k := by
  refine usu_lay hf hl (onL_nodup P k) (P := usu l (onL Q k)) (fun x hx => ?_) (fun y hy => ?_) h
  · rw [usu_mem]
    obtain ⟨j, h1, h2, h3⟩ := mem_onL.1 hx
    exact mem_onL.2 ⟨j, (hs j h1).1, by rw [(hs j h1).2]; exact h2, h3⟩
  · rw [usu_mem] at hy
    obtain ⟨j, h1, _, rfl⟩ := mem_onL.1 hy
    omega
theorem onL_other {P : List Int} {x k : Int} (h : x ≠ k) : onL (P ++ [x]) k = onL P k := by
  rw [onL_snoc, if_neg h, List.append_nil]
/-- All sides that are used so far are possible. -/
def Sofar (f : Fmt) (l : List Sng) (on : List Int) (used : Nat) : Prop := ∀ k : Nat, k < used → sideOK f l on k
theorem pkR_pre {f : Fmt} {l : List Sng} {sides : Nat} : ∀ (d : Nat) (on : List Int) (used : Nat) (q : List Int), pkR f l sides d on used = some q → Packd f l q sides ∧ ∀ j, j < on.length → j < q.length ∧ q.getD j 0 = on.getD j 0
  | 0, on, used, q, h => by
    unfold pkR at h
    split at h
    · rename_i hp
      cases h
      exact ⟨hp, fun j hj => ⟨hj, rfl⟩⟩
    · cases h
  | d + 1, on, used, q, h => by
    unfold pkR at h
    obtain ⟨k, _, h2, _⟩ := fsO_some h
    obtain ⟨h3, h4⟩ := pkR_pre d _ _ q h2
    refine ⟨h3, fun j hj => ?_⟩
    have := h4 j (by rw [List.length_append]; omega)
    rw [getD_app_lt _ _ hj] at this
    exact this
open Classical in
/-- The works' packing is the document's. -/
theorem pk_eq {f : Fmt} {l : List Sng} (hf : FmtOK f) (hl : SngsOK l) {sides : Nat} : ∀ (d : Nat) (on : List Int) (used : Nat), on.length + d = l.length → Numb on used → used ≤ sides → Sofar f l on used → pkF f l sides d on used = pkR f l sides d on used
  | 0, on, used, hlen, hN, hu, hS => by
    unfold pkF pkR
    by_cases h : used = sides
    · subst h
      rw [if_pos rfl, if_pos ⟨hN.rng, hN.nxt, hN.all, hlen, hS⟩]
    · rw [if_neg h, if_neg]
      intro hp
      obtain ⟨j, h1, h2⟩ := hp.all used (by omega)
      have := (hN.rng j h1).2
      omega
  | d + 1, on, used, hlen, hN, hu, hS => by
    unfold pkF pkR
    have key : ∀ k, k < min (used + 1) sides → (if sideOK f l (on ++ [(k : Int)]) k then pkF f l sides d (on ++ [(k : Int)]) (max used (k + 1)) else none) = pkR f l sides d (on ++ [(k : Int)]) (max used (k + 1)) := fun k hk => by
      have hk1 : k < used + 1 := Nat.lt_of_lt_of_le hk (Nat.min_le_left _ _)
      have hk2 : k < sides := Nat.lt_of_lt_of_le hk (Nat.min_le_right _ _)
      split
      · rename_i hs
        refine pk_eq hf hl d _ _ (by rw [List.length_append, List.length_singleton]; omega) (hN.snoc (by omega)) (Nat.max_le.2 ⟨hu, hk2⟩) fun v hv => ?_
        by_cases e : (k : Int) = v
        · rw [← e]; exact hs
        · unfold sideOK
          rw [onL_other e]
          refine hS v ?_
          have : max used (k + 1) = if used ≤ k + 1 then k + 1 else used := Nat.max_def ..
          rw [this] at hv
          split at hv <;> omega
      · rename_i hs
        cases h : pkR f l sides d (on ++ [(k : Int)]) (max used (k + 1)) with
        | none => rfl
        | some q =>
          obtain ⟨h1, h2⟩ := pkR_pre d _ _ q h
          exact absurd (sideOK_mono hf hl k (by rw [h1.len]; exact Nat.le_refl _) h2 (h1.ok k hk2)) hs
    have : ∀ n, n ≤ min (used + 1) sides → fsO (fun k => if sideOK f l (on ++ [(k : Int)]) k then pkF f l sides d (on ++ [(k : Int)]) (max used (k + 1)) else none) n = fsO (fun k => pkR f l sides d (on ++ [(k : Int)]) (max used (k + 1))) n := fun n => by
      induction n with
      | zero => exact fun _ => rfl
      | succ n ih =>
        intro hn
        unfold fsO
        rw [ih (by omega)]
        simp only [key n (by omega)]
    exact this _ (Nat.le_refl _)
/-- If there is a packing that goes on from here, one is found. -/
theorem pkR_has {f : Fmt} {l : List Sng} {sides : Nat} {q : List Int} (hq : Packd f l q sides) : ∀ (d : Nat) (on : List Int) (used : Nat), on.length + d = l.length → Numb on used → (∀ j, j < on.length → q.getD j 0 = on.getD j 0) → pkR f l sides d on used ≠ none
  | 0, on, used, hlen, hN, hpre => by
    have e : q = on := list_ext_getD (by rw [hq.len]; omega) fun j hj => hpre j (by have := hq.len; omega)
    unfold pkR
    rw [if_pos (e ▸ hq)]
    simp
  | d + 1, on, used, hlen, hN, hpre => by
    unfold pkR
    intro hn
    have hql := hq.len
    obtain ⟨k, hk⟩ : ∃ k : Nat, q.getD on.length 0 = k := ⟨(q.getD on.length 0).toNat, by have := (hq.num on.length (by omega)).1; omega⟩
    have h1 := hq.num on.length (by omega)
    have hku : k ≤ used := Classical.byContradiction fun hc => by
      obtain ⟨j, h2, h3⟩ := hq.nxt on.length (by omega) used (by omega)
      rw [hpre j h2] at h3
      have := (hN.rng j h2).2
      omega
    have h2 := fsO_none.1 hn k (Nat.lt_min.2 ⟨by omega, by omega⟩)
    refine pkR_has hq d _ _ (by rw [List.length_append, List.length_singleton]; omega) (hN.snoc hku) (fun j hj => ?_) h2
    rw [List.length_append, List.length_singleton] at hj
    by_cases e : j = on.length
    · rw [e, getD_app_eq]; exact hk
    · rw [getD_app_lt _ _ (by omega)]
      exact hpre j (by omega)
/-- The first packing on so many sides. -/
noncomputable def packR (f : Fmt) (l : List Sng) (sides : Nat) : Option (List Int) := pkR f l sides l.length [] 0
theorem packR_some {f : Fmt} {l : List Sng} {sides : Nat} {q : List Int} (h : packR f l sides = some q) : Packd f l q sides := (pkR_pre _ _ _ q h).1
theorem packR_none {f : Fmt} {l : List Sng} {sides : Nat} (h : packR f l sides = none) (q : List Int) : ¬ Packd f l q sides := fun hq => pkR_has hq _ _ _ (by simp) numb_nil (fun j hj => absurd hj (Nat.not_lt_zero j)) h
end Go.Sx

namespace Go.Sx
open Go Go.Proofs
set_option maxRecDepth 10000
set_option maxHeartbeats 8000000
/-! ### Sets of tracks as bits -/
theorem or_dec : ∀ i : Fin 9, ∀ m : Fin 256, m.1 < 2 ^ i.1 → bits .or .i64 (m.1 : Int) ((2 ^ i.1 : Nat) : Int) = ((m.1 + 2 ^ i.1 : Nat) : Int) := by decide +kernel
theorem andNot_dec : ∀ i : Fin 9, ∀ m : Fin 256, m.1 < 2 ^ i.1 → bits .andNot .i64 ((m.1 + 2 ^ i.1 : Nat) : Int) ((2 ^ i.1 : Nat) : Int) = (m.1 : Int) := by decide +kernel
theorem and1_dec : ∀ n : Fin 512, bits .and .i64 (n.1 : Int) 1 = ((n.1 % 2 : Nat) : Int) := by decide +kernel
theorem pow_nat (i : Nat) : ((2 ^ i : Nat) : Int) = (2 : Int) ^ i := by simp
theorem or_mask {m : Int} {i : Nat} (hm : 0 ≤ m ∧ m < 2 ^ i) (hi : i ≤ 8) : bits .or .i64 m ((2 : Int) ^ i) = m + 2 ^ i := by
  obtain ⟨k, rfl⟩ := Int.eq_ofNat_of_zero_le hm.1
  have h1 : k < 2 ^ i := by have := hm.2; rw [← pow_nat] at this; omega
  have h2 : 2 ^ i ≤ 2 ^ 8 := Nat.pow_le_pow_right (by decide) hi
  have := or_dec ⟨i, by omega⟩ ⟨k, by omega⟩ h1
  rw [Int.natCast_add, pow_nat] at this
  exact this
theorem andNot_mask {m : Int} {i : Nat} (hm : 0 ≤ m ∧ m < 2 ^ i) (hi : i ≤ 8) : bits .andNot .i64 (m + 2 ^ i) ((2 : Int) ^ i) = m := by
  obtain ⟨k, rfl⟩ := Int.eq_ofNat_of_zero_le hm.1
  have h1 : k < 2 ^ i := by have := hm.2; rw [← pow_nat] at this; omega
  have h2 : 2 ^ i ≤ 2 ^ 8 := Nat.pow_le_pow_right (by decide) hi
  have := andNot_dec ⟨i, by omega⟩ ⟨k, by omega⟩ h1
  rw [Int.natCast_add, pow_nat] at this
  exact this
theorem and1 {n : Int} (h : 0 ≤ n ∧ n < 512) : bits .and .i64 n 1 = n % 2 := by
  obtain ⟨k, rfl⟩ := Int.eq_ofNat_of_zero_le h.1
  have := and1_dec ⟨k, by omega⟩
  rw [show ((k : Nat) : Int) % 2 = ((k % 2 : Nat) : Int) by omega]
  exact this
/-- The members of a set. -/
def memB (m : Int) (n : Nat) : List Int := ((List.range n).filter fun j => decide (m / 2 ^ j % 2 = 1)).map fun j : Nat => (j : Int)
theorem memB_succ (m : Int) (n : Nat) : memB m (n + 1) = memB m n ++ (if m / 2 ^ n % 2 = 1 then [(n : Int)] else []) := by
  unfold memB
  rw [List.range_succ, List.filter_append, List.map_append]
  congr 1
  by_cases h : m / 2 ^ n % 2 = 1
  · simp [h]
  · simp [h]
theorem memB_len (m : Int) (n : Nat) : (memB m n).length ≤ n := by
  unfold memB
  rw [List.length_map]
  exact Nat.le_trans (List.length_filter_le _ _) (by simp)
theorem memB_mask (P : List Int) (k : Int) : memB (maskO P P.length k) P.length = onL P k := by
  unfold memB onL
  congr 1
  refine List.filter_congr fun j hj => ?_
  rw [maskO_bit P k j P.length (List.mem_range.1 hj)]
  by_cases h : P.getD j 0 = k
  · rw [if_pos h, h]
    simp
  · rw [if_neg h, decide_eq_false h]
    rfl
theorem memB_end {m : Int} (hm : 0 ≤ m) {n : Nat} (h : m / 2 ^ n ≤ 0) : ∀ d, memB m (n + d) = memB m n
  | 0 => rfl
  | d + 1 => by
    rw [show n + (d + 1) = n + d + 1 from rfl, memB_succ, memB_end hm h d]
    have p : (0 : Int) < 2 ^ n := Int.pow_pos (by decide)
    have q : (0 : Int) < 2 ^ d := Int.pow_pos (by decide)
    have h0 : m / 2 ^ n = 0 := by have := Int.ediv_nonneg hm (Int.le_of_lt p); omega
    have : m / 2 ^ (n + d) = 0 := by
      rw [Int.pow_add, ← Int.ediv_ediv_of_nonneg (Int.le_of_lt p), h0, Int.zero_ediv]
    rw [this, if_neg (by decide), List.append_nil]
theorem memB_up {m : Int} {n : Nat} (hm : 0 ≤ m ∧ m < 2 ^ n) : ∀ {d}, n ≤ d → memB m d = memB m n := fun {d} h => by
  have := memB_end hm.1 (n := n) (by rw [Int.ediv_eq_zero_of_lt hm.1 hm.2]; exact Int.le_refl 0) (d - n)
  rw [show n + (d - n) = d by omega] at this
  exact this
theorem e100 : EntersF Tryd.prog 100 := enters_of Tryd.func100 (c := bodyOf Tryd.f100) (by kernel_rfl) rfl
theorem s88 (m : Int) : HSpec Tryd.prog 83 [I m] [] (fun r m' => r = .x (.one (.fn 100 [(0, 0)])) ∧ m' = [some (.box 3 [.int .i64 m])]) := by
  refine spec_of pMix (O := []) Tryd.func83 (c := bodyOf Tryd.f83) rfl (by kernel_rfl) (by kernel_rfl) Tryd.ntmps83 (res := [.tmp 2]) (by kernel_rfl) ?_
  repeat' ((conv => whnf); first | refine Rng.g ?_ | refine Ob.g ?_ | refine Ob.e ?_ | refine Ob.m ?_ | refine Ob.mk (Nat.le_of_ble_eq_true rfl) ?_ | refine JoinVC.on ?_ | refine Nils.mk (fun h => ?_) ?_ | refine Val.t ?_ | refine Val.d ?_ | refine Mm.mk ?_ | (refine Br.mk (fun h => ?_) (fun h => ?_) <;> first | (exfalso; omega; done) | (exfalso; simp at h; done) | skip))
  repeat refine Mm.mk ?_
  conv => whnf
  refine EndVC.mk _ rfl _ _ (⟨rfl, rfl⟩) ?_
  refine ⟨[some 0], rfl, rfl, ?_, ?_⟩ <;> repeat' (first | exact trivial | exact rfl | exact Iff.rfl | apply And.intro)
noncomputable def rf112 : Code := cB (cS (cF (cS (bodyOf Tryd.f99))))
theorem s112 (m : Int) (hm : 0 ≤ m ∧ m < 512) : HSpec Tryd.prog 99 [.one .nils, .one (.fn 100 [(0, 0)])] [.box 3 [.int .i64 m]] (fun r m' => r = .x (.one (.own 1)) ∧ m' = [some (.box 3 [.int .i64 m]), some (rowOd (memB m 9))]) := by
  refine spec_of pMix (O := []) Tryd.func99 (c := bodyOf Tryd.f99) rfl (by kernel_rfl) (by kernel_rfl) Tryd.ntmps99 (res := [.tmp 4]) (by kernel_rfl) ?_
  repeat' ((conv => whnf); first | refine Rng.g ?_ | refine Ob.g ?_ | refine Ob.e ?_ | refine Ob.m ?_ | refine Ob.mk (Nat.le_of_ble_eq_true rfl) ?_ | refine JoinVC.on ?_ | refine Nils.mk (fun h => ?_) ?_ | refine Val.t ?_ | refine Val.d ?_ | refine Mm.mk ?_ | (refine Br.mk (fun h => ?_) (fun h => ?_) <;> first | (exfalso; omega; done) | (exfalso; simp at h; done) | skip))
  change RangeVC _ _ _ _ _
  refine RangeVC.mk e100 (isem_of_awp pMix [] Tryd.func100 (c := bodyOf Tryd.f100) rfl (by kernel_rfl) Tryd.ntmps100 (by kernel_rfl) ?_)
  repeat' ((conv => whnf); first | refine Rng.g ?_ | refine Ob.g ?_ | refine Ob.e ?_ | refine Ob.m ?_ | refine Ob.mk (Nat.le_of_ble_eq_true rfl) ?_ | refine JoinVC.on ?_ | refine Nils.mk (fun h => ?_) ?_ | refine Val.t ?_ | refine Val.d ?_ | refine Mm.mk ?_ | (refine Br.mk (fun h => ?_) (fun h => ?_) <;> first | (exfalso; omega; done) | (exfalso; simp at h; done) | skip))
  refine LoopVC.mk (fun n st => ∃ (i : Nat), i ≤ 9 ∧ n = 9 - i ∧ st = ⟨3, envA 21 [(0, .x (.one (.yld 2))), (1, .x (.one (.ptr 0 0))), (3, .int .i64 (i : Int))], [some (.box 3 [.int .i64 m]), some (.box 55 [.own 3]), some (.loop [7] (cAs rf112) (cBo rf112) (envA 13 [(2, .x (.one (.ptr 1 0)))]) .ready), some (rowOd (memB m i))]⟩) _ _ ⟨0, by omega, rfl, rfl⟩ ?_ ?_
  · refine ⟨[some 0, some 1, some 2, none], rfl, rfl, ?_, ?_⟩ <;> repeat' (first | exact trivial | exact rfl | exact Iff.rfl | apply And.intro)
  rintro n _ ⟨i, hi, hn, rfl⟩
  have lm := memB_len m i
  have lmi := i64s_len (memB m i)
  have p : (0 : Int) < 2 ^ i := Int.pow_pos (by decide)
  have h0 : 0 ≤ m / 2 ^ i := Int.ediv_nonneg hm.1 (Int.le_of_lt p)
  have h1 : m / 2 ^ i ≤ m := Int.ediv_le_self _ hm.1
  have hb64 : ((IntKind.i64.bits : Nat) : Int) = 64 := rfl
  have he := fun hz => memB_end hm.1 (n := i) hz (9 - i)
  rw [show i + (9 - i) = 9 by omega] at he
  have hs := memB_succ m i
  have hz9 : i = 9 → m / 2 ^ i ≤ 0 := fun e => by
    subst e
    have e9 : (2 : Int) ^ 9 = 512 := by decide
    have : m / 2 ^ 9 = 0 := Int.ediv_eq_zero_of_lt hm.1 (by omega)
    omega
  obtain ⟨q, hq⟩ : ∃ q, m / 2 ^ i = q := ⟨_, rfl⟩
  have hv : m / 2 ^ (i : Int).toNat = q := by rw [Int.toNat_natCast]; exact hq
  rw [hq] at he hs hz9 h0 h1
  repeat' ((conv => whnf); first | refine Rng.g ?_ | refine Ob.g ?_ | refine Ob.e ?_ | refine Ob.m ?_ | refine Ob.mk (Nat.le_of_ble_eq_true rfl) ?_ | refine JoinVC.on ?_ | refine Nils.mk (fun h => ?_) ?_ | refine Val.t ?_ | refine Val.d ?_ | refine Mm.mk ?_ | (refine Br.mk (fun h => ?_) (fun h => ?_) <;> first | (exfalso; omega; done) | (exfalso; simp at h; done) | skip))
  conv => whnf
  refine Val.mk (q) (hv) ?_
  by_cases hz : q ≤ 0
  · rw [← he hz]
    repeat' ((conv => whnf); first | refine Rng.g ?_ | refine Ob.g ?_ | refine Ob.e ?_ | refine Ob.m ?_ | refine Ob.mk (Nat.le_of_ble_eq_true rfl) ?_ | refine JoinVC.on ?_ | refine Nils.mk (fun h => ?_) ?_ | refine Val.t ?_ | refine Val.d ?_ | refine Mm.mk ?_ | (refine Br.mk (fun h => ?_) (fun h => ?_) <;> first | (exfalso; omega; done) | (exfalso; simp at h; done) | skip))
    repeat refine Mm.mk ?_
    refine EndVC.mk _ rfl _ _ ⟨rfl, rfl⟩ ?_
    refine ⟨[some 0, some 3], rfl, rfl, ?_, ?_⟩ <;> repeat' (first | exact trivial | exact rfl | exact Iff.rfl | apply And.intro)
  have hi9 : i < 9 := by
    refine Classical.byContradiction fun hc => hz (hz9 (by omega))
  repeat' ((conv => whnf); first | refine Rng.g ?_ | refine Ob.g ?_ | refine Ob.e ?_ | refine Ob.m ?_ | refine Ob.mk (Nat.le_of_ble_eq_true rfl) ?_ | refine JoinVC.on ?_ | refine Nils.mk (fun h => ?_) ?_ | refine Val.t ?_ | refine Val.d ?_ | refine Mm.mk ?_ | (refine Br.mk (fun h => ?_) (fun h => ?_) <;> first | (exfalso; omega; done) | (exfalso; simp at h; done) | skip))
  conv => whnf
  refine Val.mk (q) (hv) ?_
  repeat' ((conv => whnf); first | refine Rng.g ?_ | refine Ob.g ?_ | refine Ob.e ?_ | refine Ob.m ?_ | refine Ob.mk (Nat.le_of_ble_eq_true rfl) ?_ | refine JoinVC.on ?_ | refine Nils.mk (fun h => ?_) ?_ | refine Val.t ?_ | refine Val.d ?_ | refine Mm.mk ?_ | (refine Br.mk (fun h => ?_) (fun h => ?_) <;> first | (exfalso; omega; done) | (exfalso; simp at h; done) | skip))
  conv => whnf
  refine Val.mk ((q%2)) ((and1 (by omega))) ?_
  by_cases hb : q % 2 = 1
  · rw [if_pos hb] at hs
    repeat' ((conv => whnf); first | refine Rng.g ?_ | refine Ob.g ?_ | refine Ob.e ?_ | refine Ob.m ?_ | refine Ob.mk (Nat.le_of_ble_eq_true rfl) ?_ | refine JoinVC.on ?_ | refine Nils.mk (fun h => ?_) ?_ | refine Val.t ?_ | refine Val.d ?_ | refine Mm.mk ?_ | refine YieldVC.mk (rsem_of_awp pMix [] rfl (by kernel_rfl) ?_) | (refine Br.mk (fun h => ?_) (fun h => ?_) <;> first | (exfalso; omega; done) | (exfalso; simp at h; done) | skip))
    repeat refine Mm.mk ?_
    refine Ob.mk (by rw [eb3]; simp only [List.length_cons, List.length_nil]; omega) ?_
    repeat' ((conv => whnf); first | refine Rng.g ?_ | refine Ob.g ?_ | refine Ob.e ?_ | refine Ob.m ?_ | refine Ob.mk (Nat.le_of_ble_eq_true rfl) ?_ | refine JoinVC.on ?_ | refine Nils.mk (fun h => ?_) ?_ | refine Val.t ?_ | refine Val.d ?_ | refine Mm.mk ?_ | (refine Br.mk (fun h => ?_) (fun h => ?_) <;> first | (exfalso; omega; done) | (exfalso; simp at h; done) | skip))
    refine Back.mk (9 - (i + 1)) _ (by omega) ⟨i + 1, by omega, rfl, rfl⟩ ?_
    rw [hs]
    refine ⟨[some 0, some 1, some 2, some 5], rfl, rfl, ?_, ?_⟩ <;> repeat' (first | exact trivial | exact rfl | exact Iff.rfl | apply And.intro)
    exact (i64s_snoc _ _).symm
  · rw [if_neg hb, List.append_nil] at hs
    repeat' ((conv => whnf); first | refine Rng.g ?_ | refine Ob.g ?_ | refine Ob.e ?_ | refine Ob.m ?_ | refine Ob.mk (Nat.le_of_ble_eq_true rfl) ?_ | refine JoinVC.on ?_ | refine Nils.mk (fun h => ?_) ?_ | refine Val.t ?_ | refine Val.d ?_ | refine Mm.mk ?_ | (refine Br.mk (fun h => ?_) (fun h => ?_) <;> first | (exfalso; omega; done) | (exfalso; simp at h; done) | skip))
    refine Back.mk (9 - (i + 1)) _ (by omega) ⟨i + 1, by omega, rfl, rfl⟩ ?_
    rw [hs]
    refine ⟨[some 0, some 1, some 2, some 3], rfl, rfl, ?_, ?_⟩ <;> repeat' (first | exact trivial | exact rfl | exact Iff.rfl | apply And.intro)
theorem s87 (m : Int) (hm : 0 ≤ m ∧ m < 512) : HSpec Tryd.prog 82 [.one (.fn 100 [(0, 0)])] [.box 3 [.int .i64 m]] (fun r m' => r = .x (.one (.own 1)) ∧ m' = [some (.box 3 [.int .i64 m]), some (rowOd (memB m 9))]) := by
  refine spec_of pMix (O := []) Tryd.func82 (c := bodyOf Tryd.f82) rfl (by kernel_rfl) (by kernel_rfl) Tryd.ntmps82 (res := [.tmp 2]) (by kernel_rfl) ?_
  repeat' ((conv => whnf); first | refine Rng.g ?_ | refine Ob.g ?_ | refine Ob.e ?_ | refine Ob.m ?_ | refine Ob.mk (Nat.le_of_ble_eq_true rfl) ?_ | refine JoinVC.on ?_ | refine Nils.mk (fun h => ?_) ?_ | refine Val.t ?_ | refine Val.d ?_ | refine Mm.mk ?_ | (refine Br.mk (fun h => ?_) (fun h => ?_) <;> first | (exfalso; omega; done) | (exfalso; simp at h; done) | skip))
  conv => whnf
  refine CallVC.mk [0] _ _ _ rfl rfl rfl (s112 m hm) (fun r m' h' => ?_)
  obtain ⟨rfl, rfl⟩ := h'
  conv => whnf
  repeat' ((conv => whnf); first | refine Rng.g ?_ | refine Ob.g ?_ | refine Ob.e ?_ | refine Ob.m ?_ | refine Ob.mk (Nat.le_of_ble_eq_true rfl) ?_ | refine JoinVC.on ?_ | refine Nils.mk (fun h => ?_) ?_ | refine Val.t ?_ | refine Val.d ?_ | refine Mm.mk ?_ | (refine Br.mk (fun h => ?_) (fun h => ?_) <;> first | (exfalso; omega; done) | (exfalso; simp at h; done) | skip))
  repeat refine Mm.mk ?_
  refine EndVC.mk _ rfl _ _ ⟨rfl, rfl⟩ ?_
  refine ⟨[some 0, some 1], rfl, rfl, ?_, ?_⟩ <;> repeat' (first | exact trivial | exact rfl | exact Iff.rfl | apply And.intro)
open Classical in
theorem s78 (f : Fmt) (l : List Sng) (m : Int) (hf : FmtOK f) (hg : SngsOK l) (hm : 0 ≤ m ∧ m < 512) (hO : OrdOK l.length (memB m 9)) : HSpec Tryd.prog 73 [.one (.ptr 0 0), I m] [bPl f l] (fun r m' => r = xP (LayOK f l (usu l (memB m 9))) ∧ m' = [some (bPl f l)]) := by
  have lm := memB_len m 9
  refine spec_of pMix (O := []) Tryd.func73 (c := bodyOf Tryd.f73) rfl (by kernel_rfl) (by kernel_rfl) Tryd.ntmps73 (res := [.tmp 4]) (by kernel_rfl) ?_
  repeat' ((conv => whnf); first | refine Rng.g ?_ | refine Ob.g ?_ | refine Ob.e ?_ | refine Ob.m ?_ | refine Ob.mk (Nat.le_of_ble_eq_true rfl) ?_ | refine JoinVC.on ?_ | refine Nils.mk (fun h => ?_) ?_ | refine Val.t ?_ | refine Val.d ?_ | refine Mm.mk ?_ | (refine Br.mk (fun h => ?_) (fun h => ?_) <;> first | (exfalso; omega; done) | (exfalso; simp at h; done) | skip))
  conv => whnf
  refine CallVC.mk [] _ _ _ rfl rfl rfl (s88 m) (fun r m' h' => ?_)
  obtain ⟨rfl, rfl⟩ := h'
  conv => whnf
  repeat' ((conv => whnf); first | refine Rng.g ?_ | refine Ob.g ?_ | refine Ob.e ?_ | refine Ob.m ?_ | refine Ob.mk (Nat.le_of_ble_eq_true rfl) ?_ | refine JoinVC.on ?_ | refine Nils.mk (fun h => ?_) ?_ | refine Val.t ?_ | refine Val.d ?_ | refine Mm.mk ?_ | (refine Br.mk (fun h => ?_) (fun h => ?_) <;> first | (exfalso; omega; done) | (exfalso; simp at h; done) | skip))
  conv => whnf
  refine CallVC.mk [1] _ _ _ rfl rfl rfl (s87 m hm) (fun r m' h' => ?_)
  obtain ⟨rfl, rfl⟩ := h'
  conv => whnf
  repeat' ((conv => whnf); first | refine Rng.g ?_ | refine Ob.g ?_ | refine Ob.e ?_ | refine Ob.m ?_ | refine Ob.mk (Nat.le_of_ble_eq_true rfl) ?_ | refine JoinVC.on ?_ | refine Nils.mk (fun h => ?_) ?_ | refine Val.t ?_ | refine Val.d ?_ | refine Mm.mk ?_ | (refine Br.mk (fun h => ?_) (fun h => ?_) <;> first | (exfalso; omega; done) | (exfalso; simp at h; done) | skip))
  conv => whnf
  refine CallVC.mk [0, 2] _ _ _ rfl rfl rfl (s45u f l (memB m 9) hO (by omega)) (fun r m' h' => ?_)
  obtain ⟨rfl, rfl⟩ := h'
  conv => whnf
  repeat' ((conv => whnf); first | refine Rng.g ?_ | refine Ob.g ?_ | refine Ob.e ?_ | refine Ob.m ?_ | refine Ob.mk (Nat.le_of_ble_eq_true rfl) ?_ | refine JoinVC.on ?_ | refine Nils.mk (fun h => ?_) ?_ | refine Val.t ?_ | refine Val.d ?_ | refine Mm.mk ?_ | (refine Br.mk (fun h => ?_) (fun h => ?_) <;> first | (exfalso; omega; done) | (exfalso; simp at h; done) | skip))
  conv => whnf
  refine CallVC.mk [] _ _ _ rfl rfl rfl (s47p f l (usu l (memB m 9)) hf hg (usu_ord hO).rng (by rw [usu_len]; omega)) (fun r m' h' => ?_)
  obtain ⟨rfl, rfl⟩ := h'
  conv => whnf
  repeat' ((conv => whnf); first | refine Rng.g ?_ | refine Ob.g ?_ | refine Ob.e ?_ | refine Ob.m ?_ | refine Ob.mk (Nat.le_of_ble_eq_true rfl) ?_ | refine JoinVC.on ?_ | refine Nils.mk (fun h => ?_) ?_ | refine Val.t ?_ | refine Val.d ?_ | refine Mm.mk ?_ | (refine Br.mk (fun h => ?_) (fun h => ?_) <;> first | (exfalso; omega; done) | (exfalso; simp at h; done) | skip))
  repeat refine Mm.mk ?_
  refine EndVC.mk _ rfl _ _ ⟨rfl, rfl⟩ ?_
  refine ⟨[some 0], rfl, rfl, ?_, ?_⟩ <;> repeat' (first | exact trivial | exact rfl | exact Iff.rfl | apply And.intro)
end Go.Sx

namespace Go.Sx
open Go Go.Proofs
set_option maxRecDepth 10000
set_option maxHeartbeats 16000000
/-! ### The search for a packing -/
def setsO (on : List Int) (sides : Nat) : List Int := (List.range sides).map fun k : Nat => maskO on on.length (k : Int)
theorem setsO_len (on : List Int) (sides : Nat) : (setsO on sides).length = sides := by simp [setsO]
theorem setsO_get (on : List Int) (sides k : Nat) (h : k < sides) : (setsO on sides).getD k 0 = maskO on on.length (k : Int) := by
  simp [setsO, List.getD_eq_getElem?_getD, h]
theorem mask_snoc (on : List Int) (x k : Int) : maskO (on ++ [x]) (on ++ [x]).length k = maskO on on.length k + (if x = k then 2 ^ on.length else 0) := by
  rw [List.length_append, List.length_singleton]
  show maskO (on ++ [x]) on.length k + (if (on ++ [x]).getD on.length 0 = k then 2 ^ on.length else 0) = _
  rw [getD_app_eq, maskO_congr (P := on ++ [x]) (Q := on) k on.length fun j hj => getD_app_lt on x hj]
theorem setsO_snoc (on : List Int) (sides k : Nat) (h : k < sides) : (setsO on sides).set k (maskO on on.length (k : Int) + 2 ^ on.length) = setsO (on ++ [(k : Int)]) sides := by
  refine list_ext_getD (by rw [List.length_set, setsO_len, setsO_len]) fun j hj => ?_
  rw [List.length_set, setsO_len] at hj
  rw [gset _ _ _ _ _ (by rw [setsO_len]; exact h), setsO_get (on ++ [(k : Int)]) _ _ hj, mask_snoc]
  split
  · rename_i e
    rw [e, if_pos rfl]
  · rename_i e
    rw [setsO_get _ _ _ hj, if_neg (fun e2 => e (by omega)), Int.add_zero]
theorem setsO_back (on : List Int) (sides k : Nat) (h : k < sides) : (setsO (on ++ [(k : Int)]) sides).set k (maskO on on.length (k : Int)) = setsO on sides := by
  rw [← setsO_snoc on sides k h, List.set_set]
  refine list_ext_getD (by rw [List.length_set]) fun j hj => ?_
  rw [List.length_set, setsO_len] at hj
  rw [gset _ _ _ _ _ (by rw [setsO_len]; exact h)]
  split
  · rename_i e
    rw [e, setsO_get _ _ _ h]
  · rfl
@[reducible] def capsN : List (Nat × Nat) := [(0, 0), (1, 0), (2, 0), (3, 0), (4, 0)]
@[reducible] noncomputable def Mpk (f : Fmt) (l : List Sng) (sides : Nat) (n : Nat) (S A : List Int) : List (Option Blk) := [some (.box 55 [.vw 8 Tryd.t3.size 0 n true]), some (.box 73 [.ptr 5 0]), some (.box 3 [.int .i64 (sides : Int)]), some (.box 55 [.own 6]), some (.box 128 [.fn 72 capsN]), some (bPl f l), some (rowOd S), none, some (rowOd A)]
@[reducible] def argN (used : Nat) : List XV := [I (used : Int), .one (.ptr 0 0), .one (.ptr 1 0), .one (.ptr 2 0), .one (.ptr 3 0), .one (.ptr 4 0)]
structure PkRs (f : Fmt) (l : List Sng) (sides d : Nat) (on : List Int) (used : Nat) (b : Bool) (n : Nat) (S A : List Int) : Prop where
  le : n ≤ A.length
  sl : S.length = sides
  yes : b = true → pkF f l sides d on used = some (A.take n)
  no : b = false → pkF f l sides d on used = none ∧ n = on.length ∧ A.take n = on ∧ S = setsO on sides
theorem s77 (f : Fmt) (l : List Sng) (hf : FmtOK f) (hg : SngsOK l) (h8 : l.length ≤ 8) (sides : Nat) (hs : sides ≤ 8) : ∀ (d : Nat) (on : List Int) (used : Nat), on.length + d = l.length → used ≤ sides → HSpec Tryd.prog 72 (argN used) [.box 55 [.own 7], .box 73 [.ptr 5 0], .box 3 [.int .i64 (sides : Int)], .box 55 [.own 6], .box 128 [.fn 72 capsN], bPl f l, rowOd (setsO on sides), rowOd on] (fun r m' => ∃ b n S A, PkRs f l sides d on used b n S A ∧ r = .x (.one (.bool b)) ∧ m' = Mpk f l sides n S A)
  | 0, on, used, hlen, hu => by
    have ll := sngA_len l
    have lo := i64s_len on
    refine spec_of pMix (O := []) Tryd.func72 (c := bodyOf Tryd.f72) rfl (by kernel_rfl) (by kernel_rfl) Tryd.ntmps72 (res := [.tmp 7]) (by kernel_rfl) ?_
    repeat' ((conv => whnf); first | refine Rng.g ?_ | refine Ob.g ?_ | refine Ob.e ?_ | refine Ob.m ?_ | refine Ob.mk (Nat.le_of_ble_eq_true rfl) ?_ | refine JoinVC.on ?_ | refine Nils.mk (fun h => ?_) ?_ | refine Val.t ?_ | refine Val.d ?_ | refine Mm.mk ?_ | (refine Br.mk (fun h => ?_) (fun h => ?_) <;> first | (exfalso; omega; done) | (exfalso; simp at h; done) | skip))
    repeat refine Mm.mk ?_
    conv => whnf
    refine EndVC.mk _ rfl _ _ (⟨decide (used = sides), on.length, setsO on sides, on, ⟨Nat.le_refl _, setsO_len _ _, fun h => (by rw [List.take_length]; exact if_pos (of_decide_eq_true h)), fun h => ⟨if_neg (of_decide_eq_false h), rfl, List.take_length, rfl⟩⟩, rfl, rfl⟩) ?_
    refine ⟨[some 0, some 1, some 2, some 3, some 4, some 5, some 6, none, some 7], rfl, rfl, ?_, ?_⟩ <;> repeat' (first | exact trivial | exact rfl | exact Iff.rfl | apply And.intro)
    · exact decide_eq_decide.2 ⟨fun h => (by omega), fun h => (by omega)⟩
    · exact lo.symm
  | d + 1, on, used, hlen, hu => by
    have ih := s77 f l hf hg h8 sides hs d
    have ll := sngA_len l
    have lo := i64s_len on
    have hm1 := Nat.min_le_left (used + 1) sides
    have hm2 := Nat.min_le_right (used + 1) sides
    have hmin : (if (sides : Int) < (used : Int) + 1 then (sides : Int) else (used : Int) + 1) = ((min (used + 1) sides : Nat) : Int) := by
      rw [Nat.min_def]
      split <;> split <;> omega
    obtain ⟨K, hK⟩ : ∃ K, min (used + 1) sides = K := ⟨_, rfl⟩
    rw [hK] at hm1 hm2 hmin
    obtain ⟨g, hgd⟩ : ∃ g : Nat → Option (List Int), g = fun k : Nat => @ite _ (sideOK f l (on ++ [(k : Int)]) k) (Classical.propDecidable _) (pkF f l sides d (on ++ [(k : Int)]) (max used (k + 1))) none := ⟨_, rfl⟩
    have hpk : pkF f l sides (d + 1) on used = fsO g K := by rw [hgd, ← hK]; rfl
    refine spec_of pMix (O := []) Tryd.func72 (c := bodyOf Tryd.f72) rfl (by kernel_rfl) (by kernel_rfl) Tryd.ntmps72 (res := [.tmp 7]) (by kernel_rfl) ?_
    repeat' ((conv => whnf); first | refine Rng.g ?_ | refine Ob.g ?_ | refine Ob.e ?_ | refine Ob.m ?_ | refine Ob.mk (Nat.le_of_ble_eq_true rfl) ?_ | refine JoinVC.on ?_ | refine Nils.mk (fun h => ?_) ?_ | refine Val.t ?_ | refine Val.d ?_ | refine Mm.mk ?_ | (refine Br.mk (fun h => ?_) (fun h => ?_) <;> first | (exfalso; omega; done) | (exfalso; simp at h; done) | skip))
    refine LoopVC.mk (fun n st => ∃ (k : Nat) (A : List Int), k ≤ K ∧ n = K - k ∧ (∀ j, j < k → g j = none) ∧ on.length ≤ A.length ∧ A.take on.length = on ∧ st = ⟨8, envA 69 [(0, .int .i64 (used : Int)), (1, .x (.one (.ptr 0 0))), (2, .x (.one (.ptr 1 0))), (3, .x (.one (.ptr 2 0))), (4, .x (.one (.ptr 3 0))), (5, .x (.one (.ptr 4 0))), (8, .int .i64 (on.length : Int)), (25, .int .i64 (K : Int)), (26, .int .i64 (k : Int))], Mpk f l sides on.length (setsO on sides) A⟩) _ _ ⟨0, on, Nat.zero_le _, rfl, fun j hj => absurd hj (Nat.not_lt_zero j), Nat.le_refl _, List.take_length, rfl⟩ ?_ ?_
    · refine ⟨[some 0, some 1, some 2, some 3, some 4, some 5, some 6, none, some 7], rfl, rfl, ?_, ?_⟩ <;> repeat' (first | exact trivial | exact rfl | exact Iff.rfl | apply And.intro)
      · exact congrArg Int.ofNat lo
      · exact hmin
      · exact lo.symm
    rintro n _ ⟨k, A, hk, hn, hno, hA1, hA2, rfl⟩
    have lA := i64s_len A
    have lS := setsO_len on sides
    have lSi := i64s_len (setsO on sides)
    by_cases hk' : k < K
    rotate_left
    · have ek : k = K := by omega
      subst ek
      have hres : pkF f l sides (d + 1) on used = none := by rw [hpk]; exact fsO_none.2 hno
      repeat' ((conv => whnf); first | refine Rng.g ?_ | refine Ob.g ?_ | refine Ob.e ?_ | refine Ob.m ?_ | refine Ob.mk (Nat.le_of_ble_eq_true rfl) ?_ | refine JoinVC.on ?_ | refine Nils.mk (fun h => ?_) ?_ | refine Val.t ?_ | refine Val.d ?_ | refine Mm.mk ?_ | (refine Br.mk (fun h => ?_) (fun h => ?_) <;> first | (exfalso; omega; done) | (exfalso; simp at h; done) | skip))
      repeat refine Mm.mk ?_
      conv => whnf
      refine EndVC.mk _ rfl _ _ (⟨false, on.length, setsO on sides, A, ⟨hA1, lS, fun h => (by cases h), fun _ => ⟨hres, rfl, hA2, rfl⟩⟩, rfl, rfl⟩) ?_
      refine ⟨[some 0, some 1, some 2, some 3, some 4, some 5, some 6, none, some 8], rfl, rfl, ?_, ?_⟩ <;> repeat' (first | exact trivial | exact rfl | exact Iff.rfl | apply And.intro)
    have hb := maskO_bd on (k : Int) on.length
    have hsk : rI (i64s (setsO on sides)) (k : Int).toNat 0 = maskO on on.length (k : Int) := by rw [Int.toNat_natCast]; exact (i64s_get _ k).trans (setsO_get on sides k (by omega))
    have hb64 : ((IntKind.i64.bits : Nat) : Int) = 64 := rfl
    have hsn := setsO_snoc on sides k (by omega)
    have hbk := setsO_back on sides k (by omega)
    have hms := mask_snoc on (k : Int) (k : Int)
    rw [if_pos rfl] at hms
    have hmem := memB_mask (on ++ [(k : Int)]) (k : Int)
    have hlen2 : (on ++ [(k : Int)]).length = on.length + 1 := by rw [List.length_append, List.length_singleton]
    have hbd2 := maskO_bd (on ++ [(k : Int)]) (k : Int) (on ++ [(k : Int)]).length
    rw [hms] at hmem hbd2
    have h9 := memB_up (m := maskO on on.length (k : Int) + 2 ^ on.length) hbd2 (d := 9) (by omega)
    rw [hmem] at h9
    have hOk : OrdOK l.length (onL (on ++ [(k : Int)]) (k : Int)) := (onL_ord _ _).up (by omega)
    rw [← h9] at hOk
    have hpw : (2 : Int) ^ on.length ≤ 256 := by
      have h1 : 2 ^ on.length ≤ 2 ^ 8 := Nat.pow_le_pow_right (by decide) (by omega)
      have h2 := pow_nat on.length
      omega
    have hor := or_mask hb (by omega)
    have hnt := andNot_mask hb (by omega)
    have hsd : sideOK f l (on ++ [(k : Int)]) (k : Int) ↔ LayOK f l (usu l (memB (maskO on on.length (k : Int) + 2 ^ on.length) 9)) := by rw [h9]; exact Iff.rfl
    obtain ⟨w, hw⟩ : ∃ w : Int, 2 ^ on.length = w := ⟨_, rfl⟩
    obtain ⟨m, hm⟩ : ∃ m, maskO on on.length (k : Int) = m := ⟨_, rfl⟩
    rw [hw] at hb hsn hpw hor hnt hsd hOk
    rw [hm] at hb hsk hsn hbk hor hnt hsd hOk
    have hsh : 1 * 2 ^ (on.length : Int).toNat = w := by rw [Int.toNat_natCast, Int.one_mul]; exact hw
    have c78 := s78 f l (m + w) hf hg (by omega) hOk
    repeat' ((conv => whnf); first | rw [hsk] | refine Rng.g ?_ | refine Ob.g ?_ | refine Ob.e ?_ | refine Ob.m ?_ | refine Ob.mk (Nat.le_of_ble_eq_true rfl) ?_ | refine JoinVC.on ?_ | refine Nils.mk (fun h => ?_) ?_ | refine Val.t ?_ | refine Val.d ?_ | refine Mm.mk ?_ | (refine Br.mk (fun h => ?_) (fun h => ?_) <;> first | (exfalso; omega; done) | (exfalso; simp at h; done) | skip))
    conv => whnf
    refine Val.mk (w) (hsh) ?_
    repeat' ((conv => whnf); first | rw [hsk] | refine Rng.g ?_ | refine Ob.g ?_ | refine Ob.e ?_ | refine Ob.m ?_ | refine Ob.mk (Nat.le_of_ble_eq_true rfl) ?_ | refine JoinVC.on ?_ | refine Nils.mk (fun h => ?_) ?_ | refine Val.t ?_ | refine Val.d ?_ | refine Mm.mk ?_ | (refine Br.mk (fun h => ?_) (fun h => ?_) <;> first | (exfalso; omega; done) | (exfalso; simp at h; done) | skip))
    conv => whnf
    refine Val.mk ((m+w)) (hor) ?_
    repeat' ((conv => whnf); first | refine Rng.g ?_ | refine Ob.g ?_ | refine Ob.e ?_ | refine Ob.m ?_ | refine Ob.mk (Nat.le_of_ble_eq_true rfl) ?_ | refine JoinVC.on ?_ | refine Nils.mk (fun h => ?_) ?_ | refine Val.t ?_ | refine Val.d ?_ | refine Mm.mk ?_ | (refine Br.mk (fun h => ?_) (fun h => ?_) <;> first | (exfalso; omega; done) | (exfalso; simp at h; done) | skip))
    conv => whnf
    refine CallVC.mk [5] _ _ _ rfl rfl rfl (c78) (fun r m' h' => ?_)
    obtain ⟨rfl, rfl⟩ := h'
    conv => whnf
    repeat refine Mm.mk ?_
    try refine JoinVC.on ?_
    refine Br.mk (fun hL => ?_) (fun hL => ?_)
    · have hgk : g k = none := by rw [hgd]; exact if_neg fun h => hL (hsd.1 h)
      repeat' ((conv => whnf); first | refine Rng.g ?_ | refine Ob.g ?_ | refine Ob.e ?_ | refine Ob.m ?_ | refine Ob.mk (Nat.le_of_ble_eq_true rfl) ?_ | refine JoinVC.on ?_ | refine Nils.mk (fun h => ?_) ?_ | refine Val.t ?_ | refine Val.d ?_ | refine Mm.mk ?_ | (refine Br.mk (fun h => ?_) (fun h => ?_) <;> first | (exfalso; omega; done) | (exfalso; simp at h; done) | skip))
      refine Back.mk (K - (k + 1)) _ (by omega) ⟨k + 1, A, by omega, rfl, fun j hj => ?_, hA1, hA2, rfl⟩ ?_
      · rcases Nat.lt_succ_iff_lt_or_eq.1 hj with h' | rfl
        · exact hno j h'
        · exact hgk
      · refine ⟨[some 0, some 1, some 2, some 3, some 4, some 5, some 6, none, some 8], rfl, rfl, ?_, ?_⟩ <;> repeat' (first | exact trivial | exact rfl | exact Iff.rfl | apply And.intro)
    have hL' := Classical.not_not.1 hL
    have hgk : g k = pkF f l sides d (on ++ [(k : Int)]) (max used (k + 1)) := by rw [hgd]; exact if_pos (hsd.2 hL')
    have hup : updRow (i64s (setsO on sides)) (k : Int).toNat 0 [Cell.int (m + w)] = i64s (setsO (on ++ [(k : Int)]) sides) := by
      rw [Int.toNat_natCast, ← hsn]
      exact i64s_upd' _ k _ (by omega)
    have hap : List.take on.length (i64s A) ++ [[Cell.int (k : Int)]] = i64s (on ++ [(k : Int)]) := by
      rw [i64s_take, hA2, i64s_snoc]
    have hmx : (if (used : Int) < (k : Int) + 1 then (k : Int) + 1 else (used : Int)) = ((max used (k + 1) : Nat) : Int) := by
      rw [Nat.max_def]
      split <;> split <;> omega
    repeat' ((conv => whnf); first | rw [hsk] | refine Rng.g ?_ | refine Ob.g ?_ | refine Ob.e ?_ | refine Ob.m ?_ | refine Ob.mk (Nat.le_of_ble_eq_true rfl) ?_ | refine JoinVC.on ?_ | refine Nils.mk (fun h => ?_) ?_ | refine Val.t ?_ | refine Val.d ?_ | refine Mm.mk ?_ | (refine Br.mk (fun h => ?_) (fun h => ?_) <;> first | (exfalso; omega; done) | (exfalso; simp at h; done) | skip))
    conv => whnf
    refine Val.mk (w) (hsh) ?_
    repeat' ((conv => whnf); first | rw [hsk] | refine Rng.g ?_ | refine Ob.g ?_ | refine Ob.e ?_ | refine Ob.m ?_ | refine Ob.mk (Nat.le_of_ble_eq_true rfl) ?_ | refine JoinVC.on ?_ | refine Nils.mk (fun h => ?_) ?_ | refine Val.t ?_ | refine Val.d ?_ | refine Mm.mk ?_ | (refine Br.mk (fun h => ?_) (fun h => ?_) <;> first | (exfalso; omega; done) | (exfalso; simp at h; done) | skip))
    conv => whnf
    refine Val.mk ((m+w)) (hor) ?_
    repeat' ((conv => whnf); first | rw [hup] | refine Rng.g ?_ | refine Ob.g ?_ | refine Ob.e ?_ | refine Ob.m ?_ | refine Ob.mk (Nat.le_of_ble_eq_true rfl) ?_ | refine JoinVC.on ?_ | refine Nils.mk (fun h => ?_) ?_ | refine Val.t ?_ | refine Val.d ?_ | refine Mm.mk ?_ | (refine Br.mk (fun h => ?_) (fun h => ?_) <;> first | (exfalso; omega; done) | (exfalso; simp at h; done) | skip))
    repeat refine Mm.mk ?_
    refine Ob.mk (by rw [eb3]; simp only [List.length_cons, List.length_nil]; omega) ?_
    repeat' ((conv => whnf); first | rw [hup] | rw [hap] | refine Rng.g ?_ | refine Ob.g ?_ | refine Ob.e ?_ | refine Ob.m ?_ | refine Ob.mk (Nat.le_of_ble_eq_true rfl) ?_ | refine JoinVC.on ?_ | refine Nils.mk (fun h => ?_) ?_ | refine Val.t ?_ | refine Val.d ?_ | (refine Br.mk (fun h => ?_) (fun h => ?_) <;> first | (exfalso; omega; done) | (exfalso; simp at h; done) | skip))
    conv => whnf
    rw [hmx]
    refine Mm.mk ?_
    conv => whnf
    refine CallVC.mk [0, 1, 2, 3, 4, 5, 6, 10] _ _ _ rfl rfl rfl (ih (on ++ [(k : Int)]) (max used (k + 1)) (by rw [hlen2]; omega) (Nat.max_le.2 ⟨hu, by omega⟩)) (fun r m' h' => ?_)
    obtain ⟨b, n', S', A', hR, rfl, rfl⟩ := h'
    conv => whnf
    have lA' := i64s_len A'
    have lS' := i64s_len S'
    have hsl := hR.sl
    cases b with
    | true =>
      have hres : pkF f l sides (d + 1) on used = some (A'.take n') := by rw [hpk]; exact fsO_at hno (hgk.trans (hR.yes rfl)) hk'
      repeat' ((conv => whnf); first | refine Rng.g ?_ | refine Ob.g ?_ | refine Ob.e ?_ | refine Ob.m ?_ | refine Ob.mk (Nat.le_of_ble_eq_true rfl) ?_ | refine JoinVC.on ?_ | refine Nils.mk (fun h => ?_) ?_ | refine Val.t ?_ | refine Val.d ?_ | refine Mm.mk ?_ | (refine Br.mk (fun h => ?_) (fun h => ?_) <;> first | (exfalso; omega; done) | (exfalso; simp at h; done) | skip))
      repeat refine Mm.mk ?_
      conv => whnf
      refine EndVC.mk _ rfl _ _ (⟨true, n', S', A', ⟨hR.le, hsl, fun _ => hres, fun h => (by cases h)⟩, rfl, rfl⟩) ?_
      refine ⟨[some 0, some 1, some 2, some 3, some 4, some 5, some 6, none, some 11], rfl, rfl, ?_, ?_⟩ <;> repeat' (first | exact trivial | exact rfl | exact Iff.rfl | apply And.intro)
    | false =>
      obtain ⟨r1, r2, r3, r4⟩ := hR.no rfl
      subst r2 r4
      have hle := hR.le
      rw [hlen2] at hle r3
      have r5 : A'.take on.length = on := by
        have : (A'.take (on.length + 1)).take on.length = on := by rw [r3]; simp
        rwa [List.take_take, Nat.min_eq_left (by omega)] at this
      have hsk2 : rI (i64s (setsO (on ++ [(k : Int)]) sides)) (k : Int).toNat 0 = m + w := by
        rw [Int.toNat_natCast]
        refine (i64s_get _ k).trans ?_
        rw [setsO_get _ _ _ (by omega), hms, hw, hm]
      have hup2 : updRow (i64s (setsO (on ++ [(k : Int)]) sides)) (k : Int).toNat 0 [Cell.int m] = i64s (setsO on sides) := by
        rw [Int.toNat_natCast, ← hbk]
        exact i64s_upd' _ k _ (by omega)
      repeat' ((conv => whnf); first | rw [hsk2] | refine Rng.g ?_ | refine Ob.g ?_ | refine Ob.e ?_ | refine Ob.m ?_ | refine Ob.mk (Nat.le_of_ble_eq_true rfl) ?_ | refine JoinVC.on ?_ | refine Nils.mk (fun h => ?_) ?_ | refine Val.t ?_ | refine Val.d ?_ | refine Mm.mk ?_ | (refine Br.mk (fun h => ?_) (fun h => ?_) <;> first | (exfalso; omega; done) | (exfalso; simp at h; done) | skip))
      conv => whnf
      refine Val.mk (w) (hsh) ?_
      repeat' ((conv => whnf); first | rw [hsk2] | refine Rng.g ?_ | refine Ob.g ?_ | refine Ob.e ?_ | refine Ob.m ?_ | refine Ob.mk (Nat.le_of_ble_eq_true rfl) ?_ | refine JoinVC.on ?_ | refine Nils.mk (fun h => ?_) ?_ | refine Val.t ?_ | refine Val.d ?_ | refine Mm.mk ?_ | (refine Br.mk (fun h => ?_) (fun h => ?_) <;> first | (exfalso; omega; done) | (exfalso; simp at h; done) | skip))
      conv => whnf
      refine Val.mk (m) (hnt) ?_
      repeat' ((conv => whnf); first | rw [hup2] | refine Rng.g ?_ | refine Ob.g ?_ | refine Ob.e ?_ | refine Ob.m ?_ | refine Ob.mk (Nat.le_of_ble_eq_true rfl) ?_ | refine JoinVC.on ?_ | refine Nils.mk (fun h => ?_) ?_ | refine Val.t ?_ | refine Val.d ?_ | refine Mm.mk ?_ | (refine Br.mk (fun h => ?_) (fun h => ?_) <;> first | (exfalso; omega; done) | (exfalso; simp at h; done) | skip))
      refine Back.mk (K - (k + 1)) _ (by omega) ⟨k + 1, A', by omega, rfl, fun j hj => ?_, by omega, r5, rfl⟩ ?_
      · rcases Nat.lt_succ_iff_lt_or_eq.1 hj with h' | rfl
        · exact hno j h'
        · exact hgk.trans r1
      · refine ⟨[some 0, some 1, some 2, some 3, some 4, some 5, some 6, none, some 11], rfl, rfl, ?_, ?_⟩ <;> repeat' (first | exact trivial | exact rfl | exact Iff.rfl | apply And.intro)
end Go.Sx

namespace Go.Sx
open Go Go.Proofs
set_option maxRecDepth 10000
set_option maxHeartbeats 16000000
@[reducible] noncomputable def Mpn (f : Fmt) (l : List Sng) (sides : Nat) (n : Nat) (S A : List Int) : List (Option Blk) := [some (.box 55 [.vw 7 Tryd.t3.size 0 n true]), some (.box 73 [.ptr 5 0]), some (.box 3 [.int .i64 (sides : Int)]), some (.box 55 [.own 6]), some (.box 128 [.fn 72 capsN]), some (bPl f l), some (rowOd S), some (rowOd A)]
theorem s77n (f : Fmt) (l : List Sng) (hf : FmtOK f) (hg : SngsOK l) (h8 : l.length ≤ 8) (sides : Nat) (hs : sides ≤ 8) (d : Nat) (hd : l.length = d + 1) (on : List Int) (hon : on = []) (used : Nat) (hus : used = 0) : HSpec Tryd.prog 72 (argN used) [.box 55 [.nils], .box 73 [.ptr 5 0], .box 3 [.int .i64 (sides : Int)], .box 55 [.own 6], .box 128 [.fn 72 capsN], bPl f l, rowOd (setsO on sides)] (fun r m' => ∃ b n S A, PkRs f l sides (d + 1) on used b n S A ∧ r = .x (.one (.bool b)) ∧ m' = Mpn f l sides n S A) := by
  have lo0 : on.length = 0 := by rw [hon]; rfl
  have hlen : on.length + (d + 1) = l.length := by omega
  have hu : used ≤ sides := by omega
  have ih := s77 f l hf hg h8 sides hs d
  have ll := sngA_len l
  have lo := i64s_len on
  have hm1 := Nat.min_le_left (used + 1) sides
  have hm2 := Nat.min_le_right (used + 1) sides
  have hmin : (if (sides : Int) < (used : Int) + 1 then (sides : Int) else (used : Int) + 1) = ((min (used + 1) sides : Nat) : Int) := by
    rw [Nat.min_def]
    split <;> split <;> omega
  obtain ⟨K, hK⟩ : ∃ K, min (used + 1) sides = K := ⟨_, rfl⟩
  rw [hK] at hm1 hm2 hmin
  obtain ⟨g, hgd⟩ : ∃ g : Nat → Option (List Int), g = fun k : Nat => @ite _ (sideOK f l (on ++ [(k : Int)]) k) (Classical.propDecidable _) (pkF f l sides d (on ++ [(k : Int)]) (max used (k + 1))) none := ⟨_, rfl⟩
  have hpk : pkF f l sides (d + 1) on used = fsO g K := by rw [hgd, ← hK]; rfl
  refine spec_of pMix (O := []) Tryd.func72 (c := bodyOf Tryd.f72) rfl (by kernel_rfl) (by kernel_rfl) Tryd.ntmps72 (res := [.tmp 7]) (by kernel_rfl) ?_
  repeat' ((conv => whnf); first | refine Rng.g ?_ | refine Ob.g ?_ | refine Ob.e ?_ | refine Ob.m ?_ | refine Ob.mk (Nat.le_of_ble_eq_true rfl) ?_ | refine JoinVC.on ?_ | refine Nils.mk (fun h => ?_) ?_ | refine Val.t ?_ | refine Val.d ?_ | refine Mm.mk ?_ | (refine Br.mk (fun h => ?_) (fun h => ?_) <;> first | (exfalso; omega; done) | (exfalso; simp at h; done) | skip))
  refine LoopVC.mk (fun n st => ∃ (k : Nat) (A : List Int), k ≤ K ∧ n = K - k ∧ (∀ j, j < k → g j = none) ∧ on.length ≤ A.length ∧ A.take on.length = on ∧ st = ⟨7, envA 69 [(0, .int .i64 (used : Int)), (1, .x (.one (.ptr 0 0))), (2, .x (.one (.ptr 1 0))), (3, .x (.one (.ptr 2 0))), (4, .x (.one (.ptr 3 0))), (5, .x (.one (.ptr 4 0))), (8, .int .i64 (on.length : Int)), (25, .int .i64 (K : Int)), (26, .int .i64 (k : Int))], Mpn f l sides on.length (setsO on sides) A⟩) _ _ ⟨0, on, Nat.zero_le _, rfl, fun j hj => absurd hj (Nat.not_lt_zero j), Nat.le_refl _, List.take_length, rfl⟩ ?_ ?_
  · refine ⟨[some 0, some 1, some 2, some 3, some 4, some 5, some 6, none], rfl, rfl, ?_, ?_⟩ <;> repeat' (first | exact trivial | exact rfl | exact Iff.rfl | apply And.intro)
    · rw [lo0]; rfl
    · exact hmin
    · exact lo0
    · rw [hon]; rfl
  rintro n _ ⟨k, A, hk, hn, hno, hA1, hA2, rfl⟩
  have lA := i64s_len A
  have lS := setsO_len on sides
  have lSi := i64s_len (setsO on sides)
  by_cases hk' : k < K
  rotate_left
  · have ek : k = K := by omega
    subst ek
    have hres : pkF f l sides (d + 1) on used = none := by rw [hpk]; exact fsO_none.2 hno
    repeat' ((conv => whnf); first | refine Rng.g ?_ | refine Ob.g ?_ | refine Ob.e ?_ | refine Ob.m ?_ | refine Ob.mk (Nat.le_of_ble_eq_true rfl) ?_ | refine JoinVC.on ?_ | refine Nils.mk (fun h => ?_) ?_ | refine Val.t ?_ | refine Val.d ?_ | refine Mm.mk ?_ | (refine Br.mk (fun h => ?_) (fun h => ?_) <;> first | (exfalso; omega; done) | (exfalso; simp at h; done) | skip))
    repeat refine Mm.mk ?_
    conv => whnf
    refine EndVC.mk _ rfl _ _ (⟨false, on.length, setsO on sides, A, ⟨hA1, lS, fun h => (by cases h), fun _ => ⟨hres, rfl, hA2, rfl⟩⟩, rfl, rfl⟩) ?_
    refine ⟨[some 0, some 1, some 2, some 3, some 4, some 5, some 6, some 7], rfl, rfl, ?_, ?_⟩ <;> repeat' (first | exact trivial | exact rfl | exact Iff.rfl | apply And.intro)
  have hb := maskO_bd on (k : Int) on.length
  have hsk : rI (i64s (setsO on sides)) (k : Int).toNat 0 = maskO on on.length (k : Int) := by rw [Int.toNat_natCast]; exact (i64s_get _ k).trans (setsO_get on sides k (by omega))
  have hb64 : ((IntKind.i64.bits : Nat) : Int) = 64 := rfl
  have hsn := setsO_snoc on sides k (by omega)
  have hbk := setsO_back on sides k (by omega)
  have hms := mask_snoc on (k : Int) (k : Int)
  rw [if_pos rfl] at hms
  have hmem := memB_mask (on ++ [(k : Int)]) (k : Int)
  have hlen2 : (on ++ [(k : Int)]).length = on.length + 1 := by rw [List.length_append, List.length_singleton]
  have hbd2 := maskO_bd (on ++ [(k : Int)]) (k : Int) (on ++ [(k : Int)]).length
  rw [hms] at hmem hbd2
  have h9 := memB_up (m := maskO on on.length (k : Int) + 2 ^ on.length) hbd2 (d := 9) (by omega)
  rw [hmem] at h9
  have hOk : OrdOK l.length (onL (on ++ [(k : Int)]) (k : Int)) := (onL_ord _ _).up (by omega)
  rw [← h9] at hOk
  have hpw : (2 : Int) ^ on.length ≤ 256 := by
    have h1 : 2 ^ on.length ≤ 2 ^ 8 := Nat.pow_le_pow_right (by decide) (by omega)
    have h2 := pow_nat on.length
    omega
  have hor := or_mask hb (by omega)
  have hnt := andNot_mask hb (by omega)
  have hsd : sideOK f l (on ++ [(k : Int)]) (k : Int) ↔ LayOK f l (usu l (memB (maskO on on.length (k : Int) + 2 ^ on.length) 9)) := by rw [h9]; exact Iff.rfl
  obtain ⟨w, hw⟩ : ∃ w : Int, 2 ^ on.length = w := ⟨_, rfl⟩
  obtain ⟨m, hm⟩ : ∃ m, maskO on on.length (k : Int) = m := ⟨_, rfl⟩
  rw [hw] at hb hsn hpw hor hnt hsd hOk
  rw [hm] at hb hsk hsn hbk hor hnt hsd hOk
  have hsh : 1 * 2 ^ (on.length : Int).toNat = w := by rw [Int.toNat_natCast, Int.one_mul]; exact hw
  have c78 := s78 f l (m + w) hf hg (by omega) hOk
  repeat' ((conv => whnf); first | rw [hsk] | refine Rng.g ?_ | refine Ob.g ?_ | refine Ob.e ?_ | refine Ob.m ?_ | refine Ob.mk (Nat.le_of_ble_eq_true rfl) ?_ | refine JoinVC.on ?_ | refine Nils.mk (fun h => ?_) ?_ | refine Val.t ?_ | refine Val.d ?_ | refine Mm.mk ?_ | (refine Br.mk (fun h => ?_) (fun h => ?_) <;> first | (exfalso; omega; done) | (exfalso; simp at h; done) | skip))
  conv => whnf
  refine Val.mk (w) (hsh) ?_
  repeat' ((conv => whnf); first | rw [hsk] | refine Rng.g ?_ | refine Ob.g ?_ | refine Ob.e ?_ | refine Ob.m ?_ | refine Ob.mk (Nat.le_of_ble_eq_true rfl) ?_ | refine JoinVC.on ?_ | refine Nils.mk (fun h => ?_) ?_ | refine Val.t ?_ | refine Val.d ?_ | refine Mm.mk ?_ | (refine Br.mk (fun h => ?_) (fun h => ?_) <;> first | (exfalso; omega; done) | (exfalso; simp at h; done) | skip))
  conv => whnf
  refine Val.mk ((m+w)) (hor) ?_
  repeat' ((conv => whnf); first | refine Rng.g ?_ | refine Ob.g ?_ | refine Ob.e ?_ | refine Ob.m ?_ | refine Ob.mk (Nat.le_of_ble_eq_true rfl) ?_ | refine JoinVC.on ?_ | refine Nils.mk (fun h => ?_) ?_ | refine Val.t ?_ | refine Val.d ?_ | refine Mm.mk ?_ | (refine Br.mk (fun h => ?_) (fun h => ?_) <;> first | (exfalso; omega; done) | (exfalso; simp at h; done) | skip))
  conv => whnf
  refine CallVC.mk [5] _ _ _ rfl rfl rfl (c78) (fun r m' h' => ?_)
  obtain ⟨rfl, rfl⟩ := h'
  conv => whnf
  repeat refine Mm.mk ?_
  try refine JoinVC.on ?_
  refine Br.mk (fun hL => ?_) (fun hL => ?_)
  · have hgk : g k = none := by rw [hgd]; exact if_neg fun h => hL (hsd.1 h)
    repeat' ((conv => whnf); first | refine Rng.g ?_ | refine Ob.g ?_ | refine Ob.e ?_ | refine Ob.m ?_ | refine Ob.mk (Nat.le_of_ble_eq_true rfl) ?_ | refine JoinVC.on ?_ | refine Nils.mk (fun h => ?_) ?_ | refine Val.t ?_ | refine Val.d ?_ | refine Mm.mk ?_ | (refine Br.mk (fun h => ?_) (fun h => ?_) <;> first | (exfalso; omega; done) | (exfalso; simp at h; done) | skip))
    refine Back.mk (K - (k + 1)) _ (by omega) ⟨k + 1, A, by omega, rfl, fun j hj => ?_, hA1, hA2, rfl⟩ ?_
    · rcases Nat.lt_succ_iff_lt_or_eq.1 hj with h' | rfl
      · exact hno j h'
      · exact hgk
    · refine ⟨[some 0, some 1, some 2, some 3, some 4, some 5, some 6, some 7], rfl, rfl, ?_, ?_⟩ <;> repeat' (first | exact trivial | exact rfl | exact Iff.rfl | apply And.intro)
  have hL' := Classical.not_not.1 hL
  have hgk : g k = pkF f l sides d (on ++ [(k : Int)]) (max used (k + 1)) := by rw [hgd]; exact if_pos (hsd.2 hL')
  have hup : updRow (i64s (setsO on sides)) (k : Int).toNat 0 [Cell.int (m + w)] = i64s (setsO (on ++ [(k : Int)]) sides) := by
    rw [Int.toNat_natCast, ← hsn]
    exact i64s_upd' _ k _ (by omega)
  have hap : List.take on.length (i64s A) ++ [[Cell.int (k : Int)]] = i64s (on ++ [(k : Int)]) := by
    rw [i64s_take, hA2, i64s_snoc]
  have hmx : (if (used : Int) < (k : Int) + 1 then (k : Int) + 1 else (used : Int)) = ((max used (k + 1) : Nat) : Int) := by
    rw [Nat.max_def]
    split <;> split <;> omega
  repeat' ((conv => whnf); first | rw [hsk] | refine Rng.g ?_ | refine Ob.g ?_ | refine Ob.e ?_ | refine Ob.m ?_ | refine Ob.mk (Nat.le_of_ble_eq_true rfl) ?_ | refine JoinVC.on ?_ | refine Nils.mk (fun h => ?_) ?_ | refine Val.t ?_ | refine Val.d ?_ | refine Mm.mk ?_ | (refine Br.mk (fun h => ?_) (fun h => ?_) <;> first | (exfalso; omega; done) | (exfalso; simp at h; done) | skip))
  conv => whnf
  refine Val.mk (w) (hsh) ?_
  repeat' ((conv => whnf); first | rw [hsk] | refine Rng.g ?_ | refine Ob.g ?_ | refine Ob.e ?_ | refine Ob.m ?_ | refine Ob.mk (Nat.le_of_ble_eq_true rfl) ?_ | refine JoinVC.on ?_ | refine Nils.mk (fun h => ?_) ?_ | refine Val.t ?_ | refine Val.d ?_ | refine Mm.mk ?_ | (refine Br.mk (fun h => ?_) (fun h => ?_) <;> first | (exfalso; omega; done) | (exfalso; simp at h; done) | skip))
  conv => whnf
  refine Val.mk ((m+w)) (hor) ?_
  repeat' ((conv => whnf); first | rw [hup] | refine Rng.g ?_ | refine Ob.g ?_ | refine Ob.e ?_ | refine Ob.m ?_ | refine Ob.mk (Nat.le_of_ble_eq_true rfl) ?_ | refine JoinVC.on ?_ | refine Nils.mk (fun h => ?_) ?_ | refine Val.t ?_ | refine Val.d ?_ | refine Mm.mk ?_ | (refine Br.mk (fun h => ?_) (fun h => ?_) <;> first | (exfalso; omega; done) | (exfalso; simp at h; done) | skip))
  repeat refine Mm.mk ?_
  refine Ob.mk (by rw [eb3]; simp only [List.length_cons, List.length_nil]; omega) ?_
  repeat' ((conv => whnf); first | rw [hup] | rw [hap] | refine Rng.g ?_ | refine Ob.g ?_ | refine Ob.e ?_ | refine Ob.m ?_ | refine Ob.mk (Nat.le_of_ble_eq_true rfl) ?_ | refine JoinVC.on ?_ | refine Nils.mk (fun h => ?_) ?_ | refine Val.t ?_ | refine Val.d ?_ | (refine Br.mk (fun h => ?_) (fun h => ?_) <;> first | (exfalso; omega; done) | (exfalso; simp at h; done) | skip))
  conv => whnf
  rw [hmx]
  refine Mm.mk ?_
  conv => whnf
  refine CallVC.mk [0, 1, 2, 3, 4, 5, 6, 9] _ _ _ rfl rfl rfl (ih (on ++ [(k : Int)]) (max used (k + 1)) (by rw [hlen2]; omega) (Nat.max_le.2 ⟨hu, by omega⟩)) (fun r m' h' => ?_)
  obtain ⟨b, n', S', A', hR, rfl, rfl⟩ := h'
  conv => whnf
  have lA' := i64s_len A'
  have lS' := i64s_len S'
  have hsl := hR.sl
  cases b with
  | true =>
    have hres : pkF f l sides (d + 1) on used = some (A'.take n') := by rw [hpk]; exact fsO_at hno (hgk.trans (hR.yes rfl)) hk'
    repeat' ((conv => whnf); first | refine Rng.g ?_ | refine Ob.g ?_ | refine Ob.e ?_ | refine Ob.m ?_ | refine Ob.mk (Nat.le_of_ble_eq_true rfl) ?_ | refine JoinVC.on ?_ | refine Nils.mk (fun h => ?_) ?_ | refine Val.t ?_ | refine Val.d ?_ | refine Mm.mk ?_ | (refine Br.mk (fun h => ?_) (fun h => ?_) <;> first | (exfalso; omega; done) | (exfalso; simp at h; done) | skip))
    repeat refine Mm.mk ?_
    conv => whnf
    refine EndVC.mk _ rfl _ _ (⟨true, n', S', A', ⟨hR.le, hsl, fun _ => hres, fun h => (by cases h)⟩, rfl, rfl⟩) ?_
    refine ⟨[some 0, some 1, some 2, some 3, some 4, some 5, some 6, some 10], rfl, rfl, ?_, ?_⟩ <;> repeat' (first | exact trivial | exact rfl | exact Iff.rfl | apply And.intro)
  | false =>
    obtain ⟨r1, r2, r3, r4⟩ := hR.no rfl
    subst r2 r4
    have hle := hR.le
    rw [hlen2] at hle r3
    have r5 : A'.take on.length = on := by
      have : (A'.take (on.length + 1)).take on.length = on := by rw [r3]; simp
      rwa [List.take_take, Nat.min_eq_left (by omega)] at this
    have hsk2 : rI (i64s (setsO (on ++ [(k : Int)]) sides)) (k : Int).toNat 0 = m + w := by
      rw [Int.toNat_natCast]
      refine (i64s_get _ k).trans ?_
      rw [setsO_get _ _ _ (by omega), hms, hw, hm]
    have hup2 : updRow (i64s (setsO (on ++ [(k : Int)]) sides)) (k : Int).toNat 0 [Cell.int m] = i64s (setsO on sides) := by
      rw [Int.toNat_natCast, ← hbk]
      exact i64s_upd' _ k _ (by omega)
    repeat' ((conv => whnf); first | rw [hsk2] | refine Rng.g ?_ | refine Ob.g ?_ | refine Ob.e ?_ | refine Ob.m ?_ | refine Ob.mk (Nat.le_of_ble_eq_true rfl) ?_ | refine JoinVC.on ?_ | refine Nils.mk (fun h => ?_) ?_ | refine Val.t ?_ | refine Val.d ?_ | refine Mm.mk ?_ | (refine Br.mk (fun h => ?_) (fun h => ?_) <;> first | (exfalso; omega; done) | (exfalso; simp at h; done) | skip))
    conv => whnf
    refine Val.mk (w) (hsh) ?_
    repeat' ((conv => whnf); first | rw [hsk2] | refine Rng.g ?_ | refine Ob.g ?_ | refine Ob.e ?_ | refine Ob.m ?_ | refine Ob.mk (Nat.le_of_ble_eq_true rfl) ?_ | refine JoinVC.on ?_ | refine Nils.mk (fun h => ?_) ?_ | refine Val.t ?_ | refine Val.d ?_ | refine Mm.mk ?_ | (refine Br.mk (fun h => ?_) (fun h => ?_) <;> first | (exfalso; omega; done) | (exfalso; simp at h; done) | skip))
    conv => whnf
    refine Val.mk (m) (hnt) ?_
    repeat' ((conv => whnf); first | rw [hup2] | refine Rng.g ?_ | refine Ob.g ?_ | refine Ob.e ?_ | refine Ob.m ?_ | refine Ob.mk (Nat.le_of_ble_eq_true rfl) ?_ | refine JoinVC.on ?_ | refine Nils.mk (fun h => ?_) ?_ | refine Val.t ?_ | refine Val.d ?_ | refine Mm.mk ?_ | (refine Br.mk (fun h => ?_) (fun h => ?_) <;> first | (exfalso; omega; done) | (exfalso; simp at h; done) | skip))
    refine Back.mk (K - (k + 1)) _ (by omega) ⟨k + 1, A', by omega, rfl, fun j hj => ?_, by omega, r5, rfl⟩ ?_
    · rcases Nat.lt_succ_iff_lt_or_eq.1 hj with h' | rfl
      · exact hno j h'
      · exact hgk.trans r1
    · refine ⟨[some 0, some 1, some 2, some 3, some 4, some 5, some 6, some 10], rfl, rfl, ?_, ?_⟩ <;> repeat' (first | exact trivial | exact rfl | exact Iff.rfl | apply And.intro)
/-- What 'pack' hands back. -/
inductive PcRs (f : Fmt) (l : List Sng) (sides : Nat) (r : AV) (m' : List (Option Blk)) : Prop
  | none (h : packR f l sides = none) (hr : r = .tup [.one .any, .one (.bool false)]) (hm : m' = [some (bPl f l)])
  | some (q : List Int) (h : packR f l sides = some q) (hr : r = .tup [.one (.lst false [.int .i64] (i64s q)), .one (.bool true)]) (hm : m' = [some (bPl f l)])
theorem s77z (f : Fmt) (l : List Sng) (sides : Nat) (S : List Int) (h0 : l.length = 0) : HSpec Tryd.prog 72 (argN 0) [.box 55 [.nils], .box 73 [.ptr 5 0], .box 3 [.int .i64 (sides : Int)], .box 55 [.own 6], .box 128 [.fn 72 capsN], bPl f l, rowOd S] (fun r m' => r = xP (0 = sides) ∧ m' = [some (.box 55 [.nils]), some (.box 73 [.ptr 5 0]), some (.box 3 [.int .i64 (sides : Int)]), some (.box 55 [.own 6]), some (.box 128 [.fn 72 capsN]), some (bPl f l), some (rowOd S)]) := by
  have ll := sngA_len l
  refine spec_of pMix (O := []) Tryd.func72 (c := bodyOf Tryd.f72) rfl (by kernel_rfl) (by kernel_rfl) Tryd.ntmps72 (res := [.tmp 7]) (by kernel_rfl) ?_
  repeat' ((conv => whnf); first | refine Rng.g ?_ | refine Ob.g ?_ | refine Ob.e ?_ | refine Ob.m ?_ | refine Ob.mk (Nat.le_of_ble_eq_true rfl) ?_ | refine JoinVC.on ?_ | refine Nils.mk (fun h => ?_) ?_ | refine Val.t ?_ | refine Val.d ?_ | refine Mm.mk ?_ | (refine Br.mk (fun h => ?_) (fun h => ?_) <;> first | (exfalso; omega; done) | (exfalso; simp at h; done) | skip))
  repeat refine Mm.mk ?_
  refine EndVC.mk _ rfl _ _ ⟨rfl, rfl⟩ ?_
  refine ⟨[some 0, some 1, some 2, some 3, some 4, some 5, some 6], rfl, rfl, ?_, ?_⟩ <;> repeat' (first | exact trivial | exact rfl | exact Iff.rfl | apply And.intro)
  show _ ↔ _
  exact ⟨fun h => (by omega), fun h => (by omega)⟩
theorem sets0 (sides : Nat) : List.replicate (sides : Int).toNat (zeroRow [.int .i64]) = i64s (setsO [] sides) := by
  have e : setsO [] sides = List.replicate sides 0 := by
    refine List.ext_getElem (by simp [setsO]) fun i h1 h2 => ?_
    simp [setsO, maskO]
  rw [e, Int.toNat_natCast]
  simp [i64s, zeroRow, zeroCell]
theorem s56 (f : Fmt) (l : List Sng) (hf : FmtOK f) (hg : SngsOK l) (h8 : l.length ≤ 8) (sides : Nat) (hs : sides ≤ 8) : HSpec Tryd.prog 59 [.one (.ptr 0 0), I (sides : Int)] [bPl f l] (fun r m' => PcRs f l sides r m') := by
  have hpk := pk_eq hf hg (sides := sides) l.length [] 0 (by simp) numb_nil (Nat.zero_le _) (fun k hk => absurd hk (Nat.not_lt_zero k))
  have e0 := sets0 sides
  by_cases h0 : l.length = 0
  · refine spec_of pMix (O := []) Tryd.func59 (c := bodyOf Tryd.f59) rfl (by kernel_rfl) (by kernel_rfl) Tryd.ntmps59 (res := [.tmp 4, .tmp 5]) (by kernel_rfl) ?_
    repeat' ((conv => whnf); first | refine Rng.g ?_ | refine Ob.g ?_ | refine Ob.e ?_ | refine Ob.m ?_ | refine Ob.mk (Nat.le_of_ble_eq_true rfl) ?_ | refine JoinVC.on ?_ | refine Nils.mk (fun h => ?_) ?_ | refine Val.t ?_ | refine Val.d ?_ | refine Mm.mk ?_ | (refine Br.mk (fun h => ?_) (fun h => ?_) <;> first | (exfalso; omega; done) | (exfalso; simp at h; done) | skip))
    repeat refine Mm.mk ?_
    refine Ob.mk (by rw [eb3]; omega) ?_
    repeat' ((conv => whnf); first | rw [e0] | refine Rng.g ?_ | refine Ob.g ?_ | refine Ob.e ?_ | refine Ob.m ?_ | refine Ob.mk (Nat.le_of_ble_eq_true rfl) ?_ | refine JoinVC.on ?_ | refine Nils.mk (fun h => ?_) ?_ | refine Val.t ?_ | refine Val.d ?_ | refine Mm.mk ?_ | (refine Br.mk (fun h => ?_) (fun h => ?_) <;> first | (exfalso; omega; done) | (exfalso; simp at h; done) | skip))
    conv => whnf
    refine CallVC.mk [5, 1, 2, 4, 6, 0, 3] _ _ _ rfl rfl rfl (s77z f l sides (setsO [] sides) h0) (fun r m' h' => ?_)
    obtain ⟨rfl, rfl⟩ := h'
    conv => whnf
    rw [h0] at hpk
    by_cases hz : 0 = sides
    · have hr : packR f l sides = some [] := by
        show pkR f l sides l.length [] 0 = some []
        rw [h0, ← hpk]
        exact if_pos hz
      repeat' ((conv => whnf); first | refine Rng.g ?_ | refine Ob.g ?_ | refine Ob.e ?_ | refine Ob.m ?_ | refine Ob.mk (Nat.le_of_ble_eq_true rfl) ?_ | refine JoinVC.on ?_ | refine Nils.mk (fun h => ?_) ?_ | refine Val.t ?_ | refine Val.d ?_ | refine Mm.mk ?_ | (refine Br.mk (fun h => ?_) (fun h => ?_) <;> first | (exfalso; omega; done) | (exfalso; simp at h; done) | skip))
      repeat refine Mm.mk ?_
      conv => whnf
      refine EndVC.mk _ rfl _ _ (.some [] hr rfl rfl) ?_
      refine ⟨[some 0], rfl, rfl, ?_, ?_⟩ <;> repeat' (first | exact trivial | exact rfl | exact Iff.rfl | apply And.intro)
      exact decide_eq_true hz
    · have hr : packR f l sides = none := by
        show pkR f l sides l.length [] 0 = none
        rw [h0, ← hpk]
        exact if_neg hz
      repeat' ((conv => whnf); first | refine Rng.g ?_ | refine Ob.g ?_ | refine Ob.e ?_ | refine Ob.m ?_ | refine Ob.mk (Nat.le_of_ble_eq_true rfl) ?_ | refine JoinVC.on ?_ | refine Nils.mk (fun h => ?_) ?_ | refine Val.t ?_ | refine Val.d ?_ | refine Mm.mk ?_ | (refine Br.mk (fun h => ?_) (fun h => ?_) <;> first | (exfalso; omega; done) | (exfalso; simp at h; done) | skip))
      repeat refine Mm.mk ?_
      conv => whnf
      refine EndVC.mk _ rfl _ _ (.none hr rfl rfl) ?_
      refine ⟨[some 0], rfl, rfl, ?_, ?_⟩ <;> repeat' (first | exact trivial | exact rfl | exact Iff.rfl | apply And.intro)
      exact decide_eq_false hz
  · obtain ⟨d, hd⟩ : ∃ d, l.length = d + 1 := ⟨l.length - 1, by omega⟩
    rw [hd] at hpk
    refine spec_of pMix (O := []) Tryd.func59 (c := bodyOf Tryd.f59) rfl (by kernel_rfl) (by kernel_rfl) Tryd.ntmps59 (res := [.tmp 4, .tmp 5]) (by kernel_rfl) ?_
    repeat' ((conv => whnf); first | refine Rng.g ?_ | refine Ob.g ?_ | refine Ob.e ?_ | refine Ob.m ?_ | refine Ob.mk (Nat.le_of_ble_eq_true rfl) ?_ | refine JoinVC.on ?_ | refine Nils.mk (fun h => ?_) ?_ | refine Val.t ?_ | refine Val.d ?_ | refine Mm.mk ?_ | (refine Br.mk (fun h => ?_) (fun h => ?_) <;> first | (exfalso; omega; done) | (exfalso; simp at h; done) | skip))
    repeat refine Mm.mk ?_
    refine Ob.mk (by rw [eb3]; omega) ?_
    repeat' ((conv => whnf); first | rw [e0] | refine Rng.g ?_ | refine Ob.g ?_ | refine Ob.e ?_ | refine Ob.m ?_ | refine Ob.mk (Nat.le_of_ble_eq_true rfl) ?_ | refine JoinVC.on ?_ | refine Nils.mk (fun h => ?_) ?_ | refine Val.t ?_ | refine Val.d ?_ | refine Mm.mk ?_ | (refine Br.mk (fun h => ?_) (fun h => ?_) <;> first | (exfalso; omega; done) | (exfalso; simp at h; done) | skip))
    conv => whnf
    refine CallVC.mk [5, 1, 2, 4, 6, 0, 3] _ _ _ rfl rfl rfl (s77n f l hf hg h8 sides hs d hd [] rfl 0 rfl) (fun r m' h' => ?_)
    obtain ⟨b, n, S, A, hR, rfl, rfl⟩ := h'
    conv => whnf
    cases b with
    | true =>
      have hr : packR f l sides = some (A.take n) := by
        show pkR f l sides l.length [] 0 = _
        rw [hd, ← hpk]
        exact hR.yes rfl
      repeat' ((conv => whnf); first | refine Rng.g ?_ | refine Ob.g ?_ | refine Ob.e ?_ | refine Ob.m ?_ | refine Ob.mk (Nat.le_of_ble_eq_true rfl) ?_ | refine JoinVC.on ?_ | refine Nils.mk (fun h => ?_) ?_ | refine Val.t ?_ | refine Val.d ?_ | refine Mm.mk ?_ | (refine Br.mk (fun h => ?_) (fun h => ?_) <;> first | (exfalso; omega; done) | (exfalso; simp at h; done) | skip))
      repeat refine Mm.mk ?_
      conv => whnf
      refine EndVC.mk _ rfl _ _ (.some (A.take n) hr rfl rfl) ?_
      refine ⟨[some 0], rfl, rfl, ?_, ?_⟩ <;> repeat' (first | exact trivial | exact rfl | exact Iff.rfl | apply And.intro)
      exact i64s_take _ _
    | false =>
      have hr : packR f l sides = none := by
        show pkR f l sides l.length [] 0 = _
        rw [hd, ← hpk]
        exact (hR.no rfl).1
      repeat' ((conv => whnf); first | refine Rng.g ?_ | refine Ob.g ?_ | refine Ob.e ?_ | refine Ob.m ?_ | refine Ob.mk (Nat.le_of_ble_eq_true rfl) ?_ | refine JoinVC.on ?_ | refine Nils.mk (fun h => ?_) ?_ | refine Val.t ?_ | refine Val.d ?_ | refine Mm.mk ?_ | (refine Br.mk (fun h => ?_) (fun h => ?_) <;> first | (exfalso; omega; done) | (exfalso; simp at h; done) | skip))
      repeat refine Mm.mk ?_
      conv => whnf
      refine EndVC.mk _ rfl _ _ (.none hr rfl rfl) ?_
      refine ⟨[some 0], rfl, rfl, ?_, ?_⟩ <;> repeat' (first | exact trivial | exact rfl | exact Iff.rfl | apply And.intro)
end Go.Sx

namespace Go.Sx
open Go Go.Proofs
set_option maxRecDepth 10000
set_option maxHeartbeats 8000000
/-! ### An order is laid, as the document tells it -/
/-- How many of them end at or above their Least, up to the first one that does not. -/
structure Good (f : Fmt) (l : List Sng) (O : List Int) (g : Nat) : Prop where
  le : g ≤ O.length
  yes : ∀ j, j < g → okAt f l O j
  no : g < O.length → ¬ okAt f l O g
open Classical in
noncomputable def goodN (f : Fmt) (l : List Sng) (O : List Int) : Nat → Nat
  | 0 => 0
  | i + 1 => if goodN f l O i = i ∧ okAt f l O i then i + 1 else goodN f l O i
theorem goodN_lo {f : Fmt} {l : List Sng} {O : List Int} : ∀ n, (∀ j, j < n → okAt f l O j) → goodN f l O n = n
  | 0, _ => rfl
  | n + 1, h => if_pos ⟨goodN_lo n fun j hj => h j (by omega), h n (Nat.lt_succ_self n)⟩
open Classical in
theorem goodN_hi {f : Fmt} {l : List Sng} {O : List Int} {g : Nat} (h : ∀ j, j < g → okAt f l O j) (hn : ¬ okAt f l O g) : ∀ d, goodN f l O (g + d) = g
  | 0 => goodN_lo g h
  | d + 1 => by
    have ih := goodN_hi h hn d
    have e : ¬ (goodN f l O (g + d) = g + d ∧ okAt f l O (g + d)) := fun ⟨h1, h2⟩ => by
      rw [ih] at h1
      have : d = 0 := by omega
      subst this
      exact hn h2
    show (if goodN f l O (g + d) = g + d ∧ okAt f l O (g + d) then g + d + 1 else goodN f l O (g + d)) = g
    rw [if_neg e]
    exact ih
theorem Good.eq {f : Fmt} {l : List Sng} {O : List Int} {g : Nat} (h : Good f l O g) : goodN f l O O.length = g := by
  by_cases e : g = O.length
  · rw [e]
    exact goodN_lo _ fun j hj => h.yes j (by omega)
  · have h1 := h.le
    have := goodN_hi h.yes (h.no (by omega)) (O.length - g)
    rw [show g + (O.length - g) = O.length by omega] at this
    exact this
/-- How many of an order are good. -/
noncomputable def laN (f : Fmt) (l : List Sng) (O : List Int) : Int := if bothE f l ≠ 0 ∨ ordE l.length O ≠ 0 then 0 else (goodN f l O O.length : Int)
open Classical in
/-- The error of an order. -/
noncomputable def laE (f : Fmt) (l : List Sng) (O : List Int) : Int := if bothE f l ≠ 0 then bothE f l else if ordE l.length O ≠ 0 then ordE l.length O else if goodN f l O O.length < O.length then 20 else if LayOK f l O then 0 else 14
inductive LaS (f : Fmt) (l : List Sng) (O : List Int) (r : AV) (m' : List (Option Blk)) : Prop
  | bad (he : laE f l O ≠ 0) (hr : r = .tup [.one .nils, I (laN f l O), I (laE f l O)]) (hm : m' = [])
  | ok (hf : FmtOK f) (hg : SngsOK l) (hO : OrdOK l.length O) (h : LayOK f l O) (he : laE f l O = 0) (hn : laN f l O = O.length) (hr : r = .tup [.one (.own 0), I (laN f l O), I (laE f l O)]) (hm : m' = [some (rowB (bndA f l O O.length))])
theorem la_ok {f : Fmt} {l : List Sng} {O : List Int} (hf : FmtOK f) (hg : SngsOK l) (hO : OrdOK l.length O) (h : LayOK f l O) : laE f l O = 0 ∧ laN f l O = O.length := by
  have h1 := bothE_ok hf hg
  have h2 := ordE_0.2 hO
  have h3 := goodN_lo O.length h.1
  unfold laE laN
  rw [h1, h2, h3]
  simp [h]
theorem la_limit {f : Fmt} {l : List Sng} {O : List Int} (hf : FmtOK f) (hg : SngsOK l) (hO : OrdOK l.length O) (h : ∀ j, j < O.length → okAt f l O j) (hn : ¬ LayOK f l O) : laE f l O = 14 ∧ laN f l O = O.length := by
  have h1 := bothE_ok hf hg
  have h2 := ordE_0.2 hO
  have h3 := goodN_lo O.length h
  unfold laE laN
  rw [h1, h2, h3]
  simp [hn]
theorem la_rule {f : Fmt} {l : List Sng} {O : List Int} (hf : FmtOK f) (hg : SngsOK l) (hO : OrdOK l.length O) {i : Nat} (hi : i < O.length) (h : ∀ j, j < i → okAt f l O j) (hn : ¬ okAt f l O i) : laE f l O = 20 ∧ laN f l O = i := by
  have h1 := bothE_ok hf hg
  have h2 := ordE_0.2 hO
  have h3 := Good.eq (f := f) (l := l) (O := O) (g := i) ⟨by omega, h, fun _ => hn⟩
  unfold laE laN
  rw [h1, h2, h3]
  simp [hi]
theorem la_bad {f : Fmt} {l : List Sng} {O : List Int} (h : bothE f l ≠ 0) : laE f l O = bothE f l ∧ laN f l O = 0 := by
  unfold laE laN
  rw [if_pos h, if_pos (.inl h)]
  exact ⟨rfl, rfl⟩
theorem la_ord {f : Fmt} {l : List Sng} {O : List Int} (hf : FmtOK f) (hg : SngsOK l) (h : ordE l.length O ≠ 0) : laE f l O = ordE l.length O ∧ laN f l O = 0 := by
  have h1 := bothE_ok hf hg
  unfold laE laN
  rw [if_neg (by rw [h1]; simp), if_pos h, if_pos (.inr h)]
  exact ⟨rfl, rfl⟩
theorem LaRs.to {f : Fmt} {l : List Sng} {O : List Int} {r : AV} {m' : List (Option Blk)} (h : LaRs f l O r m') : LaS f l O r m' := by
  cases h with
  | bad h hr hm =>
    obtain ⟨h1, h2⟩ := la_bad (O := O) h
    exact .bad (by rw [h1]; exact h) (by rw [h1, h2]; exact hr) hm
  | ord hf hg h hr hm =>
    obtain ⟨h1, h2⟩ := la_ord hf hg h
    exact .bad (by rw [h1]; exact h) (by rw [h1, h2]; exact hr) hm
  | rule hf hg hO i hi h hn hr hm =>
    obtain ⟨h1, h2⟩ := la_rule hf hg hO hi h hn
    exact .bad (by rw [h1]; decide) (by rw [h1, h2]; exact hr) hm
  | limit hf hg hO h hn hr hm =>
    obtain ⟨h1, h2⟩ := la_limit hf hg hO h hn
    exact .bad (by rw [h1]; decide) (by rw [h1, h2]; exact hr) hm
  | ok hf hg hO h hr hm =>
    obtain ⟨h1, h2⟩ := la_ok hf hg hO h
    exact .ok hf hg hO h h1 h2 (by rw [h1, h2]; exact hr) hm
end Go.Sx

namespace Go.Sx
open Go Go.Proofs
set_option maxRecDepth 10000
set_option maxHeartbeats 8000000
/-! ### The examples -/
open Classical in
theorem s26 (a b : List Int) (ha : a.length ≤ 1000000) : PSpec Tryd.prog 35 [.one (.lst true [.int .i64] (i64s a)), .one (.lst true [.int .i64] (i64s b))] (xP (a = b)) := by
  have la := i64s_len a
  have lb := i64s_len b
  by_cases hl : a.length = b.length
  rotate_left
  · refine spec_of pMix (O := []) Tryd.func35 (c := bodyOf Tryd.f35) rfl (by kernel_rfl) (by kernel_rfl) Tryd.ntmps35 (res := [.tmp 4]) (by kernel_rfl) ?_
    repeat' ((conv => whnf); first | refine Rng.g ?_ | refine Ob.g ?_ | refine Ob.e ?_ | refine Ob.m ?_ | refine Ob.mk (Nat.le_of_ble_eq_true rfl) ?_ | refine JoinVC.on ?_ | refine Nils.mk (fun h => ?_) ?_ | refine Val.t ?_ | refine Val.d ?_ | refine Mm.mk ?_ | (refine Br.mk (fun h => ?_) (fun h => ?_) <;> first | (exfalso; omega; done) | (exfalso; simp at h; done) | skip))
    repeat refine Mm.mk ?_
    refine EndVC.mk _ rfl _ _ ⟨rfl, rfl⟩ ?_
    refine ⟨[], rfl, rfl, ?_, ?_⟩ <;> repeat' (first | exact trivial | exact rfl | exact Iff.rfl | apply And.intro)
    exact fun h => hl (by rw [h])
  refine spec_of pMix (O := []) Tryd.func35 (c := bodyOf Tryd.f35) rfl (by kernel_rfl) (by kernel_rfl) Tryd.ntmps35 (res := [.tmp 4]) (by kernel_rfl) ?_
  repeat' ((conv => whnf); first | refine Rng.g ?_ | refine Ob.g ?_ | refine Ob.e ?_ | refine Ob.m ?_ | refine Ob.mk (Nat.le_of_ble_eq_true rfl) ?_ | refine JoinVC.on ?_ | refine Nils.mk (fun h => ?_) ?_ | refine Val.t ?_ | refine Val.d ?_ | refine Mm.mk ?_ | (refine Br.mk (fun h => ?_) (fun h => ?_) <;> first | (exfalso; omega; done) | (exfalso; simp at h; done) | skip))
  refine LoopVC.mk (fun n st => ∃ (i : Nat), i ≤ a.length ∧ n = a.length - i ∧ (∀ j, j < i → a.getD j 0 = b.getD j 0) ∧ st = ⟨0, envA 26 [(0, .x (.one (.lst true [.int .i64] (i64s a)))), (1, .x (.one (.lst true [.int .i64] (i64s b)))), (5, .int .i64 (i : Int))], []⟩) _ _ ⟨0, Nat.zero_le _, rfl, fun j hj => absurd hj (Nat.not_lt_zero j), rfl⟩ ?_ ?_
  · refine ⟨[], rfl, rfl, ?_, ?_⟩ <;> repeat' (first | exact trivial | exact rfl | exact Iff.rfl | apply And.intro)
  rintro n _ ⟨i, hi, hm, hj, rfl⟩
  have g1 : rI (i64s a) (i : Int).toNat 0 = a.getD i 0 := by rw [Int.toNat_natCast]; exact i64s_get a i
  have g2 : rI (i64s b) (i : Int).toNat 0 = b.getD i 0 := by rw [Int.toNat_natCast]; exact i64s_get b i
  by_cases hi' : i < a.length
  · by_cases he : a.getD i 0 = b.getD i 0
    · repeat' ((conv => whnf); first | refine Rng.g ?_ | refine Ob.g ?_ | refine Ob.e ?_ | refine Ob.m ?_ | refine Ob.mk (Nat.le_of_ble_eq_true rfl) ?_ | refine JoinVC.on ?_ | refine Nils.mk (fun h => ?_) ?_ | refine Val.t ?_ | refine Val.d ?_ | refine Mm.mk ?_ | (refine Br.mk (fun h => ?_) (fun h => ?_) <;> first | (exfalso; omega; done) | (exfalso; simp at h; done) | skip))
      refine Back.mk (a.length - (i + 1)) _ (by omega) ⟨i + 1, by omega, rfl, fun j hj' => ?_, rfl⟩ ?_
      · rcases Nat.lt_succ_iff_lt_or_eq.1 hj' with h' | rfl
        · exact hj j h'
        · exact he
      · refine ⟨[], rfl, rfl, ?_, ?_⟩ <;> repeat' (first | exact trivial | exact rfl | exact Iff.rfl | apply And.intro)
    · repeat' ((conv => whnf); first | refine Rng.g ?_ | refine Ob.g ?_ | refine Ob.e ?_ | refine Ob.m ?_ | refine Ob.mk (Nat.le_of_ble_eq_true rfl) ?_ | refine JoinVC.on ?_ | refine Nils.mk (fun h => ?_) ?_ | refine Val.t ?_ | refine Val.d ?_ | refine Mm.mk ?_ | (refine Br.mk (fun h => ?_) (fun h => ?_) <;> first | (exfalso; omega; done) | (exfalso; simp at h; done) | skip))
      repeat refine Mm.mk ?_
      refine EndVC.mk _ rfl _ _ ⟨rfl, rfl⟩ ?_
      refine ⟨[], rfl, rfl, ?_, ?_⟩ <;> repeat' (first | exact trivial | exact rfl | exact Iff.rfl | apply And.intro)
      exact fun h => he (by rw [h])
  · repeat' ((conv => whnf); first | refine Rng.g ?_ | refine Ob.g ?_ | refine Ob.e ?_ | refine Ob.m ?_ | refine Ob.mk (Nat.le_of_ble_eq_true rfl) ?_ | refine JoinVC.on ?_ | refine Nils.mk (fun h => ?_) ?_ | refine Val.t ?_ | refine Val.d ?_ | refine Mm.mk ?_ | (refine Br.mk (fun h => ?_) (fun h => ?_) <;> first | (exfalso; omega; done) | (exfalso; simp at h; done) | skip))
    repeat refine Mm.mk ?_
    refine EndVC.mk _ rfl _ _ ⟨rfl, rfl⟩ ?_
    refine ⟨[], rfl, rfl, ?_, ?_⟩ <;> repeat' (first | exact trivial | exact rfl | exact Iff.rfl | apply And.intro)
    exact list_ext_getD hl fun j hj' => hj j (by omega)
open Classical in
theorem s34 (a b : List Int) (ha : a.length ≤ 1000000) : PSpec Tryd.prog 27 [.one (.lst true [.int .i64] (i64s a)), .one (.lst true [.int .i64] (i64s b))] (xP (a = b)) := by
  have la := i64s_len a
  have lb := i64s_len b
  by_cases hl : a.length = b.length
  rotate_left
  · refine spec_of pMix (O := []) Tryd.func27 (c := bodyOf Tryd.f27) rfl (by kernel_rfl) (by kernel_rfl) Tryd.ntmps27 (res := [.tmp 4]) (by kernel_rfl) ?_
    repeat' ((conv => whnf); first | refine Rng.g ?_ | refine Ob.g ?_ | refine Ob.e ?_ | refine Ob.m ?_ | refine Ob.mk (Nat.le_of_ble_eq_true rfl) ?_ | refine JoinVC.on ?_ | refine Nils.mk (fun h => ?_) ?_ | refine Val.t ?_ | refine Val.d ?_ | refine Mm.mk ?_ | (refine Br.mk (fun h => ?_) (fun h => ?_) <;> first | (exfalso; omega; done) | (exfalso; simp at h; done) | skip))
    repeat refine Mm.mk ?_
    refine EndVC.mk _ rfl _ _ ⟨rfl, rfl⟩ ?_
    refine ⟨[], rfl, rfl, ?_, ?_⟩ <;> repeat' (first | exact trivial | exact rfl | exact Iff.rfl | apply And.intro)
    exact fun h => hl (by rw [h])
  refine spec_of pMix (O := []) Tryd.func27 (c := bodyOf Tryd.f27) rfl (by kernel_rfl) (by kernel_rfl) Tryd.ntmps27 (res := [.tmp 4]) (by kernel_rfl) ?_
  repeat' ((conv => whnf); first | refine Rng.g ?_ | refine Ob.g ?_ | refine Ob.e ?_ | refine Ob.m ?_ | refine Ob.mk (Nat.le_of_ble_eq_true rfl) ?_ | refine JoinVC.on ?_ | refine Nils.mk (fun h => ?_) ?_ | refine Val.t ?_ | refine Val.d ?_ | refine Mm.mk ?_ | (refine Br.mk (fun h => ?_) (fun h => ?_) <;> first | (exfalso; omega; done) | (exfalso; simp at h; done) | skip))
  refine LoopVC.mk (fun n st => ∃ (i : Nat), i ≤ a.length ∧ n = a.length - i ∧ (∀ j, j < i → a.getD j 0 = b.getD j 0) ∧ st = ⟨0, envA 26 [(0, .x (.one (.lst true [.int .i64] (i64s a)))), (1, .x (.one (.lst true [.int .i64] (i64s b)))), (5, .int .i64 (i : Int))], []⟩) _ _ ⟨0, Nat.zero_le _, rfl, fun j hj => absurd hj (Nat.not_lt_zero j), rfl⟩ ?_ ?_
  · refine ⟨[], rfl, rfl, ?_, ?_⟩ <;> repeat' (first | exact trivial | exact rfl | exact Iff.rfl | apply And.intro)
  rintro n _ ⟨i, hi, hm, hj, rfl⟩
  have g1 : rI (i64s a) (i : Int).toNat 0 = a.getD i 0 := by rw [Int.toNat_natCast]; exact i64s_get a i
  have g2 : rI (i64s b) (i : Int).toNat 0 = b.getD i 0 := by rw [Int.toNat_natCast]; exact i64s_get b i
  by_cases hi' : i < a.length
  · by_cases he : a.getD i 0 = b.getD i 0
    · repeat' ((conv => whnf); first | refine Rng.g ?_ | refine Ob.g ?_ | refine Ob.e ?_ | refine Ob.m ?_ | refine Ob.mk (Nat.le_of_ble_eq_true rfl) ?_ | refine JoinVC.on ?_ | refine Nils.mk (fun h => ?_) ?_ | refine Val.t ?_ | refine Val.d ?_ | refine Mm.mk ?_ | (refine Br.mk (fun h => ?_) (fun h => ?_) <;> first | (exfalso; omega; done) | (exfalso; simp at h; done) | skip))
      refine Back.mk (a.length - (i + 1)) _ (by omega) ⟨i + 1, by omega, rfl, fun j hj' => ?_, rfl⟩ ?_
      · rcases Nat.lt_succ_iff_lt_or_eq.1 hj' with h' | rfl
        · exact hj j h'
        · exact he
      · refine ⟨[], rfl, rfl, ?_, ?_⟩ <;> repeat' (first | exact trivial | exact rfl | exact Iff.rfl | apply And.intro)
    · repeat' ((conv => whnf); first | refine Rng.g ?_ | refine Ob.g ?_ | refine Ob.e ?_ | refine Ob.m ?_ | refine Ob.mk (Nat.le_of_ble_eq_true rfl) ?_ | refine JoinVC.on ?_ | refine Nils.mk (fun h => ?_) ?_ | refine Val.t ?_ | refine Val.d ?_ | refine Mm.mk ?_ | (refine Br.mk (fun h => ?_) (fun h => ?_) <;> first | (exfalso; omega; done) | (exfalso; simp at h; done) | skip))
      repeat refine Mm.mk ?_
      refine EndVC.mk _ rfl _ _ ⟨rfl, rfl⟩ ?_
      refine ⟨[], rfl, rfl, ?_, ?_⟩ <;> repeat' (first | exact trivial | exact rfl | exact Iff.rfl | apply And.intro)
      exact fun h => he (by rw [h])
  · repeat' ((conv => whnf); first | refine Rng.g ?_ | refine Ob.g ?_ | refine Ob.e ?_ | refine Ob.m ?_ | refine Ob.mk (Nat.le_of_ble_eq_true rfl) ?_ | refine JoinVC.on ?_ | refine Nils.mk (fun h => ?_) ?_ | refine Val.t ?_ | refine Val.d ?_ | refine Mm.mk ?_ | (refine Br.mk (fun h => ?_) (fun h => ?_) <;> first | (exfalso; omega; done) | (exfalso; simp at h; done) | skip))
    repeat refine Mm.mk ?_
    refine EndVC.mk _ rfl _ _ ⟨rfl, rfl⟩ ?_
    refine ⟨[], rfl, rfl, ?_, ?_⟩ <;> repeat' (first | exact trivial | exact rfl | exact Iff.rfl | apply And.intro)
    exact list_ext_getD hl fun j hj' => hj j (by omega)
theorem s32 : HSpec Tryd.prog 32 [] [] (fun r m' => r = .tup [f4.x, .one (.own 0)] ∧ m' = [some (.row 25 false KSng (sngA l4))]) := by
  refine spec_of pMix (O := []) Tryd.func32 (c := bodyOf Tryd.f32) rfl (by kernel_rfl) (by kernel_rfl) Tryd.ntmps32 (res := [.cell 0 23, .tmp 1]) (by kernel_rfl) ?_
  repeat' ((conv => whnf); first | refine Rng.g ?_ | refine Ob.g ?_ | refine Ob.e ?_ | refine Ob.m ?_ | refine Ob.mk (Nat.le_of_ble_eq_true rfl) ?_ | refine JoinVC.on ?_ | refine Nils.mk (fun h => ?_) ?_ | refine Val.t ?_ | refine Val.d ?_ | refine Mm.mk ?_ | (refine Br.mk (fun h => ?_) (fun h => ?_) <;> first | (exfalso; omega; done) | (exfalso; simp at h; done) | skip))
  repeat refine Mm.mk ?_
  refine EndVC.mk _ rfl _ _ ⟨rfl, rfl⟩ ?_
  refine ⟨[some 2], rfl, rfl, ?_, ?_⟩ <;> repeat' (first | exact trivial | exact rfl | exact Iff.rfl | apply And.intro)
instance (f : Fmt) (l : List Sng) (O : List Int) (i : Nat) : Decidable (okAt f l O i) := by unfold okAt; exact inferInstance
instance (f : Fmt) (l : List Sng) (O : List Int) : Decidable (LayOK f l O) := by unfold LayOK; exact inferInstance
theorem alb4 : AlbOK [f4] l4 := ⟨by decide, fun i hi => by
  have : i = 0 := by simp at hi; omega
  subst this
  exact f4_ok, l4_ok⟩
theorem face4 {k i j : Nat} : faceP [f4] l4 k i j ↔ k = 0 ∧ i < j ∧ j ≤ 3 ∧ LayOK f4 l4 (seqL i (j - i)) := by
  constructor
  · rintro ⟨h1, h2, h3, h4⟩
    have : k = 0 := by simp at h1; omega
    subst this
    exact ⟨rfl, h2, h3, h4⟩
  · rintro ⟨rfl, h2, h3, h4⟩
    exact ⟨by simp, h2, h3, h4⟩
theorem prc4 {p : List Int} (h : PrcOK [f4] l4 (Reach [f4] l4) p) : p = [0, 5, 10, 10] := by
  have f01 : faceP [f4] l4 0 0 1 := face4.2 ⟨rfl, by decide, by decide, by decide⟩
  have f12 : faceP [f4] l4 0 1 2 := face4.2 ⟨rfl, by decide, by decide, by decide⟩
  have f13 : faceP [f4] l4 0 1 3 := face4.2 ⟨rfl, by decide, by decide, by decide⟩
  have n02 : ∀ k, ¬ faceP [f4] l4 k 0 2 := fun k h => (by have := (face4.1 h).2.2.2; revert this; decide)
  have n03 : ∀ k, ¬ faceP [f4] l4 k 0 3 := fun k h => (by have := (face4.1 h).2.2.2; revert this; decide)
  have c : ([f4].getD 0 f0).cost = 5 := rfl
  have r1 : Reach [f4] l4 1 5 := by have := Reach.nil.step f01; rw [c] at this; exact this
  have r2 : Reach [f4] l4 2 10 := by have := r1.step f12; rw [c] at this; exact this
  have r3 : Reach [f4] l4 3 10 := by have := r1.step f13; rw [c] at this; exact this
  have b1 : ∀ x, Reach [f4] l4 1 x → 5 ≤ x := fun x hx => by
    cases hx with
    | @step i _ k c' h1 h2 =>
      have h3 := (reach_bd alb4 h1).1
      have h4 := (face4.1 h2).1
      subst h4
      rw [c]
      omega
  have bb : ∀ n x, (n = 2 ∨ n = 3) → Reach [f4] l4 n x → 10 ≤ x := fun n x hn hx => by
    cases hx with
    | nil => omega
    | @step i _ k c' h1 h2 =>
      have h5 := face4.1 h2
      have h4 := h5.1
      subst h4
      rw [c]
      have hi : i = 0 ∨ i = 1 ∨ i = 2 := by omega
      rcases hi with rfl | rfl | rfl
      · rcases hn with rfl | rfl
        · exact absurd h2 (n02 0)
        · exact absurd h2 (n03 0)
      · have := b1 _ h1
        omega
      · cases h1 with
        | @step i' _ k' c'' g1 g2 =>
          have g5 := face4.1 g2
          have g4 := g5.1
          subst g4
          rw [c]
          have := (reach_bd alb4 g1).1
          omega
  have u : ∀ n v x, n ≤ 3 → Reach [f4] l4 n v → (∀ y, Reach [f4] l4 n y → v ≤ y) → p.getD n 0 = x → x = v := fun n v x hn h1 h2 h3 => by
    rcases h.each n hn with ⟨h4, h5⟩ | ⟨h4, h5, h6⟩
    · exact absurd h1 (h5 v)
    · have a := h6 v h1
      have b := h2 _ h5
      omega
  have hlen : p.length = 4 := h.len
  match p, hlen with
  | [x0, x1, x2, x3], _ =>
    have e0 := u 0 0 x0 (by decide) .nil (fun y hy => (reach_bd alb4 hy).1) rfl
    have e1 := u 1 5 x1 (by decide) r1 b1 rfl
    have e2 := u 2 10 x2 (by decide) r2 (fun y hy => bb 2 y (.inl rfl) hy) rfl
    have e3 := u 3 10 x3 (by decide) r3 (fun y hy => bb 3 y (.inr rfl) hy) rfl
    rw [e0, e1, e2, e3]
theorem s11 : PSpec Tryd.prog 8 [] (xP True) := by
  have n4 : ∀ i, ([f4].getD i f0).nm.size ≤ 9223372036854775807 := fun i => by
    cases i with
    | zero => decide
    | succ n => exact (by decide : f0.nm.size ≤ 9223372036854775807)
  refine spec_of pMix (O := []) Tryd.func8 (c := bodyOf Tryd.f8) rfl (by kernel_rfl) (by kernel_rfl) Tryd.ntmps8 (res := [.tmp 0]) (by kernel_rfl) ?_
  repeat' ((conv => whnf); first | refine Rng.g ?_ | refine Ob.g ?_ | refine Ob.e ?_ | refine Ob.m ?_ | refine Ob.mk (Nat.le_of_ble_eq_true rfl) ?_ | refine JoinVC.on ?_ | refine Nils.mk (fun h => ?_) ?_ | refine Val.t ?_ | refine Val.d ?_ | refine Mm.mk ?_ | (refine Br.mk (fun h => ?_) (fun h => ?_) <;> first | (exfalso; omega; done) | (exfalso; simp at h; done) | skip))
  conv => whnf
  refine CallVC.mk [] _ _ _ rfl rfl rfl (s32) (fun r m' h' => ?_)
  obtain ⟨rfl, rfl⟩ := h'
  conv => whnf
  repeat' ((conv => whnf); first | refine Rng.g ?_ | refine Ob.g ?_ | refine Ob.e ?_ | refine Ob.m ?_ | refine Ob.mk (Nat.le_of_ble_eq_true rfl) ?_ | refine JoinVC.on ?_ | refine Nils.mk (fun h => ?_) ?_ | refine Val.t ?_ | refine Val.d ?_ | refine Mm.mk ?_ | (refine Br.mk (fun h => ?_) (fun h => ?_) <;> first | (exfalso; omega; done) | (exfalso; simp at h; done) | skip))
  conv => whnf
  refine CallVC.mk [] _ _ _ rfl rfl rfl (s18 f4 l4 (by decide) (by decide)) (fun r m' h' => ?_)
  cases h' with
  | bad h hr hm => exact absurd (bothE_ok f4_ok l4_ok) h
  | none _ _ hN hr hm => exact absurd lay4 hN
  | ok _ _ _ hr hm =>
    subst hr hm
    rw [allO4]
    repeat' ((conv => whnf); first | refine Rng.g ?_ | refine Ob.g ?_ | refine Ob.e ?_ | refine Ob.m ?_ | refine Ob.mk (Nat.le_of_ble_eq_true rfl) ?_ | refine JoinVC.on ?_ | refine Nils.mk (fun h => ?_) ?_ | refine Val.t ?_ | refine Val.d ?_ | refine Mm.mk ?_ | (refine Br.mk (fun h => ?_) (fun h => ?_) <;> first | (exfalso; omega; done) | (exfalso; simp at h; done) | skip))
    conv => whnf
    refine CallVC.mk [] _ _ _ rfl rfl rfl (s33 [f4] l4 n4) (fun r m' h' => ?_)
    rcases h' with ⟨he, rfl, rfl⟩ | ⟨_, p, hp, rfl, rfl⟩
    · exact absurd (fmsE_0.2 alb4) he
    rw [prc4 hp]
    have k1 := s26 [1, 0, 2] [1, 0, 2] (by decide)
    have k2 := s34 [0, 5, 10, 10] [0, 5, 10, 10] (by decide)
    repeat' ((conv => whnf); first | refine Rng.g ?_ | refine Ob.g ?_ | refine Ob.e ?_ | refine Ob.m ?_ | refine Ob.mk (Nat.le_of_ble_eq_true rfl) ?_ | refine JoinVC.on ?_ | refine Nils.mk (fun h => ?_) ?_ | refine Val.t ?_ | refine Val.d ?_ | refine Mm.mk ?_ | refine CallVC.pure rfl (k1) ?_ | refine CallVC.pure rfl (k2) ?_ | refine CallVC0.pure rfl (k1) ?_ | refine CallVC0.pure rfl (k2) ?_ | (refine Br.mk (fun h => ?_) (fun h => ?_) <;> first | (exfalso; omega; done) | (exfalso; simp at h; done) | skip))
    repeat refine Mm.mk ?_
    refine EndVC.mk _ rfl _ _ ⟨rfl, rfl⟩ ?_
    refine ⟨[], rfl, rfl, ?_, ?_⟩ <;> repeat' (first | exact trivial | exact rfl | exact Iff.rfl | apply And.intro)
    exact ⟨fun _ => trivial, fun _ => rfl⟩
end Go.Sx

namespace Go.Sx
open Go Go.Proofs
set_option maxRecDepth 10000
set_option maxHeartbeats 16000000
open Classical in
/-- What opening for few tracks answers. -/
noncomputable def fewE (f : Fmt) (l : List Sng) : Int := if bothE f l ≠ 0 then bothE f l else if 8 < l.length then 6 else 0
theorem fewE_bad {f : Fmt} {l : List Sng} (h : bothE f l ≠ 0) : fewE f l = bothE f l := if_pos h
theorem fewE_many {f : Fmt} {l : List Sng} (hf : FmtOK f) (hg : SngsOK l) (h : 8 < l.length) : fewE f l = 6 := by unfold fewE; rw [if_neg (fun h2 => h2 (bothE_ok hf hg)), if_pos h]
theorem fewE_ok {f : Fmt} {l : List Sng} (hf : FmtOK f) (hg : SngsOK l) (h : l.length ≤ 8) : fewE f l = 0 := by unfold fewE; rw [if_neg (fun h2 => h2 (bothE_ok hf hg)), if_neg (by omega)]
theorem s55 (f : Fmt) (l : List Sng) (hI : f.nm.size ≤ 9223372036854775807) : HSpec Tryd.prog 58 [f.x, lSng l] [] (fun r m' => (fewE f l ≠ 0 ∧ r = .tup [.one .nilp, I (fewE f l)] ∧ m' = []) ∨ (fewE f l ≠ 0 ∧ r = .tup [.one (.ptr 0 0), I (fewE f l)] ∧ m' = [some (bPl f l)]) ∨ (FmtOK f ∧ SngsOK l ∧ l.length ≤ 8 ∧ r = .tup [.one (.ptr 0 0), I 0] ∧ m' = [some (bPl f l)])) := by
  have ll := sngA_len l
  refine spec_of pMix (O := []) Tryd.func58 (c := bodyOf Tryd.f58) rfl (by kernel_rfl) (by kernel_rfl) Tryd.ntmps58 (res := [.tmp 4, .tmp 5]) (by kernel_rfl) ?_
  repeat' ((conv => whnf); first | refine Rng.g ?_ | refine Ob.g ?_ | refine Ob.e ?_ | refine Ob.m ?_ | refine Ob.mk (Nat.le_of_ble_eq_true rfl) ?_ | refine JoinVC.on ?_ | refine Nils.mk (fun h => ?_) ?_ | refine Val.t ?_ | refine Val.d ?_ | refine Mm.mk ?_ | (refine Br.mk (fun h => ?_) (fun h => ?_) <;> first | (exfalso; omega; done) | (exfalso; simp at h; done) | skip))
  conv => whnf
  refine CallVC.mk [] _ _ _ rfl rfl rfl (s35 f l hI) (fun r m' h' => ?_)
  rcases h' with ⟨hn, rfl, rfl⟩ | ⟨hf, hg, rfl, rfl⟩
  · repeat' ((conv => whnf); first | refine Rng.g ?_ | refine Ob.g ?_ | refine Ob.e ?_ | refine Ob.m ?_ | refine Ob.mk (Nat.le_of_ble_eq_true rfl) ?_ | refine JoinVC.on ?_ | refine Nils.mk (fun h => ?_) ?_ | refine Val.t ?_ | refine Val.d ?_ | refine Mm.mk ?_ | (refine Br.mk (fun h => ?_) (fun h => ?_) <;> first | (exfalso; omega; done) | (exfalso; simp at h; done) | skip))
    repeat refine Mm.mk ?_
    conv => whnf
    refine EndVC.mk _ rfl _ _ (.inl ⟨by rw [fewE_bad hn]; exact hn, by rw [fewE_bad hn], rfl⟩) ?_
    refine ⟨[], rfl, rfl, ?_, ?_⟩ <;> repeat' (first | exact trivial | exact rfl | exact Iff.rfl | apply And.intro)
  · by_cases h8 : l.length ≤ 8
    · repeat' ((conv => whnf); first | refine Rng.g ?_ | refine Ob.g ?_ | refine Ob.e ?_ | refine Ob.m ?_ | refine Ob.mk (Nat.le_of_ble_eq_true rfl) ?_ | refine JoinVC.on ?_ | refine Nils.mk (fun h => ?_) ?_ | refine Val.t ?_ | refine Val.d ?_ | refine Mm.mk ?_ | (refine Br.mk (fun h => ?_) (fun h => ?_) <;> first | (exfalso; omega; done) | (exfalso; simp at h; done) | skip))
      repeat refine Mm.mk ?_
      conv => whnf
      refine EndVC.mk _ rfl _ _ (.inr (.inr ⟨hf, hg, h8, rfl, rfl⟩)) ?_
      refine ⟨[some 1], rfl, rfl, ?_, ?_⟩ <;> repeat' (first | exact trivial | exact rfl | exact Iff.rfl | apply And.intro)
    · have e := fewE_many hf hg (by omega)
      repeat' ((conv => whnf); first | refine Rng.g ?_ | refine Ob.g ?_ | refine Ob.e ?_ | refine Ob.m ?_ | refine Ob.mk (Nat.le_of_ble_eq_true rfl) ?_ | refine JoinVC.on ?_ | refine Nils.mk (fun h => ?_) ?_ | refine Val.t ?_ | refine Val.d ?_ | refine Mm.mk ?_ | (refine Br.mk (fun h => ?_) (fun h => ?_) <;> first | (exfalso; omega; done) | (exfalso; simp at h; done) | skip))
      repeat refine Mm.mk ?_
      conv => whnf
      refine EndVC.mk _ rfl _ _ (.inr (.inl ⟨by rw [e]; decide, by rw [e], rfl⟩)) ?_
      refine ⟨[some 1], rfl, rfl, ?_, ?_⟩ <;> repeat' (first | exact trivial | exact rfl | exact Iff.rfl | apply And.intro)
/-- The best packing, as both find it. -/
inductive PaRs (f : Fmt) (l : List Sng) (r : AV) (m' : List (Option Blk)) : Prop
  | bad (h : fewE f l ≠ 0) (hr : r = .tup [.one .nils, I 0, I (fewE f l)]) (hm : m' = [])
  | none (hf : FmtOK f) (hg : SngsOK l) (h8 : l.length ≤ 8) (h : ∀ s, s ≤ l.length → packR f l s = none) (hr : r = .tup [.one .nils, I 0, I 15]) (hm : m' = [])
  | some (hf : FmtOK f) (hg : SngsOK l) (h8 : l.length ≤ 8) (s : Nat) (q : List Int) (hs : s ≤ l.length) (h : ∀ j, j < s → packR f l j = none) (hq : packR f l s = some q) (hr : r = .tup [.one (.lst false [.int .i64] (i64s q)), I (s : Int), I 0]) (hm : m' = [])
theorem s22 (f : Fmt) (l : List Sng) (hI : f.nm.size ≤ 9223372036854775807) : HSpec Tryd.prog 31 [f.x, lSng l] [] (PaRs f l) := by
  have ll := sngA_len l
  refine spec_of pMix (O := []) Tryd.func31 (c := bodyOf Tryd.f31) rfl (by kernel_rfl) (by kernel_rfl) Tryd.ntmps31 (res := [.tmp 4, .tmp 5, .tmp 6]) (by kernel_rfl) ?_
  repeat' ((conv => whnf); first | refine Rng.g ?_ | refine Ob.g ?_ | refine Ob.e ?_ | refine Ob.m ?_ | refine Ob.mk (Nat.le_of_ble_eq_true rfl) ?_ | refine JoinVC.on ?_ | refine Nils.mk (fun h => ?_) ?_ | refine Val.t ?_ | refine Val.d ?_ | refine Mm.mk ?_ | (refine Br.mk (fun h => ?_) (fun h => ?_) <;> first | (exfalso; omega; done) | (exfalso; simp at h; done) | skip))
  conv => whnf
  refine CallVC.mk [] _ _ _ rfl rfl rfl (s55 f l hI) (fun r m' h' => ?_)
  rcases h' with ⟨he, rfl, rfl⟩ | ⟨he, rfl, rfl⟩ | ⟨hf, hg, h8, rfl, rfl⟩
  · repeat' ((conv => whnf); first | refine Rng.g ?_ | refine Ob.g ?_ | refine Ob.e ?_ | refine Ob.m ?_ | refine Ob.mk (Nat.le_of_ble_eq_true rfl) ?_ | refine JoinVC.on ?_ | refine Nils.mk (fun h => ?_) ?_ | refine Val.t ?_ | refine Val.d ?_ | refine Mm.mk ?_ | (refine Br.mk (fun h => ?_) (fun h => ?_) <;> first | (exfalso; omega; done) | (exfalso; simp at h; done) | skip))
    repeat refine Mm.mk ?_
    conv => whnf
    refine EndVC.mk _ rfl _ _ (.bad he rfl rfl) ?_
    refine ⟨[], rfl, rfl, ?_, ?_⟩ <;> repeat' (first | exact trivial | exact rfl | exact Iff.rfl | apply And.intro)
  · repeat' ((conv => whnf); first | refine Rng.g ?_ | refine Ob.g ?_ | refine Ob.e ?_ | refine Ob.m ?_ | refine Ob.mk (Nat.le_of_ble_eq_true rfl) ?_ | refine JoinVC.on ?_ | refine Nils.mk (fun h => ?_) ?_ | refine Val.t ?_ | refine Val.d ?_ | refine Mm.mk ?_ | (refine Br.mk (fun h => ?_) (fun h => ?_) <;> first | (exfalso; omega; done) | (exfalso; simp at h; done) | skip))
    repeat refine Mm.mk ?_
    conv => whnf
    refine EndVC.mk _ rfl _ _ (.bad he rfl rfl) ?_
    refine ⟨[], rfl, rfl, ?_, ?_⟩ <;> repeat' (first | exact trivial | exact rfl | exact Iff.rfl | apply And.intro)
  repeat' ((conv => whnf); first | refine Rng.g ?_ | refine Ob.g ?_ | refine Ob.e ?_ | refine Ob.m ?_ | refine Ob.mk (Nat.le_of_ble_eq_true rfl) ?_ | refine JoinVC.on ?_ | refine Nils.mk (fun h => ?_) ?_ | refine Val.t ?_ | refine Val.d ?_ | refine Mm.mk ?_ | (refine Br.mk (fun h => ?_) (fun h => ?_) <;> first | (exfalso; omega; done) | (exfalso; simp at h; done) | skip))
  refine LoopVC.mk (fun n st => ∃ (s : Nat), s ≤ l.length ∧ n = l.length - s ∧ (∀ j, j < s → packR f l j = none) ∧ st = ⟨0, envA 38 [(1, .x (lSng l)), (7, .x (.one (.ptr 0 0))), (9, .int .i64 (s : Int))], [some (bPl f l)]⟩) _ _ ⟨0, Nat.zero_le _, rfl, fun j hj => absurd hj (Nat.not_lt_zero j), rfl⟩ ?_ ?_
  · refine ⟨[some 1], rfl, rfl, ?_, ?_⟩ <;> repeat' (first | exact trivial | exact rfl | exact Iff.rfl | apply And.intro)
  rintro n _ ⟨s, hs, hn, hno, rfl⟩
  repeat' ((conv => whnf); first | refine Rng.g ?_ | refine Ob.g ?_ | refine Ob.e ?_ | refine Ob.m ?_ | refine Ob.mk (Nat.le_of_ble_eq_true rfl) ?_ | refine JoinVC.on ?_ | refine Nils.mk (fun h => ?_) ?_ | refine Val.t ?_ | refine Val.d ?_ | refine Mm.mk ?_ | (refine Br.mk (fun h => ?_) (fun h => ?_) <;> first | (exfalso; omega; done) | (exfalso; simp at h; done) | skip))
  conv => whnf
  refine CallVC.mk [0] _ _ _ rfl rfl rfl (s56 f l hf hg h8 s (by omega)) (fun r m' h' => ?_)
  rcases h' with ⟨hp, rfl, rfl⟩ | ⟨q, hp, rfl, rfl⟩
  · by_cases hs' : s = l.length
    · repeat' ((conv => whnf); first | refine Rng.g ?_ | refine Ob.g ?_ | refine Ob.e ?_ | refine Ob.m ?_ | refine Ob.mk (Nat.le_of_ble_eq_true rfl) ?_ | refine JoinVC.on ?_ | refine Nils.mk (fun h => ?_) ?_ | refine Val.t ?_ | refine Val.d ?_ | refine Mm.mk ?_ | (refine Br.mk (fun h => ?_) (fun h => ?_) <;> first | (exfalso; omega; done) | (exfalso; simp at h; done) | skip))
      repeat refine Mm.mk ?_
      conv => whnf
      refine EndVC.mk _ rfl _ _ (.none hf hg h8 (fun j hj => (by rcases Nat.lt_or_eq_of_le hj with h1 | h1; exact hno j (by omega); rw [h1, ← hs']; exact hp)) rfl rfl) ?_
      refine ⟨[], rfl, rfl, ?_, ?_⟩ <;> repeat' (first | exact trivial | exact rfl | exact Iff.rfl | apply And.intro)
    · repeat' ((conv => whnf); first | refine Rng.g ?_ | refine Ob.g ?_ | refine Ob.e ?_ | refine Ob.m ?_ | refine Ob.mk (Nat.le_of_ble_eq_true rfl) ?_ | refine JoinVC.on ?_ | refine Nils.mk (fun h => ?_) ?_ | refine Val.t ?_ | refine Val.d ?_ | refine Mm.mk ?_ | (refine Br.mk (fun h => ?_) (fun h => ?_) <;> first | (exfalso; omega; done) | (exfalso; simp at h; done) | skip))
      refine Back.mk (l.length - (s + 1)) _ (by omega) ⟨s + 1, by omega, rfl, fun j hj => ?_, rfl⟩ ?_
      · rcases Nat.lt_succ_iff_lt_or_eq.1 hj with h' | rfl
        · exact hno j h'
        · exact hp
      · refine ⟨[some 0], rfl, rfl, ?_, ?_⟩ <;> repeat' (first | exact trivial | exact rfl | exact Iff.rfl | apply And.intro)
  · repeat' ((conv => whnf); first | refine Rng.g ?_ | refine Ob.g ?_ | refine Ob.e ?_ | refine Ob.m ?_ | refine Ob.mk (Nat.le_of_ble_eq_true rfl) ?_ | refine JoinVC.on ?_ | refine Nils.mk (fun h => ?_) ?_ | refine Val.t ?_ | refine Val.d ?_ | refine Mm.mk ?_ | (refine Br.mk (fun h => ?_) (fun h => ?_) <;> first | (exfalso; omega; done) | (exfalso; simp at h; done) | skip))
    repeat refine Mm.mk ?_
    conv => whnf
    refine EndVC.mk _ rfl _ _ (.some hf hg h8 s q hs hno hp rfl rfl) ?_
    refine ⟨[], rfl, rfl, ?_, ?_⟩ <;> repeat' (first | exact trivial | exact rfl | exact Iff.rfl | apply And.intro)
end Go.Sx

namespace Go.Sx
open Go Go.Proofs
set_option maxRecDepth 10000
set_option maxHeartbeats 16000000
/-! ### The usual order, by insertion from the end -/
end Go.Sx

namespace Go.Sx
open Go Go.Proofs
set_option maxRecDepth 10000
set_option maxHeartbeats 16000000
@[reducible] def bFm (f : Fmt) : Blk := .box 23 [.str f.nm, .int .i64 f.outer, .int .i64 f.inner, .int .i64 f.per, .int .i64 f.lead, .int .i64 f.gap, .int .i64 f.tail, .int .i64 f.cost]
/-! ### The least number of sides by width -/
noncomputable def widS (f : Fmt) (l : List Sng) : Nat → Int
  | 0 => 0
  | n + 1 => widS f l n + (widF f (l.getD n g0) + f.gap)
theorem widS_bd {f : Fmt} {l : List Sng} (hf : FmtOK f) (hg : SngsOK l) : ∀ n, n ≤ l.length → 0 ≤ widS f l n ∧ widS f l n ≤ (n : Int) * 68723671040
  | 0, _ => by simp [widS]
  | n + 1, h => by
    have ih := widS_bd hf hg n (by omega)
    have hw := (wid_bd hf.per.1 (hg.each n (by omega))).2
    have h5 := hf.gap
    unfold widS
    omega
def roomF (f : Fmt) : Int := f.outer - f.inner - f.lead - f.tail
open Classical in
noncomputable def fewC (f : Fmt) (l : List Sng) : Int := if fewE f l ≠ 0 then fewE f l else if roomF f < 1 then 14 else 0
open Classical in
noncomputable def fewN (f : Fmt) (l : List Sng) : Int := if fewE f l ≠ 0 then 0 else if roomF f < 1 then 0 else (widS f l l.length + (roomF f + f.gap) - 1) / (roomF f + f.gap)
theorem fewC_bad {f : Fmt} {l : List Sng} (h : fewE f l ≠ 0) : fewC f l = fewE f l ∧ fewN f l = 0 := ⟨if_pos h, if_pos h⟩
theorem fewC_lim {f : Fmt} {l : List Sng} (h : fewE f l = 0) (h2 : roomF f < 1) : fewC f l = 14 ∧ fewN f l = 0 := by
  exact ⟨(if_neg (fun h3 => h3 h)).trans (if_pos h2), (if_neg (fun h3 => h3 h)).trans (if_pos h2)⟩
theorem fewC_ok {f : Fmt} {l : List Sng} (h : fewE f l = 0) (h2 : ¬ roomF f < 1) : fewC f l = 0 ∧ fewN f l = (widS f l l.length + (roomF f + f.gap) - 1) / (roomF f + f.gap) := by
  exact ⟨(if_neg (fun h3 => h3 h)).trans (if_neg h2), (if_neg (fun h3 => h3 h)).trans (if_neg h2)⟩
theorem s24 (f : Fmt) (l : List Sng) (hI : f.nm.size ≤ 9223372036854775807) : PSpec Tryd.prog 34 [f.x, lSng l] (.tup [I (fewN f l), I (fewC f l)]) := by
  have ll := sngA_len l
  refine spec_of pMix (O := [(11, ([], [⟨0, [], []⟩, ⟨1, [], []⟩, ⟨2, [], []⟩, ⟨4, [], []⟩, ⟨5, [], []⟩, ⟨3, [0, 4, 5], []⟩, ⟨6, [], []⟩, ⟨7, [], []⟩, ⟨8, [], []⟩]))]) Tryd.func34 (c := bodyOf Tryd.f34) rfl (by kernel_rfl) (by kernel_rfl) Tryd.ntmps34 (res := [.tmp 4, .tmp 5]) (by kernel_rfl) ?_
  repeat' ((conv => whnf); first | refine Rng.g ?_ | refine Ob.g ?_ | refine Ob.e ?_ | refine Ob.m ?_ | refine Ob.mk (Nat.le_of_ble_eq_true rfl) ?_ | refine JoinVC.on ?_ | refine Nils.mk (fun h => ?_) ?_ | refine Val.t ?_ | refine Val.d ?_ | refine Mm.mk ?_ | (refine Br.mk (fun h => ?_) (fun h => ?_) <;> first | (exfalso; omega; done) | (exfalso; simp at h; done) | skip))
  conv => whnf
  refine CallVC.mk [] _ _ _ rfl rfl rfl (s55 f l hI) (fun r m' h' => ?_)
  rcases h' with ⟨he, rfl, rfl⟩ | ⟨he, rfl, rfl⟩ | ⟨hf, hg, h8, rfl, rfl⟩
  · obtain ⟨e1, e2⟩ := fewC_bad he
    rw [e1, e2]
    repeat' ((conv => whnf); first | refine Rng.g ?_ | refine Ob.g ?_ | refine Ob.e ?_ | refine Ob.m ?_ | refine Ob.mk (Nat.le_of_ble_eq_true rfl) ?_ | refine JoinVC.on ?_ | refine Nils.mk (fun h => ?_) ?_ | refine Val.t ?_ | refine Val.d ?_ | refine Mm.mk ?_ | (refine Br.mk (fun h => ?_) (fun h => ?_) <;> first | (exfalso; omega; done) | (exfalso; simp at h; done) | skip))
    repeat refine Mm.mk ?_
    refine EndVC.mk _ rfl _ _ ⟨rfl, rfl⟩ ?_
    refine ⟨[], rfl, rfl, ?_, ?_⟩ <;> repeat' (first | exact trivial | exact rfl | exact Iff.rfl | apply And.intro)
  · obtain ⟨e1, e2⟩ := fewC_bad he
    rw [e1, e2]
    repeat' ((conv => whnf); first | refine Rng.g ?_ | refine Ob.g ?_ | refine Ob.e ?_ | refine Ob.m ?_ | refine Ob.mk (Nat.le_of_ble_eq_true rfl) ?_ | refine JoinVC.on ?_ | refine Nils.mk (fun h => ?_) ?_ | refine Val.t ?_ | refine Val.d ?_ | refine Mm.mk ?_ | (refine Br.mk (fun h => ?_) (fun h => ?_) <;> first | (exfalso; omega; done) | (exfalso; simp at h; done) | skip))
    repeat refine Mm.mk ?_
    refine EndVC.mk _ rfl _ _ ⟨rfl, rfl⟩ ?_
    refine ⟨[], rfl, rfl, ?_, ?_⟩ <;> repeat' (first | exact trivial | exact rfl | exact Iff.rfl | apply And.intro)
  have h0 := fewE_ok hf hg h8
  have hf1 := hf.outer
  have hf2 := hf.lead
  have hf3 := hf.gap
  have hf4 := hf.tail
  have hf5 := hf.inner
  have er : f.outer - f.inner - f.lead - f.tail = roomF f := rfl
  by_cases hr : roomF f < 1
  · obtain ⟨e1, e2⟩ := fewC_lim h0 hr
    rw [e1, e2]
    repeat' ((conv => whnf); first | rw [er] | refine Rng.g ?_ | refine Ob.g ?_ | refine Ob.e ?_ | refine Ob.m ?_ | refine Ob.mk (Nat.le_of_ble_eq_true rfl) ?_ | refine JoinVC.on ?_ | refine Nils.mk (fun h => ?_) ?_ | refine Val.t ?_ | refine Val.d ?_ | refine Mm.mk ?_ | (refine Br.mk (fun h => ?_) (fun h => ?_) <;> first | (exfalso; omega; done) | (exfalso; simp at h; done) | skip))
    repeat refine Mm.mk ?_
    refine EndVC.mk _ rfl _ _ ⟨rfl, rfl⟩ ?_
    refine ⟨[], rfl, rfl, ?_, ?_⟩ <;> repeat' (first | exact trivial | exact rfl | exact Iff.rfl | apply And.intro)
  obtain ⟨e1, e2⟩ := fewC_ok h0 hr
  rw [e1, e2]
  repeat' ((conv => whnf); first | rw [er] | refine Rng.g ?_ | refine Ob.g ?_ | refine Ob.e ?_ | refine Ob.m ?_ | refine Ob.mk (Nat.le_of_ble_eq_true rfl) ?_ | refine JoinVC.on ?_ | refine Nils.mk (fun h => ?_) ?_ | refine Val.t ?_ | refine Val.d ?_ | refine Mm.mk ?_ | (refine Br.mk (fun h => ?_) (fun h => ?_) <;> first | (exfalso; omega; done) | (exfalso; simp at h; done) | skip))
  refine LoopVC.mk (fun n st => ∃ (i : Nat), i ≤ l.length ∧ n = l.length - i ∧ st = ⟨0, envA 60 [(1, .x (lSng l)), (2, .x (.one (.ptr 0 0))), (6, .x (.one (.ptr 1 0))), (8, .int .i64 (roomF f)), (9, .int .i64 (widS f l i)), (35, .x (lSng l)), (36, .int .i64 (l.length : Int)), (37, .int .i64 (i : Int))], [some (bFm f), some (bPl f l)]⟩) _ _ ⟨0, Nat.zero_le _, rfl, rfl⟩ ?_ ?_
  · refine ⟨[some 0, some 1], rfl, rfl, ?_, ?_⟩ <;> repeat' (first | exact trivial | exact rfl | exact Iff.rfl | apply And.intro)
    exact congrArg Int.ofNat ll
  rintro n _ ⟨i, hi, hn, rfl⟩
  have hb := widS_bd hf hg i hi
  have hr2 : roomF f ≤ 4194304 := by unfold roomF; omega
  by_cases hi' : i < l.length
  · have c0 : rI (sngA l) (i : Int).toNat 0 = (l.getD i g0).long := by rw [Int.toNat_natCast]; exact sngA_0 l _
    have c1 : rI (sngA l) (i : Int).toNat (0 + 1) = (l.getD i g0).pitch := by rw [Int.toNat_natCast]; exact sngA_1 l _
    have c2 : rI (sngA l) (i : Int).toNat (0 + 1 + 1) = (l.getD i g0).least := by rw [Int.toNat_natCast]; exact sngA_2 l _
    have hgk := hg.each i hi'
    have hw := (wid_bd hf.per.1 hgk).2
    have hb2 := widS_bd hf hg (i + 1) hi'
    repeat' ((conv => whnf); first | rw [c0] | rw [c1] | rw [c2] | refine Rng.g ?_ | refine Ob.g ?_ | refine Ob.e ?_ | refine Ob.m ?_ | refine Ob.mk (Nat.le_of_ble_eq_true rfl) ?_ | refine JoinVC.on ?_ | refine Nils.mk (fun h => ?_) ?_ | refine Val.t ?_ | refine Val.d ?_ | refine Mm.mk ?_ | (refine Br.mk (fun h => ?_) (fun h => ?_) <;> first | (exfalso; omega; done) | (exfalso; simp at h; done) | skip))
    conv => whnf
    refine CallVC0.same [1] _ _ _ rfl rfl rfl rfl (s43 f (some l) (l.getD i g0) hf hgk) (fun r m' h' => (by obtain ⟨rfl, rfl⟩ := h'; rfl)) (fun r m' h' => ?_)
    obtain ⟨rfl, rfl⟩ := h'
    conv => whnf
    repeat' ((conv => whnf); first | refine Rng.g ?_ | refine Ob.g ?_ | refine Ob.e ?_ | refine Ob.m ?_ | refine Ob.mk (Nat.le_of_ble_eq_true rfl) ?_ | refine JoinVC.on ?_ | refine Nils.mk (fun h => ?_) ?_ | refine Val.t ?_ | refine Val.d ?_ | refine Mm.mk ?_ | (refine Br.mk (fun h => ?_) (fun h => ?_) <;> first | (exfalso; omega; done) | (exfalso; simp at h; done) | skip))
    refine Back.mk (l.length - (i + 1)) _ (by omega) ⟨i + 1, by omega, rfl, rfl⟩ ?_
    refine ⟨[some 0, some 1], rfl, rfl, ?_, ?_⟩ <;> repeat' (first | exact trivial | exact rfl | exact Iff.rfl | apply And.intro)
  have ei : i = l.length := by omega
  subst ei
  obtain ⟨Q, hQ⟩ : ∃ Q, (widS f l l.length + (roomF f + f.gap) - 1) / (roomF f + f.gap) = Q := ⟨_, rfl⟩
  have hQ1 : 0 ≤ Q := by rw [← hQ]; exact Int.ediv_nonneg (by omega) (by omega)
  have hQ2 : Q ≤ widS f l l.length + (roomF f + f.gap) - 1 := by rw [← hQ]; exact Int.ediv_le_self _ (by omega)
  rw [hQ]
  repeat' ((conv => whnf); first | rw [hQ] | refine Rng.g ?_ | refine Ob.g ?_ | refine Ob.e ?_ | refine Ob.m ?_ | refine Ob.mk (Nat.le_of_ble_eq_true rfl) ?_ | refine JoinVC.on ?_ | refine Nils.mk (fun h => ?_) ?_ | refine Val.t ?_ | refine Val.d ?_ | refine Mm.mk ?_ | (refine Br.mk (fun h => ?_) (fun h => ?_) <;> first | (exfalso; omega; done) | (exfalso; simp at h; done) | skip))
  repeat refine Mm.mk ?_
  refine EndVC.mk _ rfl _ _ ⟨rfl, rfl⟩ ?_
  refine ⟨[], rfl, rfl, ?_, ?_⟩ <;> repeat' (first | exact trivial | exact rfl | exact Iff.rfl | apply And.intro)
end Go.Sx

namespace Go.Sx
open Go Go.Proofs
set_option maxRecDepth 10000
set_option maxHeartbeats 8000000
/-! ### Rows as arrays: for the sorts of the library -/
@[reducible] def rowA (d : Array Int) : Blk := rowOd d.toList
theorem arr_len (d : Array Int) : (i64s d.toList).length = d.size := by rw [i64s_len, Array.length_toList]
theorem arr_getD (d : Array Int) (i : Nat) : d.toList.getD i 0 = d[i]! := by
  rw [List.getD_eq_getElem?_getD, Array.getElem?_toList]
  by_cases h : i < d.size
  · rw [getElem!_pos d i h, Array.getElem?_eq_getElem h]; rfl
  · rw [getElem!_neg d i h, Array.getElem?_eq_none (by omega)]; rfl
theorem arr_get (d : Array Int) (i : Nat) : rI (i64s d.toList) i 0 = d[i]! := (i64s_get d.toList i).trans (arr_getD d i)
theorem arr_up1 (d : Array Int) (i : Nat) (v : Int) (h : i < d.size) : updRow (i64s d.toList) i 0 [.int v] = i64s (d.toList.set i v) := i64s_upd' _ _ _ (by rw [Array.length_toList]; exact h)
theorem arr_up2 (d : Array Int) (i j : Nat) (hj : j < d.size) : updRow (i64s (d.toList.set i d[j]!)) j 0 [.int d[i]!] = i64s (Go.Sort.swp d i j).toList := by
  rw [i64s_upd' _ _ _ (by rw [List.length_set, Array.length_toList]; exact hj)]
  unfold Go.Sort.swp
  rw [Array.toList_setIfInBounds, Array.toList_setIfInBounds]
theorem arr_l1 (d : Array Int) (i : Nat) (v : Int) : (i64s (d.toList.set i v)).length = d.size := by rw [i64s_len, List.length_set, Array.length_toList]
/-- All of them are numbers below m. -/
def InA (d : Array Int) (m : Nat) : Prop := ∀ i, i < d.size → 0 ≤ d[i]! ∧ d[i]! < m
theorem InA.swp {d : Array Int} {m : Nat} (h : InA d m) {i j : Nat} (hi : i < d.size) (hj : j < d.size) : InA (Go.Sort.swp d i j) m := fun k hk => by
  rw [Go.Sort.size_swp] at hk
  rw [Go.Sort.swp_get d hi hj]
  split
  · exact h _ hi
  · split
    · exact h _ hj
    · exact h _ hk
theorem int_yes {x y : Int} (h : Go.Sort.ltInt x y = true) : x < y := of_decide_eq_true h
theorem int_no {x y : Int} (h : ¬ Go.Sort.ltInt x y = true) : ¬ x < y := fun hc => h (decide_eq_true hc)
/-! ### One round of each loop -/
section
variable {lt : Int → Int → Bool}
theorem insI_stop {a j : Nat} (d : Array Int) (h : j ≤ a) : Go.Sort.insInner lt a j d = d := by
  cases j with
  | zero => rfl
  | succ j =>
    unfold Go.Sort.insInner
    rw [if_neg (by simp; omega)]
theorem insI_no {a j : Nat} (d : Array Int) (h : ¬ lt d[j + 1]! d[j]! = true) : Go.Sort.insInner lt a (j + 1) d = d := by
  unfold Go.Sort.insInner
  rw [if_neg (by simp [h])]
theorem insI_yes {a j : Nat} (d : Array Int) (h : a < j + 1) (h2 : lt d[j + 1]! d[j]! = true) : Go.Sort.insInner lt a (j + 1) d = Go.Sort.insInner lt a j (Go.Sort.swp d (j + 1) j) := by
  conv => lhs; unfold Go.Sort.insInner
  rw [if_pos (by simp [h2]; omega)]
theorem insO_yes {a b i : Nat} (d : Array Int) (h : i < b) : Go.Sort.insOuter lt a b i d = Go.Sort.insOuter lt a b (i + 1) (Go.Sort.insInner lt a i d) := by
  conv => lhs; rw [Go.Sort.insOuter]
  rw [if_pos h]
theorem insO_no {a b i : Nat} (d : Array Int) (h : ¬ i < b) : Go.Sort.insOuter lt a b i d = d := by
  rw [Go.Sort.insOuter, if_neg h]
end
end Go.Sx

namespace Go.Sx
open Go Go.Proofs
set_option maxRecDepth 10000
set_option maxHeartbeats 16000000
/-! ### Insertion -/
/-! ### Heaps -/
end Go.Sx

namespace Go.Sx
open Go Go.Proofs
set_option maxRecDepth 10000
set_option maxHeartbeats 16000000
/-! ### Partitions -/
end Go.Sx

namespace Go.Sx
open Go Go.Proofs
set_option maxRecDepth 10000
set_option maxHeartbeats 16000000
/-! ### Numbers for the sorts -/
/-- The number of bits. -/
def bl (n : Int) : Int := if n < 1 then 0 else if n < 2 then 1 else if n < 4 then 2 else if n < 8 then 3 else if n < 16 then 4 else 5
theorem s99b (n : Int) (hn : 0 ≤ n ∧ n ≤ 24) : HSpec Tryd.prog 94 [.one (.int .u64 n)] [] (fun r m' => r = .x (I (bl n)) ∧ m' = []) := by
  have hc : n = 0 ∨ n = 1 ∨ n = 2 ∨ n = 3 ∨ n = 4 ∨ n = 5 ∨ n = 6 ∨ n = 7 ∨ n = 8 ∨ n = 9 ∨ n = 10 ∨ n = 11 ∨ n = 12 ∨ n = 13 ∨ n = 14 ∨ n = 15 ∨ n = 16 ∨ n = 17 ∨ n = 18 ∨ n = 19 ∨ n = 20 ∨ n = 21 ∨ n = 22 ∨ n = 23 ∨ n = 24 := by omega
  rcases hc with rfl | rfl | rfl | rfl | rfl | rfl | rfl | rfl | rfl | rfl | rfl | rfl | rfl | rfl | rfl | rfl | rfl | rfl | rfl | rfl | rfl | rfl | rfl | rfl | rfl
  all_goals
    refine spec_of pMix (O := []) Tryd.func94 (c := bodyOf Tryd.f94) rfl (by kernel_rfl) (by kernel_rfl) Tryd.ntmps94 (res := [.tmp 2]) (by kernel_rfl) ?_
    repeat' ((conv => whnf); first | refine Rng.g ?_ | refine Ob.g ?_ | refine Ob.e ?_ | refine Ob.m ?_ | refine Ob.mk (Nat.le_of_ble_eq_true rfl) ?_ | refine JoinVC.on ?_ | refine Nils.mk (fun h => ?_) ?_ | refine Val.t ?_ | refine Val.d ?_ | refine Mm.mk ?_ | (refine Br.mk (fun h => ?_) (fun h => ?_) <;> first | (exfalso; omega; done) | (exfalso; simp at h; done) | skip))
    refine Rng.ok (rngU8 _) ?_
    repeat' ((conv => whnf); first | refine Rng.g ?_ | refine Ob.g ?_ | refine Ob.e ?_ | refine Ob.m ?_ | refine Ob.mk (Nat.le_of_ble_eq_true rfl) ?_ | refine JoinVC.on ?_ | refine Nils.mk (fun h => ?_) ?_ | refine Val.t ?_ | refine Val.d ?_ | refine Mm.mk ?_ | (refine Br.mk (fun h => ?_) (fun h => ?_) <;> first | (exfalso; omega; done) | (exfalso; simp at h; done) | skip))
    refine Rng.ok (rngU8' _) ?_
    repeat' ((conv => whnf); first | refine Rng.g ?_ | refine Ob.g ?_ | refine Ob.e ?_ | refine Ob.m ?_ | refine Ob.mk (Nat.le_of_ble_eq_true rfl) ?_ | refine JoinVC.on ?_ | refine Nils.mk (fun h => ?_) ?_ | refine Val.t ?_ | refine Val.d ?_ | refine Mm.mk ?_ | (refine Br.mk (fun h => ?_) (fun h => ?_) <;> first | (exfalso; omega; done) | (exfalso; simp at h; done) | skip))
    repeat refine Mm.mk ?_
    refine EndVC.mk _ rfl _ _ ⟨rfl, rfl⟩ ?_
    refine ⟨[], rfl, rfl, ?_, ?_⟩ <;> repeat' (first | exact trivial | exact rfl | exact Iff.rfl | apply And.intro)
    all_goals decide +kernel
theorem s80b (n : Int) (hn : 0 ≤ n ∧ n ≤ 24) : HSpec Tryd.prog 76 [.one (.int .u64 n)] [] (fun r m' => r = .x (I (bl n)) ∧ m' = []) := by
  refine spec_of pMix (O := []) Tryd.func76 (c := bodyOf Tryd.f76) rfl (by kernel_rfl) (by kernel_rfl) Tryd.ntmps76 (res := [.tmp 2]) (by kernel_rfl) ?_
  repeat' ((conv => whnf); first | refine Rng.g ?_ | refine Ob.g ?_ | refine Ob.e ?_ | refine Ob.m ?_ | refine Ob.mk (Nat.le_of_ble_eq_true rfl) ?_ | refine JoinVC.on ?_ | refine Nils.mk (fun h => ?_) ?_ | refine Val.t ?_ | refine Val.d ?_ | refine Mm.mk ?_ | (refine Br.mk (fun h => ?_) (fun h => ?_) <;> first | (exfalso; omega; done) | (exfalso; simp at h; done) | skip))
  conv => whnf
  refine CallVC.mk [] _ _ _ rfl rfl rfl (s99b n hn) (fun r m' h' => ?_)
  obtain ⟨rfl, rfl⟩ := h'
  conv => whnf
  repeat' ((conv => whnf); first | refine Rng.g ?_ | refine Ob.g ?_ | refine Ob.e ?_ | refine Ob.m ?_ | refine Ob.mk (Nat.le_of_ble_eq_true rfl) ?_ | refine JoinVC.on ?_ | refine Nils.mk (fun h => ?_) ?_ | refine Val.t ?_ | refine Val.d ?_ | refine Mm.mk ?_ | (refine Br.mk (fun h => ?_) (fun h => ?_) <;> first | (exfalso; omega; done) | (exfalso; simp at h; done) | skip))
  repeat refine Mm.mk ?_
  refine EndVC.mk _ rfl _ _ ⟨rfl, rfl⟩ ?_
  refine ⟨[], rfl, rfl, ?_, ?_⟩ <;> repeat' (first | exact trivial | exact rfl | exact Iff.rfl | apply And.intro)
end Go.Sx

namespace Go.Sx
open Go Go.Proofs
set_option maxRecDepth 10000
set_option maxHeartbeats 16000000
/-! ### The pivot -/
/-! ### Other parts -/
end Go.Sx

namespace Go.Sx
open Go Go.Proofs
set_option maxRecDepth 10000
set_option maxHeartbeats 16000000
/-! ### The whole sort -/
end Go.Sx

namespace Go.Sx
open Go Go.Proofs
set_option maxRecDepth 10000
set_option maxHeartbeats 16000000
theorem s95 (x y : Int) : HSpec Tryd.prog 90 [I x, I y] [] (fun r m' => r = xP (x < y) ∧ m' = []) := by
  refine spec_of pMix (O := []) Tryd.func90 (c := bodyOf Tryd.f90) rfl (by kernel_rfl) (by kernel_rfl) Tryd.ntmps90 (res := [.tmp 4]) (by kernel_rfl) ?_
  repeat' ((conv => whnf); first | refine Rng.g ?_ | refine Ob.g ?_ | refine Ob.e ?_ | refine Ob.m ?_ | refine Ob.mk (Nat.le_of_ble_eq_true rfl) ?_ | refine JoinVC.on ?_ | refine Nils.mk (fun h => ?_) ?_ | refine Val.t ?_ | refine Val.d ?_ | refine Mm.mk ?_ | refine CallVC.pure rfl (s111 x) ?_ | refine CallVC.pure rfl (s111 y) ?_ | refine CallVC0.pure rfl (s111 x) ?_ | refine CallVC0.pure rfl (s111 y) ?_ | (refine Br.mk (fun h => ?_) (fun h => ?_) <;> first | (exfalso; omega; done) | (exfalso; simp at h; done) | skip))
  all_goals
    repeat refine Mm.mk ?_
    refine EndVC.mk _ rfl _ _ ⟨rfl, rfl⟩ ?_
    refine ⟨[], rfl, rfl, ?_, ?_⟩ <;> repeat' (first | exact trivial | exact rfl | exact Iff.rfl | apply And.intro)
/-! ### Insertion -/
theorem oins (fl : Bool) (n : Nat) (d : Array Int) (hz : d.size ≤ 1000) (hI : n ≤ d.size) (a b : Nat) (hab : a ≤ b) (hb : b ≤ n) : HSpec Tryd.prog 84 [.one (.vw 0 Tryd.t3.size 0 n fl), I (a : Int), I (b : Int)] [rowA (d)] (fun r m' => r = .tup [] ∧ m' = [some (rowA (Go.Sort.insertionSort Go.Sort.ltInt d a b))]) := by
  obtain ⟨Z, hZ⟩ : ∃ Z, Go.Sort.insOuter Go.Sort.ltInt a b (a + 1) d = Z := ⟨_, rfl⟩
  have hZ' : Go.Sort.insertionSort Go.Sort.ltInt d a b = Z := hZ
  rw [hZ']
  refine spec_of pMix (O := [(6, ([], [⟨0, [], []⟩, ⟨1, [], []⟩, ⟨2, [], []⟩, ⟨3, [], []⟩, ⟨4, [], []⟩, ⟨5, [], []⟩, ⟨6, [], []⟩, ⟨7, [], []⟩, ⟨8, [], []⟩, ⟨9, [], []⟩, ⟨10, [], []⟩, ⟨11, [], []⟩, ⟨12, [], []⟩, ⟨13, [], []⟩, ⟨14, [], []⟩, ⟨15, [2, 3, 4], []⟩, ⟨16, [], []⟩, ⟨17, [], []⟩]))]) Tryd.func84 (c := bodyOf Tryd.f84) rfl (by kernel_rfl) (by kernel_rfl) Tryd.ntmps84 (res := []) (by kernel_rfl) ?_
  repeat' ((conv => whnf); first | refine Rng.g ?_ | refine Ob.g ?_ | refine Ob.e ?_ | refine Ob.m ?_ | refine Ob.mk (Nat.le_of_ble_eq_true rfl) ?_ | refine JoinVC.on ?_ | refine Nils.mk (fun h => ?_) ?_ | refine Val.t ?_ | refine Val.d ?_ | refine Mm.mk ?_ | (refine Br.mk (fun h => ?_) (fun h => ?_) <;> first | (exfalso; omega; done) | (exfalso; simp at h; done) | skip))
  refine LoopVC.mk (fun m st => ∃ (i : Nat) (V : Array Int), a + 1 ≤ i ∧ i ≤ b + 1 ∧ m = b + 1 - i ∧ V.size = d.size ∧ n ≤ V.size ∧ Go.Sort.insOuter Go.Sort.ltInt a b i V = Z ∧ st = ⟨1, envA 49 [(0, .x (.one (.vw 0 Tryd.t3.size 0 n fl))), (1, .x (I (a : Int))), (2, .x (I (b : Int))), (6, .int .i64 (i : Int))], [some (rowA (V))]⟩) _ _ ⟨a + 1, d, Nat.le_refl _, by omega, rfl, rfl, hI, hZ, rfl⟩ ?_ ?_
  · refine ⟨[some 0], rfl, rfl, ?_, ?_⟩ <;> repeat' (first | exact trivial | exact rfl | exact Iff.rfl | apply And.intro)
  rintro m _ ⟨i, V, h1, h2, hm, lV, hV, hi, rfl⟩
  have la := arr_len V
  by_cases hib : i < b
  rotate_left
  · rw [insO_no V hib] at hi
    subst hi
    repeat' ((conv => whnf); first | refine Rng.g ?_ | refine Ob.g ?_ | refine Ob.e ?_ | refine Ob.m ?_ | refine Ob.mk (Nat.le_of_ble_eq_true rfl) ?_ | refine JoinVC.on ?_ | refine Nils.mk (fun h => ?_) ?_ | refine Val.t ?_ | refine Val.d ?_ | refine Mm.mk ?_ | (refine Br.mk (fun h => ?_) (fun h => ?_) <;> first | (exfalso; omega; done) | (exfalso; simp at h; done) | skip))
    repeat refine Mm.mk ?_
    refine EndVC.mk _ rfl _ _ ⟨rfl, rfl⟩ ?_
    refine ⟨[some 0], rfl, rfl, ?_, ?_⟩ <;> repeat' (first | exact trivial | exact rfl | exact Iff.rfl | apply And.intro)
  rw [insO_yes V hib] at hi
  obtain ⟨Y, hY⟩ : ∃ Y, Go.Sort.insInner Go.Sort.ltInt a i V = Y := ⟨_, rfl⟩
  rw [hY] at hi
  repeat' ((conv => whnf); first | refine Rng.g ?_ | refine Ob.g ?_ | refine Ob.e ?_ | refine Ob.m ?_ | refine Ob.mk (Nat.le_of_ble_eq_true rfl) ?_ | refine JoinVC.on ?_ | refine Nils.mk (fun h => ?_) ?_ | refine Val.t ?_ | refine Val.d ?_ | refine Mm.mk ?_ | (refine Br.mk (fun h => ?_) (fun h => ?_) <;> first | (exfalso; omega; done) | (exfalso; simp at h; done) | skip))
  refine LoopVC.mk (fun m st => ∃ (j : Nat) (W : Array Int), j ≤ i ∧ m = j ∧ W.size = d.size ∧ n ≤ W.size ∧ Go.Sort.insInner Go.Sort.ltInt a j W = Y ∧ st = ⟨1, envA 49 [(0, .x (.one (.vw 0 Tryd.t3.size 0 n fl))), (1, .x (I (a : Int))), (2, .x (I (b : Int))), (6, .int .i64 (i : Int)), (7, .int .i64 (j : Int))], [some (rowA (W))]⟩) _ _ ⟨i, V, Nat.le_refl _, rfl, lV, hV, hY, rfl⟩ ?_ ?_
  · refine ⟨[some 0], rfl, rfl, ?_, ?_⟩ <;> repeat' (first | exact trivial | exact rfl | exact Iff.rfl | apply And.intro)
  clear hY hV lV la V
  rintro m2 _ ⟨j, V, hj, hm2, lV, hV, hY, rfl⟩
  have la := arr_len V
  by_cases haj : a < j
  rotate_left
  · rw [insI_stop V (by omega)] at hY
    subst hY
    repeat' ((conv => whnf); first | refine Rng.g ?_ | refine Ob.g ?_ | refine Ob.e ?_ | refine Ob.m ?_ | refine Ob.mk (Nat.le_of_ble_eq_true rfl) ?_ | refine JoinVC.on ?_ | refine Nils.mk (fun h => ?_) ?_ | refine Val.t ?_ | refine Val.d ?_ | refine Mm.mk ?_ | (refine Br.mk (fun h => ?_) (fun h => ?_) <;> first | (exfalso; omega; done) | (exfalso; simp at h; done) | skip))
    refine Back.mk (b + 1 - (i + 1)) _ (by omega) ⟨i + 1, V, by omega, by omega, rfl, lV, hV, hi, rfl⟩ ?_
    refine ⟨[some 0], rfl, rfl, ?_, ?_⟩ <;> repeat' (first | exact trivial | exact rfl | exact Iff.rfl | apply And.intro)
  obtain ⟨k, rfl⟩ : ∃ k, j = k + 1 := ⟨j - 1, by omega⟩
  have g1 : rI (i64s V.toList) (((k + 1 : Nat) : Int)).toNat 0 = V[k + 1]! := by rw [show (((k + 1 : Nat) : Int)).toNat = k + 1 by omega]; exact arr_get V _
  have g2 : rI (i64s V.toList) (((k + 1 : Nat) : Int) - 1).toNat 0 = V[k]! := by rw [show (((k + 1 : Nat) : Int) - 1).toNat = k by omega]; exact arr_get V _
  repeat' ((conv => whnf); first | rw [g1] | rw [g2] | refine Rng.g ?_ | refine Ob.g ?_ | refine Ob.e ?_ | refine Ob.m ?_ | refine Ob.mk (Nat.le_of_ble_eq_true rfl) ?_ | refine JoinVC.on ?_ | refine Nils.mk (fun h => ?_) ?_ | refine Val.t ?_ | refine Val.d ?_ | refine Mm.mk ?_ | (refine Br.mk (fun h => ?_) (fun h => ?_) <;> first | (exfalso; omega; done) | (exfalso; simp at h; done) | skip))
  conv => whnf
  refine CallVC.mk [] _ _ _ rfl rfl rfl (s95 V[k + 1]! V[k]!) (fun r m' h' => ?_)
  obtain ⟨rfl, rfl⟩ := h'
  conv => whnf
  by_cases hlt : Go.Sort.ltInt V[k + 1]! V[k]! = true
  · have hc := int_yes hlt
    have u1 : updRow (i64s V.toList) (((k + 1 : Nat) : Int)).toNat 0 [Cell.int V[k]!] = i64s (V.toList.set (k + 1) V[k]!) := by rw [show (((k + 1 : Nat) : Int)).toNat = k + 1 by omega]; exact arr_up1 V _ _ (by omega)
    have u2 : updRow (i64s (V.toList.set (k + 1) V[k]!)) (((k + 1 : Nat) : Int) - 1).toNat 0 [Cell.int V[k + 1]!] = i64s (Go.Sort.swp V (k + 1) (k)).toList := by rw [show (((k + 1 : Nat) : Int) - 1).toNat = k by omega]; exact arr_up2 V _ _ (by omega)
    have la1 := arr_l1 V (k + 1) V[k]!
    have la2 := arr_len (Go.Sort.swp V (k + 1) (k))
    have ls2 := Go.Sort.size_swp V (k + 1) (k)
    rw [insI_yes V haj hlt] at hY
    repeat' ((conv => whnf); first | rw [g1] | rw [g2] | rw [u1] | rw [u2] | refine Rng.g ?_ | refine Ob.g ?_ | refine Ob.e ?_ | refine Ob.m ?_ | refine Ob.mk (Nat.le_of_ble_eq_true rfl) ?_ | refine JoinVC.on ?_ | refine Nils.mk (fun h => ?_) ?_ | refine Val.t ?_ | refine Val.d ?_ | refine Mm.mk ?_ | (refine Br.mk (fun h => ?_) (fun h => ?_) <;> first | (exfalso; omega; done) | (exfalso; simp at h; done) | skip))
    refine Back.mk k _ (by omega) ⟨k, Go.Sort.swp V (k + 1) k, by omega, rfl, by omega, by omega, hY, rfl⟩ ?_
    refine ⟨[some 0], rfl, rfl, ?_, ?_⟩ <;> repeat' (first | exact trivial | exact rfl | exact Iff.rfl | apply And.intro)
    all_goals omega
  · have hc := int_no hlt
    rw [insI_no V hlt] at hY
    subst hY
    repeat' ((conv => whnf); first | rw [g1] | rw [g2] | refine Rng.g ?_ | refine Ob.g ?_ | refine Ob.e ?_ | refine Ob.m ?_ | refine Ob.mk (Nat.le_of_ble_eq_true rfl) ?_ | refine JoinVC.on ?_ | refine Nils.mk (fun h => ?_) ?_ | refine Val.t ?_ | refine Val.d ?_ | refine Mm.mk ?_ | (refine Br.mk (fun h => ?_) (fun h => ?_) <;> first | (exfalso; omega; done) | (exfalso; simp at h; done) | skip))
    refine Back.mk (b + 1 - (i + 1)) _ (by omega) ⟨i + 1, V, by omega, by omega, rfl, lV, hV, hi, rfl⟩ ?_
    refine ⟨[some 0], rfl, rfl, ?_, ?_⟩ <;> repeat' (first | exact trivial | exact rfl | exact Iff.rfl | apply And.intro)
/-! ### Heaps -/
end Go.Sx

namespace Go.Sx
open Go Go.Proofs
set_option maxRecDepth 10000
set_option maxHeartbeats 16000000
/-! ### Partitions -/
end Go.Sx

namespace Go.Sx
open Go Go.Proofs
set_option maxRecDepth 10000
set_option maxHeartbeats 16000000
/-! ### The pivot -/
/-! ### Other parts -/
end Go.Sx

namespace Go.Sx
open Go Go.Proofs
set_option maxRecDepth 10000
set_option maxHeartbeats 16000000
/-! ### The whole sort -/
end Go.Sx

namespace Go.Sx
open Go Go.Proofs
set_option maxRecDepth 10000
set_option maxHeartbeats 8000000
/-! ### Orders by places -/
end Go.Sx

namespace Go.Sx
open Go Go.Proofs
set_option maxRecDepth 10000
set_option maxHeartbeats 16000000
/-! ### The usual order of up to 24 tracks -/
/-! ### Crowds -/
/-- All of them together are a crowd. -/
def CrowdP (f : Fmt) (l : List Sng) (O : List Int) : Prop := atF f l O O.length - f.tail < f.inner ∨ ¬ okAt f l O (O.length - 1)
theorem crowd_some {f : Fmt} {l : List Sng} {O : List Int} (h0 : 0 < O.length) (h : ¬ LayOK f l O) : ∃ k, k < O.length ∧ CrowdP f l (O.take (k + 1)) := by
  by_cases hr : ∃ i, i < O.length ∧ ¬ okAt f l O i
  · obtain ⟨i, hi, hn⟩ := hr
    refine ⟨i, hi, .inr ?_⟩
    have hlen : (O.take (i + 1)).length = i + 1 := by rw [List.length_take]; omega
    have hg : ∀ j, j ≤ i → (O.take (i + 1)).getD j 0 = O.getD j 0 := fun j hj => by simp [List.getD_eq_getElem?_getD, show j < i + 1 by omega]
    rw [hlen, Nat.add_sub_cancel]
    unfold okAt at hn ⊢
    rw [hg i (Nat.le_refl _), atF_congr f l (i + 1) (O := O.take (i + 1)) (Q := O) fun j hj => hg j (by omega)]
    exact hn
  · refine ⟨O.length - 1, by omega, .inl ?_⟩
    rw [show O.length - 1 + 1 = O.length by omega, List.take_length]
    exact Classical.byContradiction fun hc => h ⟨fun i hi => Classical.byContradiction fun hn => hr ⟨i, hi, hn⟩, by omega⟩
open Classical in
theorem s44p (f : Fmt) (l : List Sng) (O : List Int) (hf : FmtOK f) (hg : SngsOK l) (hO : InR O l.length) (h0 : 0 < O.length) (hl : O.length ≤ 100) : HSpec Tryd.prog 62 [plX f l, .one (.lst true [.int .i64] (i64s O))] [] (fun r m' => r = xP (CrowdP f l O) ∧ m' = []) := by
  have lo := i64s_len O
  have lg := sngA_len l
  have hbd := atF_bd hf hg hO
  have hf1 := hf.outer
  have hf2 := hf.lead
  have hf3 := hf.gap
  have hf4 := hf.tail
  have hf5 := hf.inner
  have p1 : rI (plA f l) 0 (0 + 0 + (0 + 1)) = f.outer := rfl
  have p2 : rI (plA f l) 0 (0 + 0 + (0 + 1 + 1)) = f.inner := rfl
  have p4 : rI (plA f l) 0 (0 + 0 + (0 + 1 + 1 + 1 + 1)) = f.lead := rfl
  have p5 : rI (plA f l) 0 (0 + 0 + (0 + 1 + 1 + 1 + 1 + 1)) = f.gap := rfl
  have p6 : rI (plA f l) 0 (0 + 0 + (0 + 1 + 1 + 1 + 1 + 1 + 1)) = f.tail := rfl
  have p8 : rA (plA f l) 0 (0 + (0 + 1 + 1 + 1 + 1 + 1 + 1 + 1 + 1)) = sngA l := rfl
  refine spec_of pMix (O := [(5, ([], [⟨0, [], []⟩, ⟨1, [], []⟩, ⟨2, [], []⟩, ⟨3, [], []⟩, ⟨4, [], []⟩, ⟨5, [], []⟩, ⟨6, [], []⟩, ⟨7, [], []⟩, ⟨8, [], []⟩, ⟨9, [], []⟩, ⟨10, [], []⟩, ⟨11, [], []⟩, ⟨12, [], []⟩, ⟨13, [], []⟩, ⟨14, [0, 1, 2, 3, 4, 5], []⟩, ⟨15, [], []⟩, ⟨16, [], []⟩, ⟨17, [], []⟩]))]) Tryd.func62 (c := bodyOf Tryd.f62) rfl (by kernel_rfl) (by kernel_rfl) Tryd.ntmps62 (res := [.tmp 4]) (by kernel_rfl) ?_
  repeat' ((conv => whnf); first | rw [p1] | rw [p2] | rw [p4] | rw [p5] | rw [p6] | rw [p8] | refine Rng.g ?_ | refine Ob.g ?_ | refine Ob.e ?_ | refine Ob.m ?_ | refine Ob.mk (Nat.le_of_ble_eq_true rfl) ?_ | refine JoinVC.on ?_ | refine Nils.mk (fun h => ?_) ?_ | refine Val.t ?_ | refine Val.d ?_ | refine Mm.mk ?_ | (refine Br.mk (fun h => ?_) (fun h => ?_) <;> first | (exfalso; omega; done) | (exfalso; simp at h; done) | skip))
  refine LoopVC.mk (fun n st => ∃ (i : Nat), i ≤ O.length ∧ n = O.length - i ∧ st = ⟨0, envA 79 [(0, .x (plX f l)), (1, .x (.one (.lst true [.int .i64] (i64s O)))), (5, .int .i64 (atF f l O i + (if i = 0 then f.gap else 0))), (25, .x (.one (.lst true [.int .i64] (i64s O)))), (26, .int .i64 (O.length : Int)), (27, .int .i64 (i : Int))], []⟩) _ _ ⟨0, Nat.zero_le _, rfl, rfl⟩ ?_ ?_
  · refine ⟨[], rfl, rfl, ?_, ?_⟩ <;> repeat' (first | exact trivial | exact rfl | exact Iff.rfl | apply And.intro)
    exact congrArg Int.ofNat lo
  rintro n _ ⟨i, hi, hn, rfl⟩
  have gi : rI (i64s O) (i : Int).toNat 0 = O.getD i 0 := by rw [Int.toNat_natCast]; exact i64s_get O i
  have hbi := hbd i hi
  by_cases hi' : i < O.length
  · have hr := hO i hi'
    obtain ⟨q, hq⟩ : ∃ q, O.getD i 0 = q := ⟨_, rfl⟩
    have c0 : rI (sngA l) q.toNat 0 = (l.getD q.toNat g0).long := sngA_0 l _
    have c1 : rI (sngA l) q.toNat (0 + 1) = (l.getD q.toNat g0).pitch := sngA_1 l _
    have c2 : rI (sngA l) q.toNat (0 + 1 + 1) = (l.getD q.toNat g0).least := sngA_2 l _
    rw [hq] at gi hr
    have hgk := hg.each q.toNat (by omega)
    have hw := (wid_bd hf.per.1 hgk).2
    have ea : atF f l O (i + 1) = atF f l O i - (if 0 < i then f.gap else 0) - widF f (l.getD (O.getD i 0).toNat g0) := rfl
    rw [hq] at ea
    have hbi2 := hbd (i + 1) (by omega)
    have e1 : atF f l O i + (if i = 0 then f.gap else 0) - (f.gap + widF f (l.getD q.toNat g0)) = atF f l O (i + 1) + (if i + 1 = 0 then f.gap else 0) := by
      rw [ea, if_neg (Nat.succ_ne_zero i)]
      by_cases h : i = 0
      · rw [if_pos h, if_neg (by omega)]; omega
      · rw [if_neg h, if_pos (by omega)]; omega
    obtain ⟨A, hA⟩ : ∃ A, atF f l O i + (if i = 0 then f.gap else 0) = A := ⟨_, rfl⟩
    have hAb : A ≤ 8388608 ∧ -4194304 - 68723671040 * (i : Int) ≤ A := by
      rw [← hA]
      split <;> omega
    rw [hA] at e1
    rw [hA]
    repeat' ((conv => whnf); first | rw [p1] | rw [p2] | rw [p4] | rw [p5] | rw [p6] | rw [p8] | rw [gi] | rw [c0] | rw [c1] | rw [c2] | refine Rng.g ?_ | refine Ob.g ?_ | refine Ob.e ?_ | refine Ob.m ?_ | refine Ob.mk (Nat.le_of_ble_eq_true rfl) ?_ | refine JoinVC.on ?_ | refine Nils.mk (fun h => ?_) ?_ | refine Val.t ?_ | refine Val.d ?_ | refine Mm.mk ?_ | (refine Br.mk (fun h => ?_) (fun h => ?_) <;> first | (exfalso; omega; done) | (exfalso; simp at h; done) | skip))
    conv => whnf
    refine CallVC0.mk _ _ rfl (s43p f l (l.getD q.toNat g0) hf hgk) (fun r m' h' => ?_)
    obtain ⟨rfl, rfl⟩ := h'
    conv => whnf
    repeat' ((conv => whnf); first | rw [p1] | rw [p2] | rw [p4] | rw [p5] | rw [p6] | rw [p8] | rw [gi] | refine Rng.g ?_ | refine Ob.g ?_ | refine Ob.e ?_ | refine Ob.m ?_ | refine Ob.mk (Nat.le_of_ble_eq_true rfl) ?_ | refine JoinVC.on ?_ | refine Nils.mk (fun h => ?_) ?_ | refine Val.t ?_ | refine Val.d ?_ | refine Mm.mk ?_ | (refine Br.mk (fun h => ?_) (fun h => ?_) <;> first | (exfalso; omega; done) | (exfalso; simp at h; done) | skip))
    refine Back.mk (O.length - (i + 1)) _ (by omega) ⟨i + 1, by omega, rfl, rfl⟩ ?_
    refine ⟨[], rfl, rfl, ?_, ?_⟩ <;> repeat' (first | exact trivial | exact rfl | exact Iff.rfl | apply And.intro)
    exact e1
  · have ei : i = O.length := by omega
    subst ei
    have gl : rI (i64s O) ((O.length : Int) - 1).toNat 0 = O.getD (O.length - 1) 0 := by rw [show ((O.length : Int) - 1).toNat = O.length - 1 by omega]; exact i64s_get O _
    have hr := hO (O.length - 1) (by omega)
    obtain ⟨q, hq⟩ : ∃ q, O.getD (O.length - 1) 0 = q := ⟨_, rfl⟩
    rw [hq] at gl hr
    have c2 : rI (sngA l) q.toNat (0 + 1 + 1) = (l.getD q.toNat g0).least := sngA_2 l _
    have c3 : rI (sngA l) q.toNat (0 + (0 + 1 + 1)) = (l.getD q.toNat g0).least := sngA_2 l _
    have eo : okAt f l O (O.length - 1) ↔ (l.getD q.toNat g0).least ≤ atF f l O O.length := by
      unfold okAt
      rw [hq, show O.length - 1 + 1 = O.length by omega]
    rw [if_neg (by omega), Int.add_zero]
    repeat' ((conv => whnf); first | rw [p1] | rw [p2] | rw [p4] | rw [p5] | rw [p6] | rw [p8] | rw [gl] | rw [c2] | rw [c3] | rw [lo] | refine Rng.g ?_ | refine Ob.g ?_ | refine Ob.e ?_ | refine Ob.m ?_ | refine Ob.mk (Nat.le_of_ble_eq_true rfl) ?_ | refine JoinVC.on ?_ | refine Nils.mk (fun h => ?_) ?_ | refine Val.t ?_ | refine Val.d ?_ | refine Mm.mk ?_ | (refine Br.mk (fun h => ?_) (fun h => ?_) <;> first | (exfalso; omega; done) | (exfalso; simp at h; done) | skip))
    · repeat refine Mm.mk ?_
      refine EndVC.mk _ rfl _ _ ⟨rfl, rfl⟩ ?_
      refine ⟨[], rfl, rfl, ?_, ?_⟩ <;> repeat' (first | exact trivial | exact rfl | exact Iff.rfl | apply And.intro)
      exact .inl h
    · repeat refine Mm.mk ?_
      refine EndVC.mk _ rfl _ _ ⟨rfl, rfl⟩ ?_
      refine ⟨[], rfl, rfl, ?_, ?_⟩ <;> repeat' (first | exact trivial | exact rfl | exact Iff.rfl | apply And.intro)
      show _ ↔ _
      exact ⟨fun h2 => .inr fun h3 => (by have := eo.1 h3; omega), fun h2 => (by
        rcases h2 with h2 | h2
        · exact absurd h2 h
        · exact Classical.byContradiction fun h3 => h2 (eo.2 (by omega)))⟩
end Go.Sx

namespace Go.Sx
open Go Go.Proofs
set_option maxRecDepth 10000
set_option maxHeartbeats 16000000
/-! ### Sorted numbers -/
theorem usB0 {x y : Int} : usB [] x y = true ↔ x < y := by
  rw [usB_iff]
  have h : ∀ z, lsF [] z = 0 := fun z => rfl
  rw [h, h]
  omega
theorem ext_take (d : Array Int) (n : Nat) : (d.extract 0 n).toList = d.toList.take n := by
  simp [Array.toList_extract]
/-- What is sorted at the first places has them in increasing order. -/
theorem srt_take {O : List Int} {W : Array Int} {n : Nat} (hO : O.Nodup) (hn : n ≤ O.length) (h1 : Go.Sort.PermIn 0 n O.toArray W) (h2 : Go.Sort.SortedIn Go.Sort.ltInt 0 n W) : W.toList.take n = usu [] (O.take n) := by
  have hs : W.size = O.length := by have := h1.1; simpa using this
  have hp : (W.toList.take n).Perm (O.take n) := by
    have := h1.2.2
    rw [ext_take, ext_take] at this
    exact this
  have hn1 : (O.take n).Nodup := hO.sublist (List.take_sublist _ _)
  refine usu_uniq hn1 ?_ hp
  have hn2 : (W.toList.take n).Nodup := hp.nodup_iff.2 hn1
  unfold SrtU
  rw [List.pairwise_iff_getElem]
  intro i j hi hj hij
  have hi2 := hi
  have hj2 := hj
  rw [List.length_take, Array.length_toList] at hi2 hj2
  have e1 : (W.toList.take n)[i] = W[i]! := by rw [← arr_getD, List.getD_eq_getElem?_getD, List.getElem_take, List.getElem?_eq_getElem (by rw [Array.length_toList]; omega)]; rfl
  have e2 : (W.toList.take n)[j] = W[j]! := by rw [← arr_getD, List.getD_eq_getElem?_getD, List.getElem_take, List.getElem?_eq_getElem (by rw [Array.length_toList]; omega)]; rfl
  have h3 := h2 i j (Nat.zero_le _) hij (by omega)
  have hne : W[i]! ≠ W[j]! := fun e => by
    have := (List.getElem_inj hn2 (h₀ := hi) (h₁ := hj)).1 (by rw [e1, e2, e])
    omega
  rw [e1, e2, usB0]
  have h4 := int_no (x := W[j]!) (y := W[i]!) (by rw [h3]; exact Bool.false_ne_true)
  omega
theorem IdxOK.nodup' {O : List Int} {n : Nat} (h : IdxOK O n) : O.Nodup := at_nodup fun i j hi hj e => h.inj i j (by have := h.len; omega) (by have := h.len; omega) e
/-- The first crowd. -/
inductive CwRs (f : Fmt) (l : List Sng) (r : AV) (m' : List (Option Blk)) : Prop
  | bad (h : bothE f l ≠ 0) (hr : r = .tup [.one .nils, I (bothE f l)]) (hm : m' = [])
  | none (hf : FmtOK f) (hg : SngsOK l) (h : LayOK f l (allO l) ∨ l.length = 0) (hr : r = .tup [.one .nils, I 5]) (hm : m' = [])
  | some (hf : FmtOK f) (hg : SngsOK l) (hL : ¬ LayOK f l (allO l)) (k : Nat) (hk : k < l.length) (hn : ∀ j, j < k → ¬ CrowdP f l ((allO l).take (j + 1))) (h : CrowdP f l ((allO l).take (k + 1))) (hr : r = .tup [.one (.lst false [.int .i64] (i64s (usu [] ((allO l).take (k + 1))))), I 0]) (hm : m' = [])
theorem take_in {O : List Int} {m : Nat} (h : InR O m) (k : Nat) : InR (O.take k) m := fun i hi => by
  rw [List.length_take] at hi
  have := h i (by omega)
  rw [List.getD_eq_getElem?_getD, List.getElem?_take_of_lt (by omega), ← List.getD_eq_getElem?_getD]
  exact this
end Go.Sx

namespace Go.Sx
open Go Go.Proofs
set_option maxRecDepth 10000
set_option maxHeartbeats 16000000
theorem e9 : EntersF Tryd.prog 9 := enters_of Tryd.func9 (c := bodyOf Tryd.f9) (by kernel_rfl) rfl
/-! ### Known formats -/
@[reducible] def nm7 : ByteArray := { data := #[115, 101, 118, 101, 110] }
@[reducible] def nm10 : ByteArray := { data := #[116, 101, 110] }
@[reducible] def nm12 : ByteArray := { data := #[116, 119, 101, 108, 118, 101] }
@[reducible] def kn7 : Fmt := ⟨nm7, 1344000, 864000, 12000, 16000, 8000, 24000, 40⟩
@[reducible] def kn10 : Fmt := ⟨nm10, 1929600, 768000, 6923, 16000, 16000, 32000, 70⟩
@[reducible] def kn12 : Fmt := ⟨nm12, 2336000, 960000, 16200, 24000, 16000, 48000, 100⟩
@[reducible] def KKn : List CK := [.str, .int .i64, .int .i64, .int .i64, .int .i64, .int .i64, .int .i64, .int .i64, .str, .int .i64, .int .i64, .int .i64, .int .i64, .int .i64, .int .i64, .int .i64, .str, .int .i64, .int .i64, .int .i64, .int .i64, .int .i64, .int .i64, .int .i64]
@[reducible] def rKn : List Cell := [.str nm7, .int 1344000, .int 864000, .int 12000, .int 16000, .int 8000, .int 24000, .int 40, .str nm10, .int 1929600, .int 768000, .int 6923, .int 16000, .int 16000, .int 32000, .int 70, .str nm12, .int 2336000, .int 960000, .int 16200, .int 24000, .int 16000, .int 48000, .int 100]
@[reducible] def gKnown : Blk := .gbox 0 KKn rKn
inductive KnRs (s : ByteArray) (m : List (Option Blk)) (r : AV) (m' : List (Option Blk)) : Prop
  | a (h : s = nm7) (hr : r = .tup [kn7.x, I 0]) (hm : m' = m)
  | b (h1 : s ≠ nm7) (h : s = nm10) (hr : r = .tup [kn10.x, I 0]) (hm : m' = m)
  | c (h1 : s ≠ nm7) (h2 : s ≠ nm10) (h : s = nm12) (hr : r = .tup [kn12.x, I 0]) (hm : m' = m)
  | none (h1 : s ≠ nm7) (h2 : s ≠ nm10) (h3 : s ≠ nm12) (hr : r = .tup [(⟨ByteArray.empty, 0, 0, 0, 0, 0, 0, 0⟩ : Fmt).x, I 5]) (hm : m' = m)
theorem s9k (s : ByteArray) : HSpec Tryd.prog 9 [.one (.str s)] [gKnown] (KnRs s [some gKnown]) := by
  refine spec_of pMix (O := []) Tryd.func9 (c := bodyOf Tryd.f9) rfl (by kernel_rfl) (by kernel_rfl) Tryd.ntmps9 (res := [.cell 2 23, .tmp 3]) (by kernel_rfl) ?_
  repeat' ((conv => whnf); first | refine Rng.g ?_ | refine Ob.g ?_ | refine Ob.e ?_ | refine Ob.m ?_ | refine Ob.mk (Nat.le_of_ble_eq_true rfl) ?_ | refine JoinVC.on ?_ | refine Nils.mk (fun h => ?_) ?_ | refine Val.t ?_ | refine Val.d ?_ | refine Mm.mk ?_ | (refine Br.mk (fun h => ?_) (fun h => ?_) <;> first | (exfalso; omega; done) | (exfalso; simp at h; done) | skip))
  refine LoopVC.un 4 ?_
  repeat' ((conv => whnf); first | refine Rng.g ?_ | refine Ob.g ?_ | refine Ob.e ?_ | refine Ob.m ?_ | refine Ob.mk (Nat.le_of_ble_eq_true rfl) ?_ | refine JoinVC.on ?_ | refine Nils.mk (fun h => ?_) ?_ | refine Val.t ?_ | refine Val.d ?_ | refine Mm.mk ?_ | (refine Br.mk (fun h => ?_) (fun h => ?_) <;> first | (exfalso; omega; done) | (exfalso; simp at h; done) | skip))
  · have h' : nm7 = s := h
    subst h'
    repeat refine Mm.mk ?_
    conv => whnf
    refine EndVC.mk _ rfl _ _ (.a rfl rfl rfl) ?_
    refine ⟨[some 0], rfl, rfl, ?_, ?_⟩ <;> repeat' (first | exact trivial | exact rfl | exact Iff.rfl | apply And.intro)
  · have h' : nm10 = s := h
    subst h'
    repeat refine Mm.mk ?_
    conv => whnf
    refine EndVC.mk _ rfl _ _ (.b (by decide) rfl rfl rfl) ?_
    refine ⟨[some 0], rfl, rfl, ?_, ?_⟩ <;> repeat' (first | exact trivial | exact rfl | exact Iff.rfl | apply And.intro)
  · have h' : nm12 = s := h
    subst h'
    repeat refine Mm.mk ?_
    conv => whnf
    refine EndVC.mk _ rfl _ _ (.c (by decide) (by decide) rfl rfl rfl) ?_
    refine ⟨[some 0], rfl, rfl, ?_, ?_⟩ <;> repeat' (first | exact trivial | exact rfl | exact Iff.rfl | apply And.intro)
  · rename_i a h1 b h2 c h3
    repeat refine Mm.mk ?_
    conv => whnf
    refine EndVC.mk _ rfl _ _ (.none (fun e => h1 e.symm) (fun e => h2 e.symm) (fun e => h3 e.symm) rfl rfl) ?_
    refine ⟨[some 0], rfl, rfl, ?_, ?_⟩ <;> repeat' (first | exact trivial | exact rfl | exact Iff.rfl | apply And.intro)
end Go.Sx

namespace Go.Sx
open Go Go.Proofs
set_option maxRecDepth 10000
set_option maxHeartbeats 8000000
/-! ### Which prices are right -/
def outP (n : Int) : Prop := n < -1 ∨ n > 25165824
instance (n : Int) : Decidable (outP n) := by unfold outP; exact inferInstance
theorem s51 (n : Int) : PSpec Tryd.prog 56 [I n] (xP (outP n)) := by
  have c := s52 n (-1) 25165824
  refine spec_of pMix (O := []) Tryd.func56 (c := bodyOf Tryd.f56) rfl (by kernel_rfl) (by kernel_rfl) Tryd.ntmps56 (res := [.tmp 2]) (by kernel_rfl) ?_
  repeat' ((conv => whnf); first | refine Rng.g ?_ | refine Ob.g ?_ | refine Ob.e ?_ | refine Ob.m ?_ | refine Ob.mk (Nat.le_of_ble_eq_true rfl) ?_ | refine JoinVC.on ?_ | refine Nils.mk (fun h => ?_) ?_ | refine Val.t ?_ | refine Val.d ?_ | refine Mm.mk ?_ | refine CallVC.pure rfl (c) ?_ | refine CallVC0.pure rfl (c) ?_ | (refine Br.mk (fun h => ?_) (fun h => ?_) <;> first | (exfalso; omega; done) | (exfalso; simp at h; done) | skip))
  repeat refine Mm.mk ?_
  refine EndVC.mk _ rfl _ _ ⟨rfl, rfl⟩ ?_
  refine ⟨[], rfl, rfl, ?_, ?_⟩ <;> repeat' (first | exact trivial | exact rfl | exact Iff.rfl | apply And.intro)
theorem s75 (xs : List Int) (hl : xs.length ≤ 1000000) : HSpec Tryd.prog 70 [.one (.lst true [.int .i64] (i64s xs)), .one (.fn 56 [])] [] (fun r m' => ∃ k, r = .x (I k) ∧ m' = [] ∧ (k = -1 ∧ (∀ j, j < xs.length → ¬ outP (xs.getD j 0)) ∨ 0 ≤ k ∧ ∃ j, j < xs.length ∧ outP (xs.getD j 0))) := by
  have lo := i64s_len xs
  refine spec_of pMix (O := []) Tryd.func70 (c := bodyOf Tryd.f70) rfl (by kernel_rfl) (by kernel_rfl) Tryd.ntmps70 (res := [.tmp 4]) (by kernel_rfl) ?_
  repeat' ((conv => whnf); first | refine Rng.g ?_ | refine Ob.g ?_ | refine Ob.e ?_ | refine Ob.m ?_ | refine Ob.mk (Nat.le_of_ble_eq_true rfl) ?_ | refine JoinVC.on ?_ | refine Nils.mk (fun h => ?_) ?_ | refine Val.t ?_ | refine Val.d ?_ | refine Mm.mk ?_ | (refine Br.mk (fun h => ?_) (fun h => ?_) <;> first | (exfalso; omega; done) | (exfalso; simp at h; done) | skip))
  refine LoopVC.mk (fun n st => ∃ (i : Nat), i ≤ xs.length ∧ n = xs.length - i ∧ (∀ j, j < i → ¬ outP (xs.getD j 0)) ∧ st = ⟨0, envA 19 [(0, .x (.one (.lst true [.int .i64] (i64s xs)))), (1, .x (.one (.fn 56 []))), (6, .x (.one (.lst true [.int .i64] (i64s xs)))), (7, .int .i64 (xs.length : Int)), (8, .int .i64 (i : Int))], []⟩) _ _ ⟨0, Nat.zero_le _, rfl, fun j hj => absurd hj (Nat.not_lt_zero j), rfl⟩ ?_ ?_
  · refine ⟨[], rfl, rfl, ?_, ?_⟩ <;> repeat' (first | exact trivial | exact rfl | exact Iff.rfl | apply And.intro)
    all_goals exact congrArg Int.ofNat lo
  rintro n _ ⟨i, hi, hm, hj, rfl⟩
  have gi : rI (i64s xs) (i : Int).toNat 0 = xs.getD i 0 := by rw [Int.toNat_natCast]; exact i64s_get xs i
  have c := s51 (xs.getD i 0)
  by_cases hi' : i < xs.length
  · by_cases hv : outP (xs.getD i 0)
    · repeat' ((conv => whnf); first | rw [gi] | refine Rng.g ?_ | refine Ob.g ?_ | refine Ob.e ?_ | refine Ob.m ?_ | refine Ob.mk (Nat.le_of_ble_eq_true rfl) ?_ | refine JoinVC.on ?_ | refine Nils.mk (fun h => ?_) ?_ | refine Val.t ?_ | refine Val.d ?_ | refine Mm.mk ?_ | refine CallVC.pure rfl (c) ?_ | refine CallVC0.pure rfl (c) ?_ | (refine Br.mk (fun h => ?_) (fun h => ?_) <;> first | (exfalso; omega; done) | (exfalso; simp at h; done) | skip))
      · repeat refine Mm.mk ?_
        conv => whnf
        refine EndVC.mk _ rfl _ _ (⟨(i : Int), rfl, rfl, .inr ⟨by omega, i, hi', hv⟩⟩) ?_
        refine ⟨[], rfl, rfl, ?_, ?_⟩ <;> repeat' (first | exact trivial | exact rfl | exact Iff.rfl | apply And.intro)
      · exact absurd hv h
    · repeat' ((conv => whnf); first | rw [gi] | refine Rng.g ?_ | refine Ob.g ?_ | refine Ob.e ?_ | refine Ob.m ?_ | refine Ob.mk (Nat.le_of_ble_eq_true rfl) ?_ | refine JoinVC.on ?_ | refine Nils.mk (fun h => ?_) ?_ | refine Val.t ?_ | refine Val.d ?_ | refine Mm.mk ?_ | refine CallVC.pure rfl (c) ?_ | refine CallVC0.pure rfl (c) ?_ | (refine Br.mk (fun h => ?_) (fun h => ?_) <;> first | (exfalso; omega; done) | (exfalso; simp at h; done) | skip))
      · exact absurd h hv
      · refine Back.mk (xs.length - (i + 1)) _ (by omega) ⟨i + 1, by omega, rfl, fun j hj' => ?_, rfl⟩ ?_
        · rcases Nat.lt_succ_iff_lt_or_eq.1 hj' with h' | rfl
          · exact hj j h'
          · exact hv
        · refine ⟨[], rfl, rfl, ?_, ?_⟩ <;> repeat' (first | exact trivial | exact rfl | exact Iff.rfl | apply And.intro)
  · repeat' ((conv => whnf); first | refine Rng.g ?_ | refine Ob.g ?_ | refine Ob.e ?_ | refine Ob.m ?_ | refine Ob.mk (Nat.le_of_ble_eq_true rfl) ?_ | refine JoinVC.on ?_ | refine Nils.mk (fun h => ?_) ?_ | refine Val.t ?_ | refine Val.d ?_ | refine Mm.mk ?_ | (refine Br.mk (fun h => ?_) (fun h => ?_) <;> first | (exfalso; omega; done) | (exfalso; simp at h; done) | skip))
    repeat refine Mm.mk ?_
    conv => whnf
    refine EndVC.mk _ rfl _ _ (⟨-1, rfl, rfl, .inl ⟨rfl, fun j hj' => hj j (by omega)⟩⟩) ?_
    refine ⟨[], rfl, rfl, ?_, ?_⟩ <;> repeat' (first | exact trivial | exact rfl | exact Iff.rfl | apply And.intro)
open Classical in
theorem s50 (xs : List Int) (hl : xs.length ≤ 1000000) : PSpec Tryd.prog 55 [.one (.lst true [.int .i64] (i64s xs)), .one (.fn 56 [])] (xP (∃ j, j < xs.length ∧ outP (xs.getD j 0))) := by
  refine spec_of pMix (O := []) Tryd.func55 (c := bodyOf Tryd.f55) rfl (by kernel_rfl) (by kernel_rfl) Tryd.ntmps55 (res := [.tmp 4]) (by kernel_rfl) ?_
  repeat' ((conv => whnf); first | refine Rng.g ?_ | refine Ob.g ?_ | refine Ob.e ?_ | refine Ob.m ?_ | refine Ob.mk (Nat.le_of_ble_eq_true rfl) ?_ | refine JoinVC.on ?_ | refine Nils.mk (fun h => ?_) ?_ | refine Val.t ?_ | refine Val.d ?_ | refine Mm.mk ?_ | (refine Br.mk (fun h => ?_) (fun h => ?_) <;> first | (exfalso; omega; done) | (exfalso; simp at h; done) | skip))
  conv => whnf
  refine CallVC.mk [] _ _ _ rfl rfl rfl (s75 xs hl) (fun r m' h' => ?_)
  obtain ⟨k, rfl, rfl, hk⟩ := h'
  conv => whnf
  repeat' ((conv => whnf); first | refine Rng.g ?_ | refine Ob.g ?_ | refine Ob.e ?_ | refine Ob.m ?_ | refine Ob.mk (Nat.le_of_ble_eq_true rfl) ?_ | refine JoinVC.on ?_ | refine Nils.mk (fun h => ?_) ?_ | refine Val.t ?_ | refine Val.d ?_ | refine Mm.mk ?_ | (refine Br.mk (fun h => ?_) (fun h => ?_) <;> first | (exfalso; omega; done) | (exfalso; simp at h; done) | skip))
  repeat refine Mm.mk ?_
  refine EndVC.mk _ rfl _ _ ⟨rfl, rfl⟩ ?_
  refine ⟨[], rfl, rfl, ?_, ?_⟩ <;> repeat' (first | exact trivial | exact rfl | exact Iff.rfl | apply And.intro)
  show _ ↔ _
  rcases hk with ⟨rfl, h⟩ | ⟨h0, h⟩
  · exact ⟨fun h1 => absurd h1 (by decide), fun ⟨j, h1, h2⟩ => absurd h2 (h j h1)⟩
  · exact ⟨fun _ => h, fun _ => h0⟩
/-- A face that begins before i, or one of these, shows that the price of its end is not right. -/
def badP (F : List Fmt) (l : List Sng) (p : List Int) (i : Nat) (L : List (Nat × Nat)) (j : Nat) : Prop :=
  ∃ i' k, ((i' < i ∧ faceP F l k i' j) ∨ (i' = i ∧ (k, j) ∈ L)) ∧ 0 ≤ p.getD i' 0 ∧ (p.getD j 0 < 0 ∨ p.getD i' 0 + (F.getD k f0).cost < p.getD j 0)
structure WrgOK (n : Nat) (B : Nat → Prop) (a : Int) : Prop where
  rng : 1 ≤ a ∧ a ≤ n + 1
  bad : a ≤ n → B a.toNat
  least : ∀ j, B j → a ≤ j
def stepG (F : List Fmt) (p : List Int) (i : Nat) (a : Int) (q : Nat × Nat) : Int := if p.getD q.2 0 < 0 ∨ p.getD i 0 + (F.getD q.1 f0).cost < p.getD q.2 0 then (if (q.2 : Int) < a then (q.2 : Int) else a) else a
theorem stepG_ok {F : List Fmt} {l : List Sng} {p : List Int} {i : Nat} {L : List (Nat × Nat)} {a : Int} (h : WrgOK l.length (badP F l p i L) a) (h0 : 0 ≤ p.getD i 0) {q : Nat × Nat} (hq : faceP F l q.1 i q.2) : WrgOK l.length (badP F l p i (L ++ [q])) (stepG F p i a q) := by
  have hle := hq.le
  have hlt := hq.lt
  have up : ∀ j, badP F l p i L j → badP F l p i (L ++ [q]) j := fun j ⟨i', k, h1, h2⟩ => ⟨i', k, h1.imp id fun h => ⟨h.1, List.mem_append_left _ h.2⟩, h2⟩
  have dn : ∀ j, badP F l p i (L ++ [q]) j → badP F l p i L j ∨ (j = q.2 ∧ (p.getD q.2 0 < 0 ∨ p.getD i 0 + (F.getD q.1 f0).cost < p.getD q.2 0)) := fun j ⟨i', k, h1, h2, h3⟩ => by
    rcases h1 with h1 | ⟨rfl, h1⟩
    · exact .inl ⟨i', k, .inl h1, h2, h3⟩
    · rcases List.mem_append.1 h1 with h4 | h4
      · exact .inl ⟨i', k, .inr ⟨rfl, h4⟩, h2, h3⟩
      · have e := List.mem_singleton.1 h4
        have e1 : k = q.1 := congrArg Prod.fst e
        have e2 : j = q.2 := congrArg Prod.snd e
        subst e1 e2
        exact .inr ⟨rfl, h3⟩
  have hr := h.rng
  unfold stepG
  split
  · rename_i hb
    have hnew : badP F l p i (L ++ [q]) q.2 := ⟨i, q.1, .inr ⟨rfl, List.mem_append_right _ List.mem_cons_self⟩, h0, hb⟩
    split
    · rename_i hl
      refine ⟨by omega, fun _ => by rw [Int.toNat_natCast]; exact hnew, fun j hj => ?_⟩
      rcases dn j hj with h1 | ⟨rfl, _⟩
      · have := h.least j h1
        omega
      · exact Int.le_refl _
    · rename_i hl
      refine ⟨hr, fun hn => up _ (h.bad hn), fun j hj => ?_⟩
      rcases dn j hj with h1 | ⟨rfl, _⟩
      · exact h.least j h1
      · omega
  · rename_i hb
    refine ⟨hr, fun hn => up _ (h.bad hn), fun j hj => ?_⟩
    rcases dn j hj with h1 | ⟨rfl, h1⟩
    · exact h.least j h1
    · exact absurd h1 hb
theorem WrgOK.congr {n : Nat} {B B' : Nat → Prop} {a : Int} (h : WrgOK n B a) (e : ∀ j, B j ↔ B' j) : WrgOK n B' a := ⟨h.rng, fun hn => (e _).1 (h.bad hn), fun j hj => h.least j ((e j).2 hj)⟩
theorem badP_next {F : List Fmt} {l : List Sng} {p : List Int} {i : Nat} (j : Nat) : badP F l p i (facesL F l i) j ↔ badP F l p (i + 1) [] j := by
  constructor
  · rintro ⟨i', k, h1, h2⟩
    refine ⟨i', k, .inl ?_, h2⟩
    rcases h1 with h1 | ⟨rfl, h1⟩
    · exact ⟨by omega, h1.2⟩
    · exact ⟨Nat.lt_succ_self _, mem_faces.1 h1⟩
  · rintro ⟨i', k, h1, h2⟩
    refine ⟨i', k, ?_, h2⟩
    rcases h1 with h1 | ⟨_, h1⟩
    · by_cases e : i' = i
      · subst e
        exact .inr ⟨rfl, mem_faces.2 h1.2⟩
      · exact .inl ⟨by omega, h1.2⟩
    · simp at h1
theorem badP_skip {F : List Fmt} {l : List Sng} {p : List Int} {i : Nat} (h0 : p.getD i 0 < 0) (j : Nat) : badP F l p i [] j ↔ badP F l p (i + 1) [] j := by
  constructor
  · rintro ⟨i', k, h1, h2⟩
    refine ⟨i', k, .inl ?_, h2⟩
    rcases h1 with h1 | ⟨_, h1⟩
    · exact ⟨by omega, h1.2⟩
    · simp at h1
  · rintro ⟨i', k, h1, h2, h3⟩
    rcases h1 with h1 | ⟨_, h1⟩
    · refine ⟨i', k, .inl ⟨?_, h1.2⟩, h2, h3⟩
      have : i' ≠ i := fun e => by rw [e] at h2; omega
      omega
    · simp at h1
/-- What is wrong with prices. -/
def wrongP (F : List Fmt) (l : List Sng) (p : List Int) (j : Nat) : Prop := badP F l p l.length [] j
theorem wrg_start {F : List Fmt} {l : List Sng} {p : List Int} : WrgOK l.length (badP F l p 0 []) ((l.length : Int) + 1) := ⟨by omega, fun h => by omega, fun j ⟨i', k, h1, _⟩ => by
  rcases h1 with h1 | ⟨_, h1⟩
  · omega
  · simp at h1⟩
inductive CpRs (F : List Fmt) (l : List Sng) (p : List Int) (r : AV) : Prop
  | bad (h : fmsE F l ≠ 0) (hr : r = .tup [I 0, I (fmsE F l)])
  | len (hA : AlbOK F l) (h : p.length ≠ l.length + 1) (hr : r = .tup [I 0, I 17])
  | rng (hA : AlbOK F l) (hl : p.length = l.length + 1) (h : p.getD 0 0 ≠ 0 ∨ ∃ j, j < p.length ∧ outP (p.getD j 0)) (hr : r = .tup [I 0, I 3])
  | wrong (hA : AlbOK F l) (hl : p.length = l.length + 1) (hz : p.getD 0 0 = 0) (hin : ∀ j, j < p.length → ¬ outP (p.getD j 0)) (j : Nat) (hj : 1 ≤ j ∧ j ≤ l.length) (h : wrongP F l p j) (hm : ∀ j', wrongP F l p j' → j ≤ j') (hr : r = .tup [I (j : Int), I 16])
  | ok (hA : AlbOK F l) (hl : p.length = l.length + 1) (hz : p.getD 0 0 = 0) (hin : ∀ j, j < p.length → ¬ outP (p.getD j 0)) (h : ∀ j, ¬ wrongP F l p j) (hr : r = .tup [I 0, I 0])
end Go.Sx

namespace Go.Sx
open Go Go.Proofs
set_option maxRecDepth 10000
set_option maxHeartbeats 8000000
noncomputable def rf20 : Code := cB (cS (cS (cS (cB (cF (cS (cS (cL (cB (cS (cF (cS (cS (cS (cS (bodyOf Tryd.f25))))))))))))))))
theorem s20 (F : List Fmt) (l : List Sng) (p : List Int) (hI : ∀ i, (F.getD i f0).nm.size ≤ 9223372036854775807) (hpl : p.length ≤ 1000000) : HSpec Tryd.prog 25 [lFmt F, lSng l, .one (.lst true [.int .i64] (i64s p))] [] (fun r m' => CpRs F l p r ∧ m' = []) := by
  have ll := sngA_len l
  have lpi := i64s_len p
  refine spec_of pMix (O := []) Tryd.func25 (c := bodyOf Tryd.f25) rfl (by kernel_rfl) (by kernel_rfl) Tryd.ntmps25 (res := [.tmp 6, .tmp 7]) (by kernel_rfl) ?_
  repeat' ((conv => whnf); first | refine Rng.g ?_ | refine Ob.g ?_ | refine Ob.e ?_ | refine Ob.m ?_ | refine Ob.mk (Nat.le_of_ble_eq_true rfl) ?_ | refine JoinVC.on ?_ | refine Nils.mk (fun h => ?_) ?_ | refine Val.t ?_ | refine Val.d ?_ | refine Mm.mk ?_ | (refine Br.mk (fun h => ?_) (fun h => ?_) <;> first | (exfalso; omega; done) | (exfalso; simp at h; done) | skip))
  conv => whnf
  refine CallVC.mk [] _ _ _ rfl rfl rfl (s49 F l hI) (fun r m' h' => ?_)
  rcases h' with ⟨he, rfl, rfl⟩ | ⟨he, rfl, rfl⟩ | ⟨hA, rfl, rfl⟩
  · repeat' ((conv => whnf); first | refine Rng.g ?_ | refine Ob.g ?_ | refine Ob.e ?_ | refine Ob.m ?_ | refine Ob.mk (Nat.le_of_ble_eq_true rfl) ?_ | refine JoinVC.on ?_ | refine Nils.mk (fun h => ?_) ?_ | refine Val.t ?_ | refine Val.d ?_ | refine Mm.mk ?_ | (refine Br.mk (fun h => ?_) (fun h => ?_) <;> first | (exfalso; omega; done) | (exfalso; simp at h; done) | skip))
    repeat refine Mm.mk ?_
    conv => whnf
    refine EndVC.mk _ rfl _ _ (⟨.bad he rfl, rfl⟩) ?_
    refine ⟨[], rfl, rfl, ?_, ?_⟩ <;> repeat' (first | exact trivial | exact rfl | exact Iff.rfl | apply And.intro)
  · repeat' ((conv => whnf); first | refine Rng.g ?_ | refine Ob.g ?_ | refine Ob.e ?_ | refine Ob.m ?_ | refine Ob.mk (Nat.le_of_ble_eq_true rfl) ?_ | refine JoinVC.on ?_ | refine Nils.mk (fun h => ?_) ?_ | refine Val.t ?_ | refine Val.d ?_ | refine Mm.mk ?_ | (refine Br.mk (fun h => ?_) (fun h => ?_) <;> first | (exfalso; omega; done) | (exfalso; simp at h; done) | skip))
    repeat refine Mm.mk ?_
    conv => whnf
    refine EndVC.mk _ rfl _ _ (⟨.bad he rfl, rfl⟩) ?_
    refine ⟨[], rfl, rfl, ?_, ?_⟩ <;> repeat' (first | exact trivial | exact rfl | exact Iff.rfl | apply And.intro)
  have h24 := hA.sngs.len
  by_cases hl : p.length = l.length + 1
  rotate_left
  · repeat' ((conv => whnf); first | refine Rng.g ?_ | refine Ob.g ?_ | refine Ob.e ?_ | refine Ob.m ?_ | refine Ob.mk (Nat.le_of_ble_eq_true rfl) ?_ | refine JoinVC.on ?_ | refine Nils.mk (fun h => ?_) ?_ | refine Val.t ?_ | refine Val.d ?_ | refine Mm.mk ?_ | (refine Br.mk (fun h => ?_) (fun h => ?_) <;> first | (exfalso; omega; done) | (exfalso; simp at h; done) | skip))
    repeat refine Mm.mk ?_
    conv => whnf
    refine EndVC.mk _ rfl _ _ (⟨.len hA hl rfl, rfl⟩) ?_
    refine ⟨[], rfl, rfl, ?_, ?_⟩ <;> repeat' (first | exact trivial | exact rfl | exact Iff.rfl | apply And.intro)
  have gz : rI (i64s p) (Int.toNat 0) 0 = p.getD 0 0 := i64s_get p 0
  by_cases hz : p.getD 0 0 = 0
  rotate_left
  · repeat' ((conv => whnf); first | rw [gz] | refine Rng.g ?_ | refine Ob.g ?_ | refine Ob.e ?_ | refine Ob.m ?_ | refine Ob.mk (Nat.le_of_ble_eq_true rfl) ?_ | refine JoinVC.on ?_ | refine Nils.mk (fun h => ?_) ?_ | refine Val.t ?_ | refine Val.d ?_ | refine Mm.mk ?_ | (refine Br.mk (fun h => ?_) (fun h => ?_) <;> first | (exfalso; omega; done) | (exfalso; simp at h; done) | skip))
    repeat refine Mm.mk ?_
    conv => whnf
    refine EndVC.mk _ rfl _ _ (⟨.rng hA hl (.inl hz) rfl, rfl⟩) ?_
    refine ⟨[], rfl, rfl, ?_, ?_⟩ <;> repeat' (first | exact trivial | exact rfl | exact Iff.rfl | apply And.intro)
  have c50 := s50 p hpl
  by_cases hin : ∃ j, j < p.length ∧ outP (p.getD j 0)
  · repeat' ((conv => whnf); first | rw [gz] | refine Rng.g ?_ | refine Ob.g ?_ | refine Ob.e ?_ | refine Ob.m ?_ | refine Ob.mk (Nat.le_of_ble_eq_true rfl) ?_ | refine JoinVC.on ?_ | refine Nils.mk (fun h => ?_) ?_ | refine Val.t ?_ | refine Val.d ?_ | refine Mm.mk ?_ | refine CallVC.pure rfl (c50) ?_ | refine CallVC0.pure rfl (c50) ?_ | (refine Br.mk (fun h => ?_) (fun h => ?_) <;> first | (exfalso; omega; done) | (exfalso; simp at h; done) | skip))
    · repeat refine Mm.mk ?_
      conv => whnf
      refine EndVC.mk _ rfl _ _ (⟨.rng hA hl (.inr hin) rfl, rfl⟩) ?_
      refine ⟨[], rfl, rfl, ?_, ?_⟩ <;> repeat' (first | exact trivial | exact rfl | exact Iff.rfl | apply And.intro)
    · exact absurd hin h
  repeat' ((conv => whnf); first | rw [gz] | refine Rng.g ?_ | refine Ob.g ?_ | refine Ob.e ?_ | refine Ob.m ?_ | refine Ob.mk (Nat.le_of_ble_eq_true rfl) ?_ | refine JoinVC.on ?_ | refine Nils.mk (fun h => ?_) ?_ | refine Val.t ?_ | refine Val.d ?_ | refine Mm.mk ?_ | refine CallVC.pure rfl (c50) ?_ | refine CallVC0.pure rfl (c50) ?_ | (refine Br.mk (fun h => ?_) (fun h => ?_) <;> first | (exfalso; omega; done) | (exfalso; simp at h; done) | skip))
  · exact absurd h hin
  have hin' : ∀ j, j < p.length → ¬ outP (p.getD j 0) := fun j hj ho => hin ⟨j, hj, ho⟩
  have hbd : ∀ j, j < p.length → -1 ≤ p.getD j 0 ∧ p.getD j 0 ≤ 25165824 := fun j hj => by have := hin' j hj; unfold outP at this; omega
  refine LoopVC.mk (fun m st => ∃ (i : Nat) (a : Int), i ≤ l.length ∧ m = l.length - i ∧ WrgOK l.length (badP F l p i []) a ∧ st = ⟨0, envA 99 [(1, .x (lSng l)), (5, .x (.one (.ptr 0 0))), (8, .x (.one (.ptr 2 0))), (10, .x (.one (.ptr 3 0))), (44, .int .i64 (l.length : Int)), (45, .int .i64 (i : Int))], [some (.box 38 [.lst true [.int .i64] (i64s p)]), some (bAlb F l (l.length : Int)), some (.box 82 [.ptr 1 0]), some (.box 3 [.int .i64 a])]⟩) _ _ ⟨0, (l.length : Int) + 1, Nat.zero_le _, rfl, wrg_start, rfl⟩ ?_ ?_
  · refine ⟨[some 0, some 1, some 2, some 3], rfl, rfl, ?_, ?_⟩ <;> repeat' (first | exact trivial | exact rfl | exact Iff.rfl | apply And.intro)
    all_goals rw [ll]
  rintro m _ ⟨i, a, hi, hm, hW, rfl⟩
  have hWr := hW.rng
  by_cases hi' : i < l.length
  rotate_left
  · have ei : i = l.length := by omega
    subst ei
    by_cases ha : a ≤ l.length
    · repeat' ((conv => whnf); first | refine Rng.g ?_ | refine Ob.g ?_ | refine Ob.e ?_ | refine Ob.m ?_ | refine Ob.mk (Nat.le_of_ble_eq_true rfl) ?_ | refine JoinVC.on ?_ | refine Nils.mk (fun h => ?_) ?_ | refine Val.t ?_ | refine Val.d ?_ | refine Mm.mk ?_ | (refine Br.mk (fun h => ?_) (fun h => ?_) <;> first | (exfalso; omega; done) | (exfalso; simp at h; done) | skip))
      repeat refine Mm.mk ?_
      conv => whnf
      refine EndVC.mk _ rfl _ _ (⟨.wrong hA hl hz hin' a.toNat (by omega) (hW.bad ha) (fun j hj => (by have := hW.least j hj; omega)) rfl, rfl⟩) ?_
      refine ⟨[], rfl, rfl, ?_, ?_⟩ <;> repeat' (first | exact trivial | exact rfl | exact Iff.rfl | apply And.intro)
      omega
    · have hno : ∀ j, ¬ wrongP F l p j := fun j hj => by
        have h1 := hW.least j hj
        obtain ⟨i', k, h2, _⟩ := hj
        rcases h2 with ⟨_, h2⟩ | ⟨_, h2⟩
        · have := h2.le
          omega
        · simp at h2
      repeat' ((conv => whnf); first | refine Rng.g ?_ | refine Ob.g ?_ | refine Ob.e ?_ | refine Ob.m ?_ | refine Ob.mk (Nat.le_of_ble_eq_true rfl) ?_ | refine JoinVC.on ?_ | refine Nils.mk (fun h => ?_) ?_ | refine Val.t ?_ | refine Val.d ?_ | refine Mm.mk ?_ | (refine Br.mk (fun h => ?_) (fun h => ?_) <;> first | (exfalso; omega; done) | (exfalso; simp at h; done) | skip))
      repeat refine Mm.mk ?_
      conv => whnf
      refine EndVC.mk _ rfl _ _ (⟨.ok hA hl hz hin' hno rfl, rfl⟩) ?_
      refine ⟨[], rfl, rfl, ?_, ?_⟩ <;> repeat' (first | exact trivial | exact rfl | exact Iff.rfl | apply And.intro)
  have gi : rI (i64s p) (i : Int).toNat 0 = p.getD i 0 := by rw [Int.toNat_natCast]; exact i64s_get p i
  have hbi := hbd i (by omega)
  by_cases h0 : p.getD i 0 < 0
  · repeat' ((conv => whnf); first | rw [gi] | refine Rng.g ?_ | refine Ob.g ?_ | refine Ob.e ?_ | refine Ob.m ?_ | refine Ob.mk (Nat.le_of_ble_eq_true rfl) ?_ | refine JoinVC.on ?_ | refine Nils.mk (fun h => ?_) ?_ | refine Val.t ?_ | refine Val.d ?_ | refine Mm.mk ?_ | (refine Br.mk (fun h => ?_) (fun h => ?_) <;> first | (exfalso; omega; done) | (exfalso; simp at h; done) | skip))
    refine Back.mk (l.length - (i + 1)) _ (by omega) ⟨i + 1, a, by omega, rfl, hW.congr (badP_skip h0), rfl⟩ ?_
    refine ⟨[some 0, some 1, some 2, some 3], rfl, rfl, ?_, ?_⟩ <;> repeat' (first | exact trivial | exact rfl | exact Iff.rfl | apply And.intro)
  repeat' ((conv => whnf); first | rw [gi] | refine Rng.g ?_ | refine Ob.g ?_ | refine Ob.e ?_ | refine Ob.m ?_ | refine Ob.mk (Nat.le_of_ble_eq_true rfl) ?_ | refine JoinVC.on ?_ | refine Nils.mk (fun h => ?_) ?_ | refine Val.t ?_ | refine Val.d ?_ | refine Mm.mk ?_ | (refine Br.mk (fun h => ?_) (fun h => ?_) <;> first | (exfalso; omega; done) | (exfalso; simp at h; done) | skip))
  conv => whnf
  refine CallVC.mk [1] _ _ _ rfl rfl rfl (s53 F l (l.length : Int) (i : Int)) (fun r m' h' => ?_)
  obtain ⟨rfl, rfl⟩ := h'
  conv => whnf
  have lpl := plsA_len F l
  have h8 := hA.few
  repeat' ((conv => whnf); first | refine Rng.g ?_ | refine Ob.g ?_ | refine Ob.e ?_ | refine Ob.m ?_ | refine Ob.mk (Nat.le_of_ble_eq_true rfl) ?_ | refine JoinVC.on ?_ | refine Nils.mk (fun h => ?_) ?_ | refine Val.t ?_ | refine Val.d ?_ | refine Mm.mk ?_ | (refine Br.mk (fun h => ?_) (fun h => ?_) <;> first | (exfalso; omega; done) | (exfalso; simp at h; done) | skip))
  change RangeVC _ _ _ _ _
  refine RangeVC.mk e69 (isem_of_awp pMix [] Tryd.func69 (c := bodyOf Tryd.f69) rfl (by kernel_rfl) Tryd.ntmps69 (by kernel_rfl) ?_)
  repeat' ((conv => whnf); first | refine Rng.g ?_ | refine Ob.g ?_ | refine Ob.e ?_ | refine Ob.m ?_ | refine Ob.mk (Nat.le_of_ble_eq_true rfl) ?_ | refine JoinVC.on ?_ | refine Nils.mk (fun h => ?_) ?_ | refine Val.t ?_ | refine Val.d ?_ | refine Mm.mk ?_ | (refine Br.mk (fun h => ?_) (fun h => ?_) <;> first | (exfalso; omega; done) | (exfalso; simp at h; done) | skip))
  refine LoopVC.mk (fun n st => ∃ (k : Nat) (a : Int), k ≤ F.length ∧ n = F.length - k ∧ WrgOK l.length (badP F l p i (fcs F l i k)) a ∧ st = ⟨8, envA 43 [(0, .x (.one (.yld 7))), (1, .x (.one (.ptr 5 0))), (2, .x (.one (.ptr 6 0))), (10, .x (.one (.lst true [.pt KPl] (plsA F l)))), (11, .int .i64 (F.length : Int)), (12, .int .i64 (k : Int))], [some (.box 38 [.lst true [.int .i64] (i64s p)]), some (bAlb F l (l.length : Int)), some (.box 82 [.ptr 1 0]), some (.box 3 [.int .i64 a]), some (.box 3 [.int .i64 (i : Int)]), some (.box 82 [.ptr 1 0]), some (.box 3 [.int .i64 (i : Int)]), some (.loop [56] (cAs rf20) (cBo rf20) (envA 99 [(1, .x (lSng l)), (5, .x (.one (.ptr 0 0))), (8, .x (.one (.ptr 2 0))), (10, .x (.one (.ptr 3 0))), (11, .x (.one (.ptr 4 0))), (44, .int .i64 (l.length : Int)), (45, .int .i64 (i : Int))]) .ready)]⟩) _ _ ⟨0, a, Nat.zero_le _, rfl, hW, rfl⟩ ?_ ?_
  · refine ⟨[some 0, some 1, some 2, some 3, some 4, some 5, some 6, some 7], rfl, rfl, ?_, ?_⟩ <;> repeat' (first | exact trivial | exact rfl | exact Iff.rfl | apply And.intro)
    exact congrArg Int.ofNat lpl
  clear hW hWr
  rintro n _ ⟨k, a, hk, hn, hW, rfl⟩
  by_cases hk' : k < F.length
  rotate_left
  · have ek : k = F.length := by omega
    subst ek
    repeat' ((conv => whnf); first | refine Rng.g ?_ | refine Ob.g ?_ | refine Ob.e ?_ | refine Ob.m ?_ | refine Ob.mk (Nat.le_of_ble_eq_true rfl) ?_ | refine JoinVC.on ?_ | refine Nils.mk (fun h => ?_) ?_ | refine Val.t ?_ | refine Val.d ?_ | refine Mm.mk ?_ | (refine Br.mk (fun h => ?_) (fun h => ?_) <;> first | (exfalso; omega; done) | (exfalso; simp at h; done) | skip))
    refine Back.mk (l.length - (i + 1)) _ (by omega) ⟨i + 1, a, by omega, rfl, hW.congr badP_next, rfl⟩ ?_
    refine ⟨[some 0, some 1, some 2, some 3], rfl, rfl, ?_, ?_⟩ <;> repeat' (first | exact trivial | exact rfl | exact Iff.rfl | apply And.intro)
  have gk : rA (plsA F l) (k : Int).toNat 0 = plA (F.getD k f0) l := by rw [Int.toNat_natCast]; exact plsA_at F l k hk'
  have hf := hA.fmts k hk'
  repeat' ((conv => whnf); first | rw [gk] | refine Rng.g ?_ | refine Ob.g ?_ | refine Ob.e ?_ | refine Ob.m ?_ | refine Ob.mk (Nat.le_of_ble_eq_true rfl) ?_ | refine JoinVC.on ?_ | refine Nils.mk (fun h => ?_) ?_ | refine Val.t ?_ | refine Val.d ?_ | refine Mm.mk ?_ | (refine Br.mk (fun h => ?_) (fun h => ?_) <;> first | (exfalso; omega; done) | (exfalso; simp at h; done) | skip))
  refine LoopVC.mk (fun n st => ∃ (j : Nat) (a : Int), i < j ∧ j ≤ l.length + 1 ∧ n = l.length + 1 - j ∧ WrgOK l.length (badP F l p i (fcs F l i k ++ fcj F l i k j)) a ∧ st = ⟨8, envA 43 [(0, .x (.one (.yld 7))), (1, .x (.one (.ptr 5 0))), (2, .x (.one (.ptr 6 0))), (4, .int .i64 (k : Int)), (5, .x (plX (F.getD k f0) l)), (6, .int .i64 (j : Int)), (10, .x (.one (.lst true [.pt KPl] (plsA F l)))), (11, .int .i64 (F.length : Int)), (12, .int .i64 (k : Int))], [some (.box 38 [.lst true [.int .i64] (i64s p)]), some (bAlb F l (l.length : Int)), some (.box 82 [.ptr 1 0]), some (.box 3 [.int .i64 a]), some (.box 3 [.int .i64 (i : Int)]), some (.box 82 [.ptr 1 0]), some (.box 3 [.int .i64 (i : Int)]), some (.loop [56] (cAs rf20) (cBo rf20) (envA 99 [(1, .x (lSng l)), (5, .x (.one (.ptr 0 0))), (8, .x (.one (.ptr 2 0))), (10, .x (.one (.ptr 3 0))), (11, .x (.one (.ptr 4 0))), (44, .int .i64 (l.length : Int)), (45, .int .i64 (i : Int))]) .ready)]⟩) _ _ ⟨i + 1, a, by omega, by omega, rfl, by rw [fcj_lo _ (Nat.le_refl _), List.append_nil]; exact hW, rfl⟩ ?_ ?_
  · refine ⟨[some 0, some 1, some 2, some 3, some 4, some 5, some 6, some 7], rfl, rfl, ?_, ?_⟩ <;> repeat' (first | exact trivial | exact rfl | exact Iff.rfl | apply And.intro)
  clear hW
  rintro n2 _ ⟨j, a, hij, hj, hn2, hW, rfl⟩
  have c54 := s54g i j (by omega)
  by_cases hj' : j ≤ l.length
  rotate_left
  · have ej : j = l.length + 1 := by omega
    subst ej
    repeat' ((conv => whnf); first | refine Rng.g ?_ | refine Ob.g ?_ | refine Ob.e ?_ | refine Ob.m ?_ | refine Ob.mk (Nat.le_of_ble_eq_true rfl) ?_ | refine JoinVC.on ?_ | refine Nils.mk (fun h => ?_) ?_ | refine Val.t ?_ | refine Val.d ?_ | refine Mm.mk ?_ | (refine Br.mk (fun h => ?_) (fun h => ?_) <;> first | (exfalso; omega; done) | (exfalso; simp at h; done) | skip))
    refine Back.mk (F.length - (k + 1)) _ (by omega) ⟨k + 1, a, by omega, rfl, hW, rfl⟩ ?_
    refine ⟨[some 0, some 1, some 2, some 3, some 4, some 5, some 6, some 7], rfl, rfl, ?_, ?_⟩ <;> repeat' (first | exact trivial | exact rfl | exact Iff.rfl | apply And.intro)
  have c47 := s47p (F.getD k f0) l (seqL i (j - i)) hf hA.sngs (fun x hx => by rw [seqL_len] at hx; rw [seqL_get _ _ _ hx]; omega) (by rw [seqL_len]; omega)
  repeat' ((conv => whnf); first | refine Rng.g ?_ | refine Ob.g ?_ | refine Ob.e ?_ | refine Ob.m ?_ | refine Ob.mk (Nat.le_of_ble_eq_true rfl) ?_ | refine JoinVC.on ?_ | refine Nils.mk (fun h => ?_) ?_ | refine Val.t ?_ | refine Val.d ?_ | refine Mm.mk ?_ | (refine Br.mk (fun h => ?_) (fun h => ?_) <;> first | (exfalso; omega; done) | (exfalso; simp at h; done) | skip))
  conv => whnf
  refine CallVC.mk [] _ _ _ rfl rfl rfl (c54) (fun r m' h' => ?_)
  obtain ⟨rfl, rfl⟩ := h'
  conv => whnf
  repeat' ((conv => whnf); first | refine Rng.g ?_ | refine Ob.g ?_ | refine Ob.e ?_ | refine Ob.m ?_ | refine Ob.mk (Nat.le_of_ble_eq_true rfl) ?_ | refine JoinVC.on ?_ | refine Nils.mk (fun h => ?_) ?_ | refine Val.t ?_ | refine Val.d ?_ | refine Mm.mk ?_ | (refine Br.mk (fun h => ?_) (fun h => ?_) <;> first | (exfalso; omega; done) | (exfalso; simp at h; done) | skip))
  conv => whnf
  refine CallVC.mk [] _ _ _ rfl rfl rfl (c47) (fun r m' h' => ?_)
  obtain ⟨rfl, rfl⟩ := h'
  conv => whnf
  repeat refine Mm.mk ?_
  try refine JoinVC.on ?_
  refine Br.mk (fun hL => ?_) (fun hL => ?_)
  rotate_left
  · have hnf : ¬ faceP F l k i j := fun h => hL h.lay
    rw [fcj_end hA hij hnf hj] at hW
    repeat' ((conv => whnf); first | refine Rng.g ?_ | refine Ob.g ?_ | refine Ob.e ?_ | refine Ob.m ?_ | refine Ob.mk (Nat.le_of_ble_eq_true rfl) ?_ | refine JoinVC.on ?_ | refine Nils.mk (fun h => ?_) ?_ | refine Val.t ?_ | refine Val.d ?_ | refine Mm.mk ?_ | (refine Br.mk (fun h => ?_) (fun h => ?_) <;> first | (exfalso; omega; done) | (exfalso; simp at h; done) | skip))
    refine Back.mk (F.length - (k + 1)) _ (by omega) ⟨k + 1, a, by omega, rfl, hW, rfl⟩ ?_
    refine ⟨[some 0, some 1, some 2, some 3, some 4, some 5, some 6, some 7], rfl, rfl, ?_, ?_⟩ <;> repeat' (first | exact trivial | exact rfl | exact Iff.rfl | apply And.intro)
  have hface : faceP F l k i j := ⟨hk', hij, hj', hL⟩
  have hW' := stepG_ok hW (by omega) (q := (k, j)) hface
  have hbj := hbd j (by omega)
  have hco := hf.cost
  have gc : rI (rA (plsA F l) (k : Int).toNat 0) 0 (0 + 0 + (0 + 1 + 1 + 1 + 1 + 1 + 1 + 1)) = (F.getD k f0).cost := by rw [gk]; rfl
  have et : ((i : Int) + ((j : Int) - i)).toNat = j := by omega
  have gj : rI (i64s p) ((i : Int) + ((j : Int) - i)).toNat 0 = p.getD j 0 := by rw [et]; exact i64s_get p j
  have fin : WrgOK l.length (badP F l p i (fcs F l i k ++ fcj F l i k (j + 1))) (stepG F p i a (k, j)) := by rw [fcj_yes hface, ← List.append_assoc]; exact hW'
  repeat' ((conv => whnf); first | refine Rng.g ?_ | refine Ob.g ?_ | refine Ob.e ?_ | refine Ob.m ?_ | refine Ob.mk (Nat.le_of_ble_eq_true rfl) ?_ | refine JoinVC.on ?_ | refine Nils.mk (fun h => ?_) ?_ | refine Val.t ?_ | refine Val.d ?_ | refine Mm.mk ?_ | (refine Br.mk (fun h => ?_) (fun h => ?_) <;> first | (exfalso; omega; done) | (exfalso; simp at h; done) | skip))
  change YieldVC _ _ _ _ _
  refine YieldVC.mk (rsem_of_awp pMix [] rfl (by kernel_rfl) ?_)
  repeat' ((conv => whnf); first | refine Rng.g ?_ | refine Ob.g ?_ | refine Ob.e ?_ | refine Ob.m ?_ | refine Ob.mk (Nat.le_of_ble_eq_true rfl) ?_ | refine JoinVC.on ?_ | refine Nils.mk (fun h => ?_) ?_ | refine Val.t ?_ | refine Val.d ?_ | refine Mm.mk ?_ | (refine Br.mk (fun h => ?_) (fun h => ?_) <;> first | (exfalso; omega; done) | (exfalso; simp at h; done) | skip))
  · have e : stepG F p i a (k, j) = if ((i : Int) + ((j : Int) - i)) < a then ((i : Int) + ((j : Int) - i)) else a := by
      rw [show (i : Int) + ((j : Int) - i) = j by omega]
      exact if_pos (.inl (by show p.getD j 0 < 0; omega))
    refine Back.mk (l.length + 1 - (j + 1)) _ (by omega) ⟨j + 1, _, by omega, by omega, rfl, fin, rfl⟩ ?_
    rw [e]
    refine ⟨[some 0, some 1, some 2, some 3, some 4, some 5, some 6, some 7], rfl, rfl, ?_, ?_⟩ <;> repeat' (first | exact trivial | exact rfl | exact Iff.rfl | apply And.intro)
  · have e : stepG F p i a (k, j) = if ((i : Int) + ((j : Int) - i)) < a then ((i : Int) + ((j : Int) - i)) else a := by
      rw [show (i : Int) + ((j : Int) - i) = j by omega]
      exact if_pos (.inr (by show p.getD i 0 + (F.getD k f0).cost < p.getD j 0; omega))
    refine Back.mk (l.length + 1 - (j + 1)) _ (by omega) ⟨j + 1, _, by omega, by omega, rfl, fin, rfl⟩ ?_
    rw [e]
    refine ⟨[some 0, some 1, some 2, some 3, some 4, some 5, some 6, some 7], rfl, rfl, ?_, ?_⟩ <;> repeat' (first | exact trivial | exact rfl | exact Iff.rfl | apply And.intro)
  · have e : stepG F p i a (k, j) = a := if_neg (by show ¬ (p.getD j 0 < 0 ∨ p.getD i 0 + (F.getD k f0).cost < p.getD j 0); omega)
    refine Back.mk (l.length + 1 - (j + 1)) _ (by omega) ⟨j + 1, _, by omega, by omega, rfl, fin, rfl⟩ ?_
    rw [e]
    refine ⟨[some 0, some 1, some 2, some 3, some 4, some 5, some 6, some 7], rfl, rfl, ?_, ?_⟩ <;> repeat' (first | exact trivial | exact rfl | exact Iff.rfl | apply And.intro)
end Go.Sx

namespace Go.Sx
open Go Go.Proofs
set_option maxRecDepth 10000
set_option maxHeartbeats 16000000
theorem e7 : EntersF Tryd.prog 7 := enters_of Tryd.func7 (c := bodyOf Tryd.f7) (by kernel_rfl) rfl
/-! ### The examples: plain facts -/
theorem s20x : PSpec Tryd.prog 20 [.one (.lst true KF2 [[.int 0, .int 1], [.int 0, .int 2]]), .one (.lst true KF2 [[.int 0, .int 1], [.int 0, .int 2]])] (.x (.one .tt)) := by
  refine spec_of pMix (O := []) Tryd.func20 (c := bodyOf Tryd.f20) rfl (by kernel_rfl) (by kernel_rfl) Tryd.ntmps20 (res := [.tmp 4]) (by kernel_rfl) ?_
  repeat' ((conv => whnf); first | refine Rng.g ?_ | refine Ob.g ?_ | refine Ob.e ?_ | refine Ob.m ?_ | refine Ob.mk (Nat.le_of_ble_eq_true rfl) ?_ | refine JoinVC.on ?_ | refine Nils.mk (fun h => ?_) ?_ | refine Val.t ?_ | refine Val.d ?_ | refine Mm.mk ?_ | (refine Br.mk (fun h => ?_) (fun h => ?_) <;> first | (exfalso; omega; done) | (exfalso; simp at h; done) | skip))
  refine LoopVC.un 3 ?_
  repeat' ((conv => whnf); first | refine Rng.g ?_ | refine Ob.g ?_ | refine Ob.e ?_ | refine Ob.m ?_ | refine Ob.mk (Nat.le_of_ble_eq_true rfl) ?_ | refine JoinVC.on ?_ | refine Nils.mk (fun h => ?_) ?_ | refine Val.t ?_ | refine Val.d ?_ | refine Mm.mk ?_ | (refine Br.mk (fun h => ?_) (fun h => ?_) <;> first | (exfalso; omega; done) | (exfalso; simp at h; done) | skip))
  repeat refine Mm.mk ?_
  refine EndVC.mk _ rfl _ _ ⟨rfl, rfl⟩ ?_
  refine ⟨[], rfl, rfl, ?_, ?_⟩ <;> repeat' (first | exact trivial | exact rfl | exact Iff.rfl | apply And.intro)
/-! ### Album -/
theorem face4_list {k i j : Nat} : faceP [f4] l4 k i j ↔ k = 0 ∧ ((i = 0 ∧ j = 1) ∨ (i = 1 ∧ j = 2) ∨ (i = 1 ∧ j = 3) ∨ (i = 2 ∧ j = 3)) := by
  rw [face4]
  constructor
  · rintro ⟨h1, h2, h3, h4⟩
    refine ⟨h1, ?_⟩
    have hc : (i = 0 ∧ j = 1) ∨ (i = 0 ∧ j = 2) ∨ (i = 0 ∧ j = 3) ∨ (i = 1 ∧ j = 2) ∨ (i = 1 ∧ j = 3) ∨ (i = 2 ∧ j = 3) := by omega
    rcases hc with h | ⟨rfl, rfl⟩ | ⟨rfl, rfl⟩ | h | h | h
    · exact .inl h
    · revert h4; decide
    · revert h4; decide
    · exact .inr (.inl h)
    · exact .inr (.inr (.inl h))
    · exact .inr (.inr (.inr h))
  · rintro ⟨h1, ⟨rfl, rfl⟩ | ⟨rfl, rfl⟩ | ⟨rfl, rfl⟩ | ⟨rfl, rfl⟩⟩
    all_goals exact ⟨h1, by decide, by decide, by decide⟩
theorem plan4 : PlanOK [f4] l4 0 [(0, 1), (0, 2)] := ⟨face4_list.2 ⟨rfl, .inl ⟨rfl, rfl⟩⟩, face4_list.2 ⟨rfl, .inr (.inr (.inl ⟨rfl, rfl⟩))⟩, rfl⟩
theorem plans4 {P : List (Nat × Nat)} (h : PlanOK [f4] l4 0 P) : P = [(0, 1), (0, 2)] ∨ P = [(0, 1), (0, 1), (0, 1)] := by
  match P, h with
  | [], h => exact absurd (show (0 : Nat) = 3 from h) (by decide)
  | (k, m) :: t, ⟨h1, h2⟩ =>
    have h3 := face4_list.1 h1
    obtain ⟨rfl, h3⟩ := h3
    obtain rfl : m = 1 := by omega
    match t, h2 with
    | [], h => exact absurd (show (0 + 1 : Nat) = 3 from h) (by decide)
    | (k2, m2) :: t2, ⟨g1, g2⟩ =>
      have g3 := face4_list.1 g1
      obtain ⟨rfl, g3⟩ := g3
      have hm : m2 = 1 ∨ m2 = 2 := by omega
      rcases hm with rfl | rfl
      · match t2, g2 with
        | [], h => exact absurd (show (0 + 1 + 1 : Nat) = 3 from h) (by decide)
        | (k3, m3) :: t3, ⟨e1, e2⟩ =>
          have e3 := face4_list.1 e1
          obtain ⟨rfl, e3⟩ := e3
          obtain rfl : m3 = 1 := by omega
          match t3, e2 with
          | [], _ => exact .inr rfl
          | (k4, m4) :: t4, ⟨e4, _⟩ =>
            have := (face4_list.1 e4).2
            omega
      · match t2, g2 with
        | [], _ => exact .inl rfl
        | (k4, m4) :: t4, ⟨e4, _⟩ =>
          have := (face4_list.1 e4).2
          omega
theorem best4 : ∃ w q, bst [f4] l4 0 = some (w, q) ∧ w.1 = 10 ∧ planB [f4] l4 l4.length 0 = [(0, 1), (0, 2)] := by
  obtain ⟨w, q, h1, h2⟩ := plan_le _ 0 (Nat.zero_le _) plan4
  obtain ⟨g1, g2, g3⟩ := planB_ok 3 0 w q (by decide) (Nat.zero_le _) h1
  have hl : l4.length = 3 := rfl
  rw [hl]
  rcases plans4 g1 with e | e
  · rw [e] at g2
    exact ⟨w, q, h1, g2.symm, e⟩
  · exfalso
    rw [e] at g2 g3
    apply h2
    have c1 : costP [f4] [(0, 1), (0, 1), (0, 1)] = 15 := rfl
    have c2 : costP [f4] [(0, 1), (0, 2)] = 10 := rfl
    rw [c1] at g2
    unfold ltW
    rw [c2]
    left
    omega
/-! ### CheckPrices -/
theorem wrong4 {p : List Int} {j : Nat} : wrongP [f4] l4 p j ↔ ∃ i, ((i = 0 ∧ j = 1) ∨ (i = 1 ∧ j = 2) ∨ (i = 1 ∧ j = 3) ∨ (i = 2 ∧ j = 3)) ∧ 0 ≤ p.getD i 0 ∧ (p.getD j 0 < 0 ∨ p.getD i 0 + 5 < p.getD j 0) := by
  constructor
  · rintro ⟨i, k, h1, h2, h3⟩
    rcases h1 with ⟨_, h1⟩ | ⟨_, h1⟩
    · obtain ⟨rfl, h4⟩ := face4_list.1 h1
      exact ⟨i, h4, h2, h3⟩
    · simp at h1
  · rintro ⟨i, h1, h2, h3⟩
    exact ⟨i, 0, .inl ⟨by show i < 3; omega, face4_list.2 ⟨rfl, h1⟩⟩, h2, h3⟩
theorem wr_a : wrongP [f4] l4 [0, 5, 10, 11] 3 ∧ ∀ j, wrongP [f4] l4 [0, 5, 10, 11] j → 3 ≤ j := by
  refine ⟨wrong4.2 ⟨1, .inr (.inr (.inl ⟨rfl, rfl⟩)), by decide, .inr (by decide)⟩, fun j h => ?_⟩
  obtain ⟨i, h1, h2, h3⟩ := wrong4.1 h
  rcases h1 with ⟨rfl, rfl⟩ | ⟨rfl, rfl⟩ | ⟨rfl, rfl⟩ | ⟨rfl, rfl⟩
  · revert h3; decide
  · revert h3; decide
  · decide
  · decide
theorem wr_b : wrongP [f4] l4 [0, 5, 11, 10] 2 ∧ ∀ j, wrongP [f4] l4 [0, 5, 11, 10] j → 2 ≤ j := by
  refine ⟨wrong4.2 ⟨1, .inr (.inl ⟨rfl, rfl⟩), by decide, .inr (by decide)⟩, fun j h => ?_⟩
  obtain ⟨i, h1, h2, h3⟩ := wrong4.1 h
  rcases h1 with ⟨rfl, rfl⟩ | ⟨rfl, rfl⟩ | ⟨rfl, rfl⟩ | ⟨rfl, rfl⟩
  · revert h3; decide
  · decide
  · decide
  · decide
/-! ### Pack -/
theorem pack4_0 : packR f4 l4 0 = none := by
  cases h : packR f4 l4 0 with
  | none => rfl
  | some q =>
    have h1 := packR_some h
    have h2 := h1.num 0 (by rw [h1.len]; decide)
    omega
theorem side4 : sideOK f4 l4 [0, 0, 0] 0 := by
  unfold sideOK
  rw [show usu l4 (onL [0, 0, 0] 0) = [1, 0, 2] by decide]
  exact allO4 ▸ lay4
theorem pack4_1 : packR f4 l4 1 = some [0, 0, 0] := by
  cases h : packR f4 l4 1 with
  | none =>
    refine absurd ?_ (packR_none h [0, 0, 0])
    exact ⟨by decide, fun i hi v hv => by
        have : ([0, 0, 0] : List Int).getD i 0 = 0 := by
          rcases (show i = 0 ∨ i = 1 ∨ i = 2 by simp at hi; omega) with rfl | rfl | rfl <;> rfl
        omega, fun v hv => ⟨0, by decide, by obtain rfl : v = 0 := by omega
                                             rfl⟩, rfl, fun k hk => by obtain rfl : k = 0 := by omega
                                                                       exact side4⟩
  | some q =>
    have h1 := packR_some h
    have hl : q.length = 3 := h1.len
    have hz : ∀ i, i < 3 → q.getD i 0 = 0 := fun i hi => by have := h1.num i (by omega); omega
    have e : q = [0, 0, 0] := by
      match q, hl with
      | [a, b, c], _ =>
        have e0 : a = 0 := hz 0 (by decide)
        have e1 : b = 0 := hz 1 (by decide)
        have e2 : c = 0 := hz 2 (by decide)
        rw [e0, e1, e2]
    rw [e]
theorem few4 : fewE f4 l4 = 0 := fewE_ok f4_ok l4_ok (by decide)
theorem few4_c : fewC f4 l4 = 0 ∧ fewN f4 l4 = 1 := by
  obtain ⟨h1, h2⟩ := fewC_ok few4 (by decide)
  refine ⟨h1, ?_⟩
  rw [h2]
  have e : widS f4 l4 l4.length = 400 := by
    show 0 + (widF f4 (l4.getD 0 g0) + f4.gap) + (widF f4 (l4.getD 1 g0) + f4.gap) + (widF f4 (l4.getD 2 g0) + f4.gap) = 400
    decide
  rw [e]
  decide
/-! ### With a greater least radius -/
def l5 : List Sng := [⟨95, 20, 500⟩, ⟨30, 40, 900⟩, ⟨41, 10, 0⟩]
theorem l5_ok : SngsOK l5 := ⟨by decide, fun j hj => by
  have hc : j = 0 ∨ j = 1 ∨ j = 2 := by
    have : j < 3 := hj
    omega
  rcases hc with rfl | rfl | rfl <;> (unfold Sng.ok; decide)⟩
theorem allO5 : allO l5 = [1, 0, 2] := by decide
theorem lay5 : ¬ LayOK f4 l5 (allO l5) := by
  rw [allO5]
  intro h
  have := h.1 0 (by decide)
  revert this
  unfold okAt
  decide
theorem crowd5 : CrowdP f4 l5 ((allO l5).take 1) := by
  rw [allO5]
  right
  unfold okAt
  decide
/-! ### Lay -/
theorem lay4a : LayOK f4 l4 [1, 0, 2] := allO4 ▸ lay4
theorem ord4 : ordE l4.length [1, 0, 2] = 0 := by decide
theorem bnd4 : bndA f4 l4 [1, 0, 2] 3 = [[.int 1, .int 980, .int 860], [.int 0, .int 850, .int 650], [.int 2, .int 640, .int 590]] := rfl
theorem ord4b : ordE l4.length [0, 1] = 0 := by decide
theorem ok4b : okAt f4 l4 [0, 1] 0 ∧ ¬ okAt f4 l4 [0, 1] 1 := by unfold okAt; decide
theorem wid4 : widF f4 ⟨95, 20, 500⟩ = 200 ∧ widF f4 ⟨30, 40, 800⟩ = 120 ∧ widF f4 ⟨41, 10, 0⟩ = 50 ∧ widF kn7 ⟨100000, 1600, 0⟩ = 14400 := by decide
end Go.Sx

namespace Go.Sx
open Go Go.Proofs
set_option maxRecDepth 10000
set_option maxHeartbeats 16000000
/-! ### Crowds of at most 12 tracks -/
theorem opdqs (fl : Bool) (n : Nat) (d : Array Int) (hz : d.size ≤ 1000) (hI : n ≤ d.size) (lim : Nat) (h12 : n ≤ 12) : HSpec Tryd.prog 75 [.one (.vw 0 Tryd.t3.size 0 n fl), I 0, I (n : Int), I (lim : Int)] [rowA d] (fun r m' => ∃ W : Array Int, Go.Sort.PermIn 0 n d W ∧ Go.Sort.SortedIn Go.Sort.ltInt 0 n W ∧ r = .tup [] ∧ m' = [some (rowA W)]) := by
  obtain ⟨p1, p2⟩ := Go.Sort.insertionSort_holds (lt := Go.Sort.ltInt) Go.Sort.swo_ltInt d 0 n (Nat.zero_le _) hI
  refine spec_of pMix (O := []) Tryd.func75 (c := bodyOf Tryd.f75) rfl (by kernel_rfl) (by kernel_rfl) Tryd.ntmps75 (res := []) (by kernel_rfl) ?_
  repeat' ((conv => whnf); first | refine Rng.g ?_ | refine Ob.g ?_ | refine Ob.e ?_ | refine Ob.m ?_ | refine Ob.mk (Nat.le_of_ble_eq_true rfl) ?_ | refine JoinVC.on ?_ | refine Nils.mk (fun h => ?_) ?_ | refine Val.t ?_ | refine Val.d ?_ | refine Mm.mk ?_ | (refine Br.mk (fun h => ?_) (fun h => ?_) <;> first | (exfalso; omega; done) | (exfalso; simp at h; done) | skip))
  refine LoopVC.un 1 ?_
  repeat' ((conv => whnf); first | refine Rng.g ?_ | refine Ob.g ?_ | refine Ob.e ?_ | refine Ob.m ?_ | refine Ob.mk (Nat.le_of_ble_eq_true rfl) ?_ | refine JoinVC.on ?_ | refine Nils.mk (fun h => ?_) ?_ | refine Val.t ?_ | refine Val.d ?_ | refine Mm.mk ?_ | (refine Br.mk (fun h => ?_) (fun h => ?_) <;> first | (exfalso; omega; done) | (exfalso; simp at h; done) | skip))
  conv => whnf
  refine CallVC.mk [0] _ _ _ rfl rfl rfl (oins fl n d hz hI 0 n (Nat.zero_le _) (Nat.le_refl _)) (fun r m' h' => ?_)
  obtain ⟨rfl, rfl⟩ := h'
  conv => whnf
  repeat' ((conv => whnf); first | refine Rng.g ?_ | refine Ob.g ?_ | refine Ob.e ?_ | refine Ob.m ?_ | refine Ob.mk (Nat.le_of_ble_eq_true rfl) ?_ | refine JoinVC.on ?_ | refine Nils.mk (fun h => ?_) ?_ | refine Val.t ?_ | refine Val.d ?_ | refine Mm.mk ?_ | (refine Br.mk (fun h => ?_) (fun h => ?_) <;> first | (exfalso; omega; done) | (exfalso; simp at h; done) | skip))
  repeat refine Mm.mk ?_
  conv => whnf
  refine EndVC.mk _ rfl _ _ (⟨_, p1, p2, rfl, rfl⟩) ?_
  refine ⟨[some 0], rfl, rfl, ?_, ?_⟩ <;> repeat' (first | exact trivial | exact rfl | exact Iff.rfl | apply And.intro)
theorem s63s (fl : Bool) (d : Array Int) (n : Nat) (hn : n ≤ d.size) (hz : d.size ≤ 24) (h12 : n ≤ 12) : HSpec Tryd.prog 63 [.one (.vw 0 Tryd.t3.size 0 n fl)] [rowA d] (fun r m' => ∃ W : Array Int, Go.Sort.PermIn 0 n d W ∧ Go.Sort.SortedIn Go.Sort.ltInt 0 n W ∧ r = .tup [] ∧ m' = [some (rowA W)]) := by
  have hbl : 0 ≤ bl (n : Int) ∧ bl (n : Int) ≤ 5 := by unfold bl; (repeat' split) <;> omega
  obtain ⟨k, hk⟩ : ∃ k : Nat, bl (n : Int) = (k : Int) := ⟨(bl (n : Int)).toNat, by omega⟩
  have c := s80b (n : Int) (by omega)
  rw [hk] at c
  refine spec_of pMix (O := []) Tryd.func63 (c := bodyOf Tryd.f63) rfl (by kernel_rfl) (by kernel_rfl) Tryd.ntmps63 (res := []) (by kernel_rfl) ?_
  repeat' ((conv => whnf); first | refine Rng.g ?_ | refine Ob.g ?_ | refine Ob.e ?_ | refine Ob.m ?_ | refine Ob.mk (Nat.le_of_ble_eq_true rfl) ?_ | refine JoinVC.on ?_ | refine Nils.mk (fun h => ?_) ?_ | refine Val.t ?_ | refine Val.d ?_ | refine Mm.mk ?_ | (refine Br.mk (fun h => ?_) (fun h => ?_) <;> first | (exfalso; omega; done) | (exfalso; simp at h; done) | skip))
  conv => whnf
  refine CallVC.mk [] _ _ _ rfl rfl rfl (c) (fun r m' h' => ?_)
  obtain ⟨rfl, rfl⟩ := h'
  conv => whnf
  repeat' ((conv => whnf); first | refine Rng.g ?_ | refine Ob.g ?_ | refine Ob.e ?_ | refine Ob.m ?_ | refine Ob.mk (Nat.le_of_ble_eq_true rfl) ?_ | refine JoinVC.on ?_ | refine Nils.mk (fun h => ?_) ?_ | refine Val.t ?_ | refine Val.d ?_ | refine Mm.mk ?_ | (refine Br.mk (fun h => ?_) (fun h => ?_) <;> first | (exfalso; omega; done) | (exfalso; simp at h; done) | skip))
  conv => whnf
  refine CallVC.mk [0] _ _ _ rfl rfl rfl (opdqs fl n d (by omega) hn k h12) (fun r m' h' => ?_)
  obtain ⟨W, h1, h2, rfl, rfl⟩ := h'
  conv => whnf
  repeat' ((conv => whnf); first | refine Rng.g ?_ | refine Ob.g ?_ | refine Ob.e ?_ | refine Ob.m ?_ | refine Ob.mk (Nat.le_of_ble_eq_true rfl) ?_ | refine JoinVC.on ?_ | refine Nils.mk (fun h => ?_) ?_ | refine Val.t ?_ | refine Val.d ?_ | refine Mm.mk ?_ | (refine Br.mk (fun h => ?_) (fun h => ?_) <;> first | (exfalso; omega; done) | (exfalso; simp at h; done) | skip))
  repeat refine Mm.mk ?_
  conv => whnf
  refine EndVC.mk _ rfl _ _ (⟨W, h1, h2, rfl, rfl⟩) ?_
  refine ⟨[some 0], rfl, rfl, ?_, ?_⟩ <;> repeat' (first | exact trivial | exact rfl | exact Iff.rfl | apply And.intro)
theorem s29s (f : Fmt) (l : List Sng) (hI : f.nm.size ≤ 9223372036854775807) (h12 : l.length ≤ 12) : HSpec Tryd.prog 36 [f.x, lSng l] [] (CwRs f l) := by
  refine spec_of pMix (O := []) Tryd.func36 (c := bodyOf Tryd.f36) rfl (by kernel_rfl) (by kernel_rfl) Tryd.ntmps36 (res := [.tmp 4, .tmp 5]) (by kernel_rfl) ?_
  repeat' ((conv => whnf); first | refine Rng.g ?_ | refine Ob.g ?_ | refine Ob.e ?_ | refine Ob.m ?_ | refine Ob.mk (Nat.le_of_ble_eq_true rfl) ?_ | refine JoinVC.on ?_ | refine Nils.mk (fun h => ?_) ?_ | refine Val.t ?_ | refine Val.d ?_ | refine Mm.mk ?_ | (refine Br.mk (fun h => ?_) (fun h => ?_) <;> first | (exfalso; omega; done) | (exfalso; simp at h; done) | skip))
  conv => whnf
  refine CallVC.mk [] _ _ _ rfl rfl rfl (s35 f l hI) (fun r m' h' => ?_)
  rcases h' with ⟨hn, rfl, rfl⟩ | ⟨hf, hg, rfl, rfl⟩
  · repeat' ((conv => whnf); first | refine Rng.g ?_ | refine Ob.g ?_ | refine Ob.e ?_ | refine Ob.m ?_ | refine Ob.mk (Nat.le_of_ble_eq_true rfl) ?_ | refine JoinVC.on ?_ | refine Nils.mk (fun h => ?_) ?_ | refine Val.t ?_ | refine Val.d ?_ | refine Mm.mk ?_ | (refine Br.mk (fun h => ?_) (fun h => ?_) <;> first | (exfalso; omega; done) | (exfalso; simp at h; done) | skip))
    repeat refine Mm.mk ?_
    conv => whnf
    refine EndVC.mk _ rfl _ _ (.bad hn rfl rfl) ?_
    refine ⟨[], rfl, rfl, ?_, ?_⟩ <;> repeat' (first | exact trivial | exact rfl | exact Iff.rfl | apply And.intro)
  have h24 := hg.len
  have hal := (allO_idx l).len
  have lal := i64s_len (allO l)
  have hin := allO_in l
  repeat' ((conv => whnf); first | refine Rng.g ?_ | refine Ob.g ?_ | refine Ob.e ?_ | refine Ob.m ?_ | refine Ob.mk (Nat.le_of_ble_eq_true rfl) ?_ | refine JoinVC.on ?_ | refine Nils.mk (fun h => ?_) ?_ | refine Val.t ?_ | refine Val.d ?_ | refine Mm.mk ?_ | (refine Br.mk (fun h => ?_) (fun h => ?_) <;> first | (exfalso; omega; done) | (exfalso; simp at h; done) | skip))
  conv => whnf
  refine CallVC.mk [1] _ _ _ rfl rfl rfl (s46 f l h12) (fun r m' h' => ?_)
  obtain ⟨rfl, rfl⟩ := h'
  conv => whnf
  repeat' ((conv => whnf); first | refine Rng.g ?_ | refine Ob.g ?_ | refine Ob.e ?_ | refine Ob.m ?_ | refine Ob.mk (Nat.le_of_ble_eq_true rfl) ?_ | refine JoinVC.on ?_ | refine Nils.mk (fun h => ?_) ?_ | refine Val.t ?_ | refine Val.d ?_ | refine Mm.mk ?_ | (refine Br.mk (fun h => ?_) (fun h => ?_) <;> first | (exfalso; omega; done) | (exfalso; simp at h; done) | skip))
  conv => whnf
  refine CallVC.mk [] _ _ _ rfl rfl rfl (s47p f l (allO l) hf hg hin (by omega)) (fun r m' h' => ?_)
  obtain ⟨rfl, rfl⟩ := h'
  conv => whnf
  repeat refine Mm.mk ?_
  try refine JoinVC.on ?_
  refine Br.mk (fun hL => ?_) (fun hL => ?_)
  · repeat' ((conv => whnf); first | refine Rng.g ?_ | refine Ob.g ?_ | refine Ob.e ?_ | refine Ob.m ?_ | refine Ob.mk (Nat.le_of_ble_eq_true rfl) ?_ | refine JoinVC.on ?_ | refine Nils.mk (fun h => ?_) ?_ | refine Val.t ?_ | refine Val.d ?_ | refine Mm.mk ?_ | (refine Br.mk (fun h => ?_) (fun h => ?_) <;> first | (exfalso; omega; done) | (exfalso; simp at h; done) | skip))
    repeat refine Mm.mk ?_
    conv => whnf
    refine EndVC.mk _ rfl _ _ (.none hf hg (.inl hL) rfl rfl) ?_
    refine ⟨[], rfl, rfl, ?_, ?_⟩ <;> repeat' (first | exact trivial | exact rfl | exact Iff.rfl | apply And.intro)
  repeat' ((conv => whnf); first | refine Rng.g ?_ | refine Ob.g ?_ | refine Ob.e ?_ | refine Ob.m ?_ | refine Ob.mk (Nat.le_of_ble_eq_true rfl) ?_ | refine JoinVC.on ?_ | refine Nils.mk (fun h => ?_) ?_ | refine Val.t ?_ | refine Val.d ?_ | refine Mm.mk ?_ | (refine Br.mk (fun h => ?_) (fun h => ?_) <;> first | (exfalso; omega; done) | (exfalso; simp at h; done) | skip))
  refine LoopVC.mk (fun n st => ∃ (k : Nat), k ≤ l.length ∧ n = l.length - k ∧ (∀ j, j < k → ¬ CrowdP f l ((allO l).take (j + 1))) ∧ st = ⟨0, envA 47 [(6, .x (.one (.ptr 0 0))), (8, .x (.one (.own 1))), (25, .int .i64 (l.length : Int)), (26, .int .i64 (k : Int))], [some (bPl f l), some (rowOd (allO l))]⟩) _ _ ⟨0, Nat.zero_le _, rfl, fun j hj => absurd hj (Nat.not_lt_zero j), rfl⟩ ?_ ?_
  · refine ⟨[some 1, some 2], rfl, rfl, ?_, ?_⟩ <;> repeat' (first | exact trivial | exact rfl | exact Iff.rfl | apply And.intro)
    rw [lal, hal]
  rintro n _ ⟨k, hk, hn, hno, rfl⟩
  by_cases hk' : k < l.length
  rotate_left
  · have ek : k = l.length := by omega
    subst ek
    have h0 : l.length = 0 := Classical.byContradiction fun hc => by
      obtain ⟨j, h1, h2⟩ := crowd_some (f := f) (l := l) (O := allO l) (by omega) hL
      exact hno j (by omega) h2
    repeat' ((conv => whnf); first | refine Rng.g ?_ | refine Ob.g ?_ | refine Ob.e ?_ | refine Ob.m ?_ | refine Ob.mk (Nat.le_of_ble_eq_true rfl) ?_ | refine JoinVC.on ?_ | refine Nils.mk (fun h => ?_) ?_ | refine Val.t ?_ | refine Val.d ?_ | refine Mm.mk ?_ | (refine Br.mk (fun h => ?_) (fun h => ?_) <;> first | (exfalso; omega; done) | (exfalso; simp at h; done) | skip))
    repeat refine Mm.mk ?_
    conv => whnf
    refine EndVC.mk _ rfl _ _ (.none hf hg (.inr h0) rfl rfl) ?_
    refine ⟨[], rfl, rfl, ?_, ?_⟩ <;> repeat' (first | exact trivial | exact rfl | exact Iff.rfl | apply And.intro)
  have et : ((k : Int) + 1).toNat = k + 1 := by omega
  have lt : ((allO l).take (k + 1)).length = k + 1 := by rw [List.length_take]; omega
  have c44 : HSpec Tryd.prog 62 [plX f l, .one (.lst true [.int .i64] ((i64s (allO l)).take ((k : Int) + 1).toNat))] [] (fun r m' => r = @xP (CrowdP f l ((allO l).take (k + 1))) (Classical.propDecidable _) ∧ m' = []) := by
    rw [et, i64s_take]
    exact s44p f l ((allO l).take (k + 1)) hf hg (take_in hin _) (by omega) (by omega)
  repeat' ((conv => whnf); first | refine Rng.g ?_ | refine Ob.g ?_ | refine Ob.e ?_ | refine Ob.m ?_ | refine Ob.mk (Nat.le_of_ble_eq_true rfl) ?_ | refine JoinVC.on ?_ | refine Nils.mk (fun h => ?_) ?_ | refine Val.t ?_ | refine Val.d ?_ | refine Mm.mk ?_ | (refine Br.mk (fun h => ?_) (fun h => ?_) <;> first | (exfalso; omega; done) | (exfalso; simp at h; done) | skip))
  conv => whnf
  refine CallVC.mk [] _ _ _ rfl rfl rfl (c44) (fun r m' h' => ?_)
  obtain ⟨rfl, rfl⟩ := h'
  conv => whnf
  repeat refine Mm.mk ?_
  try refine JoinVC.on ?_
  refine Br.mk (fun hc => ?_) (fun hc => ?_)
  rotate_left
  · repeat' ((conv => whnf); first | refine Rng.g ?_ | refine Ob.g ?_ | refine Ob.e ?_ | refine Ob.m ?_ | refine Ob.mk (Nat.le_of_ble_eq_true rfl) ?_ | refine JoinVC.on ?_ | refine Nils.mk (fun h => ?_) ?_ | refine Val.t ?_ | refine Val.d ?_ | refine Mm.mk ?_ | (refine Br.mk (fun h => ?_) (fun h => ?_) <;> first | (exfalso; omega; done) | (exfalso; simp at h; done) | skip))
    refine Back.mk (l.length - (k + 1)) _ (by omega) ⟨k + 1, by omega, rfl, fun j hj => ?_, rfl⟩ ?_
    · rcases Nat.lt_succ_iff_lt_or_eq.1 hj with h' | rfl
      · exact hno j h'
      · exact hc
    · refine ⟨[some 0, some 1], rfl, rfl, ?_, ?_⟩ <;> repeat' (first | exact trivial | exact rfl | exact Iff.rfl | apply And.intro)
  have c63 := s63s true (allO l).toArray ((k : Int) + 1).toNat (by simp; omega) (by simp; omega) (by omega)
  repeat' ((conv => whnf); first | refine Rng.g ?_ | refine Ob.g ?_ | refine Ob.e ?_ | refine Ob.m ?_ | refine Ob.mk (Nat.le_of_ble_eq_true rfl) ?_ | refine JoinVC.on ?_ | refine Nils.mk (fun h => ?_) ?_ | refine Val.t ?_ | refine Val.d ?_ | refine Mm.mk ?_ | (refine Br.mk (fun h => ?_) (fun h => ?_) <;> first | (exfalso; omega; done) | (exfalso; simp at h; done) | skip))
  conv => whnf
  refine CallVC.mk [1] _ _ _ rfl rfl rfl (c63) (fun r m' h' => ?_)
  obtain ⟨W, h1, h2, rfl, rfl⟩ := h'
  conv => whnf
  rw [et] at h1 h2
  have hW := srt_take (allO_idx l).nodup' (by omega) h1 h2
  have hs : W.size = (allO l).length := by have := h1.1; simpa using this
  have la := arr_len W
  repeat' ((conv => whnf); first | refine Rng.g ?_ | refine Ob.g ?_ | refine Ob.e ?_ | refine Ob.m ?_ | refine Ob.mk (Nat.le_of_ble_eq_true rfl) ?_ | refine JoinVC.on ?_ | refine Nils.mk (fun h => ?_) ?_ | refine Val.t ?_ | refine Val.d ?_ | refine Mm.mk ?_ | (refine Br.mk (fun h => ?_) (fun h => ?_) <;> first | (exfalso; omega; done) | (exfalso; simp at h; done) | skip))
  repeat refine Mm.mk ?_
  conv => whnf
  refine EndVC.mk _ rfl _ _ (.some hf hg hL k hk' hno hc rfl rfl) ?_
  refine ⟨[], rfl, rfl, ?_, ?_⟩ <;> repeat' (first | exact trivial | exact rfl | exact Iff.rfl | apply And.intro)
  rw [et, i64s_take, hW]
end Go.Sx

namespace Go.Sx
open Go Go.Proofs
set_option maxRecDepth 10000
set_option maxHeartbeats 16000000
/-! ### The examples: the law -/
theorem out4 {p : List Int} (h : p = [0, 5, 10, 11] ∨ p = [0, 5, 11, 10]) : ¬ (p.getD 0 0 ≠ 0 ∨ ∃ j, j < p.length ∧ outP (p.getD j 0)) := by
  rintro (h1 | ⟨j, h1, h2⟩)
  · rcases h with rfl | rfl <;> exact h1 rfl
  · have hl : p.length = 4 := by rcases h with rfl | rfl <;> rfl
    rcases (show j = 0 ∨ j = 1 ∨ j = 2 ∨ j = 3 by omega) with rfl | rfl | rfl | rfl <;> rcases h with rfl | rfl <;> exact absurd h2 (by decide)
theorem cp4 {p : List Int} {j0 : Nat} {r : AV} (h : p = [0, 5, 10, 11] ∨ p = [0, 5, 11, 10]) (hw : wrongP [f4] l4 p j0 ∧ ∀ j, wrongP [f4] l4 p j → j0 ≤ j) (hC : CpRs [f4] l4 p r) : r = .tup [I (j0 : Int), I 16] := by
  cases hC with
  | bad h hr => exact absurd (fmsE_0.2 alb4) h
  | len _ hl hr => exact absurd (show p.length = 4 by rcases h with rfl | rfl <;> rfl) hl
  | rng _ _ h2 hr => exact absurd h2 (out4 h)
  | ok _ _ _ _ h2 hr => exact absurd hw.1 (h2 j0)
  | wrong _ _ _ _ j _ h2 hm hr =>
    have e : j = j0 := Nat.le_antisymm (hm j0 hw.1) (hw.2 j h2)
    rw [hr, e]
theorem nm7_ok : nameOK nm7 := ⟨by decide, by decide, fun j hj => by
  have hj : j < 5 := hj
  rcases (show j = 0 ∨ j = 1 ∨ j = 2 ∨ j = 3 ∨ j = 4 by omega) with rfl | rfl | rfl | rfl | rfl <;> exact .inl (by decide)⟩
theorem kn7_ok : FmtOK kn7 := ⟨nm7_ok, by decide, by decide, by decide, by decide, by decide, by decide, by decide⟩
theorem s7 : HSpec Tryd.prog 7 [] [gKnown, gNone] (fun r _ => r = xP True) := by
  have n4 : ∀ i, ([f4].getD i f0).nm.size ≤ 9223372036854775807 := fun i => by
    cases i with
    | zero => decide
    | succ n => exact (by decide : f0.nm.size ≤ 9223372036854775807)
  obtain ⟨w4, q4, hb4, hw4, hp4⟩ := best4
  have cA := s20x
  have cF := s24 f4 l4 (by decide)
  rw [few4_c.1, few4_c.2] at cF
  have k1 := s26 [0, 0, 0] [0, 0, 0] (by decide)
  have k2 := s26 [1] [1] (by decide)
  have hw := s11
  refine spec_of pMix (O := []) Tryd.func7 (c := bodyOf Tryd.f7) rfl (by kernel_rfl) (by kernel_rfl) Tryd.ntmps7 (res := [.tmp 0]) (by kernel_rfl) ?_
  repeat' ((conv => whnf); first | refine Rng.g ?_ | refine Ob.g ?_ | refine Ob.e ?_ | refine Ob.m ?_ | refine Ob.mk (Nat.le_of_ble_eq_true rfl) ?_ | refine JoinVC.on ?_ | refine Nils.mk (fun h => ?_) ?_ | refine Val.t ?_ | refine Val.d ?_ | refine Mm.mk ?_ | (refine Br.mk (fun h => ?_) (fun h => ?_) <;> first | (exfalso; omega; done) | (exfalso; simp at h; done) | skip))
  conv => whnf
  refine CallVC.mk [] _ _ _ rfl rfl rfl (s32) (fun r m' h' => ?_)
  obtain ⟨rfl, rfl⟩ := h'
  conv => whnf
  repeat' ((conv => whnf); first | refine Rng.g ?_ | refine Ob.g ?_ | refine Ob.e ?_ | refine Ob.m ?_ | refine Ob.mk (Nat.le_of_ble_eq_true rfl) ?_ | refine JoinVC.on ?_ | refine Nils.mk (fun h => ?_) ?_ | refine Val.t ?_ | refine Val.d ?_ | refine Mm.mk ?_ | (refine Br.mk (fun h => ?_) (fun h => ?_) <;> first | (exfalso; omega; done) | (exfalso; simp at h; done) | skip))
  refine LoopVC.un 4 ?_
  repeat' ((conv => whnf); first | refine Rng.g ?_ | refine Ob.g ?_ | refine Ob.e ?_ | refine Ob.m ?_ | refine Ob.mk (Nat.le_of_ble_eq_true rfl) ?_ | refine JoinVC.on ?_ | refine Nils.mk (fun h => ?_) ?_ | refine Val.t ?_ | refine Val.d ?_ | refine Mm.mk ?_ | (refine Br.mk (fun h => ?_) (fun h => ?_) <;> first | (exfalso; omega; done) | (exfalso; simp at h; done) | skip))
  conv => whnf
  refine CallVC.mk [] _ _ _ rfl rfl rfl (s16 f4 ⟨95, 20, 500⟩ (by decide)) (fun r m' h' => ?_)
  cases h' with
  | bad h hr hm => exact absurd (bothE_ok f4_ok ((sngs1 _).2 (by unfold Sng.ok; decide))) h
  | ok _ _ hr hm =>
  rw [wid4.1] at hr
  subst hr hm
  repeat' ((conv => whnf); first | refine Rng.g ?_ | refine Ob.g ?_ | refine Ob.e ?_ | refine Ob.m ?_ | refine Ob.mk (Nat.le_of_ble_eq_true rfl) ?_ | refine JoinVC.on ?_ | refine Nils.mk (fun h => ?_) ?_ | refine Val.t ?_ | refine Val.d ?_ | refine Mm.mk ?_ | (refine Br.mk (fun h => ?_) (fun h => ?_) <;> first | (exfalso; omega; done) | (exfalso; simp at h; done) | skip))
  · exact absurd rfl h
  conv => whnf
  refine CallVC.mk [] _ _ _ rfl rfl rfl (s16 f4 ⟨30, 40, 800⟩ (by decide)) (fun r m' h' => ?_)
  cases h' with
  | bad h hr hm => exact absurd (bothE_ok f4_ok ((sngs1 _).2 (by unfold Sng.ok; decide))) h
  | ok _ _ hr hm =>
  rw [wid4.2.1] at hr
  subst hr hm
  repeat' ((conv => whnf); first | refine Rng.g ?_ | refine Ob.g ?_ | refine Ob.e ?_ | refine Ob.m ?_ | refine Ob.mk (Nat.le_of_ble_eq_true rfl) ?_ | refine JoinVC.on ?_ | refine Nils.mk (fun h => ?_) ?_ | refine Val.t ?_ | refine Val.d ?_ | refine Mm.mk ?_ | (refine Br.mk (fun h => ?_) (fun h => ?_) <;> first | (exfalso; omega; done) | (exfalso; simp at h; done) | skip))
  · exact absurd rfl h
  conv => whnf
  refine CallVC.mk [] _ _ _ rfl rfl rfl (s16 f4 ⟨41, 10, 0⟩ (by decide)) (fun r m' h' => ?_)
  cases h' with
  | bad h hr hm => exact absurd (bothE_ok f4_ok ((sngs1 _).2 (by unfold Sng.ok; decide))) h
  | ok _ _ hr hm =>
  rw [wid4.2.2.1] at hr
  subst hr hm
  repeat' ((conv => whnf); first | refine Rng.g ?_ | refine Ob.g ?_ | refine Ob.e ?_ | refine Ob.m ?_ | refine Ob.mk (Nat.le_of_ble_eq_true rfl) ?_ | refine JoinVC.on ?_ | refine Nils.mk (fun h => ?_) ?_ | refine Val.t ?_ | refine Val.d ?_ | refine Mm.mk ?_ | (refine Br.mk (fun h => ?_) (fun h => ?_) <;> first | (exfalso; omega; done) | (exfalso; simp at h; done) | skip))
  · exact absurd rfl h
  conv => whnf
  refine CallVC.mk [] _ _ _ rfl rfl rfl (s12 f4 l4 [1, 0, 2] (by decide) (by decide)) (fun r m' h' => ?_)
  cases h' with
  | bad h hr hm => exact absurd (bothE_ok f4_ok l4_ok) h
  | ord _ _ h hr hm => exact absurd ord4 h
  | rule _ _ _ i hi _ hn hr hm => exact absurd (lay4a.1 i hi) hn
  | limit _ _ _ _ hn hr hm => exact absurd lay4a hn
  | ok _ _ _ _ hr hm =>
  rw [show bndA f4 l4 [1, 0, 2] ([1, 0, 2] : List Int).length = _ from bnd4] at hm
  subst hr hm
  repeat' ((conv => whnf); first | refine Rng.g ?_ | refine Ob.g ?_ | refine Ob.e ?_ | refine Ob.m ?_ | refine Ob.mk (Nat.le_of_ble_eq_true rfl) ?_ | refine JoinVC.on ?_ | refine Nils.mk (fun h => ?_) ?_ | refine Val.t ?_ | refine Val.d ?_ | refine Mm.mk ?_ | (refine Br.mk (fun h => ?_) (fun h => ?_) <;> first | (exfalso; omega; done) | (exfalso; simp at h; done) | skip))
  · exact absurd ⟨rfl, rfl, rfl, trivial⟩ h
  · exact absurd ⟨rfl, rfl, rfl, trivial⟩ h
  · exact absurd ⟨rfl, rfl, rfl, trivial⟩ h
  conv => whnf
  refine CallVC.mk [] _ _ _ rfl rfl rfl (s12 f4 l4 [0, 1] (by decide) (by decide)) (fun r m' h' => ?_)
  cases h' with
  | bad h hr hm => exact absurd (bothE_ok f4_ok l4_ok) h
  | ord _ _ h hr hm => exact absurd ord4b h
  | limit _ _ _ h hn hr hm => exact absurd (h 1 (by decide)) ok4b.2
  | ok _ _ _ h hr hm => exact absurd (h.1 1 (by decide)) ok4b.2
  | rule _ _ _ i hi _ hn hr hm =>
  obtain rfl : i = 1 := by
    have h2 : i < 2 := hi
    rcases (show i = 0 ∨ i = 1 by omega) with rfl | rfl
    · exact absurd ok4b.1 hn
    · rfl
  subst hr hm
  repeat' ((conv => whnf); first | refine Rng.g ?_ | refine Ob.g ?_ | refine Ob.e ?_ | refine Ob.m ?_ | refine Ob.mk (Nat.le_of_ble_eq_true rfl) ?_ | refine JoinVC.on ?_ | refine Nils.mk (fun h => ?_) ?_ | refine Val.t ?_ | refine Val.d ?_ | refine Mm.mk ?_ | (refine Br.mk (fun h => ?_) (fun h => ?_) <;> first | (exfalso; omega; done) | (exfalso; simp at h; done) | skip))
  conv => whnf
  refine CallVC.mk [1] _ _ _ rfl rfl rfl (s18a [f4] l4 n4) (fun r m' h' => ?_)
  cases h' with
  | bad h hr hm => exact absurd (fmsE_0.2 alb4) h
  | none _ h hr hm => rw [hb4] at h; cases h
  | ok _ w q h hr hm =>
  rw [hb4] at h
  cases h
  rw [hp4, hw4, show fcsA [(0, 1), (0, 2)] = [[.int 0, .int 1], [.int 0, .int 2]] from rfl] at hr
  subst hr hm
  repeat' ((conv => whnf); first | refine Rng.g ?_ | refine Ob.g ?_ | refine Ob.e ?_ | refine Ob.m ?_ | refine Ob.mk (Nat.le_of_ble_eq_true rfl) ?_ | refine JoinVC.on ?_ | refine Nils.mk (fun h => ?_) ?_ | refine Val.t ?_ | refine Val.d ?_ | refine Mm.mk ?_ | refine CallVC.pure rfl (cA) ?_ | refine CallVC0.pure rfl (cA) ?_ | (refine Br.mk (fun h => ?_) (fun h => ?_) <;> first | (exfalso; omega; done) | (exfalso; simp at h; done) | skip))
  conv => whnf
  refine CallVC.mk [] _ _ _ rfl rfl rfl (s20 [f4] l4 [0, 5, 10, 11] n4 (by decide)) (fun r m' h' => ?_)
  obtain ⟨hc1, rfl⟩ := h'
  conv => whnf
  have hc1' := cp4 (.inl rfl) wr_a hc1
  subst hc1'
  repeat' ((conv => whnf); first | refine Rng.g ?_ | refine Ob.g ?_ | refine Ob.e ?_ | refine Ob.m ?_ | refine Ob.mk (Nat.le_of_ble_eq_true rfl) ?_ | refine JoinVC.on ?_ | refine Nils.mk (fun h => ?_) ?_ | refine Val.t ?_ | refine Val.d ?_ | refine Mm.mk ?_ | (refine Br.mk (fun h => ?_) (fun h => ?_) <;> first | (exfalso; omega; done) | (exfalso; simp at h; done) | skip))
  conv => whnf
  refine CallVC.mk [] _ _ _ rfl rfl rfl (s20 [f4] l4 [0, 5, 11, 10] n4 (by decide)) (fun r m' h' => ?_)
  obtain ⟨hc2, rfl⟩ := h'
  conv => whnf
  have hc2' := cp4 (.inr rfl) wr_b hc2
  subst hc2'
  repeat' ((conv => whnf); first | refine Rng.g ?_ | refine Ob.g ?_ | refine Ob.e ?_ | refine Ob.m ?_ | refine Ob.mk (Nat.le_of_ble_eq_true rfl) ?_ | refine JoinVC.on ?_ | refine Nils.mk (fun h => ?_) ?_ | refine Val.t ?_ | refine Val.d ?_ | refine Mm.mk ?_ | (refine Br.mk (fun h => ?_) (fun h => ?_) <;> first | (exfalso; omega; done) | (exfalso; simp at h; done) | skip))
  conv => whnf
  refine CallVC.mk [] _ _ _ rfl rfl rfl (s22 f4 l4 (by decide)) (fun r m' h' => ?_)
  cases h' with
  | bad h hr hm => exact absurd few4 h
  | none _ _ _ h hr hm => have := h 1 (by decide); rw [pack4_1] at this; cases this
  | some _ _ _ sd q hs h hq hr hm =>
  obtain rfl : sd = 1 := by
    rcases (show sd = 0 ∨ sd = 1 ∨ 2 ≤ sd by omega) with rfl | rfl | h2
    · rw [pack4_0] at hq; cases hq
    · rfl
    · have := h 1 (by omega); rw [pack4_1] at this; cases this
  rw [pack4_1] at hq
  cases hq
  subst hr hm
  repeat' ((conv => whnf); first | refine Rng.g ?_ | refine Ob.g ?_ | refine Ob.e ?_ | refine Ob.m ?_ | refine Ob.mk (Nat.le_of_ble_eq_true rfl) ?_ | refine JoinVC.on ?_ | refine Nils.mk (fun h => ?_) ?_ | refine Val.t ?_ | refine Val.d ?_ | refine Mm.mk ?_ | refine CallVC.pure rfl (cF) ?_ | refine CallVC.pure rfl (k1) ?_ | refine CallVC0.pure rfl (cF) ?_ | refine CallVC0.pure rfl (k1) ?_ | (refine Br.mk (fun h => ?_) (fun h => ?_) <;> first | (exfalso; omega; done) | (exfalso; simp at h; done) | skip))
  conv => whnf
  refine CallVC.mk [] _ _ _ rfl rfl rfl (s18 f4 l5 (by decide) (by decide)) (fun r m' h' => ?_)
  cases h' with
  | bad h hr hm => exact absurd (bothE_ok f4_ok l5_ok) h
  | ok _ _ h hr hm => exact absurd h lay5
  | none _ _ _ hr hm =>
  subst hr hm
  repeat' ((conv => whnf); first | refine Rng.g ?_ | refine Ob.g ?_ | refine Ob.e ?_ | refine Ob.m ?_ | refine Ob.mk (Nat.le_of_ble_eq_true rfl) ?_ | refine JoinVC.on ?_ | refine Nils.mk (fun h => ?_) ?_ | refine Val.t ?_ | refine Val.d ?_ | refine Mm.mk ?_ | (refine Br.mk (fun h => ?_) (fun h => ?_) <;> first | (exfalso; omega; done) | (exfalso; simp at h; done) | skip))
  conv => whnf
  refine CallVC.mk [] _ _ _ rfl rfl rfl (s29s f4 l5 (by decide) (by decide)) (fun r m' h' => ?_)
  cases h' with
  | bad h hr hm => exact absurd (bothE_ok f4_ok l5_ok) h
  | none _ _ h hr hm => exact absurd h (by rintro (h | h); exact lay5 h; exact absurd h (by decide))
  | some _ _ _ k hk hn h hr hm =>
  obtain rfl : k = 0 := by
    refine Classical.byContradiction fun hc => ?_
    exact hn 0 (by omega) crowd5
  rw [show usu [] ((allO l5).take (0 + 1)) = [1] by rw [allO5]; rfl] at hr
  subst hr hm
  repeat' ((conv => whnf); first | refine Rng.g ?_ | refine Ob.g ?_ | refine Ob.e ?_ | refine Ob.m ?_ | refine Ob.mk (Nat.le_of_ble_eq_true rfl) ?_ | refine JoinVC.on ?_ | refine Nils.mk (fun h => ?_) ?_ | refine Val.t ?_ | refine Val.d ?_ | refine Mm.mk ?_ | (refine Br.mk (fun h => ?_) (fun h => ?_) <;> first | (exfalso; omega; done) | (exfalso; simp at h; done) | skip))
  conv => whnf
  refine CallVC.mk [0] _ _ _ rfl rfl rfl (s9k nm7) (fun r m' h' => ?_)
  cases h' with
  | b h1 _ hr hm => exact absurd rfl h1
  | c h1 _ _ hr hm => exact absurd rfl h1
  | none h1 _ _ hr hm => exact absurd rfl h1
  | a _ hr hm =>
  subst hr hm
  repeat' ((conv => whnf); first | refine Rng.g ?_ | refine Ob.g ?_ | refine Ob.e ?_ | refine Ob.m ?_ | refine Ob.mk (Nat.le_of_ble_eq_true rfl) ?_ | refine JoinVC.on ?_ | refine Nils.mk (fun h => ?_) ?_ | refine Val.t ?_ | refine Val.d ?_ | refine Mm.mk ?_ | (refine Br.mk (fun h => ?_) (fun h => ?_) <;> first | (exfalso; omega; done) | (exfalso; simp at h; done) | skip))
  conv => whnf
  refine CallVC.mk [] _ _ _ rfl rfl rfl (s16 kn7 ⟨100000, 1600, 0⟩ (by decide)) (fun r m' h' => ?_)
  cases h' with
  | bad h hr hm => exact absurd (bothE_ok kn7_ok ((sngs1 _).2 (by unfold Sng.ok; decide))) h
  | ok _ _ hr hm =>
  rw [wid4.2.2.2] at hr
  subst hr hm
  repeat' ((conv => whnf); first | refine Rng.g ?_ | refine Ob.g ?_ | refine Ob.e ?_ | refine Ob.m ?_ | refine Ob.mk (Nat.le_of_ble_eq_true rfl) ?_ | refine JoinVC.on ?_ | refine Nils.mk (fun h => ?_) ?_ | refine Val.t ?_ | refine Val.d ?_ | refine Mm.mk ?_ | refine CallVC.pure rfl (k2) ?_ | refine CallVC.pure rfl (hw) ?_ | refine CallVC0.pure rfl (k2) ?_ | refine CallVC0.pure rfl (hw) ?_ | (refine Br.mk (fun h => ?_) (fun h => ?_) <;> first | (exfalso; omega; done) | (exfalso; simp at h; done) | skip))
  conv => whnf
  refine EndVC.mk _ rfl (xP True) [some gKnown, some gNone] rfl ?_
  refine ⟨[some 0, some 1], rfl, rfl, ?_, ?_⟩ <;> repeat' (first | exact trivial | exact rfl | exact Iff.rfl | apply And.intro)
end Go.Sx

namespace Go.Sx
open Go Go.RowKit Go.Lib Go.Proofs
/-! ### What a variable of three formats holds -/
def cellD : Cell → DataW Unit
  | .int n => .lit (.int .i64 n)
  | .str s => .lit (.string s.data.toList)
  | _ => .nil
@[reducible] def KF8 : List CK := [.str, .int .i64, .int .i64, .int .i64, .int .i64, .int .i64, .int .i64, .int .i64]
@[reducible] def FS8 (P : Program) (fs : Array Field) : Prop := fs.toList.map (fun f => (f.offset, P.cellsOf f.type, P.underlying f.type)) = [(0, 1, some .string), (1, 1, some (.int .i64)), (2, 1, some (.int .i64)), (3, 1, some (.int .i64)), (4, 1, some (.int .i64)), (5, 1, some (.int .i64)), (6, 1, some (.int .i64)), (7, 1, some (.int .i64))]
theorem fs8_int {P : Program} {fs : Array Field} (h : FS8 P fs) (i : Nat) (hi : i < 7) : ∃ f, fs[i + 1]? = some f ∧ f.offset = i + 1 ∧ P.cellsOf f.type = 1 ∧ P.underlying f.type = some (.int .i64) := by
  have h1 := congrArg (·[i + 1]?) h
  simp only [List.getElem?_map] at h1
  have h2 : ∃ f, fs.toList[i + 1]? = some f ∧ (f.offset, P.cellsOf f.type, P.underlying f.type) = (i + 1, 1, some (.int .i64)) := by
    rcases i with _ | _ | _ | _ | _ | _ | _ | i
    all_goals first
      | omega
      | exact Option.map_eq_some_iff.1 h1
  obtain ⟨f, h3, h4⟩ := h2
  simp only [Prod.mk.injEq] at h4
  exact ⟨f, by simpa using h3, h4⟩
theorem fs8_str {P : Program} {fs : Array Field} (h : FS8 P fs) : ∃ f, fs[0]? = some f ∧ f.offset = 0 ∧ P.cellsOf f.type = 1 ∧ P.underlying f.type = some .string := by
  have h1 := congrArg (·[0]?) h
  simp only [List.getElem?_map] at h1
  obtain ⟨f, h3, h4⟩ := Option.map_eq_some_iff.1 h1
  simp only [Prod.mk.injEq] at h4
  exact ⟨f, by simpa using h3, h4⟩
theorem row8 {P : Program} {w : World} {base : Nat} {sp : Nat → Bool} {held : Bool} {fuel : Nat} {t : TypeId} {cs : List Value} {p : List MemPlace} {fs : Array Field} (R : List Cell) (hR : ∀ i c, R[i]? = some c → if i = 0 then ∃ s, c = .str s else ∃ n, c = .int n)
    (ht : P.underlying t = some (.struct fs)) (hs : FS8 P fs) (h : DataW.trod (fun _ => ()) P w base sp held fuel t cs = some (.agg (R.map cellD), p)) (S : Nat → Prop) (i : Nat) (hi : i < 8) (c : Cell) (k : CK) (hc : R[i]? = some c) (hk : KF8[i]? = some k) :
    ∃ v, cs[i]? = some v ∧ RepC w S k c v := by
  obtain ⟨xs, n, _, hx, _, _, hg⟩ := DataW.trod_struct ht h
  simp only [Prod.mk.injEq, DataW.agg.injEq] at hx
  have hd : (xs.map (·.1))[i]? = some (cellD c) := by rw [← hx.1, List.getElem?_map, hc]; rfl
  rw [List.getElem?_map] at hd
  obtain ⟨y, hy, hyc⟩ := Option.map_eq_some_iff.1 hd
  have hr := hR i c hc
  rcases i with _ | i
  · obtain ⟨s, rfl⟩ : ∃ s, c = .str s := by simpa using hr
    obtain rfl : CK.str = k := by simpa using hk
    obtain ⟨f, f1, f2, f3, f4⟩ := fs8_str hs
    have h1 := hg 0 f f1
    rw [hy] at h1
    obtain ⟨s', e1, e2, _⟩ := DataW.trod_string f4 h1
    rw [e2] at hyc
    simp only [cellD, DataW.lit.injEq, Lit.string.injEq] at hyc
    rw [f2, f3] at e1
    have h2 := congrArg (·[0]?) e1
    simp only [List.getElem?_take, List.getElem?_drop] at h2
    have es : s' = s := ByteArray.ext (Array.ext' hyc)
    subst es
    exact ⟨_, by simpa using h2, .str _⟩
  · obtain ⟨z, rfl⟩ : ∃ z, c = .int z := by simpa using hr
    have ek : k = .int .i64 := by
      rcases i with _ | _ | _ | _ | _ | _ | _ | i
      all_goals first
        | omega
        | exact (Option.some.inj hk).symm
    subst ek
    obtain ⟨f, f1, f2, f3, f4⟩ := fs8_int hs i (by omega)
    have h1 := hg (i + 1) f f1
    rw [hy] at h1
    obtain ⟨z', e1, e2, _⟩ := DataW.trod_int f4 h1
    rw [e2] at hyc
    simp only [cellD, DataW.lit.injEq, Lit.int.injEq, true_and] at hyc
    rw [f2, f3] at e1
    have h2 := congrArg (·[0]?) e1
    simp only [List.getElem?_take, List.getElem?_drop] at h2
    subst hyc
    exact ⟨_, by simpa using h2, .int _ _⟩
theorem glob_known {P : Program} {w : World} {name : String} {g : Nat} {t e : TypeId} {fs : Array Field} (hn : P.globalNamed name = some g) (ht : (P.globals[g]?).map (·.type) = some t) (hu : P.underlying t = some (.array 3 e)) (hc : P.cellsOf e = 8) (he : P.underlying e = some (.struct fs)) (hs : FS8 P fs)
    (hr : VarReads P w name (.agg [.agg ((rKn.take 8).map cellD), .agg (((rKn.drop 8).take 8).map cellD), .agg ((rKn.drop 16).map cellD)])) : GlobAt w ⟨g, KKn, rKn⟩ := by
  obtain ⟨g', t', cs, fuel, p, h1, h2, h3, h4⟩ := hr
  have eg : g = g' := Option.some.inj (hn.symm.trans h1)
  subst eg
  have et : t = t' := Option.some.inj (ht.symm.trans h2)
  subst et
  have hcell : ∀ (S : Nat → Prop) (r : Nat), r < 3 → ∀ (i : Nat), i < 8 → ∀ (c : Cell) (k : CK), rKn[r * 8 + i]? = some c → KF8[i]? = some k → ∃ v, cs[r * 8 + i]? = some v ∧ RepC w S k c v := fun S r hr i hi c k hcc hk => by
    obtain ⟨fuel', d, q, hd, htr⟩ := array_elem hu h4 r hr
    rw [hc] at htr
    have key : ∀ R : List Cell, d = .agg (R.map cellD) → (∀ i c, R[i]? = some c → if i = 0 then ∃ s, c = .str s else ∃ n, c = .int n) → R[i]? = some c → ∃ v, cs[r * 8 + i]? = some v ∧ RepC w S k c v := fun R hdR hR hRc => by
      subst hdR
      obtain ⟨v, hv, hrep⟩ := row8 R hR he hs htr S i hi c k hRc hk
      refine ⟨v, ?_, hrep⟩
      rw [List.getElem?_take, if_pos hi, List.getElem?_drop] at hv
      simpa using hv
    have shp : ∀ (s : ByteArray) (a b c d e f g : Int) (i : Nat) (x : Cell), [Cell.str s, .int a, .int b, .int c, .int d, .int e, .int f, .int g][i]? = some x → if i = 0 then ∃ s, x = .str s else ∃ n, x = .int n := fun s a b c d e f g i x hx => by
      rcases i with _ | _ | _ | _ | _ | _ | _ | _ | i
      · exact ⟨_, (Option.some.inj hx).symm⟩
      all_goals first
        | exact ⟨_, (Option.some.inj hx).symm⟩
        | (simp at hx; done)
    rcases r with _ | _ | _ | r
    · refine key (rKn.take 8) (Option.some.inj hd).symm (shp _ _ _ _ _ _ _ _) ?_
      rw [List.getElem?_take, if_pos hi]
      simpa using hcc
    · refine key ((rKn.drop 8).take 8) (Option.some.inj hd).symm (shp _ _ _ _ _ _ _ _) ?_
      rw [List.getElem?_take, if_pos hi, List.getElem?_drop]
      simpa using hcc
    · refine key (rKn.drop 16) (Option.some.inj hd).symm (shp _ _ _ _ _ _ _ _) ?_
      rw [List.getElem?_drop]
      simpa using hcc
    · omega
  unfold World.var? at h3
  rw [hn] at h3
  simp only [Option.bind_some] at h3
  split at h3
  · rename_i c ty z hh
    cases h3
    refine ⟨cs, ty, z, hh, rfl, fun f k x hx hk => ?_⟩
    have hf : f < 24 := by
      have := (List.getElem?_eq_some_iff.1 hx).1
      exact this
    have ef : f = f / 8 * 8 + f % 8 := by omega
    have hk8 : KF8[f % 8]? = some k := by
      rw [← hk]
      show KF8[f % 8]? = (KF8 ++ (KF8 ++ KF8))[f]?
      rcases (show f < 8 ∨ (8 ≤ f ∧ f < 16) ∨ (16 ≤ f ∧ f < 24) by omega) with h | h | h
      · rw [List.getElem?_append_left h, show f % 8 = f by omega]
      · rw [List.getElem?_append_right h.1, List.getElem?_append_left (show f - KF8.length < KF8.length by have : KF8.length = 8 := rfl; omega), show f % 8 = f - KF8.length by have : KF8.length = 8 := rfl; omega]
      · rw [List.getElem?_append_right (show KF8.length ≤ f by have : KF8.length = 8 := rfl; omega), List.getElem?_append_right (show KF8.length ≤ f - KF8.length by have : KF8.length = 8 := rfl; omega), show f % 8 = f - KF8.length - KF8.length by have : KF8.length = 8 := rfl; omega]
    obtain ⟨v, hv, hrep⟩ := hcell (fun b => b < w.heap.size) (f / 8) (by omega) (f % 8) (by omega) x k (by rw [← ef]; exact hx) hk8
    rw [← ef] at hv
    have hgd : cs.getD f undef = v := by simp [Array.getD_eq_getD_getElem?, hv]
    rw [hgd]
    exact ⟨hv, hrep⟩
  · cases h3
end Go.Sx

namespace Go.Sx
open Go Go.Proofs
set_option maxRecDepth 10000
/-! ### Rows read as tracks, formats, faces -/
def Sng.inR (g : Sng) : Prop := Go.Sx.inR .i64 g.long ∧ Go.Sx.inR .i64 g.pitch ∧ Go.Sx.inR .i64 g.least
end Go.Sx

namespace Go.Sx
open Go Go.Proofs
set_option maxRecDepth 10000
end Go.Sx
