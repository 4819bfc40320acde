import Derived.Test.YthfdbmgjkjeccaaPrPressKnownA
import Derived.Laws.Bits64b
import Derived.Test.YthfdbmgjkjeccaaXc
namespace Go.Sx
open Go Go.Proofs
set_option maxRecDepth 10000
set_option maxHeartbeats 1000000
/-! ### Ways of valves, the shorter ones first, then by their first difference -/
abbrev S2 := Int × Int
def nx (m : Mac) (s : S2) (v : Int) : S2 := (tickF m s.1 v, if m.melt ≤ tickF m s.1 v then min m.hold (s.2 + 1) else s.2)
def runS (m : Mac) (s : S2) (w : List Int) : S2 := w.foldl (nx m) s
theorem runS_snoc (m : Mac) (s : S2) (w : List Int) (v : Int) : runS m s (w ++ [v]) = nx m (runS m s w) v := by simp [runS]
def goodS (m : Mac) (s : S2) : Prop := s.2 = m.hold ∧ s.1 ≤ m.cool
def OKW (w : List Int) : Prop := ∀ v ∈ w, 0 ≤ v ∧ v ≤ 2
theorem OKW.nil : OKW [] := fun _ h => by simp at h
theorem OKW.snoc {w : List Int} {v : Int} (h : OKW w) (hv : 0 ≤ v ∧ v ≤ 2) : OKW (w ++ [v]) := fun x hx => by
  rcases List.mem_append.1 hx with hx | hx
  · exact h x hx
  · simp at hx; subst hx; exact hv
theorem OKW.left {u w : List Int} (h : OKW (u ++ w)) : OKW u := fun x hx => h x (List.mem_append_left _ hx)
theorem OKW.last {u : List Int} {v : Int} (h : OKW (u ++ [v])) : 0 ≤ v ∧ v ≤ 2 := h v (by simp)
def lexL : List Int → List Int → Prop
  | a :: u, b :: w => a < b ∨ (a = b ∧ lexL u w)
  | _, _ => False
def slt (u w : List Int) : Prop := u.length < w.length ∨ (u.length = w.length ∧ lexL u w)
def sle (u w : List Int) : Prop := u = w ∨ slt u w
theorem lexL_irr : ∀ u, ¬ lexL u u
  | [], h => h
  | a :: u, h => by
    rcases h with h | ⟨_, h⟩
    · omega
    · exact lexL_irr u h
theorem lexL_trans : ∀ {u v w}, lexL u v → lexL v w → lexL u w
  | [], _, _, h, _ => by simp [lexL] at h
  | _ :: _, [], _, h, _ => by simp [lexL] at h
  | _ :: _, _ :: _, [], _, h => by simp [lexL] at h
  | a :: u, b :: v, c :: w, h1, h2 => by
    rcases h1 with h1 | ⟨h1, h1'⟩
    · rcases h2 with h2 | ⟨h2, h2'⟩
      · exact .inl (by omega)
      · exact .inl (by omega)
    · rcases h2 with h2 | ⟨h2, h2'⟩
      · exact .inl (by omega)
      · exact .inr ⟨by omega, lexL_trans h1' h2'⟩
theorem lexL_tot : ∀ {u w : List Int}, u.length = w.length → u = w ∨ lexL u w ∨ lexL w u
  | [], [], _ => .inl rfl
  | [], _ :: _, h => by simp at h
  | _ :: _, [], h => by simp at h
  | a :: u, b :: w, h => by
    rcases lexL_tot (u := u) (w := w) (by simpa using h) with rfl | h1 | h1
    · rcases Int.lt_trichotomy a b with h2 | rfl | h2
      · exact .inr (.inl (.inl h2))
      · exact .inl rfl
      · exact .inr (.inr (.inl h2))
    · rcases Int.lt_trichotomy a b with h2 | rfl | h2
      · exact .inr (.inl (.inl h2))
      · exact .inr (.inl (.inr ⟨rfl, h1⟩))
      · exact .inr (.inr (.inl h2))
    · rcases Int.lt_trichotomy a b with h2 | rfl | h2
      · exact .inr (.inl (.inl h2))
      · exact .inr (.inr (.inr ⟨rfl, h1⟩))
      · exact .inr (.inr (.inl h2))
theorem lexL_app : ∀ {u w : List Int} (x y : List Int), u.length = w.length → lexL u w → lexL (u ++ x) (w ++ y)
  | [], _, _, _, _, h => by simp [lexL] at h
  | _ :: _, [], _, _, h, _ => by simp at h
  | a :: u, b :: w, x, y, hl, h => by
    rcases h with h | ⟨h, h'⟩
    · exact .inl h
    · exact .inr ⟨h, lexL_app x y (by simpa using hl) h'⟩
theorem lexL_same : ∀ (u : List Int) {x y : List Int}, lexL x y → lexL (u ++ x) (u ++ y)
  | [], _, _, h => h
  | _ :: u, _, _, h => .inr ⟨rfl, lexL_same u h⟩
theorem slt_irr (u : List Int) : ¬ slt u u := fun h => by
  rcases h with h | ⟨_, h⟩
  · omega
  · exact lexL_irr u h
theorem slt_trans {u v w : List Int} (h1 : slt u v) (h2 : slt v w) : slt u w := by
  rcases h1 with h1 | ⟨h1, h1'⟩
  · rcases h2 with h2 | ⟨h2, _⟩
    · exact .inl (by omega)
    · exact .inl (by omega)
  · rcases h2 with h2 | ⟨h2, h2'⟩
    · exact .inl (by omega)
    · exact .inr ⟨by omega, lexL_trans h1' h2'⟩
theorem slt_tot (u w : List Int) : u = w ∨ slt u w ∨ slt w u := by
  rcases Nat.lt_trichotomy u.length w.length with h | h | h
  · exact .inr (.inl (.inl h))
  · rcases lexL_tot h with h1 | h1 | h1
    · exact .inl h1
    · exact .inr (.inl (.inr ⟨h, h1⟩))
    · exact .inr (.inr (.inr ⟨h.symm, h1⟩))
  · exact .inr (.inr (.inl h))
theorem slt_snoc {u w : List Int} (h : slt u w) (a b : Int) : slt (u ++ [a]) (w ++ [b]) := by
  rcases h with h | ⟨h, h'⟩
  · exact .inl (by simp; omega)
  · exact .inr ⟨by simp; omega, lexL_app _ _ h h'⟩
theorem slt_snoc_same (u : List Int) {a b : Int} (h : a < b) : slt (u ++ [a]) (u ++ [b]) := .inr ⟨by simp, lexL_same u (.inl h)⟩
theorem slt_self (u : List Int) (a : Int) : slt u (u ++ [a]) := .inl (by simp)
theorem sle_lt {u v w : List Int} (h1 : sle u v) (h2 : slt v w) : slt u w := by
  rcases h1 with rfl | h1
  · exact h2
  · exact slt_trans h1 h2
theorem sle_snoc {u w : List Int} (h : sle u w) (a : Int) : sle (u ++ [a]) (w ++ [a]) := by
  rcases h with rfl | h
  · exact .inl rfl
  · exact .inr (slt_snoc h a a)
theorem sle_trans {u v w : List Int} (h1 : sle u v) (h2 : sle v w) : sle u w := by
  rcases h2 with rfl | h2
  · exact h1
  · exact .inr (sle_lt h1 h2)
theorem sle_antisymm {u w : List Int} (h1 : sle u w) (h2 : sle w u) : u = w := by
  rcases h1 with rfl | h1
  · rfl
  · exact absurd (sle_lt h2 h1) (slt_irr _)
/-- The first way to a good disc. -/
structure Best (m : Mac) (b : S2) (w : List Int) : Prop where
  ok : OKW w
  good : goodS m (runS m b w)
  least : ∀ u, OKW u → goodS m (runS m b u) → sle w u
theorem Best.det {m : Mac} {b : S2} {w w' : List Int} (h : Best m b w) (h' : Best m b w') : w = w' :=
  sle_antisymm (h.least _ h'.ok h'.good) (h'.least _ h.ok h.good)
/-! ### The search -/
/-- This pair of a place and a valve has been looked at. -/
def seen (i : Nat) (v : Int) (j : Nat) (v0 : Int) : Prop := j < i ∨ (j = i ∧ v0 < v)
structure Bfs (m : Mac) (b : S2) (W : List (List Int)) (i : Nat) (v : Int) : Prop where
  b0 : W[0]? = some []
  ok : ∀ (k : Nat) (w : List Int), W[k]? = some w → OKW w
  sorted : ∀ (k k' : Nat) (w w' : List Int), k < k' → W[k]? = some w → W[k']? = some w' → slt w w'
  par : ∀ (k : Nat) (w : List Int), W[k]? = some w → k ≠ 0 → ∃ (j : Nat) (w0 : List Int) (v0 : Int), seen i v j v0 ∧ 0 ≤ v0 ∧ v0 ≤ 2 ∧ W[j]? = some w0 ∧ w = w0 ++ [v0]
  nxt : ∀ (j : Nat) (w0 : List Int) (v0 : Int), seen i v j v0 → 0 ≤ v0 → v0 ≤ 2 → W[j]? = some w0 → ∃ (k : Nat) (w : List Int), W[k]? = some w ∧ runS m b w = runS m b (w0 ++ [v0]) ∧ sle w (w0 ++ [v0])
  bad : ∀ (k : Nat) (w : List Int), W[k]? = some w → (k < i ∨ (k = i ∧ 0 < v)) → ¬ goodS m (runS m b w)
  inj : ∀ (k k' : Nat) (w w' : List Int), W[k]? = some w → W[k']? = some w' → runS m b w = runS m b w' → k = k'
theorem Bfs.start (m : Mac) (b : S2) : Bfs m b [[]] 0 0 := by
  have one : ∀ (k : Nat) (w : List Int), ([[]] : List (List Int))[k]? = some w → k = 0 ∧ w = [] := fun k w h => by
    cases k with
    | zero => simp at h; exact ⟨rfl, h⟩
    | succ k => simp at h
  refine ⟨rfl, fun k w h => ?_, fun k k' w w' h1 h2 h3 => ?_, fun k w h h0 => absurd (one k w h).1 h0, fun j w0 v0 h h1 _ _ => ?_, fun k w h h1 => ?_, fun k k' w w' h1 h2 _ => ?_⟩
  · rw [(one k w h).2]; exact OKW.nil
  · have := one k w h2; have := one k' w' h3; omega
  · rcases h with h | ⟨_, h⟩ <;> omega
  · rcases h1 with h1 | ⟨_, h1⟩ <;> omega
  · have := one k w h1; have := one k' w' h2; omega
section
variable {m : Mac} {b : S2} {W : List (List Int)} {i : Nat} {v : Int} {wi : List Int}
/-- A state that is known. -/
theorem Bfs.skip (h : Bfs m b W i v) (hv : 0 ≤ v ∧ v ≤ 2) (hi : W[i]? = some wi) (hg : ¬ goodS m (runS m b wi)) {k : Nat} {w : List Int} (hk : W[k]? = some w) (he : runS m b w = runS m b (wi ++ [v])) : Bfs m b W i (v + 1) := by
  have wide : ∀ (j : Nat) (v0 : Int), seen i v j v0 → seen i (v + 1) j v0 := fun j v0 hs => hs.imp id (fun ⟨a, b⟩ => ⟨a, by omega⟩)
  have lt : slt w (wi ++ [v]) ∨ w = wi ++ [v] := by
    by_cases h0 : k = 0
    · subst h0
      rw [h.b0] at hk; cases hk
      exact .inl (.inl (by simp))
    · obtain ⟨j, w0, v0, hs, h1, h2, h3, rfl⟩ := h.par k w hk h0
      rcases hs with hs | ⟨rfl, hs⟩
      · exact .inl (slt_snoc (h.sorted j i w0 wi hs h3 hi) _ _)
      · rw [hi] at h3; cases h3
        exact .inl (slt_snoc_same _ hs)
  refine ⟨h.b0, h.ok, h.sorted, fun k w hk h0 => ?_, fun j w0 v0 hs h1 h2 h3 => ?_, fun k w hk hs => ?_, h.inj⟩
  · obtain ⟨j, w0, v0, hs, r⟩ := h.par k w hk h0
    exact ⟨j, w0, v0, wide j v0 hs, r⟩
  · by_cases hs' : seen i v j v0
    · exact h.nxt j w0 v0 hs' h1 h2 h3
    · have : j = i ∧ v0 = v := by
        unfold seen at hs hs'
        rcases hs with hs | ⟨rfl, hs⟩
        · exact absurd (.inl hs) hs'
        · refine ⟨rfl, ?_⟩
          have : ¬ v0 < v := fun h => hs' (.inr ⟨rfl, h⟩)
          omega
      obtain ⟨rfl, rfl⟩ := this
      rw [hi] at h3; cases h3
      exact ⟨k, w, hk, he, lt.elim .inr .inl⟩
  · rcases hs with hs | ⟨rfl, _⟩
    · exact h.bad k w hk (.inl hs)
    · rw [hi] at hk; cases hk; exact hg
/-- A state that is new. -/
theorem Bfs.add (h : Bfs m b W i v) (hv : 0 ≤ v ∧ v ≤ 2) (hi : W[i]? = some wi) (hg : ¬ goodS m (runS m b wi)) (hn : ∀ (k : Nat) (w : List Int), W[k]? = some w → runS m b w ≠ runS m b (wi ++ [v])) : Bfs m b (W ++ [wi ++ [v]]) i (v + 1) := by
  have wide : ∀ (j : Nat) (v0 : Int), seen i v j v0 → seen i (v + 1) j v0 := fun j v0 hs => hs.imp id (fun ⟨a, b⟩ => ⟨a, by omega⟩)
  have old : ∀ (k : Nat) (w : List Int), W[k]? = some w → (W ++ [wi ++ [v]])[k]? = some w := fun k w hk => by
    rw [List.getElem?_append_left (List.getElem?_eq_some_iff.1 hk).1]; exact hk
  have new : ∀ (k : Nat) (w : List Int), (W ++ [wi ++ [v]])[k]? = some w → W[k]? = some w ∨ (k = W.length ∧ w = wi ++ [v]) := fun k w hk => by
    rw [List.getElem?_append] at hk
    split at hk
    · exact .inl hk
    · rw [List.getElem?_singleton] at hk
      split at hk
      · cases hk; exact .inr ⟨by omega, rfl⟩
      · cases hk
  have lt : ∀ (k : Nat) (w : List Int), W[k]? = some w → slt w (wi ++ [v]) := fun k w hk => by
    by_cases h0 : k = 0
    · subst h0
      rw [h.b0] at hk; cases hk
      exact .inl (by simp)
    · obtain ⟨j, w0, v0, hs, h1, h2, h3, rfl⟩ := h.par k w hk h0
      rcases hs with hs | ⟨rfl, hs⟩
      · exact slt_snoc (h.sorted j i w0 wi hs h3 hi) _ _
      · rw [hi] at h3; cases h3
        exact slt_snoc_same _ hs
  have hil := (List.getElem?_eq_some_iff.1 hi).1
  refine ⟨old _ _ h.b0, fun k w hk => ?_, fun k k' w w' hkk hk hk' => ?_, fun k w hk h0 => ?_, fun j w0 v0 hs h1 h2 h3 => ?_, fun k w hk hs => ?_, fun k k' w w' hk hk' he => ?_⟩
  · rcases new k w hk with hk | ⟨_, rfl⟩
    · exact h.ok k w hk
    · exact (h.ok i wi hi).snoc hv
  · rcases new k' w' hk' with hk' | ⟨h1, rfl⟩
    · have := (List.getElem?_eq_some_iff.1 hk').1
      rcases new k w hk with hk | ⟨h2, _⟩
      · exact h.sorted k k' w w' hkk hk hk'
      · omega
    · rcases new k w hk with hk | ⟨h2, _⟩
      · exact lt k w hk
      · omega
  · rcases new k w hk with hk | ⟨h1, rfl⟩
    · obtain ⟨j, w0, v0, hs, h1, h2, h3, h4⟩ := h.par k w hk h0
      exact ⟨j, w0, v0, wide j v0 hs, h1, h2, old _ _ h3, h4⟩
    · exact ⟨i, wi, v, .inr ⟨rfl, by omega⟩, hv.1, hv.2, old _ _ hi, rfl⟩
  · rcases new j w0 h3 with h3' | ⟨h4, _⟩
    · by_cases hs' : seen i v j v0
      · obtain ⟨k, w, g1, g2, g3⟩ := h.nxt j w0 v0 hs' h1 h2 h3'
        exact ⟨k, w, old _ _ g1, g2, g3⟩
      · have : j = i ∧ v0 = v := by
          unfold seen at hs hs'
          rcases hs with hs | ⟨rfl, hs⟩
          · exact absurd (.inl hs) hs'
          · refine ⟨rfl, ?_⟩
            have : ¬ v0 < v := fun h => hs' (.inr ⟨rfl, h⟩)
            omega
        obtain ⟨rfl, rfl⟩ := this
        rw [hi] at h3'; cases h3'
        exact ⟨W.length, wi ++ [v0], by simp, rfl, .inl rfl⟩
    · rcases hs with hs | ⟨hs, _⟩ <;> omega
  · rcases new k w hk with hk | ⟨h1, _⟩
    · rcases hs with hs | ⟨rfl, _⟩
      · exact h.bad k w hk (.inl hs)
      · rw [hi] at hk; cases hk; exact hg
    · rcases hs with hs | ⟨hs, _⟩ <;> omega
  · rcases new k w hk with hk | ⟨h1, rfl⟩
    · rcases new k' w' hk' with hk' | ⟨h2, rfl⟩
      · exact h.inj k k' w w' hk hk' he
      · exact absurd he (hn k w hk)
    · rcases new k' w' hk' with hk' | ⟨h2, rfl⟩
      · exact absurd he.symm (hn k' w' hk')
      · omega
theorem Bfs.next (h : Bfs m b W i 3) : Bfs m b W (i + 1) 0 := by
  have w1 : ∀ (j : Nat) (v0 : Int), 0 ≤ v0 → v0 ≤ 2 → (seen (i + 1) 0 j v0 ↔ seen i 3 j v0) := fun j v0 h1 h2 => by unfold seen; omega
  refine ⟨h.b0, h.ok, h.sorted, fun k w hk h0 => ?_, fun j w0 v0 hs h1 h2 h3 => h.nxt j w0 v0 ((w1 j v0 h1 h2).1 hs) h1 h2 h3, fun k w hk hs => h.bad k w hk (by omega), h.inj⟩
  obtain ⟨j, w0, v0, hs, h1, h2, r⟩ := h.par k w hk h0
  exact ⟨j, w0, v0, (w1 j v0 h1 h2).2 hs, h1, h2, r⟩
theorem snoc_ind {p : List Int → Prop} (h0 : p []) (h1 : ∀ u a, p u → p (u ++ [a])) (u : List Int) : p u := by
  have : ∀ n (u : List Int), u.length = n → p u := by
    intro n
    induction n with
    | zero => intro u hu; rw [List.length_eq_zero_iff.1 hu]; exact h0
    | succ n ih =>
      intro u hu
      have hne : u ≠ [] := fun h => by rw [h] at hu; simp at hu
      rw [← List.dropLast_concat_getLast hne]
      exact h1 _ _ (ih _ (by simp [hu]))
  exact this _ u rfl
theorem Bfs.lessIn (h : Bfs m b W i v) (hi : W[i]? = some wi) (u : List Int) : OKW u → slt u wi → ∃ (k : Nat) (w : List Int), k < i ∧ W[k]? = some w ∧ runS m b w = runS m b u ∧ sle w u := by
  refine snoc_ind (p := fun u => OKW u → slt u wi → ∃ (k : Nat) (w : List Int), k < i ∧ W[k]? = some w ∧ runS m b w = runS m b u ∧ sle w u) ?_ ?_ u
  · intro _ hs
    refine ⟨0, [], ?_, h.b0, rfl, .inl rfl⟩
    rcases Nat.eq_zero_or_pos i with h0 | h0
    · subst h0
      rw [h.b0] at hi; cases hi
      exact absurd hs (slt_irr _)
    · exact h0
  · intro u a ih hok hs
    obtain ⟨k', w', h1, h2, h3, h4⟩ := ih hok.left (slt_trans (slt_self u a) hs)
    obtain ⟨k, w, g1, g2, g3⟩ := h.nxt k' w' a (.inl h1) hok.last.1 hok.last.2 h2
    have hle : sle w (u ++ [a]) := sle_trans g3 (sle_snoc h4 a)
    refine ⟨k, w, ?_, g1, by rw [g2, runS_snoc, runS_snoc, h3], hle⟩
    rcases Nat.lt_trichotomy k i with hk | rfl | hk
    · exact hk
    · rw [hi] at g1; cases g1
      exact absurd (sle_lt hle hs) (slt_irr _)
    · exact absurd (slt_trans (sle_lt hle hs) (h.sorted i k wi w hk hi g1)) (slt_irr _)
/-- What is found first is the first way. -/
theorem Bfs.best (h : Bfs m b W i v) (hi : W[i]? = some wi) (hg : goodS m (runS m b wi)) : Best m b wi := by
  refine ⟨h.ok i wi hi, hg, fun u hu hgu => ?_⟩
  rcases slt_tot wi u with h1 | h1 | h1
  · exact .inl h1
  · exact .inr h1
  · obtain ⟨k, w, h2, h3, h4, _⟩ := h.lessIn hi u hu h1
    exact absurd (h4 ▸ hgu) (h.bad k w h3 (.inl h2))
/-- All that can be reached is there, once all was looked at. -/
theorem Bfs.all (h : Bfs m b W i v) (hi : W.length ≤ i) (u : List Int) : OKW u → ∃ (k : Nat) (w : List Int), W[k]? = some w ∧ runS m b w = runS m b u := by
  refine snoc_ind (p := fun u => OKW u → ∃ (k : Nat) (w : List Int), W[k]? = some w ∧ runS m b w = runS m b u) ?_ ?_ u
  · exact fun _ => ⟨0, [], h.b0, rfl⟩
  · intro u a ih hok
    obtain ⟨k', w', h2, h3⟩ := ih hok.left
    have := (List.getElem?_eq_some_iff.1 h2).1
    obtain ⟨k, w, g1, g2, _⟩ := h.nxt k' w' a (.inl (by omega)) hok.last.1 hok.last.2 h2
    exact ⟨k, w, g1, by rw [g2, runS_snoc, runS_snoc, h3]⟩
theorem Bfs.more (h : Bfs m b W i 0) (hr : ∃ u, OKW u ∧ goodS m (runS m b u)) : i < W.length := by
  rcases Nat.lt_or_ge i W.length with h1 | h1
  · exact h1
  · obtain ⟨u, h2, h3⟩ := hr
    obtain ⟨k, w, h4, h5⟩ := h.all h1 u h2
    have := (List.getElem?_eq_some_iff.1 h4).1
    exact absurd (h5 ▸ h3) (h.bad k w h4 (.inl (by omega)))
end
end Go.Sx

namespace Go.Sx
open Go Go.Proofs
set_option maxRecDepth 10000
set_option maxHeartbeats 1000000
/-- States in range. -/
def InS (m : Mac) (s : S2) : Prop := m.room ≤ s.1 ∧ s.1 ≤ m.top ∧ 0 ≤ s.2 ∧ s.2 ≤ m.hold
theorem InS.nx {m : Mac} (hm : m.ok) {s : S2} (h : InS m s) (v : Int) : InS m (nx m s v) := by
  have h1 := tickF_bd hm (v := v) ⟨h.1, h.2.1⟩
  obtain ⟨_, _, h3, h4⟩ := h
  refine ⟨h1.1, h1.2, ?_, ?_⟩ <;> (simp only [Go.Sx.nx]; split <;> omega)
theorem InS.run {m : Mac} (hm : m.ok) : ∀ (w : List Int) {s : S2}, InS m s → InS m (runS m s w)
  | [], _, h => h
  | v :: w, s, h => by
    show InS m (runS m (Go.Sx.nx m s v) w)
    exact InS.run hm w (h.nx hm v)
theorem runS_app (m : Mac) (s : S2) (u w : List Int) : runS m s (u ++ w) = runS m (runS m s u) w := by simp [runS]
theorem OKW.app {u w : List Int} (h : OKW u) (h' : OKW w) : OKW (u ++ w) := fun v hv => (List.mem_append.1 hv).elim (h v) (h' v)
/-- Steam, until it was hot enough once more. -/
theorem reach_up {m : Mac} (hm : m.ok) : ∀ (n : Nat) (s : S2), InS m s → (m.melt - s.1).toNat ≤ n → ∃ u, OKW u ∧ (runS m s u).2 = min m.hold (s.2 + 1)
  | n, s, h, hn => by
    obtain ⟨m1, m2, m3, m4, m5, m6, m7, m8, m9, m10, m11, m12, m13, m14, m15⟩ := hm
    obtain ⟨h1, h2, h3, h4⟩ := h
    have ht : tickF m s.1 1 = if s.1 + m.heat < m.top then s.1 + m.heat else m.top := by simp [tickF]
    by_cases hh : m.melt ≤ tickF m s.1 1
    · refine ⟨[1], fun v hv => by simp at hv; omega, ?_⟩
      simp only [runS, List.foldl, nx, if_pos hh]
    · cases n with
      | zero => rw [ht] at hh; split at hh <;> omega
      | succ n =>
        have hs : (nx m s 1) = (tickF m s.1 1, s.2) := by simp only [nx, if_neg hh]
        have hm' : m.ok := ⟨m1, m2, m3, m4, m5, m6, m7, m8, m9, m10, m11, m12, m13, m14, m15⟩
        have hin := InS.nx hm' ⟨h1, h2, h3, h4⟩ 1
        obtain ⟨u, g1, g2⟩ := reach_up hm' n (nx m s 1) hin (by rw [hs]; simp only; rw [ht] at hh ⊢; split at hh <;> split <;> omega)
        refine ⟨1 :: u, fun v hv => ?_, ?_⟩
        · rcases List.mem_cons.1 hv with rfl | hv
          · omega
          · exact g1 v hv
        · show (runS m (nx m s 1) u).2 = _
          rw [g2, hs]
theorem reach_hold {m : Mac} (hm : m.ok) : ∀ (n : Nat) (s : S2), InS m s → (m.hold - s.2).toNat ≤ n → ∃ u, OKW u ∧ (runS m s u).2 = m.hold
  | n, s, h, hn => by
    by_cases hh : s.2 = m.hold
    · exact ⟨[], OKW.nil, hh⟩
    · have h3 := h.2.2
      cases n with
      | zero => omega
      | succ n =>
        obtain ⟨u, g1, g2⟩ := reach_up hm _ s h (Nat.le_refl _)
        obtain ⟨w, g3, g4⟩ := reach_hold hm n (runS m s u) (h.run hm u) (by rw [g2]; omega)
        exact ⟨u ++ w, g1.app g3, by rw [runS_app]; exact g4⟩
theorem reach_cool {m : Mac} (hm : m.ok) : ∀ (n : Nat) (s : S2), InS m s → s.2 = m.hold → (s.1 - m.cool).toNat ≤ n → ∃ u, OKW u ∧ goodS m (runS m s u)
  | n, s, h, hh, hn => by
    by_cases hc : s.1 ≤ m.cool
    · exact ⟨[], OKW.nil, hh, hc⟩
    · have hm' := hm
      obtain ⟨m1, m2, m3, m4, m5, m6, m7, m8, m9, m10, m11, m12, m13, m14, m15⟩ := hm'
      cases n with
      | zero => omega
      | succ n =>
        have ht : tickF m s.1 2 = if m.room < s.1 - m.chill then s.1 - m.chill else m.room := by simp [tickF]
        have h2 : (nx m s 2).2 = m.hold := by simp only [nx]; split <;> omega
        obtain ⟨u, g1, g2⟩ := reach_cool hm n (nx m s 2) (h.nx hm 2) h2 (by simp only [nx]; rw [ht]; split <;> omega)
        refine ⟨2 :: u, fun v hv => ?_, g2⟩
        rcases List.mem_cons.1 hv with rfl | hv
        · omega
        · exact g1 v hv
theorem reach {m : Mac} (hm : m.ok) {s : S2} (h : InS m s) : ∃ u, OKW u ∧ goodS m (runS m s u) := by
  obtain ⟨u, g1, g2⟩ := reach_hold hm _ s h (Nat.le_refl _)
  obtain ⟨w, g3, g4⟩ := reach_cool hm _ (runS m s u) (h.run hm u) g2 (Nat.le_refl _)
  exact ⟨u ++ w, g1.app g3, by rw [runS_app]; exact g4⟩
/-- Different numbers below n are at most n. -/
theorem nodup_le : ∀ (n : Nat) (l : List Nat), l.Nodup → (∀ x ∈ l, x < n) → l.length ≤ n
  | 0, l, _, h => by
    cases l with
    | nil => simp
    | cons x l => exact absurd (h x (.head _)) (by omega)
  | n + 1, l, hd, h => by
    have h1 := nodup_le n (l.erase n) (hd.erase n) (fun x hx => by
      have h2 := h x (List.mem_of_mem_erase hx)
      have h3 : x ≠ n := fun e => by rw [e] at hx; exact (List.Nodup.not_mem_erase hd) hx
      omega)
    have h2 : l.length ≤ (l.erase n).length + 1 := by rw [List.length_erase]; split <;> omega
    omega
theorem Bfs.len {m : Mac} (hm : m.ok) {b : S2} (hb : InS m b) {W : List (List Int)} {i : Nat} {v : Int} (h : Bfs m b W i v) : W.length ≤ 26065 := by
  have hm' := hm
  obtain ⟨m1, m2, m3, m4, m5, m6, m7, m8, m9, m10, m11, m12, m13, m14, m15⟩ := hm'
  have := nodup_le 26065 (W.map fun w => (runS m b w).1.toNat * 65 + (runS m b w).2.toNat) ?_ ?_
  · simpa using this
  · rw [List.nodup_iff_pairwise_ne] 
    rw [List.pairwise_map, List.pairwise_iff_getElem]
    intro k k' hk hk' hkk he
    have r1 := InS.run hm W[k] hb
    have r2 := InS.run hm W[k'] hb
    obtain ⟨a1, a2, a3, a4⟩ := r1
    obtain ⟨b1, b2, b3, b4⟩ := r2
    have := h.inj k k' _ _ (List.getElem?_eq_getElem hk) (List.getElem?_eq_getElem hk') (Prod.ext (by omega) (by omega))
    omega
  · intro x hx
    obtain ⟨w, _, rfl⟩ := List.mem_map.1 hx
    obtain ⟨a1, a2, a3, a4⟩ := InS.run hm w hb
    omega
end Go.Sx

namespace Go.Sx
open Go Go.Proofs
set_option maxRecDepth 10000
set_option maxHeartbeats 1000000
theorem e37 : EntersF Try.prog 37 := enters_of Try.func37 (c := bodyOf Try.f37) (by kernel_rfl) rfl
theorem e38 : EntersF Try.prog 38 := enters_of Try.func38 (c := bodyOf Try.f38) (by kernel_rfl) rfl
theorem e78 : EntersF Try.prog 78 := enters_of Try.func78 (c := bodyOf Try.f78) (by kernel_rfl) rfl
theorem e79 : EntersF Try.prog 79 := enters_of Try.func79 (c := bodyOf Try.f79) (by kernel_rfl) rfl
/-! ### Stampers that are used in turn -/
def sumK (xs : List Int) : Nat → Int
  | 0 => 0
  | k + 1 => sumK xs k + xs.getD k 0
theorem getD_set (xs : List Int) (i j : Nat) (v : Int) (h : i < xs.length) : (xs.set i v).getD j 0 = if i = j then v else xs.getD j 0 := by
  simp only [List.getD_eq_getElem?_getD, List.getElem?_set]
  split
  · rename_i e; subst e; simp
  · rfl
theorem sumK_set (xs : List Int) (i : Nat) (v : Int) (h : i < xs.length) : ∀ k, sumK (xs.set i v) k = if i < k then sumK xs k - xs.getD i 0 + v else sumK xs k
  | 0 => by simp [sumK]
  | k + 1 => by
    rw [sumK, sumK, sumK_set xs i v h k, getD_set xs i k v h]
    by_cases h1 : i < k
    · rw [if_pos h1, if_neg (by omega), if_pos (by omega)]; omega
    · by_cases h2 : i = k
      · subst h2; rw [if_neg (by omega), if_pos rfl, if_pos (by omega)]; omega
      · rw [if_neg h1, if_neg h2, if_neg (by omega)]
theorem i64s_set (xs : List Int) (i : Nat) (v : Int) (h : i < xs.length) : updRow (i64s xs) i 0 [.int v] = i64s (xs.set i v) := by
  unfold updRow i64s
  rw [List.map_set]
  congr 1
  rw [List.getD_eq_getElem?_getD, List.getElem?_map, List.getElem?_eq_getElem h]
  rfl
/-- The mounts from a state on. -/
inductive MR : List Int → List Int → Nat → Nat → Int → List (Nat × Nat × Int) → Prop
  | done {X Y i k d} (h : d ≤ 0) : MR X Y i k d []
  | si {X Y i k d o} (h : 0 < d) (hx : X.getD i 0 = 0) (r : MR X Y (i + 1) k d o) : MR X Y i k d o
  | sk {X Y i k d o} (h : 0 < d) (hx : X.getD i 0 ≠ 0) (hy : Y.getD k 0 = 0) (r : MR X Y i (k + 1) d o) : MR X Y i k d o
  | go {X Y i k d o} (n : Int) (h : 0 < d) (hx : X.getD i 0 ≠ 0) (hy : Y.getD k 0 ≠ 0) (hn : n = min (min (X.getD i 0) (Y.getD k 0)) d)
      (r : MR (X.set i (X.getD i 0 - n)) (Y.set k (Y.getD k 0 - n)) i k (d - n) o) : MR X Y i k d ((i, k, n) :: o)
theorem MR.nil {X Y i k d o} (h : MR X Y i k d o) (hd : d ≤ 0) : o = [] := by
  cases h with
  | done => rfl
  | si h => omega
  | sk h => omega
  | go n h => omega
theorem MR.det {X Y i k d o} (h : MR X Y i k d o) : ∀ {o'}, MR X Y i k d o' → o = o' := by
  induction h with
  | done hd => intro o' h'; exact (h'.nil hd).symm
  | si h hx r ih =>
    intro o' h'
    cases h' with
    | done => omega
    | si _ _ r' => exact ih r'
    | sk _ hx' => exact absurd hx hx'
    | go _ _ hx' => exact absurd hx hx'
  | sk h hx hy r ih =>
    intro o' h'
    cases h' with
    | done => omega
    | si _ hx' => exact absurd hx' hx
    | sk _ _ _ r' => exact ih r'
    | go _ _ _ hy' => exact absurd hy hy'
  | go n h hx hy hn r ih =>
    intro o' h'
    cases h' with
    | done => omega
    | si _ hx' => exact absurd hx' hx
    | sk _ _ hy' => exact absurd hy' hy
    | go n' _ _ _ hn' r' => subst hn; subst hn'; rw [ih r']
theorem MR.ci {X Y i k d o} (hx : X.getD i 0 = 0) (r : MR X Y (i + 1) k d o) : MR X Y i k d o := by
  by_cases h : 0 < d
  · exact .si h hx r
  · rw [r.nil (by omega)]; exact .done (by omega)
theorem MR.ck {X Y i k d o} (hx : X.getD i 0 ≠ 0) (hy : Y.getD k 0 = 0) (r : MR X Y i (k + 1) d o) : MR X Y i k d o := by
  by_cases h : 0 < d
  · exact .sk h hx hy r
  · rw [r.nil (by omega)]; exact .done (by omega)
open Classical in
noncomputable def mo (xs ys : List Int) (d : Int) : List (Nat × Nat × Int) := if h : ∃ o, MR xs ys 0 0 d o then h.choose else []
theorem mo_eq {xs ys : List Int} {d : Int} {o : List (Nat × Nat × Int)} (h : MR xs ys 0 0 d o) : mo xs ys d = o := by
  have hex : ∃ o, MR xs ys 0 0 d o := ⟨o, h⟩
  unfold mo
  rw [dif_pos hex]
  exact hex.choose_spec.det h
/-- Numbers that are possible. -/
def okN (xs : List Int) : Prop := ∀ j, j < xs.length → 0 ≤ xs.getD j 0 ∧ xs.getD j 0 ≤ 65536
instance (xs : List Int) : Decidable (okN xs) := by unfold okN; exact inferInstance
def moE (xs ys : List Int) (d : Int) : Int := if 64 < xs.length ∨ 64 < ys.length then 6 else if ¬ okN xs ∨ ¬ okN ys then 2 else if d < 0 ∨ 1073741824 < d then 3 else if sumK xs xs.length < d ∨ sumK ys ys.length < d then 15 else 0
open Classical in
noncomputable def moL (xs ys : List Int) (d : Int) : List (Nat × Nat × Int) := if moE xs ys d = 0 then mo xs ys d else []
@[reducible] def K3 : List CK := [.int .i64, .int .i64, .int .i64]
def mts (o : List (Nat × Nat × Int)) : Arr := o.map fun p => [.int (p.1 : Int), .int (p.2.1 : Int), .int p.2.2]
theorem mts_len (o : List (Nat × Nat × Int)) : (mts o).length = o.length := by simp [mts]
theorem sumK_bd {xs : List Int} : ∀ k, k ≤ xs.length → (∀ j, j < k → 0 ≤ xs.getD j 0 ∧ xs.getD j 0 ≤ 65536) → 0 ≤ sumK xs k ∧ sumK xs k ≤ 65536 * k
  | 0, _, _ => by simp [sumK]
  | k + 1, hk, h => by
    have h1 := sumK_bd k (by omega) (fun j hj => h j (by omega))
    have h2 := h k (by omega)
    rw [sumK]; omega
theorem s79 (a : Arr) (h : a.length ≤ 1099511627776) : HSpec Try.prog 79 [.one (.lst true [.int .i64] a)] [] (fun r m' => r = .x (.one (.own 0)) ∧ m' = [some (.row 2 false [.int .i64] a)]) := by
  refine spec_of pMix (O := []) Try.func79 (c := bodyOf Try.f79) rfl (by kernel_rfl) (by kernel_rfl) Try.ntmps79 (res := [.tmp 2]) (by kernel_rfl) ?_
  repeat' (conv => whnf
           first
           | refine Rng.ok (by simp only [inR]; omega) ?_
           | refine Ob.mk (by first | omega | (simp; done) | decide | (simp; omega)) ?_
           | refine Ob.mk (show eqOK _ _ = true from by kernel_rfl) ?_
           | refine Ob.mk (show keyOK _ _ _ = true from by kernel_rfl) ?_
           | refine Val.mk _ (shr_val (by simp; rfl)) ?_
           | refine Ob.mk (Nat.le_of_ble_eq_true rfl) ?_
           | refine JoinVC.on ?_
           | refine Nils.mk (fun h => ?_) ?_
           | refine Val.mk _ (Int.tmod_eq_emod_of_nonneg (by omega)) ?_
           | refine Val.mk _ (Int.tdiv_eq_ediv_of_nonneg (by omega)) ?_
           | refine Mm.mk ?_
           | (refine Br.mk (fun h => ?_) (fun h => ?_) <;> first | (exfalso; omega; done) | (exfalso; simp at h; done) | skip))
  · repeat refine Mm.mk ?_
    refine EndVC.mk _ rfl _ _ ⟨rfl, rfl⟩ ?_
    refine ⟨[none], rfl, rfl, ?_, ?_⟩ <;> repeat' (first | exact trivial | exact rfl | exact Iff.rfl | apply And.intro)
    assumption
  · repeat refine Mm.mk ?_
    refine Ob.mk (by simp only [eb, List.length_nil]; omega) ?_
    repeat refine Mm.mk ?_
    refine EndVC.mk _ rfl _ _ ⟨rfl, rfl⟩ ?_
    refine ⟨[some 1], rfl, rfl, ?_, ?_⟩ <;> repeat' (first | exact trivial | exact rfl | exact Iff.rfl | apply And.intro)
theorem sumK_in {xs : List Int} (hl : xs.length ≤ 64) {k : Nat} (hk : k ≤ xs.length) (h : ∀ j, j < k → 0 ≤ xs.getD j 0 ∧ xs.getD j 0 ≤ 65536) : 0 ≤ sumK xs k ∧ sumK xs k ≤ 4194304 := by
  have := sumK_bd k hk h
  omega
theorem s78 (xs : List Int) (hl : xs.length ≤ 64) : PSpec Try.prog 78 [lI xs] (.tup [I (if okN xs then sumK xs xs.length else 0), .one (.prp (okN xs) inferInstance)]) := by
  have lx := i64s_len xs
  refine spec_of pMix (O := []) Try.func78 (c := bodyOf Try.f78) rfl (by kernel_rfl) (by kernel_rfl) Try.ntmps78 (res := [.tmp 2, .tmp 3]) (by kernel_rfl) ?_
  refine LoopVC.mk (fun m st => ∃ k : Nat, k ≤ xs.length ∧ m = xs.length - k ∧ (∀ j, j < k → 0 ≤ xs.getD j 0 ∧ xs.getD j 0 ≤ 65536) ∧ st = ⟨0, envA 20 [(4, .int .i64 (sumK xs k)), (7, .x (lI xs)), (8, .int .i64 (xs.length : Int)), (9, .int .i64 (k : Int))], []⟩) _ _ ⟨0, Nat.zero_le _, rfl, fun j h => absurd h (Nat.not_lt_zero j), rfl⟩ ?_ ?_
  · refine ⟨[], rfl, rfl, ?_, ?_⟩ <;> repeat' (first | exact trivial | exact rfl | exact Iff.rfl | apply And.intro)
    rw [lx]
  · rintro m _ ⟨k, hk, hm, hin, rfl⟩
    have gk : rI (i64s xs) (k : Int).toNat 0 = xs.getD k 0 := by rw [Int.toNat_natCast, i64s_get]
    have hb := sumK_in hl hk hin
    repeat' (conv => whnf
             first
             | refine Rng.ok (by simp only [inR]; omega) ?_
             | refine Ob.mk (by first | omega | (simp; done) | decide | (simp; omega)) ?_
             | refine Ob.mk (show eqOK _ _ = true from by kernel_rfl) ?_
             | refine Ob.mk (show keyOK _ _ _ = true from by kernel_rfl) ?_
             | refine Val.mk _ (shr_val (by simp; rfl)) ?_
             | refine Ob.mk (Nat.le_of_ble_eq_true rfl) ?_
             | refine JoinVC.on ?_
             | refine Nils.mk (fun h => ?_) ?_
             | refine Val.mk _ (Int.tmod_eq_emod_of_nonneg (by omega)) ?_
             | refine Val.mk _ (Int.tdiv_eq_ediv_of_nonneg (by omega)) ?_
             | refine Mm.mk ?_
             | refine CallVC.pure rfl (s56 _ _ _) ?_
             | refine CallVC0.pure rfl (s56 _ _ _) ?_
             | (refine Br.mk (fun h => ?_) (fun h => ?_) <;> first | (exfalso; omega; done) | (exfalso; simp at h; done) | skip))
    · repeat refine Mm.mk ?_
      refine EndVC.mk _ rfl _ _ ⟨rfl, rfl⟩ ?_
      refine ⟨[], rfl, rfl, ?_, ?_⟩ <;> repeat' (first | exact trivial | exact rfl | exact Iff.rfl | apply And.intro)
      all_goals
        have hno : ¬ okN xs := fun hok => by have := hok k (by omega); omega
        first | exact (if_neg hno).symm | exact hno
    · refine Back.mk (xs.length - (k + 1)) _ (by omega) ⟨k + 1, by omega, rfl, fun j hj => ?_, rfl⟩ ?_
      · rcases Nat.lt_or_ge j k with h1 | h1
        · exact hin j h1
        · have : j = k := by omega
          subst this; omega
      · refine ⟨[], rfl, rfl, ?_, ?_⟩ <;> repeat' (first | exact trivial | exact rfl | exact Iff.rfl | apply And.intro)
        rw [gk]; rfl
    · have hok : okN xs := fun j hj => hin j (by omega)
      have e : k = xs.length := by omega
      repeat refine Mm.mk ?_
      refine EndVC.mk _ rfl _ _ ⟨rfl, rfl⟩ ?_
      refine ⟨[], rfl, rfl, ?_, ?_⟩ <;> repeat' (first | exact trivial | exact rfl | exact Iff.rfl | apply And.intro)
      · rw [if_pos hok, e]
      · exact hok
theorem mts_snoc (o : List (Nat × Nat × Int)) (i k : Nat) (n : Int) : mts (o ++ [(i, k, n)]) = mts o ++ [[.int (i : Int), .int (k : Int), .int n]] := by simp [mts]
theorem eb61 : Try.t61.bytes = 24 := by kernel_rfl
/-- What holds at each round. -/
structure MInv (xs ys : List Int) (D : Int) (X Y : List Int) (i k : Nat) (d : Int) (out : List (Nat × Nat × Int)) : Prop where
  lx : X.length = xs.length
  ly : Y.length = ys.length
  sx : xs.length ≤ 64
  sy : ys.length ≤ 64
  bx : ∀ j, 0 ≤ X.getD j 0 ∧ X.getD j 0 ≤ 65536
  by' : ∀ j, 0 ≤ Y.getD j 0 ∧ Y.getD j 0 ≤ 65536
  d0 : 0 ≤ d
  dD : D ≤ 1073741824
  hi : i ≤ xs.length
  hk : k ≤ ys.length
  rx : d ≤ sumK X xs.length - sumK X i
  ry : d ≤ sumK Y ys.length - sumK Y k
  cnt : (out.length : Int) + d ≤ D
  run : ∀ o, MR X Y i k d o → MR xs ys 0 0 D (out ++ o)
theorem MInv.i_lt {xs ys D X Y i k d out} (h : MInv xs ys D X Y i k d out) (hd : 0 < d) : i < xs.length ∧ k < ys.length := by
  have h1 := h.rx
  have h2 := h.ry
  have h3 := h.hi
  have h4 := h.hk
  constructor
  · rcases Nat.lt_or_ge i xs.length with h5 | h5
    · exact h5
    · have : i = xs.length := by omega
      subst this; omega
  · rcases Nat.lt_or_ge k ys.length with h5 | h5
    · exact h5
    · have : k = ys.length := by omega
      subst this; omega
theorem MInv.next_i {xs ys D X Y i k d out} (h : MInv xs ys D X Y i k d out) (hi : i < xs.length) (hx : X.getD i 0 = 0) : MInv xs ys D X Y (i + 1) k d out :=
  { h with hi := hi, rx := by rw [sumK, hx]; have := h.rx; omega, run := fun o ho => h.run o (ho.ci hx) }
theorem MInv.next_k {xs ys D X Y i k d out} (h : MInv xs ys D X Y i k d out) (hk : k < ys.length) (hx : X.getD i 0 ≠ 0) (hy : Y.getD k 0 = 0) : MInv xs ys D X Y i (k + 1) d out :=
  { h with hk := hk, ry := by rw [sumK, hy]; have := h.ry; omega, run := fun o ho => h.run o (ho.ck hx hy) }
theorem MInv.go {xs ys D X Y i k d out} (h : MInv xs ys D X Y i k d out) (hd : 0 < d) (n : Int) (hn : n = min (min (X.getD i 0) (Y.getD k 0)) d) (hpos : 0 < n) :
    MInv xs ys D (X.set i (X.getD i 0 - n)) (Y.set k (Y.getD k 0 - n)) i k (d - n) (out ++ [(i, k, n)]) := by
  obtain ⟨hi, hk⟩ := h.i_lt hd
  have b1 := h.bx i
  have b2 := h.by' k
  have hiX : i < X.length := by rw [h.lx]; exact hi
  have hkY : k < Y.length := by rw [h.ly]; exact hk
  refine ⟨by simp [h.lx], by simp [h.ly], h.sx, h.sy, fun j => ?_, fun j => ?_, by omega, h.dD, h.hi, h.hk, ?_, ?_, ?_, fun o ho => ?_⟩
  · rw [getD_set _ _ _ _ hiX]; have := h.bx j; split <;> omega
  · rw [getD_set _ _ _ _ hkY]; have := h.by' j; split <;> omega
  · rw [sumK_set _ _ _ hiX, sumK_set _ _ _ hiX, if_pos hi, if_neg (by omega)]; have := h.rx; omega
  · rw [sumK_set _ _ _ hkY, sumK_set _ _ _ hkY, if_pos hk, if_neg (by omega)]; have := h.ry; omega
  · have := h.cnt; simp; omega
  · rw [List.append_assoc]
    exact h.run _ (.go n hd (by omega) (by omega) hn ho)
/-- A round of nothing. -/
theorem MInv.set0 {xs ys D X Y i k d out} (h : MInv xs ys D X Y i k d out) (hd : 0 < d) (n : Int) (hn : n = 0) : MInv xs ys D (X.set i (X.getD i 0 - n)) (Y.set k (Y.getD k 0 - n)) i k (d - n) out := by
  obtain ⟨hi, hk⟩ := h.i_lt hd
  have e1 : X.set i (X.getD i 0 - n) = X := by
    rw [hn, Int.sub_zero, List.getD_eq_getElem?_getD, List.getElem?_eq_getElem (by rw [h.lx]; exact hi)]
    exact List.set_getElem_self _
  have e2 : Y.set k (Y.getD k 0 - n) = Y := by
    rw [hn, Int.sub_zero, List.getD_eq_getElem?_getD, List.getElem?_eq_getElem (by rw [h.ly]; exact hk)]
    exact List.set_getElem_self _
  rw [e1, e2, hn, Int.sub_zero]
  exact h
theorem MInv.fin {xs ys D X Y i k d out} (h : MInv xs ys D X Y i k d out) (hd : d ≤ 0) : mo xs ys D = out := by
  have := h.run [] (.done hd)
  rw [List.append_nil] at this
  exact mo_eq this
theorem okN_all {xs : List Int} (h : okN xs) (j : Nat) : 0 ≤ xs.getD j 0 ∧ xs.getD j 0 ≤ 65536 := by
  rcases Nat.lt_or_ge j xs.length with h1 | h1
  · exact h j h1
  · rw [List.getD_eq_getElem?_getD, List.getElem?_eq_none h1]; simp
theorem MInv.start {xs ys : List Int} {D : Int} (h : moE xs ys D = 0) : MInv xs ys D xs ys 0 0 D [] := by
  unfold moE at h
  split at h
  · cases h
  split at h
  · cases h
  split at h
  · cases h
  split at h
  · cases h
  rename_i h1 h2 h3 h4
  have o1 : okN xs := Decidable.byContradiction fun h => h2 (.inl h)
  have o2 : okN ys := Decidable.byContradiction fun h => h2 (.inr h)
  exact ⟨rfl, rfl, by omega, by omega, okN_all o1, okN_all o2, by omega, by omega, Nat.zero_le _, Nat.zero_le _, by simp [sumK]; omega, by simp [sumK]; omega, by simp, fun o ho => ho⟩
@[reducible] def lM (o : List (Nat × Nat × Int)) : XV := .one (.lst false K3 (mts o))
theorem s37 (xs ys : List Int) (D : Int) (hx : xs.length ≤ 1000) (hy : ys.length ≤ 1000) : PSpec Try.prog 37 [lI xs, lI ys, I D] (.tup [lM (moL xs ys D), I (moE xs ys D)]) := by
  have lx := i64s_len xs
  have ly := i64s_len ys
  have bad : moE xs ys D ≠ 0 → ([] : Arr) = mts (moL xs ys D) := fun h => by unfold moL; rw [if_neg h]; rfl
  refine spec_of pMix (O := []) Try.func37 (c := bodyOf Try.f37) rfl (by kernel_rfl) (by kernel_rfl) Try.ntmps37 (res := [.tmp 6, .tmp 7]) (by kernel_rfl) ?_
  repeat refine Mm.mk ?_
  try refine JoinVC.on ?_
  refine Br.mk (fun h => ?_) (fun h => ?_)
  · have e : (6 : Int) = moE xs ys D := by unfold moE; rw [if_pos (by omega)]
    repeat refine Mm.mk ?_
    refine EndVC.mk _ rfl _ _ ⟨rfl, rfl⟩ ?_
    refine ⟨[], rfl, rfl, ?_, ?_⟩ <;> repeat' (first | exact trivial | exact rfl | exact Iff.rfl | apply And.intro)
    · exact (bad (by omega)).symm
    · exact e
  have h1 : ¬ (64 < xs.length ∨ 64 < ys.length) := by omega
  repeat' (conv => whnf
           first
           | refine Rng.ok (by simp only [inR]; omega) ?_
           | refine Ob.mk (by first | omega | (simp; done) | decide | (simp; omega)) ?_
           | refine Ob.mk (show eqOK _ _ = true from by kernel_rfl) ?_
           | refine Ob.mk (show keyOK _ _ _ = true from by kernel_rfl) ?_
           | refine Val.mk _ (shr_val (by simp; rfl)) ?_
           | refine Ob.mk (Nat.le_of_ble_eq_true rfl) ?_
           | refine JoinVC.on ?_
           | refine Nils.mk (fun h => ?_) ?_
           | refine Val.mk _ (Int.tmod_eq_emod_of_nonneg (by omega)) ?_
           | refine Val.mk _ (Int.tdiv_eq_ediv_of_nonneg (by omega)) ?_
           | refine Mm.mk ?_
           | refine CallVC.pure rfl (s78 xs (by omega)) ?_
           | refine CallVC.pure rfl (s78 ys (by omega)) ?_
           | refine CallVC.pure rfl (s56 _ _ _) ?_
           | refine CallVC0.pure rfl (s78 xs (by omega)) ?_
           | refine CallVC0.pure rfl (s78 ys (by omega)) ?_
           | refine CallVC0.pure rfl (s56 _ _ _) ?_
           | (refine Br.mk (fun h => ?_) (fun h => ?_) <;> first | (exfalso; omega; done) | (exfalso; simp at h; done) | skip))
  · have e : (2 : Int) = moE xs ys D := by unfold moE; rw [if_neg h1, if_pos (.inl (by assumption))]
    repeat refine Mm.mk ?_
    refine EndVC.mk _ rfl _ _ ⟨rfl, rfl⟩ ?_
    refine ⟨[], rfl, rfl, ?_, ?_⟩ <;> repeat' (first | exact trivial | exact rfl | exact Iff.rfl | apply And.intro)
    · exact (bad (by omega)).symm
    · exact e
  · have e : (2 : Int) = moE xs ys D := by unfold moE; rw [if_neg h1, if_pos (.inr (by assumption))]
    repeat refine Mm.mk ?_
    refine EndVC.mk _ rfl _ _ ⟨rfl, rfl⟩ ?_
    refine ⟨[], rfl, rfl, ?_, ?_⟩ <;> repeat' (first | exact trivial | exact rfl | exact Iff.rfl | apply And.intro)
    · exact (bad (by omega)).symm
    · exact e
  all_goals
    have h2 : ¬ (¬ okN xs ∨ ¬ okN ys) := fun h => h.elim (by assumption) (by assumption)
    have o1 : okN xs := Decidable.byContradiction fun h => h2 (.inl h)
    have o2 : okN ys := Decidable.byContradiction fun h => h2 (.inr h)
  · have e : (3 : Int) = moE xs ys D := by unfold moE; rw [if_neg h1, if_neg h2, if_pos (by assumption)]
    repeat refine Mm.mk ?_
    refine EndVC.mk _ rfl _ _ ⟨rfl, rfl⟩ ?_
    refine ⟨[], rfl, rfl, ?_, ?_⟩ <;> repeat' (first | exact trivial | exact rfl | exact Iff.rfl | apply And.intro)
    · exact (bad (by omega)).symm
    · exact e
  all_goals
    have h3 : ¬ (D < 0 ∨ 1073741824 < D) := by assumption
    rw [if_pos o1, if_pos o2] at h
  · have e : (15 : Int) = moE xs ys D := by unfold moE; rw [if_neg h1, if_neg h2, if_neg h3, if_pos (by omega)]
    repeat refine Mm.mk ?_
    refine EndVC.mk _ rfl _ _ ⟨rfl, rfl⟩ ?_
    refine ⟨[], rfl, rfl, ?_, ?_⟩ <;> repeat' (first | exact trivial | exact rfl | exact Iff.rfl | apply And.intro)
    · exact (bad (by omega)).symm
    · exact e
  have e0 : moE xs ys D = 0 := by unfold moE; rw [if_neg h1, if_neg h2, if_neg h3, if_neg (by omega)]
  have eL : moL xs ys D = mo xs ys D := by unfold moL; rw [if_pos e0]
  rw [eL, e0]
  clear bad h
  conv => whnf
  refine CallVC.mk [] _ _ _ rfl rfl rfl (s79 (i64s xs) (by omega)) (fun r m' h => ?_)
  obtain ⟨rfl, rfl⟩ := h
  conv => whnf
  refine CallVC.mk [] _ _ _ rfl rfl rfl (s79 (i64s ys) (by omega)) (fun r m' h => ?_)
  obtain ⟨rfl, rfl⟩ := h
  conv => whnf
  refine LoopVC.mk (fun m st => ∃ (X Y : List Int) (i k : Nat) (d : Int) (out : List (Nat × Nat × Int)), MInv xs ys D X Y i k d out ∧ m = (xs.length - i) + (ys.length - k) + (if 0 < d then 1 else 0) ∧ st = ⟨0, envA 105 [(0, .x (.one (.own 0))), (1, .x (.one (.own 1))), (2, .int .i64 d), (12, .x (.one (.own 2))), (13, .int .i64 (i : Int)), (14, .int .i64 (k : Int))], [some (.row 2 false [.int .i64] (i64s X)), some (.row 2 false [.int .i64] (i64s Y)), some (.row 61 false K3 (mts out))]⟩) _ _ ⟨xs, ys, 0, 0, D, [], MInv.start e0, rfl, rfl⟩ ?_ ?_
  · refine ⟨[some 0, some 1, none], rfl, rfl, ?_, ?_⟩ <;> repeat' (first | exact trivial | exact rfl | exact Iff.rfl | apply And.intro)
  clear h
  rintro m _ ⟨X, Y, i, k, d, out, hI, hm, rfl⟩
  have gi : rI (i64s X) (i : Int).toNat 0 = X.getD i 0 := by rw [Int.toNat_natCast, i64s_get]
  have gk : rI (i64s Y) (k : Int).toNat 0 = Y.getD k 0 := by rw [Int.toNat_natCast, i64s_get]
  have lX : (i64s X).length = xs.length := by rw [i64s_len, hI.lx]
  have lY : (i64s Y).length = ys.length := by rw [i64s_len, hI.ly]
  have bX := hI.bx i
  have bY := hI.by' k
  have hd0 := hI.d0
  have hdD := hI.dD
  have hcnt := hI.cnt
  by_cases hd : 0 < d
  · obtain ⟨hi, hk⟩ := hI.i_lt hd
    have s1 := hI.sx
    have s2 := hI.sy
    repeat' (conv => whnf
             first
             | refine Rng.ok (by simp only [inR]; omega) ?_
             | refine Ob.mk (by first | omega | (simp; done) | decide | (simp; omega)) ?_
             | refine Ob.mk (show eqOK _ _ = true from by kernel_rfl) ?_
             | refine Ob.mk (show keyOK _ _ _ = true from by kernel_rfl) ?_
             | refine Val.mk _ (shr_val (by simp; rfl)) ?_
             | refine Ob.mk (Nat.le_of_ble_eq_true rfl) ?_
             | refine JoinVC.on ?_
             | refine Nils.mk (fun h => ?_) ?_
             | refine Val.mk _ (Int.tmod_eq_emod_of_nonneg (by omega)) ?_
             | refine Val.mk _ (Int.tdiv_eq_ediv_of_nonneg (by omega)) ?_
             | (refine Br.mk (fun h => ?_) (fun h => ?_) <;> first | (exfalso; omega; done) | (exfalso; simp at h; done) | skip))
    conv => whnf
    refine Mm.nm (fun n hn => ?_)
    rw [gi, gk] at hn
    have n1 : n ≤ X.getD i 0 ∧ n ≤ Y.getD k 0 ∧ n ≤ d ∧ 0 ≤ n ∧ (n = X.getD i 0 ∨ n = Y.getD k 0 ∨ n = d) ∧ n = min (min (X.getD i 0) (Y.getD k 0)) d := by omega
    clear hn
    have hd1 : m = xs.length - i + (ys.length - k) + 1 := by rw [hm, if_pos hd]
    have u1 : updRow (i64s X) (i : Int).toNat 0 [Cell.int (rI (i64s X) (i : Int).toNat 0 - n)] = i64s (X.set i (X.getD i 0 - n)) := by rw [gi, Int.toNat_natCast]; exact i64s_set X i _ (by rw [hI.lx]; exact hi)
    have u2 : updRow (i64s Y) (k : Int).toNat 0 [Cell.int (rI (i64s Y) (k : Int).toNat 0 - n)] = i64s (Y.set k (Y.getD k 0 - n)) := by rw [gk, Int.toNat_natCast]; exact i64s_set Y k _ (by rw [hI.ly]; exact hk)
    have g3 : rI (i64s (X.set i (X.getD i 0 - n))) (i : Int).toNat 0 = (X.set i (X.getD i 0 - n)).getD i 0 := by rw [Int.toNat_natCast, i64s_get]
    have g4 : rI (i64s (Y.set k (Y.getD k 0 - n))) (k : Int).toNat 0 = (Y.set k (Y.getD k 0 - n)).getD k 0 := by rw [Int.toNat_natCast, i64s_get]
    have e3 : (X.set i (X.getD i 0 - n)).getD i 0 = X.getD i 0 - n := by rw [getD_set _ _ _ _ (by rw [hI.lx]; exact hi), if_pos rfl]
    have e4 : (Y.set k (Y.getD k 0 - n)).getD k 0 = Y.getD k 0 - n := by rw [getD_set _ _ _ _ (by rw [hI.ly]; exact hk), if_pos rfl]
    have l3 : (i64s (X.set i (X.getD i 0 - n))).length = xs.length := by rw [i64s_len, List.length_set, hI.lx]
    have l4 : (i64s (Y.set k (Y.getD k 0 - n))).length = ys.length := by rw [i64s_len, List.length_set, hI.ly]
    clear hm
    repeat' (conv => whnf
             first
             | refine Rng.ok (by simp only [inR]; omega) ?_
             | refine Ob.mk (by first | omega | (simp; done) | decide | (simp; omega)) ?_
             | refine Ob.mk (show eqOK _ _ = true from by kernel_rfl) ?_
             | refine Ob.mk (show keyOK _ _ _ = true from by kernel_rfl) ?_
             | refine Val.mk _ (shr_val (by simp; rfl)) ?_
             | refine Ob.mk (Nat.le_of_ble_eq_true rfl) ?_
             | refine JoinVC.on ?_
             | refine Nils.mk (fun h => ?_) ?_
             | refine Val.mk _ (Int.tmod_eq_emod_of_nonneg (by omega)) ?_
             | refine Val.mk _ (Int.tdiv_eq_ediv_of_nonneg (by omega)) ?_
             | refine Mm.mk ?_
             | (refine Br.mk (fun h => ?_) (fun h => ?_) <;> first | (exfalso; omega; done) | (exfalso; simp at h; done) | skip))
    · have hG := hI.go hd n n1.2.2.2.2.2 (by assumption)
      repeat refine Mm.mk ?_
      refine Ob.mk (by simp only [mts_len, eb61, List.length_cons, List.length_nil]; omega) ?_
      repeat' (conv => whnf
               first
               | refine Rng.ok (by simp only [inR]; omega) ?_
               | refine Ob.mk (by first | omega | (simp; done) | decide | (simp; omega)) ?_
               | refine Ob.mk (show eqOK _ _ = true from by kernel_rfl) ?_
               | refine Ob.mk (show keyOK _ _ _ = true from by kernel_rfl) ?_
               | refine Val.mk _ (shr_val (by simp; rfl)) ?_
               | refine Ob.mk (Nat.le_of_ble_eq_true rfl) ?_
               | refine JoinVC.on ?_
               | refine Nils.mk (fun h => ?_) ?_
               | refine Val.mk _ (Int.tmod_eq_emod_of_nonneg (by omega)) ?_
               | refine Val.mk _ (Int.tdiv_eq_ediv_of_nonneg (by omega)) ?_
               | refine Mm.mk ?_
               | (refine Br.mk (fun h => ?_) (fun h => ?_) <;> first | (exfalso; omega; done) | (exfalso; simp at h; done) | skip))
      rw [u1]
      conv => whnf
      rw [u2]
      repeat' (conv => whnf
               first
               | refine Rng.ok (by simp only [inR]; omega) ?_
               | refine Ob.mk (by first | omega | (simp; done) | decide | (simp; omega)) ?_
               | refine Ob.mk (show eqOK _ _ = true from by kernel_rfl) ?_
               | refine Ob.mk (show keyOK _ _ _ = true from by kernel_rfl) ?_
               | refine Val.mk _ (shr_val (by simp; rfl)) ?_
               | refine Ob.mk (Nat.le_of_ble_eq_true rfl) ?_
               | refine JoinVC.on ?_
               | refine Nils.mk (fun h => ?_) ?_
               | refine Val.mk _ (Int.tmod_eq_emod_of_nonneg (by omega)) ?_
               | refine Val.mk _ (Int.tdiv_eq_ediv_of_nonneg (by omega)) ?_
               | refine Mm.mk ?_
               | (refine Br.mk (fun h => ?_) (fun h => ?_) <;> first | (exfalso; omega; done) | (exfalso; simp at h; done) | skip))
      · refine Back.mk ((xs.length - (i + 1)) + (ys.length - k) + (if 0 < d - n then 1 else 0)) _ (by split <;> omega) ⟨_, _, i + 1, k, d - n, (out ++ [(i, k, n)]), hG.next_i hi (by rw [← g3]; assumption), rfl, rfl⟩ ?_
        refine ⟨[some 0, some 1, some 4], rfl, rfl, ?_, ?_⟩ <;> repeat' (first | exact trivial | exact rfl | exact Iff.rfl | apply And.intro)
        exact (mts_snoc out i k n).symm
      · refine Back.mk ((xs.length - i) + (ys.length - (k + 1)) + (if 0 < d - n then 1 else 0)) _ (by split <;> omega) ⟨_, _, i, k + 1, d - n, (out ++ [(i, k, n)]), hG.next_k hk (by rw [← g3]; assumption) (by rw [← g4]; assumption), rfl, rfl⟩ ?_
        refine ⟨[some 0, some 1, some 4], rfl, rfl, ?_, ?_⟩ <;> repeat' (first | exact trivial | exact rfl | exact Iff.rfl | apply And.intro)
        exact (mts_snoc out i k n).symm
      · refine Back.mk ((xs.length - i) + (ys.length - k) + (if 0 < d - n then 1 else 0)) _ (by split <;> omega) ⟨_, _, i, k, d - n, (out ++ [(i, k, n)]), hG, rfl, rfl⟩ ?_
        refine ⟨[some 0, some 1, some 4], rfl, rfl, ?_, ?_⟩ <;> repeat' (first | exact trivial | exact rfl | exact Iff.rfl | apply And.intro)
        exact (mts_snoc out i k n).symm
    · have hZ := hI.set0 hd n (by omega)
      rw [u1]
      conv => whnf
      rw [u2]
      repeat' (conv => whnf
               first
               | refine Rng.ok (by simp only [inR]; omega) ?_
               | refine Ob.mk (by first | omega | (simp; done) | decide | (simp; omega)) ?_
               | refine Ob.mk (show eqOK _ _ = true from by kernel_rfl) ?_
               | refine Ob.mk (show keyOK _ _ _ = true from by kernel_rfl) ?_
               | refine Val.mk _ (shr_val (by simp; rfl)) ?_
               | refine Ob.mk (Nat.le_of_ble_eq_true rfl) ?_
               | refine JoinVC.on ?_
               | refine Nils.mk (fun h => ?_) ?_
               | refine Val.mk _ (Int.tmod_eq_emod_of_nonneg (by omega)) ?_
               | refine Val.mk _ (Int.tdiv_eq_ediv_of_nonneg (by omega)) ?_
               | refine Mm.mk ?_
               | (refine Br.mk (fun h => ?_) (fun h => ?_) <;> first | (exfalso; omega; done) | (exfalso; simp at h; done) | skip))
      · refine Back.mk ((xs.length - (i + 1)) + (ys.length - k) + (if 0 < d - n then 1 else 0)) _ (by split <;> omega) ⟨_, _, i + 1, k, d - n, out, hZ.next_i hi (by rw [← g3]; assumption), rfl, rfl⟩ ?_
        refine ⟨[some 0, some 1, some 2], rfl, rfl, ?_, ?_⟩ <;> repeat' (first | exact trivial | exact rfl | exact Iff.rfl | apply And.intro)
      · refine Back.mk ((xs.length - i) + (ys.length - (k + 1)) + (if 0 < d - n then 1 else 0)) _ (by split <;> omega) ⟨_, _, i, k + 1, d - n, out, hZ.next_k hk (by rw [← g3]; assumption) (by rw [← g4]; assumption), rfl, rfl⟩ ?_
        refine ⟨[some 0, some 1, some 2], rfl, rfl, ?_, ?_⟩ <;> repeat' (first | exact trivial | exact rfl | exact Iff.rfl | apply And.intro)
  · repeat' (conv => whnf
             first
             | refine Rng.ok (by simp only [inR]; omega) ?_
             | refine Ob.mk (by first | omega | (simp; done) | decide | (simp; omega)) ?_
             | refine Ob.mk (show eqOK _ _ = true from by kernel_rfl) ?_
             | refine Ob.mk (show keyOK _ _ _ = true from by kernel_rfl) ?_
             | refine Val.mk _ (shr_val (by simp; rfl)) ?_
             | refine Ob.mk (Nat.le_of_ble_eq_true rfl) ?_
             | refine JoinVC.on ?_
             | refine Nils.mk (fun h => ?_) ?_
             | refine Val.mk _ (Int.tmod_eq_emod_of_nonneg (by omega)) ?_
             | refine Val.mk _ (Int.tdiv_eq_ediv_of_nonneg (by omega)) ?_
             | refine Mm.mk ?_
             | (refine Br.mk (fun h => ?_) (fun h => ?_) <;> first | (exfalso; omega; done) | (exfalso; simp at h; done) | skip))
    repeat refine Mm.mk ?_
    refine EndVC.mk _ rfl _ _ ⟨rfl, rfl⟩ ?_
    refine ⟨[], rfl, rfl, ?_, ?_⟩ <;> repeat' (first | exact trivial | exact rfl | exact Iff.rfl | apply And.intro)
    exact congrArg mts (hI.fin (by omega)).symm
theorem okN_not {xs : List Int} {k : Nat} (hk : k < xs.length) (h : ¬ (0 ≤ xs.getD k 0 ∧ xs.getD k 0 ≤ 65536)) : ¬ okN xs := fun hok => h (hok k hk)
theorem s38 (xs ys : List Int) (D : Int) (hx : xs.length ≤ 1000) (hy : ys.length ≤ 1000) : PSpec Try.prog 38 [lI xs, lI ys, I D] (.tup [lM (moL xs ys D), I (moE xs ys D)]) := by
  have lx := i64s_len xs
  have ly := i64s_len ys
  have bad : moE xs ys D ≠ 0 → mts (moL xs ys D) = ([] : Arr) := fun h => by unfold moL; rw [if_neg h]; rfl
  have b6 : 64 < xs.length ∨ 64 < ys.length → (6 : Int) = moE xs ys D := fun h => by unfold moE; rw [if_pos h]
  have b2 : ¬ (64 < xs.length ∨ 64 < ys.length) → ¬ okN xs ∨ ¬ okN ys → (2 : Int) = moE xs ys D := fun h1 h => by unfold moE; rw [if_neg h1, if_pos h]
  refine spec_of pMix (O := []) Try.func38 (c := bodyOf Try.f38) rfl (by kernel_rfl) (by kernel_rfl) Try.ntmps38 (res := [.tmp 6, .tmp 7]) (by kernel_rfl) ?_
  repeat' (conv => whnf
           first
           | refine Rng.ok (by simp only [inR]; omega) ?_
           | refine Ob.mk (by first | omega | (simp; done) | decide | (simp; omega)) ?_
           | refine Ob.mk (show eqOK _ _ = true from by kernel_rfl) ?_
           | refine Ob.mk (show keyOK _ _ _ = true from by kernel_rfl) ?_
           | refine Val.mk _ (shr_val (by simp; rfl)) ?_
           | refine Ob.mk (Nat.le_of_ble_eq_true rfl) ?_
           | refine JoinVC.on ?_
           | refine Nils.mk (fun h => ?_) ?_
           | refine Val.mk _ (Int.tmod_eq_emod_of_nonneg (by omega)) ?_
           | refine Val.mk _ (Int.tdiv_eq_ediv_of_nonneg (by omega)) ?_
           | refine Mm.mk ?_
           | (refine Br.mk (fun h => ?_) (fun h => ?_) <;> first | (exfalso; omega; done) | (exfalso; simp at h; done) | skip))
  · have e := b6 (by omega)
    repeat refine Mm.mk ?_
    refine EndVC.mk _ rfl _ _ ⟨rfl, rfl⟩ ?_
    refine ⟨[], rfl, rfl, ?_, ?_⟩ <;> repeat' (first | exact trivial | exact rfl | exact Iff.rfl | apply And.intro)
    · exact bad (by omega)
    · exact e
  · have e := b6 (by omega)
    repeat refine Mm.mk ?_
    refine EndVC.mk _ rfl _ _ ⟨rfl, rfl⟩ ?_
    refine ⟨[], rfl, rfl, ?_, ?_⟩ <;> repeat' (first | exact trivial | exact rfl | exact Iff.rfl | apply And.intro)
    · exact bad (by omega)
    · exact e
  have h1 : ¬ (64 < xs.length ∨ 64 < ys.length) := by omega
  clear b6
  have b2 := b2 h1
  refine LoopVC.mk (fun m st => ∃ k : Nat, k ≤ xs.length ∧ m = xs.length - k ∧ (∀ j, j < k → 0 ≤ xs.getD j 0 ∧ xs.getD j 0 ≤ 65536) ∧ st = ⟨0, envA 134 [(0, .x (lI xs)), (1, .x (lI ys)), (2, .int .i64 D), (8, .int .i64 (sumK xs k)), (9, .int .i64 0), (10, .int .i64 (k : Int))], []⟩) _ _ ⟨0, Nat.zero_le _, rfl, fun j h => absurd h (Nat.not_lt_zero j), rfl⟩ ?_ ?_
  · refine ⟨[], rfl, rfl, ?_, ?_⟩ <;> repeat' (first | exact trivial | exact rfl | exact Iff.rfl | apply And.intro)
  rintro m _ ⟨k, hk, hm, hin, rfl⟩
  have gk : rI (i64s xs) (k : Int).toNat 0 = xs.getD k 0 := by rw [Int.toNat_natCast, i64s_get]
  have hb := sumK_in (xs := xs) (by omega) hk hin
  repeat' (conv => whnf
           first
           | refine Rng.ok (by simp only [inR]; omega) ?_
           | refine Ob.mk (by first | omega | (simp; done) | decide | (simp; omega)) ?_
           | refine Ob.mk (show eqOK _ _ = true from by kernel_rfl) ?_
           | refine Ob.mk (show keyOK _ _ _ = true from by kernel_rfl) ?_
           | refine Val.mk _ (shr_val (by simp; rfl)) ?_
           | refine Ob.mk (Nat.le_of_ble_eq_true rfl) ?_
           | refine JoinVC.on ?_
           | refine Nils.mk (fun h => ?_) ?_
           | refine Val.mk _ (Int.tmod_eq_emod_of_nonneg (by omega)) ?_
           | refine Val.mk _ (Int.tdiv_eq_ediv_of_nonneg (by omega)) ?_
           | refine Mm.mk ?_
           | refine CallVC.pure rfl (s58 _ _ _) ?_
           | refine CallVC0.pure rfl (s58 _ _ _) ?_
           | (refine Br.mk (fun h => ?_) (fun h => ?_) <;> first | (exfalso; omega; done) | (exfalso; simp at h; done) | skip))
  · have e := b2 (.inl (okN_not (k := k) (by omega) (by rw [← gk]; assumption)))
    repeat refine Mm.mk ?_
    refine EndVC.mk _ rfl _ _ ⟨rfl, rfl⟩ ?_
    refine ⟨[], rfl, rfl, ?_, ?_⟩ <;> repeat' (first | exact trivial | exact rfl | exact Iff.rfl | apply And.intro)
    · exact bad (by omega)
    · exact e
  · refine Back.mk (xs.length - (k + 1)) _ (by omega) ⟨k + 1, by omega, rfl, fun j hj => ?_, rfl⟩ ?_
    · rcases Nat.lt_or_ge j k with h1 | h1
      · exact hin j h1
      · have : j = k := by omega
        subst this; omega
    · refine ⟨[], rfl, rfl, ?_, ?_⟩ <;> repeat' (first | exact trivial | exact rfl | exact Iff.rfl | apply And.intro)
      rw [gk]; rfl
  have o1 : okN xs := fun j hj => hin j (by omega)
  have e : k = xs.length := by omega
  subst e
  clear hin hk hm gk
  refine LoopVC.mk (fun m st => ∃ k : Nat, k ≤ ys.length ∧ m = ys.length - k ∧ (∀ j, j < k → 0 ≤ ys.getD j 0 ∧ ys.getD j 0 ≤ 65536) ∧ st = ⟨0, envA 134 [(0, .x (lI xs)), (1, .x (lI ys)), (2, .int .i64 D), (8, .int .i64 (sumK xs xs.length)), (9, .int .i64 (sumK ys k)), (11, .int .i64 (k : Int))], []⟩) _ _ ⟨0, Nat.zero_le _, rfl, fun j h => absurd h (Nat.not_lt_zero j), rfl⟩ ?_ ?_
  · refine ⟨[], rfl, rfl, ?_, ?_⟩ <;> repeat' (first | exact trivial | exact rfl | exact Iff.rfl | apply And.intro)
  rintro m _ ⟨k, hk, hm, hin, rfl⟩
  have gk : rI (i64s ys) (k : Int).toNat 0 = ys.getD k 0 := by rw [Int.toNat_natCast, i64s_get]
  have hb' := sumK_in (xs := ys) (by omega) hk hin
  repeat' (conv => whnf
           first
           | refine Rng.ok (by simp only [inR]; omega) ?_
           | refine Ob.mk (by first | omega | (simp; done) | decide | (simp; omega)) ?_
           | refine Ob.mk (show eqOK _ _ = true from by kernel_rfl) ?_
           | refine Ob.mk (show keyOK _ _ _ = true from by kernel_rfl) ?_
           | refine Val.mk _ (shr_val (by simp; rfl)) ?_
           | refine Ob.mk (Nat.le_of_ble_eq_true rfl) ?_
           | refine JoinVC.on ?_
           | refine Nils.mk (fun h => ?_) ?_
           | refine Val.mk _ (Int.tmod_eq_emod_of_nonneg (by omega)) ?_
           | refine Val.mk _ (Int.tdiv_eq_ediv_of_nonneg (by omega)) ?_
           | refine Mm.mk ?_
           | refine CallVC.pure rfl (s58 _ _ _) ?_
           | refine CallVC0.pure rfl (s58 _ _ _) ?_
           | (refine Br.mk (fun h => ?_) (fun h => ?_) <;> first | (exfalso; omega; done) | (exfalso; simp at h; done) | skip))
  · have e := b2 (.inr (okN_not (k := k) (by omega) (by rw [← gk]; assumption)))
    repeat refine Mm.mk ?_
    refine EndVC.mk _ rfl _ _ ⟨rfl, rfl⟩ ?_
    refine ⟨[], rfl, rfl, ?_, ?_⟩ <;> repeat' (first | exact trivial | exact rfl | exact Iff.rfl | apply And.intro)
    · exact bad (by omega)
    · exact e
  · refine Back.mk (ys.length - (k + 1)) _ (by omega) ⟨k + 1, by omega, rfl, fun j hj => ?_, rfl⟩ ?_
    · rcases Nat.lt_or_ge j k with h1 | h1
      · exact hin j h1
      · have : j = k := by omega
        subst this; omega
    · refine ⟨[], rfl, rfl, ?_, ?_⟩ <;> repeat' (first | exact trivial | exact rfl | exact Iff.rfl | apply And.intro)
      rw [gk]; rfl
  all_goals
    have o2 : okN ys := fun j hj => hin j (by omega)
    have e : k = ys.length := by omega
    subst e
    clear hin hk hm gk b2
    have h2 : ¬ (¬ okN xs ∨ ¬ okN ys) := fun h => h.elim (fun h => h o1) (fun h => h o2)
  · have e : (3 : Int) = moE xs ys D := by unfold moE; rw [if_neg h1, if_neg h2, if_pos (by omega)]
    repeat refine Mm.mk ?_
    refine EndVC.mk _ rfl _ _ ⟨rfl, rfl⟩ ?_
    refine ⟨[], rfl, rfl, ?_, ?_⟩ <;> repeat' (first | exact trivial | exact rfl | exact Iff.rfl | apply And.intro)
    · exact bad (by omega)
    · exact e
  all_goals
    have h3 : ¬ (D < 0 ∨ 1073741824 < D) := by omega
  · have e : (15 : Int) = moE xs ys D := by unfold moE; rw [if_neg h1, if_neg h2, if_neg h3, if_pos (by omega)]
    repeat refine Mm.mk ?_
    refine EndVC.mk _ rfl _ _ ⟨rfl, rfl⟩ ?_
    refine ⟨[], rfl, rfl, ?_, ?_⟩ <;> repeat' (first | exact trivial | exact rfl | exact Iff.rfl | apply And.intro)
    · exact bad (by omega)
    · exact e
  · have e : (15 : Int) = moE xs ys D := by unfold moE; rw [if_neg h1, if_neg h2, if_neg h3, if_pos (by omega)]
    repeat refine Mm.mk ?_
    refine EndVC.mk _ rfl _ _ ⟨rfl, rfl⟩ ?_
    refine ⟨[], rfl, rfl, ?_, ?_⟩ <;> repeat' (first | exact trivial | exact rfl | exact Iff.rfl | apply And.intro)
    · exact bad (by omega)
    · exact e
  have e0 : moE xs ys D = 0 := by unfold moE; rw [if_neg h1, if_neg h2, if_neg h3, if_neg (by omega)]
  have eL : moL xs ys D = mo xs ys D := by unfold moL; rw [if_pos e0]
  rw [eL, e0]
  clear bad hb hb'
  repeat refine Mm.mk ?_
  refine Ob.mk (by simp only [eb, List.length_nil]; omega) ?_
  repeat' (conv => whnf
           first
           | refine Rng.ok (by simp only [inR]; omega) ?_
           | refine Ob.mk (by first | omega | (simp; done) | decide | (simp; omega)) ?_
           | refine Ob.mk (show eqOK _ _ = true from by kernel_rfl) ?_
           | refine Ob.mk (show keyOK _ _ _ = true from by kernel_rfl) ?_
           | refine Val.mk _ (shr_val (by simp; rfl)) ?_
           | refine Ob.mk (Nat.le_of_ble_eq_true rfl) ?_
           | refine JoinVC.on ?_
           | refine Nils.mk (fun h => ?_) ?_
           | refine Val.mk _ (Int.tmod_eq_emod_of_nonneg (by omega)) ?_
           | refine Val.mk _ (Int.tdiv_eq_ediv_of_nonneg (by omega)) ?_
           | refine Mm.mk ?_
           | (refine Br.mk (fun h => ?_) (fun h => ?_) <;> first | (exfalso; omega; done) | (exfalso; simp at h; done) | skip))
  repeat refine Mm.mk ?_
  refine Ob.mk (by simp only [eb, List.length_nil]; omega) ?_
  conv => whnf
  refine LoopVC.mk (fun m st => ∃ (X Y : List Int) (i k : Nat) (d : Int) (out : List (Nat × Nat × Int)), MInv xs ys D X Y i k d out ∧ m = (xs.length - i) + (ys.length - k) + d.toNat ∧ st = ⟨0, envA 134 [(2, .int .i64 d), (12, .x (.one (.own 0))), (13, .x (.one (.own 1))), (14, .x (.one (.own 2))), (15, .int .i64 (i : Int)), (16, .int .i64 (k : Int))], [some (.row 2 false [.int .i64] (i64s X)), some (.row 2 false [.int .i64] (i64s Y)), some (.row 61 false K3 (mts out))]⟩) _ _ ⟨xs, ys, 0, 0, D, [], MInv.start e0, rfl, rfl⟩ ?_ ?_
  · refine ⟨[some 1, some 3, none], rfl, rfl, ?_, ?_⟩ <;> repeat' (first | exact trivial | exact rfl | exact Iff.rfl | apply And.intro)
  rintro m _ ⟨X, Y, i, k, d, out, hI, hm, rfl⟩
  have gi : rI (i64s X) (i : Int).toNat 0 = X.getD i 0 := by rw [Int.toNat_natCast, i64s_get]
  have gk : rI (i64s Y) (k : Int).toNat 0 = Y.getD k 0 := by rw [Int.toNat_natCast, i64s_get]
  have lX : (i64s X).length = xs.length := by rw [i64s_len, hI.lx]
  have lY : (i64s Y).length = ys.length := by rw [i64s_len, hI.ly]
  have bX := hI.bx i
  have bY := hI.by' k
  have hd0 := hI.d0
  have hdD := hI.dD
  have hcnt := hI.cnt
  by_cases hd : 0 < d
  · obtain ⟨hi, hk⟩ := hI.i_lt hd
    have s1 := hI.sx
    have s2 := hI.sy
    repeat' (conv => whnf
             first
             | refine Rng.ok (by simp only [inR]; omega) ?_
             | refine Ob.mk (by first | omega | (simp; done) | decide | (simp; omega)) ?_
             | refine Ob.mk (show eqOK _ _ = true from by kernel_rfl) ?_
             | refine Ob.mk (show keyOK _ _ _ = true from by kernel_rfl) ?_
             | refine Val.mk _ (shr_val (by simp; rfl)) ?_
             | refine Ob.mk (Nat.le_of_ble_eq_true rfl) ?_
             | refine JoinVC.on ?_
             | refine Nils.mk (fun h => ?_) ?_
             | refine Val.mk _ (Int.tmod_eq_emod_of_nonneg (by omega)) ?_
             | refine Val.mk _ (Int.tdiv_eq_ediv_of_nonneg (by omega)) ?_
             | (refine Br.mk (fun h => ?_) (fun h => ?_) <;> first | (exfalso; omega; done) | (exfalso; simp at h; done) | skip))
    · refine Back.mk ((xs.length - (i + 1)) + (ys.length - k) + d.toNat) _ (by omega) ⟨_, _, i + 1, k, d, out, hI.next_i hi (by rw [← gi]; assumption), rfl, rfl⟩ ?_
      refine ⟨[some 0, some 1, some 2], rfl, rfl, ?_, ?_⟩ <;> repeat' (first | exact trivial | exact rfl | exact Iff.rfl | apply And.intro)
    · refine Back.mk ((xs.length - i) + (ys.length - (k + 1)) + d.toNat) _ (by omega) ⟨_, _, i, k + 1, d, out, hI.next_k hk (by rw [← gi]; assumption) (by rw [← gk]; assumption), rfl, rfl⟩ ?_
      refine ⟨[some 0, some 1, some 2], rfl, rfl, ?_, ?_⟩ <;> repeat' (first | exact trivial | exact rfl | exact Iff.rfl | apply And.intro)
    conv => whnf
    refine Mm.nm (fun n hn => ?_)
    rw [gi, gk] at hn
    have n1 : n ≤ X.getD i 0 ∧ n ≤ Y.getD k 0 ∧ n ≤ d ∧ 0 < n ∧ n = min (min (X.getD i 0) (Y.getD k 0)) d := by omega
    clear hn
    have u1 : updRow (i64s X) (i : Int).toNat 0 [Cell.int (rI (i64s X) (i : Int).toNat 0 - n)] = i64s (X.set i (X.getD i 0 - n)) := by rw [gi, Int.toNat_natCast]; exact i64s_set X i _ (by rw [hI.lx]; exact hi)
    have u2 : updRow (i64s Y) (k : Int).toNat 0 [Cell.int (rI (i64s Y) (k : Int).toNat 0 - n)] = i64s (Y.set k (Y.getD k 0 - n)) := by rw [gk, Int.toNat_natCast]; exact i64s_set Y k _ (by rw [hI.ly]; exact hk)
    have hG := hI.go hd n n1.2.2.2.2 n1.2.2.2.1
    conv => whnf
    repeat refine Mm.mk ?_
    refine Ob.mk (by simp only [mts_len, eb61, List.length_cons, List.length_nil]; omega) ?_
    repeat' (conv => whnf
             first
             | refine Rng.ok (by simp only [inR]; omega) ?_
             | refine Ob.mk (by first | omega | (simp; done) | decide | (simp; omega)) ?_
             | refine Ob.mk (show eqOK _ _ = true from by kernel_rfl) ?_
             | refine Ob.mk (show keyOK _ _ _ = true from by kernel_rfl) ?_
             | refine Val.mk _ (shr_val (by simp; rfl)) ?_
             | refine Ob.mk (Nat.le_of_ble_eq_true rfl) ?_
             | refine JoinVC.on ?_
             | refine Nils.mk (fun h => ?_) ?_
             | refine Val.mk _ (Int.tmod_eq_emod_of_nonneg (by omega)) ?_
             | refine Val.mk _ (Int.tdiv_eq_ediv_of_nonneg (by omega)) ?_
             | refine Mm.mk ?_
             | (refine Br.mk (fun h => ?_) (fun h => ?_) <;> first | (exfalso; omega; done) | (exfalso; simp at h; done) | skip))
    conv => whnf
    rw [u1, u2]
    refine Back.mk ((xs.length - i) + (ys.length - k) + (d - n).toNat) _ (by omega) ⟨_, _, i, k, d - n, (out ++ [(i, k, n)]), hG, rfl, rfl⟩ ?_
    refine ⟨[some 0, some 1, some 4], rfl, rfl, ?_, ?_⟩ <;> repeat' (first | exact trivial | exact rfl | exact Iff.rfl | apply And.intro)
    exact (mts_snoc out i k n).symm
  · repeat' (conv => whnf
             first
             | refine Rng.ok (by simp only [inR]; omega) ?_
             | refine Ob.mk (by first | omega | (simp; done) | decide | (simp; omega)) ?_
             | refine Ob.mk (show eqOK _ _ = true from by kernel_rfl) ?_
             | refine Ob.mk (show keyOK _ _ _ = true from by kernel_rfl) ?_
             | refine Val.mk _ (shr_val (by simp; rfl)) ?_
             | refine Ob.mk (Nat.le_of_ble_eq_true rfl) ?_
             | refine JoinVC.on ?_
             | refine Nils.mk (fun h => ?_) ?_
             | refine Val.mk _ (Int.tmod_eq_emod_of_nonneg (by omega)) ?_
             | refine Val.mk _ (Int.tdiv_eq_ediv_of_nonneg (by omega)) ?_
             | refine Mm.mk ?_
             | (refine Br.mk (fun h => ?_) (fun h => ?_) <;> first | (exfalso; omega; done) | (exfalso; simp at h; done) | skip))
    repeat refine Mm.mk ?_
    refine EndVC.mk _ rfl _ _ ⟨rfl, rfl⟩ ?_
    refine ⟨[], rfl, rfl, ?_, ?_⟩ <;> repeat' (first | exact trivial | exact rfl | exact Iff.rfl | apply And.intro)
    exact congrArg mts (hI.fin (by omega)).symm
end Go.Sx

namespace Go.Sx
open Go Go.Proofs
set_option maxRecDepth 10000
set_option maxHeartbeats 4000000
theorem e64 : EntersF Try.prog 64 := enters_of Try.func64 (c := bodyOf Try.f64) (by kernel_rfl) rfl
theorem e28 : EntersF Try.prog 28 := enters_of Try.func28 (c := bodyOf Try.f28) (by kernel_rfl) rfl
/-- A list turned around as far as i. -/
structure RevAt (xs Y : List Int) (i : Nat) : Prop where
  len : Y.length = xs.length
  at' : ∀ k, k < xs.length → Y.getD k 0 = if k < i ∨ xs.length ≤ k + i then xs.getD (xs.length - 1 - k) 0 else xs.getD k 0
theorem RevAt.done {xs Y : List Int} {i : Nat} (h : RevAt xs Y i) (hi : xs.length ≤ 2 * i + 1) : Y = xs.reverse := by
  apply List.ext_getElem (by simp [h.len])
  intro k h1 h2
  have hk : k < xs.length := by rw [← h.len]; exact h1
  have := h.at' k hk
  rw [List.getD_eq_getElem?_getD, List.getElem?_eq_getElem h1, Option.getD_some] at this
  rw [this, List.getElem_reverse]
  split
  · rw [List.getD_eq_getElem?_getD, List.getElem?_eq_getElem (by omega), Option.getD_some]
  · have e : xs.length - 1 - k = k := by omega
    rw [List.getD_eq_getElem?_getD, List.getElem?_eq_getElem hk, Option.getD_some]
    simp only [e]
theorem RevAt.step {xs Y : List Int} {i : Nat} (h : RevAt xs Y i) (hi : 2 * i + 1 < xs.length) : RevAt xs ((Y.set i (Y.getD (xs.length - 1 - i) 0)).set (xs.length - 1 - i) (Y.getD i 0)) (i + 1) := by
  have h1 := h.at' i (by omega)
  have h2 := h.at' (xs.length - 1 - i) (by omega)
  rw [if_neg (by omega)] at h1
  rw [if_neg (by omega)] at h2
  refine ⟨by simp [h.len], fun k hk => ?_⟩
  rw [getD_set _ _ _ _ (by rw [List.length_set, h.len]; omega), getD_set _ _ _ _ (by rw [h.len]; omega), h1, h2]
  have h3 := h.at' k hk
  by_cases c1 : xs.length - 1 - i = k
  · rw [if_pos c1, if_pos (by omega)]; congr 1; omega
  · rw [if_neg c1]
    by_cases c2 : i = k
    · rw [if_pos c2, if_pos (by omega)]; subst c2; rfl
    · rw [if_neg c2, h3]
      by_cases c3 : k < i ∨ xs.length ≤ k + i
      · rw [if_pos c3, if_pos (by omega)]
      · rw [if_neg c3, if_neg (by omega)]
theorem updRow_ln (a : Arr) (i f : Nat) (cs : List Cell) : (updRow a i f cs).length = a.length := by unfold updRow; exact List.length_set
theorem s64 (xs : List Int) (hl : xs.length ≤ 1000000) : HSpec Try.prog 64 [.one (.own 0)] [.row 3 false [.int .i64] (i64s xs)] (fun r m' => r = .tup [] ∧ m' = [some (.row 3 false [.int .i64] (i64s xs.reverse))]) := by
  have lx := i64s_len xs
  refine spec_of pMix (O := [(3, ([], [⟨0, [], []⟩, ⟨1, [], []⟩, ⟨2, [], []⟩, ⟨3, [], []⟩, ⟨4, [], []⟩, ⟨5, [], []⟩, ⟨6, [], []⟩, ⟨7, [], []⟩, ⟨8, [], []⟩, ⟨9, [], []⟩, ⟨10, [], []⟩, ⟨11, [], []⟩, ⟨12, [], []⟩, ⟨13, [2, 3], []⟩, ⟨14, [], []⟩, ⟨15, [], []⟩]))]) Try.func64 (c := bodyOf Try.f64) rfl (by kernel_rfl) (by kernel_rfl) Try.ntmps64 (res := []) (by kernel_rfl) ?_
  repeat' (conv => whnf
           first
           | refine Rng.ok (by simp only [inR]; omega) ?_
           | refine Ob.mk (by first | omega | (simp; done) | decide | (simp; omega)) ?_
           | refine Ob.mk (show eqOK _ _ = true from by kernel_rfl) ?_
           | refine Ob.mk (show keyOK _ _ _ = true from by kernel_rfl) ?_
           | refine Val.mk _ (shr_val (by simp; rfl)) ?_
           | refine Ob.mk (Nat.le_of_ble_eq_true rfl) ?_
           | refine JoinVC.on ?_
           | refine Nils.mk (fun h => ?_) ?_
           | refine Val.mk _ (Int.tmod_eq_emod_of_nonneg (by omega)) ?_
           | refine Val.mk _ (Int.tdiv_eq_ediv_of_nonneg (by omega)) ?_
           | refine Mm.mk ?_
           | (refine Br.mk (fun h => ?_) (fun h => ?_) <;> first | (exfalso; omega; done) | (exfalso; simp at h; done) | skip))
  refine LoopVC.mk (fun n st => ∃ (i : Nat) (Y : List Int), RevAt xs Y i ∧ i ≤ xs.length ∧ n = xs.length - i ∧ st = ⟨1, envA 28 [(0, .x (.one (.own 0))), (2, .int .i64 (i : Int)), (3, .int .i64 ((xs.length : Int) - 1 - i))], [some (.row 3 false [.int .i64] (i64s Y))]⟩) _ _ ⟨0, xs, ⟨rfl, fun k hk => by rw [if_neg (by omega)]⟩, Nat.zero_le _, rfl, rfl⟩ ?_ ?_
  · refine ⟨[some 0], rfl, rfl, ?_, ?_⟩ <;> repeat' (first | exact trivial | exact rfl | exact Iff.rfl | apply And.intro)
    rw [lx]; simp
  rintro n _ ⟨i, Y, hR, hi, hn, rfl⟩
  have lY : (i64s Y).length = xs.length := by rw [i64s_len, hR.len]
  have gi : rI (i64s Y) (i : Int).toNat 0 = Y.getD i 0 := by rw [Int.toNat_natCast, i64s_get]
  by_cases hc : 2 * i + 1 < xs.length
  · have ej : ((xs.length : Int) - 1 - i).toNat = xs.length - 1 - i := by omega
    have gj : rI (i64s Y) ((xs.length : Int) - 1 - i).toNat 0 = Y.getD (xs.length - 1 - i) 0 := by rw [ej, i64s_get]
    have lu : (updRow (i64s Y) (i : Int).toNat 0 [Cell.int (rI (i64s Y) ((xs.length : Int) - 1 - i).toNat 0)]).length = xs.length := by rw [updRow_ln, lY]
    repeat' (conv => whnf
             first
             | refine Rng.ok (by simp only [inR]; omega) ?_
             | refine Ob.mk (by first | omega | (simp; done) | decide | (simp; omega)) ?_
             | refine Ob.mk (show eqOK _ _ = true from by kernel_rfl) ?_
             | refine Ob.mk (show keyOK _ _ _ = true from by kernel_rfl) ?_
             | refine Val.mk _ (shr_val (by simp; rfl)) ?_
             | refine Ob.mk (Nat.le_of_ble_eq_true rfl) ?_
             | refine JoinVC.on ?_
             | refine Nils.mk (fun h => ?_) ?_
             | refine Val.mk _ (Int.tmod_eq_emod_of_nonneg (by omega)) ?_
             | refine Val.mk _ (Int.tdiv_eq_ediv_of_nonneg (by omega)) ?_
             | refine Mm.mk ?_
             | (refine Br.mk (fun h => ?_) (fun h => ?_) <;> first | (exfalso; omega; done) | (exfalso; simp at h; done) | skip))
    have e : updRow (updRow (i64s Y) (i : Int).toNat 0 [Cell.int (rI (i64s Y) ((xs.length : Int) - 1 - i).toNat 0)]) ((xs.length : Int) - 1 - i).toNat 0 [Cell.int (rI (i64s Y) (i : Int).toNat 0)] = i64s ((Y.set i (Y.getD (xs.length - 1 - i) 0)).set (xs.length - 1 - i) (Y.getD i 0)) := by
      rw [gj, gi, ej, Int.toNat_natCast, i64s_set _ _ _ (by rw [hR.len]; omega), i64s_set _ _ _ (by rw [List.length_set, hR.len]; omega)]
    rw [e]
    refine Back.mk (xs.length - (i + 1)) _ (by omega) ⟨i + 1, _, hR.step hc, by omega, rfl, rfl⟩ ?_
    refine ⟨[some 0], rfl, rfl, ?_, ?_⟩ <;> repeat' (first | exact trivial | exact rfl | exact Iff.rfl | apply And.intro)
    omega
  · repeat' (conv => whnf
             first
             | refine Rng.ok (by simp only [inR]; omega) ?_
             | refine Ob.mk (by first | omega | (simp; done) | decide | (simp; omega)) ?_
             | refine Ob.mk (show eqOK _ _ = true from by kernel_rfl) ?_
             | refine Ob.mk (show keyOK _ _ _ = true from by kernel_rfl) ?_
             | refine Val.mk _ (shr_val (by simp; rfl)) ?_
             | refine Ob.mk (Nat.le_of_ble_eq_true rfl) ?_
             | refine JoinVC.on ?_
             | refine Nils.mk (fun h => ?_) ?_
             | refine Val.mk _ (Int.tmod_eq_emod_of_nonneg (by omega)) ?_
             | refine Val.mk _ (Int.tdiv_eq_ediv_of_nonneg (by omega)) ?_
             | refine Mm.mk ?_
             | (refine Br.mk (fun h => ?_) (fun h => ?_) <;> first | (exfalso; omega; done) | (exfalso; simp at h; done) | skip))
    repeat refine Mm.mk ?_
    refine EndVC.mk _ rfl _ _ ⟨rfl, rfl⟩ ?_
    refine ⟨[some 0], rfl, rfl, ?_, ?_⟩ <;> repeat' (first | exact trivial | exact rfl | exact Iff.rfl | apply And.intro)
    rw [hR.done (by omega)]
end Go.Sx

namespace Go.Sx
open Go Go.Proofs
set_option maxRecDepth 10000
set_option maxHeartbeats 4000000
@[reducible] def K2 : List CK := [.int .i64, .int .i64]
/-- A state as a row. -/
@[reducible] def cS (s : S2) : List Cell := [.int s.1, .int s.2]
def qA (m : Mac) (b : S2) (W : List (List Int)) : Arr := W.map fun w => cS (runS m b w)
theorem qA_len (m : Mac) (b : S2) (W : List (List Int)) : (qA m b W).length = W.length := by simp [qA]
theorem qA_get {m : Mac} {b : S2} {W : List (List Int)} {k : Nat} {w : List Int} (h : W[k]? = some w) : rI (qA m b W) k 0 = (runS m b w).1 ∧ rI (qA m b W) k 1 = (runS m b w).2 := by
  have : (qA m b W).getD k [] = cS (runS m b w) := by simp [qA, List.getD_eq_getElem?_getD, h]
  simp only [rI, cellAt, this]
  exact ⟨rfl, rfl⟩
theorem toInt_int (n : Int) : (Cell.int n).toInt = n := rfl
theorem keyEq2 (c : List Cell) (a b : Int) : keyEq K2 c [.int a, .int b] = match c with | x :: y :: _ => decide (x.toInt = a) && decide (y.toInt = b) | _ => false := by
  match c with
  | [] => rfl
  | [x] => simp [keyEq]
  | x :: y :: c => simp [keyEq, cellEq]; rfl
theorem mfind_mput2 (a1 a2 b1 b2 : Int) (v : List Cell) : ∀ (l : MapL), mfind K2 (mput K2 l [.int a1, .int a2] v) [.int b1, .int b2] = if a1 = b1 ∧ a2 = b2 then some v else mfind K2 l [.int b1, .int b2]
  | [] => by
    simp only [mput, mfind, keyEq2]
    by_cases h : a1 = b1 <;> by_cases h' : a2 = b2 <;> simp [h, h', Cell.toInt]
  | p :: l => by
    have ih := mfind_mput2 a1 a2 b1 b2 v l
    simp only [mput]
    cases h1 : keyEq K2 p.1 [.int a1, .int a2] with
    | true =>
      simp only [mfind]
      by_cases h : a1 = b1 ∧ a2 = b2
      · obtain ⟨rfl, rfl⟩ := h
        simp [keyEq2, Cell.toInt]
      · have h2 : keyEq K2 p.1 [.int b1, .int b2] = false := by
          rw [keyEq2] at h1 ⊢
          split at h1
          · rename_i x y c hp
            simp only [Bool.and_eq_true, decide_eq_true_eq] at h1
            simp only [Bool.and_eq_false_iff, decide_eq_false_iff_not]
            by_cases h3 : a1 = b1
            · exact .inr (fun h4 => h ⟨h3, by omega⟩)
            · exact .inl (by omega)
          · cases h1
        rw [h2, if_neg h]
        have : keyEq K2 [.int a1, .int a2] [.int b1, .int b2] = false := by
          rw [keyEq2]
          have h3 : (decide (a1 = b1) && decide (a2 = b2)) = false := by
            cases hd : (decide (a1 = b1) && decide (a2 = b2)) with
            | false => rfl
            | true => simp only [Bool.and_eq_true, decide_eq_true_eq] at hd; exact absurd hd h
          exact h3
        simp [this]
    | false =>
      simp only [mfind]
      cases h2 : keyEq K2 p.1 [.int b1, .int b2] with
      | true =>
        have : ¬ (a1 = b1 ∧ a2 = b2) := fun ⟨h, h'⟩ => by rw [h, h', h2] at h1; cases h1
        rw [if_neg this]
      | false => simpa using ih
/-- What the map tells of a state: where it was reached from, and by which valve. -/
def rowW (m : Mac) (b : S2) (w : List Int) : List Cell := if w = [] then [.int 0, .int 0, .int (-1)] else [.int (runS m b w.dropLast).1, .int (runS m b w.dropLast).2, .int (w.getLastD 0)]
theorem rowW_snoc (m : Mac) (b : S2) (w : List Int) (v : Int) : rowW m b (w ++ [v]) = [.int (runS m b w).1, .int (runS m b w).2, .int v] := by
  unfold rowW
  rw [if_neg (by simp), List.dropLast_concat]
  simp
structure MapIs (m : Mac) (b : S2) (W : List (List Int)) (l : MapL) : Prop where
  has : ∀ (k : Nat) (w : List Int), W[k]? = some w → mfind K2 l (cS (runS m b w)) = some (rowW m b w)
  not : ∀ t h : Int, (∀ (k : Nat) (w : List Int), W[k]? = some w → runS m b w ≠ (t, h)) → mfind K2 l [.int t, .int h] = none
theorem MapIs.start (m : Mac) (b : S2) : MapIs m b [[]] [([.int b.1, .int b.2], [.int 0, .int 0, .int (-1)])] := by
  refine ⟨fun k w h => ?_, fun t h hn => ?_⟩
  · cases k with
    | zero => simp at h; subst h; simp [mfind, keyEq2, runS, rowW, Cell.toInt]
    | succ k => simp at h
  · have := hn 0 [] rfl
    have h2 : keyEq K2 [.int b.1, .int b.2] [.int t, .int h] = false := by
      rw [keyEq2]
      have h3 : (decide (b.1 = t) && decide (b.2 = h)) = false := by
        cases hd : (decide (b.1 = t) && decide (b.2 = h)) with
        | false => rfl
        | true => simp only [Bool.and_eq_true, decide_eq_true_eq] at hd; exact absurd (Prod.ext hd.1 hd.2) this
      exact h3
    simp only [mfind, h2]
theorem MapIs.add {m : Mac} {b : S2} {W : List (List Int)} {l : MapL} (h : MapIs m b W l) {w : List Int} {v : Int} (hn : ∀ (k : Nat) (w' : List Int), W[k]? = some w' → runS m b w' ≠ runS m b (w ++ [v])) :
    MapIs m b (W ++ [w ++ [v]]) (mput K2 l (cS (runS m b (w ++ [v]))) [.int (runS m b w).1, .int (runS m b w).2, .int v]) := by
  refine ⟨fun k u hk => ?_, fun t h' hno => ?_⟩
  · rw [mfind_mput2]
    rw [List.getElem?_append] at hk
    split at hk
    · have := hn k u hk
      rw [if_neg (fun ⟨h1, h2⟩ => this (Prod.ext h1.symm h2.symm))]
      exact h.has k u hk
    · rw [List.getElem?_singleton] at hk
      split at hk
      · cases hk
        rw [if_pos ⟨rfl, rfl⟩, rowW_snoc]
      · cases hk
  · rw [mfind_mput2]
    have h1 := hno W.length (w ++ [v]) (by simp)
    rw [if_neg (fun ⟨h2, h3⟩ => h1 (Prod.ext h2 h3))]
    exact h.not t h' fun k u hk => hno k u (by rw [List.getElem?_append_left (List.getElem?_eq_some_iff.1 hk).1]; exact hk)
end Go.Sx

namespace Go.Sx
open Go Go.Proofs
set_option maxRecDepth 10000
set_option maxHeartbeats 8000000
theorem eb3 : Try.t3.bytes = 8 := by kernel_rfl
theorem eb112 : Try.t112.bytes = 16 := by kernel_rfl
@[reducible] def mpF (l : MapL) : Blk := .mp true true K2 [.int .i64, .int .i64, .int .i64] l none
@[reducible] def bSt (s : S2) : Blk := .box 112 [.int .i64 s.1, .int .i64 s.2]
theorem prefix_in {m : Mac} {b : S2} {W : List (List Int)} {i : Nat} {v : Int} (h : Bfs m b W i v) {u : List Int} {a : Int} {k : Nat} (hk : W[k]? = some (u ++ [a])) : ∃ j : Nat, W[j]? = some u := by
  obtain ⟨j, w0, v0, _, _, _, h3, h4⟩ := h.par k _ hk (fun h0 => by subst h0; rw [h.b0] at hk; have := Option.some.inj hk; simp at this)
  have := List.append_inj' h4 rfl
  exact ⟨j, by rw [h3, this.1]⟩
theorem Bfs.wlen {m : Mac} {b : S2} {W : List (List Int)} {i : Nat} {v : Int} (h : Bfs m b W i v) : ∀ (k : Nat) (w : List Int), W[k]? = some w → w.length ≤ k := by
  intro k
  induction k using Nat.strongRecOn with
  | ind k ih =>
    intro w hk
    by_cases h0 : k = 0
    · subst h0; rw [h.b0] at hk; cases hk; simp
    · obtain ⟨j, w0, v0, _, _, _, h3, rfl⟩ := h.par k w hk h0
      have hj : j < k := by
        rcases Nat.lt_trichotomy j k with h4 | rfl | h4
        · exact h4
        · rw [hk] at h3; have := congrArg List.length (Option.some.inj h3); simp at this
        · have := h.sorted k j _ _ h4 hk h3
          exact absurd (slt_trans this (slt_self _ _)) (slt_irr _)
      have := ih j hj w0 h3
      simp; omega
/-- The fastest way. -/
theorem s28 (m : Mac) (T : Int) (hm : m.ok) (hT : m.room ≤ T ∧ T ≤ m.top) : HSpec Try.prog 28 [m.x, I T] [] (fun r m' => ∃ w, Best m (T, 0) w ∧ w.length ≤ 26065 ∧ r = .tup [.one (.own 0), I 0] ∧ m' = [some (.row 3 false [.int .i64] (i64s w))]) := by
  have hc := Mac.chk0 hm
  have hm' := hm
  obtain ⟨m1, m2, m3, m4, m5, m6, m7, m8, m9, m10, m11, m12, m13, m14, m15⟩ := hm'
  have hb : InS m (T, 0) := ⟨hT.1, hT.2, Int.le_refl _, by simp only; omega⟩
  have hr := reach hm hb
  refine spec_of pMix (O := [(22, ([8], [⟨0, [], []⟩, ⟨1, [], []⟩, ⟨2, [], []⟩, ⟨3, [], []⟩, ⟨5, [], []⟩, ⟨6, [], []⟩, ⟨4, [5, 6], []⟩, ⟨7, [], []⟩, ⟨8, [], []⟩, ⟨9, [], []⟩]))]) Try.func28 (c := bodyOf Try.f28) rfl (by kernel_rfl) (by kernel_rfl) Try.ntmps28 (res := [.tmp 4, .tmp 5]) (by kernel_rfl) ?_
  repeat' (conv => whnf
           first
           | refine Rng.ok (by simp only [inR]; omega) ?_
           | refine Ob.mk (by first | omega | (simp; done) | decide | (simp; omega)) ?_
           | refine Ob.mk (show eqOK _ _ = true from by kernel_rfl) ?_
           | refine Ob.mk (show keyOK _ _ _ = true from by kernel_rfl) ?_
           | refine Val.mk _ (shr_val (by simp; rfl)) ?_
           | refine Ob.mk (Nat.le_of_ble_eq_true rfl) ?_
           | refine JoinVC.on ?_
           | refine Nils.mk (fun h => ?_) ?_
           | refine Val.mk _ (Int.tmod_eq_emod_of_nonneg (by omega)) ?_
           | refine Val.mk _ (Int.tdiv_eq_ediv_of_nonneg (by omega)) ?_
           | refine Mm.mk ?_
           | refine CallVC.pure rfl (s20 m) ?_
           | refine CallVC.pure rfl (s56 _ _ _) ?_
           | refine CallVC0.pure rfl (s20 m) ?_
           | refine CallVC0.pure rfl (s56 _ _ _) ?_
           | (refine Br.mk (fun h => ?_) (fun h => ?_) <;> first | (exfalso; omega; done) | (exfalso; simp at h; done) | skip))
  refine LoopVC.mk (fun n st => ∃ (i : Nat) (W : List (List Int)) (l : MapL), Bfs m (T, 0) W i 0 ∧ MapIs m (T, 0) W l ∧ n = 26065 - i ∧ st = ⟨0, envA 112 [(2, .x (.one (.ptr 0 0))), (7, .x (.one (.ptr 1 0))), (8, .x (.one (.map 2))), (9, .x (.one (.own 3))), (10, .int .i64 (i : Int))], [some (.box 23 [.int .i64 m.room, .int .i64 m.melt, .int .i64 m.cool, .int .i64 m.top, .int .i64 m.heat, .int .i64 m.chill, .int .i64 m.drift, .int .i64 m.hold, .int .i64 m.life]), some (bSt (T, 0)), some (mpF l), some (.row 112 false K2 (qA m (T, 0) W))]⟩) _ _ ⟨0, _, _, Bfs.start m (T, 0), MapIs.start m (T, 0), rfl, rfl⟩ ?_ ?_
  · refine ⟨[some 0, some 1, some 2, some 3], rfl, rfl, ?_, ?_⟩ <;> repeat' (first | exact trivial | exact rfl | exact Iff.rfl | apply And.intro)
  rintro n _ ⟨i, W, l, hB, hM, hn, rfl⟩
  have hi := hB.more hr
  have hW := hB.len hm hb
  obtain ⟨wi, hwi⟩ : ∃ w, W[i]? = some w := ⟨_, List.getElem?_eq_getElem hi⟩
  have lq := qA_len m (T, 0) W
  obtain ⟨g0, g1⟩ := qA_get (m := m) (b := (T, 0)) hwi
  have g0' : rI (qA m (T, 0) W) (i : Int).toNat 0 = (runS m (T, 0) wi).1 := g0
  have g1' : rI (qA m (T, 0) W) (i : Int).toNat (0 + 1) = (runS m (T, 0) wi).2 := g1
  have hS := InS.run hm wi hb
  obtain ⟨s1, s2, s3, s4⟩ := hS
  by_cases hg : goodS m (runS m (T, 0) wi)
  · have hg' := hg
    obtain ⟨q1, q2⟩ := hg'
    repeat' (conv => whnf
             first
             | refine Rng.ok (by simp only [inR]; omega) ?_
             | refine Ob.mk (by first | omega | (simp; done) | decide | (simp; omega)) ?_
             | refine Ob.mk (show eqOK _ _ = true from by kernel_rfl) ?_
             | refine Ob.mk (show keyOK _ _ _ = true from by kernel_rfl) ?_
             | refine Val.mk _ (shr_val (by simp; rfl)) ?_
             | refine Ob.mk (Nat.le_of_ble_eq_true rfl) ?_
             | refine JoinVC.on ?_
             | refine Nils.mk (fun h => ?_) ?_
             | refine Val.mk _ (Int.tmod_eq_emod_of_nonneg (by omega)) ?_
             | refine Val.mk _ (Int.tdiv_eq_ediv_of_nonneg (by omega)) ?_
             | refine Mm.mk ?_
             | (refine Br.mk (fun h => ?_) (fun h => ?_) <;> first | (exfalso; omega; done) | (exfalso; simp at h; done) | skip))
    have hBest := hB.best hwi hg
    have hwl : wi.length ≤ i := hB.wlen i wi hwi
    refine LoopVC.mk (fun n st => ∃ (u rest : List Int) (k : Nat), wi = u ++ rest ∧ W[k]? = some u ∧ n = u.length ∧ st = ⟨0, envA 112 [(7, .x (.one (.ptr 1 0))), (8, .x (.one (.map 2))), (11, .x (.one (.ptr 4 0))), (12, .x (.one (.own 5)))], [some (.box 23 [.int .i64 m.room, .int .i64 m.melt, .int .i64 m.cool, .int .i64 m.top, .int .i64 m.heat, .int .i64 m.chill, .int .i64 m.drift, .int .i64 m.hold, .int .i64 m.life]), some (bSt (T, 0)), some (mpF l), none, some (bSt (runS m (T, 0) u)), some (.row 3 false [.int .i64] (i64s rest.reverse))]⟩) _ _ ⟨wi, [], i, by simp, hwi, rfl, rfl⟩ ?_ ?_
    · refine ⟨[some 0, some 1, some 2, none, some 4, none], rfl, rfl, ?_, ?_⟩ <;> repeat' (first | exact trivial | exact rfl | exact Iff.rfl | apply And.intro)
      · exact g0'
      · exact g1'
    rintro n2 _ ⟨u, rest, k, hu, hk, hn2, rfl⟩
    have hlen : wi.length = u.length + rest.length := by rw [hu]; simp
    have lr : (i64s rest.reverse).length = rest.length := by rw [i64s_len]; simp
    by_cases hu0 : u = []
    · subst hu0
      have hrest : rest = wi := by rw [hu]; rfl
      subst hrest
      have e1 : (runS m (T, 0) []).1 = T := rfl
      have e2 : (runS m (T, 0) []).2 = 0 := rfl
      repeat' (conv => whnf
               first
               | refine Rng.ok (by simp only [inR]; omega) ?_
               | refine Ob.mk (by first | omega | (simp; done) | decide | (simp; omega)) ?_
               | refine Ob.mk (show eqOK _ _ = true from by kernel_rfl) ?_
               | refine Ob.mk (show keyOK _ _ _ = true from by kernel_rfl) ?_
               | refine Val.mk _ (shr_val (by simp; rfl)) ?_
               | refine Ob.mk (Nat.le_of_ble_eq_true rfl) ?_
               | refine JoinVC.on ?_
               | refine Nils.mk (fun h => ?_) ?_
               | refine Val.mk _ (Int.tmod_eq_emod_of_nonneg (by omega)) ?_
               | refine Val.mk _ (Int.tdiv_eq_ediv_of_nonneg (by omega)) ?_
               | refine Mm.mk ?_
               | (refine Br.mk (fun h => ?_) (fun h => ?_) <;> first | (exfalso; omega; done) | (exfalso; simp at h; done) | (exfalso; simp [e1, e2] at h; done) | skip))
      conv => whnf
      refine CallVC.mk [5] _ _ _ rfl rfl rfl (s64 rest.reverse (by rw [List.length_reverse]; omega)) (fun r m' h' => ?_)
      obtain ⟨rfl, rfl⟩ := h'
      conv => whnf
      repeat' (conv => whnf
               first
               | refine Rng.ok (by simp only [inR]; omega) ?_
               | refine Ob.mk (by first | omega | (simp; done) | decide | (simp; omega)) ?_
               | refine Ob.mk (show eqOK _ _ = true from by kernel_rfl) ?_
               | refine Ob.mk (show keyOK _ _ _ = true from by kernel_rfl) ?_
               | refine Val.mk _ (shr_val (by simp; rfl)) ?_
               | refine Ob.mk (Nat.le_of_ble_eq_true rfl) ?_
               | refine JoinVC.on ?_
               | refine Nils.mk (fun h => ?_) ?_
               | refine Val.mk _ (Int.tmod_eq_emod_of_nonneg (by omega)) ?_
               | refine Val.mk _ (Int.tdiv_eq_ediv_of_nonneg (by omega)) ?_
               | refine Mm.mk ?_
               | (refine Br.mk (fun h => ?_) (fun h => ?_) <;> first | (exfalso; omega; done) | (exfalso; simp at h; done) | skip))
      repeat refine Mm.mk ?_
      conv => whnf
      refine EndVC.mk _ rfl _ _ (⟨rest, hBest, by omega, rfl, rfl⟩) ?_
      refine ⟨[some 5], rfl, rfl, ?_, ?_⟩ <;> repeat' (first | exact trivial | exact rfl | exact Iff.rfl | apply And.intro)
      rw [List.reverse_reverse]
    · obtain ⟨u', a, rfl⟩ : ∃ u' a, u = u' ++ [a] := ⟨u.dropLast, u.getLast hu0, (List.dropLast_concat_getLast hu0).symm⟩
      have hne : ¬ ((runS m (T, 0) (u' ++ [a])).1 = T ∧ (runS m (T, 0) (u' ++ [a])).2 = 0) := fun ⟨e1, e2⟩ => by
        have := hB.inj k 0 _ [] hk hB.b0 (Prod.ext e1 e2)
        subst this
        rw [hB.b0] at hk
        have := Option.some.inj hk
        simp at this
      have hrow : mrow ([CK.int .i64] ++ ([CK.int .i64] ++ [])) (zeroRow ([CK.int .i64] ++ ([CK.int .i64] ++ []) ++ ([CK.int .i64] ++ []))) l [.int (runS m (T, 0) (u' ++ [a])).1, .int (runS m (T, 0) (u' ++ [a])).2] = [.int (runS m (T, 0) u').1, .int (runS m (T, 0) u').2, .int a] := by
        have h9 := hM.has k _ hk
        rw [rowW_snoc] at h9
        have h8 : mrow K2 (zeroRow [.int .i64, .int .i64, .int .i64]) l [.int (runS m (T, 0) (u' ++ [a])).1, .int (runS m (T, 0) (u' ++ [a])).2] = [.int (runS m (T, 0) u').1, .int (runS m (T, 0) u').2, .int a] := by
          unfold mrow
          rw [h9]; rfl
        exact h8
      obtain ⟨j, hj⟩ := prefix_in hB hk
      repeat' (conv => whnf
               first
               | rw [hrow]
               | refine Rng.ok (by simp only [inR]; omega) ?_
               | refine Ob.mk (by first | omega | (simp; done) | decide | (simp; omega)) ?_
               | refine Ob.mk (show eqOK _ _ = true from by kernel_rfl) ?_
               | refine Ob.mk (show keyOK _ _ _ = true from by kernel_rfl) ?_
               | refine Val.mk _ (shr_val (by simp; rfl)) ?_
               | refine Ob.mk (Nat.le_of_ble_eq_true rfl) ?_
               | refine JoinVC.on ?_
               | refine Nils.mk (fun h => ?_) ?_
               | refine Val.mk _ (Int.tmod_eq_emod_of_nonneg (by omega)) ?_
               | refine Val.mk _ (Int.tdiv_eq_ediv_of_nonneg (by omega)) ?_
               | refine Mm.mk ?_
               | (refine Br.mk (fun h => ?_) (fun h => ?_) <;> first | (exfalso; omega; done) | (exfalso; simp at h; done) | (exfalso; simp [hne] at h; done) | skip))
      repeat refine Mm.mk ?_
      refine Ob.mk (by simp only [lr, eb3, List.length_cons, List.length_nil]; omega) ?_
      repeat' (conv => whnf
               first
               | rw [hrow]
               | refine Rng.ok (by simp only [inR]; omega) ?_
               | refine Ob.mk (by first | omega | (simp; done) | decide | (simp; omega)) ?_
               | refine Ob.mk (show eqOK _ _ = true from by kernel_rfl) ?_
               | refine Ob.mk (show keyOK _ _ _ = true from by kernel_rfl) ?_
               | refine Val.mk _ (shr_val (by simp; rfl)) ?_
               | refine Ob.mk (Nat.le_of_ble_eq_true rfl) ?_
               | refine JoinVC.on ?_
               | refine Nils.mk (fun h => ?_) ?_
               | refine Val.mk _ (Int.tmod_eq_emod_of_nonneg (by omega)) ?_
               | refine Val.mk _ (Int.tdiv_eq_ediv_of_nonneg (by omega)) ?_
               | refine Mm.mk ?_
               | (refine Br.mk (fun h => ?_) (fun h => ?_) <;> first | (exfalso; omega; done) | (exfalso; simp at h; done) | (exfalso; simp [hne] at h; done) | skip))
      refine Back.mk (u'.length) _ (by rw [hn2, List.length_append]; exact Nat.lt_succ_self _) ⟨u', a :: rest, j, by rw [hu]; simp, hj, rfl, rfl⟩ ?_
      refine ⟨[some 0, some 1, some 2, none, some 4, some 7], rfl, rfl, ?_, ?_⟩ <;> repeat' (first | exact trivial | exact rfl | exact Iff.rfl | apply And.intro)
      rw [List.reverse_cons, i64s_snoc]; rfl
  · have hng : ¬ ((runS m (T, 0) wi).2 = m.hold ∧ (runS m (T, 0) wi).1 ≤ m.cool) := hg
    obtain ⟨s, hs⟩ : ∃ s, s = runS m (T, 0) wi := ⟨_, rfl⟩
    repeat' (conv => whnf
             first
             | refine Rng.ok (by simp only [inR]; omega) ?_
             | refine Ob.mk (by first | omega | (simp; done) | decide | (simp; omega)) ?_
             | refine Ob.mk (show eqOK _ _ = true from by kernel_rfl) ?_
             | refine Ob.mk (show keyOK _ _ _ = true from by kernel_rfl) ?_
             | refine Val.mk _ (shr_val (by simp; rfl)) ?_
             | refine Ob.mk (Nat.le_of_ble_eq_true rfl) ?_
             | refine JoinVC.on ?_
             | refine Nils.mk (fun h => ?_) ?_
             | refine Val.mk _ (Int.tmod_eq_emod_of_nonneg (by omega)) ?_
             | refine Val.mk _ (Int.tdiv_eq_ediv_of_nonneg (by omega)) ?_
             | refine Mm.mk ?_
             | (refine Br.mk (fun h => ?_) (fun h => ?_) <;> first | (exfalso; omega; done) | (exfalso; simp at h; done) | skip))
    all_goals
      refine LoopVC.mk (fun n st => ∃ (W' : List (List Int)) (l' : MapL) (v : Int), Bfs m (T, 0) W' i v ∧ MapIs m (T, 0) W' l' ∧ W'[i]? = some wi ∧ 0 ≤ v ∧ v ≤ 3 ∧ n = (3 - v).toNat ∧ st = ⟨0, envA 112 [(2, .x (.one (.ptr 0 0))), (7, .x (.one (.ptr 1 0))), (8, .x (.one (.map 2))), (9, .x (.one (.own 3))), (10, .int .i64 (i : Int)), (11, .x (.one (.ptr 4 0))), (71, .int .i64 v)], [some (.box 23 [.int .i64 m.room, .int .i64 m.melt, .int .i64 m.cool, .int .i64 m.top, .int .i64 m.heat, .int .i64 m.chill, .int .i64 m.drift, .int .i64 m.hold, .int .i64 m.life]), some (bSt (T, 0)), some (mpF l'), some (.row 112 false K2 (qA m (T, 0) W')), some (bSt (runS m (T, 0) wi))]⟩) _ _ ⟨W, l, 0, hB, hM, hwi, by decide, by decide, rfl, rfl⟩ ?_ ?_
      · refine ⟨[some 0, some 1, some 2, some 3, some 4], rfl, rfl, ?_, ?_⟩ <;> repeat' (first | exact trivial | exact rfl | exact Iff.rfl | apply And.intro)
        · exact g0'
        · exact g1'
      rintro n2 _ ⟨W', l', v, hB', hM', hwi', hv0, hv3, hn2, rfl⟩
      have hW' := hB'.len hm hb
      have lq' := qA_len m (T, 0) W'
      have hil := (List.getElem?_eq_some_iff.1 hwi').1
      by_cases hv : v < 3
      · by_cases hme : m.melt ≤ tickF m (runS m (T, 0) wi).1 v
        · repeat' (conv => whnf
                   first
                   | refine Rng.ok (by simp only [inR]; omega) ?_
                   | refine Ob.mk (by first | omega | (simp; done) | decide | (simp; omega)) ?_
                   | refine Ob.mk (show eqOK _ _ = true from by kernel_rfl) ?_
                   | refine Ob.mk (show keyOK _ _ _ = true from by kernel_rfl) ?_
                   | refine Val.mk _ (shr_val (by simp; rfl)) ?_
                   | refine Ob.mk (Nat.le_of_ble_eq_true rfl) ?_
                   | refine JoinVC.on ?_
                   | refine Nils.mk (fun h => ?_) ?_
                   | refine Val.mk _ (Int.tmod_eq_emod_of_nonneg (by omega)) ?_
                   | refine Val.mk _ (Int.tdiv_eq_ediv_of_nonneg (by omega)) ?_
                   | refine CallVC.pure rfl (s57 m (runS m (T, 0) wi).1 v hm s1 s2) ?_
                   | refine CallVC0.pure rfl (s57 m (runS m (T, 0) wi).1 v hm s1 s2) ?_
                   | (refine Br.mk (fun h => ?_) (fun h => ?_) <;> first | (exfalso; omega; done) | (exfalso; simp at h; done) | skip))
          refine Mm.nm (fun y hy => ?_)
          have n1 : nx m (runS m (T, 0) wi) v = (tickF m (runS m (T, 0) wi).1 v, y) := by
            unfold nx
            rw [if_pos hme, hy]
            congr 1
            split <;> omega
          clear hy
          by_cases hk : ∃ (k : Nat) (w : List Int), W'[k]? = some w ∧ runS m (T, 0) w = runS m (T, 0) (wi ++ [v])
          · obtain ⟨k, w, hk1, hk2⟩ := hk
            have h9 := hM'.has k w hk1
            rw [hk2, runS_snoc, n1] at h9
            have hmh : mhas K2 l' [.int (tickF m (runS m (T, 0) wi).1 v), .int (y)] = true := by unfold mhas; rw [h9]; rfl
            repeat' (conv => whnf
                     first
                     | refine Rng.ok (by simp only [inR]; omega) ?_
                     | refine Ob.mk (by first | omega | (simp; done) | decide | (simp; omega)) ?_
                     | refine Ob.mk (show eqOK _ _ = true from by kernel_rfl) ?_
                     | refine Ob.mk (show keyOK _ _ _ = true from by kernel_rfl) ?_
                     | refine Val.mk _ (shr_val (by simp; rfl)) ?_
                     | refine Ob.mk (Nat.le_of_ble_eq_true rfl) ?_
                     | refine JoinVC.on ?_
                     | refine Nils.mk (fun h => ?_) ?_
                     | refine Val.mk _ (Int.tmod_eq_emod_of_nonneg (by omega)) ?_
                     | refine Val.mk _ (Int.tdiv_eq_ediv_of_nonneg (by omega)) ?_
                     | refine Mm.mk ?_
                     | (refine Br.mk (fun h => ?_) (fun h => ?_) <;> first | (exfalso; omega; done) | (exfalso; simp at h; done) | (exfalso; simp [hmh] at h; done) | skip))
            refine Back.mk (3 - (v + 1)).toNat _ (by omega) ⟨W', l', v + 1, hB'.skip ⟨hv0, by omega⟩ hwi' hg hk1 hk2, hM', hwi', by omega, by omega, rfl, rfl⟩ ?_
            refine ⟨[some 0, some 1, some 2, some 3, some 4], rfl, rfl, ?_, ?_⟩ <;> repeat' (first | exact trivial | exact rfl | exact Iff.rfl | apply And.intro)
          · have hn9 : ∀ (k : Nat) (w : List Int), W'[k]? = some w → runS m (T, 0) w ≠ runS m (T, 0) (wi ++ [v]) := fun k w h1 h2 => hk ⟨k, w, h1, h2⟩
            have h9 := hM'.not (tickF m (runS m (T, 0) wi).1 v) (y) (fun k w h1 h2 => hn9 k w h1 (by rw [h2, runS_snoc, n1]))
            have hmh : mhas K2 l' [.int (tickF m (runS m (T, 0) wi).1 v), .int (y)] = false := by unfold mhas; rw [h9]; rfl
            have hMa := hM'.add hn9
            have hBa := hB'.add ⟨hv0, by omega⟩ hwi' hg hn9
            have hqa : qA m (T, 0) (W' ++ [wi ++ [v]]) = qA m (T, 0) W' ++ [[.int (tickF m (runS m (T, 0) wi).1 v), .int (y)]] := by
              simp only [qA, List.map_append, List.map_cons, List.map_nil, runS_snoc, n1]
            rw [runS_snoc, n1] at hMa
            repeat' (conv => whnf
                     first
                     | refine Rng.ok (by simp only [inR]; omega) ?_
                     | refine Ob.mk (by first | omega | (simp; done) | decide | (simp; omega)) ?_
                     | refine Ob.mk (show eqOK _ _ = true from by kernel_rfl) ?_
                     | refine Ob.mk (show keyOK _ _ _ = true from by kernel_rfl) ?_
                     | refine Val.mk _ (shr_val (by simp; rfl)) ?_
                     | refine Ob.mk (Nat.le_of_ble_eq_true rfl) ?_
                     | refine JoinVC.on ?_
                     | refine Nils.mk (fun h => ?_) ?_
                     | refine Val.mk _ (Int.tmod_eq_emod_of_nonneg (by omega)) ?_
                     | refine Val.mk _ (Int.tdiv_eq_ediv_of_nonneg (by omega)) ?_
                     | refine Mm.mk ?_
                     | (refine Br.mk (fun h => ?_) (fun h => ?_) <;> first | (exfalso; omega; done) | (exfalso; simp at h; done) | (exfalso; simp [hmh] at h; done) | skip))
            repeat refine Mm.mk ?_
            refine Ob.mk (by simp only [lq', eb112, List.length_cons, List.length_nil]; omega) ?_
            repeat' (conv => whnf
                     first
                     | refine Rng.ok (by simp only [inR]; omega) ?_
                     | refine Ob.mk (by first | omega | (simp; done) | decide | (simp; omega)) ?_
                     | refine Ob.mk (show eqOK _ _ = true from by kernel_rfl) ?_
                     | refine Ob.mk (show keyOK _ _ _ = true from by kernel_rfl) ?_
                     | refine Val.mk _ (shr_val (by simp; rfl)) ?_
                     | refine Ob.mk (Nat.le_of_ble_eq_true rfl) ?_
                     | refine JoinVC.on ?_
                     | refine Nils.mk (fun h => ?_) ?_
                     | refine Val.mk _ (Int.tmod_eq_emod_of_nonneg (by omega)) ?_
                     | refine Val.mk _ (Int.tdiv_eq_ediv_of_nonneg (by omega)) ?_
                     | refine Mm.mk ?_
                     | (refine Br.mk (fun h => ?_) (fun h => ?_) <;> first | (exfalso; omega; done) | (exfalso; simp at h; done) | skip))
            conv => whnf
            refine Back.mk (3 - (v + 1)).toNat _ (by omega) ⟨_, _, v + 1, hBa, hMa, by rw [List.getElem?_append_left hil]; exact hwi', by omega, by omega, rfl, rfl⟩ ?_
            refine ⟨[some 0, some 1, some 2, some 8, some 4], rfl, rfl, ?_, ?_⟩ <;> repeat' (first | exact trivial | exact rfl | exact Iff.rfl | apply And.intro)
            exact hqa.symm
        · have n1 : nx m (runS m (T, 0) wi) v = (tickF m (runS m (T, 0) wi).1 v, (runS m (T, 0) wi).2) := by
            unfold nx
            rw [if_neg hme]
          by_cases hk : ∃ (k : Nat) (w : List Int), W'[k]? = some w ∧ runS m (T, 0) w = runS m (T, 0) (wi ++ [v])
          · obtain ⟨k, w, hk1, hk2⟩ := hk
            have h9 := hM'.has k w hk1
            rw [hk2, runS_snoc, n1] at h9
            have hmh : mhas K2 l' [.int (tickF m (runS m (T, 0) wi).1 v), .int ((runS m (T, 0) wi).2)] = true := by unfold mhas; rw [h9]; rfl
            repeat' (conv => whnf
                     first
                     | refine Rng.ok (by simp only [inR]; omega) ?_
                     | refine Ob.mk (by first | omega | (simp; done) | decide | (simp; omega)) ?_
                     | refine Ob.mk (show eqOK _ _ = true from by kernel_rfl) ?_
                     | refine Ob.mk (show keyOK _ _ _ = true from by kernel_rfl) ?_
                     | refine Val.mk _ (shr_val (by simp; rfl)) ?_
                     | refine Ob.mk (Nat.le_of_ble_eq_true rfl) ?_
                     | refine JoinVC.on ?_
                     | refine Nils.mk (fun h => ?_) ?_
                     | refine Val.mk _ (Int.tmod_eq_emod_of_nonneg (by omega)) ?_
                     | refine Val.mk _ (Int.tdiv_eq_ediv_of_nonneg (by omega)) ?_
                     | refine Mm.mk ?_
                     | refine CallVC.pure rfl (s57 m (runS m (T, 0) wi).1 v hm s1 s2) ?_
                     | refine CallVC0.pure rfl (s57 m (runS m (T, 0) wi).1 v hm s1 s2) ?_
                     | (refine Br.mk (fun h => ?_) (fun h => ?_) <;> first | (exfalso; omega; done) | (exfalso; simp at h; done) | (exfalso; simp [hmh] at h; done) | skip))
            refine Back.mk (3 - (v + 1)).toNat _ (by omega) ⟨W', l', v + 1, hB'.skip ⟨hv0, by omega⟩ hwi' hg hk1 hk2, hM', hwi', by omega, by omega, rfl, rfl⟩ ?_
            refine ⟨[some 0, some 1, some 2, some 3, some 4], rfl, rfl, ?_, ?_⟩ <;> repeat' (first | exact trivial | exact rfl | exact Iff.rfl | apply And.intro)
          · have hn9 : ∀ (k : Nat) (w : List Int), W'[k]? = some w → runS m (T, 0) w ≠ runS m (T, 0) (wi ++ [v]) := fun k w h1 h2 => hk ⟨k, w, h1, h2⟩
            have h9 := hM'.not (tickF m (runS m (T, 0) wi).1 v) ((runS m (T, 0) wi).2) (fun k w h1 h2 => hn9 k w h1 (by rw [h2, runS_snoc, n1]))
            have hmh : mhas K2 l' [.int (tickF m (runS m (T, 0) wi).1 v), .int ((runS m (T, 0) wi).2)] = false := by unfold mhas; rw [h9]; rfl
            have hMa := hM'.add hn9
            have hBa := hB'.add ⟨hv0, by omega⟩ hwi' hg hn9
            have hqa : qA m (T, 0) (W' ++ [wi ++ [v]]) = qA m (T, 0) W' ++ [[.int (tickF m (runS m (T, 0) wi).1 v), .int ((runS m (T, 0) wi).2)]] := by
              simp only [qA, List.map_append, List.map_cons, List.map_nil, runS_snoc, n1]
            rw [runS_snoc, n1] at hMa
            repeat' (conv => whnf
                     first
                     | refine Rng.ok (by simp only [inR]; omega) ?_
                     | refine Ob.mk (by first | omega | (simp; done) | decide | (simp; omega)) ?_
                     | refine Ob.mk (show eqOK _ _ = true from by kernel_rfl) ?_
                     | refine Ob.mk (show keyOK _ _ _ = true from by kernel_rfl) ?_
                     | refine Val.mk _ (shr_val (by simp; rfl)) ?_
                     | refine Ob.mk (Nat.le_of_ble_eq_true rfl) ?_
                     | refine JoinVC.on ?_
                     | refine Nils.mk (fun h => ?_) ?_
                     | refine Val.mk _ (Int.tmod_eq_emod_of_nonneg (by omega)) ?_
                     | refine Val.mk _ (Int.tdiv_eq_ediv_of_nonneg (by omega)) ?_
                     | refine Mm.mk ?_
                     | refine CallVC.pure rfl (s57 m (runS m (T, 0) wi).1 v hm s1 s2) ?_
                     | refine CallVC0.pure rfl (s57 m (runS m (T, 0) wi).1 v hm s1 s2) ?_
                     | (refine Br.mk (fun h => ?_) (fun h => ?_) <;> first | (exfalso; omega; done) | (exfalso; simp at h; done) | (exfalso; simp [hmh] at h; done) | skip))
            repeat refine Mm.mk ?_
            refine Ob.mk (by simp only [lq', eb112, List.length_cons, List.length_nil]; omega) ?_
            repeat' (conv => whnf
                     first
                     | refine Rng.ok (by simp only [inR]; omega) ?_
                     | refine Ob.mk (by first | omega | (simp; done) | decide | (simp; omega)) ?_
                     | refine Ob.mk (show eqOK _ _ = true from by kernel_rfl) ?_
                     | refine Ob.mk (show keyOK _ _ _ = true from by kernel_rfl) ?_
                     | refine Val.mk _ (shr_val (by simp; rfl)) ?_
                     | refine Ob.mk (Nat.le_of_ble_eq_true rfl) ?_
                     | refine JoinVC.on ?_
                     | refine Nils.mk (fun h => ?_) ?_
                     | refine Val.mk _ (Int.tmod_eq_emod_of_nonneg (by omega)) ?_
                     | refine Val.mk _ (Int.tdiv_eq_ediv_of_nonneg (by omega)) ?_
                     | refine Mm.mk ?_
                     | (refine Br.mk (fun h => ?_) (fun h => ?_) <;> first | (exfalso; omega; done) | (exfalso; simp at h; done) | skip))
            conv => whnf
            refine Back.mk (3 - (v + 1)).toNat _ (by omega) ⟨_, _, v + 1, hBa, hMa, by rw [List.getElem?_append_left hil]; exact hwi', by omega, by omega, rfl, rfl⟩ ?_
            refine ⟨[some 0, some 1, some 2, some 8, some 4], rfl, rfl, ?_, ?_⟩ <;> repeat' (first | exact trivial | exact rfl | exact Iff.rfl | apply And.intro)
            exact hqa.symm
      · have hv3' : v = 3 := by omega
        subst hv3'
        repeat' (conv => whnf
                 first
                 | refine Rng.ok (by simp only [inR]; omega) ?_
                 | refine Ob.mk (by first | omega | (simp; done) | decide | (simp; omega)) ?_
                 | refine Ob.mk (show eqOK _ _ = true from by kernel_rfl) ?_
                 | refine Ob.mk (show keyOK _ _ _ = true from by kernel_rfl) ?_
                 | refine Val.mk _ (shr_val (by simp; rfl)) ?_
                 | refine Ob.mk (Nat.le_of_ble_eq_true rfl) ?_
                 | refine JoinVC.on ?_
                 | refine Nils.mk (fun h => ?_) ?_
                 | refine Val.mk _ (Int.tmod_eq_emod_of_nonneg (by omega)) ?_
                 | refine Val.mk _ (Int.tdiv_eq_ediv_of_nonneg (by omega)) ?_
                 | refine Mm.mk ?_
                 | (refine Br.mk (fun h => ?_) (fun h => ?_) <;> first | (exfalso; omega; done) | (exfalso; simp at h; done) | skip))
        refine Back.mk (26065 - (i + 1)) _ (by omega) ⟨i + 1, W', l', hB'.next, hM', rfl, rfl⟩ ?_
        refine ⟨[some 0, some 1, some 2, some 3], rfl, rfl, ?_, ?_⟩ <;> repeat' (first | exact trivial | exact rfl | exact Iff.rfl | apply And.intro)
end Go.Sx

namespace Go.Sx
open Go Go.Proofs
set_option maxRecDepth 10000
set_option maxHeartbeats 2000000
theorem e12 : EntersF Try.prog 12 := enters_of Try.func12 (c := bodyOf Try.f12) (by kernel_rfl) rfl
@[reducible] def K3a : List CK := [.int .i64, .int .i64, .int .i64]
@[reducible] def lActs (A : Arr) : XV := .one (.lst true K3a A)
@[reducible] def bM (m : Mac) : Blk := .box 23 [.int .i64 m.room, .int .i64 m.melt, .int .i64 m.cool, .int .i64 m.top, .int .i64 m.heat, .int .i64 m.chill, .int .i64 m.drift, .int .i64 m.hold, .int .i64 m.life]
theorem s12 (m : Mac) (A : Arr) : PSpec Try.prog 12 [m.x, lActs A] (xP True) := by
  refine spec_of pMix (O := []) Try.func12 (c := bodyOf Try.f12) rfl (by kernel_rfl) (by kernel_rfl) Try.ntmps12 (res := [.tmp 4]) (by kernel_rfl) ?_
  repeat' (conv => whnf
           first
           | refine Rng.ok (by simp only [inR]; omega) ?_
           | refine Ob.mk (by first | omega | (simp; done) | decide | (simp; omega)) ?_
           | refine Ob.mk (show eqOK _ _ = true from by kernel_rfl) ?_
           | refine Ob.mk (show keyOK _ _ _ = true from by kernel_rfl) ?_
           | refine Val.mk _ (shr_val (by simp; rfl)) ?_
           | refine Ob.mk (Nat.le_of_ble_eq_true rfl) ?_
           | refine JoinVC.on ?_
           | refine Nils.mk (fun h => ?_) ?_
           | refine Val.mk _ (Int.tmod_eq_emod_of_nonneg (by omega)) ?_
           | refine Val.mk _ (Int.tdiv_eq_ediv_of_nonneg (by omega)) ?_
           | refine Mm.mk ?_
           | (refine Br.mk (fun h => ?_) (fun h => ?_) <;> first | (exfalso; omega; done) | (exfalso; simp at h; done) | skip))
  conv => whnf
  refine CallVC.mk [] _ _ _ rfl rfl rfl (s39 m) (fun r m' h' => ?_)
  obtain ⟨hm, rfl, rfl⟩ | ⟨hm, rfl, rfl⟩ := h'
  · repeat' (conv => whnf
             first
             | refine Rng.ok (by simp only [inR]; omega) ?_
             | refine Ob.mk (by first | omega | (simp; done) | decide | (simp; omega)) ?_
             | refine Ob.mk (show eqOK _ _ = true from by kernel_rfl) ?_
             | refine Ob.mk (show keyOK _ _ _ = true from by kernel_rfl) ?_
             | refine Val.mk _ (shr_val (by simp; rfl)) ?_
             | refine Ob.mk (Nat.le_of_ble_eq_true rfl) ?_
             | refine JoinVC.on ?_
             | refine Nils.mk (fun h => ?_) ?_
             | refine Val.mk _ (Int.tmod_eq_emod_of_nonneg (by omega)) ?_
             | refine Val.mk _ (Int.tdiv_eq_ediv_of_nonneg (by omega)) ?_
             | refine Mm.mk ?_
             | refine CallVC.pure rfl (s22) ?_
             | refine CallVC0.pure rfl (s22) ?_
             | (refine Br.mk (fun h => ?_) (fun h => ?_) <;> first | (exfalso; omega; done) | (exfalso; simp at h; done) | skip))
    repeat refine Mm.mk ?_
    refine EndVC.mk _ rfl _ _ ⟨rfl, rfl⟩ ?_
    refine ⟨[], rfl, rfl, ?_, ?_⟩ <;> repeat' (first | exact trivial | exact rfl | exact Iff.rfl | apply And.intro)
  repeat' (conv => whnf
           first
           | refine Rng.ok (by simp only [inR]; omega) ?_
           | refine Ob.mk (by first | omega | (simp; done) | decide | (simp; omega)) ?_
           | refine Ob.mk (show eqOK _ _ = true from by kernel_rfl) ?_
           | refine Ob.mk (show keyOK _ _ _ = true from by kernel_rfl) ?_
           | refine Val.mk _ (shr_val (by simp; rfl)) ?_
           | refine Ob.mk (Nat.le_of_ble_eq_true rfl) ?_
           | refine JoinVC.on ?_
           | refine Nils.mk (fun h => ?_) ?_
           | refine Val.mk _ (Int.tmod_eq_emod_of_nonneg (by omega)) ?_
           | refine Val.mk _ (Int.tdiv_eq_ediv_of_nonneg (by omega)) ?_
           | refine Mm.mk ?_
           | refine CallVC.pure rfl (s22) ?_
           | refine CallVC0.pure rfl (s22) ?_
           | (refine Br.mk (fun h => ?_) (fun h => ?_) <;> first | (exfalso; omega; done) | (exfalso; simp at h; done) | skip))
  · repeat refine Mm.mk ?_
    refine EndVC.mk _ rfl _ _ ⟨rfl, rfl⟩ ?_
    refine ⟨[], rfl, rfl, ?_, ?_⟩ <;> repeat' (first | exact trivial | exact rfl | exact Iff.rfl | apply And.intro)
  conv => whnf
  refine CallVC.mk [1, 2, 3, 4] _ _ _ rfl rfl rfl (s42 m _ [] []) (fun r m' h' => ?_)
  obtain ⟨rfl, rfl⟩ := h'
  conv => whnf
  repeat' (conv => whnf
           first
           | refine Rng.ok (by simp only [inR]; omega) ?_
           | refine Ob.mk (by first | omega | (simp; done) | decide | (simp; omega)) ?_
           | refine Ob.mk (show eqOK _ _ = true from by kernel_rfl) ?_
           | refine Ob.mk (show keyOK _ _ _ = true from by kernel_rfl) ?_
           | refine Val.mk _ (shr_val (by simp; rfl)) ?_
           | refine Ob.mk (Nat.le_of_ble_eq_true rfl) ?_
           | refine JoinVC.on ?_
           | refine Nils.mk (fun h => ?_) ?_
           | refine Val.mk _ (Int.tmod_eq_emod_of_nonneg (by omega)) ?_
           | refine Val.mk _ (Int.tdiv_eq_ediv_of_nonneg (by omega)) ?_
           | refine Mm.mk ?_
           | (refine Br.mk (fun h => ?_) (fun h => ?_) <;> first | (exfalso; omega; done) | (exfalso; simp at h; done) | skip))
  refine LoopVC.mk (fun n st => ∃ (i : Nat) (p : Pst) (L : List Disc) (l : MapL), i ≤ A.length ∧ n = A.length - i ∧ PInv m p L ∧ UsedOK l L ∧ st = ⟨0, envA 154 [(1, .x (lActs A)), (2, .x (.one (.ptr 0 0))), (5, .x (.one (.ptr 1 0))), (7, .x (.one (.ptr 5 0))), (8, .int .i64 (i : Int))], [some (bM m), some (bP 2), some (bW 3 4 m p), some (dRow L), some (mpU l), some (bS p)]⟩) _ _ ⟨0, _, [], [], Nat.zero_le _, rfl, pinv_new hm, fun k => rfl, rfl⟩ ?_ ?_
  · refine ⟨[some 0, some 1, some 2, some 3, some 4, some 5], rfl, rfl, ?_, ?_⟩ <;> repeat' (first | exact trivial | exact rfl | exact Iff.rfl | apply And.intro)
  rintro n _ ⟨i, p, L, l, hi, hn, hI, hU, rfl⟩
  by_cases hi' : i < A.length
  · repeat' (conv => whnf
             first
             | refine Rng.ok (by simp only [inR]; omega) ?_
             | refine Ob.mk (by first | omega | (simp; done) | decide | (simp; omega)) ?_
             | refine Ob.mk (show eqOK _ _ = true from by kernel_rfl) ?_
             | refine Ob.mk (show keyOK _ _ _ = true from by kernel_rfl) ?_
             | refine Val.mk _ (shr_val (by simp; rfl)) ?_
             | refine Ob.mk (Nat.le_of_ble_eq_true rfl) ?_
             | refine JoinVC.on ?_
             | refine Nils.mk (fun h => ?_) ?_
             | refine Val.mk _ (Int.tmod_eq_emod_of_nonneg (by omega)) ?_
             | refine Val.mk _ (Int.tdiv_eq_ediv_of_nonneg (by omega)) ?_
             | refine Mm.mk ?_
             | (refine Br.mk (fun h => ?_) (fun h => ?_) <;> first | (exfalso; omega; done) | (exfalso; simp at h; done) | skip))
    conv => whnf
    refine CallVC.mk [1, 2, 3, 4] _ _ _ rfl rfl rfl (s41 m p L l hU hI (rI A (i : Int).toNat 0) (rI A (i : Int).toNat 1) (rI A (i : Int).toNat 2)) (fun r m' h' => ?_)
    obtain ⟨e, l', hu, rfl, rfl⟩ | ⟨e, rfl, rfl⟩ := h'
    · have hI' := pinv_next hI e
      have hN := next_mono hI e
      generalize outD m p L (rI A (i : Int).toNat 0) = d at *
      generalize nextP m p (rI A (i : Int).toNat 0) (rI A (i : Int).toNat 1) (rI A (i : Int).toNat 2) = q at *
      generalize nextL m p L (rI A (i : Int).toNat 0) = L' at *
      have hI2 := hI'
      obtain ⟨q1, q2, q3, q4, q5, q6, q7, q8, q9, q10, q11, q12, q13, q14, q15⟩ := hI2
      conv => whnf
      conv => whnf
      refine CallVC.mk [1, 6, 7, 8] _ _ _ rfl rfl rfl (s42 m _ L' l') (fun r m' h' => ?_)
      obtain ⟨rfl, rfl⟩ := h'
      conv => whnf
      clear q5 q6 q8 q9 q10 q12 q13 q14 q15
      rcases Bool.eq_false_or_eq_true q.cl with hqc | hqc <;> rcases Bool.eq_false_or_eq_true q.ld with hql | hql <;> rcases Bool.eq_false_or_eq_true p.cl with hpc | hpc <;> simp only [hqc, hql, hpc, Bool.false_eq_true, Bool.true_eq_false, false_implies, imp_false, forall_const, and_true] at hN q3 q4 q11
      all_goals try exact absurd trivial q4
      all_goals
        repeat' (conv => whnf
                 first
                 | refine Rng.ok (by simp only [inR]; omega) ?_
                 | refine Ob.mk (by first | omega | (simp; done) | decide | (simp; omega)) ?_
                 | refine Ob.mk (show eqOK _ _ = true from by kernel_rfl) ?_
                 | refine Ob.mk (show keyOK _ _ _ = true from by kernel_rfl) ?_
                 | refine Val.mk _ (shr_val (by simp; rfl)) ?_
                 | refine Ob.mk (Nat.le_of_ble_eq_true rfl) ?_
                 | refine JoinVC.on ?_
                 | refine Nils.mk (fun h => ?_) ?_
                 | refine Val.mk _ (Int.tmod_eq_emod_of_nonneg (by omega)) ?_
                 | refine Val.mk _ (Int.tdiv_eq_ediv_of_nonneg (by omega)) ?_
                 | refine Mm.mk ?_
                 | (refine Br.mk (fun h => ?_) (fun h => ?_) <;> first | (exfalso; omega; done) | (exfalso; simp at h; done) | (exfalso; simp [hqc, hql, hpc] at h; done) | skip))
      all_goals
        refine Back.mk (A.length - (i + 1)) _ (by omega) ⟨i + 1, _, L', l', by omega, rfl, hI', hu, rfl⟩ ?_
        refine ⟨[some 0, some 1, some 6, some 7, some 8, some 5], rfl, rfl, ?_, ?_⟩ <;> repeat' (first | exact trivial | exact rfl | exact Iff.rfl | apply And.intro)
    · conv => whnf
      refine CallVC.mk [1, 2, 3, 4] _ _ _ rfl rfl rfl (s42 m p L l) (fun r m' h' => ?_)
      obtain ⟨rfl, rfl⟩ := h'
      conv => whnf
      have hI2 := hI
      obtain ⟨q1, q2, q3, q4, q5, q6, q7, q8, q9, q10, q11, q12, q13, q14, q15⟩ := hI2
      clear q5 q6 q8 q9 q10 q12 q13 q14 q15
      rcases Bool.eq_false_or_eq_true p.cl with hqc | hqc <;> rcases Bool.eq_false_or_eq_true p.ld with hql | hql <;> simp only [hqc, hql, Bool.false_eq_true, false_implies, imp_false, forall_const] at q3 q4 q11
      all_goals try exact absurd trivial q4
      all_goals
        repeat' (conv => whnf
                 first
                 | refine Rng.ok (by simp only [inR]; omega) ?_
                 | refine Ob.mk (by first | omega | (simp; done) | decide | (simp; omega)) ?_
                 | refine Ob.mk (show eqOK _ _ = true from by kernel_rfl) ?_
                 | refine Ob.mk (show keyOK _ _ _ = true from by kernel_rfl) ?_
                 | refine Val.mk _ (shr_val (by simp; rfl)) ?_
                 | refine Ob.mk (Nat.le_of_ble_eq_true rfl) ?_
                 | refine JoinVC.on ?_
                 | refine Nils.mk (fun h => ?_) ?_
                 | refine Val.mk _ (Int.tmod_eq_emod_of_nonneg (by omega)) ?_
                 | refine Val.mk _ (Int.tdiv_eq_ediv_of_nonneg (by omega)) ?_
                 | refine Mm.mk ?_
                 | (refine Br.mk (fun h => ?_) (fun h => ?_) <;> first | (exfalso; omega; done) | (exfalso; simp at h; done) | (exfalso; simp [hqc, hql] at h; done) | skip))
      all_goals
        refine Back.mk (A.length - (i + 1)) _ (by omega) ⟨i + 1, _, L, l, by omega, rfl, hI, hU, rfl⟩ ?_
        refine ⟨[some 0, some 1, some 2, some 3, some 4, some 5], rfl, rfl, ?_, ?_⟩ <;> repeat' (first | exact trivial | exact rfl | exact Iff.rfl | apply And.intro)
  · repeat' (conv => whnf
             first
             | refine Rng.ok (by simp only [inR]; omega) ?_
             | refine Ob.mk (by first | omega | (simp; done) | decide | (simp; omega)) ?_
             | refine Ob.mk (show eqOK _ _ = true from by kernel_rfl) ?_
             | refine Ob.mk (show keyOK _ _ _ = true from by kernel_rfl) ?_
             | refine Val.mk _ (shr_val (by simp; rfl)) ?_
             | refine Ob.mk (Nat.le_of_ble_eq_true rfl) ?_
             | refine JoinVC.on ?_
             | refine Nils.mk (fun h => ?_) ?_
             | refine Val.mk _ (Int.tmod_eq_emod_of_nonneg (by omega)) ?_
             | refine Val.mk _ (Int.tdiv_eq_ediv_of_nonneg (by omega)) ?_
             | refine Mm.mk ?_
             | refine CallVC.pure rfl (s22) ?_
             | refine CallVC0.pure rfl (s22) ?_
             | (refine Br.mk (fun h => ?_) (fun h => ?_) <;> first | (exfalso; omega; done) | (exfalso; simp at h; done) | skip))
    repeat refine Mm.mk ?_
    refine EndVC.mk _ rfl _ _ ⟨rfl, rfl⟩ ?_
    refine ⟨[], rfl, rfl, ?_, ?_⟩ <;> repeat' (first | exact trivial | exact rfl | exact Iff.rfl | apply And.intro)
end Go.Sx

namespace Go.Sx
open Go Go.Proofs
set_option maxRecDepth 10000
set_option maxHeartbeats 4000000
theorem e40 : EntersF Try.prog 40 := enters_of Try.func40 (c := bodyOf Try.f40) (by kernel_rfl) rfl
theorem e11 : EntersF Try.prog 11 := enters_of Try.func11 (c := bodyOf Try.f11) (by kernel_rfl) rfl
theorem HSpec.mono {P : Program} {f : FuncId} {args : List XV} {m : List Blk} {Rs Rs' : AV → List (Option Blk) → Prop} (h : HSpec P f args m Rs) (hm : ∀ r m', Rs r m' → Rs' r m') : HSpec P f args m Rs' := by
  intro w R vs h1 h2
  have fin : ∀ (e : Ending) (w' : World), (∃ v r m' R', e = .returned v ∧ Rs r m' ∧ Fr w R (m.map some) w' R' m' ∧ RepA w' R' r v) → ∃ v r m' R', e = .returned v ∧ Rs' r m' ∧ Fr w R (m.map some) w' R' m' ∧ RepA w' R' r v := by
    rintro e w' ⟨v, r, m', R', g1, g2, g3, g4⟩
    exact ⟨v, r, m', R', g1, hm r m' g2, g3, g4⟩
  rcases h w R vs h1 h2 with ⟨q1, q2⟩ | ⟨v, w', q1, q2⟩
  · exact .inl ⟨q1, q2.mono fin⟩
  · exact .inr ⟨v, w', q1, fin _ _ q2⟩
/-- An act that is done. -/
theorem s41k {m : Mac} {p : Pst} {L : List Disc} {l : MapL} (hl : UsedOK l L) (hI : PInv m p L) {k a b : Int} (e : errD m p L k a b = 0) :
    HSpec Try.prog 41 [.one (.ptr 0 0), .agg [.int .i64 k, .int .i64 a, .int .i64 b]] [bP 1, bW 2 3 m p, dRow L, mpU l] (fun r m' => ∃ l', UsedOK l' (nextL m p L k) ∧ r = .tup [(outD m p L k).x, I 0] ∧ m' = [some (bP 4), none, none, none, some (bW 5 6 m (nextP m p k a b)), some (dRow (nextL m p L k)), some (mpU l')]) :=
  (s41 m p L l hl hI k a b).mono fun _ _ h => h.elim (fun h => h.2) (fun h => absurd e h.1)
/-- A press with two stampers, loaded and closed. -/
@[reducible] def begun (p : Pst) (a b : Int) : Pst := { p with a := a, b := b, ld := true, cl := true, h := 0, pk := p.t }
theorem begin_ok {m : Mac} {p : Pst} (hI : PInv m p []) (h1 : p.cl = false) (h2 : p.ld = false) {a b : Int} (ha : 1 ≤ a ∧ a ≤ 1073741824) (hb : 1 ≤ b ∧ b ≤ 1073741824) (hab : a ≠ b) :
    errD m p [] 1 a b = 0 ∧ errD m { p with a := a, b := b } [] 2 0 0 = 0 ∧ errD m { p with a := a, b := b, ld := true } [] 3 0 0 = 0 := by
  have hl := hI.ok.2.2.2.2.2.2.2.2.2.2.2.2.2.1
  have ho : ∀ a b, ¬ oldP m [] a b := fun a b => by unfold oldP; simp [useC]; omega
  refine ⟨?_, ?_, ?_⟩
  · rw [errD1, if_neg (by unfold outN; omega), if_neg hab, if_neg (by rw [h1]; decide), if_neg (by rw [h2]; decide), if_neg (ho _ _)]
  · rw [errD2, if_neg (by rw [h1]; decide), if_neg (by simp only [h2]; intro h; rcases h with h | h; cases h; omega), if_neg (ho _ _), if_neg (by decide)]
  · rw [errD3, if_neg (by simp only [h1]; simp)]
theorem s40 (m : Mac) (p : Pst) (l : MapL) (hU : UsedOK l []) (hI : PInv m p []) (h1 : p.cl = false) (h2 : p.ld = false) (a b : Int) (ha : 1 ≤ a ∧ a ≤ 1073741824) (hb : 1 ≤ b ∧ b ≤ 1073741824) (hab : a ≠ b) :
    HSpec Try.prog 40 [.one (.ptr 0 0), I a, I b] (mP m p [] l) (fun r m' => ∃ l', UsedOK l' [] ∧ PInv m (begun p a b) [] ∧ r = xP True ∧ m' = [some (bP 4), none, none, none, some (bW 5 6 m (begun p a b)), some (dRow []), some (mpU l')]) := by
  obtain ⟨e1, e2, e3⟩ := begin_ok hI h1 h2 ha hb hab
  have i1 : PInv m { p with a := a, b := b } [] := pinv_next hI e1
  have i2 : PInv m { p with a := a, b := b, ld := true } [] := pinv_next i1 e2
  have i3 : PInv m (begun p a b) [] := pinv_next i2 e3
  refine spec_of pMix (O := []) Try.func40 (c := bodyOf Try.f40) rfl (by kernel_rfl) (by kernel_rfl) Try.ntmps40 (res := [.tmp 6]) (by kernel_rfl) ?_
  repeat' (conv => whnf
           first
           | refine Rng.ok (by simp only [inR]; omega) ?_
           | refine Ob.mk (by first | omega | (simp; done) | decide | (simp; omega)) ?_
           | refine Ob.mk (show eqOK _ _ = true from by kernel_rfl) ?_
           | refine Ob.mk (show keyOK _ _ _ = true from by kernel_rfl) ?_
           | refine Val.mk _ (shr_val (by simp; rfl)) ?_
           | refine Ob.mk (Nat.le_of_ble_eq_true rfl) ?_
           | refine JoinVC.on ?_
           | refine Nils.mk (fun h => ?_) ?_
           | refine Val.mk _ (Int.tmod_eq_emod_of_nonneg (by omega)) ?_
           | refine Val.mk _ (Int.tdiv_eq_ediv_of_nonneg (by omega)) ?_
           | refine Mm.mk ?_
           | (refine Br.mk (fun h => ?_) (fun h => ?_) <;> first | (exfalso; omega; done) | (exfalso; simp at h; done) | skip))
  conv => whnf
  refine CallVC.mk [0, 1, 2, 3] _ _ _ rfl rfl rfl (s41k hU hI e1) (fun r m' h' => ?_)
  obtain ⟨l1, u1, rfl, rfl⟩ := h'
  conv => whnf
  repeat' (conv => whnf
           first
           | refine Rng.ok (by simp only [inR]; omega) ?_
           | refine Ob.mk (by first | omega | (simp; done) | decide | (simp; omega)) ?_
           | refine Ob.mk (show eqOK _ _ = true from by kernel_rfl) ?_
           | refine Ob.mk (show keyOK _ _ _ = true from by kernel_rfl) ?_
           | refine Val.mk _ (shr_val (by simp; rfl)) ?_
           | refine Ob.mk (Nat.le_of_ble_eq_true rfl) ?_
           | refine JoinVC.on ?_
           | refine Nils.mk (fun h => ?_) ?_
           | refine Val.mk _ (Int.tmod_eq_emod_of_nonneg (by omega)) ?_
           | refine Val.mk _ (Int.tdiv_eq_ediv_of_nonneg (by omega)) ?_
           | refine Mm.mk ?_
           | (refine Br.mk (fun h => ?_) (fun h => ?_) <;> first | (exfalso; omega; done) | (exfalso; simp at h; done) | skip))
  conv => whnf
  refine CallVC.mk [0, 4, 5, 6] _ _ _ rfl rfl rfl (s41k (p := { p with a := a, b := b }) u1 i1 e2) (fun r m' h' => ?_)
  obtain ⟨l2, u2, rfl, rfl⟩ := h'
  conv => whnf
  repeat' (conv => whnf
           first
           | refine Rng.ok (by simp only [inR]; omega) ?_
           | refine Ob.mk (by first | omega | (simp; done) | decide | (simp; omega)) ?_
           | refine Ob.mk (show eqOK _ _ = true from by kernel_rfl) ?_
           | refine Ob.mk (show keyOK _ _ _ = true from by kernel_rfl) ?_
           | refine Val.mk _ (shr_val (by simp; rfl)) ?_
           | refine Ob.mk (Nat.le_of_ble_eq_true rfl) ?_
           | refine JoinVC.on ?_
           | refine Nils.mk (fun h => ?_) ?_
           | refine Val.mk _ (Int.tmod_eq_emod_of_nonneg (by omega)) ?_
           | refine Val.mk _ (Int.tdiv_eq_ediv_of_nonneg (by omega)) ?_
           | refine Mm.mk ?_
           | (refine Br.mk (fun h => ?_) (fun h => ?_) <;> first | (exfalso; omega; done) | (exfalso; simp at h; done) | skip))
  conv => whnf
  refine CallVC.mk [0, 8, 9, 10] _ _ _ rfl rfl rfl (s41k (p := { p with a := a, b := b, ld := true }) u2 i2 e3) (fun r m' h' => ?_)
  obtain ⟨l3, u3, rfl, rfl⟩ := h'
  conv => whnf
  repeat' (conv => whnf
           first
           | refine Rng.ok (by simp only [inR]; omega) ?_
           | refine Ob.mk (by first | omega | (simp; done) | decide | (simp; omega)) ?_
           | refine Ob.mk (show eqOK _ _ = true from by kernel_rfl) ?_
           | refine Ob.mk (show keyOK _ _ _ = true from by kernel_rfl) ?_
           | refine Val.mk _ (shr_val (by simp; rfl)) ?_
           | refine Ob.mk (Nat.le_of_ble_eq_true rfl) ?_
           | refine JoinVC.on ?_
           | refine Nils.mk (fun h => ?_) ?_
           | refine Val.mk _ (Int.tmod_eq_emod_of_nonneg (by omega)) ?_
           | refine Val.mk _ (Int.tdiv_eq_ediv_of_nonneg (by omega)) ?_
           | refine Mm.mk ?_
           | (refine Br.mk (fun h => ?_) (fun h => ?_) <;> first | (exfalso; omega; done) | (exfalso; simp at h; done) | skip))
  repeat refine Mm.mk ?_
  conv => whnf
  refine EndVC.mk _ rfl _ _ (⟨l3, u3, i3, rfl, rfl⟩) ?_
  refine ⟨[some 0, none, none, none, some 12, some 13, some 14], rfl, rfl, ?_, ?_⟩ <;> repeat' (first | exact trivial | exact rfl | exact Iff.rfl | apply And.intro)
  change _ ↔ _
  simp
@[reducible] def lU (xs : List Int) : XV := .one (.lst true [.int .u8] (i64s xs))
/-- A press that was begun, after some ticks. -/
structure GInv (m : Mac) (q : Pst) : Prop where
  inv : PInv m q []
  cl : q.cl = true
  good : 1 ≤ q.h → m.melt ≤ q.pk
theorem GInv.valve {m : Mac} {q : Pst} (h : GInv m q) {v : Int} (hv : 0 ≤ v ∧ v ≤ 2) : errD m q [] 4 v 0 = 0 ∧ GInv m { q with v := v } := by
  have e : errD m q [] 4 v 0 = 0 := by rw [errD4, if_neg (by omega), if_neg (fun g => g.2 h.cl)]
  exact ⟨e, pinv_next h.inv e, h.cl, h.good⟩
theorem GInv.step {m : Mac} {q : Pst} (n : Nat) (hcl : q.cl = true) (hg : 1 ≤ q.h → m.melt ≤ q.pk) : ((waitS m n q).cl = true) ∧ (1 ≤ (waitS m n q).h → m.melt ≤ (waitS m n q).pk) := by
  induction n with
  | zero => exact ⟨hcl, hg⟩
  | succ n ih =>
    refine ⟨ih.1, fun h => ?_⟩
    simp only [waitS, tickS, ih.1, if_true, true_and] at h ⊢
    by_cases h1 : m.melt ≤ tickF m (waitS m n q).t (waitS m n q).v
    · omega
    · rw [if_neg h1] at h
      have := ih.2 h
      omega
theorem GInv.wait {m : Mac} {q : Pst} (h : GInv m q) {n : Int} (hn : 1 ≤ n ∧ n ≤ 1000) (ht : q.tm + n ≤ 1073741824) : errD m q [] 5 n 0 = 0 ∧ GInv m (nextP m q 5 n 0) := by
  have e : errD m q [] 5 n 0 = 0 := by rw [errD5, if_neg (by omega), if_neg (by omega)]
  have g := GInv.step (m := m) (q := { q with tm := q.tm + n }) n.toNat h.cl h.good
  exact ⟨e, pinv_next h.inv e, g.1, g.2⟩
theorem s18k {m : Mac} (hm : m.ok) {T v : Int} (ht : m.room ≤ T ∧ T ≤ m.top) (hv : 0 ≤ v ∧ v ≤ 2) : PSpec Try.prog 18 [m.x, I T, I v] (.tup [I (tickF m T v), I 0]) := by
  have h := s18 m T v
  obtain ⟨h1, h2⟩ := tick_in (m := m) (t := T) (v := v) (by rw [Mac.chk0 hm]; decide) (by unfold inTick; omega)
  rw [← h1, ← h2] at h
  exact h
theorem s11 (m : Mac) (xs ys : List Int) (hx : ∀ j, 0 ≤ xs.getD j 0 ∧ xs.getD j 0 ≤ 255) (hy : ∀ j, 0 ≤ ys.getD j 0 ∧ ys.getD j 0 ≤ 255) : PSpec Try.prog 11 [m.x, lU xs, lU ys] (xP True) := by
  have lx := i64s_len xs
  have ly := i64s_len ys
  by_cases hm : m.ok
  rotate_left
  · have hc := Mac.chk2 hm
    refine spec_of pMix (O := []) Try.func11 (c := bodyOf Try.f11) rfl (by kernel_rfl) (by kernel_rfl) Try.ntmps11 (res := [.tmp 6]) (by kernel_rfl) ?_
    repeat' (conv => whnf
             first
             | refine Rng.ok (by simp only [inR]; omega) ?_
             | refine Ob.mk (by first | omega | (simp; done) | decide | (simp; omega)) ?_
             | refine Ob.mk (show eqOK _ _ = true from by kernel_rfl) ?_
             | refine Ob.mk (show keyOK _ _ _ = true from by kernel_rfl) ?_
             | refine Val.mk _ (shr_val (by simp; rfl)) ?_
             | refine Ob.mk (Nat.le_of_ble_eq_true rfl) ?_
             | refine JoinVC.on ?_
             | refine Nils.mk (fun h => ?_) ?_
             | refine Val.mk _ (Int.tmod_eq_emod_of_nonneg (by omega)) ?_
             | refine Val.mk _ (Int.tdiv_eq_ediv_of_nonneg (by omega)) ?_
             | refine Mm.mk ?_
             | refine CallVC.pure rfl (s21 m) ?_
             | refine CallVC.pure rfl (s22) ?_
             | refine CallVC0.pure rfl (s21 m) ?_
             | refine CallVC0.pure rfl (s22) ?_
             | (refine Br.mk (fun h => ?_) (fun h => ?_) <;> first | (exfalso; omega; done) | (exfalso; simp at h; done) | skip))
    repeat refine Mm.mk ?_
    refine EndVC.mk _ rfl _ _ ⟨rfl, rfl⟩ ?_
    refine ⟨[], rfl, rfl, ?_, ?_⟩ <;> repeat' (first | exact trivial | exact rfl | exact Iff.rfl | apply And.intro)
  have hc := Mac.chk0 hm
  refine spec_of pMix (O := []) Try.func11 (c := bodyOf Try.f11) rfl (by kernel_rfl) (by kernel_rfl) Try.ntmps11 (res := [.tmp 6]) (by kernel_rfl) ?_
  repeat' (conv => whnf
           first
           | refine Rng.ok (by simp only [inR]; omega) ?_
           | refine Ob.mk (by first | omega | (simp; done) | decide | (simp; omega)) ?_
           | refine Ob.mk (show eqOK _ _ = true from by kernel_rfl) ?_
           | refine Ob.mk (show keyOK _ _ _ = true from by kernel_rfl) ?_
           | refine Val.mk _ (shr_val (by simp; rfl)) ?_
           | refine Ob.mk (Nat.le_of_ble_eq_true rfl) ?_
           | refine JoinVC.on ?_
           | refine Nils.mk (fun h => ?_) ?_
           | refine Val.mk _ (Int.tmod_eq_emod_of_nonneg (by omega)) ?_
           | refine Val.mk _ (Int.tdiv_eq_ediv_of_nonneg (by omega)) ?_
           | refine Mm.mk ?_
           | refine CallVC.pure rfl (s21 m) ?_
           | refine CallVC.pure rfl (s22) ?_
           | refine CallVC0.pure rfl (s21 m) ?_
           | refine CallVC0.pure rfl (s22) ?_
           | (refine Br.mk (fun h => ?_) (fun h => ?_) <;> first | (exfalso; omega; done) | (exfalso; simp at h; done) | skip))
  · repeat refine Mm.mk ?_
    refine EndVC.mk _ rfl _ _ ⟨rfl, rfl⟩ ?_
    refine ⟨[], rfl, rfl, ?_, ?_⟩ <;> repeat' (first | exact trivial | exact rfl | exact Iff.rfl | apply And.intro)
  conv => whnf
  refine CallVC.mk [] _ _ _ rfl rfl rfl (s39 m) (fun r m' h' => ?_)
  obtain ⟨hm', rfl, rfl⟩ | ⟨_, rfl, rfl⟩ := h'
  · exact absurd hm hm'
  repeat' (conv => whnf
           first
           | refine Rng.ok (by simp only [inR]; omega) ?_
           | refine Ob.mk (by first | omega | (simp; done) | decide | (simp; omega)) ?_
           | refine Ob.mk (show eqOK _ _ = true from by kernel_rfl) ?_
           | refine Ob.mk (show keyOK _ _ _ = true from by kernel_rfl) ?_
           | refine Val.mk _ (shr_val (by simp; rfl)) ?_
           | refine Ob.mk (Nat.le_of_ble_eq_true rfl) ?_
           | refine JoinVC.on ?_
           | refine Nils.mk (fun h => ?_) ?_
           | refine Val.mk _ (Int.tmod_eq_emod_of_nonneg (by omega)) ?_
           | refine Val.mk _ (Int.tdiv_eq_ediv_of_nonneg (by omega)) ?_
           | refine Mm.mk ?_
           | (refine Br.mk (fun h => ?_) (fun h => ?_) <;> first | (exfalso; omega; done) | (exfalso; simp at h; done) | skip))
  conv => whnf
  refine CallVC.mk [1, 2, 3, 4] _ _ _ rfl rfl rfl (s40 m _ [] (fun k => rfl) (pinv_new hm) rfl rfl 1 2 (by decide) (by decide) (by decide)) (fun r m' h' => ?_)
  obtain ⟨l1, u1, i1, rfl, rfl⟩ := h'
  conv => whnf
  repeat' (conv => whnf
           first
           | refine Rng.ok (by simp only [inR]; omega) ?_
           | refine Ob.mk (by first | omega | (simp; done) | decide | (simp; omega)) ?_
           | refine Ob.mk (show eqOK _ _ = true from by kernel_rfl) ?_
           | refine Ob.mk (show keyOK _ _ _ = true from by kernel_rfl) ?_
           | refine Val.mk _ (shr_val (by simp; rfl)) ?_
           | refine Ob.mk (Nat.le_of_ble_eq_true rfl) ?_
           | refine JoinVC.on ?_
           | refine Nils.mk (fun h => ?_) ?_
           | refine Val.mk _ (Int.tmod_eq_emod_of_nonneg (by omega)) ?_
           | refine Val.mk _ (Int.tdiv_eq_ediv_of_nonneg (by omega)) ?_
           | refine Mm.mk ?_
           | (refine Br.mk (fun h => ?_) (fun h => ?_) <;> first | (exfalso; omega; done) | (exfalso; simp at h; done) | skip))
  have g0 : GInv m (begun ⟨false, false, 0, m.room, 0, 0, 0, 0, 0⟩ 1 2) := ⟨i1, rfl, fun h => by simp at h⟩
  refine LoopVC.mk (fun n st => ∃ (i : Nat) (q : Pst) (l : MapL), i ≤ xs.length ∧ n = xs.length - i ∧ GInv m q ∧ UsedOK l [] ∧ q.tm ≤ 60 * i ∧ st = ⟨0, envA 186 [(1, .x (lU xs)), (2, .x (lU ys)), (3, .x (.one (.ptr 0 0))), (7, .x (.one (.ptr 1 0))), (9, .int .i64 q.t), (10, .int .i64 q.pk), (11, .int .i64 q.h), (12, .int .i64 (i : Int))], [some (bM m), some (bP 2), some (bW 3 4 m q), some (dRow []), some (mpU l)]⟩) _ _ ⟨0, _, l1, Nat.zero_le _, rfl, g0, u1, by simp, rfl⟩ ?_ ?_
  · refine ⟨[some 0, some 1, some 5, some 6, some 7], rfl, rfl, ?_, ?_⟩ <;> repeat' (first | exact trivial | exact rfl | exact Iff.rfl | apply And.intro)
  rintro n _ ⟨i, q, l, hi, hn, hG, hU, htm, rfl⟩
  have gx : rI (i64s xs) (i : Int).toNat 0 = xs.getD i 0 := by rw [Int.toNat_natCast, i64s_get]
  have gy : rI (i64s ys) (i : Int).toNat 0 = ys.getD i 0 := by rw [Int.toNat_natCast, i64s_get]
  have bx := hx i
  have by' := hy i
  by_cases hi' : i < xs.length
  · repeat' (conv => whnf
             first
             | refine Rng.ok (by simp only [inR]; omega) ?_
             | refine Ob.mk (by first | omega | (simp; done) | decide | (simp; omega)) ?_
             | refine Ob.mk (show eqOK _ _ = true from by kernel_rfl) ?_
             | refine Ob.mk (show keyOK _ _ _ = true from by kernel_rfl) ?_
             | refine Val.mk _ (shr_val (by simp; rfl)) ?_
             | refine Ob.mk (Nat.le_of_ble_eq_true rfl) ?_
             | refine Nils.mk (fun h => ?_) ?_
             | refine Val.mk _ (Int.tmod_eq_emod_of_nonneg (by omega)) ?_
             | refine Val.mk _ (Int.tdiv_eq_ediv_of_nonneg (by omega)) ?_
             | refine Mm.mk ?_
             | (refine Br.mk (fun h => ?_) (fun h => ?_) <;> first | (exfalso; omega; done) | (exfalso; simp at h; done) | skip))
    obtain ⟨v, hv⟩ : ∃ v, v = rI (i64s xs) (i : Int).toNat 0 % 3 := ⟨_, rfl⟩
    rw [← hv]
    have bv : 0 ≤ v ∧ v ≤ 2 := by omega
    clear hv
    refine JoinVC.cut (fun s => ∃ N : Int, 1 ≤ N ∧ N ≤ 60 ∧ s = ⟨0, envA 186 [(1, .x (lU xs)), (2, .x (lU ys)), (3, .x (.one (.ptr 0 0))), (7, .x (.one (.ptr 1 0))), (9, .int .i64 q.t), (10, .int .i64 q.pk), (11, .int .i64 q.h), (12, .int .i64 (i : Int)), (13, .int .i64 v), (14, .int .i64 N)], [some (bM m), some (bP 2), some (bW 3 4 m q), some (dRow []), some (mpU l)]⟩) ?_ ?_
    · repeat' (conv => whnf
               first
               | refine Rng.ok (by simp only [inR]; omega) ?_
               | refine Ob.mk (by first | omega | (simp; done) | decide | (simp; omega)) ?_
               | refine Ob.mk (show eqOK _ _ = true from by kernel_rfl) ?_
               | refine Ob.mk (show keyOK _ _ _ = true from by kernel_rfl) ?_
               | refine Val.mk _ (shr_val (by simp; rfl)) ?_
               | refine Ob.mk (Nat.le_of_ble_eq_true rfl) ?_
               | refine JoinVC.on ?_
               | refine Nils.mk (fun h => ?_) ?_
               | refine Val.mk _ (Int.tmod_eq_emod_of_nonneg (by omega)) ?_
               | refine Val.mk _ (Int.tdiv_eq_ediv_of_nonneg (by omega)) ?_
               | refine Mm.mk ?_
               | (refine Br.mk (fun h => ?_) (fun h => ?_) <;> first | (exfalso; omega; done) | (exfalso; simp at h; done) | skip))
      · refine Meet.mk _ ⟨1 + rI (i64s ys) (i : Int).toNat 0 % 60, by omega, by omega, rfl⟩ ?_
        refine ⟨[some 0, some 1, some 2, some 3, some 4], rfl, rfl, ?_, ?_⟩ <;> repeat' (first | exact trivial | exact rfl | exact Iff.rfl | apply And.intro)
      · refine Meet.mk _ ⟨1, by omega, by omega, rfl⟩ ?_
        refine ⟨[some 0, some 1, some 2, some 3, some 4], rfl, rfl, ?_, ?_⟩ <;> repeat' (first | exact trivial | exact rfl | exact Iff.rfl | apply And.intro)
    rintro _ ⟨N, n1, n2, rfl⟩
    obtain ⟨e1, G1⟩ := hG.valve bv
    obtain ⟨e2, G2⟩ := G1.wait (n := N) ⟨n1, by omega⟩ (by simp only; omega)
    repeat' (conv => whnf
             first
             | refine Rng.ok (by simp only [inR]; omega) ?_
             | refine Ob.mk (by first | omega | (simp; done) | decide | (simp; omega)) ?_
             | refine Ob.mk (show eqOK _ _ = true from by kernel_rfl) ?_
             | refine Ob.mk (show keyOK _ _ _ = true from by kernel_rfl) ?_
             | refine Val.mk _ (shr_val (by simp; rfl)) ?_
             | refine Ob.mk (Nat.le_of_ble_eq_true rfl) ?_
             | refine JoinVC.on ?_
             | refine Nils.mk (fun h => ?_) ?_
             | refine Val.mk _ (Int.tmod_eq_emod_of_nonneg (by omega)) ?_
             | refine Val.mk _ (Int.tdiv_eq_ediv_of_nonneg (by omega)) ?_
             | refine Mm.mk ?_
             | (refine Br.mk (fun h => ?_) (fun h => ?_) <;> first | (exfalso; omega; done) | (exfalso; simp at h; done) | skip))
    conv => whnf
    refine CallVC.mk [1, 2, 3, 4] _ _ _ rfl rfl rfl (s41k hU hG.inv e1) (fun r m' h' => ?_)
    obtain ⟨l1, u1, rfl, rfl⟩ := h'
    conv => whnf
    repeat' (conv => whnf
             first
             | refine Rng.ok (by simp only [inR]; omega) ?_
             | refine Ob.mk (by first | omega | (simp; done) | decide | (simp; omega)) ?_
             | refine Ob.mk (show eqOK _ _ = true from by kernel_rfl) ?_
             | refine Ob.mk (show keyOK _ _ _ = true from by kernel_rfl) ?_
             | refine Val.mk _ (shr_val (by simp; rfl)) ?_
             | refine Ob.mk (Nat.le_of_ble_eq_true rfl) ?_
             | refine JoinVC.on ?_
             | refine Nils.mk (fun h => ?_) ?_
             | refine Val.mk _ (Int.tmod_eq_emod_of_nonneg (by omega)) ?_
             | refine Val.mk _ (Int.tdiv_eq_ediv_of_nonneg (by omega)) ?_
             | refine Mm.mk ?_
             | (refine Br.mk (fun h => ?_) (fun h => ?_) <;> first | (exfalso; omega; done) | (exfalso; simp at h; done) | skip))
    conv => whnf
    refine CallVC.mk [1, 5, 6, 7] _ _ _ rfl rfl rfl (s41k (p := { q with v := v }) u1 G1.inv e2) (fun r m' h' => ?_)
    obtain ⟨l2, u2, rfl, rfl⟩ := h'
    conv => whnf
    repeat' (conv => whnf
             first
             | refine Rng.ok (by simp only [inR]; omega) ?_
             | refine Ob.mk (by first | omega | (simp; done) | decide | (simp; omega)) ?_
             | refine Ob.mk (show eqOK _ _ = true from by kernel_rfl) ?_
             | refine Ob.mk (show keyOK _ _ _ = true from by kernel_rfl) ?_
             | refine Val.mk _ (shr_val (by simp; rfl)) ?_
             | refine Ob.mk (Nat.le_of_ble_eq_true rfl) ?_
             | refine JoinVC.on ?_
             | refine Nils.mk (fun h => ?_) ?_
             | refine Val.mk _ (Int.tmod_eq_emod_of_nonneg (by omega)) ?_
             | refine Val.mk _ (Int.tdiv_eq_ediv_of_nonneg (by omega)) ?_
             | refine Mm.mk ?_
             | (refine Br.mk (fun h => ?_) (fun h => ?_) <;> first | (exfalso; omega; done) | (exfalso; simp at h; done) | skip))
    obtain ⟨f, hf⟩ : ∃ f : Pst, f = { q with v := v, tm := q.tm + N } := ⟨_, rfl⟩
    have hnx : nextP m { q with v := v } 5 N 0 = waitS m N.toNat f := by rw [hf]; rfl
    have G2' : GInv m (waitS m N.toNat f) := by rw [← hnx]; exact G2
    have hft : f.t = q.t ∧ f.h = q.h ∧ f.pk = q.pk ∧ f.cl = true ∧ f.v = v ∧ f.tm = q.tm + N := by rw [hf]; exact ⟨rfl, rfl, rfl, hG.cl, rfl, rfl⟩
    have hnl : nextL m { q with v := v } (nextL m q [] 4) 5 = [] := rfl
    rw [hnx, hnl]
    refine LoopVC.mk (fun n st => ∃ k : Nat, (k : Int) ≤ N ∧ n = N.toNat - k ∧ st = ⟨0, envA 186 [(1, .x (lU xs)), (2, .x (lU ys)), (3, .x (.one (.ptr 0 0))), (7, .x (.one (.ptr 1 0))), (9, .int .i64 (waitS m k f).t), (10, .int .i64 (waitS m k f).pk), (11, .int .i64 (waitS m k f).h), (12, .int .i64 (i : Int)), (13, .int .i64 v), (14, .int .i64 N), (19, .int .i64 (k : Int))], [some (bM m), some (bP 2), some (bW 3 4 m (waitS m N.toNat f)), some (dRow []), some (mpU l2)]⟩) _ _ ⟨0, by omega, rfl, rfl⟩ ?_ ?_
    · refine ⟨[some 0, some 1, some 9, some 10, some 11], rfl, rfl, ?_, ?_⟩ <;> repeat' (first | exact trivial | exact rfl | exact Iff.rfl | apply And.intro)
      · exact hft.1.symm
      · exact hft.2.2.1.symm
      · exact hft.2.1.symm
    rintro n _ ⟨k, hk, hn, rfl⟩
    have hW := waitK hm (p := f) (by rw [hft.1]; exact hG.inv.t) k
    have hS := GInv.step (m := m) (q := f) k hft.2.2.2.1 (by rw [hft.2.1, hft.2.2.1]; exact hG.good)
    have hh := hG.inv.h
    have h1 := hW.h
    have h2 := hW.pk
    have h3 := hW.v
    rw [hft.2.2.2.2.1] at h3
    have h4 := hft.2.1
    have h5 := hft.2.2.1
    have hT := tickF_bd hm (v := v) hW.t
    by_cases hk' : (k : Int) < N
    · have hq1 : waitS m (k + 1) f = tickS m (waitS m k f) := rfl
      have t1 : (tickS m (waitS m k f)).t = tickF m (waitS m k f).t v := by simp only [tickS, h3]
      have t2 : (tickS m (waitS m k f)).pk = max (waitS m k f).pk (tickF m (waitS m k f).t v) := by simp only [tickS, h3, hS.1, if_true]
      have t3 : (tickS m (waitS m k f)).h = if m.melt ≤ tickF m (waitS m k f).t v then (waitS m k f).h + 1 else (waitS m k f).h := by simp only [tickS, h3, hS.1, true_and]
      repeat' (conv => whnf
               first
               | refine Rng.ok (by simp only [inR]; omega) ?_
               | refine Ob.mk (by first | omega | (simp; done) | decide | (simp; omega)) ?_
               | refine Ob.mk (show eqOK _ _ = true from by kernel_rfl) ?_
               | refine Ob.mk (show keyOK _ _ _ = true from by kernel_rfl) ?_
               | refine Val.mk _ (shr_val (by simp; rfl)) ?_
               | refine Ob.mk (Nat.le_of_ble_eq_true rfl) ?_
               | refine JoinVC.on ?_
               | refine Nils.mk (fun h => ?_) ?_
               | refine Val.mk _ (Int.tmod_eq_emod_of_nonneg (by omega)) ?_
               | refine Val.mk _ (Int.tdiv_eq_ediv_of_nonneg (by omega)) ?_
               | refine Mm.mk ?_
               | refine CallVC.pure rfl (s18k hm hW.t bv) ?_
               | refine CallVC0.pure rfl (s18k hm hW.t bv) ?_
               | (refine Br.mk (fun h => ?_) (fun h => ?_) <;> first | (exfalso; omega; done) | (exfalso; simp at h; done) | skip))
      · refine Back.mk (N.toNat - (k + 1)) _ (by omega) ⟨k + 1, by omega, rfl, rfl⟩ ?_
        rw [hq1, t1, t2, t3]
        refine ⟨[some 0, some 1, some 2, some 3, some 4], rfl, rfl, ?_, ?_⟩ <;> repeat' (first | exact trivial | exact rfl | exact Iff.rfl | apply And.intro)
        all_goals (split <;> omega)
      · refine Back.mk (N.toNat - (k + 1)) _ (by omega) ⟨k + 1, by omega, rfl, rfl⟩ ?_
        rw [hq1, t1, t2, t3]
        refine ⟨[some 0, some 1, some 2, some 3, some 4], rfl, rfl, ?_, ?_⟩ <;> repeat' (first | exact trivial | exact rfl | exact Iff.rfl | apply And.intro)
        all_goals (split <;> omega)
    · have hkN : k = N.toNat := by omega
      subst hkN
      have h6 := hW.tm
      rw [hft.2.2.2.2.2] at h6
      repeat' (conv => whnf
               first
               | refine Rng.ok (by simp only [inR]; omega) ?_
               | refine Ob.mk (by first | omega | (simp; done) | decide | (simp; omega)) ?_
               | refine Ob.mk (show eqOK _ _ = true from by kernel_rfl) ?_
               | refine Ob.mk (show keyOK _ _ _ = true from by kernel_rfl) ?_
               | refine Val.mk _ (shr_val (by simp; rfl)) ?_
               | refine Ob.mk (Nat.le_of_ble_eq_true rfl) ?_
               | refine JoinVC.on ?_
               | refine Nils.mk (fun h => ?_) ?_
               | refine Val.mk _ (Int.tmod_eq_emod_of_nonneg (by omega)) ?_
               | refine Val.mk _ (Int.tdiv_eq_ediv_of_nonneg (by omega)) ?_
               | refine Mm.mk ?_
               | (refine Br.mk (fun h => ?_) (fun h => ?_) <;> first | (exfalso; omega; done) | (exfalso; simp at h; done) | skip))
      refine Back.mk (xs.length - (i + 1)) _ (by omega) ⟨i + 1, _, l2, by omega, rfl, G2', u2, by omega, rfl⟩ ?_
      refine ⟨[some 0, some 1, some 2, some 3, some 4], rfl, rfl, ?_, ?_⟩ <;> repeat' (first | exact trivial | exact rfl | exact Iff.rfl | apply And.intro)
  · obtain ⟨e1, G1⟩ := hG.valve (v := 2) (by decide)
    have hG1 := hG.good
    have hG2 := hG.inv.ok
    repeat' (conv => whnf
             first
             | refine Rng.ok (by simp only [inR]; omega) ?_
             | refine Ob.mk (by first | omega | (simp; done) | decide | (simp; omega)) ?_
             | refine Ob.mk (show eqOK _ _ = true from by kernel_rfl) ?_
             | refine Ob.mk (show keyOK _ _ _ = true from by kernel_rfl) ?_
             | refine Val.mk _ (shr_val (by simp; rfl)) ?_
             | refine Ob.mk (Nat.le_of_ble_eq_true rfl) ?_
             | refine JoinVC.on ?_
             | refine Nils.mk (fun h => ?_) ?_
             | refine Val.mk _ (Int.tmod_eq_emod_of_nonneg (by omega)) ?_
             | refine Val.mk _ (Int.tdiv_eq_ediv_of_nonneg (by omega)) ?_
             | refine Mm.mk ?_
             | (refine Br.mk (fun h => ?_) (fun h => ?_) <;> first | (exfalso; omega; done) | (exfalso; simp at h; done) | skip))
    conv => whnf
    refine CallVC.mk [1, 2, 3, 4] _ _ _ rfl rfl rfl (s41k hU hG.inv e1) (fun r m' h' => ?_)
    obtain ⟨l1, u1, rfl, rfl⟩ := h'
    conv => whnf
    repeat' (conv => whnf
             first
             | refine Rng.ok (by simp only [inR]; omega) ?_
             | refine Ob.mk (by first | omega | (simp; done) | decide | (simp; omega)) ?_
             | refine Ob.mk (show eqOK _ _ = true from by kernel_rfl) ?_
             | refine Ob.mk (show keyOK _ _ _ = true from by kernel_rfl) ?_
             | refine Val.mk _ (shr_val (by simp; rfl)) ?_
             | refine Ob.mk (Nat.le_of_ble_eq_true rfl) ?_
             | refine JoinVC.on ?_
             | refine Nils.mk (fun h => ?_) ?_
             | refine Val.mk _ (Int.tmod_eq_emod_of_nonneg (by omega)) ?_
             | refine Val.mk _ (Int.tdiv_eq_ediv_of_nonneg (by omega)) ?_
             | refine Mm.mk ?_
             | (refine Br.mk (fun h => ?_) (fun h => ?_) <;> first | (exfalso; omega; done) | (exfalso; simp at h; done) | skip))
    have e6 := errD6 m { q with v := 2 } [] 0 0
    rw [if_neg (fun h => h hG.cl)] at e6
    by_cases ht : m.cool < q.t
    · rw [if_pos (.inr ht)] at e6
      conv => whnf
      refine CallVC.mk [1, 5, 6, 7] _ _ _ rfl rfl rfl (s41 m { q with v := 2 } [] l1 u1 G1.inv 6 0 0) (fun r m' h' => ?_)
      obtain ⟨e7, _⟩ | ⟨e7, rfl, rfl⟩ := h'
      · rw [e6] at e7; cases e7
      rw [e6]
      repeat' (conv => whnf
               first
               | refine Rng.ok (by simp only [inR]; omega) ?_
               | refine Ob.mk (by first | omega | (simp; done) | decide | (simp; omega)) ?_
               | refine Ob.mk (show eqOK _ _ = true from by kernel_rfl) ?_
               | refine Ob.mk (show keyOK _ _ _ = true from by kernel_rfl) ?_
               | refine Val.mk _ (shr_val (by simp; rfl)) ?_
               | refine Ob.mk (Nat.le_of_ble_eq_true rfl) ?_
               | refine JoinVC.on ?_
               | refine Nils.mk (fun h => ?_) ?_
               | refine Val.mk _ (Int.tmod_eq_emod_of_nonneg (by omega)) ?_
               | refine Val.mk _ (Int.tdiv_eq_ediv_of_nonneg (by omega)) ?_
               | refine Mm.mk ?_
               | refine CallVC.pure rfl (s22) ?_
               | refine CallVC0.pure rfl (s22) ?_
               | (refine Br.mk (fun h => ?_) (fun h => ?_) <;> first | (exfalso; omega; done) | (exfalso; simp at h; done) | skip))
      repeat refine Mm.mk ?_
      refine EndVC.mk _ rfl _ _ ⟨rfl, rfl⟩ ?_
      refine ⟨[], rfl, rfl, ?_, ?_⟩ <;> repeat' (first | exact trivial | exact rfl | exact Iff.rfl | apply And.intro)
    · rw [if_neg (by simp only; omega)] at e6
      conv => whnf
      refine CallVC.mk [1, 5, 6, 7] _ _ _ rfl rfl rfl (s41k (p := { q with v := 2 }) u1 G1.inv e6) (fun r m' h' => ?_)
      obtain ⟨l2, u2, rfl, rfl⟩ := h'
      conv => whnf
      have d5 : (outD m { q with v := 2 } (nextL m q [] 4) 6).pk = q.pk := rfl
      have d4 : (outD m { q with v := 2 } (nextL m q [] 4) 6).h = q.h := rfl
      have d6 : (outD m { q with v := 2 } (nextL m q [] 4) 6).good = decide (m.hold ≤ q.h) := rfl
      generalize outD m { q with v := 2 } (nextL m q [] 4) 6 = d at *
      have hh1 := hG2.2.2.2.2.2.2.2.2.2.2.2.1
      by_cases hg : m.hold ≤ q.h
      · have d7 : d.good = true := by rw [d6]; simpa using hg
        have hpk := hG1 (by omega)
        repeat' (conv => whnf
                 first
                 | refine Rng.ok (by simp only [inR]; omega) ?_
                 | refine Ob.mk (by first | omega | (simp; done) | decide | (simp; omega)) ?_
                 | refine Ob.mk (show eqOK _ _ = true from by kernel_rfl) ?_
                 | refine Ob.mk (show keyOK _ _ _ = true from by kernel_rfl) ?_
                 | refine Val.mk _ (shr_val (by simp; rfl)) ?_
                 | refine Ob.mk (Nat.le_of_ble_eq_true rfl) ?_
                 | refine JoinVC.on ?_
                 | refine Nils.mk (fun h => ?_) ?_
                 | refine Val.mk _ (Int.tmod_eq_emod_of_nonneg (by omega)) ?_
                 | refine Val.mk _ (Int.tdiv_eq_ediv_of_nonneg (by omega)) ?_
                 | refine Mm.mk ?_
                 | refine CallVC.pure rfl (s22) ?_
                 | refine CallVC0.pure rfl (s22) ?_
                 | (refine Br.mk (fun h => ?_) (fun h => ?_) <;> first | (exfalso; omega; done) | (exfalso; simp at h; done) | (exfalso; simp [d7, hg] at h; done) | skip))
        all_goals
          repeat refine Mm.mk ?_
          refine EndVC.mk _ rfl _ _ ⟨rfl, rfl⟩ ?_
          refine ⟨[], rfl, rfl, ?_, ?_⟩ <;> repeat' (first | exact trivial | exact rfl | exact Iff.rfl | apply And.intro)
      · have d7 : d.good = false := by rw [d6]; simpa using hg
        repeat' (conv => whnf
                 first
                 | refine Rng.ok (by simp only [inR]; omega) ?_
                 | refine Ob.mk (by first | omega | (simp; done) | decide | (simp; omega)) ?_
                 | refine Ob.mk (show eqOK _ _ = true from by kernel_rfl) ?_
                 | refine Ob.mk (show keyOK _ _ _ = true from by kernel_rfl) ?_
                 | refine Val.mk _ (shr_val (by simp; rfl)) ?_
                 | refine Ob.mk (Nat.le_of_ble_eq_true rfl) ?_
                 | refine JoinVC.on ?_
                 | refine Nils.mk (fun h => ?_) ?_
                 | refine Val.mk _ (Int.tmod_eq_emod_of_nonneg (by omega)) ?_
                 | refine Val.mk _ (Int.tdiv_eq_ediv_of_nonneg (by omega)) ?_
                 | refine Mm.mk ?_
                 | refine CallVC.pure rfl (s22) ?_
                 | refine CallVC0.pure rfl (s22) ?_
                 | (refine Br.mk (fun h => ?_) (fun h => ?_) <;> first | (exfalso; omega; done) | (exfalso; simp at h; done) | (exfalso; simp [d7, hg] at h; done) | skip))
        all_goals
          repeat refine Mm.mk ?_
          refine EndVC.mk _ rfl _ _ ⟨rfl, rfl⟩ ?_
          refine ⟨[], rfl, rfl, ?_, ?_⟩ <;> repeat' (first | exact trivial | exact rfl | exact Iff.rfl | apply And.intro)
end Go.Sx

namespace Go.Sx
open Go Go.Proofs
set_option maxRecDepth 10000
set_option maxHeartbeats 4000000
theorem e52 : EntersF Try.prog 52 := enters_of Try.func52 (c := bodyOf Try.f52) (by kernel_rfl) rfl
theorem e53 : EntersF Try.prog 53 := enters_of Try.func53 (c := bodyOf Try.f53) (by kernel_rfl) rfl
theorem e54 : EntersF Try.prog 54 := enters_of Try.func54 (c := bodyOf Try.f54) (by kernel_rfl) rfl
/-- A list of ints, as an argument. -/
@[reducible] def lN (xs : List Int) : XV := .one (.lst true [.int .i64] (i64s xs))
theorem s52 (xs : List Int) (hl : xs.length ≤ 1073741824) (h : OKW xs) : PSpec Try.prog 52 [lN xs] (xP True) := by
  have lx := i64s_len xs
  refine spec_of pMix (O := []) Try.func52 (c := bodyOf Try.f52) rfl (by kernel_rfl) (by kernel_rfl) Try.ntmps52 (res := [.tmp 2]) (by kernel_rfl) ?_
  repeat' (conv => whnf
           first
           | refine Rng.ok (by simp only [inR]; omega) ?_
           | refine Ob.mk (by first | omega | (simp; done) | decide | (simp; omega)) ?_
           | refine Ob.mk (show eqOK _ _ = true from by kernel_rfl) ?_
           | refine Ob.mk (show keyOK _ _ _ = true from by kernel_rfl) ?_
           | refine Val.mk _ (shr_val (by simp; rfl)) ?_
           | refine Ob.mk (Nat.le_of_ble_eq_true rfl) ?_
           | refine JoinVC.on ?_
           | refine Nils.mk (fun h => ?_) ?_
           | refine Val.mk _ (Int.tmod_eq_emod_of_nonneg (by omega)) ?_
           | refine Val.mk _ (Int.tdiv_eq_ediv_of_nonneg (by omega)) ?_
           | refine Mm.mk ?_
           | (refine Br.mk (fun h => ?_) (fun h => ?_) <;> first | (exfalso; omega; done) | (exfalso; simp at h; done) | skip))
  refine LoopVC.mk (fun n st => ∃ i : Nat, i ≤ xs.length ∧ n = xs.length - i ∧ st = ⟨0, envA 22 [(0, .x (lN xs)), (3, .int .i64 (i : Int))], []⟩) _ _ ⟨0, Nat.zero_le _, rfl, rfl⟩ ?_ ?_
  · refine ⟨[], rfl, rfl, ?_, ?_⟩ <;> repeat' (first | exact trivial | exact rfl | exact Iff.rfl | apply And.intro)
  rintro n _ ⟨i, hi, hn, rfl⟩
  have g : rI (i64s xs) (i : Int).toNat 0 = xs.getD i 0 := by rw [Int.toNat_natCast, i64s_get]
  by_cases hi' : i < xs.length
  · have hb : 0 ≤ xs.getD i 0 ∧ xs.getD i 0 ≤ 2 := by
      apply h
      rw [List.getD_eq_getElem?_getD, List.getElem?_eq_getElem hi']
      exact List.getElem_mem hi'
    repeat' (conv => whnf
             first
             | refine Rng.ok (by simp only [inR]; omega) ?_
             | refine Ob.mk (by first | omega | (simp; done) | decide | (simp; omega)) ?_
             | refine Ob.mk (show eqOK _ _ = true from by kernel_rfl) ?_
             | refine Ob.mk (show keyOK _ _ _ = true from by kernel_rfl) ?_
             | refine Val.mk _ (shr_val (by simp; rfl)) ?_
             | refine Ob.mk (Nat.le_of_ble_eq_true rfl) ?_
             | refine JoinVC.on ?_
             | refine Nils.mk (fun h => ?_) ?_
             | refine Val.mk _ (Int.tmod_eq_emod_of_nonneg (by omega)) ?_
             | refine Val.mk _ (Int.tdiv_eq_ediv_of_nonneg (by omega)) ?_
             | refine Mm.mk ?_
             | (refine Br.mk (fun h => ?_) (fun h => ?_) <;> first | (exfalso; omega; done) | (exfalso; simp at h; done) | skip))
    refine Back.mk (xs.length - (i + 1)) _ (by omega) ⟨i + 1, by omega, rfl, rfl⟩ ?_
    refine ⟨[], rfl, rfl, ?_, ?_⟩ <;> repeat' (first | exact trivial | exact rfl | exact Iff.rfl | apply And.intro)
  · repeat' (conv => whnf
             first
             | refine Rng.ok (by simp only [inR]; omega) ?_
             | refine Ob.mk (by first | omega | (simp; done) | decide | (simp; omega)) ?_
             | refine Ob.mk (show eqOK _ _ = true from by kernel_rfl) ?_
             | refine Ob.mk (show keyOK _ _ _ = true from by kernel_rfl) ?_
             | refine Val.mk _ (shr_val (by simp; rfl)) ?_
             | refine Ob.mk (Nat.le_of_ble_eq_true rfl) ?_
             | refine JoinVC.on ?_
             | refine Nils.mk (fun h => ?_) ?_
             | refine Val.mk _ (Int.tmod_eq_emod_of_nonneg (by omega)) ?_
             | refine Val.mk _ (Int.tdiv_eq_ediv_of_nonneg (by omega)) ?_
             | refine Mm.mk ?_
             | (refine Br.mk (fun h => ?_) (fun h => ?_) <;> first | (exfalso; omega; done) | (exfalso; simp at h; done) | skip))
    repeat refine Mm.mk ?_
    refine EndVC.mk _ rfl _ _ ⟨rfl, rfl⟩ ?_
    refine ⟨[], rfl, rfl, ?_, ?_⟩ <;> repeat' (first | exact trivial | exact rfl | exact Iff.rfl | apply And.intro)
/-- The temperature, and how many ticks were hot enough, with no limit. -/
def afS (m : Mac) (T : Int) (w : List Int) : S2 := w.foldl (fun s v => (tickF m s.1 v, if m.melt ≤ tickF m s.1 v then s.2 + 1 else s.2)) (T, 0)
theorem afS_snoc (m : Mac) (T : Int) (w : List Int) (v : Int) : afS m T (w ++ [v]) = (tickF m (afS m T w).1 v, if m.melt ≤ tickF m (afS m T w).1 v then (afS m T w).2 + 1 else (afS m T w).2) := by unfold afS; rw [List.foldl_append]; rfl
theorem afS_run {m : Mac} (hm : m.ok) (T : Int) (w : List Int) : (runS m (T, 0) w).1 = (afS m T w).1 ∧ (runS m (T, 0) w).2 = min m.hold (afS m T w).2 ∧ 0 ≤ (afS m T w).2 ∧ (afS m T w).2 ≤ w.length := by
  obtain ⟨m1, m2, m3, m4, m5, m6, m7, m8, m9, m10, m11, m12, m13, m14, m15⟩ := hm
  refine snoc_ind (p := fun w => (runS m (T, 0) w).1 = (afS m T w).1 ∧ (runS m (T, 0) w).2 = min m.hold (afS m T w).2 ∧ 0 ≤ (afS m T w).2 ∧ (afS m T w).2 ≤ w.length) ?_ ?_ w
  · refine ⟨rfl, ?_, Int.le_refl _, Int.le_refl _⟩
    show (0 : Int) = min m.hold 0
    omega
  · intro u a ih
    obtain ⟨h1, h2, h3, h4⟩ := ih
    rw [runS_snoc, afS_snoc, List.length_append, List.length_cons, List.length_nil]
    unfold nx
    rw [h1, h2]
    refine ⟨rfl, ?_, ?_, ?_⟩ <;> (simp only; split <;> omega)
theorem afS_bd {m : Mac} (hm : m.ok) {T : Int} (hT : m.room ≤ T ∧ T ≤ m.top) (w : List Int) : m.room ≤ (afS m T w).1 ∧ (afS m T w).1 ≤ m.top := by
  have h := InS.run hm w (s := (T, 0)) ⟨hT.1, hT.2, Int.le_refl _, by have := hm.2.2.2.2.2.2.2.2.2.2.2.1; simp only; omega⟩
  rw [← (afS_run hm T w).1]
  exact ⟨h.1, h.2.1⟩
theorem s53 (m : Mac) (T : Int) (xs : List Int) (hm : m.ok) (hT : m.room ≤ T ∧ T ≤ m.top) (hl : xs.length ≤ 1073741824) : PSpec Try.prog 53 [m.x, I T, lN xs] (.tup [I (afS m T xs).1, I (afS m T xs).2]) := by
  have lx := i64s_len xs
  refine spec_of pMix (O := []) Try.func53 (c := bodyOf Try.f53) rfl (by kernel_rfl) (by kernel_rfl) Try.ntmps53 (res := [.tmp 6, .tmp 7]) (by kernel_rfl) ?_
  repeat' (conv => whnf
           first
           | refine Rng.ok (by simp only [inR]; omega) ?_
           | refine Ob.mk (by first | omega | (simp; done) | decide | (simp; omega)) ?_
           | refine Ob.mk (show eqOK _ _ = true from by kernel_rfl) ?_
           | refine Ob.mk (show keyOK _ _ _ = true from by kernel_rfl) ?_
           | refine Val.mk _ (shr_val (by simp; rfl)) ?_
           | refine Ob.mk (Nat.le_of_ble_eq_true rfl) ?_
           | refine JoinVC.on ?_
           | refine Nils.mk (fun h => ?_) ?_
           | refine Val.mk _ (Int.tmod_eq_emod_of_nonneg (by omega)) ?_
           | refine Val.mk _ (Int.tdiv_eq_ediv_of_nonneg (by omega)) ?_
           | refine Mm.mk ?_
           | (refine Br.mk (fun h => ?_) (fun h => ?_) <;> first | (exfalso; omega; done) | (exfalso; simp at h; done) | skip))
  refine LoopVC.mk (fun n st => ∃ i : Nat, i ≤ xs.length ∧ n = xs.length - i ∧ st = ⟨0, envA 31 [(1, .int .i64 (afS m T (xs.take i)).1), (2, .x (lN xs)), (3, .x (.one (.ptr 0 0))), (8, .int .i64 (afS m T (xs.take i)).2), (9, .int .i64 (i : Int))], [some (.box 23 [.int .i64 m.room, .int .i64 m.melt, .int .i64 m.cool, .int .i64 m.top, .int .i64 m.heat, .int .i64 m.chill, .int .i64 m.drift, .int .i64 m.hold, .int .i64 m.life])]⟩) _ _ ⟨0, Nat.zero_le _, rfl, rfl⟩ ?_ ?_
  · refine ⟨[some 0], rfl, rfl, ?_, ?_⟩ <;> repeat' (first | exact trivial | exact rfl | exact Iff.rfl | apply And.intro)
  rintro n _ ⟨i, hi, hn, rfl⟩
  have g : rI (i64s xs) (i : Int).toNat 0 = xs.getD i 0 := by rw [Int.toNat_natCast, i64s_get]
  have hb := afS_bd hm hT (xs.take i)
  have hh := (afS_run hm T (xs.take i)).2.2
  have hlt : (xs.take i).length = i := by rw [List.length_take]; omega
  by_cases hi' : i < xs.length
  · have hs : xs.take (i + 1) = xs.take i ++ [xs.getD i 0] := by
      rw [List.take_add_one, List.getD_eq_getElem?_getD, List.getElem?_eq_getElem hi']; rfl
    have hS := afS_snoc m T (xs.take i) (xs.getD i 0)
    rw [← hs] at hS
    repeat' (conv => whnf
             first
             | refine Rng.ok (by simp only [inR]; omega) ?_
             | refine Ob.mk (by first | omega | (simp; done) | decide | (simp; omega)) ?_
             | refine Ob.mk (show eqOK _ _ = true from by kernel_rfl) ?_
             | refine Ob.mk (show keyOK _ _ _ = true from by kernel_rfl) ?_
             | refine Val.mk _ (shr_val (by simp; rfl)) ?_
             | refine Ob.mk (Nat.le_of_ble_eq_true rfl) ?_
             | refine JoinVC.on ?_
             | refine Nils.mk (fun h => ?_) ?_
             | refine Val.mk _ (Int.tmod_eq_emod_of_nonneg (by omega)) ?_
             | refine Val.mk _ (Int.tdiv_eq_ediv_of_nonneg (by omega)) ?_
             | refine Mm.mk ?_
             | refine CallVC.pure rfl (s59 m (afS m T (xs.take i)).1 _ hm hb.1 hb.2) ?_
             | refine CallVC0.pure rfl (s59 m (afS m T (xs.take i)).1 _ hm hb.1 hb.2) ?_
             | (refine Br.mk (fun h => ?_) (fun h => ?_) <;> first | (exfalso; omega; done) | (exfalso; simp at h; done) | skip))
    all_goals
      refine Back.mk (xs.length - (i + 1)) _ (by omega) ⟨i + 1, by omega, rfl, rfl⟩ ?_
      rw [g] at h
      refine ⟨[some 0], rfl, rfl, ?_, ?_⟩ <;> repeat' (first | exact trivial | exact rfl | exact Iff.rfl | apply And.intro)
      · rw [hS, g]
      · rw [hS]
        simp only
        first | rw [if_pos h] | rw [if_neg h]
  · have : xs.take i = xs := List.take_of_length_le (by omega)
    rw [this]
    repeat' (conv => whnf
             first
             | refine Rng.ok (by simp only [inR]; omega) ?_
             | refine Ob.mk (by first | omega | (simp; done) | decide | (simp; omega)) ?_
             | refine Ob.mk (show eqOK _ _ = true from by kernel_rfl) ?_
             | refine Ob.mk (show keyOK _ _ _ = true from by kernel_rfl) ?_
             | refine Val.mk _ (shr_val (by simp; rfl)) ?_
             | refine Ob.mk (Nat.le_of_ble_eq_true rfl) ?_
             | refine JoinVC.on ?_
             | refine Nils.mk (fun h => ?_) ?_
             | refine Val.mk _ (Int.tmod_eq_emod_of_nonneg (by omega)) ?_
             | refine Val.mk _ (Int.tdiv_eq_ediv_of_nonneg (by omega)) ?_
             | refine Mm.mk ?_
             | (refine Br.mk (fun h => ?_) (fun h => ?_) <;> first | (exfalso; omega; done) | (exfalso; simp at h; done) | skip))
    repeat refine Mm.mk ?_
    refine EndVC.mk _ rfl _ _ ⟨rfl, rfl⟩ ?_
    refine ⟨[], rfl, rfl, ?_, ?_⟩ <;> repeat' (first | exact trivial | exact rfl | exact Iff.rfl | apply And.intro)
theorem s54 (xs ys : List Int) (hl : xs.length = ys.length) (hb : xs.length ≤ 1073741824) : PSpec Try.prog 54 [lN xs, lN ys] (.x (.one (.prp (lexL xs ys) (Classical.propDecidable _)))) := by
  have lx := i64s_len xs
  have ly := i64s_len ys
  refine spec_of pMix (O := []) Try.func54 (c := bodyOf Try.f54) rfl (by kernel_rfl) (by kernel_rfl) Try.ntmps54 (res := [.tmp 4]) (by kernel_rfl) ?_
  repeat' (conv => whnf
           first
           | refine Rng.ok (by simp only [inR]; omega) ?_
           | refine Ob.mk (by first | omega | (simp; done) | decide | (simp; omega)) ?_
           | refine Ob.mk (show eqOK _ _ = true from by kernel_rfl) ?_
           | refine Ob.mk (show keyOK _ _ _ = true from by kernel_rfl) ?_
           | refine Val.mk _ (shr_val (by simp; rfl)) ?_
           | refine Ob.mk (Nat.le_of_ble_eq_true rfl) ?_
           | refine JoinVC.on ?_
           | refine Nils.mk (fun h => ?_) ?_
           | refine Val.mk _ (Int.tmod_eq_emod_of_nonneg (by omega)) ?_
           | refine Val.mk _ (Int.tdiv_eq_ediv_of_nonneg (by omega)) ?_
           | refine Mm.mk ?_
           | (refine Br.mk (fun h => ?_) (fun h => ?_) <;> first | (exfalso; omega; done) | (exfalso; simp at h; done) | skip))
  refine LoopVC.mk (fun n st => ∃ i : Nat, i ≤ xs.length ∧ n = xs.length - i ∧ xs.take i = ys.take i ∧ st = ⟨0, envA 36 [(0, .x (lN xs)), (1, .x (lN ys)), (5, .int .i64 (i : Int))], []⟩) _ _ ⟨0, Nat.zero_le _, rfl, rfl, rfl⟩ ?_ ?_
  · refine ⟨[], rfl, rfl, ?_, ?_⟩ <;> repeat' (first | exact trivial | exact rfl | exact Iff.rfl | apply And.intro)
  rintro n _ ⟨i, hi, hn, hE, rfl⟩
  have gx : rI (i64s xs) (i : Int).toNat 0 = xs.getD i 0 := by rw [Int.toNat_natCast, i64s_get]
  have gy : rI (i64s ys) (i : Int).toNat 0 = ys.getD i 0 := by rw [Int.toNat_natCast, i64s_get]
  by_cases hi' : i < xs.length
  · have e1 : xs = xs.take i ++ xs.getD i 0 :: xs.drop (i + 1) := by
      rw [List.getD_eq_getElem?_getD, List.getElem?_eq_getElem hi', Option.getD_some, List.getElem_cons_drop, List.take_append_drop]
    have e2 : ys = xs.take i ++ ys.getD i 0 :: ys.drop (i + 1) := by
      rw [hE, List.getD_eq_getElem?_getD, List.getElem?_eq_getElem (by omega), Option.getD_some, List.getElem_cons_drop, List.take_append_drop]
    have sx : xs.take (i + 1) = xs.take i ++ [xs.getD i 0] := by
      rw [List.take_add_one, List.getD_eq_getElem?_getD, List.getElem?_eq_getElem hi']; rfl
    have sy : ys.take (i + 1) = ys.take i ++ [ys.getD i 0] := by
      rw [List.take_add_one, List.getD_eq_getElem?_getD, List.getElem?_eq_getElem (by omega)]; rfl
    have key : xs.getD i 0 ≠ ys.getD i 0 → (lexL xs ys ↔ xs.getD i 0 < ys.getD i 0) := by
      intro hne
      generalize xs.getD i 0 = a at *
      generalize ys.getD i 0 = b at *
      rw [e1, e2]
      constructor
      · intro h
        rcases Int.lt_trichotomy a b with h1 | h1 | h1
        · exact h1
        · exact absurd h1 hne
        · have h3 : lexL (List.take i xs ++ b :: List.drop (i + 1) ys) (List.take i xs ++ a :: List.drop (i + 1) xs) := lexL_same _ (.inl h1)
          exact absurd (lexL_trans h h3) (lexL_irr _)
      · exact fun h => lexL_same _ (.inl h)
    repeat' (conv => whnf
             first
             | refine Rng.ok (by simp only [inR]; omega) ?_
             | refine Ob.mk (by first | omega | (simp; done) | decide | (simp; omega)) ?_
             | refine Ob.mk (show eqOK _ _ = true from by kernel_rfl) ?_
             | refine Ob.mk (show keyOK _ _ _ = true from by kernel_rfl) ?_
             | refine Val.mk _ (shr_val (by simp; rfl)) ?_
             | refine Ob.mk (Nat.le_of_ble_eq_true rfl) ?_
             | refine JoinVC.on ?_
             | refine Nils.mk (fun h => ?_) ?_
             | refine Val.mk _ (Int.tmod_eq_emod_of_nonneg (by omega)) ?_
             | refine Val.mk _ (Int.tdiv_eq_ediv_of_nonneg (by omega)) ?_
             | refine Mm.mk ?_
             | (refine Br.mk (fun h => ?_) (fun h => ?_) <;> first | (exfalso; omega; done) | (exfalso; simp at h; done) | skip))
    · rw [gx, gy] at h
      repeat refine Mm.mk ?_
      refine EndVC.mk _ rfl _ _ ⟨rfl, rfl⟩ ?_
      refine ⟨[], rfl, rfl, ?_, ?_⟩ <;> repeat' (first | exact trivial | exact rfl | exact Iff.rfl | apply And.intro)
      rw [gx, gy]
      exact (key h).symm
    · rw [gx, gy] at h
      refine Back.mk (xs.length - (i + 1)) _ (by omega) ⟨i + 1, by omega, rfl, by rw [sx, sy, hE, Decidable.not_not.1 h], rfl⟩ ?_
      refine ⟨[], rfl, rfl, ?_, ?_⟩ <;> repeat' (first | exact trivial | exact rfl | exact Iff.rfl | apply And.intro)
  · have e1 : xs.take i = xs := List.take_of_length_le (by omega)
    have e2 : ys.take i = ys := List.take_of_length_le (by omega)
    have : xs = ys := by rw [← e1, hE, e2]
    repeat' (conv => whnf
             first
             | refine Rng.ok (by simp only [inR]; omega) ?_
             | refine Ob.mk (by first | omega | (simp; done) | decide | (simp; omega)) ?_
             | refine Ob.mk (show eqOK _ _ = true from by kernel_rfl) ?_
             | refine Ob.mk (show keyOK _ _ _ = true from by kernel_rfl) ?_
             | refine Val.mk _ (shr_val (by simp; rfl)) ?_
             | refine Ob.mk (Nat.le_of_ble_eq_true rfl) ?_
             | refine JoinVC.on ?_
             | refine Nils.mk (fun h => ?_) ?_
             | refine Val.mk _ (Int.tmod_eq_emod_of_nonneg (by omega)) ?_
             | refine Val.mk _ (Int.tdiv_eq_ediv_of_nonneg (by omega)) ?_
             | refine Mm.mk ?_
             | (refine Br.mk (fun h => ?_) (fun h => ?_) <;> first | (exfalso; omega; done) | (exfalso; simp at h; done) | skip))
    repeat refine Mm.mk ?_
    refine EndVC.mk _ rfl _ _ ⟨rfl, rfl⟩ ?_
    refine ⟨[], rfl, rfl, ?_, ?_⟩ <;> repeat' (first | exact trivial | exact rfl | exact Iff.rfl | apply And.intro)
    subst this
    exact lexL_irr _
end Go.Sx

namespace Go.Sx
open Go Go.Proofs
set_option maxRecDepth 10000
theorem e62 : EntersF Try.prog 62 := enters_of Try.func62 (c := bodyOf Try.f62) (by kernel_rfl) rfl
theorem e63 : EntersF Try.prog 63 := enters_of Try.func63 (c := bodyOf Try.f63) (by kernel_rfl) rfl
theorem e24 : EntersF Try.prog 24 := enters_of Try.func24 (c := bodyOf Try.f24) (by kernel_rfl) rfl
theorem e25 : EntersF Try.prog 25 := enters_of Try.func25 (c := bodyOf Try.f25) (by kernel_rfl) rfl
theorem e26 : EntersF Try.prog 26 := enters_of Try.func26 (c := bodyOf Try.f26) (by kernel_rfl) rfl
theorem e4 : EntersF Try.prog 4 := enters_of Try.func4 (c := bodyOf Try.f4) (by kernel_rfl) rfl
theorem s62 (p q s r n : Int) : PSpec Try.prog 62 [I p, I q, I s, I r, I n] (.x (I (boilE p q s r n))) := by
  have bad : ¬ Boil p q s r → (3 : Int) = boilE p q s r n := fun h => (if_neg h).symm
  refine spec_of pMix (O := []) Try.func62 (c := bodyOf Try.f62) rfl (by kernel_rfl) (by kernel_rfl) Try.ntmps62 (res := [.tmp 10]) (by kernel_rfl) ?_
  repeat refine Mm.mk ?_
  try refine JoinVC.on ?_
  refine Br.mk (fun h1 => ?_) (fun h1 => ?_)
  · repeat refine Mm.mk ?_
    refine EndVC.mk _ rfl _ _ ⟨rfl, rfl⟩ ⟨[], rfl, rfl, ⟨⟨rfl, ?_⟩, trivial⟩, trivial⟩
    exact bad (by unfold Boil; omega)
  repeat refine Mm.mk ?_
  try refine JoinVC.on ?_
  refine Br.mk (fun h2 => ?_) (fun h2 => ?_)
  · repeat refine Mm.mk ?_
    refine EndVC.mk _ rfl _ _ ⟨rfl, rfl⟩ ⟨[], rfl, rfl, ⟨⟨rfl, ?_⟩, trivial⟩, trivial⟩
    exact bad (by unfold Boil; omega)
  repeat refine Mm.mk ?_
  try refine JoinVC.on ?_
  refine Br.mk (fun h3 => ?_) (fun h3 => ?_)
  · repeat refine Mm.mk ?_
    refine EndVC.mk _ rfl _ _ ⟨rfl, rfl⟩ ⟨[], rfl, rfl, ⟨⟨rfl, ?_⟩, trivial⟩, trivial⟩
    exact bad (by unfold Boil; omega)
  repeat refine Mm.mk ?_
  try refine JoinVC.on ?_
  refine Br.mk (fun h4 => ?_) (fun h4 => ?_)
  · repeat refine Mm.mk ?_
    refine EndVC.mk _ rfl _ _ ⟨rfl, rfl⟩ ⟨[], rfl, rfl, ⟨⟨rfl, ?_⟩, trivial⟩, trivial⟩
    exact bad (by unfold Boil; omega)
  repeat refine Mm.mk ?_
  conv => whnf
  first | refine CallVC.pure rfl (s58 _ _ _) ?_ | refine CallVC0.pure rfl (s58 _ _ _) ?_
  repeat refine Mm.mk ?_
  try refine JoinVC.on ?_
  refine Br.mk (fun h5 => ?_) (fun h5 => ?_)
  · repeat refine Mm.mk ?_
    refine EndVC.mk _ rfl _ _ ⟨rfl, rfl⟩ ⟨[], rfl, rfl, ⟨⟨rfl, ?_⟩, trivial⟩, trivial⟩
    exact bad (by unfold Boil; omega)
  repeat refine Mm.mk ?_
  conv => whnf
  first | refine CallVC.pure rfl (s58 _ _ _) ?_ | refine CallVC0.pure rfl (s58 _ _ _) ?_
  repeat refine Mm.mk ?_
  try refine JoinVC.on ?_
  refine Br.mk (fun h6 => ?_) (fun h6 => ?_)
  · repeat refine Mm.mk ?_
    refine EndVC.mk _ rfl _ _ ⟨rfl, rfl⟩ ⟨[], rfl, rfl, ⟨⟨rfl, ?_⟩, trivial⟩, trivial⟩
    exact bad (by unfold Boil; omega)
  have hb : Boil p q s r := by unfold Boil; omega
  repeat refine Mm.mk ?_
  try refine JoinVC.on ?_
  refine Br.mk (fun h7 => ?_) (fun h7 => ?_)
  · repeat refine Mm.mk ?_
    refine EndVC.mk _ rfl _ _ ⟨rfl, rfl⟩ ⟨[], rfl, rfl, ⟨⟨rfl, ?_⟩, trivial⟩, trivial⟩
    rw [boilE, if_pos hb, if_neg (by omega)]
  repeat refine Mm.mk ?_
  try refine JoinVC.on ?_
  refine Br.mk (fun h8 => ?_) (fun h8 => ?_)
  · repeat refine Mm.mk ?_
    refine EndVC.mk _ rfl _ _ ⟨rfl, rfl⟩ ⟨[], rfl, rfl, ⟨⟨rfl, ?_⟩, trivial⟩, trivial⟩
    rw [boilE, if_pos hb, if_neg (by omega)]
  · repeat refine Mm.mk ?_
    refine EndVC.mk _ rfl _ _ ⟨rfl, rfl⟩ ⟨[], rfl, rfl, ⟨⟨rfl, ?_⟩, trivial⟩, trivial⟩
    rw [boilE, if_pos hb, if_pos (by omega)]
/-- How many of the first k starts are less than 'long' before t. -/
def busyK (xs : List Int) (t long : Int) : Nat → Nat
  | 0 => 0
  | k + 1 => if t - xs.getD k 0 < long then busyK xs t long k + 1 else busyK xs t long k
theorem busyK_le (xs : List Int) (t long : Int) : ∀ k, busyK xs t long k ≤ k
  | 0 => Nat.le_refl _
  | k + 1 => by
    have := busyK_le xs t long k
    unfold busyK
    split <;> omega
theorem s63 (xs : List Int) (t long : Int) (hx : xs.length ≤ 1099511627776) (ht : 0 ≤ t) (hs : ∀ j, 0 ≤ xs.getD j 0) (ht2 : t ≤ 9223372036854775807) (hs2 : ∀ j, xs.getD j 0 ≤ 9223372036854775807) : PSpec Try.prog 63 [lI xs, I t, I long] (.x (I (busyK xs t long xs.length))) := by
  have lx := i64s_len xs
  refine spec_of pMix (O := []) Try.func63 (c := bodyOf Try.f63) rfl (by kernel_rfl) (by kernel_rfl) Try.ntmps63 (res := [.tmp 6]) (by kernel_rfl) ?_
  refine LoopVC.mk (fun n st => ∃ k : Nat, n = xs.length - k ∧ k ≤ xs.length ∧ st = ⟨0, envA 26 [(0, .x (lI xs)), (1, .x (I t)), (2, .x (I long)), (7, .int .i64 (busyK xs t long k : Int)), (8, .int .i64 (k : Int))], []⟩) _ _ ⟨0, rfl, Nat.zero_le _, rfl⟩ ?_ ?_
  · refine ⟨[], rfl, rfl, ?_, ?_⟩ <;> repeat' (first | exact trivial | exact rfl | exact Iff.rfl | apply And.intro)
  · rintro m _ ⟨k, hm, hk, rfl⟩
    repeat refine Mm.mk ?_
    try refine JoinVC.on ?_
    refine Br.mk (fun h1 => ?_) (fun h1 => ?_)
    · repeat refine Mm.mk ?_
      refine Ob.mk (by omega) ?_
      have g := i64s_get xs (k : Int).toNat
      rw [Int.toNat_natCast] at g
      have b1 := hs k
      have b2 := hs2 k
      have b3 := busyK_le xs t long k
      repeat refine Mm.mk ?_
      refine Rng.ok (by simp only [inR]; (rw [Int.toNat_natCast]; omega)) ?_
      repeat refine Mm.mk ?_
      try refine JoinVC.on ?_
      refine Br.mk (fun h2 => ?_) (fun h2 => ?_)
      · rw [Int.toNat_natCast, g] at h2
        repeat refine Mm.mk ?_
        refine Rng.ok (by simp only [inR]; omega) ?_
        repeat refine Mm.mk ?_
        refine Rng.ok (by simp only [inR]; omega) ?_
        refine Back.mk (xs.length - (k + 1)) _ (by omega) ⟨k + 1, rfl, by omega, rfl⟩ ?_
        refine ⟨[], rfl, rfl, ?_, ?_⟩ <;> repeat' (first | exact trivial | exact rfl | exact Iff.rfl | apply And.intro)
        rw [busyK, if_pos h2]; rfl
      · rw [Int.toNat_natCast, g] at h2
        repeat refine Mm.mk ?_
        refine Rng.ok (by simp only [inR]; omega) ?_
        refine Back.mk (xs.length - (k + 1)) _ (by omega) ⟨k + 1, rfl, by omega, rfl⟩ ?_
        refine ⟨[], rfl, rfl, ?_, ?_⟩ <;> repeat' (first | exact trivial | exact rfl | exact Iff.rfl | apply And.intro)
        rw [busyK, if_neg h2]
    · have e : k = xs.length := by omega
      subst e
      repeat refine Mm.mk ?_
      refine EndVC.mk _ rfl _ _ ⟨rfl, rfl⟩ ⟨[], rfl, rfl, ⟨⟨rfl, ?_⟩, trivial⟩, trivial⟩
      rfl
end Go.Sx

namespace Go.Sx
open Go Go.Proofs
set_option maxRecDepth 10000
/-- Sorted from the first on. -/
def Srt (xs : List Int) (k : Nat) : Prop := ∀ i j, i ≤ j → j < k → xs.getD i 0 ≤ xs.getD j 0
theorem busyK_cut {xs : List Int} {t long : Int} : ∀ k, Srt xs k → ∃ m, m ≤ k ∧ (∀ j, j < k → (t - xs.getD j 0 < long ↔ m ≤ j)) ∧ busyK xs t long k = k - m
  | 0, _ => ⟨0, Nat.le_refl _, fun j h => absurd h (Nat.not_lt_zero j), rfl⟩
  | k + 1, hs => by
    obtain ⟨m, h1, h2, h3⟩ := busyK_cut (t := t) (long := long) k (fun i j hij hj => hs i j hij (by omega))
    by_cases hp : t - xs.getD k 0 < long
    · refine ⟨m, by omega, fun j hj => ?_, by rw [busyK, if_pos hp, h3]; omega⟩
      rcases Nat.lt_or_ge j k with h | h
      · exact h2 j h
      · have : j = k := by omega
        subst this
        exact ⟨fun _ => h1, fun _ => hp⟩
    · have hm : m = k := by
        rcases Nat.lt_or_ge m k with h | h
        · have := (h2 m h).2 (Nat.le_refl _)
          have := hs m k (by omega) (by omega)
          omega
        · omega
      refine ⟨k + 1, Nat.le_refl _, fun j hj => ⟨fun h => ?_, fun h => by omega⟩, by rw [busyK, if_neg hp, h3, hm]; omega⟩
      have := hs j k (by omega) (by omega)
      omega
theorem busyK_lt {xs : List Int} {t long : Int} {k c : Nat} (hs : Srt xs k) (hc : 1 ≤ c) : busyK xs t long k < c ↔ (k < c ∨ xs.getD (k - c) 0 + long ≤ t) := by
  obtain ⟨m, h1, h2, h3⟩ := busyK_cut (t := t) (long := long) k hs
  rw [h3]
  by_cases hk : k < c
  · exact ⟨fun _ => .inl hk, fun _ => by omega⟩
  · have := h2 (k - c) (by omega)
    constructor
    · intro h; right
      have : ¬ m ≤ k - c := by omega
      omega
    · intro h
      rcases h with h | h
      · omega
      · have : ¬ m ≤ k - c := by omega
        omega
theorem st0_le {p q s r : Int} (out : List Int) : st0 out ≤ stNext p q s r out := by
  unfold stNext st1 mx
  split <;> split <;> (try split) <;> (try split) <;> omega
theorem stList_srt {p q s r : Int} (hB : Boil p q s r) : ∀ k, Srt (stList p q s r k) k ∧ ∀ j, (stList p q s r k).getD j 0 ≤ st0 (stList p q s r k)
  | 0 => ⟨fun i j _ h => absurd h (Nat.not_lt_zero j), fun j => by simp [stList, st0]⟩
  | k + 1 => by
    obtain ⟨h1, h2⟩ := stList_srt hB k
    have hl := stList_len p q s r k
    have h3 := st0_le (p := p) (q := q) (s := s) (r := r) (stList p q s r k)
    have h0 := (st_bd hB (k + 1) k).1
    rw [stList, getD_app, hl, if_neg (Nat.lt_irrefl k), if_pos rfl] at h0
    have e0 : st0 (stList p q s r (k + 1)) = stNext p q s r (stList p q s r k) := by
      unfold st0
      rw [stList_len, if_pos (by omega), stList, getD_app, hl, if_neg (by omega), if_pos (by omega)]
    refine ⟨fun i j hij hj => ?_, fun j => ?_⟩
    · rw [stList, getD_app, getD_app, hl]
      rcases Nat.lt_or_ge j k with h | h
      · rw [if_pos h, if_pos (by omega)]; exact h1 i j hij h
      · have : j = k := by omega
        subst this
        rw [if_neg (Nat.lt_irrefl j), if_pos rfl]
        rcases Nat.lt_or_ge i j with h4 | h4
        · rw [if_pos h4]; exact Int.le_trans (h2 i) h3
        · rw [if_neg (by omega), if_pos (by omega)]; exact Int.le_refl _
    · rw [e0, stList, getD_app]
      split
      · exact Int.le_trans (h2 j) h3
      · split
        · exact Int.le_refl _
        · exact h0
/-- Is a disc possible at t? -/
theorem feasible {p q s r : Int} (hB : Boil p q s r) (k : Nat) {t : Int} (ht : st0 (stList p q s r k) ≤ t) :
    (((busyK (stList p q s r k) t s k : Nat) : Int) < q ∧ ((busyK (stList p q s r k) t (s + r) k : Nat) : Int) < p) ↔ stNext p q s r (stList p q s r k) ≤ t := by
  obtain ⟨h1, h2⟩ := stList_srt hB k
  have hl := stList_len p q s r k
  unfold Boil at hB
  have b1 := busyK_lt (t := t) (long := s) (c := q.toNat) h1 (by omega)
  have b2 := busyK_lt (t := t) (long := s + r) (c := p.toNat) h1 (by omega)
  have e1 : ((k : Int) - q).toNat = k - q.toNat := by omega
  have e2 : ((k : Int) - p).toNat = k - p.toNat := by omega
  unfold stNext st1 mx
  rw [hl, e1, e2]
  generalize busyK (stList p q s r k) t s k = x at b1
  generalize busyK (stList p q s r k) t (s + r) k = y at b2
  generalize (stList p q s r k).getD (k - q.toNat) 0 = u at b1
  generalize (stList p q s r k).getD (k - p.toNat) 0 = v at b2
  split <;> split <;> (try split) <;> (try split) <;> omega
end Go.Sx

namespace Go.Sx
open Go Go.Proofs
set_option maxRecDepth 10000
def mn (a b : Int) : Int := if b < a then b else a
def nx1 (t x a : Int) : Int := if t < x then mn a x else a
/-- The next time at which something ends. -/
def nxK (s r : Int) (out : List Int) (t : Int) : Nat → Int
  | 0 => t + s + r
  | i + 1 => nx1 t (out.getD i 0 + s + r) (nx1 t (out.getD i 0 + s) (nxK s r out t i))
theorem nx1_gt {t x a : Int} (h : t < a) : t < nx1 t x a := by unfold nx1 mn; split <;> (try split) <;> omega
theorem nx1_le (t x a : Int) : nx1 t x a ≤ a ∧ (t < x → nx1 t x a ≤ x) := by
  unfold nx1 mn
  constructor
  · split <;> (try split) <;> omega
  · intro h; rw [if_pos h]; split <;> omega
theorem nxK_gt {s r t : Int} (out : List Int) (h : 1 ≤ s) (h' : 1 ≤ r) : ∀ i, t < nxK s r out t i
  | 0 => by unfold nxK; omega
  | i + 1 => nx1_gt (nx1_gt (nxK_gt out h h' i))
theorem nxK_le {s r t : Int} (out : List Int) : ∀ i, nxK s r out t i ≤ t + s + r ∧ ∀ j, j < i → (t < out.getD j 0 + s → nxK s r out t i ≤ out.getD j 0 + s) ∧ (t < out.getD j 0 + s + r → nxK s r out t i ≤ out.getD j 0 + s + r)
  | 0 => ⟨Int.le_refl _, fun j h => absurd h (Nat.not_lt_zero j)⟩
  | i + 1 => by
    obtain ⟨h1, h2⟩ := nxK_le (s := s) (r := r) (t := t) out i
    have a1 := nx1_le t (out.getD i 0 + s) (nxK s r out t i)
    have a2 := nx1_le t (out.getD i 0 + s + r) (nx1 t (out.getD i 0 + s) (nxK s r out t i))
    have hs : nxK s r out t (i + 1) ≤ nxK s r out t i := Int.le_trans a2.1 a1.1
    refine ⟨by omega, fun j hj => ?_⟩
    rcases Nat.lt_or_ge j i with h | h
    · have := h2 j h
      exact ⟨fun h => Int.le_trans hs (this.1 h), fun h => Int.le_trans hs (this.2 h)⟩
    · have : j = i := by omega
      subst this
      exact ⟨fun h => Int.le_trans a2.1 (a1.2 h), fun h => a2.2 h⟩
theorem st1_or (q s : Int) (out : List Int) (t : Int) : st1 q s out t = t ∨ (0 ≤ (out.length : Int) - q ∧ st1 q s out t = out.getD ((out.length : Int) - q).toNat 0 + s) := by
  unfold st1 mx
  split
  · split
    · exact .inr ⟨by assumption, rfl⟩
    · exact .inl rfl
  · exact .inl rfl
theorem nxK_next {p q s r : Int} (hB : Boil p q s r) (k : Nat) {t : Int} (ht : st0 (stList p q s r k) ≤ t) (hlt : t < stNext p q s r (stList p q s r k)) : nxK s r (stList p q s r k) t k ≤ stNext p q s r (stList p q s r k) := by
  obtain ⟨_, h2⟩ := nxK_le (s := s) (r := r) (t := t) (stList p q s r k) k
  have hl := stList_len p q s r k
  unfold Boil at hB
  unfold stNext at hlt ⊢
  have o1 := st1_or q s (stList p q s r k) (st0 (stList p q s r k))
  generalize st1 q s (stList p q s r k) (st0 (stList p q s r k)) = t1 at o1 hlt ⊢
  have o2 := st1_or p (s + r) (stList p q s r k) t1
  generalize st1 p (s + r) (stList p q s r k) t1 = T at o2 hlt ⊢
  rw [hl] at o1 o2
  rcases o2 with o2 | ⟨o2, o3⟩
  · rcases o1 with o1 | ⟨o1, o4⟩
    · omega
    · have k1 := (h2 ((k : Int) - q).toNat (by omega)).1
      omega
  · have k2 := (h2 ((k : Int) - p).toNat (by omega)).2
    omega
end Go.Sx

namespace Go.Sx
open Go Go.Proofs
set_option maxRecDepth 10000
set_option maxHeartbeats 1000000
theorem s24 (p q s r n : Int) : PSpec Try.prog 24 [I p, I q, I s, I r, I n] (.tup [.one (.lst false [.int .i64] (i64s (stRes p q s r n))), I (boilE p q s r n)]) := by
  refine spec_of pMix (O := []) Try.func24 (c := bodyOf Try.f24) rfl (by kernel_rfl) (by kernel_rfl) Try.ntmps24 (res := [.tmp 10, .tmp 11]) (by kernel_rfl) ?_
  repeat refine Mm.mk ?_
  conv => whnf
  first | refine CallVC.pure rfl (s62 p q s r n) ?_ | refine CallVC0.pure rfl (s62 p q s r n) ?_
  repeat refine Mm.mk ?_
  try refine JoinVC.on ?_
  refine Br.mk (fun h0 => ?_) (fun h0 => ?_)
  · have e : stRes p q s r n = [] := if_neg h0
    rw [e]
    repeat refine Mm.mk ?_
    refine EndVC.mk _ rfl _ _ ⟨rfl, rfl⟩ ?_
    refine ⟨[], rfl, rfl, ?_, ?_⟩ <;> repeat' (first | exact trivial | exact rfl | exact Iff.rfl | apply And.intro)
  have h0 := Decidable.not_not.1 h0
  have hB : Boil p q s r := by
    apply Decidable.byContradiction
    intro h; rw [boilE, if_neg h] at h0; cases h0
  have hn : 0 ≤ n ∧ n ≤ 1000 := by
    apply Decidable.byContradiction
    intro h; rw [boilE, if_pos hB, if_neg h] at h0; cases h0
  have hB' := hB
  unfold Boil at hB
  refine LoopVC.mk (fun m st => ∃ (k : Nat) (t : Int), (k : Int) ≤ n ∧ st0 (stList p q s r k) ≤ t ∧ t ≤ stNext p q s r (stList p q s r k) ∧ m = (n.toNat - k) * 1099511627776 + (549755813888 - t.toNat) ∧ st = ⟨0, envA 99 [(0, .x (I p)), (1, .x (I q)), (2, .x (I s)), (3, .x (I r)), (4, .x (I n)), (13, .x (.one (.own 0))), (14, .x (I t))], [some (.row 2 false [.int .i64] (i64s (stList p q s r k)))]⟩) _ _ ⟨0, 0, by omega, by simp [stList, st0], st0_le [], rfl, rfl⟩ ?_ ?_
  · refine ⟨[none], rfl, rfl, ?_, ?_⟩ <;> repeat' (first | exact trivial | exact rfl | exact Iff.rfl | apply And.intro)
  · rintro m _ ⟨k, t, hk, ht1, ht2, hm, rfl⟩
    have hl : (i64s (stList p q s r k)).length = k := by rw [i64s_len, stList_len]
    have hl2 := stList_len p q s r k
    have hbd := st_bd hB' k
    have hnb := st_bd hB' (k + 1) k
    rw [stList, getD_app, hl2, if_neg (Nat.lt_irrefl k), if_pos rfl] at hnb
    have h00 : 0 ≤ st0 (stList p q s r k) := by
      unfold st0; split
      · exact (hbd _).1
      · omega
    have hf := feasible hB' k ht1
    repeat refine Mm.mk ?_
    try refine JoinVC.on ?_
    refine Br.mk (fun h => ?_) (fun h => ?_)
    · repeat refine Mm.mk ?_
      conv => whnf
      first | refine CallVC.pure rfl (s63 (stList p q s r k) t s (by omega) (by omega) (fun j => (hbd j).1) (by omega) (fun j => by have := (hbd j).2; omega)) ?_ | refine CallVC0.pure rfl (s63 (stList p q s r k) t s (by omega) (by omega) (fun j => (hbd j).1) (by omega) (fun j => by have := (hbd j).2; omega)) ?_
      rw [hl2]
      repeat refine Mm.mk ?_
      try refine JoinVC.on ?_
      refine Br.mk (fun h1 => ?_) (fun h1 => ?_)
      · repeat refine Mm.mk ?_
        refine Rng.ok (by simp only [inR]; omega) ?_
        repeat refine Mm.mk ?_
        conv => whnf
        first | refine CallVC.pure rfl (s63 (stList p q s r k) t (s + r) (by omega) (by omega) (fun j => (hbd j).1) (by omega) (fun j => by have := (hbd j).2; omega)) ?_ | refine CallVC0.pure rfl (s63 (stList p q s r k) t (s + r) (by omega) (by omega) (fun j => (hbd j).1) (by omega) (fun j => by have := (hbd j).2; omega)) ?_
        rw [hl2]
        repeat refine Mm.mk ?_
        try refine JoinVC.on ?_
        refine Br.mk (fun h2 => ?_) (fun h2 => ?_)
        · have ht3 := hf.1 ⟨h1, h2⟩
          have e : t = stNext p q s r (stList p q s r k) := by omega
          have e0 : st0 (stList p q s r (k + 1)) = t := by
            unfold st0
            rw [stList_len, if_pos (by omega), stList, getD_app, hl2, if_neg (by omega), if_pos (by omega), e]
          repeat refine Mm.mk ?_
          refine Ob.mk (by simp only [i64s_len, stList_len, List.length_cons, List.length_nil, eb]; omega) ?_
          refine Back.mk ((n.toNat - (k + 1)) * 1099511627776 + (549755813888 - t.toNat)) _ (by omega) ⟨k + 1, t, by omega, by omega, by rw [← e0]; exact st0_le _, rfl, rfl⟩ ?_
          refine ⟨[some 2], rfl, rfl, ?_, ?_⟩ <;> repeat' (first | exact trivial | exact rfl | exact Iff.rfl | apply And.intro)
          rw [stList, i64s_snoc, ← e]
        · have hlt0 : ¬ stNext p q s r (stList p q s r k) ≤ t := fun h => h2 (hf.2 h).2
          repeat refine Mm.mk ?_
          refine Rng.ok (by simp only [inR]; omega) ?_
          repeat refine Mm.mk ?_
          refine Rng.ok (by simp only [inR]; omega) ?_
          refine LoopVC.mk (fun m st => ∃ i : Nat, i ≤ k ∧ m = k - i ∧ st = ⟨0, envA 99 [(0, .x (I p)), (1, .x (I q)), (2, .x (I s)), (3, .x (I r)), (4, .x (I n)), (13, .x (.one (.own 0))), (14, .x (I t)), (15, .x (I (nxK s r (stList p q s r k) t i))), (16, .int .i64 (i : Int))], [some (.row 2 false [.int .i64] (i64s (stList p q s r k)))]⟩) k _ ⟨0, Nat.zero_le _, rfl, rfl⟩ ?_ ?_
          · refine ⟨[some 0], rfl, rfl, ?_, ?_⟩ <;> repeat' (first | exact trivial | exact rfl | exact Iff.rfl | apply And.intro)
          · rintro m1 _ ⟨i, hi, hm1, rfl⟩
            have gi : rI (i64s (stList p q s r k)) i 0 = (stList p q s r k).getD i 0 := i64s_get _ _
            have bi := st_bd hB' k i
            repeat refine Mm.mk ?_
            try refine JoinVC.on ?_
            refine Br.mk (fun g1 => ?_) (fun g1 => ?_)
            · repeat refine Mm.mk ?_
              refine Ob.mk (by omega) ?_
              repeat refine Mm.mk ?_
              refine Ob.mk (by omega) ?_
              repeat refine Mm.mk ?_
              refine Rng.ok (by simp only [inR]; (rw [Int.toNat_natCast, gi]; omega)) ?_
              repeat refine Mm.mk ?_
              try refine JoinVC.on ?_
              refine Br.mk (fun g2 => ?_) (fun g2 => ?_)
              · repeat refine Mm.mk ?_
                refine Ob.mk (by omega) ?_
                repeat refine Mm.mk ?_
                refine Ob.mk (by omega) ?_
                repeat refine Mm.mk ?_
                refine Rng.ok (by simp only [inR]; (rw [Int.toNat_natCast, gi]; omega)) ?_
                repeat refine Mm.mk ?_
                refine Ob.mk (by omega) ?_
                repeat refine Mm.mk ?_
                refine Ob.mk (by omega) ?_
                repeat refine Mm.mk ?_
                refine Rng.ok (by simp only [inR]; (rw [Int.toNat_natCast, gi]; omega)) ?_
                repeat refine Mm.mk ?_
                refine Rng.ok (by simp only [inR]; (rw [Int.toNat_natCast, gi]; omega)) ?_
                repeat refine Mm.mk ?_
                try refine JoinVC.on ?_
                refine Br.mk (fun g3 => ?_) (fun g3 => ?_)
                · repeat refine Mm.mk ?_
                  refine Ob.mk (by omega) ?_
                  repeat refine Mm.mk ?_
                  refine Ob.mk (by omega) ?_
                  repeat refine Mm.mk ?_
                  refine Rng.ok (by simp only [inR]; (rw [Int.toNat_natCast, gi]; omega)) ?_
                  repeat refine Mm.mk ?_
                  refine Rng.ok (by simp only [inR]; (rw [Int.toNat_natCast, gi]; omega)) ?_
                  repeat refine Mm.mk ?_
                  refine Rng.ok (by simp only [inR]; omega) ?_
                  refine Back.mk (k - (i + 1)) _ (by omega) ⟨i + 1, by omega, rfl, rfl⟩ ?_
                  refine ⟨[some 0], rfl, rfl, ?_, ?_⟩ <;> repeat' (first | exact trivial | exact rfl | exact Iff.rfl | apply And.intro)
                  rw [Int.toNat_natCast, gi] at g2 g3
                  rw [Int.toNat_natCast, gi, nxK, nx1, if_pos g3, nx1, if_pos g2]
                  rfl
                · repeat refine Mm.mk ?_
                  refine Rng.ok (by simp only [inR]; omega) ?_
                  refine Back.mk (k - (i + 1)) _ (by omega) ⟨i + 1, by omega, rfl, rfl⟩ ?_
                  refine ⟨[some 0], rfl, rfl, ?_, ?_⟩ <;> repeat' (first | exact trivial | exact rfl | exact Iff.rfl | apply And.intro)
                  rw [Int.toNat_natCast, gi] at g2 g3
                  rw [nxK, nx1, if_neg g3, nx1, if_pos g2]
                  rw [Int.toNat_natCast, gi]; rfl
              · repeat refine Mm.mk ?_
                refine Ob.mk (by omega) ?_
                repeat refine Mm.mk ?_
                refine Ob.mk (by omega) ?_
                repeat refine Mm.mk ?_
                refine Rng.ok (by simp only [inR]; (rw [Int.toNat_natCast, gi]; omega)) ?_
                repeat refine Mm.mk ?_
                refine Rng.ok (by simp only [inR]; (rw [Int.toNat_natCast, gi]; omega)) ?_
                repeat refine Mm.mk ?_
                try refine JoinVC.on ?_
                refine Br.mk (fun g3 => ?_) (fun g3 => ?_)
                · repeat refine Mm.mk ?_
                  refine Ob.mk (by omega) ?_
                  repeat refine Mm.mk ?_
                  refine Ob.mk (by omega) ?_
                  repeat refine Mm.mk ?_
                  refine Rng.ok (by simp only [inR]; (rw [Int.toNat_natCast, gi]; omega)) ?_
                  repeat refine Mm.mk ?_
                  refine Rng.ok (by simp only [inR]; (rw [Int.toNat_natCast, gi]; omega)) ?_
                  repeat refine Mm.mk ?_
                  refine Rng.ok (by simp only [inR]; omega) ?_
                  refine Back.mk (k - (i + 1)) _ (by omega) ⟨i + 1, by omega, rfl, rfl⟩ ?_
                  refine ⟨[some 0], rfl, rfl, ?_, ?_⟩ <;> repeat' (first | exact trivial | exact rfl | exact Iff.rfl | apply And.intro)
                  rw [Int.toNat_natCast, gi] at g2 g3
                  rw [Int.toNat_natCast, gi, nxK, nx1, if_pos g3, nx1, if_neg g2]
                  rfl
                · repeat refine Mm.mk ?_
                  refine Rng.ok (by simp only [inR]; omega) ?_
                  refine Back.mk (k - (i + 1)) _ (by omega) ⟨i + 1, by omega, rfl, rfl⟩ ?_
                  refine ⟨[some 0], rfl, rfl, ?_, ?_⟩ <;> repeat' (first | exact trivial | exact rfl | exact Iff.rfl | apply And.intro)
                  rw [Int.toNat_natCast, gi] at g2 g3
                  rw [nxK, nx1, if_neg g3, nx1, if_neg g2]

            · have e : i = k := by omega
              subst e
              have hlt : t < stNext p q s r (stList p q s r i) := by omega
              have c1 := nxK_gt (t := t) (stList p q s r i) (show 1 ≤ s by omega) (show 1 ≤ r by omega) i
              have c2 := nxK_next hB' i ht1 hlt
              refine Back.mk ((n.toNat - i) * 1099511627776 + (549755813888 - (nxK s r (stList p q s r i) t i).toNat)) _ (by omega) ⟨i, _, hk, by omega, c2, rfl, rfl⟩ ?_
              refine ⟨[some 0], rfl, rfl, ?_, ?_⟩ <;> repeat' (first | exact trivial | exact rfl | exact Iff.rfl | apply And.intro)
      · have hlt0 : ¬ stNext p q s r (stList p q s r k) ≤ t := fun h => h1 (hf.2 h).1
        repeat refine Mm.mk ?_
        refine Rng.ok (by simp only [inR]; omega) ?_
        repeat refine Mm.mk ?_
        refine Rng.ok (by simp only [inR]; omega) ?_
        refine LoopVC.mk (fun m st => ∃ i : Nat, i ≤ k ∧ m = k - i ∧ st = ⟨0, envA 99 [(0, .x (I p)), (1, .x (I q)), (2, .x (I s)), (3, .x (I r)), (4, .x (I n)), (13, .x (.one (.own 0))), (14, .x (I t)), (15, .x (I (nxK s r (stList p q s r k) t i))), (16, .int .i64 (i : Int))], [some (.row 2 false [.int .i64] (i64s (stList p q s r k)))]⟩) k _ ⟨0, Nat.zero_le _, rfl, rfl⟩ ?_ ?_
        · refine ⟨[some 0], rfl, rfl, ?_, ?_⟩ <;> repeat' (first | exact trivial | exact rfl | exact Iff.rfl | apply And.intro)
        · rintro m1 _ ⟨i, hi, hm1, rfl⟩
          have gi : rI (i64s (stList p q s r k)) i 0 = (stList p q s r k).getD i 0 := i64s_get _ _
          have bi := st_bd hB' k i
          repeat refine Mm.mk ?_
          try refine JoinVC.on ?_
          refine Br.mk (fun g1 => ?_) (fun g1 => ?_)
          · repeat refine Mm.mk ?_
            refine Ob.mk (by omega) ?_
            repeat refine Mm.mk ?_
            refine Ob.mk (by omega) ?_
            repeat refine Mm.mk ?_
            refine Rng.ok (by simp only [inR]; (rw [Int.toNat_natCast, gi]; omega)) ?_
            repeat refine Mm.mk ?_
            try refine JoinVC.on ?_
            refine Br.mk (fun g2 => ?_) (fun g2 => ?_)
            · repeat refine Mm.mk ?_
              refine Ob.mk (by omega) ?_
              repeat refine Mm.mk ?_
              refine Ob.mk (by omega) ?_
              repeat refine Mm.mk ?_
              refine Rng.ok (by simp only [inR]; (rw [Int.toNat_natCast, gi]; omega)) ?_
              repeat refine Mm.mk ?_
              refine Ob.mk (by omega) ?_
              repeat refine Mm.mk ?_
              refine Ob.mk (by omega) ?_
              repeat refine Mm.mk ?_
              refine Rng.ok (by simp only [inR]; (rw [Int.toNat_natCast, gi]; omega)) ?_
              repeat refine Mm.mk ?_
              refine Rng.ok (by simp only [inR]; (rw [Int.toNat_natCast, gi]; omega)) ?_
              repeat refine Mm.mk ?_
              try refine JoinVC.on ?_
              refine Br.mk (fun g3 => ?_) (fun g3 => ?_)
              · repeat refine Mm.mk ?_
                refine Ob.mk (by omega) ?_
                repeat refine Mm.mk ?_
                refine Ob.mk (by omega) ?_
                repeat refine Mm.mk ?_
                refine Rng.ok (by simp only [inR]; (rw [Int.toNat_natCast, gi]; omega)) ?_
                repeat refine Mm.mk ?_
                refine Rng.ok (by simp only [inR]; (rw [Int.toNat_natCast, gi]; omega)) ?_
                repeat refine Mm.mk ?_
                refine Rng.ok (by simp only [inR]; omega) ?_
                refine Back.mk (k - (i + 1)) _ (by omega) ⟨i + 1, by omega, rfl, rfl⟩ ?_
                refine ⟨[some 0], rfl, rfl, ?_, ?_⟩ <;> repeat' (first | exact trivial | exact rfl | exact Iff.rfl | apply And.intro)
                rw [Int.toNat_natCast, gi] at g2 g3
                rw [Int.toNat_natCast, gi, nxK, nx1, if_pos g3, nx1, if_pos g2]
                rfl
              · repeat refine Mm.mk ?_
                refine Rng.ok (by simp only [inR]; omega) ?_
                refine Back.mk (k - (i + 1)) _ (by omega) ⟨i + 1, by omega, rfl, rfl⟩ ?_
                refine ⟨[some 0], rfl, rfl, ?_, ?_⟩ <;> repeat' (first | exact trivial | exact rfl | exact Iff.rfl | apply And.intro)
                rw [Int.toNat_natCast, gi] at g2 g3
                rw [nxK, nx1, if_neg g3, nx1, if_pos g2]
                rw [Int.toNat_natCast, gi]; rfl
            · repeat refine Mm.mk ?_
              refine Ob.mk (by omega) ?_
              repeat refine Mm.mk ?_
              refine Ob.mk (by omega) ?_
              repeat refine Mm.mk ?_
              refine Rng.ok (by simp only [inR]; (rw [Int.toNat_natCast, gi]; omega)) ?_
              repeat refine Mm.mk ?_
              refine Rng.ok (by simp only [inR]; (rw [Int.toNat_natCast, gi]; omega)) ?_
              repeat refine Mm.mk ?_
              try refine JoinVC.on ?_
              refine Br.mk (fun g3 => ?_) (fun g3 => ?_)
              · repeat refine Mm.mk ?_
                refine Ob.mk (by omega) ?_
                repeat refine Mm.mk ?_
                refine Ob.mk (by omega) ?_
                repeat refine Mm.mk ?_
                refine Rng.ok (by simp only [inR]; (rw [Int.toNat_natCast, gi]; omega)) ?_
                repeat refine Mm.mk ?_
                refine Rng.ok (by simp only [inR]; (rw [Int.toNat_natCast, gi]; omega)) ?_
                repeat refine Mm.mk ?_
                refine Rng.ok (by simp only [inR]; omega) ?_
                refine Back.mk (k - (i + 1)) _ (by omega) ⟨i + 1, by omega, rfl, rfl⟩ ?_
                refine ⟨[some 0], rfl, rfl, ?_, ?_⟩ <;> repeat' (first | exact trivial | exact rfl | exact Iff.rfl | apply And.intro)
                rw [Int.toNat_natCast, gi] at g2 g3
                rw [Int.toNat_natCast, gi, nxK, nx1, if_pos g3, nx1, if_neg g2]
                rfl
              · repeat refine Mm.mk ?_
                refine Rng.ok (by simp only [inR]; omega) ?_
                refine Back.mk (k - (i + 1)) _ (by omega) ⟨i + 1, by omega, rfl, rfl⟩ ?_
                refine ⟨[some 0], rfl, rfl, ?_, ?_⟩ <;> repeat' (first | exact trivial | exact rfl | exact Iff.rfl | apply And.intro)
                rw [Int.toNat_natCast, gi] at g2 g3
                rw [nxK, nx1, if_neg g3, nx1, if_neg g2]

          · have e : i = k := by omega
            subst e
            have hlt : t < stNext p q s r (stList p q s r i) := by omega
            have c1 := nxK_gt (t := t) (stList p q s r i) (show 1 ≤ s by omega) (show 1 ≤ r by omega) i
            have c2 := nxK_next hB' i ht1 hlt
            refine Back.mk ((n.toNat - i) * 1099511627776 + (549755813888 - (nxK s r (stList p q s r i) t i).toNat)) _ (by omega) ⟨i, _, hk, by omega, c2, rfl, rfl⟩ ?_
            refine ⟨[some 0], rfl, rfl, ?_, ?_⟩ <;> repeat' (first | exact trivial | exact rfl | exact Iff.rfl | apply And.intro)
    · have e : (k : Int) = n := by omega
      have e2 : stRes p q s r n = stList p q s r k := by rw [stRes, if_pos h0]; congr 1; omega
      rw [h0, e2]
      repeat refine Mm.mk ?_
      refine EndVC.mk _ rfl _ _ ⟨rfl, rfl⟩ ?_
      refine ⟨[], rfl, rfl, ?_, ?_⟩ <;> repeat' (first | exact trivial | exact rfl | exact Iff.rfl | apply And.intro)
end Go.Sx

namespace Go.Sx
open Go Go.Proofs
set_option maxRecDepth 10000
/-- The first of the numbers from i on, f of them, with P; none: the number behind them. -/
def firstN (P : Nat → Prop) [DecidablePred P] : Nat → Nat → Nat
  | 0, i => i
  | f + 1, i => if P i then i else firstN P f (i + 1)
theorem firstN_at {P : Nat → Prop} [DecidablePred P] : ∀ (f i k : Nat), (∀ j, i ≤ j → j < k → ¬ P j) → i ≤ k → (k < i + f → P k) → k ≤ i + f → firstN P f i = k
  | 0, i, k, _, h2, _, h4 => by unfold firstN; omega
  | f + 1, i, k, h1, h2, h3, h4 => by
    unfold firstN
    by_cases hk : i = k
    · subst hk
      rw [if_pos (h3 (by omega))]
    · rw [if_neg (h1 i (Nat.le_refl _) (by omega))]
      exact firstN_at f (i + 1) k (fun j hj => h1 j (by omega)) (by omega) (fun h => h3 (by omega)) (by omega)
def Bad1 (xs : List Int) (i : Nat) : Prop := xs.getD i 0 < (if i = 0 then 0 else xs.getD (i - 1) 0)
def Bad2 (p q s r : Int) (xs : List Int) (i : Nat) : Prop := (q ≤ i ∧ xs.getD i 0 - xs.getD ((i : Int) - q).toNat 0 < s) ∨ (p ≤ i ∧ xs.getD i 0 - xs.getD ((i : Int) - p).toNat 0 < s + r)
instance (xs : List Int) : DecidablePred (Bad1 xs) := fun i => by unfold Bad1; exact inferInstance
instance (p q s r : Int) (xs : List Int) : DecidablePred (Bad2 p q s r xs) := fun i => by unfold Bad2; exact inferInstance
def ck1 (xs : List Int) : Nat := firstN (Bad1 xs) xs.length 0
def ck2 (p q s r : Int) (xs : List Int) : Nat := firstN (Bad2 p q s r xs) xs.length 0
/-- What CheckStarts returns. -/
def ckI (p q s r : Int) (xs : List Int) : Int := if boilE p q s r xs.length = 0 then (if ck1 xs < xs.length then ck1 xs else ck2 p q s r xs) else 0
def ckE (p q s r : Int) (xs : List Int) : Int := if boilE p q s r xs.length = 0 then (if ck1 xs < xs.length then 3 else if ck2 p q s r xs < xs.length then 20 else 0) else boilE p q s r xs.length
theorem s63' {a : Arr} {xs : List Int} (ha : a = i64s xs) (t long : Int) (hx : xs.length ≤ 1099511627776) (ht : 0 ≤ t) (hs : ∀ j, 0 ≤ xs.getD j 0) (ht2 : t ≤ 9223372036854775807) (hs2 : ∀ j, xs.getD j 0 ≤ 9223372036854775807) : PSpec Try.prog 63 [.one (.lst true [.int .i64] a), I t, I long] (.x (I (busyK xs t long xs.length))) := by
  subst ha; exact s63 xs t long hx ht hs ht2 hs2
theorem s61b (a : Arr) (i p q s r : Int) : HSpec Try.prog 61 [.one (.lst true [.int .i64] a), I i, I p, I q, I s, I r] [] (fun x m' => x = .x (.one (.fn 90 [(1, 0), (3, 0), (0, 0), (4, 0), (2, 0), (5, 0)])) ∧
    m' = [some (.box 30 [.lst true [.int .i64] a]), some (.box 3 [.int .i64 i]), some (.box 3 [.int .i64 p]), some (.box 3 [.int .i64 q]), some (.box 2 [.int .i64 s]), some (.box 2 [.int .i64 r])]) := by
  refine spec_of pMix (O := []) Try.func61 (c := bodyOf Try.f61) rfl (by kernel_rfl) (by kernel_rfl) Try.ntmps61 (res := [.tmp 12]) (by kernel_rfl) ?_
  repeat refine Mm.mk ?_
  refine EndVC.mk _ rfl _ _ ⟨rfl, rfl⟩ ?_
  refine ⟨[some 0, some 1, some 2, some 3, some 4, some 5], rfl, rfl, ?_, ?_⟩ <;> repeat' (first | exact trivial | exact rfl | exact Iff.rfl | apply And.intro)
end Go.Sx

namespace Go.Sx
open Go Go.Proofs
set_option maxRecDepth 10000
theorem ck1_at {xs : List Int} {k : Nat} (h : ∀ j, j < k → ¬ Bad1 xs j) (hk : k < xs.length) (hb : Bad1 xs k) : ck1 xs = k := firstN_at _ _ _ (fun j _ hj => h j hj) (Nat.zero_le _) (fun _ => hb) (by omega)
theorem ck1_no {xs : List Int} (h : ∀ j, j < xs.length → ¬ Bad1 xs j) : ck1 xs = xs.length := firstN_at _ _ _ (fun j _ hj => h j hj) (Nat.zero_le _) (fun h => by omega) (by omega)
theorem ck2_at {p q s r : Int} {xs : List Int} {k : Nat} (h : ∀ j, j < k → ¬ Bad2 p q s r xs j) (hk : k < xs.length) (hb : Bad2 p q s r xs k) : ck2 p q s r xs = k := firstN_at _ _ _ (fun j _ hj => h j hj) (Nat.zero_le _) (fun _ => hb) (by omega)
theorem ck2_no {p q s r : Int} {xs : List Int} (h : ∀ j, j < xs.length → ¬ Bad2 p q s r xs j) : ck2 p q s r xs = xs.length := firstN_at _ _ _ (fun j _ hj => h j hj) (Nat.zero_le _) (fun h => by omega) (by omega)
/-- Sorted, and none below 0. -/
theorem srt_of {xs : List Int} (h : ∀ j, j < xs.length → ¬ Bad1 xs j) : Srt xs xs.length ∧ ∀ j, 0 ≤ xs.getD j 0 := by
  have h0 : ∀ j, 0 ≤ xs.getD j 0 := by
    intro j
    induction j with
    | zero =>
      rcases Nat.lt_or_ge 0 xs.length with hl | hl
      · have := h 0 hl
        unfold Bad1 at this
        simpa using this
      · rw [List.getD_eq_getElem?_getD, List.getElem?_eq_none hl]; simp
    | succ j ih =>
      rcases Nat.lt_or_ge (j + 1) xs.length with hl | hl
      · have := h (j + 1) hl
        unfold Bad1 at this
        rw [if_neg (by omega), Nat.add_sub_cancel] at this
        omega
      · rw [List.getD_eq_getElem?_getD, List.getElem?_eq_none hl]; simp
  refine ⟨fun i j hij => ?_, h0⟩
  induction j with
  | zero => intro hj; have : i = 0 := by omega
            subst this; exact Int.le_refl _
  | succ j ih =>
    intro hj
    rcases Nat.lt_or_ge i (j + 1) with h1 | h1
    · have h2 := ih (by omega) (by omega)
      have := h (j + 1) hj
      unfold Bad1 at this
      rw [if_neg (by omega), Nat.add_sub_cancel] at this
      omega
    · have : i = j + 1 := by omega
      subst this; exact Int.le_refl _
theorem take_getD {xs : List Int} {k j : Nat} (h : j < k) : (xs.take k).getD j 0 = xs.getD j 0 := by
  simp [List.getD_eq_getElem?_getD, h]
theorem busy_bad {xs : List Int} (hs : Srt xs xs.length) {k : Nat} (hk : k < xs.length) {c long : Int} (hc : 1 ≤ c) :
    (c < (busyK (xs.take (k + 1)) (xs.getD k 0) long (xs.take (k + 1)).length : Int)) ↔ (c ≤ k ∧ xs.getD k 0 - xs.getD ((k : Int) - c).toNat 0 < long) := by
  have hl : (xs.take (k + 1)).length = k + 1 := by simp; omega
  have hs' : Srt (xs.take (k + 1)) (k + 1) := fun i j hij hj => by
    rw [take_getD (by omega), take_getD hj]
    exact hs i j hij (by omega)
  have b := busyK_lt (t := xs.getD k 0) (long := long) (c := c.toNat + 1) hs' (by omega)
  rw [hl]
  by_cases h : c ≤ k
  · have e : k + 1 - (c.toNat + 1) = ((k : Int) - c).toNat := by omega
    rw [e, take_getD (by omega)] at b
    omega
  · omega
end Go.Sx

namespace Go.Sx
open Go Go.Proofs
set_option maxRecDepth 10000
set_option maxHeartbeats 1000000
theorem ck_bad0 {p q s r : Int} {xs : List Int} (h : ¬ boilE p q s r xs.length = 0) : (0 : Int) = ckI p q s r xs ∧ boilE p q s r xs.length = ckE p q s r xs := ⟨(if_neg h).symm, (if_neg h).symm⟩
theorem ck_bad1 {p q s r : Int} {xs : List Int} {k : Nat} (h0 : boilE p q s r xs.length = 0) (h : ∀ j, j < k → ¬ Bad1 xs j) (hk : k < xs.length) (hb : Bad1 xs k) : (k : Int) = ckI p q s r xs ∧ (3 : Int) = ckE p q s r xs := by
  have e := ck1_at h hk hb
  exact ⟨by rw [ckI, if_pos h0, e, if_pos hk], by rw [ckE, if_pos h0, e, if_pos hk]⟩
theorem ck_bad2 {p q s r : Int} {xs : List Int} {k : Nat} (h0 : boilE p q s r xs.length = 0) (h1 : ∀ j, j < xs.length → ¬ Bad1 xs j) (h : ∀ j, j < k → ¬ Bad2 p q s r xs j) (hk : k < xs.length) (hb : Bad2 p q s r xs k) : (k : Int) = ckI p q s r xs ∧ (20 : Int) = ckE p q s r xs := by
  have e := ck1_no h1
  have e2 := ck2_at h hk hb
  exact ⟨by rw [ckI, if_pos h0, e, if_neg (Nat.lt_irrefl _), e2], by rw [ckE, if_pos h0, e, if_neg (Nat.lt_irrefl _), e2, if_pos hk]⟩
theorem ck_good {p q s r : Int} {xs : List Int} (h0 : boilE p q s r xs.length = 0) (h1 : ∀ j, j < xs.length → ¬ Bad1 xs j) (h : ∀ j, j < xs.length → ¬ Bad2 p q s r xs j) : (xs.length : Int) = ckI p q s r xs ∧ (0 : Int) = ckE p q s r xs := by
  have e := ck1_no h1
  have e2 := ck2_no h
  exact ⟨by rw [ckI, if_pos h0, e, if_neg (Nat.lt_irrefl _), e2], by rw [ckE, if_pos h0, e, if_neg (Nat.lt_irrefl _), e2, if_neg (Nat.lt_irrefl _)]⟩
theorem boil_of {p q s r n : Int} (h0 : boilE p q s r n = 0) : Boil p q s r ∧ 0 ≤ n ∧ n ≤ 1000 := by
  have hB : Boil p q s r := by
    apply Decidable.byContradiction
    intro h; rw [boilE, if_neg h] at h0; cases h0
  refine ⟨hB, ?_⟩
  apply Decidable.byContradiction
  intro h; rw [boilE, if_pos hB, if_neg h] at h0; cases h0
theorem nb_nonneg {xs : List Int} : ∀ (k : Nat), (∀ j, j < k → ¬ Bad1 xs j) → ∀ j, j < k → 0 ≤ xs.getD j 0
  | 0, _, j, hj => absurd hj (Nat.not_lt_zero j)
  | k + 1, h, j, hj => by
    have ih := nb_nonneg k (fun j hj => h j (by omega))
    rcases Nat.lt_or_ge j k with h1 | h1
    · exact ih j h1
    · have e : j = k := by omega
      subst e
      have := h j (by omega)
      unfold Bad1 at this
      split at this
      · omega
      · have := ih (j - 1) (by omega); omega
theorem s26 (p q s r : Int) (xs : List Int) (hr : ∀ j, -9223372036854775808 ≤ xs.getD j 0 ∧ xs.getD j 0 ≤ 9223372036854775807) : PSpec Try.prog 26 [I p, I q, I s, I r, lI xs] (.tup [I (ckI p q s r xs), I (ckE p q s r xs)]) := by
  have lx := i64s_len xs
  refine spec_of pMix (O := [(12, ([], [⟨0, [], []⟩, ⟨1, [], []⟩, ⟨2, [], []⟩, ⟨3, [], []⟩, ⟨4, [], []⟩, ⟨5, [], []⟩, ⟨6, [], []⟩, ⟨7, [], []⟩, ⟨8, [], []⟩, ⟨10, [], []⟩, ⟨9, [10], []⟩, ⟨11, [], []⟩, ⟨12, [], []⟩, ⟨13, [], []⟩, ⟨14, [], []⟩, ⟨15, [], []⟩, ⟨16, [], []⟩, ⟨17, [], []⟩, ⟨18, [], []⟩, ⟨19, [], []⟩, ⟨20, [], []⟩, ⟨21, [], []⟩, ⟨22, [], []⟩, ⟨23, [], []⟩, ⟨25, [], []⟩, ⟨24, [25], []⟩, ⟨26, [], []⟩, ⟨27, [], []⟩]))]) Try.func26 (c := bodyOf Try.f26) rfl (by kernel_rfl) (by kernel_rfl) Try.ntmps26 (res := [.tmp 10, .tmp 11]) (by kernel_rfl) ?_
  repeat refine Mm.mk ?_
  conv => whnf
  first | refine CallVC.pure rfl (s62 p q s r _) ?_ | refine CallVC0.pure rfl (s62 p q s r _) ?_
  rw [i64s_len]
  repeat refine Mm.mk ?_
  try refine JoinVC.on ?_
  refine Br.mk (fun h0 => ?_) (fun h0 => ?_)
  · repeat refine Mm.mk ?_
    refine EndVC.mk _ rfl _ _ ⟨rfl, rfl⟩ ⟨[], rfl, rfl, ⟨⟨⟨rfl, ?_⟩, ⟨rfl, ?_⟩, trivial⟩, trivial⟩, trivial⟩
    · exact (ck_bad0 h0).1
    · exact (ck_bad0 h0).2
  have h0 := Decidable.not_not.1 h0
  obtain ⟨hB, hn⟩ := boil_of h0
  conv => whnf
  refine LoopVC.mk (fun m st => ∃ k : Nat, k ≤ xs.length ∧ m = xs.length - k ∧ (∀ j, j < k → ¬ Bad1 xs j) ∧ st = ⟨0, envA 90 [(0, .x (I p)), (1, .x (I q)), (2, .x (I s)), (3, .x (I r)), (4, .x (lI xs)), (13, .int .i64 (k : Int))], []⟩) _ _ ⟨0, Nat.zero_le _, rfl, fun j h => absurd h (Nat.not_lt_zero j), rfl⟩ ?_ ?_
  · refine ⟨[], rfl, rfl, ?_, ?_⟩ <;> repeat' (first | exact trivial | exact rfl | exact Iff.rfl | apply And.intro)
  · rintro m _ ⟨k, hk, hm, hj, rfl⟩
    have gk : rI (i64s xs) (k : Int).toNat 0 = xs.getD k 0 := by rw [Int.toNat_natCast, i64s_get]
    have gk1 : rI (i64s xs) ((k : Int) - 1).toNat 0 = xs.getD (k - 1) 0 := by rw [i64s_get]; congr 1; omega
    have hnn := nb_nonneg k hj
    have hn1 : 0 < k → 0 ≤ xs.getD (k - 1) 0 := fun h => hnn (k - 1) (by omega)
    repeat refine Mm.mk ?_
    try refine JoinVC.on ?_
    refine Br.mk (fun h1 => ?_) (fun h1 => ?_)
    · repeat' (conv => whnf
               first
               | refine Rng.ok (by simp only [inR]; omega) ?_
               | refine Ob.mk (by first | omega | (simp; done) | decide | (simp; omega)) ?_
               | refine Ob.mk (show eqOK _ _ = true from by kernel_rfl) ?_
               | refine Ob.mk (show keyOK _ _ _ = true from by kernel_rfl) ?_
               | refine Val.mk _ (shr_val (by simp; rfl)) ?_
               | refine Ob.mk (Nat.le_of_ble_eq_true rfl) ?_
               | refine JoinVC.on ?_
               | refine Nils.mk (fun h => ?_) ?_
               | refine Val.mk _ (Int.tmod_eq_emod_of_nonneg (by omega)) ?_
               | refine Val.mk _ (Int.tdiv_eq_ediv_of_nonneg (by omega)) ?_
               | refine Mm.mk ?_
               | (refine Br.mk (fun h => ?_) (fun h => ?_) <;> first | (exfalso; omega; done) | (exfalso; simp at h; done) | skip))
      all_goals try
        repeat refine Mm.mk ?_
        refine EndVC.mk _ rfl _ _ ⟨rfl, rfl⟩ ⟨[], rfl, rfl, ⟨⟨⟨rfl, ?_⟩, ⟨rfl, ?_⟩, trivial⟩, trivial⟩, trivial⟩
        all_goals
          have hb : Bad1 xs k := by unfold Bad1; split <;> omega
          first | exact (ck_bad1 h0 hj (by omega) hb).1 | exact (ck_bad1 h0 hj (by omega) hb).2
      all_goals
        have hb : ¬ Bad1 xs k := by unfold Bad1; split <;> omega
        refine Back.mk (xs.length - (k + 1)) _ (by omega) ⟨k + 1, by omega, rfl, fun j hjk => ?_, rfl⟩ ?_
        · rcases Nat.lt_or_ge j k with h3 | h3
          · exact hj j h3
          · rw [show j = k by omega]; exact hb
        · refine ⟨[], rfl, rfl, ?_, ?_⟩ <;> repeat' (first | exact trivial | exact rfl | exact Iff.rfl | apply And.intro)
    · have hj : ∀ j, j < xs.length → ¬ Bad1 xs j := fun j hjx => hj j (by omega)
      obtain ⟨hs, hs0⟩ := srt_of hj
      have hB' := hB
      unfold Boil at hB'
      conv => whnf
      refine LoopVC.mk (fun m st => ∃ k : Nat, k ≤ xs.length ∧ m = xs.length - k ∧ (∀ j, j < k → ¬ Bad2 p q s r xs j) ∧ st = ⟨0, envA 90 [(0, .x (I p)), (1, .x (I q)), (2, .x (I s)), (3, .x (I r)), (4, .x (lI xs)), (14, .int .i64 (k : Int))], []⟩) _ _ ⟨0, Nat.zero_le _, rfl, fun j h => absurd h (Nat.not_lt_zero j), rfl⟩ ?_ ?_
      · refine ⟨[], rfl, rfl, ?_, ?_⟩ <;> repeat' (first | exact trivial | exact rfl | exact Iff.rfl | apply And.intro)
      · rintro m _ ⟨k, hk, hm, hj2, rfl⟩
        have gk : rI (i64s xs) (k : Int).toNat 0 = xs.getD k 0 := by rw [Int.toNat_natCast, i64s_get]
        have gt : List.drop (0 : Int).toNat (List.take ((k : Int) + 1).toNat (i64s xs)) = i64s (xs.take (k + 1)) := by
          rw [show ((k : Int) + 1).toNat = k + 1 by omega]
          simp [i64s, List.map_take]
        repeat refine Mm.mk ?_
        try refine JoinVC.on ?_
        refine Br.mk (fun h1 => ?_) (fun h1 => ?_)
        · have b1 := busy_bad hs (k := k) (by omega) (c := q) (long := s) (by omega)
          have b2 := busy_bad hs (k := k) (by omega) (c := p) (long := s + r) (by omega)
          have tk : ∀ j, 0 ≤ (xs.take (k + 1)).getD j 0 ∧ (xs.take (k + 1)).getD j 0 ≤ 9223372036854775807 := fun j => by
            rcases Nat.lt_or_ge j (k + 1) with h3 | h3
            · rw [take_getD h3]; exact ⟨hs0 j, (hr j).2⟩
            · rw [List.getD_eq_getElem?_getD, List.getElem?_eq_none (by simp; omega)]; simp
          have cc : ∀ long, PSpec Try.prog 63 [.one (.lst true [.int .i64] (List.drop (0 : Int).toNat (List.take ((k : Int) + 1).toNat (i64s xs)))), I (rI (i64s xs) (k : Int).toNat 0), I long] (.x (I (busyK (xs.take (k + 1)) (xs.getD k 0) long (xs.take (k + 1)).length))) := fun long => by
            rw [gk]
            exact s63' gt _ long (by simp; omega) (hs0 k) (fun j => (tk j).1) (hr k).2 (fun j => (tk j).2)
          repeat' (conv => whnf
                   first
                   | refine Rng.ok (by simp only [inR]; omega) ?_
                   | refine Ob.mk (by first | omega | (simp; done) | decide | (simp; omega)) ?_
                   | refine Ob.mk (show eqOK _ _ = true from by kernel_rfl) ?_
                   | refine Ob.mk (show keyOK _ _ _ = true from by kernel_rfl) ?_
                   | refine Val.mk _ (shr_val (by simp; rfl)) ?_
                   | refine Ob.mk (Nat.le_of_ble_eq_true rfl) ?_
                   | refine JoinVC.on ?_
                   | refine Nils.mk (fun h => ?_) ?_
                   | refine Val.mk _ (Int.tmod_eq_emod_of_nonneg (by omega)) ?_
                   | refine Val.mk _ (Int.tdiv_eq_ediv_of_nonneg (by omega)) ?_
                   | refine Mm.mk ?_
                   | refine CallVC.pure rfl (cc _) ?_
                   | refine CallVC0.pure rfl (cc _) ?_
                   | (refine Br.mk (fun h => ?_) (fun h => ?_) <;> first | (exfalso; omega; done) | (exfalso; simp at h; done) | skip))
          all_goals try
            repeat refine Mm.mk ?_
            refine EndVC.mk _ rfl _ _ ⟨rfl, rfl⟩ ⟨[], rfl, rfl, ⟨⟨⟨rfl, ?_⟩, ⟨rfl, ?_⟩, trivial⟩, trivial⟩, trivial⟩
            all_goals
              have hb : Bad2 p q s r xs k := by unfold Bad2; omega
              first | exact (ck_bad2 h0 hj hj2 (by omega) hb).1 | exact (ck_bad2 h0 hj hj2 (by omega) hb).2
          have hb : ¬ Bad2 p q s r xs k := by unfold Bad2; omega
          refine Back.mk (xs.length - (k + 1)) _ (by omega) ⟨k + 1, by omega, rfl, fun j hjk => ?_, rfl⟩ ?_
          · rcases Nat.lt_or_ge j k with h3 | h3
            · exact hj2 j h3
            · rw [show j = k by omega]; exact hb
          · refine ⟨[], rfl, rfl, ?_, ?_⟩ <;> repeat' (first | exact trivial | exact rfl | exact Iff.rfl | apply And.intro)
        · have hj2 : ∀ j, j < xs.length → ¬ Bad2 p q s r xs j := fun j hjx => hj2 j (by omega)
          repeat refine Mm.mk ?_
          refine EndVC.mk _ rfl _ _ ⟨rfl, rfl⟩ ⟨[], rfl, rfl, ⟨⟨⟨rfl, ?_⟩, ⟨rfl, ?_⟩, trivial⟩, trivial⟩, trivial⟩
          · rw [lx]; exact (ck_good h0 hj hj2).1
          · exact (ck_good h0 hj hj2).2
end Go.Sx

namespace Go.Sx
open Go Go.Proofs
set_option maxRecDepth 10000
set_option maxHeartbeats 1000000
def lastOf (xs : List Int) (k : Nat) : Int := if k = 0 then 0 else xs.getD (k - 1) 0
theorem s25 (p q s r : Int) (xs : List Int) (hr : ∀ j, -9223372036854775808 ≤ xs.getD j 0 ∧ xs.getD j 0 ≤ 9223372036854775807) : PSpec Try.prog 25 [I p, I q, I s, I r, lI xs] (.tup [I (ckI p q s r xs), I (ckE p q s r xs)]) := by
  have lx := i64s_len xs
  refine spec_of pMix (O := []) Try.func25 (c := bodyOf Try.f25) rfl (by kernel_rfl) (by kernel_rfl) Try.ntmps25 (res := [.cell 10 3, .cell 11 24]) (by kernel_rfl) ?_
  repeat refine Mm.mk ?_
  conv => whnf
  first | refine CallVC.pure rfl (s60 p q s r _) ?_ | refine CallVC0.pure rfl (s60 p q s r _) ?_
  rw [i64s_len]
  repeat refine Mm.mk ?_
  try refine JoinVC.on ?_
  refine Br.mk (fun h0 => ?_) (fun h0 => ?_)
  · repeat refine Mm.mk ?_
    refine EndVC.mk _ rfl _ _ ⟨rfl, rfl⟩ ?_
    refine ⟨[], rfl, rfl, ?_, ?_⟩ <;> repeat' (first | exact trivial | exact rfl | exact Iff.rfl | apply And.intro)
    · exact (ck_bad0 h0).1
    · exact (ck_bad0 h0).2
  have h0 := Decidable.not_not.1 h0
  obtain ⟨hB, hn⟩ := boil_of h0
  conv => whnf
  refine LoopVC.mk (fun m st => ∃ k : Nat, k ≤ xs.length ∧ m = xs.length - k ∧ (∀ j, j < k → ¬ Bad1 xs j) ∧ st = ⟨0, envA 68 [(0, .x (I p)), (1, .x (I q)), (2, .x (I s)), (3, .x (I r)), (4, .x (lI xs)), (10, .x (.one (.ptr 0 0))), (11, .x (.one (.ptr 1 0))), (13, .x (I (lastOf xs k))), (30, .x (lI xs)), (31, .x (I xs.length)), (32, .int .i64 (k : Int))], [some (.box 3 [.int .i64 0]), some (.box 24 [.int .i64 0])]⟩) _ _ ⟨0, Nat.zero_le _, rfl, fun j h => absurd h (Nat.not_lt_zero j), rfl⟩ ?_ ?_
  · refine ⟨[some 0, some 1], rfl, rfl, ?_, ?_⟩ <;> repeat' (first | exact trivial | exact rfl | exact Iff.rfl | apply And.intro)
    rw [lx]
  · rintro m _ ⟨k, hk, hm, hj, rfl⟩
    have gk : rI (i64s xs) (k : Int).toNat 0 = xs.getD k 0 := by rw [Int.toNat_natCast, i64s_get]
    have hnn := nb_nonneg k hj
    have hn1 : 0 < k → 0 ≤ xs.getD (k - 1) 0 := fun h => hnn (k - 1) (by omega)
    repeat refine Mm.mk ?_
    try refine JoinVC.on ?_
    refine Br.mk (fun h1 => ?_) (fun h1 => ?_)
    · repeat' (conv => whnf
               first
               | refine Rng.ok (by simp only [inR]; omega) ?_
               | refine Ob.mk (by first | omega | (simp; done) | decide | (simp; omega)) ?_
               | refine Ob.mk (show eqOK _ _ = true from by kernel_rfl) ?_
               | refine Ob.mk (show keyOK _ _ _ = true from by kernel_rfl) ?_
               | refine Val.mk _ (shr_val (by simp; rfl)) ?_
               | refine Ob.mk (Nat.le_of_ble_eq_true rfl) ?_
               | refine JoinVC.on ?_
               | refine Nils.mk (fun h => ?_) ?_
               | refine Val.mk _ (Int.tmod_eq_emod_of_nonneg (by omega)) ?_
               | refine Val.mk _ (Int.tdiv_eq_ediv_of_nonneg (by omega)) ?_
               | refine Mm.mk ?_
               | (refine Br.mk (fun h => ?_) (fun h => ?_) <;> first | (exfalso; omega; done) | (exfalso; simp at h; done) | skip))
      all_goals try
        repeat refine Mm.mk ?_
        refine EndVC.mk _ rfl _ _ ⟨rfl, rfl⟩ ?_
        refine ⟨[], rfl, rfl, ?_, ?_⟩ <;> repeat' (first | exact trivial | exact rfl | exact Iff.rfl | apply And.intro)
        all_goals
          have hb : Bad1 xs k := by unfold Bad1 lastOf at *; split at * <;> omega
          first | exact (ck_bad1 h0 hj (by omega) hb).1 | exact (ck_bad1 h0 hj (by omega) hb).2
      have hb : ¬ Bad1 xs k := by unfold Bad1; unfold lastOf at *; split <;> omega
      refine Back.mk (xs.length - (k + 1)) _ (by omega) ⟨k + 1, by omega, rfl, fun j hjk => ?_, rfl⟩ ?_
      · rcases Nat.lt_or_ge j k with h3 | h3
        · exact hj j h3
        · rw [show j = k by omega]; exact hb
      · refine ⟨[some 0, some 1], rfl, rfl, ?_, ?_⟩ <;> repeat' (first | exact trivial | exact rfl | exact Iff.rfl | apply And.intro)
        rw [gk]; unfold lastOf; rw [if_neg (by omega), Nat.add_sub_cancel]
    · have hj : ∀ j, j < xs.length → ¬ Bad1 xs j := fun j hjx => hj j (by omega)
      obtain ⟨hs, hs0⟩ := srt_of hj
      have hB' := hB
      unfold Boil at hB'
      conv => whnf
      refine LoopVC.mk (fun m st => ∃ k : Nat, k ≤ xs.length ∧ m = xs.length - k ∧ (∀ j, j < k → ¬ Bad2 p q s r xs j) ∧ st = ⟨0, envA 68 [(0, .x (I p)), (1, .x (I q)), (2, .x (I s)), (3, .x (I r)), (4, .x (lI xs)), (10, .x (.one (.ptr 0 0))), (11, .x (.one (.ptr 1 0))), (43, .x (lI xs)), (44, .x (I xs.length)), (45, .int .i64 (k : Int))], [some (.box 3 [.int .i64 0]), some (.box 24 [.int .i64 0])]⟩) _ _ ⟨0, Nat.zero_le _, rfl, fun j h => absurd h (Nat.not_lt_zero j), rfl⟩ ?_ ?_
      · refine ⟨[some 0, some 1], rfl, rfl, ?_, ?_⟩ <;> repeat' (first | exact trivial | exact rfl | exact Iff.rfl | apply And.intro)
        rw [lx]
      · rintro m _ ⟨k, hk, hm, hj2, rfl⟩
        have gk : rI (i64s xs) (k : Int).toNat 0 = xs.getD k 0 := by rw [Int.toNat_natCast, i64s_get]
        have gq : rI (i64s xs) ((k : Int) - q).toNat 0 = xs.getD ((k : Int) - q).toNat 0 := by rw [i64s_get]
        have gp : rI (i64s xs) ((k : Int) - p).toNat 0 = xs.getD ((k : Int) - p).toNat 0 := by rw [i64s_get]
        have hk0 := hs0 k
        have hkr := hr k
        have hq0 := hs0 ((k : Int) - q).toNat
        have hqr := hr ((k : Int) - q).toNat
        have hp0 := hs0 ((k : Int) - p).toNat
        have hpr := hr ((k : Int) - p).toNat
        repeat refine Mm.mk ?_
        try refine JoinVC.on ?_
        refine Br.mk (fun h1 => ?_) (fun h1 => ?_)
        · repeat' (conv => whnf
                   first
                   | refine Rng.ok (by simp only [inR]; omega) ?_
                   | refine Ob.mk (by first | omega | (simp; done) | decide | (simp; omega)) ?_
                   | refine Ob.mk (show eqOK _ _ = true from by kernel_rfl) ?_
                   | refine Ob.mk (show keyOK _ _ _ = true from by kernel_rfl) ?_
                   | refine Val.mk _ (shr_val (by simp; rfl)) ?_
                   | refine Ob.mk (Nat.le_of_ble_eq_true rfl) ?_
                   | refine JoinVC.on ?_
                   | refine Nils.mk (fun h => ?_) ?_
                   | refine Val.mk _ (Int.tmod_eq_emod_of_nonneg (by omega)) ?_
                   | refine Val.mk _ (Int.tdiv_eq_ediv_of_nonneg (by omega)) ?_
                   | refine Mm.mk ?_
                   | (refine Br.mk (fun h => ?_) (fun h => ?_) <;> first | (exfalso; omega; done) | (exfalso; simp at h; done) | skip))
          conv => whnf
          refine CallVC.mk [] _ _ _ rfl rfl rfl (s61b _ _ _ _ _ _) (fun x m' hx => ?_)
          obtain ⟨rfl, rfl⟩ := hx
          repeat' (conv => whnf
                   first
                   | refine Rng.ok (by simp only [inR]; omega) ?_
                   | refine Ob.mk (by first | omega | (simp; done) | decide | (simp; omega)) ?_
                   | refine Ob.mk (show eqOK _ _ = true from by kernel_rfl) ?_
                   | refine Ob.mk (show keyOK _ _ _ = true from by kernel_rfl) ?_
                   | refine Val.mk _ (shr_val (by simp; rfl)) ?_
                   | refine Ob.mk (Nat.le_of_ble_eq_true rfl) ?_
                   | refine JoinVC.on ?_
                   | refine Nils.mk (fun h => ?_) ?_
                   | refine Val.mk _ (Int.tmod_eq_emod_of_nonneg (by omega)) ?_
                   | refine Val.mk _ (Int.tdiv_eq_ediv_of_nonneg (by omega)) ?_
                   | refine Mm.mk ?_
                   | refine YieldVC.mk (rsem_of_awp pMix [] rfl (by kernel_rfl) ?_)
                   | refine RangeVC.mk e90 (isem_of_awp pMix [] Try.func90 (c := bodyOf Try.f90) rfl (by kernel_rfl) Try.ntmps90 (by kernel_rfl) ?_)
                   | (refine Br.mk (fun h => ?_) (fun h => ?_) <;> first | (exfalso; omega; done) | (exfalso; simp at h; done) | skip))
          all_goals try
            repeat refine Mm.mk ?_
            refine EndVC.mk _ rfl _ _ ⟨rfl, rfl⟩ ?_
            refine ⟨[], rfl, rfl, ?_, ?_⟩ <;> repeat' (first | exact trivial | exact rfl | exact Iff.rfl | apply And.intro)
            all_goals
              have hb : Bad2 p q s r xs k := by unfold Bad2; omega
              first | exact (ck_bad2 h0 hj hj2 (by omega) hb).1 | exact (ck_bad2 h0 hj hj2 (by omega) hb).2
          all_goals
            have hb : ¬ Bad2 p q s r xs k := by unfold Bad2; omega
            refine Back.mk (xs.length - (k + 1)) _ (by omega) ⟨k + 1, by omega, rfl, fun j hjk => ?_, rfl⟩ ?_
            · rcases Nat.lt_or_ge j k with h3 | h3
              · exact hj2 j h3
              · rw [show j = k by omega]; exact hb
            · refine ⟨[some 0, some 1], rfl, rfl, ?_, ?_⟩ <;> repeat' (first | exact trivial | exact rfl | exact Iff.rfl | apply And.intro)
        · have hj2 : ∀ j, j < xs.length → ¬ Bad2 p q s r xs j := fun j hjx => hj2 j (by omega)
          repeat refine Mm.mk ?_
          refine EndVC.mk _ rfl _ _ ⟨rfl, rfl⟩ ?_
          refine ⟨[], rfl, rfl, ?_, ?_⟩ <;> repeat' (first | exact trivial | exact rfl | exact Iff.rfl | apply And.intro)
          · rw [lx]; exact (ck_good h0 hj hj2).1
          · exact (ck_good h0 hj hj2).2
end Go.Sx

namespace Go.Sx
open Go Go.Proofs
set_option maxRecDepth 10000
set_option maxHeartbeats 1000000
theorem e72 : EntersF Try.prog 72 := enters_of Try.func72 (c := bodyOf Try.f72) (by kernel_rfl) rfl
theorem e32 : EntersF Try.prog 32 := enters_of Try.func32 (c := bodyOf Try.f32) (by kernel_rfl) rfl
theorem s72 (p : Spot) : PSpec Try.prog 72 [p.v] (xP p.ok) := by
  refine spec_of pMix (O := []) Try.func72 (c := bodyOf Try.f72) rfl (by kernel_rfl) (by kernel_rfl) Try.ntmps72 (res := [.tmp 2]) (by kernel_rfl) ?_
  repeat' (conv => whnf
           first
           | refine Rng.ok (by simp only [inR]; omega) ?_
           | refine Ob.mk (by first | omega | (simp; done) | decide | (simp; omega)) ?_
           | refine Ob.mk (show eqOK _ _ = true from by kernel_rfl) ?_
           | refine Ob.mk (show keyOK _ _ _ = true from by kernel_rfl) ?_
           | refine Val.mk _ (shr_val (by simp; rfl)) ?_
           | refine Ob.mk (Nat.le_of_ble_eq_true rfl) ?_
           | refine JoinVC.on ?_
           | refine Nils.mk (fun h => ?_) ?_
           | refine Val.mk _ (Int.tmod_eq_emod_of_nonneg (by omega)) ?_
           | refine Val.mk _ (Int.tdiv_eq_ediv_of_nonneg (by omega)) ?_
           | refine Mm.mk ?_
           | refine CallVC.pure rfl (s58 _ _ _) ?_
           | refine CallVC0.pure rfl (s58 _ _ _) ?_
           | (refine Br.mk (fun h => ?_) (fun h => ?_) <;> first | (exfalso; omega; done) | (exfalso; simp at h; done) | skip))
  · repeat refine Mm.mk ?_
    refine EndVC.mk _ rfl _ _ ⟨rfl, rfl⟩ ?_
    refine ⟨[], rfl, rfl, ?_, ?_⟩ <;> repeat' (first | exact trivial | exact rfl | exact Iff.rfl | apply And.intro)
    conv => whnf
    unfold Spot.ok; omega
  · repeat refine Mm.mk ?_
    refine EndVC.mk _ rfl _ _ ⟨rfl, rfl⟩ ?_
    refine ⟨[], rfl, rfl, ?_, ?_⟩ <;> repeat' (first | exact trivial | exact rfl | exact Iff.rfl | apply And.intro)
    conv => whnf
    unfold Spot.ok; omega
theorem bd {a : Int} {A : Nat} (h : a.natAbs ≤ A) : -(A : Int) ≤ a ∧ a ≤ A := by omega
theorem d_eq (a b c : Spot) : 2 * ((b.x - a.x) * (c.y - a.y) - (b.y - a.y) * (c.x - a.x)) = cD a b c := by
  simp only [cD, tsum, g2]
  grind
theorem s32 (a b c : Spot) : PSpec Try.prog 32 [a.v, b.v, c.v] (.tup [I (ctrX a b c), I (ctrY a b c), I (ctrD a b c), I (ctrE a b c)]) := by
  have bad : ¬ cok a b c → (0 : Int) = ctrX a b c ∧ (0 : Int) = ctrY a b c ∧ (0 : Int) = ctrD a b c ∧ (3 : Int) = ctrE a b c := fun h => ⟨(if_neg h).symm, (if_neg h).symm, (if_neg h).symm, (if_neg h).symm⟩
  refine spec_of pMix (O := []) Try.func32 (c := bodyOf Try.f32) rfl (by kernel_rfl) (by kernel_rfl) Try.ntmps32 (res := [.tmp 6, .tmp 7, .tmp 8, .tmp 9]) (by kernel_rfl) ?_
  repeat' (conv => whnf
           first
           | refine Rng.ok (by simp only [inR]; omega) ?_
           | refine Ob.mk (by first | omega | (simp; done) | decide | (simp; omega)) ?_
           | refine Ob.mk (show eqOK _ _ = true from by kernel_rfl) ?_
           | refine Ob.mk (show keyOK _ _ _ = true from by kernel_rfl) ?_
           | refine Val.mk _ (shr_val (by simp; rfl)) ?_
           | refine Ob.mk (Nat.le_of_ble_eq_true rfl) ?_
           | refine JoinVC.on ?_
           | refine Nils.mk (fun h => ?_) ?_
           | refine Val.mk _ (Int.tmod_eq_emod_of_nonneg (by omega)) ?_
           | refine Val.mk _ (Int.tdiv_eq_ediv_of_nonneg (by omega)) ?_
           | refine Mm.mk ?_
           | refine CallVC.pure rfl (s72 _) ?_
           | refine CallVC0.pure rfl (s72 _) ?_
           | (refine Br.mk (fun h => ?_) (fun h => ?_) <;> first | (exfalso; omega; done) | (exfalso; simp at h; done) | skip))
  · repeat refine Mm.mk ?_
    refine EndVC.mk _ rfl _ _ ⟨rfl, rfl⟩ ?_
    refine ⟨[], rfl, rfl, ?_, ?_⟩ <;> repeat' (first | exact trivial | exact rfl | exact Iff.rfl | apply And.intro)
    all_goals
      have hb : ¬ cok a b c := fun hk => ‹¬ a.ok› hk.1
      first | exact (bad hb).1 | exact (bad hb).2.1 | exact (bad hb).2.2.1 | exact (bad hb).2.2.2
  · repeat refine Mm.mk ?_
    refine EndVC.mk _ rfl _ _ ⟨rfl, rfl⟩ ?_
    refine ⟨[], rfl, rfl, ?_, ?_⟩ <;> repeat' (first | exact trivial | exact rfl | exact Iff.rfl | apply And.intro)
    all_goals
      have hb : ¬ cok a b c := fun hk => ‹¬ b.ok› hk.2.1
      first | exact (bad hb).1 | exact (bad hb).2.1 | exact (bad hb).2.2.1 | exact (bad hb).2.2.2
  · repeat refine Mm.mk ?_
    refine EndVC.mk _ rfl _ _ ⟨rfl, rfl⟩ ?_
    refine ⟨[], rfl, rfl, ?_, ?_⟩ <;> repeat' (first | exact trivial | exact rfl | exact Iff.rfl | apply And.intro)
    all_goals
      have hb : ¬ cok a b c := fun hk => ‹¬ c.ok› hk.2.2
      first | exact (bad hb).1 | exact (bad hb).2.1 | exact (bad hb).2.2.1 | exact (bad hb).2.2.2
  have ha : a.ok := Decidable.not_not.1 ‹¬ ¬ a.ok›
  have hb : b.ok := Decidable.not_not.1 ‹¬ ¬ b.ok›
  have hc : c.ok := Decidable.not_not.1 ‹¬ ¬ c.ok›
  clear bad
  have hok : cok a b c := ⟨ha, hb, hc⟩
  obtain ⟨a1, a2⟩ := ha
  obtain ⟨b1, b2⟩ := hb
  obtain ⟨c1, c2⟩ := hc
  have p1 := bd (mul_bd (A := 524288) (B := 524288) (show (b.x - a.x).natAbs ≤ 524288 by omega) (show (c.y - a.y).natAbs ≤ 524288 by omega))
  have p2 := bd (mul_bd (A := 524288) (B := 524288) (show (b.y - a.y).natAbs ≤ 524288 by omega) (show (c.x - a.x).natAbs ≤ 524288 by omega))
  have a1 := bd a1
  have a2 := bd a2
  have b1 := bd b1
  have b2 := bd b2
  have c1 := bd c1
  have c2 := bd c2
  repeat' (conv => whnf
           first
           | refine Rng.ok (by simp only [inR]; omega) ?_
           | refine Ob.mk (by first | omega | (simp; done) | decide | (simp; omega)) ?_
           | refine Ob.mk (show eqOK _ _ = true from by kernel_rfl) ?_
           | refine Ob.mk (show keyOK _ _ _ = true from by kernel_rfl) ?_
           | refine Val.mk _ (shr_val (by simp; rfl)) ?_
           | refine Ob.mk (Nat.le_of_ble_eq_true rfl) ?_
           | refine JoinVC.on ?_
           | refine Nils.mk (fun h => ?_) ?_
           | refine Val.mk _ (Int.tmod_eq_emod_of_nonneg (by omega)) ?_
           | refine Val.mk _ (Int.tdiv_eq_ediv_of_nonneg (by omega)) ?_
           | refine Mm.mk ?_
           | refine Br.mk (fun h => ?_) (fun h => ?_))
  · have d0 : cD a b c = 0 := by rw [← d_eq]; assumption
    repeat refine Mm.mk ?_
    refine EndVC.mk _ rfl _ _ ⟨rfl, rfl⟩ ?_
    refine ⟨[], rfl, rfl, ?_, ?_⟩ <;> repeat' (first | exact trivial | exact rfl | exact Iff.rfl | apply And.intro)
    · simp [ctrX, hok, d0]
    · simp [ctrY, hok, d0]
    · simp [ctrD, hok, d0]
    · simp [ctrE, hok, d0]
  have d0 : ¬ cD a b c = 0 := by rw [← d_eq]; assumption
  clear p1 p2
  have ha : a.ok := hok.1
  have hb : b.ok := hok.2.1
  have hc : c.ok := hok.2.2
  have q1 := bd (mul_bd ha.1 ha.1)
  have q2 := bd (mul_bd ha.2 ha.2)
  have q3 := bd (mul_bd hb.1 hb.1)
  have q4 := bd (mul_bd hb.2 hb.2)
  have q5 := bd (mul_bd hc.1 hc.1)
  have q6 := bd (mul_bd hc.2 hc.2)
  repeat (conv => whnf
          refine Rng.ok (by simp only [inR]; omega) ?_)
  have r1 := bd (g3_bd ha hb hc)
  have r2 := bd (g3_bd hb hc ha)
  have r3 := bd (g3_bd hc ha hb)
  simp only [g3, sq] at r1 r2 r3
  repeat (conv => whnf
          refine Rng.ok (by simp only [inR]; omega) ?_)
  have r4 := bd (g4_bd ha hb hc)
  have r5 := bd (g4_bd hb hc ha)
  have r6 := bd (g4_bd hc ha hb)
  simp only [g4, sq] at r4 r5 r6
  repeat (conv => whnf
          refine Rng.ok (by simp only [inR]; omega) ?_)
  have t2 := bd (tsum_bd (g := g2) (fun _ _ _ => g2_bd) hok)
  have eD := d_eq a b c
  unfold cD at eD
  repeat refine Mm.mk ?_
  try refine JoinVC.on ?_
  refine Br.mk (fun d1 => ?_) (fun d1 => ?_)
  · have d1 : cD a b c < 0 := by rw [← d_eq]; exact d1
    repeat refine Mm.mk ?_
    refine Rng.ok (by simp only [inR]; omega) ?_
    repeat refine Mm.mk ?_
    refine Rng.ok (by simp only [inR]; omega) ?_
    repeat refine Mm.mk ?_
    refine Rng.ok (by simp only [inR]; omega) ?_
    repeat refine Mm.mk ?_
    refine EndVC.mk _ rfl _ _ ⟨rfl, rfl⟩ ?_
    refine ⟨[], rfl, rfl, ?_, ?_⟩ <;> repeat' (first | exact trivial | exact rfl | exact Iff.rfl | apply And.intro)
    · simp [ctrX, hok, d0, d1, cX, tsum, g3, sq]
    · simp [ctrY, hok, d0, d1, cY, tsum, g4, sq]
    · simp [ctrD, hok, d0, d1, d_eq]
    · simp [ctrE, hok, d0]
  have d1 : ¬ cD a b c < 0 := by rw [← d_eq]; exact d1
  repeat refine Mm.mk ?_
  refine EndVC.mk _ rfl _ _ ⟨rfl, rfl⟩ ?_
  refine ⟨[], rfl, rfl, ?_, ?_⟩ <;> repeat' (first | exact trivial | exact rfl | exact Iff.rfl | apply And.intro)
  · simp [ctrX, hok, d0, d1, cX, tsum, g3, sq]
  · simp [ctrY, hok, d0, d1, cY, tsum, g4, sq]
  · simp [ctrD, hok, d0, d1, d_eq]
  · simp [ctrE, hok, d0]
end Go.Sx

namespace Go.Sx
open Go Go.Proofs
set_option maxRecDepth 10000
set_option maxHeartbeats 1000000
theorem e73 : EntersF Try.prog 73 := enters_of Try.func73 (c := bodyOf Try.f73) (by kernel_rfl) rfl
theorem e74 : EntersF Try.prog 74 := enters_of Try.func74 (c := bodyOf Try.f74) (by kernel_rfl) rfl
theorem e76 : EntersF Try.prog 76 := enters_of Try.func76 (c := bodyOf Try.f76) (by kernel_rfl) rfl
theorem e77 : EntersF Try.prog 77 := enters_of Try.func77 (c := bodyOf Try.f77) (by kernel_rfl) rfl
theorem shr_val {n c : Int} {m : Nat} (h : (2 : Int) ^ m = c) : n / 2 ^ m = n / c := by rw [h]
@[reducible] def A3 (x y z : Int) : XV := .agg [.int .i64 x, .int .i64 y, .int .i64 z]
@[reducible] def U64 (n : Int) : XV := .one (.int .u64 n)
theorem s77 (x y z : Int) (hx : 0 ≤ x ∧ x ≤ 4611686018427387904) (hy : 0 ≤ y ∧ y ≤ 4611686018427387904) (hz : 0 ≤ z ∧ z ≤ 4611686018427387904) :
    PSpec Try.prog 77 [A3 x y z] (.x (A3 (x + (y + z / 536870912) / 536870912) ((y + z / 536870912) % 536870912) (z % 536870912))) := by
  refine spec_of pMix (O := []) Try.func77 (c := bodyOf Try.f77) rfl (by kernel_rfl) (by kernel_rfl) Try.ntmps77 (res := [.cell 2 132]) (by kernel_rfl) ?_
  repeat' (conv => whnf
           first
           | refine Rng.ok (by simp only [inR]; omega) ?_
           | refine Ob.mk (by first | omega | (simp; done) | decide | (simp; omega)) ?_
           | refine Ob.mk (show eqOK _ _ = true from by kernel_rfl) ?_
           | refine Ob.mk (show keyOK _ _ _ = true from by kernel_rfl) ?_
           | refine Val.mk _ (shr_val (by simp; rfl)) ?_
           | refine Ob.mk (Nat.le_of_ble_eq_true rfl) ?_
           | refine JoinVC.on ?_
           | refine Nils.mk (fun h => ?_) ?_
           | refine Val.mk _ (Int.tmod_eq_emod_of_nonneg (by omega)) ?_
           | refine Val.mk _ (Int.tdiv_eq_ediv_of_nonneg (by omega)) ?_
           | refine Mm.mk ?_
           | (refine Br.mk (fun h => ?_) (fun h => ?_) <;> first | (exfalso; omega; done) | (exfalso; simp at h; done) | skip))
  repeat refine Mm.mk ?_
  refine EndVC.mk _ rfl _ _ ⟨rfl, rfl⟩ ?_
  refine ⟨[], rfl, rfl, ?_, ?_⟩ <;> repeat' (first | exact trivial | exact rfl | exact Iff.rfl | apply And.intro)
theorem s76 (n : Int) (h : n.natAbs ≤ 288230376151711744) : ∃ x y z : Int, PSpec Try.prog 76 [I n] (.x (A3 x y z)) ∧ x * 288230376151711744 + y * 536870912 + z = n * n ∧ 0 ≤ y ∧ y < 536870912 ∧ 0 ≤ z ∧ z < 536870912 ∧ 0 ≤ x ∧ x ≤ 1152921504606846976 := by
  obtain ⟨m, hm, e1⟩ : ∃ m : Int, m = (if n < 0 - n then 0 - n else n) ∧ m * m = n * n := ⟨_, rfl, by split <;> grind⟩
  have hm2 : 0 ≤ m ∧ m ≤ 288230376151711744 := by rw [hm]; split <;> omega
  have b1 := mul_bd (a := m / 536870912) (b := m / 536870912) (A := 536870912) (B := 536870912) (by omega) (by omega)
  have b2 := mul_bd (a := m / 536870912) (b := m % 536870912) (A := 536870912) (B := 536870912) (by omega) (by omega)
  have b3 := mul_bd (a := m % 536870912) (b := m % 536870912) (A := 536870912) (B := 536870912) (by omega) (by omega)
  have p1 : 0 ≤ (m / 536870912) * (m / 536870912) := Int.mul_nonneg (by omega) (by omega)
  have p2 : 0 ≤ (m / 536870912) * (m % 536870912) := Int.mul_nonneg (by omega) (by omega)
  have p3 : 0 ≤ (m % 536870912) * (m % 536870912) := Int.mul_nonneg (by omega) (by omega)
  have e2 : m * m = (m / 536870912) * (m / 536870912) * 288230376151711744 + 2 * (m / 536870912) * (m % 536870912) * 536870912 + (m % 536870912) * (m % 536870912) := by
    have := Int.mul_ediv_add_emod m 536870912
    generalize m / 536870912 = q at *
    generalize m % 536870912 = r at *
    subst this
    grind
  have e3 : 2 * (m / 536870912) * (m % 536870912) = 2 * ((m / 536870912) * (m % 536870912)) := Int.mul_assoc ..
  have hs := s77 ((m / 536870912) * (m / 536870912)) (2 * (m / 536870912) * (m % 536870912)) ((m % 536870912) * (m % 536870912)) (by omega) (by omega) (by omega)
  refine ⟨_, _, _, show PSpec Try.prog 76 [I n] (.x (A3 (((m / 536870912) * (m / 536870912)) + ((2 * (m / 536870912) * (m % 536870912)) + ((m % 536870912) * (m % 536870912)) / 536870912) / 536870912) (((2 * (m / 536870912) * (m % 536870912)) + ((m % 536870912) * (m % 536870912)) / 536870912) % 536870912) (((m % 536870912) * (m % 536870912)) % 536870912))) from ?_, ?_⟩
  · refine spec_of pMix (O := []) Try.func76 (c := bodyOf Try.f76) rfl (by kernel_rfl) (by kernel_rfl) Try.ntmps76 (res := [.cell 2 132]) (by kernel_rfl) ?_
    repeat refine Mm.mk ?_
    refine Rng.ok (by simp only [inR]; omega) ?_
    conv => whnf
    rw [← hm]
    repeat' (conv => whnf
             first
             | refine Rng.ok (by simp only [inR]; omega) ?_
             | refine Ob.mk (by first | omega | (simp; done) | decide | (simp; omega)) ?_
             | refine Ob.mk (show eqOK _ _ = true from by kernel_rfl) ?_
             | refine Ob.mk (show keyOK _ _ _ = true from by kernel_rfl) ?_
             | refine Val.mk _ (shr_val (by simp; rfl)) ?_
             | refine Ob.mk (Nat.le_of_ble_eq_true rfl) ?_
             | refine JoinVC.on ?_
             | refine Nils.mk (fun h => ?_) ?_
             | refine Val.mk _ (Int.tmod_eq_emod_of_nonneg (by omega)) ?_
             | refine Val.mk _ (Int.tdiv_eq_ediv_of_nonneg (by omega)) ?_
             | refine Mm.mk ?_
             | refine CallVC.pure rfl (hs) ?_
             | refine CallVC0.pure rfl (hs) ?_
             | (refine Br.mk (fun h => ?_) (fun h => ?_) <;> first | (exfalso; omega; done) | (exfalso; simp at h; done) | skip))
    repeat refine Mm.mk ?_
    refine EndVC.mk _ rfl _ _ ⟨rfl, rfl⟩ ?_
    refine ⟨[], rfl, rfl, ?_, ?_⟩ <;> repeat' (first | exact trivial | exact rfl | exact Iff.rfl | apply And.intro)
  · generalize (m / 536870912) * (m / 536870912) = u at *
    generalize 2 * (m / 536870912) * (m % 536870912) = v at *
    generalize (m % 536870912) * (m % 536870912) = t at *
    omega
theorem mask32 {n : Int} (h : 0 ≤ n ∧ n ≤ 18446744073709551615) : bits .and .u64 n 4294967295 = n % 4294967296 := by
  obtain ⟨k, rfl⟩ := Int.eq_ofNat_of_zero_le h.1
  have := bits_and_u64_nat k 4294967295 (by omega) (by omega)
  rw [show ((4294967295 : Nat) : Int) = 4294967295 from rfl] at this
  rw [this, show (4294967295 : Nat) = 2 ^ 32 - 1 from rfl, Nat.and_two_pow_sub_one_eq_mod]
  omega
theorem s74 (a b : Int) (ha : 0 ≤ a ∧ a ≤ 18446744073709551615) (hb : 0 ≤ b ∧ b ≤ 18446744073709551615) : PSpec Try.prog 74 [U64 a, U64 b] (.tup [U64 (a * b / 18446744073709551616), U64 (a * b % 18446744073709551616)]) := by
  have m1 := mul_bd (a := a % 4294967296) (b := b % 4294967296) (A := 4294967295) (B := 4294967295) (by omega) (by omega)
  have m2 := mul_bd (a := a / 4294967296) (b := b % 4294967296) (A := 4294967295) (B := 4294967295) (by omega) (by omega)
  have m3 := mul_bd (a := a % 4294967296) (b := b / 4294967296) (A := 4294967295) (B := 4294967295) (by omega) (by omega)
  have m4 := mul_bd (a := a / 4294967296) (b := b / 4294967296) (A := 4294967295) (B := 4294967295) (by omega) (by omega)
  have p1 : 0 ≤ (a % 4294967296) * (b % 4294967296) := Int.mul_nonneg (by omega) (by omega)
  have p2 : 0 ≤ (a / 4294967296) * (b % 4294967296) := Int.mul_nonneg (by omega) (by omega)
  have p3 : 0 ≤ (a % 4294967296) * (b / 4294967296) := Int.mul_nonneg (by omega) (by omega)
  have p4 : 0 ≤ (a / 4294967296) * (b / 4294967296) := Int.mul_nonneg (by omega) (by omega)
  have e : a * b = (a / 4294967296) * (b / 4294967296) * 18446744073709551616 + ((a / 4294967296) * (b % 4294967296) + (a % 4294967296) * (b / 4294967296)) * 4294967296 + (a % 4294967296) * (b % 4294967296) := by
    have h1 := Int.mul_ediv_add_emod a 4294967296
    have h2 := Int.mul_ediv_add_emod b 4294967296
    generalize a / 4294967296 = a1 at *
    generalize a % 4294967296 = a0 at *
    generalize b / 4294967296 = b1 at *
    generalize b % 4294967296 = b0 at *
    subst h1 h2
    grind
  refine spec_of pMix (O := []) Try.func74 (c := bodyOf Try.f74) rfl (by kernel_rfl) (by kernel_rfl) Try.ntmps74 (res := [.tmp 4, .tmp 5]) (by kernel_rfl) ?_
  repeat' (conv => whnf
           first
           | refine Rng.ok (by simp only [inR]; omega) ?_
           | refine Ob.mk (by first | omega | (simp; done) | decide | (simp; omega)) ?_
           | refine Val.mk _ (shr_val (by simp; rfl)) ?_
           | refine Val.mk _ (mask32 (by omega)) ?_)
  all_goals conv => whnf
  refine Rng.wr ?_
  repeat refine Mm.mk ?_
  refine EndVC.mk _ rfl _ _ ⟨rfl, rfl⟩ ?_
  refine ⟨[], rfl, rfl, ?_, ?_⟩ <;> repeat' (first | exact trivial | exact rfl | exact Iff.rfl | apply And.intro)
  · generalize (a / 4294967296) * (b / 4294967296) = u at *
    generalize (a / 4294967296) * (b % 4294967296) = v at *
    generalize (a % 4294967296) * (b / 4294967296) = t at *
    generalize (a % 4294967296) * (b % 4294967296) = r at *
    omega
end Go.Sx

namespace Go.Sx
open Go Go.Proofs
set_option maxRecDepth 10000
set_option maxHeartbeats 1000000
theorem e33 : EntersF Try.prog 33 := enters_of Try.func33 (c := bodyOf Try.f33) (by kernel_rfl) rfl
theorem e34 : EntersF Try.prog 34 := enters_of Try.func34 (c := bodyOf Try.f34) (by kernel_rfl) rfl
theorem mul_self_nonneg' (a : Int) : 0 ≤ a * a := by rcases Int.le_total 0 a with h | h; exact Int.mul_nonneg h h; exact Int.mul_nonneg_of_nonpos_of_nonpos h h
theorem s75 (x y c : Int) (hx : 0 ≤ x ∧ x ≤ 18446744073709551615) (hy : 0 ≤ y ∧ y ≤ 18446744073709551615) (hc : 0 ≤ c ∧ c ≤ 1) :
    PSpec Try.prog 75 [U64 x, U64 y, U64 c] (.tup [U64 ((x + y + c) % 18446744073709551616), U64 ((x + y + c) / 18446744073709551616)]) := by
  obtain ⟨x, rfl⟩ := Int.eq_ofNat_of_zero_le hx.1
  obtain ⟨y, rfl⟩ := Int.eq_ofNat_of_zero_le hy.1
  obtain ⟨c, rfl⟩ := Int.eq_ofNat_of_zero_le hc.1
  refine pspec_extern Try.func75 (by kernel_rfl) (by kernel_rfl) (by kernel_rfl) (e := add64Entry) (by kernel_rfl) fun w R vs h => ?_
  obtain ⟨u, hu, e1⟩ := h.at 0 rfl
  obtain ⟨v, hv, e2⟩ := h.at 1 rfl
  obtain ⟨t, ht, e3⟩ := h.at 2 rfl
  cases e1; cases e2; cases e3
  have : vs = #[.int .u64 (x : Int), .int .u64 (y : Int), .int .u64 (c : Int)] := by
    have hl : vs.size = 3 := h.1
    refine Array.ext' (List.ext_getElem? fun i => ?_)
    rcases i with _ | _ | _ | i
    · simpa using hu
    · simpa using hv
    · simpa using ht
    · simp [hl]
  subst this
  refine ⟨_, run_add64 x y c (by omega) (by omega) (by omega) (by omega) w, _, rfl, ⟨rfl, fun j x hx => ?_⟩⟩
  rcases j with _ | _ | j
  · cases hx; rfl
  · cases hx; rfl
  · cases hx
theorem s73 (n : Int) (h : n.natAbs ≤ 4611686018427387904) : PSpec Try.prog 73 [I n] (.tup [U64 (n * n / 18446744073709551616), U64 (n * n % 18446744073709551616)]) := by
  obtain ⟨m, hm, e1⟩ : ∃ m : Int, m = (if n < 0 - n then 0 - n else n) ∧ m * m = n * n := ⟨_, rfl, by split <;> grind⟩
  have hm2 : 0 ≤ m ∧ m ≤ 4611686018427387904 := by rw [hm]; split <;> omega
  rw [← e1]
  refine spec_of pMix (O := []) Try.func73 (c := bodyOf Try.f73) rfl (by kernel_rfl) (by kernel_rfl) Try.ntmps73 (res := [.tmp 2, .tmp 3]) (by kernel_rfl) ?_
  repeat refine Mm.mk ?_
  refine Rng.ok (by simp only [inR]; omega) ?_
  conv => whnf
  rw [← hm]
  repeat refine Mm.mk ?_
  refine Rng.ok (by simp only [inR]; omega) ?_
  repeat refine Mm.mk ?_
  conv => whnf
  first | refine CallVC.pure rfl (s74 m m (by omega) (by omega)) ?_ | refine CallVC0.pure rfl (s74 m m (by omega) (by omega)) ?_
  repeat refine Mm.mk ?_
  refine EndVC.mk _ rfl _ _ ⟨rfl, rfl⟩ ?_
  refine ⟨[], rfl, rfl, ?_, ?_⟩ <;> repeat' (first | exact trivial | exact rfl | exact Iff.rfl | apply And.intro)
theorem ctr_bd (a b c : Spot) : (ctrX a b c).natAbs ≤ 216172782113783808 ∧ (ctrY a b c).natAbs ≤ 216172782113783808 ∧ 0 ≤ ctrD a b c ∧ ctrD a b c ≤ 824633720832 := by
  by_cases hok : cok a b c
  · have t3 := tsum_bd (g := g3) (fun _ _ _ => g3_bd) hok
    have t4 := tsum_bd (g := g4) (fun _ _ _ => g4_bd) hok
    have t2 : (cD a b c).natAbs ≤ 824633720832 := by
      have hg : ∀ p q r : Spot, p.ok → q.ok → r.ok → (g2 p q r).natAbs ≤ 137438953472 := fun p q r hp hq hr => by
        obtain ⟨h1, h2⟩ := hp; obtain ⟨h3, h4⟩ := hq; obtain ⟨h5, h6⟩ := hr
        have := mul_bd (B := 524288) h1 (show (q.y - r.y).natAbs ≤ 524288 by omega)
        unfold g2; omega
      obtain ⟨ha, hb, hc⟩ := hok
      have b1 := hg a b c ha hb hc
      have b2 := hg b c a hb hc ha
      have b3 := hg c a b hc ha hb
      simp only [cD, tsum]; omega
    unfold ctrX ctrY ctrD
    rw [if_pos hok, if_pos hok, if_pos hok]
    unfold cX cY
    generalize tsum g3 a b c 3 = x at *
    generalize tsum g4 a b c 3 = y at *
    generalize cD a b c = d at *
    refine ⟨?_, ?_, ?_, ?_⟩ <;> (split <;> try split) <;> omega
  · unfold ctrX ctrY ctrD
    rw [if_neg hok, if_neg hok, if_neg hok]
    simp
/-- What Centred returns. -/
def cenE (a b c : Spot) (l : Int) : Int := if ctrE a b c = 0 then (if 0 ≤ l ∧ l ≤ 262144 then 0 else 2) else ctrE a b c
structure cenB (a b c : Spot) (l : Int) : Prop where
  e : cenE a b c l = 0
  le : ctrX a b c * ctrX a b c + ctrY a b c * ctrY a b c ≤ (l * ctrD a b c) * (l * ctrD a b c)
instance (a b c : Spot) (l : Int) : Decidable (cenB a b c l) := decidable_of_iff (cenE a b c l = 0 ∧ ctrX a b c * ctrX a b c + ctrY a b c * ctrY a b c ≤ (l * ctrD a b c) * (l * ctrD a b c)) ⟨fun h => ⟨h.1, h.2⟩, fun h => ⟨h.1, h.2⟩⟩
theorem s33 (a b c : Spot) (l : Int) : PSpec Try.prog 33 [a.v, b.v, c.v, I l] (.tup [.one (.prp (cenB a b c l) inferInstance), I (cenE a b c l)]) := by
  obtain ⟨h1, h2, h3, h4⟩ := ctr_bd a b c
  have c0 : ∀ {e : Int}, e ≠ 0 → e = cenE a b c l → ¬ cenB a b c l := fun h e hk => h (e.trans hk.e)
  refine spec_of pMix (O := []) Try.func33 (c := bodyOf Try.f33) rfl (by kernel_rfl) (by kernel_rfl) Try.ntmps33 (res := [.tmp 8, .tmp 9]) (by kernel_rfl) ?_
  repeat' (conv => whnf
           first
           | refine Rng.ok (by simp only [inR]; omega) ?_
           | refine Ob.mk (by first | omega | (simp; done) | decide | (simp; omega)) ?_
           | refine Ob.mk (show eqOK _ _ = true from by kernel_rfl) ?_
           | refine Ob.mk (show keyOK _ _ _ = true from by kernel_rfl) ?_
           | refine Val.mk _ (shr_val (by simp; rfl)) ?_
           | refine Ob.mk (Nat.le_of_ble_eq_true rfl) ?_
           | refine JoinVC.on ?_
           | refine Nils.mk (fun h => ?_) ?_
           | refine Val.mk _ (Int.tmod_eq_emod_of_nonneg (by omega)) ?_
           | refine Val.mk _ (Int.tdiv_eq_ediv_of_nonneg (by omega)) ?_
           | refine Mm.mk ?_
           | refine CallVC.pure rfl (s31 a b c) ?_
           | refine CallVC.pure rfl (s56 _ _ _) ?_
           | refine CallVC0.pure rfl (s31 a b c) ?_
           | refine CallVC0.pure rfl (s56 _ _ _) ?_
           | (refine Br.mk (fun h => ?_) (fun h => ?_) <;> first | (exfalso; omega; done) | (exfalso; simp at h; done) | skip))
  · have h : ¬ ctrE a b c = 0 := by assumption
    have e : ctrE a b c = cenE a b c l := (if_neg h).symm
    repeat refine Mm.mk ?_
    refine EndVC.mk _ rfl _ _ ⟨rfl, rfl⟩ ?_
    refine ⟨[], rfl, rfl, ?_, ?_⟩ <;> repeat' (first | exact trivial | exact rfl | exact Iff.rfl | apply And.intro)
    · exact c0 h e
    · exact e
  · have e : (2 : Int) = cenE a b c l := by unfold cenE; rw [if_pos (by omega), if_neg (by omega)]
    repeat refine Mm.mk ?_
    refine EndVC.mk _ rfl _ _ ⟨rfl, rfl⟩ ?_
    refine ⟨[], rfl, rfl, ?_, ?_⟩ <;> repeat' (first | exact trivial | exact rfl | exact Iff.rfl | apply And.intro)
    · exact c0 (by decide) e
    · exact e
  have hl : 0 ≤ l ∧ l ≤ 262144 := by omega
  have m1 := mul_bd (a := l) (b := ctrD a b c) (A := 262144) (B := 824633720832) (by omega) (by omega)
  have q1 := mul_bd h1 h1
  have q2 := mul_bd h2 h2
  have q3 := mul_bd m1 m1
  have r1 : 0 ≤ ctrX a b c * ctrX a b c := mul_self_nonneg' _
  have r2 : 0 ≤ ctrY a b c * ctrY a b c := mul_self_nonneg' _
  have r3 : 0 ≤ (l * ctrD a b c) * (l * ctrD a b c) := mul_self_nonneg' _
  repeat' (conv => whnf
           first
           | refine Rng.ok (by simp only [inR]; omega) ?_
           | refine Ob.mk (by first | omega | (simp; done) | decide | (simp; omega)) ?_
           | refine Ob.mk (show eqOK _ _ = true from by kernel_rfl) ?_
           | refine Ob.mk (show keyOK _ _ _ = true from by kernel_rfl) ?_
           | refine Val.mk _ (shr_val (by simp; rfl)) ?_
           | refine Ob.mk (Nat.le_of_ble_eq_true rfl) ?_
           | refine JoinVC.on ?_
           | refine Nils.mk (fun h => ?_) ?_
           | refine Val.mk _ (Int.tmod_eq_emod_of_nonneg (by omega)) ?_
           | refine Val.mk _ (Int.tdiv_eq_ediv_of_nonneg (by omega)) ?_
           | refine Mm.mk ?_
           | refine CallVC.pure rfl (s73 _ (by omega)) ?_
           | refine CallVC.pure rfl (s75 _ _ _ (by omega) (by omega) (by omega)) ?_
           | refine CallVC0.pure rfl (s73 _ (by omega)) ?_
           | refine CallVC0.pure rfl (s75 _ _ _ (by omega) (by omega) (by omega)) ?_
           | (refine Br.mk (fun h => ?_) (fun h => ?_) <;> first | (exfalso; omega; done) | (exfalso; simp at h; done) | skip))
  all_goals
    have hE : ctrE a b c = 0 := by omega
    have eE : cenE a b c l = 0 := by unfold cenE; rw [if_pos hE, if_pos hl]
    generalize eX : ctrX a b c * ctrX a b c = X at *
    generalize eY : ctrY a b c * ctrY a b c = Y at *
    generalize eZ : l * ctrD a b c * (l * ctrD a b c) = Z at *
    have hB : cenB a b c l ↔ X + Y ≤ Z := by rw [← eX, ← eY, ← eZ]; exact ⟨fun h => h.le, fun h => ⟨eE, h⟩⟩
    repeat refine Mm.mk ?_
    refine EndVC.mk _ rfl _ _ ⟨rfl, rfl⟩ ?_
    refine ⟨[], rfl, rfl, ?_, ?_⟩ <;> repeat' (first | exact trivial | exact rfl | exact Iff.rfl | apply And.intro)
    · first
        | exact hB.2 (by omega)
        | (refine Iff.trans ?_ hB.symm; show _ ↔ _; omega)
        | (intro hk; have := hB.1 hk; omega)
    · exact eE.symm
theorem s34 (a b c : Spot) (l : Int) : PSpec Try.prog 34 [a.v, b.v, c.v, I l] (.tup [.one (.prp (cenB a b c l) inferInstance), I (cenE a b c l)]) := by
  obtain ⟨h1, h2, h3, h4⟩ := ctr_bd a b c
  have c0 : ∀ {e : Int}, e ≠ 0 → e = cenE a b c l → ¬ cenB a b c l := fun h e hk => h (e.trans hk.e)
  refine spec_of pMix (O := []) Try.func34 (c := bodyOf Try.f34) rfl (by kernel_rfl) (by kernel_rfl) Try.ntmps34 (res := [.tmp 8, .tmp 9]) (by kernel_rfl) ?_
  repeat' (conv => whnf
           first
           | refine Rng.ok (by simp only [inR]; omega) ?_
           | refine Ob.mk (by first | omega | (simp; done) | decide | (simp; omega)) ?_
           | refine Ob.mk (show eqOK _ _ = true from by kernel_rfl) ?_
           | refine Ob.mk (show keyOK _ _ _ = true from by kernel_rfl) ?_
           | refine Val.mk _ (shr_val (by simp; rfl)) ?_
           | refine Ob.mk (Nat.le_of_ble_eq_true rfl) ?_
           | refine JoinVC.on ?_
           | refine Nils.mk (fun h => ?_) ?_
           | refine Val.mk _ (Int.tmod_eq_emod_of_nonneg (by omega)) ?_
           | refine Val.mk _ (Int.tdiv_eq_ediv_of_nonneg (by omega)) ?_
           | refine Mm.mk ?_
           | refine CallVC.pure rfl (s32 a b c) ?_
           | refine CallVC.pure rfl (s58 _ _ _) ?_
           | refine CallVC0.pure rfl (s32 a b c) ?_
           | refine CallVC0.pure rfl (s58 _ _ _) ?_
           | (refine Br.mk (fun h => ?_) (fun h => ?_) <;> first | (exfalso; omega; done) | (exfalso; simp at h; done) | skip))
  · have h : ¬ ctrE a b c = 0 := by assumption
    have e : ctrE a b c = cenE a b c l := (if_neg h).symm
    repeat refine Mm.mk ?_
    refine EndVC.mk _ rfl _ _ ⟨rfl, rfl⟩ ?_
    refine ⟨[], rfl, rfl, ?_, ?_⟩ <;> repeat' (first | exact trivial | exact rfl | exact Iff.rfl | apply And.intro)
    · exact c0 h e
    · exact e
  · have e : (2 : Int) = cenE a b c l := by unfold cenE; rw [if_pos (by omega), if_neg (by omega)]
    repeat refine Mm.mk ?_
    refine EndVC.mk _ rfl _ _ ⟨rfl, rfl⟩ ?_
    refine ⟨[], rfl, rfl, ?_, ?_⟩ <;> repeat' (first | exact trivial | exact rfl | exact Iff.rfl | apply And.intro)
    · exact c0 (by decide) e
    · exact e
  have hl : 0 ≤ l ∧ l ≤ 262144 := by omega
  have m1 := mul_bd (a := l) (b := ctrD a b c) (A := 262144) (B := 824633720832) (by omega) (by omega)
  obtain ⟨x2, x1, x0, sx, ex, hx⟩ := s76 (ctrX a b c) (by omega)
  obtain ⟨y2, y1, y0, sy, ey, hy⟩ := s76 (ctrY a b c) (by omega)
  obtain ⟨z2, z1, z0, sz, ez, hz⟩ := s76 (l * ctrD a b c) (by omega)
  have ss := s77 (x2 + y2) (x1 + y1) (x0 + y0) (by omega) (by omega) (by omega)
  repeat' (conv => whnf
           first
           | refine Rng.ok (by simp only [inR]; omega) ?_
           | refine Ob.mk (by first | omega | (simp; done) | decide | (simp; omega)) ?_
           | refine Ob.mk (show eqOK _ _ = true from by kernel_rfl) ?_
           | refine Ob.mk (show keyOK _ _ _ = true from by kernel_rfl) ?_
           | refine Val.mk _ (shr_val (by simp; rfl)) ?_
           | refine Ob.mk (Nat.le_of_ble_eq_true rfl) ?_
           | refine JoinVC.on ?_
           | refine Nils.mk (fun h => ?_) ?_
           | refine Val.mk _ (Int.tmod_eq_emod_of_nonneg (by omega)) ?_
           | refine Val.mk _ (Int.tdiv_eq_ediv_of_nonneg (by omega)) ?_
           | refine Mm.mk ?_
           | refine CallVC.pure rfl (sx) ?_
           | refine CallVC.pure rfl (sy) ?_
           | refine CallVC.pure rfl (sz) ?_
           | refine CallVC.pure rfl (ss) ?_
           | refine CallVC0.pure rfl (sx) ?_
           | refine CallVC0.pure rfl (sy) ?_
           | refine CallVC0.pure rfl (sz) ?_
           | refine CallVC0.pure rfl (ss) ?_
           | (refine Br.mk (fun h => ?_) (fun h => ?_) <;> first | (exfalso; omega; done) | (exfalso; simp at h; done) | skip))
  all_goals conv => whnf
  all_goals refine LoopVC.un 4 ?_
  repeat' (conv => whnf
           first
           | refine Rng.ok (by simp only [inR]; omega) ?_
           | refine Ob.mk (by first | omega | (simp; done) | decide | (simp; omega)) ?_
           | refine Ob.mk (show eqOK _ _ = true from by kernel_rfl) ?_
           | refine Ob.mk (show keyOK _ _ _ = true from by kernel_rfl) ?_
           | refine Val.mk _ (shr_val (by simp; rfl)) ?_
           | refine Ob.mk (Nat.le_of_ble_eq_true rfl) ?_
           | refine JoinVC.on ?_
           | refine Nils.mk (fun h => ?_) ?_
           | refine Val.mk _ (Int.tmod_eq_emod_of_nonneg (by omega)) ?_
           | refine Val.mk _ (Int.tdiv_eq_ediv_of_nonneg (by omega)) ?_
           | refine Mm.mk ?_
           | (refine Br.mk (fun h => ?_) (fun h => ?_) <;> first | (exfalso; omega; done) | (exfalso; simp at h; done) | skip))
  all_goals
    have hE : ctrE a b c = 0 := by omega
    have eE : cenE a b c l = 0 := by unfold cenE; rw [if_pos hE, if_pos hl]
    generalize eX : ctrX a b c * ctrX a b c = X at *
    generalize eY : ctrY a b c * ctrY a b c = Y at *
    generalize eZ : l * ctrD a b c * (l * ctrD a b c) = Z at *
    have hB : cenB a b c l ↔ X + Y ≤ Z := by rw [← eX, ← eY, ← eZ]; exact ⟨fun h => h.le, fun h => ⟨eE, h⟩⟩
    repeat refine Mm.mk ?_
    refine EndVC.mk _ rfl _ _ ⟨rfl, rfl⟩ ?_
    refine ⟨[], rfl, rfl, ?_, ?_⟩ <;> repeat' (first | exact trivial | exact rfl | exact Iff.rfl | apply And.intro)
    · first
        | exact hB.2 (by omega)
        | (refine Iff.trans ?_ hB.symm; show _ ↔ _; omega)
        | (intro hk; have := hB.1 hk; omega)
    · exact eE.symm
end Go.Sx

namespace Go.Sx
open Go Go.Proofs
set_option maxRecDepth 10000
set_option maxHeartbeats 1000000
theorem e7 : EntersF Try.prog 7 := enters_of Try.func7 (c := bodyOf Try.f7) (by kernel_rfl) rfl
theorem s7 (a b c : Spot) (l : Int) : PSpec Try.prog 7 [a.v, b.v, c.v, I l] (xP True) := by
  refine spec_of pMix (O := []) Try.func7 (c := bodyOf Try.f7) rfl (by kernel_rfl) (by kernel_rfl) Try.ntmps7 (res := [.tmp 8]) (by kernel_rfl) ?_
  repeat' (conv => whnf
           first
           | refine Rng.ok (by simp only [inR]; omega) ?_
           | refine Ob.mk (by first | omega | (simp; done) | decide | (simp; omega)) ?_
           | refine Ob.mk (show eqOK _ _ = true from by kernel_rfl) ?_
           | refine Ob.mk (show keyOK _ _ _ = true from by kernel_rfl) ?_
           | refine Val.mk _ (shr_val (by simp; rfl)) ?_
           | refine Ob.mk (Nat.le_of_ble_eq_true rfl) ?_
           | refine JoinVC.on ?_
           | refine Nils.mk (fun h => ?_) ?_
           | refine Val.mk _ (Int.tmod_eq_emod_of_nonneg (by omega)) ?_
           | refine Val.mk _ (Int.tdiv_eq_ediv_of_nonneg (by omega)) ?_
           | refine Mm.mk ?_
           | refine CallVC.pure rfl (s31 a b c) ?_
           | refine CallVC.pure rfl (s32 a b c) ?_
           | refine CallVC.pure rfl (s33 a b c l) ?_
           | refine CallVC.pure rfl (s34 a b c l) ?_
           | refine CallVC.pure rfl (s22) ?_
           | refine CallVC0.pure rfl (s31 a b c) ?_
           | refine CallVC0.pure rfl (s32 a b c) ?_
           | refine CallVC0.pure rfl (s33 a b c l) ?_
           | refine CallVC0.pure rfl (s34 a b c l) ?_
           | refine CallVC0.pure rfl (s22) ?_
           | (refine Br.mk (fun h => ?_) (fun h => ?_) <;> first | (exfalso; omega; done) | (exfalso; simp at h; done) | skip))
  all_goals
    repeat refine Mm.mk ?_
    refine EndVC.mk _ rfl _ _ ⟨rfl, rfl⟩ ?_
    refine ⟨[], rfl, rfl, ?_, ?_⟩ <;> repeat' (first | exact trivial | exact rfl | exact Iff.rfl | apply And.intro)
end Go.Sx

namespace Go.Sx
open Go Go.Proofs
set_option maxRecDepth 10000
set_option maxHeartbeats 8000000
theorem e17 : EntersF Try.prog 17 := enters_of Try.func17 (c := bodyOf Try.f17) (by kernel_rfl) rfl
theorem e30 : EntersF Try.prog 30 := enters_of Try.func30 (c := bodyOf Try.f30) (by kernel_rfl) rfl
/-! ### The fastest way of the example -/
/-- The states that some states lead to. -/
def insS (s : S2) : List S2 → List S2
  | [] => [s]
  | t :: l => if s.1 = t.1 ∧ s.2 = t.2 then t :: l else t :: insS s l
theorem insS_self (s : S2) : ∀ l, s ∈ insS s l
  | [] => by simp [insS]
  | t :: l => by
    unfold insS
    split
    · rename_i h
      rw [show s = t from Prod.ext h.1 h.2]; simp
    · exact List.mem_cons_of_mem _ (insS_self s l)
theorem insS_old {s t : S2} : ∀ {l : List S2}, t ∈ l → t ∈ insS s l
  | u :: l, h => by
    unfold insS
    split
    · exact h
    · rcases List.mem_cons.1 h with rfl | h
      · simp
      · exact List.mem_cons_of_mem _ (insS_old h)
def lev1 (m : Mac) : List S2 → List S2
  | [] => []
  | s :: l => insS (nx m s 0) (insS (nx m s 1) (insS (nx m s 2) (lev1 m l)))
theorem lev1_mem {m : Mac} {s : S2} {v : Int} (hv : 0 ≤ v ∧ v ≤ 2) : ∀ {l : List S2}, s ∈ l → nx m s v ∈ lev1 m l
  | t :: l, h => by
    unfold lev1
    rcases List.mem_cons.1 h with rfl | h
    · have : v = 0 ∨ v = 1 ∨ v = 2 := by omega
      rcases this with rfl | rfl | rfl
      · exact insS_self _ _
      · exact insS_old (insS_self _ _)
      · exact insS_old (insS_old (insS_self _ _))
    · exact insS_old (insS_old (insS_old (lev1_mem hv h)))
def lev (m : Mac) : Nat → List S2 → List S2
  | 0, l => l
  | n + 1, l => lev m n (lev1 m l)
theorem lev_mem {m : Mac} : ∀ {u : List Int} {s : S2} {l : List S2}, OKW u → s ∈ l → runS m s u ∈ lev m u.length l
  | [], _, _, _, h => h
  | v :: u, s, l, hu, h => lev_mem (u := u) (fun x hx => hu x (List.mem_cons_of_mem _ hx)) (lev1_mem (hu v (by simp)) h)
/-- None of these states is good. -/
def noneB (m : Mac) : List S2 → Bool
  | [] => true
  | s :: l => !(decide (s.2 = m.hold) && decide (s.1 ≤ m.cool)) && noneB m l
theorem noneB_no {m : Mac} {s : S2} : ∀ {l : List S2}, noneB m l = true → s ∈ l → ¬ goodS m s
  | t :: l, h, hs => by
    simp only [noneB, Bool.and_eq_true, Bool.not_eq_true', Bool.and_eq_false_iff, decide_eq_false_iff_not] at h
    rcases List.mem_cons.1 hs with rfl | hs
    · rintro ⟨h1, h2⟩
      rcases h.1 with h3 | h3
      · exact h3 h1
      · exact h3 h2
    · exact noneB_no h.2 hs
/-- No way of fewer ticks leads from here to a good disc. -/
def shortB (m : Mac) (s : S2) : Nat → Bool
  | 0 => true
  | n + 1 => noneB m (lev m n [s]) && shortB m s n
theorem shortB_no {m : Mac} {s : S2} : ∀ {n : Nat}, shortB m s n = true → ∀ {u : List Int}, OKW u → u.length < n → ¬ goodS m (runS m s u)
  | n + 1, h, u, hu, hl => by
    simp only [shortB, Bool.and_eq_true] at h
    rcases Nat.lt_or_ge u.length n with h1 | h1
    · exact shortB_no h.2 hu h1
    · have : u.length = n := by omega
      subst this
      exact noneB_no h.1 (lev_mem hu (by simp))
/-- No way of as many ticks that comes before this one leads from here to a good disc. -/
def firstB (m : Mac) (s : S2) : List Int → Bool
  | [] => true
  | v :: w => (!(decide (0 < v)) || noneB m (lev m w.length [nx m s 0])) && ((!(decide (1 < v)) || noneB m (lev m w.length [nx m s 1])) && firstB m (nx m s v) w)
theorem firstB_no {m : Mac} : ∀ {w : List Int} {s : S2}, OKW w → firstB m s w = true → ∀ {u : List Int}, OKW u → u.length = w.length → lexL u w → ¬ goodS m (runS m s u)
  | [], _, _, _, [], _, _, h => by simp [lexL] at h
  | [], _, _, _, _ :: _, _, h, _ => by simp at h
  | _ :: _, _, _, _, [], _, h, _ => by simp at h
  | v :: w, s, hw, h, a :: u, hu, hl, hx => by
    simp only [firstB, Bool.and_eq_true, Bool.or_eq_true, Bool.not_eq_true', decide_eq_false_iff_not] at h
    have ha := hu a (by simp)
    have hv := hw v (by simp)
    have hl' : u.length = w.length := by simpa using hl
    have hu' : OKW u := fun x hx => hu x (List.mem_cons_of_mem _ hx)
    have hw' : OKW w := fun x hx => hw x (List.mem_cons_of_mem _ hx)
    show ¬ goodS m (runS m (nx m s a) u)
    rcases hx with hx | ⟨rfl, hx⟩
    · have : a = 0 ∨ a = 1 := by omega
      rcases this with rfl | rfl
      · rcases h.1 with h1 | h1
        · omega
        · have := lev_mem (m := m) (l := [nx m s 0]) hu' (by simp : nx m s 0 ∈ [nx m s 0])
          rw [hl'] at this
          exact noneB_no h1 this
      · rcases h.2.1 with h1 | h1
        · omega
        · have := lev_mem (m := m) (l := [nx m s 1]) hu' (by simp : nx m s 1 ∈ [nx m s 1])
          rw [hl'] at this
          exact noneB_no h1 this
    · exact firstB_no hw' h.2.2 hu' hl' hx
@[reducible] def way0 : List Int := [1, 0, 1, 1, 1, 0, 0, 2, 2, 2]
theorem way0_ok : OKW way0 := fun v hv => by
  simp only [List.mem_cons, List.not_mem_nil, or_false] at hv
  omega
theorem way0_best : Best exMac (20, 0) way0 := by
  refine ⟨way0_ok, by constructor <;> decide, fun u hu hg => ?_⟩
  have h1 : shortB exMac (20, 0) 10 = true := by kernel_rfl
  have h2 : firstB exMac (20, 0) way0 = true := by kernel_rfl
  rcases slt_tot way0 u with h | h | h
  · exact .inl h
  · exact .inr h
  · exfalso
    rcases h with h | ⟨h, h'⟩
    · exact shortB_no h1 hu h hg
    · exact firstB_no way0_ok h2 hu h h' hg
theorem s30 (xs : List Int) (hl : xs.length ≤ 1073741824) : PSpec Try.prog 30 [lN xs, lN xs] (xP True) := by
  have lx := i64s_len xs
  refine spec_of pMix (O := []) Try.func30 (c := bodyOf Try.f30) rfl (by kernel_rfl) (by kernel_rfl) Try.ntmps30 (res := [.tmp 4]) (by kernel_rfl) ?_
  repeat' (conv => whnf
           first
           | refine Rng.ok (by simp only [inR]; omega) ?_
           | refine Ob.mk (by first | omega | (simp; done) | decide | (simp; omega)) ?_
           | refine Ob.mk (show eqOK _ _ = true from by kernel_rfl) ?_
           | refine Ob.mk (show keyOK _ _ _ = true from by kernel_rfl) ?_
           | refine Val.mk _ (shr_val (by simp; rfl)) ?_
           | refine Ob.mk (Nat.le_of_ble_eq_true rfl) ?_
           | refine JoinVC.on ?_
           | refine Nils.mk (fun h => ?_) ?_
           | refine Val.mk _ (Int.tmod_eq_emod_of_nonneg (by omega)) ?_
           | refine Val.mk _ (Int.tdiv_eq_ediv_of_nonneg (by omega)) ?_
           | refine Mm.mk ?_
           | (refine Br.mk (fun h => ?_) (fun h => ?_) <;> first | (exfalso; omega; done) | (exfalso; simp at h; done) | skip))
  refine LoopVC.mk (fun n st => ∃ i : Nat, i ≤ xs.length ∧ n = xs.length - i ∧ st = ⟨0, envA 26 [(0, .x (lN xs)), (1, .x (lN xs)), (5, .int .i64 (i : Int))], []⟩) _ _ ⟨0, Nat.zero_le _, rfl, rfl⟩ ?_ ?_
  · refine ⟨[], rfl, rfl, ?_, ?_⟩ <;> repeat' (first | exact trivial | exact rfl | exact Iff.rfl | apply And.intro)
  rintro n _ ⟨i, hi, hn, rfl⟩
  by_cases hi' : i < xs.length
  · repeat' (conv => whnf
             first
             | refine Rng.ok (by simp only [inR]; omega) ?_
             | refine Ob.mk (by first | omega | (simp; done) | decide | (simp; omega)) ?_
             | refine Ob.mk (show eqOK _ _ = true from by kernel_rfl) ?_
             | refine Ob.mk (show keyOK _ _ _ = true from by kernel_rfl) ?_
             | refine Val.mk _ (shr_val (by simp; rfl)) ?_
             | refine Ob.mk (Nat.le_of_ble_eq_true rfl) ?_
             | refine JoinVC.on ?_
             | refine Nils.mk (fun h => ?_) ?_
             | refine Val.mk _ (Int.tmod_eq_emod_of_nonneg (by omega)) ?_
             | refine Val.mk _ (Int.tdiv_eq_ediv_of_nonneg (by omega)) ?_
             | refine Mm.mk ?_
             | (refine Br.mk (fun h => ?_) (fun h => ?_) <;> first | (exfalso; omega; done) | (exfalso; simp at h; done) | skip))
    refine Back.mk (xs.length - (i + 1)) _ (by omega) ⟨i + 1, by omega, rfl, rfl⟩ ?_
    refine ⟨[], rfl, rfl, ?_, ?_⟩ <;> repeat' (first | exact trivial | exact rfl | exact Iff.rfl | apply And.intro)
  · repeat' (conv => whnf
             first
             | refine Rng.ok (by simp only [inR]; omega) ?_
             | refine Ob.mk (by first | omega | (simp; done) | decide | (simp; omega)) ?_
             | refine Ob.mk (show eqOK _ _ = true from by kernel_rfl) ?_
             | refine Ob.mk (show keyOK _ _ _ = true from by kernel_rfl) ?_
             | refine Val.mk _ (shr_val (by simp; rfl)) ?_
             | refine Ob.mk (Nat.le_of_ble_eq_true rfl) ?_
             | refine JoinVC.on ?_
             | refine Nils.mk (fun h => ?_) ?_
             | refine Val.mk _ (Int.tmod_eq_emod_of_nonneg (by omega)) ?_
             | refine Val.mk _ (Int.tdiv_eq_ediv_of_nonneg (by omega)) ?_
             | refine Mm.mk ?_
             | (refine Br.mk (fun h => ?_) (fun h => ?_) <;> first | (exfalso; omega; done) | (exfalso; simp at h; done) | skip))
    repeat refine Mm.mk ?_
    refine EndVC.mk _ rfl _ _ ⟨rfl, rfl⟩ ?_
    refine ⟨[], rfl, rfl, ?_, ?_⟩ <;> repeat' (first | exact trivial | exact rfl | exact Iff.rfl | apply And.intro)
/-! ### Acts with known numbers -/
theorem doOK {p : Pst} {L : List Disc} {l : MapL} (hU : UsedOK l L) (hI : PInv exMac p L) (k a b : Int) (q : Pst) (L' : List Disc) (d : Disc) (e : errD exMac p L k a b = 0) (h1 : nextP exMac p k a b = q) (h2 : nextL exMac p L k = L') (h3 : outD exMac p L k = d) :
    HSpec Try.prog 41 [.one (.ptr 0 0), .agg [.int .i64 k, .int .i64 a, .int .i64 b]] [bP 1, bW 2 3 exMac p, dRow L, mpU l] (fun r m' => ∃ l', UsedOK l' L' ∧ PInv exMac q L' ∧ r = .tup [d.x, I 0] ∧ m' = [some (bP 4), none, none, none, some (bW 5 6 exMac q), some (dRow L'), some (mpU l')]) := by
  refine (s41k hU hI e).mono fun r m' => ?_
  rintro ⟨l', g1, g2, g3⟩
  have hP := pinv_next hI e
  rw [h1, h2] at hP
  rw [h2] at g1
  rw [h3] at g2
  rw [h1, h2] at g3
  exact ⟨l', g1, hP, g2, g3⟩
theorem doErr {p : Pst} {L : List Disc} {l : MapL} (hU : UsedOK l L) (hI : PInv exMac p L) (k a b e : Int) (h : errD exMac p L k a b = e) (h0 : e ≠ 0) :
    HSpec Try.prog 41 [.one (.ptr 0 0), .agg [.int .i64 k, .int .i64 a, .int .i64 b]] [bP 1, bW 2 3 exMac p, dRow L, mpU l] (fun r m' => r = .tup [d0.x, I e] ∧ m' = [some (bP 1), some (bW 2 3 exMac p), some (dRow L), some (mpU l)]) :=
  (s41 exMac p L l hU hI k a b).mono fun r m' h9 => by
    rcases h9 with ⟨h1, _⟩ | ⟨_, h2, h3⟩
    · exact absurd (h.symm.trans h1) h0
    · rw [h] at h2; exact ⟨h2, h3⟩
theorem exMac_ok : exMac.ok := by simp [Mac.ok, exMac]
theorem k41 : PInv exMac ⟨false, false, 0, 20, 0, 0, 0, 0, 0⟩ [] := pinv_new exMac_ok
theorem kMounts : moE [5, 3] [2, 9] 7 = 0 ∧ moL [5, 3] [2, 9] 7 = [(0, 0, 2), (0, 1, 3), (1, 1, 2)] := by
  have h : moE [5, 3] [2, 9] 7 = 0 := by decide
  refine ⟨h, ?_⟩
  unfold moL
  rw [if_pos h]
  apply mo_eq
  refine MR.go 2 (by decide) (by decide) (by decide) (by decide) ?_
  refine MR.sk (by decide) (by decide) (by decide) ?_
  refine MR.go 3 (by decide) (by decide) (by decide) (by decide) ?_
  refine MR.si (by decide) (by decide) ?_
  refine MR.go 2 (by decide) (by decide) (by decide) (by decide) ?_
  exact MR.done (by decide)
end Go.Sx
