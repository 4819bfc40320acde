import Derived.Test.YtmhkphkikmkoiaaGreatDoorProg
import Derived.Test.YtmhkphkikmkoiaaGreatDoorXv
import Derived.Shelf.Strings.SlTrimAscii
namespace Go.Sx
open Go Go.Proofs
set_option maxRecDepth 10000
set_option maxHeartbeats 1000000
theorem pMix : Tryz.prog.follows .mixedOrders = true := by kernel_rfl
structure Smp where
 l : Int
 r : Int
@[reducible] def Smp.x (s : Smp) : XV := .agg [.int .i64 s.l, .int .i64 s.r]
def smpA (l : List Smp) : Arr := l.map fun s => [.int s.l, .int s.r]
theorem smpA_len (l : List Smp) : (smpA l).length = l.length := by simp [smpA]
abbrev s0 : Smp := ⟨0, 0⟩
theorem smpA_l (l : List Smp) (i : Nat) : rI (smpA l) i 0 = (l.getD i s0).l := map_rI _ s0 l i 0 rfl
theorem smpA_r (l : List Smp) (i : Nat) : rI (smpA l) i 1 = (l.getD i s0).r := map_rI _ s0 l i 1 rfl
theorem smpA_snoc (l : List Smp) (s : Smp) : smpA (l ++ [s]) = smpA l ++ [[.int s.l, .int s.r]] := by simp [smpA]
@[reducible] def KS : List CK := [.int .i64, .int .i64]
@[reducible] def lS (l : List Smp) : XV := .one (.lst true KS (smpA l))
def Smp.ok (s : Smp) : Prop := -32767 ≤ s.l ∧ s.l ≤ 32767 ∧ -32767 ≤ s.r ∧ s.r ≤ 32767
instance (s : Smp) : Decidable s.ok := by unfold Smp.ok; exact inferInstance
theorem s125 (n lo hi : Int) : PSpec Tryz.prog 139 [I n, I lo, I hi] (xP (lo ≤ n ∧ n ≤ hi)) := by
 refine spec_g (bodyOf Tryz.f139) [] pMix Tryz.func139 Tryz.ntmps139 [.tmp 6] ?_
 repeat' ((conv => whnf); first | (refine Br.mk (fun h => ?_) (fun h => ?_) <;> first | (exfalso; omega; done) | (exfalso; simp at h; done) | skip))
 ·refine EndVC.mk _ rfl _ _ ⟨rfl, rfl⟩ ?_
  refine ⟨[], rfl, rfl, ?_, ?_⟩ <;> repeat' (first | exact trivial | apply And.intro)
  show _ ↔ _
  simp [h]
 ·refine EndVC.mk _ rfl _ _ ⟨rfl, rfl⟩ ?_
  refine ⟨[], rfl, rfl, ?_, ?_⟩ <;> repeat' (first | exact trivial | apply And.intro)
  show ¬ _
  simp [h]
theorem s200 (s : Smp) : PSpec Tryz.prog 124 [s.x] (xP s.ok) := by
 refine spec_g (bodyOf Tryz.f124) [] pMix Tryz.func124 Tryz.ntmps124 [.tmp 2] ?_
 repeat' ((conv => whnf); first | refine CallVC.pure rfl (s125 _ _ _) ?_ | (refine Br.mk (fun h => ?_) (fun h => ?_) <;> first | (exfalso; omega; done) | (exfalso; simp at h; done) | skip))
 ·refine EndVC.mk _ rfl _ _ ⟨rfl, rfl⟩ ?_
  refine ⟨[], rfl, rfl, ?_, ?_⟩ <;> repeat' (first | exact trivial | apply And.intro)
  show _ ↔ _
  unfold Smp.ok
  omega
 ·refine EndVC.mk _ rfl _ _ ⟨rfl, rfl⟩ ?_
  refine ⟨[], rfl, rfl, ?_, ?_⟩ <;> repeat' (first | exact trivial | apply And.intro)
  show ¬ _
  unfold Smp.ok
  omega
def smpE (l : List Smp) : Int := if 4096 < l.length then 6 else if ∀ s ∈ l, s.ok then 0 else 2
theorem smpE_0 {l : List Smp} : smpE l = 0 ↔ l.length ≤ 4096 ∧ ∀ s ∈ l, s.ok := by
 unfold smpE
 split
 ·constructor
  ·intro h; cases h
  ·intro h; omega
 ·split
  ·rename_i h1 h2; exact ⟨fun _ => ⟨by omega, h2⟩, fun _ => rfl⟩
  ·rename_i h1 h2; exact ⟨fun h => (by cases h), fun h => absurd h.2 h2⟩
theorem smpE_2 {l : List Smp} (h : l.length ≤ 4096) {i : Nat} (hi : i < l.length) (hn : ¬ (l.getD i s0).ok) : smpE l = 2 := by
 unfold smpE
 rw [if_neg (by omega), if_neg (fun h' => hn (h' _ (getD_mem' s0 hi)))]
theorem smpE_ok {l : List Smp} (h : l.length ≤ 4096) (hn : ∀ j, j < l.length → (l.getD j s0).ok) : smpE l = 0 := by
 refine smpE_0.2 ⟨h, fun s hs => ?_⟩
 obtain ⟨j, hj, rfl⟩ := List.getElem_of_mem hs
 have := hn j hj
 rwa [List.getD_eq_getElem?_getD, List.getElem?_eq_getElem hj] at this
theorem s103 (l : List Smp) : PSpec Tryz.prog 106 [lS l] (.x (I (smpE l))) := by
 have ll := smpA_len l
 by_cases hl : 4096 < l.length
 ·refine spec_g (bodyOf Tryz.f106) [] pMix Tryz.func106 Tryz.ntmps106 [.tmp 2] ?_
  repeat' ((conv => whnf); refine Br.t (fun h => ?_))
  refine EndVC.mk _ rfl _ _ ⟨rfl, rfl⟩ ?_
  refine ⟨[], rfl, rfl, ?_, ?_⟩ <;> repeat' (first | exact trivial | exact rfl | apply And.intro)
  unfold smpE
  rw [if_pos hl]
 refine spec_g (bodyOf Tryz.f106) [] pMix Tryz.func106 Tryz.ntmps106 [.tmp 2] ?_
 repeat' ((conv => whnf); refine Br.f (fun h => ?_))
 refine LoopVC.mk (fun n st => ∃ (i : Nat) (M : List (Option Blk)), i ≤ l.length ∧ n = l.length - i ∧ (∀ j, j < i → (l.getD j s0).ok) ∧ st = ⟨0, envA 18 [(8, .x (lS l)), (9, .int .i64 (l.length : Int)), (10, .int .i64 (i : Int))], []⟩) _ _ ⟨0, [], Nat.zero_le _, rfl, fun j hj => absurd hj (Nat.not_lt_zero j), rfl⟩ ?_ ?_
 ·refine ⟨[], rfl, rfl, ?_, ?_⟩ <;> repeat' (first | exact trivial | exact rfl | apply And.intro)
  exact congrArg Int.ofNat ll
 rintro n _ ⟨i, _, hi, hn, hj, rfl⟩
 have g0 : rI (smpA l) (i : Int).toNat 0 = (l.getD i s0).l := smpA_l l i
 have g1 : rI (smpA l) (i : Int).toNat 1 = (l.getD i s0).r := smpA_r l i
 by_cases hi' : i < l.length
 ·repeat' ((conv => whnf); first | refine Rng.g ?_ | refine Ob.g ?_ | refine CallVC.pure rfl (s200 ⟨rI (smpA l) (i : Int).toNat 0, rI (smpA l) (i : Int).toNat 1⟩) ?_ | refine Br.t (fun h => ?_) | (refine Br.mk (fun h => ?_) (fun h => ?_) <;> first | (exfalso; omega; done) | (exfalso; simp at h; done) | skip))
  all_goals rw [g0, g1] at h
  ·refine EndVC.mk _ rfl _ _ ⟨rfl, rfl⟩ ?_
   refine ⟨[], rfl, rfl, ?_, ?_⟩ <;> repeat' (first | exact trivial | exact rfl | apply And.intro)
   exact (smpE_2 (by omega) hi' h).symm
  ·refine Back.mk (l.length - (i + 1)) _ (by omega) ⟨i + 1, [], by omega, rfl, fun j hj' => ?_, rfl⟩ ?_
   ·rcases Nat.lt_succ_iff_lt_or_eq.1 hj' with h' | rfl
    ·exact hj j h'
    ·exact Decidable.not_not.1 h
   ·exact Le.g []
 ·repeat' ((conv => whnf); refine Br.f (fun h => ?_))
  refine EndVC.mk _ rfl _ _ ⟨rfl, rfl⟩ ?_
  refine ⟨[], rfl, rfl, ?_, ?_⟩ <;> repeat' (first | exact trivial | exact rfl | apply And.intro)
  exact (smpE_ok (by omega) (fun j hj' => hj j (by omega))).symm
end Go.Sx

namespace Go.Sx.Ls
open Go Go.Proofs Go.Sx
set_option maxRecDepth 10000
set_option maxHeartbeats 4000000
def ch : Nat → Nat → Int
 | _, 0 => 1
 | 0, _ + 1 => 0
 | n + 1, k + 1 => ch n k + ch n (k + 1)
theorem ch_bd : ∀ (n k : Nat), 0 ≤ ch n k ∧ ch n k ≤ 2 ^ n
 | 0, 0 => by simp [ch]
 | n + 1, 0 => by
  have := ch_bd n 0
  simp only [ch] at this ⊢
  rw [Int.pow_succ]
  omega
 | 0, k + 1 => by simp [ch]
 | n + 1, k + 1 => by
  have h1 := ch_bd n k
  have h2 := ch_bd n (k + 1)
  simp only [ch]
  rw [Int.pow_succ]
  omega
theorem pow_le50 {n : Nat} (h : n ≤ 50) : (2 : Int) ^ n ≤ 1125899906842624 := by
 have h1 : (2 : Nat) ^ n ≤ 2 ^ 50 := Nat.pow_le_pow_right (by decide) h
 have h2 : ((2 ^ n : Nat) : Int) = (2 : Int) ^ n := by simp
 rw [← h2]
 exact Int.ofNat_le.2 h1
theorem ch_rng {n : Nat} (h : n ≤ 50) (k : Nat) : 0 ≤ ch n k ∧ ch n k ≤ 1125899906842624 := by
 have h1 := ch_bd n k
 have h2 := pow_le50 h
 omega
def triC (m : Nat) (i : Nat) : Int := if i < m then ch (i / 51) (i % 51) else 0
def tri (m : Nat) : List SV := (List.range 2601).map fun i => SV.int .i64 (triC m i)
theorem tri_le (k : Nat) (mm : List (Option Blk)) (r : List (Option Nat)) (m : Nat) : leSs k mm r (tri m) (tri m) := by
 unfold tri
 generalize List.range 2601 = L
 induction L with
 | nil => exact trivial
 | cons a L ih => exact ⟨⟨rfl, rfl⟩, ih⟩
theorem leSs_eq {k : Nat} {mm : List (Option Blk)} {r : List (Option Nat)} {m : Nat} {xs : List SV} (h : xs = tri m) : leSs k mm r xs (tri m) := h ▸ tri_le k mm r m
theorem tri_len (m : Nat) : (tri m).length = 2601 := by simp [tri]
theorem tri_ble (m J : Nat) (hJ : J < 2601) : (J + Tryz.t2.size).ble (lenL (tri m)) = true := by
 rw [lenL_eq, tri_len]
 exact Nat.ble_eq_true_of_le (show J + 1 ≤ 2601 by omega)
theorem ch_zero : ∀ (n k : Nat), n < k → ch n k = 0
 | _, 0, h => absurd h (Nat.not_lt_zero _)
 | 0, k + 1, _ => by simp [ch]
 | n + 1, k + 1, h => by
  rw [ch, ch_zero n k (by omega), ch_zero n (k + 1) (by omega)]
  rfl
theorem tri_set (m : Nat) (v : Int) (hv : v = ch (m / 51) (m % 51)) : (tri m).set m (SV.int .i64 v) = tri (m + 1) := by
 refine List.ext_getElem (by simp [tri]) fun i h1 h2 => ?_
 rw [tri_len] at h2
 rw [List.getElem_set]
 simp only [tri, List.getElem_map, List.getElem_range, triC]
 by_cases he : m = i
 ·subst he
  rw [if_pos rfl, if_pos (by omega), hv]
 ·rw [if_neg he]
  by_cases hi : i < m
  ·rw [if_pos hi, if_pos (by omega)]
  ·rw [if_neg hi, if_neg (by omega)]
theorem tri_sets (m J : Nat) (v : Int) (K : List SV → Prop) (hJ : J = m) (hv : v = ch (m / 51) (m % 51)) : setsL (tri m) J [SV.int .i64 v] K = K (tri (m + 1)) := by
 rw [setsL_eq, hJ]
 show K ((tri m).set m (SV.int .i64 v)) = _
 rw [tri_set m v hv]
theorem tri_row (n : Nat) (hn : n ≤ 50) : tri (n * 51 + n + 1) = tri ((n + 1) * 51) := by
 refine List.map_congr_left fun i _ => ?_
 simp only [triC]
 by_cases h1 : i < n * 51 + n + 1
 ·by_cases h2 : i < (n + 1) * 51
  ·rw [if_pos h1, if_pos h2]
  ·omega
 ·by_cases h2 : i < (n + 1) * 51
  ·rw [if_neg h1, if_pos h2, ch_zero _ _ (by omega)]
  ·rw [if_neg h1, if_neg h2]
theorem tri_getL (m J : Nat) (hJ : J < m) (hm : J < 2601) : getL (tri m) J = some (SV.int .i64 (ch (J / 51) (J % 51))) := by
 rw [getL_eq]
 simp only [tri, List.getElem?_map, List.getElem?_range hm, Option.map_some, triC]
 rw [if_pos hJ]
theorem tri_setsX {X X1 : List SV} {m J : Nat} {v : Int} (hX : X = tri m) (h1 : X1 = tri (m + 1)) (hJ : J = m) (hv : v = ch (m / 51) (m % 51)) (K : List SV → Prop) : setsL X J [SV.int .i64 v] K = K X1 := by
 subst hX h1
 exact tri_sets m J v K hJ hv
theorem s36 : HSpec Tryz.prog 36 [] [] (fun r m' => ∃ X, X = tri 2601 ∧ r = .x (.one (.ptr 0 0)) ∧ m' = [some (.box 119 X)]) := by
 refine spec_g (bodyOf Tryz.f36) [] pMix Tryz.func36 Tryz.ntmps36 [.tmp 0] ?_
 repeat' ((conv => whnf); first | refine Rng.g ?_ | fail)
 refine LoopVC.mk (fun m st => ∃ (i : Nat) (X : List SV), X = tri (i * 51) ∧ i ≤ 51 ∧ m = 51 - i ∧ st = ⟨0, envA 44 [(1, .x (.one (.ptr 0 0))), (5, .int .i64 (i : Int))], [some (.box 119 X)]⟩) _ _ ⟨0, _, rfl, Nat.zero_le _, rfl, rfl⟩ ?_ ?_
 ·refine ⟨[some 0], rfl, rfl, ?_, ?_⟩ <;> repeat' (first | exact trivial | exact rfl | (refine leSs_eq ?_; kernel_rfl) | apply And.intro)
 rintro m _ ⟨i, X, hX, hi, hm, rfl⟩
 have lX : X.length = 2601 := by rw [hX, tri_len]
 by_cases hi' : i < 51
 ·have f1 : (0 + (i : Int).toNat * ((0 + 1 + 1 + 1 + 1 + 1 + 1 + 1 + 1 + 1 + 1 + 1 + 1 + 1 + 1 + 1 + 1 + 1 + 1 + 1 + 1 + 1 + 1 + 1 + 1 + 1 + 1 + 1 + 1 + 1 + 1 + 1 + 1 + 1 + 1 + 1 + 1 + 1 + 1 + 1 + 1 + 1 + 1 + 1 + 1 + 1 + 1 + 1 + 1 + 1 + 1 + 1)) + Int.toNat 0 * (0 + 1) + Tryz.t2.size).ble (lenL X) = true := by rw [hX]; exact tri_ble _ _ (by omega)
  obtain ⟨X1, h1⟩ : ∃ X1, X1 = tri (i * 51 + 1) := ⟨_, rfl⟩
  have f2 : ∀ K, setsL X (0 + (i : Int).toNat * ((0 + 1 + 1 + 1 + 1 + 1 + 1 + 1 + 1 + 1 + 1 + 1 + 1 + 1 + 1 + 1 + 1 + 1 + 1 + 1 + 1 + 1 + 1 + 1 + 1 + 1 + 1 + 1 + 1 + 1 + 1 + 1 + 1 + 1 + 1 + 1 + 1 + 1 + 1 + 1 + 1 + 1 + 1 + 1 + 1 + 1 + 1 + 1 + 1 + 1 + 1 + 1)) + Int.toNat 0 * (0 + 1)) (xvCells (ofVal (Value.int IntKind.i64 1))) K = K X1 := fun K => tri_setsX hX h1 (by omega) (by rw [show i * 51 % 51 = 0 by omega]; cases i * 51 / 51 <;> rfl) K
  repeat' ((conv => whnf); first | rw [f1, f2] | rw [fSs_eq] | refine Ob.g ?_ | refine Br.t (fun h => ?_))
  refine LoopVC.mk (fun n st => ∃ (k : Nat) (X : List SV), X = tri (i * 51 + k) ∧ 1 ≤ k ∧ k ≤ i + 1 ∧ n = i + 1 - k ∧ st = ⟨0, envA 44 [(1, .x (.one (.ptr 0 0))), (2, .int .i64 (i : Int)), (3, .int .i64 (k : Int)), (5, .int .i64 (i : Int))], [some (.box 119 X)]⟩) _ _ ⟨1, X1, h1, Nat.le_refl _, by omega, rfl, rfl⟩ ?_ ?_
  ·refine ⟨[some 0], rfl, rfl, ?_, ?_⟩ <;> repeat' (first | exact trivial | exact rfl | apply And.intro)
   rw [h1]
   exact tri_le _ _ _ _
  rintro n _ ⟨k, X2, hX2, hk1, hk, hn, rfl⟩
  by_cases hk' : k ≤ i
  ·obtain ⟨i', rfl⟩ : ∃ i', i = i' + 1 := ⟨i - 1, by omega⟩
   obtain ⟨k', rfl⟩ : ∃ k', k = k' + 1 := ⟨k - 1, by omega⟩
   have g1 : getL X2 (0 + (((i' + 1 : Nat) : Int) - 1).toNat * ((0 + 1 + 1 + 1 + 1 + 1 + 1 + 1 + 1 + 1 + 1 + 1 + 1 + 1 + 1 + 1 + 1 + 1 + 1 + 1 + 1 + 1 + 1 + 1 + 1 + 1 + 1 + 1 + 1 + 1 + 1 + 1 + 1 + 1 + 1 + 1 + 1 + 1 + 1 + 1 + 1 + 1 + 1 + 1 + 1 + 1 + 1 + 1 + 1 + 1 + 1 + 1)) + (((k' + 1 : Nat) : Int) - 1).toNat * (0 + 1)) = some (SV.int .i64 (ch i' k')) := by
    rw [hX2, tri_getL _ _ (by omega) (by omega)]
    congr 3 <;> omega
   have g2 : getL X2 (0 + (((i' + 1 : Nat) : Int) - 1).toNat * ((0 + 1 + 1 + 1 + 1 + 1 + 1 + 1 + 1 + 1 + 1 + 1 + 1 + 1 + 1 + 1 + 1 + 1 + 1 + 1 + 1 + 1 + 1 + 1 + 1 + 1 + 1 + 1 + 1 + 1 + 1 + 1 + 1 + 1 + 1 + 1 + 1 + 1 + 1 + 1 + 1 + 1 + 1 + 1 + 1 + 1 + 1 + 1 + 1 + 1 + 1 + 1)) + ((k' + 1 : Nat) : Int).toNat * (0 + 1)) = some (SV.int .i64 (ch i' (k' + 1))) := by
    rw [hX2, tri_getL _ _ (by omega) (by omega)]
    congr 3 <;> omega
   have r1 := ch_rng (n := i') (by omega) k'
   have r2 := ch_rng (n := i') (by omega) (k' + 1)
   obtain ⟨X3, h3⟩ : ∃ X3, X3 = tri ((i' + 1) * 51 + (k' + 1) + 1) := ⟨_, rfl⟩
   have f3 : (0 + ((i' + 1 : Nat) : Int).toNat * ((0 + 1 + 1 + 1 + 1 + 1 + 1 + 1 + 1 + 1 + 1 + 1 + 1 + 1 + 1 + 1 + 1 + 1 + 1 + 1 + 1 + 1 + 1 + 1 + 1 + 1 + 1 + 1 + 1 + 1 + 1 + 1 + 1 + 1 + 1 + 1 + 1 + 1 + 1 + 1 + 1 + 1 + 1 + 1 + 1 + 1 + 1 + 1 + 1 + 1 + 1 + 1)) + ((k' + 1 : Nat) : Int).toNat * (0 + 1) + Tryz.t2.size).ble (lenL X2) = true := by rw [hX2]; exact tri_ble _ _ (by omega)
   have f4 : ∀ K, setsL X2 (0 + ((i' + 1 : Nat) : Int).toNat * ((0 + 1 + 1 + 1 + 1 + 1 + 1 + 1 + 1 + 1 + 1 + 1 + 1 + 1 + 1 + 1 + 1 + 1 + 1 + 1 + 1 + 1 + 1 + 1 + 1 + 1 + 1 + 1 + 1 + 1 + 1 + 1 + 1 + 1 + 1 + 1 + 1 + 1 + 1 + 1 + 1 + 1 + 1 + 1 + 1 + 1 + 1 + 1 + 1 + 1 + 1 + 1)) + ((k' + 1 : Nat) : Int).toNat * (0 + 1)) (xvCells (.one (.int .i64 (ch i' k' + ch i' (k' + 1))))) K = K X3 := fun K => tri_setsX hX2 h3 (by omega) (by
    rw [show ((i' + 1) * 51 + (k' + 1)) / 51 = i' + 1 by omega, show ((i' + 1) * 51 + (k' + 1)) % 51 = k' + 1 by omega]; rfl) K
   repeat' ((conv => whnf); first | rw [g1] | rw [g2] | rw [f3, f4] | rw [fSs_eq] | refine Rng.g ?_ | refine Ob.g ?_ | refine Br.t (fun h => ?_))
   refine Back.mk (i' + 1 + 1 - (k' + 1 + 1)) _ (by omega) ⟨k' + 1 + 1, X3, by rw [h3]; rfl, by omega, by omega, rfl, rfl⟩ ?_
   refine ⟨[some 0], rfl, rfl, ?_, ?_⟩ <;> repeat' (first | exact trivial | exact rfl | apply And.intro)
   rw [h3]
   exact tri_le _ _ _ _
  ·obtain rfl : k = i + 1 := by omega
   have e1 : X2 = tri ((i + 1) * 51) := by rw [hX2, ← tri_row i (by omega)]; rfl
   repeat' ((conv => whnf); first | refine Rng.g ?_ | refine Br.f (fun h => ?_))
   refine Back.mk (51 - (i + 1)) _ (by omega) ⟨i + 1, X2, e1, by omega, rfl, rfl⟩ ?_
   refine ⟨[some 0], rfl, rfl, ?_, ?_⟩ <;> repeat' (first | exact trivial | exact rfl | apply And.intro)
   rw [e1]
   exact tri_le _ _ _ _
 ·obtain rfl : i = 51 := by omega
  repeat' ((conv => whnf); refine Br.f (fun h => ?_))
  conv => whnf
  refine EndVC.mk _ rfl _ _ (⟨X, hX, rfl, rfl⟩) ?_
  refine ⟨[some 0], rfl, rfl, ?_, ?_⟩ <;> repeat' (first | exact trivial | exact rfl | apply And.intro)
  rw [hX]
  exact tri_le _ _ _ _
end Go.Sx.Ls

namespace Go.Sx.Ls
open Go Go.Proofs Go.Sx
set_option maxRecDepth 10000
set_option maxHeartbeats 4000000
theorem firm_tri (m : Nat) : firmL (tri m) = true := by
 unfold tri
 generalize List.range 2601 = L
 induction L with
 | nil => rfl
 | cons a L ih => exact ih
theorem args_tri (s : St) (sel : List Nat) (m : Nat) : argSs s sel (tri m) = tri m := by
 unfold tri
 generalize List.range 2601 = L
 induction L with
 | nil => rfl
 | cons a L ih => exact congrArg (_ :: ·) ih
theorem back_tri (lent : Bool) (sel : List Nat) (n m : Nat) : backSs lent sel n (tri m) = tri m := by
 unfold tri
 generalize List.range 2601 = L
 induction L with
 | nil => rfl
 | cons a L ih => exact congrArg (_ :: ·) ih
theorem selB_tri {s : St} {X : List SV} {m : Nat} (hX : X = tri m) (hb : s.blk 0 = some (.box 119 X)) : selB s [0] [0] = some [.box 119 X] := by
 show (match s.blk 0, some [] with
  | some b, some bs => if noHand [0] b = true then none else some (argB s [0] b :: bs)
  | _, _ => none) = _
 rw [hb]
 show some [Blk.box 119 (argSs s [0] X)] = _
 rw [hX, args_tri]
def chZ (n k : Int) : Int := if k < 0 ∨ n < k then 0 else ch n.toNat k.toNat
theorem s49 (X : List SV) (hX : X = tri 2601) (n k : Int) (hn : 0 ≤ n ∧ n ≤ 50) : HSpec Tryz.prog 49 [.one (.ptr 0 0), I n, I k] [.box 119 X] (fun r m' => r = .x (I (chZ n k)) ∧ m' = [some (.box 119 X)]) := by
 by_cases h : k < 0 ∨ n < k
 ·have e : chZ n k = 0 := if_pos h
  rw [e]
  refine spec_g (bodyOf Tryz.f49) [] pMix Tryz.func49 Tryz.ntmps49 [.tmp 6] ?_
  repeat' ((conv => whnf); first | refine Br.t (fun h => ?_) | (refine Br.mk (fun h => ?_) (fun h => ?_) <;> first | (exfalso; omega; done) | (exfalso; simp at h; done) | skip))
  all_goals first | (exfalso; omega) | skip
  all_goals
   conv => whnf
   refine EndVC.mk _ rfl _ _ (⟨rfl, rfl⟩) ?_
   refine ⟨[some 0], rfl, rfl, ?_, ?_⟩ <;> repeat' (first | exact trivial | exact rfl | apply And.intro)
   rw [hX]
   exact tri_le _ _ _ _
 ·have e : chZ n k = ch n.toNat k.toNat := if_neg h
  rw [e]
  have g : getL X (0 + n.toNat * ((0 + 1 + 1 + 1 + 1 + 1 + 1 + 1 + 1 + 1 + 1 + 1 + 1 + 1 + 1 + 1 + 1 + 1 + 1 + 1 + 1 + 1 + 1 + 1 + 1 + 1 + 1 + 1 + 1 + 1 + 1 + 1 + 1 + 1 + 1 + 1 + 1 + 1 + 1 + 1 + 1 + 1 + 1 + 1 + 1 + 1 + 1 + 1 + 1 + 1 + 1 + 1)) + k.toNat * (0 + 1)) = some (SV.int .i64 (ch n.toNat k.toNat)) := by
   rw [hX, tri_getL _ _ (by omega) (by omega)]
   congr 3 <;> omega
  refine spec_g (bodyOf Tryz.f49) [] pMix Tryz.func49 Tryz.ntmps49 [.tmp 6] ?_
  repeat' ((conv => whnf); first | rw [g] | refine Ob.g ?_ | refine Br.f (fun h => ?_))
  conv => whnf
  refine EndVC.mk _ rfl _ _ (⟨rfl, rfl⟩) ?_
  refine ⟨[some 0], rfl, rfl, ?_, ?_⟩ <;> repeat' (first | exact trivial | exact rfl | apply And.intro)
  rw [hX]
  exact tri_le _ _ _ _
theorem chZ_10 {n : Int} (h : n ≤ 10) (k : Int) : 0 ≤ chZ n k ∧ chZ n k ≤ 1024 := by
 unfold chZ
 split
 ·omega
 ·have h1 := ch_bd n.toNat k.toNat
  have h2 : (2 : Nat) ^ n.toNat ≤ 2 ^ 10 := Nat.pow_le_pow_right (by decide) (by omega)
  have h3 : ((2 ^ n.toNat : Nat) : Int) = (2 : Int) ^ n.toNat := by simp
  have h4 : ((2 ^ n.toNat : Nat) : Int) ≤ 1024 := Int.ofNat_le.2 h2
  omega
def wayZ (size bad sample : Int) (k : Nat) : Int := chZ bad k * chZ (size - bad) (sample - k)
def waysZ (size bad sample : Int) : Nat → Int
 | 0 => 0
 | m + 1 => waysZ size bad sample m + wayZ size bad sample m
theorem wayZ_rng {size bad : Int} (h1 : 0 ≤ bad ∧ bad ≤ size) (h2 : size ≤ 10) (sample : Int) (k : Nat) : 0 ≤ wayZ size bad sample k ∧ wayZ size bad sample k ≤ 1048576 := by
 have a := chZ_10 (n := bad) (by omega) k
 have b := chZ_10 (n := size - bad) (by omega) (sample - k)
 unfold wayZ
 exact ⟨Int.mul_nonneg a.1 b.1, Int.le_trans (Int.mul_le_mul a.2 b.2 b.1 (by decide)) (by decide)⟩
theorem waysZ_rng {size bad : Int} (h1 : 0 ≤ bad ∧ bad ≤ size) (h2 : size ≤ 10) (sample : Int) : ∀ m : Nat, 0 ≤ waysZ size bad sample m ∧ waysZ size bad sample m ≤ 1048576 * m
 | 0 => by simp [waysZ]
 | m + 1 => by
  have a := waysZ_rng h1 h2 sample m
  have b := wayZ_rng h1 h2 sample m
  simp only [waysZ]
  omega
theorem s50 (X : List SV) (hX : X = tri 2601) (size bad sample : Int) (most : Nat) (h1 : 0 ≤ bad ∧ bad ≤ size) (h2 : size ≤ 10) (h3 : 0 ≤ sample ∧ sample ≤ 10) (h4 : most ≤ 10) : HSpec Tryz.prog 50 [.agg [.ptr 0 0, .int .i64 size, .int .i64 sample], I bad, I (most : Int)] [.box 119 X] (fun r m' => r = .x (I (waysZ size bad sample (most + 1))) ∧ m' = [some (.box 119 X)]) := by
 have hf : firmL X = true := by rw [hX]; exact firm_tri _
 have fb : ∀ lent sel n, backSs lent sel n X = X := fun lent sel n => by rw [hX]; exact back_tri lent sel n _
 refine spec_g (bodyOf Tryz.f50) ([(4, ([], ordDef 0 5 ++ ordDef 6 10 ++ [⟨5, [0, 6, 7, 8, 9, 10, 11, 12, 13, 14, 15], []⟩, ⟨16, [0], []⟩] ++ ordDef 17 3))]) pMix Tryz.func50 Tryz.ntmps50 [.tmp 6] ?_
 repeat' ((conv => whnf); first | refine Rng.g ?_ | fail)
 refine LoopVC.mk (fun n st => ∃ (i : Nat), i ≤ most + 1 ∧ n = most + 1 - i ∧ st = ⟨1, envA 34 [(1, .x (I bad)), (2, .x (I (most : Int))), (3, .x (.one (.ptr 1 0))), (6, .int .i64 (waysZ size bad sample i)), (9, .int .i64 ((most : Int) + 1)), (10, .int .i64 (i : Int))], [some (.box 119 X), some (.box 121 [.ptr 0 0, .int .i64 size, .int .i64 sample])]⟩) _ _ ⟨0, Nat.zero_le _, rfl, rfl⟩ ?_ ?_
 ·refine ⟨[some 0, some 1], rfl, rfl, ?_, ?_⟩ <;> repeat' (first | exact trivial | exact rfl | apply And.intro)
  rw [hX]
  exact tri_le _ _ _ _
 rintro n _ ⟨i, hi, hn, rfl⟩
 by_cases hi' : i < most + 1
 ·have r1 := waysZ_rng h1 h2 sample i
  have r2 := wayZ_rng h1 h2 sample i
  unfold wayZ at r2
  repeat' ((conv => whnf); first | refine Rng.g ?_ | refine Br.t (fun h => ?_))
  conv => whnf
  refine CallVC0.same [0] _ _ [.box 119 X] rfl (selB_tri hX rfl) rfl (by show ((firmL X && true) || _) = true; rw [hf]; rfl) (s49 X hX bad (i : Int) (by omega)) (fun r m' h' => (by obtain ⟨rfl, rfl⟩ := h'; rfl)) (fun r m' h' => ?_)
  obtain ⟨rfl, rfl⟩ := h'
  conv => whnf
  repeat' ((conv => whnf); first | rw [fb] | rw [fSs_eq])
  conv => whnf
  refine CallVC.mk [0] _ _ [.box 119 X] rfl (selB_tri hX rfl) rfl (s49 X hX (size - bad) (sample - (i : Int)) (by omega)) (fun r m' h' => ?_)
  obtain ⟨rfl, rfl⟩ := h'
  conv => whnf
  repeat' ((conv => whnf); first | rw [fb] | rw [fSs_eq] | refine Rng.g ?_ | fail)
  refine Back.mk (most + 1 - (i + 1)) _ (by omega) ⟨i + 1, by omega, rfl, rfl⟩ ?_
  refine ⟨[some 0, some 1], rfl, rfl, ?_, ?_⟩ <;> repeat' (first | exact trivial | exact rfl | apply And.intro)
  rw [hX]
  exact tri_le _ _ _ _
 ·obtain rfl : i = most + 1 := by omega
  repeat' ((conv => whnf); refine Br.f (fun h => ?_))
  conv => whnf
  refine EndVC.mk _ rfl _ _ (⟨rfl, rfl⟩) ?_
  refine ⟨[some 0], rfl, rfl, ?_, ?_⟩ <;> repeat' (first | exact trivial | exact rfl | apply And.intro)
  rw [hX]
  exact tri_le _ _ _ _
end Go.Sx.Ls

namespace Go.Sx.Ls
open Go Go.Proofs Go.Sx
set_option maxRecDepth 10000
set_option maxHeartbeats 4000000
def hoZ (sample : Int) (most : Nat) : Prop := 1000 * (chZ 10 sample - waysZ 10 0 sample (most + 1)) ≤ 0 * chZ 10 sample ∧ 1000 * waysZ 10 5 sample (most + 1) ≤ 100 * chZ 10 sample
instance (sample : Int) (most : Nat) : Decidable (hoZ sample most) := by unfold hoZ; exact inferInstance
@[reducible] def dem : XV := .agg [.int .i64 10, .int .i64 0, .int .i64 5, .int .i64 0, .int .i64 100]
theorem s29 (n lo hi : Int) : PSpec Tryz.prog 29 [I n, I lo, I hi] (xP (lo ≤ n ∧ n ≤ hi)) := by
 refine spec_g (bodyOf Tryz.f29) [] pMix Tryz.func29 Tryz.ntmps29 [.tmp 6] ?_
 repeat' ((conv => whnf); first | (refine Br.mk (fun h => ?_) (fun h => ?_) <;> first | (exfalso; omega; done) | (exfalso; simp at h; done) | skip))
 ·refine EndVC.mk _ rfl _ _ ⟨rfl, rfl⟩ ?_
  refine ⟨[], rfl, rfl, ?_, ?_⟩ <;> repeat' (first | exact trivial | apply And.intro)
  exact ⟨fun h2 => ⟨h, h2⟩, fun h2 => h2.2⟩
 ·refine EndVC.mk _ rfl _ _ ⟨rfl, rfl⟩ ?_
  refine ⟨[], rfl, rfl, ?_, ?_⟩ <;> repeat' (first | exact trivial | apply And.intro)
  exact fun h2 => h h2.1
theorem s45 (n lo hi : Int) : PSpec Tryz.prog 45 [I n, I lo, I hi] (xP (lo ≤ n ∧ n ≤ hi)) := by
 refine spec_g (bodyOf Tryz.f45) [] pMix Tryz.func45 Tryz.ntmps45 [.tmp 6] ?_
 repeat' ((conv => whnf); first | (refine Br.mk (fun h => ?_) (fun h => ?_) <;> first | (exfalso; omega; done) | (exfalso; simp at h; done) | skip))
 ·refine EndVC.mk _ rfl _ _ ⟨rfl, rfl⟩ ?_
  refine ⟨[], rfl, rfl, ?_, ?_⟩ <;> repeat' (first | exact trivial | apply And.intro)
  exact ⟨fun h2 => ⟨h, h2⟩, fun h2 => h2.2⟩
 ·refine EndVC.mk _ rfl _ _ ⟨rfl, rfl⟩ ?_
  refine ⟨[], rfl, rfl, ?_, ?_⟩ <;> repeat' (first | exact trivial | apply And.intro)
  exact fun h2 => h h2.1
theorem s35 : PSpec Tryz.prog 35 [dem] (.x (I 0)) := by
 have c1 := s45 10 0 50
 have c2 := s29 0 0 1000
 have c3 := s29 100 0 1000
 refine spec_g (bodyOf Tryz.f35) [] pMix Tryz.func35 Tryz.ntmps35 [.tmp 2] ?_
 repeat' ((conv => whnf); first | refine CallVC.pure rfl (c1) ?_ | refine CallVC.pure rfl (c2) ?_ | refine CallVC.pure rfl (c3) ?_ | refine Br.f (fun h => ?_))
 all_goals first | (exfalso; omega) | skip
 refine EndVC.mk _ rfl _ _ ⟨rfl, rfl⟩ ?_
 exact Le.g []
theorem s37 (X : List SV) (hX : X = tri 2601) (sample : Int) (most : Nat) (h3 : 0 ≤ sample ∧ sample ≤ 10) (h4 : most ≤ 10) : HSpec Tryz.prog 37 [dem, .one (.ptr 0 0), I sample, I (most : Int)] [.box 119 X] (fun r m' => r = xP (hoZ sample most) ∧ m' = [some (.box 119 X)]) := by
 have hf : firmL X = true := by rw [hX]; exact firm_tri _
 have fb : ∀ lent sel n, backSs lent sel n X = X := fun lent sel n => by rw [hX]; exact back_tri lent sel n _
 have r1 := chZ_10 (n := 10) (by decide) sample
 have r2 := waysZ_rng (size := 10) (bad := 0) (by decide) (by decide) sample (most + 1)
 have r3 := waysZ_rng (size := 10) (bad := 5) (by decide) (by decide) sample (most + 1)
 refine spec_g (bodyOf Tryz.f37) ([(1, ([10], ordDef 0 9 ++ [⟨9, [0, 1, 2, 3, 4], []⟩] ++ ordDef 10 3)), (2, ([], ordDef 0 5 ++ ordDef 8 4 ++ [⟨5, [0, 8, 9, 10, 11], []⟩, ⟨6, [], []⟩, ⟨7, [], []⟩] ++ ordDef 12 6 ++ ordDef 20 4 ++ [⟨18, [20, 21, 22, 23], []⟩, ⟨19, [], []⟩] ++ ordDef 24 3))]) pMix Tryz.func37 Tryz.ntmps37 [.tmp 8] ?_
 repeat' ((conv => whnf); rw [fb])
 conv => whnf
 refine CallVC0.same [0] _ _ [.box 119 X] rfl (selB_tri hX rfl) rfl (by show ((firmL X && true) || _) = true; rw [hf]; rfl) (s49 X hX 10 sample (by omega)) (fun r m' h' => (by obtain ⟨rfl, rfl⟩ := h'; rfl)) (fun r m' h' => ?_)
 obtain ⟨rfl, rfl⟩ := h'
 conv => whnf
 repeat' ((conv => whnf); first | rw [fb] | rw [fSs_eq] | refine Rng.g ?_ | fail)
 conv => whnf
 refine CallVC0.same [0] _ _ [.box 119 X] rfl (selB_tri hX rfl) rfl (by show ((firmL X && true) || _) = true; rw [hf]; rfl) (s50 X hX 10 0 sample most (by omega) (by omega) h3 h4) (fun r m' h' => (by obtain ⟨rfl, rfl⟩ := h'; rfl)) (fun r m' h' => ?_)
 obtain ⟨rfl, rfl⟩ := h'
 conv => whnf
 repeat' ((conv => whnf); first | rw [fb] | rw [fSs_eq] | refine Rng.g ?_ | (refine Br.mk (fun h => ?_) (fun h => ?_) <;> first | (exfalso; omega; done) | (exfalso; simp at h; done) | skip))
 ·conv => whnf
  refine CallVC0.same [0] _ _ [.box 119 X] rfl (selB_tri hX rfl) rfl (by show ((firmL X && true) || _) = true; rw [hf]; rfl) (s50 X hX 10 5 sample most (by omega) (by omega) h3 h4) (fun r m' h' => (by obtain ⟨rfl, rfl⟩ := h'; rfl)) (fun r m' h' => ?_)
  obtain ⟨rfl, rfl⟩ := h'
  conv => whnf
  repeat' ((conv => whnf); first | rw [fb] | rw [fSs_eq] | refine Rng.g ?_ | fail)
  conv => whnf
  refine EndVC.mk _ rfl _ _ (⟨rfl, rfl⟩) ?_
  refine ⟨[some 0], rfl, rfl, ?_, ?_⟩ <;> repeat' (first | exact trivial | exact rfl | apply And.intro)
  ·exact ⟨fun h2 => ⟨h, h2⟩, fun h2 => h2.2⟩
  ·rw [hX]
   exact tri_le _ _ _ _
 ·conv => whnf
  refine EndVC.mk _ rfl _ _ (⟨rfl, rfl⟩) ?_
  refine ⟨[some 0], rfl, rfl, ?_, ?_⟩ <;> repeat' (first | exact trivial | exact rfl | apply And.intro)
  ·exact fun h2 => h h2.1
  ·rw [hX]
   exact tri_le _ _ _ _
theorem hoZ_no : ∀ i : Fin 3, ∀ j : Fin 11, ¬ hoZ (i.val : Int) j.val := by decide +kernel
theorem hoZ_yes : hoZ 3 0 := by decide +kernel
theorem selB_tri1 {s : St} {X : List SV} {m : Nat} (hX : X = tri m) (hb : s.blk 1 = some (.box 119 X)) : selB s [1] [1] = some [.box 119 X] := by
 show (match s.blk 1, some [] with
  | some b, some bs => if noHand [1] b = true then none else some (argB s [1] b :: bs)
  | _, _ => none) = _
 rw [hb]
 show some [Blk.box 119 (argSs s [1] X)] = _
 rw [hX, args_tri]
theorem s17 : HSpec Tryz.prog 17 [I 10, I 0, I 5, I 0, I 100] [] (fun r m' => r = .tup [I 3, I 0, I 0] ∧ m' = []) := by
 refine spec_g (bodyOf Tryz.f17) [] pMix Tryz.func17 Tryz.ntmps17 [.tmp 10, .tmp 11, .tmp 12] ?_
 repeat' ((conv => whnf); first | refine Rng.g ?_ | fail)
 conv => whnf
 refine CallVC.mk [] _ _ _ rfl rfl rfl (s35) (fun r m' h' => ?_)
 obtain ⟨rfl, rfl⟩ := h'
 conv => whnf
 repeat' ((conv => whnf); refine Br.f (fun h => ?_))
 conv => whnf
 refine CallVC.mk [] _ _ _ rfl rfl rfl (s36) (fun r m' h' => ?_)
 obtain ⟨X, hX, rfl, rfl⟩ := h'
 conv => whnf
 have hf : firmL X = true := by rw [hX]; exact firm_tri _
 have fb : ∀ lent sel n, backSs lent sel n X = X := fun lent sel n => by rw [hX]; exact back_tri lent sel n _
 repeat' ((conv => whnf); first | rw [fb] | rw [fSs_eq] | refine Rng.g ?_ | fail)
 refine LoopVC.mk (fun m st => ∃ (i : Nat), i ≤ 3 ∧ m = 3 - i ∧ st = ⟨0, envA 49 [(0, .x (I 10)), (13, .x (.one (.ptr 0 0))), (15, .x (.one (.ptr 1 0))), (31, .int .i64 (10 + 1)), (32, .int .i64 (i : Int))], [some (.box 88 [.int .i64 10, .int .i64 0, .int .i64 5, .int .i64 0, .int .i64 100]), some (.box 119 X)]⟩) _ _ ⟨0, by omega, rfl, rfl⟩ ?_ ?_
 ·refine ⟨[some 0, some 1], rfl, rfl, ?_, ?_⟩ <;> repeat' (first | exact trivial | exact rfl | apply And.intro)
  rw [hX]
  exact tri_le _ _ _ _
 rintro m _ ⟨i, hi, hm, rfl⟩
 repeat' ((conv => whnf); first | refine Rng.g ?_ | refine Br.t (fun h => ?_))
 all_goals first | (exfalso; omega) | skip
 refine LoopVC.mk (fun n st => ∃ (j : Nat), j ≤ 11 ∧ (i = 3 → j = 0) ∧ n = 11 - j ∧ st = ⟨0, envA 49 [(0, .x (I 10)), (13, .x (.one (.ptr 0 0))), (15, .x (.one (.ptr 1 0))), (16, .int .i64 (i : Int)), (31, .int .i64 (10 + 1)), (32, .int .i64 (i : Int)), (36, .int .i64 (10 + 1)), (37, .int .i64 (j : Int))], [some (.box 88 [.int .i64 10, .int .i64 0, .int .i64 5, .int .i64 0, .int .i64 100]), some (.box 119 X)]⟩) _ _ ⟨0, by omega, fun _ => rfl, rfl, rfl⟩ ?_ ?_
 ·refine ⟨[some 0, some 1], rfl, rfl, ?_, ?_⟩ <;> repeat' (first | exact trivial | exact rfl | apply And.intro)
  rw [hX]
  exact tri_le _ _ _ _
 rintro n _ ⟨j, hj, hij, hn, rfl⟩
 by_cases hj' : j < 11
 ·repeat' ((conv => whnf); refine Br.t (fun h => ?_))
  conv => whnf
  refine CallVC.mk [1] _ _ [.box 119 X] rfl (selB_tri1 hX rfl) rfl (s37 X hX (i : Int) j (by omega) (by omega)) (fun r m' h' => ?_)
  obtain ⟨rfl, rfl⟩ := h'
  by_cases h3 : i = 3
  ·obtain rfl := hij h3
   subst h3
   have hy : hoZ (3 : Nat) 0 := hoZ_yes
   repeat' ((conv => whnf); first | rw [fb] | rw [fSs_eq] | refine Rng.g ?_ | (refine Br.mk (fun h => ?_) (fun h => ?_) <;> first | (exfalso; omega; done) | (exfalso; simp at h; done) | skip))
   ·conv => whnf
    refine EndVC.mk _ rfl _ _ (⟨rfl, rfl⟩) ?_
    exact Le.g []
   ·exact absurd hy (by assumption)
  ·have hno : ¬ hoZ (i : Int) j := hoZ_no ⟨i, by omega⟩ ⟨j, hj'⟩
   repeat' ((conv => whnf); first | rw [fb] | rw [fSs_eq] | refine Rng.g ?_ | (refine Br.mk (fun h => ?_) (fun h => ?_) <;> first | (exfalso; omega; done) | (exfalso; simp at h; done) | skip))
   ·exact absurd (by assumption) hno
   ·refine Back.mk (11 - (j + 1)) _ (by omega) ⟨j + 1, by omega, fun h => absurd h h3, rfl, rfl⟩ ?_
    refine ⟨[some 0, some 1], rfl, rfl, ?_, ?_⟩ <;> repeat' (first | exact trivial | exact rfl | apply And.intro)
    rw [hX]
    exact tri_le _ _ _ _
 ·obtain rfl : j = 11 := by omega
  repeat' ((conv => whnf); first | refine Rng.g ?_ | refine Br.f (fun h => ?_))
  refine Back.mk (3 - (i + 1)) _ (by omega) ⟨i + 1, by omega, rfl, rfl⟩ ?_
  refine ⟨[some 0, some 1], rfl, rfl, ?_, ?_⟩ <;> repeat' (first | exact trivial | exact rfl | apply And.intro)
  rw [hX]
  exact tri_le _ _ _ _
end Go.Sx.Ls

namespace Go.Sx
open Go Go.Proofs
set_option maxRecDepth 10000
set_option maxHeartbeats 4000000
structure Edg where
 rule : Int
 pos : Int
 fr : Int
 to : Int
 w : Int
abbrev e0 : Edg := ⟨0, 0, 0, 0, 0⟩
structure LSt where
 R : List Int
 P : List Edg
 c : Int
def nx (P : List Edg) (v : Nat) : Nat := (P.getD v e0).fr.toNat
def rlx (s : LSt) (x : Edg) : LSt := if s.R.getD x.to.toNat 0 ≤ s.R.getD x.fr.toNat 0 + x.w then s else ⟨s.R.set x.to.toNat (s.R.getD x.fr.toNat 0 + x.w), s.P.set x.to.toNat x, x.to⟩
structure EOK (n : Nat) (B : Int) (x : Edg) : Prop where
 f : 0 ≤ x.fr ∧ x.fr < n
 t : 0 ≤ x.to ∧ x.to < n
 ne : x.fr ≠ x.to
 w : -B ≤ x.w ∧ x.w ≤ B
structure LJ (n : Nat) (ini : Nat → Int) (E D : List Edg) (r : Int) (s : LSt) (L : Int) (N : Nat) (t : Nat → Nat) (T : Nat → Int) : Prop where
 lr : s.R.length = n
 lp : s.P.length = n
 hi : ∀ v, v < n → s.R.getD v 0 ≤ ini v
 lo : ∀ v, v < n → -L ≤ s.R.getD v 0
 lb : ∀ y : Nat → Int, (∀ v, v < n → y v ≤ ini v) → (∀ e, e ∈ E → y e.to.toNat ≤ y e.fr.toNat + e.w) → ∀ v, v < n → y v ≤ s.R.getD v 0
 tm : ∀ v, t v ≤ N
 tr : ∀ v, T v ≤ r
 pa : ∀ v, v < n → ((s.P.getD v e0).fr = -1 ∧ T v = -1) ∨ (s.P.getD v e0 ∈ E ∧ (s.P.getD v e0).to = (v : Int) ∧ T v ≤ T (nx s.P v) + 1 ∧ (s.R.getD (nx s.P v) 0 + (s.P.getD v e0).w < s.R.getD v 0 ∨ (s.R.getD v 0 = s.R.getD (nx s.P v) 0 + (s.P.getD v e0).w ∧ t (nx s.P v) < t v)))
 al : ∀ e, e ∈ E → r - 1 ≤ T e.fr.toNat ∨ s.R.getD e.to.toNat 0 ≤ s.R.getD e.fr.toNat 0 + e.w
 dn : ∀ e, e ∈ D → r ≤ T e.fr.toNat ∨ s.R.getD e.to.toNat 0 ≤ s.R.getD e.fr.toNat 0 + e.w
 c : (s.c = -1 ∧ ∀ e, e ∈ D → s.R.getD e.to.toNat 0 ≤ s.R.getD e.fr.toNat 0 + e.w) ∨ (0 ≤ s.c ∧ s.c < n ∧ T s.c.toNat = r)
theorem gset {α : Type} (l : List α) (i j : Nat) (a d : α) (h : i < l.length) : (l.set i a).getD j d = if j = i then a else l.getD j d := by
 simp only [List.getD_eq_getElem?_getD, List.getElem?_set]
 by_cases e : i = j
 ·subst e; simp [h]
 ·rw [if_neg e, if_neg (fun h => e h.symm)]
theorem LJ.step {n : Nat} {B : Int} {ini : Nat → Int} {E D : List Edg} {r : Int} {s : LSt} {L : Int} {N : Nat} {t : Nat → Nat} {T : Nat → Int} (h : LJ n ini E D r s L N t T) (hB : 0 ≤ B) (hE : ∀ e, e ∈ E → EOK n B e) {x : Edg} (hx : x ∈ E) : ∃ t' T', LJ n ini E (x :: D) r (rlx s x) (L + B) (N + 1) t' T' := by
 obtain ⟨hf, ht, hne, hw⟩ := hE x hx
 unfold rlx
 by_cases hc : s.R.getD x.to.toNat 0 ≤ s.R.getD x.fr.toNat 0 + x.w
 ·rw [if_pos hc]
  refine ⟨t, T, h.lr, h.lp, h.hi, fun v hv => by have := h.lo v hv; omega, h.lb, fun v => Nat.le_succ_of_le (h.tm v), h.tr, h.pa, h.al, ?_, ?_⟩
  ·intro e he
   rcases List.mem_cons.1 he with rfl | he
   ·exact .inr hc
   ·exact h.dn e he
  ·rcases h.c with ⟨h1, h2⟩ | h1
   ·refine .inl ⟨h1, fun e he => ?_⟩
    rcases List.mem_cons.1 he with rfl | he
    ·exact hc
    ·exact h2 e he
   ·exact .inr h1
 ·rw [if_neg hc]
  obtain ⟨u, hu⟩ : ∃ u, x.fr.toNat = u := ⟨_, rfl⟩
  obtain ⟨z, hz⟩ : ∃ z, x.to.toNat = z := ⟨_, rfl⟩
  have hun : u < n := by omega
  have hzn : z < n := by omega
  have huz : u ≠ z := by omega
  rw [hu, hz] at hc ⊢
  have hlr := h.lr
  have hlp := h.lp
  have gR : ∀ j, (s.R.set z (s.R.getD u 0 + x.w)).getD j 0 = if j = z then s.R.getD u 0 + x.w else s.R.getD j 0 := fun j => gset _ _ _ _ _ (by omega)
  have gP : ∀ j, (s.P.set z x).getD j e0 = if j = z then x else s.P.getD j e0 := fun j => gset _ _ _ _ _ (by omega)
  have hlow := h.lo u hun
  have key : ∀ e : Edg, e.fr.toNat ≠ z → s.R.getD e.to.toNat 0 ≤ s.R.getD e.fr.toNat 0 + e.w → (s.R.set z (s.R.getD u 0 + x.w)).getD e.to.toNat 0 ≤ (s.R.set z (s.R.getD u 0 + x.w)).getD e.fr.toNat 0 + e.w := by
   intro e h1 h2
   rw [gR, gR, if_neg h1]
   split
   ·rename_i h3
    rw [h3] at h2
    omega
   ·exact h2
  refine ⟨fun v => if v = z then N + 1 else t v, fun v => if v = z then r else T v, ?_, ?_, ?_, ?_, ?_, ?_, ?_, ?_, ?_, ?_, ?_⟩
  ·simp only [List.length_set]; exact hlr
  ·simp only [List.length_set]; exact hlp
  ·intro v hv
   simp only [gR]
   have := h.hi v hv
   split
   ·rename_i h3
    rw [h3] at this
    rw [h3]
    omega
   ·exact this
  ·intro v hv
   simp only [gR]
   have := h.lo v hv
   split <;> omega
  ·intro y h1 h2 v hv
   simp only [gR]
   have h3 := h.lb y h1 h2
   split
   ·rename_i h4
    have h5 := h2 x hx
    rw [hu, hz] at h5
    have h6 := h3 u hun
    rw [h4]
    omega
   ·exact h3 v hv
  ·intro v
   show (if v = z then N + 1 else t v) ≤ N + 1
   have := h.tm v
   split <;> omega
  ·intro v
   show (if v = z then r else T v) ≤ r
   have := h.tr v
   split <;> omega
  ·intro v hv
   by_cases hvz : v = z
   ·refine .inr ?_
    have e1 : (s.P.set z x).getD v e0 = x := by rw [gP, if_pos hvz]
    have e2 : nx (s.P.set z x) v = u := by unfold nx; rw [e1]; exact hu
    simp only [e1, e2]
    refine ⟨hx, by omega, ?_, .inr ⟨?_, ?_⟩⟩
    ·rw [if_pos hvz, if_neg huz]
     rcases h.al x hx with h1 | h1
     ·rw [hu] at h1; omega
     ·rw [hu, hz] at h1; exact absurd h1 hc
    ·rw [gR, gR, if_pos hvz, if_neg huz]
    ·rw [if_neg huz, if_pos hvz]
     have := h.tm u
     omega
   ·have e1 : (s.P.set z x).getD v e0 = s.P.getD v e0 := by rw [gP, if_neg hvz]
    have e2 : nx (s.P.set z x) v = nx s.P v := by unfold nx; rw [e1]
    simp only [e1, e2]
    rcases h.pa v hv with h1 | ⟨h1, h2, h3, h4⟩
    ·exact .inl ⟨h1.1, by rw [if_neg hvz]; exact h1.2⟩
    ·refine .inr ⟨h1, h2, ?_, ?_⟩
     ·rw [if_neg hvz]
      have := h.tr v
      split <;> omega
     ·rw [gR, gR, if_neg hvz, if_neg hvz]
      by_cases hq : nx s.P v = z
      ·rw [if_pos hq]
       rw [hq] at h4
       refine .inl ?_
       rcases h4 with h4 | h4 <;> omega
      ·rw [if_neg hq, if_neg hq]
       exact h4
  ·intro e he
   by_cases h1 : e.fr.toNat = z
   ·refine .inl ?_
    simp only [h1, if_pos]
    omega
   ·rcases h.al e he with h2 | h2
    ·refine .inl ?_
     simp only [if_neg h1]
     exact h2
    ·exact .inr (key e h1 h2)
  ·intro e he
   by_cases h1 : e.fr.toNat = z
   ·refine .inl ?_
    simp only [h1, if_pos]
    omega
   ·rcases List.mem_cons.1 he with h2 | h2
    ·refine .inr ?_
     subst h2
     show (s.R.set z (s.R.getD u 0 + e.w)).getD e.to.toNat 0 ≤ (s.R.set z (s.R.getD u 0 + e.w)).getD e.fr.toNat 0 + e.w
     rw [gR, gR, if_pos hz, if_neg h1, hu]
     omega
    ·rcases h.dn e h2 with h3 | h3
     ·refine .inl ?_
      simp only [if_neg h1]
      exact h3
     ·exact .inr (key e h1 h3)
  ·refine .inr ⟨ht.1, ht.2, ?_⟩
   show (if x.to.toNat = z then r else T x.to.toNat) = r
   rw [if_pos hz]
theorem LJ.next {n : Nat} {ini : Nat → Int} {E D : List Edg} {r : Int} {s : LSt} {L : Int} {N : Nat} {t : Nat → Nat} {T : Nat → Int} (h : LJ n ini E D r s L N t T) (hD : ∀ e, e ∈ E → e ∈ D) : LJ n ini E [] (r + 1) ⟨s.R, s.P, -1⟩ L N t T :=
 ⟨h.lr, h.lp, h.hi, h.lo, h.lb, h.tm, fun v => by have := h.tr v; omega, h.pa, fun e he => by
  rcases h.dn e (hD e he) with h1 | h1
  ·exact .inl (by omega)
  ·exact .inr h1, fun e he => (List.not_mem_nil he).elim, .inl ⟨rfl, fun e he => (List.not_mem_nil he).elim⟩⟩
theorem LJ.fold {n : Nat} {B : Int} {ini : Nat → Int} {E : List Edg} {r : Int} (hB : 0 ≤ B) (hE : ∀ e, e ∈ E → EOK n B e) : ∀ (F : List Edg) {D : List Edg} {s : LSt} {L : Int} {N : Nat} {t : Nat → Nat} {T : Nat → Int}, LJ n ini E D r s L N t T → (∀ e, e ∈ F → e ∈ E) → ∃ t' T', LJ n ini E (F.reverse ++ D) r (F.foldl rlx s) (L + B * F.length) (N + F.length) t' T'
 | [], D, s, L, N, t, T, h, _ => ⟨t, T, by simpa using h⟩
 | x :: F, D, s, L, N, t, T, h, hF => by
  obtain ⟨t1, T1, h1⟩ := h.step hB hE (hF x List.mem_cons_self)
  obtain ⟨t2, T2, h2⟩ := LJ.fold hB hE F h1 (fun e he => hF e (List.mem_cons_of_mem _ he))
  refine ⟨t2, T2, ?_⟩
  have e1 : L + B + B * (F.length : Int) = L + B * ((x :: F).length : Int) := by
   rw [List.length_cons, Int.natCast_add, Int.mul_add]; omega
  have e2 : N + 1 + F.length = N + (x :: F).length := by rw [List.length_cons]; omega
  have e3 : F.reverse ++ x :: D = (x :: F).reverse ++ D := by simp
  rw [← e1, ← e2, ← e3]
  exact h2
theorem pigeon : ∀ (n : Nat) (f : Nat → Nat), (∀ i, i ≤ n → f i < n) → ∃ i j, i < j ∧ j ≤ n ∧ f i = f j
 | 0, f, h => absurd (h 0 (Nat.le_refl _)) (Nat.not_lt_zero _)
 | n + 1, f, h => by
  by_cases hd : ∃ i, i ≤ n ∧ f i = f (n + 1)
  ·obtain ⟨i, hi, he⟩ := hd
   exact ⟨i, n + 1, by omega, by omega, he⟩
  ·have hd' : ∀ i, i ≤ n → f i ≠ f (n + 1) := fun i hi he => hd ⟨i, hi, he⟩
   have hl := h (n + 1) (Nat.le_refl _)
   obtain ⟨i, j, hij, hj, he⟩ := pigeon n (fun i => if f i = n then f (n + 1) else f i) (fun i hi => by
    have h1 := h i (by omega)
    have h2 := hd' i hi
    show (if f i = n then f (n + 1) else f i) < n
    split <;> omega)
   have hi' := hd' i (by omega)
   have hj' := hd' j hj
   replace he : (if f i = n then f (n + 1) else f i) = (if f j = n then f (n + 1) else f j) := he
   refine ⟨i, j, hij, by omega, ?_⟩
   split at he <;> split at he <;> omega
def itr (P : List Edg) (v : Nat) : Nat → Nat
 | 0 => v
 | k + 1 => nx P (itr P v k)
theorem itr_add (P : List Edg) (v : Nat) {i j : Nat} (h : itr P v i = itr P v j) : ∀ m, itr P v (i + m) = itr P v (j + m)
 | 0 => h
 | m + 1 => by
  show nx P (itr P v (i + m)) = nx P (itr P v (j + m))
  rw [itr_add P v h m]
structure Circ (n : Nat) (P : List Edg) (v : Nat) : Prop where
 each : ∀ k, itr P v k < n ∧ (P.getD (itr P v k) e0).fr = (itr P v (k + 1) : Nat)
 back : ∃ c, 1 ≤ c ∧ c ≤ n ∧ itr P v (n + c) = itr P v n
theorem LJ.circ {n : Nat} {B : Int} {ini : Nat → Int} {E D : List Edg} {r : Int} {s : LSt} {L : Int} {N : Nat} {t : Nat → Nat} {T : Nat → Int} (h : LJ n ini E D r s L N t T) (hE : ∀ e, e ∈ E → EOK n B e) (hr : (n : Int) + 1 ≤ r) (hc : s.c ≠ -1) : Circ n s.P s.c.toNat := by
 obtain ⟨c0, c1, c2⟩ : 0 ≤ s.c ∧ s.c < n ∧ T s.c.toNat = r := by
  rcases h.c with ⟨h1, _⟩ | h1
  ·exact absurd h1 hc
  ·exact h1
 have nxt : ∀ z, z < n → 0 ≤ T z → nx s.P z < n ∧ (s.P.getD z e0).fr = (nx s.P z : Nat) ∧ T z - 1 ≤ T (nx s.P z) := by
  intro z hz h0
  rcases h.pa z hz with ⟨_, h1⟩ | ⟨h1, _, h3, _⟩
  ·omega
  ·have h2 := (hE _ h1).f
   have e : nx s.P z = (s.P.getD z e0).fr.toNat := rfl
   omega
 have st : ∀ k, k ≤ n + 1 → itr s.P s.c.toNat k < n ∧ r - k ≤ T (itr s.P s.c.toNat k) := by
  intro k
  induction k with
  | zero => intro _; exact ⟨by show s.c.toNat < n; omega, by show r - (0 : Nat) ≤ T s.c.toNat; omega⟩
  | succ k ih =>
   intro hk
   obtain ⟨h1, h2⟩ := ih (by omega)
   obtain ⟨h3, _, h5⟩ := nxt _ h1 (by omega)
   exact ⟨h3, by show r - ((k + 1 : Nat) : Int) ≤ T (nx s.P (itr s.P s.c.toNat k)); omega⟩
 obtain ⟨i, j, hij, hj, he⟩ := pigeon n (itr s.P s.c.toNat) (fun i hi => (st i (by omega)).1)
 have pe := itr_add s.P s.c.toNat he
 have all : ∀ q k, k ≤ q → itr s.P s.c.toNat k < n ∧ 0 ≤ T (itr s.P s.c.toNat k) := by
  intro q
  induction q with
  | zero => intro k hk; have := st k (by omega); omega
  | succ q ih =>
   intro k hk
   by_cases h1 : k ≤ n
   ·have := st k (by omega); omega
   ·have h2 := pe (k - j)
    rw [show j + (k - j) = k by omega] at h2
    rw [← h2]
    exact ih _ (by omega)
 refine ⟨fun k => ?_, j - i, by omega, by omega, ?_⟩
 ·obtain ⟨h1, h2⟩ := all k k (Nat.le_refl _)
  exact ⟨h1, (nxt _ h1 h2).2.1⟩
 ·have h2 := pe (n - i)
  rw [show i + (n - i) = n by omega, show j + (n - i) = n + (j - i) by omega] at h2
  exact h2.symm
theorem LJ.noc {n : Nat} {B : Int} {ini : Nat → Int} {E D : List Edg} {r : Int} {s : LSt} {L : Int} {N : Nat} {t : Nat → Nat} {T : Nat → Int} (h : LJ n ini E D r s L N t T) (hE : ∀ e, e ∈ E → EOK n B e) (hr : (n : Int) + 1 ≤ r) (hc : s.c ≠ -1) {y : Nat → Int} (_h1 : ∀ v, v < n → y v ≤ ini v) (h2 : ∀ e, e ∈ E → y e.to.toNat ≤ y e.fr.toNat + e.w) : False := by
 have hC := h.circ hE hr hc
 obtain ⟨c, hc1, _, hb⟩ := hC.back
 have one : ∀ k, s.R.getD (itr s.P s.c.toNat (k + 1)) 0 - y (itr s.P s.c.toNat (k + 1)) < s.R.getD (itr s.P s.c.toNat k) 0 - y (itr s.P s.c.toNat k) ∨ (s.R.getD (itr s.P s.c.toNat (k + 1)) 0 - y (itr s.P s.c.toNat (k + 1)) = s.R.getD (itr s.P s.c.toNat k) 0 - y (itr s.P s.c.toNat k) ∧ t (itr s.P s.c.toNat (k + 1)) < t (itr s.P s.c.toNat k)) := by
  intro k
  obtain ⟨hk1, hk2⟩ := hC.each k
  rcases h.pa _ hk1 with ⟨h3, _⟩ | ⟨h3, h4, _, h5⟩
  ·omega
  ·have h6 := h2 _ h3
   rw [h4, Int.toNat_natCast, hk2, Int.toNat_natCast] at h6
   have e : nx s.P (itr s.P s.c.toNat k) = itr s.P s.c.toNat (k + 1) := rfl
   rw [e] at h5
   rcases h5 with h5 | ⟨h5, h7⟩
   ·exact .inl (by omega)
   ·by_cases h8 : s.R.getD (itr s.P s.c.toNat (k + 1)) 0 - y (itr s.P s.c.toNat (k + 1)) < s.R.getD (itr s.P s.c.toNat k) 0 - y (itr s.P s.c.toNat k)
    ·exact .inl h8
    ·exact .inr ⟨by omega, h7⟩
 have many : ∀ m, s.R.getD (itr s.P s.c.toNat (n + m)) 0 - y (itr s.P s.c.toNat (n + m)) < s.R.getD (itr s.P s.c.toNat n) 0 - y (itr s.P s.c.toNat n) ∨ (s.R.getD (itr s.P s.c.toNat (n + m)) 0 - y (itr s.P s.c.toNat (n + m)) = s.R.getD (itr s.P s.c.toNat n) 0 - y (itr s.P s.c.toNat n) ∧ t (itr s.P s.c.toNat (n + m)) + m ≤ t (itr s.P s.c.toNat n)) := by
  intro m
  induction m with
  | zero => exact .inr ⟨rfl, Nat.le_refl _⟩
  | succ m ih =>
   have h3 := one (n + m)
   rw [← Nat.add_assoc n m 1]
   rcases h3 with h3 | ⟨h3, h4⟩ <;> rcases ih with h5 | ⟨h5, h6⟩
   ·exact .inl (by omega)
   ·exact .inl (by omega)
   ·exact .inl (by omega)
   ·exact .inr ⟨by omega, by omega⟩
 have := many c
 rw [hb] at this
 omega
def Way (n : Nat) (P : List Edg) (v m : Nat) : Prop := (∀ k, k < m → itr P v k < n ∧ (P.getD (itr P v k) e0).fr = (itr P v (k + 1) : Nat)) ∧ itr P v m < n ∧ (P.getD (itr P v m) e0).fr = -1
theorem itr_succ (P : List Edg) (v : Nat) : ∀ k, itr P v (k + 1) = itr P (nx P v) k
 | 0 => rfl
 | k + 1 => by
  show nx P (itr P v (k + 1)) = nx P (itr P (nx P v) k)
  rw [itr_succ P v k]
theorem LJ.way {n : Nat} {B : Int} {ini : Nat → Int} {E D : List Edg} {r : Int} {s : LSt} {L : Int} {N : Nat} {t : Nat → Nat} {T : Nat → Int} (h : LJ n ini E D r s L N t T) (hE : ∀ e, e ∈ E → EOK n B e) (hf : ∀ e, e ∈ E → s.R.getD e.to.toNat 0 ≤ s.R.getD e.fr.toNat 0 + e.w) : ∀ q v, t v ≤ q → v < n → ∃ m, m ≤ q ∧ Way n s.P v m := by
 have one : ∀ v, v < n → (s.P.getD v e0).fr = -1 ∨ (nx s.P v < n ∧ (s.P.getD v e0).fr = (nx s.P v : Nat) ∧ t (nx s.P v) < t v) := by
  intro v hv
  rcases h.pa v hv with ⟨h1, _⟩ | ⟨h1, h2, _, h4⟩
  ·exact .inl h1
  ·have h5 := (hE _ h1).f
   have h6 := hf _ h1
   have e : nx s.P v = (s.P.getD v e0).fr.toNat := rfl
   rw [h2, Int.toNat_natCast, ← e] at h6
   refine .inr ⟨by omega, by omega, ?_⟩
   rcases h4 with h4 | h4
   ·omega
   ·exact h4.2
 intro q
 induction q with
 | zero =>
  intro v hq hv
  rcases one v hv with h1 | ⟨_, _, h3⟩
  ·exact ⟨0, Nat.zero_le _, fun k hk => absurd hk (Nat.not_lt_zero _), hv, h1⟩
  ·omega
 | succ q ih =>
  intro v hq hv
  rcases one v hv with h1 | ⟨h1, h2, h3⟩
  ·exact ⟨0, Nat.zero_le _, fun k hk => absurd hk (Nat.not_lt_zero _), hv, h1⟩
  ·obtain ⟨m, hmq, h4, h5, h6⟩ := ih (nx s.P v) (by omega) h1
   refine ⟨m + 1, by omega, fun k hk => ?_, ?_, ?_⟩
   ·cases k with
    | zero => exact ⟨hv, h2⟩
    | succ k =>
     rw [itr_succ, itr_succ]
     exact h4 k (by omega)
   ·rw [itr_succ]; exact h5
   ·rw [itr_succ]; exact h6
end Go.Sx

namespace Go.Sx
open Go Go.Proofs
set_option maxRecDepth 10000
set_option maxHeartbeats 4000000
structure Blnk where
 per : Int
 rim : Int
 core : Int
 land : Int
 slow : Int
 fast : Int
structure BlnkOK (b : Blnk) : Prop where
 per : 1 ≤ b.per ∧ b.per ≤ 65536
 rim : 0 ≤ b.rim ∧ b.rim ≤ 4194304
 core : 0 ≤ b.core ∧ b.core ≤ b.rim
 land : 0 ≤ b.land ∧ b.land ≤ 65536
 fast : 0 ≤ b.fast ∧ b.fast ≤ 65536
 slow : 0 ≤ b.slow ∧ b.slow ≤ b.fast
def eR (b : Blnk) (p : List Smp) (i : Nat) : Edg := ⟨1, i, -1, i, b.rim - (p.getD i s0).r⟩
def eC (b : Blnk) (p : List Smp) (i : Nat) : Edg := ⟨2, i, i, -1, (p.getD i s0).l - b.core⟩
def eS (b : Blnk) (i : Nat) : Edg := ⟨3, i, (i : Int) - 1, i, -b.slow⟩
def eF (b : Blnk) (i : Nat) : Edg := ⟨4, i, i, (i : Int) - 1, b.fast⟩
def eL (b : Blnk) (p : List Smp) (i : Nat) : Edg := ⟨5, i, (i : Int) - b.per, i, (p.getD ((i : Int) - b.per).toNat s0).l - (p.getD i s0).r - b.land⟩
def F1 (b : Blnk) (p : List Smp) (i : Nat) : List Edg := (if 0 < i then [eS b i] else []) ++ (if b.per ≤ i then [eL b p i] else [])
def E1 (b : Blnk) (p : List Smp) (m : Nat) : List Edg := (List.range m).flatMap (F1 b p)
def E2 (b : Blnk) (n j : Nat) : List Edg := (List.range j).map fun q => eF b (n - 1 - q)
def edgs (b : Blnk) (p : List Smp) : List Edg := E1 b p p.length ++ E2 b p.length (p.length - 1)
theorem E1_succ (b : Blnk) (p : List Smp) (m : Nat) : E1 b p (m + 1) = E1 b p m ++ F1 b p m := by simp [E1, List.range_succ]
theorem E2_succ (b : Blnk) (n j : Nat) : E2 b n (j + 1) = E2 b n j ++ [eF b (n - 1 - j)] := by simp [E2, List.range_succ]
theorem F1_len (b : Blnk) (p : List Smp) (i : Nat) : (F1 b p i).length ≤ 2 := by unfold F1; split <;> split <;> simp
theorem E1_len (b : Blnk) (p : List Smp) : ∀ m, (E1 b p m).length ≤ 2 * m
 | 0 => by simp [E1]
 | m + 1 => by
  rw [E1_succ, List.length_append]
  have := E1_len b p m
  have := F1_len b p m
  omega
theorem E2_len (b : Blnk) (n j : Nat) : (E2 b n j).length = j := by simp [E2]
theorem edgs_len (b : Blnk) (p : List Smp) : (edgs b p).length ≤ 3 * p.length := by
 unfold edgs
 rw [List.length_append, E2_len]
 have := E1_len b p p.length
 omega
theorem E1_mem {b : Blnk} {p : List Smp} {m : Nat} {e : Edg} : e ∈ E1 b p m ↔ ∃ i, i < m ∧ ((0 < i ∧ e = eS b i) ∨ (b.per ≤ i ∧ e = eL b p i)) := by
 unfold E1
 rw [List.mem_flatMap]
 constructor
 ·rintro ⟨i, hi, he⟩
  refine ⟨i, List.mem_range.1 hi, ?_⟩
  unfold F1 at he
  rcases List.mem_append.1 he with h | h
  ·split at h
   ·rename_i h1
    exact .inl ⟨h1, by simpa using h⟩
   ·simp at h
  ·split at h
   ·rename_i h1
    exact .inr ⟨h1, by simpa using h⟩
   ·simp at h
 ·rintro ⟨i, hi, h⟩
  refine ⟨i, List.mem_range.2 hi, ?_⟩
  unfold F1
  rcases h with ⟨h1, rfl⟩ | ⟨h1, rfl⟩
  ·exact List.mem_append.2 (.inl (by rw [if_pos h1]; simp))
  ·exact List.mem_append.2 (.inr (by rw [if_pos h1]; simp))
theorem E2_mem {b : Blnk} {n j : Nat} {e : Edg} : e ∈ E2 b n j ↔ ∃ q, q < j ∧ e = eF b (n - 1 - q) := by
 unfold E2
 rw [List.mem_map]
 constructor
 ·rintro ⟨q, h1, h2⟩
  exact ⟨q, List.mem_range.1 h1, h2.symm⟩
 ·rintro ⟨q, h1, h2⟩
  exact ⟨q, List.mem_range.2 h1, h2.symm⟩
theorem edgs_mem {b : Blnk} {p : List Smp} {e : Edg} : e ∈ edgs b p ↔ ∃ i, i < p.length ∧ ((0 < i ∧ e = eS b i) ∨ (b.per ≤ i ∧ e = eL b p i) ∨ (0 < i ∧ e = eF b i)) := by
 unfold edgs
 rw [List.mem_append, E1_mem, E2_mem]
 constructor
 ·rintro (⟨i, hi, h⟩ | ⟨q, hq, h⟩)
  ·refine ⟨i, hi, ?_⟩
   rcases h with h | h
   ·exact .inl h
   ·exact .inr (.inl h)
  ·exact ⟨p.length - 1 - q, by omega, .inr (.inr ⟨by omega, h⟩)⟩
 ·rintro ⟨i, hi, h | h | ⟨h, h1⟩⟩
  ·exact .inl ⟨i, hi, .inl h⟩
  ·exact .inl ⟨i, hi, .inr h⟩
  ·exact .inr ⟨p.length - 1 - i, by omega, by rw [h1]; congr 1; omega⟩
structure PtB (p : List Smp) : Prop where
 len : p.length ≤ 4096
 each : ∀ j, j < p.length → (-4194304 ≤ (p.getD j s0).l ∧ (p.getD j s0).l ≤ 4194304) ∧ (-4194304 ≤ (p.getD j s0).r ∧ (p.getD j s0).r ≤ 4194304)
theorem edgs_ok {b : Blnk} {p : List Smp} (hb : BlnkOK b) (hp : PtB p) : ∀ e, e ∈ edgs b p → EOK p.length 16777216 e := by
 intro e he
 obtain ⟨i, hi, h⟩ := edgs_mem.1 he
 obtain ⟨p1, p2⟩ := hb.per
 obtain ⟨f1, f2⟩ := hb.fast
 obtain ⟨s1, s2⟩ := hb.slow
 obtain ⟨l1, l2⟩ := hb.land
 have hi' := hp.each i hi
 rcases h with ⟨h1, rfl⟩ | ⟨h1, rfl⟩ | ⟨h1, rfl⟩
 ·exact ⟨by simp only [eS]; omega, by simp only [eS]; omega, by simp only [eS]; omega, by simp only [eS]; omega⟩
 ·have hk := hp.each ((i : Int) - b.per).toNat (by omega)
  exact ⟨by simp only [eL]; omega, by simp only [eL]; omega, by simp only [eL]; omega, by simp only [eL]; omega⟩
 ·exact ⟨by simp only [eF]; omega, by simp only [eF]; omega, by simp only [eF]; omega, by simp only [eF]; omega⟩
def Feas (b : Blnk) (p : List Smp) (y : Nat → Int) : Prop := ∀ i, i < p.length → y i ≤ b.rim - (p.getD i s0).r ∧ 0 ≤ y i + ((p.getD i s0).l - b.core) ∧ (0 < i → y i ≤ y (i - 1) + -b.slow ∧ y (i - 1) ≤ y i + b.fast) ∧ (b.per ≤ i → y i ≤ y ((i : Int) - b.per).toNat + ((p.getD ((i : Int) - b.per).toNat s0).l - (p.getD i s0).r - b.land))
theorem toN1 (i : Nat) : ((i : Int) - 1).toNat = i - 1 := by omega
theorem edgs_all {b : Blnk} {p : List Smp} {y : Nat → Int} : (∀ e, e ∈ edgs b p → y e.to.toNat ≤ y e.fr.toNat + e.w) ↔ ∀ i, i < p.length → (0 < i → y i ≤ y (i - 1) + -b.slow ∧ y (i - 1) ≤ y i + b.fast) ∧ (b.per ≤ i → y i ≤ y ((i : Int) - b.per).toNat + ((p.getD ((i : Int) - b.per).toNat s0).l - (p.getD i s0).r - b.land)) := by
 constructor
 ·intro h i hi
  refine ⟨fun h0 => ⟨?_, ?_⟩, fun h0 => ?_⟩
  ·have := h _ (edgs_mem.2 ⟨i, hi, .inl ⟨h0, rfl⟩⟩)
   simp only [eS, toN1, Int.toNat_natCast] at this
   exact this
  ·have := h _ (edgs_mem.2 ⟨i, hi, .inr (.inr ⟨h0, rfl⟩)⟩)
   simp only [eF, toN1, Int.toNat_natCast] at this
   exact this
  ·have := h _ (edgs_mem.2 ⟨i, hi, .inr (.inl ⟨h0, rfl⟩)⟩)
   simp only [eL, Int.toNat_natCast] at this
   exact this
 ·intro h e he
  obtain ⟨i, hi, h1⟩ := edgs_mem.1 he
  obtain ⟨h2, h3⟩ := h i hi
  rcases h1 with ⟨h4, rfl⟩ | ⟨h4, rfl⟩ | ⟨h4, rfl⟩
  ·simp only [eS, toN1, Int.toNat_natCast]
   exact (h2 h4).1
  ·simp only [eL, Int.toNat_natCast]
   exact h3 h4
  ·simp only [eF, toN1, Int.toNat_natCast]
   exact (h2 h4).2
theorem Feas.edges {b : Blnk} {p : List Smp} {y : Nat → Int} (h : Feas b p y) : ∀ e, e ∈ edgs b p → y e.to.toNat ≤ y e.fr.toNat + e.w := edgs_all.2 fun i hi => (h i hi).2.2
def iniF (b : Blnk) (p : List Smp) (i : Nat) : Int := b.rim - (p.getD i s0).r
structure Best (b : Blnk) (p : List Smp) (R : List Int) : Prop where
 len : R.length = p.length
 ok : Feas b p (fun i => R.getD i 0)
 best : ∀ y, Feas b p y → ∀ i, i < p.length → y i ≤ R.getD i 0
abbrev LJp (b : Blnk) (p : List Smp) := LJ p.length (iniF b p) (edgs b p)
theorem LJ.start {b : Blnk} {p : List Smp} (hb : BlnkOK b) (hp : PtB p) {R : List Int} {P : List Edg} (l1 : R.length = p.length) (l2 : P.length = p.length) (gR : ∀ v, v < p.length → R.getD v 0 = iniF b p v) (gP : ∀ v, v < p.length → P.getD v e0 = eR b p v) : LJp b p [] 0 ⟨R, P, -1⟩ 16777216 0 (fun _ => 0) (fun _ => -1) := by
 refine ⟨l1, l2, fun v hv => ?_, fun v hv => ?_, fun y hy _ v hv => ?_, fun _ => Nat.le_refl _, fun _ => by decide, fun v hv => .inl ?_, fun e _ => .inl (by decide), fun e he => (List.not_mem_nil he).elim, .inl ⟨rfl, fun e he => (List.not_mem_nil he).elim⟩⟩
 ·simp only [gR v hv]; exact Int.le_refl _
 ·simp only [gR v hv]
  have := hp.each v hv
  have := hb.rim
  unfold iniF
  omega
 ·simp only [gR v hv]; exact hy v hv
 ·simp only [gP v hv]; exact ⟨rfl, trivial⟩
theorem LJ.fin {b : Blnk} {p : List Smp} {D : List Edg} {r : Int} {s : LSt} {L : Int} {N : Nat} {t : Nat → Nat} {T : Nat → Int} (h : LJp b p D r s L N t T) (hf : ∀ e, e ∈ edgs b p → s.R.getD e.to.toNat 0 ≤ s.R.getD e.fr.toNat 0 + e.w) (hc : ∀ i, i < p.length → 0 ≤ s.R.getD i 0 + ((p.getD i s0).l - b.core)) : Best b p s.R := by
 refine ⟨h.lr, fun i hi => ⟨h.hi i hi, hc i hi, ?_⟩, fun y hy => h.lb y (fun v hv => (hy v hv).1) hy.edges⟩
 exact (edgs_all (b := b) (p := p) (y := fun i => s.R.getD i 0)).1 hf i hi
theorem LJ.none {b : Blnk} {p : List Smp} {D : List Edg} {r : Int} {s : LSt} {L : Int} {N : Nat} {t : Nat → Nat} {T : Nat → Int} (h : LJp b p D r s L N t T) {i : Nat} (hi : i < p.length) (hc : s.R.getD i 0 + ((p.getD i s0).l - b.core) < 0) (y : Nat → Int) : ¬ Feas b p y := fun hy => by
 have h1 := h.lb y (fun v hv => (hy v hv).1) hy.edges i hi
 have h2 := (hy i hi).2.1
 omega
theorem LJ.none' {b : Blnk} {p : List Smp} (hb : BlnkOK b) (hp : PtB p) {D : List Edg} {r : Int} {s : LSt} {L : Int} {N : Nat} {t : Nat → Nat} {T : Nat → Int} (h : LJp b p D r s L N t T) (hr : (p.length : Int) + 1 ≤ r) (hc : s.c ≠ -1) (y : Nat → Int) : ¬ Feas b p y := fun hy => h.noc (edgs_ok hb hp) hr hc (fun v hv => (hy v hv).1) hy.edges
end Go.Sx

namespace Go.Sx
open Go Go.Proofs
set_option maxRecDepth 10000
set_option maxHeartbeats 2000000
def bey (n most : Int) : Prop := n < -most ∨ most < n
instance (n m : Int) : Decidable (bey n m) := by unfold bey; exact inferInstance
theorem s280 (n most : Int) (hm : 0 ≤ most ∧ most ≤ 1000000) : PSpec Tryz.prog 155 [I n, I most] (xP (bey n most)) := by
 refine spec_g (bodyOf Tryz.f155) [] pMix Tryz.func155 Tryz.ntmps155 [.tmp 4] ?_
 repeat' ((conv => whnf); first | refine Rng.g ?_ | (refine Br.mk (fun h => ?_) (fun h => ?_) <;> first | (exfalso; omega; done) | (exfalso; simp at h; done) | skip))
 ·refine EndVC.mk _ rfl _ _ ⟨rfl, rfl⟩ ?_
  refine ⟨[], rfl, rfl, ?_, ?_⟩ <;> repeat' (first | exact trivial | apply And.intro)
  show bey n most
  unfold bey; omega
 ·refine EndVC.mk _ rfl _ _ ⟨rfl, rfl⟩ ?_
  refine ⟨[], rfl, rfl, ?_, ?_⟩ <;> repeat' (first | exact trivial | apply And.intro)
  show _ ↔ _
  unfold bey; omega
@[reducible] def bI (n : Int) : Blk := .box 2 [.int .i64 n]
theorem s300 (n most : Int) (hm : 0 ≤ most ∧ most ≤ 1000000) : HSpec Tryz.prog 162 [I n, .one (.ptr 0 0)] [bI most] (fun r m' => r = xP (bey n most) ∧ m' = [some (bI most)]) := by
 refine spec_g (bodyOf Tryz.f162) [] pMix Tryz.func162 Tryz.ntmps162 [.tmp 3] ?_
 repeat' ((conv => whnf); refine CallVC.pure rfl (s280 n most hm) ?_)
 refine EndVC.mk _ rfl _ _ ⟨rfl, rfl⟩ ?_
 exact Le.g [some 0]
@[reducible] def lL (xs : List Int) : XV := .one (.lst true [.int .i64] (i64s xs))
def anyB (xs : List Int) (most : Int) : Prop := ∃ j, j < xs.length ∧ bey (xs.getD j 0) most
theorem s333 (xs : List Int) (most : Int) (hm : 0 ≤ most ∧ most ≤ 1000000) (hl : xs.length ≤ 1000000) : HSpec Tryz.prog 168 [lL xs, .one (.fn 162 [(0, 0)])] [bI most] (fun r m' => ∃ v : Int, (0 ≤ v ↔ anyB xs most) ∧ r = .x (I v) ∧ m' = [some (bI most)]) := by
 have lx := i64s_len xs
 refine spec_g (bodyOf Tryz.f168) [] pMix Tryz.func168 Tryz.ntmps168 [.tmp 4] ?_
 repeat' ((conv => whnf); first | refine Rng.g ?_ | fail)
 refine LoopVC.mk (fun n st => ∃ (i : Nat), i ≤ xs.length ∧ n = xs.length - i ∧ (∀ j, j < i → ¬ bey (xs.getD j 0) most) ∧ st = ⟨1, envA 19 [(0, .x (lL xs)), (1, .x (.one (.fn 162 [(0, 0)]))), (7, .int .i64 (xs.length : Int)), (8, .int .i64 (i : Int))], [some (bI most)]⟩) _ _ ⟨0, Nat.zero_le _, rfl, fun j hj => absurd hj (Nat.not_lt_zero j), rfl⟩ ?_ ?_
 ·refine ⟨[some 0], rfl, rfl, ?_, ?_⟩ <;> repeat' (first | exact trivial | exact rfl | apply And.intro)
  exact congrArg Int.ofNat lx
 rintro n _ ⟨i, hi, hn, hj, rfl⟩
 have gx : rI (i64s xs) (i : Int).toNat 0 = xs.getD i 0 := by rw [Int.toNat_natCast, i64s_get]
 by_cases hi' : i < xs.length
 ·repeat' ((conv => whnf); first | refine Ob.g ?_ | refine Br.t (fun h => ?_))
  conv => whnf
  refine CallVC.mk [0] _ _ _ rfl rfl rfl (s300 (rI (i64s xs) (i : Int).toNat 0) most hm) (fun r m' h' => ?_)
  obtain ⟨rfl, rfl⟩ := h'
  conv => whnf
  repeat' ((conv => whnf); first | refine Rng.g ?_ | (refine Br.mk (fun h => ?_) (fun h => ?_) <;> first | (exfalso; omega; done) | (exfalso; simp at h; done) | skip))
  all_goals rw [gx] at h
  ·conv => whnf
   refine EndVC.mk _ rfl _ _ (⟨(i : Int), ⟨fun _ => ⟨i, hi', h⟩, fun _ => by omega⟩, rfl, rfl⟩) ?_
   exact Le.g [some 0]
  ·refine Back.mk (xs.length - (i + 1)) _ (by omega) ⟨i + 1, by omega, rfl, fun j hj' => ?_, rfl⟩ ?_
   ·rcases Nat.lt_succ_iff_lt_or_eq.1 hj' with h' | rfl
    ·exact hj j h'
    ·exact h
   ·exact Le.g [some 0]
 ·repeat' ((conv => whnf); refine Br.f (fun h => ?_))
  conv => whnf
  refine EndVC.mk _ rfl _ _ (⟨-1, ⟨fun h => (by omega), fun ⟨j, h1, h2⟩ => absurd h2 (hj j (by omega))⟩, rfl, rfl⟩) ?_
  exact Le.g [some 0]
open Classical in
theorem s299 (xs : List Int) (most : Int) (hm : 0 ≤ most ∧ most ≤ 1000000) (hl : xs.length ≤ 1000000) : HSpec Tryz.prog 161 [lL xs, .one (.fn 162 [(0, 0)])] [bI most] (fun r m' => r = xP (anyB xs most) ∧ m' = [some (bI most)]) := by
 refine spec_g (bodyOf Tryz.f161) [] pMix Tryz.func161 Tryz.ntmps161 [.tmp 4] ?_
 repeat' ((conv => whnf); first | refine Rng.g ?_ | fail)
 conv => whnf
 refine CallVC.mk [0] _ _ _ rfl rfl rfl (s333 xs most hm hl) (fun r m' h' => ?_)
 obtain ⟨v, hv, rfl, rfl⟩ := h'
 conv => whnf
 repeat' ((conv => whnf); first | refine Rng.g ?_ | fail)
 refine EndVC.mk _ rfl _ _ ⟨rfl, rfl⟩ ?_
 refine ⟨[some 0], rfl, rfl, ?_, ?_⟩ <;> repeat' (first | exact trivial | exact rfl | apply And.intro)
 exact hv
open Classical in
theorem s233 (xs : List Int) (most : Int) (hm : 0 ≤ most ∧ most ≤ 1000000) (hl : xs.length ≤ 1000000) : PSpec Tryz.prog 150 [lL xs, I most] (xP (anyB xs most)) := by
 refine spec_g (bodyOf Tryz.f150) [] pMix Tryz.func150 Tryz.ntmps150 [.tmp 4] ?_
 repeat' ((conv => whnf); first | refine Rng.g ?_ | fail)
 conv => whnf
 refine CallVC.mk [0] _ _ _ rfl rfl rfl (s299 xs most hm hl) (fun r m' h' => ?_)
 obtain ⟨rfl, rfl⟩ := h'
 conv => whnf
 repeat' ((conv => whnf); first | refine Rng.g ?_ | fail)
 refine EndVC.mk _ rfl _ _ ⟨rfl, rfl⟩ ?_
 exact Le.g []
end Go.Sx

namespace Go.Sx
open Go Go.Proofs
set_option maxRecDepth 10000
set_option maxHeartbeats 2000000
structure Crv where
 f : List Int
 b : List Int
 sh : Int
@[reducible] def Crv.x (c : Crv) : XV := .agg [.lst true [.int .i64] (i64s c.f), .lst true [.int .i64] (i64s c.b), .int .i64 c.sh]
def Crv.row (c : Crv) : List Cell := [.sl (i64s c.f), .sl (i64s c.b), .int c.sh]
def crvA (l : List Crv) : Arr := l.map Crv.row
abbrev c0 : Crv := ⟨[], [], 0⟩
theorem crvA_len (l : List Crv) : (crvA l).length = l.length := by simp [crvA]
theorem crvA_f (l : List Crv) (i : Nat) : rA (crvA l) i 0 = i64s (l.getD i c0).f := map_rA _ c0 l i 0 rfl
theorem crvA_b (l : List Crv) (i : Nat) : rA (crvA l) i (0 + 1) = i64s (l.getD i c0).b := map_rA _ c0 l i 1 rfl
theorem crvA_s (l : List Crv) (i : Nat) : rI (crvA l) i (0 + 1 + 1) = (l.getD i c0).sh := map_rI _ c0 l i 2 rfl
@[reducible] def KC : List CK := [.sl [.int .i64], .sl [.int .i64], .int .i64]
@[reducible] def lC (l : List Crv) : XV := .one (.lst true KC (crvA l))
@[reducible] def crvX (l : List Crv) (i : Nat) : XV := .agg [.lst true [.int .i64] (rA (crvA l) i 0), .lst true [.int .i64] (rA (crvA l) i (0 + 1)), .int .i64 (rI (crvA l) i (0 + 1 + 1))]
theorem crvX_eq (l : List Crv) (i : Nat) : crvX l i = (l.getD i c0).x := by
 unfold crvX Crv.x
 rw [crvA_f, crvA_b, crvA_s]
structure CrvOK (c : Crv) : Prop where
 f : c.f.length ≤ 8 ∧ ∀ j, -4096 ≤ c.f.getD j 0 ∧ c.f.getD j 0 ≤ 4096
 b : c.b.length ≤ 8 ∧ ∀ j, -4096 ≤ c.b.getD j 0 ∧ c.b.getD j 0 ≤ 4096
 sh : 1 ≤ c.sh ∧ c.sh ≤ 4096
theorem not_anyB {xs : List Int} {m : Int} (hm : 0 ≤ m) (h : ¬ anyB xs m) (j : Nat) : -m ≤ xs.getD j 0 ∧ xs.getD j 0 ≤ m := by
 by_cases hj : j < xs.length
 ·have : ¬ bey (xs.getD j 0) m := fun h2 => h ⟨j, hj, h2⟩
  unfold bey at this
  omega
 ·rw [List.getD_eq_getElem?_getD, List.getElem?_eq_none (by omega)]
  simp only [Option.getD_none]
  omega
theorem CrvOK.nf {c : Crv} (h : CrvOK c) : ¬ anyB c.f 4096 := fun ⟨j, _, h3⟩ => by have := h.f.2 j; unfold bey at h3; omega
theorem CrvOK.nb {c : Crv} (h : CrvOK c) : ¬ anyB c.b 4096 := fun ⟨j, _, h3⟩ => by have := h.b.2 j; unfold bey at h3; omega
@[reducible] def CRs (c : Crv) (r : AV) (m' : List (Option Blk)) : Prop := ∃ e, r = .x (I e) ∧ m' = [] ∧ (e = 0 ↔ CrvOK c)
theorem s222 (c : Crv) : HSpec Tryz.prog 149 [c.x] [] (CRs c) := by
 have lf := i64s_len c.f
 have lb := i64s_len c.b
 by_cases h8 : 8 < c.f.length ∨ 8 < c.b.length
 ·have hm : 8 < (if (List.length (i64s c.f) : Int) < (List.length (i64s c.b) : Int) then (List.length (i64s c.b) : Int) else (List.length (i64s c.f) : Int)) := by split <;> omega
  refine spec_g (bodyOf Tryz.f149) [] pMix Tryz.func149 Tryz.ntmps149 [.tmp 2] ?_
  repeat' ((conv => whnf); first | refine Mm.mk ?_ | refine Br.t (fun h => ?_))
  conv => whnf
  refine EndVC.mk _ rfl _ _ (⟨6, rfl, rfl, ⟨fun h => (by cases h), fun hC => (by have := hC.f.1; have := hC.b.1; omega)⟩⟩) ?_
  exact Le.g []
 ·have hm : ¬ 8 < (if (List.length (i64s c.f) : Int) < (List.length (i64s c.b) : Int) then (List.length (i64s c.b) : Int) else (List.length (i64s c.f) : Int)) := by split <;> omega
  have h1 := s233 c.f 4096 (by decide) (by omega)
  have h2 := s233 c.b 4096 (by decide) (by omega)
  refine spec_g (bodyOf Tryz.f149) [] pMix Tryz.func149 Tryz.ntmps149 [.tmp 2] ?_
  repeat' ((conv => whnf); first | refine Mm.mk ?_ | refine CallVC.pure rfl (h1) ?_ | refine CallVC.pure rfl (h2) ?_ | refine Br.f (fun h => ?_) | refine Br.mk (fun h => ?_) fun h => ?_)
  ·conv => whnf
   refine EndVC.mk _ rfl _ _ (⟨2, rfl, rfl, ⟨fun h => (by cases h), fun hC => absurd h hC.nf⟩⟩) ?_
   exact Le.g []
  ·conv => whnf
   refine EndVC.mk _ rfl _ _ (⟨2, rfl, rfl, ⟨fun h => (by cases h), fun hC => absurd h hC.nb⟩⟩) ?_
   exact Le.g []
  ·conv => whnf
   refine EndVC.mk _ rfl _ _ (⟨2, rfl, rfl, ⟨fun h => (by cases h), fun hC => (by have := hC.sh; omega)⟩⟩) ?_
   exact Le.g []
  ·conv => whnf
   refine EndVC.mk _ rfl _ _ (⟨2, rfl, rfl, ⟨fun h => (by cases h), fun hC => (by have := hC.sh; omega)⟩⟩) ?_
   exact Le.g []
  ·rename_i g1 g2 g3
   conv => whnf
   refine EndVC.mk _ rfl _ _ (⟨0, rfl, rfl, ⟨fun _ => ⟨⟨by omega, not_anyB (by decide) g1⟩, ⟨by omega, not_anyB (by decide) g2⟩, by omega⟩, fun _ => rfl⟩⟩) ?_
   exact Le.g []
end Go.Sx

namespace Go.Sx
open Go Go.Proofs
set_option maxRecDepth 10000
set_option maxHeartbeats 2000000
structure ChOK (l : List Crv) : Prop where
 len : l.length ≤ 8
 each : ∀ j, j < l.length → CrvOK (l.getD j c0)
@[reducible] def ChRs (l : List Crv) (r : AV) (m' : List (Option Blk)) : Prop := ∃ e, r = .x (I e) ∧ m' = [] ∧ (e = 0 ↔ ChOK l)
theorem s147 (l : List Crv) : HSpec Tryz.prog 129 [lC l] [] (ChRs l) := by
 have ll := crvA_len l
 by_cases hl : 8 < l.length
 ·refine spec_g (bodyOf Tryz.f129) [] pMix Tryz.func129 Tryz.ntmps129 [.tmp 2] ?_
  repeat' ((conv => whnf); refine Br.t (fun h => ?_))
  conv => whnf
  refine EndVC.mk _ rfl _ _ (⟨6, rfl, rfl, ⟨fun h => (by cases h), fun hC => (by have := hC.len; omega)⟩⟩) ?_
  exact Le.g []
 refine spec_g (bodyOf Tryz.f129) [] pMix Tryz.func129 Tryz.ntmps129 [.tmp 2] ?_
 repeat' ((conv => whnf); refine Br.f (fun h => ?_))
 refine LoopVC.mk (fun n st => ∃ (i : Nat), i ≤ l.length ∧ n = l.length - i ∧ (∀ j, j < i → CrvOK (l.getD j c0)) ∧ st = ⟨0, envA 21 [(9, .x (lC l)), (10, .int .i64 (l.length : Int)), (11, .int .i64 (i : Int))], []⟩) _ _ ⟨0, Nat.zero_le _, rfl, fun j hj => absurd hj (Nat.not_lt_zero j), rfl⟩ ?_ ?_
 ·refine ⟨[], rfl, rfl, ?_, ?_⟩ <;> repeat' (first | exact trivial | exact rfl | apply And.intro)
  exact congrArg Int.ofNat ll
 rintro n _ ⟨i, hi, hn, hj, rfl⟩
 by_cases hi' : i < l.length
 ·repeat' ((conv => whnf); first | refine Ob.g ?_ | refine Br.t (fun h => ?_))
  conv => whnf
  refine CallVC.mk [] _ _ _ rfl rfl rfl ((crvX_eq l i ▸ s222 (l.getD i c0) : HSpec Tryz.prog 149 [crvX l i] [] (CRs (l.getD i c0)))) (fun r m' h' => ?_)
  obtain ⟨e, rfl, rfl, he⟩ := h'
  conv => whnf
  repeat' ((conv => whnf); first | refine Rng.g ?_ | (refine Br.mk (fun h => ?_) (fun h => ?_) <;> first | (exfalso; omega; done) | (exfalso; simp at h; done) | skip))
  ·conv => whnf
   refine EndVC.mk _ rfl _ _ (⟨e, rfl, rfl, ⟨fun h0 => absurd h0 h, fun hC => absurd (he.2 (hC.each i hi')) h⟩⟩) ?_
   exact Le.g []
  ·have hc0 := he.1 (Classical.not_not.1 h)
   refine Back.mk (l.length - (i + 1)) _ (by omega) ⟨i + 1, by omega, rfl, fun j hj' => ?_, rfl⟩ ?_
   ·rcases Nat.lt_succ_iff_lt_or_eq.1 hj' with h' | rfl
    ·exact hj j h'
    ·exact hc0
   ·exact Le.g []
 ·repeat' ((conv => whnf); refine Br.f (fun h => ?_))
  conv => whnf
  refine EndVC.mk _ rfl _ _ (⟨0, rfl, rfl, ⟨fun _ => ⟨by omega, fun j hj' => hj j (by omega)⟩, fun _ => rfl⟩⟩) ?_
  exact Le.g []
structure SigOK (xs : List Int) : Prop where
 len : xs.length ≤ 4096
 each : ∀ j, -32767 ≤ xs.getD j 0 ∧ xs.getD j 0 ≤ 32767
@[reducible] def SgRs (xs : List Int) (r : AV) (m' : List (Option Blk)) : Prop := ∃ e, r = .x (I e) ∧ m' = [] ∧ (e = 0 ↔ SigOK xs)
theorem SigOK.nb {xs : List Int} (h : SigOK xs) : ¬ anyB xs 32767 := fun ⟨j, _, h3⟩ => by have := h.each j; unfold bey at h3; omega
theorem s148 (xs : List Int) : HSpec Tryz.prog 130 [lL xs] [] (SgRs xs) := by
 have lx := i64s_len xs
 by_cases hl : 4096 < xs.length
 ·refine spec_g (bodyOf Tryz.f130) [] pMix Tryz.func130 Tryz.ntmps130 [.tmp 2] ?_
  repeat' ((conv => whnf); refine Br.t (fun h => ?_))
  conv => whnf
  refine EndVC.mk _ rfl _ _ (⟨6, rfl, rfl, ⟨fun h => (by cases h), fun hC => (by have := hC.len; omega)⟩⟩) ?_
  exact Le.g []
 have h1 := s233 xs 32767 (by decide) (by omega)
 refine spec_g (bodyOf Tryz.f130) [] pMix Tryz.func130 Tryz.ntmps130 [.tmp 2] ?_
 repeat' ((conv => whnf); first | refine CallVC.pure rfl (h1) ?_ | refine Br.f (fun h => ?_) | refine Br.mk (fun h => ?_) fun h => ?_)
 ·conv => whnf
  refine EndVC.mk _ rfl _ _ (⟨3, rfl, rfl, ⟨fun h => (by cases h), fun hC => absurd h hC.nb⟩⟩) ?_
  exact Le.g []
 ·conv => whnf
  refine EndVC.mk _ rfl _ _ (⟨0, rfl, rfl, ⟨fun _ => ⟨by omega, not_anyB (by decide) h⟩, fun _ => rfl⟩⟩) ?_
  exact Le.g []
@[reducible] def rowL (l : List Int) : Blk := .row 2 false [.int .i64] (i64s l)
theorem eb2 : Tryz.t2.bytes = 8 := by kernel_rfl
theorem s201 (xs : List Int) (hl : xs.length ≤ 1000000) : HSpec Tryz.prog 131 [lL xs] [] (fun r m' => r = .x (.one (.own 0)) ∧ m' = [some (rowL xs)]) := by
 have lx := i64s_len xs
 refine spec_g (bodyOf Tryz.f131) [] pMix Tryz.func131 Tryz.ntmps131 [.tmp 2] ?_
 repeat' ((conv => whnf); refine Nils.mk (fun h => ?_) ?_)
 ·refine EndVC.mk _ rfl _ _ ⟨rfl, rfl⟩ ?_
  refine ⟨[none], rfl, rfl, ?_, ?_⟩ <;> repeat' (first | exact trivial | exact rfl | apply And.intro)
  exact h
 ·refine Ob.mk (by simp only [eb2, List.length_nil]; omega) ?_
  repeat' ((conv => whnf); first | refine Rng.g ?_ | fail)
  refine EndVC.mk _ rfl _ _ ⟨rfl, rfl⟩ ?_
  refine ⟨[some 1], rfl, rfl, ?_, ?_⟩ <;> repeat' (first | exact trivial | exact rfl | apply And.intro)
end Go.Sx

namespace Go.Sx
open Go Go.Proofs
set_option maxRecDepth 10000
set_option maxHeartbeats 2000000
theorem s221 (n d : Int) (hd : 0 < d) (hn : -1000000000000 ≤ n ∧ n ≤ 1000000000000) : PSpec Tryz.prog 163 [I n, I d] (.x (I (n / d))) := by
 have h1 := tdiv_floor (n := n) hd
 have h2 := tdiv_rng (a := n) (d := d) (B := 1000000000000) hd (by
  have : (1000000000000 : Int) * 1 ≤ 1000000000000 * d := Int.mul_le_mul_of_nonneg_left (by omega) (by decide)
  omega)
 refine spec_g (bodyOf Tryz.f163) [] pMix Tryz.func163 Tryz.ntmps163 [.tmp 4] ?_
 repeat' ((conv => whnf); first | refine Ob.g ?_ | fail)
 refine Val.mk _ rfl ?_
 repeat' ((conv => whnf); first | refine Rng.g ?_ | refine Ob.g ?_ | fail)
 refine Val.mk _ rfl ?_
 repeat' ((conv => whnf); first | refine Rng.g ?_ | refine JoinVC.on ?_ | (refine Br.mk (fun h => ?_) (fun h => ?_) <;> first | (exfalso; omega; done) | (exfalso; simp at h; done) | skip))
 all_goals
  refine EndVC.mk _ rfl _ _ ⟨rfl, rfl⟩ ?_
  refine ⟨[], rfl, rfl, ?_, ?_⟩ <;> repeat' (first | exact trivial | exact rfl | apply And.intro)
 ·exact h1.1 h
 ·exact h1.2 h
end Go.Sx

namespace Go.Sx
open Go Go.Proofs
set_option maxRecDepth 10000
set_option maxHeartbeats 4000000
@[reducible] def stB (L : List Int) (k : Int) (M : List Int) (m : Int) (c : Crv) : Blk := .box 303 [.int .i64 (L.getD 0 0), .int .i64 (L.getD 1 0), .int .i64 (L.getD 2 0), .int .i64 (L.getD 3 0), .int .i64 (L.getD 4 0), .int .i64 (L.getD 5 0), .int .i64 (L.getD 6 0), .int .i64 (L.getD 7 0), .int .i64 k,
 .int .i64 (M.getD 0 0), .int .i64 (M.getD 1 0), .int .i64 (M.getD 2 0), .int .i64 (M.getD 3 0), .int .i64 (M.getD 4 0), .int .i64 (M.getD 5 0), .int .i64 (M.getD 6 0), .int .i64 (M.getD 7 0), .int .i64 m, .lst true [.int .i64] (i64s c.f), .lst true [.int .i64] (i64s c.b), .int .i64 c.sh]
theorem eight {n : Int} (h : 0 ≤ n ∧ n < 8) : n = 0 ∨ n = 1 ∨ n = 2 ∨ n = 3 ∨ n = 4 ∨ n = 5 ∨ n = 6 ∨ n = 7 := by omega
structure Ring (L : List Int) (k : Int) (hs : List Int) : Prop where
 kb : 0 ≤ k ∧ k < 8
 len : L.length = 8
 at' : ∀ j : Int, 0 ≤ j ∧ j < 8 → L.getD ((k + 8 - 1 - j) % 8).toNat 0 = hs.getD j.toNat 0
theorem Ring.put {L : List Int} {k : Int} {hs : List Int} (h : Ring L k hs) (n : Int) : Ring (L.set k.toNat n) ((k + 1) % 8) (n :: hs) := by
 have hk := h.kb
 have hl := h.len
 refine ⟨by omega, by rw [List.length_set]; exact hl, fun j hj => ?_⟩
 rw [getD_set' _ _ _ _ _ (by omega)]
 by_cases h0 : j = 0
 ·subst h0
  rw [if_pos (by omega)]; rfl
 ·rw [if_neg (by omega)]
  have := h.at' (j - 1) (by omega)
  have e : (k + 8 - 1 - (j - 1)) % 8 = ((k + 1) % 8 + 8 - 1 - j) % 8 := by omega
  rw [← e, this]
  have e2 : j.toNat = (j - 1).toNat + 1 := by omega
  rw [e2]; rfl
theorem Ring.start : Ring [0, 0, 0, 0, 0, 0, 0, 0] 0 [] := by
 refine ⟨by decide, rfl, fun j hj => ?_⟩
 rcases eight hj with rfl | rfl | rfl | rfl | rfl | rfl | rfl | rfl <;> rfl
def wsum (w hs : List Int) : Nat → Int
 | 0 => 0
 | i + 1 => wsum w hs i + w.getD i 0 * hs.getD i 0
def small (hs : List Int) : Prop := ∀ j, -100000 ≤ hs.getD j 0 ∧ hs.getD j 0 ≤ 100000
theorem wprod_bd {w hs : List Int} (hw : ∀ j, -4096 ≤ w.getD j 0 ∧ w.getD j 0 ≤ 4096) (hh : small hs) (i : Nat) : -409600000 ≤ w.getD i 0 * hs.getD i 0 ∧ w.getD i 0 * hs.getD i 0 ≤ 409600000 := by
 have h1 := hw i
 have h2 := hh i
 rcases Int.le_total 0 (hs.getD i 0) with h3 | h3
 ·have := mul_rng (a := w.getD i 0) (b := hs.getD i 0) (A := 4096) (B := 100000) h1 (by omega)
  omega
 ·have := mul_rng (a := w.getD i 0) (b := -hs.getD i 0) (A := 4096) (B := 100000) h1 (by omega)
  rw [Int.mul_neg] at this
  omega
theorem wsum_bd {w hs : List Int} (hw : ∀ j, -4096 ≤ w.getD j 0 ∧ w.getD j 0 ≤ 4096) (hh : small hs) : ∀ i : Nat, -409600000 * (i : Int) ≤ wsum w hs i ∧ wsum w hs i ≤ 409600000 * i
 | 0 => by simp [wsum]
 | i + 1 => by
  have h1 := wsum_bd hw hh i
  have h2 := wprod_bd hw hh i
  unfold wsum
  omega
end Go.Sx

namespace Go.Sx
open Go Go.Proofs
set_option maxRecDepth 10000
set_option maxHeartbeats 4000000
theorem set_a (L : List Int) (r : List SV) (n v : Int) (h : 0 ≤ n ∧ n < 8) (hl : L.length = 8) : (SV.int .i64 (L.getD 0 0) :: .int .i64 (L.getD 1 0) :: .int .i64 (L.getD 2 0) :: .int .i64 (L.getD 3 0) :: .int .i64 (L.getD 4 0) :: .int .i64 (L.getD 5 0) :: .int .i64 (L.getD 6 0) :: .int .i64 (L.getD 7 0) :: r).set (0 + 0 + n.toNat * (0 + 1)) (.int .i64 v) =
  (SV.int .i64 ((L.set n.toNat v).getD 0 0) :: .int .i64 ((L.set n.toNat v).getD 1 0) :: .int .i64 ((L.set n.toNat v).getD 2 0) :: .int .i64 ((L.set n.toNat v).getD 3 0) :: .int .i64 ((L.set n.toNat v).getD 4 0) :: .int .i64 ((L.set n.toNat v).getD 5 0) :: .int .i64 ((L.set n.toNat v).getD 6 0) :: .int .i64 ((L.set n.toNat v).getD 7 0) :: r) := by
 match L, hl with
 | [a, b, c, d, e, f, g, i], _ => rcases eight h with rfl | rfl | rfl | rfl | rfl | rfl | rfl | rfl <;> rfl
theorem set_b (x0 x1 x2 x3 x4 x5 x6 x7 x8 : SV) (L : List Int) (r : List SV) (n v : Int) (h : 0 ≤ n ∧ n < 8) (hl : L.length = 8) : (x0 :: x1 :: x2 :: x3 :: x4 :: x5 :: x6 :: x7 :: x8 :: SV.int .i64 (L.getD 0 0) :: .int .i64 (L.getD 1 0) :: .int .i64 (L.getD 2 0) :: .int .i64 (L.getD 3 0) :: .int .i64 (L.getD 4 0) :: .int .i64 (L.getD 5 0) :: .int .i64 (L.getD 6 0) :: .int .i64 (L.getD 7 0) :: r).set (9 + 0 + n.toNat * (0 + 1)) (.int .i64 v) =
  (x0 :: x1 :: x2 :: x3 :: x4 :: x5 :: x6 :: x7 :: x8 :: SV.int .i64 ((L.set n.toNat v).getD 0 0) :: .int .i64 ((L.set n.toNat v).getD 1 0) :: .int .i64 ((L.set n.toNat v).getD 2 0) :: .int .i64 ((L.set n.toNat v).getD 3 0) :: .int .i64 ((L.set n.toNat v).getD 4 0) :: .int .i64 ((L.set n.toNat v).getD 5 0) :: .int .i64 ((L.set n.toNat v).getD 6 0) :: .int .i64 ((L.set n.toNat v).getD 7 0) :: r) := by
 match L, hl with
 | [a, b, c, d, e, f, g, i], _ => rcases eight h with rfl | rfl | rfl | rfl | rfl | rfl | rfl | rfl <;> rfl
theorem s278a (L : List Int) (k : Int) (M : List Int) (m : Int) (c : Crv) (n : Int) (hs : List Int) (hR : Ring L k hs) :
  HSpec Tryz.prog 153 [.one (.ptr 0 0), I n] [stB L k M m c] (fun r m' => r = .tup [] ∧ m' = [some (stB (L.set k.toNat n) ((k + 1) % 8) M m c)]) := by
 have hk := hR.kb
 refine spec_g (bodyOf Tryz.f153) [] pMix Tryz.func153 Tryz.ntmps153 [] ?_
 repeat' ((conv => whnf); first | refine Ob.g ?_ | fail)
 refine ifB.mk (by rcases eight hk with rfl | rfl | rfl | rfl | rfl | rfl | rfl | rfl <;> rfl) ?_
 refine setL_mk _ (set_a L _ k n hk hR.len) ?_
 repeat' ((conv => whnf); first | refine Rng.g ?_ | refine Ob.g ?_ | refine Val.t ?_ | fail)
 refine EndVC.mk _ rfl _ _ ⟨rfl, rfl⟩ ?_
 exact Le.g [some 0]
theorem s278b (L : List Int) (k : Int) (M : List Int) (m : Int) (c : Crv) (n : Int) (hs : List Int) (hR : Ring M m hs) :
  HSpec Tryz.prog 153 [.one (.ptr 0 9), I n] [stB L k M m c] (fun r m' => r = .tup [] ∧ m' = [some (stB L k (M.set m.toNat n) ((m + 1) % 8) c)]) := by
 have hk := hR.kb
 refine spec_g (bodyOf Tryz.f153) [] pMix Tryz.func153 Tryz.ntmps153 [] ?_
 repeat' ((conv => whnf); first | refine Ob.g ?_ | fail)
 refine ifB.mk (by rcases eight hk with rfl | rfl | rfl | rfl | rfl | rfl | rfl | rfl <;> rfl) ?_
 refine setL_mk _ (set_b _ _ _ _ _ _ _ _ _ M _ m n hk hR.len) ?_
 repeat' ((conv => whnf); first | refine Rng.g ?_ | refine Ob.g ?_ | refine Val.t ?_ | fail)
 refine EndVC.mk _ rfl _ _ ⟨rfl, rfl⟩ ?_
 exact Le.g [some 0]
end Go.Sx

namespace Go.Sx
open Go Go.Proofs
set_option maxRecDepth 10000
set_option maxHeartbeats 4000000
def corF (c : Crv) (hi ho : List Int) : Int := (wsum c.f hi c.f.length + wsum c.b ho c.b.length) / c.sh
theorem corF_bd {c : Crv} (hc : CrvOK c) {hi ho : List Int} (h1 : small hi) (h2 : small ho) : -6553600000 ≤ corF c hi ho ∧ corF c hi ho ≤ 6553600000 := by
 have a1 := wsum_bd hc.f.2 h1 c.f.length
 have a2 := wsum_bd hc.b.2 h2 c.b.length
 have f1 := hc.f.1; have f2 := hc.b.1; have f3 := hc.sh
 have hs : -6553600000 ≤ wsum c.f hi c.f.length + wsum c.b ho c.b.length ∧ wsum c.f hi c.f.length + wsum c.b ho c.b.length ≤ 6553600000 := by omega
 unfold corF
 generalize wsum c.f hi c.f.length + wsum c.b ho c.b.length = s at hs
 constructor
 ·have h3 : -6553600000 * c.sh ≤ s := by
   have : (6553600000 : Int) * 1 ≤ 6553600000 * c.sh := Int.mul_le_mul_of_nonneg_left (by omega) (by decide)
   have e : (-6553600000 : Int) * c.sh = -(6553600000 * c.sh) := by rw [Int.neg_mul]
   omega
  exact (Int.le_ediv_iff_mul_le (by omega)).2 h3
 ·have h3 : s ≤ 6553600000 * c.sh := by
   have : (6553600000 : Int) * 1 ≤ 6553600000 * c.sh := Int.mul_le_mul_of_nonneg_left (by omega) (by decide)
   omega
  have := Int.ediv_le_ediv (by omega : 0 < c.sh) h3
  rwa [Int.mul_ediv_cancel _ (by omega)] at this
@[reducible] def KSt : List CK := [.int .i64, .int .i64, .int .i64, .int .i64, .int .i64, .int .i64, .int .i64, .int .i64, .int .i64, .int .i64, .int .i64, .int .i64, .int .i64, .int .i64, .int .i64, .int .i64, .int .i64, .int .i64, .sl [.int .i64], .sl [.int .i64], .int .i64]
@[reducible] def stR (L : List Int) (k : Int) (M : List Int) (m : Int) (c : Crv) : List Cell := [.int (L.getD 0 0), .int (L.getD 1 0), .int (L.getD 2 0), .int (L.getD 3 0), .int (L.getD 4 0), .int (L.getD 5 0), .int (L.getD 6 0), .int (L.getD 7 0), .int k, .int (M.getD 0 0), .int (M.getD 1 0), .int (M.getD 2 0), .int (M.getD 3 0), .int (M.getD 4 0), .int (M.getD 5 0), .int (M.getD 6 0), .int (M.getD 7 0), .int m, .sl (i64s c.f), .sl (i64s c.b), .int c.sh]
theorem kst_a {n : Int} (h : 0 ≤ n ∧ n < 8) : getL KSt (0 + 0 + n.toNat * (0 + 1)) = some (.int .i64) := by
 rcases eight h with rfl | rfl | rfl | rfl | rfl | rfl | rfl | rfl <;> rfl
theorem kst_b {n : Int} (h : 0 ≤ n ∧ n < 8) : getL KSt (9 + 0 + n.toNat * (0 + 1)) = some (.int .i64) := by
 rcases eight h with rfl | rfl | rfl | rfl | rfl | rfl | rfl | rfl <;> rfl
theorem str_a (L : List Int) (k : Int) (M : List Int) (m : Int) (c : Crv) {n : Int} (h : 0 ≤ n ∧ n < 8) : rI [stR L k M m c] 0 (0 + 0 + n.toNat * (0 + 1)) = L.getD n.toNat 0 := by
 rcases eight h with rfl | rfl | rfl | rfl | rfl | rfl | rfl | rfl <;> rfl
theorem str_b (L : List Int) (k : Int) (M : List Int) (m : Int) (c : Crv) {n : Int} (h : 0 ≤ n ∧ n < 8) : rI [stR L k M m c] 0 (9 + 0 + n.toNat * (0 + 1)) = M.getD n.toNat 0 := by
 rcases eight h with rfl | rfl | rfl | rfl | rfl | rfl | rfl | rfl <;> rfl
theorem l326a (L : List Int) (k : Int) (M : List Int) (m : Int) (c : Crv) (w hs : List Int) (hR : Ring L k hs) (hw : ∀ j, -4096 ≤ w.getD j 0 ∧ w.getD j 0 ≤ 4096) (hl : w.length ≤ 8) (hh : small hs) :
  PSpec Tryz.prog 164 [.one (.lel true KSt [stR L k M m c] 0 0), lL w] (.x (I (wsum w hs w.length))) := by
 have lw := i64s_len w
 have hk := hR.kb
 have e8 : rI [stR L k M m c] 0 (0 + (0 + 1 + 1 + 1 + 1 + 1 + 1 + 1 + 1)) = k := rfl
 refine spec_g (bodyOf Tryz.f164) [] pMix Tryz.func164 Tryz.ntmps164 [.tmp 4] ?_
 repeat' ((conv => whnf); first | refine Rng.g ?_ | fail)
 refine LoopVC.mk (fun n st => ∃ (i : Nat), i ≤ w.length ∧ n = w.length - i ∧ st = ⟨0, envA 35 [(0, .x (.one (.lel true KSt [stR L k M m c] 0 0))), (1, .x (lL w)), (5, .int .i64 (wsum w hs i)), (8, .x (lL w)), (9, .int .i64 (w.length : Int)), (10, .int .i64 (i : Int))], []⟩) _ _ ⟨0, Nat.zero_le _, rfl, rfl⟩ ?_ ?_
 ·refine ⟨[], rfl, rfl, ?_, ?_⟩ <;> repeat' (first | exact trivial | exact rfl | apply And.intro)
  exact congrArg Int.ofNat lw
 rintro n _ ⟨i, hi, hn, rfl⟩
 have gw : rI (i64s w) (i : Int).toNat 0 = w.getD i 0 := by rw [Int.toNat_natCast, i64s_get]
 have hb := wsum_bd hw hh i
 have hp := wprod_bd hw hh i
 by_cases hi' : i < w.length
 ·have hr := hR.at' i (by omega)
  rw [Int.toNat_natCast] at hr
  have hx := str_a L k M m c (n := (k + 8 - 1 - (i : Int)) % 8) (by omega)
  rw [hr] at hx
  repeat' ((conv => whnf); first | rw [e8] | refine Rng.g ?_ | refine Ob.g ?_ | refine Val.t ?_ | refine Br.t (fun h => ?_))
  refine optP.mk _ (kst_a (n := (k + 8 - 1 - (i : Int)) % 8) (by omega)) ?_
  repeat' ((conv => whnf); first | rw [hx] | rw [gw] | refine Rng.g ?_ | fail)
  refine Back.mk (w.length - (i + 1)) _ (by omega) ⟨i + 1, by omega, rfl, rfl⟩ ?_
  refine ⟨[], rfl, rfl, ?_, ?_⟩ <;> repeat' (first | exact trivial | exact rfl | apply And.intro)
 ·have e : i = w.length := by omega
  subst e
  repeat' ((conv => whnf); refine Br.f (fun h => ?_))
  refine EndVC.mk _ rfl _ _ ⟨rfl, rfl⟩ ?_
  refine ⟨[], rfl, rfl, ?_, ?_⟩ <;> repeat' (first | exact trivial | exact rfl | apply And.intro)
theorem l326b (L : List Int) (k : Int) (M : List Int) (m : Int) (c : Crv) (w hs : List Int) (hR : Ring M m hs) (hw : ∀ j, -4096 ≤ w.getD j 0 ∧ w.getD j 0 ≤ 4096) (hl : w.length ≤ 8) (hh : small hs) :
  PSpec Tryz.prog 164 [.one (.lel true KSt [stR L k M m c] 0 9), lL w] (.x (I (wsum w hs w.length))) := by
 have lw := i64s_len w
 have hk := hR.kb
 have e8 : rI [stR L k M m c] 0 (9 + (0 + 1 + 1 + 1 + 1 + 1 + 1 + 1 + 1)) = m := rfl
 refine spec_g (bodyOf Tryz.f164) [] pMix Tryz.func164 Tryz.ntmps164 [.tmp 4] ?_
 repeat' ((conv => whnf); first | refine Rng.g ?_ | fail)
 refine LoopVC.mk (fun n st => ∃ (i : Nat), i ≤ w.length ∧ n = w.length - i ∧ st = ⟨0, envA 35 [(0, .x (.one (.lel true KSt [stR L k M m c] 0 9))), (1, .x (lL w)), (5, .int .i64 (wsum w hs i)), (8, .x (lL w)), (9, .int .i64 (w.length : Int)), (10, .int .i64 (i : Int))], []⟩) _ _ ⟨0, Nat.zero_le _, rfl, rfl⟩ ?_ ?_
 ·refine ⟨[], rfl, rfl, ?_, ?_⟩ <;> repeat' (first | exact trivial | exact rfl | apply And.intro)
  exact congrArg Int.ofNat lw
 rintro n _ ⟨i, hi, hn, rfl⟩
 have gw : rI (i64s w) (i : Int).toNat 0 = w.getD i 0 := by rw [Int.toNat_natCast, i64s_get]
 have hb := wsum_bd hw hh i
 have hp := wprod_bd hw hh i
 by_cases hi' : i < w.length
 ·have hr := hR.at' i (by omega)
  rw [Int.toNat_natCast] at hr
  have hx := str_b L k M m c (n := (m + 8 - 1 - (i : Int)) % 8) (by omega)
  rw [hr] at hx
  repeat' ((conv => whnf); first | rw [e8] | refine Rng.g ?_ | refine Ob.g ?_ | refine Val.t ?_ | refine Br.t (fun h => ?_))
  refine optP.mk _ (kst_b (n := (m + 8 - 1 - (i : Int)) % 8) (by omega)) ?_
  repeat' ((conv => whnf); first | rw [hx] | rw [gw] | refine Rng.g ?_ | fail)
  refine Back.mk (w.length - (i + 1)) _ (by omega) ⟨i + 1, by omega, rfl, rfl⟩ ?_
  refine ⟨[], rfl, rfl, ?_, ?_⟩ <;> repeat' (first | exact trivial | exact rfl | apply And.intro)
 ·have e : i = w.length := by omega
  subst e
  repeat' ((conv => whnf); refine Br.f (fun h => ?_))
  refine EndVC.mk _ rfl _ _ ⟨rfl, rfl⟩ ?_
  refine ⟨[], rfl, rfl, ?_, ?_⟩ <;> repeat' (first | exact trivial | exact rfl | apply And.intro)
theorem s277 (L : List Int) (k : Int) (M : List Int) (m : Int) (c : Crv) (hi ho : List Int) (hc : CrvOK c) (hO : Ring L k ho) (hI : Ring M m hi) (h1 : small hi) (h2 : small ho) :
  HSpec Tryz.prog 152 [.one (.ptr 0 0)] [stB L k M m c] (fun r m' => r = .x (I (corF c hi ho)) ∧ m' = [some (stB L k M m c)]) := by
 have a1 := wsum_bd hc.f.2 h1 c.f.length
 have a2 := wsum_bd hc.b.2 h2 c.b.length
 have f1 := hc.f.1; have f2 := hc.b.1; have f3 := hc.sh
 refine spec_g (bodyOf Tryz.f152) ([(1, ([], ordDef 0 8 ++ ordDef 9 8 ++ ordDef 19 5 ++ [⟨8, [9, 10, 11, 12, 13, 14, 15, 16, 19, 20, 21, 22, 23], []⟩, ⟨17, [19, 20, 21, 22, 23], []⟩, ⟨18, [], []⟩, ⟨24, [], []⟩, ⟨25, [], []⟩]))]) pMix Tryz.func152 Tryz.ntmps152 [.tmp 2] ?_
 repeat' ((conv => whnf); first | refine Rng.g ?_ | refine CallVC.pure rfl (s221 (wsum c.f hi c.f.length + wsum c.b ho c.b.length) c.sh (by omega) (by omega)) ?_ | refine CallVC0.pure rfl (l326b L k M m c c.f hi hI hc.f.2 hc.f.1 h1) ?_ | refine CallVC0.pure rfl (l326a L k M m c c.b ho hO hc.b.2 hc.b.1 h2) ?_)
 refine EndVC.mk _ rfl _ _ ⟨rfl, rfl⟩ ?_
 exact Le.g [some 0]
@[reducible] def stM (u : SV) (L : List Int) (k : Int) (M : List Int) (m : Int) (c : Crv) : List Blk := [.box 4 [u], .box 298 [.ptr 2 0], stB L k M m c]
theorem s276f (L : List Int) (k : Int) (M : List Int) (m : Int) (c : Crv) (hi ho : List Int) (n : Int) (hc : CrvOK c) (hO : Ring L k ho) (hI : Ring M m hi) (h1 : small hi) (h2 : small ho) (hn : -100000 ≤ n ∧ n ≤ 100000) :
  HSpec Tryz.prog 151 [I n, .one (.ptr 0 0), .one (.ptr 1 0)] (stM (.bool false) L k M m c) (fun r m' => ∃ L' k' M' m2, Ring L' k' ((n + corF c hi ho) :: ho) ∧ Ring M' m2 (n :: hi) ∧ r = .x (I (n + corF c hi ho)) ∧ m' = [some (.box 4 [.bool false]), some (.box 298 [.ptr 2 0]), some (stB L' k' M' m2 c)]) := by
 have hb := corF_bd hc h1 h2
 refine spec_g (bodyOf Tryz.f151) [] pMix Tryz.func151 Tryz.ntmps151 [.tmp 4] ?_
 repeat' ((conv => whnf); first | (refine Br.mk (fun h => ?_) (fun h => ?_) <;> first | (exfalso; omega; done) | (exfalso; simp at h; done) | skip))
 conv => whnf
 refine CallVC.mk [2] _ _ _ rfl rfl rfl (s277 L k M m c hi ho hc hO hI h1 h2) (fun r m' h' => ?_)
 obtain ⟨rfl, rfl⟩ := h'
 conv => whnf
 repeat' ((conv => whnf); first | refine Rng.g ?_ | fail)
 conv => whnf
 refine CallVC.mk [2] _ _ _ rfl rfl rfl (s278b L k M m c n hi hI) (fun r m' h' => ?_)
 obtain ⟨rfl, rfl⟩ := h'
 conv => whnf
 repeat' ((conv => whnf); first | refine Rng.g ?_ | fail)
 conv => whnf
 refine CallVC.mk [2] _ _ _ rfl rfl rfl (s278a L k _ _ c (n + corF c hi ho) ho hO) (fun r m' h' => ?_)
 obtain ⟨rfl, rfl⟩ := h'
 conv => whnf
 repeat' ((conv => whnf); first | refine Rng.g ?_ | fail)
 conv => whnf
 refine EndVC.mk _ rfl _ _ (⟨_, _, _, _, hO.put _, hI.put _, rfl, rfl⟩) ?_
 exact Le.g [some 0, some 1, some 2]
theorem s276t (L : List Int) (k : Int) (M : List Int) (m : Int) (c : Crv) (hi ho : List Int) (n : Int) (hc : CrvOK c) (hO : Ring L k ho) (hI : Ring M m hi) (h1 : small hi) (h2 : small ho) (hn : -100000 ≤ n ∧ n ≤ 100000) :
  HSpec Tryz.prog 151 [I n, .one (.ptr 0 0), .one (.ptr 1 0)] (stM (.bool true) L k M m c) (fun r m' => ∃ L' k' M' m2, Ring L' k' (n :: ho) ∧ Ring M' m2 ((n - corF c hi ho) :: hi) ∧ r = .x (I (n - corF c hi ho)) ∧ m' = [some (.box 4 [.bool true]), some (.box 298 [.ptr 2 0]), some (stB L' k' M' m2 c)]) := by
 have hb := corF_bd hc h1 h2
 refine spec_g (bodyOf Tryz.f151) [] pMix Tryz.func151 Tryz.ntmps151 [.tmp 4] ?_
 repeat' ((conv => whnf); first | (refine Br.mk (fun h => ?_) (fun h => ?_) <;> first | (exfalso; omega; done) | (exfalso; simp at h; done) | skip))
 conv => whnf
 refine CallVC.mk [2] _ _ _ rfl rfl rfl (s277 L k M m c hi ho hc hO hI h1 h2) (fun r m' h' => ?_)
 obtain ⟨rfl, rfl⟩ := h'
 conv => whnf
 repeat' ((conv => whnf); first | refine Rng.g ?_ | fail)
 conv => whnf
 refine CallVC.mk [2] _ _ _ rfl rfl rfl (s278b L k M m c (n - corF c hi ho) hi hI) (fun r m' h' => ?_)
 obtain ⟨rfl, rfl⟩ := h'
 conv => whnf
 repeat' ((conv => whnf); first | refine Rng.g ?_ | fail)
 conv => whnf
 refine CallVC.mk [2] _ _ _ rfl rfl rfl (s278a L k _ _ c n ho hO) (fun r m' h' => ?_)
 obtain ⟨rfl, rfl⟩ := h'
 conv => whnf
 repeat' ((conv => whnf); first | refine Rng.g ?_ | fail)
 conv => whnf
 refine EndVC.mk _ rfl _ _ (⟨_, _, _, _, hO.put _, hI.put _, rfl, rfl⟩) ?_
 exact Le.g [some 0, some 1, some 2]
end Go.Sx

namespace Go.Sx
open Go Go.Proofs
set_option maxRecDepth 10000
set_option maxHeartbeats 4000000
@[reducible] def bv : Bool → SV
 | true => .tt
 | false => .ff
def stepF (u : Bool) (c : Crv) (hi ho : List Int) (n : Int) : Int := if u = true then n - corF c hi ho else n + corF c hi ho
theorem s276 (u : Bool) (L : List Int) (k : Int) (M : List Int) (m : Int) (c : Crv) (hi ho : List Int) (n : Int) (hc : CrvOK c) (hO : Ring L k ho) (hI : Ring M m hi) (h1 : small hi) (h2 : small ho) (hn : -100000 ≤ n ∧ n ≤ 100000) :
  HSpec Tryz.prog 151 [I n, .one (.ptr 0 0), .one (.ptr 1 0)] (stM (.bool u) L k M m c) (fun r m' => ∃ L' k' M' m2, Ring L' k' ((if u = true then n else stepF u c hi ho n) :: ho) ∧ Ring M' m2 ((if u = true then stepF u c hi ho n else n) :: hi) ∧ r = .x (I (stepF u c hi ho n)) ∧ m' = [some (.box 4 [.bool u]), some (.box 298 [.ptr 2 0]), some (stB L' k' M' m2 c)]) := by
 cases u with
 | false => exact s276f L k M m c hi ho n hc hO hI h1 h2 hn
 | true => exact s276t L k M m c hi ho n hc hO hI h1 h2 hn
theorem s279 (n most : Int) (hm : 0 ≤ most ∧ most ≤ 1000000) : HSpec Tryz.prog 154 [I n, .one (.ptr 0 0)] [bI most] (fun r m' => r = xP (¬ bey n most) ∧ m' = [some (bI most)]) := by
 refine spec_g (bodyOf Tryz.f154) [] pMix Tryz.func154 Tryz.ntmps154 [.tmp 3] ?_
 repeat' ((conv => whnf); refine CallVC.pure rfl (s280 n most hm) ?_)
 refine EndVC.mk _ rfl _ _ ⟨rfl, rfl⟩ ?_
 exact Le.g [some 0]
theorem s204 (most : Int) : HSpec Tryz.prog 134 [I most] [] (fun r m' => r = .x (.one (.fn 154 [(0, 0)])) ∧ m' = [some (bI most)]) := by
 refine spec_g (bodyOf Tryz.f134) [] pMix Tryz.func134 Tryz.ntmps134 [.tmp 2] ?_
 repeat' ((conv => whnf); first | refine Rng.g ?_ | fail)
 refine EndVC.mk _ rfl _ _ ⟨rfl, rfl⟩ ?_
 exact Le.g [some 0]
theorem s203 (u : Bool) (c : Crv) : HSpec Tryz.prog 133 [c.x, .one (bv u)] [] (fun r m' => r = .x (.one (.fn 151 [(0, 0), (1, 0)])) ∧ m' = [some (.box 4 [.bool u]), some (.box 298 [.ptr 2 0]), some (stB [0, 0, 0, 0, 0, 0, 0, 0] 0 [0, 0, 0, 0, 0, 0, 0, 0] 0 c)]) := by
 cases u
 all_goals
  refine spec_g (bodyOf Tryz.f133) [] pMix Tryz.func133 Tryz.ntmps133 [.tmp 4] ?_
  repeat' ((conv => whnf); first | refine Rng.g ?_ | fail)
  refine EndVC.mk _ rfl _ _ ⟨rfl, rfl⟩ ?_
  exact Le.g [some 1, some 3, some 2]
def hiF (u : Bool) (xs ys : List Int) (i : Nat) : List Int := if u = true then (ys.take i).reverse else (xs.take i).reverse
def hoF (u : Bool) (xs ys : List Int) (i : Nat) : List Int := if u = true then (xs.take i).reverse else (ys.take i).reverse
def nextY (u : Bool) (c : Crv) (xs ys : List Int) (i : Nat) : Int := stepF u c (hiF u xs ys i) (hoF u xs ys i) (xs.getD i 0)
structure Filt (u : Bool) (c : Crv) (most : Int) (xs ys : List Int) : Prop where
 len : ys.length ≤ xs.length
 each : ∀ j, j < ys.length → ys.getD j 0 = nextY u c xs ys j ∧ ¬ bey (ys.getD j 0) most
theorem take_app {α : Type} (l r : List α) (i : Nat) (h : i ≤ l.length) : (l ++ r).take i = l.take i := by
 rw [List.take_append_of_le_length h]
theorem nextY_app (u : Bool) (c : Crv) (xs ys r : List Int) (i : Nat) (h : i ≤ ys.length) : nextY u c xs (ys ++ r) i = nextY u c xs ys i := by
 unfold nextY hiF hoF
 rw [take_app _ _ _ h]
theorem getD_app_l {α : Type} (l r : List α) (d : α) (i : Nat) (h : i < l.length) : (l ++ r).getD i d = l.getD i d := by
 rw [List.getD_eq_getElem?_getD, List.getD_eq_getElem?_getD, List.getElem?_append_left h]
theorem getD_app_e {α : Type} (l : List α) (x d : α) : (l ++ [x]).getD l.length d = x := by
 rw [List.getD_eq_getElem?_getD, List.getElem?_append_right (Nat.le_refl _)]; simp
theorem rev_snoc (xs : List Int) (i : Nat) (h : i < xs.length) : (xs.take (i + 1)).reverse = xs.getD i 0 :: (xs.take i).reverse := by
 rw [take_snoc xs i 0 h, List.reverse_append]; rfl
theorem rev_app (ys : List Int) (y : Int) : ((ys ++ [y]).take (ys.length + 1)).reverse = y :: (ys.take ys.length).reverse := by
 have e : (ys ++ [y]).take (ys.length + 1) = ys ++ [y] := List.take_of_length_le (by simp)
 rw [e, List.take_length, List.reverse_append]; rfl
theorem hoF_snoc (u : Bool) (xs ys : List Int) (y : Int) (h : ys.length < xs.length) : hoF u xs (ys ++ [y]) (ys.length + 1) = (if u = true then xs.getD ys.length 0 else y) :: hoF u xs ys ys.length := by
 unfold hoF
 cases u
 ·exact rev_app ys y
 ·exact rev_snoc xs _ h
theorem hiF_snoc (u : Bool) (xs ys : List Int) (y : Int) (h : ys.length < xs.length) : hiF u xs (ys ++ [y]) (ys.length + 1) = (if u = true then y else xs.getD ys.length 0) :: hiF u xs ys ys.length := by
 unfold hiF
 cases u
 ·exact rev_snoc xs _ h
 ·exact rev_app ys y
theorem Filt.snoc {u : Bool} {c : Crv} {most : Int} {xs ys : List Int} (h : Filt u c most xs ys) (hl : ys.length < xs.length) (hb : ¬ bey (nextY u c xs ys ys.length) most) : Filt u c most xs (ys ++ [nextY u c xs ys ys.length]) := by
 refine ⟨by simp; omega, fun j hj => ?_⟩
 rw [List.length_append, List.length_cons, List.length_nil] at hj
 rcases Nat.lt_succ_iff_lt_or_eq.1 hj with h' | rfl
 ·rw [getD_app_l _ _ _ _ h', nextY_app _ _ _ _ _ _ (by omega)]
  exact h.each j h'
 ·rw [getD_app_e, nextY_app _ _ _ _ _ _ (Nat.le_refl _)]
  exact ⟨rfl, hb⟩
theorem getD_bd {xs : List Int} {B : Int} (h : ∀ j, -B ≤ xs.getD j 0 ∧ xs.getD j 0 ≤ B) (i : Nat) : ∀ j, -B ≤ (xs.take i).reverse.getD j 0 ∧ (xs.take i).reverse.getD j 0 ≤ B := by
 intro j
 have h0 := h xs.length
 rw [List.getD_eq_getElem?_getD, List.getElem?_eq_none (Nat.le_refl _)] at h0
 simp only [Option.getD_none] at h0
 by_cases hj : j < (xs.take i).reverse.length
 ·have hm : (xs.take i).reverse.getD j 0 ∈ xs := by
   have := getD_mem' (0 : Int) hj
   rw [List.mem_reverse] at this
   exact List.mem_of_mem_take this
  obtain ⟨q, hq, e⟩ := List.getElem_of_mem hm
  have := h q
  rw [List.getD_eq_getElem?_getD, List.getElem?_eq_getElem hq] at this
  simp only [Option.getD_some] at this
  rw [e] at this
  exact this
 ·rw [List.getD_eq_getElem?_getD, List.getElem?_eq_none (by omega)]
  exact h0
def sigB (B : Int) (xs : List Int) : Prop := ∀ j, -B ≤ xs.getD j 0 ∧ xs.getD j 0 ≤ B
theorem Filt.sig {u : Bool} {c : Crv} {most : Int} {xs ys : List Int} (h : Filt u c most xs ys) (hm : 0 ≤ most) : sigB most ys := by
 intro j
 by_cases hj : j < ys.length
 ·have := (h.each j hj).2
  unfold bey at this
  omega
 ·rw [List.getD_eq_getElem?_getD, List.getElem?_eq_none (by omega)]
  simp only [Option.getD_none]
  omega
theorem Filt.small {u : Bool} {c : Crv} {most : Int} {xs ys : List Int} (h : Filt u c most xs ys) (hm : 0 ≤ most ∧ most ≤ 100000) (hx : sigB 100000 xs) (i : Nat) : small (hiF u xs ys i) ∧ small (hoF u xs ys i) := by
 have h1 : sigB 100000 ys := fun j => by have := h.sig hm.1 j; omega
 unfold hiF hoF
 cases u
 ·exact ⟨getD_bd hx i, getD_bd h1 i⟩
 ·exact ⟨getD_bd h1 i, getD_bd hx i⟩
end Go.Sx

namespace Go.Sx
open Go Go.Proofs
set_option maxRecDepth 10000
set_option maxHeartbeats 4000000
def EachRs (u : Bool) (c : Crv) (most : Int) (xs : List Int) (r : AV) (m' : List (Option Blk)) : Prop :=
 (∃ ys, Filt u c most xs ys ∧ ys.length = xs.length ∧ r = .tup [.one (.own 4), I 0] ∧ m' = [none, none, none, none, some (rowL ys)]) ∨
 (∃ ys, Filt u c most xs ys ∧ ys.length < xs.length ∧ bey (nextY u c xs ys ys.length) most ∧ r = .tup [.one .nils, I 4] ∧ m' = [none, none, none, none])
theorem s202 (u : Bool) (c : Crv) (most : Int) (xs : List Int) (hc : CrvOK c) (hm : 0 ≤ most ∧ most ≤ 100000) (hx : sigB 100000 xs) (hl : xs.length ≤ 4096) :
  HSpec Tryz.prog 132 [lL xs, .one (.fn 151 [(0, 0), (1, 0)]), .one (.fn 154 [(3, 0)])] [.box 4 [.bool u], .box 298 [.ptr 2 0], stB [0, 0, 0, 0, 0, 0, 0, 0] 0 [0, 0, 0, 0, 0, 0, 0, 0] 0 c, bI most] (EachRs u c most xs) := by
 have lx := i64s_len xs
 refine spec_g (bodyOf Tryz.f132) [] pMix Tryz.func132 Tryz.ntmps132 [.tmp 6, .tmp 7] ?_
 repeat' ((conv => whnf); first | refine Rng.g ?_ | fail)
 refine Ob.mk (by simp only [eb2]; omega) ?_
 repeat' ((conv => whnf); first | refine Rng.g ?_ | fail)
 refine LoopVC.mk (fun n st => ∃ (ys : List Int) (L : List Int) (k : Int) (M : List Int) (m : Int), Filt u c most xs ys ∧ n = xs.length - ys.length ∧ Ring L k (hoF u xs ys ys.length) ∧ Ring M m (hiF u xs ys ys.length) ∧ st = ⟨4, envA 34 [(1, .x (.one (.fn 151 [(0, 0), (1, 0)]))), (2, .x (.one (.fn 154 [(3, 0)]))), (8, .x (.one (.own 4))), (15, .x (lL xs)), (16, .int .i64 (xs.length : Int)), (17, .int .i64 (ys.length : Int))], [some (.box 4 [.bool u]), some (.box 298 [.ptr 2 0]), some (stB L k M m c), some (bI most), some (rowL ys)]⟩) _ _ ⟨[], _, _, _, _, ⟨Nat.zero_le _, fun j hj => absurd hj (Nat.not_lt_zero j)⟩, rfl, by cases u <;> exact Ring.start, by cases u <;> exact Ring.start, rfl⟩ ?_ ?_
 ·refine ⟨[some 0, some 1, some 2, some 3, some 4], rfl, rfl, ?_, ?_⟩ <;> repeat' (first | exact trivial | exact rfl | apply And.intro)
  exact congrArg Int.ofNat lx
 rintro n _ ⟨ys, L, k, M, m, hF, hn, hO, hI, rfl⟩
 have hfl := hF.len
 have gx : rI (i64s xs) (ys.length : Int).toNat 0 = xs.getD ys.length 0 := by rw [Int.toNat_natCast, i64s_get]
 have hs := hF.small hm hx ys.length
 have hxi := hx ys.length
 by_cases hi' : ys.length < xs.length
 ·have hst : stepF u c (hiF u xs ys ys.length) (hoF u xs ys ys.length) (xs.getD ys.length 0) = nextY u c xs ys ys.length := rfl
  repeat' ((conv => whnf); first | rw [gx] | refine Ob.g ?_ | refine Br.t (fun h => ?_))
  conv => whnf
  conv => whnf
  refine CallVC.mk [0, 1, 2] _ _ _ rfl rfl rfl (s276 u L k M m c _ _ (xs.getD ys.length 0) hc hO hI hs.1 hs.2 hxi) (fun r m' h' => ?_)
  obtain ⟨L2, k2, M2, m2, hO2, hI2, rfl, rfl⟩ := h'
  conv => whnf
  rw [hst]
  repeat' ((conv => whnf); first | refine Rng.g ?_ | fail)
  conv => whnf
  refine CallVC.mk [3] _ _ _ rfl rfl rfl (s279 (nextY u c xs ys ys.length) most (by omega)) (fun r m' h' => ?_)
  obtain ⟨rfl, rfl⟩ := h'
  conv => whnf
  repeat' ((conv => whnf); first | (refine Br.mk (fun h => ?_) (fun h => ?_) <;> first | (exfalso; omega; done) | (exfalso; simp at h; done) | skip))
  ·conv => whnf
   refine EndVC.mk _ rfl _ _ (.inr ⟨ys, hF, hi', Classical.not_not.1 h, rfl, rfl⟩) ?_
   exact Le.g [none, none, none, none]
  ·have hnb := Classical.not_not.1 h
   have ly : (i64s ys).length = ys.length := i64s_len ys
   refine Ob.mk (by simp only [ly, eb2, List.length_cons, List.length_nil]; omega) ?_
   repeat' ((conv => whnf); first | refine Rng.g ?_ | fail)
   have hl1 : (ys ++ [nextY u c xs ys ys.length]).length = ys.length + 1 := by simp
   refine Back.mk (xs.length - (ys.length + 1)) _ (by omega) ⟨ys ++ [nextY u c xs ys ys.length], L2, k2, M2, m2, hF.snoc hi' hnb, by rw [hl1], by rw [hl1, hoF_snoc u xs ys _ hi']; exact hO2, by rw [hl1, hiF_snoc u xs ys _ hi']; exact hI2, rfl⟩ ?_
   refine ⟨[some 0, some 1, some 2, some 3, some 6], rfl, rfl, ?_, ?_⟩ <;> repeat' (first | exact trivial | exact rfl | apply And.intro)
   ·rw [hl1]; rfl
   ·exact (i64s_snoc ys _).symm
 ·repeat' ((conv => whnf); refine Br.f (fun h => ?_))
  conv => whnf
  refine EndVC.mk _ rfl _ _ (.inl ⟨ys, hF, by omega, rfl, rfl⟩) ?_
  exact Le.g [none, none, none, none, some 4]
end Go.Sx

namespace Go.Sx
open Go Go.Proofs
set_option maxRecDepth 10000
set_option maxHeartbeats 4000000
def ChN (u : Bool) (f : Nat → Crv) (xs : List Int) : Nat → List Int → Prop
 | 0, ys => ys = xs
 | n + 1, ys => ∃ zs, ChN u f xs n zs ∧ Filt u (f n) 32767 zs ys ∧ ys.length = zs.length
theorem ChN.len {u : Bool} {f : Nat → Crv} {xs : List Int} : ∀ {n : Nat} {ys : List Int}, ChN u f xs n ys → ys.length = xs.length
 | 0, _, h => by rw [h]
 | _ + 1, _, ⟨_, h, _, e⟩ => by rw [e]; exact h.len
theorem ChN.sig {u : Bool} {f : Nat → Crv} {xs : List Int} (hx : sigB 32767 xs) : ∀ {n : Nat} {ys : List Int}, ChN u f xs n ys → sigB 32767 ys
 | 0, _, h => by rw [h]; exact hx
 | _ + 1, _, ⟨_, _, hf, _⟩ => hf.sig (by decide)
def atC (u : Bool) (l : List Crv) (i : Nat) : Crv := if u = true then l.getD (l.length - 1 - i) c0 else l.getD i c0
theorem sig1 {xs : List Int} (h : sigB 32767 xs) : sigB 100000 xs := fun j => by have := h j; omega
def FarN (u : Bool) (f : Nat → Crv) (xs : List Int) (n : Nat) : Prop := ∃ i zs ys, i < n ∧ ChN u f xs i zs ∧ Filt u (f i) 32767 zs ys ∧ ys.length < zs.length ∧ bey (nextY u (f i) zs ys ys.length) 32767
inductive ChRs' (u : Bool) (l : List Crv) (xs : List Int) (r : AV) (m' : List (Option Blk)) : Prop
 | bad (e : Int) (h : ¬ (ChOK l ∧ SigOK xs)) (he : e ≠ 0) (hr : r = .tup [.one .nils, I e]) (hm : m' = [])
 | far (hl : ChOK l) (hx : SigOK xs) (h : FarN u (atC u l) xs l.length) (hr : r = .tup [.one .nils, I 4]) (hm : m' = [])
 | ok (hl : ChOK l) (hx : SigOK xs) (ys : List Int) (h : ChN u (atC u l) xs l.length ys) (hr : r = .tup [.one (.own 0), I 0]) (hm : m' = [some (rowL ys)])
theorem s203e (l : List Crv) (u : Bool) (i : Nat) : HSpec Tryz.prog 133 [crvX l i, .one (bv u)] [] (fun r m' => r = .x (.one (.fn 151 [(0, 0), (1, 0)])) ∧ m' = [some (.box 4 [.bool u]), some (.box 298 [.ptr 2 0]), some (stB [0, 0, 0, 0, 0, 0, 0, 0] 0 [0, 0, 0, 0, 0, 0, 0, 0] 0 (l.getD i c0))]) := crvX_eq l i ▸ s203 u (l.getD i c0)
theorem s203r (l : List Crv) (u : Bool) (i : Nat) (hi : i < l.length) : HSpec Tryz.prog 133 [crvX l ((List.length (crvA l) : Int) - 1 - (i : Int)).toNat, .one (bv u)] [] (fun r m' => r = .x (.one (.fn 151 [(0, 0), (1, 0)])) ∧ m' = [some (.box 4 [.bool u]), some (.box 298 [.ptr 2 0]), some (stB [0, 0, 0, 0, 0, 0, 0, 0] 0 [0, 0, 0, 0, 0, 0, 0, 0] 0 (l.getD (l.length - 1 - i) c0))]) := by
 have e : ((List.length (crvA l) : Int) - 1 - (i : Int)).toNat = l.length - 1 - i := by rw [crvA_len]; omega
 rw [e]
 exact s203e l u _
theorem s104 (u : Bool) (l : List Crv) (xs : List Int) : HSpec Tryz.prog 113 [lC l, lL xs, .one (bv u)] [] (ChRs' u l xs) := by
 have ll := crvA_len l
 have lx := i64s_len xs
 have v1 := s147 l
 have v2 := s148 xs
 by_cases hC : ¬ ChOK l
 ·cases u
  all_goals
   refine spec_g (bodyOf Tryz.f113) [] pMix Tryz.func113 Tryz.ntmps113 [.tmp 6, .tmp 7] ?_
   repeat' ((conv => whnf); first | refine Rng.g ?_ | fail)
   conv => whnf
   refine CallVC.mk [] _ _ _ rfl rfl rfl (v1) (fun r m' h' => ?_)
   obtain ⟨e, rfl, rfl, he⟩ := h'
   conv => whnf
   have he0 : e ≠ 0 := fun h0 => hC (he.1 h0)
   repeat' ((conv => whnf); refine Br.t (fun h => ?_))
   conv => whnf
   refine EndVC.mk _ rfl _ _ (.bad e (fun h => hC h.1) he0 rfl rfl) ?_
   refine ⟨[], rfl, rfl, ?_, ?_⟩ <;> repeat' (first | exact trivial | exact rfl | apply And.intro)
 replace hC := Classical.not_not.1 hC
 by_cases hX : ¬ SigOK xs
 ·cases u
  all_goals
   refine spec_g (bodyOf Tryz.f113) [] pMix Tryz.func113 Tryz.ntmps113 [.tmp 6, .tmp 7] ?_
   repeat' ((conv => whnf); first | refine Rng.g ?_ | fail)
   conv => whnf
   refine CallVC.mk [] _ _ _ rfl rfl rfl (v1) (fun r m' h' => ?_)
   obtain ⟨e, rfl, rfl, he⟩ := h'
   conv => whnf
   cases he.2 hC
   repeat' ((conv => whnf); refine Br.f (fun h => ?_))
   conv => whnf
   refine CallVC.mk [] _ _ _ rfl rfl rfl (v2) (fun r m' h' => ?_)
   obtain ⟨e, rfl, rfl, he'⟩ := h'
   conv => whnf
   have he0 : e ≠ 0 := fun h0 => hX (he'.1 h0)
   repeat' ((conv => whnf); refine Br.t (fun h => ?_))
   conv => whnf
   refine EndVC.mk _ rfl _ _ (.bad e (fun h => hX h.2) he0 rfl rfl) ?_
   refine ⟨[], rfl, rfl, ?_, ?_⟩ <;> repeat' (first | exact trivial | exact rfl | apply And.intro)
 replace hX := Classical.not_not.1 hX
 have hxl := hX.len
 have hll := hC.len
 cases u
 ·refine spec_g (bodyOf Tryz.f113) [] pMix Tryz.func113 Tryz.ntmps113 [.tmp 6, .tmp 7] ?_
  repeat' ((conv => whnf); first | refine Rng.g ?_ | fail)
  conv => whnf
  refine CallVC.mk [] _ _ _ rfl rfl rfl (v1) (fun r m' h' => ?_)
  obtain ⟨e, rfl, rfl, he⟩ := h'
  conv => whnf
  cases he.2 hC
  repeat' ((conv => whnf); refine Br.f (fun h => ?_))
  conv => whnf
  refine CallVC.mk [] _ _ _ rfl rfl rfl (v2) (fun r m' h' => ?_)
  obtain ⟨e, rfl, rfl, he'⟩ := h'
  conv => whnf
  cases he'.2 hX
  repeat' ((conv => whnf); refine Br.f (fun h => ?_))
  conv => whnf
  refine CallVC.mk [] _ _ _ rfl rfl rfl (s201 xs (by omega)) (fun r m' h' => ?_)
  obtain ⟨rfl, rfl⟩ := h'
  conv => whnf
  repeat' ((conv => whnf); first | refine Rng.g ?_ | fail)
  refine LoopVC.mk (fun n st => ∃ (i : Nat) (ys : List Int), i ≤ l.length ∧ n = l.length - i ∧ ChN false (atC false l) xs i ys ∧ st = ⟨0, envA 59 [(0, .x (lC l)), (1, .x (.one (.own 0))), (2, .x (.one .ff)), (27, .int .i64 (l.length : Int)), (28, .int .i64 (i : Int))], [some (rowL ys)]⟩) _ _ ⟨0, xs, Nat.zero_le _, rfl, rfl, rfl⟩ ?_ ?_
  ·refine ⟨[some 0], rfl, rfl, ?_, ?_⟩ <;> repeat' (first | exact trivial | exact rfl | apply And.intro)
   exact congrArg Int.ofNat ll
  rintro n _ ⟨i, ys, hi, hn, hc, rfl⟩
  have hys := hc.len
  have hsg := hc.sig (xs := xs) hX.each
  by_cases hi' : i < l.length
  ·repeat' ((conv => whnf); first | refine Ob.g ?_ | refine JoinVC.on ?_ | refine Br.t (fun h => ?_))
   conv => whnf
   refine CallVC.mk [] _ _ _ rfl rfl rfl (s203e l false i) (fun r m' h' => ?_)
   obtain ⟨rfl, rfl⟩ := h'
   conv => whnf
   repeat' ((conv => whnf); first | refine Rng.g ?_ | fail)
   conv => whnf
   refine CallVC.mk [] _ _ _ rfl rfl rfl (s204 32767) (fun r m' h' => ?_)
   obtain ⟨rfl, rfl⟩ := h'
   conv => whnf
   repeat' ((conv => whnf); first | refine Rng.g ?_ | fail)
   conv => whnf
   refine CallVC.mk [2, 3, 4, 5] _ _ _ rfl rfl rfl (s202 false (l.getD i c0) 32767 ys (hC.each i hi') (by decide) (sig1 hsg) (by omega)) (fun r m' h' => ?_)
   rcases h' with ⟨zs, hF, hzl, rfl, rfl⟩ | ⟨zs, hF, hzl, hzb, rfl, rfl⟩
   ·repeat' ((conv => whnf); first | refine Rng.g ?_ | refine Br.f (fun h => ?_))
    refine Back.mk (l.length - (i + 1)) _ (by omega) ⟨i + 1, zs, by omega, rfl, ⟨ys, hc, hF, hzl⟩, rfl⟩ ?_
    refine ⟨[some 6], rfl, rfl, ?_, ?_⟩ <;> repeat' (first | exact trivial | exact rfl | apply And.intro)
   ·repeat' ((conv => whnf); refine Br.t (fun h => ?_))
    conv => whnf
    refine EndVC.mk _ rfl _ _ (.far hC hX ⟨i, ys, zs, hi', hc, hF, hzl, hzb⟩ rfl rfl) ?_
    refine ⟨[], rfl, rfl, ?_, ?_⟩ <;> repeat' (first | exact trivial | exact rfl | apply And.intro)
  ·repeat' ((conv => whnf); refine Br.f (fun h => ?_))
   conv => whnf
   refine EndVC.mk _ rfl _ _ (.ok hC hX ys (by rw [← (show i = l.length by omega)]; exact hc) rfl rfl) ?_
   refine ⟨[some 0], rfl, rfl, ?_, ?_⟩ <;> repeat' (first | exact trivial | exact rfl | apply And.intro)
 ·refine spec_g (bodyOf Tryz.f113) [] pMix Tryz.func113 Tryz.ntmps113 [.tmp 6, .tmp 7] ?_
  repeat' ((conv => whnf); first | refine Rng.g ?_ | fail)
  conv => whnf
  refine CallVC.mk [] _ _ _ rfl rfl rfl (v1) (fun r m' h' => ?_)
  obtain ⟨e, rfl, rfl, he⟩ := h'
  conv => whnf
  cases he.2 hC
  repeat' ((conv => whnf); refine Br.f (fun h => ?_))
  conv => whnf
  refine CallVC.mk [] _ _ _ rfl rfl rfl (v2) (fun r m' h' => ?_)
  obtain ⟨e, rfl, rfl, he'⟩ := h'
  conv => whnf
  cases he'.2 hX
  repeat' ((conv => whnf); refine Br.f (fun h => ?_))
  conv => whnf
  refine CallVC.mk [] _ _ _ rfl rfl rfl (s201 xs (by omega)) (fun r m' h' => ?_)
  obtain ⟨rfl, rfl⟩ := h'
  conv => whnf
  repeat' ((conv => whnf); first | refine Rng.g ?_ | fail)
  refine LoopVC.mk (fun n st => ∃ (i : Nat) (ys : List Int), i ≤ l.length ∧ n = l.length - i ∧ ChN true (atC true l) xs i ys ∧ st = ⟨0, envA 59 [(0, .x (lC l)), (1, .x (.one (.own 0))), (2, .x (.one .tt)), (27, .int .i64 (l.length : Int)), (28, .int .i64 (i : Int))], [some (rowL ys)]⟩) _ _ ⟨0, xs, Nat.zero_le _, rfl, rfl, rfl⟩ ?_ ?_
  ·refine ⟨[some 0], rfl, rfl, ?_, ?_⟩ <;> repeat' (first | exact trivial | exact rfl | apply And.intro)
   exact congrArg Int.ofNat ll
  rintro n _ ⟨i, ys, hi, hn, hc, rfl⟩
  have hys := hc.len
  have hsg := hc.sig (xs := xs) hX.each
  by_cases hi' : i < l.length
  ·repeat' ((conv => whnf); first | refine Rng.g ?_ | refine Ob.g ?_ | refine JoinVC.on ?_ | refine Br.t (fun h => ?_))
   conv => whnf
   refine CallVC.mk [] _ _ _ rfl rfl rfl (s203r l true i hi') (fun r m' h' => ?_)
   obtain ⟨rfl, rfl⟩ := h'
   conv => whnf
   repeat' ((conv => whnf); first | refine Rng.g ?_ | fail)
   conv => whnf
   refine CallVC.mk [] _ _ _ rfl rfl rfl (s204 32767) (fun r m' h' => ?_)
   obtain ⟨rfl, rfl⟩ := h'
   conv => whnf
   repeat' ((conv => whnf); first | refine Rng.g ?_ | fail)
   conv => whnf
   refine CallVC.mk [2, 3, 4, 5] _ _ _ rfl rfl rfl (s202 true (l.getD (l.length - 1 - i) c0) 32767 ys (hC.each _ (by omega)) (by decide) (sig1 hsg) (by omega)) (fun r m' h' => ?_)
   rcases h' with ⟨zs, hF, hzl, rfl, rfl⟩ | ⟨zs, hF, hzl, hzb, rfl, rfl⟩
   ·repeat' ((conv => whnf); first | refine Rng.g ?_ | refine Br.f (fun h => ?_))
    refine Back.mk (l.length - (i + 1)) _ (by omega) ⟨i + 1, zs, by omega, rfl, ⟨ys, hc, hF, hzl⟩, rfl⟩ ?_
    refine ⟨[some 6], rfl, rfl, ?_, ?_⟩ <;> repeat' (first | exact trivial | exact rfl | apply And.intro)
   ·repeat' ((conv => whnf); refine Br.t (fun h => ?_))
    conv => whnf
    refine EndVC.mk _ rfl _ _ (.far hC hX ⟨i, ys, zs, hi', hc, hF, hzl, hzb⟩ rfl rfl) ?_
    refine ⟨[], rfl, rfl, ?_, ?_⟩ <;> repeat' (first | exact trivial | exact rfl | apply And.intro)
  ·repeat' ((conv => whnf); refine Br.f (fun h => ?_))
   conv => whnf
   refine EndVC.mk _ rfl _ _ (.ok hC hX ys (by rw [← (show i = l.length by omega)]; exact hc) rfl rfl) ?_
   refine ⟨[some 0], rfl, rfl, ?_, ?_⟩ <;> repeat' (first | exact trivial | exact rfl | apply And.intro)
end Go.Sx

namespace Go.Sx
open Go Go.Proofs
set_option maxRecDepth 10000
set_option maxHeartbeats 4000000
inductive ApRs (u : Bool) (c : Crv) (xs : List Int) (r : AV) (m' : List (Option Blk)) : Prop
 | bad (e : Int) (h : ¬ (CrvOK c ∧ SigOK xs)) (he : e ≠ 0) (hr : r = .tup [.one .nils, I e]) (hm : m' = [])
 | far (hl : CrvOK c) (hx : SigOK xs) (ys : List Int) (h : Filt u c 32767 xs ys) (hs : ys.length < xs.length) (hb : bey (nextY u c xs ys ys.length) 32767) (hr : r = .tup [.one .nils, I 4]) (hm : m' = [])
 | ok (hl : CrvOK c) (hx : SigOK xs) (ys : List Int) (h : Filt u c 32767 xs ys) (hs : ys.length = xs.length) (hr : r = .tup [.one (.own 0), I 0]) (hm : m' = [some (rowL ys)])
theorem chOK1 (c : Crv) : ChOK [c] ↔ CrvOK c := ⟨fun h => h.each 0 (by simp), fun h => ⟨by simp, fun j hj => (by rw [show j = 0 by simp at hj; omega]; exact h)⟩⟩
theorem ChRs'.one {u : Bool} {c : Crv} {xs : List Int} {r : AV} {m' : List (Option Blk)} (h : ChRs' u [c] xs r m') : ApRs u c xs r m' := by
 have ha : atC u [c] 0 = c := by cases u <;> rfl
 cases h with
 | bad e h he hr hm => exact .bad e (fun hh => h ⟨(chOK1 c).2 hh.1, hh.2⟩) he hr hm
 | far hl hx h hr hm =>
  obtain ⟨i, zs, ys, hi, hc, hf, hs, hb⟩ := h
  have hi0 : i = 0 := by simp at hi; omega
  subst hi0
  cases hc
  rw [ha] at hf hb
  exact .far ((chOK1 c).1 hl) hx ys hf hs hb hr hm
 | ok hl hx ys h hr hm =>
  obtain ⟨zs, hc, hf, hs⟩ := h
  cases hc
  rw [ha] at hf
  exact .ok ((chOK1 c).1 hl) hx ys hf hs hr hm
theorem s49 (c : Crv) (xs : List Int) : HSpec Tryz.prog 89 [c.x, lL xs] [] (ApRs false c xs) := by
 refine spec_g (bodyOf Tryz.f89) [] pMix Tryz.func89 Tryz.ntmps89 [.tmp 4, .tmp 5] ?_
 repeat' ((conv => whnf); first | refine Rng.g ?_ | fail)
 conv => whnf
 refine CallVC.mk [] _ _ _ rfl rfl rfl (s104 false [c] xs) (fun r m' h' => ?_)
 have h' := h'.one
 cases h' with
 | bad e h he hr hm =>
  subst hr hm
  repeat' ((conv => whnf); first | refine Rng.g ?_ | fail)
  conv => whnf
  refine EndVC.mk _ rfl _ _ (.bad e h he rfl rfl) ?_
  exact Le.g []
 | far hl hx ys h hs hb hr hm =>
  subst hr hm
  repeat' ((conv => whnf); first | refine Rng.g ?_ | fail)
  conv => whnf
  refine EndVC.mk _ rfl _ _ (.far hl hx ys h hs hb rfl rfl) ?_
  exact Le.g []
 | ok hl hx ys h hs hr hm =>
  subst hr hm
  repeat' ((conv => whnf); first | refine Rng.g ?_ | fail)
  conv => whnf
  refine EndVC.mk _ rfl _ _ (.ok hl hx ys h hs rfl rfl) ?_
  exact Le.g [some 2]
end Go.Sx

namespace Go.Sx
open Go Go.Proofs
set_option maxRecDepth 10000
set_option maxHeartbeats 2000000
structure Cut where
 half : Int
 gain : Int
 thin : Int
 wide : Int
 slope : Int
 jerk : Int
 sty : Int
@[reducible] def Cut.x (c : Cut) : XV := .agg [.int .i64 c.half, .int .i64 c.gain, .int .i64 c.thin, .int .i64 c.wide, .int .i64 c.slope, .int .i64 c.jerk, .int .i64 c.sty]
structure CutOK (c : Cut) : Prop where
 half : 1 ≤ c.half ∧ c.half ≤ 4096
 gain : 0 ≤ c.gain ∧ c.gain ≤ 100000
 thin : 0 ≤ c.thin ∧ c.thin ≤ c.wide
 wide : 0 ≤ c.wide ∧ c.wide ≤ 1048576
 slope : 0 ≤ c.slope ∧ c.slope ≤ 10000
 jerk : 0 ≤ c.jerk ∧ c.jerk ≤ 1048576
 sty : 0 ≤ c.sty ∧ c.sty ≤ 1024
theorem s205 (x a b : Int) : PSpec Tryz.prog 117 [I x, I a, I b] (xP (x ≥ a ∧ x ≤ b)) := by
 refine spec_g (bodyOf Tryz.f117) [] pMix Tryz.func117 Tryz.ntmps117 [.tmp 6] ?_
 repeat' ((conv => whnf); first | (refine Br.mk (fun h => ?_) (fun h => ?_) <;> first | (exfalso; omega; done) | (exfalso; simp at h; done) | skip))
 ·refine EndVC.mk _ rfl _ _ ⟨rfl, rfl⟩ ?_
  refine ⟨[], rfl, rfl, ?_, ?_⟩ <;> repeat' (first | exact trivial | apply And.intro)
  exact ⟨fun h2 => ⟨h, h2⟩, fun h2 => h2.2⟩
 ·refine EndVC.mk _ rfl _ _ ⟨rfl, rfl⟩ ?_
  refine ⟨[], rfl, rfl, ?_, ?_⟩ <;> repeat' (first | exact trivial | apply And.intro)
  exact fun h2 => h h2.1
@[reducible] def CkRs (c : Cut) (r : AV) (m' : List (Option Blk)) : Prop := ∃ e, r = .x (I e) ∧ m' = [] ∧ (e = 0 ↔ CutOK c)
def cdC (c : Cut) : Nat → Prop
 | 0 => 1 ≤ c.half ∧ c.half ≤ 4096
 | 1 => 0 ≤ c.gain ∧ c.gain ≤ 100000
 | 2 => 0 ≤ c.thin ∧ c.thin ≤ c.wide
 | 3 => 0 ≤ c.wide ∧ c.wide ≤ 1048576
 | 4 => 0 ≤ c.slope ∧ c.slope ≤ 10000
 | 5 => 0 ≤ c.jerk ∧ c.jerk ≤ 1048576
 | _ => 0 ≤ c.sty ∧ c.sty ≤ 1024
theorem CutOK.cd {c : Cut} (h : CutOK c) (j : Nat) : cdC c j := by
 obtain ⟨h1, h2, h3, h4, h5, h6, h7⟩ := h
 match j with
 | 0 => exact h1
 | 1 => exact h2
 | 2 => exact h3
 | 3 => exact h4
 | 4 => exact h5
 | 5 => exact h6
 | _ + 6 => exact h7
theorem s105 (c : Cut) : HSpec Tryz.prog 105 [c.x] [] (CkRs c) := by
 have k0 := s205 c.half 1 4096
 have k1 := s205 c.gain 0 100000
 have k2 := s205 c.thin 0 c.wide
 have k3 := s205 c.wide 0 1048576
 have k4 := s205 c.slope 0 10000
 have k5 := s205 c.jerk 0 1048576
 have k6 := s205 c.sty 0 1024
 refine spec_g (bodyOf Tryz.f105) [] pMix Tryz.func105 Tryz.ntmps105 [.tmp 2] ?_
 conv => whnf
 refine LoopVC.mk (fun n st => ∃ (i : Nat), i ≤ 7 ∧ n = 7 - i ∧ (∀ j, j < i → cdC c j) ∧ st = ⟨0, envA 41 [(28, .x (.agg [.int .i64 c.half, .int .i64 1, .int .i64 4096, .int .i64 c.gain, .int .i64 0, .int .i64 100000, .int .i64 c.thin, .int .i64 0, .int .i64 c.wide, .int .i64 c.wide, .int .i64 0, .int .i64 1048576, .int .i64 c.slope, .int .i64 0, .int .i64 10000, .int .i64 c.jerk, .int .i64 0, .int .i64 1048576, .int .i64 c.sty, .int .i64 0, .int .i64 1024])), (29, .int .i64 (i : Int))], []⟩) _ _ ⟨0, by decide, rfl, fun j hj => absurd hj (Nat.not_lt_zero j), rfl⟩ ?_ ?_
 ·exact Le.g []
 rintro n _ ⟨i, hi, hn, hj, rfl⟩
 have hcs : i = 0 ∨ i = 1 ∨ i = 2 ∨ i = 3 ∨ i = 4 ∨ i = 5 ∨ i = 6 ∨ i = 7 := by omega
 rcases hcs with rfl | rfl | rfl | rfl | rfl | rfl | rfl | rfl
 ·repeat' ((conv => whnf); first | refine Rng.g ?_ | refine Ob.g ?_ | refine Ob.mk (Nat.le_of_ble_eq_true rfl) ?_ | refine CallVC.pure rfl (k0) ?_ | refine Br.t (fun h => ?_) | refine Br.mk (fun h => ?_) fun h => ?_)
  ·conv => whnf
   refine EndVC.mk _ rfl _ _ (⟨2, rfl, rfl, ⟨fun h => (by cases h), fun hC => absurd (hC.cd 0) h⟩⟩) ?_
   exact Le.g []
  ·refine Back.mk (7 - (0 + 1)) _ (by omega) ⟨0 + 1, by omega, rfl, fun j hj' => ?_, rfl⟩ ?_
   ·rcases Nat.lt_succ_iff_lt_or_eq.1 hj' with h' | rfl
    ·exact hj j h'
    ·exact Classical.not_not.1 h
   ·exact Le.g []
 ·repeat' ((conv => whnf); first | refine Rng.g ?_ | refine Ob.g ?_ | refine Ob.mk (Nat.le_of_ble_eq_true rfl) ?_ | refine CallVC.pure rfl (k1) ?_ | refine Br.t (fun h => ?_) | refine Br.mk (fun h => ?_) fun h => ?_)
  ·conv => whnf
   refine EndVC.mk _ rfl _ _ (⟨2, rfl, rfl, ⟨fun h => (by cases h), fun hC => absurd (hC.cd 1) h⟩⟩) ?_
   exact Le.g []
  ·refine Back.mk (7 - (1 + 1)) _ (by omega) ⟨1 + 1, by omega, rfl, fun j hj' => ?_, rfl⟩ ?_
   ·rcases Nat.lt_succ_iff_lt_or_eq.1 hj' with h' | rfl
    ·exact hj j h'
    ·exact Classical.not_not.1 h
   ·exact Le.g []
 ·repeat' ((conv => whnf); first | refine Rng.g ?_ | refine Ob.g ?_ | refine Ob.mk (Nat.le_of_ble_eq_true rfl) ?_ | refine CallVC.pure rfl (k2) ?_ | refine Br.t (fun h => ?_) | refine Br.mk (fun h => ?_) fun h => ?_)
  ·conv => whnf
   refine EndVC.mk _ rfl _ _ (⟨2, rfl, rfl, ⟨fun h => (by cases h), fun hC => absurd (hC.cd 2) h⟩⟩) ?_
   exact Le.g []
  ·refine Back.mk (7 - (2 + 1)) _ (by omega) ⟨2 + 1, by omega, rfl, fun j hj' => ?_, rfl⟩ ?_
   ·rcases Nat.lt_succ_iff_lt_or_eq.1 hj' with h' | rfl
    ·exact hj j h'
    ·exact Classical.not_not.1 h
   ·exact Le.g []
 ·repeat' ((conv => whnf); first | refine Rng.g ?_ | refine Ob.g ?_ | refine Ob.mk (Nat.le_of_ble_eq_true rfl) ?_ | refine CallVC.pure rfl (k3) ?_ | refine Br.t (fun h => ?_) | refine Br.mk (fun h => ?_) fun h => ?_)
  ·conv => whnf
   refine EndVC.mk _ rfl _ _ (⟨2, rfl, rfl, ⟨fun h => (by cases h), fun hC => absurd (hC.cd 3) h⟩⟩) ?_
   exact Le.g []
  ·refine Back.mk (7 - (3 + 1)) _ (by omega) ⟨3 + 1, by omega, rfl, fun j hj' => ?_, rfl⟩ ?_
   ·rcases Nat.lt_succ_iff_lt_or_eq.1 hj' with h' | rfl
    ·exact hj j h'
    ·exact Classical.not_not.1 h
   ·exact Le.g []
 ·repeat' ((conv => whnf); first | refine Rng.g ?_ | refine Ob.g ?_ | refine Ob.mk (Nat.le_of_ble_eq_true rfl) ?_ | refine CallVC.pure rfl (k4) ?_ | refine Br.t (fun h => ?_) | refine Br.mk (fun h => ?_) fun h => ?_)
  ·conv => whnf
   refine EndVC.mk _ rfl _ _ (⟨2, rfl, rfl, ⟨fun h => (by cases h), fun hC => absurd (hC.cd 4) h⟩⟩) ?_
   exact Le.g []
  ·refine Back.mk (7 - (4 + 1)) _ (by omega) ⟨4 + 1, by omega, rfl, fun j hj' => ?_, rfl⟩ ?_
   ·rcases Nat.lt_succ_iff_lt_or_eq.1 hj' with h' | rfl
    ·exact hj j h'
    ·exact Classical.not_not.1 h
   ·exact Le.g []
 ·repeat' ((conv => whnf); first | refine Rng.g ?_ | refine Ob.g ?_ | refine Ob.mk (Nat.le_of_ble_eq_true rfl) ?_ | refine CallVC.pure rfl (k5) ?_ | refine Br.t (fun h => ?_) | refine Br.mk (fun h => ?_) fun h => ?_)
  ·conv => whnf
   refine EndVC.mk _ rfl _ _ (⟨2, rfl, rfl, ⟨fun h => (by cases h), fun hC => absurd (hC.cd 5) h⟩⟩) ?_
   exact Le.g []
  ·refine Back.mk (7 - (5 + 1)) _ (by omega) ⟨5 + 1, by omega, rfl, fun j hj' => ?_, rfl⟩ ?_
   ·rcases Nat.lt_succ_iff_lt_or_eq.1 hj' with h' | rfl
    ·exact hj j h'
    ·exact Classical.not_not.1 h
   ·exact Le.g []
 ·repeat' ((conv => whnf); first | refine Rng.g ?_ | refine Ob.g ?_ | refine Ob.mk (Nat.le_of_ble_eq_true rfl) ?_ | refine CallVC.pure rfl (k6) ?_ | refine Br.t (fun h => ?_) | refine Br.mk (fun h => ?_) fun h => ?_)
  ·conv => whnf
   refine EndVC.mk _ rfl _ _ (⟨2, rfl, rfl, ⟨fun h => (by cases h), fun hC => absurd (hC.cd 6) h⟩⟩) ?_
   exact Le.g []
  ·refine Back.mk (7 - (6 + 1)) _ (by omega) ⟨6 + 1, by omega, rfl, fun j hj' => ?_, rfl⟩ ?_
   ·rcases Nat.lt_succ_iff_lt_or_eq.1 hj' with h' | rfl
    ·exact hj j h'
    ·exact Classical.not_not.1 h
   ·exact Le.g []
 ·repeat' ((conv => whnf); refine Br.f (fun h => ?_))
  conv => whnf
  refine EndVC.mk _ rfl _ _ (⟨0, rfl, rfl, ⟨fun _ => ⟨hj 0 (by decide), hj 1 (by decide), hj 2 (by decide), hj 3 (by decide), hj 4 (by decide), hj 5 (by decide), hj 6 (by decide)⟩, fun _ => rfl⟩⟩) ?_
  exact Le.g []
end Go.Sx

namespace Go.Sx
open Go Go.Proofs
set_option maxRecDepth 10000
set_option maxHeartbeats 1000000
def okC (c : Int) : Prop := (97 ≤ c ∧ c ≤ 122) ∨ (48 ≤ c ∧ c ≤ 57)
def chr (s : ByteArray) (j : Nat) : Int := ((s.data.toList.getD j 0).toNat : Int)
def nameOK (s : ByteArray) : Prop := 1 ≤ s.size ∧ s.size ≤ 20 ∧ ∀ j, j < s.size → okC (chr s j)
structure Tak where
 nm : ByteArray
 d : List Smp
def takA (l : List Tak) : Arr := l.map fun t => [.str t.nm, .sl (smpA t.d)]
theorem takA_len (l : List Tak) : (takA l).length = l.length := by simp [takA]
abbrev t0 : Tak := ⟨ByteArray.empty, []⟩
theorem takA_n (l : List Tak) (i : Nat) : rS (takA l) i 0 = (l.getD i t0).nm := map_rS _ t0 l i 0 rfl
theorem takA_d (l : List Tak) (i : Nat) : rA (takA l) i 1 = smpA (l.getD i t0).d := map_rA _ t0 l i 1 rfl
@[reducible] def KT : List CK := [.str, .sl KS]
@[reducible] def lT (l : List Tak) : XV := .one (.lst true KT (takA l))
@[reducible] def Tak.x (t : Tak) : XV := .agg [.str t.nm, .lst true KS (smpA t.d)]
def Tak.ok (t : Tak) : Prop := nameOK t.nm ∧ 1 ≤ t.d.length ∧ t.d.length ≤ 4096 ∧ ∀ s ∈ t.d, s.ok
structure TaksOK (l : List Tak) : Prop where
 len : 1 ≤ l.length ∧ l.length ≤ 16
 each : ∀ j, j < l.length → (l.getD j t0).ok
 names : ∀ i j, i < l.length → j < i → (l.getD i t0).nm ≠ (l.getD j t0).nm
end Go.Sx

namespace Go.Sx
open Go Go.Proofs Go.Shelf Go.RowKit
set_option maxRecDepth 10000
set_option maxHeartbeats 1000000
def trimRen : Ren := ⟨fun | 160 => 169 | 232 => 171 | 231 => 170 | 227 => 172 | 234 => 174 | 233 => 173 | 236 => 176 | 235 => 175 | 228 => 177 | 271 => 180 | 151 => 179 | 197 => 178 | 120 => 183 | 152 => 182 | 260 => 181 | 137 => 184 | 119 => 185 | 224 => 186 | 225 => 187 | 217 => 188 | 266 => 189 | n => n, fun | 9 => 9 | 4 => 4 | 3 => 3 | 5 => 5 | 117 => 319 | 116 => 318 | 0 => 0 | 124 => 322 | 21 => 21 | 105 => 324 | 46 => 308 | 119 => 328 | 139 => 331 | 138 => 330 | n => n, fun | 3 => 0 | 4 => 1 | n => n⟩
theorem trimLays : Lays.n160 Tryz.prog trimRen where
 mixed := by kernel_rfl
 f119 := Tryz.func185.trans (congrArg some (by kernel_rfl))
 f120 := Tryz.func183.trans (congrArg some (by kernel_rfl))
 f137 := Tryz.func184.trans (congrArg some (by kernel_rfl))
 f151 := Tryz.func179.trans (congrArg some (by kernel_rfl))
 f152 := Tryz.func182.trans (congrArg some (by kernel_rfl))
 f160 := Tryz.func169.trans (congrArg some (by kernel_rfl))
 f197 := Tryz.func178.trans (congrArg some (by kernel_rfl))
 f217 := Tryz.func188.trans (congrArg some (by kernel_rfl))
 f224 := Tryz.func186.trans (congrArg some (by kernel_rfl))
 f225 := Tryz.func187.trans (congrArg some (by kernel_rfl))
 f227 := Tryz.func172.trans (congrArg some (by kernel_rfl))
 f228 := Tryz.func177.trans (congrArg some (by kernel_rfl))
 f231 := Tryz.func170.trans (congrArg some (by kernel_rfl))
 f232 := Tryz.func171.trans (congrArg some (by kernel_rfl))
 f233 := Tryz.func173.trans (congrArg some (by kernel_rfl))
 f234 := Tryz.func174.trans (congrArg some (by kernel_rfl))
 f235 := Tryz.func175.trans (congrArg some (by kernel_rfl))
 f236 := Tryz.func176.trans (congrArg some (by kernel_rfl))
 f260 := Tryz.func181.trans (congrArg some (by kernel_rfl))
 f266 := Tryz.func189.trans (congrArg some (by kernel_rfl))
 f271 := Tryz.func180.trans (congrArg some (by kernel_rfl))
 t0 := Tryz.underlying0
 a0 := Tryz.isAgg0
 z0 := Tryz.sizeOf0
 v0 := Tryz.zeroValue0
 t3 := Tryz.underlying3
 a3 := Tryz.isAgg3
 z3 := Tryz.sizeOf3
 v3 := Tryz.zeroValue3
 t4 := Tryz.underlying4
 a4 := Tryz.isAgg4
 z4 := Tryz.sizeOf4
 v4 := Tryz.zeroValue4
 t5 := Tryz.underlying5
 a5 := Tryz.isAgg5
 z5 := Tryz.sizeOf5
 v5 := Tryz.zeroValue5
 t9 := Tryz.underlying9
 a9 := Tryz.isAgg9
 z9 := Tryz.sizeOf9
 v9 := Tryz.zeroValue9
 t21 := Tryz.underlying21
 a21 := Tryz.isAgg21
 z21 := Tryz.sizeOf21
 v21 := Tryz.zeroValue21
 t46 := Tryz.underlying308
 a46 := Tryz.isAgg308
 z46 := Tryz.sizeOf308
 v46 := Tryz.zeroValue308
 t105 := Tryz.underlying324
 a105 := Tryz.isAgg324
 z105 := Tryz.sizeOf324
 v105 := Tryz.zeroValue324
 t116 := Tryz.underlying318
 a116 := Tryz.isAgg318
 z116 := Tryz.sizeOf318
 t117 := Tryz.underlying319
 a117 := Tryz.isAgg319
 z117 := Tryz.sizeOf319
 v117 := Tryz.zeroValue319
 t119 := Tryz.underlying328
 a119 := Tryz.isAgg328
 z119 := Tryz.sizeOf328
 t124 := Tryz.underlying322
 a124 := Tryz.isAgg322
 z124 := Tryz.sizeOf322
 v124 := Tryz.zeroValue322
 t138 := Tryz.underlying330
 a138 := Tryz.isAgg330
 z138 := Tryz.sizeOf330
 v138 := Tryz.zeroValue330
 t139 := Tryz.underlying331
 a139 := Tryz.isAgg331
 z139 := Tryz.sizeOf331
 v139 := Tryz.zeroValue331
 g3 := by kernel_rfl
 g4 := by kernel_rfl
theorem e169 : EntersF Tryz.prog 169 := enters_of Tryz.func169 (c := bodyOf Tryz.f169) (by kernel_rfl) rfl
theorem fr_below {w w' : World} {R : Rp} (h : MemOK w R []) (hb : Below w.heap.size w w') : Fr w R [] w' R [] :=
 ⟨hb.os, hb.tape, hb.output, hb.size, fun b hlt _ => hb.block b hlt, ⟨h.n, fun id b h => by simp at h, fun i j g h => by obtain ⟨b, h⟩ := h; simp at h, fun i g h => by obtain ⟨b, h⟩ := h; simp at h, fun b hI => Nat.lt_of_lt_of_le (h.lt b hI) hb.size, h.cell⟩, Nat.zero_le _, fun id h => absurd h (Nat.not_lt_zero id), fun b => Iff.rfl, fun b h => .inl h, fun i g h => (by obtain ⟨b, h⟩ := h; simp at h), fun id h => absurd h (Nat.not_lt_zero id)⟩
theorem rep2 {w : World} {R : Rp} {a b : XV} {vs : Array Value} (h : RepXs w R [a, b] vs) : ∃ v u, vs = #[v, u] ∧ RepX w R a v ∧ RepX w R b u := by
 have h1 : vs.size = 2 := h.1
 have h2 := h.2 0 a rfl
 have h3 := h.2 1 b rfl
 obtain ⟨l⟩ := vs
 match l, h1 with
 | [v, u], _ => exact ⟨v, u, rfl, h2, h3⟩
theorem trimR_all (cs : List UInt8) (l : List UInt8) (h : ∀ b ∈ l, cs.contains b = true) : Lib.trimS l cs = [] := by
 have e : Lib.trimRightS l cs = [] := by
  unfold Lib.trimRightS
  have : ∀ m : List UInt8, (∀ b ∈ m, cs.contains b = true) → m.dropWhile (cs.contains ·) = [] := by
   intro m
   induction m with
   | nil => intro _; rfl
   | cons b m ih =>
    intro hm
    rw [List.dropWhile_cons, if_pos (hm b (by simp))]
    exact ih fun c hc => hm c (List.mem_cons_of_mem _ hc)
  first
   | (rw [this _ (fun b hb => h b (by simpa using hb))]; rfl)
   | (simp [this _ (fun b hb => h b (by simpa using hb))])
 unfold Lib.trimS
 rw [e]
 rfl
@[reducible] def cutS : ByteArray := ⟨#[97, 98, 99, 100, 101, 102, 103, 104, 105, 106, 107, 108, 109, 110, 111, 112, 113, 114, 115, 116, 117, 118, 119, 120, 121, 122, 48, 49, 50, 51, 52, 53, 54, 55, 56, 57]⟩
theorem cut_has (b : UInt8) (h : okC (b.toNat : Int)) : cutS.data.toList.contains b = true := by
 have key : ∀ n : Fin 256, (97 ≤ n.val ∧ n.val ≤ 122) ∨ (48 ≤ n.val ∧ n.val ≤ 57) → cutS.data.toList.contains (UInt8.ofNat n.val) = true := by decide +kernel
 have hb : b.toNat < 256 := b.toNat_lt
 have := key ⟨b.toNat, hb⟩ (by unfold okC at h; simp only; omega)
 simpa using this
theorem s341 (s : ByteArray) (h : nameOK s) : PSpec Tryz.prog 169 [.one (.str s), .one (.str cutS)] (.x (.one (.str ⟨#[]⟩))) := by
 intro w R vs hargs hmem
 obtain ⟨v, u, rfl, hv, hu⟩ := rep2 hargs
 have hv' : v = .string s := hv
 have hu' : u = .string cutS := hu
 subst hv' hu'
 have hc := Any.strings_Trim_laid trimLays (by kernel_rfl) s cutS w (by have := h.2.1; omega) (by decide) (ascii_of_all (by decide))
 have e : Lib.trimS s.data.toList cutS.data.toList = [] := by
  refine trimR_all _ _ fun b hb => cut_has b ?_
  obtain ⟨j, hj, rfl⟩ := List.getElem_of_mem hb
  have hj' : j < s.size := by simpa using hj
  have := h.2.2 j hj'
  unfold chr at this
  rwa [List.getD_eq_getElem?_getD, List.getElem?_eq_getElem hj] at this
 rw [e] at hc
 refine .inl ⟨e169 _ _, hc.mono fun e w' h => ?_⟩
 obtain ⟨rfl, hb⟩ := h
 exact ⟨_, _, _, R, rfl, ⟨rfl, rfl⟩, fr_below hmem hb, rfl⟩
theorem s325 (s : ByteArray) (hN : nameOK s) : PSpec Tryz.prog 165 [.one (.str s)] (xP True) := by
 have h1 := hN.1
 have h2 := hN.2.1
 have h0 : s ≠ ⟨#[]⟩ := fun e => by rw [e] at h1; exact absurd h1 (by decide)
 refine spec_g (bodyOf Tryz.f165) [] pMix Tryz.func165 Tryz.ntmps165 [.tmp 2] ?_
 repeat' ((conv => whnf); first | refine CallVC.pure rfl (s341 s hN) ?_ | refine Br.t (fun h => ?_))
 refine EndVC.mk _ rfl _ _ ⟨rfl, rfl⟩ ?_
 refine ⟨[], rfl, rfl, ?_, ?_⟩ <;> repeat' (first | exact trivial | apply And.intro)
 show _ ↔ _
 simp
theorem s275 (t : Tak) (hN : t.ok) : PSpec Tryz.prog 156 [t.x] (.x (I 0)) := by
 have ll := smpA_len t.d
 have he : smpE t.d = 0 := smpE_0.2 ⟨hN.2.2.1, hN.2.2.2⟩
 have h1 := hN.2.1
 have c1 := s103 t.d
 rw [he] at c1
 refine spec_g (bodyOf Tryz.f156) [] pMix Tryz.func156 Tryz.ntmps156 [.tmp 2] ?_
 repeat' ((conv => whnf); first | refine JoinVC.on ?_ | refine CallVC.pure rfl (c1) ?_ | refine CallVC.pure rfl (s325 t.nm hN.1) ?_ | refine Br.t (fun h => ?_) | refine Br.f (fun h => ?_) | (refine Br.mk (fun h => ?_) (fun h => ?_) <;> first | (exfalso; omega; done) | (exfalso; simp at h; done) | skip))
 all_goals
  refine EndVC.mk _ rfl _ _ ⟨rfl, rfl⟩ ?_
  refine ⟨[], rfl, rfl, ?_, ?_⟩ <;> repeat' (first | exact trivial | exact rfl | apply And.intro)
end Go.Sx

namespace Go.Sx
open Go Go.Proofs
set_option maxRecDepth 10000
set_option maxHeartbeats 2000000
structure Prt where
 tk : Int
 fr : Int
 to : Int
 gap : Int
 inn : Int
 out : Int
 lev : Int
abbrev p0 : Prt := ⟨0, 0, 0, 0, 0, 0, 0⟩
def Prt.row (p : Prt) : List Cell := [.int p.tk, .int p.fr, .int p.to, .int p.gap, .int p.inn, .int p.out, .int p.lev]
def prtA (l : List Prt) : Arr := l.map Prt.row
theorem prtA_len (l : List Prt) : (prtA l).length = l.length := by simp [prtA]
theorem prtA_0 (l : List Prt) (i : Nat) : rI (prtA l) i 0 = (l.getD i p0).tk := map_rI _ p0 l i 0 rfl
theorem prtA_1 (l : List Prt) (i : Nat) : rI (prtA l) i (0 + 1) = (l.getD i p0).fr := map_rI _ p0 l i 1 rfl
theorem prtA_2 (l : List Prt) (i : Nat) : rI (prtA l) i (0 + 1 + 1) = (l.getD i p0).to := map_rI _ p0 l i 2 rfl
theorem prtA_3 (l : List Prt) (i : Nat) : rI (prtA l) i (0 + 1 + 1 + 1) = (l.getD i p0).gap := map_rI _ p0 l i 3 rfl
theorem prtA_4 (l : List Prt) (i : Nat) : rI (prtA l) i (0 + 1 + 1 + 1 + 1) = (l.getD i p0).inn := map_rI _ p0 l i 4 rfl
theorem prtA_5 (l : List Prt) (i : Nat) : rI (prtA l) i (0 + 1 + 1 + 1 + 1 + 1) = (l.getD i p0).out := map_rI _ p0 l i 5 rfl
theorem prtA_6 (l : List Prt) (i : Nat) : rI (prtA l) i (0 + 1 + 1 + 1 + 1 + 1 + 1) = (l.getD i p0).lev := map_rI _ p0 l i 6 rfl
@[reducible] def K7i : List CK := [.int .i64, .int .i64, .int .i64, .int .i64, .int .i64, .int .i64, .int .i64]
@[reducible] def lP (l : List Prt) : XV := .one (.lst true K7i (prtA l))
@[reducible] def Prt.x (p : Prt) : XV := .agg [.int .i64 p.tk, .int .i64 p.fr, .int .i64 p.to, .int .i64 p.gap, .int .i64 p.inn, .int .i64 p.out, .int .i64 p.lev]
@[reducible] def prtX (l : List Prt) (i : Nat) : XV := .agg [.int .i64 (rI (prtA l) i 0), .int .i64 (rI (prtA l) i (0 + 1)), .int .i64 (rI (prtA l) i (0 + 1 + 1)), .int .i64 (rI (prtA l) i (0 + 1 + 1 + 1)), .int .i64 (rI (prtA l) i (0 + 1 + 1 + 1 + 1)), .int .i64 (rI (prtA l) i (0 + 1 + 1 + 1 + 1 + 1)), .int .i64 (rI (prtA l) i (0 + 1 + 1 + 1 + 1 + 1 + 1))]
theorem prtX_eq (l : List Prt) (i : Nat) : prtX l i = (l.getD i p0).x := by
 unfold prtX Prt.x
 rw [prtA_0, prtA_1, prtA_2, prtA_3, prtA_4, prtA_5, prtA_6]
def Prt.long (p : Prt) : Int := p.to - p.fr
def partOK (T : List Tak) (p : Prt) : Prop := 0 ≤ p.tk ∧ p.tk < T.length ∧ 0 ≤ p.fr ∧ p.fr < p.to ∧ p.to ≤ (T.getD p.tk.toNat t0).d.length ∧ -4096 ≤ p.gap ∧ p.gap ≤ 4096 ∧ 0 ≤ p.inn ∧ p.inn ≤ 1000 ∧ 0 ≤ p.out ∧ p.out ≤ 1000 ∧ 0 ≤ p.lev ∧ p.lev ≤ 4000
instance (T : List Tak) (p : Prt) : Decidable (partOK T p) := by unfold partOK; exact inferInstance
structure PB (p : Prt) : Prop where
 fr : 0 ≤ p.fr ∧ p.fr < p.to
 to : p.to ≤ 4096
 gap : -4096 ≤ p.gap ∧ p.gap ≤ 4096
def endP : List Prt → Int := fun l => l.foldl (fun e p => e + p.gap + p.long) 0
theorem endP_snoc (l : List Prt) (p : Prt) : endP (l ++ [p]) = endP l + p.gap + p.long := by unfold endP; rw [List.foldl_append]; rfl
def begP (l : List Prt) (i : Nat) : Int := endP (l.take i) + (l.getD i p0).gap
theorem endP_succ (l : List Prt) {i : Nat} (h : i < l.length) : endP (l.take (i + 1)) = begP l i + (l.getD i p0).long := by
 rw [take_snoc l i p0 h, endP_snoc]; rfl
def PBs (l : List Prt) : Prop := l.length ≤ 32 ∧ ∀ j, j < l.length → PB (l.getD j p0)
theorem endP_bd {l : List Prt} (h : PBs l) : ∀ i, i ≤ l.length → -8192 * (i : Int) ≤ endP (l.take i) ∧ endP (l.take i) ≤ 8192 * i
 | 0, _ => by simp [endP]
 | i + 1, hi => by
  have ih := endP_bd h i (by omega)
  have hb := h.2 i (by omega)
  obtain ⟨h1, h2, h3⟩ := hb
  rw [endP_succ l (by omega)]
  unfold begP Prt.long
  omega
structure Poss (l : List Prt) : Prop where
 first : 0 < l.length → 0 ≤ begP l 0
 gap : ∀ i, 0 < i → i < l.length → -(l.getD i p0).long ≤ (l.getD i p0).gap ∧ -(l.getD (i - 1) p0).long ≤ (l.getD i p0).gap
 free : ∀ i, 1 < i → i < l.length → begP l (i - 2) + (l.getD (i - 2) p0).long ≤ begP l i
 stop : endP l ≤ 4096
end Go.Sx

namespace Go.Sx
open Go Go.Proofs
set_option maxRecDepth 10000
set_option maxHeartbeats 2000000
structure ProgOK (T : List Tak) (l : List Prt) : Prop where
 takes : TaksOK T
 len : l.length ≤ 32
 parts : ∀ j, j < l.length → partOK T (l.getD j p0)
 poss : Poss l
theorem partOK.pb {T : List Tak} {p : Prt} (hT : TaksOK T) (h : partOK T p) : PB p := by
 unfold partOK at h
 have := (hT.each p.tk.toNat (by omega)).2.2.1
 exact ⟨by omega, by omega, by omega⟩
theorem ProgOK.pbs {T : List Tak} {l : List Prt} (h : ProgOK T l) : PBs l := ⟨h.len, fun j hj => (h.parts j hj).pb h.takes⟩
def upF (p : Prt) (k : Int) : Int := if p.inn < k then p.inn + 1 else k + 1
def dnF (p : Prt) (k : Int) : Int := if p.out < p.long - k - 1 then p.out + 1 else p.long - k
def denF (p : Prt) : Int := 1000 * (p.inn + 1) * (p.out + 1)
def loudF (s : Int) (p : Prt) (k lev : Int) : Int := (s * lev * upF p k * dnF p k).tdiv (denF p)
structure PF (p : Prt) (k lev : Int) : Prop where
 pb : PB p
 inn : 0 ≤ p.inn ∧ p.inn ≤ 1000
 out : 0 ≤ p.out ∧ p.out ≤ 1000
 k : 0 ≤ k ∧ k < p.long
 lev : 0 ≤ lev ∧ lev ≤ 4000
theorem PF.up {p : Prt} {k lev : Int} (h : PF p k lev) : 1 ≤ upF p k ∧ upF p k ≤ p.inn + 1 := by
 have := h.inn; have := h.k
 unfold upF; split <;> omega
theorem PF.dn {p : Prt} {k lev : Int} (h : PF p k lev) : 1 ≤ dnF p k ∧ dnF p k ≤ p.out + 1 := by
 have := h.out; have := h.k
 unfold dnF; split <;> omega
theorem PF.den {p : Prt} {k lev : Int} (h : PF p k lev) : 1000 ≤ denF p ∧ denF p ≤ 1002001000 := by
 have h1 := h.inn; have h2 := h.out
 unfold denF
 have h3 := mul_rng (a := p.inn + 1) (b := p.out + 1) (A := 1001) (B := 1001) (by omega) (by omega)
 have h4 : 1 * 1 ≤ (p.inn + 1) * (p.out + 1) := Int.mul_le_mul (by omega) (by omega) (by omega) (by omega)
 rw [Int.mul_assoc]
 omega
theorem PF.steps {p : Prt} {s k lev : Int} (h : PF p k lev) (hs : -32767 ≤ s ∧ s ≤ 32767) : (-131068000 ≤ s * lev ∧ s * lev ≤ 131068000) ∧ (-131199068000 ≤ s * lev * upF p k ∧ s * lev * upF p k ≤ 131199068000) ∧ (-131330267068000 ≤ s * lev * upF p k * dnF p k ∧ s * lev * upF p k * dnF p k ≤ 131330267068000) := by
 have h1 := mul_rng (a := s) (b := lev) (A := 32767) (B := 4000) hs h.lev
 have hu := h.up; have hd := h.dn; have hi := h.inn; have ho := h.out
 have h2 := mul_rng (a := s * lev) (b := upF p k) (A := 131068000) (B := 1001) (by omega) (by omega)
 have h3 := mul_rng (a := s * lev * upF p k) (b := dnF p k) (A := 131199068000) (B := 1001) (by omega) (by omega)
 exact ⟨by omega, by omega, by omega⟩
theorem PF.loud {p : Prt} {s k lev : Int} (h : PF p k lev) (hs : -32767 ≤ s ∧ s ≤ 32767) : -131068 ≤ loudF s p k lev ∧ loudF s p k lev ≤ 131068 := by
 have hd := h.den
 have h1 := mul_rng (a := s) (b := lev) (A := 32767) (B := 4000) hs h.lev
 have hu := h.up; have hn := h.dn
 have hi := h.inn; have ho := h.out
 refine tdiv_rng (by omega) ?_
 have h2 := mul_rng (a := s * lev) (b := upF p k) (A := 131068000) (B := p.inn + 1) (by omega) (by omega)
 have h3 := mul_rng (a := s * lev * upF p k) (b := dnF p k) (A := 131068000 * (p.inn + 1)) (B := p.out + 1) h2 (by omega)
 have e : (131068 : Int) * denF p = 131068000 * (p.inn + 1) * (p.out + 1) := by
  unfold denF
  rw [← Int.mul_assoc, ← Int.mul_assoc]; rfl
 rw [e]
 exact h3
structure SF (T : List Tak) (p : Prt) (k lev : Int) : Prop where
 ok : partOK T p
 takes : TaksOK T
 k : 0 ≤ k ∧ k < p.long
 lev : 0 ≤ lev ∧ lev ≤ 4000
theorem SF.pf {T : List Tak} {p : Prt} {k lev : Int} (h : SF T p k lev) : PF p k lev := by
 have ho := h.ok
 have hb := ho.pb h.takes
 unfold partOK at ho
 exact ⟨hb, by omega, by omega, h.k, h.lev⟩
def smpAt (T : List Tak) (p : Prt) (k : Int) : Smp := (T.getD p.tk.toNat t0).d.getD (p.fr + k).toNat s0
def sndF (T : List Tak) (p : Prt) (k lev : Int) : Smp := ⟨loudF (smpAt T p k).l p k lev, loudF (smpAt T p k).r p k lev⟩
theorem SF.smp {T : List Tak} {p : Prt} {k lev : Int} (h : SF T p k lev) : (smpAt T p k).ok := by
 have ho := h.ok
 unfold partOK at ho
 have hk := h.k
 have hL : p.long = p.to - p.fr := rfl
 exact (h.takes.each p.tk.toNat (by omega)).2.2.2 _ (getD_mem' s0 (by omega))
theorem SF.snd {T : List Tak} {p : Prt} {k lev : Int} (h : SF T p k lev) : (-131068 ≤ (sndF T p k lev).l ∧ (sndF T p k lev).l ≤ 131068) ∧ (-131068 ≤ (sndF T p k lev).r ∧ (sndF T p k lev).r ≤ 131068) := by
 have hs := h.smp
 unfold Smp.ok at hs
 exact ⟨h.pf.loud (by omega), h.pf.loud (by omega)⟩
end Go.Sx

namespace Go.Sx
open Go Go.Proofs
set_option maxRecDepth 10000
set_option maxHeartbeats 2000000
def onB (l : List Prt) (t : Int) (i : Nat) : Bool := decide (begP l i ≤ t ∧ t < begP l i + (l.getD i p0).long)
def srcI (l : List Prt) (t : Int) (n : Nat) : List Nat := (List.range n).filter (onB l t)
theorem srcI_succ (l : List Prt) (t : Int) (n : Nat) : srcI l t (n + 1) = srcI l t n ++ (if onB l t n then [n] else []) := by
 unfold srcI
 rw [List.range_succ, List.filter_append]
 congr 1
 by_cases h : onB l t n = true
 ·rw [if_pos h]; simp [h]
 ·rw [if_neg h]; simp [h]
theorem srcI_mem {l : List Prt} {t : Int} {n i : Nat} (h : i ∈ srcI l t n) : i < n ∧ begP l i ≤ t ∧ t < begP l i + (l.getD i p0).long := by
 unfold srcI at h
 rw [List.mem_filter, List.mem_range] at h
 exact ⟨h.1, of_decide_eq_true h.2⟩
theorem srcI_len (l : List Prt) (t : Int) (n : Nat) : (srcI l t n).length ≤ n := by
 unfold srcI
 exact Nat.le_trans (List.length_filter_le _ _) (by simp)
def addS (a b : Smp) : Smp := ⟨a.l + b.l, a.r + b.r⟩
def sndI (T : List Tak) (l : List Prt) (t : Int) (i : Nat) : Smp := sndF T (l.getD i p0) (t - begP l i) (l.getD i p0).lev
def sumI (T : List Tak) (l : List Prt) (t : Int) (L : List Nat) : Smp := L.foldl (fun a i => addS a (sndI T l t i)) s0
theorem sumI_snoc (T : List Tak) (l : List Prt) (t : Int) (L : List Nat) (i : Nat) : sumI T l t (L ++ [i]) = addS (sumI T l t L) (sndI T l t i) := by unfold sumI; rw [List.foldl_append]; rfl
def rendAt (T : List Tak) (l : List Prt) (t : Int) : Smp := sumI T l t (srcI l t l.length)
def rend (T : List Tak) (l : List Prt) : List Smp := (List.range (endP l).toNat).map fun t : Nat => rendAt T l (t : Int)
theorem rend_len (T : List Tak) (l : List Prt) : (rend T l).length = (endP l).toNat := by simp [rend]
theorem rend_get (T : List Tak) (l : List Prt) (t : Nat) (h : t < (endP l).toNat) : (rend T l).getD t s0 = rendAt T l t := by
 simp [rend, List.getD_eq_getElem?_getD, List.getElem?_range h]
theorem begP_nonneg {l : List Prt} (hb : PBs l) (hP : Poss l) : ∀ i, i < l.length → 0 ≤ begP l i
 | 0, h => hP.first h
 | i + 1, h => by
  have ih := begP_nonneg hb hP i (by omega)
  have h1 := (hP.gap (i + 1) (by omega) h).2
  have h2 := endP_succ l (show i < l.length by omega)
  have h3 : i + 1 - 1 = i := by omega
  rw [h3] at h1
  unfold begP at ih ⊢
  unfold begP at h2
  omega
theorem endP_nonneg {l : List Prt} (hb : PBs l) (hP : Poss l) : 0 ≤ endP l := by
 by_cases h : l.length = 0
 ·have : l = [] := List.eq_nil_of_length_eq_zero h
  subst this; exact Int.le_refl _
 ·have h1 := begP_nonneg hb hP (l.length - 1) (by omega)
  have h2 := endP_succ l (show l.length - 1 < l.length by omega)
  have h3 : l.length - 1 + 1 = l.length := by omega
  rw [h3, List.take_length] at h2
  have h4 := (hb.2 (l.length - 1) (by omega)).fr
  unfold Prt.long at h2
  omega
theorem ProgOK.sf {T : List Tak} {l : List Prt} (h : ProgOK T l) {t : Int} {i : Nat} (hi : i ∈ srcI l t l.length) : SF T (l.getD i p0) (t - begP l i) (l.getD i p0).lev := by
 obtain ⟨h1, h2, h3⟩ := srcI_mem hi
 have h4 := h.parts i h1
 have h5 := h4
 unfold partOK at h5
 exact ⟨h4, h.takes, by omega, by omega⟩
theorem sumI_bd {T : List Tak} {l : List Prt} {t : Int} : ∀ {L : List Nat}, (∀ i ∈ L, SF T (l.getD i p0) (t - begP l i) (l.getD i p0).lev) → (-131068 * (L.length : Int) ≤ (sumI T l t L).l ∧ (sumI T l t L).l ≤ 131068 * L.length) ∧ (-131068 * (L.length : Int) ≤ (sumI T l t L).r ∧ (sumI T l t L).r ≤ 131068 * L.length) := by
 intro L
 refine snoc_ind (p := fun L : List Nat => (∀ i ∈ L, SF T (l.getD i p0) (t - begP l i) (l.getD i p0).lev) → (-131068 * (L.length : Int) ≤ (sumI T l t L).l ∧ (sumI T l t L).l ≤ 131068 * L.length) ∧ (-131068 * (L.length : Int) ≤ (sumI T l t L).r ∧ (sumI T l t L).r ≤ 131068 * L.length)) ?_ ?_ L
 ·intro _; simp [sumI]
 ·intro L i ih h
  have h1 := ih (fun j hj => h j (List.mem_append_left _ hj))
  have h2 := (h i (by simp)).snd
  rw [sumI_snoc, List.length_append, List.length_cons, List.length_nil]
  unfold addS sndI
  simp only
  omega
theorem smpA_set (O : List Smp) (i : Nat) (s : Smp) (h : i < O.length) : updRow (smpA O) i 0 [.int s.l, .int s.r] = smpA (O.set i s) := by
 have e : (smpA O).getD i [] = [.int (O.getD i s0).l, .int (O.getD i s0).r] := by simp [smpA, List.getD_eq_getElem?_getD, h]
 unfold updRow
 rw [e]
 simp [smpA, setAll, List.map_set]
theorem smpA_rep (n : Nat) : List.replicate n [Cell.int 0, Cell.int 0] = smpA (List.replicate n s0) := by simp [smpA]
end Go.Sx

namespace Go.Sx
open Go Go.Proofs
set_option maxRecDepth 10000
set_option maxHeartbeats 4000000
@[reducible] def rowS (O : List Smp) : Blk := .row 192 false KS (smpA O)
theorem eb47 : Tryz.t192.bytes = 16 := by kernel_rfl
end Go.Sx

namespace Go.Sx
open Go Go.Proofs
set_option maxRecDepth 10000
set_option maxHeartbeats 4000000
theorem keyEqS (c : List Cell) (a : ByteArray) : keyEq [.str] c [.str a] = match c with | [] => false | x :: _ => decide (x.toStr = a) := by
 cases c with
 | nil => rfl
 | cons x c => simp [keyEq, cellEq, Cell.toStr]; rfl
theorem mfind_mputS (a b : ByteArray) (v : List Cell) : ∀ (l : MapL), mfind [.str] (mput [.str] l [.str a] v) [.str b] = if a = b then some v else mfind [.str] l [.str b]
 | [] => by
  simp only [mput, mfind, keyEqS, Cell.toStr]
  by_cases h : a = b <;> simp [h]
 | p :: l => by
  have ih := mfind_mputS a b v l
  simp only [mput]
  cases h1 : keyEq [.str] p.1 [.str a] with
  | true =>
   simp only [mfind]
   by_cases h : a = b
   ·subst h; simp [keyEqS, Cell.toStr]
   ·have h2 : keyEq [.str] p.1 [.str b] = false := by
     rw [keyEqS] at h1 ⊢
     split at h1
     ·cases h1
     ·rename_i x c hp
      simp only [decide_eq_true_eq] at h1
      simp only [decide_eq_false_iff_not]
      rw [h1]; exact h
    simp [keyEqS, Cell.toStr, h, h2, keyEqS] at h2 ⊢
  | false =>
   simp only [mfind]
   cases h2 : keyEq [.str] p.1 [.str b] with
   | true =>
    have : a ≠ b := fun h => by rw [h, h2] at h1; cases h1
    simp [this]
   | false => simpa using ih
theorem mput_len (kk : List CK) (k v : List Cell) : ∀ l : MapL, (mput kk l k v).length = if mfind kk l k = none then l.length + 1 else l.length
 | [] => by simp [mput, mfind]
 | p :: l => by
  have ih := mput_len kk k v l
  by_cases h : keyEq kk p.1 k = true
  ·simp [mput, mfind, h]
  ·have h' : keyEq kk p.1 k = false := by simpa using h
   simp only [mput, mfind, h', List.length_cons, ih]
   split <;> rfl
theorem s196 (l : List Tak) (hT : TaksOK l) : PSpec Tryz.prog 135 [lT l] (.x (I 0)) := by
 have ll := takA_len l
 have h1 := hT.len
 refine spec_g (bodyOf Tryz.f135) [] pMix Tryz.func135 Tryz.ntmps135 [.tmp 2] ?_
 repeat' ((conv => whnf); refine Br.f (fun h => ?_))
 refine LoopVC.mk (fun n st => ∃ (i : Nat) (m : MapL), i ≤ l.length ∧ n = l.length - i ∧ m.length = i ∧ (∀ b, mfind [.str] m [.str b] = none ↔ ∀ j, j < i → (l.getD j t0).nm ≠ b) ∧ st = ⟨0, envA 49 [(0, .x (lT l)), (3, .int .i64 0), (4, .x (.one (.map 0))), (17, .x (lT l)), (18, .int .i64 (l.length : Int)), (19, .int .i64 (i : Int))], [some (.mp false false [.str] [.int .i64] m none)]⟩) _ _ ⟨0, [], Nat.zero_le _, rfl, rfl, fun b => by simp [mfind], rfl⟩ ?_ ?_
 ·refine ⟨[some 0], rfl, rfl, ?_, ?_⟩ <;> repeat' (first | exact trivial | exact rfl | apply And.intro)
  exact congrArg Int.ofNat ll
 rintro n _ ⟨i, m, hi, hn, hm, hf, rfl⟩
 have gd : rA (takA l) (i : Int).toNat (0 + 1) = smpA (l.getD i t0).d := takA_d l i
 have gn : rS (takA l) (i : Int).toNat 0 = (l.getD i t0).nm := takA_n l i
 by_cases hi' : i < l.length
 ·have hok := hT.each i hi'
  have c1 : PSpec Tryz.prog 156 [.agg [.str (rS (takA l) (i : Int).toNat 0), .lst true KS (rA (takA l) (i : Int).toNat (0 + 1))]] (.x (I 0)) := by rw [gd, gn]; exact s275 _ hok
  have hmf : mfind [.str] m [.str (rS (takA l) (i : Int).toNat 0)] = none := by
   rw [gn]
   exact (hf _).2 fun j hj e => hT.names i j hi' hj e.symm
  have hr : rI [mrow [.str] (zeroRow [.int .i64]) m [.str (rS (takA l) (i : Int).toNat 0)]] 0 0 = 0 := by unfold mrow; rw [hmf]; rfl
  repeat' ((conv => whnf); first | refine Rng.g ?_ | refine Ob.g ?_ | refine JoinVC.on ?_ | refine CallVC.pure rfl (c1) ?_ | refine Br.t (fun h => ?_) | refine Br.f (fun h => ?_))
  refine Back.mk (l.length - (i + 1)) _ (by omega) ⟨i + 1, mput [.str] m [.str (rS (takA l) (i : Int).toNat 0)] [.int (rI [mrow [.str] (zeroRow [.int .i64]) m [.str (rS (takA l) (i : Int).toNat 0)]] 0 0 + 1)], by omega, rfl, ?_, fun b => ?_, rfl⟩ ?_
  ·rw [mput_len, if_pos hmf, hm]
  ·rw [mfind_mputS, gn]
   by_cases hb : (l.getD i t0).nm = b
   ·rw [if_pos hb]
    exact ⟨fun h => (by cases h), fun h => absurd hb (h i (Nat.lt_succ_self i))⟩
   ·rw [if_neg hb, hf b]
    refine ⟨fun h j hj => ?_, fun h j hj => h j (by omega)⟩
    rcases Nat.lt_succ_iff_lt_or_eq.1 hj with h' | rfl
    ·exact h j h'
    ·exact hb
  ·refine ⟨[some 0], rfl, rfl, ?_, ?_⟩ <;> repeat' (first | exact trivial | exact rfl | apply And.intro)
 ·repeat' ((conv => whnf); first | refine JoinVC.on ?_ | refine Br.t (fun h => ?_) | refine Br.f (fun h => ?_))
  refine EndVC.mk _ rfl _ _ ⟨rfl, rfl⟩ ?_
  refine ⟨[], rfl, rfl, ?_, ?_⟩ <;> repeat' (first | exact trivial | exact rfl | apply And.intro)
@[reducible] def bG (i : Nat) (T : List Tak) (n : Int) : Blk := .box 257 [.lst true KT (takA T), .own i, .int .i64 n]
@[reducible] def K10 : List CK := [.int .i64, .int .i64, .int .i64, .int .i64, .int .i64, .int .i64, .int .i64, .int .i64, .int .i64, .int .i64]
@[reducible] def KG : List CK := [.sl KT, .sl K10, .int .i64]
@[reducible] def gX (T : List Tak) (A : Arr) (n : Int) : XV := .one (.lel true KG [[.sl (takA T), .sl A, .int n]] 0 0)
theorem s197 (T : List Tak) (A : Arr) (n : Int) (p : Prt) (hp : partOK T p) : PSpec Tryz.prog 136 [gX T A n, p.x] (xP True) := by
 have ll := takA_len T
 have gl : (rA (takA T) p.tk.toNat (0 + (0 + 1))).length = (T.getD p.tk.toNat t0).d.length := (congrArg List.length (takA_d T _)).trans (smpA_len _)
 have hq := hp
 unfold partOK at hq
 have e0 : rA [[Cell.sl (takA T), .sl A, .int n]] 0 0 = takA T := rfl
 refine spec_g (bodyOf Tryz.f136) [] pMix Tryz.func136 Tryz.ntmps136 [.tmp 4] ?_
 repeat' ((conv => whnf); first | rw [e0] | refine Ob.g ?_ | refine CallVC.pure rfl (s125 _ _ _) ?_ | refine Br.t (fun h => ?_) | refine Br.f (fun h => ?_))
 refine EndVC.mk _ rfl _ _ ⟨rfl, rfl⟩ ?_
 refine ⟨[], rfl, rfl, ?_, ?_⟩ <;> repeat' (first | exact trivial | apply And.intro)
 show _ ↔ _
 simp
 omega
end Go.Sx

namespace Go.Sx
open Go Go.Proofs
set_option maxRecDepth 10000
set_option maxHeartbeats 4000000
def plcR (l : List Prt) (i : Nat) : List Cell := [.int (l.getD i p0).tk, .int (l.getD i p0).fr, .int (l.getD i p0).to, .int (l.getD i p0).gap, .int (l.getD i p0).inn, .int (l.getD i p0).out, .int (l.getD i p0).lev, .int (i : Int), .int (begP l i), .int (begP l i + (l.getD i p0).long)]
def plcA (l : List Prt) (n : Nat) : Arr := (List.range n).map (plcR l)
theorem plcA_len (l : List Prt) (n : Nat) : (plcA l n).length = n := by simp [plcA]
theorem plcA_snoc (l : List Prt) (n : Nat) : plcA l (n + 1) = plcA l n ++ [plcR l n] := by simp [plcA, List.range_succ]
theorem plcA_at (l : List Prt) (n i : Nat) (h : i < n) : (plcA l n).getD i [] = plcR l i := by
 simp [plcA, List.getD_eq_getElem?_getD, List.getElem?_range h]
theorem plc_8 (l : List Prt) (n i : Nat) (h : i < n) : rI (plcA l n) i (0 + 1 + 1 + 1 + 1 + 1 + 1 + 1 + 1) = begP l i := by simp only [rI, cellAt, plcA_at l n i h]; rfl
theorem plc_9 (l : List Prt) (n i : Nat) (h : i < n) : rI (plcA l n) i (0 + 1 + 1 + 1 + 1 + 1 + 1 + 1 + 1 + 1) = begP l i + (l.getD i p0).long := by simp only [rI, cellAt, plcA_at l n i h]; rfl
@[reducible] def rowG (A : Arr) : Blk := .row 259 false K10 A
theorem eb206 : Tryz.t259.bytes = 80 := by kernel_rfl
theorem Poss.mono {l : List Prt} (_hb : PBs l) (hP : Poss l) {i : Nat} (h0 : 0 < i) (hi : i < l.length) : begP l (i - 1) + (l.getD (i - 1) p0).long ≤ begP l i + (l.getD i p0).long ∧ begP l (i - 1) ≤ begP l i := by
 have h1 := hP.gap i h0 hi
 have h2 := endP_succ l (show i - 1 < l.length by omega)
 have h3 : i - 1 + 1 = i := by omega
 rw [h3] at h2
 have h4 : begP l i = endP (l.take i) + (l.getD i p0).gap := rfl
 omega
theorem s100 (T : List Tak) (l : List Prt) (hP : ProgOK T l) : HSpec Tryz.prog 114 [lT T, lP l] [] (fun r m' => r = .tup [.one (.ptr 0 0), I 0] ∧ m' = [some (bG 1 T (endP l)), some (rowG (plcA l l.length))]) := by
 have ll := prtA_len l
 have hb := hP.pbs
 have h32 := hb.1
 have hst := hP.poss.stop
 have hbd : ∀ k, k < l.length → -300000 ≤ begP l k ∧ begP l k ≤ 300000 ∧ 0 < (l.getD k p0).long ∧ (l.getD k p0).long ≤ 4096 := fun k hk => by
  have h1 := endP_bd hb k (by omega)
  have h2 := hb.2 k hk
  obtain ⟨h3, h4, h5⟩ := h2
  unfold begP Prt.long
  omega
 refine spec_g (bodyOf Tryz.f114) ([(12, ([10], ordDef 0 12)), (14, ([], ordDef 0 5 ++ [⟨5, [], [6]⟩, ⟨6, [], []⟩, ⟨7, [0], []⟩] ++ ordDef 8 3))]) pMix Tryz.func114 Tryz.ntmps114 [.tmp 4, .tmp 5] ?_
 repeat' ((conv => whnf); first | refine CallVC.pure rfl (s196 T hP.takes) ?_ | refine Br.f (fun h => ?_))
 refine LoopVC.mk (fun n st => ∃ (i : Nat), i ≤ l.length ∧ n = l.length - i ∧ st = ⟨0, envA 135 [(0, .x (lT T)), (1, .x (lP l)), (7, .x (.one (.ptr 0 0))), (25, .x (lP l)), (26, .int .i64 (l.length : Int)), (27, .int .i64 (i : Int))], [some (bG 1 T (endP (l.take i))), some (rowG (plcA l i))]⟩) _ _ ⟨0, Nat.zero_le _, rfl, rfl⟩ ?_ ?_
 ·refine ⟨[some 0, none], rfl, rfl, ?_, ?_⟩ <;> repeat' (first | exact trivial | exact rfl | apply And.intro)
  exact congrArg Int.ofNat ll
 rintro n _ ⟨i, hi, hn, rfl⟩
 by_cases hi' : i < l.length
 ·have c1 : PSpec Tryz.prog 136 [gX T (plcA l i) (endP (l.take i)), prtX l i] (xP True) := by rw [prtX_eq]; exact s197 T _ _ _ (hP.parts i hi')
  have g1 : rI (prtA l) (i : Int).toNat (0 + 1) = (l.getD i p0).fr := prtA_1 l i
  have g2 : rI (prtA l) (i : Int).toNat (0 + 1 + 1) = (l.getD i p0).to := prtA_2 l i
  have g3 : rI (prtA l) (i : Int).toNat (0 + 1 + 1 + 1) = (l.getD i p0).gap := prtA_3 l i
  have hbi := hbd i hi'
  have hpi := hb.2 i hi'
  obtain ⟨b1, b2, b3⟩ := hpi
  have hlo : (l.getD i p0).long = (l.getD i p0).to - (l.getD i p0).fr := rfl
  have hbg : begP l i = endP (l.take i) + (l.getD i p0).gap := rfl
  have lp := plcA_len l i
  have g0 : rI (prtA l) (i : Int).toNat 0 = (l.getD i p0).tk := prtA_0 l i
  have g4 : rI (prtA l) (i : Int).toNat (0 + 1 + 1 + 1 + 1) = (l.getD i p0).inn := prtA_4 l i
  have g5 : rI (prtA l) (i : Int).toNat (0 + 1 + 1 + 1 + 1 + 1) = (l.getD i p0).out := prtA_5 l i
  have g6 : rI (prtA l) (i : Int).toNat (0 + 1 + 1 + 1 + 1 + 1 + 1) = (l.getD i p0).lev := prtA_6 l i
  have he := endP_succ l hi'
  repeat' ((conv => whnf); first | refine Rng.g ?_ | refine Ob.g ?_ | refine CallVC.pure rfl (c1) ?_ | refine Br.t (fun h => ?_) | (refine Br.mk (fun h => ?_) (fun h => ?_) <;> first | (exfalso; omega; done) | (exfalso; simp at h; done) | skip))
  refine Ob.mk (by simp only [lp, eb206, List.length_cons, List.length_nil]; omega) ?_
  repeat' ((conv => whnf); first | refine Rng.g ?_ | fail)
  refine Back.mk (l.length - (i + 1)) _ (by omega) ⟨i + 1, by omega, rfl, rfl⟩ ?_
  refine ⟨[some 0, some 5], rfl, rfl, ?_, ?_⟩ <;> repeat' (first | exact trivial | exact rfl | apply And.intro)
  ·rw [he, g1, g2, g3, hbg, hlo]; omega
  ·rw [plcA_snoc, g0, g1, g2, g3, g4, g5, g6]
   unfold plcR
   rw [hbg, hlo]
   have e : endP (l.take i) + (l.getD i p0).gap + (l.getD i p0).to - (l.getD i p0).fr = endP (l.take i) + (l.getD i p0).gap + ((l.getD i p0).to - (l.getD i p0).fr) := by omega
   rw [e]
 have e1 : l.take i = l := List.take_of_length_le (by omega)
 have e2 : i = l.length := by omega
 rw [e1]
 subst e2
 clear hi hi' hn e1
 have lp := plcA_len l l.length
 repeat' ((conv => whnf); refine Br.f (fun h => ?_))
 refine LoopVC.mk (fun n st => ∃ (i : Nat), i ≤ l.length ∧ n = l.length - i ∧ st = ⟨0, envA 135 [(7, .x (.one (.ptr 0 0))), (11, .int .i64 (if 1 < i then begP l (i - 2) + (l.getD (i - 2) p0).long else 0)), (74, .x (.one (.own 1))), (75, .int .i64 (l.length : Int)), (76, .int .i64 (i : Int))], [some (bG 1 T (endP l)), some (rowG (plcA l l.length))]⟩) _ _ ⟨0, Nat.zero_le _, rfl, rfl⟩ ?_ ?_
 ·refine ⟨[some 0, some 1], rfl, rfl, ?_, ?_⟩ <;> repeat' (first | exact trivial | exact rfl | apply And.intro)
  exact congrArg Int.ofNat lp
 rintro n _ ⟨i, hi, hn, rfl⟩
 by_cases hi' : i < l.length
 ·have g8 : rI (plcA l l.length) (i : Int).toNat (0 + 1 + 1 + 1 + 1 + 1 + 1 + 1 + 1) = begP l i := plc_8 l _ i hi'
  have g9 : rI (plcA l l.length) (i : Int).toNat (0 + 1 + 1 + 1 + 1 + 1 + 1 + 1 + 1 + 1) = begP l i + (l.getD i p0).long := plc_9 l _ i hi'
  have hbi := hbd i hi'
  have hng := begP_nonneg hb hP.poss i hi'
  by_cases hz : i = 0
  ·subst hz
   rw [if_neg (by omega)]
   repeat' ((conv => whnf); first | refine Rng.g ?_ | refine Ob.g ?_ | refine JoinVC.on ?_ | refine Br.t (fun h => ?_) | refine Br.f (fun h => ?_))
   refine Back.mk (l.length - (0 + 1)) _ (by omega) ⟨0 + 1, by omega, rfl, rfl⟩ ?_
   exact Le.g [some 0, some 1]
  ·have e1 : ((i : Int) - 1).toNat = i - 1 := by omega
   have m8 : rI (plcA l l.length) ((i : Int) - 1).toNat (0 + 1 + 1 + 1 + 1 + 1 + 1 + 1 + 1) = begP l (i - 1) := by rw [e1]; exact plc_8 l _ _ (by omega)
   have m9 : rI (plcA l l.length) ((i : Int) - 1).toNat (0 + 1 + 1 + 1 + 1 + 1 + 1 + 1 + 1 + 1) = begP l (i - 1) + (l.getD (i - 1) p0).long := by rw [e1]; exact plc_9 l _ _ (by omega)
   have hm := hP.poss.mono hb (by omega) hi'
   obtain ⟨v, hv⟩ : ∃ v, v = (if 1 < i then begP l (i - 2) + (l.getD (i - 2) p0).long else 0) := ⟨_, rfl⟩
   have hv2 : v ≤ begP l i := by
    rw [hv]
    split
    ·exact hP.poss.free i (by omega) hi'
    ·exact hng
   rw [← hv]
   repeat' ((conv => whnf); first | refine Rng.g ?_ | refine Ob.g ?_ | refine JoinVC.on ?_ | refine Br.t (fun h => ?_) | refine Br.f (fun h => ?_))
   refine Back.mk (l.length - (i + 1)) _ (by omega) ⟨i + 1, by omega, rfl, rfl⟩ ?_
   refine ⟨[some 0, some 1], rfl, rfl, ?_, ?_⟩ <;> repeat' (first | exact trivial | exact rfl | apply And.intro)
   rw [m9, if_pos (by omega)]
   rfl
 ·repeat' ((conv => whnf); refine Br.f (fun h => ?_))
  refine EndVC.mk _ rfl _ _ ⟨rfl, rfl⟩ ?_
  exact Le.g [some 0, some 1]
end Go.Sx

namespace Go.Sx
open Go Go.Proofs
set_option maxRecDepth 10000
set_option maxHeartbeats 4000000
theorem s199 (n d s : Int) (hd : 0 < d) (hn : -9000000000000000000 ≤ s * n ∧ s * n ≤ 9000000000000000000) (hq : -9000000000000000000 ≤ (s * n).tdiv d ∧ (s * n).tdiv d ≤ 9000000000000000000) : PSpec Tryz.prog 138 [.agg [.int .i64 n, .int .i64 d], I s] (.x (I ((s * n).tdiv d))) := by
 refine spec_g (bodyOf Tryz.f138) [] pMix Tryz.func138 Tryz.ntmps138 [.tmp 4] ?_
 repeat' ((conv => whnf); first | refine Rng.g ?_ | refine Ob.g ?_ | fail)
 refine Val.mk _ rfl ?_
 repeat' ((conv => whnf); first | refine Rng.g ?_ | fail)
 refine EndVC.mk _ rfl _ _ ⟨rfl, rfl⟩ ?_
 exact Le.g []
@[reducible] def plcX (p : Prt) (i b e : Int) : XV := .agg [.int .i64 p.tk, .int .i64 p.fr, .int .i64 p.to, .int .i64 p.gap, .int .i64 p.inn, .int .i64 p.out, .int .i64 p.lev, .int .i64 i, .int .i64 b, .int .i64 e]
theorem s198 (p : Prt) (i b k lev : Int) (hF : PF p k lev) (_hb : 0 ≤ b ∧ b ≤ 100000) : PSpec Tryz.prog 137 [plcX p i b (b + p.long), I k, I lev] (.x (.agg [.int .i64 (lev * upF p k * dnF p k), .int .i64 (denF p)])) := by
 have hp := hF.pb
 have h1 := hp.fr; have h2 := hp.to; have h3 := hF.inn; have h4 := hF.out; have h5 := hF.k; have h6 := hF.lev
 have hd := hF.den
 have hL : p.long = p.to - p.fr := rfl
 have hup := hF.up; have hdn := hF.dn
 have hu : (if p.inn < k then p.inn else k) + 1 = upF p k := by unfold upF; split <;> rfl
 have hn : (if p.out < b + p.long - b - k - 1 then p.out else b + p.long - b - k - 1) + 1 = dnF p k := by unfold dnF; split <;> split <;> omega
 have m1 := mul_rng (a := lev) (b := upF p k) (A := 4000) (B := 1001) (by omega) (by omega)
 have m2 := mul_rng (a := lev * upF p k) (b := dnF p k) (A := 4004000) (B := 1001) (by omega) (by omega)
 have hd' : 1000 ≤ 1000 * (p.inn + 1) * (p.out + 1) ∧ 1000 * (p.inn + 1) * (p.out + 1) ≤ 1002001000 := hd
 refine spec_g (bodyOf Tryz.f137) [] pMix Tryz.func137 Tryz.ntmps137 [.cell 6 288] ?_
 repeat' ((conv => whnf); first | rw [hu] | rw [hn] | refine Rng.g ?_ | refine Mm.mk ?_)
 refine EndVC.mk _ rfl _ _ ⟨rfl, rfl⟩ ?_
 exact Le.g []
theorem loud_assoc (s : Int) (p : Prt) (k lev : Int) : (s * (lev * upF p k * dnF p k)).tdiv (denF p) = loudF s p k lev := by
 unfold loudF
 rw [← Int.mul_assoc, ← Int.mul_assoc]
theorem s102 (T : List Tak) (A : Arr) (n : Int) (p : Prt) (i b k lev : Int) (hF : SF T p k lev) (hb : 0 ≤ b ∧ b ≤ 100000) : PSpec Tryz.prog 116 [gX T A n, plcX p i b (b + p.long), I k, I lev] (.x (sndF T p k lev).x) := by
 have lt := takA_len T
 have ho := hF.ok
 unfold partOK at ho
 have hk := hF.k
 have hL : p.long = p.to - p.fr := rfl
 have hbt := hF.pf.pb.to
 have e0 : rA [[Cell.sl (takA T), .sl A, .int n]] 0 0 = takA T := rfl
 have gd : rA (takA T) p.tk.toNat (0 + (0 + 1)) = smpA (T.getD p.tk.toNat t0).d := takA_d T _
 have gl : (rA (takA T) p.tk.toNat (0 + (0 + 1))).length = (T.getD p.tk.toNat t0).d.length := (congrArg List.length gd).trans (smpA_len _)
 have hs := hF.smp
 unfold Smp.ok at hs
 have hd := hF.pf.den
 have key : ∀ v, -32767 ≤ v ∧ v ≤ 32767 → PSpec Tryz.prog 138 [.agg [.int .i64 (lev * upF p k * dnF p k), .int .i64 (denF p)], I v] (.x (I (loudF v p k lev))) := fun v hv => by
  rw [← loud_assoc]
  have h1 := hF.pf.steps hv
  have h2 := hF.pf.loud hv
  refine s199 _ _ v (by omega) ?_ (by rw [loud_assoc]; omega)
  rw [← Int.mul_assoc, ← Int.mul_assoc]; omega
 have c1 : PSpec Tryz.prog 138 [.agg [.int .i64 (lev * upF p k * dnF p k), .int .i64 (denF p)], I (rI (rA (takA T) p.tk.toNat (0 + (0 + 1))) (p.fr + k).toNat 0)] (.x (I (sndF T p k lev).l)) := by
  rw [gd, smpA_l]; exact key _ (by unfold smpAt at hs; omega)
 have c2 : PSpec Tryz.prog 138 [.agg [.int .i64 (lev * upF p k * dnF p k), .int .i64 (denF p)], I (rI (rA (takA T) p.tk.toNat (0 + (0 + 1))) (p.fr + k).toNat (0 + (0 + 1)))] (.x (I (sndF T p k lev).r)) := by
  rw [gd, smpA_r]; exact key _ (by unfold smpAt at hs; omega)
 refine spec_g (bodyOf Tryz.f116) ([(2, ([17], ordDef 0 19)), (3, ([], ordDef 0 3 ++ ordDef 4 3 ++ [⟨3, [4, 5, 6], []⟩] ++ ordDef 7 3))]) pMix Tryz.func116 Tryz.ntmps116 [.cell 8 192] ?_
 repeat' ((conv => whnf); first | rw [e0] | refine Rng.g ?_ | refine Ob.g ?_ | refine CallVC.pure rfl (s198 p i b k lev hF.pf hb) ?_ | refine CallVC.pure rfl (c2) ?_ | refine CallVC0.pure rfl (c1) ?_)
 refine EndVC.mk _ rfl _ _ ⟨rfl, rfl⟩ ?_
 exact Le.g []
end Go.Sx

namespace Go.Sx
open Go Go.Proofs
set_option maxRecDepth 10000
set_option maxHeartbeats 4000000
theorem s101 (a b : Smp) (ha : (-5000000 ≤ a.l ∧ a.l ≤ 5000000) ∧ (-5000000 ≤ a.r ∧ a.r ≤ 5000000)) (hb : (-5000000 ≤ b.l ∧ b.l ≤ 5000000) ∧ (-5000000 ≤ b.r ∧ b.r ≤ 5000000)) : PSpec Tryz.prog 115 [a.x, b.x] (.x (addS a b).x) := by
 refine spec_g (bodyOf Tryz.f115) [] pMix Tryz.func115 Tryz.ntmps115 [.cell 4 192] ?_
 repeat' ((conv => whnf); first | refine Rng.g ?_ | fail)
 refine EndVC.mk _ rfl _ _ ⟨rfl, rfl⟩ ?_
 exact Le.g []
structure Acc (T : List Tak) (l : List Prt) (O : List Smp) (i : Nat) (e : Int) : Prop where
 len : O.length = (endP l).toNat
 get : ∀ t : Nat, t < (endP l).toNat → O.getD t s0 = if begP l i ≤ t ∧ (t : Int) < e then sumI T l t (srcI l t (i + 1)) else sumI T l t (srcI l t i)
theorem Acc.next {T : List Tak} {l : List Prt} {O : List Smp} {i : Nat} (h : Acc T l O i (begP l i + (l.getD i p0).long)) : Acc T l O (i + 1) (begP l (i + 1)) := by
 refine ⟨h.len, fun t ht => ?_⟩
 rw [h.get t ht, if_neg (by omega : ¬ (begP l (i + 1) ≤ (t : Int) ∧ (t : Int) < begP l (i + 1)))]
 split
 ·rfl
 ·rename_i hn
  rw [srcI_succ, if_neg (show ¬ onB l t i = true from fun h => hn (of_decide_eq_true h)), List.append_nil]
theorem Acc.step {T : List Tak} {l : List Prt} {O : List Smp} {i : Nat} {t : Nat} (h : Acc T l O i t) (ht : t < (endP l).toNat) (h1 : begP l i ≤ t) (h2 : (t : Int) < begP l i + (l.getD i p0).long) : Acc T l (O.set t (addS (O.getD t s0) (sndI T l t i))) i (t + 1 : Nat) := by
 have hl := h.len
 refine ⟨by rw [List.length_set]; exact hl, fun u hu => ?_⟩
 rw [getD_set' _ _ _ _ _ (by omega)]
 by_cases e : t = u
 ·subst e
  rw [if_pos rfl, if_pos ⟨h1, by omega⟩, h.get t ht, if_neg (by omega), srcI_succ, if_pos (show onB l t i = true from decide_eq_true ⟨h1, h2⟩), sumI_snoc]
 ·rw [if_neg e, h.get u hu]
  by_cases h3 : begP l i ≤ u ∧ (u : Int) < t
  ·rw [if_pos h3, if_pos ⟨h3.1, by omega⟩]
  ·rw [if_neg h3, if_neg (by omega)]
theorem Acc.fin {T : List Tak} {l : List Prt} {O : List Smp} (h : Acc T l O l.length (begP l l.length)) : O = rend T l := by
 refine List.ext_getElem (by rw [h.len, rend_len]) fun j h1 h2 => ?_
 have h3 := h.get j (by rw [← h.len]; exact h1)
 rw [if_neg (by omega)] at h3
 have h4 := rend_get T l j (by rw [← h.len]; exact h1)
 unfold rendAt at h4
 rw [← h4] at h3
 simpa [List.getD_eq_getElem?_getD, h1, h2] using h3
theorem sumI_bd2 {T : List Tak} {l : List Prt} (hP : ProgOK T l) (t : Int) {i : Nat} (hi : i ≤ l.length) : (-4194176 ≤ (sumI T l t (srcI l t i)).l ∧ (sumI T l t (srcI l t i)).l ≤ 4194176) ∧ (-4194176 ≤ (sumI T l t (srcI l t i)).r ∧ (sumI T l t (srcI l t i)).r ≤ 4194176) := by
 have h1 := sumI_bd (T := T) (l := l) (t := t) (L := srcI l t i) (fun j hj => hP.sf (by
  obtain ⟨h2, h3, h4⟩ := srcI_mem hj
  unfold srcI
  rw [List.mem_filter, List.mem_range]
  exact ⟨by omega, decide_eq_true ⟨h3, h4⟩⟩))
 have h2 := srcI_len l t i
 have h3 := hP.len
 omega
theorem plc_x (l : List Prt) (n i : Nat) (h : i < n) (j : Nat) : rI (plcA l n) i j = ((plcR l i).getD j (.int 0)).toInt := by simp only [rI, cellAt, plcA_at l n i h]
theorem Poss.inside {l : List Prt} (hb : PBs l) (hP : Poss l) : ∀ k i, i + k = l.length → 0 < k → begP l i + (l.getD i p0).long ≤ endP l := by
 intro k
 induction k with
 | zero => intro i _ h; omega
 | succ k ih =>
  intro i hi _
  by_cases hk : k = 0
  ·have h2 := endP_succ l (show i < l.length by omega)
   have h3 : i + 1 = l.length := by omega
   rw [h3, List.take_length] at h2
   omega
  ·have h1 := ih (i + 1) (by omega) (by omega)
   have h2 := hP.mono hb (i := i + 1) (by omega) (by omega)
   have h3 : i + 1 - 1 = i := by omega
   rw [h3] at h2
   omega
theorem s26 (T : List Tak) (l : List Prt) (hP : ProgOK T l) : HSpec Tryz.prog 90 [lT T, lP l] [] (fun r m' => (smpE (rend T l) = 0 ∧ r = .tup [.one (.own 0), I 0] ∧ m' = [some (rowS (rend T l))]) ∨ (smpE (rend T l) ≠ 0 ∧ r = .tup [.one .nils, I 4] ∧ m' = [])) := by
 have hb := hP.pbs
 have h32 := hb.1
 have he := endP_nonneg hb hP.poss
 have he2 := hP.poss.stop
 have lp := plcA_len l l.length
 refine spec_g (bodyOf Tryz.f90) ([(11, ([], ordDef 0 15 ++ [⟨15, [0, 1, 2, 3, 4, 5], []⟩, ⟨16, [0, 1], []⟩, ⟨17, [], []⟩, ⟨18, [], []⟩]))]) pMix Tryz.func90 Tryz.ntmps90 [.tmp 4, .tmp 5] ?_
 repeat' ((conv => whnf); first | refine Rng.g ?_ | fail)
 conv => whnf
 refine CallVC.mk [] _ _ _ rfl rfl rfl (s100 T l hP) (fun r m' h' => ?_)
 obtain ⟨rfl, rfl⟩ := h'
 conv => whnf
 repeat' ((conv => whnf); refine Br.f (fun h => ?_))
 refine Ob.mk (by simp only [eb47]; omega) ?_
 repeat' ((conv => whnf); first | refine Rng.g ?_ | fail)
 refine LoopVC.mk (fun n st => ∃ (i : Nat) (O : List Smp), i ≤ l.length ∧ n = l.length - i ∧ Acc T l O i (begP l i) ∧ st = ⟨0, envA 66 [(6, .x (.one (.ptr 0 0))), (8, .x (.one (.own 2))), (29, .x (.one (.own 1))), (30, .int .i64 (l.length : Int)), (31, .int .i64 (i : Int))], [some (bG 1 T (endP l)), some (rowG (plcA l l.length)), some (rowS O)]⟩) _ _ ⟨0, List.replicate (endP l).toNat s0, Nat.zero_le _, rfl, ⟨by simp, fun t ht => by rw [if_neg (by omega)]; simp [List.getD_eq_getElem?_getD, List.getElem?_replicate, srcI, sumI]; split <;> rfl⟩, rfl⟩ ?_ ?_
 ·refine ⟨[some 0, some 1, some 2], rfl, rfl, ?_, ?_⟩ <;> repeat' (first | exact trivial | exact rfl | apply And.intro)
  ·exact congrArg Int.ofNat lp
  ·exact smpA_rep _
 rintro n _ ⟨i, O, hi, hn, hO, rfl⟩
 by_cases hi' : i < l.length
 ·have g8 : rI (plcA l l.length) (i : Int).toNat (0 + 1 + 1 + 1 + 1 + 1 + 1 + 1 + 1) = begP l i := plc_8 l _ i hi'
  have g9 : rI (plcA l l.length) (i : Int).toNat (0 + 1 + 1 + 1 + 1 + 1 + 1 + 1 + 1 + 1) = begP l i + (l.getD i p0).long := plc_9 l _ i hi'
  have hbi := begP_nonneg hb hP.poss i hi'
  have hpi := hb.2 i hi'
  obtain ⟨b1, b2, b3⟩ := id hpi
  have hlo : (l.getD i p0).long = (l.getD i p0).to - (l.getD i p0).fr := rfl
  have hin := hP.poss.inside hb (l.length - i) i (by omega) (by omega)
  repeat' ((conv => whnf); first | refine Ob.g ?_ | refine Br.t (fun h => ?_))
  refine LoopVC.mk (fun n st => ∃ (t : Nat) (O : List Smp), begP l i ≤ t ∧ (t : Int) ≤ begP l i + (l.getD i p0).long ∧ n = (begP l i + (l.getD i p0).long).toNat - t ∧ Acc T l O i t ∧ st = ⟨0, envA 66 [(6, .x (.one (.ptr 0 0))), (8, .x (.one (.own 2))), (10, .x (.one (.ptr 3 0))), (11, .int .i64 (t : Int)), (29, .x (.one (.own 1))), (30, .int .i64 (l.length : Int)), (31, .int .i64 (i : Int))], [some (bG 1 T (endP l)), some (rowG (plcA l l.length)), some (rowS O), some (.box 259 [.int .i64 (l.getD i p0).tk, .int .i64 (l.getD i p0).fr, .int .i64 (l.getD i p0).to, .int .i64 (l.getD i p0).gap, .int .i64 (l.getD i p0).inn, .int .i64 (l.getD i p0).out, .int .i64 (l.getD i p0).lev, .int .i64 (i : Int), .int .i64 (begP l i), .int .i64 (begP l i + (l.getD i p0).long)])]⟩) _ _ ⟨(begP l i).toNat, O, by omega, by omega, rfl, by rw [Int.toNat_of_nonneg hbi]; exact hO, rfl⟩ ?_ ?_
  ·rw [Int.toNat_of_nonneg hbi]
   refine ⟨[some 0, some 1, some 2, some 3], rfl, rfl, ?_, ?_⟩ <;> repeat' (first | exact trivial | exact rfl | apply And.intro)
   all_goals (rw [Int.toNat_natCast, plc_x l _ i hi']; rfl)
  clear hO
  rintro n2 _ ⟨t, O, ht1, ht2, hn2, hO, rfl⟩
  have lO := smpA_len O
  have hOl := hO.len
  by_cases ht : (t : Int) < begP l i + (l.getD i p0).long
  ·have hsf := hP.sf (t := t) (i := i) (by unfold srcI; rw [List.mem_filter, List.mem_range]; exact ⟨hi', decide_eq_true ⟨ht1, ht⟩⟩)
   have hsn : (-131068 ≤ (sndI T l t i).l ∧ (sndI T l t i).l ≤ 131068) ∧ (-131068 ≤ (sndI T l t i).r ∧ (sndI T l t i).r ≤ 131068) := hsf.snd
   have htN : t < (endP l).toNat := by omega
   have hget := hO.get t htN
   rw [if_neg (by omega)] at hget
   have hbd := sumI_bd2 hP t (i := i) (by omega)
   rw [← hget] at hbd
   have c1 : PSpec Tryz.prog 116 [gX T (plcA l l.length) (endP l), plcX (l.getD i p0) i (begP l i) (begP l i + (l.getD i p0).long), I ((t : Int) - begP l i), I (l.getD i p0).lev] (.x (sndI T l t i).x) := s102 T _ _ _ _ _ _ _ hsf (by omega)
   have a0 : rI (smpA O) (t : Int).toNat 0 = (O.getD t s0).l := by rw [Int.toNat_natCast, smpA_l]
   have a1 : rI (smpA O) (t : Int).toNat (0 + 1) = (O.getD t s0).r := by rw [Int.toNat_natCast, smpA_r]
   have c2 : PSpec Tryz.prog 115 [.agg [.int .i64 (rI (smpA O) (t : Int).toNat 0), .int .i64 (rI (smpA O) (t : Int).toNat (0 + 1))], (sndI T l t i).x] (.x (addS (O.getD t s0) (sndI T l t i)).x) := by
    rw [a0, a1]; exact s101 _ _ (by omega) (by omega)
   have u1 : updRow (smpA O) (t : Int).toNat 0 [.int (addS (O.getD t s0) (sndI T l t i)).l, .int (addS (O.getD t s0) (sndI T l t i)).r] = smpA (O.set t (addS (O.getD t s0) (sndI T l t i))) := by rw [Int.toNat_natCast]; exact smpA_set O t _ (by omega)
   repeat' ((conv => whnf); first | rw [u1] | refine Rng.g ?_ | refine Ob.g ?_ | refine CallVC.pure rfl (c2) ?_ | refine CallVC0.pure rfl (c1) ?_ | refine Br.t (fun h => ?_))
   refine Back.mk ((begP l i + (l.getD i p0).long).toNat - (t + 1)) _ (by omega) ⟨t + 1, _, by omega, by omega, rfl, hO.step htN ht1 ht, rfl⟩ ?_
   refine ⟨[some 0, some 1, some 2, some 3], rfl, rfl, ?_, ?_⟩ <;> repeat' (first | exact trivial | exact rfl | apply And.intro)
  ·have e : (t : Int) = begP l i + (l.getD i p0).long := by omega
   rw [e] at hO
   repeat' ((conv => whnf); first | refine Rng.g ?_ | refine Br.f (fun h => ?_))
   refine Back.mk (l.length - (i + 1)) _ (by omega) ⟨i + 1, O, by omega, rfl, hO.next, rfl⟩ ?_
   refine ⟨[some 0, some 1, some 2], rfl, rfl, ?_, ?_⟩ <;> repeat' (first | exact trivial | exact rfl | apply And.intro)
 ·have e1 : i = l.length := by omega
  subst e1
  rw [hO.fin]
  have c1 := s103 (rend T l)
  by_cases hE : smpE (rend T l) = 0
  ·repeat' ((conv => whnf); first | refine CallVC.pure rfl (c1) ?_ | refine Br.f (fun h => ?_))
   conv => whnf
   refine EndVC.mk _ rfl _ _ (.inl ⟨hE, rfl, rfl⟩) ?_
   refine ⟨[some 2], rfl, rfl, ?_, ?_⟩ <;> repeat' (first | exact trivial | exact rfl | apply And.intro)
  ·repeat' ((conv => whnf); first | refine CallVC.pure rfl (c1) ?_ | refine Br.t (fun h => ?_) | refine Br.f (fun h => ?_))
   conv => whnf
   refine EndVC.mk _ rfl _ _ (.inr ⟨hE, rfl, rfl⟩) ?_
   refine ⟨[], rfl, rfl, ?_, ?_⟩ <;> repeat' (first | exact trivial | exact rfl | apply And.intro)
end Go.Sx

namespace Go.Sx
open Go Go.Proofs
set_option maxRecDepth 10000
set_option maxHeartbeats 2000000
def ptF (c : Cut) (s : Smp) : Smp := ⟨(s.r * c.gain).tdiv 1000 - c.half, (s.l * c.gain).tdiv 1000 + c.half⟩
theorem gain_rng {c : Cut} (hC : CutOK c) {n : Int} (hn : -32767 ≤ n ∧ n ≤ 32767) : (-3276700000 ≤ n * c.gain ∧ n * c.gain ≤ 3276700000) ∧ (-3276700 ≤ (n * c.gain).tdiv 1000 ∧ (n * c.gain).tdiv 1000 ≤ 3276700) := by
 have hg := hC.gain
 have h1 := mul_rng (a := n) (b := c.gain) (A := 32767) (B := 100000) hn hg
 have h2 := tdiv_rng (a := n * c.gain) (d := 1000) (B := 3276700) (by decide) (by omega)
 omega
theorem s106 (c : Cut) (s : Smp) (hC : CutOK c) (hs : s.ok) : PSpec Tryz.prog 107 [c.x, s.x] (.x (ptF c s).x) := by
 obtain ⟨h1, h2, h3, h4⟩ := hs
 have g1 := gain_rng hC ⟨h1, h2⟩
 have g2 := gain_rng hC ⟨h3, h4⟩
 have g3 := hC.half
 refine spec_g (bodyOf Tryz.f107) [] pMix Tryz.func107 Tryz.ntmps107 [.cell 4 99] ?_
 repeat' ((conv => whnf); first | refine Rng.g ?_ | refine Ob.g ?_ | fail)
 refine Val.mk _ rfl ?_
 repeat' ((conv => whnf); first | refine Rng.g ?_ | refine Ob.g ?_ | fail)
 refine Val.mk _ rfl ?_
 repeat' ((conv => whnf); first | refine Rng.g ?_ | fail)
 refine EndVC.mk _ rfl _ _ ⟨rfl, rfl⟩ ?_
 exact Le.g []
theorem s107 (p : Smp) : PSpec Tryz.prog 91 [p.x] (xP ((p.l ≥ -4194304 ∧ p.l ≤ 4194304) ∧ (p.r ≥ -4194304 ∧ p.r ≤ 4194304))) := by
 refine spec_g (bodyOf Tryz.f91) [] pMix Tryz.func91 Tryz.ntmps91 [.tmp 2] ?_
 repeat' ((conv => whnf); first | refine CallVC.pure rfl (s205 p.l (-4194304) 4194304) ?_ | refine CallVC.pure rfl (s205 p.r (-4194304) 4194304) ?_ | (refine Br.mk (fun h => ?_) (fun h => ?_) <;> first | (exfalso; omega; done) | (exfalso; simp at h; done) | skip))
 ·refine EndVC.mk _ rfl _ _ ⟨rfl, rfl⟩ ?_
  refine ⟨[], rfl, rfl, ?_, ?_⟩ <;> repeat' (first | exact trivial | apply And.intro)
  exact ⟨fun h2 => ⟨h, h2⟩, fun h2 => h2.2⟩
 ·refine EndVC.mk _ rfl _ _ ⟨rfl, rfl⟩ ?_
  refine ⟨[], rfl, rfl, ?_, ?_⟩ <;> repeat' (first | exact trivial | apply And.intro)
  exact fun h2 => h h2.1
@[reducible] def smpX (l : List Smp) (i : Nat) : XV := .agg [.int .i64 (rI (smpA l) (i : Int).toNat 0), .int .i64 (rI (smpA l) (i : Int).toNat (0 + 1))]
theorem smpX_eq (l : List Smp) (i : Nat) : smpX l i = (l.getD i s0).x := by
 unfold smpX Smp.x
 rw [Int.toNat_natCast, smpA_l, smpA_r]
structure Fill (f : Nat → Smp) (n : Nat) (O : List Smp) (i : Nat) : Prop where
 len : O.length = n
 done : ∀ j, j < i → O.getD j s0 = f j
theorem Fill.step {f : Nat → Smp} {n : Nat} {O : List Smp} {i : Nat} (h : Fill f n O i) (hi : i < n) : Fill f n (O.set i (f i)) (i + 1) := by
 have hl := h.len
 refine ⟨by rw [List.length_set]; exact hl, fun j hj => ?_⟩
 rw [getD_set' _ _ _ _ _ (by omega)]
 split
 ·rename_i e; rw [e]
 ·exact h.done j (by omega)
theorem Fill.fin {f : Nat → Smp} {n : Nat} {O : List Smp} (h : Fill f n O n) : O = (List.range n).map f := by
 have hl := h.len
 refine List.ext_getElem (by simp [hl]) fun j h1 h2 => ?_
 have h3 := h.done j (by omega)
 simpa [List.getD_eq_getElem?_getD, h1] using h3
@[reducible] def rowP (O : List Smp) : Blk := .row 99 false KS (smpA O)
theorem eb51 : Tryz.t99.bytes = 16 := by kernel_rfl
def cutF (c : Cut) (l : List Smp) : List Smp := (List.range l.length).map fun i => ptF c (l.getD i s0)
structure SmpsOK (l : List Smp) : Prop where
 len : l.length ≤ 4096
 each : ∀ j, j < l.length → (l.getD j s0).ok
theorem smpE_iff (l : List Smp) : smpE l = 0 ↔ SmpsOK l := by
 unfold smpE
 constructor
 ·intro h
  by_cases h1 : 4096 < l.length
  ·rw [if_pos h1] at h; cases h
  rw [if_neg h1] at h
  by_cases h2 : ∀ s ∈ l, s.ok
  ·exact ⟨by omega, fun j hj => h2 _ (getD_mem' s0 hj)⟩
  ·rw [if_neg h2] at h; cases h
 ·intro h
  rw [if_neg (by have := h.len; omega), if_pos]
  intro s hs
  obtain ⟨q, hq, e⟩ := List.getElem_of_mem hs
  have := h.each q hq
  rw [List.getD_eq_getElem?_getD, List.getElem?_eq_getElem hq] at this
  rw [← e]
  exact this
inductive CutRs (c : Cut) (l : List Smp) (r : AV) (m' : List (Option Blk)) : Prop
 | bad (e : Int) (h : ¬ (CutOK c ∧ SmpsOK l)) (he : e ≠ 0) (hr : r = .tup [.one .nils, I e]) (hm : m' = [])
 | ok (hC : CutOK c) (hl : SmpsOK l) (hr : r = .tup [.one (.own 0), I 0]) (hm : m' = [some (rowP (cutF c l))])
theorem s30 (c : Cut) (l : List Smp) : HSpec Tryz.prog 87 [c.x, lS l] [] (CutRs c l) := by
 have ll := smpA_len l
 have v1 := s105 c
 have v2 := s103 l
 have v3 := smpE_iff l
 refine spec_g (bodyOf Tryz.f87) [] pMix Tryz.func87 Tryz.ntmps87 [.tmp 4, .tmp 5] ?_
 repeat' ((conv => whnf); first | refine Rng.g ?_ | fail)
 conv => whnf
 refine CallVC.mk [] _ _ _ rfl rfl rfl (v1) (fun r m' h' => ?_)
 obtain ⟨e, rfl, rfl, he⟩ := h'
 conv => whnf
 repeat' ((conv => whnf); first | refine CallVC.pure rfl (v2) ?_ | (refine Br.mk (fun h => ?_) (fun h => ?_) <;> first | (exfalso; omega; done) | (exfalso; simp at h; done) | skip))
 ·conv => whnf
  refine EndVC.mk _ rfl _ _ (.bad e (fun h2 => h (he.2 h2.1)) h rfl rfl) ?_
  exact Le.g []
 ·conv => whnf
  refine EndVC.mk _ rfl _ _ (.bad _ (fun h2 => h (v3.2 h2.2)) h rfl rfl) ?_
  exact Le.g []
 ·rename_i g1
  have hC := he.1 (Classical.not_not.1 g1)
  have hL := v3.1 (Classical.not_not.1 h)
  have hl4 := hL.len
  refine Ob.mk (by simp only [eb51]; omega) ?_
  repeat' ((conv => whnf); first | refine Rng.g ?_ | fail)
  refine LoopVC.mk (fun n st => ∃ (i : Nat) (O : List Smp), i ≤ l.length ∧ n = l.length - i ∧ Fill (fun j => ptF c (l.getD j s0)) l.length O i ∧ st = ⟨0, envA 39 [(24, .x (lS l)), (2, .x (.one (.ptr 0 0))), (8, .x (.one (.own 1))), (25, .int .i64 (l.length : Int)), (26, .int .i64 (i : Int))], [some (.box 189 [.int .i64 c.half, .int .i64 c.gain, .int .i64 c.thin, .int .i64 c.wide, .int .i64 c.slope, .int .i64 c.jerk, .int .i64 c.sty]), some (rowP O)]⟩) _ _ ⟨0, List.replicate l.length s0, Nat.zero_le _, rfl, ⟨by simp, fun j hj => absurd hj (Nat.not_lt_zero j)⟩, rfl⟩ ?_ ?_
  ·refine ⟨[some 0, some 1], rfl, rfl, ?_, ?_⟩ <;> repeat' (first | exact trivial | exact rfl | apply And.intro)
   ·exact congrArg Int.ofNat ll
   ·show List.replicate ((List.length (smpA l) : Int)).toNat _ = _
    rw [Int.toNat_natCast, ll]
    exact smpA_rep _
  rintro n _ ⟨i, O, hi, hn, hO, rfl⟩
  have lO := smpA_len O
  have hOl := hO.len
  by_cases hi' : i < l.length
  ·have u1 : updRow (smpA O) (i : Int).toNat 0 [.int (ptF c (l.getD i s0)).l, .int (ptF c (l.getD i s0)).r] = smpA (O.set i (ptF c (l.getD i s0))) := by rw [Int.toNat_natCast]; exact smpA_set O i _ (by omega)
   have c1 : PSpec Tryz.prog 107 [c.x, smpX l i] (.x (ptF c (l.getD i s0)).x) := smpX_eq l i ▸ s106 c _ hC (hL.each i hi')
   repeat' ((conv => whnf); first | rw [u1] | refine Rng.g ?_ | refine Ob.g ?_ | refine CallVC.pure rfl (c1) ?_ | refine Br.t (fun h => ?_))
   refine Back.mk (l.length - (i + 1)) _ (by omega) ⟨i + 1, _, by omega, rfl, hO.step hi', rfl⟩ ?_
   exact Le.g [some 0, some 1]
  ·repeat' ((conv => whnf); refine Br.f (fun h => ?_))
   have e1 : i = l.length := by omega
   rw [e1] at hO
   rw [hO.fin]
   conv => whnf
   refine EndVC.mk _ rfl _ _ (.ok hC hL rfl rfl) ?_
   exact Le.g [some 1]
end Go.Sx

namespace Go.Sx
open Go Go.Proofs
set_option maxRecDepth 10000
set_option maxHeartbeats 2000000
def amt (n : Int) : Int := if n < -n then -n else n
theorem s111 (n : Int) (hn : -1000000000000 ≤ n ∧ n ≤ 1000000000000) : PSpec Tryz.prog 167 [I n] (.x (I (amt n))) := by
 refine spec_g (bodyOf Tryz.f167) [] pMix Tryz.func167 Tryz.ntmps167 [.tmp 2] ?_
 repeat' ((conv => whnf); first | refine Rng.g ?_ | refine Mm.mk ?_)
 ·refine EndVC.mk _ rfl _ _ ⟨rfl, rfl⟩ ?_
  refine ⟨[], rfl, rfl, ?_, ?_⟩ <;> repeat' (first | exact trivial | exact rfl | apply And.intro)
  unfold amt
  rw [Int.zero_sub]
structure Least (p : Int → Prop) (n k : Int) : Prop where
 rng : 0 ≤ k ∧ k ≤ n
 no : ∀ q, 0 ≤ q → q < k → ¬ p q
 yes : k < n → p k
end Go.Sx

namespace Go.Sx
open Go Go.Proofs
set_option maxRecDepth 10000
set_option maxHeartbeats 2000000
def edgeP (p : Smp) : Prop := (p.l ≥ -4194304 ∧ p.l ≤ 4194304) ∧ (p.r ≥ -4194304 ∧ p.r ≤ 4194304)
end Go.Sx

namespace Go.Sx
open Go Go.Proofs
set_option maxRecDepth 10000
set_option maxHeartbeats 4000000
theorem e142 : EntersF Tryz.prog 142 := enters_of Tryz.func142 (c := bodyOf Tryz.f142) (by kernel_rfl) rfl
instance (p : Smp) : Decidable (edgeP p) := by unfold edgeP; exact inferInstance
theorem s113 (r per : Int) : PSpec Tryz.prog 109 [I r, I per] (.x (I (if (0 ≤ r ∧ r ≤ 4194304) ∧ (1 ≤ per ∧ per ≤ 65536) then 0 else 3))) := by
 by_cases hk : (0 ≤ r ∧ r ≤ 4194304) ∧ (1 ≤ per ∧ per ≤ 65536)
 ·rw [if_pos hk]
  refine spec_g (bodyOf Tryz.f109) [] pMix Tryz.func109 Tryz.ntmps109 [.tmp 4] ?_
  repeat' ((conv => whnf); first | refine CallVC.pure rfl (s205 r 0 4194304) ?_ | refine CallVC.pure rfl (s205 per 1 65536) ?_ | refine Br.f (fun h => ?_))
  refine EndVC.mk _ rfl _ _ ⟨rfl, rfl⟩ ?_
  exact Le.g []
 ·rw [if_neg hk]
  refine spec_g (bodyOf Tryz.f109) [] pMix Tryz.func109 Tryz.ntmps109 [.tmp 4] ?_
  repeat' ((conv => whnf); first | refine CallVC.pure rfl (s205 r 0 4194304) ?_ | refine CallVC.pure rfl (s205 per 1 65536) ?_ | refine Br.t (fun h => ?_) | refine Br.mk (fun h => ?_) fun h => ?_)
  all_goals
   refine EndVC.mk _ rfl _ _ ⟨rfl, rfl⟩ ?_
   exact Le.g []
structure PtsOK (l : List Smp) : Prop where
 len : l.length ≤ 4096
 each : ∀ j, j < l.length → edgeP (l.getD j s0)
theorem s153 (l : List Smp) : HSpec Tryz.prog 72 [lS l] [] (fun r m' => ∃ e, r = .x (I e) ∧ m' = [] ∧ (e = 0 ↔ PtsOK l)) := by
 have ll := smpA_len l
 by_cases hl : 4096 < l.length
 ·refine spec_g (bodyOf Tryz.f72) [] pMix Tryz.func72 Tryz.ntmps72 [.tmp 2] ?_
  repeat' ((conv => whnf); refine Br.t (fun h => ?_))
  conv => whnf
  refine EndVC.mk _ rfl _ _ (⟨6, rfl, rfl, ⟨fun h => (by cases h), fun hC => (by have := hC.len; omega)⟩⟩) ?_
  exact Le.g []
 refine spec_g (bodyOf Tryz.f72) [] pMix Tryz.func72 Tryz.ntmps72 [.tmp 2] ?_
 repeat' ((conv => whnf); refine Br.f (fun h => ?_))
 refine LoopVC.mk (fun n st => ∃ (i : Nat), i ≤ l.length ∧ n = l.length - i ∧ (∀ j, j < i → edgeP (l.getD j s0)) ∧ st = ⟨0, envA 18 [(8, .x (lS l)), (9, .int .i64 (l.length : Int)), (10, .int .i64 (i : Int))], []⟩) _ _ ⟨0, Nat.zero_le _, rfl, fun j hj => absurd hj (Nat.not_lt_zero j), rfl⟩ ?_ ?_
 ·refine ⟨[], rfl, rfl, ?_, ?_⟩ <;> repeat' (first | exact trivial | exact rfl | apply And.intro)
  exact congrArg Int.ofNat ll
 rintro n _ ⟨i, hi, hn, hj, rfl⟩
 by_cases hi' : i < l.length
 ·have c1 : PSpec Tryz.prog 91 [smpX l i] (xP (edgeP (l.getD i s0))) := smpX_eq l i ▸ s107 _
  repeat' ((conv => whnf); first | refine Rng.g ?_ | refine Ob.g ?_ | refine CallVC.pure rfl (c1) ?_ | refine Br.t (fun h => ?_) | (refine Br.mk (fun h => ?_) (fun h => ?_) <;> first | (exfalso; omega; done) | (exfalso; simp at h; done) | skip))
  ·conv => whnf
   refine EndVC.mk _ rfl _ _ (⟨2, rfl, rfl, ⟨fun h => (by cases h), fun hC => absurd (hC.each i hi') h⟩⟩) ?_
   exact Le.g []
  ·refine Back.mk (l.length - (i + 1)) _ (by omega) ⟨i + 1, by omega, rfl, fun j hj' => ?_, rfl⟩ ?_
   ·rcases Nat.lt_succ_iff_lt_or_eq.1 hj' with h' | rfl
    ·exact hj j h'
    ·exact Classical.not_not.1 h
   ·exact Le.g []
 ·repeat' ((conv => whnf); refine Br.f (fun h => ?_))
  conv => whnf
  refine EndVC.mk _ rfl _ _ (⟨0, rfl, rfl, ⟨fun _ => ⟨by omega, fun j hj' => hj j (by omega)⟩, fun _ => rfl⟩⟩) ?_
  exact Le.g []
theorem s327 (a b : Int) : PSpec Tryz.prog 166 [lL [a, b]] (.x (I (if a < b then b else a))) := by
 have l2 : (i64s [a, b]).length = 2 := rfl
 refine spec_g (bodyOf Tryz.f166) [] pMix Tryz.func166 Tryz.ntmps166 [.tmp 2] ?_
 have l3 : (List.drop ((some (1 : Int)).getD 0).toNat (List.take ((none : Option Int).getD (List.length (i64s [a, b]) : Int)).toNat (i64s [a, b]))).length = 1 := rfl
 repeat' ((conv => whnf); first | refine Ob.g ?_ | fail)
 refine LoopVC.un 2 ?_
 repeat' ((conv => whnf); first | refine Rng.g ?_ | refine Ob.g ?_ | refine Mm.mk ?_ | refine Br.t (fun h => ?_) | refine Br.f (fun h => ?_))
 refine EndVC.mk _ rfl _ _ ⟨rfl, rfl⟩ ?_
 exact Le.g []
structure Trk where
 c : Cut
 p : List Smp
 r : Int
 per : Int
@[reducible] def KTk : List CK := [.int .i64, .int .i64, .int .i64, .int .i64, .int .i64, .int .i64, .int .i64, .sl KS, .int .i64, .int .i64]
def tkA (t : Trk) : Arr := [[.int t.c.half, .int t.c.gain, .int t.c.thin, .int t.c.wide, .int t.c.slope, .int t.c.jerk, .int t.c.sty, .sl (smpA t.p), .int t.r, .int t.per]]
@[reducible] def tkX (t : Trk) : XV := .one (.lel true KTk (tkA t) 0 0)
@[reducible] def bTk (t : Trk) : Blk := .box 271 [.int .i64 t.c.half, .int .i64 t.c.gain, .int .i64 t.c.thin, .int .i64 t.c.wide, .int .i64 t.c.slope, .int .i64 t.c.jerk, .int .i64 t.c.sty, .lst true KS (smpA t.p), .int .i64 t.r, .int .i64 t.per]
structure TrkOK (t : Trk) : Prop where
 c : CutOK t.c
 p : PtsOK t.p
 r : 0 ≤ t.r ∧ t.r ≤ 4194304
 per : 1 ≤ t.per ∧ t.per ≤ 65536
@[reducible] def befX (l : List Smp) (i : Nat) : Bool → SV
 | true => .lel true KS (smpA l) (i - 1) 0
 | false => .nilp
@[reducible] def aftX (l : List Smp) (i : Nat) : Bool → SV
 | true => .lel true KS (smpA l) (i + 1) 0
 | false => .nilp
@[reducible] def nrX (l : List Smp) (i : Nat) (b a : Bool) : XV := .agg [befX l i b, .lel true KS (smpA l) i 0, aftX l i a]
theorem s283 (l : List Smp) (i : Nat) (b a : Bool) (hp : edgeP (l.getD i s0)) : PSpec Tryz.prog 157 [nrX l i b a] (.x (I ((l.getD i s0).r - (l.getD i s0).l))) := by
 have g0 : rI (smpA l) i (0 + 0) = (l.getD i s0).l := smpA_l l i
 have g1 : rI (smpA l) i (0 + (0 + 1)) = (l.getD i s0).r := smpA_r l i
 obtain ⟨h1, h2⟩ := hp
 cases b
 all_goals
  cases a
  all_goals
   refine spec_g (bodyOf Tryz.f157) [] pMix Tryz.func157 Tryz.ntmps157 [.tmp 2] ?_
   repeat' ((conv => whnf); first | refine Rng.g ?_ | fail)
   refine EndVC.mk _ rfl _ _ ⟨rfl, rfl⟩ ?_
   refine ⟨[], rfl, rfl, ?_, ?_⟩ <;> repeat' (first | exact trivial | exact rfl | apply And.intro)
   rw [g0, g1]
def mx2 (a b : Int) : Int := if a < b then b else a
def stF (l : List Smp) (i : Nat) (b : Bool) : Int := if b = true then mx2 (amt ((l.getD i s0).l - (l.getD (i - 1) s0).l)) (amt ((l.getD i s0).r - (l.getD (i - 1) s0).r)) else 0
def bdF (l : List Smp) (i : Nat) (b a : Bool) : Int := if b = true ∧ a = true then mx2 (amt ((l.getD (i - 1) s0).l + (l.getD (i + 1) s0).l - 2 * (l.getD i s0).l)) (amt ((l.getD (i - 1) s0).r + (l.getD (i + 1) s0).r - 2 * (l.getD i s0).r)) else 0
theorem amt_bd {n B : Int} (h : -B ≤ n ∧ n ≤ B) : 0 ≤ amt n ∧ amt n ≤ B := by unfold amt; split <;> omega
structure NearOK (l : List Smp) (i : Nat) (b a : Bool) : Prop where
 h : edgeP (l.getD i s0)
 b : b = true → edgeP (l.getD (i - 1) s0)
 a : a = true → edgeP (l.getD (i + 1) s0)
theorem stF_bd {l : List Smp} {i : Nat} {b a : Bool} (hp : NearOK l i b a) : 0 ≤ stF l i b ∧ stF l i b ≤ 8388608 := by
 unfold stF
 split
 ·rename_i hb
  obtain ⟨h1, h2⟩ := hp.h
  obtain ⟨h3, h4⟩ := hp.b hb
  have h5 := amt_bd (n := (l.getD i s0).l - (l.getD (i - 1) s0).l) (B := 8388608) (by omega)
  have h6 := amt_bd (n := (l.getD i s0).r - (l.getD (i - 1) s0).r) (B := 8388608) (by omega)
  unfold mx2
  split <;> omega
 ·omega
theorem bdF_bd {l : List Smp} {i : Nat} {b a : Bool} (hp : NearOK l i b a) : 0 ≤ bdF l i b a ∧ bdF l i b a ≤ 16777216 := by
 unfold bdF
 split
 ·rename_i hb
  obtain ⟨h1, h2⟩ := hp.h
  obtain ⟨h3, h4⟩ := hp.b hb.1
  obtain ⟨h7, h8⟩ := hp.a hb.2
  have h5 := amt_bd (n := (l.getD (i - 1) s0).l + (l.getD (i + 1) s0).l - 2 * (l.getD i s0).l) (B := 16777216) (by omega)
  have h6 := amt_bd (n := (l.getD (i - 1) s0).r + (l.getD (i + 1) s0).r - 2 * (l.getD i s0).r) (B := 16777216) (by omega)
  unfold mx2
  split <;> omega
 ·omega
theorem s284 (l : List Smp) (i : Nat) (b a : Bool) (hp : NearOK l i b a) : PSpec Tryz.prog 158 [nrX l i b a] (.x (I (stF l i b))) := by
 have g0 : rI (smpA l) i (0 + 0) = (l.getD i s0).l := smpA_l l i
 have g1 : rI (smpA l) i (0 + (0 + 1)) = (l.getD i s0).r := smpA_r l i
 have g2 : rI (smpA l) (i - 1) (0 + 0) = (l.getD (i - 1) s0).l := smpA_l l _
 have g3 : rI (smpA l) (i - 1) (0 + (0 + 1)) = (l.getD (i - 1) s0).r := smpA_r l _
 obtain ⟨h1, h2⟩ := hp.h
 cases b with
 | false =>
  cases a
  all_goals
   refine spec_g (bodyOf Tryz.f158) ([(3, ([], ordDef 0 11 ++ ordDef 12 11 ++ [⟨11, [12, 13, 14, 15, 16, 17, 18, 19, 20, 21, 22], []⟩, ⟨23, [], [24]⟩] ++ ordDef 24 3))]) pMix Tryz.func158 Tryz.ntmps158 [.tmp 2] ?_
   repeat' ((conv => whnf); first | (refine Br.mk (fun h => ?_) (fun h => ?_) <;> first | (exfalso; omega; done) | (exfalso; simp at h; done) | skip))
   refine EndVC.mk _ rfl _ _ ⟨rfl, rfl⟩ ?_
   exact Le.g []
 | true =>
  obtain ⟨h3, h4⟩ := hp.b rfl
  have c1 := s111 (rI (smpA l) i (0 + 0) - rI (smpA l) (i - 1) (0 + 0)) (by omega)
  have c2 := s111 (rI (smpA l) i (0 + (0 + 1)) - rI (smpA l) (i - 1) (0 + (0 + 1))) (by omega)
  have c3 := s327 (amt (rI (smpA l) i (0 + 0) - rI (smpA l) (i - 1) (0 + 0))) (amt (rI (smpA l) i (0 + (0 + 1)) - rI (smpA l) (i - 1) (0 + (0 + 1))))
  cases a
  all_goals
   refine spec_g (bodyOf Tryz.f158) ([(3, ([], ordDef 0 11 ++ ordDef 12 11 ++ [⟨11, [12, 13, 14, 15, 16, 17, 18, 19, 20, 21, 22], []⟩, ⟨23, [], [24]⟩] ++ ordDef 24 3))]) pMix Tryz.func158 Tryz.ntmps158 [.tmp 2] ?_
   repeat' ((conv => whnf); first | refine Rng.g ?_ | refine CallVC.pure rfl (c2) ?_ | refine CallVC.pure rfl (c3) ?_ | refine CallVC0.pure rfl (c1) ?_ | (refine Br.mk (fun h => ?_) (fun h => ?_) <;> first | (exfalso; omega; done) | (exfalso; simp at h; done) | skip))
   refine EndVC.mk _ rfl _ _ ⟨rfl, rfl⟩ ?_
   refine ⟨[], rfl, rfl, ?_, ?_⟩ <;> repeat' (first | exact trivial | exact rfl | apply And.intro)
   rw [g0, g1, g2, g3]
   rfl
theorem s285 (l : List Smp) (i : Nat) (b a : Bool) (hp : NearOK l i b a) : PSpec Tryz.prog 159 [nrX l i b a] (.x (I (bdF l i b a))) := by
 have g0 : rI (smpA l) i (0 + 0) = (l.getD i s0).l := smpA_l l i
 have g1 : rI (smpA l) i (0 + (0 + 1)) = (l.getD i s0).r := smpA_r l i
 have g2 : rI (smpA l) (i - 1) (0 + 0) = (l.getD (i - 1) s0).l := smpA_l l _
 have g3 : rI (smpA l) (i - 1) (0 + (0 + 1)) = (l.getD (i - 1) s0).r := smpA_r l _
 have g4 : rI (smpA l) (i + 1) (0 + 0) = (l.getD (i + 1) s0).l := smpA_l l _
 have g5 : rI (smpA l) (i + 1) (0 + (0 + 1)) = (l.getD (i + 1) s0).r := smpA_r l _
 obtain ⟨h1, h2⟩ := hp.h
 by_cases hba : b = true ∧ a = true
 ·obtain ⟨rfl, rfl⟩ := hba
  obtain ⟨h3, h4⟩ := hp.b rfl
  obtain ⟨h5, h6⟩ := hp.a rfl
  have c1 := s111 (rI (smpA l) (i - 1) (0 + 0) + rI (smpA l) (i + 1) (0 + 0) - 2 * rI (smpA l) i (0 + 0)) (by omega)
  have c2 := s111 (rI (smpA l) (i - 1) (0 + (0 + 1)) + rI (smpA l) (i + 1) (0 + (0 + 1)) - 2 * rI (smpA l) i (0 + (0 + 1))) (by omega)
  have c3 := s327 (amt (rI (smpA l) (i - 1) (0 + 0) + rI (smpA l) (i + 1) (0 + 0) - 2 * rI (smpA l) i (0 + 0))) (amt (rI (smpA l) (i - 1) (0 + (0 + 1)) + rI (smpA l) (i + 1) (0 + (0 + 1)) - 2 * rI (smpA l) i (0 + (0 + 1))))
  refine spec_g (bodyOf Tryz.f159) ([(3, ([], ordDef 0 18 ++ ordDef 19 18 ++ [⟨18, [19, 20, 21, 22, 23, 24, 25, 26, 27, 28, 29, 30, 31, 32, 33, 34, 35, 36], []⟩, ⟨37, [], [38]⟩] ++ ordDef 38 3))]) pMix Tryz.func159 Tryz.ntmps159 [.tmp 2] ?_
  repeat' ((conv => whnf); first | refine Rng.g ?_ | refine CallVC.pure rfl (c2) ?_ | refine CallVC.pure rfl (c3) ?_ | refine CallVC0.pure rfl (c1) ?_ | refine Br.f (fun h => ?_) | (refine Br.mk (fun h => ?_) (fun h => ?_) <;> first | (exfalso; omega; done) | (exfalso; simp at h; done) | skip))
  refine EndVC.mk _ rfl _ _ ⟨rfl, rfl⟩ ?_
  refine ⟨[], rfl, rfl, ?_, ?_⟩ <;> repeat' (first | exact trivial | exact rfl | apply And.intro)
  rw [g0, g1, g2, g3, g4, g5]
  rfl
 ·cases b
  all_goals
   cases a
   all_goals first | (exact absurd ⟨rfl, rfl⟩ hba) | skip
   all_goals
    refine spec_g (bodyOf Tryz.f159) ([(3, ([], ordDef 0 18 ++ ordDef 19 18 ++ [⟨18, [19, 20, 21, 22, 23, 24, 25, 26, 27, 28, 29, 30, 31, 32, 33, 34, 35, 36], []⟩, ⟨37, [], [38]⟩] ++ ordDef 38 3))]) pMix Tryz.func159 Tryz.ntmps159 [.tmp 2] ?_
    repeat' ((conv => whnf); first | (refine Br.mk (fun h => ?_) (fun h => ?_) <;> first | (exfalso; omega; done) | (exfalso; simp at h; done) | skip))
    refine EndVC.mk _ rfl _ _ ⟨rfl, rfl⟩ ?_
    exact Le.g []
end Go.Sx

namespace Go.Sx
open Go Go.Proofs
set_option maxRecDepth 10000
set_option maxHeartbeats 4000000
@[reducible] def Blnk.x (b : Blnk) : XV := .agg [.int .i64 b.per, .int .i64 b.rim, .int .i64 b.core, .int .i64 b.land, .int .i64 b.slow, .int .i64 b.fast]
@[reducible] def bSd (b : Blnk) (p : List Smp) : Blk := .box 223 [.int .i64 b.per, .int .i64 b.rim, .int .i64 b.core, .int .i64 b.land, .int .i64 b.slow, .int .i64 b.fast, .lst true KS (smpA p), .int .i64 b.per]
theorem PtsOK.ptb {p : List Smp} (h : PtsOK p) : PtB p := ⟨h.len, fun j hj => by
 have := h.each j hj
 unfold edgeP at this
 omega⟩
theorem s293 (x a b : Int) : PSpec Tryz.prog 119 [I x, I a, I b] (xP (x ≥ a ∧ x ≤ b)) := by
 refine spec_g (bodyOf Tryz.f119) [] pMix Tryz.func119 Tryz.ntmps119 [.tmp 6] ?_
 repeat' ((conv => whnf); first | (refine Br.mk (fun h => ?_) (fun h => ?_) <;> first | (exfalso; omega; done) | (exfalso; simp at h; done) | skip))
 ·refine EndVC.mk _ rfl _ _ ⟨rfl, rfl⟩ ?_
  refine ⟨[], rfl, rfl, ?_, ?_⟩ <;> repeat' (first | exact trivial | apply And.intro)
  exact ⟨fun h2 => ⟨h, h2⟩, fun h2 => h2.2⟩
 ·refine EndVC.mk _ rfl _ _ ⟨rfl, rfl⟩ ?_
  refine ⟨[], rfl, rfl, ?_, ?_⟩ <;> repeat' (first | exact trivial | apply And.intro)
  exact fun h2 => h h2.1
theorem s226 (b : Blnk) : HSpec Tryz.prog 98 [b.x] [] (fun r m' => ∃ e, r = .x (I e) ∧ m' = [] ∧ (e = 0 ↔ BlnkOK b)) := by
 refine spec_g (bodyOf Tryz.f98) [] pMix Tryz.func98 Tryz.ntmps98 [.tmp 2] ?_
 repeat' ((conv => whnf); first | refine CallVC.pure rfl (s293 b.per 1 65536) ?_ | refine CallVC.pure rfl (s293 b.rim 0 4194304) ?_ | refine CallVC.pure rfl (s293 b.core 0 b.rim) ?_ | refine CallVC.pure rfl (s293 b.land 0 65536) ?_ | refine CallVC.pure rfl (s293 b.fast 0 65536) ?_ | refine CallVC.pure rfl (s293 b.slow 0 b.fast) ?_ | refine Br.mk (fun h => ?_) fun h => ?_)
 rotate_right
 ·conv => whnf
  refine EndVC.mk _ rfl _ _ (⟨0, rfl, rfl, ⟨fun _ => ⟨by omega, by omega, by omega, by omega, by omega, by omega⟩, fun _ => rfl⟩⟩) ?_
  exact Le.g []
 all_goals
  conv => whnf
  refine EndVC.mk _ rfl _ _ (⟨2, rfl, rfl, ⟨fun h => (by cases h), fun hC => (by obtain ⟨h1, h2, h3, h4, h5, h6⟩ := hC; omega)⟩⟩) ?_
  exact Le.g []
theorem s135 (b : Blnk) (p : List Smp) : HSpec Tryz.prog 83 [b.x, lS p] [] (fun r m' => (∃ e, ¬ (BlnkOK b ∧ PtsOK p) ∧ e ≠ 0 ∧ r = .tup [.one .nilp, I e] ∧ m' = []) ∨ (BlnkOK b ∧ PtsOK p ∧ r = .tup [.one (.ptr 0 0), I 0] ∧ m' = [some (bSd b p)])) := by
 have v1 := s226 b
 have v2 := s153 p
 by_cases hC : ¬ BlnkOK b
 ·refine spec_g (bodyOf Tryz.f83) [] pMix Tryz.func83 Tryz.ntmps83 [.tmp 4, .tmp 5] ?_
  repeat' ((conv => whnf); first | refine Rng.g ?_ | fail)
  conv => whnf
  refine CallVC.mk [] _ _ _ rfl rfl rfl (v1) (fun r m' h' => ?_)
  obtain ⟨e, rfl, rfl, he⟩ := h'
  conv => whnf
  have he0 : e ≠ 0 := fun h0 => hC (he.1 h0)
  repeat' ((conv => whnf); refine Br.t (fun h => ?_))
  conv => whnf
  refine EndVC.mk _ rfl _ _ (.inl ⟨e, fun h => hC h.1, he0, rfl, rfl⟩) ?_
  exact Le.g []
 replace hC := Classical.not_not.1 hC
 by_cases hP : ¬ PtsOK p
 ·refine spec_g (bodyOf Tryz.f83) [] pMix Tryz.func83 Tryz.ntmps83 [.tmp 4, .tmp 5] ?_
  repeat' ((conv => whnf); first | refine Rng.g ?_ | fail)
  conv => whnf
  refine CallVC.mk [] _ _ _ rfl rfl rfl (v1) (fun r m' h' => ?_)
  obtain ⟨e, rfl, rfl, he⟩ := h'
  conv => whnf
  cases he.2 hC
  repeat' ((conv => whnf); refine Br.f (fun h => ?_))
  conv => whnf
  refine CallVC.mk [] _ _ _ rfl rfl rfl (v2) (fun r m' h' => ?_)
  obtain ⟨e, rfl, rfl, he'⟩ := h'
  conv => whnf
  have he0 : e ≠ 0 := fun h0 => hP (he'.1 h0)
  repeat' ((conv => whnf); refine Br.t (fun h => ?_))
  conv => whnf
  refine EndVC.mk _ rfl _ _ (.inl ⟨e, fun h => hP h.2, he0, rfl, rfl⟩) ?_
  exact Le.g []
 replace hP := Classical.not_not.1 hP
 have hb1 := hC.per
 refine spec_g (bodyOf Tryz.f83) [] pMix Tryz.func83 Tryz.ntmps83 [.tmp 4, .tmp 5] ?_
 repeat' ((conv => whnf); first | refine Rng.g ?_ | fail)
 conv => whnf
 refine CallVC.mk [] _ _ _ rfl rfl rfl (v1) (fun r m' h' => ?_)
 obtain ⟨e, rfl, rfl, he⟩ := h'
 conv => whnf
 cases he.2 hC
 repeat' ((conv => whnf); refine Br.f (fun h => ?_))
 conv => whnf
 refine CallVC.mk [] _ _ _ rfl rfl rfl (v2) (fun r m' h' => ?_)
 obtain ⟨e, rfl, rfl, he'⟩ := h'
 conv => whnf
 cases he'.2 hP
 repeat' ((conv => whnf); refine Br.f (fun h => ?_))
 conv => whnf
 refine EndVC.mk _ rfl _ _ (.inr ⟨hC, hP, rfl, rfl⟩) ?_
 exact Le.g [some 1]
@[reducible] def Edg.x (e : Edg) : XV := .agg [.int .i64 e.rule, .int .i64 e.pos, .int .i64 e.fr, .int .i64 e.to, .int .i64 e.w]
@[reducible] def xB (p : Prop) [Decidable p] : XV := .one (.prp p inferInstance)
theorem pt_cells (p : List Smp) (i : Nat) : rI (smpA p) (i : Int).toNat 0 = (p.getD i s0).l ∧ rI (smpA p) (i : Int).toNat (0 + 1) = (p.getD i s0).r := by
 rw [Int.toNat_natCast]
 exact ⟨smpA_l p i, smpA_r p i⟩
@[reducible] def edSp (b : Blnk) (p : List Smp) (i : Nat) (rule : Int) (e : XV) (k : XV) : Prop := HSpec Tryz.prog 99 [.one (.ptr 0 0), I rule, I (i : Int)] [bSd b p] (fun r m' => r = .tup [e, k] ∧ m' = [some (bSd b p)])
theorem s248R (b : Blnk) (p : List Smp) (hb : BlnkOK b) (hp : PtB p) (i : Nat) (hi : i < p.length) : edSp b p i 1 (eR b p i).x (.one .tt) := by
 have lp := smpA_len p
 have hl := hp.len
 obtain ⟨c1, c2⟩ := pt_cells p i
 have h1 := hp.each i hi
 have h2 := hb.rim
 refine spec_g (bodyOf Tryz.f99) ([(8, ([], ordDef 0 9 ++ [⟨9, [0, 1, 2, 3, 4, 5, 6, 7], []⟩, ⟨10, [], []⟩, ⟨11, [], []⟩])), (10, ([], ordDef 0 9 ++ [⟨9, [0, 1, 2, 3, 4, 5, 6, 7], []⟩, ⟨10, [], []⟩, ⟨11, [], []⟩])), (12, ([], ordDef 0 9 ++ [⟨9, [2, 3, 4, 5, 6, 7], []⟩, ⟨10, [], []⟩, ⟨11, [], []⟩])), (15, ([], ordDef 0 8 ++ [⟨8, [2, 3, 4, 5, 6], []⟩, ⟨9, [], []⟩, ⟨10, [], []⟩])), (20, ([], ordDef 0 29 ++ [⟨29, [6, 7, 8, 9, 10, 11, 12, 13, 14, 15, 16, 17, 18, 19, 20, 21, 22, 23, 24, 25, 26, 27], []⟩, ⟨30, [], []⟩, ⟨31, [], []⟩]))]) pMix Tryz.func99 Tryz.ntmps99 [.cell 6 228, .tmp 7] ?_
 repeat' ((conv => whnf); first | rw [c1] | rw [c2] | refine Rng.g ?_ | refine Ob.g ?_ | refine JoinVC.on ?_ | refine Br.t (fun h => ?_) | refine Br.f (fun h => ?_))
 refine EndVC.mk _ rfl _ _ ⟨rfl, rfl⟩ ?_
 exact Le.g [some 0]
theorem s248C (b : Blnk) (p : List Smp) (hb : BlnkOK b) (hp : PtB p) (i : Nat) (hi : i < p.length) : edSp b p i 2 (eC b p i).x (.one .tt) := by
 have lp := smpA_len p
 have hl := hp.len
 obtain ⟨c1, c2⟩ := pt_cells p i
 have h1 := hp.each i hi
 have h2 := hb.core
 have h3 := hb.rim
 refine spec_g (bodyOf Tryz.f99) ([(8, ([], ordDef 0 9 ++ [⟨9, [0, 1, 2, 3, 4, 5, 6, 7], []⟩, ⟨10, [], []⟩, ⟨11, [], []⟩])), (10, ([], ordDef 0 9 ++ [⟨9, [0, 1, 2, 3, 4, 5, 6, 7], []⟩, ⟨10, [], []⟩, ⟨11, [], []⟩])), (12, ([], ordDef 0 9 ++ [⟨9, [2, 3, 4, 5, 6, 7], []⟩, ⟨10, [], []⟩, ⟨11, [], []⟩])), (15, ([], ordDef 0 8 ++ [⟨8, [2, 3, 4, 5, 6], []⟩, ⟨9, [], []⟩, ⟨10, [], []⟩])), (20, ([], ordDef 0 29 ++ [⟨29, [6, 7, 8, 9, 10, 11, 12, 13, 14, 15, 16, 17, 18, 19, 20, 21, 22, 23, 24, 25, 26, 27], []⟩, ⟨30, [], []⟩, ⟨31, [], []⟩]))]) pMix Tryz.func99 Tryz.ntmps99 [.cell 6 228, .tmp 7] ?_
 repeat' ((conv => whnf); first | rw [c1] | rw [c2] | refine Rng.g ?_ | refine Ob.g ?_ | refine JoinVC.on ?_ | refine Br.t (fun h => ?_) | refine Br.f (fun h => ?_))
 refine EndVC.mk _ rfl _ _ ⟨rfl, rfl⟩ ?_
 exact Le.g [some 0]
theorem s248S (b : Blnk) (p : List Smp) (hb : BlnkOK b) (hp : PtB p) (i : Nat) (hi : i < p.length) : edSp b p i 3 (eS b i).x (xB ((i : Int) > 0)) := by
 have lp := smpA_len p
 have hl := hp.len
 have h2 := hb.slow
 have h3 := hb.fast
 refine spec_g (bodyOf Tryz.f99) ([(8, ([], ordDef 0 9 ++ [⟨9, [0, 1, 2, 3, 4, 5, 6, 7], []⟩, ⟨10, [], []⟩, ⟨11, [], []⟩])), (10, ([], ordDef 0 9 ++ [⟨9, [0, 1, 2, 3, 4, 5, 6, 7], []⟩, ⟨10, [], []⟩, ⟨11, [], []⟩])), (12, ([], ordDef 0 9 ++ [⟨9, [2, 3, 4, 5, 6, 7], []⟩, ⟨10, [], []⟩, ⟨11, [], []⟩])), (15, ([], ordDef 0 8 ++ [⟨8, [2, 3, 4, 5, 6], []⟩, ⟨9, [], []⟩, ⟨10, [], []⟩])), (20, ([], ordDef 0 29 ++ [⟨29, [6, 7, 8, 9, 10, 11, 12, 13, 14, 15, 16, 17, 18, 19, 20, 21, 22, 23, 24, 25, 26, 27], []⟩, ⟨30, [], []⟩, ⟨31, [], []⟩]))]) pMix Tryz.func99 Tryz.ntmps99 [.cell 6 228, .tmp 7] ?_
 repeat' ((conv => whnf); first | refine Rng.g ?_ | refine Ob.g ?_ | refine JoinVC.on ?_ | refine Br.t (fun h => ?_) | refine Br.f (fun h => ?_))
 refine EndVC.mk _ rfl _ _ ⟨rfl, rfl⟩ ?_
 refine ⟨[some 0], rfl, rfl, ?_, ?_⟩ <;> repeat' (first | exact trivial | exact rfl | exact Iff.rfl | apply And.intro)
 exact Int.zero_sub _
theorem s248F (b : Blnk) (p : List Smp) (hb : BlnkOK b) (hp : PtB p) (i : Nat) (hi : i < p.length) : edSp b p i 4 (eF b i).x (xB ((i : Int) > 0)) := by
 have lp := smpA_len p
 have hl := hp.len
 have h3 := hb.fast
 refine spec_g (bodyOf Tryz.f99) ([(8, ([], ordDef 0 9 ++ [⟨9, [0, 1, 2, 3, 4, 5, 6, 7], []⟩, ⟨10, [], []⟩, ⟨11, [], []⟩])), (10, ([], ordDef 0 9 ++ [⟨9, [0, 1, 2, 3, 4, 5, 6, 7], []⟩, ⟨10, [], []⟩, ⟨11, [], []⟩])), (12, ([], ordDef 0 9 ++ [⟨9, [2, 3, 4, 5, 6, 7], []⟩, ⟨10, [], []⟩, ⟨11, [], []⟩])), (15, ([], ordDef 0 8 ++ [⟨8, [2, 3, 4, 5, 6], []⟩, ⟨9, [], []⟩, ⟨10, [], []⟩])), (20, ([], ordDef 0 29 ++ [⟨29, [6, 7, 8, 9, 10, 11, 12, 13, 14, 15, 16, 17, 18, 19, 20, 21, 22, 23, 24, 25, 26, 27], []⟩, ⟨30, [], []⟩, ⟨31, [], []⟩]))]) pMix Tryz.func99 Tryz.ntmps99 [.cell 6 228, .tmp 7] ?_
 repeat' ((conv => whnf); first | refine Rng.g ?_ | refine Ob.g ?_ | refine JoinVC.on ?_ | refine Br.t (fun h => ?_) | refine Br.f (fun h => ?_))
 refine EndVC.mk _ rfl _ _ ⟨rfl, rfl⟩ ?_
 exact Le.g [some 0]
theorem s248N (b : Blnk) (p : List Smp) (hb : BlnkOK b) (hp : PtB p) (i : Nat) (hi : i < p.length) (hn : (i : Int) < b.per) : edSp b p i 5 (⟨5, i, i, i, 0⟩ : Edg).x (.one .ff) := by
 have lp := smpA_len p
 have hl := hp.len
 have h3 := hb.per
 refine spec_g (bodyOf Tryz.f99) ([(8, ([], ordDef 0 9 ++ [⟨9, [0, 1, 2, 3, 4, 5, 6, 7], []⟩, ⟨10, [], []⟩, ⟨11, [], []⟩])), (10, ([], ordDef 0 9 ++ [⟨9, [0, 1, 2, 3, 4, 5, 6, 7], []⟩, ⟨10, [], []⟩, ⟨11, [], []⟩])), (12, ([], ordDef 0 9 ++ [⟨9, [2, 3, 4, 5, 6, 7], []⟩, ⟨10, [], []⟩, ⟨11, [], []⟩])), (15, ([], ordDef 0 8 ++ [⟨8, [2, 3, 4, 5, 6], []⟩, ⟨9, [], []⟩, ⟨10, [], []⟩])), (20, ([], ordDef 0 29 ++ [⟨29, [6, 7, 8, 9, 10, 11, 12, 13, 14, 15, 16, 17, 18, 19, 20, 21, 22, 23, 24, 25, 26, 27], []⟩, ⟨30, [], []⟩, ⟨31, [], []⟩]))]) pMix Tryz.func99 Tryz.ntmps99 [.cell 6 228, .tmp 7] ?_
 repeat' ((conv => whnf); first | refine Ob.g ?_ | refine JoinVC.on ?_ | refine Br.t (fun h => ?_) | refine Br.f (fun h => ?_))
 refine EndVC.mk _ rfl _ _ ⟨rfl, rfl⟩ ?_
 exact Le.g [some 0]
theorem s248L (b : Blnk) (p : List Smp) (hb : BlnkOK b) (hp : PtB p) (i : Nat) (hi : i < p.length) (hn : b.per ≤ (i : Int)) : edSp b p i 5 (eL b p i).x (.one .tt) := by
 have lp := smpA_len p
 have hl := hp.len
 obtain ⟨c1, c2⟩ := pt_cells p i
 have h1 := hp.each i hi
 have h4 := hb.per
 have h3 := hb.land
 have h2 := hp.each ((i : Int) - b.per).toNat (by omega)
 have c3 : rI (smpA p) ((i : Int) - b.per).toNat 0 = (p.getD ((i : Int) - b.per).toNat s0).l := smpA_l p _
 have c4 : rI (smpA p) ((i : Int) - b.per).toNat (0 + 0) = (p.getD ((i : Int) - b.per).toNat s0).l := smpA_l p _
 refine spec_g (bodyOf Tryz.f99) ([(8, ([], ordDef 0 9 ++ [⟨9, [0, 1, 2, 3, 4, 5, 6, 7], []⟩, ⟨10, [], []⟩, ⟨11, [], []⟩])), (10, ([], ordDef 0 9 ++ [⟨9, [0, 1, 2, 3, 4, 5, 6, 7], []⟩, ⟨10, [], []⟩, ⟨11, [], []⟩])), (12, ([], ordDef 0 9 ++ [⟨9, [2, 3, 4, 5, 6, 7], []⟩, ⟨10, [], []⟩, ⟨11, [], []⟩])), (15, ([], ordDef 0 8 ++ [⟨8, [2, 3, 4, 5, 6], []⟩, ⟨9, [], []⟩, ⟨10, [], []⟩])), (20, ([], ordDef 0 29 ++ [⟨29, [6, 7, 8, 9, 10, 11, 12, 13, 14, 15, 16, 17, 18, 19, 20, 21, 22, 23, 24, 25, 26, 27], []⟩, ⟨30, [], []⟩, ⟨31, [], []⟩]))]) pMix Tryz.func99 Tryz.ntmps99 [.cell 6 228, .tmp 7] ?_
 repeat' ((conv => whnf); first | rw [c4] | rw [c1] | rw [c2] | refine Rng.g ?_ | refine Ob.g ?_ | refine JoinVC.on ?_ | refine Br.t (fun h => ?_) | refine Br.f (fun h => ?_))
 refine EndVC.mk _ rfl _ _ ⟨rfl, rfl⟩ ?_
 exact Le.g [some 0]
end Go.Sx

namespace Go.Sx
open Go Go.Proofs
set_option maxRecDepth 10000
set_option maxHeartbeats 8000000
theorem i64s_upd (xs : List Int) (i : Nat) (v : Int) (h : i < xs.length) : updRow (i64s xs) i 0 [.int v] = i64s (xs.set i v) := by
 unfold updRow i64s
 rw [List.map_set]
 congr 1
 simp [List.getD_eq_getElem?_getD, h, setAll]
def Edg.row (e : Edg) : List Cell := [.int e.rule, .int e.pos, .int e.fr, .int e.to, .int e.w]
def edgA (P : List Edg) : Arr := P.map Edg.row
theorem edgA_len (P : List Edg) : (edgA P).length = P.length := by simp [edgA]
theorem edgA_0 (P : List Edg) (i : Nat) : rI (edgA P) i 0 = (P.getD i e0).rule := map_rI _ e0 P i 0 rfl
theorem edgA_1 (P : List Edg) (i : Nat) : rI (edgA P) i (0 + 1) = (P.getD i e0).pos := map_rI _ e0 P i 1 rfl
theorem edgA_2 (P : List Edg) (i : Nat) : rI (edgA P) i (0 + 1 + 1) = (P.getD i e0).fr := map_rI _ e0 P i 2 rfl
theorem edgA_3 (P : List Edg) (i : Nat) : rI (edgA P) i (0 + 1 + 1 + 1) = (P.getD i e0).to := map_rI _ e0 P i 3 rfl
theorem edgA_4 (P : List Edg) (i : Nat) : rI (edgA P) i (0 + 1 + 1 + 1 + 1) = (P.getD i e0).w := map_rI _ e0 P i 4 rfl
theorem edgA_set (P : List Edg) (i : Nat) (e : Edg) (h : i < P.length) : updRow (edgA P) i 0 e.row = edgA (P.set i e) := by
 unfold updRow edgA
 rw [List.map_set]
 congr 1
 simp [List.getD_eq_getElem?_getD, h, setAll, Edg.row]
@[reducible] def KE : List CK := [.int .i64, .int .i64, .int .i64, .int .i64, .int .i64]
@[reducible] def rowEd (P : List Edg) : Blk := .row 228 false KE (edgA P)
@[reducible] def rowRd (R : List Int) : Blk := .row 2 false [.int .i64] (i64s R)
theorem i64s_rep (n : Nat) : List.replicate n [Cell.int 0] = i64s (List.replicate n 0) := by simp [i64s]
theorem edgA_rep (n : Nat) : List.replicate n [Cell.int 0, Cell.int 0, Cell.int 0, Cell.int 0, Cell.int 0] = edgA (List.replicate n e0) := by simp [edgA, Edg.row]
@[reducible] def rowT (A : Arr) : Blk := .row 226 false [.int .i64, .int .i64] A
theorem eb363 : Tryz.t226.bytes = 16 := by kernel_rfl
theorem upd_len (a : Arr) (i f : Nat) (cs : List Cell) : (updRow a i f cs).length = a.length := by simp [updRow]
theorem s305 (A : Arr) (hl : A.length ≤ 1000000000) : HSpec Tryz.prog 121 [.one (.own 0)] [rowT A] (fun r m' => ∃ A' : Arr, A'.length = A.length ∧ r = .tup [] ∧ m' = [some (rowT A')]) := by
 refine spec_g (bodyOf Tryz.f121) ([(3, ([], ordDef 0 13 ++ [⟨13, [2, 3], []⟩, ⟨14, [], []⟩, ⟨15, [], []⟩]))]) pMix Tryz.func121 Tryz.ntmps121 [] ?_
 repeat' ((conv => whnf); first | refine Rng.g ?_ | fail)
 refine LoopVC.mk (fun n st => ∃ (i j : Int) (B : Arr), B.length = A.length ∧ 0 ≤ i ∧ i ≤ A.length ∧ j = (A.length : Int) - 1 - i ∧ n = (j - i + 2).toNat ∧ st = ⟨1, envA 28 [(0, .x (.one (.own 0))), (2, .int .i64 i), (3, .int .i64 j)], [some (rowT B)]⟩) _ _ ⟨0, (A.length : Int) - 1, A, rfl, by omega, by omega, by omega, rfl, rfl⟩ ?_ ?_
 ·exact Le.g [some 0]
 rintro n _ ⟨i, j, B, lB, hi, hi2, hj, hn, rfl⟩
 by_cases h1 : i < j
 ·have l1 := upd_len B i.toNat 0 [Cell.int (rI B j.toNat 0), Cell.int (rI B j.toNat (0 + 1))]
  repeat' ((conv => whnf); first | refine Rng.g ?_ | refine Ob.g ?_ | refine Br.t (fun h => ?_))
  refine Back.mk (j - 1 - (i + 1) + 2).toNat _ (by omega) ⟨i + 1, j - 1, updRow (updRow B i.toNat 0 [Cell.int (rI B j.toNat 0), Cell.int (rI B j.toNat (0 + 1))]) j.toNat 0 [Cell.int (rI B i.toNat 0), Cell.int (rI B i.toNat (0 + 1))], by rw [upd_len, upd_len]; exact lB, by omega, by omega, by omega, rfl, rfl⟩ ?_
  exact Le.g [some 0]
 ·repeat' ((conv => whnf); refine Br.f (fun h => ?_))
  conv => whnf
  refine EndVC.mk _ rfl _ _ (⟨B, lB, rfl, rfl⟩) ?_
  exact Le.g [some 0]
@[reducible] def bxE (P : List Edg) (q : Nat) : Blk := .box 228 [.int .i64 (rI (edgA P) (q : Int).toNat 0), .int .i64 (rI (edgA P) (q : Int).toNat (0 + 1)), .int .i64 (rI (edgA P) (q : Int).toNat (0 + 1 + 1)), .int .i64 (rI (edgA P) (q : Int).toNat (0 + 1 + 1 + 1)), .int .i64 (rI (edgA P) (q : Int).toNat (0 + 1 + 1 + 1 + 1))]
theorem s250 (P : List Edg) (v : Nat) (hl : P.length ≤ 4096) (hc : Circ P.length P v) : HSpec Tryz.prog 101 [.one (.lst true KE (edgA P)), I (v : Int)] [] (fun r m' => ∃ A : Arr, 0 < A.length ∧ r = .x (.one (.own 0)) ∧ m' = [some (rowT A)]) := by
 have lp := edgA_len P
 refine spec_g (bodyOf Tryz.f101) [] pMix Tryz.func101 Tryz.ntmps101 [.tmp 4] ?_
 repeat' ((conv => whnf); first | refine Rng.g ?_ | fail)
 refine LoopVC.mk (fun m st => ∃ (k : Nat), k ≤ P.length ∧ m = P.length - k ∧ st = ⟨0, envA 39 [(0, .x (.one (.lst true KE (edgA P)))), (1, .int .i64 (itr P v k : Nat)), (8, .int .i64 (P.length : Int)), (9, .int .i64 (k : Int))], []⟩) _ _ ⟨0, Nat.zero_le _, rfl, rfl⟩ ?_ ?_
 ·refine ⟨[], rfl, rfl, ?_, ?_⟩ <;> repeat' (first | exact trivial | exact rfl | apply And.intro)
  all_goals exact congrArg Int.ofNat lp
 rintro m _ ⟨k, hk, hm, rfl⟩
 obtain ⟨e1, e2⟩ := hc.each k
 have gf : rI (edgA P) ((itr P v k : Nat) : Int).toNat (0 + (0 + 1 + 1)) = ((itr P v (k + 1) : Nat) : Int) := by rw [Int.toNat_natCast]; exact (edgA_2 P _).trans e2
 by_cases hk' : k < P.length
 ·repeat' ((conv => whnf); first | rw [gf] | refine Rng.g ?_ | refine Ob.g ?_ | refine Br.t (fun h => ?_))
  refine Back.mk (P.length - (k + 1)) _ (by omega) ⟨k + 1, by omega, rfl, rfl⟩ ?_
  exact Le.g []
 have ek : k = P.length := by omega
 clear gf e1 e2
 subst ek
 obtain ⟨c, hc1, hc2, hcb⟩ := hc.back
 obtain ⟨z, hz⟩ : ∃ z, itr P v P.length = z := ⟨_, rfl⟩
 have hzl : z < P.length := hz ▸ (hc.each P.length).1
 repeat' ((conv => whnf); first | rw [hz] | refine Ob.g ?_ | refine Br.f (fun h => ?_))
 refine LoopVC.mk (fun m st => ∃ (j : Nat) (A : Arr), j < c ∧ m = c - j ∧ A.length = j ∧ st = ⟨0, envA 39 [(0, .x (.one (.lst true KE (edgA P)))), (1, .int .i64 (z : Nat)), (5, .x (.one (.own 1))), (6, .x (.one (.ptr 0 0)))], [some (bxE P (itr P v (P.length + j))), some (rowT A)]⟩) _ _ ⟨0, [], by omega, rfl, rfl, rfl⟩ ?_ ?_
 ·refine ⟨[some 0, none], rfl, rfl, ?_, ?_⟩ <;> repeat' (first | exact trivial | exact rfl | apply And.intro)
  all_goals (rw [← hz]; rfl)
 rintro m _ ⟨j, A, hj, hm, lA, rfl⟩
 obtain ⟨q1, q2⟩ := hc.each (P.length + j)
 obtain ⟨q3, q4⟩ := hc.each (P.length + (j + 1))
 have g2 : rI (edgA P) ((itr P v (P.length + j) : Nat) : Int).toNat (0 + 1 + 1) = ((itr P v (P.length + j + 1) : Nat) : Int) := by rw [Int.toNat_natCast]; exact (edgA_2 P _).trans q2
 have q5 : itr P v (P.length + j + 1) < P.length := q3
 by_cases hz' : itr P v (P.length + j + 1) = z
 ·repeat' ((conv => whnf); rw [g2])
  refine Ob.mk (by rw [eb363]; simp only [List.length_cons, List.length_nil]; omega) ?_
  repeat' ((conv => whnf); first | rw [g2] | rw [hz'] | refine Br.t (fun h => ?_))
  conv => whnf
  refine CallVC.mk [3] _ _ _ rfl rfl rfl (s305 (A ++ [[Cell.int (rI (edgA P) ((itr P v (P.length + j) : Nat) : Int).toNat 0), Cell.int (rI (edgA P) ((itr P v (P.length + j) : Nat) : Int).toNat (0 + 1))]]) (by rw [List.length_append, List.length_cons, List.length_nil]; omega)) (fun r m' h' => ?_)
  obtain ⟨A', lA', rfl, rfl⟩ := h'
  conv => whnf
  have lA2 : 0 < A'.length := by rw [lA', List.length_append, List.length_cons]; omega
  repeat' ((conv => whnf); first | refine Rng.g ?_ | fail)
  conv => whnf
  refine EndVC.mk _ rfl _ _ (⟨A', lA2, rfl, rfl⟩) ?_
  exact Le.g [some 3]
 ·have hj2 : j + 1 < c := by
   have : j + 1 ≠ c := fun e => hz' (by rw [Nat.add_assoc, e]; exact hcb.trans hz)
   omega
  repeat' ((conv => whnf); rw [g2])
  refine Ob.mk (by rw [eb363]; simp only [List.length_cons, List.length_nil]; omega) ?_
  repeat' ((conv => whnf); first | rw [g2] | refine Ob.g ?_ | refine Br.f (fun h => ?_))
  refine Back.mk (c - (j + 1)) _ (by omega) ⟨j + 1, A ++ [[Cell.int (rI (edgA P) ((itr P v (P.length + j) : Nat) : Int).toNat 0), Cell.int (rI (edgA P) ((itr P v (P.length + j) : Nat) : Int).toNat (0 + 1))]], hj2, rfl, by rw [List.length_append, lA]; rfl, rfl⟩ ?_
  exact Le.g [some 4, some 3]
theorem s251 (P : List Edg) (x : Edg) (i m : Nat) (_hl : P.length ≤ 4096) (hx : x.fr = (i : Nat)) (hw : Way P.length P i m) (hm : m ≤ 100000000) : HSpec Tryz.prog 102 [.one (.lst true KE (edgA P)), x.x] [] (fun r m' => ∃ A : Arr, 0 < A.length ∧ r = .x (.one (.own 0)) ∧ m' = [some (rowT A)]) := by
 have lp := edgA_len P
 obtain ⟨w1, w2, w3⟩ := hw
 have wl : ∀ q, q ≤ m → itr P i q < P.length := fun q hq => by
  by_cases h : q < m
  ·exact (w1 q h).1
  ·rw [show q = m by omega]; exact w2
 refine spec_g (bodyOf Tryz.f102) [] pMix Tryz.func102 Tryz.ntmps102 [.tmp 4] ?_
 repeat' ((conv => whnf); first | refine Rng.g ?_ | fail)
 refine LoopVC.mk (fun k st => ∃ (q : Nat) (A : Arr) (e : Edg), q ≤ m + 1 ∧ k = m + 1 - q ∧ A.length = q + 1 ∧ e.fr = (if q ≤ m then ((itr P i q : Nat) : Int) else -1) ∧ st = ⟨0, envA 25 [(0, .x (.one (.lst true KE (edgA P)))), (3, .x (.one (.ptr 0 0))), (5, .x (.one (.own 1)))], [some (.box 228 [.int .i64 e.rule, .int .i64 e.pos, .int .i64 e.fr, .int .i64 e.to, .int .i64 e.w]), some (rowT A)]⟩) _ _ ⟨0, [[Cell.int x.rule, Cell.int x.pos]], x, Nat.zero_le _, rfl, rfl, by rw [hx, if_pos (Nat.zero_le _)]; rfl, rfl⟩ ?_ ?_
 ·exact Le.g [some 0, some 1]
 rintro k _ ⟨q, A, e, hq, hk, lA, he, rfl⟩
 by_cases hq' : q ≤ m
 ·rw [if_pos hq'] at he
  have g1 := wl q hq'
  obtain ⟨y, hy⟩ : ∃ y, P.getD (itr P i q) e0 = y := ⟨_, rfl⟩
  have yf : y.fr = (if q + 1 ≤ m then ((itr P i (q + 1) : Nat) : Int) else -1) := by
   rw [← hy]
   by_cases h : q + 1 ≤ m
   ·rw [if_pos h]; exact (w1 q (by omega)).2
   ·rw [if_neg h, show q = m by omega]; exact w3
  have c0 : rI (edgA P) e.fr.toNat 0 = y.rule := by rw [he, Int.toNat_natCast, ← hy]; exact edgA_0 P _
  have c1 : rI (edgA P) e.fr.toNat (0 + 1) = y.pos := by rw [he, Int.toNat_natCast, ← hy]; exact edgA_1 P _
  have c2 : rI (edgA P) e.fr.toNat (0 + 1 + 1) = y.fr := by rw [he, Int.toNat_natCast, ← hy]; exact edgA_2 P _
  have c3 : rI (edgA P) e.fr.toNat (0 + 1 + 1 + 1) = y.to := by rw [he, Int.toNat_natCast, ← hy]; exact edgA_3 P _
  have c4 : rI (edgA P) e.fr.toNat (0 + 1 + 1 + 1 + 1) = y.w := by rw [he, Int.toNat_natCast, ← hy]; exact edgA_4 P _
  repeat' ((conv => whnf); first | rw [c4] | rw [c3] | rw [c2] | rw [c1] | rw [c0] | refine Ob.g ?_ | refine Br.t (fun h => ?_))
  refine Ob.mk (by rw [eb363]; simp only [List.length_cons, List.length_nil]; omega) ?_
  repeat' ((conv => whnf); rw [c4])
  refine Back.mk (m + 1 - (q + 1)) _ (by omega) ⟨q + 1, A ++ [[Cell.int y.rule, Cell.int y.pos]], y, by omega, rfl, by rw [List.length_append, lA]; rfl, yf, rfl⟩ ?_
  exact Le.g [some 0, some 3]
 ·rw [if_neg hq'] at he
  repeat' ((conv => whnf); refine Br.f (fun h => ?_))
  conv => whnf
  refine CallVC.mk [1] _ _ _ rfl rfl rfl (s305 A (by omega)) (fun r m' h' => ?_)
  obtain ⟨A', lA', rfl, rfl⟩ := h'
  conv => whnf
  repeat' ((conv => whnf); first | refine Rng.g ?_ | fail)
  conv => whnf
  refine EndVC.mk _ rfl _ _ (⟨A', by omega, rfl, rfl⟩) ?_
  exact Le.g [some 1]
end Go.Sx

namespace Go.Sx
open Go Go.Proofs
set_option maxRecDepth 10000
set_option maxHeartbeats 4000000
def arcF (r per : Int) : Int := (710 * r * (710 * r)) / (113 * per * (113 * per))
theorem sq_rng {a A : Int} (h : 0 ≤ a ∧ a ≤ A) : 0 ≤ a * a ∧ a * a ≤ A * A :=
 ⟨Int.mul_nonneg h.1 h.1, Int.mul_le_mul h.2 h.2 h.1 (by omega)⟩
theorem s286 (t : Trk) (ht : TrkOK t) : PSpec Tryz.prog 160 [tkX t] (.x (I (arcF t.r t.per))) := by
 have hr := ht.r
 have hp := ht.per
 have h1 := sq_rng (a := 710 * t.r) (A := 2977955840) (by omega)
 have h2 := sq_rng (a := 113 * t.per) (A := 7405568) (by omega)
 have h3 : 0 < 113 * t.per * (113 * t.per) := Int.mul_pos (by omega) (by omega)
 refine spec_g (bodyOf Tryz.f160) [] pMix Tryz.func160 Tryz.ntmps160 [.tmp 2] ?_
 have h4 := Int.ediv_nonneg h1.1 (Int.le_of_lt h3)
 have h5 := Int.ediv_le_self (113 * t.per * (113 * t.per)) h1.1
 have f8 : rI (tkA t) 0 (0 + (0 + 1 + 1 + 1 + 1 + 1 + 1 + 1 + 1)) = t.r := rfl
 have f9 : rI (tkA t) 0 (0 + (0 + 1 + 1 + 1 + 1 + 1 + 1 + 1 + 1 + 1)) = t.per := rfl
 repeat' ((conv => whnf); first | rw [f8] | rw [f9] | refine Rng.g ?_ | refine Ob.g ?_ | refine Val.d ?_ | fail)
 refine EndVC.mk _ rfl _ _ ⟨rfl, rfl⟩ ?_
 exact Le.g []
def brk (t : Trk) (i : Nat) (b a : Bool) : Nat → Prop
 | 1 => (t.p.getD i s0).r - (t.p.getD i s0).l < t.c.thin
 | 2 => (t.p.getD i s0).r - (t.p.getD i s0).l > t.c.wide
 | 3 => 113000 * t.per * stF t.p i b > 710 * t.r * t.c.slope
 | 4 => bdF t.p i b a > t.c.jerk
 | 5 => bdF t.p i b a * t.c.sty > arcF t.r t.per
 | _ => False
instance (t : Trk) (i : Nat) (b a : Bool) (k : Nat) : Decidable (brk t i b a k) := by unfold brk; split <;> exact inferInstance
theorem s213 (t : Trk) (i : Nat) (b a : Bool) (hn : NearOK t.p i b a) : PSpec Tryz.prog 144 [tkX t, nrX t.p i b a] (xP (brk t i b a 1)) := by
 have c1 := s283 t.p i b a hn.h
 have f2 : rI (tkA t) 0 (0 + 0 + (0 + 1 + 1)) = t.c.thin := rfl
 cases b
 all_goals
  cases a
  all_goals
   refine spec_g (bodyOf Tryz.f144) ([(1, ([], [⟨0, [], []⟩] ++ ordDef 2 5 ++ [⟨1, [2, 3, 4, 5, 6], []⟩, ⟨7, [], []⟩, ⟨8, [], []⟩]))]) pMix Tryz.func144 Tryz.ntmps144 [.tmp 4] ?_
   repeat' ((conv => whnf); first | rw [f2] | refine CallVC0.pure rfl (c1) ?_)
   refine EndVC.mk _ rfl _ _ ⟨rfl, rfl⟩ ?_
   exact Le.g []
theorem s214 (t : Trk) (i : Nat) (b a : Bool) (hn : NearOK t.p i b a) : PSpec Tryz.prog 145 [tkX t, nrX t.p i b a] (xP (brk t i b a 2)) := by
 have c1 := s283 t.p i b a hn.h
 have f2 : rI (tkA t) 0 (0 + 0 + (0 + 1 + 1 + 1)) = t.c.wide := rfl
 cases b
 all_goals
  cases a
  all_goals
   refine spec_g (bodyOf Tryz.f145) ([(1, ([], [⟨0, [], []⟩] ++ ordDef 2 5 ++ [⟨1, [2, 3, 4, 5, 6], []⟩, ⟨7, [], []⟩, ⟨8, [], []⟩]))]) pMix Tryz.func145 Tryz.ntmps145 [.tmp 4] ?_
   repeat' ((conv => whnf); first | rw [f2] | refine CallVC0.pure rfl (c1) ?_)
   refine EndVC.mk _ rfl _ _ ⟨rfl, rfl⟩ ?_
   exact Le.g []
theorem s215 (t : Trk) (i : Nat) (b a : Bool) (ht : TrkOK t) (hn : NearOK t.p i b a) : PSpec Tryz.prog 146 [tkX t, nrX t.p i b a] (xP (brk t i b a 3)) := by
 have c1 := s284 t.p i b a hn
 have f2 : rI (tkA t) 0 (0 + 0 + (0 + 1 + 1 + 1 + 1)) = t.c.slope := rfl
 have f8 : rI (tkA t) 0 (0 + (0 + 1 + 1 + 1 + 1 + 1 + 1 + 1 + 1)) = t.r := rfl
 have f9 : rI (tkA t) 0 (0 + (0 + 1 + 1 + 1 + 1 + 1 + 1 + 1 + 1 + 1)) = t.per := rfl
 have hr := ht.r
 have hp := ht.per
 have hs := ht.c.slope
 have hst := stF_bd hn
 have h1 := mul_rng (a := 113000 * t.per) (b := stF t.p i b) (A := 7405568000) (B := 8388608) (by omega) hst
 have h2 := mul_rng (a := 710 * t.r) (b := t.c.slope) (A := 2977955840) (B := 10000) (by omega) hs
 cases b
 all_goals
  cases a
  all_goals
   refine spec_g (bodyOf Tryz.f146) ([(1, ([], ordDef 0 6 ++ ordDef 8 11 ++ [⟨6, [0, 1, 2, 3, 4, 8, 9, 10, 11, 12, 13, 14, 15, 16, 17, 18], []⟩, ⟨7, [], []⟩, ⟨19, [], []⟩, ⟨20, [], []⟩]))]) pMix Tryz.func146 Tryz.ntmps146 [.tmp 4] ?_
   repeat' ((conv => whnf); first | rw [f2] | rw [f8] | rw [f9] | refine Rng.g ?_ | refine CallVC0.pure rfl (c1) ?_)
   refine EndVC.mk _ rfl _ _ ⟨rfl, rfl⟩ ?_
   exact Le.g []
theorem s216 (t : Trk) (i : Nat) (b a : Bool) (hn : NearOK t.p i b a) : PSpec Tryz.prog 147 [tkX t, nrX t.p i b a] (xP (brk t i b a 4)) := by
 have c1 := s285 t.p i b a hn
 have f2 : rI (tkA t) 0 (0 + 0 + (0 + 1 + 1 + 1 + 1 + 1)) = t.c.jerk := rfl
 cases b
 all_goals
  cases a
  all_goals
   refine spec_g (bodyOf Tryz.f147) ([(1, ([], [⟨0, [], []⟩] ++ ordDef 2 5 ++ [⟨1, [2, 3, 4, 5, 6], []⟩, ⟨7, [], []⟩, ⟨8, [], []⟩]))]) pMix Tryz.func147 Tryz.ntmps147 [.tmp 4] ?_
   repeat' ((conv => whnf); first | rw [f2] | refine CallVC0.pure rfl (c1) ?_)
   refine EndVC.mk _ rfl _ _ ⟨rfl, rfl⟩ ?_
   exact Le.g []
theorem s217 (t : Trk) (i : Nat) (b a : Bool) (ht : TrkOK t) (hn : NearOK t.p i b a) : PSpec Tryz.prog 148 [tkX t, nrX t.p i b a] (xP (brk t i b a 5)) := by
 have c1 := s285 t.p i b a hn
 have c2 := s286 t ht
 have f2 : rI (tkA t) 0 (0 + 0 + (0 + 1 + 1 + 1 + 1 + 1 + 1)) = t.c.sty := rfl
 have hst := bdF_bd hn
 have hs := ht.c.sty
 have h1 := mul_rng (a := bdF t.p i b a) (b := t.c.sty) (A := 16777216) (B := 1024) (by omega) hs
 cases b
 all_goals
  cases a
  all_goals
   refine spec_g (bodyOf Tryz.f148) ([(1, ([], [⟨0, [], []⟩] ++ ordDef 2 5 ++ [⟨8, [], []⟩, ⟨1, [2, 3, 4, 5, 6, 8], []⟩, ⟨7, [], []⟩, ⟨9, [2, 3, 4, 5, 6, 7], []⟩, ⟨10, [], []⟩, ⟨11, [], []⟩]))]) pMix Tryz.func148 Tryz.ntmps148 [.tmp 4] ?_
   repeat' ((conv => whnf); first | rw [f2] | refine Rng.g ?_ | refine CallVC0.pure rfl (c1) ?_ | refine CallVC0.pure rfl (c2) ?_)
   refine EndVC.mk _ rfl _ _ ⟨rfl, rfl⟩ ?_
   exact Le.g []
def ruleF (t : Trk) (i : Nat) (b a : Bool) : Int := if brk t i b a 1 then 1 else if brk t i b a 2 then 2 else if brk t i b a 3 then 3 else if brk t i b a 4 then 4 else if brk t i b a 5 then 5 else 0
theorem s128 (t : Trk) (i : Nat) (b a : Bool) (ht : TrkOK t) (hn : NearOK t.p i b a) : PSpec Tryz.prog 128 [tkX t, nrX t.p i b a] (.x (I (ruleF t i b a))) := by
 have c1 := s213 t i b a hn
 have c2 := s214 t i b a hn
 have c3 := s215 t i b a ht hn
 have c4 := s216 t i b a hn
 have c5 := s217 t i b a ht hn
 cases b
 all_goals
  cases a
  all_goals
   refine spec_g (bodyOf Tryz.f128) [] pMix Tryz.func128 Tryz.ntmps128 [.tmp 4] ?_
   repeat' ((conv => whnf); first | refine Rng.g ?_ | fail)
   refine LoopVC.un 6 ?_
   repeat' ((conv => whnf); first | refine Rng.g ?_ | refine Ob.g ?_ | refine CallVC.pure rfl (c1) ?_ | refine CallVC.pure rfl (c2) ?_ | refine CallVC.pure rfl (c3) ?_ | refine CallVC.pure rfl (c4) ?_ | refine CallVC.pure rfl (c5) ?_ | refine Br.t (fun h => ?_) | refine Br.f (fun h => ?_) | (refine Br.mk (fun h => ?_) (fun h => ?_) <;> first | (exfalso; omega; done) | (exfalso; simp at h; done) | skip))
   all_goals
    refine EndVC.mk _ rfl _ _ ⟨rfl, rfl⟩ ?_
    refine ⟨[], rfl, rfl, ?_, ?_⟩ <;> repeat' (first | exact trivial | exact rfl | apply And.intro)
    simp [ruleF, *]
end Go.Sx

namespace Go.Sx
open Go Go.Proofs
set_option maxRecDepth 10000
set_option maxHeartbeats 4000000
theorem s129 (t : Trk) (i : Nat) (b a : Bool) (hl : t.p.length ≤ 4096) (hi : i < t.p.length) (hb : b = true ↔ 0 < i) (ha : a = true ↔ i + 1 < t.p.length) : PSpec Tryz.prog 143 [tkX t, I (i : Int)] (.x (nrX t.p i b a)) := by
 have f7 : rA (tkA t) 0 (0 + (0 + 1 + 1 + 1 + 1 + 1 + 1 + 1)) = smpA t.p := rfl
 have lp := smpA_len t.p
 cases b
 all_goals
  have hb' : ¬ 0 < i ∨ 0 < i := by omega
  cases a
  all_goals
   simp only [true_iff, reduceCtorEq, false_iff] at hb ha
   refine spec_g (bodyOf Tryz.f143) [] pMix Tryz.func143 Tryz.ntmps143 [.cell 4 278] ?_
   repeat' ((conv => whnf); first | rw [f7] | refine Rng.g ?_ | refine Ob.g ?_ | refine JoinVC.on ?_ | refine Br.t (fun h => ?_) | refine Br.f (fun h => ?_))
   refine EndVC.mk _ rfl _ _ ⟨rfl, rfl⟩ ?_
   refine ⟨[], rfl, rfl, ?_, ?_⟩ <;> repeat' (first | exact trivial | exact rfl | apply And.intro)
 all_goals omega
theorem s208 (t : Trk) : HSpec Tryz.prog 127 [tkX t] [] (fun r m' => r = .x (.one (.fn 142 [(0, 0)])) ∧ m' = [some (.box 243 [.lel true KTk (tkA t) 0 0])]) := by
 refine spec_g (bodyOf Tryz.f127) [] pMix Tryz.func127 Tryz.ntmps127 [.tmp 2] ?_
 repeat' ((conv => whnf); first | refine Rng.g ?_ | fail)
 refine EndVC.mk _ rfl _ _ ⟨rfl, rfl⟩ ?_
 exact Le.g [some 0]
def bB (i : Nat) : Bool := decide (0 < i)
def aB (l : List Smp) (i : Nat) : Bool := decide (i + 1 < l.length)
theorem TrkOK.near {t : Trk} (ht : TrkOK t) {i : Nat} (hi : i < t.p.length) : NearOK t.p i (bB i) (aB t.p i) :=
 ⟨ht.p.each i hi, fun _ => ht.p.each _ (by omega), fun ha => ht.p.each _ (of_decide_eq_true ha)⟩
def ruleAt (t : Trk) (i : Nat) : Int := ruleF t i (bB i) (aB t.p i)
theorem ruleF_rng (t : Trk) (i : Nat) (b a : Bool) : 0 ≤ ruleF t i b a ∧ ruleF t i b a ≤ 5 := by
 unfold ruleF
 repeat' split
 all_goals omega
structure FaultIs (t : Trk) (i : Nat) (x : Int) : Prop where
 none : x = 0 → i = 0 ∧ ∀ j, j < t.p.length → ruleAt t j = 0
 some : x ≠ 0 → i < t.p.length ∧ x = ruleAt t i ∧ ∀ j, j < i → ruleAt t j = 0
def cF : Code → Code
 | .seq a _ => a
 | c => c
def cS : Code → Code
 | .seq _ b => b
 | c => c
def cB : Code → Code
 | .block _ c => c
 | c => c
def cAs : Code → Code
 | .rangeFunc _ _ x _ => x
 | c => c
def cBo : Code → Code
 | .rangeFunc _ _ _ b => b
 | c => c
noncomputable def rf116 : Code := cB (cS (cF (cS (bodyOf Tryz.f112))))
theorem s116 (t : Trk) (ht : TrkOK t) : HSpec Tryz.prog 112 [tkX t] [] (fun r m' => ∃ (i : Nat) (x : Int), FaultIs t i x ∧ r = .tup [I (i : Int), I x] ∧ m' = []) := by
 have lp := smpA_len t.p
 have hl := ht.p.len
 have f7 : rA (tkA t) 0 (0 + (0 + 1 + 1 + 1 + 1 + 1 + 1 + 1)) = smpA t.p := rfl
 refine spec_g (bodyOf Tryz.f112) [] pMix Tryz.func112 Tryz.ntmps112 [.cell 2 3, .cell 3 3] ?_
 repeat' ((conv => whnf); first | refine Rng.g ?_ | fail)
 conv => whnf
 refine CallVC.mk [] _ _ _ rfl rfl rfl (s208 t) (fun r m' h' => ?_)
 obtain ⟨rfl, rfl⟩ := h'
 conv => whnf
 repeat' ((conv => whnf); first | refine Rng.g ?_ | fail)
 change RangeVC _ _ _ _ _
 refine RangeVC.mk e142 (isem_of_awp pMix [] Tryz.func142 (c := bodyOf Tryz.f142) rfl (by kernel_rfl) Tryz.ntmps142 (by kernel_rfl) ?_)
 repeat' ((conv => whnf); rw [f7])
 refine LoopVC.mk (fun n st => ∃ (i : Nat), i ≤ t.p.length ∧ n = t.p.length - i ∧ (∀ j, j < i → ruleAt t j = 0) ∧ st = ⟨5, envA 20 [(0, .x (.one (.yld 4))), (1, .x (.one (.ptr 3 0))), (8, .int .i64 (t.p.length : Int)), (9, .int .i64 (i : Int))], [some (.box 243 [.lel true KTk (tkA t) 0 0]), some (.box 3 [.int .i64 0]), some (.box 3 [.int .i64 0]), some (.box 243 [.lel true KTk (tkA t) 0 0]), some (.loop [9, 10] (cAs rf116) (cBo rf116) (envA 18 [(1, .x (.one (.ptr 0 0))), (2, .x (.one (.ptr 1 0))), (3, .x (.one (.ptr 2 0)))]) .ready)]⟩) _ _ ⟨0, Nat.zero_le _, rfl, fun j hj => absurd hj (Nat.not_lt_zero j), rfl⟩ ?_ ?_
 ·refine ⟨[some 0, some 1, some 2, some 3, some 4], rfl, rfl, ?_, ?_⟩ <;> repeat' (first | exact trivial | exact rfl | apply And.intro)
  exact congrArg Int.ofNat lp
 rintro n _ ⟨i, hi, hn, hj, rfl⟩
 by_cases hi' : i < t.p.length
 ·have c1 := s129 t i (bB i) (aB t.p i) hl hi' decide_eq_true_iff decide_eq_true_iff
  have c2 := s128 t i (bB i) (aB t.p i) ht (ht.near hi')
  have e : ruleAt t i = ruleF t i (bB i) (aB t.p i) := rfl
  have hr5 := ruleF_rng t i (bB i) (aB t.p i)
  obtain ⟨b, hb⟩ : ∃ b, bB i = b := ⟨_, rfl⟩
  obtain ⟨a, ha⟩ : ∃ a, aB t.p i = a := ⟨_, rfl⟩
  rw [hb, ha] at c1 c2 e hr5
  cases b
  all_goals
   cases a
   all_goals
    repeat' ((conv => whnf); first | refine Rng.g ?_ | refine CallVC.pure rfl (c1) ?_ | refine CallVC.pure rfl (c2) ?_ | refine YieldVC.mk (rsem_of_awp pMix [] rfl (by kernel_rfl) ?_) | refine Br.t (fun h => ?_) | (refine Br.mk (fun h => ?_) (fun h => ?_) <;> first | (exfalso; omega; done) | (exfalso; simp at h; done) | skip))
    ·conv => whnf
     refine EndVC.mk _ rfl _ _ (⟨i, _, ⟨fun h0 => by rw [h0] at h; omega, fun _ => ⟨hi', e.symm, hj⟩⟩, rfl, rfl⟩) ?_
     exact Le.g []
    ·refine Back.mk (t.p.length - (i + 1)) _ (by omega) ⟨i + 1, by omega, rfl, fun j hj' => ?_, rfl⟩ ?_
     ·rcases Nat.lt_succ_iff_lt_or_eq.1 hj' with h' | h'
      ·exact hj j h'
      ·rw [h', e]; omega
     ·exact Le.g [some 0, some 1, some 2, some 3, some 4]
 ·repeat' ((conv => whnf); refine Br.f (fun h => ?_))
  conv => whnf
  refine EndVC.mk _ rfl _ _ (⟨0, 0, ⟨fun _ => ⟨rfl, fun j hj' => hj j (by omega)⟩, fun h0 => absurd rfl h0⟩, rfl, rfl⟩) ?_
  exact Le.g []
end Go.Sx

namespace Go.Sx
open Go Go.RowKit
theorem Fr.le {w w' : World} {R R' : Rp} {M m' m2 : List (Option Blk)} (hf : Fr w R M w' R' m') (h : Le ⟨M.length, [], m'⟩ ⟨M.length, [], m2⟩) : ∃ R2, Fr w R M w' R2 m2 := by
 obtain ⟨R2, hC⟩ := Le_ok h (show Conc w R M ⟨M.length, [], m'⟩ R' { tmps := #[], defers := [] } w' from ⟨hf, rfl, fun i v hv => by simp at hv, Marks.nil .., rfl⟩)
 exact ⟨R2, hC.fr⟩
theorem RSem.le {P : Program} {id : Nat} {args : List XV} {M : List (Option Blk)} {Q Q' : Bool → List (Option Blk) → Prop} (h : RSem P id args M Q) (hq : ∀ b m', Q b m' → ∃ m2, Q' b m2 ∧ Le ⟨M.length, [], m'⟩ ⟨M.length, [], m2⟩) : RSem P id args M Q' := by
 intro w R vs l h1 h2 h3 h4
 obtain ⟨r, e1, e2, e3⟩ := h w R vs l h1 h2 h3 h4
 refine ⟨r, e1, e2, e3.mono ?_⟩
 rintro e w' ⟨b, m', R', rfl, hQ, hf⟩
 obtain ⟨m2, q2, hl⟩ := hq b m' hQ
 obtain ⟨R2, hf2⟩ := hf.le hl
 exact ⟨b, m2, R2, rfl, q2, hf2⟩
theorem ISem.le {P : Program} {f : FuncId} {args : List XV} {M : List (Option Blk)} {Q Q' : List (Option Blk) → Prop} (h : ISem P f args M Q) (hq : ∀ m', Q m' → ∃ m2, Q' m2 ∧ Le ⟨M.length, [], m'⟩ ⟨M.length, [], m2⟩) : ISem P f args M Q' := by
 intro w R vs h1 h2
 refine (h w R vs h1 h2).mono ?_
 rintro e w' ⟨v, m', R', rfl, hQ, hf⟩
 obtain ⟨m2, q2, hl⟩ := hq m' hQ
 obtain ⟨R2, hf2⟩ := hf.le hl
 exact ⟨v, m2, R2, rfl, q2, hf2⟩
theorem RSem.mono {P : Program} {id : Nat} {args : List XV} {M : List (Option Blk)} {Q Q' : Bool → List (Option Blk) → Prop} (h : RSem P id args M Q) (hq : ∀ b m', Q b m' → Q' b m') : RSem P id args M Q' := by
 intro w R vs l h1 h2 h3 h4
 obtain ⟨r, e1, e2, e3⟩ := h w R vs l h1 h2 h3 h4
 refine ⟨r, e1, e2, e3.mono ?_⟩
 rintro e w' ⟨b, m', R', rfl, hQ, hf⟩
 exact ⟨b, m', R', rfl, hq _ _ hQ, hf⟩
theorem ISem.mono {P : Program} {f : FuncId} {args : List XV} {M : List (Option Blk)} {Q Q' : List (Option Blk) → Prop} (h : ISem P f args M Q) (hq : ∀ m', Q m' → Q' m') : ISem P f args M Q' := by
 intro w R vs h1 h2
 refine (h w R vs h1 h2).mono ?_
 rintro e w' ⟨v, m', R', rfl, hQ, hf⟩
 exact ⟨v, m', R', rfl, hq _ hQ, hf⟩
theorem YieldVC.of {P : Program} {id : Nat} {args : List XV} {s : St} {K : AV → St → Prop} {m2 : List (Option Blk)} (h : RSem P id args s.mem (fun b m' => b = true ∧ m' = m2)) (k : K (.x (.one .tt)) ⟨s.k, s.env, m2⟩) : YieldVC P id args s K :=
 .mk (h.mono fun b m' hh => by obtain ⟨rfl, rfl⟩ := hh; exact k)
theorem RangeVC.of {P : Program} {f : FuncId} {args : List XV} {m : List (Option Blk)} {Q Q' : List (Option Blk) → Prop} (he : EntersF P f) (h : ISem P f args m Q') (k : ∀ m', Q' m' → Q m') : RangeVC P f args m Q := .mk he (h.mono k)
end Go.Sx

namespace Go.Sx
open Go Go.Proofs
set_option maxRecDepth 10000
set_option maxHeartbeats 8000000
theorem e120 : EntersF Tryz.prog 120 := enters_of Tryz.func120 (c := bodyOf Tryz.f120) (by kernel_rfl) rfl
def cL : Code → Code
 | .loop c => c
 | c => c
def cC : Code → Code
 | .scope c => c
 | c => c
inductive SeRs (b : Blnk) (p : List Smp) (r : AV) (m' : List (Option Blk)) : Prop
 | bad (A : Arr) (hA : 0 < A.length) (hn : ∀ y, ¬ Feas b p y) (hr : r = .x (.agg [.nils, .own 1])) (hm : m' = [some (bSd b p), some (.row 226 false [.int .i64, .int .i64] A)])
 | ok (R : List Int) (h : Best b p R) (hr : r = .x (.agg [.own 1, .nils])) (hm : m' = [some (bSd b p), some (rowRd R)])
theorem eb385 : Tryz.t228.bytes = 40 := by kernel_rfl
theorem s249 (b : Blnk) (p : List Smp) : HSpec Tryz.prog 100 [.one (.ptr 0 0)] [bSd b p] (fun r m' => r = .x (.one (.fn 120 [(1, 0)])) ∧ m' = [some (bSd b p), some (.box 176 [.ptr 0 0])]) := by
 refine spec_g (bodyOf Tryz.f100) [] pMix Tryz.func100 Tryz.ntmps100 [.tmp 2] ?_
 repeat' ((conv => whnf); first | refine Rng.g ?_ | fail)
 refine EndVC.mk _ rfl _ _ ⟨rfl, rfl⟩ ?_
 exact Le.g [some 0, some 1]
def Fj (b : Blnk) (p : List Smp) (i j : Nat) : List Edg := (if 0 < j ∧ 0 < i then [eS b i] else []) ++ (if 1 < j ∧ b.per ≤ (i : Int) then [eL b p i] else [])
theorem Fj_1 {b : Blnk} {p : List Smp} {i : Nat} (h : 0 < i) : Fj b p i 1 = Fj b p i 0 ++ [eS b i] := by simp [Fj, h]
theorem Fj_1n {b : Blnk} {p : List Smp} {i : Nat} (h : ¬ 0 < i) : Fj b p i 1 = Fj b p i 0 := by simp [Fj, h]
theorem Fj_2 {b : Blnk} {p : List Smp} {i : Nat} (h : b.per ≤ (i : Int)) : Fj b p i 2 = Fj b p i 1 ++ [eL b p i] := by simp [Fj, h]
theorem Fj_2n {b : Blnk} {p : List Smp} {i : Nat} (h : ¬ b.per ≤ (i : Int)) : Fj b p i 2 = Fj b p i 1 := by simp [Fj, h]
theorem Fj_3 (b : Blnk) (p : List Smp) (i : Nat) : Fj b p i 2 = F1 b p i := by simp [Fj, F1]
theorem Fj_mem {b : Blnk} {p : List Smp} {i j : Nat} (hi : i < p.length) (_hj : j ≤ 2) {e : Edg} (he : e ∈ E1 b p i ++ Fj b p i j) : e ∈ edgs b p := by
 rcases List.mem_append.1 he with h | h
 ·obtain ⟨q, hq, h1⟩ := E1_mem.1 h
  refine edgs_mem.2 ⟨q, by omega, ?_⟩
  rcases h1 with h1 | h1
  ·exact .inl h1
  ·exact .inr (.inl h1)
 ·unfold Fj at h
  refine edgs_mem.2 ⟨i, hi, ?_⟩
  rcases List.mem_append.1 h with h | h
  ·split at h
   ·rename_i h1
    exact .inl ⟨h1.2, by simpa using h⟩
   ·simp at h
  ·split at h
   ·rename_i h1
    exact .inr (.inl ⟨h1.2, by simpa using h⟩)
   ·simp at h
theorem Fj_len (b : Blnk) (p : List Smp) {i j : Nat} (hi : i < p.length) (_hj : j ≤ 2) : (E1 b p i ++ Fj b p i j).length ≤ 3 * p.length := by
 have h1 := E1_len b p i
 have h2 : (Fj b p i j).length ≤ 2 := by unfold Fj; split <;> split <;> simp
 rw [List.length_append]
 omega
theorem E2_mem' {b : Blnk} {p : List Smp} {j : Nat} (hj : j ≤ p.length - 1) {e : Edg} (he : e ∈ E1 b p p.length ++ E2 b p.length j) : e ∈ edgs b p := by
 unfold edgs
 rcases List.mem_append.1 he with h | h
 ·exact List.mem_append.2 (.inl h)
 ·obtain ⟨q, hq, h1⟩ := E2_mem.1 h
  exact List.mem_append.2 (.inr (E2_mem.2 ⟨q, by omega, h1⟩))
theorem E2_len' (b : Blnk) (p : List Smp) {j : Nat} (hj : j ≤ p.length - 1) : (E1 b p p.length ++ E2 b p.length j).length ≤ 3 * p.length := by
 have h1 := E1_len b p p.length
 rw [List.length_append, E2_len]
 omega
structure RB (p : List Smp) (S : LSt) : Prop where
 lr : S.R.length = p.length
 lp : S.P.length = p.length
 bd : ∀ v, v < p.length → -9007199254740992 ≤ S.R.getD v 0 ∧ S.R.getD v 0 ≤ 8388608
theorem mid_ok {b : Blnk} {p : List Smp} (hb : BlnkOK b) (hp : PtB p) {k : Nat} {s : LSt} {L : Int} {N : Nat} {t : Nat → Nat} {T : Nat → Int} (hJ : LJp b p [] (k : Int) s L N t T) (hk : k ≤ p.length + 1) (hL : L ≤ 16777216 + 206158430208 * (k : Int)) (F : List Edg) (hF : ∀ e, e ∈ F → e ∈ edgs b p) (hl : F.length ≤ 3 * p.length) : RB p (F.foldl rlx s) := by
 obtain ⟨t', T', h⟩ := LJ.fold (by decide) (edgs_ok hb hp) F hJ hF
 have h4 := hp.len
 refine ⟨h.lr, h.lp, fun v hv => ⟨?_, ?_⟩⟩
 ·have := h.lo v hv
  omega
 ·have h1 := h.hi v hv
  have h2 := hp.each v hv
  have h3 := hb.rim
  unfold iniF at h1
  omega
noncomputable def rf167 : Code := cB (cS (cF (cS (cS (cC (cB (cF (cL (cB (cS (cF (cS (cS (cS (cS (bodyOf Tryz.f84))))))))))))))))
@[reducible] def bxX (x : Edg) : Blk := .box 228 [.int .i64 x.rule, .int .i64 x.pos, .int .i64 x.fr, .int .i64 x.to, .int .i64 x.w]
@[reducible] noncomputable def M8 (b : Blnk) (p : List Smp) (k : Nat) (V : LSt) : List (Option Blk) := [some (bSd b p), some (.box 181 [.nils, .nils]), some (.box 224 [.own 5]), some (.box 43 [.own 4]), some (rowRd V.R), some (rowEd V.P), some (.box 3 [.int .i64 V.c]), some (.box 176 [.ptr 0 0]), some (.loop [48] (cAs rf167) (cBo rf167) (envA 116 [(0, .x (.one (.ptr 0 0))), (2, .x (.one (.ptr 1 0))), (3, .int .i64 (p.length : Int)), (4, .x (.one (.ptr 3 0))), (5, .x (.one (.ptr 2 0))), (7, .int .i64 (k : Int)), (8, .x (.one (.ptr 6 0))), (46, .x (.one (.ptr 0 0))), (47, .x (.one (.fn 120 [(7, 0)])))]) .ready)]
@[reducible] noncomputable def M9 (b : Blnk) (p : List Smp) (k : Nat) (V : LSt) (x : Edg) : List (Option Blk) := [some (bSd b p), some (.box 181 [.nils, .nils]), some (.box 224 [.own 5]), some (.box 43 [.own 4]), some (rowRd V.R), some (rowEd V.P), some (.box 3 [.int .i64 V.c]), some (.box 176 [.ptr 0 0]), some (.loop [48] (cAs rf167) (cBo rf167) (envA 116 [(0, .x (.one (.ptr 0 0))), (2, .x (.one (.ptr 1 0))), (3, .int .i64 (p.length : Int)), (4, .x (.one (.ptr 3 0))), (5, .x (.one (.ptr 2 0))), (7, .int .i64 (k : Int)), (8, .x (.one (.ptr 6 0))), (46, .x (.one (.ptr 0 0))), (47, .x (.one (.fn 120 [(7, 0)])))]) .ready), some (bxX x)]
theorem rnd167 (b : Blnk) (p : List Smp) (k : Nat) (V : LSt) (x : Edg) (hl : p.length ≤ 4096) (hxE : EOK p.length 16777216 x) (hB : RB p V) : RSem Tryz.prog 8 [x.x] (M9 b p k V x) (fun bb m' => bb = true ∧ m' = M9 b p k (rlx V x) x) := by
 obtain ⟨xf, xt, xn, xw⟩ := hxE
 have gf := i64s_get V.R x.fr.toNat
 have gt := i64s_get V.R x.to.toNat
 have bf := hB.bd x.fr.toNat (by omega)
 have bt := hB.bd x.to.toNat (by omega)
 have lS1 := i64s_len V.R
 have lS2 := edgA_len V.P
 have lS3 := hB.lr
 have lS4 := hB.lp
 refine RSem.le (rsem_of_awp (Q := fun bb m' => ∃ m2, (bb = true ∧ m2 = M9 b p k (rlx V x) x) ∧ Le ⟨(M9 b p k V x).length, [], m'⟩ ⟨(M9 b p k V x).length, [], m2⟩) pMix [(2, ([4, 5], [⟨0, [], [1]⟩, ⟨2, [], [3]⟩, ⟨5, [], []⟩, ⟨4, [], []⟩, ⟨1, [], []⟩, ⟨6, [2], []⟩, ⟨3, [], []⟩, ⟨7, [], []⟩])), (6, ([], ordDef 0 4 ++ [⟨4, [0, 1], []⟩] ++ ordDef 5 4 ++ [⟨9, [7], []⟩])), (15, ([], ordDef 0 18 ++ [⟨18, [3, 4, 5, 14, 15, 16], []⟩, ⟨19, [], []⟩, ⟨20, [15, 16], []⟩, ⟨21, [], []⟩]))] rfl (by kernel_rfl) ?_) (fun _ _ h => h)
 by_cases hc : V.R.getD x.to.toNat 0 ≤ V.R.getD x.fr.toNat 0 + x.w
 ·have e1 : rlx V x = V := if_pos hc
  rw [e1]
  repeat' ((conv => whnf); first | rw [gf] | rw [gt] | refine Rng.g ?_ | refine Ob.g ?_ | refine Br.t (fun h => ?_))
  refine ⟨_, ⟨rfl, rfl⟩, [some 0, some 1, some 2, some 3, some 4, some 5, some 6, some 7, some 8, some 9], rfl, rfl, ?_, ?_⟩ <;> repeat' (first | exact trivial | exact rfl | apply And.intro)
 ·have e1 : rlx V x = ⟨V.R.set x.to.toNat (V.R.getD x.fr.toNat 0 + x.w), V.P.set x.to.toNat x, x.to⟩ := if_neg hc
  have u1 : updRow (i64s V.R) x.to.toNat 0 [Cell.int (V.R.getD x.fr.toNat 0 + x.w)] = i64s (V.R.set x.to.toNat (V.R.getD x.fr.toNat 0 + x.w)) := i64s_upd _ _ _ (by omega)
  have u2 : updRow (edgA V.P) x.to.toNat 0 [Cell.int x.rule, Cell.int x.pos, Cell.int x.fr, Cell.int x.to, Cell.int x.w] = edgA (V.P.set x.to.toNat x) := edgA_set _ _ _ (by omega)
  rw [e1]
  repeat' ((conv => whnf); first | rw [gf] | rw [gt] | rw [u1] | rw [u2] | refine Rng.g ?_ | refine Ob.g ?_ | refine Br.f (fun h => ?_))
  refine ⟨_, ⟨rfl, rfl⟩, [some 0, some 1, some 2, some 3, some 4, some 5, some 6, some 7, some 8, some 9], rfl, rfl, ?_, ?_⟩ <;> repeat' (first | exact trivial | exact rfl | apply And.intro)
end Go.Sx

namespace Go.Sx
open Go Go.Proofs
set_option maxRecDepth 10000
set_option maxHeartbeats 16000000
theorem it304 (b : Blnk) (p : List Smp) (hb : BlnkOK b) (hp : PtB p) (k : Nat) (s : LSt) (hM : ∀ F : List Edg, (∀ e, e ∈ F → e ∈ edgs b p) → F.length ≤ 3 * p.length → RB p (F.foldl rlx s)) : ISem Tryz.prog 120 [.one (.yld 8), .one (.ptr 7 0)] (M8 b p k s) (fun m' => m' = M8 b p k ((edgs b p).foldl rlx s)) := by
 have lp := smpA_len p
 have hl := hp.len
 obtain ⟨Z, hZ⟩ : ∃ Z, (edgs b p).foldl rlx s = Z := ⟨_, rfl⟩
 rw [hZ]
 refine ISem.le (isem_of_awp (Q := fun m' => ∃ m2, m2 = M8 b p k Z ∧ Le ⟨(M8 b p k s).length, [], m'⟩ ⟨(M8 b p k s).length, [], m2⟩) pMix [] Tryz.func120 (c := bodyOf Tryz.f120) rfl (by kernel_rfl) Tryz.ntmps120 (by kernel_rfl) ?_) (fun _ h => h)
 repeat' ((conv => whnf); first | refine Rng.g ?_ | fail)
 refine LoopVC.mk (fun m st => ∃ (i : Nat) (S : LSt), i ≤ p.length ∧ m = p.length - i ∧ S = (E1 b p i).foldl rlx s ∧ st = ⟨9, envA 60 [(0, .x (.one (.yld 8))), (1, .x (.one (.ptr 7 0))), (3, .int .i64 (p.length : Int)), (17, .int .i64 (p.length : Int)), (18, .int .i64 (i : Int))], [some (bSd b p), some (.box 181 [.nils, .nils]), some (.box 224 [.own 5]), some (.box 43 [.own 4]), some (rowRd S.R), some (rowEd S.P), some (.box 3 [.int .i64 S.c]), some (.box 176 [.ptr 0 0]), some (.loop [48] (cAs rf167) (cBo rf167) (envA 116 [(0, .x (.one (.ptr 0 0))), (2, .x (.one (.ptr 1 0))), (3, .int .i64 (p.length : Int)), (4, .x (.one (.ptr 3 0))), (5, .x (.one (.ptr 2 0))), (7, .int .i64 (k : Int)), (8, .x (.one (.ptr 6 0))), (46, .x (.one (.ptr 0 0))), (47, .x (.one (.fn 120 [(7, 0)])))]) .ready)]⟩) _ _ ⟨0, s, Nat.zero_le _, rfl, rfl, rfl⟩ ?_ ?_
 ·refine ⟨[some 0, some 1, some 2, some 3, some 4, some 5, some 6, some 7, some 8], rfl, rfl, ?_, ?_⟩ <;> repeat' (first | exact trivial | exact rfl | apply And.intro)
  all_goals exact congrArg Int.ofNat lp
 rintro m _ ⟨i, S, hi, hm, hS, rfl⟩
 by_cases hi' : i < p.length
 ·repeat' ((conv => whnf); refine Br.t (fun h => ?_))
  refine LoopVC.mk (fun m st => ∃ (j : Nat) (V : LSt), j ≤ 2 ∧ m = 2 - j ∧ V = (Fj b p i j).foldl rlx S ∧ st = ⟨9, envA 60 [(0, .x (.one (.yld 8))), (1, .x (.one (.ptr 7 0))), (3, .int .i64 (p.length : Int)), (17, .int .i64 (p.length : Int)), (18, .int .i64 (i : Int)), (4, .int .i64 (i : Int)), (21, .x (.agg [.int .i64 3, .int .i64 5])), (22, .int .i64 (j : Int))], [some (bSd b p), some (.box 181 [.nils, .nils]), some (.box 224 [.own 5]), some (.box 43 [.own 4]), some (rowRd V.R), some (rowEd V.P), some (.box 3 [.int .i64 V.c]), some (.box 176 [.ptr 0 0]), some (.loop [48] (cAs rf167) (cBo rf167) (envA 116 [(0, .x (.one (.ptr 0 0))), (2, .x (.one (.ptr 1 0))), (3, .int .i64 (p.length : Int)), (4, .x (.one (.ptr 3 0))), (5, .x (.one (.ptr 2 0))), (7, .int .i64 (k : Int)), (8, .x (.one (.ptr 6 0))), (46, .x (.one (.ptr 0 0))), (47, .x (.one (.fn 120 [(7, 0)])))]) .ready)]⟩) _ _ ⟨0, S, by decide, rfl, rfl, rfl⟩ ?_ ?_
  ·exact Le.g [some 0, some 1, some 2, some 3, some 4, some 5, some 6, some 7, some 8]
  rintro m' _ ⟨j, V, hj, hm', hV, rfl⟩
  have hB : RB p V := by
   rw [hV, hS, ← List.foldl_append]
   exact hM _ (fun e he => Fj_mem hi' hj he) (Fj_len b p hi' hj)
  have hjc : j = 0 ∨ j = 1 ∨ j = 2 := by omega
  rcases hjc with rfl | rfl | rfl
  ·by_cases h0 : 0 < i
   ·skip
    obtain ⟨x, hx⟩ : ∃ x, x = eS b i := ⟨_, rfl⟩
    have cx := s248S b p hb hp i hi'
    rw [← hx] at cx
    have hxE : EOK p.length 16777216 x := hx ▸ edgs_ok hb hp _ (edgs_mem.2 ⟨i, hi', .inl ⟨h0, rfl⟩⟩)
    repeat' ((conv => whnf); first | refine Ob.g ?_ | refine Br.t (fun h => ?_))
    conv => whnf
    refine CallVC.mk [0] _ _ _ rfl rfl rfl (cx) (fun r m' h' => ?_)
    obtain ⟨rfl, rfl⟩ := h'
    conv => whnf
    repeat' ((conv => whnf); refine Br.t (fun h => ?_))
    refine YieldVC.of (rnd167 b p k V x hl hxE hB) ?_
    repeat' ((conv => whnf); first | refine Rng.g ?_ | fail)
    refine Back.mk (2 - 1) _ (by omega) ⟨1, rlx V x, by omega, rfl, ?_, rfl⟩ ?_
    ·rw [Fj_1 h0, List.foldl_append, ← hV, hx]; rfl
    ·exact Le.g [some 0, some 1, some 2, some 3, some 4, some 5, some 6, some 7, some 8]
   ·have cx := s248S b p hb hp i hi'
    repeat' ((conv => whnf); first | refine Ob.g ?_ | refine Br.t (fun h => ?_))
    conv => whnf
    refine CallVC.mk [0] _ _ _ rfl rfl rfl (cx) (fun r m' h' => ?_)
    obtain ⟨rfl, rfl⟩ := h'
    conv => whnf
    repeat' ((conv => whnf); first | refine Rng.g ?_ | refine Br.f (fun h => ?_))
    refine Back.mk (2 - 1) _ (by omega) ⟨1, V, by omega, rfl, ?_, rfl⟩ ?_
    ·rw [Fj_1n h0]; exact hV
    ·exact Le.g [some 0, some 1, some 2, some 3, some 4, some 5, some 6, some 7, some 8]
  ·by_cases h0 : b.per ≤ (i : Int)
   ·skip
    obtain ⟨x, hx⟩ : ∃ x, x = eL b p i := ⟨_, rfl⟩
    have cx := s248L b p hb hp i hi' h0
    rw [← hx] at cx
    have hxE : EOK p.length 16777216 x := hx ▸ edgs_ok hb hp _ (edgs_mem.2 ⟨i, hi', .inr (.inl ⟨h0, rfl⟩)⟩)
    repeat' ((conv => whnf); first | refine Ob.g ?_ | refine Br.t (fun h => ?_))
    conv => whnf
    refine CallVC.mk [0] _ _ _ rfl rfl rfl (cx) (fun r m' h' => ?_)
    obtain ⟨rfl, rfl⟩ := h'
    conv => whnf
    repeat' ((conv => whnf); first | refine Rng.g ?_ | fail)
    refine YieldVC.of (rnd167 b p k V x hl hxE hB) ?_
    repeat' ((conv => whnf); first | refine Rng.g ?_ | fail)
    refine Back.mk (2 - 2) _ (by omega) ⟨2, rlx V x, by omega, rfl, ?_, rfl⟩ ?_
    ·rw [Fj_2 h0, List.foldl_append, ← hV, hx]; rfl
    ·exact Le.g [some 0, some 1, some 2, some 3, some 4, some 5, some 6, some 7, some 8]
   ·have cx := s248N b p hb hp i hi' (by omega)
    repeat' ((conv => whnf); first | refine Ob.g ?_ | refine Br.t (fun h => ?_))
    conv => whnf
    refine CallVC.mk [0] _ _ _ rfl rfl rfl (cx) (fun r m' h' => ?_)
    obtain ⟨rfl, rfl⟩ := h'
    conv => whnf
    repeat' ((conv => whnf); first | refine Rng.g ?_ | fail)
    refine Back.mk (2 - 2) _ (by omega) ⟨2, V, by omega, rfl, ?_, rfl⟩ ?_
    ·rw [Fj_2n h0]; exact hV
    ·exact Le.g [some 0, some 1, some 2, some 3, some 4, some 5, some 6, some 7, some 8]
  ·repeat' ((conv => whnf); first | refine Rng.g ?_ | refine Br.f (fun h => ?_))
   refine Back.mk (p.length - (i + 1)) _ (by omega) ⟨i + 1, V, by omega, rfl, ?_, rfl⟩ ?_
   ·rw [E1_succ, List.foldl_append, ← hS, ← Fj_3]; exact hV
   ·exact Le.g [some 0, some 1, some 2, some 3, some 4, some 5, some 6, some 7, some 8]
 have ei : i = p.length := by omega
 subst ei
 repeat' ((conv => whnf); first | refine Rng.g ?_ | refine Br.f (fun h => ?_))
 refine LoopVC.mk (fun m st => ∃ (j : Nat) (V : LSt), j ≤ p.length - 1 ∧ m = p.length - 1 - j ∧ V = (E2 b p.length j).foldl rlx S ∧ st = ⟨9, envA 60 [(0, .x (.one (.yld 8))), (1, .x (.one (.ptr 7 0))), (3, .int .i64 (p.length : Int)), (9, .int .i64 ((p.length : Int) - 1 - (j : Int)))], [some (bSd b p), some (.box 181 [.nils, .nils]), some (.box 224 [.own 5]), some (.box 43 [.own 4]), some (rowRd V.R), some (rowEd V.P), some (.box 3 [.int .i64 V.c]), some (.box 176 [.ptr 0 0]), some (.loop [48] (cAs rf167) (cBo rf167) (envA 116 [(0, .x (.one (.ptr 0 0))), (2, .x (.one (.ptr 1 0))), (3, .int .i64 (p.length : Int)), (4, .x (.one (.ptr 3 0))), (5, .x (.one (.ptr 2 0))), (7, .int .i64 (k : Int)), (8, .x (.one (.ptr 6 0))), (46, .x (.one (.ptr 0 0))), (47, .x (.one (.fn 120 [(7, 0)])))]) .ready)]⟩) _ _ ⟨0, S, by omega, rfl, rfl, rfl⟩ ?_ ?_
 ·refine ⟨[some 0, some 1, some 2, some 3, some 4, some 5, some 6, some 7, some 8], rfl, rfl, ?_, ?_⟩ <;> repeat' (first | exact trivial | exact rfl | apply And.intro)
  all_goals first | exact congrArg Int.ofNat lp | omega
 rintro m' _ ⟨j, V, hj, hm', hV, rfl⟩
 have hB : RB p V := by
  rw [hV, hS, ← List.foldl_append]
  exact hM _ (fun e he => E2_mem' hj he) (E2_len' b p hj)
 by_cases hj' : j < p.length - 1
 ·obtain ⟨q, hq⟩ : ∃ q, q = p.length - 1 - j := ⟨_, rfl⟩
  have hqi : (p.length : Int) - 1 - (j : Int) = (q : Int) := by omega
  rw [hqi]
  obtain ⟨x, hx⟩ : ∃ x, x = eF b q := ⟨_, rfl⟩
  have cx := s248F b p hb hp q (by omega)
  rw [← hx] at cx
  have hxE : EOK p.length 16777216 x := hx ▸ edgs_ok hb hp _ (edgs_mem.2 ⟨q, by omega, .inr (.inr ⟨by omega, rfl⟩)⟩)
  repeat' ((conv => whnf); refine Br.t (fun h => ?_))
  conv => whnf
  refine CallVC.mk [0] _ _ _ rfl rfl rfl (cx) (fun r m' h' => ?_)
  obtain ⟨rfl, rfl⟩ := h'
  conv => whnf
  repeat' ((conv => whnf); refine Br.t (fun h => ?_))
  refine YieldVC.of (rnd167 b p k V x hl hxE hB) ?_
  repeat' ((conv => whnf); first | refine Rng.g ?_ | fail)
  refine Back.mk (p.length - 1 - (j + 1)) _ (by omega) ⟨j + 1, rlx V x, by omega, rfl, ?_, rfl⟩ ?_
  ·rw [E2_succ, List.foldl_append, ← hV, hx, hq]; rfl
  ·refine ⟨[some 0, some 1, some 2, some 3, some 4, some 5, some 6, some 7, some 8], rfl, rfl, ?_, ?_⟩ <;> repeat' (first | exact trivial | exact rfl | apply And.intro)
   all_goals omega
 have ej : j = p.length - 1 := by omega
 subst ej
 have eV : V = Z := by
  rw [← hZ]
  unfold edgs
  rw [List.foldl_append, ← hS]
  exact hV
 subst eV
 repeat' ((conv => whnf); refine Br.f (fun h => ?_))
 refine ⟨_, rfl, [some 0, some 1, some 2, some 3, some 4, some 5, some 6, some 7, some 8], rfl, rfl, ?_, ?_⟩ <;> repeat' (first | exact trivial | exact rfl | apply And.intro)
end Go.Sx

namespace Go.Sx
open Go Go.Proofs
set_option maxRecDepth 10000
set_option maxHeartbeats 16000000
theorem s167 (b : Blnk) (p : List Smp) (hb : BlnkOK b) (hp : PtB p) : HSpec Tryz.prog 84 [.one (.ptr 0 0)] [bSd b p] (SeRs b p) := by
 have lp := smpA_len p
 have hl := hp.len
 refine spec_g (bodyOf Tryz.f84) ([(2, ([4, 5], [⟨0, [], [1]⟩, ⟨2, [], [3]⟩, ⟨5, [], []⟩, ⟨4, [], []⟩, ⟨1, [], []⟩, ⟨6, [2], []⟩, ⟨3, [], []⟩, ⟨7, [], []⟩])), (6, ([], ordDef 0 4 ++ [⟨4, [0, 1], []⟩] ++ ordDef 5 4 ++ [⟨9, [7], []⟩])), (15, ([], ordDef 0 18 ++ [⟨18, [3, 4, 5, 14, 15, 16], []⟩, ⟨19, [], []⟩, ⟨20, [15, 16], []⟩, ⟨21, [], []⟩]))]) pMix Tryz.func84 Tryz.ntmps84 [.cell 2 181] ?_
 repeat' ((conv => whnf); first | refine Rng.g ?_ | fail)
 refine Ob.mk (by rw [eb2]; omega) ?_
 repeat' ((conv => whnf); first | refine Rng.g ?_ | fail)
 refine Ob.mk (by rw [eb385]; omega) ?_
 repeat' ((conv => whnf); first | refine Rng.g ?_ | fail)
 refine Ob.mk (by rw [eb2]; omega) ?_
 repeat' ((conv => whnf); first | refine Rng.g ?_ | fail)
 refine Ob.mk (by rw [eb385]; omega) ?_
 repeat' ((conv => whnf); first | refine Rng.g ?_ | fail)
 refine LoopVC.mk (fun m st => ∃ (i : Nat) (R : List Int) (P : List Edg), i ≤ p.length ∧ m = p.length - i ∧ R.length = p.length ∧ P.length = p.length ∧ (∀ j, j < i → R.getD j 0 = iniF b p j ∧ P.getD j e0 = eR b p j) ∧ st = ⟨1, envA 116 [(0, .x (.one (.ptr 0 0))), (2, .x (.one (.ptr 1 0))), (3, .int .i64 (p.length : Int)), (4, .x (.one (.ptr 3 0))), (5, .x (.one (.ptr 2 0))), (22, .int .i64 (p.length : Int)), (23, .int .i64 (i : Int))], [some (bSd b p), some (.box 181 [.nils, .nils]), some (.box 224 [.own 5]), some (.box 43 [.own 4]), some (rowRd R), some (rowEd P)]⟩) _ _ ⟨0, List.replicate p.length 0, List.replicate p.length e0, Nat.zero_le _, rfl, List.length_replicate, List.length_replicate, fun j hj => absurd hj (Nat.not_lt_zero j), rfl⟩ ?_ ?_
 ·refine ⟨[some 0, some 1, some 2, some 3, some 4, some 5], rfl, rfl, ?_, ?_⟩ <;> repeat' (first | exact trivial | exact rfl | apply And.intro)
  all_goals first
   | exact congrArg Int.ofNat lp
   | (rw [lp, Int.toNat_natCast]; first | exact i64s_rep _ | exact edgA_rep _)
 rintro m _ ⟨i, R, P, hi, hm, lR, lP, hj, rfl⟩
 have lr := i64s_len R
 have le := edgA_len P
 by_cases hi' : i < p.length
 ·have u1 : updRow (edgA P) (i : Int).toNat 0 [Cell.int (eR b p i).rule, Cell.int (eR b p i).pos, Cell.int (eR b p i).fr, Cell.int (eR b p i).to, Cell.int (eR b p i).w] = edgA (P.set i (eR b p i)) := by
   rw [Int.toNat_natCast]
   exact edgA_set P i _ (by omega)
  have le2 := edgA_len (P.set i (eR b p i))
  have lP2 : (P.set i (eR b p i)).length = P.length := List.length_set
  have g4 : rI (edgA (P.set i (eR b p i))) (i : Int).toNat (0 + (0 + 1 + 1 + 1 + 1)) = (eR b p i).w := by
   rw [Int.toNat_natCast]
   exact (edgA_4 _ i).trans (by rw [gset _ _ _ _ _ (by omega), if_pos rfl])
  have u2 : updRow (i64s R) (i : Int).toNat 0 [Cell.int (eR b p i).w] = i64s (R.set i (eR b p i).w) := by
   rw [Int.toNat_natCast]
   exact i64s_upd R i _ (by omega)
  repeat' ((conv => whnf); refine Br.t (fun h => ?_))
  conv => whnf
  refine CallVC0.on [0] _ _ _ rfl rfl rfl rfl (s248R b p hb hp i hi') (fun r m' h' => ?_)
  obtain ⟨rfl, rfl⟩ := h'
  conv => whnf
  repeat' ((conv => whnf); first | rw [u1] | rw [g4] | rw [u2] | refine Rng.g ?_ | refine Ob.g ?_ | fail)
  refine Back.mk (p.length - (i + 1)) _ (by omega) ⟨i + 1, R.set i (eR b p i).w, P.set i (eR b p i), by omega, rfl, by rw [List.length_set]; exact lR, lP2.trans lP, fun j hj' => ?_, rfl⟩ ?_
  ·rw [gset _ _ _ _ _ (by omega), gset _ _ _ _ _ (by omega)]
   by_cases hji : j = i
   ·rw [if_pos hji, if_pos hji, hji]
    exact ⟨rfl, rfl⟩
   ·rw [if_neg hji, if_neg hji]
    exact hj j (by omega)
  ·exact Le.g [some 0, some 1, some 2, some 3, some 4, some 5]
 have ei : i = p.length := by omega
 subst ei
 have h0 := LJ.start hb hp lR lP (fun v hv => (hj v hv).1) (fun v hv => (hj v hv).2)
 repeat' ((conv => whnf); refine Br.f (fun h => ?_))
 refine LoopVC.mk (fun m st => ∃ (k : Nat) (R : List Int) (P : List Edg) (L : Int) (N : Nat) (t : Nat → Nat) (T : Nat → Int), k ≤ p.length + 1 ∧ m = p.length + 1 - k ∧ LJp b p [] (k : Int) ⟨R, P, -1⟩ L N t T ∧ (L ≤ 16777216 + 206158430208 * (k : Int) ∧ N ≤ 12288 * k) ∧ st = ⟨1, envA 116 [(0, .x (.one (.ptr 0 0))), (2, .x (.one (.ptr 1 0))), (3, .int .i64 (p.length : Int)), (4, .x (.one (.ptr 3 0))), (5, .x (.one (.ptr 2 0))), (7, .int .i64 (k : Int))], [some (bSd b p), some (.box 181 [.nils, .nils]), some (.box 224 [.own 5]), some (.box 43 [.own 4]), some (rowRd R), some (rowEd P)]⟩) _ _ ⟨0, R, P, _, _, _, _, Nat.zero_le _, rfl, h0, ⟨by omega, by omega⟩, rfl⟩ ?_ ?_
 ·exact Le.g [some 0, some 1, some 2, some 3, some 4, some 5]
 clear h0 hj lR lP lr le R P
 rintro m _ ⟨k, R, P, L, N, t, T, hk, hm, hJ, ⟨hL, hN⟩, rfl⟩
 have lR : R.length = p.length := hJ.lr
 have lP : P.length = p.length := hJ.lp
 repeat' ((conv => whnf); first | refine Rng.g ?_ | fail)
 conv => whnf
 refine CallVC.mk [0] _ _ _ rfl rfl rfl (s249 b p) (fun r m' h' => ?_)
 obtain ⟨rfl, rfl⟩ := h'
 conv => whnf
 repeat' ((conv => whnf); first | refine Rng.g ?_ | fail)
 change RangeVC _ _ _ _ _
 have hM : ∀ F : List Edg, (∀ e, e ∈ F → e ∈ edgs b p) → F.length ≤ 3 * p.length → RB p (F.foldl rlx ⟨R, P, -1⟩) := fun F h1 h2 => mid_ok hb hp hJ hk hL F h1 h2
 refine RangeVC.of e120 (it304 b p hb hp k ⟨R, P, -1⟩ hM) ?_
 rintro _ rfl
 obtain ⟨t', T', hJ'⟩ := LJ.fold (by decide) (edgs_ok hb hp) (edgs b p) hJ (fun e h => h)
 have hE := edgs_len b p
 have hB := hM (edgs b p) (fun e h => h) hE
 obtain ⟨Z, hZ⟩ : ∃ Z, (edgs b p).foldl rlx ⟨R, P, -1⟩ = Z := ⟨_, rfl⟩
 rw [hZ] at hJ' hB ⊢
 clear hZ hM hJ lR lP
 obtain ⟨ZR, ZP, Zc⟩ := Z
 have lZ1 : ZR.length = p.length := hJ'.lr
 have lZ2 : ZP.length = p.length := hJ'.lp
 have lZ3 := i64s_len ZR
 have lZ4 := edgA_len ZP
 have hbd : ∀ v, v < p.length → -9007199254740992 ≤ ZR.getD v 0 ∧ ZR.getD v 0 ≤ 8388608 := hB.bd
 by_cases hc0 : Zc = -1
 ·have hf : ∀ e, e ∈ edgs b p → ZR.getD e.to.toNat 0 ≤ ZR.getD e.fr.toNat 0 + e.w := by
   rcases hJ'.c with ⟨_, h2⟩ | ⟨h2, _⟩
   ·exact fun e he => h2 e (by simp [he])
   ·exact absurd (show (0 : Int) ≤ Zc from h2) (by omega)
  subst hc0
  repeat' ((conv => whnf); first | (refine Br.mk (fun h => ?_) (fun h => ?_) <;> first | (exfalso; omega; done) | (exfalso; simp at h; done) | skip))
  refine LoopVC.mk (fun m st => ∃ (i : Nat), i ≤ p.length ∧ m = p.length - i ∧ (∀ j, j < i → 0 ≤ ZR.getD j 0 + ((p.getD j s0).l - b.core)) ∧ st = ⟨1, envA 116 [(0, .x (.one (.ptr 0 0))), (2, .x (.one (.ptr 1 0))), (3, .int .i64 (p.length : Int)), (4, .x (.one (.ptr 3 0))), (5, .x (.one (.ptr 2 0))), (91, .int .i64 (p.length : Int)), (92, .int .i64 (i : Int))], [some (bSd b p), some (.box 181 [.nils, .nils]), some (.box 224 [.own 5]), some (.box 43 [.own 4]), some (rowRd ZR), some (rowEd ZP)]⟩) _ _ ⟨0, Nat.zero_le _, rfl, fun j hj => absurd hj (Nat.not_lt_zero j), rfl⟩ ?_ ?_
  ·exact Le.g [some 0, some 1, some 2, some 3, some 4, some 5]
  rintro m' _ ⟨i, hi, hm', hj, rfl⟩
  have gr : rI (i64s ZR) (i : Int).toNat 0 = ZR.getD i 0 := by rw [Int.toNat_natCast]; exact i64s_get ZR i
  by_cases hi' : i < p.length
  ·have hbi := hbd i hi'
   have hpi := hp.each i hi'
   have hcr := hb.core
   have hri := hb.rim
   have ew : (eC b p i).w = (p.getD i s0).l - b.core := rfl
   repeat' ((conv => whnf); refine Br.t (fun h => ?_))
   conv => whnf
   refine CallVC.mk [0] _ _ _ rfl rfl rfl (s248C b p hb hp i hi') (fun r m' h' => ?_)
   obtain ⟨rfl, rfl⟩ := h'
   conv => whnf
   repeat' ((conv => whnf); first | rw [gr] | refine Rng.g ?_ | refine Ob.g ?_ | (refine Br.mk (fun h => ?_) (fun h => ?_) <;> first | (exfalso; omega; done) | (exfalso; simp at h; done) | skip))
   ·obtain ⟨q, hq1, hq2⟩ := hJ'.way (edgs_ok hb hp) hf (t' i) i (Nat.le_refl _) hi'
    have hq3 := hJ'.tm i
    have hw : Way ZP.length ZP i q := by rw [lZ2]; exact hq2
    conv => whnf
    refine CallVC.mk [] _ _ _ rfl rfl rfl (s251 ZP (eC b p i) i q (by omega) rfl hw (by omega)) (fun r m' h' => ?_)
    obtain ⟨A, hA, rfl, rfl⟩ := h'
    conv => whnf
    repeat' ((conv => whnf); first | refine Rng.g ?_ | fail)
    conv => whnf
    refine EndVC.mk _ rfl _ _ (.bad A hA (fun y => hJ'.none hi' (show ZR.getD i 0 + ((p.getD i s0).l - b.core) < 0 by omega) y) rfl rfl) ?_
    exact Le.g [some 0, some 7]
   ·refine Back.mk (p.length - (i + 1)) _ (by omega) ⟨i + 1, by omega, rfl, fun j hj' => ?_, rfl⟩ ?_
    ·rcases Nat.lt_succ_iff_lt_or_eq.1 hj' with h' | rfl
     ·exact hj j h'
     ·omega
    ·exact Le.g [some 0, some 1, some 2, some 3, some 4, some 5]
  ·repeat' ((conv => whnf); refine Br.f (fun h => ?_))
   conv => whnf
   refine EndVC.mk _ rfl _ _ (.ok ZR (hJ'.fin hf (fun j hj' => hj j (by omega))) rfl rfl) ?_
   exact Le.g [some 0, some 4]
 ·obtain ⟨z, hz⟩ : ∃ z : Nat, Zc = (z : Int) := by
   rcases hJ'.c with ⟨h2, _⟩ | ⟨h2, _⟩
   ·exact absurd h2 hc0
   ·exact ⟨Zc.toNat, by have : (0 : Int) ≤ Zc := h2; omega⟩
  subst hz
  repeat' ((conv => whnf); first | refine Rng.g ?_ | refine Br.f (fun h => ?_) | (refine Br.mk (fun h => ?_) (fun h => ?_) <;> first | (exfalso; omega; done) | (exfalso; simp at h; done) | skip))
  ·have hC : Circ ZP.length ZP z := by
    have := hJ'.circ (edgs_ok hb hp) (by omega) hc0
    rw [lZ2]
    exact this
   conv => whnf
   refine CallVC.mk [] _ _ _ rfl rfl rfl (s250 ZP z (by omega) hC) (fun r m' h' => ?_)
   obtain ⟨A, hA, rfl, rfl⟩ := h'
   conv => whnf
   repeat' ((conv => whnf); first | refine Rng.g ?_ | fail)
   conv => whnf
   refine EndVC.mk _ rfl _ _ (.bad A hA (fun y => hJ'.none' hb hp (by omega) hc0 y) rfl rfl) ?_
   exact Le.g [some 0, some 9]
  ·refine Back.mk (p.length + 1 - (k + 1)) _ (by omega) ⟨k + 1, ZR, ZP, _, _, _, _, by omega, rfl, hJ'.next (fun e he => by simp [he]), ⟨by omega, by omega⟩, rfl⟩ ?_
   exact Le.g [some 0, some 1, some 2, some 3, some 4, some 5]
end Go.Sx

namespace Go.Sx
open Go Go.Proofs
set_option maxRecDepth 10000
set_option maxHeartbeats 4000000
theorem s112 (c : Cut) (l : List Smp) : HSpec Tryz.prog 108 [c.x, lS l] [] (fun r m' => (∃ e, ¬ (CutOK c ∧ PtsOK l) ∧ e ≠ 0 ∧ r = .tup [.one .nilp, I e] ∧ m' = []) ∨ (CutOK c ∧ PtsOK l ∧ r = .tup [.one (.ptr 0 0), I 0] ∧ m' = [some (bTk ⟨c, l, 0, 0⟩)])) := by
 have v1 := s105 c
 have v2 := s153 l
 by_cases hC : ¬ CutOK c
 ·refine spec_g (bodyOf Tryz.f108) [] pMix Tryz.func108 Tryz.ntmps108 [.tmp 4, .tmp 5] ?_
  repeat' ((conv => whnf); first | refine Rng.g ?_ | fail)
  conv => whnf
  refine CallVC.mk [] _ _ _ rfl rfl rfl (v1) (fun r m' h' => ?_)
  obtain ⟨e, rfl, rfl, he⟩ := h'
  conv => whnf
  have he0 : e ≠ 0 := fun h0 => hC (he.1 h0)
  repeat' ((conv => whnf); refine Br.t (fun h => ?_))
  conv => whnf
  refine EndVC.mk _ rfl _ _ (.inl ⟨e, fun h => hC h.1, he0, rfl, rfl⟩) ?_
  exact Le.g []
 replace hC := Classical.not_not.1 hC
 by_cases hP : ¬ PtsOK l
 ·refine spec_g (bodyOf Tryz.f108) [] pMix Tryz.func108 Tryz.ntmps108 [.tmp 4, .tmp 5] ?_
  repeat' ((conv => whnf); first | refine Rng.g ?_ | fail)
  conv => whnf
  refine CallVC.mk [] _ _ _ rfl rfl rfl (v1) (fun r m' h' => ?_)
  obtain ⟨e, rfl, rfl, he⟩ := h'
  conv => whnf
  cases he.2 hC
  repeat' ((conv => whnf); refine Br.f (fun h => ?_))
  conv => whnf
  refine CallVC.mk [] _ _ _ rfl rfl rfl (v2) (fun r m' h' => ?_)
  obtain ⟨e, rfl, rfl, he'⟩ := h'
  conv => whnf
  have he0 : e ≠ 0 := fun h0 => hP (he'.1 h0)
  repeat' ((conv => whnf); refine Br.t (fun h => ?_))
  conv => whnf
  refine EndVC.mk _ rfl _ _ (.inl ⟨e, fun h => hP h.2, he0, rfl, rfl⟩) ?_
  exact Le.g []
 replace hP := Classical.not_not.1 hP
 refine spec_g (bodyOf Tryz.f108) [] pMix Tryz.func108 Tryz.ntmps108 [.tmp 4, .tmp 5] ?_
 repeat' ((conv => whnf); first | refine Rng.g ?_ | fail)
 conv => whnf
 refine CallVC.mk [] _ _ _ rfl rfl rfl (v1) (fun r m' h' => ?_)
 obtain ⟨e, rfl, rfl, he⟩ := h'
 conv => whnf
 cases he.2 hC
 repeat' ((conv => whnf); refine Br.f (fun h => ?_))
 conv => whnf
 refine CallVC.mk [] _ _ _ rfl rfl rfl (v2) (fun r m' h' => ?_)
 obtain ⟨e, rfl, rfl, he'⟩ := h'
 conv => whnf
 cases he'.2 hP
 repeat' ((conv => whnf); refine Br.f (fun h => ?_))
 conv => whnf
 refine EndVC.mk _ rfl _ _ (.inr ⟨hC, hP, rfl, rfl⟩) ?_
 exact Le.g [some 1]
def Trk.at (t : Trk) (r : Int) : Trk := ⟨t.c, t.p, r, t.per⟩
theorem arcF_mono {r q per : Int} (h0 : 0 ≤ r) (h : r ≤ q) (hp : 1 ≤ per) : arcF r per ≤ arcF q per := by
 unfold arcF
 refine Int.ediv_le_ediv (Int.mul_pos (by omega) (by omega)) ?_
 exact Int.mul_le_mul (by omega) (by omega) (by omega) (by omega)
theorem brk_mono {t : Trk} (hc : CutOK t.c) (hp : 1 ≤ t.per) {r q : Int} (h0 : 0 ≤ r) (h : r ≤ q) (i : Nat) (b a : Bool) (k : Nat) (hb : brk (t.at q) i b a k) : brk (t.at r) i b a k := by
 have hs := hc.slope
 unfold brk at hb ⊢
 match k with
 | 0 => exact hb
 | 1 => exact hb
 | 2 => exact hb
 | 3 =>
  have : 710 * r * t.c.slope ≤ 710 * q * t.c.slope := Int.mul_le_mul_of_nonneg_right (by omega) hs.1
  simp only [Trk.at] at hb ⊢
  omega
 | 4 => exact hb
 | 5 =>
  have := arcF_mono h0 h hp
  simp only [Trk.at] at hb ⊢
  omega
 | _ + 6 => exact hb
theorem ruleF_0 (t : Trk) (i : Nat) (b a : Bool) : ruleF t i b a = 0 ↔ ¬ brk t i b a 1 ∧ ¬ brk t i b a 2 ∧ ¬ brk t i b a 3 ∧ ¬ brk t i b a 4 ∧ ¬ brk t i b a 5 := by
 unfold ruleF
 repeat' split
 all_goals simp_all
def pN (t : Trk) (i : Nat) (r : Int) : Prop := ruleAt (t.at r) i = 0
instance (t : Trk) (i : Nat) (r : Int) : Decidable (pN t i r) := by unfold pN; exact inferInstance
def pL (t : Trk) (r : Int) : Prop := ∀ j, j < t.p.length → pN t j r
open Classical in
noncomputable instance (t : Trk) (r : Int) : Decidable (pL t r) := propDecidable _
theorem pN.mono {t : Trk} (hc : CutOK t.c) (hp : 1 ≤ t.per) {i : Nat} {r q : Int} (h0 : 0 ≤ r) (h : r ≤ q) (hn : pN t i r) : pN t i q := by
 unfold pN ruleAt at hn ⊢
 rw [ruleF_0] at hn ⊢
 obtain ⟨h1, h2, h3, h4, h5⟩ := hn
 exact ⟨fun hb => h1 (brk_mono hc hp h0 h _ _ _ _ hb), fun hb => h2 (brk_mono hc hp h0 h _ _ _ _ hb), fun hb => h3 (brk_mono hc hp h0 h _ _ _ _ hb), fun hb => h4 (brk_mono hc hp h0 h _ _ _ _ hb), fun hb => h5 (brk_mono hc hp h0 h _ _ _ _ hb)⟩
theorem pL.mono {t : Trk} (hc : CutOK t.c) (hp : 1 ≤ t.per) {r q : Int} (h0 : 0 ≤ r) (h : r ≤ q) (hn : pL t r) : pL t q := fun j hj => (hn j hj).mono hc hp h0 h
theorem FaultIs.zero {t : Trk} {i : Nat} {x : Int} (h : FaultIs t i x) : x = 0 ↔ pL t t.r := by
 constructor
 ·intro h0 j hj
  exact (h.none h0).2 j hj
 ·intro hp
  refine Classical.byContradiction fun h0 => ?_
  obtain ⟨h1, h2, _⟩ := h.some h0
  exact h0 (h2.trans (hp i h1))
theorem s115 (t : Trk) (ht : TrkOK t) : HSpec Tryz.prog 111 [.one (.ptr 0 0)] [.box 243 [.ptr 1 0], bTk t] (fun r m' => r = xP (pL t t.r) ∧ m' = [some (.box 243 [.ptr 1 0]), some (bTk t)]) := by
 refine spec_g (bodyOf Tryz.f111) [] pMix Tryz.func111 Tryz.ntmps111 [.tmp 1] ?_
 repeat' ((conv => whnf); first | refine Rng.g ?_ | fail)
 conv => whnf
 refine CallVC.mk [] _ _ _ rfl rfl rfl (s116 t ht) (fun r m' h' => ?_)
 obtain ⟨i, x, hF, rfl, rfl⟩ := h'
 conv => whnf
 repeat' ((conv => whnf); first | refine Rng.g ?_ | fail)
 refine EndVC.mk _ rfl _ _ ⟨rfl, rfl⟩ ?_
 refine ⟨[some 0, some 1], rfl, rfl, ?_, ?_⟩ <;> repeat' (first | exact trivial | exact rfl | apply And.intro)
 all_goals exact hF.zero
theorem s207 (t : Trk) (r : Int) (ht : TrkOK (t.at r)) : HSpec Tryz.prog 126 [I r, .one (.ptr 0 0), .one (.ptr 1 0)] [.box 243 [.ptr 2 0], .box 27 [.fn 111 [(3, 0)]], bTk t, .box 243 [.ptr 2 0]] (fun x m' => x = xP (pL t r) ∧ m' = [some (.box 243 [.ptr 2 0]), some (.box 27 [.fn 111 [(3, 0)]]), some (bTk (t.at r)), some (.box 243 [.ptr 2 0])]) := by
 refine spec_g (bodyOf Tryz.f126) [] pMix Tryz.func126 Tryz.ntmps126 [.tmp 4] ?_
 repeat' ((conv => whnf); first | refine Rng.g ?_ | fail)
 conv => whnf
 refine CallVC.mk [3, 2] _ _ _ rfl rfl rfl (s115 (t.at r) ht) (fun r m' h' => ?_)
 obtain ⟨rfl, rfl⟩ := h'
 conv => whnf
 repeat' ((conv => whnf); first | refine Rng.g ?_ | fail)
 refine EndVC.mk _ rfl _ _ ⟨rfl, rfl⟩ ?_
 exact Le.g [some 0, some 1, some 2, some 3]
end Go.Sx

namespace Go.Sx
open Go Go.Proofs
set_option maxRecDepth 10000
set_option maxHeartbeats 8000000
inductive OuRs (b : Blnk) (p : List Smp) (r : AV) (m' : List (Option Blk)) : Prop
 | bad (e : Int) (h : ¬ (BlnkOK b ∧ PtsOK p)) (he : e ≠ 0) (hr : r = .tup [.one .nils, I e]) (hm : m' = [])
 | none (hb : BlnkOK b) (hp : PtsOK p) (hn : ∀ y, ¬ Feas b p y) (hr : r = .tup [.one .nils, I 15]) (hm : m' = [])
 | ok (hb : BlnkOK b) (hp : PtsOK p) (R : List Int) (h : Best b p R) (hr : r = .tup [.one (.own 0), I 0]) (hm : m' = [some (rowRd R)])
theorem s82 (b : Blnk) (p : List Smp) : HSpec Tryz.prog 66 [b.x, lS p] [] (OuRs b p) := by
 refine spec_g (bodyOf Tryz.f66) [] pMix Tryz.func66 Tryz.ntmps66 [.tmp 4, .tmp 5] ?_
 repeat' ((conv => whnf); first | refine Rng.g ?_ | fail)
 conv => whnf
 refine CallVC.mk [] _ _ _ rfl rfl rfl (s135 b p) (fun r m' h' => ?_)
 rcases h' with ⟨e, hn, he, rfl, rfl⟩ | ⟨hb, hp, rfl, rfl⟩
 ·repeat' ((conv => whnf); refine Br.t (fun h => ?_))
  conv => whnf
  refine EndVC.mk _ rfl _ _ (.bad e hn he rfl rfl) ?_
  exact Le.g []
 ·repeat' ((conv => whnf); refine Br.f (fun h => ?_))
  conv => whnf
  refine CallVC.mk [1] _ _ _ rfl rfl rfl (s167 b p hb hp.ptb) (fun r m' h' => ?_)
  cases h' with
  | bad A hA hn hr hm =>
   subst hr hm
   repeat' ((conv => whnf); refine Br.t (fun h => ?_))
   conv => whnf
   refine EndVC.mk _ rfl _ _ (.none hb hp hn rfl rfl) ?_
   exact Le.g []
  | ok R hR hr hm =>
   subst hr hm
   repeat' ((conv => whnf); refine Br.f (fun h => ?_))
   conv => whnf
   refine EndVC.mk _ rfl _ _ (.ok hb hp R hR rfl rfl) ?_
   exact Le.g [some 2]
@[reducible] def bPs (p : List Smp) : Blk := .box 93 [.lst true KS (smpA p)]
end Go.Sx

namespace Go.Sx
open Go Go.Proofs
set_option maxRecDepth 10000
set_option maxHeartbeats 16000000
end Go.Sx

namespace Go.Sx
open Go Go.Proofs
set_option maxRecDepth 10000
set_option maxHeartbeats 16000000
end Go.Sx

namespace Go.Sx
open Go Go.Proofs
set_option maxRecDepth 10000
set_option maxHeartbeats 4000000
structure Fmt where
 nm : ByteArray
 outer : Int
 inner : Int
 per : Int
 lead : Int
 gap : Int
 tail : Int
 cost : Int
structure FmtOK (f : Fmt) : Prop where
 nm : nameOK f.nm
 outer : 1 ≤ f.outer ∧ f.outer ≤ 4194304
 inner : 0 ≤ f.inner ∧ f.inner ≤ f.outer - 1
 per : 1 ≤ f.per ∧ f.per ≤ 65536
 cost : 0 ≤ f.cost ∧ f.cost ≤ 1048576
 lead : 0 ≤ f.lead ∧ f.lead ≤ 4194304
 gap : 0 ≤ f.gap ∧ f.gap ≤ 4194304
 tail : 0 ≤ f.tail ∧ f.tail ≤ 4194304
structure Sng where
 long : Int
 pitch : Int
 least : Int
abbrev g0 : Sng := ⟨0, 0, 0⟩
def Sng.ok (g : Sng) : Prop := (1 ≤ g.long ∧ g.long ≤ 16777216) ∧ (1 ≤ g.pitch ∧ g.pitch ≤ 4096) ∧ (0 ≤ g.least ∧ g.least ≤ 4194304)
structure SngsOK (l : List Sng) : Prop where
 len : l.length ≤ 24
 each : ∀ j, j < l.length → (l.getD j g0).ok
def widF (f : Fmt) (g : Sng) : Int := g.pitch * ((g.long + f.per - 1) / f.per)
theorem wid_bd {f : Fmt} {g : Sng} (hp : 1 ≤ f.per) (hg : g.ok) : (1 ≤ (g.long + f.per - 1) / f.per ∧ (g.long + f.per - 1) / f.per ≤ 16777216) ∧ 1 ≤ widF f g ∧ widF f g ≤ 68719476736 := by
 obtain ⟨⟨l1, l2⟩, ⟨p1, p2⟩, _⟩ := hg
 have h1 : 1 ≤ (g.long + f.per - 1) / f.per := by
  have := Int.add_mul_ediv_left (g.long - 1) 1 (show f.per ≠ 0 by omega)
  rw [show g.long - 1 + f.per * 1 = g.long + f.per - 1 by omega] at this
  have h2 : 0 ≤ (g.long - 1) / f.per := Int.ediv_nonneg (by omega) (by omega)
  omega
 have h2 : (g.long + f.per - 1) / f.per ≤ 16777216 := by
  have := Int.add_mul_ediv_left (g.long - 1) 1 (show f.per ≠ 0 by omega)
  rw [show g.long - 1 + f.per * 1 = g.long + f.per - 1 by omega] at this
  have h3 : (g.long - 1) / f.per ≤ g.long - 1 := Int.ediv_le_self _ (by omega)
  omega
 refine ⟨⟨h1, h2⟩, ?_, ?_⟩
 ·unfold widF
  have := Int.mul_le_mul p1 h1 (by decide) (by omega)
  omega
 ·unfold widF
  have := Int.mul_le_mul p2 h2 (by omega) (by decide)
  omega
end Go.Sx

namespace Go.Sx
open Go Go.Proofs
set_option maxRecDepth 10000
set_option maxHeartbeats 4000000
@[reducible] def Fmt.x (f : Fmt) : XV := .agg [.str f.nm, .int .i64 f.outer, .int .i64 f.inner, .int .i64 f.per, .int .i64 f.lead, .int .i64 f.gap, .int .i64 f.tail, .int .i64 f.cost]
@[reducible] def Sng.x (g : Sng) : XV := .agg [.int .i64 g.long, .int .i64 g.pitch, .int .i64 g.least]
def sngA (l : List Sng) : Arr := l.map fun g => [.int g.long, .int g.pitch, .int g.least]
theorem sngA_len (l : List Sng) : (sngA l).length = l.length := by simp [sngA]
theorem sngA_0 (l : List Sng) (i : Nat) : rI (sngA l) i 0 = (l.getD i g0).long := map_rI _ g0 l i 0 rfl
theorem sngA_1 (l : List Sng) (i : Nat) : rI (sngA l) i (0 + 1) = (l.getD i g0).pitch := map_rI _ g0 l i 1 rfl
theorem sngA_2 (l : List Sng) (i : Nat) : rI (sngA l) i (0 + 1 + 1) = (l.getD i g0).least := map_rI _ g0 l i 2 rfl
@[reducible] def KSng : List CK := [.int .i64, .int .i64, .int .i64]
@[reducible] def lSng (l : List Sng) : XV := .one (.lst true KSng (sngA l))
theorem s295 (n lo hi : Int) : PSpec Tryz.prog 123 [I n, I lo, I hi] (xP (n < lo ∨ n > hi)) := by
 refine spec_g (bodyOf Tryz.f123) [] pMix Tryz.func123 Tryz.ntmps123 [.tmp 6] ?_
 repeat' ((conv => whnf); first | (refine Br.mk (fun h => ?_) (fun h => ?_) <;> first | (exfalso; omega; done) | (exfalso; simp at h; done) | skip))
 ·refine EndVC.mk _ rfl _ _ ⟨rfl, rfl⟩ ?_
  refine ⟨[], rfl, rfl, ?_, ?_⟩ <;> repeat' (first | exact trivial | apply And.intro)
  exact .inl h
 ·refine EndVC.mk _ rfl _ _ ⟨rfl, rfl⟩ ?_
  refine ⟨[], rfl, rfl, ?_, ?_⟩ <;> repeat' (first | exact trivial | apply And.intro)
  exact ⟨fun h2 => .inr h2, fun h2 => h2.elim (fun h3 => absurd h3 h) id⟩
theorem bytA_get (b : ByteArray) (i : Nat) : rI (bytA b) i 0 = chr b i := map_rI _ (0 : UInt8) b.data.toList i 0 rfl
theorem bytA_len (b : ByteArray) : (bytA b).length = b.size := by
 show (b.data.toList.map _).length = b.data.size
 rw [List.length_map, Array.length_toList]
open Classical in
theorem s294 (s : ByteArray) (hs : s.size ≤ 140737488355328) : PSpec Tryz.prog 122 [.one (.str s)] (xP (nameOK s)) := by
 have lb := bytA_len s
 refine spec_g (bodyOf Tryz.f122) [] pMix Tryz.func122 Tryz.ntmps122 [.tmp 2] ?_
 repeat' ((conv => whnf); first | refine Rng.g ?_ | fail)
 refine LoopVC.mk (fun n st => ∃ (i : Nat), i ≤ s.size ∧ n = s.size - i ∧ (∀ j, j < i → okC (chr s j)) ∧ st = ⟨0, envA 34 [(0, .x (.one (.str s))), (6, .x (.one (.lst false [.int .u8] (bytA s)))), (7, .int .i64 (s.size : Int)), (8, .int .i64 (i : Int))], []⟩) _ _ ⟨0, Nat.zero_le _, rfl, fun j hj => absurd hj (Nat.not_lt_zero j), rfl⟩ ?_ ?_
 ·refine ⟨[], rfl, rfl, ?_, ?_⟩ <;> repeat' (first | exact trivial | exact rfl | apply And.intro)
  exact congrArg Int.ofNat lb
 rintro n _ ⟨i, hi, hn, hj, rfl⟩
 have gc : rI (bytA s) (i : Int).toNat 0 = chr s i := by rw [Int.toNat_natCast, bytA_get]
 by_cases hi' : i < s.size
 ·by_cases hc : okC (chr s i)
  ·have hc' := hc
   unfold okC at hc'
   repeat' ((conv => whnf); first | rw [gc] | refine Rng.g ?_ | refine Ob.g ?_ | refine Br.t (fun h => ?_) | refine Br.f (fun h => ?_) | (refine Br.mk (fun h => ?_) (fun h => ?_) <;> first | (exfalso; omega; done) | (exfalso; simp at h; done) | skip))
   all_goals
    refine Back.mk (s.size - (i + 1)) _ (by omega) ⟨i + 1, by omega, rfl, fun j hj' => ?_, rfl⟩ ?_
    ·rcases Nat.lt_succ_iff_lt_or_eq.1 hj' with h' | rfl
     ·exact hj j h'
     ·exact hc
    ·exact Le.g []
  ·have hc' := hc
   unfold okC at hc'
   repeat' ((conv => whnf); first | rw [gc] | refine Ob.g ?_ | refine Br.t (fun h => ?_) | refine Br.f (fun h => ?_) | (refine Br.mk (fun h => ?_) (fun h => ?_) <;> first | (exfalso; omega; done) | (exfalso; simp at h; done) | skip))
   all_goals
    refine EndVC.mk _ rfl _ _ ⟨rfl, rfl⟩ ?_
    refine ⟨[], rfl, rfl, ?_, ?_⟩ <;> repeat' (first | exact trivial | apply And.intro)
    exact fun hn => hc (hn.2.2 i hi')
 ·have h0 : s.size = 0 ↔ s = ⟨#[]⟩ := ⟨fun h => ByteArray.ext (Array.eq_empty_of_size_eq_zero h), fun h => by rw [h]; rfl⟩
  repeat' ((conv => whnf); first | refine Br.f (fun h => ?_) | (refine Br.mk (fun h => ?_) (fun h => ?_) <;> first | (exfalso; omega; done) | (exfalso; simp at h; done) | skip))
  ·have h1 : ¬ s.size = 0 := fun e => h (h0.1 e)
   refine EndVC.mk _ rfl _ _ ⟨rfl, rfl⟩ ?_
   refine ⟨[], rfl, rfl, ?_, ?_⟩ <;> repeat' (first | exact trivial | apply And.intro)
   exact ⟨fun h2 => ⟨by omega, by omega, fun j hj' => hj j (by omega)⟩, fun hn => (by have := hn.2.1; omega)⟩
  ·have h1 : s.size = 0 := h0.2 (Classical.not_not.1 h)
   refine EndVC.mk _ rfl _ _ ⟨rfl, rfl⟩ ?_
   refine ⟨[], rfl, rfl, ?_, ?_⟩ <;> repeat' (first | exact trivial | apply And.intro)
   exact fun hn => (by have := hn.1; omega)
theorem s227 (f : Fmt) (hI : f.nm.size ≤ 140737488355328) : HSpec Tryz.prog 103 [f.x] [] (fun r m' => ∃ e, r = .x (I e) ∧ m' = [] ∧ (e = 0 ↔ FmtOK f)) := by
 have k0 := s295 f.lead 0 4194304
 have k1 := s295 f.gap 0 4194304
 have k2 := s295 f.tail 0 4194304
 refine spec_g (bodyOf Tryz.f103) [] pMix Tryz.func103 Tryz.ntmps103 [.tmp 2] ?_
 repeat' ((conv => whnf); first | refine Rng.g ?_ | refine CallVC.pure rfl (s294 f.nm hI) ?_ | refine CallVC.pure rfl (s295 f.outer 1 4194304) ?_ | refine CallVC.pure rfl (s295 f.inner 0 (f.outer - 1)) ?_ | refine CallVC.pure rfl (s295 f.per 1 65536) ?_ | refine CallVC.pure rfl (s295 f.cost 0 1048576) ?_ | refine Br.mk (fun h => ?_) fun h => ?_)
 all_goals
  refine LoopVC.un 4 ?_
  repeat' ((conv => whnf); first | refine Rng.g ?_ | refine Ob.g ?_ | refine CallVC.pure rfl (k0) ?_ | refine CallVC.pure rfl (k1) ?_ | refine CallVC.pure rfl (k2) ?_ | refine Br.t (fun h => ?_) | refine Br.f (fun h => ?_) | refine Br.mk (fun h => ?_) fun h => ?_)
 rotate_right
 ·conv => whnf
  refine EndVC.mk _ rfl _ _ (⟨0, rfl, rfl, ⟨fun _ => ⟨Classical.not_not.1 (by assumption), by omega, by omega, by omega, by omega, by omega, by omega, by omega⟩, fun _ => rfl⟩⟩) ?_
  exact Le.g []
 all_goals
  conv => whnf
  refine EndVC.mk _ rfl _ _ (⟨2, rfl, rfl, ⟨fun h => (by cases h), fun hC => (by obtain ⟨h0, h1, h2, h3, h4, h5, h6, h7⟩ := hC; first | contradiction | omega)⟩⟩) ?_
  exact Le.g []
end Go.Sx
