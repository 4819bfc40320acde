import Derived.Test.YteodcncppchhnaaGreatDoorProg
import Derived.Test.YteodcncppchhnaaGreatDoorXv
import Derived.Shelf.Strings.SlTrimAscii
namespace Go.Sx
open Go Go.Proofs
set_option maxRecDepth 10000
set_option maxHeartbeats 1000000
theorem pMix : Tryz.prog.follows .mixedOrders = true := by kernel_rfl
/-- A sample. -/
structure Smp where
  l : Int
  r : Int
@[reducible] def Smp.x (s : Smp) : XV := .agg [.int .i64 s.l, .int .i64 s.r]
def smpA (l : List Smp) : Arr := l.map fun s => [.int s.l, .int s.r]
theorem smpA_len (l : List Smp) : (smpA l).length = l.length := by simp [smpA]
abbrev s0 : Smp := ⟨0, 0⟩
theorem smpA_l (l : List Smp) (i : Nat) : rI (smpA l) i 0 = (l.getD i s0).l := map_rI _ s0 l i 0 rfl
theorem smpA_r (l : List Smp) (i : Nat) : rI (smpA l) i 1 = (l.getD i s0).r := map_rI _ s0 l i 1 rfl
@[reducible] def KS : List CK := [.int .i64, .int .i64]
@[reducible] def lS (l : List Smp) : XV := .one (.lst true KS (smpA l))
def Smp.ok (s : Smp) : Prop := -32767 ≤ s.l ∧ s.l ≤ 32767 ∧ -32767 ≤ s.r ∧ s.r ≤ 32767
instance (s : Smp) : Decidable s.ok := by unfold Smp.ok; exact inferInstance
def inI (n : Int) : Prop := -9223372036854775808 ≤ n ∧ n ≤ 9223372036854775807
theorem s125 (n lo hi : Int) : PSpec Tryz.prog 71 [I n, I lo, I hi] (xP (lo ≤ n ∧ n ≤ hi)) := by
  refine spec_of pMix (O := []) Tryz.func71 (c := bodyOf Tryz.f71) rfl (by kernel_rfl) (by kernel_rfl) Tryz.ntmps71 (res := [.tmp 6]) (by kernel_rfl) ?_
  repeat' ((conv => whnf); first | (refine Br.mk (fun h => ?_) (fun h => ?_) <;> first | (exfalso; omega; done) | (exfalso; simp at h; done) | skip))
  · repeat refine Mm.mk ?_
    refine EndVC.mk _ rfl _ _ ⟨rfl, rfl⟩ ?_
    refine ⟨[], rfl, rfl, ?_, ?_⟩ <;> repeat' (first | exact trivial | apply And.intro)
    show _ ↔ _
    simp [h]
  · repeat refine Mm.mk ?_
    refine EndVC.mk _ rfl _ _ ⟨rfl, rfl⟩ ?_
    refine ⟨[], rfl, rfl, ?_, ?_⟩ <;> repeat' (first | exact trivial | apply And.intro)
    show ¬ _
    simp [h]
theorem s200 (s : Smp) : PSpec Tryz.prog 49 [s.x] (xP s.ok) := by
  refine spec_of pMix (O := []) Tryz.func49 (c := bodyOf Tryz.f49) rfl (by kernel_rfl) (by kernel_rfl) Tryz.ntmps49 (res := [.tmp 2]) (by kernel_rfl) ?_
  repeat' ((conv => whnf); first | refine CallVC.pure rfl (s125 _ _ _) ?_ | (refine Br.mk (fun h => ?_) (fun h => ?_) <;> first | (exfalso; omega; done) | (exfalso; simp at h; done) | skip))
  · repeat refine Mm.mk ?_
    refine EndVC.mk _ rfl _ _ ⟨rfl, rfl⟩ ?_
    refine ⟨[], rfl, rfl, ?_, ?_⟩ <;> repeat' (first | exact trivial | apply And.intro)
    show _ ↔ _
    unfold Smp.ok
    omega
  · repeat refine Mm.mk ?_
    refine EndVC.mk _ rfl _ _ ⟨rfl, rfl⟩ ?_
    refine ⟨[], rfl, rfl, ?_, ?_⟩ <;> repeat' (first | exact trivial | apply And.intro)
    show ¬ _
    unfold Smp.ok
    omega
theorem s229 (n : Int) (h : inI n) : PSpec Tryz.prog 54 [I n] (.x (I (if n = -9223372036854775808 then n else if n < -n then -n else n))) := by
  unfold inI at h
  by_cases h1 : n = -9223372036854775808
  · subst h1
    refine spec_of pMix (O := []) Tryz.func54 (c := bodyOf Tryz.f54) rfl (by kernel_rfl) (by kernel_rfl) Tryz.ntmps54 (res := [.tmp 2]) (by kernel_rfl) ?_
    refine Rng.wr ?_
    repeat' ((conv => whnf); first | refine Mm.mk ?_)
    repeat refine Mm.mk ?_
    refine EndVC.mk _ rfl _ _ ⟨rfl, rfl⟩ ?_
    refine ⟨[], rfl, rfl, ?_, ?_⟩ <;> repeat' (first | exact trivial | exact rfl | apply And.intro)
  · rw [if_neg h1]
    refine spec_of pMix (O := []) Tryz.func54 (c := bodyOf Tryz.f54) rfl (by kernel_rfl) (by kernel_rfl) Tryz.ntmps54 (res := [.tmp 2]) (by kernel_rfl) ?_
    repeat' ((conv => whnf); first | refine Rng.g ?_ | refine Mm.mk ?_)
    repeat refine Mm.mk ?_
    refine EndVC.mk _ rfl _ _ ⟨rfl, rfl⟩ ?_
    refine ⟨[], rfl, rfl, ?_, ?_⟩ <;> repeat' (first | exact trivial | exact rfl | apply And.intro)
    show (if n < 0 - n then 0 - n else n) = _
    split <;> split <;> omega
theorem s142 (s : Smp) (hl : inI s.l) (hr : inI s.r) : PSpec Tryz.prog 55 [s.x] (xP s.ok) := by
  unfold inI at hl hr
  refine spec_of pMix (O := []) Tryz.func55 (c := bodyOf Tryz.f55) rfl (by kernel_rfl) (by kernel_rfl) Tryz.ntmps55 (res := [.tmp 2]) (by kernel_rfl) ?_
  repeat' ((conv => whnf); first | refine CallVC.pure rfl (s229 s.l hl) ?_ | refine CallVC.pure rfl (s229 s.r hr) ?_ | (refine Br.mk (fun h => ?_) (fun h => ?_) <;> first | (exfalso; omega; done) | (exfalso; simp at h; done) | skip))
  all_goals
    repeat refine Mm.mk ?_
    refine EndVC.mk _ rfl _ _ ⟨rfl, rfl⟩ ?_
    refine ⟨[], rfl, rfl, ?_, ?_⟩ <;> repeat' (first | exact trivial | apply And.intro)
    first
      | (show _ ↔ _; unfold Smp.ok; repeat' split at *; all_goals omega)
      | (show ¬ _; unfold Smp.ok; repeat' split at *; all_goals omega)
/-- The error of samples. -/
def smpE (l : List Smp) : Int := if 4096 < l.length then 6 else if ∀ s ∈ l, s.ok then 0 else 2
theorem smpE_0 {l : List Smp} : smpE l = 0 ↔ l.length ≤ 4096 ∧ ∀ s ∈ l, s.ok := by
  unfold smpE
  split
  · constructor
    · intro h; cases h
    · intro h; omega
  · split
    · rename_i h1 h2; exact ⟨fun _ => ⟨by omega, h2⟩, fun _ => rfl⟩
    · rename_i h1 h2; exact ⟨fun h => (by cases h), fun h => absurd h.2 h2⟩
theorem smpE_2 {l : List Smp} (h : l.length ≤ 4096) {i : Nat} (hi : i < l.length) (hn : ¬ (l.getD i s0).ok) : smpE l = 2 := by
  unfold smpE
  rw [if_neg (by omega), if_neg (fun h' => hn (h' _ (getD_mem' s0 hi)))]
theorem smpE_ok {l : List Smp} (h : l.length ≤ 4096) (hn : ∀ j, j < l.length → (l.getD j s0).ok) : smpE l = 0 := by
  refine smpE_0.2 ⟨h, fun s hs => ?_⟩
  obtain ⟨j, hj, rfl⟩ := List.getElem_of_mem hs
  have := hn j hj
  rwa [List.getD_eq_getElem?_getD, List.getElem?_eq_getElem hj] at this
theorem s103 (l : List Smp) : PSpec Tryz.prog 25 [lS l] (.x (I (smpE l))) := by
  have ll := smpA_len l
  by_cases hl : 4096 < l.length
  · refine spec_of pMix (O := []) Tryz.func25 (c := bodyOf Tryz.f25) rfl (by kernel_rfl) (by kernel_rfl) Tryz.ntmps25 (res := [.tmp 2]) (by kernel_rfl) ?_
    repeat' ((conv => whnf); first | (refine Br.mk (fun h => ?_) (fun h => ?_) <;> first | (exfalso; omega; done) | (exfalso; simp at h; done) | skip))
    repeat refine Mm.mk ?_
    refine EndVC.mk _ rfl _ _ ⟨rfl, rfl⟩ ?_
    refine ⟨[], rfl, rfl, ?_, ?_⟩ <;> repeat' (first | exact trivial | exact rfl | apply And.intro)
    unfold smpE
    rw [if_pos hl]
  refine spec_of pMix (O := []) Tryz.func25 (c := bodyOf Tryz.f25) rfl (by kernel_rfl) (by kernel_rfl) Tryz.ntmps25 (res := [.tmp 2]) (by kernel_rfl) ?_
  repeat' ((conv => whnf); first | (refine Br.mk (fun h => ?_) (fun h => ?_) <;> first | (exfalso; omega; done) | (exfalso; simp at h; done) | skip))
  refine LoopVC.mk (fun n st => ∃ (i : Nat) (M : List (Option Blk)), i ≤ l.length ∧ n = l.length - i ∧ (∀ j, j < i → (l.getD j s0).ok) ∧ st = ⟨0, envA 18 [(8, .x (lS l)), (9, .int .i64 (l.length : Int)), (10, .int .i64 (i : Int))], []⟩) _ _ ⟨0, [], Nat.zero_le _, rfl, fun j hj => absurd hj (Nat.not_lt_zero j), rfl⟩ ?_ ?_
  · refine ⟨[], rfl, rfl, ?_, ?_⟩ <;> repeat' (first | exact trivial | exact rfl | apply And.intro)
    exact congrArg Int.ofNat ll
  rintro n _ ⟨i, _, hi, hn, hj, rfl⟩
  have g0 : rI (smpA l) (i : Int).toNat 0 = (l.getD i s0).l := smpA_l l i
  have g1 : rI (smpA l) (i : Int).toNat 1 = (l.getD i s0).r := smpA_r l i
  by_cases hi' : i < l.length
  · repeat' ((conv => whnf); first | refine Rng.g ?_ | refine Ob.g ?_ | refine CallVC.pure rfl (s200 ⟨rI (smpA l) (i : Int).toNat 0, rI (smpA l) (i : Int).toNat 1⟩) ?_ | (refine Br.mk (fun h => ?_) (fun h => ?_) <;> first | (exfalso; omega; done) | (exfalso; simp at h; done) | skip))
    all_goals rw [g0, g1] at h
    · repeat refine Mm.mk ?_
      refine EndVC.mk _ rfl _ _ ⟨rfl, rfl⟩ ?_
      refine ⟨[], rfl, rfl, ?_, ?_⟩ <;> repeat' (first | exact trivial | exact rfl | apply And.intro)
      exact (smpE_2 (by omega) hi' h).symm
    · refine Back.mk (l.length - (i + 1)) _ (by omega) ⟨i + 1, [], by omega, rfl, fun j hj' => ?_, rfl⟩ ?_
      · rcases Nat.lt_succ_iff_lt_or_eq.1 hj' with h' | rfl
        · exact hj j h'
        · exact Decidable.not_not.1 h
      · refine ⟨[], rfl, rfl, ?_, ?_⟩ <;> repeat' (first | exact trivial | exact rfl | apply And.intro)
  · repeat' ((conv => whnf); first | (refine Br.mk (fun h => ?_) (fun h => ?_) <;> first | (exfalso; omega; done) | (exfalso; simp at h; done) | skip))
    repeat refine Mm.mk ?_
    refine EndVC.mk _ rfl _ _ ⟨rfl, rfl⟩ ?_
    refine ⟨[], rfl, rfl, ?_, ?_⟩ <;> repeat' (first | exact trivial | exact rfl | apply And.intro)
    exact (smpE_ok (by omega) (fun j hj' => hj j (by omega))).symm
theorem s58 (l : List Smp) (hI : ∀ j, inI (l.getD j s0).l ∧ inI (l.getD j s0).r) : PSpec Tryz.prog 31 [lS l] (.x (I (smpE l))) := by
  have ll := smpA_len l
  by_cases hl : 4096 < l.length
  · refine spec_of pMix (O := []) Tryz.func31 (c := bodyOf Tryz.f31) rfl (by kernel_rfl) (by kernel_rfl) Tryz.ntmps31 (res := [.tmp 2]) (by kernel_rfl) ?_
    repeat' ((conv => whnf); first | (refine Br.mk (fun h => ?_) (fun h => ?_) <;> first | (exfalso; omega; done) | (exfalso; simp at h; done) | skip))
    repeat refine Mm.mk ?_
    refine EndVC.mk _ rfl _ _ ⟨rfl, rfl⟩ ?_
    refine ⟨[], rfl, rfl, ?_, ?_⟩ <;> repeat' (first | exact trivial | exact rfl | apply And.intro)
    unfold smpE
    rw [if_pos hl]
  refine spec_of pMix (O := []) Tryz.func31 (c := bodyOf Tryz.f31) rfl (by kernel_rfl) (by kernel_rfl) Tryz.ntmps31 (res := [.tmp 2]) (by kernel_rfl) ?_
  repeat' ((conv => whnf); first | (refine Br.mk (fun h => ?_) (fun h => ?_) <;> first | (exfalso; omega; done) | (exfalso; simp at h; done) | skip))
  refine LoopVC.mk (fun n st => ∃ (i : Nat), i ≤ l.length ∧ n = l.length - i ∧ (∀ j, j < i → (l.getD j s0).ok) ∧ st = ⟨0, envA 19 [(0, .x (lS l)), (3, .int .i64 (i : Int))], []⟩) _ _ ⟨0, Nat.zero_le _, rfl, fun j hj => absurd hj (Nat.not_lt_zero j), rfl⟩ ?_ ?_
  · refine ⟨[], rfl, rfl, ?_, ?_⟩ <;> repeat' (first | exact trivial | exact rfl | apply And.intro)
  rintro n _ ⟨i, hi, hn, hj, rfl⟩
  have g0 : rI (smpA l) (i : Int).toNat 0 = (l.getD i s0).l := smpA_l l i
  have g1 : rI (smpA l) (i : Int).toNat 1 = (l.getD i s0).r := smpA_r l i
  by_cases hi' : i < l.length
  · repeat' ((conv => whnf); first | refine Rng.g ?_ | refine Ob.g ?_ | refine CallVC.pure rfl (s142 ⟨rI (smpA l) (i : Int).toNat 0, rI (smpA l) (i : Int).toNat 1⟩ (by rw [g0]; exact (hI i).1) (by rw [g1]; exact (hI i).2)) ?_ | (refine Br.mk (fun h => ?_) (fun h => ?_) <;> first | (exfalso; omega; done) | (exfalso; simp at h; done) | skip))
    all_goals rw [g0, g1] at h
    · repeat refine Mm.mk ?_
      refine EndVC.mk _ rfl _ _ ⟨rfl, rfl⟩ ?_
      refine ⟨[], rfl, rfl, ?_, ?_⟩ <;> repeat' (first | exact trivial | exact rfl | apply And.intro)
      exact (smpE_2 (by omega) hi' h).symm
    · refine Back.mk (l.length - (i + 1)) _ (by omega) ⟨i + 1, by omega, rfl, fun j hj' => ?_, rfl⟩ ?_
      · rcases Nat.lt_succ_iff_lt_or_eq.1 hj' with h' | rfl
        · exact hj j h'
        · exact Decidable.not_not.1 h
      · refine ⟨[], rfl, rfl, ?_, ?_⟩ <;> repeat' (first | exact trivial | exact rfl | apply And.intro)
  · repeat' ((conv => whnf); first | (refine Br.mk (fun h => ?_) (fun h => ?_) <;> first | (exfalso; omega; done) | (exfalso; simp at h; done) | skip))
    repeat refine Mm.mk ?_
    refine EndVC.mk _ rfl _ _ ⟨rfl, rfl⟩ ?_
    refine ⟨[], rfl, rfl, ?_, ?_⟩ <;> repeat' (first | exact trivial | exact rfl | apply And.intro)
    exact (smpE_ok (by omega) (fun j hj' => hj j (by omega))).symm
end Go.Sx

namespace Go.Sx
open Go Go.Proofs
set_option maxRecDepth 10000
set_option maxHeartbeats 2000000
def bey (n most : Int) : Prop := n < -most ∨ most < n
instance (n m : Int) : Decidable (bey n m) := by unfold bey; exact inferInstance
theorem s280 (n most : Int) (hm : 0 ≤ most ∧ most ≤ 1000000) : PSpec Tryz.prog 111 [I n, I most] (xP (bey n most)) := by
  refine spec_of pMix (O := []) Tryz.func111 (c := bodyOf Tryz.f111) rfl (by kernel_rfl) (by kernel_rfl) Tryz.ntmps111 (res := [.tmp 4]) (by kernel_rfl) ?_
  repeat' ((conv => whnf); first | refine Rng.g ?_ | (refine Br.mk (fun h => ?_) (fun h => ?_) <;> first | (exfalso; omega; done) | (exfalso; simp at h; done) | skip))
  · repeat refine Mm.mk ?_
    refine EndVC.mk _ rfl _ _ ⟨rfl, rfl⟩ ?_
    refine ⟨[], rfl, rfl, ?_, ?_⟩ <;> repeat' (first | exact trivial | apply And.intro)
    show bey n most
    unfold bey; omega
  · repeat refine Mm.mk ?_
    refine EndVC.mk _ rfl _ _ ⟨rfl, rfl⟩ ?_
    refine ⟨[], rfl, rfl, ?_, ?_⟩ <;> repeat' (first | exact trivial | apply And.intro)
    show _ ↔ _
    unfold bey; omega
@[reducible] def bI (n : Int) : Blk := .box 2 [.int .i64 n]
theorem s300 (n most : Int) (hm : 0 ≤ most ∧ most ≤ 1000000) : HSpec Tryz.prog 130 [I n, .one (.ptr 0 0)] [bI most] (fun r m' => r = xP (bey n most) ∧ m' = [some (bI most)]) := by
  refine spec_of pMix (O := []) Tryz.func130 (c := bodyOf Tryz.f130) rfl (by kernel_rfl) (by kernel_rfl) Tryz.ntmps130 (res := [.tmp 3]) (by kernel_rfl) ?_
  repeat' ((conv => whnf); first | refine CallVC.pure rfl (s280 n most hm) ?_)
  repeat refine Mm.mk ?_
  refine EndVC.mk _ rfl _ _ ⟨rfl, rfl⟩ ?_
  refine ⟨[some 0], rfl, rfl, ?_, ?_⟩ <;> repeat' (first | exact trivial | exact rfl | exact Iff.rfl | apply And.intro)
/-- A list of int64, as an argument. -/
@[reducible] def lL (xs : List Int) : XV := .one (.lst true [.int .i64] (i64s xs))
def anyB (xs : List Int) (most : Int) : Prop := ∃ j, j < xs.length ∧ bey (xs.getD j 0) most
theorem s333 (xs : List Int) (most : Int) (hm : 0 ≤ most ∧ most ≤ 1000000) (hl : xs.length ≤ 1000000) : HSpec Tryz.prog 147 [lL xs, .one (.fn 130 [(0, 0)])] [bI most] (fun r m' => ∃ v : Int, (0 ≤ v ↔ anyB xs most) ∧ r = .x (I v) ∧ m' = [some (bI most)]) := by
  have lx := i64s_len xs
  refine spec_of pMix (O := []) Tryz.func147 (c := bodyOf Tryz.f147) rfl (by kernel_rfl) (by kernel_rfl) Tryz.ntmps147 (res := [.tmp 4]) (by kernel_rfl) ?_
  repeat' ((conv => whnf); first | refine Rng.g ?_ | fail)
  refine LoopVC.mk (fun n st => ∃ (i : Nat), i ≤ xs.length ∧ n = xs.length - i ∧ (∀ j, j < i → ¬ bey (xs.getD j 0) most) ∧ st = ⟨1, envA 19 [(0, .x (lL xs)), (1, .x (.one (.fn 130 [(0, 0)]))), (7, .int .i64 (xs.length : Int)), (8, .int .i64 (i : Int))], [some (bI most)]⟩) _ _ ⟨0, Nat.zero_le _, rfl, fun j hj => absurd hj (Nat.not_lt_zero j), rfl⟩ ?_ ?_
  · refine ⟨[some 0], rfl, rfl, ?_, ?_⟩ <;> repeat' (first | exact trivial | exact rfl | apply And.intro)
    exact congrArg Int.ofNat lx
  rintro n _ ⟨i, hi, hn, hj, rfl⟩
  have gx : rI (i64s xs) (i : Int).toNat 0 = xs.getD i 0 := by rw [Int.toNat_natCast, i64s_get]
  by_cases hi' : i < xs.length
  · repeat' ((conv => whnf); first | refine Ob.g ?_ | (refine Br.mk (fun h => ?_) (fun h => ?_) <;> first | (exfalso; omega; done) | (exfalso; simp at h; done) | skip))
    conv => whnf
    refine CallVC.mk [0] _ _ _ rfl rfl rfl (s300 (rI (i64s xs) (i : Int).toNat 0) most hm) (fun r m' h' => ?_)
    obtain ⟨rfl, rfl⟩ := h'
    conv => whnf
    repeat' ((conv => whnf); first | refine Rng.g ?_ | (refine Br.mk (fun h => ?_) (fun h => ?_) <;> first | (exfalso; omega; done) | (exfalso; simp at h; done) | skip))
    all_goals rw [gx] at h
    · repeat refine Mm.mk ?_
      conv => whnf
      refine EndVC.mk _ rfl _ _ (⟨(i : Int), ⟨fun _ => ⟨i, hi', h⟩, fun _ => by omega⟩, rfl, rfl⟩) ?_
      refine ⟨[some 0], rfl, rfl, ?_, ?_⟩ <;> repeat' (first | exact trivial | exact rfl | apply And.intro)
    · refine Back.mk (xs.length - (i + 1)) _ (by omega) ⟨i + 1, by omega, rfl, fun j hj' => ?_, rfl⟩ ?_
      · rcases Nat.lt_succ_iff_lt_or_eq.1 hj' with h' | rfl
        · exact hj j h'
        · exact h
      · refine ⟨[some 0], rfl, rfl, ?_, ?_⟩ <;> repeat' (first | exact trivial | exact rfl | apply And.intro)
  · repeat' ((conv => whnf); first | (refine Br.mk (fun h => ?_) (fun h => ?_) <;> first | (exfalso; omega; done) | (exfalso; simp at h; done) | skip))
    repeat refine Mm.mk ?_
    conv => whnf
    refine EndVC.mk _ rfl _ _ (⟨-1, ⟨fun h => (by omega), fun ⟨j, h1, h2⟩ => absurd h2 (hj j (by omega))⟩, rfl, rfl⟩) ?_
    refine ⟨[some 0], rfl, rfl, ?_, ?_⟩ <;> repeat' (first | exact trivial | exact rfl | apply And.intro)
open Classical in
theorem s299 (xs : List Int) (most : Int) (hm : 0 ≤ most ∧ most ≤ 1000000) (hl : xs.length ≤ 1000000) : HSpec Tryz.prog 129 [lL xs, .one (.fn 130 [(0, 0)])] [bI most] (fun r m' => r = xP (anyB xs most) ∧ m' = [some (bI most)]) := by
  refine spec_of pMix (O := []) Tryz.func129 (c := bodyOf Tryz.f129) rfl (by kernel_rfl) (by kernel_rfl) Tryz.ntmps129 (res := [.tmp 4]) (by kernel_rfl) ?_
  repeat' ((conv => whnf); first | refine Rng.g ?_ | fail)
  conv => whnf
  refine CallVC.mk [0] _ _ _ rfl rfl rfl (s333 xs most hm hl) (fun r m' h' => ?_)
  obtain ⟨v, hv, rfl, rfl⟩ := h'
  conv => whnf
  repeat' ((conv => whnf); first | refine Rng.g ?_ | fail)
  repeat refine Mm.mk ?_
  refine EndVC.mk _ rfl _ _ ⟨rfl, rfl⟩ ?_
  refine ⟨[some 0], rfl, rfl, ?_, ?_⟩ <;> repeat' (first | exact trivial | exact rfl | apply And.intro)
  exact hv
open Classical in
theorem s233 (xs : List Int) (most : Int) (hm : 0 ≤ most ∧ most ≤ 1000000) (hl : xs.length ≤ 1000000) : PSpec Tryz.prog 106 [lL xs, I most] (xP (anyB xs most)) := by
  refine spec_of pMix (O := []) Tryz.func106 (c := bodyOf Tryz.f106) rfl (by kernel_rfl) (by kernel_rfl) Tryz.ntmps106 (res := [.tmp 4]) (by kernel_rfl) ?_
  repeat' ((conv => whnf); first | refine Rng.g ?_ | fail)
  conv => whnf
  refine CallVC.mk [0] _ _ _ rfl rfl rfl (s299 xs most hm hl) (fun r m' h' => ?_)
  obtain ⟨rfl, rfl⟩ := h'
  conv => whnf
  repeat' ((conv => whnf); first | refine Rng.g ?_ | fail)
  repeat refine Mm.mk ?_
  refine EndVC.mk _ rfl _ _ ⟨rfl, rfl⟩ ?_
  refine ⟨[], rfl, rfl, ?_, ?_⟩ <;> repeat' (first | exact trivial | exact Iff.rfl | apply And.intro)
end Go.Sx

namespace Go.Sx
open Go Go.Proofs
set_option maxRecDepth 10000
set_option maxHeartbeats 2000000
/-- A curve. -/
structure Crv where
  f : List Int
  b : List Int
  sh : Int
@[reducible] def Crv.x (c : Crv) : XV := .agg [.lst true [.int .i64] (i64s c.f), .lst true [.int .i64] (i64s c.b), .int .i64 c.sh]
def Crv.row (c : Crv) : List Cell := [.sl (i64s c.f), .sl (i64s c.b), .int c.sh]
def crvA (l : List Crv) : Arr := l.map Crv.row
abbrev c0 : Crv := ⟨[], [], 0⟩
theorem crvA_len (l : List Crv) : (crvA l).length = l.length := by simp [crvA]
theorem crvA_f (l : List Crv) (i : Nat) : rA (crvA l) i 0 = i64s (l.getD i c0).f := map_rA _ c0 l i 0 rfl
theorem crvA_b (l : List Crv) (i : Nat) : rA (crvA l) i (0 + 1) = i64s (l.getD i c0).b := map_rA _ c0 l i 1 rfl
theorem crvA_s (l : List Crv) (i : Nat) : rI (crvA l) i (0 + 1 + 1) = (l.getD i c0).sh := map_rI _ c0 l i 2 rfl
@[reducible] def KC : List CK := [.sl [.int .i64], .sl [.int .i64], .int .i64]
@[reducible] def lC (l : List Crv) : XV := .one (.lst true KC (crvA l))
@[reducible] def crvX (l : List Crv) (i : Nat) : XV := .agg [.lst true [.int .i64] (rA (crvA l) i 0), .lst true [.int .i64] (rA (crvA l) i (0 + 1)), .int .i64 (rI (crvA l) i (0 + 1 + 1))]
theorem crvX_eq (l : List Crv) (i : Nat) : crvX l i = (l.getD i c0).x := by
  unfold crvX Crv.x
  rw [crvA_f, crvA_b, crvA_s]
structure CrvOK (c : Crv) : Prop where
  f : c.f.length ≤ 8 ∧ ∀ j, -4096 ≤ c.f.getD j 0 ∧ c.f.getD j 0 ≤ 4096
  b : c.b.length ≤ 8 ∧ ∀ j, -4096 ≤ c.b.getD j 0 ∧ c.b.getD j 0 ≤ 4096
  sh : 1 ≤ c.sh ∧ c.sh ≤ 4096
theorem not_anyB {xs : List Int} {m : Int} (hm : 0 ≤ m) (h : ¬ anyB xs m) (j : Nat) : -m ≤ xs.getD j 0 ∧ xs.getD j 0 ≤ m := by
  by_cases hj : j < xs.length
  · have : ¬ bey (xs.getD j 0) m := fun h2 => h ⟨j, hj, h2⟩
    unfold bey at this
    omega
  · rw [List.getD_eq_getElem?_getD, List.getElem?_eq_none (by omega)]
    simp only [Option.getD_none]
    omega
theorem CrvOK.nf {c : Crv} (h : CrvOK c) : ¬ anyB c.f 4096 := fun ⟨j, _, h3⟩ => by have := h.f.2 j; unfold bey at h3; omega
theorem CrvOK.nb {c : Crv} (h : CrvOK c) : ¬ anyB c.b 4096 := fun ⟨j, _, h3⟩ => by have := h.b.2 j; unfold bey at h3; omega
@[reducible] def CRs (c : Crv) (r : AV) (m' : List (Option Blk)) : Prop := ∃ e, r = .x (I e) ∧ m' = [] ∧ (e = 0 ↔ CrvOK c)
theorem s222 (c : Crv) : HSpec Tryz.prog 105 [c.x] [] (CRs c) := by
  have lf := i64s_len c.f
  have lb := i64s_len c.b
  by_cases h8 : 8 < c.f.length ∨ 8 < c.b.length
  · have hm : 8 < (if (List.length (i64s c.f) : Int) < (List.length (i64s c.b) : Int) then (List.length (i64s c.b) : Int) else (List.length (i64s c.f) : Int)) := by split <;> omega
    refine spec_of pMix (O := []) Tryz.func105 (c := bodyOf Tryz.f105) rfl (by kernel_rfl) (by kernel_rfl) Tryz.ntmps105 (res := [.tmp 2]) (by kernel_rfl) ?_
    repeat' ((conv => whnf); first | refine Mm.mk ?_ | (refine Br.mk (fun h => ?_) (fun h => ?_) <;> first | (exfalso; omega; done) | (exfalso; simp at h; done) | skip))
    repeat refine Mm.mk ?_
    conv => whnf
    refine EndVC.mk _ rfl _ _ (⟨6, rfl, rfl, ⟨fun h => (by cases h), fun hC => (by have := hC.f.1; have := hC.b.1; omega)⟩⟩) ?_
    refine ⟨[], rfl, rfl, ?_, ?_⟩ <;> repeat' (first | exact trivial | exact rfl | apply And.intro)
  · have hm : ¬ 8 < (if (List.length (i64s c.f) : Int) < (List.length (i64s c.b) : Int) then (List.length (i64s c.b) : Int) else (List.length (i64s c.f) : Int)) := by split <;> omega
    have h1 := s233 c.f 4096 (by decide) (by omega)
    have h2 := s233 c.b 4096 (by decide) (by omega)
    refine spec_of pMix (O := []) Tryz.func105 (c := bodyOf Tryz.f105) rfl (by kernel_rfl) (by kernel_rfl) Tryz.ntmps105 (res := [.tmp 2]) (by kernel_rfl) ?_
    repeat' ((conv => whnf); first | refine Mm.mk ?_ | refine CallVC.pure rfl (h1) ?_ | refine CallVC.pure rfl (h2) ?_ | (refine Br.mk (fun h => ?_) (fun h => ?_) <;> first | (exfalso; omega; done) | (exfalso; simp at h; done) | skip))
    · repeat refine Mm.mk ?_
      conv => whnf
      refine EndVC.mk _ rfl _ _ (⟨2, rfl, rfl, ⟨fun h => (by cases h), fun hC => absurd h hC.nf⟩⟩) ?_
      refine ⟨[], rfl, rfl, ?_, ?_⟩ <;> repeat' (first | exact trivial | exact rfl | apply And.intro)
    · repeat refine Mm.mk ?_
      conv => whnf
      refine EndVC.mk _ rfl _ _ (⟨2, rfl, rfl, ⟨fun h => (by cases h), fun hC => absurd h hC.nb⟩⟩) ?_
      refine ⟨[], rfl, rfl, ?_, ?_⟩ <;> repeat' (first | exact trivial | exact rfl | apply And.intro)
    · repeat refine Mm.mk ?_
      conv => whnf
      refine EndVC.mk _ rfl _ _ (⟨2, rfl, rfl, ⟨fun h => (by cases h), fun hC => (by have := hC.sh; omega)⟩⟩) ?_
      refine ⟨[], rfl, rfl, ?_, ?_⟩ <;> repeat' (first | exact trivial | exact rfl | apply And.intro)
    · repeat refine Mm.mk ?_
      conv => whnf
      refine EndVC.mk _ rfl _ _ (⟨2, rfl, rfl, ⟨fun h => (by cases h), fun hC => (by have := hC.sh; omega)⟩⟩) ?_
      refine ⟨[], rfl, rfl, ?_, ?_⟩ <;> repeat' (first | exact trivial | exact rfl | apply And.intro)
    · rename_i g1 g2 g3
      repeat refine Mm.mk ?_
      conv => whnf
      refine EndVC.mk _ rfl _ _ (⟨0, rfl, rfl, ⟨fun _ => ⟨⟨by omega, not_anyB (by decide) g1⟩, ⟨by omega, not_anyB (by decide) g2⟩, by omega⟩, fun _ => rfl⟩⟩) ?_
      refine ⟨[], rfl, rfl, ?_, ?_⟩ <;> repeat' (first | exact trivial | exact rfl | apply And.intro)
end Go.Sx

namespace Go.Sx
open Go Go.Proofs
set_option maxRecDepth 10000
set_option maxHeartbeats 2000000
structure ChOK (l : List Crv) : Prop where
  len : l.length ≤ 8
  each : ∀ j, j < l.length → CrvOK (l.getD j c0)
@[reducible] def ChRs (l : List Crv) (r : AV) (m' : List (Option Blk)) : Prop := ∃ e, r = .x (I e) ∧ m' = [] ∧ (e = 0 ↔ ChOK l)
theorem s147 (l : List Crv) : HSpec Tryz.prog 83 [lC l] [] (ChRs l) := by
  have ll := crvA_len l
  by_cases hl : 8 < l.length
  · refine spec_of pMix (O := []) Tryz.func83 (c := bodyOf Tryz.f83) rfl (by kernel_rfl) (by kernel_rfl) Tryz.ntmps83 (res := [.tmp 2]) (by kernel_rfl) ?_
    repeat' ((conv => whnf); first | (refine Br.mk (fun h => ?_) (fun h => ?_) <;> first | (exfalso; omega; done) | (exfalso; simp at h; done) | skip))
    repeat refine Mm.mk ?_
    conv => whnf
    refine EndVC.mk _ rfl _ _ (⟨6, rfl, rfl, ⟨fun h => (by cases h), fun hC => (by have := hC.len; omega)⟩⟩) ?_
    refine ⟨[], rfl, rfl, ?_, ?_⟩ <;> repeat' (first | exact trivial | exact rfl | apply And.intro)
  refine spec_of pMix (O := []) Tryz.func83 (c := bodyOf Tryz.f83) rfl (by kernel_rfl) (by kernel_rfl) Tryz.ntmps83 (res := [.tmp 2]) (by kernel_rfl) ?_
  repeat' ((conv => whnf); first | (refine Br.mk (fun h => ?_) (fun h => ?_) <;> first | (exfalso; omega; done) | (exfalso; simp at h; done) | skip))
  refine LoopVC.mk (fun n st => ∃ (i : Nat), i ≤ l.length ∧ n = l.length - i ∧ (∀ j, j < i → CrvOK (l.getD j c0)) ∧ st = ⟨0, envA 21 [(9, .x (lC l)), (10, .int .i64 (l.length : Int)), (11, .int .i64 (i : Int))], []⟩) _ _ ⟨0, Nat.zero_le _, rfl, fun j hj => absurd hj (Nat.not_lt_zero j), rfl⟩ ?_ ?_
  · refine ⟨[], rfl, rfl, ?_, ?_⟩ <;> repeat' (first | exact trivial | exact rfl | apply And.intro)
    exact congrArg Int.ofNat ll
  rintro n _ ⟨i, hi, hn, hj, rfl⟩
  by_cases hi' : i < l.length
  · repeat' ((conv => whnf); first | refine Ob.g ?_ | (refine Br.mk (fun h => ?_) (fun h => ?_) <;> first | (exfalso; omega; done) | (exfalso; simp at h; done) | skip))
    conv => whnf
    refine CallVC.mk [] _ _ _ rfl rfl rfl ((crvX_eq l i ▸ s222 (l.getD i c0) : HSpec Tryz.prog 105 [crvX l i] [] (CRs (l.getD i c0)))) (fun r m' h' => ?_)
    obtain ⟨e, rfl, rfl, he⟩ := h'
    conv => whnf
    repeat' ((conv => whnf); first | refine Rng.g ?_ | (refine Br.mk (fun h => ?_) (fun h => ?_) <;> first | (exfalso; omega; done) | (exfalso; simp at h; done) | skip))
    · repeat refine Mm.mk ?_
      conv => whnf
      refine EndVC.mk _ rfl _ _ (⟨e, rfl, rfl, ⟨fun h0 => absurd h0 h, fun hC => absurd (he.2 (hC.each i hi')) h⟩⟩) ?_
      refine ⟨[], rfl, rfl, ?_, ?_⟩ <;> repeat' (first | exact trivial | exact rfl | apply And.intro)
    · have hc0 := he.1 (Classical.not_not.1 h)
      refine Back.mk (l.length - (i + 1)) _ (by omega) ⟨i + 1, by omega, rfl, fun j hj' => ?_, rfl⟩ ?_
      · rcases Nat.lt_succ_iff_lt_or_eq.1 hj' with h' | rfl
        · exact hj j h'
        · exact hc0
      · refine ⟨[], rfl, rfl, ?_, ?_⟩ <;> repeat' (first | exact trivial | exact rfl | apply And.intro)
  · repeat' ((conv => whnf); first | (refine Br.mk (fun h => ?_) (fun h => ?_) <;> first | (exfalso; omega; done) | (exfalso; simp at h; done) | skip))
    repeat refine Mm.mk ?_
    conv => whnf
    refine EndVC.mk _ rfl _ _ (⟨0, rfl, rfl, ⟨fun _ => ⟨by omega, fun j hj' => hj j (by omega)⟩, fun _ => rfl⟩⟩) ?_
    refine ⟨[], rfl, rfl, ?_, ?_⟩ <;> repeat' (first | exact trivial | exact rfl | apply And.intro)
/-- A signal. -/
structure SigOK (xs : List Int) : Prop where
  len : xs.length ≤ 4096
  each : ∀ j, -32767 ≤ xs.getD j 0 ∧ xs.getD j 0 ≤ 32767
@[reducible] def SgRs (xs : List Int) (r : AV) (m' : List (Option Blk)) : Prop := ∃ e, r = .x (I e) ∧ m' = [] ∧ (e = 0 ↔ SigOK xs)
theorem SigOK.nb {xs : List Int} (h : SigOK xs) : ¬ anyB xs 32767 := fun ⟨j, _, h3⟩ => by have := h.each j; unfold bey at h3; omega
theorem s148 (xs : List Int) : HSpec Tryz.prog 84 [lL xs] [] (SgRs xs) := by
  have lx := i64s_len xs
  by_cases hl : 4096 < xs.length
  · refine spec_of pMix (O := []) Tryz.func84 (c := bodyOf Tryz.f84) rfl (by kernel_rfl) (by kernel_rfl) Tryz.ntmps84 (res := [.tmp 2]) (by kernel_rfl) ?_
    repeat' ((conv => whnf); first | (refine Br.mk (fun h => ?_) (fun h => ?_) <;> first | (exfalso; omega; done) | (exfalso; simp at h; done) | skip))
    repeat refine Mm.mk ?_
    conv => whnf
    refine EndVC.mk _ rfl _ _ (⟨6, rfl, rfl, ⟨fun h => (by cases h), fun hC => (by have := hC.len; omega)⟩⟩) ?_
    refine ⟨[], rfl, rfl, ?_, ?_⟩ <;> repeat' (first | exact trivial | exact rfl | apply And.intro)
  have h1 := s233 xs 32767 (by decide) (by omega)
  refine spec_of pMix (O := []) Tryz.func84 (c := bodyOf Tryz.f84) rfl (by kernel_rfl) (by kernel_rfl) Tryz.ntmps84 (res := [.tmp 2]) (by kernel_rfl) ?_
  repeat' ((conv => whnf); first | refine CallVC.pure rfl (h1) ?_ | (refine Br.mk (fun h => ?_) (fun h => ?_) <;> first | (exfalso; omega; done) | (exfalso; simp at h; done) | skip))
  · repeat refine Mm.mk ?_
    conv => whnf
    refine EndVC.mk _ rfl _ _ (⟨3, rfl, rfl, ⟨fun h => (by cases h), fun hC => absurd h hC.nb⟩⟩) ?_
    refine ⟨[], rfl, rfl, ?_, ?_⟩ <;> repeat' (first | exact trivial | exact rfl | apply And.intro)
  · repeat refine Mm.mk ?_
    conv => whnf
    refine EndVC.mk _ rfl _ _ (⟨0, rfl, rfl, ⟨fun _ => ⟨by omega, not_anyB (by decide) h⟩, fun _ => rfl⟩⟩) ?_
    refine ⟨[], rfl, rfl, ?_, ?_⟩ <;> repeat' (first | exact trivial | exact rfl | apply And.intro)
@[reducible] def rowL (l : List Int) : Blk := .row 2 false [.int .i64] (i64s l)
theorem eb2 : Tryz.t2.bytes = 8 := by kernel_rfl
theorem s201 (xs : List Int) (hl : xs.length ≤ 1000000) : HSpec Tryz.prog 85 [lL xs] [] (fun r m' => r = .x (.one (.own 0)) ∧ m' = [some (rowL xs)]) := by
  have lx := i64s_len xs
  refine spec_of pMix (O := []) Tryz.func85 (c := bodyOf Tryz.f85) rfl (by kernel_rfl) (by kernel_rfl) Tryz.ntmps85 (res := [.tmp 2]) (by kernel_rfl) ?_
  repeat' ((conv => whnf); first | refine Nils.mk (fun h => ?_) ?_)
  · repeat refine Mm.mk ?_
    refine EndVC.mk _ rfl _ _ ⟨rfl, rfl⟩ ?_
    refine ⟨[none], rfl, rfl, ?_, ?_⟩ <;> repeat' (first | exact trivial | exact rfl | apply And.intro)
    exact h
  · repeat refine Mm.mk ?_
    refine Ob.mk (by simp only [eb2, List.length_nil]; omega) ?_
    repeat' ((conv => whnf); first | refine Rng.g ?_ | fail)
    repeat refine Mm.mk ?_
    refine EndVC.mk _ rfl _ _ ⟨rfl, rfl⟩ ?_
    refine ⟨[some 1], rfl, rfl, ?_, ?_⟩ <;> repeat' (first | exact trivial | exact rfl | apply And.intro)
end Go.Sx

namespace Go.Sx
open Go Go.Proofs
set_option maxRecDepth 10000
set_option maxHeartbeats 2000000
theorem s221 (n d : Int) (hd : 0 < d) (hn : -1000000000000 ≤ n ∧ n ≤ 1000000000000) : PSpec Tryz.prog 131 [I n, I d] (.x (I (n / d))) := by
  have h1 := tdiv_floor (n := n) hd
  have h2 := tdiv_rng (a := n) (d := d) (B := 1000000000000) hd (by
    have : (1000000000000 : Int) * 1 ≤ 1000000000000 * d := Int.mul_le_mul_of_nonneg_left (by omega) (by decide)
    omega)
  refine spec_of pMix (O := []) Tryz.func131 (c := bodyOf Tryz.f131) rfl (by kernel_rfl) (by kernel_rfl) Tryz.ntmps131 (res := [.tmp 4]) (by kernel_rfl) ?_
  repeat' ((conv => whnf); first | refine Ob.g ?_ | fail)
  refine Val.mk _ rfl ?_
  repeat' ((conv => whnf); first | refine Rng.g ?_ | refine Ob.g ?_ | fail)
  refine Val.mk _ rfl ?_
  repeat' ((conv => whnf); first | refine Rng.g ?_ | refine JoinVC.on ?_ | (refine Br.mk (fun h => ?_) (fun h => ?_) <;> first | (exfalso; omega; done) | (exfalso; simp at h; done) | skip))
  all_goals
    repeat refine Mm.mk ?_
    refine EndVC.mk _ rfl _ _ ⟨rfl, rfl⟩ ?_
    refine ⟨[], rfl, rfl, ?_, ?_⟩ <;> repeat' (first | exact trivial | exact rfl | apply And.intro)
  · exact h1.1 h
  · exact h1.2 h
end Go.Sx

namespace Go.Sx
open Go Go.Proofs
set_option maxRecDepth 10000
set_option maxHeartbeats 4000000
/-! ### The last numbers -/
@[reducible] def stB (L : List Int) (k : Int) (M : List Int) (m : Int) (c : Crv) : Blk := .box 196 [.int .i64 (L.getD 0 0), .int .i64 (L.getD 1 0), .int .i64 (L.getD 2 0), .int .i64 (L.getD 3 0), .int .i64 (L.getD 4 0), .int .i64 (L.getD 5 0), .int .i64 (L.getD 6 0), .int .i64 (L.getD 7 0), .int .i64 k,
  .int .i64 (M.getD 0 0), .int .i64 (M.getD 1 0), .int .i64 (M.getD 2 0), .int .i64 (M.getD 3 0), .int .i64 (M.getD 4 0), .int .i64 (M.getD 5 0), .int .i64 (M.getD 6 0), .int .i64 (M.getD 7 0), .int .i64 m, .lst true [.int .i64] (i64s c.f), .lst true [.int .i64] (i64s c.b), .int .i64 c.sh]
theorem eight {n : Int} (h : 0 ≤ n ∧ n < 8) : n = 0 ∨ n = 1 ∨ n = 2 ∨ n = 3 ∨ n = 4 ∨ n = 5 ∨ n = 6 ∨ n = 7 := by omega
/-- The ring holds these numbers, the latest one first. -/
structure Ring (L : List Int) (k : Int) (hs : List Int) : Prop where
  kb : 0 ≤ k ∧ k < 8
  len : L.length = 8
  at' : ∀ j : Int, 0 ≤ j ∧ j < 8 → L.getD ((k + 8 - 1 - j) % 8).toNat 0 = hs.getD j.toNat 0
theorem Ring.put {L : List Int} {k : Int} {hs : List Int} (h : Ring L k hs) (n : Int) : Ring (L.set k.toNat n) ((k + 1) % 8) (n :: hs) := by
  have hk := h.kb
  have hl := h.len
  refine ⟨by omega, by rw [List.length_set]; exact hl, fun j hj => ?_⟩
  rw [getD_set' _ _ _ _ _ (by omega)]
  by_cases h0 : j = 0
  · subst h0
    rw [if_pos (by omega)]; rfl
  · rw [if_neg (by omega)]
    have := h.at' (j - 1) (by omega)
    have e : (k + 8 - 1 - (j - 1)) % 8 = ((k + 1) % 8 + 8 - 1 - j) % 8 := by omega
    rw [← e, this]
    have e2 : j.toNat = (j - 1).toNat + 1 := by omega
    rw [e2]; rfl
theorem Ring.start : Ring [0, 0, 0, 0, 0, 0, 0, 0] 0 [] := by
  refine ⟨by decide, rfl, fun j hj => ?_⟩
  rcases eight hj with rfl | rfl | rfl | rfl | rfl | rfl | rfl | rfl <;> rfl
/-- The sum of the last numbers with weights. -/
def wsum (w hs : List Int) : Nat → Int
  | 0 => 0
  | i + 1 => wsum w hs i + w.getD i 0 * hs.getD i 0
def small (hs : List Int) : Prop := ∀ j, -100000 ≤ hs.getD j 0 ∧ hs.getD j 0 ≤ 100000
theorem wprod_bd {w hs : List Int} (hw : ∀ j, -4096 ≤ w.getD j 0 ∧ w.getD j 0 ≤ 4096) (hh : small hs) (i : Nat) : -409600000 ≤ w.getD i 0 * hs.getD i 0 ∧ w.getD i 0 * hs.getD i 0 ≤ 409600000 := by
  have h1 := hw i
  have h2 := hh i
  rcases Int.le_total 0 (hs.getD i 0) with h3 | h3
  · have := mul_rng (a := w.getD i 0) (b := hs.getD i 0) (A := 4096) (B := 100000) h1 (by omega)
    omega
  · have := mul_rng (a := w.getD i 0) (b := -hs.getD i 0) (A := 4096) (B := 100000) h1 (by omega)
    rw [Int.mul_neg] at this
    omega
theorem wsum_bd {w hs : List Int} (hw : ∀ j, -4096 ≤ w.getD j 0 ∧ w.getD j 0 ≤ 4096) (hh : small hs) : ∀ i : Nat, -409600000 * (i : Int) ≤ wsum w hs i ∧ wsum w hs i ≤ 409600000 * i
  | 0 => by simp [wsum]
  | i + 1 => by
    have h1 := wsum_bd hw hh i
    have h2 := wprod_bd hw hh i
    unfold wsum
    omega
end Go.Sx

namespace Go.Sx
open Go Go.Proofs
set_option maxRecDepth 10000
set_option maxHeartbeats 4000000
theorem set_a (L : List Int) (r : List SV) (n v : Int) (h : 0 ≤ n ∧ n < 8) (hl : L.length = 8) : (SV.int .i64 (L.getD 0 0) :: .int .i64 (L.getD 1 0) :: .int .i64 (L.getD 2 0) :: .int .i64 (L.getD 3 0) :: .int .i64 (L.getD 4 0) :: .int .i64 (L.getD 5 0) :: .int .i64 (L.getD 6 0) :: .int .i64 (L.getD 7 0) :: r).set (0 + 0 + n.toNat * (0 + 1)) (.int .i64 v) =
    (SV.int .i64 ((L.set n.toNat v).getD 0 0) :: .int .i64 ((L.set n.toNat v).getD 1 0) :: .int .i64 ((L.set n.toNat v).getD 2 0) :: .int .i64 ((L.set n.toNat v).getD 3 0) :: .int .i64 ((L.set n.toNat v).getD 4 0) :: .int .i64 ((L.set n.toNat v).getD 5 0) :: .int .i64 ((L.set n.toNat v).getD 6 0) :: .int .i64 ((L.set n.toNat v).getD 7 0) :: r) := by
  match L, hl with
  | [a, b, c, d, e, f, g, i], _ => rcases eight h with rfl | rfl | rfl | rfl | rfl | rfl | rfl | rfl <;> rfl
theorem set_b (x0 x1 x2 x3 x4 x5 x6 x7 x8 : SV) (L : List Int) (r : List SV) (n v : Int) (h : 0 ≤ n ∧ n < 8) (hl : L.length = 8) : (x0 :: x1 :: x2 :: x3 :: x4 :: x5 :: x6 :: x7 :: x8 :: SV.int .i64 (L.getD 0 0) :: .int .i64 (L.getD 1 0) :: .int .i64 (L.getD 2 0) :: .int .i64 (L.getD 3 0) :: .int .i64 (L.getD 4 0) :: .int .i64 (L.getD 5 0) :: .int .i64 (L.getD 6 0) :: .int .i64 (L.getD 7 0) :: r).set (9 + 0 + n.toNat * (0 + 1)) (.int .i64 v) =
    (x0 :: x1 :: x2 :: x3 :: x4 :: x5 :: x6 :: x7 :: x8 :: SV.int .i64 ((L.set n.toNat v).getD 0 0) :: .int .i64 ((L.set n.toNat v).getD 1 0) :: .int .i64 ((L.set n.toNat v).getD 2 0) :: .int .i64 ((L.set n.toNat v).getD 3 0) :: .int .i64 ((L.set n.toNat v).getD 4 0) :: .int .i64 ((L.set n.toNat v).getD 5 0) :: .int .i64 ((L.set n.toNat v).getD 6 0) :: .int .i64 ((L.set n.toNat v).getD 7 0) :: r) := by
  match L, hl with
  | [a, b, c, d, e, f, g, i], _ => rcases eight h with rfl | rfl | rfl | rfl | rfl | rfl | rfl | rfl <;> rfl
theorem s278a (L : List Int) (k : Int) (M : List Int) (m : Int) (c : Crv) (n : Int) (hs : List Int) (hR : Ring L k hs) :
    HSpec Tryz.prog 109 [.one (.ptr 0 0), I n] [stB L k M m c] (fun r m' => r = .tup [] ∧ m' = [some (stB (L.set k.toNat n) ((k + 1) % 8) M m c)]) := by
  have hk := hR.kb
  refine spec_of pMix (O := []) Tryz.func109 (c := bodyOf Tryz.f109) rfl (by kernel_rfl) (by kernel_rfl) Tryz.ntmps109 (res := []) (by kernel_rfl) ?_
  repeat' ((conv => whnf); first | refine Ob.g ?_ | fail)
  refine ifB.mk (by rcases eight hk with rfl | rfl | rfl | rfl | rfl | rfl | rfl | rfl <;> rfl) ?_
  refine setL_mk _ (set_a L _ k n hk hR.len) ?_
  repeat' ((conv => whnf); first | refine Rng.g ?_ | refine Ob.g ?_ | refine Val.t ?_ | fail)
  repeat refine Mm.mk ?_
  refine EndVC.mk _ rfl _ _ ⟨rfl, rfl⟩ ?_
  refine ⟨[some 0], rfl, rfl, ?_, ?_⟩ <;> repeat' (first | exact trivial | exact rfl | apply And.intro)
theorem s278b (L : List Int) (k : Int) (M : List Int) (m : Int) (c : Crv) (n : Int) (hs : List Int) (hR : Ring M m hs) :
    HSpec Tryz.prog 109 [.one (.ptr 0 9), I n] [stB L k M m c] (fun r m' => r = .tup [] ∧ m' = [some (stB L k (M.set m.toNat n) ((m + 1) % 8) c)]) := by
  have hk := hR.kb
  refine spec_of pMix (O := []) Tryz.func109 (c := bodyOf Tryz.f109) rfl (by kernel_rfl) (by kernel_rfl) Tryz.ntmps109 (res := []) (by kernel_rfl) ?_
  repeat' ((conv => whnf); first | refine Ob.g ?_ | fail)
  refine ifB.mk (by rcases eight hk with rfl | rfl | rfl | rfl | rfl | rfl | rfl | rfl <;> rfl) ?_
  refine setL_mk _ (set_b _ _ _ _ _ _ _ _ _ M _ m n hk hR.len) ?_
  repeat' ((conv => whnf); first | refine Rng.g ?_ | refine Ob.g ?_ | refine Val.t ?_ | fail)
  repeat refine Mm.mk ?_
  refine EndVC.mk _ rfl _ _ ⟨rfl, rfl⟩ ?_
  refine ⟨[some 0], rfl, rfl, ?_, ?_⟩ <;> repeat' (first | exact trivial | exact rfl | apply And.intro)
end Go.Sx

namespace Go.Sx
open Go Go.Proofs
set_option maxRecDepth 10000
set_option maxHeartbeats 4000000
/-- The next correction. -/
def corF (c : Crv) (hi ho : List Int) : Int := (wsum c.f hi c.f.length + wsum c.b ho c.b.length) / c.sh
theorem corF_bd {c : Crv} (hc : CrvOK c) {hi ho : List Int} (h1 : small hi) (h2 : small ho) : -6553600000 ≤ corF c hi ho ∧ corF c hi ho ≤ 6553600000 := by
  have a1 := wsum_bd hc.f.2 h1 c.f.length
  have a2 := wsum_bd hc.b.2 h2 c.b.length
  have f1 := hc.f.1; have f2 := hc.b.1; have f3 := hc.sh
  have hs : -6553600000 ≤ wsum c.f hi c.f.length + wsum c.b ho c.b.length ∧ wsum c.f hi c.f.length + wsum c.b ho c.b.length ≤ 6553600000 := by omega
  unfold corF
  generalize wsum c.f hi c.f.length + wsum c.b ho c.b.length = s at hs
  constructor
  · have h3 : -6553600000 * c.sh ≤ s := by
      have : (6553600000 : Int) * 1 ≤ 6553600000 * c.sh := Int.mul_le_mul_of_nonneg_left (by omega) (by decide)
      have e : (-6553600000 : Int) * c.sh = -(6553600000 * c.sh) := by rw [Int.neg_mul]
      omega
    exact (Int.le_ediv_iff_mul_le (by omega)).2 h3
  · have h3 : s ≤ 6553600000 * c.sh := by
      have : (6553600000 : Int) * 1 ≤ 6553600000 * c.sh := Int.mul_le_mul_of_nonneg_left (by omega) (by decide)
      omega
    have := Int.ediv_le_ediv (by omega : 0 < c.sh) h3
    rwa [Int.mul_ediv_cancel _ (by omega)] at this
@[reducible] def KSt : List CK := [.int .i64, .int .i64, .int .i64, .int .i64, .int .i64, .int .i64, .int .i64, .int .i64, .int .i64, .int .i64, .int .i64, .int .i64, .int .i64, .int .i64, .int .i64, .int .i64, .int .i64, .int .i64, .sl [.int .i64], .sl [.int .i64], .int .i64]
@[reducible] def stR (L : List Int) (k : Int) (M : List Int) (m : Int) (c : Crv) : List Cell := [.int (L.getD 0 0), .int (L.getD 1 0), .int (L.getD 2 0), .int (L.getD 3 0), .int (L.getD 4 0), .int (L.getD 5 0), .int (L.getD 6 0), .int (L.getD 7 0), .int k, .int (M.getD 0 0), .int (M.getD 1 0), .int (M.getD 2 0), .int (M.getD 3 0), .int (M.getD 4 0), .int (M.getD 5 0), .int (M.getD 6 0), .int (M.getD 7 0), .int m, .sl (i64s c.f), .sl (i64s c.b), .int c.sh]
theorem kst_a {n : Int} (h : 0 ≤ n ∧ n < 8) : getL KSt (0 + 0 + n.toNat * (0 + 1)) = some (.int .i64) := by
  rcases eight h with rfl | rfl | rfl | rfl | rfl | rfl | rfl | rfl <;> rfl
theorem kst_b {n : Int} (h : 0 ≤ n ∧ n < 8) : getL KSt (9 + 0 + n.toNat * (0 + 1)) = some (.int .i64) := by
  rcases eight h with rfl | rfl | rfl | rfl | rfl | rfl | rfl | rfl <;> rfl
theorem str_a (L : List Int) (k : Int) (M : List Int) (m : Int) (c : Crv) {n : Int} (h : 0 ≤ n ∧ n < 8) : rI [stR L k M m c] 0 (0 + 0 + n.toNat * (0 + 1)) = L.getD n.toNat 0 := by
  rcases eight h with rfl | rfl | rfl | rfl | rfl | rfl | rfl | rfl <;> rfl
theorem str_b (L : List Int) (k : Int) (M : List Int) (m : Int) (c : Crv) {n : Int} (h : 0 ≤ n ∧ n < 8) : rI [stR L k M m c] 0 (9 + 0 + n.toNat * (0 + 1)) = M.getD n.toNat 0 := by
  rcases eight h with rfl | rfl | rfl | rfl | rfl | rfl | rfl | rfl <;> rfl
theorem l326a (L : List Int) (k : Int) (M : List Int) (m : Int) (c : Crv) (w hs : List Int) (hR : Ring L k hs) (hw : ∀ j, -4096 ≤ w.getD j 0 ∧ w.getD j 0 ≤ 4096) (hl : w.length ≤ 8) (hh : small hs) :
    PSpec Tryz.prog 132 [.one (.lel true KSt [stR L k M m c] 0 0), lL w] (.x (I (wsum w hs w.length))) := by
  have lw := i64s_len w
  have hk := hR.kb
  have e8 : rI [stR L k M m c] 0 (0 + (0 + 1 + 1 + 1 + 1 + 1 + 1 + 1 + 1)) = k := rfl
  refine spec_of pMix (O := []) Tryz.func132 (c := bodyOf Tryz.f132) rfl (by kernel_rfl) (by kernel_rfl) Tryz.ntmps132 (res := [.tmp 4]) (by kernel_rfl) ?_
  repeat' ((conv => whnf); first | refine Rng.g ?_ | fail)
  refine LoopVC.mk (fun n st => ∃ (i : Nat), i ≤ w.length ∧ n = w.length - i ∧ st = ⟨0, envA 35 [(0, .x (.one (.lel true KSt [stR L k M m c] 0 0))), (1, .x (lL w)), (5, .int .i64 (wsum w hs i)), (8, .x (lL w)), (9, .int .i64 (w.length : Int)), (10, .int .i64 (i : Int))], []⟩) _ _ ⟨0, Nat.zero_le _, rfl, rfl⟩ ?_ ?_
  · refine ⟨[], rfl, rfl, ?_, ?_⟩ <;> repeat' (first | exact trivial | exact rfl | apply And.intro)
    exact congrArg Int.ofNat lw
  rintro n _ ⟨i, hi, hn, rfl⟩
  have gw : rI (i64s w) (i : Int).toNat 0 = w.getD i 0 := by rw [Int.toNat_natCast, i64s_get]
  have hb := wsum_bd hw hh i
  have hp := wprod_bd hw hh i
  by_cases hi' : i < w.length
  · have hr := hR.at' i (by omega)
    rw [Int.toNat_natCast] at hr
    have hx := str_a L k M m c (n := (k + 8 - 1 - (i : Int)) % 8) (by omega)
    rw [hr] at hx
    repeat' ((conv => whnf); first | rw [e8] | refine Rng.g ?_ | refine Ob.g ?_ | refine Val.t ?_ | (refine Br.mk (fun h => ?_) (fun h => ?_) <;> first | (exfalso; omega; done) | (exfalso; simp at h; done) | skip))
    refine optP.mk _ (kst_a (n := (k + 8 - 1 - (i : Int)) % 8) (by omega)) ?_
    repeat' ((conv => whnf); first | rw [hx] | rw [gw] | refine Rng.g ?_ | fail)
    refine Back.mk (w.length - (i + 1)) _ (by omega) ⟨i + 1, by omega, rfl, rfl⟩ ?_
    refine ⟨[], rfl, rfl, ?_, ?_⟩ <;> repeat' (first | exact trivial | exact rfl | apply And.intro)
  · have e : i = w.length := by omega
    subst e
    repeat' ((conv => whnf); first | (refine Br.mk (fun h => ?_) (fun h => ?_) <;> first | (exfalso; omega; done) | (exfalso; simp at h; done) | skip))
    repeat refine Mm.mk ?_
    refine EndVC.mk _ rfl _ _ ⟨rfl, rfl⟩ ?_
    refine ⟨[], rfl, rfl, ?_, ?_⟩ <;> repeat' (first | exact trivial | exact rfl | apply And.intro)
theorem l326b (L : List Int) (k : Int) (M : List Int) (m : Int) (c : Crv) (w hs : List Int) (hR : Ring M m hs) (hw : ∀ j, -4096 ≤ w.getD j 0 ∧ w.getD j 0 ≤ 4096) (hl : w.length ≤ 8) (hh : small hs) :
    PSpec Tryz.prog 132 [.one (.lel true KSt [stR L k M m c] 0 9), lL w] (.x (I (wsum w hs w.length))) := by
  have lw := i64s_len w
  have hk := hR.kb
  have e8 : rI [stR L k M m c] 0 (9 + (0 + 1 + 1 + 1 + 1 + 1 + 1 + 1 + 1)) = m := rfl
  refine spec_of pMix (O := []) Tryz.func132 (c := bodyOf Tryz.f132) rfl (by kernel_rfl) (by kernel_rfl) Tryz.ntmps132 (res := [.tmp 4]) (by kernel_rfl) ?_
  repeat' ((conv => whnf); first | refine Rng.g ?_ | fail)
  refine LoopVC.mk (fun n st => ∃ (i : Nat), i ≤ w.length ∧ n = w.length - i ∧ st = ⟨0, envA 35 [(0, .x (.one (.lel true KSt [stR L k M m c] 0 9))), (1, .x (lL w)), (5, .int .i64 (wsum w hs i)), (8, .x (lL w)), (9, .int .i64 (w.length : Int)), (10, .int .i64 (i : Int))], []⟩) _ _ ⟨0, Nat.zero_le _, rfl, rfl⟩ ?_ ?_
  · refine ⟨[], rfl, rfl, ?_, ?_⟩ <;> repeat' (first | exact trivial | exact rfl | apply And.intro)
    exact congrArg Int.ofNat lw
  rintro n _ ⟨i, hi, hn, rfl⟩
  have gw : rI (i64s w) (i : Int).toNat 0 = w.getD i 0 := by rw [Int.toNat_natCast, i64s_get]
  have hb := wsum_bd hw hh i
  have hp := wprod_bd hw hh i
  by_cases hi' : i < w.length
  · have hr := hR.at' i (by omega)
    rw [Int.toNat_natCast] at hr
    have hx := str_b L k M m c (n := (m + 8 - 1 - (i : Int)) % 8) (by omega)
    rw [hr] at hx
    repeat' ((conv => whnf); first | rw [e8] | refine Rng.g ?_ | refine Ob.g ?_ | refine Val.t ?_ | (refine Br.mk (fun h => ?_) (fun h => ?_) <;> first | (exfalso; omega; done) | (exfalso; simp at h; done) | skip))
    refine optP.mk _ (kst_b (n := (m + 8 - 1 - (i : Int)) % 8) (by omega)) ?_
    repeat' ((conv => whnf); first | rw [hx] | rw [gw] | refine Rng.g ?_ | fail)
    refine Back.mk (w.length - (i + 1)) _ (by omega) ⟨i + 1, by omega, rfl, rfl⟩ ?_
    refine ⟨[], rfl, rfl, ?_, ?_⟩ <;> repeat' (first | exact trivial | exact rfl | apply And.intro)
  · have e : i = w.length := by omega
    subst e
    repeat' ((conv => whnf); first | (refine Br.mk (fun h => ?_) (fun h => ?_) <;> first | (exfalso; omega; done) | (exfalso; simp at h; done) | skip))
    repeat refine Mm.mk ?_
    refine EndVC.mk _ rfl _ _ ⟨rfl, rfl⟩ ?_
    refine ⟨[], rfl, rfl, ?_, ?_⟩ <;> repeat' (first | exact trivial | exact rfl | apply And.intro)
theorem s277 (L : List Int) (k : Int) (M : List Int) (m : Int) (c : Crv) (hi ho : List Int) (hc : CrvOK c) (hO : Ring L k ho) (hI : Ring M m hi) (h1 : small hi) (h2 : small ho) :
    HSpec Tryz.prog 108 [.one (.ptr 0 0)] [stB L k M m c] (fun r m' => r = .x (I (corF c hi ho)) ∧ m' = [some (stB L k M m c)]) := by
  have a1 := wsum_bd hc.f.2 h1 c.f.length
  have a2 := wsum_bd hc.b.2 h2 c.b.length
  have f1 := hc.f.1; have f2 := hc.b.1; have f3 := hc.sh
  refine spec_of pMix (O := [(1, ([], [⟨0, [], []⟩, ⟨1, [], []⟩, ⟨2, [], []⟩, ⟨3, [], []⟩, ⟨4, [], []⟩, ⟨5, [], []⟩, ⟨6, [], []⟩, ⟨7, [], []⟩, ⟨9, [], []⟩, ⟨10, [], []⟩, ⟨11, [], []⟩, ⟨12, [], []⟩, ⟨13, [], []⟩, ⟨14, [], []⟩, ⟨15, [], []⟩, ⟨16, [], []⟩, ⟨19, [], []⟩, ⟨20, [], []⟩, ⟨21, [], []⟩, ⟨22, [], []⟩, ⟨23, [], []⟩, ⟨8, [9, 10, 11, 12, 13, 14, 15, 16, 19, 20, 21, 22, 23], []⟩, ⟨17, [19, 20, 21, 22, 23], []⟩, ⟨18, [], []⟩, ⟨24, [], []⟩, ⟨25, [], []⟩]))]) Tryz.func108 (c := bodyOf Tryz.f108) rfl (by kernel_rfl) (by kernel_rfl) Tryz.ntmps108 (res := [.tmp 2]) (by kernel_rfl) ?_
  repeat' ((conv => whnf); first | refine Rng.g ?_ | refine CallVC.pure rfl (s221 (wsum c.f hi c.f.length + wsum c.b ho c.b.length) c.sh (by omega) (by omega)) ?_ | refine CallVC0.pure rfl (l326b L k M m c c.f hi hI hc.f.2 hc.f.1 h1) ?_ | refine CallVC0.pure rfl (l326a L k M m c c.b ho hO hc.b.2 hc.b.1 h2) ?_)
  repeat refine Mm.mk ?_
  refine EndVC.mk _ rfl _ _ ⟨rfl, rfl⟩ ?_
  refine ⟨[some 0], rfl, rfl, ?_, ?_⟩ <;> repeat' (first | exact trivial | exact rfl | apply And.intro)
/-- A step of a curve: what the closure keeps. -/
@[reducible] def stM (u : SV) (L : List Int) (k : Int) (M : List Int) (m : Int) (c : Crv) : List Blk := [.box 4 [u], .box 191 [.ptr 2 0], stB L k M m c]
theorem s276f (L : List Int) (k : Int) (M : List Int) (m : Int) (c : Crv) (hi ho : List Int) (n : Int) (hc : CrvOK c) (hO : Ring L k ho) (hI : Ring M m hi) (h1 : small hi) (h2 : small ho) (hn : -100000 ≤ n ∧ n ≤ 100000) :
    HSpec Tryz.prog 107 [I n, .one (.ptr 0 0), .one (.ptr 1 0)] (stM (.bool false) L k M m c) (fun r m' => ∃ L' k' M' m2, Ring L' k' ((n + corF c hi ho) :: ho) ∧ Ring M' m2 (n :: hi) ∧ r = .x (I (n + corF c hi ho)) ∧ m' = [some (.box 4 [.bool false]), some (.box 191 [.ptr 2 0]), some (stB L' k' M' m2 c)]) := by
  have hb := corF_bd hc h1 h2
  refine spec_of pMix (O := []) Tryz.func107 (c := bodyOf Tryz.f107) rfl (by kernel_rfl) (by kernel_rfl) Tryz.ntmps107 (res := [.tmp 4]) (by kernel_rfl) ?_
  repeat' ((conv => whnf); first | (refine Br.mk (fun h => ?_) (fun h => ?_) <;> first | (exfalso; omega; done) | (exfalso; simp at h; done) | skip))
  conv => whnf
  refine CallVC.mk [2] _ _ _ rfl rfl rfl (s277 L k M m c hi ho hc hO hI h1 h2) (fun r m' h' => ?_)
  obtain ⟨rfl, rfl⟩ := h'
  conv => whnf
  repeat' ((conv => whnf); first | refine Rng.g ?_ | fail)
  conv => whnf
  refine CallVC.mk [2] _ _ _ rfl rfl rfl (s278b L k M m c n hi hI) (fun r m' h' => ?_)
  obtain ⟨rfl, rfl⟩ := h'
  conv => whnf
  repeat' ((conv => whnf); first | refine Rng.g ?_ | fail)
  conv => whnf
  refine CallVC.mk [2] _ _ _ rfl rfl rfl (s278a L k _ _ c (n + corF c hi ho) ho hO) (fun r m' h' => ?_)
  obtain ⟨rfl, rfl⟩ := h'
  conv => whnf
  repeat' ((conv => whnf); first | refine Rng.g ?_ | fail)
  repeat refine Mm.mk ?_
  conv => whnf
  refine EndVC.mk _ rfl _ _ (⟨_, _, _, _, hO.put _, hI.put _, rfl, rfl⟩) ?_
  refine ⟨[some 0, some 1, some 2], rfl, rfl, ?_, ?_⟩ <;> repeat' (first | exact trivial | exact rfl | apply And.intro)
theorem s276t (L : List Int) (k : Int) (M : List Int) (m : Int) (c : Crv) (hi ho : List Int) (n : Int) (hc : CrvOK c) (hO : Ring L k ho) (hI : Ring M m hi) (h1 : small hi) (h2 : small ho) (hn : -100000 ≤ n ∧ n ≤ 100000) :
    HSpec Tryz.prog 107 [I n, .one (.ptr 0 0), .one (.ptr 1 0)] (stM (.bool true) L k M m c) (fun r m' => ∃ L' k' M' m2, Ring L' k' (n :: ho) ∧ Ring M' m2 ((n - corF c hi ho) :: hi) ∧ r = .x (I (n - corF c hi ho)) ∧ m' = [some (.box 4 [.bool true]), some (.box 191 [.ptr 2 0]), some (stB L' k' M' m2 c)]) := by
  have hb := corF_bd hc h1 h2
  refine spec_of pMix (O := []) Tryz.func107 (c := bodyOf Tryz.f107) rfl (by kernel_rfl) (by kernel_rfl) Tryz.ntmps107 (res := [.tmp 4]) (by kernel_rfl) ?_
  repeat' ((conv => whnf); first | (refine Br.mk (fun h => ?_) (fun h => ?_) <;> first | (exfalso; omega; done) | (exfalso; simp at h; done) | skip))
  conv => whnf
  refine CallVC.mk [2] _ _ _ rfl rfl rfl (s277 L k M m c hi ho hc hO hI h1 h2) (fun r m' h' => ?_)
  obtain ⟨rfl, rfl⟩ := h'
  conv => whnf
  repeat' ((conv => whnf); first | refine Rng.g ?_ | fail)
  conv => whnf
  refine CallVC.mk [2] _ _ _ rfl rfl rfl (s278b L k M m c (n - corF c hi ho) hi hI) (fun r m' h' => ?_)
  obtain ⟨rfl, rfl⟩ := h'
  conv => whnf
  repeat' ((conv => whnf); first | refine Rng.g ?_ | fail)
  conv => whnf
  refine CallVC.mk [2] _ _ _ rfl rfl rfl (s278a L k _ _ c n ho hO) (fun r m' h' => ?_)
  obtain ⟨rfl, rfl⟩ := h'
  conv => whnf
  repeat' ((conv => whnf); first | refine Rng.g ?_ | fail)
  repeat refine Mm.mk ?_
  conv => whnf
  refine EndVC.mk _ rfl _ _ (⟨_, _, _, _, hO.put _, hI.put _, rfl, rfl⟩) ?_
  refine ⟨[some 0, some 1, some 2], rfl, rfl, ?_, ?_⟩ <;> repeat' (first | exact trivial | exact rfl | apply And.intro)
end Go.Sx

namespace Go.Sx
open Go Go.Proofs
set_option maxRecDepth 10000
set_option maxHeartbeats 4000000
@[reducible] def bv : Bool → SV
  | true => .tt
  | false => .ff
/-- What a step makes of a number. -/
def stepF (u : Bool) (c : Crv) (hi ho : List Int) (n : Int) : Int := if u = true then n - corF c hi ho else n + corF c hi ho
theorem s276 (u : Bool) (L : List Int) (k : Int) (M : List Int) (m : Int) (c : Crv) (hi ho : List Int) (n : Int) (hc : CrvOK c) (hO : Ring L k ho) (hI : Ring M m hi) (h1 : small hi) (h2 : small ho) (hn : -100000 ≤ n ∧ n ≤ 100000) :
    HSpec Tryz.prog 107 [I n, .one (.ptr 0 0), .one (.ptr 1 0)] (stM (.bool u) L k M m c) (fun r m' => ∃ L' k' M' m2, Ring L' k' ((if u = true then n else stepF u c hi ho n) :: ho) ∧ Ring M' m2 ((if u = true then stepF u c hi ho n else n) :: hi) ∧ r = .x (I (stepF u c hi ho n)) ∧ m' = [some (.box 4 [.bool u]), some (.box 191 [.ptr 2 0]), some (stB L' k' M' m2 c)]) := by
  cases u with
  | false => exact s276f L k M m c hi ho n hc hO hI h1 h2 hn
  | true => exact s276t L k M m c hi ho n hc hO hI h1 h2 hn
theorem s279 (n most : Int) (hm : 0 ≤ most ∧ most ≤ 1000000) : HSpec Tryz.prog 110 [I n, .one (.ptr 0 0)] [bI most] (fun r m' => r = xP (¬ bey n most) ∧ m' = [some (bI most)]) := by
  refine spec_of pMix (O := []) Tryz.func110 (c := bodyOf Tryz.f110) rfl (by kernel_rfl) (by kernel_rfl) Tryz.ntmps110 (res := [.tmp 3]) (by kernel_rfl) ?_
  repeat' ((conv => whnf); first | refine CallVC.pure rfl (s280 n most hm) ?_)
  repeat refine Mm.mk ?_
  refine EndVC.mk _ rfl _ _ ⟨rfl, rfl⟩ ?_
  refine ⟨[some 0], rfl, rfl, ?_, ?_⟩ <;> repeat' (first | exact trivial | exact rfl | exact Iff.rfl | apply And.intro)
theorem s204 (most : Int) : HSpec Tryz.prog 88 [I most] [] (fun r m' => r = .x (.one (.fn 110 [(0, 0)])) ∧ m' = [some (bI most)]) := by
  refine spec_of pMix (O := []) Tryz.func88 (c := bodyOf Tryz.f88) rfl (by kernel_rfl) (by kernel_rfl) Tryz.ntmps88 (res := [.tmp 2]) (by kernel_rfl) ?_
  repeat' ((conv => whnf); first | refine Rng.g ?_ | fail)
  repeat refine Mm.mk ?_
  refine EndVC.mk _ rfl _ _ ⟨rfl, rfl⟩ ?_
  refine ⟨[some 0], rfl, rfl, ?_, ?_⟩ <;> repeat' (first | exact trivial | exact rfl | apply And.intro)
theorem s203 (u : Bool) (c : Crv) : HSpec Tryz.prog 87 [c.x, .one (bv u)] [] (fun r m' => r = .x (.one (.fn 107 [(0, 0), (1, 0)])) ∧ m' = [some (.box 4 [.bool u]), some (.box 191 [.ptr 2 0]), some (stB [0, 0, 0, 0, 0, 0, 0, 0] 0 [0, 0, 0, 0, 0, 0, 0, 0] 0 c)]) := by
  cases u
  all_goals
    refine spec_of pMix (O := []) Tryz.func87 (c := bodyOf Tryz.f87) rfl (by kernel_rfl) (by kernel_rfl) Tryz.ntmps87 (res := [.tmp 4]) (by kernel_rfl) ?_
    repeat' ((conv => whnf); first | refine Rng.g ?_ | fail)
    repeat refine Mm.mk ?_
    refine EndVC.mk _ rfl _ _ ⟨rfl, rfl⟩ ?_
    refine ⟨[some 1, some 3, some 2], rfl, rfl, ?_, ?_⟩ <;> repeat' (first | exact trivial | exact rfl | apply And.intro)
/-! ### What a curve makes of a signal -/
def hiF (u : Bool) (xs ys : List Int) (i : Nat) : List Int := if u = true then (ys.take i).reverse else (xs.take i).reverse
def hoF (u : Bool) (xs ys : List Int) (i : Nat) : List Int := if u = true then (xs.take i).reverse else (ys.take i).reverse
def nextY (u : Bool) (c : Crv) (xs ys : List Int) (i : Nat) : Int := stepF u c (hiF u xs ys i) (hoF u xs ys i) (xs.getD i 0)
structure Filt (u : Bool) (c : Crv) (most : Int) (xs ys : List Int) : Prop where
  len : ys.length ≤ xs.length
  each : ∀ j, j < ys.length → ys.getD j 0 = nextY u c xs ys j ∧ ¬ bey (ys.getD j 0) most
theorem take_app {α : Type} (l r : List α) (i : Nat) (h : i ≤ l.length) : (l ++ r).take i = l.take i := by
  rw [List.take_append_of_le_length h]
theorem nextY_app (u : Bool) (c : Crv) (xs ys r : List Int) (i : Nat) (h : i ≤ ys.length) : nextY u c xs (ys ++ r) i = nextY u c xs ys i := by
  unfold nextY hiF hoF
  rw [take_app _ _ _ h]
theorem getD_app_l {α : Type} (l r : List α) (d : α) (i : Nat) (h : i < l.length) : (l ++ r).getD i d = l.getD i d := by
  rw [List.getD_eq_getElem?_getD, List.getD_eq_getElem?_getD, List.getElem?_append_left h]
theorem getD_app_e {α : Type} (l : List α) (x d : α) : (l ++ [x]).getD l.length d = x := by
  rw [List.getD_eq_getElem?_getD, List.getElem?_append_right (Nat.le_refl _)]; simp
theorem rev_snoc (xs : List Int) (i : Nat) (h : i < xs.length) : (xs.take (i + 1)).reverse = xs.getD i 0 :: (xs.take i).reverse := by
  rw [take_snoc xs i 0 h, List.reverse_append]; rfl
theorem rev_app (ys : List Int) (y : Int) : ((ys ++ [y]).take (ys.length + 1)).reverse = y :: (ys.take ys.length).reverse := by
  have e : (ys ++ [y]).take (ys.length + 1) = ys ++ [y] := List.take_of_length_le (by simp)
  rw [e, List.take_length, List.reverse_append]; rfl
theorem hoF_snoc (u : Bool) (xs ys : List Int) (y : Int) (h : ys.length < xs.length) : hoF u xs (ys ++ [y]) (ys.length + 1) = (if u = true then xs.getD ys.length 0 else y) :: hoF u xs ys ys.length := by
  unfold hoF
  cases u
  · exact rev_app ys y
  · exact rev_snoc xs _ h
theorem hiF_snoc (u : Bool) (xs ys : List Int) (y : Int) (h : ys.length < xs.length) : hiF u xs (ys ++ [y]) (ys.length + 1) = (if u = true then y else xs.getD ys.length 0) :: hiF u xs ys ys.length := by
  unfold hiF
  cases u
  · exact rev_snoc xs _ h
  · exact rev_app ys y
theorem Filt.snoc {u : Bool} {c : Crv} {most : Int} {xs ys : List Int} (h : Filt u c most xs ys) (hl : ys.length < xs.length) (hb : ¬ bey (nextY u c xs ys ys.length) most) : Filt u c most xs (ys ++ [nextY u c xs ys ys.length]) := by
  refine ⟨by simp; omega, fun j hj => ?_⟩
  rw [List.length_append, List.length_cons, List.length_nil] at hj
  rcases Nat.lt_succ_iff_lt_or_eq.1 hj with h' | rfl
  · rw [getD_app_l _ _ _ _ h', nextY_app _ _ _ _ _ _ (by omega)]
    exact h.each j h'
  · rw [getD_app_e, nextY_app _ _ _ _ _ _ (Nat.le_refl _)]
    exact ⟨rfl, hb⟩
theorem getD_bd {xs : List Int} {B : Int} (h : ∀ j, -B ≤ xs.getD j 0 ∧ xs.getD j 0 ≤ B) (i : Nat) : ∀ j, -B ≤ (xs.take i).reverse.getD j 0 ∧ (xs.take i).reverse.getD j 0 ≤ B := by
  intro j
  have h0 := h xs.length
  rw [List.getD_eq_getElem?_getD, List.getElem?_eq_none (Nat.le_refl _)] at h0
  simp only [Option.getD_none] at h0
  by_cases hj : j < (xs.take i).reverse.length
  · have hm : (xs.take i).reverse.getD j 0 ∈ xs := by
      have := getD_mem' (0 : Int) hj
      rw [List.mem_reverse] at this
      exact List.mem_of_mem_take this
    obtain ⟨q, hq, e⟩ := List.getElem_of_mem hm
    have := h q
    rw [List.getD_eq_getElem?_getD, List.getElem?_eq_getElem hq] at this
    simp only [Option.getD_some] at this
    rw [e] at this
    exact this
  · rw [List.getD_eq_getElem?_getD, List.getElem?_eq_none (by omega)]
    exact h0
def sigB (B : Int) (xs : List Int) : Prop := ∀ j, -B ≤ xs.getD j 0 ∧ xs.getD j 0 ≤ B
theorem Filt.sig {u : Bool} {c : Crv} {most : Int} {xs ys : List Int} (h : Filt u c most xs ys) (hm : 0 ≤ most) : sigB most ys := by
  intro j
  by_cases hj : j < ys.length
  · have := (h.each j hj).2
    unfold bey at this
    omega
  · rw [List.getD_eq_getElem?_getD, List.getElem?_eq_none (by omega)]
    simp only [Option.getD_none]
    omega
theorem Filt.small {u : Bool} {c : Crv} {most : Int} {xs ys : List Int} (h : Filt u c most xs ys) (hm : 0 ≤ most ∧ most ≤ 100000) (hx : sigB 100000 xs) (i : Nat) : small (hiF u xs ys i) ∧ small (hoF u xs ys i) := by
  have h1 : sigB 100000 ys := fun j => by have := h.sig hm.1 j; omega
  unfold hiF hoF
  cases u
  · exact ⟨getD_bd hx i, getD_bd h1 i⟩
  · exact ⟨getD_bd h1 i, getD_bd hx i⟩
end Go.Sx

namespace Go.Sx
open Go Go.Proofs
set_option maxRecDepth 10000
set_option maxHeartbeats 4000000
/-- What 'each' gives with a curve's steps. -/
def EachRs (u : Bool) (c : Crv) (most : Int) (xs : List Int) (r : AV) (m' : List (Option Blk)) : Prop :=
  (∃ ys, Filt u c most xs ys ∧ ys.length = xs.length ∧ r = .tup [.one (.own 4), I 0] ∧ m' = [none, none, none, none, some (rowL ys)]) ∨
  (∃ ys, Filt u c most xs ys ∧ ys.length < xs.length ∧ bey (nextY u c xs ys ys.length) most ∧ r = .tup [.one .nils, I 4] ∧ m' = [none, none, none, none])
theorem s202 (u : Bool) (c : Crv) (most : Int) (xs : List Int) (hc : CrvOK c) (hm : 0 ≤ most ∧ most ≤ 100000) (hx : sigB 100000 xs) (hl : xs.length ≤ 4096) :
    HSpec Tryz.prog 86 [lL xs, .one (.fn 107 [(0, 0), (1, 0)]), .one (.fn 110 [(3, 0)])] [.box 4 [.bool u], .box 191 [.ptr 2 0], stB [0, 0, 0, 0, 0, 0, 0, 0] 0 [0, 0, 0, 0, 0, 0, 0, 0] 0 c, bI most] (EachRs u c most xs) := by
  have lx := i64s_len xs
  refine spec_of pMix (O := []) Tryz.func86 (c := bodyOf Tryz.f86) rfl (by kernel_rfl) (by kernel_rfl) Tryz.ntmps86 (res := [.tmp 6, .tmp 7]) (by kernel_rfl) ?_
  repeat' ((conv => whnf); first | refine Rng.g ?_ | fail)
  repeat refine Mm.mk ?_
  refine Ob.mk (by simp only [eb2]; omega) ?_
  repeat' ((conv => whnf); first | refine Rng.g ?_ | fail)
  refine LoopVC.mk (fun n st => ∃ (ys : List Int) (L : List Int) (k : Int) (M : List Int) (m : Int), Filt u c most xs ys ∧ n = xs.length - ys.length ∧ Ring L k (hoF u xs ys ys.length) ∧ Ring M m (hiF u xs ys ys.length) ∧ st = ⟨4, envA 34 [(1, .x (.one (.fn 107 [(0, 0), (1, 0)]))), (2, .x (.one (.fn 110 [(3, 0)]))), (8, .x (.one (.own 4))), (15, .x (lL xs)), (16, .int .i64 (xs.length : Int)), (17, .int .i64 (ys.length : Int))], [some (.box 4 [.bool u]), some (.box 191 [.ptr 2 0]), some (stB L k M m c), some (bI most), some (rowL ys)]⟩) _ _ ⟨[], _, _, _, _, ⟨Nat.zero_le _, fun j hj => absurd hj (Nat.not_lt_zero j)⟩, rfl, by cases u <;> exact Ring.start, by cases u <;> exact Ring.start, rfl⟩ ?_ ?_
  · refine ⟨[some 0, some 1, some 2, some 3, some 4], rfl, rfl, ?_, ?_⟩ <;> repeat' (first | exact trivial | exact rfl | apply And.intro)
    exact congrArg Int.ofNat lx
  rintro n _ ⟨ys, L, k, M, m, hF, hn, hO, hI, rfl⟩
  have hfl := hF.len
  have gx : rI (i64s xs) (ys.length : Int).toNat 0 = xs.getD ys.length 0 := by rw [Int.toNat_natCast, i64s_get]
  have hs := hF.small hm hx ys.length
  have hxi := hx ys.length
  by_cases hi' : ys.length < xs.length
  · have hst : stepF u c (hiF u xs ys ys.length) (hoF u xs ys ys.length) (xs.getD ys.length 0) = nextY u c xs ys ys.length := rfl
    repeat' ((conv => whnf); first | rw [gx] | refine Ob.g ?_ | (refine Br.mk (fun h => ?_) (fun h => ?_) <;> first | (exfalso; omega; done) | (exfalso; simp at h; done) | skip))
    conv => whnf
    conv => whnf
    refine CallVC.mk [0, 1, 2] _ _ _ rfl rfl rfl (s276 u L k M m c _ _ (xs.getD ys.length 0) hc hO hI hs.1 hs.2 hxi) (fun r m' h' => ?_)
    obtain ⟨L2, k2, M2, m2, hO2, hI2, rfl, rfl⟩ := h'
    conv => whnf
    rw [hst]
    repeat' ((conv => whnf); first | refine Rng.g ?_ | fail)
    conv => whnf
    refine CallVC.mk [3] _ _ _ rfl rfl rfl (s279 (nextY u c xs ys ys.length) most (by omega)) (fun r m' h' => ?_)
    obtain ⟨rfl, rfl⟩ := h'
    conv => whnf
    repeat' ((conv => whnf); first | (refine Br.mk (fun h => ?_) (fun h => ?_) <;> first | (exfalso; omega; done) | (exfalso; simp at h; done) | skip))
    · repeat refine Mm.mk ?_
      conv => whnf
      refine EndVC.mk _ rfl _ _ (.inr ⟨ys, hF, hi', Classical.not_not.1 h, rfl, rfl⟩) ?_
      refine ⟨[none, none, none, none], rfl, rfl, ?_, ?_⟩ <;> repeat' (first | exact trivial | exact rfl | apply And.intro)
    · have hnb := Classical.not_not.1 h
      have ly : (i64s ys).length = ys.length := i64s_len ys
      repeat refine Mm.mk ?_
      refine Ob.mk (by simp only [ly, eb2, List.length_cons, List.length_nil]; omega) ?_
      repeat' ((conv => whnf); first | refine Rng.g ?_ | fail)
      have hl1 : (ys ++ [nextY u c xs ys ys.length]).length = ys.length + 1 := by simp
      refine Back.mk (xs.length - (ys.length + 1)) _ (by omega) ⟨ys ++ [nextY u c xs ys ys.length], L2, k2, M2, m2, hF.snoc hi' hnb, by rw [hl1], by rw [hl1, hoF_snoc u xs ys _ hi']; exact hO2, by rw [hl1, hiF_snoc u xs ys _ hi']; exact hI2, rfl⟩ ?_
      refine ⟨[some 0, some 1, some 2, some 3, some 6], rfl, rfl, ?_, ?_⟩ <;> repeat' (first | exact trivial | exact rfl | apply And.intro)
      · rw [hl1]; rfl
      · exact (i64s_snoc ys _).symm
  · repeat' ((conv => whnf); first | (refine Br.mk (fun h => ?_) (fun h => ?_) <;> first | (exfalso; omega; done) | (exfalso; simp at h; done) | skip))
    repeat refine Mm.mk ?_
    conv => whnf
    refine EndVC.mk _ rfl _ _ (.inl ⟨ys, hF, by omega, rfl, rfl⟩) ?_
    refine ⟨[none, none, none, none, some 4], rfl, rfl, ?_, ?_⟩ <;> repeat' (first | exact trivial | exact rfl | apply And.intro)
end Go.Sx

namespace Go.Sx
open Go Go.Proofs
set_option maxRecDepth 10000
set_option maxHeartbeats 4000000
/-- What a chain makes of a signal. -/
def ChN (u : Bool) (f : Nat → Crv) (xs : List Int) : Nat → List Int → Prop
  | 0, ys => ys = xs
  | n + 1, ys => ∃ zs, ChN u f xs n zs ∧ Filt u (f n) 32767 zs ys ∧ ys.length = zs.length
theorem ChN.len {u : Bool} {f : Nat → Crv} {xs : List Int} : ∀ {n : Nat} {ys : List Int}, ChN u f xs n ys → ys.length = xs.length
  | 0, _, h => by rw [h]
  | _ + 1, _, ⟨_, h, _, e⟩ => by rw [e]; exact h.len
theorem ChN.sig {u : Bool} {f : Nat → Crv} {xs : List Int} (hx : sigB 32767 xs) : ∀ {n : Nat} {ys : List Int}, ChN u f xs n ys → sigB 32767 ys
  | 0, _, h => by rw [h]; exact hx
  | _ + 1, _, ⟨_, _, hf, _⟩ => hf.sig (by decide)
def atC (u : Bool) (l : List Crv) (i : Nat) : Crv := if u = true then l.getD (l.length - 1 - i) c0 else l.getD i c0
theorem sig1 {xs : List Int} (h : sigB 32767 xs) : sigB 100000 xs := fun j => by have := h j; omega
/-- A step of a chain that goes too far. -/
def FarN (u : Bool) (f : Nat → Crv) (xs : List Int) (n : Nat) : Prop := ∃ i zs ys, i < n ∧ ChN u f xs i zs ∧ Filt u (f i) 32767 zs ys ∧ ys.length < zs.length ∧ bey (nextY u (f i) zs ys ys.length) 32767
inductive ChRs' (u : Bool) (l : List Crv) (xs : List Int) (r : AV) (m' : List (Option Blk)) : Prop
  | bad (e : Int) (h : ¬ (ChOK l ∧ SigOK xs)) (he : e ≠ 0) (hr : r = .tup [.one .nils, I e]) (hm : m' = [])
  | far (hl : ChOK l) (hx : SigOK xs) (h : FarN u (atC u l) xs l.length) (hr : r = .tup [.one .nils, I 4]) (hm : m' = [])
  | ok (hl : ChOK l) (hx : SigOK xs) (ys : List Int) (h : ChN u (atC u l) xs l.length ys) (hr : r = .tup [.one (.own 0), I 0]) (hm : m' = [some (rowL ys)])
theorem s203e (l : List Crv) (u : Bool) (i : Nat) : HSpec Tryz.prog 87 [crvX l i, .one (bv u)] [] (fun r m' => r = .x (.one (.fn 107 [(0, 0), (1, 0)])) ∧ m' = [some (.box 4 [.bool u]), some (.box 191 [.ptr 2 0]), some (stB [0, 0, 0, 0, 0, 0, 0, 0] 0 [0, 0, 0, 0, 0, 0, 0, 0] 0 (l.getD i c0))]) := crvX_eq l i ▸ s203 u (l.getD i c0)
theorem s203r (l : List Crv) (u : Bool) (i : Nat) (hi : i < l.length) : HSpec Tryz.prog 87 [crvX l ((List.length (crvA l) : Int) - 1 - (i : Int)).toNat, .one (bv u)] [] (fun r m' => r = .x (.one (.fn 107 [(0, 0), (1, 0)])) ∧ m' = [some (.box 4 [.bool u]), some (.box 191 [.ptr 2 0]), some (stB [0, 0, 0, 0, 0, 0, 0, 0] 0 [0, 0, 0, 0, 0, 0, 0, 0] 0 (l.getD (l.length - 1 - i) c0))]) := by
  have e : ((List.length (crvA l) : Int) - 1 - (i : Int)).toNat = l.length - 1 - i := by rw [crvA_len]; omega
  rw [e]
  exact s203e l u _
theorem s104 (u : Bool) (l : List Crv) (xs : List Int) : HSpec Tryz.prog 66 [lC l, lL xs, .one (bv u)] [] (ChRs' u l xs) := by
  have ll := crvA_len l
  have lx := i64s_len xs
  have v1 := s147 l
  have v2 := s148 xs
  by_cases hC : ¬ ChOK l
  · cases u
    all_goals
      refine spec_of pMix (O := []) Tryz.func66 (c := bodyOf Tryz.f66) rfl (by kernel_rfl) (by kernel_rfl) Tryz.ntmps66 (res := [.tmp 6, .tmp 7]) (by kernel_rfl) ?_
      repeat' ((conv => whnf); first | refine Rng.g ?_ | fail)
      conv => whnf
      refine CallVC.mk [] _ _ _ rfl rfl rfl (v1) (fun r m' h' => ?_)
      obtain ⟨e, rfl, rfl, he⟩ := h'
      conv => whnf
      have he0 : e ≠ 0 := fun h0 => hC (he.1 h0)
      repeat' ((conv => whnf); first | (refine Br.mk (fun h => ?_) (fun h => ?_) <;> first | (exfalso; omega; done) | (exfalso; simp at h; done) | skip))
      repeat refine Mm.mk ?_
      conv => whnf
      refine EndVC.mk _ rfl _ _ (.bad e (fun h => hC h.1) he0 rfl rfl) ?_
      refine ⟨[], rfl, rfl, ?_, ?_⟩ <;> repeat' (first | exact trivial | exact rfl | apply And.intro)
  replace hC := Classical.not_not.1 hC
  by_cases hX : ¬ SigOK xs
  · cases u
    all_goals
      refine spec_of pMix (O := []) Tryz.func66 (c := bodyOf Tryz.f66) rfl (by kernel_rfl) (by kernel_rfl) Tryz.ntmps66 (res := [.tmp 6, .tmp 7]) (by kernel_rfl) ?_
      repeat' ((conv => whnf); first | refine Rng.g ?_ | fail)
      conv => whnf
      refine CallVC.mk [] _ _ _ rfl rfl rfl (v1) (fun r m' h' => ?_)
      obtain ⟨e, rfl, rfl, he⟩ := h'
      conv => whnf
      cases he.2 hC
      repeat' ((conv => whnf); first | (refine Br.mk (fun h => ?_) (fun h => ?_) <;> first | (exfalso; omega; done) | (exfalso; simp at h; done) | skip))
      conv => whnf
      refine CallVC.mk [] _ _ _ rfl rfl rfl (v2) (fun r m' h' => ?_)
      obtain ⟨e, rfl, rfl, he'⟩ := h'
      conv => whnf
      have he0 : e ≠ 0 := fun h0 => hX (he'.1 h0)
      repeat' ((conv => whnf); first | (refine Br.mk (fun h => ?_) (fun h => ?_) <;> first | (exfalso; omega; done) | (exfalso; simp at h; done) | skip))
      repeat refine Mm.mk ?_
      conv => whnf
      refine EndVC.mk _ rfl _ _ (.bad e (fun h => hX h.2) he0 rfl rfl) ?_
      refine ⟨[], rfl, rfl, ?_, ?_⟩ <;> repeat' (first | exact trivial | exact rfl | apply And.intro)
  replace hX := Classical.not_not.1 hX
  have hxl := hX.len
  have hll := hC.len
  cases u
  · refine spec_of pMix (O := []) Tryz.func66 (c := bodyOf Tryz.f66) rfl (by kernel_rfl) (by kernel_rfl) Tryz.ntmps66 (res := [.tmp 6, .tmp 7]) (by kernel_rfl) ?_
    repeat' ((conv => whnf); first | refine Rng.g ?_ | fail)
    conv => whnf
    refine CallVC.mk [] _ _ _ rfl rfl rfl (v1) (fun r m' h' => ?_)
    obtain ⟨e, rfl, rfl, he⟩ := h'
    conv => whnf
    cases he.2 hC
    repeat' ((conv => whnf); first | (refine Br.mk (fun h => ?_) (fun h => ?_) <;> first | (exfalso; omega; done) | (exfalso; simp at h; done) | skip))
    conv => whnf
    refine CallVC.mk [] _ _ _ rfl rfl rfl (v2) (fun r m' h' => ?_)
    obtain ⟨e, rfl, rfl, he'⟩ := h'
    conv => whnf
    cases he'.2 hX
    repeat' ((conv => whnf); first | (refine Br.mk (fun h => ?_) (fun h => ?_) <;> first | (exfalso; omega; done) | (exfalso; simp at h; done) | skip))
    conv => whnf
    refine CallVC.mk [] _ _ _ rfl rfl rfl (s201 xs (by omega)) (fun r m' h' => ?_)
    obtain ⟨rfl, rfl⟩ := h'
    conv => whnf
    repeat' ((conv => whnf); first | refine Rng.g ?_ | fail)
    refine LoopVC.mk (fun n st => ∃ (i : Nat) (ys : List Int), i ≤ l.length ∧ n = l.length - i ∧ ChN false (atC false l) xs i ys ∧ st = ⟨0, envA 59 [(0, .x (lC l)), (1, .x (.one (.own 0))), (2, .x (.one .ff)), (27, .int .i64 (l.length : Int)), (28, .int .i64 (i : Int))], [some (rowL ys)]⟩) _ _ ⟨0, xs, Nat.zero_le _, rfl, rfl, rfl⟩ ?_ ?_
    · refine ⟨[some 0], rfl, rfl, ?_, ?_⟩ <;> repeat' (first | exact trivial | exact rfl | apply And.intro)
      exact congrArg Int.ofNat ll
    rintro n _ ⟨i, ys, hi, hn, hc, rfl⟩
    have hys := hc.len
    have hsg := hc.sig (xs := xs) hX.each
    by_cases hi' : i < l.length
    · repeat' ((conv => whnf); first | refine Ob.g ?_ | refine JoinVC.on ?_ | (refine Br.mk (fun h => ?_) (fun h => ?_) <;> first | (exfalso; omega; done) | (exfalso; simp at h; done) | skip))
      conv => whnf
      refine CallVC.mk [] _ _ _ rfl rfl rfl (s203e l false i) (fun r m' h' => ?_)
      obtain ⟨rfl, rfl⟩ := h'
      conv => whnf
      repeat' ((conv => whnf); first | refine Rng.g ?_ | fail)
      conv => whnf
      refine CallVC.mk [] _ _ _ rfl rfl rfl (s204 32767) (fun r m' h' => ?_)
      obtain ⟨rfl, rfl⟩ := h'
      conv => whnf
      repeat' ((conv => whnf); first | refine Rng.g ?_ | fail)
      conv => whnf
      refine CallVC.mk [2, 3, 4, 5] _ _ _ rfl rfl rfl (s202 false (l.getD i c0) 32767 ys (hC.each i hi') (by decide) (sig1 hsg) (by omega)) (fun r m' h' => ?_)
      rcases h' with ⟨zs, hF, hzl, rfl, rfl⟩ | ⟨zs, hF, hzl, hzb, rfl, rfl⟩
      · repeat' ((conv => whnf); first | refine Rng.g ?_ | (refine Br.mk (fun h => ?_) (fun h => ?_) <;> first | (exfalso; omega; done) | (exfalso; simp at h; done) | skip))
        refine Back.mk (l.length - (i + 1)) _ (by omega) ⟨i + 1, zs, by omega, rfl, ⟨ys, hc, hF, hzl⟩, rfl⟩ ?_
        refine ⟨[some 6], rfl, rfl, ?_, ?_⟩ <;> repeat' (first | exact trivial | exact rfl | apply And.intro)
      · repeat' ((conv => whnf); first | (refine Br.mk (fun h => ?_) (fun h => ?_) <;> first | (exfalso; omega; done) | (exfalso; simp at h; done) | skip))
        repeat refine Mm.mk ?_
        conv => whnf
        refine EndVC.mk _ rfl _ _ (.far hC hX ⟨i, ys, zs, hi', hc, hF, hzl, hzb⟩ rfl rfl) ?_
        refine ⟨[], rfl, rfl, ?_, ?_⟩ <;> repeat' (first | exact trivial | exact rfl | apply And.intro)
    · repeat' ((conv => whnf); first | (refine Br.mk (fun h => ?_) (fun h => ?_) <;> first | (exfalso; omega; done) | (exfalso; simp at h; done) | skip))
      repeat refine Mm.mk ?_
      conv => whnf
      refine EndVC.mk _ rfl _ _ (.ok hC hX ys (by rw [← (show i = l.length by omega)]; exact hc) rfl rfl) ?_
      refine ⟨[some 0], rfl, rfl, ?_, ?_⟩ <;> repeat' (first | exact trivial | exact rfl | apply And.intro)
  · refine spec_of pMix (O := []) Tryz.func66 (c := bodyOf Tryz.f66) rfl (by kernel_rfl) (by kernel_rfl) Tryz.ntmps66 (res := [.tmp 6, .tmp 7]) (by kernel_rfl) ?_
    repeat' ((conv => whnf); first | refine Rng.g ?_ | fail)
    conv => whnf
    refine CallVC.mk [] _ _ _ rfl rfl rfl (v1) (fun r m' h' => ?_)
    obtain ⟨e, rfl, rfl, he⟩ := h'
    conv => whnf
    cases he.2 hC
    repeat' ((conv => whnf); first | (refine Br.mk (fun h => ?_) (fun h => ?_) <;> first | (exfalso; omega; done) | (exfalso; simp at h; done) | skip))
    conv => whnf
    refine CallVC.mk [] _ _ _ rfl rfl rfl (v2) (fun r m' h' => ?_)
    obtain ⟨e, rfl, rfl, he'⟩ := h'
    conv => whnf
    cases he'.2 hX
    repeat' ((conv => whnf); first | (refine Br.mk (fun h => ?_) (fun h => ?_) <;> first | (exfalso; omega; done) | (exfalso; simp at h; done) | skip))
    conv => whnf
    refine CallVC.mk [] _ _ _ rfl rfl rfl (s201 xs (by omega)) (fun r m' h' => ?_)
    obtain ⟨rfl, rfl⟩ := h'
    conv => whnf
    repeat' ((conv => whnf); first | refine Rng.g ?_ | fail)
    refine LoopVC.mk (fun n st => ∃ (i : Nat) (ys : List Int), i ≤ l.length ∧ n = l.length - i ∧ ChN true (atC true l) xs i ys ∧ st = ⟨0, envA 59 [(0, .x (lC l)), (1, .x (.one (.own 0))), (2, .x (.one .tt)), (27, .int .i64 (l.length : Int)), (28, .int .i64 (i : Int))], [some (rowL ys)]⟩) _ _ ⟨0, xs, Nat.zero_le _, rfl, rfl, rfl⟩ ?_ ?_
    · refine ⟨[some 0], rfl, rfl, ?_, ?_⟩ <;> repeat' (first | exact trivial | exact rfl | apply And.intro)
      exact congrArg Int.ofNat ll
    rintro n _ ⟨i, ys, hi, hn, hc, rfl⟩
    have hys := hc.len
    have hsg := hc.sig (xs := xs) hX.each
    by_cases hi' : i < l.length
    · repeat' ((conv => whnf); first | refine Rng.g ?_ | refine Ob.g ?_ | refine JoinVC.on ?_ | (refine Br.mk (fun h => ?_) (fun h => ?_) <;> first | (exfalso; omega; done) | (exfalso; simp at h; done) | skip))
      conv => whnf
      refine CallVC.mk [] _ _ _ rfl rfl rfl (s203r l true i hi') (fun r m' h' => ?_)
      obtain ⟨rfl, rfl⟩ := h'
      conv => whnf
      repeat' ((conv => whnf); first | refine Rng.g ?_ | fail)
      conv => whnf
      refine CallVC.mk [] _ _ _ rfl rfl rfl (s204 32767) (fun r m' h' => ?_)
      obtain ⟨rfl, rfl⟩ := h'
      conv => whnf
      repeat' ((conv => whnf); first | refine Rng.g ?_ | fail)
      conv => whnf
      refine CallVC.mk [2, 3, 4, 5] _ _ _ rfl rfl rfl (s202 true (l.getD (l.length - 1 - i) c0) 32767 ys (hC.each _ (by omega)) (by decide) (sig1 hsg) (by omega)) (fun r m' h' => ?_)
      rcases h' with ⟨zs, hF, hzl, rfl, rfl⟩ | ⟨zs, hF, hzl, hzb, rfl, rfl⟩
      · repeat' ((conv => whnf); first | refine Rng.g ?_ | (refine Br.mk (fun h => ?_) (fun h => ?_) <;> first | (exfalso; omega; done) | (exfalso; simp at h; done) | skip))
        refine Back.mk (l.length - (i + 1)) _ (by omega) ⟨i + 1, zs, by omega, rfl, ⟨ys, hc, hF, hzl⟩, rfl⟩ ?_
        refine ⟨[some 6], rfl, rfl, ?_, ?_⟩ <;> repeat' (first | exact trivial | exact rfl | apply And.intro)
      · repeat' ((conv => whnf); first | (refine Br.mk (fun h => ?_) (fun h => ?_) <;> first | (exfalso; omega; done) | (exfalso; simp at h; done) | skip))
        repeat refine Mm.mk ?_
        conv => whnf
        refine EndVC.mk _ rfl _ _ (.far hC hX ⟨i, ys, zs, hi', hc, hF, hzl, hzb⟩ rfl rfl) ?_
        refine ⟨[], rfl, rfl, ?_, ?_⟩ <;> repeat' (first | exact trivial | exact rfl | apply And.intro)
    · repeat' ((conv => whnf); first | (refine Br.mk (fun h => ?_) (fun h => ?_) <;> first | (exfalso; omega; done) | (exfalso; simp at h; done) | skip))
      repeat refine Mm.mk ?_
      conv => whnf
      refine EndVC.mk _ rfl _ _ (.ok hC hX ys (by rw [← (show i = l.length by omega)]; exact hc) rfl rfl) ?_
      refine ⟨[some 0], rfl, rfl, ?_, ?_⟩ <;> repeat' (first | exact trivial | exact rfl | apply And.intro)
end Go.Sx

namespace Go.Sx
open Go Go.Proofs
set_option maxRecDepth 10000
set_option maxHeartbeats 4000000
/-- What a curve makes of a signal. -/
inductive ApRs (u : Bool) (c : Crv) (xs : List Int) (r : AV) (m' : List (Option Blk)) : Prop
  | bad (e : Int) (h : ¬ (CrvOK c ∧ SigOK xs)) (he : e ≠ 0) (hr : r = .tup [.one .nils, I e]) (hm : m' = [])
  | far (hl : CrvOK c) (hx : SigOK xs) (ys : List Int) (h : Filt u c 32767 xs ys) (hs : ys.length < xs.length) (hb : bey (nextY u c xs ys ys.length) 32767) (hr : r = .tup [.one .nils, I 4]) (hm : m' = [])
  | ok (hl : CrvOK c) (hx : SigOK xs) (ys : List Int) (h : Filt u c 32767 xs ys) (hs : ys.length = xs.length) (hr : r = .tup [.one (.own 0), I 0]) (hm : m' = [some (rowL ys)])
theorem chOK1 (c : Crv) : ChOK [c] ↔ CrvOK c := ⟨fun h => h.each 0 (by simp), fun h => ⟨by simp, fun j hj => (by rw [show j = 0 by simp at hj; omega]; exact h)⟩⟩
theorem ChRs'.one {u : Bool} {c : Crv} {xs : List Int} {r : AV} {m' : List (Option Blk)} (h : ChRs' u [c] xs r m') : ApRs u c xs r m' := by
  have ha : atC u [c] 0 = c := by cases u <;> rfl
  cases h with
  | bad e h he hr hm => exact .bad e (fun hh => h ⟨(chOK1 c).2 hh.1, hh.2⟩) he hr hm
  | far hl hx h hr hm =>
    obtain ⟨i, zs, ys, hi, hc, hf, hs, hb⟩ := h
    have hi0 : i = 0 := by simp at hi; omega
    subst hi0
    cases hc
    rw [ha] at hf hb
    exact .far ((chOK1 c).1 hl) hx ys hf hs hb hr hm
  | ok hl hx ys h hr hm =>
    obtain ⟨zs, hc, hf, hs⟩ := h
    cases hc
    rw [ha] at hf
    exact .ok ((chOK1 c).1 hl) hx ys hf hs hr hm
theorem s49 (c : Crv) (xs : List Int) : HSpec Tryz.prog 38 [c.x, lL xs] [] (ApRs false c xs) := by
  refine spec_of pMix (O := []) Tryz.func38 (c := bodyOf Tryz.f38) rfl (by kernel_rfl) (by kernel_rfl) Tryz.ntmps38 (res := [.tmp 4, .tmp 5]) (by kernel_rfl) ?_
  repeat' ((conv => whnf); first | refine Rng.g ?_ | fail)
  conv => whnf
  refine CallVC.mk [] _ _ _ rfl rfl rfl (s104 false [c] xs) (fun r m' h' => ?_)
  have h' := h'.one
  cases h' with
  | bad e h he hr hm =>
    subst hr hm
    repeat' ((conv => whnf); first | refine Rng.g ?_ | fail)
    repeat refine Mm.mk ?_
    conv => whnf
    refine EndVC.mk _ rfl _ _ (.bad e h he rfl rfl) ?_
    refine ⟨[], rfl, rfl, ?_, ?_⟩ <;> repeat' (first | exact trivial | exact rfl | apply And.intro)
  | far hl hx ys h hs hb hr hm =>
    subst hr hm
    repeat' ((conv => whnf); first | refine Rng.g ?_ | fail)
    repeat refine Mm.mk ?_
    conv => whnf
    refine EndVC.mk _ rfl _ _ (.far hl hx ys h hs hb rfl rfl) ?_
    refine ⟨[], rfl, rfl, ?_, ?_⟩ <;> repeat' (first | exact trivial | exact rfl | apply And.intro)
  | ok hl hx ys h hs hr hm =>
    subst hr hm
    repeat' ((conv => whnf); first | refine Rng.g ?_ | fail)
    repeat refine Mm.mk ?_
    conv => whnf
    refine EndVC.mk _ rfl _ _ (.ok hl hx ys h hs rfl rfl) ?_
    refine ⟨[some 2], rfl, rfl, ?_, ?_⟩ <;> repeat' (first | exact trivial | exact rfl | apply And.intro)
end Go.Sx

namespace Go.Sx
open Go Go.Proofs
set_option maxRecDepth 10000
set_option maxHeartbeats 2000000
/-- A cutter. -/
structure Cut where
  half : Int
  gain : Int
  thin : Int
  wide : Int
  slope : Int
  jerk : Int
  sty : Int
@[reducible] def Cut.x (c : Cut) : XV := .agg [.int .i64 c.half, .int .i64 c.gain, .int .i64 c.thin, .int .i64 c.wide, .int .i64 c.slope, .int .i64 c.jerk, .int .i64 c.sty]
structure CutOK (c : Cut) : Prop where
  half : 1 ≤ c.half ∧ c.half ≤ 4096
  gain : 0 ≤ c.gain ∧ c.gain ≤ 100000
  thin : 0 ≤ c.thin ∧ c.thin ≤ c.wide
  wide : 0 ≤ c.wide ∧ c.wide ≤ 1048576
  slope : 0 ≤ c.slope ∧ c.slope ≤ 10000
  jerk : 0 ≤ c.jerk ∧ c.jerk ≤ 1048576
  sty : 0 ≤ c.sty ∧ c.sty ≤ 1024
theorem s205 (x a b : Int) : PSpec Tryz.prog 77 [I x, I a, I b] (xP (x ≥ a ∧ x ≤ b)) := by
  refine spec_of pMix (O := []) Tryz.func77 (c := bodyOf Tryz.f77) rfl (by kernel_rfl) (by kernel_rfl) Tryz.ntmps77 (res := [.tmp 6]) (by kernel_rfl) ?_
  repeat' ((conv => whnf); first | (refine Br.mk (fun h => ?_) (fun h => ?_) <;> first | (exfalso; omega; done) | (exfalso; simp at h; done) | skip))
  · repeat refine Mm.mk ?_
    refine EndVC.mk _ rfl _ _ ⟨rfl, rfl⟩ ?_
    refine ⟨[], rfl, rfl, ?_, ?_⟩ <;> repeat' (first | exact trivial | apply And.intro)
    exact ⟨fun h2 => ⟨h, h2⟩, fun h2 => h2.2⟩
  · repeat refine Mm.mk ?_
    refine EndVC.mk _ rfl _ _ ⟨rfl, rfl⟩ ?_
    refine ⟨[], rfl, rfl, ?_, ?_⟩ <;> repeat' (first | exact trivial | apply And.intro)
    exact fun h2 => h h2.1
@[reducible] def CkRs (c : Cut) (r : AV) (m' : List (Option Blk)) : Prop := ∃ e, r = .x (I e) ∧ m' = [] ∧ (e = 0 ↔ CutOK c)
/-- The tests of a cutter. -/
def cdC (c : Cut) : Nat → Prop
  | 0 => 1 ≤ c.half ∧ c.half ≤ 4096
  | 1 => 0 ≤ c.gain ∧ c.gain ≤ 100000
  | 2 => 0 ≤ c.thin ∧ c.thin ≤ c.wide
  | 3 => 0 ≤ c.wide ∧ c.wide ≤ 1048576
  | 4 => 0 ≤ c.slope ∧ c.slope ≤ 10000
  | 5 => 0 ≤ c.jerk ∧ c.jerk ≤ 1048576
  | _ => 0 ≤ c.sty ∧ c.sty ≤ 1024
theorem CutOK.cd {c : Cut} (h : CutOK c) (j : Nat) : cdC c j := by
  obtain ⟨h1, h2, h3, h4, h5, h6, h7⟩ := h
  match j with
  | 0 => exact h1
  | 1 => exact h2
  | 2 => exact h3
  | 3 => exact h4
  | 4 => exact h5
  | 5 => exact h6
  | _ + 6 => exact h7
theorem s105 (c : Cut) : HSpec Tryz.prog 59 [c.x] [] (CkRs c) := by
  have k0 := s205 c.half 1 4096
  have k1 := s205 c.gain 0 100000
  have k2 := s205 c.thin 0 c.wide
  have k3 := s205 c.wide 0 1048576
  have k4 := s205 c.slope 0 10000
  have k5 := s205 c.jerk 0 1048576
  have k6 := s205 c.sty 0 1024
  refine spec_of pMix (O := []) Tryz.func59 (c := bodyOf Tryz.f59) rfl (by kernel_rfl) (by kernel_rfl) Tryz.ntmps59 (res := [.tmp 2]) (by kernel_rfl) ?_
  conv => whnf
  refine LoopVC.mk (fun n st => ∃ (i : Nat), i ≤ 7 ∧ n = 7 - i ∧ (∀ j, j < i → cdC c j) ∧ st = ⟨0, envA 41 [(28, .x (.agg [.int .i64 c.half, .int .i64 1, .int .i64 4096, .int .i64 c.gain, .int .i64 0, .int .i64 100000, .int .i64 c.thin, .int .i64 0, .int .i64 c.wide, .int .i64 c.wide, .int .i64 0, .int .i64 1048576, .int .i64 c.slope, .int .i64 0, .int .i64 10000, .int .i64 c.jerk, .int .i64 0, .int .i64 1048576, .int .i64 c.sty, .int .i64 0, .int .i64 1024])), (29, .int .i64 (i : Int))], []⟩) _ _ ⟨0, by decide, rfl, fun j hj => absurd hj (Nat.not_lt_zero j), rfl⟩ ?_ ?_
  · refine ⟨[], rfl, rfl, ?_, ?_⟩ <;> repeat' (first | exact trivial | exact rfl | apply And.intro)
  rintro n _ ⟨i, hi, hn, hj, rfl⟩
  have hcs : i = 0 ∨ i = 1 ∨ i = 2 ∨ i = 3 ∨ i = 4 ∨ i = 5 ∨ i = 6 ∨ i = 7 := by omega
  rcases hcs with rfl | rfl | rfl | rfl | rfl | rfl | rfl | rfl
  · repeat' ((conv => whnf); first | refine Rng.g ?_ | refine Ob.g ?_ | refine Ob.mk (Nat.le_of_ble_eq_true rfl) ?_ | refine CallVC.pure rfl (k0) ?_ | (refine Br.mk (fun h => ?_) (fun h => ?_) <;> first | (exfalso; omega; done) | (exfalso; simp at h; done) | skip))
    · repeat refine Mm.mk ?_
      conv => whnf
      refine EndVC.mk _ rfl _ _ (⟨2, rfl, rfl, ⟨fun h => (by cases h), fun hC => absurd (hC.cd 0) h⟩⟩) ?_
      refine ⟨[], rfl, rfl, ?_, ?_⟩ <;> repeat' (first | exact trivial | exact rfl | apply And.intro)
    · refine Back.mk (7 - (0 + 1)) _ (by omega) ⟨0 + 1, by omega, rfl, fun j hj' => ?_, rfl⟩ ?_
      · rcases Nat.lt_succ_iff_lt_or_eq.1 hj' with h' | rfl
        · exact hj j h'
        · exact Classical.not_not.1 h
      · refine ⟨[], rfl, rfl, ?_, ?_⟩ <;> repeat' (first | exact trivial | exact rfl | apply And.intro)
  · repeat' ((conv => whnf); first | refine Rng.g ?_ | refine Ob.g ?_ | refine Ob.mk (Nat.le_of_ble_eq_true rfl) ?_ | refine CallVC.pure rfl (k1) ?_ | (refine Br.mk (fun h => ?_) (fun h => ?_) <;> first | (exfalso; omega; done) | (exfalso; simp at h; done) | skip))
    · repeat refine Mm.mk ?_
      conv => whnf
      refine EndVC.mk _ rfl _ _ (⟨2, rfl, rfl, ⟨fun h => (by cases h), fun hC => absurd (hC.cd 1) h⟩⟩) ?_
      refine ⟨[], rfl, rfl, ?_, ?_⟩ <;> repeat' (first | exact trivial | exact rfl | apply And.intro)
    · refine Back.mk (7 - (1 + 1)) _ (by omega) ⟨1 + 1, by omega, rfl, fun j hj' => ?_, rfl⟩ ?_
      · rcases Nat.lt_succ_iff_lt_or_eq.1 hj' with h' | rfl
        · exact hj j h'
        · exact Classical.not_not.1 h
      · refine ⟨[], rfl, rfl, ?_, ?_⟩ <;> repeat' (first | exact trivial | exact rfl | apply And.intro)
  · repeat' ((conv => whnf); first | refine Rng.g ?_ | refine Ob.g ?_ | refine Ob.mk (Nat.le_of_ble_eq_true rfl) ?_ | refine CallVC.pure rfl (k2) ?_ | (refine Br.mk (fun h => ?_) (fun h => ?_) <;> first | (exfalso; omega; done) | (exfalso; simp at h; done) | skip))
    · repeat refine Mm.mk ?_
      conv => whnf
      refine EndVC.mk _ rfl _ _ (⟨2, rfl, rfl, ⟨fun h => (by cases h), fun hC => absurd (hC.cd 2) h⟩⟩) ?_
      refine ⟨[], rfl, rfl, ?_, ?_⟩ <;> repeat' (first | exact trivial | exact rfl | apply And.intro)
    · refine Back.mk (7 - (2 + 1)) _ (by omega) ⟨2 + 1, by omega, rfl, fun j hj' => ?_, rfl⟩ ?_
      · rcases Nat.lt_succ_iff_lt_or_eq.1 hj' with h' | rfl
        · exact hj j h'
        · exact Classical.not_not.1 h
      · refine ⟨[], rfl, rfl, ?_, ?_⟩ <;> repeat' (first | exact trivial | exact rfl | apply And.intro)
  · repeat' ((conv => whnf); first | refine Rng.g ?_ | refine Ob.g ?_ | refine Ob.mk (Nat.le_of_ble_eq_true rfl) ?_ | refine CallVC.pure rfl (k3) ?_ | (refine Br.mk (fun h => ?_) (fun h => ?_) <;> first | (exfalso; omega; done) | (exfalso; simp at h; done) | skip))
    · repeat refine Mm.mk ?_
      conv => whnf
      refine EndVC.mk _ rfl _ _ (⟨2, rfl, rfl, ⟨fun h => (by cases h), fun hC => absurd (hC.cd 3) h⟩⟩) ?_
      refine ⟨[], rfl, rfl, ?_, ?_⟩ <;> repeat' (first | exact trivial | exact rfl | apply And.intro)
    · refine Back.mk (7 - (3 + 1)) _ (by omega) ⟨3 + 1, by omega, rfl, fun j hj' => ?_, rfl⟩ ?_
      · rcases Nat.lt_succ_iff_lt_or_eq.1 hj' with h' | rfl
        · exact hj j h'
        · exact Classical.not_not.1 h
      · refine ⟨[], rfl, rfl, ?_, ?_⟩ <;> repeat' (first | exact trivial | exact rfl | apply And.intro)
  · repeat' ((conv => whnf); first | refine Rng.g ?_ | refine Ob.g ?_ | refine Ob.mk (Nat.le_of_ble_eq_true rfl) ?_ | refine CallVC.pure rfl (k4) ?_ | (refine Br.mk (fun h => ?_) (fun h => ?_) <;> first | (exfalso; omega; done) | (exfalso; simp at h; done) | skip))
    · repeat refine Mm.mk ?_
      conv => whnf
      refine EndVC.mk _ rfl _ _ (⟨2, rfl, rfl, ⟨fun h => (by cases h), fun hC => absurd (hC.cd 4) h⟩⟩) ?_
      refine ⟨[], rfl, rfl, ?_, ?_⟩ <;> repeat' (first | exact trivial | exact rfl | apply And.intro)
    · refine Back.mk (7 - (4 + 1)) _ (by omega) ⟨4 + 1, by omega, rfl, fun j hj' => ?_, rfl⟩ ?_
      · rcases Nat.lt_succ_iff_lt_or_eq.1 hj' with h' | rfl
        · exact hj j h'
        · exact Classical.not_not.1 h
      · refine ⟨[], rfl, rfl, ?_, ?_⟩ <;> repeat' (first | exact trivial | exact rfl | apply And.intro)
  · repeat' ((conv => whnf); first | refine Rng.g ?_ | refine Ob.g ?_ | refine Ob.mk (Nat.le_of_ble_eq_true rfl) ?_ | refine CallVC.pure rfl (k5) ?_ | (refine Br.mk (fun h => ?_) (fun h => ?_) <;> first | (exfalso; omega; done) | (exfalso; simp at h; done) | skip))
    · repeat refine Mm.mk ?_
      conv => whnf
      refine EndVC.mk _ rfl _ _ (⟨2, rfl, rfl, ⟨fun h => (by cases h), fun hC => absurd (hC.cd 5) h⟩⟩) ?_
      refine ⟨[], rfl, rfl, ?_, ?_⟩ <;> repeat' (first | exact trivial | exact rfl | apply And.intro)
    · refine Back.mk (7 - (5 + 1)) _ (by omega) ⟨5 + 1, by omega, rfl, fun j hj' => ?_, rfl⟩ ?_
      · rcases Nat.lt_succ_iff_lt_or_eq.1 hj' with h' | rfl
        · exact hj j h'
        · exact Classical.not_not.1 h
      · refine ⟨[], rfl, rfl, ?_, ?_⟩ <;> repeat' (first | exact trivial | exact rfl | apply And.intro)
  · repeat' ((conv => whnf); first | refine Rng.g ?_ | refine Ob.g ?_ | refine Ob.mk (Nat.le_of_ble_eq_true rfl) ?_ | refine CallVC.pure rfl (k6) ?_ | (refine Br.mk (fun h => ?_) (fun h => ?_) <;> first | (exfalso; omega; done) | (exfalso; simp at h; done) | skip))
    · repeat refine Mm.mk ?_
      conv => whnf
      refine EndVC.mk _ rfl _ _ (⟨2, rfl, rfl, ⟨fun h => (by cases h), fun hC => absurd (hC.cd 6) h⟩⟩) ?_
      refine ⟨[], rfl, rfl, ?_, ?_⟩ <;> repeat' (first | exact trivial | exact rfl | apply And.intro)
    · refine Back.mk (7 - (6 + 1)) _ (by omega) ⟨6 + 1, by omega, rfl, fun j hj' => ?_, rfl⟩ ?_
      · rcases Nat.lt_succ_iff_lt_or_eq.1 hj' with h' | rfl
        · exact hj j h'
        · exact Classical.not_not.1 h
      · refine ⟨[], rfl, rfl, ?_, ?_⟩ <;> repeat' (first | exact trivial | exact rfl | apply And.intro)
  · repeat' ((conv => whnf); first | (refine Br.mk (fun h => ?_) (fun h => ?_) <;> first | (exfalso; omega; done) | (exfalso; simp at h; done) | skip))
    repeat refine Mm.mk ?_
    conv => whnf
    refine EndVC.mk _ rfl _ _ (⟨0, rfl, rfl, ⟨fun _ => ⟨hj 0 (by decide), hj 1 (by decide), hj 2 (by decide), hj 3 (by decide), hj 4 (by decide), hj 5 (by decide), hj 6 (by decide)⟩, fun _ => rfl⟩⟩) ?_
    refine ⟨[], rfl, rfl, ?_, ?_⟩ <;> repeat' (first | exact trivial | exact rfl | apply And.intro)
end Go.Sx

namespace Go.Sx
open Go Go.Proofs
set_option maxRecDepth 10000
set_option maxHeartbeats 1000000
/-! ### Names -/
def okC (c : Int) : Prop := (97 ≤ c ∧ c ≤ 122) ∨ (48 ≤ c ∧ c ≤ 57)
def chr (s : ByteArray) (j : Nat) : Int := ((s.data.toList.getD j 0).toNat : Int)
def nameOK (s : ByteArray) : Prop := 1 ≤ s.size ∧ s.size ≤ 20 ∧ ∀ j, j < s.size → okC (chr s j)
open Classical in
theorem s282 (s : ByteArray) : PSpec Tryz.prog 72 [.one (.str s)] (xP (nameOK s)) := by
  by_cases hs : s.size < 1 ∨ 20 < s.size
  · refine spec_of pMix (O := []) Tryz.func72 (c := bodyOf Tryz.f72) rfl (by kernel_rfl) (by kernel_rfl) Tryz.ntmps72 (res := [.tmp 2]) (by kernel_rfl) ?_
    repeat' ((conv => whnf); first | (refine Br.mk (fun h => ?_) (fun h => ?_) <;> first | (exfalso; omega; done) | (exfalso; simp at h; done) | skip))
    all_goals
      repeat refine Mm.mk ?_
      refine EndVC.mk _ rfl _ _ ⟨rfl, rfl⟩ ?_
      refine ⟨[], rfl, rfl, ?_, ?_⟩ <;> repeat' (first | exact trivial | apply And.intro)
      show ¬ _
      intro hn
      have := hn.1
      have := hn.2.1
      omega
  refine spec_of pMix (O := []) Tryz.func72 (c := bodyOf Tryz.f72) rfl (by kernel_rfl) (by kernel_rfl) Tryz.ntmps72 (res := [.tmp 2]) (by kernel_rfl) ?_
  repeat' ((conv => whnf); first | (refine Br.mk (fun h => ?_) (fun h => ?_) <;> first | (exfalso; omega; done) | (exfalso; simp at h; done) | skip))
  refine LoopVC.mk (fun n st => ∃ (i : Nat), i ≤ s.size ∧ n = s.size - i ∧ (∀ j, j < i → okC (chr s j)) ∧ st = ⟨0, envA 42 [(0, .x (.one (.str s))), (3, .int .i64 (i : Int))], []⟩) _ _ ⟨0, Nat.zero_le _, rfl, fun j hj => absurd hj (Nat.not_lt_zero j), rfl⟩ ?_ ?_
  · refine ⟨[], rfl, rfl, ?_, ?_⟩ <;> repeat' (first | exact trivial | exact rfl | apply And.intro)
  rintro n _ ⟨i, hi, hn, hj, rfl⟩
  have gc : chr s i = ((s.data.toList.getD (i : Int).toNat 0).toNat : Int) := rfl
  by_cases hi' : i < s.size
  · by_cases hc : okC (chr s i)
    · have hc' := hc
      unfold okC at hc'
      rw [gc] at hc'
      repeat' ((conv => whnf); first | refine Rng.g ?_ | refine Ob.g ?_ | (refine Br.mk (fun h => ?_) (fun h => ?_) <;> first | (exfalso; omega; done) | (exfalso; simp at h; done) | skip))
      all_goals
        refine Back.mk (s.size - (i + 1)) _ (by omega) ⟨i + 1, by omega, rfl, fun j hj' => ?_, rfl⟩ ?_
        · rcases Nat.lt_succ_iff_lt_or_eq.1 hj' with h' | rfl
          · exact hj j h'
          · exact hc
        · refine ⟨[], rfl, rfl, ?_, ?_⟩ <;> repeat' (first | exact trivial | exact rfl | apply And.intro)
    · have hc' := hc
      unfold okC at hc'
      rw [gc] at hc'
      repeat' ((conv => whnf); first | refine Ob.g ?_ | (refine Br.mk (fun h => ?_) (fun h => ?_) <;> first | (exfalso; omega; done) | (exfalso; simp at h; done) | skip))
      all_goals
        repeat refine Mm.mk ?_
        refine EndVC.mk _ rfl _ _ ⟨rfl, rfl⟩ ?_
        refine ⟨[], rfl, rfl, ?_, ?_⟩ <;> repeat' (first | exact trivial | apply And.intro)
        exact fun hn => hc (hn.2.2 i hi')
  · repeat' ((conv => whnf); first | (refine Br.mk (fun h => ?_) (fun h => ?_) <;> first | (exfalso; omega; done) | (exfalso; simp at h; done) | skip))
    repeat refine Mm.mk ?_
    refine EndVC.mk _ rfl _ _ ⟨rfl, rfl⟩ ?_
    refine ⟨[], rfl, rfl, ?_, ?_⟩ <;> repeat' (first | exact trivial | apply And.intro)
    · omega
    · omega
    · exact fun j hj' => hj j (by omega)
/-! ### Takes -/
structure Tak where
  nm : ByteArray
  d : List Smp
def takA (l : List Tak) : Arr := l.map fun t => [.str t.nm, .sl (smpA t.d)]
theorem takA_len (l : List Tak) : (takA l).length = l.length := by simp [takA]
abbrev t0 : Tak := ⟨ByteArray.empty, []⟩
theorem takA_n (l : List Tak) (i : Nat) : rS (takA l) i 0 = (l.getD i t0).nm := map_rS _ t0 l i 0 rfl
theorem takA_d (l : List Tak) (i : Nat) : rA (takA l) i 1 = smpA (l.getD i t0).d := map_rA _ t0 l i 1 rfl
@[reducible] def KT : List CK := [.str, .sl KS]
@[reducible] def lT (l : List Tak) : XV := .one (.lst true KT (takA l))
@[reducible] def Tak.x (t : Tak) : XV := .agg [.str t.nm, .lst true KS (smpA t.d)]
def SmpI (l : List Smp) : Prop := ∀ j, inI (l.getD j s0).l ∧ inI (l.getD j s0).r
open Classical in
/-- The error of a take. -/
noncomputable def takE (t : Tak) : Int := if 4096 < t.d.length then 6 else if ¬ nameOK t.nm ∨ t.d.length = 0 then 2 else smpE t.d
def Tak.ok (t : Tak) : Prop := nameOK t.nm ∧ 1 ≤ t.d.length ∧ t.d.length ≤ 4096 ∧ ∀ s ∈ t.d, s.ok
theorem takE_0 {t : Tak} : takE t = 0 ↔ t.ok := by
  unfold takE Tak.ok
  by_cases h1 : 4096 < t.d.length
  · rw [if_pos h1]; exact ⟨fun h => (by cases h), fun h => (by omega)⟩
  · rw [if_neg h1]
    by_cases h2 : ¬ nameOK t.nm ∨ t.d.length = 0
    · rw [if_pos h2]; exact ⟨fun h => (by cases h), fun h => h2.elim (fun h' => absurd h.1 h') (fun h' => (by omega))⟩
    · rw [if_neg h2, smpE_0]
      have h3 := not_or.1 h2
      exact ⟨fun h => ⟨Classical.not_not.1 h3.1, by omega, h.1, h.2⟩, fun h => ⟨h.2.2.1, h.2.2.2⟩⟩
theorem s209 (t : Tak) (hI : SmpI t.d) : PSpec Tryz.prog 50 [t.x] (.x (I (takE t))) := by
  have ll := smpA_len t.d
  unfold takE
  by_cases h1 : 4096 < t.d.length
  · rw [if_pos h1]
    refine spec_of pMix (O := []) Tryz.func50 (c := bodyOf Tryz.f50) rfl (by kernel_rfl) (by kernel_rfl) Tryz.ntmps50 (res := [.tmp 2]) (by kernel_rfl) ?_
    repeat' ((conv => whnf); first | (refine Br.mk (fun h => ?_) (fun h => ?_) <;> first | (exfalso; omega; done) | (exfalso; simp at h; done) | skip))
    repeat refine Mm.mk ?_
    refine EndVC.mk _ rfl _ _ ⟨rfl, rfl⟩ ?_
    refine ⟨[], rfl, rfl, ?_, ?_⟩ <;> repeat' (first | exact trivial | exact rfl | apply And.intro)
  rw [if_neg h1]
  by_cases h2 : nameOK t.nm
  · by_cases h3 : t.d.length = 0
    · rw [if_pos (.inr h3)]
      refine spec_of pMix (O := []) Tryz.func50 (c := bodyOf Tryz.f50) rfl (by kernel_rfl) (by kernel_rfl) Tryz.ntmps50 (res := [.tmp 2]) (by kernel_rfl) ?_
      repeat' ((conv => whnf); first | refine CallVC.pure rfl (s282 t.nm) ?_ | (refine Br.mk (fun h => ?_) (fun h => ?_) <;> first | (exfalso; omega; done) | (exfalso; simp at h; done) | (exfalso; simp [h2] at h; done) | skip))
      repeat refine Mm.mk ?_
      refine EndVC.mk _ rfl _ _ ⟨rfl, rfl⟩ ?_
      refine ⟨[], rfl, rfl, ?_, ?_⟩ <;> repeat' (first | exact trivial | exact rfl | apply And.intro)
    · rw [if_neg (by rintro (h | h); exact h h2; exact h3 h)]
      refine spec_of pMix (O := []) Tryz.func50 (c := bodyOf Tryz.f50) rfl (by kernel_rfl) (by kernel_rfl) Tryz.ntmps50 (res := [.tmp 2]) (by kernel_rfl) ?_
      repeat' ((conv => whnf); first | refine CallVC.pure rfl (s282 t.nm) ?_ | refine CallVC.pure rfl (s58 t.d hI) ?_ | (refine Br.mk (fun h => ?_) (fun h => ?_) <;> first | (exfalso; omega; done) | (exfalso; simp at h; done) | (exfalso; simp [h2] at h; done) | skip))
      repeat refine Mm.mk ?_
      refine EndVC.mk _ rfl _ _ ⟨rfl, rfl⟩ ?_
      refine ⟨[], rfl, rfl, ?_, ?_⟩ <;> repeat' (first | exact trivial | exact rfl | apply And.intro)
  · rw [if_pos (.inl h2)]
    refine spec_of pMix (O := []) Tryz.func50 (c := bodyOf Tryz.f50) rfl (by kernel_rfl) (by kernel_rfl) Tryz.ntmps50 (res := [.tmp 2]) (by kernel_rfl) ?_
    repeat' ((conv => whnf); first | refine CallVC.pure rfl (s282 t.nm) ?_ | (refine Br.mk (fun h => ?_) (fun h => ?_) <;> first | (exfalso; omega; done) | (exfalso; simp at h; done) | (exfalso; simp [h2] at h; done) | skip))
    repeat refine Mm.mk ?_
    refine EndVC.mk _ rfl _ _ ⟨rfl, rfl⟩ ?_
    refine ⟨[], rfl, rfl, ?_, ?_⟩ <;> repeat' (first | exact trivial | exact rfl | apply And.intro)
def TakI (l : List Tak) : Prop := ∀ j, SmpI (l.getD j t0).d
/-- All takes are right, with different names. -/
structure TaksOK (l : List Tak) : Prop where
  len : 1 ≤ l.length ∧ l.length ≤ 16
  each : ∀ j, j < l.length → (l.getD j t0).ok
  names : ∀ i j, i < l.length → j < i → (l.getD i t0).nm ≠ (l.getD j t0).nm
theorem s117 (l : List Tak) (hI : TakI l) : HSpec Tryz.prog 26 [lT l] [] (fun r m' => ∃ e, r = .x (I e) ∧ m' = [] ∧ (e = 0 ↔ TaksOK l)) := by
  have ll := takA_len l
  by_cases hl : l.length < 1 ∨ 16 < l.length
  · refine spec_of pMix (O := []) Tryz.func26 (c := bodyOf Tryz.f26) rfl (by kernel_rfl) (by kernel_rfl) Tryz.ntmps26 (res := [.tmp 2]) (by kernel_rfl) ?_
    repeat' ((conv => whnf); first | (refine Br.mk (fun h => ?_) (fun h => ?_) <;> first | (exfalso; omega; done) | (exfalso; simp at h; done) | skip))
    all_goals
      repeat refine Mm.mk ?_
      conv => whnf
      refine EndVC.mk _ rfl _ _ (⟨6, rfl, rfl, ⟨fun h => (by cases h), fun h => (by have := h.len; omega)⟩⟩) ?_
      refine ⟨[], rfl, rfl, ?_, ?_⟩ <;> repeat' (first | exact trivial | exact rfl | apply And.intro)
  refine spec_of pMix (O := []) Tryz.func26 (c := bodyOf Tryz.f26) rfl (by kernel_rfl) (by kernel_rfl) Tryz.ntmps26 (res := [.tmp 2]) (by kernel_rfl) ?_
  repeat' ((conv => whnf); first | (refine Br.mk (fun h => ?_) (fun h => ?_) <;> first | (exfalso; omega; done) | (exfalso; simp at h; done) | skip))
  refine LoopVC.mk (fun n st => ∃ (i : Nat), i ≤ l.length ∧ n = l.length - i ∧ (∀ j, j < i → (l.getD j t0).d.length ≤ 4096) ∧ st = ⟨0, envA 62 [(0, .x (lT l)), (3, .int .i64 (i : Int))], []⟩) _ _ ⟨0, Nat.zero_le _, rfl, fun j hj => absurd hj (Nat.not_lt_zero j), rfl⟩ ?_ ?_
  · refine ⟨[], rfl, rfl, ?_, ?_⟩ <;> repeat' (first | exact trivial | exact rfl | apply And.intro)
  rintro n _ ⟨i, hi, hn, hj, rfl⟩
  have gd : rA (takA l) (i : Int).toNat 1 = smpA (l.getD i t0).d := takA_d l i
  have gl : (rA (takA l) (i : Int).toNat (0 + (0 + 1))).length = (l.getD i t0).d.length := (congrArg List.length gd).trans (smpA_len _)
  by_cases hi' : i < l.length
  · repeat' ((conv => whnf); first | refine Rng.g ?_ | refine Ob.g ?_ | (refine Br.mk (fun h => ?_) (fun h => ?_) <;> first | (exfalso; omega; done) | (exfalso; simp at h; done) | skip))
    · repeat refine Mm.mk ?_
      conv => whnf
      refine EndVC.mk _ rfl _ _ (⟨6, rfl, rfl, ⟨fun h => (by cases h), fun h' => (by have := (h'.each i hi').2.2.1; omega)⟩⟩) ?_
      refine ⟨[], rfl, rfl, ?_, ?_⟩ <;> repeat' (first | exact trivial | exact rfl | apply And.intro)
    · refine Back.mk (l.length - (i + 1)) _ (by omega) ⟨i + 1, by omega, rfl, fun j hj' => ?_, rfl⟩ ?_
      · rcases Nat.lt_succ_iff_lt_or_eq.1 hj' with h' | rfl
        · exact hj j h'
        · omega
      · refine ⟨[], rfl, rfl, ?_, ?_⟩ <;> repeat' (first | exact trivial | exact rfl | apply And.intro)
  have hd : ∀ j, j < l.length → (l.getD j t0).d.length ≤ 4096 := fun j hj' => hj j (by omega)
  clear gd gl hj
  repeat' ((conv => whnf); first | (refine Br.mk (fun h => ?_) (fun h => ?_) <;> first | (exfalso; omega; done) | (exfalso; simp at h; done) | skip))
  clear hi' hi hn
  refine LoopVC.mk (fun n st => ∃ (i : Nat), i ≤ l.length ∧ n = l.length - i ∧ (∀ j, j < i → (l.getD j t0).ok) ∧ st = ⟨0, envA 62 [(0, .x (lT l)), (4, .int .i64 (i : Int))], []⟩) _ _ ⟨0, Nat.zero_le _, rfl, fun j hj => absurd hj (Nat.not_lt_zero j), rfl⟩ ?_ ?_
  · refine ⟨[], rfl, rfl, ?_, ?_⟩ <;> repeat' (first | exact trivial | exact rfl | apply And.intro)
  rintro n _ ⟨i, hi, hn, hj, rfl⟩
  have gd : rA (takA l) (i : Int).toNat 1 = smpA (l.getD i t0).d := takA_d l i
  have gn : rS (takA l) (i : Int).toNat 0 = (l.getD i t0).nm := takA_n l i
  have c1 := s209 (l.getD i t0) (hI i)
  unfold Tak.x at c1
  rw [← gd, ← gn] at c1
  by_cases hi' : i < l.length
  · repeat' ((conv => whnf); first | refine Rng.g ?_ | refine Ob.g ?_ | refine CallVC.pure rfl (c1) ?_ | (refine Br.mk (fun h => ?_) (fun h => ?_) <;> first | (exfalso; omega; done) | (exfalso; simp at h; done) | skip))
    · repeat refine Mm.mk ?_
      conv => whnf
      refine EndVC.mk _ rfl _ _ (⟨2, rfl, rfl, ⟨fun h => (by cases h), fun h' => absurd (takE_0.2 (h'.each i hi')) h⟩⟩) ?_
      refine ⟨[], rfl, rfl, ?_, ?_⟩ <;> repeat' (first | exact trivial | exact rfl | apply And.intro)
    · refine Back.mk (l.length - (i + 1)) _ (by omega) ⟨i + 1, by omega, rfl, fun j hj' => ?_, rfl⟩ ?_
      · rcases Nat.lt_succ_iff_lt_or_eq.1 hj' with h' | rfl
        · exact hj j h'
        · exact takE_0.1 (Classical.not_not.1 h)
      · refine ⟨[], rfl, rfl, ?_, ?_⟩ <;> repeat' (first | exact trivial | exact rfl | apply And.intro)
  have he : ∀ j, j < l.length → (l.getD j t0).ok := fun j hj' => hj j (by omega)
  clear gd gn hj c1
  repeat' ((conv => whnf); first | (refine Br.mk (fun h => ?_) (fun h => ?_) <;> first | (exfalso; omega; done) | (exfalso; simp at h; done) | skip))
  clear hi' hi hn
  refine LoopVC.mk (fun n st => ∃ (i : Nat), i ≤ l.length ∧ n = l.length - i ∧ (∀ a b, a < i → b < a → (l.getD a t0).nm ≠ (l.getD b t0).nm) ∧ st = ⟨0, envA 62 [(0, .x (lT l)), (5, .int .i64 (i : Int))], []⟩) _ _ ⟨0, Nat.zero_le _, rfl, fun a b h => absurd h (Nat.not_lt_zero a), rfl⟩ ?_ ?_
  · refine ⟨[], rfl, rfl, ?_, ?_⟩ <;> repeat' (first | exact trivial | exact rfl | apply And.intro)
  rintro n _ ⟨i, hi, hn, hj, rfl⟩
  have gn : rS (takA l) (i : Int).toNat 0 = (l.getD i t0).nm := takA_n l i
  by_cases hi' : i < l.length
  · repeat' ((conv => whnf); first | (refine Br.mk (fun h => ?_) (fun h => ?_) <;> first | (exfalso; omega; done) | (exfalso; simp at h; done) | skip))
    refine LoopVC.mk (fun n st => ∃ (k : Nat), k ≤ i ∧ n = i - k ∧ (∀ b, b < k → (l.getD i t0).nm ≠ (l.getD b t0).nm) ∧ st = ⟨0, envA 62 [(0, .x (lT l)), (5, .int .i64 (i : Int)), (6, .int .i64 (k : Int))], []⟩) _ _ ⟨0, Nat.zero_le _, rfl, fun b h => absurd h (Nat.not_lt_zero b), rfl⟩ ?_ ?_
    · refine ⟨[], rfl, rfl, ?_, ?_⟩ <;> repeat' (first | exact trivial | exact rfl | apply And.intro)
    rintro n2 _ ⟨k, hk, hn2, hb, rfl⟩
    have gk : rS (takA l) (k : Int).toNat 0 = (l.getD k t0).nm := takA_n l k
    by_cases hk' : k < i
    · repeat' ((conv => whnf); first | refine Rng.g ?_ | refine Ob.g ?_ | (refine Br.mk (fun h => ?_) (fun h => ?_) <;> first | (exfalso; omega; done) | (exfalso; simp at h; done) | skip))
      · rw [gn, gk] at h
        repeat refine Mm.mk ?_
        conv => whnf
        refine EndVC.mk _ rfl _ _ (⟨12, rfl, rfl, ⟨fun h => (by cases h), fun h' => absurd h (h'.names i k hi' hk')⟩⟩) ?_
        refine ⟨[], rfl, rfl, ?_, ?_⟩ <;> repeat' (first | exact trivial | exact rfl | apply And.intro)
      · rw [gn, gk] at h
        refine Back.mk (i - (k + 1)) _ (by omega) ⟨k + 1, by omega, rfl, fun b hb' => ?_, rfl⟩ ?_
        · rcases Nat.lt_succ_iff_lt_or_eq.1 hb' with h' | rfl
          · exact hb b h'
          · exact h
        · refine ⟨[], rfl, rfl, ?_, ?_⟩ <;> repeat' (first | exact trivial | exact rfl | apply And.intro)
    · repeat' ((conv => whnf); first | refine Rng.g ?_ | (refine Br.mk (fun h => ?_) (fun h => ?_) <;> first | (exfalso; omega; done) | (exfalso; simp at h; done) | skip))
      refine Back.mk (l.length - (i + 1)) _ (by omega) ⟨i + 1, by omega, rfl, fun a b ha hb' => ?_, rfl⟩ ?_
      · rcases Nat.lt_succ_iff_lt_or_eq.1 ha with h' | rfl
        · exact hj a b h' hb'
        · exact hb b (by omega)
      · refine ⟨[], rfl, rfl, ?_, ?_⟩ <;> repeat' (first | exact trivial | exact rfl | apply And.intro)
  · repeat' ((conv => whnf); first | (refine Br.mk (fun h => ?_) (fun h => ?_) <;> first | (exfalso; omega; done) | (exfalso; simp at h; done) | skip))
    repeat refine Mm.mk ?_
    conv => whnf
    refine EndVC.mk _ rfl _ _ (⟨0, rfl, rfl, ⟨fun _ => ⟨by omega, he, fun a b ha hb => hj a b (by omega) hb⟩, fun _ => rfl⟩⟩) ?_
    refine ⟨[], rfl, rfl, ?_, ?_⟩ <;> repeat' (first | exact trivial | exact rfl | apply And.intro)
end Go.Sx

namespace Go.Sx
open Go Go.Proofs Go.Shelf Go.RowKit
set_option maxRecDepth 10000
set_option maxHeartbeats 1000000
def trimRen : Ren := ⟨fun | 160 => 112 | 232 => 134 | 231 => 133 | 227 => 135 | 234 => 137 | 233 => 136 | 236 => 139 | 235 => 138 | 228 => 148 | 271 => 151 | 151 => 150 | 197 => 149 | 120 => 155 | 152 => 154 | 260 => 153 | 137 => 156 | 119 => 157 | 224 => 158 | 225 => 159 | 217 => 160 | 266 => 161 | n => n, fun | 9 => 9 | 4 => 4 | 3 => 3 | 5 => 5 | 117 => 220 | 116 => 219 | 0 => 0 | 124 => 223 | 21 => 21 | 105 => 233 | 46 => 178 | 119 => 239 | 139 => 242 | 138 => 241 | n => n, fun | 3 => 1 | 4 => 2 | n => n⟩
theorem trimLays : Lays.n160 Tryz.prog trimRen where
  mixed := by kernel_rfl
  f119 := Tryz.func157.trans (congrArg some (by kernel_rfl))
  f120 := Tryz.func155.trans (congrArg some (by kernel_rfl))
  f137 := Tryz.func156.trans (congrArg some (by kernel_rfl))
  f151 := Tryz.func150.trans (congrArg some (by kernel_rfl))
  f152 := Tryz.func154.trans (congrArg some (by kernel_rfl))
  f160 := Tryz.func112.trans (congrArg some (by kernel_rfl))
  f197 := Tryz.func149.trans (congrArg some (by kernel_rfl))
  f217 := Tryz.func160.trans (congrArg some (by kernel_rfl))
  f224 := Tryz.func158.trans (congrArg some (by kernel_rfl))
  f225 := Tryz.func159.trans (congrArg some (by kernel_rfl))
  f227 := Tryz.func135.trans (congrArg some (by kernel_rfl))
  f228 := Tryz.func148.trans (congrArg some (by kernel_rfl))
  f231 := Tryz.func133.trans (congrArg some (by kernel_rfl))
  f232 := Tryz.func134.trans (congrArg some (by kernel_rfl))
  f233 := Tryz.func136.trans (congrArg some (by kernel_rfl))
  f234 := Tryz.func137.trans (congrArg some (by kernel_rfl))
  f235 := Tryz.func138.trans (congrArg some (by kernel_rfl))
  f236 := Tryz.func139.trans (congrArg some (by kernel_rfl))
  f260 := Tryz.func153.trans (congrArg some (by kernel_rfl))
  f266 := Tryz.func161.trans (congrArg some (by kernel_rfl))
  f271 := Tryz.func151.trans (congrArg some (by kernel_rfl))
  t0 := Tryz.underlying0
  a0 := Tryz.isAgg0
  z0 := Tryz.sizeOf0
  v0 := Tryz.zeroValue0
  t3 := Tryz.underlying3
  a3 := Tryz.isAgg3
  z3 := Tryz.sizeOf3
  v3 := Tryz.zeroValue3
  t4 := Tryz.underlying4
  a4 := Tryz.isAgg4
  z4 := Tryz.sizeOf4
  v4 := Tryz.zeroValue4
  t5 := Tryz.underlying5
  a5 := Tryz.isAgg5
  z5 := Tryz.sizeOf5
  v5 := Tryz.zeroValue5
  t9 := Tryz.underlying9
  a9 := Tryz.isAgg9
  z9 := Tryz.sizeOf9
  v9 := Tryz.zeroValue9
  t21 := Tryz.underlying21
  a21 := Tryz.isAgg21
  z21 := Tryz.sizeOf21
  v21 := Tryz.zeroValue21
  t46 := Tryz.underlying178
  a46 := Tryz.isAgg178
  z46 := Tryz.sizeOf178
  v46 := Tryz.zeroValue178
  t105 := Tryz.underlying233
  a105 := Tryz.isAgg233
  z105 := Tryz.sizeOf233
  v105 := Tryz.zeroValue233
  t116 := Tryz.underlying219
  a116 := Tryz.isAgg219
  z116 := Tryz.sizeOf219
  t117 := Tryz.underlying220
  a117 := Tryz.isAgg220
  z117 := Tryz.sizeOf220
  v117 := Tryz.zeroValue220
  t119 := Tryz.underlying239
  a119 := Tryz.isAgg239
  z119 := Tryz.sizeOf239
  t124 := Tryz.underlying223
  a124 := Tryz.isAgg223
  z124 := Tryz.sizeOf223
  v124 := Tryz.zeroValue223
  t138 := Tryz.underlying241
  a138 := Tryz.isAgg241
  z138 := Tryz.sizeOf241
  v138 := Tryz.zeroValue241
  t139 := Tryz.underlying242
  a139 := Tryz.isAgg242
  z139 := Tryz.sizeOf242
  v139 := Tryz.zeroValue242
  g3 := by kernel_rfl
  g4 := by kernel_rfl
theorem e112 : EntersF Tryz.prog 112 := enters_of Tryz.func112 (c := bodyOf Tryz.f112) (by kernel_rfl) rfl
theorem fr_below {w w' : World} {R : Rp} (h : MemOK w R []) (hb : Below w.heap.size w w') : Fr w R [] w' R [] :=
  ⟨hb.os, hb.tape, hb.output, hb.size, fun b hlt _ => hb.block b hlt, ⟨h.n, fun id b h => by simp at h, fun i j g h => by obtain ⟨b, h⟩ := h; simp at h, fun i g h => by obtain ⟨b, h⟩ := h; simp at h, fun b hI => Nat.lt_of_lt_of_le (h.lt b hI) hb.size, h.cell⟩, Nat.zero_le _, fun id h => absurd h (Nat.not_lt_zero id), fun b => Iff.rfl, fun b h => .inl h, fun i g h => (by obtain ⟨b, h⟩ := h; simp at h), fun id h => absurd h (Nat.not_lt_zero id)⟩
theorem rep2 {w : World} {R : Rp} {a b : XV} {vs : Array Value} (h : RepXs w R [a, b] vs) : ∃ v u, vs = #[v, u] ∧ RepX w R a v ∧ RepX w R b u := by
  have h1 : vs.size = 2 := h.1
  have h2 := h.2 0 a rfl
  have h3 := h.2 1 b rfl
  obtain ⟨l⟩ := vs
  match l, h1 with
  | [v, u], _ => exact ⟨v, u, rfl, h2, h3⟩
theorem trimR_all (cs : List UInt8) (l : List UInt8) (h : ∀ b ∈ l, cs.contains b = true) : Lib.trimS l cs = [] := by
  have e : Lib.trimRightS l cs = [] := by
    unfold Lib.trimRightS
    have : ∀ m : List UInt8, (∀ b ∈ m, cs.contains b = true) → m.dropWhile (cs.contains ·) = [] := by
      intro m
      induction m with
      | nil => intro _; rfl
      | cons b m ih =>
        intro hm
        rw [List.dropWhile_cons, if_pos (hm b (by simp))]
        exact ih fun c hc => hm c (List.mem_cons_of_mem _ hc)
    first
      | (rw [this _ (fun b hb => h b (by simpa using hb))]; rfl)
      | (simp [this _ (fun b hb => h b (by simpa using hb))])
  unfold Lib.trimS
  rw [e]
  rfl
@[reducible] def cutS : ByteArray := ⟨#[97, 98, 99, 100, 101, 102, 103, 104, 105, 106, 107, 108, 109, 110, 111, 112, 113, 114, 115, 116, 117, 118, 119, 120, 121, 122, 48, 49, 50, 51, 52, 53, 54, 55, 56, 57]⟩
theorem cut_has (b : UInt8) (h : okC (b.toNat : Int)) : cutS.data.toList.contains b = true := by
  have key : ∀ n : Fin 256, (97 ≤ n.val ∧ n.val ≤ 122) ∨ (48 ≤ n.val ∧ n.val ≤ 57) → cutS.data.toList.contains (UInt8.ofNat n.val) = true := by decide +kernel
  have hb : b.toNat < 256 := b.toNat_lt
  have := key ⟨b.toNat, hb⟩ (by unfold okC at h; simp only; omega)
  simpa using this
theorem s341 (s : ByteArray) (h : nameOK s) : PSpec Tryz.prog 112 [.one (.str s), .one (.str cutS)] (.x (.one (.str ⟨#[]⟩))) := by
  intro w R vs hargs hmem
  obtain ⟨v, u, rfl, hv, hu⟩ := rep2 hargs
  have hv' : v = .string s := hv
  have hu' : u = .string cutS := hu
  subst hv' hu'
  have hc := Any.strings_Trim_laid trimLays (by kernel_rfl) s cutS w (by have := h.2.1; omega) (by decide) (ascii_of_all (by decide))
  have e : Lib.trimS s.data.toList cutS.data.toList = [] := by
    refine trimR_all _ _ fun b hb => cut_has b ?_
    obtain ⟨j, hj, rfl⟩ := List.getElem_of_mem hb
    have hj' : j < s.size := by simpa using hj
    have := h.2.2 j hj'
    unfold chr at this
    rwa [List.getD_eq_getElem?_getD, List.getElem?_eq_getElem hj] at this
  rw [e] at hc
  refine .inl ⟨e112 _ _, hc.mono fun e w' h => ?_⟩
  obtain ⟨rfl, hb⟩ := h
  exact ⟨_, _, _, R, rfl, ⟨rfl, rfl⟩, fr_below hmem hb, rfl⟩
theorem s325 (s : ByteArray) (hN : nameOK s) : PSpec Tryz.prog 89 [.one (.str s)] (xP True) := by
  have h1 := hN.1
  have h2 := hN.2.1
  have h0 : s ≠ ⟨#[]⟩ := fun e => by rw [e] at h1; exact absurd h1 (by decide)
  refine spec_of pMix (O := []) Tryz.func89 (c := bodyOf Tryz.f89) rfl (by kernel_rfl) (by kernel_rfl) Tryz.ntmps89 (res := [.tmp 2]) (by kernel_rfl) ?_
  repeat' ((conv => whnf); first | refine CallVC.pure rfl (s341 s hN) ?_ | (refine Br.mk (fun h => ?_) (fun h => ?_) <;> first | (exfalso; omega; done) | (exfalso; simp at h; done) | (exfalso; simp [h0] at h; done) | skip))
  repeat refine Mm.mk ?_
  refine EndVC.mk _ rfl _ _ ⟨rfl, rfl⟩ ?_
  refine ⟨[], rfl, rfl, ?_, ?_⟩ <;> repeat' (first | exact trivial | apply And.intro)
  show _ ↔ _
  simp
theorem s275 (t : Tak) (hN : t.ok) : PSpec Tryz.prog 70 [t.x] (.x (I 0)) := by
  have ll := smpA_len t.d
  have he : smpE t.d = 0 := smpE_0.2 ⟨hN.2.2.1, hN.2.2.2⟩
  have h1 := hN.2.1
  have c1 := s103 t.d
  rw [he] at c1
  refine spec_of pMix (O := []) Tryz.func70 (c := bodyOf Tryz.f70) rfl (by kernel_rfl) (by kernel_rfl) Tryz.ntmps70 (res := [.tmp 2]) (by kernel_rfl) ?_
  repeat' ((conv => whnf); first | refine JoinVC.on ?_ | refine CallVC.pure rfl (c1) ?_ | refine CallVC.pure rfl (s325 t.nm hN.1) ?_ | (refine Br.mk (fun h => ?_) (fun h => ?_) <;> first | (exfalso; omega; done) | (exfalso; simp at h; done) | skip))
  all_goals
    repeat refine Mm.mk ?_
    refine EndVC.mk _ rfl _ _ ⟨rfl, rfl⟩ ?_
    refine ⟨[], rfl, rfl, ?_, ?_⟩ <;> repeat' (first | exact trivial | exact rfl | apply And.intro)
end Go.Sx

namespace Go.Sx
open Go Go.Proofs
set_option maxRecDepth 10000
set_option maxHeartbeats 2000000
/-! ### Parts -/
structure Prt where
  tk : Int
  fr : Int
  to : Int
  gap : Int
  inn : Int
  out : Int
  lev : Int
abbrev p0 : Prt := ⟨0, 0, 0, 0, 0, 0, 0⟩
def Prt.row (p : Prt) : List Cell := [.int p.tk, .int p.fr, .int p.to, .int p.gap, .int p.inn, .int p.out, .int p.lev]
def prtA (l : List Prt) : Arr := l.map Prt.row
theorem prtA_len (l : List Prt) : (prtA l).length = l.length := by simp [prtA]
theorem prtA_0 (l : List Prt) (i : Nat) : rI (prtA l) i 0 = (l.getD i p0).tk := map_rI _ p0 l i 0 rfl
theorem prtA_1 (l : List Prt) (i : Nat) : rI (prtA l) i (0 + 1) = (l.getD i p0).fr := map_rI _ p0 l i 1 rfl
theorem prtA_2 (l : List Prt) (i : Nat) : rI (prtA l) i (0 + 1 + 1) = (l.getD i p0).to := map_rI _ p0 l i 2 rfl
theorem prtA_3 (l : List Prt) (i : Nat) : rI (prtA l) i (0 + 1 + 1 + 1) = (l.getD i p0).gap := map_rI _ p0 l i 3 rfl
theorem prtA_4 (l : List Prt) (i : Nat) : rI (prtA l) i (0 + 1 + 1 + 1 + 1) = (l.getD i p0).inn := map_rI _ p0 l i 4 rfl
theorem prtA_5 (l : List Prt) (i : Nat) : rI (prtA l) i (0 + 1 + 1 + 1 + 1 + 1) = (l.getD i p0).out := map_rI _ p0 l i 5 rfl
theorem prtA_6 (l : List Prt) (i : Nat) : rI (prtA l) i (0 + 1 + 1 + 1 + 1 + 1 + 1) = (l.getD i p0).lev := map_rI _ p0 l i 6 rfl
@[reducible] def K7i : List CK := [.int .i64, .int .i64, .int .i64, .int .i64, .int .i64, .int .i64, .int .i64]
@[reducible] def lP (l : List Prt) : XV := .one (.lst true K7i (prtA l))
@[reducible] def Prt.x (p : Prt) : XV := .agg [.int .i64 p.tk, .int .i64 p.fr, .int .i64 p.to, .int .i64 p.gap, .int .i64 p.inn, .int .i64 p.out, .int .i64 p.lev]
/-- A part as an element of a list. -/
@[reducible] def prtX (l : List Prt) (i : Nat) : XV := .agg [.int .i64 (rI (prtA l) i 0), .int .i64 (rI (prtA l) i (0 + 1)), .int .i64 (rI (prtA l) i (0 + 1 + 1)), .int .i64 (rI (prtA l) i (0 + 1 + 1 + 1)), .int .i64 (rI (prtA l) i (0 + 1 + 1 + 1 + 1)), .int .i64 (rI (prtA l) i (0 + 1 + 1 + 1 + 1 + 1)), .int .i64 (rI (prtA l) i (0 + 1 + 1 + 1 + 1 + 1 + 1))]
theorem prtX_eq (l : List Prt) (i : Nat) : prtX l i = (l.getD i p0).x := by
  unfold prtX Prt.x
  rw [prtA_0, prtA_1, prtA_2, prtA_3, prtA_4, prtA_5, prtA_6]
def Prt.long (p : Prt) : Int := p.to - p.fr
def partOK (T : List Tak) (p : Prt) : Prop := 0 ≤ p.tk ∧ p.tk < T.length ∧ 0 ≤ p.fr ∧ p.fr < p.to ∧ p.to ≤ (T.getD p.tk.toNat t0).d.length ∧ -4096 ≤ p.gap ∧ p.gap ≤ 4096 ∧ 0 ≤ p.inn ∧ p.inn ≤ 1000 ∧ 0 ≤ p.out ∧ p.out ≤ 1000 ∧ 0 ≤ p.lev ∧ p.lev ≤ 4000
instance (T : List Tak) (p : Prt) : Decidable (partOK T p) := by unfold partOK; exact inferInstance
theorem s118 (T : List Tak) (p : Prt) : PSpec Tryz.prog 27 [lT T, p.x] (xP (partOK T p)) := by
  have ll := takA_len T
  have gl : (rA (takA T) p.tk.toNat (0 + (0 + 1))).length = (T.getD p.tk.toNat t0).d.length := (congrArg List.length (takA_d T _)).trans (smpA_len _)
  refine spec_of pMix (O := []) Tryz.func27 (c := bodyOf Tryz.f27) rfl (by kernel_rfl) (by kernel_rfl) Tryz.ntmps27 (res := [.tmp 4]) (by kernel_rfl) ?_
  repeat' ((conv => whnf); first | refine Ob.g ?_ | (refine Br.mk (fun h => ?_) (fun h => ?_) <;> first | (exfalso; omega; done) | (exfalso; simp at h; done) | skip))
  all_goals
    repeat refine Mm.mk ?_
    refine EndVC.mk _ rfl _ _ ⟨rfl, rfl⟩ ?_
    refine ⟨[], rfl, rfl, ?_, ?_⟩ <;> repeat' (first | exact trivial | apply And.intro)
    first
      | (show ¬ _; unfold partOK; omega)
      | (show _ ↔ _; unfold partOK; omega)
/-- The bounds of a part that is right. -/
structure PB (p : Prt) : Prop where
  fr : 0 ≤ p.fr ∧ p.fr < p.to
  to : p.to ≤ 4096
  gap : -4096 ≤ p.gap ∧ p.gap ≤ 4096
theorem s210 (p : Prt) (h : PB p) : PSpec Tryz.prog 51 [p.x] (.x (I p.long)) := by
  have h1 := h.fr
  have h2 := h.to
  refine spec_of pMix (O := []) Tryz.func51 (c := bodyOf Tryz.f51) rfl (by kernel_rfl) (by kernel_rfl) Tryz.ntmps51 (res := [.tmp 2]) (by kernel_rfl) ?_
  repeat' ((conv => whnf); first | refine Rng.g ?_ | fail)
  repeat refine Mm.mk ?_
  refine EndVC.mk _ rfl _ _ ⟨rfl, rfl⟩ ?_
  refine ⟨[], rfl, rfl, ?_, ?_⟩ <;> repeat' (first | exact trivial | exact rfl | apply And.intro)
/-- The end of some parts. -/
def endP : List Prt → Int := fun l => l.foldl (fun e p => e + p.gap + p.long) 0
theorem endP_snoc (l : List Prt) (p : Prt) : endP (l ++ [p]) = endP l + p.gap + p.long := by unfold endP; rw [List.foldl_append]; rfl
def begP (l : List Prt) (i : Nat) : Int := endP (l.take i) + (l.getD i p0).gap
theorem endP_succ (l : List Prt) {i : Nat} (h : i < l.length) : endP (l.take (i + 1)) = begP l i + (l.getD i p0).long := by
  rw [take_snoc l i p0 h, endP_snoc]; rfl
def PBs (l : List Prt) : Prop := l.length ≤ 32 ∧ ∀ j, j < l.length → PB (l.getD j p0)
theorem endP_bd {l : List Prt} (h : PBs l) : ∀ i, i ≤ l.length → -8192 * (i : Int) ≤ endP (l.take i) ∧ endP (l.take i) ≤ 8192 * i
  | 0, _ => by simp [endP]
  | i + 1, hi => by
    have ih := endP_bd h i (by omega)
    have hb := h.2 i (by omega)
    obtain ⟨h1, h2, h3⟩ := hb
    rw [endP_succ l (by omega)]
    unfold begP Prt.long
    omega
def begs (l : List Prt) (n : Nat) : List Int := (List.range n).map (begP l)
theorem begs_len (l : List Prt) (n : Nat) : (begs l n).length = n := by simp [begs]
theorem begs_snoc (l : List Prt) (n : Nat) : begs l (n + 1) = begs l n ++ [begP l n] := by simp [begs, List.range_succ]
theorem begs_get (l : List Prt) (n i : Nat) (h : i < n) : (begs l n).getD i 0 = begP l i := by
  simp [begs, List.getD_eq_getElem?_getD, List.getElem?_range h]
theorem eb3 : Tryz.t3.bytes = 8 := by kernel_rfl
@[reducible] def rowN (l : List Int) : Blk := .row 3 false [.int .i64] (i64s l)
theorem s120 (l : List Prt) (h : PBs l) : HSpec Tryz.prog 29 [lP l] [] (fun r m' => r = .tup [.one (.own 0), I (endP l)] ∧ m' = [some (rowN (begs l l.length))]) := by
  have ll := prtA_len l
  have h32 := h.1
  refine spec_of pMix (O := [(7, ([], [⟨0, [], []⟩, ⟨1, [], []⟩, ⟨2, [], []⟩, ⟨3, [], []⟩, ⟨4, [], []⟩, ⟨5, [], []⟩, ⟨6, [], []⟩, ⟨7, [], []⟩, ⟨8, [0, 1, 2, 3], []⟩, ⟨9, [], []⟩, ⟨10, [], []⟩]))]) Tryz.func29 (c := bodyOf Tryz.f29) rfl (by kernel_rfl) (by kernel_rfl) Tryz.ntmps29 (res := [.tmp 2, .tmp 3]) (by kernel_rfl) ?_
  repeat' ((conv => whnf); first | refine Rng.g ?_ | fail)
  refine LoopVC.mk (fun n st => ∃ (i : Nat), i ≤ l.length ∧ n = l.length - i ∧ st = ⟨0, envA 35 [(0, .x (lP l)), (4, .x (.one (.own 0))), (5, .int .i64 (endP (l.take i))), (6, .int .i64 (i : Int))], [some (rowN (begs l i))]⟩) _ _ ⟨0, Nat.zero_le _, rfl, rfl⟩ ?_ ?_
  · refine ⟨[none], rfl, rfl, ?_, ?_⟩ <;> repeat' (first | exact trivial | exact rfl | apply And.intro)
  rintro n _ ⟨i, hi, hn, rfl⟩
  have gg : rI (prtA l) (i : Int).toNat (0 + (0 + 1 + 1 + 1)) = (l.getD i p0).gap := prtA_3 l i
  have hb := endP_bd h i hi
  have lb : (i64s (begs l i)).length = i := by rw [i64s_len, begs_len]
  by_cases hi' : i < l.length
  · have hp := h.2 i hi'
    have c1 := s210 (l.getD i p0) hp
    rw [← prtX_eq] at c1
    obtain ⟨h1, h2, h3⟩ := hp
    have hx : rI (i64s (begs l (i + 1))) (i : Int).toNat 0 = begP l i := by rw [Int.toNat_natCast, i64s_get, begs_get _ _ _ (Nat.lt_succ_self i)]
    have he := endP_succ l hi'
    have hs : endP (l.take i) + rI (prtA l) (i : Int).toNat (0 + (0 + 1 + 1 + 1)) = begP l i := by rw [gg]; rfl
    have hrow : i64s (begs l i) ++ [[.int (endP (l.take i) + rI (prtA l) (i : Int).toNat (0 + (0 + 1 + 1 + 1)))]] = i64s (begs l (i + 1)) := by rw [hs, begs_snoc, i64s_snoc]
    have hbb : -300000 ≤ begP l i ∧ begP l i ≤ 300000 := by unfold begP; omega
    have hlg : 0 ≤ (l.getD i p0).long ∧ (l.getD i p0).long ≤ 4096 := by unfold Prt.long; omega
    repeat' ((conv => whnf); first | refine Rng.g ?_ | refine Ob.g ?_ | (refine Br.mk (fun h => ?_) (fun h => ?_) <;> first | (exfalso; omega; done) | (exfalso; simp at h; done) | skip))
    repeat refine Mm.mk ?_
    refine Ob.mk (by simp only [lb, eb3, List.length_cons, List.length_nil]; omega) ?_
    have lb2 : (i64s (begs l (i + 1))).length = i + 1 := by rw [i64s_len, begs_len]
    repeat' ((conv => whnf); first | rw [hrow] | rw [hx] | refine Rng.g ?_ | refine Ob.g ?_ | refine CallVC0.pure rfl (c1) ?_)
    refine Back.mk (l.length - (i + 1)) _ (by omega) ⟨i + 1, by omega, rfl, rfl⟩ ?_
    refine ⟨[some 2], rfl, rfl, ?_, ?_⟩ <;> repeat' (first | exact trivial | exact rfl | apply And.intro)
    exact he.symm
  · have e1 : l.take i = l := List.take_of_length_le (by omega)
    have e2 : i = l.length := by omega
    rw [e1]
    subst e2
    repeat' ((conv => whnf); first | (refine Br.mk (fun h => ?_) (fun h => ?_) <;> first | (exfalso; omega; done) | (exfalso; simp at h; done) | skip))
    repeat refine Mm.mk ?_
    refine EndVC.mk _ rfl _ _ ⟨rfl, rfl⟩ ?_
    refine ⟨[some 0], rfl, rfl, ?_, ?_⟩ <;> repeat' (first | exact trivial | exact rfl | apply And.intro)
/-! ### Possible programmes -/
structure Poss (l : List Prt) : Prop where
  first : 0 < l.length → 0 ≤ begP l 0
  gap : ∀ i, 0 < i → i < l.length → -(l.getD i p0).long ≤ (l.getD i p0).gap ∧ -(l.getD (i - 1) p0).long ≤ (l.getD i p0).gap
  free : ∀ i, 1 < i → i < l.length → begP l (i - 2) + (l.getD (i - 2) p0).long ≤ begP l i
  stop : endP l ≤ 4096
open Classical in
theorem s119 (l : List Prt) (h : PBs l) : PSpec Tryz.prog 28 [lP l] (xP (Poss l)) := by
  have ll := prtA_len l
  have h32 := h.1
  have lb : (i64s (begs l l.length)).length = l.length := by rw [i64s_len, begs_len]
  refine spec_of pMix (O := [(5, ([], [⟨0, [], []⟩, ⟨1, [], []⟩, ⟨2, [], []⟩, ⟨3, [], []⟩, ⟨4, [], []⟩, ⟨5, [], []⟩, ⟨6, [], []⟩, ⟨7, [], []⟩, ⟨8, [], []⟩, ⟨9, [], []⟩, ⟨10, [], []⟩, ⟨11, [], []⟩, ⟨12, [], []⟩, ⟨13, [], []⟩, ⟨14, [], []⟩, ⟨15, [], []⟩, ⟨16, [], []⟩, ⟨17, [], []⟩, ⟨18, [], []⟩, ⟨19, [], []⟩, ⟨20, [], []⟩, ⟨21, [], []⟩, ⟨22, [13, 14, 15, 16, 17], []⟩, ⟨23, [], []⟩, ⟨24, [], []⟩, ⟨25, [], []⟩, ⟨26, [], []⟩, ⟨27, [], []⟩, ⟨28, [], []⟩, ⟨29, [], []⟩, ⟨30, [], []⟩, ⟨31, [], []⟩, ⟨32, [], []⟩, ⟨33, [], []⟩, ⟨34, [], []⟩, ⟨35, [], []⟩, ⟨36, [26, 27, 28, 29, 30], []⟩, ⟨37, [], []⟩, ⟨38, [], []⟩, ⟨39, [], []⟩, ⟨40, [], []⟩, ⟨41, [], []⟩, ⟨42, [], []⟩, ⟨43, [], []⟩, ⟨44, [], []⟩, ⟨45, [], []⟩, ⟨46, [], []⟩, ⟨47, [], []⟩, ⟨48, [], []⟩, ⟨49, [], []⟩, ⟨50, [], []⟩, ⟨51, [], []⟩, ⟨52, [], []⟩, ⟨53, [], []⟩, ⟨54, [], []⟩, ⟨55, [], []⟩, ⟨56, [], []⟩, ⟨57, [], []⟩, ⟨58, [], []⟩, ⟨59, [], []⟩, ⟨60, [46, 47, 48, 49, 50, 51, 52, 53, 54], []⟩, ⟨61, [], []⟩, ⟨62, [], []⟩, ⟨63, [], []⟩, ⟨64, [], []⟩]))]) Tryz.func28 (c := bodyOf Tryz.f28) rfl (by kernel_rfl) (by kernel_rfl) Tryz.ntmps28 (res := [.tmp 2]) (by kernel_rfl) ?_
  repeat' ((conv => whnf); first | refine Rng.g ?_ | fail)
  conv => whnf
  refine CallVC.mk [] _ _ _ rfl rfl rfl (s120 l h) (fun r m' h' => ?_)
  obtain ⟨rfl, rfl⟩ := h'
  conv => whnf
  repeat' ((conv => whnf); first | refine Rng.g ?_ | fail)
  refine LoopVC.mk (fun n st => ∃ (i : Nat), i ≤ l.length ∧ n = l.length - i ∧ (∀ j, j < i → (j = 0 → 0 ≤ begP l 0) ∧ (0 < j → -(l.getD j p0).long ≤ (l.getD j p0).gap ∧ -(l.getD (j - 1) p0).long ≤ (l.getD j p0).gap) ∧ (1 < j → begP l (j - 2) + (l.getD (j - 2) p0).long ≤ begP l j)) ∧ st = ⟨0, envA 84 [(0, .x (lP l)), (3, .x (.one (.own 0))), (4, .int .i64 (endP l)), (5, .int .i64 (i : Int))], [some (rowN (begs l l.length))]⟩) _ _ ⟨0, Nat.zero_le _, rfl, fun j hj => absurd hj (Nat.not_lt_zero j), rfl⟩ ?_ ?_
  · refine ⟨[some 0], rfl, rfl, ?_, ?_⟩ <;> repeat' (first | exact trivial | exact rfl | apply And.intro)
  rintro n _ ⟨i, hi, hn, hj, rfl⟩
  by_cases hi' : i < l.length
  · have hb : ∀ k, k < l.length → -300000 ≤ begP l k ∧ begP l k ≤ 300000 ∧ 0 < (l.getD k p0).long ∧ (l.getD k p0).long ≤ 4096 := fun k hk => by
      have h1 := endP_bd h k (by omega)
      have h2 := h.2 k hk
      obtain ⟨h3, h4, h5⟩ := h2
      unfold begP Prt.long
      omega
    have gg : rI (prtA l) (i : Int).toNat (0 + (0 + 1 + 1 + 1)) = (l.getD i p0).gap := prtA_3 l i
    have gb : rI (i64s (begs l l.length)) (i : Int).toNat 0 = begP l i := by rw [Int.toNat_natCast, i64s_get, begs_get _ _ _ hi']
    have hp := h.2 i hi'
    have c1 := s210 (l.getD i p0) hp
    rw [← prtX_eq] at c1
    have hbi := hb i hi'
    have hgi := hp.gap
    have fin : (i = 0 → 0 ≤ begP l 0) → (0 < i → -(l.getD i p0).long ≤ (l.getD i p0).gap ∧ -(l.getD (i - 1) p0).long ≤ (l.getD i p0).gap) → (1 < i → begP l (i - 2) + (l.getD (i - 2) p0).long ≤ begP l i) → ∀ j, j < i + 1 → (j = 0 → 0 ≤ begP l 0) ∧ (0 < j → -(l.getD j p0).long ≤ (l.getD j p0).gap ∧ -(l.getD (j - 1) p0).long ≤ (l.getD j p0).gap) ∧ (1 < j → begP l (j - 2) + (l.getD (j - 2) p0).long ≤ begP l j) := fun f1 f2 f3 j hj' => by
      rcases Nat.lt_succ_iff_lt_or_eq.1 hj' with h' | rfl
      · exact hj j h'
      · exact ⟨f1, f2, f3⟩
    by_cases hz : i = 0
    · have hbz : begP l i = begP l 0 := by rw [hz]
      repeat' ((conv => whnf); first | refine Rng.g ?_ | refine Ob.g ?_ | (refine Br.mk (fun h => ?_) (fun h => ?_) <;> first | (exfalso; omega; done) | (exfalso; simp at h; done) | skip))
      any_goals
        refine Back.mk (l.length - (i + 1)) _ (by omega) ⟨i + 1, by omega, rfl, fin (fun _ => by omega) (fun h => by omega) (fun h => by omega), rfl⟩ ?_
        refine ⟨[some 0], rfl, rfl, ?_, ?_⟩ <;> repeat' (first | exact trivial | exact rfl | apply And.intro)
      all_goals
        repeat refine Mm.mk ?_
        refine EndVC.mk _ rfl _ _ ⟨rfl, rfl⟩ ?_
        refine ⟨[], rfl, rfl, ?_, ?_⟩ <;> repeat' (first | exact trivial | apply And.intro)
        exact fun hP => (by have := hP.first (by omega); omega)
    have e1 : ((i : Int) - 1).toNat = i - 1 := by omega
    have c2 : PSpec Tryz.prog 51 [prtX l ((i : Int) - 1).toNat] (.x (I (l.getD (i - 1) p0).long)) := by rw [e1, prtX_eq]; exact s210 _ (h.2 _ (by omega))
    have hb1 := hb (i - 1) (by omega)
    by_cases h1 : i = 1
    · repeat' ((conv => whnf); first | refine Rng.g ?_ | refine Ob.g ?_ | refine CallVC0.pure rfl (c1) ?_ | refine CallVC0.pure rfl (c2) ?_ | (refine Br.mk (fun h => ?_) (fun h => ?_) <;> first | (exfalso; omega; done) | (exfalso; simp at h; done) | skip))
      any_goals
        refine Back.mk (l.length - (i + 1)) _ (by omega) ⟨i + 1, by omega, rfl, fin (fun h => by omega) (fun _ => ⟨by omega, by omega⟩) (fun h => by omega), rfl⟩ ?_
        refine ⟨[some 0], rfl, rfl, ?_, ?_⟩ <;> repeat' (first | exact trivial | exact rfl | apply And.intro)
      all_goals
        repeat refine Mm.mk ?_
        refine EndVC.mk _ rfl _ _ ⟨rfl, rfl⟩ ?_
        refine ⟨[], rfl, rfl, ?_, ?_⟩ <;> repeat' (first | exact trivial | apply And.intro)
        exact fun hP => (by have := hP.gap i (by omega) hi'; omega)
    have e2 : ((i : Int) - 2).toNat = i - 2 := by omega
    have c3 : PSpec Tryz.prog 51 [prtX l ((i : Int) - 2).toNat] (.x (I (l.getD (i - 2) p0).long)) := by rw [e2, prtX_eq]; exact s210 _ (h.2 _ (by omega))
    have hb2 := hb (i - 2) (by omega)
    have gb2 : rI (i64s (begs l l.length)) ((i : Int) - 2).toNat 0 = begP l (i - 2) := by rw [e2, i64s_get, begs_get _ _ _ (by omega)]
    repeat' ((conv => whnf); first | refine Rng.g ?_ | refine Ob.g ?_ | refine CallVC0.pure rfl (c1) ?_ | refine CallVC0.pure rfl (c2) ?_ | refine CallVC0.pure rfl (c3) ?_ | (refine Br.mk (fun h => ?_) (fun h => ?_) <;> first | (exfalso; omega; done) | (exfalso; simp at h; done) | skip))
    any_goals
      refine Back.mk (l.length - (i + 1)) _ (by omega) ⟨i + 1, by omega, rfl, fin (fun h => by omega) (fun _ => ⟨by omega, by omega⟩) (fun _ => by omega), rfl⟩ ?_
      refine ⟨[some 0], rfl, rfl, ?_, ?_⟩ <;> repeat' (first | exact trivial | exact rfl | apply And.intro)
    all_goals
      repeat refine Mm.mk ?_
      refine EndVC.mk _ rfl _ _ ⟨rfl, rfl⟩ ?_
      refine ⟨[], rfl, rfl, ?_, ?_⟩ <;> repeat' (first | exact trivial | apply And.intro)
      exact fun hP => (by have g1 := hP.gap i (by omega) hi'; have g2 := hP.free i (by omega) hi'; omega)
  · repeat' ((conv => whnf); first | (refine Br.mk (fun h => ?_) (fun h => ?_) <;> first | (exfalso; omega; done) | (exfalso; simp at h; done) | skip))
    repeat refine Mm.mk ?_
    refine EndVC.mk _ rfl _ _ ⟨rfl, rfl⟩ ?_
    refine ⟨[], rfl, rfl, ?_, ?_⟩ <;> repeat' (first | exact trivial | apply And.intro)
    have hj' := fun j (hj' : j < l.length) => hj j (by omega)
    show _ ↔ _
    exact ⟨fun h4 => ⟨fun h0 => (hj' 0 h0).1 rfl, fun i h0 hi => (hj' i hi).2.1 h0, fun i h0 hi => (hj' i hi).2.2 h0, h4⟩, fun hP => hP.stop⟩
end Go.Sx

namespace Go.Sx
open Go Go.Proofs
set_option maxRecDepth 10000
set_option maxHeartbeats 2000000
/-- A programme is valid and possible. -/
structure ProgOK (T : List Tak) (l : List Prt) : Prop where
  takes : TaksOK T
  len : l.length ≤ 32
  parts : ∀ j, j < l.length → partOK T (l.getD j p0)
  poss : Poss l
theorem partOK.pb {T : List Tak} {p : Prt} (hT : TaksOK T) (h : partOK T p) : PB p := by
  unfold partOK at h
  have := (hT.each p.tk.toNat (by omega)).2.2.1
  exact ⟨by omega, by omega, by omega⟩
theorem ProgOK.pbs {T : List Tak} {l : List Prt} (h : ProgOK T l) : PBs l := ⟨h.len, fun j hj => (h.parts j hj).pb h.takes⟩
theorem s36 (T : List Tak) (l : List Prt) (hI : TakI T) : HSpec Tryz.prog 12 [lT T, lP l] [] (fun r m' => ∃ e, r = .x (I e) ∧ m' = [] ∧ (e = 0 ↔ ProgOK T l)) := by
  have ll := prtA_len l
  refine spec_of pMix (O := []) Tryz.func12 (c := bodyOf Tryz.f12) rfl (by kernel_rfl) (by kernel_rfl) Tryz.ntmps12 (res := [.tmp 4]) (by kernel_rfl) ?_
  repeat' ((conv => whnf); first | refine Rng.g ?_ | fail)
  conv => whnf
  refine CallVC.mk [] _ _ _ rfl rfl rfl (s117 T hI) (fun r m' h' => ?_)
  obtain ⟨e, rfl, rfl, he⟩ := h'
  conv => whnf
  by_cases h0 : e = 0
  rotate_left
  · repeat' ((conv => whnf); first | (refine Br.mk (fun h => ?_) (fun h => ?_) <;> first | (exfalso; omega; done) | (exfalso; simp at h; done) | skip))
    conv => whnf
    refine CallVC.mk [] _ _ _ rfl rfl rfl (s117 T hI) (fun r m' h' => ?_)
    obtain ⟨e', rfl, rfl, he'⟩ := h'
    conv => whnf
    repeat' ((conv => whnf); first | refine Rng.g ?_ | fail)
    repeat refine Mm.mk ?_
    conv => whnf
    refine EndVC.mk _ rfl _ _ (⟨e', rfl, rfl, ⟨fun h => absurd (he.2 (he'.1 h)) h0, fun h => absurd (he.2 h.takes) h0⟩⟩) ?_
    refine ⟨[], rfl, rfl, ?_, ?_⟩ <;> repeat' (first | exact trivial | exact rfl | apply And.intro)
  have hT := he.1 h0
  by_cases hl : 32 < l.length
  · repeat' ((conv => whnf); first | (refine Br.mk (fun h => ?_) (fun h => ?_) <;> first | (exfalso; omega; done) | (exfalso; simp at h; done) | skip))
    repeat refine Mm.mk ?_
    conv => whnf
    refine EndVC.mk _ rfl _ _ (⟨6, rfl, rfl, ⟨fun h => (by cases h), fun h => (by have := h.len; omega)⟩⟩) ?_
    refine ⟨[], rfl, rfl, ?_, ?_⟩ <;> repeat' (first | exact trivial | exact rfl | apply And.intro)
  repeat' ((conv => whnf); first | (refine Br.mk (fun h => ?_) (fun h => ?_) <;> first | (exfalso; omega; done) | (exfalso; simp at h; done) | skip))
  refine LoopVC.mk (fun n st => ∃ (i : Nat), i ≤ l.length ∧ n = l.length - i ∧ (∀ j, j < i → partOK T (l.getD j p0)) ∧ st = ⟨0, envA 30 [(0, .x (lT T)), (1, .x (lP l)), (5, .int .i64 (i : Int))], []⟩) _ _ ⟨0, Nat.zero_le _, rfl, fun j hj => absurd hj (Nat.not_lt_zero j), rfl⟩ ?_ ?_
  · refine ⟨[], rfl, rfl, ?_, ?_⟩ <;> repeat' (first | exact trivial | exact rfl | apply And.intro)
  rintro n _ ⟨i, hi, hn, hj, rfl⟩
  have c1 : PSpec Tryz.prog 27 [lT T, prtX l i] (xP (partOK T (l.getD i p0))) := by rw [prtX_eq]; exact s118 T _
  by_cases hi' : i < l.length
  · repeat' ((conv => whnf); first | refine Rng.g ?_ | refine Ob.g ?_ | refine CallVC.pure rfl (c1) ?_ | (refine Br.mk (fun h => ?_) (fun h => ?_) <;> first | (exfalso; omega; done) | (exfalso; simp at h; done) | skip))
    · repeat refine Mm.mk ?_
      conv => whnf
      refine EndVC.mk _ rfl _ _ (⟨2, rfl, rfl, ⟨fun h => (by cases h), fun h' => absurd (h'.parts i hi') h⟩⟩) ?_
      refine ⟨[], rfl, rfl, ?_, ?_⟩ <;> repeat' (first | exact trivial | exact rfl | apply And.intro)
    · refine Back.mk (l.length - (i + 1)) _ (by omega) ⟨i + 1, by omega, rfl, fun j hj' => ?_, rfl⟩ ?_
      · rcases Nat.lt_succ_iff_lt_or_eq.1 hj' with h' | rfl
        · exact hj j h'
        · exact Decidable.not_not.1 h
      · refine ⟨[], rfl, rfl, ?_, ?_⟩ <;> repeat' (first | exact trivial | exact rfl | apply And.intro)
  · have hp : ∀ j, j < l.length → partOK T (l.getD j p0) := fun j hj' => hj j (by omega)
    have hb : PBs l := ⟨by omega, fun j hj' => (hp j hj').pb hT⟩
    repeat' ((conv => whnf); first | refine CallVC.pure rfl (s119 l hb) ?_ | (refine Br.mk (fun h => ?_) (fun h => ?_) <;> first | (exfalso; omega; done) | (exfalso; simp at h; done) | skip))
    · repeat refine Mm.mk ?_
      conv => whnf
      refine EndVC.mk _ rfl _ _ (⟨15, rfl, rfl, ⟨fun h => (by cases h), fun h' => absurd h'.poss h⟩⟩) ?_
      refine ⟨[], rfl, rfl, ?_, ?_⟩ <;> repeat' (first | exact trivial | exact rfl | apply And.intro)
    · repeat refine Mm.mk ?_
      conv => whnf
      refine EndVC.mk _ rfl _ _ (⟨0, rfl, rfl, ⟨fun _ => ⟨hT, by omega, hp, Classical.not_not.1 h⟩, fun _ => rfl⟩⟩) ?_
      refine ⟨[], rfl, rfl, ?_, ?_⟩ <;> repeat' (first | exact trivial | exact rfl | apply And.intro)
theorem s37 (T : List Tak) (l : List Prt) (hI : TakI T) (hP : ProgOK T l) : HSpec Tryz.prog 13 [lT T, lP l] [] (fun r m' => r = .tup [.one (.own 0), I (endP l), I 0] ∧ m' = [some (rowN (begs l l.length))]) := by
  refine spec_of pMix (O := []) Tryz.func13 (c := bodyOf Tryz.f13) rfl (by kernel_rfl) (by kernel_rfl) Tryz.ntmps13 (res := [.tmp 4, .tmp 5, .tmp 6]) (by kernel_rfl) ?_
  repeat' ((conv => whnf); first | refine Rng.g ?_ | fail)
  conv => whnf
  refine CallVC.mk [] _ _ _ rfl rfl rfl (s36 T l hI) (fun r m' h' => ?_)
  obtain ⟨e, rfl, rfl, he⟩ := h'
  conv => whnf
  have h0 := he.2 hP
  subst h0
  repeat' ((conv => whnf); first | (refine Br.mk (fun h => ?_) (fun h => ?_) <;> first | (exfalso; omega; done) | (exfalso; simp at h; done) | skip))
  conv => whnf
  refine CallVC.mk [] _ _ _ rfl rfl rfl (s120 l hP.pbs) (fun r m' h' => ?_)
  obtain ⟨rfl, rfl⟩ := h'
  conv => whnf
  repeat' ((conv => whnf); first | refine Rng.g ?_ | fail)
  repeat refine Mm.mk ?_
  refine EndVC.mk _ rfl _ _ ⟨rfl, rfl⟩ ?_
  refine ⟨[some 0], rfl, rfl, ?_, ?_⟩ <;> repeat' (first | exact trivial | exact rfl | apply And.intro)
/-! ### Sounds -/
def upF (p : Prt) (k : Int) : Int := if p.inn < k then p.inn + 1 else k + 1
def dnF (p : Prt) (k : Int) : Int := if p.out < p.long - k - 1 then p.out + 1 else p.long - k
def denF (p : Prt) : Int := 1000 * (p.inn + 1) * (p.out + 1)
/-- The sound of a channel's sample. -/
def loudF (s : Int) (p : Prt) (k lev : Int) : Int := (s * lev * upF p k * dnF p k).tdiv (denF p)
/-- What is asked of a part's numbers. -/
structure PF (p : Prt) (k lev : Int) : Prop where
  pb : PB p
  inn : 0 ≤ p.inn ∧ p.inn ≤ 1000
  out : 0 ≤ p.out ∧ p.out ≤ 1000
  k : 0 ≤ k ∧ k < p.long
  lev : 0 ≤ lev ∧ lev ≤ 4000
theorem PF.up {p : Prt} {k lev : Int} (h : PF p k lev) : 1 ≤ upF p k ∧ upF p k ≤ p.inn + 1 := by
  have := h.inn; have := h.k
  unfold upF; split <;> omega
theorem PF.dn {p : Prt} {k lev : Int} (h : PF p k lev) : 1 ≤ dnF p k ∧ dnF p k ≤ p.out + 1 := by
  have := h.out; have := h.k
  unfold dnF; split <;> omega
theorem PF.den {p : Prt} {k lev : Int} (h : PF p k lev) : 1000 ≤ denF p ∧ denF p ≤ 1002001000 := by
  have h1 := h.inn; have h2 := h.out
  unfold denF
  have h3 := mul_rng (a := p.inn + 1) (b := p.out + 1) (A := 1001) (B := 1001) (by omega) (by omega)
  have h4 : 1 * 1 ≤ (p.inn + 1) * (p.out + 1) := Int.mul_le_mul (by omega) (by omega) (by omega) (by omega)
  rw [Int.mul_assoc]
  omega
theorem PF.steps {p : Prt} {s k lev : Int} (h : PF p k lev) (hs : -32767 ≤ s ∧ s ≤ 32767) : (-131068000 ≤ s * lev ∧ s * lev ≤ 131068000) ∧ (-131199068000 ≤ s * lev * upF p k ∧ s * lev * upF p k ≤ 131199068000) ∧ (-131330267068000 ≤ s * lev * upF p k * dnF p k ∧ s * lev * upF p k * dnF p k ≤ 131330267068000) := by
  have h1 := mul_rng (a := s) (b := lev) (A := 32767) (B := 4000) hs h.lev
  have hu := h.up; have hd := h.dn; have hi := h.inn; have ho := h.out
  have h2 := mul_rng (a := s * lev) (b := upF p k) (A := 131068000) (B := 1001) (by omega) (by omega)
  have h3 := mul_rng (a := s * lev * upF p k) (b := dnF p k) (A := 131199068000) (B := 1001) (by omega) (by omega)
  exact ⟨by omega, by omega, by omega⟩
theorem PF.loud {p : Prt} {s k lev : Int} (h : PF p k lev) (hs : -32767 ≤ s ∧ s ≤ 32767) : -131068 ≤ loudF s p k lev ∧ loudF s p k lev ≤ 131068 := by
  have hd := h.den
  have h1 := mul_rng (a := s) (b := lev) (A := 32767) (B := 4000) hs h.lev
  have hu := h.up; have hn := h.dn
  have hi := h.inn; have ho := h.out
  refine tdiv_rng (by omega) ?_
  have h2 := mul_rng (a := s * lev) (b := upF p k) (A := 131068000) (B := p.inn + 1) (by omega) (by omega)
  have h3 := mul_rng (a := s * lev * upF p k) (b := dnF p k) (A := 131068000 * (p.inn + 1)) (B := p.out + 1) h2 (by omega)
  have e : (131068 : Int) * denF p = 131068000 * (p.inn + 1) * (p.out + 1) := by
    unfold denF
    rw [← Int.mul_assoc, ← Int.mul_assoc]; rfl
  rw [e]
  exact h3
theorem s324 (s : Int) (p : Prt) (k lev : Int) (hs : -32767 ≤ s ∧ s ≤ 32767) (h : PF p k lev) : PSpec Tryz.prog 73 [I s, p.x, I k, I lev] (.x (I (loudF s p k lev))) := by
  have hp := h.pb
  have h1 := hp.fr; have h2 := hp.to; have h3 := h.inn; have h4 := h.out; have h5 := h.k; have h6 := h.lev
  have hst := h.steps hs
  have hd := h.den
  have hu : (if p.inn + 1 < k + 1 then p.inn + 1 else k + 1) = upF p k := by unfold upF; split <;> split <;> omega
  have hn : (if p.out + 1 < p.long - k then p.out + 1 else p.long - k) = dnF p k := by unfold dnF; split <;> split <;> omega
  have hL : p.long = p.to - p.fr := rfl
  have hup := h.up; have hdn := h.dn
  refine spec_of pMix (O := []) Tryz.func73 (c := bodyOf Tryz.f73) rfl (by kernel_rfl) (by kernel_rfl) Tryz.ntmps73 (res := [.tmp 8]) (by kernel_rfl) ?_
  have hd' : 1000 ≤ 1000 * (p.inn + 1) * (p.out + 1) ∧ 1000 * (p.inn + 1) * (p.out + 1) ≤ 1002001000 := hd
  have hlo := h.loud hs
  unfold loudF denF at hlo
  repeat' ((conv => whnf); first | rw [hu] | rw [hn] | refine Rng.g ?_ | refine Ob.g ?_ | refine Mm.mk ?_ | refine CallVC.pure rfl (s210 p hp) ?_)
  refine Val.mk _ rfl ?_
  repeat' ((conv => whnf); first | refine Rng.g ?_ | fail)
  repeat refine Mm.mk ?_
  refine EndVC.mk _ rfl _ _ ⟨rfl, rfl⟩ ?_
  refine ⟨[], rfl, rfl, ?_, ?_⟩ <;> repeat' (first | exact trivial | exact rfl | apply And.intro)
/-- A part that may sound. -/
structure SF (T : List Tak) (p : Prt) (k lev : Int) : Prop where
  ok : partOK T p
  takes : TaksOK T
  k : 0 ≤ k ∧ k < p.long
  lev : 0 ≤ lev ∧ lev ≤ 4000
theorem SF.pf {T : List Tak} {p : Prt} {k lev : Int} (h : SF T p k lev) : PF p k lev := by
  have ho := h.ok
  have hb := ho.pb h.takes
  unfold partOK at ho
  exact ⟨hb, by omega, by omega, h.k, h.lev⟩
def smpAt (T : List Tak) (p : Prt) (k : Int) : Smp := (T.getD p.tk.toNat t0).d.getD (p.fr + k).toNat s0
def sndF (T : List Tak) (p : Prt) (k lev : Int) : Smp := ⟨loudF (smpAt T p k).l p k lev, loudF (smpAt T p k).r p k lev⟩
theorem SF.smp {T : List Tak} {p : Prt} {k lev : Int} (h : SF T p k lev) : (smpAt T p k).ok := by
  have ho := h.ok
  unfold partOK at ho
  have hk := h.k
  have hL : p.long = p.to - p.fr := rfl
  exact (h.takes.each p.tk.toNat (by omega)).2.2.2 _ (getD_mem' s0 (by omega))
theorem SF.snd {T : List Tak} {p : Prt} {k lev : Int} (h : SF T p k lev) : (-131068 ≤ (sndF T p k lev).l ∧ (sndF T p k lev).l ≤ 131068) ∧ (-131068 ≤ (sndF T p k lev).r ∧ (sndF T p k lev).r ≤ 131068) := by
  have hs := h.smp
  unfold Smp.ok at hs
  exact ⟨h.pf.loud (by omega), h.pf.loud (by omega)⟩
theorem s274 (T : List Tak) (p : Prt) (k lev : Int) (h : SF T p k lev) : PSpec Tryz.prog 53 [lT T, p.x, I k, I lev] (.x (sndF T p k lev).x) := by
  have lt := takA_len T
  have ho := h.ok
  unfold partOK at ho
  have hk := h.k
  have hL : p.long = p.to - p.fr := rfl
  have hb := h.pf.pb.to
  have gd : rA (takA T) p.tk.toNat (0 + (0 + 1)) = smpA (T.getD p.tk.toNat t0).d := takA_d T _
  have gl : (rA (takA T) p.tk.toNat (0 + (0 + 1))).length = (T.getD p.tk.toNat t0).d.length := (congrArg List.length gd).trans (smpA_len _)
  have hs := h.smp
  unfold Smp.ok at hs
  have c1 : PSpec Tryz.prog 73 [I (rI (rA (takA T) p.tk.toNat (0 + (0 + 1))) (p.fr + k).toNat 0), p.x, I k, I lev] (.x (I (sndF T p k lev).l)) := by
    rw [gd, smpA_l]; exact s324 _ p k lev (by unfold smpAt at hs; omega) h.pf
  have c2 : PSpec Tryz.prog 73 [I (rI (rA (takA T) p.tk.toNat (0 + (0 + 1))) (p.fr + k).toNat (0 + (0 + 1))), p.x, I k, I lev] (.x (I (sndF T p k lev).r)) := by
    rw [gd, smpA_r]; exact s324 _ p k lev (by unfold smpAt at hs; omega) h.pf
  refine spec_of pMix (O := [(1, ([12], [⟨0, [], []⟩, ⟨1, [], []⟩, ⟨2, [], []⟩, ⟨3, [], []⟩, ⟨4, [], []⟩, ⟨5, [], []⟩, ⟨6, [], []⟩, ⟨7, [], []⟩, ⟨8, [], []⟩, ⟨9, [], []⟩, ⟨10, [], []⟩, ⟨11, [], []⟩, ⟨12, [], []⟩, ⟨13, [], []⟩])), (2, ([], [⟨0, [], []⟩, ⟨1, [], []⟩, ⟨2, [], []⟩, ⟨3, [], []⟩, ⟨4, [], []⟩, ⟨6, [], []⟩, ⟨7, [], []⟩, ⟨8, [], []⟩, ⟨9, [], []⟩, ⟨10, [], []⟩, ⟨5, [6, 7, 8, 9, 10], []⟩, ⟨11, [], []⟩, ⟨12, [], []⟩, ⟨13, [], []⟩]))]) Tryz.func53 (c := bodyOf Tryz.f53) rfl (by kernel_rfl) (by kernel_rfl) Tryz.ntmps53 (res := [.cell 8 81]) (by kernel_rfl) ?_
  repeat' ((conv => whnf); first | refine Rng.g ?_ | refine Ob.g ?_ | refine CallVC.pure rfl (c2) ?_ | refine CallVC0.pure rfl (c1) ?_)
  repeat refine Mm.mk ?_
  refine EndVC.mk _ rfl _ _ ⟨rfl, rfl⟩ ?_
  refine ⟨[], rfl, rfl, ?_, ?_⟩ <;> repeat' (first | exact trivial | exact rfl | apply And.intro)
end Go.Sx

namespace Go.Sx
open Go Go.Proofs
set_option maxRecDepth 10000
set_option maxHeartbeats 2000000
/-- Does a part sound at a time? -/
def onB (l : List Prt) (t : Int) (i : Nat) : Bool := decide (begP l i ≤ t ∧ t < begP l i + (l.getD i p0).long)
def srcI (l : List Prt) (t : Int) (n : Nat) : List Nat := (List.range n).filter (onB l t)
theorem srcI_succ (l : List Prt) (t : Int) (n : Nat) : srcI l t (n + 1) = srcI l t n ++ (if onB l t n then [n] else []) := by
  unfold srcI
  rw [List.range_succ, List.filter_append]
  congr 1
  by_cases h : onB l t n = true
  · rw [if_pos h]; simp [h]
  · rw [if_neg h]; simp [h]
theorem srcI_mem {l : List Prt} {t : Int} {n i : Nat} (h : i ∈ srcI l t n) : i < n ∧ begP l i ≤ t ∧ t < begP l i + (l.getD i p0).long := by
  unfold srcI at h
  rw [List.mem_filter, List.mem_range] at h
  exact ⟨h.1, of_decide_eq_true h.2⟩
theorem srcI_len (l : List Prt) (t : Int) (n : Nat) : (srcI l t n).length ≤ n := by
  unfold srcI
  exact Nat.le_trans (List.length_filter_le _ _) (by simp)
def soR (l : List Prt) (t : Int) (i : Nat) : List Cell := [.int (i : Int), .int (l.getD i p0).tk, .int ((l.getD i p0).fr + t - begP l i)]
def srcA (l : List Prt) (t : Int) (L : List Nat) : Arr := L.map (soR l t)
theorem srcA_len (l : List Prt) (t : Int) (L : List Nat) : (srcA l t L).length = L.length := by simp [srcA]
theorem eb72 : Tryz.t131.bytes = 24 := by kernel_rfl
@[reducible] def K3i : List CK := [.int .i64, .int .i64, .int .i64]
theorem s273 (l : List Prt) (t : Int) (h : PBs l) (ht : 0 ≤ t ∧ t ≤ 5000) : HSpec Tryz.prog 52 [lP l, I t] [] (fun r m' => r = .x (.one (.own 0)) ∧ m' = [some (.row 131 false K3i (srcA l t (srcI l t l.length)))]) := by
  have ll := prtA_len l
  have h32 := h.1
  have lb : (i64s (begs l l.length)).length = l.length := by rw [i64s_len, begs_len]
  refine spec_of pMix (O := [(6, ([], [⟨0, [], []⟩, ⟨1, [], []⟩, ⟨2, [], []⟩, ⟨3, [], []⟩, ⟨4, [], []⟩, ⟨5, [], []⟩, ⟨6, [], []⟩, ⟨7, [], []⟩, ⟨8, [], []⟩, ⟨9, [], []⟩, ⟨10, [], []⟩, ⟨11, [], []⟩, ⟨12, [], []⟩, ⟨13, [], []⟩, ⟨14, [], []⟩, ⟨15, [], []⟩, ⟨16, [7, 8, 9, 10, 11], []⟩, ⟨17, [], []⟩, ⟨18, [], []⟩, ⟨19, [], []⟩])), (7, ([], [⟨0, [], []⟩, ⟨1, [], []⟩, ⟨2, [], []⟩, ⟨3, [], []⟩, ⟨4, [], []⟩, ⟨5, [], []⟩, ⟨6, [], []⟩, ⟨7, [], []⟩, ⟨8, [], []⟩, ⟨9, [], []⟩, ⟨10, [], []⟩, ⟨11, [], []⟩, ⟨12, [], []⟩, ⟨13, [], []⟩, ⟨14, [], []⟩, ⟨15, [], []⟩, ⟨16, [], []⟩, ⟨17, [], []⟩, ⟨18, [], []⟩, ⟨19, [], [20]⟩, ⟨20, [], []⟩, ⟨21, [], []⟩, ⟨22, [], []⟩]))]) Tryz.func52 (c := bodyOf Tryz.f52) rfl (by kernel_rfl) (by kernel_rfl) Tryz.ntmps52 (res := [.tmp 4]) (by kernel_rfl) ?_
  repeat' ((conv => whnf); first | refine Rng.g ?_ | fail)
  conv => whnf
  refine CallVC.mk [] _ _ _ rfl rfl rfl (s120 l h) (fun r m' h' => ?_)
  obtain ⟨rfl, rfl⟩ := h'
  conv => whnf
  repeat' ((conv => whnf); first | refine Rng.g ?_ | fail)
  refine LoopVC.mk (fun n st => ∃ (i : Nat), i ≤ l.length ∧ n = l.length - i ∧ st = ⟨0, envA 63 [(0, .x (lP l)), (1, .int .i64 t), (5, .x (.one (.own 1))), (6, .x (.one (.own 0))), (8, .int .i64 (i : Int))], [some (rowN (begs l l.length)), some (.row 131 false K3i (srcA l t (srcI l t i)))]⟩) _ _ ⟨0, Nat.zero_le _, rfl, rfl⟩ ?_ ?_
  · refine ⟨[some 0, none], rfl, rfl, ?_, ?_⟩ <;> repeat' (first | exact trivial | exact rfl | apply And.intro)
  rintro n _ ⟨i, hi, hn, rfl⟩
  by_cases hi' : i < l.length
  · have gb : rI (i64s (begs l l.length)) (i : Int).toNat 0 = begP l i := by rw [Int.toNat_natCast, i64s_get, begs_get _ _ _ hi']
    have g0 : rI (prtA l) (i : Int).toNat 0 = (l.getD i p0).tk := prtA_0 l i
    have g1 : rI (prtA l) (i : Int).toNat (0 + (0 + 1)) = (l.getD i p0).fr := prtA_1 l i
    have hp := h.2 i hi'
    have hpb := endP_bd h i (by omega)
    obtain ⟨h3, h4, h5⟩ := id hp
    have hlo : (l.getD i p0).long = (l.getD i p0).to - (l.getD i p0).fr := rfl
    have hbb : begP l i = endP (l.take i) + (l.getD i p0).gap := rfl
    have c1 : PSpec Tryz.prog 51 [prtX l i] (.x (I (l.getD i p0).long)) := by rw [prtX_eq]; exact s210 _ hp
    have hs := srcI_len l t i
    have ls := srcA_len l t (srcI l t i)
    by_cases hon : begP l i ≤ t ∧ t < begP l i + (l.getD i p0).long
    · have e : srcI l t (i + 1) = srcI l t i ++ [i] := by rw [srcI_succ, if_pos (show onB l t i = true from decide_eq_true hon)]
      repeat' ((conv => whnf); first | refine Rng.g ?_ | refine Ob.g ?_ | refine JoinVC.on ?_ | refine CallVC0.pure rfl (c1) ?_ | (refine Br.mk (fun h => ?_) (fun h => ?_) <;> first | (exfalso; omega; done) | (exfalso; simp at h; done) | skip))
      repeat refine Mm.mk ?_
      refine Ob.mk (by simp only [ls, eb72, List.length_cons, List.length_nil]; omega) ?_
      repeat' ((conv => whnf); first | refine Rng.g ?_ | fail)
      refine Back.mk (l.length - (i + 1)) _ (by omega) ⟨i + 1, by omega, rfl, rfl⟩ ?_
      rw [e]
      refine ⟨[some 0, some 3], rfl, rfl, ?_, ?_⟩ <;> repeat' (first | exact trivial | exact rfl | apply And.intro)
      rw [gb, g0, g1]
      simp [srcA, soR]
    · have e : srcI l t (i + 1) = srcI l t i := by rw [srcI_succ, if_neg (show ¬ onB l t i = true from fun h => hon (of_decide_eq_true h)), List.append_nil]
      repeat' ((conv => whnf); first | refine Rng.g ?_ | refine Ob.g ?_ | refine JoinVC.on ?_ | refine CallVC0.pure rfl (c1) ?_ | (refine Br.mk (fun h => ?_) (fun h => ?_) <;> first | (exfalso; omega; done) | (exfalso; simp at h; done) | skip))
      all_goals
        refine Back.mk (l.length - (i + 1)) _ (by omega) ⟨i + 1, by omega, rfl, rfl⟩ ?_
        rw [e]
        refine ⟨[some 0, some 1], rfl, rfl, ?_, ?_⟩ <;> repeat' (first | exact trivial | exact rfl | apply And.intro)
  · have e2 : i = l.length := by omega
    subst e2
    repeat' ((conv => whnf); first | (refine Br.mk (fun h => ?_) (fun h => ?_) <;> first | (exfalso; omega; done) | (exfalso; simp at h; done) | skip))
    repeat refine Mm.mk ?_
    refine EndVC.mk _ rfl _ _ ⟨rfl, rfl⟩ ?_
    refine ⟨[some 1], rfl, rfl, ?_, ?_⟩ <;> repeat' (first | exact trivial | exact rfl | apply And.intro)
/-! ### What sounds at each time -/
def addS (a b : Smp) : Smp := ⟨a.l + b.l, a.r + b.r⟩
def sndI (T : List Tak) (l : List Prt) (t : Int) (i : Nat) : Smp := sndF T (l.getD i p0) (t - begP l i) (l.getD i p0).lev
def sumI (T : List Tak) (l : List Prt) (t : Int) (L : List Nat) : Smp := L.foldl (fun a i => addS a (sndI T l t i)) s0
theorem sumI_snoc (T : List Tak) (l : List Prt) (t : Int) (L : List Nat) (i : Nat) : sumI T l t (L ++ [i]) = addS (sumI T l t L) (sndI T l t i) := by unfold sumI; rw [List.foldl_append]; rfl
def rendAt (T : List Tak) (l : List Prt) (t : Int) : Smp := sumI T l t (srcI l t l.length)
def rend (T : List Tak) (l : List Prt) : List Smp := (List.range (endP l).toNat).map fun t : Nat => rendAt T l (t : Int)
theorem rend_len (T : List Tak) (l : List Prt) : (rend T l).length = (endP l).toNat := by simp [rend]
theorem rend_get (T : List Tak) (l : List Prt) (t : Nat) (h : t < (endP l).toNat) : (rend T l).getD t s0 = rendAt T l t := by
  simp [rend, List.getD_eq_getElem?_getD, List.getElem?_range h]
theorem begP_nonneg {l : List Prt} (hb : PBs l) (hP : Poss l) : ∀ i, i < l.length → 0 ≤ begP l i
  | 0, h => hP.first h
  | i + 1, h => by
    have ih := begP_nonneg hb hP i (by omega)
    have h1 := (hP.gap (i + 1) (by omega) h).2
    have h2 := endP_succ l (show i < l.length by omega)
    have h3 : i + 1 - 1 = i := by omega
    rw [h3] at h1
    unfold begP at ih ⊢
    unfold begP at h2
    omega
theorem endP_nonneg {l : List Prt} (hb : PBs l) (hP : Poss l) : 0 ≤ endP l := by
  by_cases h : l.length = 0
  · have : l = [] := List.eq_nil_of_length_eq_zero h
    subst this; exact Int.le_refl _
  · have h1 := begP_nonneg hb hP (l.length - 1) (by omega)
    have h2 := endP_succ l (show l.length - 1 < l.length by omega)
    have h3 : l.length - 1 + 1 = l.length := by omega
    rw [h3, List.take_length] at h2
    have h4 := (hb.2 (l.length - 1) (by omega)).fr
    unfold Prt.long at h2
    omega
theorem ProgOK.sf {T : List Tak} {l : List Prt} (h : ProgOK T l) {t : Int} {i : Nat} (hi : i ∈ srcI l t l.length) : SF T (l.getD i p0) (t - begP l i) (l.getD i p0).lev := by
  obtain ⟨h1, h2, h3⟩ := srcI_mem hi
  have h4 := h.parts i h1
  have h5 := h4
  unfold partOK at h5
  exact ⟨h4, h.takes, by omega, by omega⟩
theorem sumI_bd {T : List Tak} {l : List Prt} {t : Int} : ∀ {L : List Nat}, (∀ i ∈ L, SF T (l.getD i p0) (t - begP l i) (l.getD i p0).lev) → (-131068 * (L.length : Int) ≤ (sumI T l t L).l ∧ (sumI T l t L).l ≤ 131068 * L.length) ∧ (-131068 * (L.length : Int) ≤ (sumI T l t L).r ∧ (sumI T l t L).r ≤ 131068 * L.length) := by
  intro L
  refine snoc_ind (p := fun L : List Nat => (∀ i ∈ L, SF T (l.getD i p0) (t - begP l i) (l.getD i p0).lev) → (-131068 * (L.length : Int) ≤ (sumI T l t L).l ∧ (sumI T l t L).l ≤ 131068 * L.length) ∧ (-131068 * (L.length : Int) ≤ (sumI T l t L).r ∧ (sumI T l t L).r ≤ 131068 * L.length)) ?_ ?_ L
  · intro _; simp [sumI]
  · intro L i ih h
    have h1 := ih (fun j hj => h j (List.mem_append_left _ hj))
    have h2 := (h i (by simp)).snd
    rw [sumI_snoc, List.length_append, List.length_cons, List.length_nil]
    unfold addS sndI
    simp only
    omega
theorem smpA_setl (O : List Smp) (i : Nat) (v : Int) (h : i < O.length) : updRow (smpA O) i 0 [.int v] = smpA (O.set i ⟨v, (O.getD i s0).r⟩) := by
  have e : (smpA O).getD i [] = [.int (O.getD i s0).l, .int (O.getD i s0).r] := by simp [smpA, List.getD_eq_getElem?_getD, h]
  unfold updRow
  rw [e]
  simp [smpA, setAll, List.map_set]
theorem smpA_setr (O : List Smp) (i : Nat) (v : Int) (h : i < O.length) : updRow (smpA O) i (0 + 1) [.int v] = smpA (O.set i ⟨(O.getD i s0).l, v⟩) := by
  have e : (smpA O).getD i [] = [.int (O.getD i s0).l, .int (O.getD i s0).r] := by simp [smpA, List.getD_eq_getElem?_getD, h]
  unfold updRow
  rw [e]
  simp [smpA, setAll, List.map_set]
theorem smpA_set (O : List Smp) (i : Nat) (s : Smp) (h : i < O.length) : updRow (smpA O) i 0 [.int s.l, .int s.r] = smpA (O.set i s) := by
  have e : (smpA O).getD i [] = [.int (O.getD i s0).l, .int (O.getD i s0).r] := by simp [smpA, List.getD_eq_getElem?_getD, h]
  unfold updRow
  rw [e]
  simp [smpA, setAll, List.map_set]
theorem smpA_rep (n : Nat) : List.replicate n [Cell.int 0, Cell.int 0] = smpA (List.replicate n s0) := by simp [smpA]
end Go.Sx

namespace Go.Sx
open Go Go.Proofs
set_option maxRecDepth 10000
set_option maxHeartbeats 4000000
@[reducible] def rowS (O : List Smp) : Blk := .row 81 false KS (smpA O)
theorem eb47 : Tryz.t81.bytes = 16 := by kernel_rfl
/-- What is rendered up to a time. -/
structure Upto (T : List Tak) (l : List Prt) (O : List Smp) (i : Nat) (a : Smp) : Prop where
  len : O.length = (endP l).toNat
  done : ∀ j, j < i → O.getD j s0 = rendAt T l j
  at' : O.getD i s0 = a
  rest : ∀ j, i < j → O.getD j s0 = s0
theorem Upto.set {T : List Tak} {l : List Prt} {O : List Smp} {i : Nat} {a : Smp} (h : Upto T l O i a) (hi : i < O.length) (b : Smp) : Upto T l (O.set i b) i b := by
  refine ⟨by rw [List.length_set]; exact h.len, fun j hj => ?_, ?_, fun j hj => ?_⟩
  · rw [getD_set' _ _ _ _ _ hi, if_neg (by omega)]; exact h.done j hj
  · rw [getD_set' _ _ _ _ _ hi, if_pos rfl]
  · rw [getD_set' _ _ _ _ _ hi, if_neg (by omega)]; exact h.rest j hj
theorem Upto.next {T : List Tak} {l : List Prt} {O : List Smp} {i : Nat} (h : Upto T l O i (rendAt T l i)) : Upto T l O (i + 1) s0 := by
  refine ⟨h.len, fun j hj => ?_, h.rest _ (Nat.lt_succ_self i), fun j hj => h.rest j (by omega)⟩
  rcases Nat.lt_succ_iff_lt_or_eq.1 hj with h' | rfl
  · exact h.done j h'
  · exact h.at'
theorem Upto.fin {T : List Tak} {l : List Prt} {O : List Smp} {a : Smp} (h : Upto T l O (endP l).toNat a) : O = rend T l := by
  refine List.ext_getElem (by rw [h.len, rend_len]) fun j h1 h2 => ?_
  have h3 := h.done j (by rw [← h.len]; exact h1)
  rw [← rend_get T l j (by rw [← h.len]; exact h1)] at h3
  simpa [List.getD_eq_getElem?_getD, h1, h2] using h3
theorem soA_0 (l : List Prt) (t : Int) (L : List Nat) (k : Nat) (h : k < L.length) : rI (srcA l t L) k 0 = (L.getD k 0 : Nat) := by
  simp [rI, cellAt, srcA, List.getD_eq_getElem?_getD, h, soR, Cell.toInt]
theorem soA_2 (l : List Prt) (t : Int) (L : List Nat) (k : Nat) (h : k < L.length) : rI (srcA l t L) k (0 + 1 + 1) = (l.getD (L.getD k 0) p0).fr + t - begP l (L.getD k 0) := by
  simp [rI, cellAt, srcA, List.getD_eq_getElem?_getD, h, soR, Cell.toInt]
theorem s195 (T : List Tak) (l : List Prt) (hP : ProgOK T l) : HSpec Tryz.prog 30 [lT T, lP l, I 1000, .one .ff] [] (fun r m' => r = .x (.one (.own 0)) ∧ m' = [some (rowS (rend T l))]) := by
  have ll := prtA_len l
  have hb := hP.pbs
  have h32 := hb.1
  have he := endP_nonneg hb hP.poss
  have he2 := hP.poss.stop
  refine spec_of pMix (O := [(11, ([16], [⟨0, [], []⟩, ⟨1, [], []⟩, ⟨2, [], []⟩, ⟨3, [], []⟩, ⟨4, [], []⟩, ⟨5, [], []⟩, ⟨6, [], []⟩, ⟨7, [], []⟩, ⟨8, [], []⟩, ⟨9, [], []⟩, ⟨10, [], []⟩, ⟨11, [], []⟩, ⟨12, [], []⟩, ⟨13, [], []⟩, ⟨14, [], []⟩, ⟨15, [], []⟩, ⟨16, [], []⟩, ⟨17, [], []⟩])), (13, ([], [⟨0, [], []⟩, ⟨1, [], []⟩, ⟨3, [], []⟩, ⟨4, [], []⟩, ⟨2, [3, 4], []⟩, ⟨5, [], []⟩, ⟨6, [], []⟩, ⟨7, [], []⟩]))]) Tryz.func30 (c := bodyOf Tryz.f30) rfl (by kernel_rfl) (by kernel_rfl) Tryz.ntmps30 (res := [.tmp 8]) (by kernel_rfl) ?_
  repeat' ((conv => whnf); first | refine Rng.g ?_ | fail)
  conv => whnf
  refine CallVC.mk [] _ _ _ rfl rfl rfl (s120 l hb) (fun r m' h' => ?_)
  obtain ⟨rfl, rfl⟩ := h'
  conv => whnf
  repeat' ((conv => whnf); first | refine Rng.g ?_ | fail)
  repeat refine Mm.mk ?_
  refine Ob.mk (by simp only [eb47]; omega) ?_
  repeat' ((conv => whnf); first | refine Rng.g ?_ | fail)
  refine LoopVC.mk (fun n st => ∃ (i : Nat) (O : List Smp), (i : Int) ≤ endP l ∧ n = (endP l).toNat - i ∧ Upto T l O i s0 ∧ st = ⟨0, envA 91 [(0, .x (lT T)), (1, .x (lP l)), (2, .x (I 1000)), (3, .x (.one .ff)), (10, .int .i64 (endP l)), (11, .x (.one (.own 0))), (12, .int .i64 (i : Int))], [some (rowS O)]⟩) _ _ ⟨0, List.replicate (endP l).toNat s0, by omega, rfl, ⟨by simp, fun j hj => absurd hj (Nat.not_lt_zero j), by simp [List.getD_eq_getElem?_getD, List.getElem?_replicate]; split <;> rfl, fun j hj => by simp [List.getD_eq_getElem?_getD, List.getElem?_replicate]; split <;> rfl⟩, rfl⟩ ?_ ?_
  · refine ⟨[some 1], rfl, rfl, ?_, ?_⟩ <;> repeat' (first | exact trivial | exact rfl | apply And.intro)
    exact smpA_rep _
  rintro n _ ⟨i, O, hi, hn, hO, rfl⟩
  by_cases hi' : (i : Int) < endP l
  · have lO := smpA_len O
    have hOl := hO.len
    repeat' ((conv => whnf); first | (refine Br.mk (fun h => ?_) (fun h => ?_) <;> first | (exfalso; omega; done) | (exfalso; simp at h; done) | skip))
    conv => whnf
    refine CallVC.mk [] _ _ _ rfl rfl rfl (s273 l i hb ⟨by omega, by omega⟩) (fun r m' h' => ?_)
    obtain ⟨rfl, rfl⟩ := h'
    conv => whnf
    repeat' ((conv => whnf); first | refine Rng.g ?_ | fail)
    obtain ⟨L, hL⟩ : ∃ L, L = srcI l i l.length := ⟨_, rfl⟩
    rw [← hL]
    have hLl := srcI_len l i l.length
    rw [← hL] at hLl
    have lA := srcA_len l i L
    refine LoopVC.mk (fun n st => ∃ (k : Nat) (O : List Smp), k ≤ L.length ∧ n = L.length - k ∧ Upto T l O i (sumI T l i (L.take k)) ∧ st = ⟨0, envA 91 [(0, .x (lT T)), (1, .x (lP l)), (2, .x (I 1000)), (3, .x (.one .ff)), (10, .int .i64 (endP l)), (11, .x (.one (.own 0))), (12, .int .i64 (i : Int)), (13, .x (.one (.own 1))), (14, .int .i64 (k : Int))], [some (rowS O), some (.row 131 false K3i (srcA l i L))]⟩) _ _ ⟨0, O, Nat.zero_le _, rfl, hO, rfl⟩ ?_ ?_
    · refine ⟨[some 0, some 1], rfl, rfl, ?_, ?_⟩ <;> repeat' (first | exact trivial | exact rfl | apply And.intro)
    clear hO lO hOl
    rintro n2 _ ⟨k, O, hk, hn2, hO, rfl⟩
    have lO := smpA_len O
    have hOl := hO.len
    by_cases hk' : k < L.length
    · obtain ⟨q, hq⟩ : ∃ q, q = L.getD k 0 := ⟨_, rfl⟩
      have hqm : q ∈ L := by rw [hq]; exact getD_mem' 0 hk'
      have hsf := hP.sf (by rw [← hL]; exact hqm)
      obtain ⟨m1, m2, m3⟩ := srcI_mem (by rw [← hL]; exact hqm)
      have hbd := sumI_bd (T := T) (l := l) (t := i) (L := L.take k) (fun j hj => hP.sf (by rw [← hL]; exact List.mem_of_mem_take hj))
      have hlk : (L.take k).length = k := by rw [List.length_take]; omega
      rw [hlk] at hbd
      have hsn : (-131068 ≤ (sndI T l i q).l ∧ (sndI T l i q).l ≤ 131068) ∧ (-131068 ≤ (sndI T l i q).r ∧ (sndI T l i q).r ≤ 131068) := hsf.snd
      have hst : L.take (k + 1) = L.take k ++ [q] := by rw [hq]; exact take_snoc L k 0 hk'
      have e0 : rI (srcA l i L) (k : Int).toNat 0 = (q : Int) := by rw [hq]; exact soA_0 l i L k hk'
      have e2 : rI (srcA l i L) (k : Int).toNat (0 + 1 + 1) = (l.getD q p0).fr + i - begP l q := by rw [hq]; exact soA_2 l i L k hk'
      have eq : (rI (srcA l i L) (k : Int).toNat 0).toNat = q := by rw [e0]; exact Int.toNat_natCast q
      have g1 : rI (prtA l) (rI (srcA l i L) (k : Int).toNat 0).toNat (0 + 1) = (l.getD q p0).fr := by rw [eq]; exact prtA_1 l q
      have g6 : rI (prtA l) (rI (srcA l i L) (k : Int).toNat 0).toNat (0 + 1 + 1 + 1 + 1 + 1 + 1) = (l.getD q p0).lev := by rw [eq]; exact prtA_6 l q
      have hlev := hsf.lev
      have hkk := hsf.k
      have hpb := hsf.pf.pb
      obtain ⟨b1, b2, b3⟩ := hpb
      have hlo : (l.getD q p0).long = (l.getD q p0).to - (l.getD q p0).fr := rfl
      have c1 : PSpec Tryz.prog 53 [lT T, prtX l (rI (srcA l i L) (k : Int).toNat 0).toNat, I (rI (srcA l i L) (k : Int).toNat (0 + 1 + 1) - rI (prtA l) (rI (srcA l i L) (k : Int).toNat 0).toNat (0 + 1)), I (rI (prtA l) (rI (srcA l i L) (k : Int).toNat 0).toNat (0 + 1 + 1 + 1 + 1 + 1 + 1) * 1000 / 1000)] (.x (sndI T l i q).x) := by
        rw [e2, g1, g6, eq, prtX_eq, Int.mul_ediv_cancel _ (by decide)]
        have : (l.getD q p0).fr + (i : Int) - begP l q - (l.getD q p0).fr = i - begP l q := by omega
        rw [this]
        exact s274 T _ _ _ hsf
      have a0 : rI (smpA O) (i : Int).toNat 0 = (sumI T l i (L.take k)).l := by rw [Int.toNat_natCast, smpA_l, hO.at']
      have a1 : rI (smpA O) (i : Int).toNat (0 + 1) = (sumI T l i (L.take k)).r := by rw [Int.toNat_natCast, smpA_r, hO.at']
      have hiO : i < O.length := by omega
      obtain ⟨O1, hO1⟩ : ∃ O1, O1 = O.set i ⟨rI (smpA O) (i : Int).toNat 0 + (sndI T l i q).l, (O.getD i s0).r⟩ := ⟨_, rfl⟩
      have u1 : updRow (smpA O) (i : Int).toNat 0 [.int (rI (smpA O) (i : Int).toNat 0 + (sndI T l i q).l)] = smpA O1 := by rw [hO1, Int.toNat_natCast]; exact smpA_setl O i _ hiO
      have lO1 : (smpA O1).length = O.length := by rw [smpA_len, hO1, List.length_set]
      have a2 : rI (smpA O1) (i : Int).toNat (0 + 1) = (sumI T l i (L.take k)).r := by rw [Int.toNat_natCast, smpA_r, hO1, getD_set' _ _ _ _ _ hiO, if_pos rfl]; rw [hO.at']
      have u2 : updRow (smpA O1) (i : Int).toNat (0 + 1) [.int (rI (smpA O1) (i : Int).toNat (0 + 1) + (sndI T l i q).r)] = smpA (O.set i (addS (sumI T l i (L.take k)) (sndI T l i q))) := by
        rw [a2, Int.toNat_natCast, smpA_setr O1 i _ (by rw [hO1, List.length_set]; exact hiO), hO1, getD_set' _ _ _ _ _ hiO, if_pos rfl, List.set_set]
        simp only [addS, a0]
      repeat' ((conv => whnf); first | rw [u1] | rw [u2] | refine Rng.g ?_ | refine Ob.g ?_ | refine JoinVC.on ?_ | refine Val.d ?_ | refine CallVC.pure rfl (c1) ?_ | (refine Br.mk (fun h => ?_) (fun h => ?_) <;> first | (exfalso; omega; done) | (exfalso; simp at h; done) | skip))
      refine Back.mk (L.length - (k + 1)) _ (by omega) ⟨k + 1, _, by omega, rfl, hO.set hiO _, rfl⟩ ?_
      rw [hst, sumI_snoc]
      refine ⟨[some 0, some 1], rfl, rfl, ?_, ?_⟩ <;> repeat' (first | exact trivial | exact rfl | apply And.intro)
    · have e1 : L.take k = L := List.take_of_length_le (by omega)
      rw [e1, hL] at hO
      repeat' ((conv => whnf); first | refine Rng.g ?_ | (refine Br.mk (fun h => ?_) (fun h => ?_) <;> first | (exfalso; omega; done) | (exfalso; simp at h; done) | skip))
      refine Back.mk ((endP l).toNat - (i + 1)) _ (by omega) ⟨i + 1, O, by omega, rfl, hO.next, rfl⟩ ?_
      refine ⟨[some 0], rfl, rfl, ?_, ?_⟩ <;> repeat' (first | exact trivial | exact rfl | apply And.intro)
  · have e1 : i = (endP l).toNat := by omega
    rw [e1] at hO
    rw [← hO.fin]
    repeat' ((conv => whnf); first | (refine Br.mk (fun h => ?_) (fun h => ?_) <;> first | (exfalso; omega; done) | (exfalso; simp at h; done) | skip))
    repeat refine Mm.mk ?_
    refine EndVC.mk _ rfl _ _ ⟨rfl, rfl⟩ ?_
    refine ⟨[some 0], rfl, rfl, ?_, ?_⟩ <;> repeat' (first | exact trivial | exact rfl | apply And.intro)
/-- The samples of the given numbers are machine numbers. -/
theorem rend_bd {T : List Tak} {l : List Prt} (hP : ProgOK T l) (j : Nat) : (-5000000 ≤ ((rend T l).getD j s0).l ∧ ((rend T l).getD j s0).l ≤ 5000000) ∧ (-5000000 ≤ ((rend T l).getD j s0).r ∧ ((rend T l).getD j s0).r ≤ 5000000) := by
  by_cases hj : j < (endP l).toNat
  · rw [rend_get _ _ _ hj]
    have h1 := sumI_bd (T := T) (l := l) (t := j) (L := srcI l j l.length) (fun i hi => hP.sf hi)
    have h2 := srcI_len l j l.length
    have h3 := hP.len
    unfold rendAt
    omega
  · rw [List.getD_eq_getElem?_getD, List.getElem?_eq_none (by rw [rend_len]; omega)]
    simp
theorem s98 (T : List Tak) (l : List Prt) (hI : TakI T) (hP : ProgOK T l) : HSpec Tryz.prog 14 [lT T, lP l] [] (fun r m' => (smpE (rend T l) = 0 ∧ r = .tup [.one (.own 0), I 0] ∧ m' = [some (rowS (rend T l))]) ∨ (smpE (rend T l) ≠ 0 ∧ r = .tup [.one .nils, I 4] ∧ m' = [])) := by
  refine spec_of pMix (O := []) Tryz.func14 (c := bodyOf Tryz.f14) rfl (by kernel_rfl) (by kernel_rfl) Tryz.ntmps14 (res := [.tmp 4, .tmp 5]) (by kernel_rfl) ?_
  repeat' ((conv => whnf); first | refine Rng.g ?_ | fail)
  conv => whnf
  refine CallVC.mk [] _ _ _ rfl rfl rfl (s36 T l hI) (fun r m' h' => ?_)
  obtain ⟨e, rfl, rfl, he⟩ := h'
  conv => whnf
  have h0 := he.2 hP
  subst h0
  repeat' ((conv => whnf); first | (refine Br.mk (fun h => ?_) (fun h => ?_) <;> first | (exfalso; omega; done) | (exfalso; simp at h; done) | skip))
  conv => whnf
  refine CallVC.mk [] _ _ _ rfl rfl rfl (s195 T l hP) (fun r m' h' => ?_)
  obtain ⟨rfl, rfl⟩ := h'
  conv => whnf
  have c1 := s58 (rend T l) (fun j => by have := rend_bd hP j; unfold inI; omega)
  by_cases hE : smpE (rend T l) = 0
  · repeat' ((conv => whnf); first | refine CallVC.pure rfl (c1) ?_ | (refine Br.mk (fun h => ?_) (fun h => ?_) <;> first | (exfalso; omega; done) | (exfalso; simp at h; done) | skip))
    repeat refine Mm.mk ?_
    conv => whnf
    refine EndVC.mk _ rfl _ _ (.inl ⟨hE, rfl, rfl⟩) ?_
    refine ⟨[some 0], rfl, rfl, ?_, ?_⟩ <;> repeat' (first | exact trivial | exact rfl | apply And.intro)
  · repeat' ((conv => whnf); first | refine CallVC.pure rfl (c1) ?_ | (refine Br.mk (fun h => ?_) (fun h => ?_) <;> first | (exfalso; omega; done) | (exfalso; simp at h; done) | skip))
    repeat refine Mm.mk ?_
    conv => whnf
    refine EndVC.mk _ rfl _ _ (.inr ⟨hE, rfl, rfl⟩) ?_
    refine ⟨[], rfl, rfl, ?_, ?_⟩ <;> repeat' (first | exact trivial | exact rfl | apply And.intro)
end Go.Sx

namespace Go.Sx
open Go Go.Proofs
set_option maxRecDepth 10000
set_option maxHeartbeats 4000000
/-! ### The names of takes in a map -/
theorem keyEqS (c : List Cell) (a : ByteArray) : keyEq [.str] c [.str a] = match c with | [] => false | x :: _ => decide (x.toStr = a) := by
  cases c with
  | nil => rfl
  | cons x c => simp [keyEq, cellEq, Cell.toStr]; rfl
theorem mfind_mputS (a b : ByteArray) (v : List Cell) : ∀ (l : MapL), mfind [.str] (mput [.str] l [.str a] v) [.str b] = if a = b then some v else mfind [.str] l [.str b]
  | [] => by
    simp only [mput, mfind, keyEqS, Cell.toStr]
    by_cases h : a = b <;> simp [h]
  | p :: l => by
    have ih := mfind_mputS a b v l
    simp only [mput]
    cases h1 : keyEq [.str] p.1 [.str a] with
    | true =>
      simp only [mfind]
      by_cases h : a = b
      · subst h; simp [keyEqS, Cell.toStr]
      · have h2 : keyEq [.str] p.1 [.str b] = false := by
          rw [keyEqS] at h1 ⊢
          split at h1
          · cases h1
          · rename_i x c hp
            simp only [decide_eq_true_eq] at h1
            simp only [decide_eq_false_iff_not]
            rw [h1]; exact h
        simp [keyEqS, Cell.toStr, h, h2, keyEqS] at h2 ⊢
    | false =>
      simp only [mfind]
      cases h2 : keyEq [.str] p.1 [.str b] with
      | true =>
        have : a ≠ b := fun h => by rw [h, h2] at h1; cases h1
        simp [this]
      | false => simpa using ih
theorem mput_len (kk : List CK) (k v : List Cell) : ∀ l : MapL, (mput kk l k v).length = if mfind kk l k = none then l.length + 1 else l.length
  | [] => by simp [mput, mfind]
  | p :: l => by
    have ih := mput_len kk k v l
    by_cases h : keyEq kk p.1 k = true
    · simp [mput, mfind, h]
    · have h' : keyEq kk p.1 k = false := by simpa using h
      simp only [mput, mfind, h', List.length_cons, ih]
      split <;> rfl
theorem s196 (l : List Tak) (hT : TaksOK l) : PSpec Tryz.prog 45 [lT l] (.x (I 0)) := by
  have ll := takA_len l
  have h1 := hT.len
  refine spec_of pMix (O := []) Tryz.func45 (c := bodyOf Tryz.f45) rfl (by kernel_rfl) (by kernel_rfl) Tryz.ntmps45 (res := [.tmp 2]) (by kernel_rfl) ?_
  repeat' ((conv => whnf); first | (refine Br.mk (fun h => ?_) (fun h => ?_) <;> first | (exfalso; omega; done) | (exfalso; simp at h; done) | skip))
  refine LoopVC.mk (fun n st => ∃ (i : Nat) (m : MapL), i ≤ l.length ∧ n = l.length - i ∧ m.length = i ∧ (∀ b, mfind [.str] m [.str b] = none ↔ ∀ j, j < i → (l.getD j t0).nm ≠ b) ∧ st = ⟨0, envA 49 [(0, .x (lT l)), (3, .int .i64 0), (4, .x (.one (.map 0))), (17, .x (lT l)), (18, .int .i64 (l.length : Int)), (19, .int .i64 (i : Int))], [some (.mp false false [.str] [.int .i64] m none)]⟩) _ _ ⟨0, [], Nat.zero_le _, rfl, rfl, fun b => by simp [mfind], rfl⟩ ?_ ?_
  · refine ⟨[some 0], rfl, rfl, ?_, ?_⟩ <;> repeat' (first | exact trivial | exact rfl | apply And.intro)
    exact congrArg Int.ofNat ll
  rintro n _ ⟨i, m, hi, hn, hm, hf, rfl⟩
  have gd : rA (takA l) (i : Int).toNat (0 + 1) = smpA (l.getD i t0).d := takA_d l i
  have gn : rS (takA l) (i : Int).toNat 0 = (l.getD i t0).nm := takA_n l i
  by_cases hi' : i < l.length
  · have hok := hT.each i hi'
    have c1 : PSpec Tryz.prog 70 [.agg [.str (rS (takA l) (i : Int).toNat 0), .lst true KS (rA (takA l) (i : Int).toNat (0 + 1))]] (.x (I 0)) := by rw [gd, gn]; exact s275 _ hok
    have hmf : mfind [.str] m [.str (rS (takA l) (i : Int).toNat 0)] = none := by
      rw [gn]
      exact (hf _).2 fun j hj e => hT.names i j hi' hj e.symm
    have hr : rI [mrow [.str] (zeroRow [.int .i64]) m [.str (rS (takA l) (i : Int).toNat 0)]] 0 0 = 0 := by unfold mrow; rw [hmf]; rfl
    repeat' ((conv => whnf); first | refine Rng.g ?_ | refine Ob.g ?_ | refine JoinVC.on ?_ | refine CallVC.pure rfl (c1) ?_ | (refine Br.mk (fun h => ?_) (fun h => ?_) <;> first | (exfalso; omega; done) | (exfalso; simp at h; done) | skip))
    refine Back.mk (l.length - (i + 1)) _ (by omega) ⟨i + 1, mput [.str] m [.str (rS (takA l) (i : Int).toNat 0)] [.int (rI [mrow [.str] (zeroRow [.int .i64]) m [.str (rS (takA l) (i : Int).toNat 0)]] 0 0 + 1)], by omega, rfl, ?_, fun b => ?_, rfl⟩ ?_
    · rw [mput_len, if_pos hmf, hm]
    · rw [mfind_mputS, gn]
      by_cases hb : (l.getD i t0).nm = b
      · rw [if_pos hb]
        exact ⟨fun h => (by cases h), fun h => absurd hb (h i (Nat.lt_succ_self i))⟩
      · rw [if_neg hb, hf b]
        refine ⟨fun h j hj => ?_, fun h j hj => h j (by omega)⟩
        rcases Nat.lt_succ_iff_lt_or_eq.1 hj with h' | rfl
        · exact h j h'
        · exact hb
    · refine ⟨[some 0], rfl, rfl, ?_, ?_⟩ <;> repeat' (first | exact trivial | exact rfl | apply And.intro)
  · repeat' ((conv => whnf); first | refine JoinVC.on ?_ | (refine Br.mk (fun h => ?_) (fun h => ?_) <;> first | (exfalso; omega; done) | (exfalso; simp at h; done) | skip))
    repeat refine Mm.mk ?_
    refine EndVC.mk _ rfl _ _ ⟨rfl, rfl⟩ ?_
    refine ⟨[], rfl, rfl, ?_, ?_⟩ <;> repeat' (first | exact trivial | exact rfl | apply And.intro)
/-! ### Parts in a programme -/
@[reducible] def bG (i : Nat) (T : List Tak) (n : Int) : Blk := .box 77 [.lst true KT (takA T), .own i, .int .i64 n]
@[reducible] def K10 : List CK := [.int .i64, .int .i64, .int .i64, .int .i64, .int .i64, .int .i64, .int .i64, .int .i64, .int .i64, .int .i64]
@[reducible] def KG : List CK := [.sl KT, .sl K10, .int .i64]
@[reducible] def gX (T : List Tak) (A : Arr) (n : Int) : XV := .one (.lel true KG [[.sl (takA T), .sl A, .int n]] 0 0)
theorem s197 (T : List Tak) (A : Arr) (n : Int) (p : Prt) (hp : partOK T p) : PSpec Tryz.prog 46 [gX T A n, p.x] (xP True) := by
  have ll := takA_len T
  have gl : (rA (takA T) p.tk.toNat (0 + (0 + 1))).length = (T.getD p.tk.toNat t0).d.length := (congrArg List.length (takA_d T _)).trans (smpA_len _)
  have hq := hp
  unfold partOK at hq
  have e0 : rA [[Cell.sl (takA T), .sl A, .int n]] 0 0 = takA T := rfl
  refine spec_of pMix (O := []) Tryz.func46 (c := bodyOf Tryz.f46) rfl (by kernel_rfl) (by kernel_rfl) Tryz.ntmps46 (res := [.tmp 4]) (by kernel_rfl) ?_
  repeat' ((conv => whnf); first | rw [e0] | refine Ob.g ?_ | refine CallVC.pure rfl (s125 _ _ _) ?_ | (refine Br.mk (fun h => ?_) (fun h => ?_) <;> first | (exfalso; omega; done) | (exfalso; simp at h; done) | skip))
  repeat refine Mm.mk ?_
  refine EndVC.mk _ rfl _ _ ⟨rfl, rfl⟩ ?_
  refine ⟨[], rfl, rfl, ?_, ?_⟩ <;> repeat' (first | exact trivial | apply And.intro)
  show _ ↔ _
  simp
  omega
end Go.Sx

namespace Go.Sx
open Go Go.Proofs
set_option maxRecDepth 10000
set_option maxHeartbeats 4000000
/-- A part with its place. -/
def plcR (l : List Prt) (i : Nat) : List Cell := [.int (l.getD i p0).tk, .int (l.getD i p0).fr, .int (l.getD i p0).to, .int (l.getD i p0).gap, .int (l.getD i p0).inn, .int (l.getD i p0).out, .int (l.getD i p0).lev, .int (i : Int), .int (begP l i), .int (begP l i + (l.getD i p0).long)]
def plcA (l : List Prt) (n : Nat) : Arr := (List.range n).map (plcR l)
theorem plcA_len (l : List Prt) (n : Nat) : (plcA l n).length = n := by simp [plcA]
theorem plcA_snoc (l : List Prt) (n : Nat) : plcA l (n + 1) = plcA l n ++ [plcR l n] := by simp [plcA, List.range_succ]
theorem plcA_at (l : List Prt) (n i : Nat) (h : i < n) : (plcA l n).getD i [] = plcR l i := by
  simp [plcA, List.getD_eq_getElem?_getD, List.getElem?_range h]
theorem plc_8 (l : List Prt) (n i : Nat) (h : i < n) : rI (plcA l n) i (0 + 1 + 1 + 1 + 1 + 1 + 1 + 1 + 1) = begP l i := by simp only [rI, cellAt, plcA_at l n i h]; rfl
theorem plc_9 (l : List Prt) (n i : Nat) (h : i < n) : rI (plcA l n) i (0 + 1 + 1 + 1 + 1 + 1 + 1 + 1 + 1 + 1) = begP l i + (l.getD i p0).long := by simp only [rI, cellAt, plcA_at l n i h]; rfl
@[reducible] def rowG (A : Arr) : Blk := .row 79 false K10 A
theorem eb206 : Tryz.t79.bytes = 80 := by kernel_rfl
theorem Poss.mono {l : List Prt} (_hb : PBs l) (hP : Poss l) {i : Nat} (h0 : 0 < i) (hi : i < l.length) : begP l (i - 1) + (l.getD (i - 1) p0).long ≤ begP l i + (l.getD i p0).long ∧ begP l (i - 1) ≤ begP l i := by
  have h1 := hP.gap i h0 hi
  have h2 := endP_succ l (show i - 1 < l.length by omega)
  have h3 : i - 1 + 1 = i := by omega
  rw [h3] at h2
  have h4 : begP l i = endP (l.take i) + (l.getD i p0).gap := rfl
  omega
theorem s100 (T : List Tak) (l : List Prt) (hP : ProgOK T l) : HSpec Tryz.prog 22 [lT T, lP l] [] (fun r m' => r = .tup [.one (.ptr 0 0), I 0] ∧ m' = [some (bG 1 T (endP l)), some (rowG (plcA l l.length))]) := by
  have ll := prtA_len l
  have hb := hP.pbs
  have h32 := hb.1
  have hst := hP.poss.stop
  have hbd : ∀ k, k < l.length → -300000 ≤ begP l k ∧ begP l k ≤ 300000 ∧ 0 < (l.getD k p0).long ∧ (l.getD k p0).long ≤ 4096 := fun k hk => by
    have h1 := endP_bd hb k (by omega)
    have h2 := hb.2 k hk
    obtain ⟨h3, h4, h5⟩ := h2
    unfold begP Prt.long
    omega
  refine spec_of pMix (O := [(12, ([10], [⟨0, [], []⟩, ⟨1, [], []⟩, ⟨2, [], []⟩, ⟨3, [], []⟩, ⟨4, [], []⟩, ⟨5, [], []⟩, ⟨6, [], []⟩, ⟨7, [], []⟩, ⟨8, [], []⟩, ⟨9, [], []⟩, ⟨10, [], []⟩, ⟨11, [], []⟩])), (14, ([], [⟨0, [], []⟩, ⟨1, [], []⟩, ⟨2, [], []⟩, ⟨3, [], []⟩, ⟨4, [], []⟩, ⟨5, [], [6]⟩, ⟨6, [], []⟩, ⟨7, [0], []⟩, ⟨8, [], []⟩, ⟨9, [], []⟩, ⟨10, [], []⟩]))]) Tryz.func22 (c := bodyOf Tryz.f22) rfl (by kernel_rfl) (by kernel_rfl) Tryz.ntmps22 (res := [.tmp 4, .tmp 5]) (by kernel_rfl) ?_
  repeat' ((conv => whnf); first | refine CallVC.pure rfl (s196 T hP.takes) ?_ | (refine Br.mk (fun h => ?_) (fun h => ?_) <;> first | (exfalso; omega; done) | (exfalso; simp at h; done) | skip))
  refine LoopVC.mk (fun n st => ∃ (i : Nat), i ≤ l.length ∧ n = l.length - i ∧ st = ⟨0, envA 135 [(0, .x (lT T)), (1, .x (lP l)), (7, .x (.one (.ptr 0 0))), (25, .x (lP l)), (26, .int .i64 (l.length : Int)), (27, .int .i64 (i : Int))], [some (bG 1 T (endP (l.take i))), some (rowG (plcA l i))]⟩) _ _ ⟨0, Nat.zero_le _, rfl, rfl⟩ ?_ ?_
  · refine ⟨[some 0, none], rfl, rfl, ?_, ?_⟩ <;> repeat' (first | exact trivial | exact rfl | apply And.intro)
    exact congrArg Int.ofNat ll
  rintro n _ ⟨i, hi, hn, rfl⟩
  by_cases hi' : i < l.length
  · have c1 : PSpec Tryz.prog 46 [gX T (plcA l i) (endP (l.take i)), prtX l i] (xP True) := by rw [prtX_eq]; exact s197 T _ _ _ (hP.parts i hi')
    have g1 : rI (prtA l) (i : Int).toNat (0 + 1) = (l.getD i p0).fr := prtA_1 l i
    have g2 : rI (prtA l) (i : Int).toNat (0 + 1 + 1) = (l.getD i p0).to := prtA_2 l i
    have g3 : rI (prtA l) (i : Int).toNat (0 + 1 + 1 + 1) = (l.getD i p0).gap := prtA_3 l i
    have hbi := hbd i hi'
    have hpi := hb.2 i hi'
    obtain ⟨b1, b2, b3⟩ := hpi
    have hlo : (l.getD i p0).long = (l.getD i p0).to - (l.getD i p0).fr := rfl
    have hbg : begP l i = endP (l.take i) + (l.getD i p0).gap := rfl
    have lp := plcA_len l i
    have g0 : rI (prtA l) (i : Int).toNat 0 = (l.getD i p0).tk := prtA_0 l i
    have g4 : rI (prtA l) (i : Int).toNat (0 + 1 + 1 + 1 + 1) = (l.getD i p0).inn := prtA_4 l i
    have g5 : rI (prtA l) (i : Int).toNat (0 + 1 + 1 + 1 + 1 + 1) = (l.getD i p0).out := prtA_5 l i
    have g6 : rI (prtA l) (i : Int).toNat (0 + 1 + 1 + 1 + 1 + 1 + 1) = (l.getD i p0).lev := prtA_6 l i
    have he := endP_succ l hi'
    repeat' ((conv => whnf); first | refine Rng.g ?_ | refine Ob.g ?_ | refine CallVC.pure rfl (c1) ?_ | (refine Br.mk (fun h => ?_) (fun h => ?_) <;> first | (exfalso; omega; done) | (exfalso; simp at h; done) | skip))
    repeat refine Mm.mk ?_
    refine Ob.mk (by simp only [lp, eb206, List.length_cons, List.length_nil]; omega) ?_
    repeat' ((conv => whnf); first | refine Rng.g ?_ | fail)
    refine Back.mk (l.length - (i + 1)) _ (by omega) ⟨i + 1, by omega, rfl, rfl⟩ ?_
    refine ⟨[some 0, some 5], rfl, rfl, ?_, ?_⟩ <;> repeat' (first | exact trivial | exact rfl | apply And.intro)
    · rw [he, g1, g2, g3, hbg, hlo]; omega
    · rw [plcA_snoc, g0, g1, g2, g3, g4, g5, g6]
      unfold plcR
      rw [hbg, hlo]
      have e : endP (l.take i) + (l.getD i p0).gap + (l.getD i p0).to - (l.getD i p0).fr = endP (l.take i) + (l.getD i p0).gap + ((l.getD i p0).to - (l.getD i p0).fr) := by omega
      rw [e]
  have e1 : l.take i = l := List.take_of_length_le (by omega)
  have e2 : i = l.length := by omega
  rw [e1]
  subst e2
  clear hi hi' hn e1
  have lp := plcA_len l l.length
  repeat' ((conv => whnf); first | (refine Br.mk (fun h => ?_) (fun h => ?_) <;> first | (exfalso; omega; done) | (exfalso; simp at h; done) | skip))
  refine LoopVC.mk (fun n st => ∃ (i : Nat), i ≤ l.length ∧ n = l.length - i ∧ st = ⟨0, envA 135 [(7, .x (.one (.ptr 0 0))), (11, .int .i64 (if 1 < i then begP l (i - 2) + (l.getD (i - 2) p0).long else 0)), (74, .x (.one (.own 1))), (75, .int .i64 (l.length : Int)), (76, .int .i64 (i : Int))], [some (bG 1 T (endP l)), some (rowG (plcA l l.length))]⟩) _ _ ⟨0, Nat.zero_le _, rfl, rfl⟩ ?_ ?_
  · refine ⟨[some 0, some 1], rfl, rfl, ?_, ?_⟩ <;> repeat' (first | exact trivial | exact rfl | apply And.intro)
    exact congrArg Int.ofNat lp
  rintro n _ ⟨i, hi, hn, rfl⟩
  by_cases hi' : i < l.length
  · have g8 : rI (plcA l l.length) (i : Int).toNat (0 + 1 + 1 + 1 + 1 + 1 + 1 + 1 + 1) = begP l i := plc_8 l _ i hi'
    have g9 : rI (plcA l l.length) (i : Int).toNat (0 + 1 + 1 + 1 + 1 + 1 + 1 + 1 + 1 + 1) = begP l i + (l.getD i p0).long := plc_9 l _ i hi'
    have hbi := hbd i hi'
    have hng := begP_nonneg hb hP.poss i hi'
    by_cases hz : i = 0
    · subst hz
      rw [if_neg (by omega)]
      repeat' ((conv => whnf); first | refine Rng.g ?_ | refine Ob.g ?_ | refine JoinVC.on ?_ | (refine Br.mk (fun h => ?_) (fun h => ?_) <;> first | (exfalso; omega; done) | (exfalso; simp at h; done) | skip))
      refine Back.mk (l.length - (0 + 1)) _ (by omega) ⟨0 + 1, by omega, rfl, rfl⟩ ?_
      refine ⟨[some 0, some 1], rfl, rfl, ?_, ?_⟩ <;> repeat' (first | exact trivial | exact rfl | apply And.intro)
    · have e1 : ((i : Int) - 1).toNat = i - 1 := by omega
      have m8 : rI (plcA l l.length) ((i : Int) - 1).toNat (0 + 1 + 1 + 1 + 1 + 1 + 1 + 1 + 1) = begP l (i - 1) := by rw [e1]; exact plc_8 l _ _ (by omega)
      have m9 : rI (plcA l l.length) ((i : Int) - 1).toNat (0 + 1 + 1 + 1 + 1 + 1 + 1 + 1 + 1 + 1) = begP l (i - 1) + (l.getD (i - 1) p0).long := by rw [e1]; exact plc_9 l _ _ (by omega)
      have hm := hP.poss.mono hb (by omega) hi'
      obtain ⟨v, hv⟩ : ∃ v, v = (if 1 < i then begP l (i - 2) + (l.getD (i - 2) p0).long else 0) := ⟨_, rfl⟩
      have hv2 : v ≤ begP l i := by
        rw [hv]
        split
        · exact hP.poss.free i (by omega) hi'
        · exact hng
      rw [← hv]
      repeat' ((conv => whnf); first | refine Rng.g ?_ | refine Ob.g ?_ | refine JoinVC.on ?_ | (refine Br.mk (fun h => ?_) (fun h => ?_) <;> first | (exfalso; omega; done) | (exfalso; simp at h; done) | skip))
      refine Back.mk (l.length - (i + 1)) _ (by omega) ⟨i + 1, by omega, rfl, rfl⟩ ?_
      refine ⟨[some 0, some 1], rfl, rfl, ?_, ?_⟩ <;> repeat' (first | exact trivial | exact rfl | apply And.intro)
      rw [m9, if_pos (by omega)]
      rfl
  · repeat' ((conv => whnf); first | (refine Br.mk (fun h => ?_) (fun h => ?_) <;> first | (exfalso; omega; done) | (exfalso; simp at h; done) | skip))
    repeat refine Mm.mk ?_
    refine EndVC.mk _ rfl _ _ ⟨rfl, rfl⟩ ?_
    refine ⟨[some 0, some 1], rfl, rfl, ?_, ?_⟩ <;> repeat' (first | exact trivial | exact rfl | apply And.intro)
end Go.Sx

namespace Go.Sx
open Go Go.Proofs
set_option maxRecDepth 10000
set_option maxHeartbeats 4000000
/-- The gain of a sample of a part. -/
theorem s199 (n d s : Int) (hd : 0 < d) (hn : -9000000000000000000 ≤ s * n ∧ s * n ≤ 9000000000000000000) (hq : -9000000000000000000 ≤ (s * n).tdiv d ∧ (s * n).tdiv d ≤ 9000000000000000000) : PSpec Tryz.prog 48 [.agg [.int .i64 n, .int .i64 d], I s] (.x (I ((s * n).tdiv d))) := by
  refine spec_of pMix (O := []) Tryz.func48 (c := bodyOf Tryz.f48) rfl (by kernel_rfl) (by kernel_rfl) Tryz.ntmps48 (res := [.tmp 4]) (by kernel_rfl) ?_
  repeat' ((conv => whnf); first | refine Rng.g ?_ | refine Ob.g ?_ | fail)
  refine Val.mk _ rfl ?_
  repeat' ((conv => whnf); first | refine Rng.g ?_ | fail)
  repeat refine Mm.mk ?_
  refine EndVC.mk _ rfl _ _ ⟨rfl, rfl⟩ ?_
  refine ⟨[], rfl, rfl, ?_, ?_⟩ <;> repeat' (first | exact trivial | exact rfl | apply And.intro)
@[reducible] def plcX (p : Prt) (i b e : Int) : XV := .agg [.int .i64 p.tk, .int .i64 p.fr, .int .i64 p.to, .int .i64 p.gap, .int .i64 p.inn, .int .i64 p.out, .int .i64 p.lev, .int .i64 i, .int .i64 b, .int .i64 e]
theorem s198 (p : Prt) (i b k lev : Int) (hF : PF p k lev) (_hb : 0 ≤ b ∧ b ≤ 100000) : PSpec Tryz.prog 47 [plcX p i b (b + p.long), I k, I lev] (.x (.agg [.int .i64 (lev * upF p k * dnF p k), .int .i64 (denF p)])) := by
  have hp := hF.pb
  have h1 := hp.fr; have h2 := hp.to; have h3 := hF.inn; have h4 := hF.out; have h5 := hF.k; have h6 := hF.lev
  have hd := hF.den
  have hL : p.long = p.to - p.fr := rfl
  have hup := hF.up; have hdn := hF.dn
  have hu : (if p.inn < k then p.inn else k) + 1 = upF p k := by unfold upF; split <;> rfl
  have hn : (if p.out < b + p.long - b - k - 1 then p.out else b + p.long - b - k - 1) + 1 = dnF p k := by unfold dnF; split <;> split <;> omega
  have m1 := mul_rng (a := lev) (b := upF p k) (A := 4000) (B := 1001) (by omega) (by omega)
  have m2 := mul_rng (a := lev * upF p k) (b := dnF p k) (A := 4004000) (B := 1001) (by omega) (by omega)
  have hd' : 1000 ≤ 1000 * (p.inn + 1) * (p.out + 1) ∧ 1000 * (p.inn + 1) * (p.out + 1) ≤ 1002001000 := hd
  refine spec_of pMix (O := []) Tryz.func47 (c := bodyOf Tryz.f47) rfl (by kernel_rfl) (by kernel_rfl) Tryz.ntmps47 (res := [.cell 6 123]) (by kernel_rfl) ?_
  repeat' ((conv => whnf); first | rw [hu] | rw [hn] | refine Rng.g ?_ | refine Mm.mk ?_)
  repeat refine Mm.mk ?_
  refine EndVC.mk _ rfl _ _ ⟨rfl, rfl⟩ ?_
  refine ⟨[], rfl, rfl, ?_, ?_⟩ <;> repeat' (first | exact trivial | exact rfl | apply And.intro)
theorem loud_assoc (s : Int) (p : Prt) (k lev : Int) : (s * (lev * upF p k * dnF p k)).tdiv (denF p) = loudF s p k lev := by
  unfold loudF
  rw [← Int.mul_assoc, ← Int.mul_assoc]
theorem s102 (T : List Tak) (A : Arr) (n : Int) (p : Prt) (i b k lev : Int) (hF : SF T p k lev) (hb : 0 ≤ b ∧ b ≤ 100000) : PSpec Tryz.prog 24 [gX T A n, plcX p i b (b + p.long), I k, I lev] (.x (sndF T p k lev).x) := by
  have lt := takA_len T
  have ho := hF.ok
  unfold partOK at ho
  have hk := hF.k
  have hL : p.long = p.to - p.fr := rfl
  have hbt := hF.pf.pb.to
  have e0 : rA [[Cell.sl (takA T), .sl A, .int n]] 0 0 = takA T := rfl
  have gd : rA (takA T) p.tk.toNat (0 + (0 + 1)) = smpA (T.getD p.tk.toNat t0).d := takA_d T _
  have gl : (rA (takA T) p.tk.toNat (0 + (0 + 1))).length = (T.getD p.tk.toNat t0).d.length := (congrArg List.length gd).trans (smpA_len _)
  have hs := hF.smp
  unfold Smp.ok at hs
  have hd := hF.pf.den
  have key : ∀ v, -32767 ≤ v ∧ v ≤ 32767 → PSpec Tryz.prog 48 [.agg [.int .i64 (lev * upF p k * dnF p k), .int .i64 (denF p)], I v] (.x (I (loudF v p k lev))) := fun v hv => by
    rw [← loud_assoc]
    have h1 := hF.pf.steps hv
    have h2 := hF.pf.loud hv
    refine s199 _ _ v (by omega) ?_ (by rw [loud_assoc]; omega)
    rw [← Int.mul_assoc, ← Int.mul_assoc]; omega
  have c1 : PSpec Tryz.prog 48 [.agg [.int .i64 (lev * upF p k * dnF p k), .int .i64 (denF p)], I (rI (rA (takA T) p.tk.toNat (0 + (0 + 1))) (p.fr + k).toNat 0)] (.x (I (sndF T p k lev).l)) := by
    rw [gd, smpA_l]; exact key _ (by unfold smpAt at hs; omega)
  have c2 : PSpec Tryz.prog 48 [.agg [.int .i64 (lev * upF p k * dnF p k), .int .i64 (denF p)], I (rI (rA (takA T) p.tk.toNat (0 + (0 + 1))) (p.fr + k).toNat (0 + (0 + 1)))] (.x (I (sndF T p k lev).r)) := by
    rw [gd, smpA_r]; exact key _ (by unfold smpAt at hs; omega)
  refine spec_of pMix (O := [(2, ([17], [⟨0, [], []⟩, ⟨1, [], []⟩, ⟨2, [], []⟩, ⟨3, [], []⟩, ⟨4, [], []⟩, ⟨5, [], []⟩, ⟨6, [], []⟩, ⟨7, [], []⟩, ⟨8, [], []⟩, ⟨9, [], []⟩, ⟨10, [], []⟩, ⟨11, [], []⟩, ⟨12, [], []⟩, ⟨13, [], []⟩, ⟨14, [], []⟩, ⟨15, [], []⟩, ⟨16, [], []⟩, ⟨17, [], []⟩, ⟨18, [], []⟩])), (3, ([], [⟨0, [], []⟩, ⟨1, [], []⟩, ⟨2, [], []⟩, ⟨4, [], []⟩, ⟨5, [], []⟩, ⟨6, [], []⟩, ⟨3, [4, 5, 6], []⟩, ⟨7, [], []⟩, ⟨8, [], []⟩, ⟨9, [], []⟩]))]) Tryz.func24 (c := bodyOf Tryz.f24) rfl (by kernel_rfl) (by kernel_rfl) Tryz.ntmps24 (res := [.cell 8 81]) (by kernel_rfl) ?_
  repeat' ((conv => whnf); first | rw [e0] | refine Rng.g ?_ | refine Ob.g ?_ | refine CallVC.pure rfl (s198 p i b k lev hF.pf hb) ?_ | refine CallVC.pure rfl (c2) ?_ | refine CallVC0.pure rfl (c1) ?_)
  repeat refine Mm.mk ?_
  refine EndVC.mk _ rfl _ _ ⟨rfl, rfl⟩ ?_
  refine ⟨[], rfl, rfl, ?_, ?_⟩ <;> repeat' (first | exact trivial | exact rfl | apply And.intro)
end Go.Sx

namespace Go.Sx
open Go Go.Proofs
set_option maxRecDepth 10000
set_option maxHeartbeats 4000000
theorem s101 (a b : Smp) (ha : (-5000000 ≤ a.l ∧ a.l ≤ 5000000) ∧ (-5000000 ≤ a.r ∧ a.r ≤ 5000000)) (hb : (-5000000 ≤ b.l ∧ b.l ≤ 5000000) ∧ (-5000000 ≤ b.r ∧ b.r ≤ 5000000)) : PSpec Tryz.prog 23 [a.x, b.x] (.x (addS a b).x) := by
  refine spec_of pMix (O := []) Tryz.func23 (c := bodyOf Tryz.f23) rfl (by kernel_rfl) (by kernel_rfl) Tryz.ntmps23 (res := [.cell 4 81]) (by kernel_rfl) ?_
  repeat' ((conv => whnf); first | refine Rng.g ?_ | fail)
  repeat refine Mm.mk ?_
  refine EndVC.mk _ rfl _ _ ⟨rfl, rfl⟩ ?_
  refine ⟨[], rfl, rfl, ?_, ?_⟩ <;> repeat' (first | exact trivial | exact rfl | apply And.intro)
/-- What is rendered, part by part. -/
structure Acc (T : List Tak) (l : List Prt) (O : List Smp) (i : Nat) (e : Int) : Prop where
  len : O.length = (endP l).toNat
  get : ∀ t : Nat, t < (endP l).toNat → O.getD t s0 = if begP l i ≤ t ∧ (t : Int) < e then sumI T l t (srcI l t (i + 1)) else sumI T l t (srcI l t i)
theorem Acc.next {T : List Tak} {l : List Prt} {O : List Smp} {i : Nat} (h : Acc T l O i (begP l i + (l.getD i p0).long)) : Acc T l O (i + 1) (begP l (i + 1)) := by
  refine ⟨h.len, fun t ht => ?_⟩
  rw [h.get t ht, if_neg (by omega : ¬ (begP l (i + 1) ≤ (t : Int) ∧ (t : Int) < begP l (i + 1)))]
  split
  · rfl
  · rename_i hn
    rw [srcI_succ, if_neg (show ¬ onB l t i = true from fun h => hn (of_decide_eq_true h)), List.append_nil]
theorem Acc.step {T : List Tak} {l : List Prt} {O : List Smp} {i : Nat} {t : Nat} (h : Acc T l O i t) (ht : t < (endP l).toNat) (h1 : begP l i ≤ t) (h2 : (t : Int) < begP l i + (l.getD i p0).long) : Acc T l (O.set t (addS (O.getD t s0) (sndI T l t i))) i (t + 1 : Nat) := by
  have hl := h.len
  refine ⟨by rw [List.length_set]; exact hl, fun u hu => ?_⟩
  rw [getD_set' _ _ _ _ _ (by omega)]
  by_cases e : t = u
  · subst e
    rw [if_pos rfl, if_pos ⟨h1, by omega⟩, h.get t ht, if_neg (by omega), srcI_succ, if_pos (show onB l t i = true from decide_eq_true ⟨h1, h2⟩), sumI_snoc]
  · rw [if_neg e, h.get u hu]
    by_cases h3 : begP l i ≤ u ∧ (u : Int) < t
    · rw [if_pos h3, if_pos ⟨h3.1, by omega⟩]
    · rw [if_neg h3, if_neg (by omega)]
theorem Acc.fin {T : List Tak} {l : List Prt} {O : List Smp} (h : Acc T l O l.length (begP l l.length)) : O = rend T l := by
  refine List.ext_getElem (by rw [h.len, rend_len]) fun j h1 h2 => ?_
  have h3 := h.get j (by rw [← h.len]; exact h1)
  rw [if_neg (by omega)] at h3
  have h4 := rend_get T l j (by rw [← h.len]; exact h1)
  unfold rendAt at h4
  rw [← h4] at h3
  simpa [List.getD_eq_getElem?_getD, h1, h2] using h3
theorem sumI_bd2 {T : List Tak} {l : List Prt} (hP : ProgOK T l) (t : Int) {i : Nat} (hi : i ≤ l.length) : (-4194176 ≤ (sumI T l t (srcI l t i)).l ∧ (sumI T l t (srcI l t i)).l ≤ 4194176) ∧ (-4194176 ≤ (sumI T l t (srcI l t i)).r ∧ (sumI T l t (srcI l t i)).r ≤ 4194176) := by
  have h1 := sumI_bd (T := T) (l := l) (t := t) (L := srcI l t i) (fun j hj => hP.sf (by
    obtain ⟨h2, h3, h4⟩ := srcI_mem hj
    unfold srcI
    rw [List.mem_filter, List.mem_range]
    exact ⟨by omega, decide_eq_true ⟨h3, h4⟩⟩))
  have h2 := srcI_len l t i
  have h3 := hP.len
  omega
theorem plc_x (l : List Prt) (n i : Nat) (h : i < n) (j : Nat) : rI (plcA l n) i j = ((plcR l i).getD j (.int 0)).toInt := by simp only [rI, cellAt, plcA_at l n i h]
theorem Poss.inside {l : List Prt} (hb : PBs l) (hP : Poss l) : ∀ k i, i + k = l.length → 0 < k → begP l i + (l.getD i p0).long ≤ endP l := by
  intro k
  induction k with
  | zero => intro i _ h; omega
  | succ k ih =>
    intro i hi _
    by_cases hk : k = 0
    · have h2 := endP_succ l (show i < l.length by omega)
      have h3 : i + 1 = l.length := by omega
      rw [h3, List.take_length] at h2
      omega
    · have h1 := ih (i + 1) (by omega) (by omega)
      have h2 := hP.mono hb (i := i + 1) (by omega) (by omega)
      have h3 : i + 1 - 1 = i := by omega
      rw [h3] at h2
      omega
theorem s26 (T : List Tak) (l : List Prt) (hP : ProgOK T l) : HSpec Tryz.prog 10 [lT T, lP l] [] (fun r m' => (smpE (rend T l) = 0 ∧ r = .tup [.one (.own 0), I 0] ∧ m' = [some (rowS (rend T l))]) ∨ (smpE (rend T l) ≠ 0 ∧ r = .tup [.one .nils, I 4] ∧ m' = [])) := by
  have hb := hP.pbs
  have h32 := hb.1
  have he := endP_nonneg hb hP.poss
  have he2 := hP.poss.stop
  have lp := plcA_len l l.length
  refine spec_of pMix (O := [(11, ([], [⟨0, [], []⟩, ⟨1, [], []⟩, ⟨2, [], []⟩, ⟨3, [], []⟩, ⟨4, [], []⟩, ⟨5, [], []⟩, ⟨6, [], []⟩, ⟨7, [], []⟩, ⟨8, [], []⟩, ⟨9, [], []⟩, ⟨10, [], []⟩, ⟨11, [], []⟩, ⟨12, [], []⟩, ⟨13, [], []⟩, ⟨14, [], []⟩, ⟨15, [0, 1, 2, 3, 4, 5], []⟩, ⟨16, [0, 1], []⟩, ⟨17, [], []⟩, ⟨18, [], []⟩]))]) Tryz.func10 (c := bodyOf Tryz.f10) rfl (by kernel_rfl) (by kernel_rfl) Tryz.ntmps10 (res := [.tmp 4, .tmp 5]) (by kernel_rfl) ?_
  repeat' ((conv => whnf); first | refine Rng.g ?_ | fail)
  conv => whnf
  refine CallVC.mk [] _ _ _ rfl rfl rfl (s100 T l hP) (fun r m' h' => ?_)
  obtain ⟨rfl, rfl⟩ := h'
  conv => whnf
  repeat' ((conv => whnf); first | (refine Br.mk (fun h => ?_) (fun h => ?_) <;> first | (exfalso; omega; done) | (exfalso; simp at h; done) | skip))
  repeat refine Mm.mk ?_
  refine Ob.mk (by simp only [eb47]; omega) ?_
  repeat' ((conv => whnf); first | refine Rng.g ?_ | fail)
  refine LoopVC.mk (fun n st => ∃ (i : Nat) (O : List Smp), i ≤ l.length ∧ n = l.length - i ∧ Acc T l O i (begP l i) ∧ st = ⟨0, envA 66 [(6, .x (.one (.ptr 0 0))), (8, .x (.one (.own 2))), (29, .x (.one (.own 1))), (30, .int .i64 (l.length : Int)), (31, .int .i64 (i : Int))], [some (bG 1 T (endP l)), some (rowG (plcA l l.length)), some (rowS O)]⟩) _ _ ⟨0, List.replicate (endP l).toNat s0, Nat.zero_le _, rfl, ⟨by simp, fun t ht => by rw [if_neg (by omega)]; simp [List.getD_eq_getElem?_getD, List.getElem?_replicate, srcI, sumI]; split <;> rfl⟩, rfl⟩ ?_ ?_
  · refine ⟨[some 0, some 1, some 2], rfl, rfl, ?_, ?_⟩ <;> repeat' (first | exact trivial | exact rfl | apply And.intro)
    · exact congrArg Int.ofNat lp
    · exact smpA_rep _
  rintro n _ ⟨i, O, hi, hn, hO, rfl⟩
  by_cases hi' : i < l.length
  · have g8 : rI (plcA l l.length) (i : Int).toNat (0 + 1 + 1 + 1 + 1 + 1 + 1 + 1 + 1) = begP l i := plc_8 l _ i hi'
    have g9 : rI (plcA l l.length) (i : Int).toNat (0 + 1 + 1 + 1 + 1 + 1 + 1 + 1 + 1 + 1) = begP l i + (l.getD i p0).long := plc_9 l _ i hi'
    have hbi := begP_nonneg hb hP.poss i hi'
    have hpi := hb.2 i hi'
    obtain ⟨b1, b2, b3⟩ := id hpi
    have hlo : (l.getD i p0).long = (l.getD i p0).to - (l.getD i p0).fr := rfl
    have hin := hP.poss.inside hb (l.length - i) i (by omega) (by omega)
    repeat' ((conv => whnf); first | refine Ob.g ?_ | (refine Br.mk (fun h => ?_) (fun h => ?_) <;> first | (exfalso; omega; done) | (exfalso; simp at h; done) | skip))
    refine LoopVC.mk (fun n st => ∃ (t : Nat) (O : List Smp), begP l i ≤ t ∧ (t : Int) ≤ begP l i + (l.getD i p0).long ∧ n = (begP l i + (l.getD i p0).long).toNat - t ∧ Acc T l O i t ∧ st = ⟨0, envA 66 [(6, .x (.one (.ptr 0 0))), (8, .x (.one (.own 2))), (10, .x (.one (.ptr 3 0))), (11, .int .i64 (t : Int)), (29, .x (.one (.own 1))), (30, .int .i64 (l.length : Int)), (31, .int .i64 (i : Int))], [some (bG 1 T (endP l)), some (rowG (plcA l l.length)), some (rowS O), some (.box 79 [.int .i64 (l.getD i p0).tk, .int .i64 (l.getD i p0).fr, .int .i64 (l.getD i p0).to, .int .i64 (l.getD i p0).gap, .int .i64 (l.getD i p0).inn, .int .i64 (l.getD i p0).out, .int .i64 (l.getD i p0).lev, .int .i64 (i : Int), .int .i64 (begP l i), .int .i64 (begP l i + (l.getD i p0).long)])]⟩) _ _ ⟨(begP l i).toNat, O, by omega, by omega, rfl, by rw [Int.toNat_of_nonneg hbi]; exact hO, rfl⟩ ?_ ?_
    · rw [Int.toNat_of_nonneg hbi]
      refine ⟨[some 0, some 1, some 2, some 3], rfl, rfl, ?_, ?_⟩ <;> repeat' (first | exact trivial | exact rfl | apply And.intro)
      all_goals (rw [Int.toNat_natCast, plc_x l _ i hi']; rfl)
    clear hO
    rintro n2 _ ⟨t, O, ht1, ht2, hn2, hO, rfl⟩
    have lO := smpA_len O
    have hOl := hO.len
    by_cases ht : (t : Int) < begP l i + (l.getD i p0).long
    · have hsf := hP.sf (t := t) (i := i) (by unfold srcI; rw [List.mem_filter, List.mem_range]; exact ⟨hi', decide_eq_true ⟨ht1, ht⟩⟩)
      have hsn : (-131068 ≤ (sndI T l t i).l ∧ (sndI T l t i).l ≤ 131068) ∧ (-131068 ≤ (sndI T l t i).r ∧ (sndI T l t i).r ≤ 131068) := hsf.snd
      have htN : t < (endP l).toNat := by omega
      have hget := hO.get t htN
      rw [if_neg (by omega)] at hget
      have hbd := sumI_bd2 hP t (i := i) (by omega)
      rw [← hget] at hbd
      have c1 : PSpec Tryz.prog 24 [gX T (plcA l l.length) (endP l), plcX (l.getD i p0) i (begP l i) (begP l i + (l.getD i p0).long), I ((t : Int) - begP l i), I (l.getD i p0).lev] (.x (sndI T l t i).x) := s102 T _ _ _ _ _ _ _ hsf (by omega)
      have a0 : rI (smpA O) (t : Int).toNat 0 = (O.getD t s0).l := by rw [Int.toNat_natCast, smpA_l]
      have a1 : rI (smpA O) (t : Int).toNat (0 + 1) = (O.getD t s0).r := by rw [Int.toNat_natCast, smpA_r]
      have c2 : PSpec Tryz.prog 23 [.agg [.int .i64 (rI (smpA O) (t : Int).toNat 0), .int .i64 (rI (smpA O) (t : Int).toNat (0 + 1))], (sndI T l t i).x] (.x (addS (O.getD t s0) (sndI T l t i)).x) := by
        rw [a0, a1]; exact s101 _ _ (by omega) (by omega)
      have u1 : updRow (smpA O) (t : Int).toNat 0 [.int (addS (O.getD t s0) (sndI T l t i)).l, .int (addS (O.getD t s0) (sndI T l t i)).r] = smpA (O.set t (addS (O.getD t s0) (sndI T l t i))) := by rw [Int.toNat_natCast]; exact smpA_set O t _ (by omega)
      repeat' ((conv => whnf); first | rw [u1] | refine Rng.g ?_ | refine Ob.g ?_ | refine CallVC.pure rfl (c2) ?_ | refine CallVC0.pure rfl (c1) ?_ | (refine Br.mk (fun h => ?_) (fun h => ?_) <;> first | (exfalso; omega; done) | (exfalso; simp at h; done) | skip))
      refine Back.mk ((begP l i + (l.getD i p0).long).toNat - (t + 1)) _ (by omega) ⟨t + 1, _, by omega, by omega, rfl, hO.step htN ht1 ht, rfl⟩ ?_
      refine ⟨[some 0, some 1, some 2, some 3], rfl, rfl, ?_, ?_⟩ <;> repeat' (first | exact trivial | exact rfl | apply And.intro)
    · have e : (t : Int) = begP l i + (l.getD i p0).long := by omega
      rw [e] at hO
      repeat' ((conv => whnf); first | refine Rng.g ?_ | (refine Br.mk (fun h => ?_) (fun h => ?_) <;> first | (exfalso; omega; done) | (exfalso; simp at h; done) | skip))
      refine Back.mk (l.length - (i + 1)) _ (by omega) ⟨i + 1, O, by omega, rfl, hO.next, rfl⟩ ?_
      refine ⟨[some 0, some 1, some 2], rfl, rfl, ?_, ?_⟩ <;> repeat' (first | exact trivial | exact rfl | apply And.intro)
  · have e1 : i = l.length := by omega
    subst e1
    rw [hO.fin]
    have c1 := s103 (rend T l)
    by_cases hE : smpE (rend T l) = 0
    · repeat' ((conv => whnf); first | refine CallVC.pure rfl (c1) ?_ | (refine Br.mk (fun h => ?_) (fun h => ?_) <;> first | (exfalso; omega; done) | (exfalso; simp at h; done) | skip))
      repeat refine Mm.mk ?_
      conv => whnf
      refine EndVC.mk _ rfl _ _ (.inl ⟨hE, rfl, rfl⟩) ?_
      refine ⟨[some 2], rfl, rfl, ?_, ?_⟩ <;> repeat' (first | exact trivial | exact rfl | apply And.intro)
    · repeat' ((conv => whnf); first | refine CallVC.pure rfl (c1) ?_ | (refine Br.mk (fun h => ?_) (fun h => ?_) <;> first | (exfalso; omega; done) | (exfalso; simp at h; done) | skip))
      repeat refine Mm.mk ?_
      conv => whnf
      refine EndVC.mk _ rfl _ _ (.inr ⟨hE, rfl, rfl⟩) ?_
      refine ⟨[], rfl, rfl, ?_, ?_⟩ <;> repeat' (first | exact trivial | exact rfl | apply And.intro)
end Go.Sx

namespace Go.Sx
open Go Go.Proofs
set_option maxRecDepth 10000
set_option maxHeartbeats 2000000
/-- The point of a sample (in, out). -/
def ptF (c : Cut) (s : Smp) : Smp := ⟨(s.r * c.gain).tdiv 1000 - c.half, (s.l * c.gain).tdiv 1000 + c.half⟩
theorem gain_rng {c : Cut} (hC : CutOK c) {n : Int} (hn : -32767 ≤ n ∧ n ≤ 32767) : (-3276700000 ≤ n * c.gain ∧ n * c.gain ≤ 3276700000) ∧ (-3276700 ≤ (n * c.gain).tdiv 1000 ∧ (n * c.gain).tdiv 1000 ≤ 3276700) := by
  have hg := hC.gain
  have h1 := mul_rng (a := n) (b := c.gain) (A := 32767) (B := 100000) hn hg
  have h2 := tdiv_rng (a := n * c.gain) (d := 1000) (B := 3276700) (by decide) (by omega)
  omega
theorem s106 (c : Cut) (s : Smp) (hC : CutOK c) (hs : s.ok) : PSpec Tryz.prog 60 [c.x, s.x] (.x (ptF c s).x) := by
  obtain ⟨h1, h2, h3, h4⟩ := hs
  have g1 := gain_rng hC ⟨h1, h2⟩
  have g2 := gain_rng hC ⟨h3, h4⟩
  have g3 := hC.half
  refine spec_of pMix (O := []) Tryz.func60 (c := bodyOf Tryz.f60) rfl (by kernel_rfl) (by kernel_rfl) Tryz.ntmps60 (res := [.cell 4 111]) (by kernel_rfl) ?_
  repeat' ((conv => whnf); first | refine Rng.g ?_ | refine Ob.g ?_ | fail)
  refine Val.mk _ rfl ?_
  repeat' ((conv => whnf); first | refine Rng.g ?_ | refine Ob.g ?_ | fail)
  refine Val.mk _ rfl ?_
  repeat' ((conv => whnf); first | refine Rng.g ?_ | fail)
  repeat refine Mm.mk ?_
  refine EndVC.mk _ rfl _ _ ⟨rfl, rfl⟩ ?_
  refine ⟨[], rfl, rfl, ?_, ?_⟩ <;> repeat' (first | exact trivial | exact rfl | apply And.intro)
theorem s107 (p : Smp) : PSpec Tryz.prog 95 [p.x] (xP ((p.l ≥ -4194304 ∧ p.l ≤ 4194304) ∧ (p.r ≥ -4194304 ∧ p.r ≤ 4194304))) := by
  refine spec_of pMix (O := []) Tryz.func95 (c := bodyOf Tryz.f95) rfl (by kernel_rfl) (by kernel_rfl) Tryz.ntmps95 (res := [.tmp 2]) (by kernel_rfl) ?_
  repeat' ((conv => whnf); first | refine CallVC.pure rfl (s205 p.l (-4194304) 4194304) ?_ | refine CallVC.pure rfl (s205 p.r (-4194304) 4194304) ?_ | (refine Br.mk (fun h => ?_) (fun h => ?_) <;> first | (exfalso; omega; done) | (exfalso; simp at h; done) | skip))
  · repeat refine Mm.mk ?_
    refine EndVC.mk _ rfl _ _ ⟨rfl, rfl⟩ ?_
    refine ⟨[], rfl, rfl, ?_, ?_⟩ <;> repeat' (first | exact trivial | apply And.intro)
    exact ⟨fun h2 => ⟨h, h2⟩, fun h2 => h2.2⟩
  · repeat refine Mm.mk ?_
    refine EndVC.mk _ rfl _ _ ⟨rfl, rfl⟩ ?_
    refine ⟨[], rfl, rfl, ?_, ?_⟩ <;> repeat' (first | exact trivial | apply And.intro)
    exact fun h2 => h h2.1
@[reducible] def smpX (l : List Smp) (i : Nat) : XV := .agg [.int .i64 (rI (smpA l) (i : Int).toNat 0), .int .i64 (rI (smpA l) (i : Int).toNat (0 + 1))]
theorem smpX_eq (l : List Smp) (i : Nat) : smpX l i = (l.getD i s0).x := by
  unfold smpX Smp.x
  rw [Int.toNat_natCast, smpA_l, smpA_r]
/-- A list that is filled from the front. -/
structure Fill (f : Nat → Smp) (n : Nat) (O : List Smp) (i : Nat) : Prop where
  len : O.length = n
  done : ∀ j, j < i → O.getD j s0 = f j
theorem Fill.step {f : Nat → Smp} {n : Nat} {O : List Smp} {i : Nat} (h : Fill f n O i) (hi : i < n) : Fill f n (O.set i (f i)) (i + 1) := by
  have hl := h.len
  refine ⟨by rw [List.length_set]; exact hl, fun j hj => ?_⟩
  rw [getD_set' _ _ _ _ _ (by omega)]
  split
  · rename_i e; rw [e]
  · exact h.done j (by omega)
theorem Fill.fin {f : Nat → Smp} {n : Nat} {O : List Smp} (h : Fill f n O n) : O = (List.range n).map f := by
  have hl := h.len
  refine List.ext_getElem (by simp [hl]) fun j h1 h2 => ?_
  have h3 := h.done j (by omega)
  simpa [List.getD_eq_getElem?_getD, h1] using h3
@[reducible] def rowP (O : List Smp) : Blk := .row 111 false KS (smpA O)
theorem eb51 : Tryz.t111.bytes = 16 := by kernel_rfl
/-- The groove of samples. -/
def cutF (c : Cut) (l : List Smp) : List Smp := (List.range l.length).map fun i => ptF c (l.getD i s0)
structure SmpsOK (l : List Smp) : Prop where
  len : l.length ≤ 4096
  each : ∀ j, j < l.length → (l.getD j s0).ok
theorem smpE_iff (l : List Smp) : smpE l = 0 ↔ SmpsOK l := by
  unfold smpE
  constructor
  · intro h
    by_cases h1 : 4096 < l.length
    · rw [if_pos h1] at h; cases h
    rw [if_neg h1] at h
    by_cases h2 : ∀ s ∈ l, s.ok
    · exact ⟨by omega, fun j hj => h2 _ (getD_mem' s0 hj)⟩
    · rw [if_neg h2] at h; cases h
  · intro h
    rw [if_neg (by have := h.len; omega), if_pos]
    intro s hs
    obtain ⟨q, hq, e⟩ := List.getElem_of_mem hs
    have := h.each q hq
    rw [List.getD_eq_getElem?_getD, List.getElem?_eq_getElem hq] at this
    rw [← e]
    exact this
inductive CutRs (c : Cut) (l : List Smp) (r : AV) (m' : List (Option Blk)) : Prop
  | bad (e : Int) (h : ¬ (CutOK c ∧ SmpsOK l)) (he : e ≠ 0) (hr : r = .tup [.one .nils, I e]) (hm : m' = [])
  | ok (hC : CutOK c) (hl : SmpsOK l) (hr : r = .tup [.one (.own 0), I 0]) (hm : m' = [some (rowP (cutF c l))])
theorem s30 (c : Cut) (l : List Smp) : HSpec Tryz.prog 36 [c.x, lS l] [] (CutRs c l) := by
  have ll := smpA_len l
  have v1 := s105 c
  have v2 := s103 l
  have v3 := smpE_iff l
  refine spec_of pMix (O := []) Tryz.func36 (c := bodyOf Tryz.f36) rfl (by kernel_rfl) (by kernel_rfl) Tryz.ntmps36 (res := [.tmp 4, .tmp 5]) (by kernel_rfl) ?_
  repeat' ((conv => whnf); first | refine Rng.g ?_ | fail)
  conv => whnf
  refine CallVC.mk [] _ _ _ rfl rfl rfl (v1) (fun r m' h' => ?_)
  obtain ⟨e, rfl, rfl, he⟩ := h'
  conv => whnf
  repeat' ((conv => whnf); first | refine CallVC.pure rfl (v2) ?_ | (refine Br.mk (fun h => ?_) (fun h => ?_) <;> first | (exfalso; omega; done) | (exfalso; simp at h; done) | skip))
  · repeat refine Mm.mk ?_
    conv => whnf
    refine EndVC.mk _ rfl _ _ (.bad e (fun h2 => h (he.2 h2.1)) h rfl rfl) ?_
    refine ⟨[], rfl, rfl, ?_, ?_⟩ <;> repeat' (first | exact trivial | exact rfl | apply And.intro)
  · repeat refine Mm.mk ?_
    conv => whnf
    refine EndVC.mk _ rfl _ _ (.bad _ (fun h2 => h (v3.2 h2.2)) h rfl rfl) ?_
    refine ⟨[], rfl, rfl, ?_, ?_⟩ <;> repeat' (first | exact trivial | exact rfl | apply And.intro)
  · rename_i g1
    have hC := he.1 (Classical.not_not.1 g1)
    have hL := v3.1 (Classical.not_not.1 h)
    have hl4 := hL.len
    repeat refine Mm.mk ?_
    refine Ob.mk (by simp only [eb51]; omega) ?_
    repeat' ((conv => whnf); first | refine Rng.g ?_ | fail)
    refine LoopVC.mk (fun n st => ∃ (i : Nat) (O : List Smp), i ≤ l.length ∧ n = l.length - i ∧ Fill (fun j => ptF c (l.getD j s0)) l.length O i ∧ st = ⟨0, envA 39 [(24, .x (lS l)), (2, .x (.one (.ptr 0 0))), (8, .x (.one (.own 1))), (25, .int .i64 (l.length : Int)), (26, .int .i64 (i : Int))], [some (.box 98 [.int .i64 c.half, .int .i64 c.gain, .int .i64 c.thin, .int .i64 c.wide, .int .i64 c.slope, .int .i64 c.jerk, .int .i64 c.sty]), some (rowP O)]⟩) _ _ ⟨0, List.replicate l.length s0, Nat.zero_le _, rfl, ⟨by simp, fun j hj => absurd hj (Nat.not_lt_zero j)⟩, rfl⟩ ?_ ?_
    · refine ⟨[some 0, some 1], rfl, rfl, ?_, ?_⟩ <;> repeat' (first | exact trivial | exact rfl | apply And.intro)
      · exact congrArg Int.ofNat ll
      · show List.replicate ((List.length (smpA l) : Int)).toNat _ = _
        rw [Int.toNat_natCast, ll]
        exact smpA_rep _
    rintro n _ ⟨i, O, hi, hn, hO, rfl⟩
    have lO := smpA_len O
    have hOl := hO.len
    by_cases hi' : i < l.length
    · have u1 : updRow (smpA O) (i : Int).toNat 0 [.int (ptF c (l.getD i s0)).l, .int (ptF c (l.getD i s0)).r] = smpA (O.set i (ptF c (l.getD i s0))) := by rw [Int.toNat_natCast]; exact smpA_set O i _ (by omega)
      have c1 : PSpec Tryz.prog 60 [c.x, smpX l i] (.x (ptF c (l.getD i s0)).x) := smpX_eq l i ▸ s106 c _ hC (hL.each i hi')
      repeat' ((conv => whnf); first | rw [u1] | refine Rng.g ?_ | refine Ob.g ?_ | refine CallVC.pure rfl (c1) ?_ | (refine Br.mk (fun h => ?_) (fun h => ?_) <;> first | (exfalso; omega; done) | (exfalso; simp at h; done) | skip))
      refine Back.mk (l.length - (i + 1)) _ (by omega) ⟨i + 1, _, by omega, rfl, hO.step hi', rfl⟩ ?_
      refine ⟨[some 0, some 1], rfl, rfl, ?_, ?_⟩ <;> repeat' (first | exact trivial | exact rfl | apply And.intro)
    · repeat' ((conv => whnf); first | (refine Br.mk (fun h => ?_) (fun h => ?_) <;> first | (exfalso; omega; done) | (exfalso; simp at h; done) | skip))
      have e1 : i = l.length := by omega
      rw [e1] at hO
      rw [hO.fin]
      repeat refine Mm.mk ?_
      conv => whnf
      refine EndVC.mk _ rfl _ _ (.ok hC hL rfl rfl) ?_
      refine ⟨[some 1], rfl, rfl, ?_, ?_⟩ <;> repeat' (first | exact trivial | exact rfl | apply And.intro)
end Go.Sx

namespace Go.Sx
open Go Go.Proofs
set_option maxRecDepth 10000
set_option maxHeartbeats 2000000
def amt (n : Int) : Int := if n < -n then -n else n
theorem s111 (n : Int) (hn : -1000000000000 ≤ n ∧ n ≤ 1000000000000) : PSpec Tryz.prog 146 [I n] (.x (I (amt n))) := by
  refine spec_of pMix (O := []) Tryz.func146 (c := bodyOf Tryz.f146) rfl (by kernel_rfl) (by kernel_rfl) Tryz.ntmps146 (res := [.tmp 2]) (by kernel_rfl) ?_
  repeat' ((conv => whnf); first | refine Rng.g ?_ | refine Mm.mk ?_)
  · repeat refine Mm.mk ?_
    refine EndVC.mk _ rfl _ _ ⟨rfl, rfl⟩ ?_
    refine ⟨[], rfl, rfl, ?_, ?_⟩ <;> repeat' (first | exact trivial | exact rfl | apply And.intro)
    unfold amt
    rw [Int.zero_sub]
def pB (c : Cut) (d k : Int) : Prop := (k * c.gain).tdiv 1000 ≥ amt d
instance (c : Cut) (d k : Int) : Decidable (pB c d k) := by unfold pB; exact inferInstance
theorem pB.mono {c : Cut} (hC : CutOK c) {d k q : Int} (hk : 0 ≤ k) (hq : k ≤ q) (h : pB c d k) : pB c d q := by
  have hg := hC.gain
  unfold pB at h ⊢
  have h1 : k * c.gain ≤ q * c.gain := Int.mul_le_mul_of_nonneg_right hq hg.1
  have h2 : 0 ≤ k * c.gain := Int.mul_nonneg hk hg.1
  rw [Int.tdiv_eq_ediv_of_nonneg h2] at h
  rw [Int.tdiv_eq_ediv_of_nonneg (by omega)]
  have := Int.ediv_le_ediv (show (0 : Int) < 1000 by decide) h1
  omega
/-- What a search finds. -/
structure Least (p : Int → Prop) (n k : Int) : Prop where
  rng : 0 ≤ k ∧ k ≤ n
  no : ∀ q, 0 ≤ q → q < k → ¬ p q
  yes : k < n → p k
end Go.Sx

namespace Go.Sx
open Go Go.Proofs
set_option maxRecDepth 10000
set_option maxHeartbeats 2000000
def edgeP (p : Smp) : Prop := (p.l ≥ -4194304 ∧ p.l ≤ 4194304) ∧ (p.r ≥ -4194304 ∧ p.r ≤ 4194304)
end Go.Sx

namespace Go.Sx
open Go Go.Proofs
set_option maxRecDepth 10000
set_option maxHeartbeats 4000000
theorem e98 : EntersF Tryz.prog 98 := enters_of Tryz.func98 (c := bodyOf Tryz.f98) (by kernel_rfl) rfl
instance (p : Smp) : Decidable (edgeP p) := by unfold edgeP; exact inferInstance
theorem s113 (r per : Int) : PSpec Tryz.prog 62 [I r, I per] (.x (I (if (0 ≤ r ∧ r ≤ 4194304) ∧ (1 ≤ per ∧ per ≤ 65536) then 0 else 3))) := by
  by_cases hk : (0 ≤ r ∧ r ≤ 4194304) ∧ (1 ≤ per ∧ per ≤ 65536)
  · rw [if_pos hk]
    refine spec_of pMix (O := []) Tryz.func62 (c := bodyOf Tryz.f62) rfl (by kernel_rfl) (by kernel_rfl) Tryz.ntmps62 (res := [.tmp 4]) (by kernel_rfl) ?_
    repeat' ((conv => whnf); first | refine CallVC.pure rfl (s205 r 0 4194304) ?_ | refine CallVC.pure rfl (s205 per 1 65536) ?_ | (refine Br.mk (fun h => ?_) (fun h => ?_) <;> first | (exfalso; omega; done) | (exfalso; simp at h; done) | skip))
    repeat refine Mm.mk ?_
    refine EndVC.mk _ rfl _ _ ⟨rfl, rfl⟩ ?_
    refine ⟨[], rfl, rfl, ?_, ?_⟩ <;> repeat' (first | exact trivial | exact rfl | apply And.intro)
  · rw [if_neg hk]
    refine spec_of pMix (O := []) Tryz.func62 (c := bodyOf Tryz.f62) rfl (by kernel_rfl) (by kernel_rfl) Tryz.ntmps62 (res := [.tmp 4]) (by kernel_rfl) ?_
    repeat' ((conv => whnf); first | refine CallVC.pure rfl (s205 r 0 4194304) ?_ | refine CallVC.pure rfl (s205 per 1 65536) ?_ | (refine Br.mk (fun h => ?_) (fun h => ?_) <;> first | (exfalso; omega; done) | (exfalso; simp at h; done) | skip))
    all_goals
      repeat refine Mm.mk ?_
      refine EndVC.mk _ rfl _ _ ⟨rfl, rfl⟩ ?_
      refine ⟨[], rfl, rfl, ?_, ?_⟩ <;> repeat' (first | exact trivial | exact rfl | apply And.intro)
structure PtsOK (l : List Smp) : Prop where
  len : l.length ≤ 4096
  each : ∀ j, j < l.length → edgeP (l.getD j s0)
theorem s153 (l : List Smp) : HSpec Tryz.prog 78 [lS l] [] (fun r m' => ∃ e, r = .x (I e) ∧ m' = [] ∧ (e = 0 ↔ PtsOK l)) := by
  have ll := smpA_len l
  by_cases hl : 4096 < l.length
  · refine spec_of pMix (O := []) Tryz.func78 (c := bodyOf Tryz.f78) rfl (by kernel_rfl) (by kernel_rfl) Tryz.ntmps78 (res := [.tmp 2]) (by kernel_rfl) ?_
    repeat' ((conv => whnf); first | (refine Br.mk (fun h => ?_) (fun h => ?_) <;> first | (exfalso; omega; done) | (exfalso; simp at h; done) | skip))
    repeat refine Mm.mk ?_
    conv => whnf
    refine EndVC.mk _ rfl _ _ (⟨6, rfl, rfl, ⟨fun h => (by cases h), fun hC => (by have := hC.len; omega)⟩⟩) ?_
    refine ⟨[], rfl, rfl, ?_, ?_⟩ <;> repeat' (first | exact trivial | exact rfl | apply And.intro)
  refine spec_of pMix (O := []) Tryz.func78 (c := bodyOf Tryz.f78) rfl (by kernel_rfl) (by kernel_rfl) Tryz.ntmps78 (res := [.tmp 2]) (by kernel_rfl) ?_
  repeat' ((conv => whnf); first | (refine Br.mk (fun h => ?_) (fun h => ?_) <;> first | (exfalso; omega; done) | (exfalso; simp at h; done) | skip))
  refine LoopVC.mk (fun n st => ∃ (i : Nat), i ≤ l.length ∧ n = l.length - i ∧ (∀ j, j < i → edgeP (l.getD j s0)) ∧ st = ⟨0, envA 18 [(8, .x (lS l)), (9, .int .i64 (l.length : Int)), (10, .int .i64 (i : Int))], []⟩) _ _ ⟨0, Nat.zero_le _, rfl, fun j hj => absurd hj (Nat.not_lt_zero j), rfl⟩ ?_ ?_
  · refine ⟨[], rfl, rfl, ?_, ?_⟩ <;> repeat' (first | exact trivial | exact rfl | apply And.intro)
    exact congrArg Int.ofNat ll
  rintro n _ ⟨i, hi, hn, hj, rfl⟩
  by_cases hi' : i < l.length
  · have c1 : PSpec Tryz.prog 95 [smpX l i] (xP (edgeP (l.getD i s0))) := smpX_eq l i ▸ s107 _
    repeat' ((conv => whnf); first | refine Rng.g ?_ | refine Ob.g ?_ | refine CallVC.pure rfl (c1) ?_ | (refine Br.mk (fun h => ?_) (fun h => ?_) <;> first | (exfalso; omega; done) | (exfalso; simp at h; done) | skip))
    · repeat refine Mm.mk ?_
      conv => whnf
      refine EndVC.mk _ rfl _ _ (⟨2, rfl, rfl, ⟨fun h => (by cases h), fun hC => absurd (hC.each i hi') h⟩⟩) ?_
      refine ⟨[], rfl, rfl, ?_, ?_⟩ <;> repeat' (first | exact trivial | exact rfl | apply And.intro)
    · refine Back.mk (l.length - (i + 1)) _ (by omega) ⟨i + 1, by omega, rfl, fun j hj' => ?_, rfl⟩ ?_
      · rcases Nat.lt_succ_iff_lt_or_eq.1 hj' with h' | rfl
        · exact hj j h'
        · exact Classical.not_not.1 h
      · refine ⟨[], rfl, rfl, ?_, ?_⟩ <;> repeat' (first | exact trivial | exact rfl | apply And.intro)
  · repeat' ((conv => whnf); first | (refine Br.mk (fun h => ?_) (fun h => ?_) <;> first | (exfalso; omega; done) | (exfalso; simp at h; done) | skip))
    repeat refine Mm.mk ?_
    conv => whnf
    refine EndVC.mk _ rfl _ _ (⟨0, rfl, rfl, ⟨fun _ => ⟨by omega, fun j hj' => hj j (by omega)⟩, fun _ => rfl⟩⟩) ?_
    refine ⟨[], rfl, rfl, ?_, ?_⟩ <;> repeat' (first | exact trivial | exact rfl | apply And.intro)
theorem s327 (a b : Int) : PSpec Tryz.prog 145 [lL [a, b]] (.x (I (if a < b then b else a))) := by
  have l2 : (i64s [a, b]).length = 2 := rfl
  refine spec_of pMix (O := []) Tryz.func145 (c := bodyOf Tryz.f145) rfl (by kernel_rfl) (by kernel_rfl) Tryz.ntmps145 (res := [.tmp 2]) (by kernel_rfl) ?_
  have l3 : (List.drop ((some (1 : Int)).getD 0).toNat (List.take ((none : Option Int).getD (List.length (i64s [a, b]) : Int)).toNat (i64s [a, b]))).length = 1 := rfl
  repeat' ((conv => whnf); first | refine Ob.g ?_ | fail)
  refine LoopVC.un 2 ?_
  repeat' ((conv => whnf); first | refine Rng.g ?_ | refine Ob.g ?_ | refine Mm.mk ?_ | (refine Br.mk (fun h => ?_) (fun h => ?_) <;> first | (exfalso; omega; done) | (exfalso; simp at h; done) | skip))
  repeat refine Mm.mk ?_
  refine EndVC.mk _ rfl _ _ ⟨rfl, rfl⟩ ?_
  refine ⟨[], rfl, rfl, ?_, ?_⟩ <;> repeat' (first | exact trivial | exact rfl | apply And.intro)
/-- The track of a groove (cutter, points, radius, turn). -/
structure Trk where
  c : Cut
  p : List Smp
  r : Int
  per : Int
@[reducible] def KTk : List CK := [.int .i64, .int .i64, .int .i64, .int .i64, .int .i64, .int .i64, .int .i64, .sl KS, .int .i64, .int .i64]
def tkA (t : Trk) : Arr := [[.int t.c.half, .int t.c.gain, .int t.c.thin, .int t.c.wide, .int t.c.slope, .int t.c.jerk, .int t.c.sty, .sl (smpA t.p), .int t.r, .int t.per]]
@[reducible] def tkX (t : Trk) : XV := .one (.lel true KTk (tkA t) 0 0)
@[reducible] def bTk (t : Trk) : Blk := .box 160 [.int .i64 t.c.half, .int .i64 t.c.gain, .int .i64 t.c.thin, .int .i64 t.c.wide, .int .i64 t.c.slope, .int .i64 t.c.jerk, .int .i64 t.c.sty, .lst true KS (smpA t.p), .int .i64 t.r, .int .i64 t.per]
structure TrkOK (t : Trk) : Prop where
  c : CutOK t.c
  p : PtsOK t.p
  r : 0 ≤ t.r ∧ t.r ≤ 4194304
  per : 1 ≤ t.per ∧ t.per ≤ 65536
@[reducible] def befX (l : List Smp) (i : Nat) : Bool → SV
  | true => .lel true KS (smpA l) (i - 1) 0
  | false => .nilp
@[reducible] def aftX (l : List Smp) (i : Nat) : Bool → SV
  | true => .lel true KS (smpA l) (i + 1) 0
  | false => .nilp
@[reducible] def nrX (l : List Smp) (i : Nat) (b a : Bool) : XV := .agg [befX l i b, .lel true KS (smpA l) i 0, aftX l i a]
theorem s283 (l : List Smp) (i : Nat) (b a : Bool) (hp : edgeP (l.getD i s0)) : PSpec Tryz.prog 125 [nrX l i b a] (.x (I ((l.getD i s0).r - (l.getD i s0).l))) := by
  have g0 : rI (smpA l) i (0 + 0) = (l.getD i s0).l := smpA_l l i
  have g1 : rI (smpA l) i (0 + (0 + 1)) = (l.getD i s0).r := smpA_r l i
  obtain ⟨h1, h2⟩ := hp
  cases b
  all_goals
    cases a
    all_goals
      refine spec_of pMix (O := []) Tryz.func125 (c := bodyOf Tryz.f125) rfl (by kernel_rfl) (by kernel_rfl) Tryz.ntmps125 (res := [.tmp 2]) (by kernel_rfl) ?_
      repeat' ((conv => whnf); first | refine Rng.g ?_ | fail)
      repeat refine Mm.mk ?_
      refine EndVC.mk _ rfl _ _ ⟨rfl, rfl⟩ ?_
      refine ⟨[], rfl, rfl, ?_, ?_⟩ <;> repeat' (first | exact trivial | exact rfl | apply And.intro)
      rw [g0, g1]
def mx2 (a b : Int) : Int := if a < b then b else a
def stF (l : List Smp) (i : Nat) (b : Bool) : Int := if b = true then mx2 (amt ((l.getD i s0).l - (l.getD (i - 1) s0).l)) (amt ((l.getD i s0).r - (l.getD (i - 1) s0).r)) else 0
def bdF (l : List Smp) (i : Nat) (b a : Bool) : Int := if b = true ∧ a = true then mx2 (amt ((l.getD (i - 1) s0).l + (l.getD (i + 1) s0).l - 2 * (l.getD i s0).l)) (amt ((l.getD (i - 1) s0).r + (l.getD (i + 1) s0).r - 2 * (l.getD i s0).r)) else 0
theorem amt_bd {n B : Int} (h : -B ≤ n ∧ n ≤ B) : 0 ≤ amt n ∧ amt n ≤ B := by unfold amt; split <;> omega
/-- The points near a place. -/
structure NearOK (l : List Smp) (i : Nat) (b a : Bool) : Prop where
  h : edgeP (l.getD i s0)
  b : b = true → edgeP (l.getD (i - 1) s0)
  a : a = true → edgeP (l.getD (i + 1) s0)
theorem stF_bd {l : List Smp} {i : Nat} {b a : Bool} (hp : NearOK l i b a) : 0 ≤ stF l i b ∧ stF l i b ≤ 8388608 := by
  unfold stF
  split
  · rename_i hb
    obtain ⟨h1, h2⟩ := hp.h
    obtain ⟨h3, h4⟩ := hp.b hb
    have h5 := amt_bd (n := (l.getD i s0).l - (l.getD (i - 1) s0).l) (B := 8388608) (by omega)
    have h6 := amt_bd (n := (l.getD i s0).r - (l.getD (i - 1) s0).r) (B := 8388608) (by omega)
    unfold mx2
    split <;> omega
  · omega
theorem bdF_bd {l : List Smp} {i : Nat} {b a : Bool} (hp : NearOK l i b a) : 0 ≤ bdF l i b a ∧ bdF l i b a ≤ 16777216 := by
  unfold bdF
  split
  · rename_i hb
    obtain ⟨h1, h2⟩ := hp.h
    obtain ⟨h3, h4⟩ := hp.b hb.1
    obtain ⟨h7, h8⟩ := hp.a hb.2
    have h5 := amt_bd (n := (l.getD (i - 1) s0).l + (l.getD (i + 1) s0).l - 2 * (l.getD i s0).l) (B := 16777216) (by omega)
    have h6 := amt_bd (n := (l.getD (i - 1) s0).r + (l.getD (i + 1) s0).r - 2 * (l.getD i s0).r) (B := 16777216) (by omega)
    unfold mx2
    split <;> omega
  · omega
theorem s284 (l : List Smp) (i : Nat) (b a : Bool) (hp : NearOK l i b a) : PSpec Tryz.prog 126 [nrX l i b a] (.x (I (stF l i b))) := by
  have g0 : rI (smpA l) i (0 + 0) = (l.getD i s0).l := smpA_l l i
  have g1 : rI (smpA l) i (0 + (0 + 1)) = (l.getD i s0).r := smpA_r l i
  have g2 : rI (smpA l) (i - 1) (0 + 0) = (l.getD (i - 1) s0).l := smpA_l l _
  have g3 : rI (smpA l) (i - 1) (0 + (0 + 1)) = (l.getD (i - 1) s0).r := smpA_r l _
  obtain ⟨h1, h2⟩ := hp.h
  cases b with
  | false =>
    cases a
    all_goals
      refine spec_of pMix (O := [(3, ([], [⟨0, [], []⟩, ⟨1, [], []⟩, ⟨2, [], []⟩, ⟨3, [], []⟩, ⟨4, [], []⟩, ⟨5, [], []⟩, ⟨6, [], []⟩, ⟨7, [], []⟩, ⟨8, [], []⟩, ⟨9, [], []⟩, ⟨10, [], []⟩, ⟨12, [], []⟩, ⟨13, [], []⟩, ⟨14, [], []⟩, ⟨15, [], []⟩, ⟨16, [], []⟩, ⟨17, [], []⟩, ⟨18, [], []⟩, ⟨19, [], []⟩, ⟨20, [], []⟩, ⟨21, [], []⟩, ⟨22, [], []⟩, ⟨11, [12, 13, 14, 15, 16, 17, 18, 19, 20, 21, 22], []⟩, ⟨23, [], [24]⟩, ⟨24, [], []⟩, ⟨25, [], []⟩, ⟨26, [], []⟩]))]) Tryz.func126 (c := bodyOf Tryz.f126) rfl (by kernel_rfl) (by kernel_rfl) Tryz.ntmps126 (res := [.tmp 2]) (by kernel_rfl) ?_
      repeat' ((conv => whnf); first | (refine Br.mk (fun h => ?_) (fun h => ?_) <;> first | (exfalso; omega; done) | (exfalso; simp at h; done) | skip))
      repeat refine Mm.mk ?_
      refine EndVC.mk _ rfl _ _ ⟨rfl, rfl⟩ ?_
      refine ⟨[], rfl, rfl, ?_, ?_⟩ <;> repeat' (first | exact trivial | exact rfl | apply And.intro)
  | true =>
    obtain ⟨h3, h4⟩ := hp.b rfl
    have c1 := s111 (rI (smpA l) i (0 + 0) - rI (smpA l) (i - 1) (0 + 0)) (by omega)
    have c2 := s111 (rI (smpA l) i (0 + (0 + 1)) - rI (smpA l) (i - 1) (0 + (0 + 1))) (by omega)
    have c3 := s327 (amt (rI (smpA l) i (0 + 0) - rI (smpA l) (i - 1) (0 + 0))) (amt (rI (smpA l) i (0 + (0 + 1)) - rI (smpA l) (i - 1) (0 + (0 + 1))))
    cases a
    all_goals
      refine spec_of pMix (O := [(3, ([], [⟨0, [], []⟩, ⟨1, [], []⟩, ⟨2, [], []⟩, ⟨3, [], []⟩, ⟨4, [], []⟩, ⟨5, [], []⟩, ⟨6, [], []⟩, ⟨7, [], []⟩, ⟨8, [], []⟩, ⟨9, [], []⟩, ⟨10, [], []⟩, ⟨12, [], []⟩, ⟨13, [], []⟩, ⟨14, [], []⟩, ⟨15, [], []⟩, ⟨16, [], []⟩, ⟨17, [], []⟩, ⟨18, [], []⟩, ⟨19, [], []⟩, ⟨20, [], []⟩, ⟨21, [], []⟩, ⟨22, [], []⟩, ⟨11, [12, 13, 14, 15, 16, 17, 18, 19, 20, 21, 22], []⟩, ⟨23, [], [24]⟩, ⟨24, [], []⟩, ⟨25, [], []⟩, ⟨26, [], []⟩]))]) Tryz.func126 (c := bodyOf Tryz.f126) rfl (by kernel_rfl) (by kernel_rfl) Tryz.ntmps126 (res := [.tmp 2]) (by kernel_rfl) ?_
      repeat' ((conv => whnf); first | refine Rng.g ?_ | refine CallVC.pure rfl (c2) ?_ | refine CallVC.pure rfl (c3) ?_ | refine CallVC0.pure rfl (c1) ?_ | (refine Br.mk (fun h => ?_) (fun h => ?_) <;> first | (exfalso; omega; done) | (exfalso; simp at h; done) | skip))
      repeat refine Mm.mk ?_
      refine EndVC.mk _ rfl _ _ ⟨rfl, rfl⟩ ?_
      refine ⟨[], rfl, rfl, ?_, ?_⟩ <;> repeat' (first | exact trivial | exact rfl | apply And.intro)
      rw [g0, g1, g2, g3]
      rfl
theorem s285 (l : List Smp) (i : Nat) (b a : Bool) (hp : NearOK l i b a) : PSpec Tryz.prog 127 [nrX l i b a] (.x (I (bdF l i b a))) := by
  have g0 : rI (smpA l) i (0 + 0) = (l.getD i s0).l := smpA_l l i
  have g1 : rI (smpA l) i (0 + (0 + 1)) = (l.getD i s0).r := smpA_r l i
  have g2 : rI (smpA l) (i - 1) (0 + 0) = (l.getD (i - 1) s0).l := smpA_l l _
  have g3 : rI (smpA l) (i - 1) (0 + (0 + 1)) = (l.getD (i - 1) s0).r := smpA_r l _
  have g4 : rI (smpA l) (i + 1) (0 + 0) = (l.getD (i + 1) s0).l := smpA_l l _
  have g5 : rI (smpA l) (i + 1) (0 + (0 + 1)) = (l.getD (i + 1) s0).r := smpA_r l _
  obtain ⟨h1, h2⟩ := hp.h
  by_cases hba : b = true ∧ a = true
  · obtain ⟨rfl, rfl⟩ := hba
    obtain ⟨h3, h4⟩ := hp.b rfl
    obtain ⟨h5, h6⟩ := hp.a rfl
    have c1 := s111 (rI (smpA l) (i - 1) (0 + 0) + rI (smpA l) (i + 1) (0 + 0) - 2 * rI (smpA l) i (0 + 0)) (by omega)
    have c2 := s111 (rI (smpA l) (i - 1) (0 + (0 + 1)) + rI (smpA l) (i + 1) (0 + (0 + 1)) - 2 * rI (smpA l) i (0 + (0 + 1))) (by omega)
    have c3 := s327 (amt (rI (smpA l) (i - 1) (0 + 0) + rI (smpA l) (i + 1) (0 + 0) - 2 * rI (smpA l) i (0 + 0))) (amt (rI (smpA l) (i - 1) (0 + (0 + 1)) + rI (smpA l) (i + 1) (0 + (0 + 1)) - 2 * rI (smpA l) i (0 + (0 + 1))))
    refine spec_of pMix (O := [(3, ([], [⟨0, [], []⟩, ⟨1, [], []⟩, ⟨2, [], []⟩, ⟨3, [], []⟩, ⟨4, [], []⟩, ⟨5, [], []⟩, ⟨6, [], []⟩, ⟨7, [], []⟩, ⟨8, [], []⟩, ⟨9, [], []⟩, ⟨10, [], []⟩, ⟨11, [], []⟩, ⟨12, [], []⟩, ⟨13, [], []⟩, ⟨14, [], []⟩, ⟨15, [], []⟩, ⟨16, [], []⟩, ⟨17, [], []⟩, ⟨19, [], []⟩, ⟨20, [], []⟩, ⟨21, [], []⟩, ⟨22, [], []⟩, ⟨23, [], []⟩, ⟨24, [], []⟩, ⟨25, [], []⟩, ⟨26, [], []⟩, ⟨27, [], []⟩, ⟨28, [], []⟩, ⟨29, [], []⟩, ⟨30, [], []⟩, ⟨31, [], []⟩, ⟨32, [], []⟩, ⟨33, [], []⟩, ⟨34, [], []⟩, ⟨35, [], []⟩, ⟨36, [], []⟩, ⟨18, [19, 20, 21, 22, 23, 24, 25, 26, 27, 28, 29, 30, 31, 32, 33, 34, 35, 36], []⟩, ⟨37, [], [38]⟩, ⟨38, [], []⟩, ⟨39, [], []⟩, ⟨40, [], []⟩]))]) Tryz.func127 (c := bodyOf Tryz.f127) rfl (by kernel_rfl) (by kernel_rfl) Tryz.ntmps127 (res := [.tmp 2]) (by kernel_rfl) ?_
    repeat' ((conv => whnf); first | refine Rng.g ?_ | refine CallVC.pure rfl (c2) ?_ | refine CallVC.pure rfl (c3) ?_ | refine CallVC0.pure rfl (c1) ?_ | (refine Br.mk (fun h => ?_) (fun h => ?_) <;> first | (exfalso; omega; done) | (exfalso; simp at h; done) | skip))
    repeat refine Mm.mk ?_
    refine EndVC.mk _ rfl _ _ ⟨rfl, rfl⟩ ?_
    refine ⟨[], rfl, rfl, ?_, ?_⟩ <;> repeat' (first | exact trivial | exact rfl | apply And.intro)
    rw [g0, g1, g2, g3, g4, g5]
    rfl
  · cases b
    all_goals
      cases a
      all_goals first | (exact absurd ⟨rfl, rfl⟩ hba) | skip
      all_goals
        refine spec_of pMix (O := [(3, ([], [⟨0, [], []⟩, ⟨1, [], []⟩, ⟨2, [], []⟩, ⟨3, [], []⟩, ⟨4, [], []⟩, ⟨5, [], []⟩, ⟨6, [], []⟩, ⟨7, [], []⟩, ⟨8, [], []⟩, ⟨9, [], []⟩, ⟨10, [], []⟩, ⟨11, [], []⟩, ⟨12, [], []⟩, ⟨13, [], []⟩, ⟨14, [], []⟩, ⟨15, [], []⟩, ⟨16, [], []⟩, ⟨17, [], []⟩, ⟨19, [], []⟩, ⟨20, [], []⟩, ⟨21, [], []⟩, ⟨22, [], []⟩, ⟨23, [], []⟩, ⟨24, [], []⟩, ⟨25, [], []⟩, ⟨26, [], []⟩, ⟨27, [], []⟩, ⟨28, [], []⟩, ⟨29, [], []⟩, ⟨30, [], []⟩, ⟨31, [], []⟩, ⟨32, [], []⟩, ⟨33, [], []⟩, ⟨34, [], []⟩, ⟨35, [], []⟩, ⟨36, [], []⟩, ⟨18, [19, 20, 21, 22, 23, 24, 25, 26, 27, 28, 29, 30, 31, 32, 33, 34, 35, 36], []⟩, ⟨37, [], [38]⟩, ⟨38, [], []⟩, ⟨39, [], []⟩, ⟨40, [], []⟩]))]) Tryz.func127 (c := bodyOf Tryz.f127) rfl (by kernel_rfl) (by kernel_rfl) Tryz.ntmps127 (res := [.tmp 2]) (by kernel_rfl) ?_
        repeat' ((conv => whnf); first | (refine Br.mk (fun h => ?_) (fun h => ?_) <;> first | (exfalso; omega; done) | (exfalso; simp at h; done) | skip))
        repeat refine Mm.mk ?_
        refine EndVC.mk _ rfl _ _ ⟨rfl, rfl⟩ ?_
        refine ⟨[], rfl, rfl, ?_, ?_⟩ <;> repeat' (first | exact trivial | exact rfl | apply And.intro)
end Go.Sx

namespace Go.Sx
open Go Go.Proofs
set_option maxRecDepth 10000
set_option maxHeartbeats 4000000
def arcF (r per : Int) : Int := (710 * r * (710 * r)) / (113 * per * (113 * per))
theorem sq_rng {a A : Int} (h : 0 ≤ a ∧ a ≤ A) : 0 ≤ a * a ∧ a * a ≤ A * A :=
  ⟨Int.mul_nonneg h.1 h.1, Int.mul_le_mul h.2 h.2 h.1 (by omega)⟩
theorem s286 (t : Trk) (ht : TrkOK t) : PSpec Tryz.prog 128 [tkX t] (.x (I (arcF t.r t.per))) := by
  have hr := ht.r
  have hp := ht.per
  have h1 := sq_rng (a := 710 * t.r) (A := 2977955840) (by omega)
  have h2 := sq_rng (a := 113 * t.per) (A := 7405568) (by omega)
  have h3 : 0 < 113 * t.per * (113 * t.per) := Int.mul_pos (by omega) (by omega)
  refine spec_of pMix (O := []) Tryz.func128 (c := bodyOf Tryz.f128) rfl (by kernel_rfl) (by kernel_rfl) Tryz.ntmps128 (res := [.tmp 2]) (by kernel_rfl) ?_
  have h4 := Int.ediv_nonneg h1.1 (Int.le_of_lt h3)
  have h5 := Int.ediv_le_self (113 * t.per * (113 * t.per)) h1.1
  have f8 : rI (tkA t) 0 (0 + (0 + 1 + 1 + 1 + 1 + 1 + 1 + 1 + 1)) = t.r := rfl
  have f9 : rI (tkA t) 0 (0 + (0 + 1 + 1 + 1 + 1 + 1 + 1 + 1 + 1 + 1)) = t.per := rfl
  repeat' ((conv => whnf); first | rw [f8] | rw [f9] | refine Rng.g ?_ | refine Ob.g ?_ | refine Val.d ?_ | fail)
  repeat refine Mm.mk ?_
  refine EndVC.mk _ rfl _ _ ⟨rfl, rfl⟩ ?_
  refine ⟨[], rfl, rfl, ?_, ?_⟩ <;> repeat' (first | exact trivial | exact rfl | apply And.intro)
/-- The rules. -/
def brk (t : Trk) (i : Nat) (b a : Bool) : Nat → Prop
  | 1 => (t.p.getD i s0).r - (t.p.getD i s0).l < t.c.thin
  | 2 => (t.p.getD i s0).r - (t.p.getD i s0).l > t.c.wide
  | 3 => 113000 * t.per * stF t.p i b > 710 * t.r * t.c.slope
  | 4 => bdF t.p i b a > t.c.jerk
  | 5 => bdF t.p i b a * t.c.sty > arcF t.r t.per
  | _ => False
instance (t : Trk) (i : Nat) (b a : Bool) (k : Nat) : Decidable (brk t i b a k) := by unfold brk; split <;> exact inferInstance
theorem s213 (t : Trk) (i : Nat) (b a : Bool) (hn : NearOK t.p i b a) : PSpec Tryz.prog 100 [tkX t, nrX t.p i b a] (xP (brk t i b a 1)) := by
  have c1 := s283 t.p i b a hn.h
  have f2 : rI (tkA t) 0 (0 + 0 + (0 + 1 + 1)) = t.c.thin := rfl
  cases b
  all_goals
    cases a
    all_goals
      refine spec_of pMix (O := [(1, ([], [⟨0, [], []⟩, ⟨2, [], []⟩, ⟨3, [], []⟩, ⟨4, [], []⟩, ⟨5, [], []⟩, ⟨6, [], []⟩, ⟨1, [2, 3, 4, 5, 6], []⟩, ⟨7, [], []⟩, ⟨8, [], []⟩]))]) Tryz.func100 (c := bodyOf Tryz.f100) rfl (by kernel_rfl) (by kernel_rfl) Tryz.ntmps100 (res := [.tmp 4]) (by kernel_rfl) ?_
      repeat' ((conv => whnf); first | rw [f2] | refine CallVC0.pure rfl (c1) ?_)
      repeat refine Mm.mk ?_
      refine EndVC.mk _ rfl _ _ ⟨rfl, rfl⟩ ?_
      refine ⟨[], rfl, rfl, ?_, ?_⟩ <;> repeat' (first | exact trivial | exact Iff.rfl | apply And.intro)
theorem s214 (t : Trk) (i : Nat) (b a : Bool) (hn : NearOK t.p i b a) : PSpec Tryz.prog 101 [tkX t, nrX t.p i b a] (xP (brk t i b a 2)) := by
  have c1 := s283 t.p i b a hn.h
  have f2 : rI (tkA t) 0 (0 + 0 + (0 + 1 + 1 + 1)) = t.c.wide := rfl
  cases b
  all_goals
    cases a
    all_goals
      refine spec_of pMix (O := [(1, ([], [⟨0, [], []⟩, ⟨2, [], []⟩, ⟨3, [], []⟩, ⟨4, [], []⟩, ⟨5, [], []⟩, ⟨6, [], []⟩, ⟨1, [2, 3, 4, 5, 6], []⟩, ⟨7, [], []⟩, ⟨8, [], []⟩]))]) Tryz.func101 (c := bodyOf Tryz.f101) rfl (by kernel_rfl) (by kernel_rfl) Tryz.ntmps101 (res := [.tmp 4]) (by kernel_rfl) ?_
      repeat' ((conv => whnf); first | rw [f2] | refine CallVC0.pure rfl (c1) ?_)
      repeat refine Mm.mk ?_
      refine EndVC.mk _ rfl _ _ ⟨rfl, rfl⟩ ?_
      refine ⟨[], rfl, rfl, ?_, ?_⟩ <;> repeat' (first | exact trivial | exact Iff.rfl | apply And.intro)
theorem s215 (t : Trk) (i : Nat) (b a : Bool) (ht : TrkOK t) (hn : NearOK t.p i b a) : PSpec Tryz.prog 102 [tkX t, nrX t.p i b a] (xP (brk t i b a 3)) := by
  have c1 := s284 t.p i b a hn
  have f2 : rI (tkA t) 0 (0 + 0 + (0 + 1 + 1 + 1 + 1)) = t.c.slope := rfl
  have f8 : rI (tkA t) 0 (0 + (0 + 1 + 1 + 1 + 1 + 1 + 1 + 1 + 1)) = t.r := rfl
  have f9 : rI (tkA t) 0 (0 + (0 + 1 + 1 + 1 + 1 + 1 + 1 + 1 + 1 + 1)) = t.per := rfl
  have hr := ht.r
  have hp := ht.per
  have hs := ht.c.slope
  have hst := stF_bd hn
  have h1 := mul_rng (a := 113000 * t.per) (b := stF t.p i b) (A := 7405568000) (B := 8388608) (by omega) hst
  have h2 := mul_rng (a := 710 * t.r) (b := t.c.slope) (A := 2977955840) (B := 10000) (by omega) hs
  cases b
  all_goals
    cases a
    all_goals
      refine spec_of pMix (O := [(1, ([], [⟨0, [], []⟩, ⟨1, [], []⟩, ⟨2, [], []⟩, ⟨3, [], []⟩, ⟨4, [], []⟩, ⟨5, [], []⟩, ⟨8, [], []⟩, ⟨9, [], []⟩, ⟨10, [], []⟩, ⟨11, [], []⟩, ⟨12, [], []⟩, ⟨13, [], []⟩, ⟨14, [], []⟩, ⟨15, [], []⟩, ⟨16, [], []⟩, ⟨17, [], []⟩, ⟨18, [], []⟩, ⟨6, [0, 1, 2, 3, 4, 8, 9, 10, 11, 12, 13, 14, 15, 16, 17, 18], []⟩, ⟨7, [], []⟩, ⟨19, [], []⟩, ⟨20, [], []⟩]))]) Tryz.func102 (c := bodyOf Tryz.f102) rfl (by kernel_rfl) (by kernel_rfl) Tryz.ntmps102 (res := [.tmp 4]) (by kernel_rfl) ?_
      repeat' ((conv => whnf); first | rw [f2] | rw [f8] | rw [f9] | refine Rng.g ?_ | refine CallVC0.pure rfl (c1) ?_)
      repeat refine Mm.mk ?_
      refine EndVC.mk _ rfl _ _ ⟨rfl, rfl⟩ ?_
      refine ⟨[], rfl, rfl, ?_, ?_⟩ <;> repeat' (first | exact trivial | exact Iff.rfl | apply And.intro)
theorem s216 (t : Trk) (i : Nat) (b a : Bool) (hn : NearOK t.p i b a) : PSpec Tryz.prog 103 [tkX t, nrX t.p i b a] (xP (brk t i b a 4)) := by
  have c1 := s285 t.p i b a hn
  have f2 : rI (tkA t) 0 (0 + 0 + (0 + 1 + 1 + 1 + 1 + 1)) = t.c.jerk := rfl
  cases b
  all_goals
    cases a
    all_goals
      refine spec_of pMix (O := [(1, ([], [⟨0, [], []⟩, ⟨2, [], []⟩, ⟨3, [], []⟩, ⟨4, [], []⟩, ⟨5, [], []⟩, ⟨6, [], []⟩, ⟨1, [2, 3, 4, 5, 6], []⟩, ⟨7, [], []⟩, ⟨8, [], []⟩]))]) Tryz.func103 (c := bodyOf Tryz.f103) rfl (by kernel_rfl) (by kernel_rfl) Tryz.ntmps103 (res := [.tmp 4]) (by kernel_rfl) ?_
      repeat' ((conv => whnf); first | rw [f2] | refine CallVC0.pure rfl (c1) ?_)
      repeat refine Mm.mk ?_
      refine EndVC.mk _ rfl _ _ ⟨rfl, rfl⟩ ?_
      refine ⟨[], rfl, rfl, ?_, ?_⟩ <;> repeat' (first | exact trivial | exact Iff.rfl | apply And.intro)
theorem s217 (t : Trk) (i : Nat) (b a : Bool) (ht : TrkOK t) (hn : NearOK t.p i b a) : PSpec Tryz.prog 104 [tkX t, nrX t.p i b a] (xP (brk t i b a 5)) := by
  have c1 := s285 t.p i b a hn
  have c2 := s286 t ht
  have f2 : rI (tkA t) 0 (0 + 0 + (0 + 1 + 1 + 1 + 1 + 1 + 1)) = t.c.sty := rfl
  have hst := bdF_bd hn
  have hs := ht.c.sty
  have h1 := mul_rng (a := bdF t.p i b a) (b := t.c.sty) (A := 16777216) (B := 1024) (by omega) hs
  cases b
  all_goals
    cases a
    all_goals
      refine spec_of pMix (O := [(1, ([], [⟨0, [], []⟩, ⟨2, [], []⟩, ⟨3, [], []⟩, ⟨4, [], []⟩, ⟨5, [], []⟩, ⟨6, [], []⟩, ⟨8, [], []⟩, ⟨1, [2, 3, 4, 5, 6, 8], []⟩, ⟨7, [], []⟩, ⟨9, [2, 3, 4, 5, 6, 7], []⟩, ⟨10, [], []⟩, ⟨11, [], []⟩]))]) Tryz.func104 (c := bodyOf Tryz.f104) rfl (by kernel_rfl) (by kernel_rfl) Tryz.ntmps104 (res := [.tmp 4]) (by kernel_rfl) ?_
      repeat' ((conv => whnf); first | rw [f2] | refine Rng.g ?_ | refine CallVC0.pure rfl (c1) ?_ | refine CallVC0.pure rfl (c2) ?_)
      repeat refine Mm.mk ?_
      refine EndVC.mk _ rfl _ _ ⟨rfl, rfl⟩ ?_
      refine ⟨[], rfl, rfl, ?_, ?_⟩ <;> repeat' (first | exact trivial | exact Iff.rfl | apply And.intro)
/-- The first rule that is broken. -/
def ruleF (t : Trk) (i : Nat) (b a : Bool) : Int := if brk t i b a 1 then 1 else if brk t i b a 2 then 2 else if brk t i b a 3 then 3 else if brk t i b a 4 then 4 else if brk t i b a 5 then 5 else 0
theorem s128 (t : Trk) (i : Nat) (b a : Bool) (ht : TrkOK t) (hn : NearOK t.p i b a) : PSpec Tryz.prog 82 [tkX t, nrX t.p i b a] (.x (I (ruleF t i b a))) := by
  have c1 := s213 t i b a hn
  have c2 := s214 t i b a hn
  have c3 := s215 t i b a ht hn
  have c4 := s216 t i b a hn
  have c5 := s217 t i b a ht hn
  cases b
  all_goals
    cases a
    all_goals
      refine spec_of pMix (O := []) Tryz.func82 (c := bodyOf Tryz.f82) rfl (by kernel_rfl) (by kernel_rfl) Tryz.ntmps82 (res := [.tmp 4]) (by kernel_rfl) ?_
      repeat' ((conv => whnf); first | refine Rng.g ?_ | fail)
      refine LoopVC.un 6 ?_
      repeat' ((conv => whnf); first | refine Rng.g ?_ | refine Ob.g ?_ | refine CallVC.pure rfl (c1) ?_ | refine CallVC.pure rfl (c2) ?_ | refine CallVC.pure rfl (c3) ?_ | refine CallVC.pure rfl (c4) ?_ | refine CallVC.pure rfl (c5) ?_ | (refine Br.mk (fun h => ?_) (fun h => ?_) <;> first | (exfalso; omega; done) | (exfalso; simp at h; done) | skip))
      all_goals
        repeat refine Mm.mk ?_
        refine EndVC.mk _ rfl _ _ ⟨rfl, rfl⟩ ?_
        refine ⟨[], rfl, rfl, ?_, ?_⟩ <;> repeat' (first | exact trivial | exact rfl | apply And.intro)
        simp [ruleF, *]
end Go.Sx

namespace Go.Sx
open Go Go.Proofs
set_option maxRecDepth 10000
set_option maxHeartbeats 4000000
theorem s129 (t : Trk) (i : Nat) (b a : Bool) (hl : t.p.length ≤ 4096) (hi : i < t.p.length) (hb : b = true ↔ 0 < i) (ha : a = true ↔ i + 1 < t.p.length) : PSpec Tryz.prog 99 [tkX t, I (i : Int)] (.x (nrX t.p i b a)) := by
  have f7 : rA (tkA t) 0 (0 + (0 + 1 + 1 + 1 + 1 + 1 + 1 + 1)) = smpA t.p := rfl
  have lp := smpA_len t.p
  cases b
  all_goals
    have hb' : ¬ 0 < i ∨ 0 < i := by omega
    cases a
    all_goals
      simp only [true_iff, reduceCtorEq, false_iff] at hb ha
      refine spec_of pMix (O := []) Tryz.func99 (c := bodyOf Tryz.f99) rfl (by kernel_rfl) (by kernel_rfl) Tryz.ntmps99 (res := [.cell 4 168]) (by kernel_rfl) ?_
      repeat' ((conv => whnf); first | rw [f7] | refine Rng.g ?_ | refine Ob.g ?_ | refine JoinVC.on ?_ | (refine Br.mk (fun h => ?_) (fun h => ?_) <;> first | (exfalso; omega; done) | (exfalso; simp at h; done) | skip))
      repeat refine Mm.mk ?_
      refine EndVC.mk _ rfl _ _ ⟨rfl, rfl⟩ ?_
      refine ⟨[], rfl, rfl, ?_, ?_⟩ <;> repeat' (first | exact trivial | exact rfl | apply And.intro)
  all_goals omega
theorem s208 (t : Trk) : HSpec Tryz.prog 81 [tkX t] [] (fun r m' => r = .x (.one (.fn 98 [(0, 0)])) ∧ m' = [some (.box 140 [.lel true KTk (tkA t) 0 0])]) := by
  refine spec_of pMix (O := []) Tryz.func81 (c := bodyOf Tryz.f81) rfl (by kernel_rfl) (by kernel_rfl) Tryz.ntmps81 (res := [.tmp 2]) (by kernel_rfl) ?_
  repeat' ((conv => whnf); first | refine Rng.g ?_ | fail)
  repeat refine Mm.mk ?_
  refine EndVC.mk _ rfl _ _ ⟨rfl, rfl⟩ ?_
  refine ⟨[some 0], rfl, rfl, ?_, ?_⟩ <;> repeat' (first | exact trivial | exact rfl | apply And.intro)
def bB (i : Nat) : Bool := decide (0 < i)
def aB (l : List Smp) (i : Nat) : Bool := decide (i + 1 < l.length)
theorem TrkOK.near {t : Trk} (ht : TrkOK t) {i : Nat} (hi : i < t.p.length) : NearOK t.p i (bB i) (aB t.p i) :=
  ⟨ht.p.each i hi, fun _ => ht.p.each _ (by omega), fun ha => ht.p.each _ (of_decide_eq_true ha)⟩
def ruleAt (t : Trk) (i : Nat) : Int := ruleF t i (bB i) (aB t.p i)
theorem ruleF_rng (t : Trk) (i : Nat) (b a : Bool) : 0 ≤ ruleF t i b a ∧ ruleF t i b a ≤ 5 := by
  unfold ruleF
  repeat' split
  all_goals omega
/-- The fault of a groove. -/
structure FaultIs (t : Trk) (i : Nat) (x : Int) : Prop where
  none : x = 0 → i = 0 ∧ ∀ j, j < t.p.length → ruleAt t j = 0
  some : x ≠ 0 → i < t.p.length ∧ x = ruleAt t i ∧ ∀ j, j < i → ruleAt t j = 0
def cF : Code → Code
  | .seq a _ => a
  | c => c
def cS : Code → Code
  | .seq _ b => b
  | c => c
def cB : Code → Code
  | .block _ c => c
  | c => c
def cAs : Code → Code
  | .rangeFunc _ _ x _ => x
  | c => c
def cBo : Code → Code
  | .rangeFunc _ _ _ b => b
  | c => c
noncomputable def rf116 : Code := cB (cS (cF (cS (bodyOf Tryz.f65))))
theorem s116 (t : Trk) (ht : TrkOK t) : HSpec Tryz.prog 65 [tkX t] [] (fun r m' => ∃ (i : Nat) (x : Int), FaultIs t i x ∧ r = .tup [I (i : Int), I x] ∧ m' = []) := by
  have lp := smpA_len t.p
  have hl := ht.p.len
  have f7 : rA (tkA t) 0 (0 + (0 + 1 + 1 + 1 + 1 + 1 + 1 + 1)) = smpA t.p := rfl
  refine spec_of pMix (O := []) Tryz.func65 (c := bodyOf Tryz.f65) rfl (by kernel_rfl) (by kernel_rfl) Tryz.ntmps65 (res := [.cell 2 3, .cell 3 3]) (by kernel_rfl) ?_
  repeat' ((conv => whnf); first | refine Rng.g ?_ | fail)
  conv => whnf
  refine CallVC.mk [] _ _ _ rfl rfl rfl (s208 t) (fun r m' h' => ?_)
  obtain ⟨rfl, rfl⟩ := h'
  conv => whnf
  repeat' ((conv => whnf); first | refine Rng.g ?_ | fail)
  change RangeVC _ _ _ _ _
  refine RangeVC.mk e98 (isem_of_awp pMix [] Tryz.func98 (c := bodyOf Tryz.f98) rfl (by kernel_rfl) Tryz.ntmps98 (by kernel_rfl) ?_)
  repeat' ((conv => whnf); first | rw [f7])
  refine LoopVC.mk (fun n st => ∃ (i : Nat), i ≤ t.p.length ∧ n = t.p.length - i ∧ (∀ j, j < i → ruleAt t j = 0) ∧ st = ⟨5, envA 20 [(0, .x (.one (.yld 4))), (1, .x (.one (.ptr 3 0))), (8, .int .i64 (t.p.length : Int)), (9, .int .i64 (i : Int))], [some (.box 140 [.lel true KTk (tkA t) 0 0]), some (.box 3 [.int .i64 0]), some (.box 3 [.int .i64 0]), some (.box 140 [.lel true KTk (tkA t) 0 0]), some (.loop [9, 10] (cAs rf116) (cBo rf116) (envA 18 [(1, .x (.one (.ptr 0 0))), (2, .x (.one (.ptr 1 0))), (3, .x (.one (.ptr 2 0)))]) .ready)]⟩) _ _ ⟨0, Nat.zero_le _, rfl, fun j hj => absurd hj (Nat.not_lt_zero j), rfl⟩ ?_ ?_
  · refine ⟨[some 0, some 1, some 2, some 3, some 4], rfl, rfl, ?_, ?_⟩ <;> repeat' (first | exact trivial | exact rfl | apply And.intro)
    exact congrArg Int.ofNat lp
  rintro n _ ⟨i, hi, hn, hj, rfl⟩
  by_cases hi' : i < t.p.length
  · have c1 := s129 t i (bB i) (aB t.p i) hl hi' decide_eq_true_iff decide_eq_true_iff
    have c2 := s128 t i (bB i) (aB t.p i) ht (ht.near hi')
    have e : ruleAt t i = ruleF t i (bB i) (aB t.p i) := rfl
    have hr5 := ruleF_rng t i (bB i) (aB t.p i)
    obtain ⟨b, hb⟩ : ∃ b, bB i = b := ⟨_, rfl⟩
    obtain ⟨a, ha⟩ : ∃ a, aB t.p i = a := ⟨_, rfl⟩
    rw [hb, ha] at c1 c2 e hr5
    cases b
    all_goals
      cases a
      all_goals
        repeat' ((conv => whnf); first | refine Rng.g ?_ | refine CallVC.pure rfl (c1) ?_ | refine CallVC.pure rfl (c2) ?_ | refine YieldVC.mk (rsem_of_awp pMix [] rfl (by kernel_rfl) ?_) | (refine Br.mk (fun h => ?_) (fun h => ?_) <;> first | (exfalso; omega; done) | (exfalso; simp at h; done) | skip))
        · repeat refine Mm.mk ?_
          conv => whnf
          refine EndVC.mk _ rfl _ _ (⟨i, _, ⟨fun h0 => by rw [h0] at h; omega, fun _ => ⟨hi', e.symm, hj⟩⟩, rfl, rfl⟩) ?_
          refine ⟨[], rfl, rfl, ?_, ?_⟩ <;> repeat' (first | exact trivial | exact rfl | apply And.intro)
        · refine Back.mk (t.p.length - (i + 1)) _ (by omega) ⟨i + 1, by omega, rfl, fun j hj' => ?_, rfl⟩ ?_
          · rcases Nat.lt_succ_iff_lt_or_eq.1 hj' with h' | h'
            · exact hj j h'
            · rw [h', e]; omega
          · refine ⟨[some 0, some 1, some 2, some 3, some 4], rfl, rfl, ?_, ?_⟩ <;> repeat' (first | exact trivial | exact rfl | apply And.intro)
  · repeat' ((conv => whnf); first | (refine Br.mk (fun h => ?_) (fun h => ?_) <;> first | (exfalso; omega; done) | (exfalso; simp at h; done) | skip))
    repeat refine Mm.mk ?_
    conv => whnf
    refine EndVC.mk _ rfl _ _ (⟨0, 0, ⟨fun _ => ⟨rfl, fun j hj' => hj j (by omega)⟩, fun h0 => absurd rfl h0⟩, rfl, rfl⟩) ?_
    refine ⟨[], rfl, rfl, ?_, ?_⟩ <;> repeat' (first | exact trivial | exact rfl | apply And.intro)
end Go.Sx

namespace Go.Sx
open Go Go.Proofs
set_option maxRecDepth 10000
set_option maxHeartbeats 4000000
theorem s112 (c : Cut) (l : List Smp) : HSpec Tryz.prog 61 [c.x, lS l] [] (fun r m' => (∃ e, ¬ (CutOK c ∧ PtsOK l) ∧ e ≠ 0 ∧ r = .tup [.one .nilp, I e] ∧ m' = []) ∨ (CutOK c ∧ PtsOK l ∧ r = .tup [.one (.ptr 0 0), I 0] ∧ m' = [some (bTk ⟨c, l, 0, 0⟩)])) := by
  have v1 := s105 c
  have v2 := s153 l
  by_cases hC : ¬ CutOK c
  · refine spec_of pMix (O := []) Tryz.func61 (c := bodyOf Tryz.f61) rfl (by kernel_rfl) (by kernel_rfl) Tryz.ntmps61 (res := [.tmp 4, .tmp 5]) (by kernel_rfl) ?_
    repeat' ((conv => whnf); first | refine Rng.g ?_ | fail)
    conv => whnf
    refine CallVC.mk [] _ _ _ rfl rfl rfl (v1) (fun r m' h' => ?_)
    obtain ⟨e, rfl, rfl, he⟩ := h'
    conv => whnf
    have he0 : e ≠ 0 := fun h0 => hC (he.1 h0)
    repeat' ((conv => whnf); first | (refine Br.mk (fun h => ?_) (fun h => ?_) <;> first | (exfalso; omega; done) | (exfalso; simp at h; done) | skip))
    repeat refine Mm.mk ?_
    conv => whnf
    refine EndVC.mk _ rfl _ _ (.inl ⟨e, fun h => hC h.1, he0, rfl, rfl⟩) ?_
    refine ⟨[], rfl, rfl, ?_, ?_⟩ <;> repeat' (first | exact trivial | exact rfl | apply And.intro)
  replace hC := Classical.not_not.1 hC
  by_cases hP : ¬ PtsOK l
  · refine spec_of pMix (O := []) Tryz.func61 (c := bodyOf Tryz.f61) rfl (by kernel_rfl) (by kernel_rfl) Tryz.ntmps61 (res := [.tmp 4, .tmp 5]) (by kernel_rfl) ?_
    repeat' ((conv => whnf); first | refine Rng.g ?_ | fail)
    conv => whnf
    refine CallVC.mk [] _ _ _ rfl rfl rfl (v1) (fun r m' h' => ?_)
    obtain ⟨e, rfl, rfl, he⟩ := h'
    conv => whnf
    cases he.2 hC
    repeat' ((conv => whnf); first | (refine Br.mk (fun h => ?_) (fun h => ?_) <;> first | (exfalso; omega; done) | (exfalso; simp at h; done) | skip))
    conv => whnf
    refine CallVC.mk [] _ _ _ rfl rfl rfl (v2) (fun r m' h' => ?_)
    obtain ⟨e, rfl, rfl, he'⟩ := h'
    conv => whnf
    have he0 : e ≠ 0 := fun h0 => hP (he'.1 h0)
    repeat' ((conv => whnf); first | (refine Br.mk (fun h => ?_) (fun h => ?_) <;> first | (exfalso; omega; done) | (exfalso; simp at h; done) | skip))
    repeat refine Mm.mk ?_
    conv => whnf
    refine EndVC.mk _ rfl _ _ (.inl ⟨e, fun h => hP h.2, he0, rfl, rfl⟩) ?_
    refine ⟨[], rfl, rfl, ?_, ?_⟩ <;> repeat' (first | exact trivial | exact rfl | apply And.intro)
  replace hP := Classical.not_not.1 hP
  refine spec_of pMix (O := []) Tryz.func61 (c := bodyOf Tryz.f61) rfl (by kernel_rfl) (by kernel_rfl) Tryz.ntmps61 (res := [.tmp 4, .tmp 5]) (by kernel_rfl) ?_
  repeat' ((conv => whnf); first | refine Rng.g ?_ | fail)
  conv => whnf
  refine CallVC.mk [] _ _ _ rfl rfl rfl (v1) (fun r m' h' => ?_)
  obtain ⟨e, rfl, rfl, he⟩ := h'
  conv => whnf
  cases he.2 hC
  repeat' ((conv => whnf); first | (refine Br.mk (fun h => ?_) (fun h => ?_) <;> first | (exfalso; omega; done) | (exfalso; simp at h; done) | skip))
  conv => whnf
  refine CallVC.mk [] _ _ _ rfl rfl rfl (v2) (fun r m' h' => ?_)
  obtain ⟨e, rfl, rfl, he'⟩ := h'
  conv => whnf
  cases he'.2 hP
  repeat' ((conv => whnf); first | (refine Br.mk (fun h => ?_) (fun h => ?_) <;> first | (exfalso; omega; done) | (exfalso; simp at h; done) | skip))
  repeat refine Mm.mk ?_
  conv => whnf
  refine EndVC.mk _ rfl _ _ (.inr ⟨hC, hP, rfl, rfl⟩) ?_
  refine ⟨[some 1], rfl, rfl, ?_, ?_⟩ <;> repeat' (first | exact trivial | exact rfl | apply And.intro)
/-! ### Greater radii are milder -/
def Trk.at (t : Trk) (r : Int) : Trk := ⟨t.c, t.p, r, t.per⟩
theorem arcF_mono {r q per : Int} (h0 : 0 ≤ r) (h : r ≤ q) (hp : 1 ≤ per) : arcF r per ≤ arcF q per := by
  unfold arcF
  refine Int.ediv_le_ediv (Int.mul_pos (by omega) (by omega)) ?_
  exact Int.mul_le_mul (by omega) (by omega) (by omega) (by omega)
theorem brk_mono {t : Trk} (hc : CutOK t.c) (hp : 1 ≤ t.per) {r q : Int} (h0 : 0 ≤ r) (h : r ≤ q) (i : Nat) (b a : Bool) (k : Nat) (hb : brk (t.at q) i b a k) : brk (t.at r) i b a k := by
  have hs := hc.slope
  unfold brk at hb ⊢
  match k with
  | 0 => exact hb
  | 1 => exact hb
  | 2 => exact hb
  | 3 =>
    have : 710 * r * t.c.slope ≤ 710 * q * t.c.slope := Int.mul_le_mul_of_nonneg_right (by omega) hs.1
    simp only [Trk.at] at hb ⊢
    omega
  | 4 => exact hb
  | 5 =>
    have := arcF_mono h0 h hp
    simp only [Trk.at] at hb ⊢
    omega
  | _ + 6 => exact hb
theorem ruleF_0 (t : Trk) (i : Nat) (b a : Bool) : ruleF t i b a = 0 ↔ ¬ brk t i b a 1 ∧ ¬ brk t i b a 2 ∧ ¬ brk t i b a 3 ∧ ¬ brk t i b a 4 ∧ ¬ brk t i b a 5 := by
  unfold ruleF
  repeat' split
  all_goals simp_all
def pN (t : Trk) (i : Nat) (r : Int) : Prop := ruleAt (t.at r) i = 0
instance (t : Trk) (i : Nat) (r : Int) : Decidable (pN t i r) := by unfold pN; exact inferInstance
def pL (t : Trk) (r : Int) : Prop := ∀ j, j < t.p.length → pN t j r
open Classical in
noncomputable instance (t : Trk) (r : Int) : Decidable (pL t r) := propDecidable _
theorem pN.mono {t : Trk} (hc : CutOK t.c) (hp : 1 ≤ t.per) {i : Nat} {r q : Int} (h0 : 0 ≤ r) (h : r ≤ q) (hn : pN t i r) : pN t i q := by
  unfold pN ruleAt at hn ⊢
  rw [ruleF_0] at hn ⊢
  obtain ⟨h1, h2, h3, h4, h5⟩ := hn
  exact ⟨fun hb => h1 (brk_mono hc hp h0 h _ _ _ _ hb), fun hb => h2 (brk_mono hc hp h0 h _ _ _ _ hb), fun hb => h3 (brk_mono hc hp h0 h _ _ _ _ hb), fun hb => h4 (brk_mono hc hp h0 h _ _ _ _ hb), fun hb => h5 (brk_mono hc hp h0 h _ _ _ _ hb)⟩
theorem pL.mono {t : Trk} (hc : CutOK t.c) (hp : 1 ≤ t.per) {r q : Int} (h0 : 0 ≤ r) (h : r ≤ q) (hn : pL t r) : pL t q := fun j hj => (hn j hj).mono hc hp h0 h
theorem FaultIs.zero {t : Trk} {i : Nat} {x : Int} (h : FaultIs t i x) : x = 0 ↔ pL t t.r := by
  constructor
  · intro h0 j hj
    exact (h.none h0).2 j hj
  · intro hp
    refine Classical.byContradiction fun h0 => ?_
    obtain ⟨h1, h2, _⟩ := h.some h0
    exact h0 (h2.trans (hp i h1))
/-! ### The least radius of a groove -/
theorem s115 (t : Trk) (ht : TrkOK t) : HSpec Tryz.prog 64 [.one (.ptr 0 0)] [.box 140 [.ptr 1 0], bTk t] (fun r m' => r = xP (pL t t.r) ∧ m' = [some (.box 140 [.ptr 1 0]), some (bTk t)]) := by
  refine spec_of pMix (O := []) Tryz.func64 (c := bodyOf Tryz.f64) rfl (by kernel_rfl) (by kernel_rfl) Tryz.ntmps64 (res := [.tmp 1]) (by kernel_rfl) ?_
  repeat' ((conv => whnf); first | refine Rng.g ?_ | fail)
  conv => whnf
  refine CallVC.mk [] _ _ _ rfl rfl rfl (s116 t ht) (fun r m' h' => ?_)
  obtain ⟨i, x, hF, rfl, rfl⟩ := h'
  conv => whnf
  repeat' ((conv => whnf); first | refine Rng.g ?_ | fail)
  repeat refine Mm.mk ?_
  refine EndVC.mk _ rfl _ _ ⟨rfl, rfl⟩ ?_
  refine ⟨[some 0, some 1], rfl, rfl, ?_, ?_⟩ <;> repeat' (first | exact trivial | exact rfl | apply And.intro)
  all_goals exact hF.zero
theorem s207 (t : Trk) (r : Int) (ht : TrkOK (t.at r)) : HSpec Tryz.prog 80 [I r, .one (.ptr 0 0), .one (.ptr 1 0)] [.box 140 [.ptr 2 0], .box 29 [.fn 64 [(3, 0)]], bTk t, .box 140 [.ptr 2 0]] (fun x m' => x = xP (pL t r) ∧ m' = [some (.box 140 [.ptr 2 0]), some (.box 29 [.fn 64 [(3, 0)]]), some (bTk (t.at r)), some (.box 140 [.ptr 2 0])]) := by
  refine spec_of pMix (O := []) Tryz.func80 (c := bodyOf Tryz.f80) rfl (by kernel_rfl) (by kernel_rfl) Tryz.ntmps80 (res := [.tmp 4]) (by kernel_rfl) ?_
  repeat' ((conv => whnf); first | refine Rng.g ?_ | fail)
  conv => whnf
  refine CallVC.mk [3, 2] _ _ _ rfl rfl rfl (s115 (t.at r) ht) (fun r m' h' => ?_)
  obtain ⟨rfl, rfl⟩ := h'
  conv => whnf
  repeat' ((conv => whnf); first | refine Rng.g ?_ | fail)
  repeat refine Mm.mk ?_
  refine EndVC.mk _ rfl _ _ ⟨rfl, rfl⟩ ?_
  refine ⟨[some 0, some 1, some 2, some 3], rfl, rfl, ?_, ?_⟩ <;> repeat' (first | exact trivial | exact rfl | exact Iff.rfl | apply And.intro)
end Go.Sx

namespace Go.Sx
open Go Go.Proofs
set_option maxRecDepth 10000
set_option maxHeartbeats 4000000
theorem s206L (t : Trk) (r0 r : Int) (ht : TrkOK (t.at r)) : HSpec Tryz.prog 97 [I r, .one (.ptr 0 0)] [.box 162 [.fn 80 [(1, 0), (2, 0)]], .box 140 [.ptr 3 0], .box 29 [.fn 64 [(4, 0)]], bTk (t.at r0), .box 140 [.ptr 3 0]] (fun x m' => x = xP (pL t r) ∧ m' = [some (.box 162 [.fn 80 [(1, 0), (2, 0)]]), some (.box 140 [.ptr 3 0]), some (.box 29 [.fn 64 [(4, 0)]]), some (bTk (t.at r)), some (.box 140 [.ptr 3 0])]) := by
  refine spec_of pMix (O := []) Tryz.func97 (c := bodyOf Tryz.f97) rfl (by kernel_rfl) (by kernel_rfl) Tryz.ntmps97 (res := [.tmp 3]) (by kernel_rfl) ?_
  repeat' ((conv => whnf); first | refine Rng.g ?_ | fail)
  conv => whnf
  refine CallVC.mk [1, 2, 3, 4] _ _ _ rfl rfl rfl (s207 (t.at r0) r ht) (fun r m' h' => ?_)
  obtain ⟨rfl, rfl⟩ := h'
  conv => whnf
  repeat' ((conv => whnf); first | refine Rng.g ?_ | fail)
  repeat refine Mm.mk ?_
  refine EndVC.mk _ rfl _ _ ⟨rfl, rfl⟩ ?_
  refine ⟨[some 0, some 1, some 2, some 3, some 4], rfl, rfl, ?_, ?_⟩ <;> repeat' (first | exact trivial | exact rfl | exact Iff.rfl | apply And.intro)
theorem s136L (t : Trk) (r0 : Int) (ht : ∀ r, 0 ≤ r → r ≤ 4194304 → TrkOK (t.at r)) : HSpec Tryz.prog 96 [I 4194305, .one (.fn 97 [(0, 0)])] [.box 162 [.fn 80 [(1, 0), (2, 0)]], .box 140 [.ptr 3 0], .box 29 [.fn 64 [(4, 0)]], bTk (t.at r0), .box 140 [.ptr 3 0]] (fun x m' => ∃ k r', Least (pL t) 4194305 k ∧ x = .x (I k) ∧ m' = [some (.box 162 [.fn 80 [(1, 0), (2, 0)]]), some (.box 140 [.ptr 3 0]), some (.box 29 [.fn 64 [(4, 0)]]), some (bTk (t.at r')), some (.box 140 [.ptr 3 0])]) := by
  have hc : CutOK t.c := (ht 0 (by decide) (by decide)).c
  have hp : 1 ≤ t.per := (ht 0 (by decide) (by decide)).per.1
  refine spec_of pMix (O := []) Tryz.func96 (c := bodyOf Tryz.f96) rfl (by kernel_rfl) (by kernel_rfl) Tryz.ntmps96 (res := [.tmp 4]) (by kernel_rfl) ?_
  repeat' ((conv => whnf); first | refine Rng.g ?_ | fail)
  refine LoopVC.mk (fun n st => ∃ (i' j r1 : Int), (0 ≤ i' ∧ i' ≤ j ∧ j ≤ 4194305) ∧ n = (j - i').toNat ∧ (∀ q, 0 ≤ q → q < i' → ¬ pL t q) ∧ (j < 4194305 → pL t j) ∧ st = ⟨5, envA 26 [(1, .x (.one (.fn 97 [(0, 0)]))), (5, .int .i64 i'), (6, .int .i64 j)], [some (.box 162 [.fn 80 [(1, 0), (2, 0)]]), some (.box 140 [.ptr 3 0]), some (.box 29 [.fn 64 [(4, 0)]]), some (bTk (t.at r1)), some (.box 140 [.ptr 3 0])]⟩) _ _ ⟨0, 4194305, r0, by omega, rfl, fun q h1 h2 => by omega, fun h1 => by omega, rfl⟩ ?_ ?_
  · refine ⟨[some 0, some 1, some 2, some 3, some 4], rfl, rfl, ?_, ?_⟩ <;> repeat' (first | exact trivial | exact rfl | apply And.intro)
  rintro n _ ⟨i', j, r1, hij, hn, hno, hyes, rfl⟩
  by_cases hlt : i' < j
  · obtain ⟨g, hg⟩ : ∃ g, g = (i' + j) / 2 := ⟨_, rfl⟩
    have h1 : i' ≤ g ∧ g < j := by omega
    repeat' ((conv => whnf); first | refine Rng.g ?_ | refine Ob.g ?_ | (refine Br.mk (fun h => ?_) (fun h => ?_) <;> first | (exfalso; omega; done) | (exfalso; simp at h; done) | skip))
    refine Val.mk g (by rw [hg]; rfl) ?_
    repeat' ((conv => whnf); first | refine Rng.g ?_ | fail)
    conv => whnf
    refine CallVC.mk [0, 1, 2, 3, 4] _ _ _ rfl rfl rfl (s206L t r1 g (ht g (by omega) (by omega))) (fun r m' h' => ?_)
    obtain ⟨rfl, rfl⟩ := h'
    conv => whnf
    repeat' ((conv => whnf); first | refine Rng.g ?_ | refine JoinVC.on ?_ | (refine Br.mk (fun h => ?_) (fun h => ?_) <;> first | (exfalso; omega; done) | (exfalso; simp at h; done) | skip))
    · refine Back.mk (j - (g + 1)).toNat _ (by omega) ⟨g + 1, j, g, by omega, rfl, fun q h2 h3 h4 => h (h4.mono hc hp h2 (by omega)), hyes, rfl⟩ ?_
      refine ⟨[some 0, some 1, some 2, some 3, some 4], rfl, rfl, ?_, ?_⟩ <;> repeat' (first | exact trivial | exact rfl | apply And.intro)
    · refine Back.mk (g - i').toNat _ (by omega) ⟨i', g, g, by omega, rfl, hno, fun _ => Classical.not_not.1 h, rfl⟩ ?_
      refine ⟨[some 0, some 1, some 2, some 3, some 4], rfl, rfl, ?_, ?_⟩ <;> repeat' (first | exact trivial | exact rfl | apply And.intro)
  · repeat' ((conv => whnf); first | (refine Br.mk (fun h => ?_) (fun h => ?_) <;> first | (exfalso; omega; done) | (exfalso; simp at h; done) | skip))
    have e : i' = j := by omega
    subst e
    repeat refine Mm.mk ?_
    conv => whnf
    refine EndVC.mk _ rfl _ _ (⟨i', r1, ⟨by omega, hno, hyes⟩, rfl, rfl⟩) ?_
    refine ⟨[some 0, some 1, some 2, some 3, some 4], rfl, rfl, ?_, ?_⟩ <;> repeat' (first | exact trivial | exact rfl | apply And.intro)
theorem s109L (t : Trk) (r0 : Int) (ht : ∀ r, 0 ≤ r → r ≤ 4194304 → TrkOK (t.at r)) : HSpec Tryz.prog 79 [I 4194304, .one (.fn 80 [(0, 0), (1, 0)])] [.box 140 [.ptr 2 0], .box 29 [.fn 64 [(3, 0)]], bTk (t.at r0), .box 140 [.ptr 2 0]] (fun x m' => ∃ k r', Least (pL t) 4194305 k ∧ x = .x (I k) ∧ m' = [some (.box 140 [.ptr 2 0]), some (.box 29 [.fn 64 [(3, 0)]]), some (bTk (t.at r')), some (.box 140 [.ptr 2 0])]) := by
  refine spec_of pMix (O := []) Tryz.func79 (c := bodyOf Tryz.f79) rfl (by kernel_rfl) (by kernel_rfl) Tryz.ntmps79 (res := [.tmp 4]) (by kernel_rfl) ?_
  repeat' ((conv => whnf); first | refine Rng.g ?_ | fail)
  conv => whnf
  refine CallVC.mk [4, 0, 1, 2, 3] _ _ _ rfl rfl rfl (s136L t r0 ht) (fun r m' h' => ?_)
  obtain ⟨k, r', hk, rfl, rfl⟩ := h'
  conv => whnf
  have hk1 := hk.rng
  repeat' ((conv => whnf); first | refine Rng.g ?_ | fail)
  repeat refine Mm.mk ?_
  conv => whnf
  refine EndVC.mk _ rfl _ _ (⟨k, r', hk, rfl, rfl⟩) ?_
  refine ⟨[some 0, some 1, some 2, some 3], rfl, rfl, ?_, ?_⟩ <;> repeat' (first | exact trivial | exact rfl | apply And.intro)
theorem s114L (t : Trk) (per0 : Int) (ht : ∀ r, 0 ≤ r → r ≤ 4194304 → TrkOK (t.at r)) : HSpec Tryz.prog 63 [.one (.ptr 0 0), I t.per, .one (.fn 64 [(1, 0)])] [bTk ⟨t.c, t.p, t.r, per0⟩, .box 140 [.ptr 0 0]] (fun x m' => ∃ k r', Least (pL t) 4194305 k ∧ ((4194304 < k ∧ x = .tup [I 0, I 14]) ∨ (k ≤ 4194304 ∧ x = .tup [I k, I 0])) ∧ m' = [some (bTk (t.at r')), some (.box 140 [.ptr 0 0])]) := by
  refine spec_of pMix (O := []) Tryz.func63 (c := bodyOf Tryz.f63) rfl (by kernel_rfl) (by kernel_rfl) Tryz.ntmps63 (res := [.tmp 6, .tmp 7]) (by kernel_rfl) ?_
  repeat' ((conv => whnf); first | refine Rng.g ?_ | fail)
  conv => whnf
  refine CallVC.mk [2, 3, 0, 1] _ _ _ rfl rfl rfl (s109L t t.r ht) (fun r m' h' => ?_)
  obtain ⟨k, r', hk, rfl, rfl⟩ := h'
  conv => whnf
  have hk1 := hk.rng
  repeat' ((conv => whnf); first | (refine Br.mk (fun h => ?_) (fun h => ?_) <;> first | (exfalso; omega; done) | (exfalso; simp at h; done) | skip))
  · repeat refine Mm.mk ?_
    conv => whnf
    refine EndVC.mk _ rfl _ _ (⟨k, r', hk, .inl ⟨by omega, rfl⟩, rfl⟩) ?_
    refine ⟨[some 0, some 1], rfl, rfl, ?_, ?_⟩ <;> repeat' (first | exact trivial | exact rfl | apply And.intro)
  · repeat refine Mm.mk ?_
    conv => whnf
    refine EndVC.mk _ rfl _ _ (⟨k, r', hk, .inr ⟨by omega, rfl⟩, rfl⟩) ?_
    refine ⟨[some 0, some 1], rfl, rfl, ?_, ?_⟩ <;> repeat' (first | exact trivial | exact rfl | apply And.intro)
end Go.Sx

namespace Go.Sx
open Go Go.Proofs
set_option maxRecDepth 10000
set_option maxHeartbeats 4000000
/-- The least radius of a groove. -/
inductive LsRs (c : Cut) (l : List Smp) (per : Int) (r : AV) (m' : List (Option Blk)) : Prop
  | bad (e : Int) (h : ¬ (CutOK c ∧ PtsOK l ∧ 1 ≤ per ∧ per ≤ 65536)) (he : e ≠ 0) (hr : r = .tup [I 0, I e]) (hm : m' = [])
  | none (ht : ∀ r, 0 ≤ r → r ≤ 4194304 → TrkOK (Trk.at ⟨c, l, 0, per⟩ r)) (h : ¬ pL ⟨c, l, 0, per⟩ 4194304) (hr : r = .tup [I 0, I 14]) (hm : m' = [])
  | ok (ht : ∀ r, 0 ≤ r → r ≤ 4194304 → TrkOK (Trk.at ⟨c, l, 0, per⟩ r)) (k : Int) (hk : Least (pL ⟨c, l, 0, per⟩) 4194305 k) (hk' : k ≤ 4194304) (hr : r = .tup [I k, I 0]) (hm : m' = [])
theorem s35 (c : Cut) (l : List Smp) (per : Int) : HSpec Tryz.prog 37 [c.x, lS l, I per] [] (LsRs c l per) := by
  by_cases hb : ¬ (CutOK c ∧ PtsOK l)
  · refine spec_of pMix (O := []) Tryz.func37 (c := bodyOf Tryz.f37) rfl (by kernel_rfl) (by kernel_rfl) Tryz.ntmps37 (res := [.tmp 6, .tmp 7]) (by kernel_rfl) ?_
    repeat' ((conv => whnf); first | refine Rng.g ?_ | fail)
    conv => whnf
    refine CallVC.mk [] _ _ _ rfl rfl rfl (s112 c l) (fun r m' h' => ?_)
    rcases h' with ⟨e, he, he0, rfl, rfl⟩ | ⟨h1, h2, rfl, rfl⟩
    · repeat' ((conv => whnf); first | refine JoinVC.on ?_ | (refine Br.mk (fun h => ?_) (fun h => ?_) <;> first | (exfalso; omega; done) | (exfalso; simp at h; done) | skip))
      repeat refine Mm.mk ?_
      conv => whnf
      refine EndVC.mk _ rfl _ _ (.bad e (fun h => he ⟨h.1, h.2.1⟩) he0 rfl rfl) ?_
      refine ⟨[], rfl, rfl, ?_, ?_⟩ <;> repeat' (first | exact trivial | exact rfl | apply And.intro)
    · exact absurd ⟨h1, h2⟩ hb
  replace hb := Classical.not_not.1 hb
  by_cases hp : 1 ≤ per ∧ per ≤ 65536
  · have c1 := s113 0 per
    rw [if_pos ⟨by decide, hp⟩] at c1
    have ht : ∀ r, 0 ≤ r → r ≤ 4194304 → TrkOK (Trk.at ⟨c, l, 0, per⟩ r) := fun r h1 h2 => ⟨hb.1, hb.2, ⟨h1, h2⟩, hp⟩
    refine spec_of pMix (O := []) Tryz.func37 (c := bodyOf Tryz.f37) rfl (by kernel_rfl) (by kernel_rfl) Tryz.ntmps37 (res := [.tmp 6, .tmp 7]) (by kernel_rfl) ?_
    repeat' ((conv => whnf); first | refine Rng.g ?_ | fail)
    conv => whnf
    refine CallVC.mk [] _ _ _ rfl rfl rfl (s112 c l) (fun r m' h' => ?_)
    rcases h' with ⟨e, he, he0, rfl, rfl⟩ | ⟨h1, h2, rfl, rfl⟩
    · exact absurd hb he
    repeat' ((conv => whnf); first | refine JoinVC.on ?_ | refine CallVC.pure rfl (c1) ?_ | (refine Br.mk (fun h => ?_) (fun h => ?_) <;> first | (exfalso; omega; done) | (exfalso; simp at h; done) | skip))
    conv => whnf
    refine CallVC.mk [1, 2] _ _ _ rfl rfl rfl (s114L ⟨c, l, 0, per⟩ 0 ht) (fun r m' h' => ?_)
    obtain ⟨k, r', hk, hk2, rfl⟩ := h'
    rcases hk2 with ⟨hk3, rfl⟩ | ⟨hk3, rfl⟩
    · repeat' ((conv => whnf); first | refine Rng.g ?_ | fail)
      repeat refine Mm.mk ?_
      conv => whnf
      refine EndVC.mk _ rfl _ _ (.none ht (hk.no 4194304 (by decide) hk3) rfl rfl) ?_
      refine ⟨[], rfl, rfl, ?_, ?_⟩ <;> repeat' (first | exact trivial | exact rfl | apply And.intro)
    · repeat' ((conv => whnf); first | refine Rng.g ?_ | fail)
      repeat refine Mm.mk ?_
      conv => whnf
      refine EndVC.mk _ rfl _ _ (.ok ht k hk hk3 rfl rfl) ?_
      refine ⟨[], rfl, rfl, ?_, ?_⟩ <;> repeat' (first | exact trivial | exact rfl | apply And.intro)
  · have c1 := s113 0 per
    rw [if_neg (fun h => hp h.2)] at c1
    refine spec_of pMix (O := []) Tryz.func37 (c := bodyOf Tryz.f37) rfl (by kernel_rfl) (by kernel_rfl) Tryz.ntmps37 (res := [.tmp 6, .tmp 7]) (by kernel_rfl) ?_
    repeat' ((conv => whnf); first | refine Rng.g ?_ | fail)
    conv => whnf
    refine CallVC.mk [] _ _ _ rfl rfl rfl (s112 c l) (fun r m' h' => ?_)
    rcases h' with ⟨e, he, he0, rfl, rfl⟩ | ⟨h1, h2, rfl, rfl⟩
    · exact absurd hb he
    repeat' ((conv => whnf); first | refine JoinVC.on ?_ | refine CallVC.pure rfl (c1) ?_ | (refine Br.mk (fun h => ?_) (fun h => ?_) <;> first | (exfalso; omega; done) | (exfalso; simp at h; done) | skip))
    repeat refine Mm.mk ?_
    conv => whnf
    refine EndVC.mk _ rfl _ _ (.bad 3 (fun h => hp h.2.2) (by decide) rfl rfl) ?_
    refine ⟨[], rfl, rfl, ?_, ?_⟩ <;> repeat' (first | exact trivial | exact rfl | apply And.intro)
end Go.Sx

namespace Go.Sx
open Go Go.Proofs
set_option maxRecDepth 10000
set_option maxHeartbeats 4000000
theorem smp_ext {a b : Smp} (h1 : a.l = b.l) (h2 : a.r = b.r) : a = b := by cases a; cases b; cases h1; cases h2; rfl
theorem list_ext' {α : Type} {a b : List α} {d : α} (h1 : a.length = b.length) (h2 : ∀ j, j < a.length → a.getD j d = b.getD j d) : a = b := by
  refine List.ext_getElem h1 fun j h3 h4 => ?_
  have := h2 j h3
  simpa [List.getD_eq_getElem?_getD, h3, h4] using this
noncomputable instance (a b : List Smp) : Decidable (a = b) := Classical.propDecidable _
theorem s27 (a b : List Smp) (hla : a.length ≤ 1000000) : PSpec Tryz.prog 11 [lS a, lS b] (xP (a = b)) := by
  have la := smpA_len a
  have lb := smpA_len b
  by_cases hl : a.length = b.length
  · refine spec_of pMix (O := []) Tryz.func11 (c := bodyOf Tryz.f11) rfl (by kernel_rfl) (by kernel_rfl) Tryz.ntmps11 (res := [.tmp 4]) (by kernel_rfl) ?_
    repeat' ((conv => whnf); first | (refine Br.mk (fun h => ?_) (fun h => ?_) <;> first | (exfalso; omega; done) | (exfalso; simp at h; done) | skip))
    refine LoopVC.mk (fun n st => ∃ (i : Nat), i ≤ a.length ∧ n = a.length - i ∧ (∀ j, j < i → a.getD j s0 = b.getD j s0) ∧ st = ⟨0, envA 26 [(0, .x (lS a)), (1, .x (lS b)), (5, .int .i64 (i : Int))], []⟩) _ _ ⟨0, Nat.zero_le _, rfl, fun j hj => absurd hj (Nat.not_lt_zero j), rfl⟩ ?_ ?_
    · refine ⟨[], rfl, rfl, ?_, ?_⟩ <;> repeat' (first | exact trivial | exact rfl | apply And.intro)
    rintro n _ ⟨i, hi, hn, hj, rfl⟩
    have g0 : rI (smpA a) (i : Int).toNat 0 = (a.getD i s0).l := by rw [Int.toNat_natCast]; exact smpA_l a i
    have g1 : rI (smpA a) (i : Int).toNat (0 + 1) = (a.getD i s0).r := by rw [Int.toNat_natCast]; exact smpA_r a i
    have g2 : rI (smpA b) (i : Int).toNat 0 = (b.getD i s0).l := by rw [Int.toNat_natCast]; exact smpA_l b i
    have g3 : rI (smpA b) (i : Int).toNat (0 + 1) = (b.getD i s0).r := by rw [Int.toNat_natCast]; exact smpA_r b i
    by_cases hi' : i < a.length
    · repeat' ((conv => whnf); first | refine Rng.g ?_ | refine Ob.g ?_ | refine Ob.e ?_ | (refine Br.mk (fun h => ?_) (fun h => ?_) <;> first | (exfalso; omega; done) | (exfalso; simp at h; done) | skip))
      · repeat refine Mm.mk ?_
        refine EndVC.mk _ rfl _ _ ⟨rfl, rfl⟩ ?_
        refine ⟨[], rfl, rfl, ?_, ?_⟩ <;> repeat' (first | exact trivial | apply And.intro)
        refine fun e => h ?_
        show rI (smpA a) _ _ = rI (smpA b) _ _ ∧ rI (smpA a) _ _ = rI (smpA b) _ _ ∧ True
        rw [show a = b from e]
        exact ⟨rfl, rfl, trivial⟩
      · have h2 : rI (smpA a) (i : Int).toNat 0 = rI (smpA b) (i : Int).toNat 0 ∧ rI (smpA a) (i : Int).toNat (0 + 1) = rI (smpA b) (i : Int).toNat (0 + 1) ∧ True := Classical.not_not.1 h
        rw [g0, g1, g2, g3] at h2
        refine Back.mk (a.length - (i + 1)) _ (by omega) ⟨i + 1, by omega, rfl, fun j hj' => ?_, rfl⟩ ?_
        · rcases Nat.lt_succ_iff_lt_or_eq.1 hj' with h' | rfl
          · exact hj j h'
          · exact smp_ext h2.1 h2.2.1
        · refine ⟨[], rfl, rfl, ?_, ?_⟩ <;> repeat' (first | exact trivial | exact rfl | apply And.intro)
    · repeat' ((conv => whnf); first | (refine Br.mk (fun h => ?_) (fun h => ?_) <;> first | (exfalso; omega; done) | (exfalso; simp at h; done) | skip))
      repeat refine Mm.mk ?_
      refine EndVC.mk _ rfl _ _ ⟨rfl, rfl⟩ ?_
      refine ⟨[], rfl, rfl, ?_, ?_⟩ <;> repeat' (first | exact trivial | apply And.intro)
      exact list_ext' hl fun j hj' => hj j (by omega)
  · refine spec_of pMix (O := []) Tryz.func11 (c := bodyOf Tryz.f11) rfl (by kernel_rfl) (by kernel_rfl) Tryz.ntmps11 (res := [.tmp 4]) (by kernel_rfl) ?_
    repeat' ((conv => whnf); first | (refine Br.mk (fun h => ?_) (fun h => ?_) <;> first | (exfalso; omega; done) | (exfalso; simp at h; done) | skip))
    repeat refine Mm.mk ?_
    refine EndVC.mk _ rfl _ _ ⟨rfl, rfl⟩ ?_
    refine ⟨[], rfl, rfl, ?_, ?_⟩ <;> repeat' (first | exact trivial | apply And.intro)
    exact fun e => hl (by rw [show a = b from e])
end Go.Sx

namespace Go.Sx
open Go Go.Proofs
set_option maxRecDepth 10000
set_option maxHeartbeats 4000000
/-- A programme that is not too long. -/
structure PgOK (T : List Tak) (l : List Prt) : Prop where
  len : l.length ≤ 6
  ok : ProgOK T l
  stop : endP l ≤ 200
  good : smpE (rend T l) = 0
inductive PgRs (T : List Tak) (l : List Prt) (r : AV) (m' : List (Option Blk)) : Prop
  | no (h : ¬ PgOK T l) (hr : r = .tup [.one .nils, .one (.prp False inferInstance)]) (hm : m' = [])
  | yes (h : PgOK T l) (hr : r = .tup [.one (.own 0), .one (.prp True inferInstance)]) (hm : m' = [some (rowS (rend T l))])
theorem s22 (T : List Tak) (l : List Prt) (hI : TakI T) : HSpec Tryz.prog 4 [lT T, lP l] [] (PgRs T l) := by
  have ll := prtA_len l
  by_cases h6 : l.length ≤ 6
  · by_cases hP : ProgOK T l
    · refine spec_of pMix (O := []) Tryz.func4 (c := bodyOf Tryz.f4) rfl (by kernel_rfl) (by kernel_rfl) Tryz.ntmps4 (res := [.tmp 4, .tmp 5]) (by kernel_rfl) ?_
      repeat' ((conv => whnf); first | (refine Br.mk (fun h => ?_) (fun h => ?_) <;> first | (exfalso; omega; done) | (exfalso; simp at h; done) | skip))
      conv => whnf
      refine CallVC.mk [] _ _ _ rfl rfl rfl (s36 T l hI) (fun r m' h' => ?_)
      obtain ⟨e, rfl, rfl, he⟩ := h'
      conv => whnf
      cases he.2 hP
      repeat' ((conv => whnf); first | (refine Br.mk (fun h => ?_) (fun h => ?_) <;> first | (exfalso; omega; done) | (exfalso; simp at h; done) | skip))
      conv => whnf
      refine CallVC.mk [] _ _ _ rfl rfl rfl (s37 T l hI hP) (fun r m' h' => ?_)
      obtain ⟨rfl, rfl⟩ := h'
      conv => whnf
      repeat' ((conv => whnf); first | (refine Br.mk (fun h => ?_) (fun h => ?_) <;> first | (exfalso; omega; done) | (exfalso; simp at h; done) | skip))
      · repeat refine Mm.mk ?_
        conv => whnf
        refine EndVC.mk _ rfl _ _ (.no (fun h2 => by have := h2.stop; omega) rfl rfl) ?_
        refine ⟨[], rfl, rfl, ?_, ?_⟩ <;> repeat' (first | exact trivial | apply And.intro)
        exact id
      · have h200 : endP l ≤ 200 := by omega
        conv => whnf
        refine CallVC.mk [] _ _ _ rfl rfl rfl (s98 T l hI hP) (fun r m' h' => ?_)
        rcases h' with ⟨h1, rfl, rfl⟩ | ⟨h1, rfl, rfl⟩
        · repeat' ((conv => whnf); first | refine Rng.g ?_ | fail)
          repeat refine Mm.mk ?_
          conv => whnf
          refine EndVC.mk _ rfl _ _ (.yes ⟨h6, hP, h200, h1⟩ rfl rfl) ?_
          refine ⟨[some 1], rfl, rfl, ?_, ?_⟩ <;> repeat' (first | exact trivial | exact rfl | apply And.intro)
          exact ⟨fun _ => trivial, fun _ => rfl⟩
        · repeat' ((conv => whnf); first | refine Rng.g ?_ | fail)
          repeat refine Mm.mk ?_
          conv => whnf
          refine EndVC.mk _ rfl _ _ (.no (fun h2 => h1 h2.good) rfl rfl) ?_
          refine ⟨[], rfl, rfl, ?_, ?_⟩ <;> repeat' (first | exact trivial | apply And.intro)
          exact ⟨fun h2 => absurd h2 (by decide), fun h2 => h2.elim⟩
    · refine spec_of pMix (O := []) Tryz.func4 (c := bodyOf Tryz.f4) rfl (by kernel_rfl) (by kernel_rfl) Tryz.ntmps4 (res := [.tmp 4, .tmp 5]) (by kernel_rfl) ?_
      repeat' ((conv => whnf); first | (refine Br.mk (fun h => ?_) (fun h => ?_) <;> first | (exfalso; omega; done) | (exfalso; simp at h; done) | skip))
      conv => whnf
      refine CallVC.mk [] _ _ _ rfl rfl rfl (s36 T l hI) (fun r m' h' => ?_)
      obtain ⟨e, rfl, rfl, he⟩ := h'
      conv => whnf
      have he0 : e ≠ 0 := fun h0 => hP (he.1 h0)
      repeat' ((conv => whnf); first | (refine Br.mk (fun h => ?_) (fun h => ?_) <;> first | (exfalso; omega; done) | (exfalso; simp at h; done) | skip))
      repeat refine Mm.mk ?_
      conv => whnf
      refine EndVC.mk _ rfl _ _ (.no (fun h2 => hP h2.ok) rfl rfl) ?_
      refine ⟨[], rfl, rfl, ?_, ?_⟩ <;> repeat' (first | exact trivial | apply And.intro)
      exact id
  · refine spec_of pMix (O := []) Tryz.func4 (c := bodyOf Tryz.f4) rfl (by kernel_rfl) (by kernel_rfl) Tryz.ntmps4 (res := [.tmp 4, .tmp 5]) (by kernel_rfl) ?_
    repeat' ((conv => whnf); first | (refine Br.mk (fun h => ?_) (fun h => ?_) <;> first | (exfalso; omega; done) | (exfalso; simp at h; done) | skip))
    repeat refine Mm.mk ?_
    conv => whnf
    refine EndVC.mk _ rfl _ _ (.no (fun h2 => h6 h2.len) rfl rfl) ?_
    refine ⟨[], rfl, rfl, ?_, ?_⟩ <;> repeat' (first | exact trivial | apply And.intro)
    exact id
end Go.Sx
