import Derived.Test.YthlebjnhcinheaaGreatDoorProg
import Derived.Test.YthlebjnhcinheaaGreatDoorXd
namespace Go.Sx
open Go Go.Proofs
set_option maxRecDepth 10000
set_option maxHeartbeats 1000000
theorem pMix : Tryz.prog.follows .mixedOrders = true := by kernel_rfl
theorem e125 : EntersF Tryz.prog 125 := enters_of Tryz.func125 (c := bodyOf Tryz.f125) (by kernel_rfl) rfl
theorem e200 : EntersF Tryz.prog 200 := enters_of Tryz.func200 (c := bodyOf Tryz.f200) (by kernel_rfl) rfl
theorem e103 : EntersF Tryz.prog 103 := enters_of Tryz.func103 (c := bodyOf Tryz.f103) (by kernel_rfl) rfl
theorem e229 : EntersF Tryz.prog 229 := enters_of Tryz.func229 (c := bodyOf Tryz.f229) (by kernel_rfl) rfl
theorem e142 : EntersF Tryz.prog 142 := enters_of Tryz.func142 (c := bodyOf Tryz.f142) (by kernel_rfl) rfl
theorem e58 : EntersF Tryz.prog 58 := enters_of Tryz.func58 (c := bodyOf Tryz.f58) (by kernel_rfl) rfl
theorem e282 : EntersF Tryz.prog 282 := enters_of Tryz.func282 (c := bodyOf Tryz.f282) (by kernel_rfl) rfl
/-- A sample. -/
structure Smp where
  l : Int
  r : Int
@[reducible] def Smp.x (s : Smp) : XV := .agg [.int .i64 s.l, .int .i64 s.r]
def smpA (l : List Smp) : Arr := l.map fun s => [.int s.l, .int s.r]
theorem smpA_len (l : List Smp) : (smpA l).length = l.length := by simp [smpA]
abbrev s0 : Smp := ⟨0, 0⟩
theorem smpA_l (l : List Smp) (i : Nat) : rI (smpA l) i 0 = (l.getD i s0).l := map_rI _ s0 l i 0 rfl
theorem smpA_r (l : List Smp) (i : Nat) : rI (smpA l) i 1 = (l.getD i s0).r := map_rI _ s0 l i 1 rfl
theorem smpA_snoc (l : List Smp) (s : Smp) : smpA (l ++ [s]) = smpA l ++ [[.int s.l, .int s.r]] := by simp [smpA]
@[reducible] def KS : List CK := [.int .i64, .int .i64]
@[reducible] def lS (l : List Smp) : XV := .one (.lst true KS (smpA l))
def Smp.ok (s : Smp) : Prop := -32767 ≤ s.l ∧ s.l ≤ 32767 ∧ -32767 ≤ s.r ∧ s.r ≤ 32767
instance (s : Smp) : Decidable s.ok := by unfold Smp.ok; exact inferInstance
def inI (n : Int) : Prop := -9223372036854775808 ≤ n ∧ n ≤ 9223372036854775807
theorem s125 (n lo hi : Int) : PSpec Tryz.prog 125 [I n, I lo, I hi] (xP (lo ≤ n ∧ n ≤ hi)) := by
  refine spec_of pMix (O := []) Tryz.func125 (c := bodyOf Tryz.f125) rfl (by kernel_rfl) (by kernel_rfl) Tryz.ntmps125 (res := [.tmp 6]) (by kernel_rfl) ?_
  repeat' ((conv => whnf); first | refine Rng.g ?_ | refine Ob.g ?_ | refine Ob.e ?_ | refine Ob.m ?_ | refine Ob.mk (Nat.le_of_ble_eq_true rfl) ?_ | refine JoinVC.on ?_ | refine Nils.mk (fun h => ?_) ?_ | refine Val.t ?_ | refine Val.d ?_ | refine Mm.mk ?_ | (refine Br.mk (fun h => ?_) (fun h => ?_) <;> first | (exfalso; omega; done) | (exfalso; simp at h; done) | skip))
  · repeat refine Mm.mk ?_
    refine EndVC.mk _ rfl _ _ ⟨rfl, rfl⟩ ?_
    refine ⟨[], rfl, rfl, ?_, ?_⟩ <;> repeat' (first | exact trivial | exact rfl | exact Iff.rfl | apply And.intro)
    show _ ↔ _
    simp [h]
  · repeat refine Mm.mk ?_
    refine EndVC.mk _ rfl _ _ ⟨rfl, rfl⟩ ?_
    refine ⟨[], rfl, rfl, ?_, ?_⟩ <;> repeat' (first | exact trivial | exact rfl | exact Iff.rfl | apply And.intro)
    show ¬ _
    simp [h]
theorem s200 (s : Smp) : PSpec Tryz.prog 200 [s.x] (xP s.ok) := by
  refine spec_of pMix (O := []) Tryz.func200 (c := bodyOf Tryz.f200) rfl (by kernel_rfl) (by kernel_rfl) Tryz.ntmps200 (res := [.tmp 2]) (by kernel_rfl) ?_
  repeat' ((conv => whnf); first | refine Rng.g ?_ | refine Ob.g ?_ | refine Ob.e ?_ | refine Ob.m ?_ | refine Ob.mk (Nat.le_of_ble_eq_true rfl) ?_ | refine JoinVC.on ?_ | refine Nils.mk (fun h => ?_) ?_ | refine Val.t ?_ | refine Val.d ?_ | refine Mm.mk ?_ | refine CallVC.pure rfl (s125 _ _ _) ?_ | refine CallVC0.pure rfl (s125 _ _ _) ?_ | (refine Br.mk (fun h => ?_) (fun h => ?_) <;> first | (exfalso; omega; done) | (exfalso; simp at h; done) | skip))
  · repeat refine Mm.mk ?_
    refine EndVC.mk _ rfl _ _ ⟨rfl, rfl⟩ ?_
    refine ⟨[], rfl, rfl, ?_, ?_⟩ <;> repeat' (first | exact trivial | exact rfl | exact Iff.rfl | apply And.intro)
    show _ ↔ _
    unfold Smp.ok
    omega
  · repeat refine Mm.mk ?_
    refine EndVC.mk _ rfl _ _ ⟨rfl, rfl⟩ ?_
    refine ⟨[], rfl, rfl, ?_, ?_⟩ <;> repeat' (first | exact trivial | exact rfl | exact Iff.rfl | apply And.intro)
    show ¬ _
    unfold Smp.ok
    omega
theorem s229 (n : Int) (h : inI n) : PSpec Tryz.prog 229 [I n] (.x (I (if n = -9223372036854775808 then n else if n < -n then -n else n))) := by
  unfold inI at h
  by_cases h1 : n = -9223372036854775808
  · subst h1
    refine spec_of pMix (O := []) Tryz.func229 (c := bodyOf Tryz.f229) rfl (by kernel_rfl) (by kernel_rfl) Tryz.ntmps229 (res := [.tmp 2]) (by kernel_rfl) ?_
    refine Rng.wr ?_
    repeat' ((conv => whnf); first | refine Rng.g ?_ | refine Ob.g ?_ | refine Ob.e ?_ | refine Ob.m ?_ | refine Ob.mk (Nat.le_of_ble_eq_true rfl) ?_ | refine JoinVC.on ?_ | refine Nils.mk (fun h => ?_) ?_ | refine Val.t ?_ | refine Val.d ?_ | refine Mm.mk ?_ | (refine Br.mk (fun h => ?_) (fun h => ?_) <;> first | (exfalso; omega; done) | (exfalso; simp at h; done) | skip))
    repeat refine Mm.mk ?_
    refine EndVC.mk _ rfl _ _ ⟨rfl, rfl⟩ ?_
    refine ⟨[], rfl, rfl, ?_, ?_⟩ <;> repeat' (first | exact trivial | exact rfl | exact Iff.rfl | apply And.intro)
  · rw [if_neg h1]
    refine spec_of pMix (O := []) Tryz.func229 (c := bodyOf Tryz.f229) rfl (by kernel_rfl) (by kernel_rfl) Tryz.ntmps229 (res := [.tmp 2]) (by kernel_rfl) ?_
    repeat' ((conv => whnf); first | refine Rng.g ?_ | refine Ob.g ?_ | refine Ob.e ?_ | refine Ob.m ?_ | refine Ob.mk (Nat.le_of_ble_eq_true rfl) ?_ | refine JoinVC.on ?_ | refine Nils.mk (fun h => ?_) ?_ | refine Val.t ?_ | refine Val.d ?_ | refine Mm.mk ?_ | (refine Br.mk (fun h => ?_) (fun h => ?_) <;> first | (exfalso; omega; done) | (exfalso; simp at h; done) | skip))
    repeat refine Mm.mk ?_
    refine EndVC.mk _ rfl _ _ ⟨rfl, rfl⟩ ?_
    refine ⟨[], rfl, rfl, ?_, ?_⟩ <;> repeat' (first | exact trivial | exact rfl | exact Iff.rfl | apply And.intro)
    show (if n < 0 - n then 0 - n else n) = _
    split <;> split <;> omega
theorem s142 (s : Smp) (hl : inI s.l) (hr : inI s.r) : PSpec Tryz.prog 142 [s.x] (xP s.ok) := by
  unfold inI at hl hr
  refine spec_of pMix (O := []) Tryz.func142 (c := bodyOf Tryz.f142) rfl (by kernel_rfl) (by kernel_rfl) Tryz.ntmps142 (res := [.tmp 2]) (by kernel_rfl) ?_
  repeat' ((conv => whnf); first | refine Rng.g ?_ | refine Ob.g ?_ | refine Ob.e ?_ | refine Ob.m ?_ | refine Ob.mk (Nat.le_of_ble_eq_true rfl) ?_ | refine JoinVC.on ?_ | refine Nils.mk (fun h => ?_) ?_ | refine Val.t ?_ | refine Val.d ?_ | refine Mm.mk ?_ | refine CallVC.pure rfl (s229 s.l hl) ?_ | refine CallVC.pure rfl (s229 s.r hr) ?_ | refine CallVC0.pure rfl (s229 s.l hl) ?_ | refine CallVC0.pure rfl (s229 s.r hr) ?_ | (refine Br.mk (fun h => ?_) (fun h => ?_) <;> first | (exfalso; omega; done) | (exfalso; simp at h; done) | skip))
  all_goals
    repeat refine Mm.mk ?_
    refine EndVC.mk _ rfl _ _ ⟨rfl, rfl⟩ ?_
    refine ⟨[], rfl, rfl, ?_, ?_⟩ <;> repeat' (first | exact trivial | exact rfl | exact Iff.rfl | apply And.intro)
    first
      | (show _ ↔ _; unfold Smp.ok; repeat' split at *; all_goals omega)
      | (show ¬ _; unfold Smp.ok; repeat' split at *; all_goals omega)
/-- The error of samples. -/
def smpE (l : List Smp) : Int := if 4096 < l.length then 6 else if ∀ s ∈ l, s.ok then 0 else 2
theorem smpE_0 {l : List Smp} : smpE l = 0 ↔ l.length ≤ 4096 ∧ ∀ s ∈ l, s.ok := by
  unfold smpE
  split
  · constructor
    · intro h; cases h
    · intro h; omega
  · split
    · rename_i h1 h2; exact ⟨fun _ => ⟨by omega, h2⟩, fun _ => rfl⟩
    · rename_i h1 h2; exact ⟨fun h => (by cases h), fun h => absurd h.2 h2⟩
theorem smpE_2 {l : List Smp} (h : l.length ≤ 4096) {i : Nat} (hi : i < l.length) (hn : ¬ (l.getD i s0).ok) : smpE l = 2 := by
  unfold smpE
  rw [if_neg (by omega), if_neg (fun h' => hn (h' _ (getD_mem' s0 hi)))]
theorem smpE_ok {l : List Smp} (h : l.length ≤ 4096) (hn : ∀ j, j < l.length → (l.getD j s0).ok) : smpE l = 0 := by
  refine smpE_0.2 ⟨h, fun s hs => ?_⟩
  obtain ⟨j, hj, rfl⟩ := List.getElem_of_mem hs
  have := hn j hj
  rwa [List.getD_eq_getElem?_getD, List.getElem?_eq_getElem hj] at this
theorem s103 (l : List Smp) : PSpec Tryz.prog 103 [lS l] (.x (I (smpE l))) := by
  have ll := smpA_len l
  by_cases hl : 4096 < l.length
  · refine spec_of pMix (O := []) Tryz.func103 (c := bodyOf Tryz.f103) rfl (by kernel_rfl) (by kernel_rfl) Tryz.ntmps103 (res := [.tmp 2]) (by kernel_rfl) ?_
    repeat' ((conv => whnf); first | refine Rng.g ?_ | refine Ob.g ?_ | refine Ob.e ?_ | refine Ob.m ?_ | refine Ob.mk (Nat.le_of_ble_eq_true rfl) ?_ | refine JoinVC.on ?_ | refine Nils.mk (fun h => ?_) ?_ | refine Val.t ?_ | refine Val.d ?_ | refine Mm.mk ?_ | (refine Br.mk (fun h => ?_) (fun h => ?_) <;> first | (exfalso; omega; done) | (exfalso; simp at h; done) | skip))
    repeat refine Mm.mk ?_
    refine EndVC.mk _ rfl _ _ ⟨rfl, rfl⟩ ?_
    refine ⟨[], rfl, rfl, ?_, ?_⟩ <;> repeat' (first | exact trivial | exact rfl | exact Iff.rfl | apply And.intro)
    unfold smpE
    rw [if_pos hl]
  refine spec_of pMix (O := []) Tryz.func103 (c := bodyOf Tryz.f103) rfl (by kernel_rfl) (by kernel_rfl) Tryz.ntmps103 (res := [.tmp 2]) (by kernel_rfl) ?_
  repeat' ((conv => whnf); first | refine Rng.g ?_ | refine Ob.g ?_ | refine Ob.e ?_ | refine Ob.m ?_ | refine Ob.mk (Nat.le_of_ble_eq_true rfl) ?_ | refine JoinVC.on ?_ | refine Nils.mk (fun h => ?_) ?_ | refine Val.t ?_ | refine Val.d ?_ | refine Mm.mk ?_ | (refine Br.mk (fun h => ?_) (fun h => ?_) <;> first | (exfalso; omega; done) | (exfalso; simp at h; done) | skip))
  refine LoopVC.mk (fun n st => ∃ (i : Nat) (M : List (Option Blk)), i ≤ l.length ∧ n = l.length - i ∧ (∀ j, j < i → (l.getD j s0).ok) ∧ st = ⟨0, envA 18 [(8, .x (lS l)), (9, .int .i64 (l.length : Int)), (10, .int .i64 (i : Int))], []⟩) _ _ ⟨0, [], Nat.zero_le _, rfl, fun j hj => absurd hj (Nat.not_lt_zero j), rfl⟩ ?_ ?_
  · refine ⟨[], rfl, rfl, ?_, ?_⟩ <;> repeat' (first | exact trivial | exact rfl | exact Iff.rfl | apply And.intro)
    exact congrArg Int.ofNat ll
  rintro n _ ⟨i, _, hi, hn, hj, rfl⟩
  have g0 : rI (smpA l) (i : Int).toNat 0 = (l.getD i s0).l := smpA_l l i
  have g1 : rI (smpA l) (i : Int).toNat 1 = (l.getD i s0).r := smpA_r l i
  by_cases hi' : i < l.length
  · repeat' ((conv => whnf); first | refine Rng.g ?_ | refine Ob.g ?_ | refine Ob.e ?_ | refine Ob.m ?_ | refine Ob.mk (Nat.le_of_ble_eq_true rfl) ?_ | refine JoinVC.on ?_ | refine Nils.mk (fun h => ?_) ?_ | refine Val.t ?_ | refine Val.d ?_ | refine Mm.mk ?_ | refine CallVC.pure rfl (s200 ⟨rI (smpA l) (i : Int).toNat 0, rI (smpA l) (i : Int).toNat 1⟩) ?_ | refine CallVC0.pure rfl (s200 ⟨rI (smpA l) (i : Int).toNat 0, rI (smpA l) (i : Int).toNat 1⟩) ?_ | (refine Br.mk (fun h => ?_) (fun h => ?_) <;> first | (exfalso; omega; done) | (exfalso; simp at h; done) | skip))
    all_goals rw [g0, g1] at h
    · repeat refine Mm.mk ?_
      refine EndVC.mk _ rfl _ _ ⟨rfl, rfl⟩ ?_
      refine ⟨[], rfl, rfl, ?_, ?_⟩ <;> repeat' (first | exact trivial | exact rfl | exact Iff.rfl | apply And.intro)
      exact (smpE_2 (by omega) hi' h).symm
    · refine Back.mk (l.length - (i + 1)) _ (by omega) ⟨i + 1, [], by omega, rfl, fun j hj' => ?_, rfl⟩ ?_
      · rcases Nat.lt_succ_iff_lt_or_eq.1 hj' with h' | rfl
        · exact hj j h'
        · exact Decidable.not_not.1 h
      · refine ⟨[], rfl, rfl, ?_, ?_⟩ <;> repeat' (first | exact trivial | exact rfl | exact Iff.rfl | apply And.intro)
  · repeat' ((conv => whnf); first | refine Rng.g ?_ | refine Ob.g ?_ | refine Ob.e ?_ | refine Ob.m ?_ | refine Ob.mk (Nat.le_of_ble_eq_true rfl) ?_ | refine JoinVC.on ?_ | refine Nils.mk (fun h => ?_) ?_ | refine Val.t ?_ | refine Val.d ?_ | refine Mm.mk ?_ | (refine Br.mk (fun h => ?_) (fun h => ?_) <;> first | (exfalso; omega; done) | (exfalso; simp at h; done) | skip))
    repeat refine Mm.mk ?_
    refine EndVC.mk _ rfl _ _ ⟨rfl, rfl⟩ ?_
    refine ⟨[], rfl, rfl, ?_, ?_⟩ <;> repeat' (first | exact trivial | exact rfl | exact Iff.rfl | apply And.intro)
    exact (smpE_ok (by omega) (fun j hj' => hj j (by omega))).symm
theorem s58 (l : List Smp) (hI : ∀ j, inI (l.getD j s0).l ∧ inI (l.getD j s0).r) : PSpec Tryz.prog 58 [lS l] (.x (I (smpE l))) := by
  have ll := smpA_len l
  by_cases hl : 4096 < l.length
  · refine spec_of pMix (O := []) Tryz.func58 (c := bodyOf Tryz.f58) rfl (by kernel_rfl) (by kernel_rfl) Tryz.ntmps58 (res := [.tmp 2]) (by kernel_rfl) ?_
    repeat' ((conv => whnf); first | refine Rng.g ?_ | refine Ob.g ?_ | refine Ob.e ?_ | refine Ob.m ?_ | refine Ob.mk (Nat.le_of_ble_eq_true rfl) ?_ | refine JoinVC.on ?_ | refine Nils.mk (fun h => ?_) ?_ | refine Val.t ?_ | refine Val.d ?_ | refine Mm.mk ?_ | (refine Br.mk (fun h => ?_) (fun h => ?_) <;> first | (exfalso; omega; done) | (exfalso; simp at h; done) | skip))
    repeat refine Mm.mk ?_
    refine EndVC.mk _ rfl _ _ ⟨rfl, rfl⟩ ?_
    refine ⟨[], rfl, rfl, ?_, ?_⟩ <;> repeat' (first | exact trivial | exact rfl | exact Iff.rfl | apply And.intro)
    unfold smpE
    rw [if_pos hl]
  refine spec_of pMix (O := []) Tryz.func58 (c := bodyOf Tryz.f58) rfl (by kernel_rfl) (by kernel_rfl) Tryz.ntmps58 (res := [.tmp 2]) (by kernel_rfl) ?_
  repeat' ((conv => whnf); first | refine Rng.g ?_ | refine Ob.g ?_ | refine Ob.e ?_ | refine Ob.m ?_ | refine Ob.mk (Nat.le_of_ble_eq_true rfl) ?_ | refine JoinVC.on ?_ | refine Nils.mk (fun h => ?_) ?_ | refine Val.t ?_ | refine Val.d ?_ | refine Mm.mk ?_ | (refine Br.mk (fun h => ?_) (fun h => ?_) <;> first | (exfalso; omega; done) | (exfalso; simp at h; done) | skip))
  refine LoopVC.mk (fun n st => ∃ (i : Nat), i ≤ l.length ∧ n = l.length - i ∧ (∀ j, j < i → (l.getD j s0).ok) ∧ st = ⟨0, envA 19 [(0, .x (lS l)), (3, .int .i64 (i : Int))], []⟩) _ _ ⟨0, Nat.zero_le _, rfl, fun j hj => absurd hj (Nat.not_lt_zero j), rfl⟩ ?_ ?_
  · refine ⟨[], rfl, rfl, ?_, ?_⟩ <;> repeat' (first | exact trivial | exact rfl | exact Iff.rfl | apply And.intro)
  rintro n _ ⟨i, hi, hn, hj, rfl⟩
  have g0 : rI (smpA l) (i : Int).toNat 0 = (l.getD i s0).l := smpA_l l i
  have g1 : rI (smpA l) (i : Int).toNat 1 = (l.getD i s0).r := smpA_r l i
  by_cases hi' : i < l.length
  · repeat' ((conv => whnf); first | refine Rng.g ?_ | refine Ob.g ?_ | refine Ob.e ?_ | refine Ob.m ?_ | refine Ob.mk (Nat.le_of_ble_eq_true rfl) ?_ | refine JoinVC.on ?_ | refine Nils.mk (fun h => ?_) ?_ | refine Val.t ?_ | refine Val.d ?_ | refine Mm.mk ?_ | refine CallVC.pure rfl (s142 ⟨rI (smpA l) (i : Int).toNat 0, rI (smpA l) (i : Int).toNat 1⟩ (by rw [g0]; exact (hI i).1) (by rw [g1]; exact (hI i).2)) ?_ | refine CallVC0.pure rfl (s142 ⟨rI (smpA l) (i : Int).toNat 0, rI (smpA l) (i : Int).toNat 1⟩ (by rw [g0]; exact (hI i).1) (by rw [g1]; exact (hI i).2)) ?_ | (refine Br.mk (fun h => ?_) (fun h => ?_) <;> first | (exfalso; omega; done) | (exfalso; simp at h; done) | skip))
    all_goals rw [g0, g1] at h
    · repeat refine Mm.mk ?_
      refine EndVC.mk _ rfl _ _ ⟨rfl, rfl⟩ ?_
      refine ⟨[], rfl, rfl, ?_, ?_⟩ <;> repeat' (first | exact trivial | exact rfl | exact Iff.rfl | apply And.intro)
      exact (smpE_2 (by omega) hi' h).symm
    · refine Back.mk (l.length - (i + 1)) _ (by omega) ⟨i + 1, by omega, rfl, fun j hj' => ?_, rfl⟩ ?_
      · rcases Nat.lt_succ_iff_lt_or_eq.1 hj' with h' | rfl
        · exact hj j h'
        · exact Decidable.not_not.1 h
      · refine ⟨[], rfl, rfl, ?_, ?_⟩ <;> repeat' (first | exact trivial | exact rfl | exact Iff.rfl | apply And.intro)
  · repeat' ((conv => whnf); first | refine Rng.g ?_ | refine Ob.g ?_ | refine Ob.e ?_ | refine Ob.m ?_ | refine Ob.mk (Nat.le_of_ble_eq_true rfl) ?_ | refine JoinVC.on ?_ | refine Nils.mk (fun h => ?_) ?_ | refine Val.t ?_ | refine Val.d ?_ | refine Mm.mk ?_ | (refine Br.mk (fun h => ?_) (fun h => ?_) <;> first | (exfalso; omega; done) | (exfalso; simp at h; done) | skip))
    repeat refine Mm.mk ?_
    refine EndVC.mk _ rfl _ _ ⟨rfl, rfl⟩ ?_
    refine ⟨[], rfl, rfl, ?_, ?_⟩ <;> repeat' (first | exact trivial | exact rfl | exact Iff.rfl | apply And.intro)
    exact (smpE_ok (by omega) (fun j hj' => hj j (by omega))).symm
end Go.Sx

namespace Go.Sx
open Go Go.Proofs
set_option maxRecDepth 10000
set_option maxHeartbeats 2000000
theorem e280 : EntersF Tryz.prog 280 := enters_of Tryz.func280 (c := bodyOf Tryz.f280) (by kernel_rfl) rfl
theorem e300 : EntersF Tryz.prog 300 := enters_of Tryz.func300 (c := bodyOf Tryz.f300) (by kernel_rfl) rfl
theorem e333 : EntersF Tryz.prog 333 := enters_of Tryz.func333 (c := bodyOf Tryz.f333) (by kernel_rfl) rfl
theorem e299 : EntersF Tryz.prog 299 := enters_of Tryz.func299 (c := bodyOf Tryz.f299) (by kernel_rfl) rfl
theorem e233 : EntersF Tryz.prog 233 := enters_of Tryz.func233 (c := bodyOf Tryz.f233) (by kernel_rfl) rfl
def bey (n most : Int) : Prop := n < -most ∨ most < n
instance (n m : Int) : Decidable (bey n m) := by unfold bey; exact inferInstance
theorem s280 (n most : Int) (hm : 0 ≤ most ∧ most ≤ 1000000) : PSpec Tryz.prog 280 [I n, I most] (xP (bey n most)) := by
  refine spec_of pMix (O := []) Tryz.func280 (c := bodyOf Tryz.f280) rfl (by kernel_rfl) (by kernel_rfl) Tryz.ntmps280 (res := [.tmp 4]) (by kernel_rfl) ?_
  repeat' ((conv => whnf); first | refine Rng.g ?_ | refine Ob.g ?_ | refine Ob.e ?_ | refine Ob.m ?_ | refine Ob.mk (Nat.le_of_ble_eq_true rfl) ?_ | refine JoinVC.on ?_ | refine Nils.mk (fun h => ?_) ?_ | refine Val.t ?_ | refine Val.d ?_ | refine Mm.mk ?_ | (refine Br.mk (fun h => ?_) (fun h => ?_) <;> first | (exfalso; omega; done) | (exfalso; simp at h; done) | skip))
  · repeat refine Mm.mk ?_
    refine EndVC.mk _ rfl _ _ ⟨rfl, rfl⟩ ?_
    refine ⟨[], rfl, rfl, ?_, ?_⟩ <;> repeat' (first | exact trivial | exact rfl | exact Iff.rfl | apply And.intro)
    show bey n most
    unfold bey; omega
  · repeat refine Mm.mk ?_
    refine EndVC.mk _ rfl _ _ ⟨rfl, rfl⟩ ?_
    refine ⟨[], rfl, rfl, ?_, ?_⟩ <;> repeat' (first | exact trivial | exact rfl | exact Iff.rfl | apply And.intro)
    show _ ↔ _
    unfold bey; omega
@[reducible] def bI (n : Int) : Blk := .box 2 [.int .i64 n]
theorem s300 (n most : Int) (hm : 0 ≤ most ∧ most ≤ 1000000) : HSpec Tryz.prog 300 [I n, .one (.ptr 0 0)] [bI most] (fun r m' => r = xP (bey n most) ∧ m' = [some (bI most)]) := by
  refine spec_of pMix (O := []) Tryz.func300 (c := bodyOf Tryz.f300) rfl (by kernel_rfl) (by kernel_rfl) Tryz.ntmps300 (res := [.tmp 3]) (by kernel_rfl) ?_
  repeat' ((conv => whnf); first | refine Rng.g ?_ | refine Ob.g ?_ | refine Ob.e ?_ | refine Ob.m ?_ | refine Ob.mk (Nat.le_of_ble_eq_true rfl) ?_ | refine JoinVC.on ?_ | refine Nils.mk (fun h => ?_) ?_ | refine Val.t ?_ | refine Val.d ?_ | refine Mm.mk ?_ | refine CallVC.pure rfl (s280 n most hm) ?_ | refine CallVC0.pure rfl (s280 n most hm) ?_ | (refine Br.mk (fun h => ?_) (fun h => ?_) <;> first | (exfalso; omega; done) | (exfalso; simp at h; done) | skip))
  repeat refine Mm.mk ?_
  refine EndVC.mk _ rfl _ _ ⟨rfl, rfl⟩ ?_
  refine ⟨[some 0], rfl, rfl, ?_, ?_⟩ <;> repeat' (first | exact trivial | exact rfl | exact Iff.rfl | apply And.intro)
/-- A list of int64, as an argument. -/
@[reducible] def lL (xs : List Int) : XV := .one (.lst true [.int .i64] (i64s xs))
def anyB (xs : List Int) (most : Int) : Prop := ∃ j, j < xs.length ∧ bey (xs.getD j 0) most
theorem s333 (xs : List Int) (most : Int) (hm : 0 ≤ most ∧ most ≤ 1000000) (hl : xs.length ≤ 1000000) : HSpec Tryz.prog 333 [lL xs, .one (.fn 300 [(0, 0)])] [bI most] (fun r m' => ∃ v : Int, (0 ≤ v ↔ anyB xs most) ∧ r = .x (I v) ∧ m' = [some (bI most)]) := by
  have lx := i64s_len xs
  refine spec_of pMix (O := []) Tryz.func333 (c := bodyOf Tryz.f333) rfl (by kernel_rfl) (by kernel_rfl) Tryz.ntmps333 (res := [.tmp 4]) (by kernel_rfl) ?_
  repeat' ((conv => whnf); first | refine Rng.g ?_ | refine Ob.g ?_ | refine Ob.e ?_ | refine Ob.m ?_ | refine Ob.mk (Nat.le_of_ble_eq_true rfl) ?_ | refine JoinVC.on ?_ | refine Nils.mk (fun h => ?_) ?_ | refine Val.t ?_ | refine Val.d ?_ | refine Mm.mk ?_ | (refine Br.mk (fun h => ?_) (fun h => ?_) <;> first | (exfalso; omega; done) | (exfalso; simp at h; done) | skip))
  refine LoopVC.mk (fun n st => ∃ (i : Nat), i ≤ xs.length ∧ n = xs.length - i ∧ (∀ j, j < i → ¬ bey (xs.getD j 0) most) ∧ st = ⟨1, envA 19 [(0, .x (lL xs)), (1, .x (.one (.fn 300 [(0, 0)]))), (7, .int .i64 (xs.length : Int)), (8, .int .i64 (i : Int))], [some (bI most)]⟩) _ _ ⟨0, Nat.zero_le _, rfl, fun j hj => absurd hj (Nat.not_lt_zero j), rfl⟩ ?_ ?_
  · refine ⟨[some 0], rfl, rfl, ?_, ?_⟩ <;> repeat' (first | exact trivial | exact rfl | exact Iff.rfl | apply And.intro)
    exact congrArg Int.ofNat lx
  rintro n _ ⟨i, hi, hn, hj, rfl⟩
  have gx : rI (i64s xs) (i : Int).toNat 0 = xs.getD i 0 := by rw [Int.toNat_natCast, i64s_get]
  by_cases hi' : i < xs.length
  · repeat' ((conv => whnf); first | refine Rng.g ?_ | refine Ob.g ?_ | refine Ob.e ?_ | refine Ob.m ?_ | refine Ob.mk (Nat.le_of_ble_eq_true rfl) ?_ | refine JoinVC.on ?_ | refine Nils.mk (fun h => ?_) ?_ | refine Val.t ?_ | refine Val.d ?_ | refine Mm.mk ?_ | (refine Br.mk (fun h => ?_) (fun h => ?_) <;> first | (exfalso; omega; done) | (exfalso; simp at h; done) | skip))
    conv => whnf
    refine CallVC.mk [0] _ _ _ rfl rfl rfl (s300 (rI (i64s xs) (i : Int).toNat 0) most hm) (fun r m' h' => ?_)
    obtain ⟨rfl, rfl⟩ := h'
    conv => whnf
    repeat' ((conv => whnf); first | refine Rng.g ?_ | refine Ob.g ?_ | refine Ob.e ?_ | refine Ob.m ?_ | refine Ob.mk (Nat.le_of_ble_eq_true rfl) ?_ | refine JoinVC.on ?_ | refine Nils.mk (fun h => ?_) ?_ | refine Val.t ?_ | refine Val.d ?_ | refine Mm.mk ?_ | (refine Br.mk (fun h => ?_) (fun h => ?_) <;> first | (exfalso; omega; done) | (exfalso; simp at h; done) | skip))
    all_goals rw [gx] at h
    · repeat refine Mm.mk ?_
      conv => whnf
      refine EndVC.mk _ rfl _ _ (⟨(i : Int), ⟨fun _ => ⟨i, hi', h⟩, fun _ => by omega⟩, rfl, rfl⟩) ?_
      refine ⟨[some 0], rfl, rfl, ?_, ?_⟩ <;> repeat' (first | exact trivial | exact rfl | exact Iff.rfl | apply And.intro)
    · refine Back.mk (xs.length - (i + 1)) _ (by omega) ⟨i + 1, by omega, rfl, fun j hj' => ?_, rfl⟩ ?_
      · rcases Nat.lt_succ_iff_lt_or_eq.1 hj' with h' | rfl
        · exact hj j h'
        · exact h
      · refine ⟨[some 0], rfl, rfl, ?_, ?_⟩ <;> repeat' (first | exact trivial | exact rfl | exact Iff.rfl | apply And.intro)
  · repeat' ((conv => whnf); first | refine Rng.g ?_ | refine Ob.g ?_ | refine Ob.e ?_ | refine Ob.m ?_ | refine Ob.mk (Nat.le_of_ble_eq_true rfl) ?_ | refine JoinVC.on ?_ | refine Nils.mk (fun h => ?_) ?_ | refine Val.t ?_ | refine Val.d ?_ | refine Mm.mk ?_ | (refine Br.mk (fun h => ?_) (fun h => ?_) <;> first | (exfalso; omega; done) | (exfalso; simp at h; done) | skip))
    repeat refine Mm.mk ?_
    conv => whnf
    refine EndVC.mk _ rfl _ _ (⟨-1, ⟨fun h => (by omega), fun ⟨j, h1, h2⟩ => absurd h2 (hj j (by omega))⟩, rfl, rfl⟩) ?_
    refine ⟨[some 0], rfl, rfl, ?_, ?_⟩ <;> repeat' (first | exact trivial | exact rfl | exact Iff.rfl | apply And.intro)
open Classical in
theorem s299 (xs : List Int) (most : Int) (hm : 0 ≤ most ∧ most ≤ 1000000) (hl : xs.length ≤ 1000000) : HSpec Tryz.prog 299 [lL xs, .one (.fn 300 [(0, 0)])] [bI most] (fun r m' => r = xP (anyB xs most) ∧ m' = [some (bI most)]) := by
  refine spec_of pMix (O := []) Tryz.func299 (c := bodyOf Tryz.f299) rfl (by kernel_rfl) (by kernel_rfl) Tryz.ntmps299 (res := [.tmp 4]) (by kernel_rfl) ?_
  repeat' ((conv => whnf); first | refine Rng.g ?_ | refine Ob.g ?_ | refine Ob.e ?_ | refine Ob.m ?_ | refine Ob.mk (Nat.le_of_ble_eq_true rfl) ?_ | refine JoinVC.on ?_ | refine Nils.mk (fun h => ?_) ?_ | refine Val.t ?_ | refine Val.d ?_ | refine Mm.mk ?_ | (refine Br.mk (fun h => ?_) (fun h => ?_) <;> first | (exfalso; omega; done) | (exfalso; simp at h; done) | skip))
  conv => whnf
  refine CallVC.mk [0] _ _ _ rfl rfl rfl (s333 xs most hm hl) (fun r m' h' => ?_)
  obtain ⟨v, hv, rfl, rfl⟩ := h'
  conv => whnf
  repeat' ((conv => whnf); first | refine Rng.g ?_ | refine Ob.g ?_ | refine Ob.e ?_ | refine Ob.m ?_ | refine Ob.mk (Nat.le_of_ble_eq_true rfl) ?_ | refine JoinVC.on ?_ | refine Nils.mk (fun h => ?_) ?_ | refine Val.t ?_ | refine Val.d ?_ | refine Mm.mk ?_ | (refine Br.mk (fun h => ?_) (fun h => ?_) <;> first | (exfalso; omega; done) | (exfalso; simp at h; done) | skip))
  repeat refine Mm.mk ?_
  refine EndVC.mk _ rfl _ _ ⟨rfl, rfl⟩ ?_
  refine ⟨[some 0], rfl, rfl, ?_, ?_⟩ <;> repeat' (first | exact trivial | exact rfl | exact Iff.rfl | apply And.intro)
  exact hv
open Classical in
theorem s233 (xs : List Int) (most : Int) (hm : 0 ≤ most ∧ most ≤ 1000000) (hl : xs.length ≤ 1000000) : PSpec Tryz.prog 233 [lL xs, I most] (xP (anyB xs most)) := by
  refine spec_of pMix (O := []) Tryz.func233 (c := bodyOf Tryz.f233) rfl (by kernel_rfl) (by kernel_rfl) Tryz.ntmps233 (res := [.tmp 4]) (by kernel_rfl) ?_
  repeat' ((conv => whnf); first | refine Rng.g ?_ | refine Ob.g ?_ | refine Ob.e ?_ | refine Ob.m ?_ | refine Ob.mk (Nat.le_of_ble_eq_true rfl) ?_ | refine JoinVC.on ?_ | refine Nils.mk (fun h => ?_) ?_ | refine Val.t ?_ | refine Val.d ?_ | refine Mm.mk ?_ | (refine Br.mk (fun h => ?_) (fun h => ?_) <;> first | (exfalso; omega; done) | (exfalso; simp at h; done) | skip))
  conv => whnf
  refine CallVC.mk [0] _ _ _ rfl rfl rfl (s299 xs most hm hl) (fun r m' h' => ?_)
  obtain ⟨rfl, rfl⟩ := h'
  conv => whnf
  repeat' ((conv => whnf); first | refine Rng.g ?_ | refine Ob.g ?_ | refine Ob.e ?_ | refine Ob.m ?_ | refine Ob.mk (Nat.le_of_ble_eq_true rfl) ?_ | refine JoinVC.on ?_ | refine Nils.mk (fun h => ?_) ?_ | refine Val.t ?_ | refine Val.d ?_ | refine Mm.mk ?_ | (refine Br.mk (fun h => ?_) (fun h => ?_) <;> first | (exfalso; omega; done) | (exfalso; simp at h; done) | skip))
  repeat refine Mm.mk ?_
  refine EndVC.mk _ rfl _ _ ⟨rfl, rfl⟩ ?_
  refine ⟨[], rfl, rfl, ?_, ?_⟩ <;> repeat' (first | exact trivial | exact rfl | exact Iff.rfl | apply And.intro)
end Go.Sx

namespace Go.Sx
open Go Go.Proofs
set_option maxRecDepth 10000
set_option maxHeartbeats 2000000
theorem e222 : EntersF Tryz.prog 222 := enters_of Tryz.func222 (c := bodyOf Tryz.f222) (by kernel_rfl) rfl
theorem e147 : EntersF Tryz.prog 147 := enters_of Tryz.func147 (c := bodyOf Tryz.f147) (by kernel_rfl) rfl
theorem e148 : EntersF Tryz.prog 148 := enters_of Tryz.func148 (c := bodyOf Tryz.f148) (by kernel_rfl) rfl
theorem e201 : EntersF Tryz.prog 201 := enters_of Tryz.func201 (c := bodyOf Tryz.f201) (by kernel_rfl) rfl
theorem e130 : EntersF Tryz.prog 130 := enters_of Tryz.func130 (c := bodyOf Tryz.f130) (by kernel_rfl) rfl
theorem e46 : EntersF Tryz.prog 46 := enters_of Tryz.func46 (c := bodyOf Tryz.f46) (by kernel_rfl) rfl
theorem e23 : EntersF Tryz.prog 23 := enters_of Tryz.func23 (c := bodyOf Tryz.f23) (by kernel_rfl) rfl
theorem e61 : EntersF Tryz.prog 61 := enters_of Tryz.func61 (c := bodyOf Tryz.f61) (by kernel_rfl) rfl
theorem e45 : EntersF Tryz.prog 45 := enters_of Tryz.func45 (c := bodyOf Tryz.f45) (by kernel_rfl) rfl
/-- A curve. -/
structure Crv where
  f : List Int
  b : List Int
  sh : Int
@[reducible] def Crv.x (c : Crv) : XV := .agg [.lst true [.int .i64] (i64s c.f), .lst true [.int .i64] (i64s c.b), .int .i64 c.sh]
def Crv.row (c : Crv) : List Cell := [.sl (i64s c.f), .sl (i64s c.b), .int c.sh]
def crvA (l : List Crv) : Arr := l.map Crv.row
abbrev c0 : Crv := ⟨[], [], 0⟩
theorem crvA_len (l : List Crv) : (crvA l).length = l.length := by simp [crvA]
theorem crvA_f (l : List Crv) (i : Nat) : rA (crvA l) i 0 = i64s (l.getD i c0).f := map_rA _ c0 l i 0 rfl
theorem crvA_b (l : List Crv) (i : Nat) : rA (crvA l) i (0 + 1) = i64s (l.getD i c0).b := map_rA _ c0 l i 1 rfl
theorem crvA_s (l : List Crv) (i : Nat) : rI (crvA l) i (0 + 1 + 1) = (l.getD i c0).sh := map_rI _ c0 l i 2 rfl
@[reducible] def KC : List CK := [.sl [.int .i64], .sl [.int .i64], .int .i64]
@[reducible] def lC (l : List Crv) : XV := .one (.lst true KC (crvA l))
@[reducible] def crvX (l : List Crv) (i : Nat) : XV := .agg [.lst true [.int .i64] (rA (crvA l) i 0), .lst true [.int .i64] (rA (crvA l) i (0 + 1)), .int .i64 (rI (crvA l) i (0 + 1 + 1))]
theorem crvX_eq (l : List Crv) (i : Nat) : crvX l i = (l.getD i c0).x := by
  unfold crvX Crv.x
  rw [crvA_f, crvA_b, crvA_s]
structure CrvOK (c : Crv) : Prop where
  f : c.f.length ≤ 8 ∧ ∀ j, -4096 ≤ c.f.getD j 0 ∧ c.f.getD j 0 ≤ 4096
  b : c.b.length ≤ 8 ∧ ∀ j, -4096 ≤ c.b.getD j 0 ∧ c.b.getD j 0 ≤ 4096
  sh : 1 ≤ c.sh ∧ c.sh ≤ 4096
theorem not_anyB {xs : List Int} {m : Int} (hm : 0 ≤ m) (h : ¬ anyB xs m) (j : Nat) : -m ≤ xs.getD j 0 ∧ xs.getD j 0 ≤ m := by
  by_cases hj : j < xs.length
  · have : ¬ bey (xs.getD j 0) m := fun h2 => h ⟨j, hj, h2⟩
    unfold bey at this
    omega
  · rw [List.getD_eq_getElem?_getD, List.getElem?_eq_none (by omega)]
    simp only [Option.getD_none]
    omega
theorem CrvOK.nf {c : Crv} (h : CrvOK c) : ¬ anyB c.f 4096 := fun ⟨j, _, h3⟩ => by have := h.f.2 j; unfold bey at h3; omega
theorem CrvOK.nb {c : Crv} (h : CrvOK c) : ¬ anyB c.b 4096 := fun ⟨j, _, h3⟩ => by have := h.b.2 j; unfold bey at h3; omega
@[reducible] def CRs (c : Crv) (r : AV) (m' : List (Option Blk)) : Prop := ∃ e, r = .x (I e) ∧ m' = [] ∧ (e = 0 ↔ CrvOK c)
theorem s222 (c : Crv) : HSpec Tryz.prog 222 [c.x] [] (CRs c) := by
  have lf := i64s_len c.f
  have lb := i64s_len c.b
  by_cases h8 : 8 < c.f.length ∨ 8 < c.b.length
  · have hm : 8 < (if (List.length (i64s c.f) : Int) < (List.length (i64s c.b) : Int) then (List.length (i64s c.b) : Int) else (List.length (i64s c.f) : Int)) := by split <;> omega
    refine spec_of pMix (O := []) Tryz.func222 (c := bodyOf Tryz.f222) rfl (by kernel_rfl) (by kernel_rfl) Tryz.ntmps222 (res := [.tmp 2]) (by kernel_rfl) ?_
    repeat' ((conv => whnf); first | refine Rng.g ?_ | refine Ob.g ?_ | refine Ob.e ?_ | refine Ob.m ?_ | refine Ob.mk (Nat.le_of_ble_eq_true rfl) ?_ | refine JoinVC.on ?_ | refine Nils.mk (fun h => ?_) ?_ | refine Val.t ?_ | refine Val.d ?_ | refine Mm.mk ?_ | (refine Br.mk (fun h => ?_) (fun h => ?_) <;> first | (exfalso; omega; done) | (exfalso; simp at h; done) | skip))
    repeat refine Mm.mk ?_
    conv => whnf
    refine EndVC.mk _ rfl _ _ (⟨6, rfl, rfl, ⟨fun h => (by cases h), fun hC => (by have := hC.f.1; have := hC.b.1; omega)⟩⟩) ?_
    refine ⟨[], rfl, rfl, ?_, ?_⟩ <;> repeat' (first | exact trivial | exact rfl | exact Iff.rfl | apply And.intro)
  · have hm : ¬ 8 < (if (List.length (i64s c.f) : Int) < (List.length (i64s c.b) : Int) then (List.length (i64s c.b) : Int) else (List.length (i64s c.f) : Int)) := by split <;> omega
    have h1 := s233 c.f 4096 (by decide) (by omega)
    have h2 := s233 c.b 4096 (by decide) (by omega)
    refine spec_of pMix (O := []) Tryz.func222 (c := bodyOf Tryz.f222) rfl (by kernel_rfl) (by kernel_rfl) Tryz.ntmps222 (res := [.tmp 2]) (by kernel_rfl) ?_
    repeat' ((conv => whnf); first | refine Rng.g ?_ | refine Ob.g ?_ | refine Ob.e ?_ | refine Ob.m ?_ | refine Ob.mk (Nat.le_of_ble_eq_true rfl) ?_ | refine JoinVC.on ?_ | refine Nils.mk (fun h => ?_) ?_ | refine Val.t ?_ | refine Val.d ?_ | refine Mm.mk ?_ | refine CallVC.pure rfl (h1) ?_ | refine CallVC.pure rfl (h2) ?_ | refine CallVC0.pure rfl (h1) ?_ | refine CallVC0.pure rfl (h2) ?_ | (refine Br.mk (fun h => ?_) (fun h => ?_) <;> first | (exfalso; omega; done) | (exfalso; simp at h; done) | skip))
    · repeat refine Mm.mk ?_
      conv => whnf
      refine EndVC.mk _ rfl _ _ (⟨2, rfl, rfl, ⟨fun h => (by cases h), fun hC => absurd h hC.nf⟩⟩) ?_
      refine ⟨[], rfl, rfl, ?_, ?_⟩ <;> repeat' (first | exact trivial | exact rfl | exact Iff.rfl | apply And.intro)
    · repeat refine Mm.mk ?_
      conv => whnf
      refine EndVC.mk _ rfl _ _ (⟨2, rfl, rfl, ⟨fun h => (by cases h), fun hC => absurd h hC.nb⟩⟩) ?_
      refine ⟨[], rfl, rfl, ?_, ?_⟩ <;> repeat' (first | exact trivial | exact rfl | exact Iff.rfl | apply And.intro)
    · repeat refine Mm.mk ?_
      conv => whnf
      refine EndVC.mk _ rfl _ _ (⟨2, rfl, rfl, ⟨fun h => (by cases h), fun hC => (by have := hC.sh; omega)⟩⟩) ?_
      refine ⟨[], rfl, rfl, ?_, ?_⟩ <;> repeat' (first | exact trivial | exact rfl | exact Iff.rfl | apply And.intro)
    · repeat refine Mm.mk ?_
      conv => whnf
      refine EndVC.mk _ rfl _ _ (⟨2, rfl, rfl, ⟨fun h => (by cases h), fun hC => (by have := hC.sh; omega)⟩⟩) ?_
      refine ⟨[], rfl, rfl, ?_, ?_⟩ <;> repeat' (first | exact trivial | exact rfl | exact Iff.rfl | apply And.intro)
    · rename_i g1 g2 g3
      repeat refine Mm.mk ?_
      conv => whnf
      refine EndVC.mk _ rfl _ _ (⟨0, rfl, rfl, ⟨fun _ => ⟨⟨by omega, not_anyB (by decide) g1⟩, ⟨by omega, not_anyB (by decide) g2⟩, by omega⟩, fun _ => rfl⟩⟩) ?_
      refine ⟨[], rfl, rfl, ?_, ?_⟩ <;> repeat' (first | exact trivial | exact rfl | exact Iff.rfl | apply And.intro)
open Classical in
theorem s130 (xs : List Int) (hl : xs.length ≤ 1000000) : PSpec Tryz.prog 130 [lL xs] (xP (¬ anyB xs 4096)) := by
  have lx := i64s_len xs
  refine spec_of pMix (O := []) Tryz.func130 (c := bodyOf Tryz.f130) rfl (by kernel_rfl) (by kernel_rfl) Tryz.ntmps130 (res := [.tmp 2]) (by kernel_rfl) ?_
  repeat' ((conv => whnf); first | refine Rng.g ?_ | refine Ob.g ?_ | refine Ob.e ?_ | refine Ob.m ?_ | refine Ob.mk (Nat.le_of_ble_eq_true rfl) ?_ | refine JoinVC.on ?_ | refine Nils.mk (fun h => ?_) ?_ | refine Val.t ?_ | refine Val.d ?_ | refine Mm.mk ?_ | (refine Br.mk (fun h => ?_) (fun h => ?_) <;> first | (exfalso; omega; done) | (exfalso; simp at h; done) | skip))
  refine LoopVC.mk (fun n st => ∃ (i : Nat), i ≤ xs.length ∧ n = xs.length - i ∧ (∀ j, j < i → ¬ bey (xs.getD j 0) 4096) ∧ st = ⟨0, envA 22 [(0, .x (lL xs)), (3, .int .i64 (i : Int))], []⟩) _ _ ⟨0, Nat.zero_le _, rfl, fun j hj => absurd hj (Nat.not_lt_zero j), rfl⟩ ?_ ?_
  · refine ⟨[], rfl, rfl, ?_, ?_⟩ <;> repeat' (first | exact trivial | exact rfl | exact Iff.rfl | apply And.intro)
  rintro n _ ⟨i, hi, hn, hj, rfl⟩
  have gx : rI (i64s xs) (i : Int).toNat 0 = xs.getD i 0 := by rw [Int.toNat_natCast, i64s_get]
  have hbe : bey (xs.getD i 0) 4096 ↔ (xs.getD i 0 < -4096 ∨ 4096 < xs.getD i 0) := Iff.rfl
  by_cases hi' : i < xs.length
  · repeat' ((conv => whnf); first | refine Rng.g ?_ | refine Ob.g ?_ | refine Ob.e ?_ | refine Ob.m ?_ | refine Ob.mk (Nat.le_of_ble_eq_true rfl) ?_ | refine JoinVC.on ?_ | refine Nils.mk (fun h => ?_) ?_ | refine Val.t ?_ | refine Val.d ?_ | refine Mm.mk ?_ | (refine Br.mk (fun h => ?_) (fun h => ?_) <;> first | (exfalso; omega; done) | (exfalso; simp at h; done) | skip))
    any_goals
      refine Back.mk (xs.length - (i + 1)) _ (by omega) ⟨i + 1, by omega, rfl, fun j hj' => ?_, rfl⟩ ?_
      · rcases Nat.lt_succ_iff_lt_or_eq.1 hj' with h' | rfl
        · exact hj j h'
        · rw [hbe]; omega
      · refine ⟨[], rfl, rfl, ?_, ?_⟩ <;> repeat' (first | exact trivial | exact rfl | exact Iff.rfl | apply And.intro)
    all_goals
      repeat refine Mm.mk ?_
      refine EndVC.mk _ rfl _ _ ⟨rfl, rfl⟩ ?_
      refine ⟨[], rfl, rfl, ?_, ?_⟩ <;> repeat' (first | exact trivial | exact rfl | exact Iff.rfl | apply And.intro)
      exact not_not_intro ⟨i, hi', hbe.2 (by omega)⟩
  · repeat' ((conv => whnf); first | refine Rng.g ?_ | refine Ob.g ?_ | refine Ob.e ?_ | refine Ob.m ?_ | refine Ob.mk (Nat.le_of_ble_eq_true rfl) ?_ | refine JoinVC.on ?_ | refine Nils.mk (fun h => ?_) ?_ | refine Val.t ?_ | refine Val.d ?_ | refine Mm.mk ?_ | (refine Br.mk (fun h => ?_) (fun h => ?_) <;> first | (exfalso; omega; done) | (exfalso; simp at h; done) | skip))
    repeat refine Mm.mk ?_
    refine EndVC.mk _ rfl _ _ ⟨rfl, rfl⟩ ?_
    refine ⟨[], rfl, rfl, ?_, ?_⟩ <;> repeat' (first | exact trivial | exact rfl | exact Iff.rfl | apply And.intro)
    exact fun ⟨j, h1, h2⟩ => hj j (by omega) h2
theorem s46 (c : Crv) : HSpec Tryz.prog 46 [c.x] [] (CRs c) := by
  have lf := i64s_len c.f
  have lb := i64s_len c.b
  by_cases h8 : 8 < c.f.length ∨ 8 < c.b.length
  · refine spec_of pMix (O := []) Tryz.func46 (c := bodyOf Tryz.f46) rfl (by kernel_rfl) (by kernel_rfl) Tryz.ntmps46 (res := [.tmp 2]) (by kernel_rfl) ?_
    repeat' ((conv => whnf); first | refine Rng.g ?_ | refine Ob.g ?_ | refine Ob.e ?_ | refine Ob.m ?_ | refine Ob.mk (Nat.le_of_ble_eq_true rfl) ?_ | refine JoinVC.on ?_ | refine Nils.mk (fun h => ?_) ?_ | refine Val.t ?_ | refine Val.d ?_ | refine Mm.mk ?_ | (refine Br.mk (fun h => ?_) (fun h => ?_) <;> first | (exfalso; omega; done) | (exfalso; simp at h; done) | skip))
    all_goals
      repeat refine Mm.mk ?_
      conv => whnf
      refine EndVC.mk _ rfl _ _ (⟨6, rfl, rfl, ⟨fun h => (by cases h), fun hC => (by have := hC.f.1; have := hC.b.1; omega)⟩⟩) ?_
      refine ⟨[], rfl, rfl, ?_, ?_⟩ <;> repeat' (first | exact trivial | exact rfl | exact Iff.rfl | apply And.intro)
  · have h1 := s130 c.f (by omega)
    have h2 := s130 c.b (by omega)
    refine spec_of pMix (O := []) Tryz.func46 (c := bodyOf Tryz.f46) rfl (by kernel_rfl) (by kernel_rfl) Tryz.ntmps46 (res := [.tmp 2]) (by kernel_rfl) ?_
    repeat' ((conv => whnf); first | refine Rng.g ?_ | refine Ob.g ?_ | refine Ob.e ?_ | refine Ob.m ?_ | refine Ob.mk (Nat.le_of_ble_eq_true rfl) ?_ | refine JoinVC.on ?_ | refine Nils.mk (fun h => ?_) ?_ | refine Val.t ?_ | refine Val.d ?_ | refine Mm.mk ?_ | refine CallVC.pure rfl (h1) ?_ | refine CallVC.pure rfl (h2) ?_ | refine CallVC0.pure rfl (h1) ?_ | refine CallVC0.pure rfl (h2) ?_ | (refine Br.mk (fun h => ?_) (fun h => ?_) <;> first | (exfalso; omega; done) | (exfalso; simp at h; done) | skip))
    · repeat refine Mm.mk ?_
      conv => whnf
      refine EndVC.mk _ rfl _ _ (⟨2, rfl, rfl, ⟨fun h => (by cases h), fun hC => absurd hC.nf h⟩⟩) ?_
      refine ⟨[], rfl, rfl, ?_, ?_⟩ <;> repeat' (first | exact trivial | exact rfl | exact Iff.rfl | apply And.intro)
    · repeat refine Mm.mk ?_
      conv => whnf
      refine EndVC.mk _ rfl _ _ (⟨2, rfl, rfl, ⟨fun h => (by cases h), fun hC => absurd hC.nb h⟩⟩) ?_
      refine ⟨[], rfl, rfl, ?_, ?_⟩ <;> repeat' (first | exact trivial | exact rfl | exact Iff.rfl | apply And.intro)
    · repeat refine Mm.mk ?_
      conv => whnf
      refine EndVC.mk _ rfl _ _ (⟨2, rfl, rfl, ⟨fun h => (by cases h), fun hC => (by have := hC.sh; omega)⟩⟩) ?_
      refine ⟨[], rfl, rfl, ?_, ?_⟩ <;> repeat' (first | exact trivial | exact rfl | exact Iff.rfl | apply And.intro)
    · repeat refine Mm.mk ?_
      conv => whnf
      refine EndVC.mk _ rfl _ _ (⟨2, rfl, rfl, ⟨fun h => (by cases h), fun hC => (by have := hC.sh; omega)⟩⟩) ?_
      refine ⟨[], rfl, rfl, ?_, ?_⟩ <;> repeat' (first | exact trivial | exact rfl | exact Iff.rfl | apply And.intro)
    · rename_i g1 g2 g3
      repeat refine Mm.mk ?_
      conv => whnf
      refine EndVC.mk _ rfl _ _ (⟨0, rfl, rfl, ⟨fun _ => ⟨⟨by omega, not_anyB (by decide) (Classical.not_not.1 g1)⟩, ⟨by omega, not_anyB (by decide) (Classical.not_not.1 g2)⟩, by omega⟩, fun _ => rfl⟩⟩) ?_
      refine ⟨[], rfl, rfl, ?_, ?_⟩ <;> repeat' (first | exact trivial | exact rfl | exact Iff.rfl | apply And.intro)
end Go.Sx

namespace Go.Sx
open Go Go.Proofs
set_option maxRecDepth 10000
set_option maxHeartbeats 2000000
structure ChOK (l : List Crv) : Prop where
  len : l.length ≤ 8
  each : ∀ j, j < l.length → CrvOK (l.getD j c0)
@[reducible] def ChRs (l : List Crv) (r : AV) (m' : List (Option Blk)) : Prop := ∃ e, r = .x (I e) ∧ m' = [] ∧ (e = 0 ↔ ChOK l)
theorem s147 (l : List Crv) : HSpec Tryz.prog 147 [lC l] [] (ChRs l) := by
  have ll := crvA_len l
  by_cases hl : 8 < l.length
  · refine spec_of pMix (O := []) Tryz.func147 (c := bodyOf Tryz.f147) rfl (by kernel_rfl) (by kernel_rfl) Tryz.ntmps147 (res := [.tmp 2]) (by kernel_rfl) ?_
    repeat' ((conv => whnf); first | refine Rng.g ?_ | refine Ob.g ?_ | refine Ob.e ?_ | refine Ob.m ?_ | refine Ob.mk (Nat.le_of_ble_eq_true rfl) ?_ | refine JoinVC.on ?_ | refine Nils.mk (fun h => ?_) ?_ | refine Val.t ?_ | refine Val.d ?_ | refine Mm.mk ?_ | (refine Br.mk (fun h => ?_) (fun h => ?_) <;> first | (exfalso; omega; done) | (exfalso; simp at h; done) | skip))
    repeat refine Mm.mk ?_
    conv => whnf
    refine EndVC.mk _ rfl _ _ (⟨6, rfl, rfl, ⟨fun h => (by cases h), fun hC => (by have := hC.len; omega)⟩⟩) ?_
    refine ⟨[], rfl, rfl, ?_, ?_⟩ <;> repeat' (first | exact trivial | exact rfl | exact Iff.rfl | apply And.intro)
  refine spec_of pMix (O := []) Tryz.func147 (c := bodyOf Tryz.f147) rfl (by kernel_rfl) (by kernel_rfl) Tryz.ntmps147 (res := [.tmp 2]) (by kernel_rfl) ?_
  repeat' ((conv => whnf); first | refine Rng.g ?_ | refine Ob.g ?_ | refine Ob.e ?_ | refine Ob.m ?_ | refine Ob.mk (Nat.le_of_ble_eq_true rfl) ?_ | refine JoinVC.on ?_ | refine Nils.mk (fun h => ?_) ?_ | refine Val.t ?_ | refine Val.d ?_ | refine Mm.mk ?_ | (refine Br.mk (fun h => ?_) (fun h => ?_) <;> first | (exfalso; omega; done) | (exfalso; simp at h; done) | skip))
  refine LoopVC.mk (fun n st => ∃ (i : Nat), i ≤ l.length ∧ n = l.length - i ∧ (∀ j, j < i → CrvOK (l.getD j c0)) ∧ st = ⟨0, envA 21 [(9, .x (lC l)), (10, .int .i64 (l.length : Int)), (11, .int .i64 (i : Int))], []⟩) _ _ ⟨0, Nat.zero_le _, rfl, fun j hj => absurd hj (Nat.not_lt_zero j), rfl⟩ ?_ ?_
  · refine ⟨[], rfl, rfl, ?_, ?_⟩ <;> repeat' (first | exact trivial | exact rfl | exact Iff.rfl | apply And.intro)
    exact congrArg Int.ofNat ll
  rintro n _ ⟨i, hi, hn, hj, rfl⟩
  by_cases hi' : i < l.length
  · repeat' ((conv => whnf); first | refine Rng.g ?_ | refine Ob.g ?_ | refine Ob.e ?_ | refine Ob.m ?_ | refine Ob.mk (Nat.le_of_ble_eq_true rfl) ?_ | refine JoinVC.on ?_ | refine Nils.mk (fun h => ?_) ?_ | refine Val.t ?_ | refine Val.d ?_ | refine Mm.mk ?_ | (refine Br.mk (fun h => ?_) (fun h => ?_) <;> first | (exfalso; omega; done) | (exfalso; simp at h; done) | skip))
    conv => whnf
    refine CallVC.mk [] _ _ _ rfl rfl rfl ((crvX_eq l i ▸ s222 (l.getD i c0) : HSpec Tryz.prog 222 [crvX l i] [] (CRs (l.getD i c0)))) (fun r m' h' => ?_)
    obtain ⟨e, rfl, rfl, he⟩ := h'
    conv => whnf
    repeat' ((conv => whnf); first | refine Rng.g ?_ | refine Ob.g ?_ | refine Ob.e ?_ | refine Ob.m ?_ | refine Ob.mk (Nat.le_of_ble_eq_true rfl) ?_ | refine JoinVC.on ?_ | refine Nils.mk (fun h => ?_) ?_ | refine Val.t ?_ | refine Val.d ?_ | refine Mm.mk ?_ | (refine Br.mk (fun h => ?_) (fun h => ?_) <;> first | (exfalso; omega; done) | (exfalso; simp at h; done) | skip))
    · repeat refine Mm.mk ?_
      conv => whnf
      refine EndVC.mk _ rfl _ _ (⟨e, rfl, rfl, ⟨fun h0 => absurd h0 h, fun hC => absurd (he.2 (hC.each i hi')) h⟩⟩) ?_
      refine ⟨[], rfl, rfl, ?_, ?_⟩ <;> repeat' (first | exact trivial | exact rfl | exact Iff.rfl | apply And.intro)
    · have hc0 := he.1 (Classical.not_not.1 h)
      refine Back.mk (l.length - (i + 1)) _ (by omega) ⟨i + 1, by omega, rfl, fun j hj' => ?_, rfl⟩ ?_
      · rcases Nat.lt_succ_iff_lt_or_eq.1 hj' with h' | rfl
        · exact hj j h'
        · exact hc0
      · refine ⟨[], rfl, rfl, ?_, ?_⟩ <;> repeat' (first | exact trivial | exact rfl | exact Iff.rfl | apply And.intro)
  · repeat' ((conv => whnf); first | refine Rng.g ?_ | refine Ob.g ?_ | refine Ob.e ?_ | refine Ob.m ?_ | refine Ob.mk (Nat.le_of_ble_eq_true rfl) ?_ | refine JoinVC.on ?_ | refine Nils.mk (fun h => ?_) ?_ | refine Val.t ?_ | refine Val.d ?_ | refine Mm.mk ?_ | (refine Br.mk (fun h => ?_) (fun h => ?_) <;> first | (exfalso; omega; done) | (exfalso; simp at h; done) | skip))
    repeat refine Mm.mk ?_
    conv => whnf
    refine EndVC.mk _ rfl _ _ (⟨0, rfl, rfl, ⟨fun _ => ⟨by omega, fun j hj' => hj j (by omega)⟩, fun _ => rfl⟩⟩) ?_
    refine ⟨[], rfl, rfl, ?_, ?_⟩ <;> repeat' (first | exact trivial | exact rfl | exact Iff.rfl | apply And.intro)
theorem s23 (l : List Crv) : HSpec Tryz.prog 23 [lC l] [] (ChRs l) := by
  have ll := crvA_len l
  by_cases hl : 8 < l.length
  · refine spec_of pMix (O := []) Tryz.func23 (c := bodyOf Tryz.f23) rfl (by kernel_rfl) (by kernel_rfl) Tryz.ntmps23 (res := [.tmp 2]) (by kernel_rfl) ?_
    repeat' ((conv => whnf); first | refine Rng.g ?_ | refine Ob.g ?_ | refine Ob.e ?_ | refine Ob.m ?_ | refine Ob.mk (Nat.le_of_ble_eq_true rfl) ?_ | refine JoinVC.on ?_ | refine Nils.mk (fun h => ?_) ?_ | refine Val.t ?_ | refine Val.d ?_ | refine Mm.mk ?_ | (refine Br.mk (fun h => ?_) (fun h => ?_) <;> first | (exfalso; omega; done) | (exfalso; simp at h; done) | skip))
    repeat refine Mm.mk ?_
    conv => whnf
    refine EndVC.mk _ rfl _ _ (⟨6, rfl, rfl, ⟨fun h => (by cases h), fun hC => (by have := hC.len; omega)⟩⟩) ?_
    refine ⟨[], rfl, rfl, ?_, ?_⟩ <;> repeat' (first | exact trivial | exact rfl | exact Iff.rfl | apply And.intro)
  refine spec_of pMix (O := []) Tryz.func23 (c := bodyOf Tryz.f23) rfl (by kernel_rfl) (by kernel_rfl) Tryz.ntmps23 (res := [.tmp 2]) (by kernel_rfl) ?_
  repeat' ((conv => whnf); first | refine Rng.g ?_ | refine Ob.g ?_ | refine Ob.e ?_ | refine Ob.m ?_ | refine Ob.mk (Nat.le_of_ble_eq_true rfl) ?_ | refine JoinVC.on ?_ | refine Nils.mk (fun h => ?_) ?_ | refine Val.t ?_ | refine Val.d ?_ | refine Mm.mk ?_ | (refine Br.mk (fun h => ?_) (fun h => ?_) <;> first | (exfalso; omega; done) | (exfalso; simp at h; done) | skip))
  refine LoopVC.mk (fun n st => ∃ (i : Nat), i ≤ l.length ∧ n = l.length - i ∧ (∀ j, j < i → CrvOK (l.getD j c0)) ∧ st = ⟨0, envA 22 [(0, .x (lC l)), (3, .int .i64 (i : Int))], []⟩) _ _ ⟨0, Nat.zero_le _, rfl, fun j hj => absurd hj (Nat.not_lt_zero j), rfl⟩ ?_ ?_
  · refine ⟨[], rfl, rfl, ?_, ?_⟩ <;> repeat' (first | exact trivial | exact rfl | exact Iff.rfl | apply And.intro)
  rintro n _ ⟨i, hi, hn, hj, rfl⟩
  by_cases hi' : i < l.length
  · repeat' ((conv => whnf); first | refine Rng.g ?_ | refine Ob.g ?_ | refine Ob.e ?_ | refine Ob.m ?_ | refine Ob.mk (Nat.le_of_ble_eq_true rfl) ?_ | refine JoinVC.on ?_ | refine Nils.mk (fun h => ?_) ?_ | refine Val.t ?_ | refine Val.d ?_ | refine Mm.mk ?_ | (refine Br.mk (fun h => ?_) (fun h => ?_) <;> first | (exfalso; omega; done) | (exfalso; simp at h; done) | skip))
    conv => whnf
    refine CallVC.mk [] _ _ _ rfl rfl rfl ((crvX_eq l i ▸ s46 (l.getD i c0) : HSpec Tryz.prog 46 [crvX l i] [] (CRs (l.getD i c0)))) (fun r m' h' => ?_)
    obtain ⟨e, rfl, rfl, he⟩ := h'
    conv => whnf
    repeat' ((conv => whnf); first | refine Rng.g ?_ | refine Ob.g ?_ | refine Ob.e ?_ | refine Ob.m ?_ | refine Ob.mk (Nat.le_of_ble_eq_true rfl) ?_ | refine JoinVC.on ?_ | refine Nils.mk (fun h => ?_) ?_ | refine Val.t ?_ | refine Val.d ?_ | refine Mm.mk ?_ | (refine Br.mk (fun h => ?_) (fun h => ?_) <;> first | (exfalso; omega; done) | (exfalso; simp at h; done) | skip))
    · repeat refine Mm.mk ?_
      conv => whnf
      refine EndVC.mk _ rfl _ _ (⟨e, rfl, rfl, ⟨fun h0 => absurd h0 h, fun hC => absurd (he.2 (hC.each i hi')) h⟩⟩) ?_
      refine ⟨[], rfl, rfl, ?_, ?_⟩ <;> repeat' (first | exact trivial | exact rfl | exact Iff.rfl | apply And.intro)
    · have hc0 := he.1 (Classical.not_not.1 h)
      refine Back.mk (l.length - (i + 1)) _ (by omega) ⟨i + 1, by omega, rfl, fun j hj' => ?_, rfl⟩ ?_
      · rcases Nat.lt_succ_iff_lt_or_eq.1 hj' with h' | rfl
        · exact hj j h'
        · exact hc0
      · refine ⟨[], rfl, rfl, ?_, ?_⟩ <;> repeat' (first | exact trivial | exact rfl | exact Iff.rfl | apply And.intro)
  · repeat' ((conv => whnf); first | refine Rng.g ?_ | refine Ob.g ?_ | refine Ob.e ?_ | refine Ob.m ?_ | refine Ob.mk (Nat.le_of_ble_eq_true rfl) ?_ | refine JoinVC.on ?_ | refine Nils.mk (fun h => ?_) ?_ | refine Val.t ?_ | refine Val.d ?_ | refine Mm.mk ?_ | (refine Br.mk (fun h => ?_) (fun h => ?_) <;> first | (exfalso; omega; done) | (exfalso; simp at h; done) | skip))
    repeat refine Mm.mk ?_
    conv => whnf
    refine EndVC.mk _ rfl _ _ (⟨0, rfl, rfl, ⟨fun _ => ⟨by omega, fun j hj' => hj j (by omega)⟩, fun _ => rfl⟩⟩) ?_
    refine ⟨[], rfl, rfl, ?_, ?_⟩ <;> repeat' (first | exact trivial | exact rfl | exact Iff.rfl | apply And.intro)
/-- A signal. -/
structure SigOK (xs : List Int) : Prop where
  len : xs.length ≤ 4096
  each : ∀ j, -32767 ≤ xs.getD j 0 ∧ xs.getD j 0 ≤ 32767
@[reducible] def SgRs (xs : List Int) (r : AV) (m' : List (Option Blk)) : Prop := ∃ e, r = .x (I e) ∧ m' = [] ∧ (e = 0 ↔ SigOK xs)
theorem SigOK.nb {xs : List Int} (h : SigOK xs) : ¬ anyB xs 32767 := fun ⟨j, _, h3⟩ => by have := h.each j; unfold bey at h3; omega
theorem s148 (xs : List Int) : HSpec Tryz.prog 148 [lL xs] [] (SgRs xs) := by
  have lx := i64s_len xs
  by_cases hl : 4096 < xs.length
  · refine spec_of pMix (O := []) Tryz.func148 (c := bodyOf Tryz.f148) rfl (by kernel_rfl) (by kernel_rfl) Tryz.ntmps148 (res := [.tmp 2]) (by kernel_rfl) ?_
    repeat' ((conv => whnf); first | refine Rng.g ?_ | refine Ob.g ?_ | refine Ob.e ?_ | refine Ob.m ?_ | refine Ob.mk (Nat.le_of_ble_eq_true rfl) ?_ | refine JoinVC.on ?_ | refine Nils.mk (fun h => ?_) ?_ | refine Val.t ?_ | refine Val.d ?_ | refine Mm.mk ?_ | (refine Br.mk (fun h => ?_) (fun h => ?_) <;> first | (exfalso; omega; done) | (exfalso; simp at h; done) | skip))
    repeat refine Mm.mk ?_
    conv => whnf
    refine EndVC.mk _ rfl _ _ (⟨6, rfl, rfl, ⟨fun h => (by cases h), fun hC => (by have := hC.len; omega)⟩⟩) ?_
    refine ⟨[], rfl, rfl, ?_, ?_⟩ <;> repeat' (first | exact trivial | exact rfl | exact Iff.rfl | apply And.intro)
  have h1 := s233 xs 32767 (by decide) (by omega)
  refine spec_of pMix (O := []) Tryz.func148 (c := bodyOf Tryz.f148) rfl (by kernel_rfl) (by kernel_rfl) Tryz.ntmps148 (res := [.tmp 2]) (by kernel_rfl) ?_
  repeat' ((conv => whnf); first | refine Rng.g ?_ | refine Ob.g ?_ | refine Ob.e ?_ | refine Ob.m ?_ | refine Ob.mk (Nat.le_of_ble_eq_true rfl) ?_ | refine JoinVC.on ?_ | refine Nils.mk (fun h => ?_) ?_ | refine Val.t ?_ | refine Val.d ?_ | refine Mm.mk ?_ | refine CallVC.pure rfl (h1) ?_ | refine CallVC0.pure rfl (h1) ?_ | (refine Br.mk (fun h => ?_) (fun h => ?_) <;> first | (exfalso; omega; done) | (exfalso; simp at h; done) | skip))
  · repeat refine Mm.mk ?_
    conv => whnf
    refine EndVC.mk _ rfl _ _ (⟨3, rfl, rfl, ⟨fun h => (by cases h), fun hC => absurd h hC.nb⟩⟩) ?_
    refine ⟨[], rfl, rfl, ?_, ?_⟩ <;> repeat' (first | exact trivial | exact rfl | exact Iff.rfl | apply And.intro)
  · repeat refine Mm.mk ?_
    conv => whnf
    refine EndVC.mk _ rfl _ _ (⟨0, rfl, rfl, ⟨fun _ => ⟨by omega, not_anyB (by decide) h⟩, fun _ => rfl⟩⟩) ?_
    refine ⟨[], rfl, rfl, ?_, ?_⟩ <;> repeat' (first | exact trivial | exact rfl | exact Iff.rfl | apply And.intro)
theorem s61 (xs : List Int) : HSpec Tryz.prog 61 [lL xs] [] (SgRs xs) := by
  have lx := i64s_len xs
  by_cases hl : 4096 < xs.length
  · refine spec_of pMix (O := []) Tryz.func61 (c := bodyOf Tryz.f61) rfl (by kernel_rfl) (by kernel_rfl) Tryz.ntmps61 (res := [.tmp 2]) (by kernel_rfl) ?_
    repeat' ((conv => whnf); first | refine Rng.g ?_ | refine Ob.g ?_ | refine Ob.e ?_ | refine Ob.m ?_ | refine Ob.mk (Nat.le_of_ble_eq_true rfl) ?_ | refine JoinVC.on ?_ | refine Nils.mk (fun h => ?_) ?_ | refine Val.t ?_ | refine Val.d ?_ | refine Mm.mk ?_ | (refine Br.mk (fun h => ?_) (fun h => ?_) <;> first | (exfalso; omega; done) | (exfalso; simp at h; done) | skip))
    repeat refine Mm.mk ?_
    conv => whnf
    refine EndVC.mk _ rfl _ _ (⟨6, rfl, rfl, ⟨fun h => (by cases h), fun hC => (by have := hC.len; omega)⟩⟩) ?_
    refine ⟨[], rfl, rfl, ?_, ?_⟩ <;> repeat' (first | exact trivial | exact rfl | exact Iff.rfl | apply And.intro)
  refine spec_of pMix (O := []) Tryz.func61 (c := bodyOf Tryz.f61) rfl (by kernel_rfl) (by kernel_rfl) Tryz.ntmps61 (res := [.tmp 2]) (by kernel_rfl) ?_
  repeat' ((conv => whnf); first | refine Rng.g ?_ | refine Ob.g ?_ | refine Ob.e ?_ | refine Ob.m ?_ | refine Ob.mk (Nat.le_of_ble_eq_true rfl) ?_ | refine JoinVC.on ?_ | refine Nils.mk (fun h => ?_) ?_ | refine Val.t ?_ | refine Val.d ?_ | refine Mm.mk ?_ | (refine Br.mk (fun h => ?_) (fun h => ?_) <;> first | (exfalso; omega; done) | (exfalso; simp at h; done) | skip))
  refine LoopVC.mk (fun n st => ∃ (i : Nat), i ≤ xs.length ∧ n = xs.length - i ∧ (∀ j, j < i → ¬ bey (xs.getD j 0) 32767) ∧ st = ⟨0, envA 25 [(0, .x (lL xs)), (3, .int .i64 (i : Int))], []⟩) _ _ ⟨0, Nat.zero_le _, rfl, fun j hj => absurd hj (Nat.not_lt_zero j), rfl⟩ ?_ ?_
  · refine ⟨[], rfl, rfl, ?_, ?_⟩ <;> repeat' (first | exact trivial | exact rfl | exact Iff.rfl | apply And.intro)
  rintro n _ ⟨i, hi, hn, hj, rfl⟩
  have gx : rI (i64s xs) (i : Int).toNat 0 = xs.getD i 0 := by rw [Int.toNat_natCast, i64s_get]
  have hbe : bey (xs.getD i 0) 32767 ↔ (xs.getD i 0 < -32767 ∨ 32767 < xs.getD i 0) := Iff.rfl
  by_cases hi' : i < xs.length
  · repeat' ((conv => whnf); first | refine Rng.g ?_ | refine Ob.g ?_ | refine Ob.e ?_ | refine Ob.m ?_ | refine Ob.mk (Nat.le_of_ble_eq_true rfl) ?_ | refine JoinVC.on ?_ | refine Nils.mk (fun h => ?_) ?_ | refine Val.t ?_ | refine Val.d ?_ | refine Mm.mk ?_ | (refine Br.mk (fun h => ?_) (fun h => ?_) <;> first | (exfalso; omega; done) | (exfalso; simp at h; done) | skip))
    any_goals
      refine Back.mk (xs.length - (i + 1)) _ (by omega) ⟨i + 1, by omega, rfl, fun j hj' => ?_, rfl⟩ ?_
      · rcases Nat.lt_succ_iff_lt_or_eq.1 hj' with h' | rfl
        · exact hj j h'
        · rw [hbe]; omega
      · refine ⟨[], rfl, rfl, ?_, ?_⟩ <;> repeat' (first | exact trivial | exact rfl | exact Iff.rfl | apply And.intro)
    all_goals
      repeat refine Mm.mk ?_
      conv => whnf
      refine EndVC.mk _ rfl _ _ (⟨3, rfl, rfl, ⟨fun h => (by cases h), fun hC => (by have := hC.each i; omega)⟩⟩) ?_
      refine ⟨[], rfl, rfl, ?_, ?_⟩ <;> repeat' (first | exact trivial | exact rfl | exact Iff.rfl | apply And.intro)
  · repeat' ((conv => whnf); first | refine Rng.g ?_ | refine Ob.g ?_ | refine Ob.e ?_ | refine Ob.m ?_ | refine Ob.mk (Nat.le_of_ble_eq_true rfl) ?_ | refine JoinVC.on ?_ | refine Nils.mk (fun h => ?_) ?_ | refine Val.t ?_ | refine Val.d ?_ | refine Mm.mk ?_ | (refine Br.mk (fun h => ?_) (fun h => ?_) <;> first | (exfalso; omega; done) | (exfalso; simp at h; done) | skip))
    repeat refine Mm.mk ?_
    conv => whnf
    refine EndVC.mk _ rfl _ _ (⟨0, rfl, rfl, ⟨fun _ => ⟨by omega, not_anyB (by decide) (fun ⟨j, h1, h2⟩ => hj j (by omega) h2)⟩, fun _ => rfl⟩⟩) ?_
    refine ⟨[], rfl, rfl, ?_, ?_⟩ <;> repeat' (first | exact trivial | exact rfl | exact Iff.rfl | apply And.intro)
@[reducible] def rowL (l : List Int) : Blk := .row 2 false [.int .i64] (i64s l)
theorem eb2 : Tryz.t2.bytes = 8 := by kernel_rfl
theorem s201 (xs : List Int) (hl : xs.length ≤ 1000000) : HSpec Tryz.prog 201 [lL xs] [] (fun r m' => r = .x (.one (.own 0)) ∧ m' = [some (rowL xs)]) := by
  have lx := i64s_len xs
  refine spec_of pMix (O := []) Tryz.func201 (c := bodyOf Tryz.f201) rfl (by kernel_rfl) (by kernel_rfl) Tryz.ntmps201 (res := [.tmp 2]) (by kernel_rfl) ?_
  repeat' ((conv => whnf); first | refine Rng.g ?_ | refine Ob.g ?_ | refine Ob.e ?_ | refine Ob.m ?_ | refine Ob.mk (Nat.le_of_ble_eq_true rfl) ?_ | refine JoinVC.on ?_ | refine Nils.mk (fun h => ?_) ?_ | refine Val.t ?_ | refine Val.d ?_ | refine Mm.mk ?_ | (refine Br.mk (fun h => ?_) (fun h => ?_) <;> first | (exfalso; omega; done) | (exfalso; simp at h; done) | skip))
  · repeat refine Mm.mk ?_
    refine EndVC.mk _ rfl _ _ ⟨rfl, rfl⟩ ?_
    refine ⟨[none], rfl, rfl, ?_, ?_⟩ <;> repeat' (first | exact trivial | exact rfl | exact Iff.rfl | apply And.intro)
    exact h
  · repeat refine Mm.mk ?_
    refine Ob.mk (by simp only [eb2, List.length_nil]; omega) ?_
    repeat' ((conv => whnf); first | refine Rng.g ?_ | refine Ob.g ?_ | refine Ob.e ?_ | refine Ob.m ?_ | refine Ob.mk (Nat.le_of_ble_eq_true rfl) ?_ | refine JoinVC.on ?_ | refine Nils.mk (fun h => ?_) ?_ | refine Val.t ?_ | refine Val.d ?_ | refine Mm.mk ?_ | (refine Br.mk (fun h => ?_) (fun h => ?_) <;> first | (exfalso; omega; done) | (exfalso; simp at h; done) | skip))
    repeat refine Mm.mk ?_
    refine EndVC.mk _ rfl _ _ ⟨rfl, rfl⟩ ?_
    refine ⟨[some 1], rfl, rfl, ?_, ?_⟩ <;> repeat' (first | exact trivial | exact rfl | exact Iff.rfl | apply And.intro)
end Go.Sx

namespace Go.Sx
open Go Go.Proofs
set_option maxRecDepth 10000
set_option maxHeartbeats 2000000
theorem e221 : EntersF Tryz.prog 221 := enters_of Tryz.func221 (c := bodyOf Tryz.f221) (by kernel_rfl) rfl
theorem e326 : EntersF Tryz.prog 326 := enters_of Tryz.func326 (c := bodyOf Tryz.f326) (by kernel_rfl) rfl
theorem e278 : EntersF Tryz.prog 278 := enters_of Tryz.func278 (c := bodyOf Tryz.f278) (by kernel_rfl) rfl
theorem e277 : EntersF Tryz.prog 277 := enters_of Tryz.func277 (c := bodyOf Tryz.f277) (by kernel_rfl) rfl
theorem e276 : EntersF Tryz.prog 276 := enters_of Tryz.func276 (c := bodyOf Tryz.f276) (by kernel_rfl) rfl
theorem s221 (n d : Int) (hd : 0 < d) (hn : -1000000000000 ≤ n ∧ n ≤ 1000000000000) : PSpec Tryz.prog 221 [I n, I d] (.x (I (n / d))) := by
  have h1 := tdiv_floor (n := n) hd
  have h2 := tdiv_rng (a := n) (d := d) (B := 1000000000000) hd (by
    have : (1000000000000 : Int) * 1 ≤ 1000000000000 * d := Int.mul_le_mul_of_nonneg_left (by omega) (by decide)
    omega)
  refine spec_of pMix (O := []) Tryz.func221 (c := bodyOf Tryz.f221) rfl (by kernel_rfl) (by kernel_rfl) Tryz.ntmps221 (res := [.tmp 4]) (by kernel_rfl) ?_
  repeat' ((conv => whnf); first | refine Rng.g ?_ | refine Ob.g ?_ | refine Ob.e ?_ | refine Ob.m ?_ | refine Ob.mk (Nat.le_of_ble_eq_true rfl) ?_ | refine JoinVC.on ?_ | refine Nils.mk (fun h => ?_) ?_ | refine Val.t ?_ | refine Val.d ?_ | refine Mm.mk ?_ | (refine Br.mk (fun h => ?_) (fun h => ?_) <;> first | (exfalso; omega; done) | (exfalso; simp at h; done) | skip))
  refine Val.mk _ rfl ?_
  repeat' ((conv => whnf); first | refine Rng.g ?_ | refine Ob.g ?_ | refine Ob.e ?_ | refine Ob.m ?_ | refine Ob.mk (Nat.le_of_ble_eq_true rfl) ?_ | refine JoinVC.on ?_ | refine Nils.mk (fun h => ?_) ?_ | refine Val.t ?_ | refine Val.d ?_ | refine Mm.mk ?_ | (refine Br.mk (fun h => ?_) (fun h => ?_) <;> first | (exfalso; omega; done) | (exfalso; simp at h; done) | skip))
  refine Val.mk _ rfl ?_
  repeat' ((conv => whnf); first | refine Rng.g ?_ | refine Ob.g ?_ | refine Ob.e ?_ | refine Ob.m ?_ | refine Ob.mk (Nat.le_of_ble_eq_true rfl) ?_ | refine JoinVC.on ?_ | refine Nils.mk (fun h => ?_) ?_ | refine Val.t ?_ | refine Val.d ?_ | refine Mm.mk ?_ | (refine Br.mk (fun h => ?_) (fun h => ?_) <;> first | (exfalso; omega; done) | (exfalso; simp at h; done) | skip))
  all_goals
    repeat refine Mm.mk ?_
    refine EndVC.mk _ rfl _ _ ⟨rfl, rfl⟩ ?_
    refine ⟨[], rfl, rfl, ?_, ?_⟩ <;> repeat' (first | exact trivial | exact rfl | exact Iff.rfl | apply And.intro)
  · exact h1.1 h
  · exact h1.2 h
end Go.Sx

namespace Go.Sx
open Go Go.Proofs
set_option maxRecDepth 10000
set_option maxHeartbeats 4000000
/-! ### The last numbers -/
@[reducible] def ringC (L : List Int) (k : Int) : List SV := [.int .i64 (L.getD 0 0), .int .i64 (L.getD 1 0), .int .i64 (L.getD 2 0), .int .i64 (L.getD 3 0), .int .i64 (L.getD 4 0), .int .i64 (L.getD 5 0), .int .i64 (L.getD 6 0), .int .i64 (L.getD 7 0), .int .i64 k]
@[reducible] def stB (L : List Int) (k : Int) (M : List Int) (m : Int) (c : Crv) : Blk := .box 431 [.int .i64 (L.getD 0 0), .int .i64 (L.getD 1 0), .int .i64 (L.getD 2 0), .int .i64 (L.getD 3 0), .int .i64 (L.getD 4 0), .int .i64 (L.getD 5 0), .int .i64 (L.getD 6 0), .int .i64 (L.getD 7 0), .int .i64 k,
  .int .i64 (M.getD 0 0), .int .i64 (M.getD 1 0), .int .i64 (M.getD 2 0), .int .i64 (M.getD 3 0), .int .i64 (M.getD 4 0), .int .i64 (M.getD 5 0), .int .i64 (M.getD 6 0), .int .i64 (M.getD 7 0), .int .i64 m, .lst true [.int .i64] (i64s c.f), .lst true [.int .i64] (i64s c.b), .int .i64 c.sh]
theorem eight {n : Int} (h : 0 ≤ n ∧ n < 8) : n = 0 ∨ n = 1 ∨ n = 2 ∨ n = 3 ∨ n = 4 ∨ n = 5 ∨ n = 6 ∨ n = 7 := by omega
theorem get_a (L : List Int) (r : List SV) (n : Int) (h : 0 ≤ n ∧ n < 8) : getL (.int .i64 (L.getD 0 0) :: .int .i64 (L.getD 1 0) :: .int .i64 (L.getD 2 0) :: .int .i64 (L.getD 3 0) :: .int .i64 (L.getD 4 0) :: .int .i64 (L.getD 5 0) :: .int .i64 (L.getD 6 0) :: .int .i64 (L.getD 7 0) :: r) (0 + 0 + n.toNat * (0 + 1)) = some (.int .i64 (L.getD n.toNat 0)) := by
  rcases eight h with rfl | rfl | rfl | rfl | rfl | rfl | rfl | rfl <;> rfl
theorem get_b (x0 x1 x2 x3 x4 x5 x6 x7 x8 : SV) (L : List Int) (r : List SV) (n : Int) (h : 0 ≤ n ∧ n < 8) : getL (x0 :: x1 :: x2 :: x3 :: x4 :: x5 :: x6 :: x7 :: x8 :: .int .i64 (L.getD 0 0) :: .int .i64 (L.getD 1 0) :: .int .i64 (L.getD 2 0) :: .int .i64 (L.getD 3 0) :: .int .i64 (L.getD 4 0) :: .int .i64 (L.getD 5 0) :: .int .i64 (L.getD 6 0) :: .int .i64 (L.getD 7 0) :: r) (9 + 0 + n.toNat * (0 + 1)) = some (.int .i64 (L.getD n.toNat 0)) := by
  rcases eight h with rfl | rfl | rfl | rfl | rfl | rfl | rfl | rfl <;> rfl
/-- The ring holds these numbers, the latest one first. -/
structure Ring (L : List Int) (k : Int) (hs : List Int) : Prop where
  kb : 0 ≤ k ∧ k < 8
  len : L.length = 8
  at' : ∀ j : Int, 0 ≤ j ∧ j < 8 → L.getD ((k + 8 - 1 - j) % 8).toNat 0 = hs.getD j.toNat 0
theorem Ring.put {L : List Int} {k : Int} {hs : List Int} (h : Ring L k hs) (n : Int) : Ring (L.set k.toNat n) ((k + 1) % 8) (n :: hs) := by
  have hk := h.kb
  have hl := h.len
  refine ⟨by omega, by rw [List.length_set]; exact hl, fun j hj => ?_⟩
  rw [getD_set' _ _ _ _ _ (by omega)]
  by_cases h0 : j = 0
  · subst h0
    rw [if_pos (by omega)]; rfl
  · rw [if_neg (by omega)]
    have := h.at' (j - 1) (by omega)
    have e : (k + 8 - 1 - (j - 1)) % 8 = ((k + 1) % 8 + 8 - 1 - j) % 8 := by omega
    rw [← e, this]
    have e2 : j.toNat = (j - 1).toNat + 1 := by omega
    rw [e2]; rfl
theorem Ring.start : Ring [0, 0, 0, 0, 0, 0, 0, 0] 0 [] := by
  refine ⟨by decide, rfl, fun j hj => ?_⟩
  rcases eight hj with rfl | rfl | rfl | rfl | rfl | rfl | rfl | rfl <;> rfl
/-- The sum of the last numbers with weights. -/
def wsum (w hs : List Int) : Nat → Int
  | 0 => 0
  | i + 1 => wsum w hs i + w.getD i 0 * hs.getD i 0
def small (hs : List Int) : Prop := ∀ j, -100000 ≤ hs.getD j 0 ∧ hs.getD j 0 ≤ 100000
theorem wprod_bd {w hs : List Int} (hw : ∀ j, -4096 ≤ w.getD j 0 ∧ w.getD j 0 ≤ 4096) (hh : small hs) (i : Nat) : -409600000 ≤ w.getD i 0 * hs.getD i 0 ∧ w.getD i 0 * hs.getD i 0 ≤ 409600000 := by
  have h1 := hw i
  have h2 := hh i
  rcases Int.le_total 0 (hs.getD i 0) with h3 | h3
  · have := mul_rng (a := w.getD i 0) (b := hs.getD i 0) (A := 4096) (B := 100000) h1 (by omega)
    omega
  · have := mul_rng (a := w.getD i 0) (b := -hs.getD i 0) (A := 4096) (B := 100000) h1 (by omega)
    rw [Int.mul_neg] at this
    omega
theorem wsum_bd {w hs : List Int} (hw : ∀ j, -4096 ≤ w.getD j 0 ∧ w.getD j 0 ≤ 4096) (hh : small hs) : ∀ i : Nat, -409600000 * (i : Int) ≤ wsum w hs i ∧ wsum w hs i ≤ 409600000 * i
  | 0 => by simp [wsum]
  | i + 1 => by
    have h1 := wsum_bd hw hh i
    have h2 := wprod_bd hw hh i
    unfold wsum
    omega
end Go.Sx

namespace Go.Sx
open Go Go.Proofs
set_option maxRecDepth 10000
set_option maxHeartbeats 4000000
theorem set_a (L : List Int) (r : List SV) (n v : Int) (h : 0 ≤ n ∧ n < 8) (hl : L.length = 8) : (SV.int .i64 (L.getD 0 0) :: .int .i64 (L.getD 1 0) :: .int .i64 (L.getD 2 0) :: .int .i64 (L.getD 3 0) :: .int .i64 (L.getD 4 0) :: .int .i64 (L.getD 5 0) :: .int .i64 (L.getD 6 0) :: .int .i64 (L.getD 7 0) :: r).set (0 + 0 + n.toNat * (0 + 1)) (.int .i64 v) =
    (SV.int .i64 ((L.set n.toNat v).getD 0 0) :: .int .i64 ((L.set n.toNat v).getD 1 0) :: .int .i64 ((L.set n.toNat v).getD 2 0) :: .int .i64 ((L.set n.toNat v).getD 3 0) :: .int .i64 ((L.set n.toNat v).getD 4 0) :: .int .i64 ((L.set n.toNat v).getD 5 0) :: .int .i64 ((L.set n.toNat v).getD 6 0) :: .int .i64 ((L.set n.toNat v).getD 7 0) :: r) := by
  match L, hl with
  | [a, b, c, d, e, f, g, i], _ => rcases eight h with rfl | rfl | rfl | rfl | rfl | rfl | rfl | rfl <;> rfl
theorem set_b (x0 x1 x2 x3 x4 x5 x6 x7 x8 : SV) (L : List Int) (r : List SV) (n v : Int) (h : 0 ≤ n ∧ n < 8) (hl : L.length = 8) : (x0 :: x1 :: x2 :: x3 :: x4 :: x5 :: x6 :: x7 :: x8 :: SV.int .i64 (L.getD 0 0) :: .int .i64 (L.getD 1 0) :: .int .i64 (L.getD 2 0) :: .int .i64 (L.getD 3 0) :: .int .i64 (L.getD 4 0) :: .int .i64 (L.getD 5 0) :: .int .i64 (L.getD 6 0) :: .int .i64 (L.getD 7 0) :: r).set (9 + 0 + n.toNat * (0 + 1)) (.int .i64 v) =
    (x0 :: x1 :: x2 :: x3 :: x4 :: x5 :: x6 :: x7 :: x8 :: SV.int .i64 ((L.set n.toNat v).getD 0 0) :: .int .i64 ((L.set n.toNat v).getD 1 0) :: .int .i64 ((L.set n.toNat v).getD 2 0) :: .int .i64 ((L.set n.toNat v).getD 3 0) :: .int .i64 ((L.set n.toNat v).getD 4 0) :: .int .i64 ((L.set n.toNat v).getD 5 0) :: .int .i64 ((L.set n.toNat v).getD 6 0) :: .int .i64 ((L.set n.toNat v).getD 7 0) :: r) := by
  match L, hl with
  | [a, b, c, d, e, f, g, i], _ => rcases eight h with rfl | rfl | rfl | rfl | rfl | rfl | rfl | rfl <;> rfl
theorem s278a (L : List Int) (k : Int) (M : List Int) (m : Int) (c : Crv) (n : Int) (hs : List Int) (hR : Ring L k hs) :
    HSpec Tryz.prog 278 [.one (.ptr 0 0), I n] [stB L k M m c] (fun r m' => r = .tup [] ∧ m' = [some (stB (L.set k.toNat n) ((k + 1) % 8) M m c)]) := by
  have hk := hR.kb
  refine spec_of pMix (O := []) Tryz.func278 (c := bodyOf Tryz.f278) rfl (by kernel_rfl) (by kernel_rfl) Tryz.ntmps278 (res := []) (by kernel_rfl) ?_
  repeat' ((conv => whnf); first | refine Rng.g ?_ | refine Ob.g ?_ | refine Ob.e ?_ | refine Ob.m ?_ | refine Ob.mk (Nat.le_of_ble_eq_true rfl) ?_ | refine JoinVC.on ?_ | refine Nils.mk (fun h => ?_) ?_ | refine Val.t ?_ | refine Val.d ?_ | refine Mm.mk ?_ | (refine Br.mk (fun h => ?_) (fun h => ?_) <;> first | (exfalso; omega; done) | (exfalso; simp at h; done) | skip))
  refine ifB.mk (by rcases eight hk with rfl | rfl | rfl | rfl | rfl | rfl | rfl | rfl <;> rfl) ?_
  refine setL_mk _ (set_a L _ k n hk hR.len) ?_
  repeat' ((conv => whnf); first | refine Rng.g ?_ | refine Ob.g ?_ | refine Ob.e ?_ | refine Ob.m ?_ | refine Ob.mk (Nat.le_of_ble_eq_true rfl) ?_ | refine JoinVC.on ?_ | refine Nils.mk (fun h => ?_) ?_ | refine Val.t ?_ | refine Val.d ?_ | refine Mm.mk ?_ | (refine Br.mk (fun h => ?_) (fun h => ?_) <;> first | (exfalso; omega; done) | (exfalso; simp at h; done) | skip))
  repeat refine Mm.mk ?_
  refine EndVC.mk _ rfl _ _ ⟨rfl, rfl⟩ ?_
  refine ⟨[some 0], rfl, rfl, ?_, ?_⟩ <;> repeat' (first | exact trivial | exact rfl | exact Iff.rfl | apply And.intro)
theorem s278b (L : List Int) (k : Int) (M : List Int) (m : Int) (c : Crv) (n : Int) (hs : List Int) (hR : Ring M m hs) :
    HSpec Tryz.prog 278 [.one (.ptr 0 9), I n] [stB L k M m c] (fun r m' => r = .tup [] ∧ m' = [some (stB L k (M.set m.toNat n) ((m + 1) % 8) c)]) := by
  have hk := hR.kb
  refine spec_of pMix (O := []) Tryz.func278 (c := bodyOf Tryz.f278) rfl (by kernel_rfl) (by kernel_rfl) Tryz.ntmps278 (res := []) (by kernel_rfl) ?_
  repeat' ((conv => whnf); first | refine Rng.g ?_ | refine Ob.g ?_ | refine Ob.e ?_ | refine Ob.m ?_ | refine Ob.mk (Nat.le_of_ble_eq_true rfl) ?_ | refine JoinVC.on ?_ | refine Nils.mk (fun h => ?_) ?_ | refine Val.t ?_ | refine Val.d ?_ | refine Mm.mk ?_ | (refine Br.mk (fun h => ?_) (fun h => ?_) <;> first | (exfalso; omega; done) | (exfalso; simp at h; done) | skip))
  refine ifB.mk (by rcases eight hk with rfl | rfl | rfl | rfl | rfl | rfl | rfl | rfl <;> rfl) ?_
  refine setL_mk _ (set_b _ _ _ _ _ _ _ _ _ M _ m n hk hR.len) ?_
  repeat' ((conv => whnf); first | refine Rng.g ?_ | refine Ob.g ?_ | refine Ob.e ?_ | refine Ob.m ?_ | refine Ob.mk (Nat.le_of_ble_eq_true rfl) ?_ | refine JoinVC.on ?_ | refine Nils.mk (fun h => ?_) ?_ | refine Val.t ?_ | refine Val.d ?_ | refine Mm.mk ?_ | (refine Br.mk (fun h => ?_) (fun h => ?_) <;> first | (exfalso; omega; done) | (exfalso; simp at h; done) | skip))
  repeat refine Mm.mk ?_
  refine EndVC.mk _ rfl _ _ ⟨rfl, rfl⟩ ?_
  refine ⟨[some 0], rfl, rfl, ?_, ?_⟩ <;> repeat' (first | exact trivial | exact rfl | exact Iff.rfl | apply And.intro)
end Go.Sx

namespace Go.Sx
open Go Go.Proofs
set_option maxRecDepth 10000
set_option maxHeartbeats 4000000
/-- The next correction. -/
def corF (c : Crv) (hi ho : List Int) : Int := (wsum c.f hi c.f.length + wsum c.b ho c.b.length) / c.sh
theorem corF_bd {c : Crv} (hc : CrvOK c) {hi ho : List Int} (h1 : small hi) (h2 : small ho) : -6553600000 ≤ corF c hi ho ∧ corF c hi ho ≤ 6553600000 := by
  have a1 := wsum_bd hc.f.2 h1 c.f.length
  have a2 := wsum_bd hc.b.2 h2 c.b.length
  have f1 := hc.f.1; have f2 := hc.b.1; have f3 := hc.sh
  have hs : -6553600000 ≤ wsum c.f hi c.f.length + wsum c.b ho c.b.length ∧ wsum c.f hi c.f.length + wsum c.b ho c.b.length ≤ 6553600000 := by omega
  unfold corF
  generalize wsum c.f hi c.f.length + wsum c.b ho c.b.length = s at hs
  constructor
  · have h3 : -6553600000 * c.sh ≤ s := by
      have : (6553600000 : Int) * 1 ≤ 6553600000 * c.sh := Int.mul_le_mul_of_nonneg_left (by omega) (by decide)
      have e : (-6553600000 : Int) * c.sh = -(6553600000 * c.sh) := by rw [Int.neg_mul]
      omega
    exact (Int.le_ediv_iff_mul_le (by omega)).2 h3
  · have h3 : s ≤ 6553600000 * c.sh := by
      have : (6553600000 : Int) * 1 ≤ 6553600000 * c.sh := Int.mul_le_mul_of_nonneg_left (by omega) (by decide)
      omega
    have := Int.ediv_le_ediv (by omega : 0 < c.sh) h3
    rwa [Int.mul_ediv_cancel _ (by omega)] at this
@[reducible] def KSt : List CK := [.int .i64, .int .i64, .int .i64, .int .i64, .int .i64, .int .i64, .int .i64, .int .i64, .int .i64, .int .i64, .int .i64, .int .i64, .int .i64, .int .i64, .int .i64, .int .i64, .int .i64, .int .i64, .sl [.int .i64], .sl [.int .i64], .int .i64]
@[reducible] def stR (L : List Int) (k : Int) (M : List Int) (m : Int) (c : Crv) : List Cell := [.int (L.getD 0 0), .int (L.getD 1 0), .int (L.getD 2 0), .int (L.getD 3 0), .int (L.getD 4 0), .int (L.getD 5 0), .int (L.getD 6 0), .int (L.getD 7 0), .int k, .int (M.getD 0 0), .int (M.getD 1 0), .int (M.getD 2 0), .int (M.getD 3 0), .int (M.getD 4 0), .int (M.getD 5 0), .int (M.getD 6 0), .int (M.getD 7 0), .int m, .sl (i64s c.f), .sl (i64s c.b), .int c.sh]
theorem kst_a {n : Int} (h : 0 ≤ n ∧ n < 8) : getL KSt (0 + 0 + n.toNat * (0 + 1)) = some (.int .i64) := by
  rcases eight h with rfl | rfl | rfl | rfl | rfl | rfl | rfl | rfl <;> rfl
theorem kst_b {n : Int} (h : 0 ≤ n ∧ n < 8) : getL KSt (9 + 0 + n.toNat * (0 + 1)) = some (.int .i64) := by
  rcases eight h with rfl | rfl | rfl | rfl | rfl | rfl | rfl | rfl <;> rfl
theorem str_a (L : List Int) (k : Int) (M : List Int) (m : Int) (c : Crv) {n : Int} (h : 0 ≤ n ∧ n < 8) : rI [stR L k M m c] 0 (0 + 0 + n.toNat * (0 + 1)) = L.getD n.toNat 0 := by
  rcases eight h with rfl | rfl | rfl | rfl | rfl | rfl | rfl | rfl <;> rfl
theorem str_b (L : List Int) (k : Int) (M : List Int) (m : Int) (c : Crv) {n : Int} (h : 0 ≤ n ∧ n < 8) : rI [stR L k M m c] 0 (9 + 0 + n.toNat * (0 + 1)) = M.getD n.toNat 0 := by
  rcases eight h with rfl | rfl | rfl | rfl | rfl | rfl | rfl | rfl <;> rfl
theorem l326a (L : List Int) (k : Int) (M : List Int) (m : Int) (c : Crv) (w hs : List Int) (hR : Ring L k hs) (hw : ∀ j, -4096 ≤ w.getD j 0 ∧ w.getD j 0 ≤ 4096) (hl : w.length ≤ 8) (hh : small hs) :
    PSpec Tryz.prog 326 [.one (.lel true KSt [stR L k M m c] 0 0), lL w] (.x (I (wsum w hs w.length))) := by
  have lw := i64s_len w
  have hk := hR.kb
  have e8 : rI [stR L k M m c] 0 (0 + (0 + 1 + 1 + 1 + 1 + 1 + 1 + 1 + 1)) = k := rfl
  refine spec_of pMix (O := []) Tryz.func326 (c := bodyOf Tryz.f326) rfl (by kernel_rfl) (by kernel_rfl) Tryz.ntmps326 (res := [.tmp 4]) (by kernel_rfl) ?_
  repeat' ((conv => whnf); first | refine Rng.g ?_ | refine Ob.g ?_ | refine Ob.e ?_ | refine Ob.m ?_ | refine Ob.mk (Nat.le_of_ble_eq_true rfl) ?_ | refine JoinVC.on ?_ | refine Nils.mk (fun h => ?_) ?_ | refine Val.t ?_ | refine Val.d ?_ | refine Mm.mk ?_ | (refine Br.mk (fun h => ?_) (fun h => ?_) <;> first | (exfalso; omega; done) | (exfalso; simp at h; done) | skip))
  refine LoopVC.mk (fun n st => ∃ (i : Nat), i ≤ w.length ∧ n = w.length - i ∧ st = ⟨0, envA 35 [(0, .x (.one (.lel true KSt [stR L k M m c] 0 0))), (1, .x (lL w)), (5, .int .i64 (wsum w hs i)), (8, .x (lL w)), (9, .int .i64 (w.length : Int)), (10, .int .i64 (i : Int))], []⟩) _ _ ⟨0, Nat.zero_le _, rfl, rfl⟩ ?_ ?_
  · refine ⟨[], rfl, rfl, ?_, ?_⟩ <;> repeat' (first | exact trivial | exact rfl | exact Iff.rfl | apply And.intro)
    exact congrArg Int.ofNat lw
  rintro n _ ⟨i, hi, hn, rfl⟩
  have gw : rI (i64s w) (i : Int).toNat 0 = w.getD i 0 := by rw [Int.toNat_natCast, i64s_get]
  have hb := wsum_bd hw hh i
  have hp := wprod_bd hw hh i
  by_cases hi' : i < w.length
  · have hr := hR.at' i (by omega)
    rw [Int.toNat_natCast] at hr
    have hx := str_a L k M m c (n := (k + 8 - 1 - (i : Int)) % 8) (by omega)
    rw [hr] at hx
    repeat' ((conv => whnf); first | rw [e8] | refine Rng.g ?_ | refine Ob.g ?_ | refine Ob.e ?_ | refine Ob.m ?_ | refine Ob.mk (Nat.le_of_ble_eq_true rfl) ?_ | refine JoinVC.on ?_ | refine Nils.mk (fun h => ?_) ?_ | refine Val.t ?_ | refine Val.d ?_ | refine Mm.mk ?_ | (refine Br.mk (fun h => ?_) (fun h => ?_) <;> first | (exfalso; omega; done) | (exfalso; simp at h; done) | skip))
    refine optP.mk _ (kst_a (n := (k + 8 - 1 - (i : Int)) % 8) (by omega)) ?_
    repeat' ((conv => whnf); first | rw [hx] | rw [gw] | refine Rng.g ?_ | refine Ob.g ?_ | refine Ob.e ?_ | refine Ob.m ?_ | refine Ob.mk (Nat.le_of_ble_eq_true rfl) ?_ | refine JoinVC.on ?_ | refine Nils.mk (fun h => ?_) ?_ | refine Val.t ?_ | refine Val.d ?_ | refine Mm.mk ?_ | (refine Br.mk (fun h => ?_) (fun h => ?_) <;> first | (exfalso; omega; done) | (exfalso; simp at h; done) | skip))
    refine Back.mk (w.length - (i + 1)) _ (by omega) ⟨i + 1, by omega, rfl, rfl⟩ ?_
    refine ⟨[], rfl, rfl, ?_, ?_⟩ <;> repeat' (first | exact trivial | exact rfl | exact Iff.rfl | apply And.intro)
  · have e : i = w.length := by omega
    subst e
    repeat' ((conv => whnf); first | refine Rng.g ?_ | refine Ob.g ?_ | refine Ob.e ?_ | refine Ob.m ?_ | refine Ob.mk (Nat.le_of_ble_eq_true rfl) ?_ | refine JoinVC.on ?_ | refine Nils.mk (fun h => ?_) ?_ | refine Val.t ?_ | refine Val.d ?_ | refine Mm.mk ?_ | (refine Br.mk (fun h => ?_) (fun h => ?_) <;> first | (exfalso; omega; done) | (exfalso; simp at h; done) | skip))
    repeat refine Mm.mk ?_
    refine EndVC.mk _ rfl _ _ ⟨rfl, rfl⟩ ?_
    refine ⟨[], rfl, rfl, ?_, ?_⟩ <;> repeat' (first | exact trivial | exact rfl | exact Iff.rfl | apply And.intro)
theorem l326b (L : List Int) (k : Int) (M : List Int) (m : Int) (c : Crv) (w hs : List Int) (hR : Ring M m hs) (hw : ∀ j, -4096 ≤ w.getD j 0 ∧ w.getD j 0 ≤ 4096) (hl : w.length ≤ 8) (hh : small hs) :
    PSpec Tryz.prog 326 [.one (.lel true KSt [stR L k M m c] 0 9), lL w] (.x (I (wsum w hs w.length))) := by
  have lw := i64s_len w
  have hk := hR.kb
  have e8 : rI [stR L k M m c] 0 (9 + (0 + 1 + 1 + 1 + 1 + 1 + 1 + 1 + 1)) = m := rfl
  refine spec_of pMix (O := []) Tryz.func326 (c := bodyOf Tryz.f326) rfl (by kernel_rfl) (by kernel_rfl) Tryz.ntmps326 (res := [.tmp 4]) (by kernel_rfl) ?_
  repeat' ((conv => whnf); first | refine Rng.g ?_ | refine Ob.g ?_ | refine Ob.e ?_ | refine Ob.m ?_ | refine Ob.mk (Nat.le_of_ble_eq_true rfl) ?_ | refine JoinVC.on ?_ | refine Nils.mk (fun h => ?_) ?_ | refine Val.t ?_ | refine Val.d ?_ | refine Mm.mk ?_ | (refine Br.mk (fun h => ?_) (fun h => ?_) <;> first | (exfalso; omega; done) | (exfalso; simp at h; done) | skip))
  refine LoopVC.mk (fun n st => ∃ (i : Nat), i ≤ w.length ∧ n = w.length - i ∧ st = ⟨0, envA 35 [(0, .x (.one (.lel true KSt [stR L k M m c] 0 9))), (1, .x (lL w)), (5, .int .i64 (wsum w hs i)), (8, .x (lL w)), (9, .int .i64 (w.length : Int)), (10, .int .i64 (i : Int))], []⟩) _ _ ⟨0, Nat.zero_le _, rfl, rfl⟩ ?_ ?_
  · refine ⟨[], rfl, rfl, ?_, ?_⟩ <;> repeat' (first | exact trivial | exact rfl | exact Iff.rfl | apply And.intro)
    exact congrArg Int.ofNat lw
  rintro n _ ⟨i, hi, hn, rfl⟩
  have gw : rI (i64s w) (i : Int).toNat 0 = w.getD i 0 := by rw [Int.toNat_natCast, i64s_get]
  have hb := wsum_bd hw hh i
  have hp := wprod_bd hw hh i
  by_cases hi' : i < w.length
  · have hr := hR.at' i (by omega)
    rw [Int.toNat_natCast] at hr
    have hx := str_b L k M m c (n := (m + 8 - 1 - (i : Int)) % 8) (by omega)
    rw [hr] at hx
    repeat' ((conv => whnf); first | rw [e8] | refine Rng.g ?_ | refine Ob.g ?_ | refine Ob.e ?_ | refine Ob.m ?_ | refine Ob.mk (Nat.le_of_ble_eq_true rfl) ?_ | refine JoinVC.on ?_ | refine Nils.mk (fun h => ?_) ?_ | refine Val.t ?_ | refine Val.d ?_ | refine Mm.mk ?_ | (refine Br.mk (fun h => ?_) (fun h => ?_) <;> first | (exfalso; omega; done) | (exfalso; simp at h; done) | skip))
    refine optP.mk _ (kst_b (n := (m + 8 - 1 - (i : Int)) % 8) (by omega)) ?_
    repeat' ((conv => whnf); first | rw [hx] | rw [gw] | refine Rng.g ?_ | refine Ob.g ?_ | refine Ob.e ?_ | refine Ob.m ?_ | refine Ob.mk (Nat.le_of_ble_eq_true rfl) ?_ | refine JoinVC.on ?_ | refine Nils.mk (fun h => ?_) ?_ | refine Val.t ?_ | refine Val.d ?_ | refine Mm.mk ?_ | (refine Br.mk (fun h => ?_) (fun h => ?_) <;> first | (exfalso; omega; done) | (exfalso; simp at h; done) | skip))
    refine Back.mk (w.length - (i + 1)) _ (by omega) ⟨i + 1, by omega, rfl, rfl⟩ ?_
    refine ⟨[], rfl, rfl, ?_, ?_⟩ <;> repeat' (first | exact trivial | exact rfl | exact Iff.rfl | apply And.intro)
  · have e : i = w.length := by omega
    subst e
    repeat' ((conv => whnf); first | refine Rng.g ?_ | refine Ob.g ?_ | refine Ob.e ?_ | refine Ob.m ?_ | refine Ob.mk (Nat.le_of_ble_eq_true rfl) ?_ | refine JoinVC.on ?_ | refine Nils.mk (fun h => ?_) ?_ | refine Val.t ?_ | refine Val.d ?_ | refine Mm.mk ?_ | (refine Br.mk (fun h => ?_) (fun h => ?_) <;> first | (exfalso; omega; done) | (exfalso; simp at h; done) | skip))
    repeat refine Mm.mk ?_
    refine EndVC.mk _ rfl _ _ ⟨rfl, rfl⟩ ?_
    refine ⟨[], rfl, rfl, ?_, ?_⟩ <;> repeat' (first | exact trivial | exact rfl | exact Iff.rfl | apply And.intro)
theorem s277 (L : List Int) (k : Int) (M : List Int) (m : Int) (c : Crv) (hi ho : List Int) (hc : CrvOK c) (hO : Ring L k ho) (hI : Ring M m hi) (h1 : small hi) (h2 : small ho) :
    HSpec Tryz.prog 277 [.one (.ptr 0 0)] [stB L k M m c] (fun r m' => r = .x (I (corF c hi ho)) ∧ m' = [some (stB L k M m c)]) := by
  have a1 := wsum_bd hc.f.2 h1 c.f.length
  have a2 := wsum_bd hc.b.2 h2 c.b.length
  have f1 := hc.f.1; have f2 := hc.b.1; have f3 := hc.sh
  refine spec_of pMix (O := [(1, ([], [⟨0, [], []⟩, ⟨1, [], []⟩, ⟨2, [], []⟩, ⟨3, [], []⟩, ⟨4, [], []⟩, ⟨5, [], []⟩, ⟨6, [], []⟩, ⟨7, [], []⟩, ⟨9, [], []⟩, ⟨10, [], []⟩, ⟨11, [], []⟩, ⟨12, [], []⟩, ⟨13, [], []⟩, ⟨14, [], []⟩, ⟨15, [], []⟩, ⟨16, [], []⟩, ⟨19, [], []⟩, ⟨20, [], []⟩, ⟨21, [], []⟩, ⟨22, [], []⟩, ⟨23, [], []⟩, ⟨8, [9, 10, 11, 12, 13, 14, 15, 16, 19, 20, 21, 22, 23], []⟩, ⟨17, [19, 20, 21, 22, 23], []⟩, ⟨18, [], []⟩, ⟨24, [], []⟩, ⟨25, [], []⟩]))]) Tryz.func277 (c := bodyOf Tryz.f277) rfl (by kernel_rfl) (by kernel_rfl) Tryz.ntmps277 (res := [.tmp 2]) (by kernel_rfl) ?_
  repeat' ((conv => whnf); first | refine Rng.g ?_ | refine Ob.g ?_ | refine Ob.e ?_ | refine Ob.m ?_ | refine Ob.mk (Nat.le_of_ble_eq_true rfl) ?_ | refine JoinVC.on ?_ | refine Nils.mk (fun h => ?_) ?_ | refine Val.t ?_ | refine Val.d ?_ | refine Mm.mk ?_ | refine CallVC.pure rfl (l326b L k M m c c.f hi hI hc.f.2 hc.f.1 h1) ?_ | refine CallVC.pure rfl (l326a L k M m c c.b ho hO hc.b.2 hc.b.1 h2) ?_ | refine CallVC.pure rfl (s221 (wsum c.f hi c.f.length + wsum c.b ho c.b.length) c.sh (by omega) (by omega)) ?_ | refine CallVC0.pure rfl (l326b L k M m c c.f hi hI hc.f.2 hc.f.1 h1) ?_ | refine CallVC0.pure rfl (l326a L k M m c c.b ho hO hc.b.2 hc.b.1 h2) ?_ | refine CallVC0.pure rfl (s221 (wsum c.f hi c.f.length + wsum c.b ho c.b.length) c.sh (by omega) (by omega)) ?_ | (refine Br.mk (fun h => ?_) (fun h => ?_) <;> first | (exfalso; omega; done) | (exfalso; simp at h; done) | skip))
  repeat refine Mm.mk ?_
  refine EndVC.mk _ rfl _ _ ⟨rfl, rfl⟩ ?_
  refine ⟨[some 0], rfl, rfl, ?_, ?_⟩ <;> repeat' (first | exact trivial | exact rfl | exact Iff.rfl | apply And.intro)
/-- A step of a curve: what the closure keeps. -/
@[reducible] def stM (u : SV) (L : List Int) (k : Int) (M : List Int) (m : Int) (c : Crv) : List Blk := [.box 4 [u], .box 426 [.ptr 2 0], stB L k M m c]
theorem s276f (L : List Int) (k : Int) (M : List Int) (m : Int) (c : Crv) (hi ho : List Int) (n : Int) (hc : CrvOK c) (hO : Ring L k ho) (hI : Ring M m hi) (h1 : small hi) (h2 : small ho) (hn : -100000 ≤ n ∧ n ≤ 100000) :
    HSpec Tryz.prog 276 [I n, .one (.ptr 0 0), .one (.ptr 1 0)] (stM (.bool false) L k M m c) (fun r m' => ∃ L' k' M' m2, Ring L' k' ((n + corF c hi ho) :: ho) ∧ Ring M' m2 (n :: hi) ∧ r = .x (I (n + corF c hi ho)) ∧ m' = [some (.box 4 [.bool false]), some (.box 426 [.ptr 2 0]), some (stB L' k' M' m2 c)]) := by
  have hb := corF_bd hc h1 h2
  refine spec_of pMix (O := []) Tryz.func276 (c := bodyOf Tryz.f276) rfl (by kernel_rfl) (by kernel_rfl) Tryz.ntmps276 (res := [.tmp 4]) (by kernel_rfl) ?_
  repeat' ((conv => whnf); first | refine Rng.g ?_ | refine Ob.g ?_ | refine Ob.e ?_ | refine Ob.m ?_ | refine Ob.mk (Nat.le_of_ble_eq_true rfl) ?_ | refine JoinVC.on ?_ | refine Nils.mk (fun h => ?_) ?_ | refine Val.t ?_ | refine Val.d ?_ | refine Mm.mk ?_ | (refine Br.mk (fun h => ?_) (fun h => ?_) <;> first | (exfalso; omega; done) | (exfalso; simp at h; done) | skip))
  conv => whnf
  refine CallVC.mk [2] _ _ _ rfl rfl rfl (s277 L k M m c hi ho hc hO hI h1 h2) (fun r m' h' => ?_)
  obtain ⟨rfl, rfl⟩ := h'
  conv => whnf
  repeat' ((conv => whnf); first | refine Rng.g ?_ | refine Ob.g ?_ | refine Ob.e ?_ | refine Ob.m ?_ | refine Ob.mk (Nat.le_of_ble_eq_true rfl) ?_ | refine JoinVC.on ?_ | refine Nils.mk (fun h => ?_) ?_ | refine Val.t ?_ | refine Val.d ?_ | refine Mm.mk ?_ | (refine Br.mk (fun h => ?_) (fun h => ?_) <;> first | (exfalso; omega; done) | (exfalso; simp at h; done) | skip))
  conv => whnf
  refine CallVC.mk [2] _ _ _ rfl rfl rfl (s278b L k M m c n hi hI) (fun r m' h' => ?_)
  obtain ⟨rfl, rfl⟩ := h'
  conv => whnf
  repeat' ((conv => whnf); first | refine Rng.g ?_ | refine Ob.g ?_ | refine Ob.e ?_ | refine Ob.m ?_ | refine Ob.mk (Nat.le_of_ble_eq_true rfl) ?_ | refine JoinVC.on ?_ | refine Nils.mk (fun h => ?_) ?_ | refine Val.t ?_ | refine Val.d ?_ | refine Mm.mk ?_ | (refine Br.mk (fun h => ?_) (fun h => ?_) <;> first | (exfalso; omega; done) | (exfalso; simp at h; done) | skip))
  conv => whnf
  refine CallVC.mk [2] _ _ _ rfl rfl rfl (s278a L k _ _ c (n + corF c hi ho) ho hO) (fun r m' h' => ?_)
  obtain ⟨rfl, rfl⟩ := h'
  conv => whnf
  repeat' ((conv => whnf); first | refine Rng.g ?_ | refine Ob.g ?_ | refine Ob.e ?_ | refine Ob.m ?_ | refine Ob.mk (Nat.le_of_ble_eq_true rfl) ?_ | refine JoinVC.on ?_ | refine Nils.mk (fun h => ?_) ?_ | refine Val.t ?_ | refine Val.d ?_ | refine Mm.mk ?_ | (refine Br.mk (fun h => ?_) (fun h => ?_) <;> first | (exfalso; omega; done) | (exfalso; simp at h; done) | skip))
  repeat refine Mm.mk ?_
  conv => whnf
  refine EndVC.mk _ rfl _ _ (⟨_, _, _, _, hO.put _, hI.put _, rfl, rfl⟩) ?_
  refine ⟨[some 0, some 1, some 2], rfl, rfl, ?_, ?_⟩ <;> repeat' (first | exact trivial | exact rfl | exact Iff.rfl | apply And.intro)
theorem s276t (L : List Int) (k : Int) (M : List Int) (m : Int) (c : Crv) (hi ho : List Int) (n : Int) (hc : CrvOK c) (hO : Ring L k ho) (hI : Ring M m hi) (h1 : small hi) (h2 : small ho) (hn : -100000 ≤ n ∧ n ≤ 100000) :
    HSpec Tryz.prog 276 [I n, .one (.ptr 0 0), .one (.ptr 1 0)] (stM (.bool true) L k M m c) (fun r m' => ∃ L' k' M' m2, Ring L' k' (n :: ho) ∧ Ring M' m2 ((n - corF c hi ho) :: hi) ∧ r = .x (I (n - corF c hi ho)) ∧ m' = [some (.box 4 [.bool true]), some (.box 426 [.ptr 2 0]), some (stB L' k' M' m2 c)]) := by
  have hb := corF_bd hc h1 h2
  refine spec_of pMix (O := []) Tryz.func276 (c := bodyOf Tryz.f276) rfl (by kernel_rfl) (by kernel_rfl) Tryz.ntmps276 (res := [.tmp 4]) (by kernel_rfl) ?_
  repeat' ((conv => whnf); first | refine Rng.g ?_ | refine Ob.g ?_ | refine Ob.e ?_ | refine Ob.m ?_ | refine Ob.mk (Nat.le_of_ble_eq_true rfl) ?_ | refine JoinVC.on ?_ | refine Nils.mk (fun h => ?_) ?_ | refine Val.t ?_ | refine Val.d ?_ | refine Mm.mk ?_ | (refine Br.mk (fun h => ?_) (fun h => ?_) <;> first | (exfalso; omega; done) | (exfalso; simp at h; done) | skip))
  conv => whnf
  refine CallVC.mk [2] _ _ _ rfl rfl rfl (s277 L k M m c hi ho hc hO hI h1 h2) (fun r m' h' => ?_)
  obtain ⟨rfl, rfl⟩ := h'
  conv => whnf
  repeat' ((conv => whnf); first | refine Rng.g ?_ | refine Ob.g ?_ | refine Ob.e ?_ | refine Ob.m ?_ | refine Ob.mk (Nat.le_of_ble_eq_true rfl) ?_ | refine JoinVC.on ?_ | refine Nils.mk (fun h => ?_) ?_ | refine Val.t ?_ | refine Val.d ?_ | refine Mm.mk ?_ | (refine Br.mk (fun h => ?_) (fun h => ?_) <;> first | (exfalso; omega; done) | (exfalso; simp at h; done) | skip))
  conv => whnf
  refine CallVC.mk [2] _ _ _ rfl rfl rfl (s278b L k M m c (n - corF c hi ho) hi hI) (fun r m' h' => ?_)
  obtain ⟨rfl, rfl⟩ := h'
  conv => whnf
  repeat' ((conv => whnf); first | refine Rng.g ?_ | refine Ob.g ?_ | refine Ob.e ?_ | refine Ob.m ?_ | refine Ob.mk (Nat.le_of_ble_eq_true rfl) ?_ | refine JoinVC.on ?_ | refine Nils.mk (fun h => ?_) ?_ | refine Val.t ?_ | refine Val.d ?_ | refine Mm.mk ?_ | (refine Br.mk (fun h => ?_) (fun h => ?_) <;> first | (exfalso; omega; done) | (exfalso; simp at h; done) | skip))
  conv => whnf
  refine CallVC.mk [2] _ _ _ rfl rfl rfl (s278a L k _ _ c n ho hO) (fun r m' h' => ?_)
  obtain ⟨rfl, rfl⟩ := h'
  conv => whnf
  repeat' ((conv => whnf); first | refine Rng.g ?_ | refine Ob.g ?_ | refine Ob.e ?_ | refine Ob.m ?_ | refine Ob.mk (Nat.le_of_ble_eq_true rfl) ?_ | refine JoinVC.on ?_ | refine Nils.mk (fun h => ?_) ?_ | refine Val.t ?_ | refine Val.d ?_ | refine Mm.mk ?_ | (refine Br.mk (fun h => ?_) (fun h => ?_) <;> first | (exfalso; omega; done) | (exfalso; simp at h; done) | skip))
  repeat refine Mm.mk ?_
  conv => whnf
  refine EndVC.mk _ rfl _ _ (⟨_, _, _, _, hO.put _, hI.put _, rfl, rfl⟩) ?_
  refine ⟨[some 0, some 1, some 2], rfl, rfl, ?_, ?_⟩ <;> repeat' (first | exact trivial | exact rfl | exact Iff.rfl | apply And.intro)
end Go.Sx

namespace Go.Sx
open Go Go.Proofs
set_option maxRecDepth 10000
set_option maxHeartbeats 4000000
theorem e279 : EntersF Tryz.prog 279 := enters_of Tryz.func279 (c := bodyOf Tryz.f279) (by kernel_rfl) rfl
theorem e204 : EntersF Tryz.prog 204 := enters_of Tryz.func204 (c := bodyOf Tryz.f204) (by kernel_rfl) rfl
theorem e203 : EntersF Tryz.prog 203 := enters_of Tryz.func203 (c := bodyOf Tryz.f203) (by kernel_rfl) rfl
theorem e202 : EntersF Tryz.prog 202 := enters_of Tryz.func202 (c := bodyOf Tryz.f202) (by kernel_rfl) rfl
@[reducible] def bv : Bool → SV
  | true => .tt
  | false => .ff
/-- What a step makes of a number. -/
def stepF (u : Bool) (c : Crv) (hi ho : List Int) (n : Int) : Int := if u = true then n - corF c hi ho else n + corF c hi ho
theorem s276 (u : Bool) (L : List Int) (k : Int) (M : List Int) (m : Int) (c : Crv) (hi ho : List Int) (n : Int) (hc : CrvOK c) (hO : Ring L k ho) (hI : Ring M m hi) (h1 : small hi) (h2 : small ho) (hn : -100000 ≤ n ∧ n ≤ 100000) :
    HSpec Tryz.prog 276 [I n, .one (.ptr 0 0), .one (.ptr 1 0)] (stM (.bool u) L k M m c) (fun r m' => ∃ L' k' M' m2, Ring L' k' ((if u = true then n else stepF u c hi ho n) :: ho) ∧ Ring M' m2 ((if u = true then stepF u c hi ho n else n) :: hi) ∧ r = .x (I (stepF u c hi ho n)) ∧ m' = [some (.box 4 [.bool u]), some (.box 426 [.ptr 2 0]), some (stB L' k' M' m2 c)]) := by
  cases u with
  | false => exact s276f L k M m c hi ho n hc hO hI h1 h2 hn
  | true => exact s276t L k M m c hi ho n hc hO hI h1 h2 hn
theorem s279 (n most : Int) (hm : 0 ≤ most ∧ most ≤ 1000000) : HSpec Tryz.prog 279 [I n, .one (.ptr 0 0)] [bI most] (fun r m' => r = xP (¬ bey n most) ∧ m' = [some (bI most)]) := by
  refine spec_of pMix (O := []) Tryz.func279 (c := bodyOf Tryz.f279) rfl (by kernel_rfl) (by kernel_rfl) Tryz.ntmps279 (res := [.tmp 3]) (by kernel_rfl) ?_
  repeat' ((conv => whnf); first | refine Rng.g ?_ | refine Ob.g ?_ | refine Ob.e ?_ | refine Ob.m ?_ | refine Ob.mk (Nat.le_of_ble_eq_true rfl) ?_ | refine JoinVC.on ?_ | refine Nils.mk (fun h => ?_) ?_ | refine Val.t ?_ | refine Val.d ?_ | refine Mm.mk ?_ | refine CallVC.pure rfl (s280 n most hm) ?_ | refine CallVC0.pure rfl (s280 n most hm) ?_ | (refine Br.mk (fun h => ?_) (fun h => ?_) <;> first | (exfalso; omega; done) | (exfalso; simp at h; done) | skip))
  repeat refine Mm.mk ?_
  refine EndVC.mk _ rfl _ _ ⟨rfl, rfl⟩ ?_
  refine ⟨[some 0], rfl, rfl, ?_, ?_⟩ <;> repeat' (first | exact trivial | exact rfl | exact Iff.rfl | apply And.intro)
theorem s204 (most : Int) : HSpec Tryz.prog 204 [I most] [] (fun r m' => r = .x (.one (.fn 279 [(0, 0)])) ∧ m' = [some (bI most)]) := by
  refine spec_of pMix (O := []) Tryz.func204 (c := bodyOf Tryz.f204) rfl (by kernel_rfl) (by kernel_rfl) Tryz.ntmps204 (res := [.tmp 2]) (by kernel_rfl) ?_
  repeat' ((conv => whnf); first | refine Rng.g ?_ | refine Ob.g ?_ | refine Ob.e ?_ | refine Ob.m ?_ | refine Ob.mk (Nat.le_of_ble_eq_true rfl) ?_ | refine JoinVC.on ?_ | refine Nils.mk (fun h => ?_) ?_ | refine Val.t ?_ | refine Val.d ?_ | refine Mm.mk ?_ | (refine Br.mk (fun h => ?_) (fun h => ?_) <;> first | (exfalso; omega; done) | (exfalso; simp at h; done) | skip))
  repeat refine Mm.mk ?_
  refine EndVC.mk _ rfl _ _ ⟨rfl, rfl⟩ ?_
  refine ⟨[some 0], rfl, rfl, ?_, ?_⟩ <;> repeat' (first | exact trivial | exact rfl | exact Iff.rfl | apply And.intro)
theorem s203 (u : Bool) (c : Crv) : HSpec Tryz.prog 203 [c.x, .one (bv u)] [] (fun r m' => r = .x (.one (.fn 276 [(0, 0), (1, 0)])) ∧ m' = [some (.box 4 [.bool u]), some (.box 426 [.ptr 2 0]), some (stB [0, 0, 0, 0, 0, 0, 0, 0] 0 [0, 0, 0, 0, 0, 0, 0, 0] 0 c)]) := by
  cases u
  all_goals
    refine spec_of pMix (O := []) Tryz.func203 (c := bodyOf Tryz.f203) rfl (by kernel_rfl) (by kernel_rfl) Tryz.ntmps203 (res := [.tmp 4]) (by kernel_rfl) ?_
    repeat' ((conv => whnf); first | refine Rng.g ?_ | refine Ob.g ?_ | refine Ob.e ?_ | refine Ob.m ?_ | refine Ob.mk (Nat.le_of_ble_eq_true rfl) ?_ | refine JoinVC.on ?_ | refine Nils.mk (fun h => ?_) ?_ | refine Val.t ?_ | refine Val.d ?_ | refine Mm.mk ?_ | (refine Br.mk (fun h => ?_) (fun h => ?_) <;> first | (exfalso; omega; done) | (exfalso; simp at h; done) | skip))
    repeat refine Mm.mk ?_
    refine EndVC.mk _ rfl _ _ ⟨rfl, rfl⟩ ?_
    refine ⟨[some 1, some 3, some 2], rfl, rfl, ?_, ?_⟩ <;> repeat' (first | exact trivial | exact rfl | exact Iff.rfl | apply And.intro)
/-! ### What a curve makes of a signal -/
def hiF (u : Bool) (xs ys : List Int) (i : Nat) : List Int := if u = true then (ys.take i).reverse else (xs.take i).reverse
def hoF (u : Bool) (xs ys : List Int) (i : Nat) : List Int := if u = true then (xs.take i).reverse else (ys.take i).reverse
def nextY (u : Bool) (c : Crv) (xs ys : List Int) (i : Nat) : Int := stepF u c (hiF u xs ys i) (hoF u xs ys i) (xs.getD i 0)
structure Filt (u : Bool) (c : Crv) (most : Int) (xs ys : List Int) : Prop where
  len : ys.length ≤ xs.length
  each : ∀ j, j < ys.length → ys.getD j 0 = nextY u c xs ys j ∧ ¬ bey (ys.getD j 0) most
theorem take_app {α : Type} (l r : List α) (i : Nat) (h : i ≤ l.length) : (l ++ r).take i = l.take i := by
  rw [List.take_append_of_le_length h]
theorem nextY_app (u : Bool) (c : Crv) (xs ys r : List Int) (i : Nat) (h : i ≤ ys.length) : nextY u c xs (ys ++ r) i = nextY u c xs ys i := by
  unfold nextY hiF hoF
  rw [take_app _ _ _ h]
theorem getD_app_l {α : Type} (l r : List α) (d : α) (i : Nat) (h : i < l.length) : (l ++ r).getD i d = l.getD i d := by
  rw [List.getD_eq_getElem?_getD, List.getD_eq_getElem?_getD, List.getElem?_append_left h]
theorem getD_app_e {α : Type} (l : List α) (x d : α) : (l ++ [x]).getD l.length d = x := by
  rw [List.getD_eq_getElem?_getD, List.getElem?_append_right (Nat.le_refl _)]; simp
theorem rev_snoc (xs : List Int) (i : Nat) (h : i < xs.length) : (xs.take (i + 1)).reverse = xs.getD i 0 :: (xs.take i).reverse := by
  rw [take_snoc xs i 0 h, List.reverse_append]; rfl
theorem rev_app (ys : List Int) (y : Int) : ((ys ++ [y]).take (ys.length + 1)).reverse = y :: (ys.take ys.length).reverse := by
  have e : (ys ++ [y]).take (ys.length + 1) = ys ++ [y] := List.take_of_length_le (by simp)
  rw [e, List.take_length, List.reverse_append]; rfl
theorem hoF_snoc (u : Bool) (xs ys : List Int) (y : Int) (h : ys.length < xs.length) : hoF u xs (ys ++ [y]) (ys.length + 1) = (if u = true then xs.getD ys.length 0 else y) :: hoF u xs ys ys.length := by
  unfold hoF
  cases u
  · exact rev_app ys y
  · exact rev_snoc xs _ h
theorem hiF_snoc (u : Bool) (xs ys : List Int) (y : Int) (h : ys.length < xs.length) : hiF u xs (ys ++ [y]) (ys.length + 1) = (if u = true then y else xs.getD ys.length 0) :: hiF u xs ys ys.length := by
  unfold hiF
  cases u
  · exact rev_snoc xs _ h
  · exact rev_app ys y
theorem Filt.snoc {u : Bool} {c : Crv} {most : Int} {xs ys : List Int} (h : Filt u c most xs ys) (hl : ys.length < xs.length) (hb : ¬ bey (nextY u c xs ys ys.length) most) : Filt u c most xs (ys ++ [nextY u c xs ys ys.length]) := by
  refine ⟨by simp; omega, fun j hj => ?_⟩
  rw [List.length_append, List.length_cons, List.length_nil] at hj
  rcases Nat.lt_succ_iff_lt_or_eq.1 hj with h' | rfl
  · rw [getD_app_l _ _ _ _ h', nextY_app _ _ _ _ _ _ (by omega)]
    exact h.each j h'
  · rw [getD_app_e, nextY_app _ _ _ _ _ _ (Nat.le_refl _)]
    exact ⟨rfl, hb⟩
theorem getD_bd {xs : List Int} {B : Int} (h : ∀ j, -B ≤ xs.getD j 0 ∧ xs.getD j 0 ≤ B) (i : Nat) : ∀ j, -B ≤ (xs.take i).reverse.getD j 0 ∧ (xs.take i).reverse.getD j 0 ≤ B := by
  intro j
  have h0 := h xs.length
  rw [List.getD_eq_getElem?_getD, List.getElem?_eq_none (Nat.le_refl _)] at h0
  simp only [Option.getD_none] at h0
  by_cases hj : j < (xs.take i).reverse.length
  · have hm : (xs.take i).reverse.getD j 0 ∈ xs := by
      have := getD_mem' (0 : Int) hj
      rw [List.mem_reverse] at this
      exact List.mem_of_mem_take this
    obtain ⟨q, hq, e⟩ := List.getElem_of_mem hm
    have := h q
    rw [List.getD_eq_getElem?_getD, List.getElem?_eq_getElem hq] at this
    simp only [Option.getD_some] at this
    rw [e] at this
    exact this
  · rw [List.getD_eq_getElem?_getD, List.getElem?_eq_none (by omega)]
    exact h0
def sigB (B : Int) (xs : List Int) : Prop := ∀ j, -B ≤ xs.getD j 0 ∧ xs.getD j 0 ≤ B
theorem Filt.sig {u : Bool} {c : Crv} {most : Int} {xs ys : List Int} (h : Filt u c most xs ys) (hm : 0 ≤ most) : sigB most ys := by
  intro j
  by_cases hj : j < ys.length
  · have := (h.each j hj).2
    unfold bey at this
    omega
  · rw [List.getD_eq_getElem?_getD, List.getElem?_eq_none (by omega)]
    simp only [Option.getD_none]
    omega
theorem Filt.small {u : Bool} {c : Crv} {most : Int} {xs ys : List Int} (h : Filt u c most xs ys) (hm : 0 ≤ most ∧ most ≤ 100000) (hx : sigB 100000 xs) (i : Nat) : small (hiF u xs ys i) ∧ small (hoF u xs ys i) := by
  have h1 : sigB 100000 ys := fun j => by have := h.sig hm.1 j; omega
  unfold hiF hoF
  cases u
  · exact ⟨getD_bd hx i, getD_bd h1 i⟩
  · exact ⟨getD_bd h1 i, getD_bd hx i⟩
end Go.Sx

namespace Go.Sx
open Go Go.Proofs
set_option maxRecDepth 10000
set_option maxHeartbeats 4000000
/-- What 'each' gives with a curve's steps. -/
def EachRs (u : Bool) (c : Crv) (most : Int) (xs : List Int) (r : AV) (m' : List (Option Blk)) : Prop :=
  (∃ ys, Filt u c most xs ys ∧ ys.length = xs.length ∧ r = .tup [.one (.own 4), I 0] ∧ m' = [none, none, none, none, some (rowL ys)]) ∨
  (∃ ys, Filt u c most xs ys ∧ ys.length < xs.length ∧ bey (nextY u c xs ys ys.length) most ∧ r = .tup [.one .nils, I 4] ∧ m' = [none, none, none, none])
theorem s202 (u : Bool) (c : Crv) (most : Int) (xs : List Int) (hc : CrvOK c) (hm : 0 ≤ most ∧ most ≤ 100000) (hx : sigB 100000 xs) (hl : xs.length ≤ 4096) :
    HSpec Tryz.prog 202 [lL xs, .one (.fn 276 [(0, 0), (1, 0)]), .one (.fn 279 [(3, 0)])] [.box 4 [.bool u], .box 426 [.ptr 2 0], stB [0, 0, 0, 0, 0, 0, 0, 0] 0 [0, 0, 0, 0, 0, 0, 0, 0] 0 c, bI most] (EachRs u c most xs) := by
  have lx := i64s_len xs
  refine spec_of pMix (O := []) Tryz.func202 (c := bodyOf Tryz.f202) rfl (by kernel_rfl) (by kernel_rfl) Tryz.ntmps202 (res := [.tmp 6, .tmp 7]) (by kernel_rfl) ?_
  repeat' ((conv => whnf); first | refine Rng.g ?_ | refine Ob.g ?_ | refine Ob.e ?_ | refine Ob.m ?_ | refine Ob.mk (Nat.le_of_ble_eq_true rfl) ?_ | refine JoinVC.on ?_ | refine Nils.mk (fun h => ?_) ?_ | refine Val.t ?_ | refine Val.d ?_ | refine Mm.mk ?_ | (refine Br.mk (fun h => ?_) (fun h => ?_) <;> first | (exfalso; omega; done) | (exfalso; simp at h; done) | skip))
  repeat refine Mm.mk ?_
  refine Ob.mk (by simp only [eb2]; omega) ?_
  repeat' ((conv => whnf); first | refine Rng.g ?_ | refine Ob.g ?_ | refine Ob.e ?_ | refine Ob.m ?_ | refine Ob.mk (Nat.le_of_ble_eq_true rfl) ?_ | refine JoinVC.on ?_ | refine Nils.mk (fun h => ?_) ?_ | refine Val.t ?_ | refine Val.d ?_ | refine Mm.mk ?_ | (refine Br.mk (fun h => ?_) (fun h => ?_) <;> first | (exfalso; omega; done) | (exfalso; simp at h; done) | skip))
  refine LoopVC.mk (fun n st => ∃ (ys : List Int) (L : List Int) (k : Int) (M : List Int) (m : Int), Filt u c most xs ys ∧ n = xs.length - ys.length ∧ Ring L k (hoF u xs ys ys.length) ∧ Ring M m (hiF u xs ys ys.length) ∧ st = ⟨4, envA 34 [(1, .x (.one (.fn 276 [(0, 0), (1, 0)]))), (2, .x (.one (.fn 279 [(3, 0)]))), (8, .x (.one (.own 4))), (15, .x (lL xs)), (16, .int .i64 (xs.length : Int)), (17, .int .i64 (ys.length : Int))], [some (.box 4 [.bool u]), some (.box 426 [.ptr 2 0]), some (stB L k M m c), some (bI most), some (rowL ys)]⟩) _ _ ⟨[], _, _, _, _, ⟨Nat.zero_le _, fun j hj => absurd hj (Nat.not_lt_zero j)⟩, rfl, by cases u <;> exact Ring.start, by cases u <;> exact Ring.start, rfl⟩ ?_ ?_
  · refine ⟨[some 0, some 1, some 2, some 3, some 4], rfl, rfl, ?_, ?_⟩ <;> repeat' (first | exact trivial | exact rfl | exact Iff.rfl | apply And.intro)
    exact congrArg Int.ofNat lx
  rintro n _ ⟨ys, L, k, M, m, hF, hn, hO, hI, rfl⟩
  have hfl := hF.len
  have gx : rI (i64s xs) (ys.length : Int).toNat 0 = xs.getD ys.length 0 := by rw [Int.toNat_natCast, i64s_get]
  have hs := hF.small hm hx ys.length
  have hxi := hx ys.length
  by_cases hi' : ys.length < xs.length
  · have hst : stepF u c (hiF u xs ys ys.length) (hoF u xs ys ys.length) (xs.getD ys.length 0) = nextY u c xs ys ys.length := rfl
    repeat' ((conv => whnf); first | rw [gx] | refine Rng.g ?_ | refine Ob.g ?_ | refine Ob.e ?_ | refine Ob.m ?_ | refine Ob.mk (Nat.le_of_ble_eq_true rfl) ?_ | refine JoinVC.on ?_ | refine Nils.mk (fun h => ?_) ?_ | refine Val.t ?_ | refine Val.d ?_ | refine Mm.mk ?_ | (refine Br.mk (fun h => ?_) (fun h => ?_) <;> first | (exfalso; omega; done) | (exfalso; simp at h; done) | skip))
    conv => whnf
    conv => whnf
    refine CallVC.mk [0, 1, 2] _ _ _ rfl rfl rfl (s276 u L k M m c _ _ (xs.getD ys.length 0) hc hO hI hs.1 hs.2 hxi) (fun r m' h' => ?_)
    obtain ⟨L2, k2, M2, m2, hO2, hI2, rfl, rfl⟩ := h'
    conv => whnf
    rw [hst]
    repeat' ((conv => whnf); first | refine Rng.g ?_ | refine Ob.g ?_ | refine Ob.e ?_ | refine Ob.m ?_ | refine Ob.mk (Nat.le_of_ble_eq_true rfl) ?_ | refine JoinVC.on ?_ | refine Nils.mk (fun h => ?_) ?_ | refine Val.t ?_ | refine Val.d ?_ | refine Mm.mk ?_ | (refine Br.mk (fun h => ?_) (fun h => ?_) <;> first | (exfalso; omega; done) | (exfalso; simp at h; done) | skip))
    conv => whnf
    refine CallVC.mk [3] _ _ _ rfl rfl rfl (s279 (nextY u c xs ys ys.length) most (by omega)) (fun r m' h' => ?_)
    obtain ⟨rfl, rfl⟩ := h'
    conv => whnf
    repeat' ((conv => whnf); first | refine Rng.g ?_ | refine Ob.g ?_ | refine Ob.e ?_ | refine Ob.m ?_ | refine Ob.mk (Nat.le_of_ble_eq_true rfl) ?_ | refine JoinVC.on ?_ | refine Nils.mk (fun h => ?_) ?_ | refine Val.t ?_ | refine Val.d ?_ | refine Mm.mk ?_ | (refine Br.mk (fun h => ?_) (fun h => ?_) <;> first | (exfalso; omega; done) | (exfalso; simp at h; done) | skip))
    · repeat refine Mm.mk ?_
      conv => whnf
      refine EndVC.mk _ rfl _ _ (.inr ⟨ys, hF, hi', Classical.not_not.1 h, rfl, rfl⟩) ?_
      refine ⟨[none, none, none, none], rfl, rfl, ?_, ?_⟩ <;> repeat' (first | exact trivial | exact rfl | exact Iff.rfl | apply And.intro)
    · have hnb := Classical.not_not.1 h
      have ly : (i64s ys).length = ys.length := i64s_len ys
      repeat refine Mm.mk ?_
      refine Ob.mk (by simp only [ly, eb2, List.length_cons, List.length_nil]; omega) ?_
      repeat' ((conv => whnf); first | refine Rng.g ?_ | refine Ob.g ?_ | refine Ob.e ?_ | refine Ob.m ?_ | refine Ob.mk (Nat.le_of_ble_eq_true rfl) ?_ | refine JoinVC.on ?_ | refine Nils.mk (fun h => ?_) ?_ | refine Val.t ?_ | refine Val.d ?_ | refine Mm.mk ?_ | (refine Br.mk (fun h => ?_) (fun h => ?_) <;> first | (exfalso; omega; done) | (exfalso; simp at h; done) | skip))
      have hl1 : (ys ++ [nextY u c xs ys ys.length]).length = ys.length + 1 := by simp
      refine Back.mk (xs.length - (ys.length + 1)) _ (by omega) ⟨ys ++ [nextY u c xs ys ys.length], L2, k2, M2, m2, hF.snoc hi' hnb, by rw [hl1], by rw [hl1, hoF_snoc u xs ys _ hi']; exact hO2, by rw [hl1, hiF_snoc u xs ys _ hi']; exact hI2, rfl⟩ ?_
      refine ⟨[some 0, some 1, some 2, some 3, some 6], rfl, rfl, ?_, ?_⟩ <;> repeat' (first | exact trivial | exact rfl | exact Iff.rfl | apply And.intro)
      · rw [hl1]; rfl
      · exact (i64s_snoc ys _).symm
  · repeat' ((conv => whnf); first | refine Rng.g ?_ | refine Ob.g ?_ | refine Ob.e ?_ | refine Ob.m ?_ | refine Ob.mk (Nat.le_of_ble_eq_true rfl) ?_ | refine JoinVC.on ?_ | refine Nils.mk (fun h => ?_) ?_ | refine Val.t ?_ | refine Val.d ?_ | refine Mm.mk ?_ | (refine Br.mk (fun h => ?_) (fun h => ?_) <;> first | (exfalso; omega; done) | (exfalso; simp at h; done) | skip))
    repeat refine Mm.mk ?_
    conv => whnf
    refine EndVC.mk _ rfl _ _ (.inl ⟨ys, hF, by omega, rfl, rfl⟩) ?_
    refine ⟨[none, none, none, none, some 4], rfl, rfl, ?_, ?_⟩ <;> repeat' (first | exact trivial | exact rfl | exact Iff.rfl | apply And.intro)
end Go.Sx

namespace Go.Sx
open Go Go.Proofs
set_option maxRecDepth 10000
set_option maxHeartbeats 4000000
theorem e104 : EntersF Tryz.prog 104 := enters_of Tryz.func104 (c := bodyOf Tryz.f104) (by kernel_rfl) rfl
theorem e29 : EntersF Tryz.prog 29 := enters_of Tryz.func29 (c := bodyOf Tryz.f29) (by kernel_rfl) rfl
theorem e33 : EntersF Tryz.prog 33 := enters_of Tryz.func33 (c := bodyOf Tryz.f33) (by kernel_rfl) rfl
theorem e49 : EntersF Tryz.prog 49 := enters_of Tryz.func49 (c := bodyOf Tryz.f49) (by kernel_rfl) rfl
theorem e63 : EntersF Tryz.prog 63 := enters_of Tryz.func63 (c := bodyOf Tryz.f63) (by kernel_rfl) rfl
theorem e62 : EntersF Tryz.prog 62 := enters_of Tryz.func62 (c := bodyOf Tryz.f62) (by kernel_rfl) rfl
theorem e149 : EntersF Tryz.prog 149 := enters_of Tryz.func149 (c := bodyOf Tryz.f149) (by kernel_rfl) rfl
/-- What a chain makes of a signal. -/
def ChN (u : Bool) (f : Nat → Crv) (xs : List Int) : Nat → List Int → Prop
  | 0, ys => ys = xs
  | n + 1, ys => ∃ zs, ChN u f xs n zs ∧ Filt u (f n) 32767 zs ys ∧ ys.length = zs.length
theorem ChN.len {u : Bool} {f : Nat → Crv} {xs : List Int} : ∀ {n : Nat} {ys : List Int}, ChN u f xs n ys → ys.length = xs.length
  | 0, _, h => by rw [h]
  | _ + 1, _, ⟨_, h, _, e⟩ => by rw [e]; exact h.len
theorem ChN.sig {u : Bool} {f : Nat → Crv} {xs : List Int} (hx : sigB 32767 xs) : ∀ {n : Nat} {ys : List Int}, ChN u f xs n ys → sigB 32767 ys
  | 0, _, h => by rw [h]; exact hx
  | _ + 1, _, ⟨_, _, hf, _⟩ => hf.sig (by decide)
def atC (u : Bool) (l : List Crv) (i : Nat) : Crv := if u = true then l.getD (l.length - 1 - i) c0 else l.getD i c0
theorem sig1 {xs : List Int} (h : sigB 32767 xs) : sigB 100000 xs := fun j => by have := h j; omega
/-- A step of a chain that goes too far. -/
def FarN (u : Bool) (f : Nat → Crv) (xs : List Int) (n : Nat) : Prop := ∃ i zs ys, i < n ∧ ChN u f xs i zs ∧ Filt u (f i) 32767 zs ys ∧ ys.length < zs.length ∧ bey (nextY u (f i) zs ys ys.length) 32767
inductive ChRs' (u : Bool) (l : List Crv) (xs : List Int) (r : AV) (m' : List (Option Blk)) : Prop
  | bad (e : Int) (h : ¬ (ChOK l ∧ SigOK xs)) (he : e ≠ 0) (hr : r = .tup [.one .nils, I e]) (hm : m' = [])
  | far (hl : ChOK l) (hx : SigOK xs) (h : FarN u (atC u l) xs l.length) (hr : r = .tup [.one .nils, I 4]) (hm : m' = [])
  | ok (hl : ChOK l) (hx : SigOK xs) (ys : List Int) (h : ChN u (atC u l) xs l.length ys) (hr : r = .tup [.one (.own 0), I 0]) (hm : m' = [some (rowL ys)])
theorem s203e (l : List Crv) (u : Bool) (i : Nat) : HSpec Tryz.prog 203 [crvX l i, .one (bv u)] [] (fun r m' => r = .x (.one (.fn 276 [(0, 0), (1, 0)])) ∧ m' = [some (.box 4 [.bool u]), some (.box 426 [.ptr 2 0]), some (stB [0, 0, 0, 0, 0, 0, 0, 0] 0 [0, 0, 0, 0, 0, 0, 0, 0] 0 (l.getD i c0))]) := crvX_eq l i ▸ s203 u (l.getD i c0)
theorem s203r (l : List Crv) (u : Bool) (i : Nat) (hi : i < l.length) : HSpec Tryz.prog 203 [crvX l ((List.length (crvA l) : Int) - 1 - (i : Int)).toNat, .one (bv u)] [] (fun r m' => r = .x (.one (.fn 276 [(0, 0), (1, 0)])) ∧ m' = [some (.box 4 [.bool u]), some (.box 426 [.ptr 2 0]), some (stB [0, 0, 0, 0, 0, 0, 0, 0] 0 [0, 0, 0, 0, 0, 0, 0, 0] 0 (l.getD (l.length - 1 - i) c0))]) := by
  have e : ((List.length (crvA l) : Int) - 1 - (i : Int)).toNat = l.length - 1 - i := by rw [crvA_len]; omega
  rw [e]
  exact s203e l u _
theorem s104 (u : Bool) (l : List Crv) (xs : List Int) : HSpec Tryz.prog 104 [lC l, lL xs, .one (bv u)] [] (ChRs' u l xs) := by
  have ll := crvA_len l
  have lx := i64s_len xs
  have v1 := s147 l
  have v2 := s148 xs
  by_cases hC : ¬ ChOK l
  · cases u
    all_goals
      refine spec_of pMix (O := []) Tryz.func104 (c := bodyOf Tryz.f104) rfl (by kernel_rfl) (by kernel_rfl) Tryz.ntmps104 (res := [.tmp 6, .tmp 7]) (by kernel_rfl) ?_
      repeat' ((conv => whnf); first | refine Rng.g ?_ | refine Ob.g ?_ | refine Ob.e ?_ | refine Ob.m ?_ | refine Ob.mk (Nat.le_of_ble_eq_true rfl) ?_ | refine JoinVC.on ?_ | refine Nils.mk (fun h => ?_) ?_ | refine Val.t ?_ | refine Val.d ?_ | refine Mm.mk ?_ | (refine Br.mk (fun h => ?_) (fun h => ?_) <;> first | (exfalso; omega; done) | (exfalso; simp at h; done) | skip))
      conv => whnf
      refine CallVC.mk [] _ _ _ rfl rfl rfl (v1) (fun r m' h' => ?_)
      obtain ⟨e, rfl, rfl, he⟩ := h'
      conv => whnf
      have he0 : e ≠ 0 := fun h0 => hC (he.1 h0)
      repeat' ((conv => whnf); first | refine Rng.g ?_ | refine Ob.g ?_ | refine Ob.e ?_ | refine Ob.m ?_ | refine Ob.mk (Nat.le_of_ble_eq_true rfl) ?_ | refine JoinVC.on ?_ | refine Nils.mk (fun h => ?_) ?_ | refine Val.t ?_ | refine Val.d ?_ | refine Mm.mk ?_ | (refine Br.mk (fun h => ?_) (fun h => ?_) <;> first | (exfalso; omega; done) | (exfalso; simp at h; done) | skip))
      repeat refine Mm.mk ?_
      conv => whnf
      refine EndVC.mk _ rfl _ _ (.bad e (fun h => hC h.1) he0 rfl rfl) ?_
      refine ⟨[], rfl, rfl, ?_, ?_⟩ <;> repeat' (first | exact trivial | exact rfl | exact Iff.rfl | apply And.intro)
  replace hC := Classical.not_not.1 hC
  by_cases hX : ¬ SigOK xs
  · cases u
    all_goals
      refine spec_of pMix (O := []) Tryz.func104 (c := bodyOf Tryz.f104) rfl (by kernel_rfl) (by kernel_rfl) Tryz.ntmps104 (res := [.tmp 6, .tmp 7]) (by kernel_rfl) ?_
      repeat' ((conv => whnf); first | refine Rng.g ?_ | refine Ob.g ?_ | refine Ob.e ?_ | refine Ob.m ?_ | refine Ob.mk (Nat.le_of_ble_eq_true rfl) ?_ | refine JoinVC.on ?_ | refine Nils.mk (fun h => ?_) ?_ | refine Val.t ?_ | refine Val.d ?_ | refine Mm.mk ?_ | (refine Br.mk (fun h => ?_) (fun h => ?_) <;> first | (exfalso; omega; done) | (exfalso; simp at h; done) | skip))
      conv => whnf
      refine CallVC.mk [] _ _ _ rfl rfl rfl (v1) (fun r m' h' => ?_)
      obtain ⟨e, rfl, rfl, he⟩ := h'
      conv => whnf
      cases he.2 hC
      repeat' ((conv => whnf); first | refine Rng.g ?_ | refine Ob.g ?_ | refine Ob.e ?_ | refine Ob.m ?_ | refine Ob.mk (Nat.le_of_ble_eq_true rfl) ?_ | refine JoinVC.on ?_ | refine Nils.mk (fun h => ?_) ?_ | refine Val.t ?_ | refine Val.d ?_ | refine Mm.mk ?_ | (refine Br.mk (fun h => ?_) (fun h => ?_) <;> first | (exfalso; omega; done) | (exfalso; simp at h; done) | skip))
      conv => whnf
      refine CallVC.mk [] _ _ _ rfl rfl rfl (v2) (fun r m' h' => ?_)
      obtain ⟨e, rfl, rfl, he'⟩ := h'
      conv => whnf
      have he0 : e ≠ 0 := fun h0 => hX (he'.1 h0)
      repeat' ((conv => whnf); first | refine Rng.g ?_ | refine Ob.g ?_ | refine Ob.e ?_ | refine Ob.m ?_ | refine Ob.mk (Nat.le_of_ble_eq_true rfl) ?_ | refine JoinVC.on ?_ | refine Nils.mk (fun h => ?_) ?_ | refine Val.t ?_ | refine Val.d ?_ | refine Mm.mk ?_ | (refine Br.mk (fun h => ?_) (fun h => ?_) <;> first | (exfalso; omega; done) | (exfalso; simp at h; done) | skip))
      repeat refine Mm.mk ?_
      conv => whnf
      refine EndVC.mk _ rfl _ _ (.bad e (fun h => hX h.2) he0 rfl rfl) ?_
      refine ⟨[], rfl, rfl, ?_, ?_⟩ <;> repeat' (first | exact trivial | exact rfl | exact Iff.rfl | apply And.intro)
  replace hX := Classical.not_not.1 hX
  have hxl := hX.len
  have hll := hC.len
  cases u
  · refine spec_of pMix (O := []) Tryz.func104 (c := bodyOf Tryz.f104) rfl (by kernel_rfl) (by kernel_rfl) Tryz.ntmps104 (res := [.tmp 6, .tmp 7]) (by kernel_rfl) ?_
    repeat' ((conv => whnf); first | refine Rng.g ?_ | refine Ob.g ?_ | refine Ob.e ?_ | refine Ob.m ?_ | refine Ob.mk (Nat.le_of_ble_eq_true rfl) ?_ | refine JoinVC.on ?_ | refine Nils.mk (fun h => ?_) ?_ | refine Val.t ?_ | refine Val.d ?_ | refine Mm.mk ?_ | (refine Br.mk (fun h => ?_) (fun h => ?_) <;> first | (exfalso; omega; done) | (exfalso; simp at h; done) | skip))
    conv => whnf
    refine CallVC.mk [] _ _ _ rfl rfl rfl (v1) (fun r m' h' => ?_)
    obtain ⟨e, rfl, rfl, he⟩ := h'
    conv => whnf
    cases he.2 hC
    repeat' ((conv => whnf); first | refine Rng.g ?_ | refine Ob.g ?_ | refine Ob.e ?_ | refine Ob.m ?_ | refine Ob.mk (Nat.le_of_ble_eq_true rfl) ?_ | refine JoinVC.on ?_ | refine Nils.mk (fun h => ?_) ?_ | refine Val.t ?_ | refine Val.d ?_ | refine Mm.mk ?_ | (refine Br.mk (fun h => ?_) (fun h => ?_) <;> first | (exfalso; omega; done) | (exfalso; simp at h; done) | skip))
    conv => whnf
    refine CallVC.mk [] _ _ _ rfl rfl rfl (v2) (fun r m' h' => ?_)
    obtain ⟨e, rfl, rfl, he'⟩ := h'
    conv => whnf
    cases he'.2 hX
    repeat' ((conv => whnf); first | refine Rng.g ?_ | refine Ob.g ?_ | refine Ob.e ?_ | refine Ob.m ?_ | refine Ob.mk (Nat.le_of_ble_eq_true rfl) ?_ | refine JoinVC.on ?_ | refine Nils.mk (fun h => ?_) ?_ | refine Val.t ?_ | refine Val.d ?_ | refine Mm.mk ?_ | (refine Br.mk (fun h => ?_) (fun h => ?_) <;> first | (exfalso; omega; done) | (exfalso; simp at h; done) | skip))
    conv => whnf
    refine CallVC.mk [] _ _ _ rfl rfl rfl (s201 xs (by omega)) (fun r m' h' => ?_)
    obtain ⟨rfl, rfl⟩ := h'
    conv => whnf
    repeat' ((conv => whnf); first | refine Rng.g ?_ | refine Ob.g ?_ | refine Ob.e ?_ | refine Ob.m ?_ | refine Ob.mk (Nat.le_of_ble_eq_true rfl) ?_ | refine JoinVC.on ?_ | refine Nils.mk (fun h => ?_) ?_ | refine Val.t ?_ | refine Val.d ?_ | refine Mm.mk ?_ | (refine Br.mk (fun h => ?_) (fun h => ?_) <;> first | (exfalso; omega; done) | (exfalso; simp at h; done) | skip))
    refine LoopVC.mk (fun n st => ∃ (i : Nat) (ys : List Int), i ≤ l.length ∧ n = l.length - i ∧ ChN false (atC false l) xs i ys ∧ st = ⟨0, envA 59 [(0, .x (lC l)), (1, .x (.one (.own 0))), (2, .x (.one .ff)), (27, .int .i64 (l.length : Int)), (28, .int .i64 (i : Int))], [some (rowL ys)]⟩) _ _ ⟨0, xs, Nat.zero_le _, rfl, rfl, rfl⟩ ?_ ?_
    · refine ⟨[some 0], rfl, rfl, ?_, ?_⟩ <;> repeat' (first | exact trivial | exact rfl | exact Iff.rfl | apply And.intro)
      exact congrArg Int.ofNat ll
    rintro n _ ⟨i, ys, hi, hn, hc, rfl⟩
    have hys := hc.len
    have hsg := hc.sig (xs := xs) hX.each
    by_cases hi' : i < l.length
    · repeat' ((conv => whnf); first | refine Rng.g ?_ | refine Ob.g ?_ | refine Ob.e ?_ | refine Ob.m ?_ | refine Ob.mk (Nat.le_of_ble_eq_true rfl) ?_ | refine JoinVC.on ?_ | refine Nils.mk (fun h => ?_) ?_ | refine Val.t ?_ | refine Val.d ?_ | refine Mm.mk ?_ | (refine Br.mk (fun h => ?_) (fun h => ?_) <;> first | (exfalso; omega; done) | (exfalso; simp at h; done) | skip))
      conv => whnf
      refine CallVC.mk [] _ _ _ rfl rfl rfl (s203e l false i) (fun r m' h' => ?_)
      obtain ⟨rfl, rfl⟩ := h'
      conv => whnf
      repeat' ((conv => whnf); first | refine Rng.g ?_ | refine Ob.g ?_ | refine Ob.e ?_ | refine Ob.m ?_ | refine Ob.mk (Nat.le_of_ble_eq_true rfl) ?_ | refine JoinVC.on ?_ | refine Nils.mk (fun h => ?_) ?_ | refine Val.t ?_ | refine Val.d ?_ | refine Mm.mk ?_ | (refine Br.mk (fun h => ?_) (fun h => ?_) <;> first | (exfalso; omega; done) | (exfalso; simp at h; done) | skip))
      conv => whnf
      refine CallVC.mk [] _ _ _ rfl rfl rfl (s204 32767) (fun r m' h' => ?_)
      obtain ⟨rfl, rfl⟩ := h'
      conv => whnf
      repeat' ((conv => whnf); first | refine Rng.g ?_ | refine Ob.g ?_ | refine Ob.e ?_ | refine Ob.m ?_ | refine Ob.mk (Nat.le_of_ble_eq_true rfl) ?_ | refine JoinVC.on ?_ | refine Nils.mk (fun h => ?_) ?_ | refine Val.t ?_ | refine Val.d ?_ | refine Mm.mk ?_ | (refine Br.mk (fun h => ?_) (fun h => ?_) <;> first | (exfalso; omega; done) | (exfalso; simp at h; done) | skip))
      conv => whnf
      refine CallVC.mk [2, 3, 4, 5] _ _ _ rfl rfl rfl (s202 false (l.getD i c0) 32767 ys (hC.each i hi') (by decide) (sig1 hsg) (by omega)) (fun r m' h' => ?_)
      rcases h' with ⟨zs, hF, hzl, rfl, rfl⟩ | ⟨zs, hF, hzl, hzb, rfl, rfl⟩
      · repeat' ((conv => whnf); first | refine Rng.g ?_ | refine Ob.g ?_ | refine Ob.e ?_ | refine Ob.m ?_ | refine Ob.mk (Nat.le_of_ble_eq_true rfl) ?_ | refine JoinVC.on ?_ | refine Nils.mk (fun h => ?_) ?_ | refine Val.t ?_ | refine Val.d ?_ | refine Mm.mk ?_ | (refine Br.mk (fun h => ?_) (fun h => ?_) <;> first | (exfalso; omega; done) | (exfalso; simp at h; done) | skip))
        refine Back.mk (l.length - (i + 1)) _ (by omega) ⟨i + 1, zs, by omega, rfl, ⟨ys, hc, hF, hzl⟩, rfl⟩ ?_
        refine ⟨[some 6], rfl, rfl, ?_, ?_⟩ <;> repeat' (first | exact trivial | exact rfl | exact Iff.rfl | apply And.intro)
      · repeat' ((conv => whnf); first | refine Rng.g ?_ | refine Ob.g ?_ | refine Ob.e ?_ | refine Ob.m ?_ | refine Ob.mk (Nat.le_of_ble_eq_true rfl) ?_ | refine JoinVC.on ?_ | refine Nils.mk (fun h => ?_) ?_ | refine Val.t ?_ | refine Val.d ?_ | refine Mm.mk ?_ | (refine Br.mk (fun h => ?_) (fun h => ?_) <;> first | (exfalso; omega; done) | (exfalso; simp at h; done) | skip))
        repeat refine Mm.mk ?_
        conv => whnf
        refine EndVC.mk _ rfl _ _ (.far hC hX ⟨i, ys, zs, hi', hc, hF, hzl, hzb⟩ rfl rfl) ?_
        refine ⟨[], rfl, rfl, ?_, ?_⟩ <;> repeat' (first | exact trivial | exact rfl | exact Iff.rfl | apply And.intro)
    · repeat' ((conv => whnf); first | refine Rng.g ?_ | refine Ob.g ?_ | refine Ob.e ?_ | refine Ob.m ?_ | refine Ob.mk (Nat.le_of_ble_eq_true rfl) ?_ | refine JoinVC.on ?_ | refine Nils.mk (fun h => ?_) ?_ | refine Val.t ?_ | refine Val.d ?_ | refine Mm.mk ?_ | (refine Br.mk (fun h => ?_) (fun h => ?_) <;> first | (exfalso; omega; done) | (exfalso; simp at h; done) | skip))
      repeat refine Mm.mk ?_
      conv => whnf
      refine EndVC.mk _ rfl _ _ (.ok hC hX ys (by rw [← (show i = l.length by omega)]; exact hc) rfl rfl) ?_
      refine ⟨[some 0], rfl, rfl, ?_, ?_⟩ <;> repeat' (first | exact trivial | exact rfl | exact Iff.rfl | apply And.intro)
  · refine spec_of pMix (O := []) Tryz.func104 (c := bodyOf Tryz.f104) rfl (by kernel_rfl) (by kernel_rfl) Tryz.ntmps104 (res := [.tmp 6, .tmp 7]) (by kernel_rfl) ?_
    repeat' ((conv => whnf); first | refine Rng.g ?_ | refine Ob.g ?_ | refine Ob.e ?_ | refine Ob.m ?_ | refine Ob.mk (Nat.le_of_ble_eq_true rfl) ?_ | refine JoinVC.on ?_ | refine Nils.mk (fun h => ?_) ?_ | refine Val.t ?_ | refine Val.d ?_ | refine Mm.mk ?_ | (refine Br.mk (fun h => ?_) (fun h => ?_) <;> first | (exfalso; omega; done) | (exfalso; simp at h; done) | skip))
    conv => whnf
    refine CallVC.mk [] _ _ _ rfl rfl rfl (v1) (fun r m' h' => ?_)
    obtain ⟨e, rfl, rfl, he⟩ := h'
    conv => whnf
    cases he.2 hC
    repeat' ((conv => whnf); first | refine Rng.g ?_ | refine Ob.g ?_ | refine Ob.e ?_ | refine Ob.m ?_ | refine Ob.mk (Nat.le_of_ble_eq_true rfl) ?_ | refine JoinVC.on ?_ | refine Nils.mk (fun h => ?_) ?_ | refine Val.t ?_ | refine Val.d ?_ | refine Mm.mk ?_ | (refine Br.mk (fun h => ?_) (fun h => ?_) <;> first | (exfalso; omega; done) | (exfalso; simp at h; done) | skip))
    conv => whnf
    refine CallVC.mk [] _ _ _ rfl rfl rfl (v2) (fun r m' h' => ?_)
    obtain ⟨e, rfl, rfl, he'⟩ := h'
    conv => whnf
    cases he'.2 hX
    repeat' ((conv => whnf); first | refine Rng.g ?_ | refine Ob.g ?_ | refine Ob.e ?_ | refine Ob.m ?_ | refine Ob.mk (Nat.le_of_ble_eq_true rfl) ?_ | refine JoinVC.on ?_ | refine Nils.mk (fun h => ?_) ?_ | refine Val.t ?_ | refine Val.d ?_ | refine Mm.mk ?_ | (refine Br.mk (fun h => ?_) (fun h => ?_) <;> first | (exfalso; omega; done) | (exfalso; simp at h; done) | skip))
    conv => whnf
    refine CallVC.mk [] _ _ _ rfl rfl rfl (s201 xs (by omega)) (fun r m' h' => ?_)
    obtain ⟨rfl, rfl⟩ := h'
    conv => whnf
    repeat' ((conv => whnf); first | refine Rng.g ?_ | refine Ob.g ?_ | refine Ob.e ?_ | refine Ob.m ?_ | refine Ob.mk (Nat.le_of_ble_eq_true rfl) ?_ | refine JoinVC.on ?_ | refine Nils.mk (fun h => ?_) ?_ | refine Val.t ?_ | refine Val.d ?_ | refine Mm.mk ?_ | (refine Br.mk (fun h => ?_) (fun h => ?_) <;> first | (exfalso; omega; done) | (exfalso; simp at h; done) | skip))
    refine LoopVC.mk (fun n st => ∃ (i : Nat) (ys : List Int), i ≤ l.length ∧ n = l.length - i ∧ ChN true (atC true l) xs i ys ∧ st = ⟨0, envA 59 [(0, .x (lC l)), (1, .x (.one (.own 0))), (2, .x (.one .tt)), (27, .int .i64 (l.length : Int)), (28, .int .i64 (i : Int))], [some (rowL ys)]⟩) _ _ ⟨0, xs, Nat.zero_le _, rfl, rfl, rfl⟩ ?_ ?_
    · refine ⟨[some 0], rfl, rfl, ?_, ?_⟩ <;> repeat' (first | exact trivial | exact rfl | exact Iff.rfl | apply And.intro)
      exact congrArg Int.ofNat ll
    rintro n _ ⟨i, ys, hi, hn, hc, rfl⟩
    have hys := hc.len
    have hsg := hc.sig (xs := xs) hX.each
    by_cases hi' : i < l.length
    · repeat' ((conv => whnf); first | refine Rng.g ?_ | refine Ob.g ?_ | refine Ob.e ?_ | refine Ob.m ?_ | refine Ob.mk (Nat.le_of_ble_eq_true rfl) ?_ | refine JoinVC.on ?_ | refine Nils.mk (fun h => ?_) ?_ | refine Val.t ?_ | refine Val.d ?_ | refine Mm.mk ?_ | (refine Br.mk (fun h => ?_) (fun h => ?_) <;> first | (exfalso; omega; done) | (exfalso; simp at h; done) | skip))
      conv => whnf
      refine CallVC.mk [] _ _ _ rfl rfl rfl (s203r l true i hi') (fun r m' h' => ?_)
      obtain ⟨rfl, rfl⟩ := h'
      conv => whnf
      repeat' ((conv => whnf); first | refine Rng.g ?_ | refine Ob.g ?_ | refine Ob.e ?_ | refine Ob.m ?_ | refine Ob.mk (Nat.le_of_ble_eq_true rfl) ?_ | refine JoinVC.on ?_ | refine Nils.mk (fun h => ?_) ?_ | refine Val.t ?_ | refine Val.d ?_ | refine Mm.mk ?_ | (refine Br.mk (fun h => ?_) (fun h => ?_) <;> first | (exfalso; omega; done) | (exfalso; simp at h; done) | skip))
      conv => whnf
      refine CallVC.mk [] _ _ _ rfl rfl rfl (s204 32767) (fun r m' h' => ?_)
      obtain ⟨rfl, rfl⟩ := h'
      conv => whnf
      repeat' ((conv => whnf); first | refine Rng.g ?_ | refine Ob.g ?_ | refine Ob.e ?_ | refine Ob.m ?_ | refine Ob.mk (Nat.le_of_ble_eq_true rfl) ?_ | refine JoinVC.on ?_ | refine Nils.mk (fun h => ?_) ?_ | refine Val.t ?_ | refine Val.d ?_ | refine Mm.mk ?_ | (refine Br.mk (fun h => ?_) (fun h => ?_) <;> first | (exfalso; omega; done) | (exfalso; simp at h; done) | skip))
      conv => whnf
      refine CallVC.mk [2, 3, 4, 5] _ _ _ rfl rfl rfl (s202 true (l.getD (l.length - 1 - i) c0) 32767 ys (hC.each _ (by omega)) (by decide) (sig1 hsg) (by omega)) (fun r m' h' => ?_)
      rcases h' with ⟨zs, hF, hzl, rfl, rfl⟩ | ⟨zs, hF, hzl, hzb, rfl, rfl⟩
      · repeat' ((conv => whnf); first | refine Rng.g ?_ | refine Ob.g ?_ | refine Ob.e ?_ | refine Ob.m ?_ | refine Ob.mk (Nat.le_of_ble_eq_true rfl) ?_ | refine JoinVC.on ?_ | refine Nils.mk (fun h => ?_) ?_ | refine Val.t ?_ | refine Val.d ?_ | refine Mm.mk ?_ | (refine Br.mk (fun h => ?_) (fun h => ?_) <;> first | (exfalso; omega; done) | (exfalso; simp at h; done) | skip))
        refine Back.mk (l.length - (i + 1)) _ (by omega) ⟨i + 1, zs, by omega, rfl, ⟨ys, hc, hF, hzl⟩, rfl⟩ ?_
        refine ⟨[some 6], rfl, rfl, ?_, ?_⟩ <;> repeat' (first | exact trivial | exact rfl | exact Iff.rfl | apply And.intro)
      · repeat' ((conv => whnf); first | refine Rng.g ?_ | refine Ob.g ?_ | refine Ob.e ?_ | refine Ob.m ?_ | refine Ob.mk (Nat.le_of_ble_eq_true rfl) ?_ | refine JoinVC.on ?_ | refine Nils.mk (fun h => ?_) ?_ | refine Val.t ?_ | refine Val.d ?_ | refine Mm.mk ?_ | (refine Br.mk (fun h => ?_) (fun h => ?_) <;> first | (exfalso; omega; done) | (exfalso; simp at h; done) | skip))
        repeat refine Mm.mk ?_
        conv => whnf
        refine EndVC.mk _ rfl _ _ (.far hC hX ⟨i, ys, zs, hi', hc, hF, hzl, hzb⟩ rfl rfl) ?_
        refine ⟨[], rfl, rfl, ?_, ?_⟩ <;> repeat' (first | exact trivial | exact rfl | exact Iff.rfl | apply And.intro)
    · repeat' ((conv => whnf); first | refine Rng.g ?_ | refine Ob.g ?_ | refine Ob.e ?_ | refine Ob.m ?_ | refine Ob.mk (Nat.le_of_ble_eq_true rfl) ?_ | refine JoinVC.on ?_ | refine Nils.mk (fun h => ?_) ?_ | refine Val.t ?_ | refine Val.d ?_ | refine Mm.mk ?_ | (refine Br.mk (fun h => ?_) (fun h => ?_) <;> first | (exfalso; omega; done) | (exfalso; simp at h; done) | skip))
      repeat refine Mm.mk ?_
      conv => whnf
      refine EndVC.mk _ rfl _ _ (.ok hC hX ys (by rw [← (show i = l.length by omega)]; exact hc) rfl rfl) ?_
      refine ⟨[some 0], rfl, rfl, ?_, ?_⟩ <;> repeat' (first | exact trivial | exact rfl | exact Iff.rfl | apply And.intro)
end Go.Sx

namespace Go.Sx
open Go Go.Proofs
set_option maxRecDepth 10000
set_option maxHeartbeats 4000000
theorem s29 (l : List Crv) (xs : List Int) : HSpec Tryz.prog 29 [lC l, lL xs] [] (ChRs' false l xs) := by
  refine spec_of pMix (O := []) Tryz.func29 (c := bodyOf Tryz.f29) rfl (by kernel_rfl) (by kernel_rfl) Tryz.ntmps29 (res := [.tmp 4, .tmp 5]) (by kernel_rfl) ?_
  repeat' ((conv => whnf); first | refine Rng.g ?_ | refine Ob.g ?_ | refine Ob.e ?_ | refine Ob.m ?_ | refine Ob.mk (Nat.le_of_ble_eq_true rfl) ?_ | refine JoinVC.on ?_ | refine Nils.mk (fun h => ?_) ?_ | refine Val.t ?_ | refine Val.d ?_ | refine Mm.mk ?_ | (refine Br.mk (fun h => ?_) (fun h => ?_) <;> first | (exfalso; omega; done) | (exfalso; simp at h; done) | skip))
  conv => whnf
  refine CallVC.mk [] _ _ _ rfl rfl rfl (s104 false l xs) (fun r m' h' => ?_)
  cases h' with
  | bad e h he hr hm =>
    subst hr hm
    repeat' ((conv => whnf); first | refine Rng.g ?_ | refine Ob.g ?_ | refine Ob.e ?_ | refine Ob.m ?_ | refine Ob.mk (Nat.le_of_ble_eq_true rfl) ?_ | refine JoinVC.on ?_ | refine Nils.mk (fun h => ?_) ?_ | refine Val.t ?_ | refine Val.d ?_ | refine Mm.mk ?_ | (refine Br.mk (fun h => ?_) (fun h => ?_) <;> first | (exfalso; omega; done) | (exfalso; simp at h; done) | skip))
    repeat refine Mm.mk ?_
    conv => whnf
    refine EndVC.mk _ rfl _ _ (.bad e h he rfl rfl) ?_
    refine ⟨[], rfl, rfl, ?_, ?_⟩ <;> repeat' (first | exact trivial | exact rfl | exact Iff.rfl | apply And.intro)
  | far hl hx h hr hm =>
    subst hr hm
    repeat' ((conv => whnf); first | refine Rng.g ?_ | refine Ob.g ?_ | refine Ob.e ?_ | refine Ob.m ?_ | refine Ob.mk (Nat.le_of_ble_eq_true rfl) ?_ | refine JoinVC.on ?_ | refine Nils.mk (fun h => ?_) ?_ | refine Val.t ?_ | refine Val.d ?_ | refine Mm.mk ?_ | (refine Br.mk (fun h => ?_) (fun h => ?_) <;> first | (exfalso; omega; done) | (exfalso; simp at h; done) | skip))
    repeat refine Mm.mk ?_
    conv => whnf
    refine EndVC.mk _ rfl _ _ (.far hl hx h rfl rfl) ?_
    refine ⟨[], rfl, rfl, ?_, ?_⟩ <;> repeat' (first | exact trivial | exact rfl | exact Iff.rfl | apply And.intro)
  | ok hl hx ys h hr hm =>
    subst hr hm
    repeat' ((conv => whnf); first | refine Rng.g ?_ | refine Ob.g ?_ | refine Ob.e ?_ | refine Ob.m ?_ | refine Ob.mk (Nat.le_of_ble_eq_true rfl) ?_ | refine JoinVC.on ?_ | refine Nils.mk (fun h => ?_) ?_ | refine Val.t ?_ | refine Val.d ?_ | refine Mm.mk ?_ | (refine Br.mk (fun h => ?_) (fun h => ?_) <;> first | (exfalso; omega; done) | (exfalso; simp at h; done) | skip))
    repeat refine Mm.mk ?_
    conv => whnf
    refine EndVC.mk _ rfl _ _ (.ok hl hx ys h rfl rfl) ?_
    refine ⟨[some 0], rfl, rfl, ?_, ?_⟩ <;> repeat' (first | exact trivial | exact rfl | exact Iff.rfl | apply And.intro)
theorem s33 (l : List Crv) (xs : List Int) : HSpec Tryz.prog 33 [lC l, lL xs] [] (ChRs' true l xs) := by
  refine spec_of pMix (O := []) Tryz.func33 (c := bodyOf Tryz.f33) rfl (by kernel_rfl) (by kernel_rfl) Tryz.ntmps33 (res := [.tmp 4, .tmp 5]) (by kernel_rfl) ?_
  repeat' ((conv => whnf); first | refine Rng.g ?_ | refine Ob.g ?_ | refine Ob.e ?_ | refine Ob.m ?_ | refine Ob.mk (Nat.le_of_ble_eq_true rfl) ?_ | refine JoinVC.on ?_ | refine Nils.mk (fun h => ?_) ?_ | refine Val.t ?_ | refine Val.d ?_ | refine Mm.mk ?_ | (refine Br.mk (fun h => ?_) (fun h => ?_) <;> first | (exfalso; omega; done) | (exfalso; simp at h; done) | skip))
  conv => whnf
  refine CallVC.mk [] _ _ _ rfl rfl rfl (s104 true l xs) (fun r m' h' => ?_)
  cases h' with
  | bad e h he hr hm =>
    subst hr hm
    repeat' ((conv => whnf); first | refine Rng.g ?_ | refine Ob.g ?_ | refine Ob.e ?_ | refine Ob.m ?_ | refine Ob.mk (Nat.le_of_ble_eq_true rfl) ?_ | refine JoinVC.on ?_ | refine Nils.mk (fun h => ?_) ?_ | refine Val.t ?_ | refine Val.d ?_ | refine Mm.mk ?_ | (refine Br.mk (fun h => ?_) (fun h => ?_) <;> first | (exfalso; omega; done) | (exfalso; simp at h; done) | skip))
    repeat refine Mm.mk ?_
    conv => whnf
    refine EndVC.mk _ rfl _ _ (.bad e h he rfl rfl) ?_
    refine ⟨[], rfl, rfl, ?_, ?_⟩ <;> repeat' (first | exact trivial | exact rfl | exact Iff.rfl | apply And.intro)
  | far hl hx h hr hm =>
    subst hr hm
    repeat' ((conv => whnf); first | refine Rng.g ?_ | refine Ob.g ?_ | refine Ob.e ?_ | refine Ob.m ?_ | refine Ob.mk (Nat.le_of_ble_eq_true rfl) ?_ | refine JoinVC.on ?_ | refine Nils.mk (fun h => ?_) ?_ | refine Val.t ?_ | refine Val.d ?_ | refine Mm.mk ?_ | (refine Br.mk (fun h => ?_) (fun h => ?_) <;> first | (exfalso; omega; done) | (exfalso; simp at h; done) | skip))
    repeat refine Mm.mk ?_
    conv => whnf
    refine EndVC.mk _ rfl _ _ (.far hl hx h rfl rfl) ?_
    refine ⟨[], rfl, rfl, ?_, ?_⟩ <;> repeat' (first | exact trivial | exact rfl | exact Iff.rfl | apply And.intro)
  | ok hl hx ys h hr hm =>
    subst hr hm
    repeat' ((conv => whnf); first | refine Rng.g ?_ | refine Ob.g ?_ | refine Ob.e ?_ | refine Ob.m ?_ | refine Ob.mk (Nat.le_of_ble_eq_true rfl) ?_ | refine JoinVC.on ?_ | refine Nils.mk (fun h => ?_) ?_ | refine Val.t ?_ | refine Val.d ?_ | refine Mm.mk ?_ | (refine Br.mk (fun h => ?_) (fun h => ?_) <;> first | (exfalso; omega; done) | (exfalso; simp at h; done) | skip))
    repeat refine Mm.mk ?_
    conv => whnf
    refine EndVC.mk _ rfl _ _ (.ok hl hx ys h rfl rfl) ?_
    refine ⟨[some 0], rfl, rfl, ?_, ?_⟩ <;> repeat' (first | exact trivial | exact rfl | exact Iff.rfl | apply And.intro)
/-- What a curve makes of a signal. -/
inductive ApRs (u : Bool) (c : Crv) (xs : List Int) (r : AV) (m' : List (Option Blk)) : Prop
  | bad (e : Int) (h : ¬ (CrvOK c ∧ SigOK xs)) (he : e ≠ 0) (hr : r = .tup [.one .nils, I e]) (hm : m' = [])
  | far (hl : CrvOK c) (hx : SigOK xs) (ys : List Int) (h : Filt u c 32767 xs ys) (hs : ys.length < xs.length) (hb : bey (nextY u c xs ys ys.length) 32767) (hr : r = .tup [.one .nils, I 4]) (hm : m' = [])
  | ok (hl : CrvOK c) (hx : SigOK xs) (ys : List Int) (h : Filt u c 32767 xs ys) (hs : ys.length = xs.length) (hr : r = .tup [.one (.own 0), I 0]) (hm : m' = [some (rowL ys)])
theorem chOK1 (c : Crv) : ChOK [c] ↔ CrvOK c := ⟨fun h => h.each 0 (by simp), fun h => ⟨by simp, fun j hj => (by rw [show j = 0 by simp at hj; omega]; exact h)⟩⟩
theorem ChRs'.one {u : Bool} {c : Crv} {xs : List Int} {r : AV} {m' : List (Option Blk)} (h : ChRs' u [c] xs r m') : ApRs u c xs r m' := by
  have ha : atC u [c] 0 = c := by cases u <;> rfl
  cases h with
  | bad e h he hr hm => exact .bad e (fun hh => h ⟨(chOK1 c).2 hh.1, hh.2⟩) he hr hm
  | far hl hx h hr hm =>
    obtain ⟨i, zs, ys, hi, hc, hf, hs, hb⟩ := h
    have hi0 : i = 0 := by simp at hi; omega
    subst hi0
    cases hc
    rw [ha] at hf hb
    exact .far ((chOK1 c).1 hl) hx ys hf hs hb hr hm
  | ok hl hx ys h hr hm =>
    obtain ⟨zs, hc, hf, hs⟩ := h
    cases hc
    rw [ha] at hf
    exact .ok ((chOK1 c).1 hl) hx ys hf hs hr hm
theorem s49 (c : Crv) (xs : List Int) : HSpec Tryz.prog 49 [c.x, lL xs] [] (ApRs false c xs) := by
  refine spec_of pMix (O := []) Tryz.func49 (c := bodyOf Tryz.f49) rfl (by kernel_rfl) (by kernel_rfl) Tryz.ntmps49 (res := [.tmp 4, .tmp 5]) (by kernel_rfl) ?_
  repeat' ((conv => whnf); first | refine Rng.g ?_ | refine Ob.g ?_ | refine Ob.e ?_ | refine Ob.m ?_ | refine Ob.mk (Nat.le_of_ble_eq_true rfl) ?_ | refine JoinVC.on ?_ | refine Nils.mk (fun h => ?_) ?_ | refine Val.t ?_ | refine Val.d ?_ | refine Mm.mk ?_ | (refine Br.mk (fun h => ?_) (fun h => ?_) <;> first | (exfalso; omega; done) | (exfalso; simp at h; done) | skip))
  conv => whnf
  refine CallVC.mk [] _ _ _ rfl rfl rfl (s104 false [c] xs) (fun r m' h' => ?_)
  have h' := h'.one
  cases h' with
  | bad e h he hr hm =>
    subst hr hm
    repeat' ((conv => whnf); first | refine Rng.g ?_ | refine Ob.g ?_ | refine Ob.e ?_ | refine Ob.m ?_ | refine Ob.mk (Nat.le_of_ble_eq_true rfl) ?_ | refine JoinVC.on ?_ | refine Nils.mk (fun h => ?_) ?_ | refine Val.t ?_ | refine Val.d ?_ | refine Mm.mk ?_ | (refine Br.mk (fun h => ?_) (fun h => ?_) <;> first | (exfalso; omega; done) | (exfalso; simp at h; done) | skip))
    repeat refine Mm.mk ?_
    conv => whnf
    refine EndVC.mk _ rfl _ _ (.bad e h he rfl rfl) ?_
    refine ⟨[], rfl, rfl, ?_, ?_⟩ <;> repeat' (first | exact trivial | exact rfl | exact Iff.rfl | apply And.intro)
  | far hl hx ys h hs hb hr hm =>
    subst hr hm
    repeat' ((conv => whnf); first | refine Rng.g ?_ | refine Ob.g ?_ | refine Ob.e ?_ | refine Ob.m ?_ | refine Ob.mk (Nat.le_of_ble_eq_true rfl) ?_ | refine JoinVC.on ?_ | refine Nils.mk (fun h => ?_) ?_ | refine Val.t ?_ | refine Val.d ?_ | refine Mm.mk ?_ | (refine Br.mk (fun h => ?_) (fun h => ?_) <;> first | (exfalso; omega; done) | (exfalso; simp at h; done) | skip))
    repeat refine Mm.mk ?_
    conv => whnf
    refine EndVC.mk _ rfl _ _ (.far hl hx ys h hs hb rfl rfl) ?_
    refine ⟨[], rfl, rfl, ?_, ?_⟩ <;> repeat' (first | exact trivial | exact rfl | exact Iff.rfl | apply And.intro)
  | ok hl hx ys h hs hr hm =>
    subst hr hm
    repeat' ((conv => whnf); first | refine Rng.g ?_ | refine Ob.g ?_ | refine Ob.e ?_ | refine Ob.m ?_ | refine Ob.mk (Nat.le_of_ble_eq_true rfl) ?_ | refine JoinVC.on ?_ | refine Nils.mk (fun h => ?_) ?_ | refine Val.t ?_ | refine Val.d ?_ | refine Mm.mk ?_ | (refine Br.mk (fun h => ?_) (fun h => ?_) <;> first | (exfalso; omega; done) | (exfalso; simp at h; done) | skip))
    repeat refine Mm.mk ?_
    conv => whnf
    refine EndVC.mk _ rfl _ _ (.ok hl hx ys h hs rfl rfl) ?_
    refine ⟨[some 2], rfl, rfl, ?_, ?_⟩ <;> repeat' (first | exact trivial | exact rfl | exact Iff.rfl | apply And.intro)
end Go.Sx

namespace Go.Sx
open Go Go.Proofs
set_option maxRecDepth 10000
set_option maxHeartbeats 8000000
/-! ### Which curve made a signal -/
theorem ints_ext {l r : List Int} (h : l.length = r.length) (h2 : ∀ i, i < l.length → l.getD i 0 = r.getD i 0) : l = r := by
  apply List.ext_getElem h
  intro i h3 h4
  have := h2 i h3
  simpa [List.getD_eq_getElem?_getD, h3, h4] using this
theorem s149 (xs ys : List Int) (hl : xs.length ≤ 1000000) : PSpec Tryz.prog 149 [lL xs, lL ys] (xP (xs = ys)) := by
  have lx := i64s_len xs
  have ly := i64s_len ys
  by_cases he : xs.length = ys.length
  · refine spec_of pMix (O := []) Tryz.func149 (c := bodyOf Tryz.f149) rfl (by kernel_rfl) (by kernel_rfl) Tryz.ntmps149 (res := [.tmp 4]) (by kernel_rfl) ?_
    repeat' ((conv => whnf); first | refine Rng.g ?_ | refine Ob.g ?_ | refine Ob.e ?_ | refine Ob.m ?_ | refine Ob.mk (Nat.le_of_ble_eq_true rfl) ?_ | refine JoinVC.on ?_ | refine Nils.mk (fun h => ?_) ?_ | refine Val.t ?_ | refine Val.d ?_ | refine Mm.mk ?_ | (refine Br.mk (fun h => ?_) (fun h => ?_) <;> first | (exfalso; omega; done) | (exfalso; simp at h; done) | skip))
    refine LoopVC.mk (fun n st => ∃ (i : Nat), i ≤ xs.length ∧ n = xs.length - i ∧ (∀ j, j < i → xs.getD j 0 = ys.getD j 0) ∧ st = ⟨0, envA 26 [(0, .x (lL xs)), (1, .x (lL ys)), (11, .x (lL xs)), (12, .int .i64 (xs.length : Int)), (13, .int .i64 (i : Int))], []⟩) _ _ ⟨0, Nat.zero_le _, rfl, fun j hj => absurd hj (Nat.not_lt_zero j), rfl⟩ ?_ ?_
    · refine ⟨[], rfl, rfl, ?_, ?_⟩ <;> repeat' (first | exact trivial | exact rfl | exact Iff.rfl | apply And.intro)
      all_goals exact congrArg Int.ofNat lx
    rintro n _ ⟨i, hi, hn, hj, rfl⟩
    have g1 : rI (i64s xs) (i : Int).toNat 0 = xs.getD i 0 := by rw [Int.toNat_natCast]; exact i64s_get xs i
    have g2 : rI (i64s ys) (i : Int).toNat 0 = ys.getD i 0 := by rw [Int.toNat_natCast]; exact i64s_get ys i
    by_cases hi' : i < xs.length
    · repeat' ((conv => whnf); first | rw [g1] | rw [g2] | refine Rng.g ?_ | refine Ob.g ?_ | refine Ob.e ?_ | refine Ob.m ?_ | refine Ob.mk (Nat.le_of_ble_eq_true rfl) ?_ | refine JoinVC.on ?_ | refine Nils.mk (fun h => ?_) ?_ | refine Val.t ?_ | refine Val.d ?_ | refine Mm.mk ?_ | (refine Br.mk (fun h => ?_) (fun h => ?_) <;> first | (exfalso; omega; done) | (exfalso; simp at h; done) | skip))
      · repeat refine Mm.mk ?_
        refine EndVC.mk _ rfl _ _ ⟨rfl, rfl⟩ ?_
        refine ⟨[], rfl, rfl, ?_, ?_⟩ <;> repeat' (first | exact trivial | exact rfl | exact Iff.rfl | apply And.intro)
        exact fun e => h (by rw [e])
      · refine Back.mk (xs.length - (i + 1)) _ (by omega) ⟨i + 1, by omega, rfl, fun j hj' => ?_, rfl⟩ ?_
        · rcases Nat.lt_succ_iff_lt_or_eq.1 hj' with h' | rfl
          · exact hj j h'
          · exact Classical.not_not.1 h
        · refine ⟨[], rfl, rfl, ?_, ?_⟩ <;> repeat' (first | exact trivial | exact rfl | exact Iff.rfl | apply And.intro)
    · repeat' ((conv => whnf); first | refine Rng.g ?_ | refine Ob.g ?_ | refine Ob.e ?_ | refine Ob.m ?_ | refine Ob.mk (Nat.le_of_ble_eq_true rfl) ?_ | refine JoinVC.on ?_ | refine Nils.mk (fun h => ?_) ?_ | refine Val.t ?_ | refine Val.d ?_ | refine Mm.mk ?_ | (refine Br.mk (fun h => ?_) (fun h => ?_) <;> first | (exfalso; omega; done) | (exfalso; simp at h; done) | skip))
      repeat refine Mm.mk ?_
      refine EndVC.mk _ rfl _ _ ⟨rfl, rfl⟩ ?_
      refine ⟨[], rfl, rfl, ?_, ?_⟩ <;> repeat' (first | exact trivial | exact rfl | exact Iff.rfl | apply And.intro)
      exact ints_ext he (fun j hj' => hj j (by omega))
  · refine spec_of pMix (O := []) Tryz.func149 (c := bodyOf Tryz.f149) rfl (by kernel_rfl) (by kernel_rfl) Tryz.ntmps149 (res := [.tmp 4]) (by kernel_rfl) ?_
    repeat' ((conv => whnf); first | refine Rng.g ?_ | refine Ob.g ?_ | refine Ob.e ?_ | refine Ob.m ?_ | refine Ob.mk (Nat.le_of_ble_eq_true rfl) ?_ | refine JoinVC.on ?_ | refine Nils.mk (fun h => ?_) ?_ | refine Val.t ?_ | refine Val.d ?_ | refine Mm.mk ?_ | (refine Br.mk (fun h => ?_) (fun h => ?_) <;> first | (exfalso; omega; done) | (exfalso; simp at h; done) | skip))
    repeat refine Mm.mk ?_
    refine EndVC.mk _ rfl _ _ ⟨rfl, rfl⟩ ?_
    refine ⟨[], rfl, rfl, ?_, ?_⟩ <;> repeat' (first | exact trivial | exact rfl | exact Iff.rfl | apply And.intro)
    exact fun e => he (by rw [e])
def mP (cs : List Crv) (x y : List Int) (i : Nat) : Prop := Filt false (cs.getD i c0) 32767 x y ∧ y.length = x.length
inductive MtRs (cs : List Crv) (x y : List Int) (r : AV) (m' : List (Option Blk)) : Prop
  | none (h : ∀ i, i < cs.length → ¬ mP cs x y i) (hr : r = .tup [I 0, I 5]) (hm : m' = [])
  | ok (i : Nat) (hi : i < cs.length) (h : mP cs x y i) (hn : ∀ j, j < i → ¬ mP cs x y j) (hr : r = .tup [I (i : Int), I 0]) (hm : m' = [])
theorem Filt.uniq' {u : Bool} {c : Crv} {most : Int} {xs ys zs : List Int} (hy : Filt u c most xs ys) (hz : Filt u c most xs zs) (hl : ys.length ≤ zs.length) : ys = zs.take ys.length := by
  have nt : ∀ (n i : Nat), i ≤ n → nextY u c xs (zs.take n) i = nextY u c xs zs i := fun n i h => by
    unfold nextY hiF hoF
    rw [List.take_take, Nat.min_eq_left h]
  have key : ∀ n, n ≤ ys.length → ys.take n = zs.take n := by
    intro n
    induction n with
    | zero => intro _; rfl
    | succ n ih =>
      intro hn
      rw [take_snoc ys n 0 (by omega), take_snoc zs n 0 (by omega), ih (by omega), (hy.each n (by omega)).1, (hz.each n (by omega)).1, ← nt n n (Nat.le_refl _) , ← ih (by omega)]
      unfold nextY hiF hoF
      rw [List.take_take, Nat.min_self]
  have := key ys.length (Nat.le_refl _)
  rwa [List.take_length] at this
theorem Filt.same' {u : Bool} {c : Crv} {most : Int} {xs ys zs : List Int} (hy : Filt u c most xs ys) (hz : Filt u c most xs zs) (h1 : ys.length = xs.length) (h2 : zs.length = xs.length) : ys = zs := by
  have := hy.uniq' hz (by omega)
  rwa [List.take_of_length_le (by omega)] at this
theorem Filt.no_far' {u : Bool} {c : Crv} {most : Int} {xs ys zs : List Int} (hy : Filt u c most xs ys) (h1 : ys.length < xs.length) (hb : bey (nextY u c xs ys ys.length) most) (hz : Filt u c most xs zs) (h2 : zs.length = xs.length) : False := by
  have e := hy.uniq' hz (by omega)
  have h3 := hz.each ys.length (by omega)
  have nt : nextY u c xs (zs.take ys.length) ys.length = nextY u c xs zs ys.length := by
    unfold nextY hiF hoF
    rw [List.take_take, Nat.min_self]
  rw [← e] at nt
  rw [nt, ← h3.1] at hb
  exact h3.2 hb
theorem s62 (cs : List Crv) (x y : List Int) (hC : ChOK cs) (hx : SigOK x) (hy : SigOK y) (hl : x.length = y.length) : HSpec Tryz.prog 62 [lC cs, lL x, lL y] [] (MtRs cs x y) := by
  have lx := i64s_len x
  have ly := i64s_len y
  have lc := crvA_len cs
  have h8 := hC.len
  have hx4 := hx.len
  refine spec_of pMix (O := []) Tryz.func62 (c := bodyOf Tryz.f62) rfl (by kernel_rfl) (by kernel_rfl) Tryz.ntmps62 (res := [.tmp 6, .tmp 7]) (by kernel_rfl) ?_
  repeat' ((conv => whnf); first | refine Rng.g ?_ | refine Ob.g ?_ | refine Ob.e ?_ | refine Ob.m ?_ | refine Ob.mk (Nat.le_of_ble_eq_true rfl) ?_ | refine JoinVC.on ?_ | refine Nils.mk (fun h => ?_) ?_ | refine Val.t ?_ | refine Val.d ?_ | refine Mm.mk ?_ | (refine Br.mk (fun h => ?_) (fun h => ?_) <;> first | (exfalso; omega; done) | (exfalso; simp at h; done) | skip))
  conv => whnf
  refine CallVC.mk [] _ _ _ rfl rfl rfl (s147 cs) (fun r m' h' => ?_)
  obtain ⟨e, rfl, rfl, he⟩ := h'
  conv => whnf
  cases he.2 hC
  repeat' ((conv => whnf); first | refine Rng.g ?_ | refine Ob.g ?_ | refine Ob.e ?_ | refine Ob.m ?_ | refine Ob.mk (Nat.le_of_ble_eq_true rfl) ?_ | refine JoinVC.on ?_ | refine Nils.mk (fun h => ?_) ?_ | refine Val.t ?_ | refine Val.d ?_ | refine Mm.mk ?_ | (refine Br.mk (fun h => ?_) (fun h => ?_) <;> first | (exfalso; omega; done) | (exfalso; simp at h; done) | skip))
  conv => whnf
  refine CallVC.mk [] _ _ _ rfl rfl rfl (s148 x) (fun r m' h' => ?_)
  obtain ⟨e, rfl, rfl, he⟩ := h'
  conv => whnf
  cases he.2 hx
  repeat' ((conv => whnf); first | refine Rng.g ?_ | refine Ob.g ?_ | refine Ob.e ?_ | refine Ob.m ?_ | refine Ob.mk (Nat.le_of_ble_eq_true rfl) ?_ | refine JoinVC.on ?_ | refine Nils.mk (fun h => ?_) ?_ | refine Val.t ?_ | refine Val.d ?_ | refine Mm.mk ?_ | (refine Br.mk (fun h => ?_) (fun h => ?_) <;> first | (exfalso; omega; done) | (exfalso; simp at h; done) | skip))
  conv => whnf
  refine CallVC.mk [] _ _ _ rfl rfl rfl (s148 y) (fun r m' h' => ?_)
  obtain ⟨e, rfl, rfl, he⟩ := h'
  conv => whnf
  cases he.2 hy
  have g0 : rI [[Cell.int 0], [Cell.int 0], [Cell.int 0]] (Int.toNat 0) 0 = 0 := rfl
  have g1 : rI [[Cell.int 0], [Cell.int 0], [Cell.int 0]] (Int.toNat (0 + 1)) 0 = 0 := rfl
  have g2 : rI [[Cell.int 0], [Cell.int 0], [Cell.int 0]] (Int.toNat (0 + 1 + 1)) 0 = 0 := rfl
  repeat' ((conv => whnf); first | refine Rng.g ?_ | refine Ob.g ?_ | refine Ob.e ?_ | refine Ob.m ?_ | refine Ob.mk (Nat.le_of_ble_eq_true rfl) ?_ | refine JoinVC.on ?_ | refine Nils.mk (fun h => ?_) ?_ | refine Val.t ?_ | refine Val.d ?_ | refine Mm.mk ?_ | (refine Br.mk (fun h => ?_) (fun h => ?_) <;> first | (exfalso; omega; done) | (exfalso; simp at h; done) | skip))
  refine LoopVC.un 5 ?_
  repeat' ((conv => whnf); first | rw [g0] | rw [g1] | rw [g2] | refine Rng.g ?_ | refine Ob.g ?_ | refine Ob.e ?_ | refine Ob.m ?_ | refine Ob.mk (Nat.le_of_ble_eq_true rfl) ?_ | refine JoinVC.on ?_ | refine Nils.mk (fun h => ?_) ?_ | refine Val.t ?_ | refine Val.d ?_ | refine Mm.mk ?_ | (refine Br.mk (fun h => ?_) (fun h => ?_) <;> first | (exfalso; omega; done) | (exfalso; simp at h; done) | skip))
  refine LoopVC.mk (fun n st => ∃ (i : Nat), i ≤ cs.length ∧ n = cs.length - i ∧ (∀ j, j < i → ¬ mP cs x y j) ∧ st = ⟨0, envA 57 [(0, .x (lC cs)), (1, .x (lL x)), (2, .x (lL y)), (35, .x (lC cs)), (36, .int .i64 (cs.length : Int)), (37, .int .i64 (i : Int))], []⟩) _ _ ⟨0, Nat.zero_le _, rfl, fun j hj => absurd hj (Nat.not_lt_zero j), rfl⟩ ?_ ?_
  · refine ⟨[], rfl, rfl, ?_, ?_⟩ <;> repeat' (first | exact trivial | exact rfl | exact Iff.rfl | apply And.intro)
    all_goals exact congrArg Int.ofNat lc
  rintro n _ ⟨i, hi, hn, hj, rfl⟩
  by_cases hi' : i < cs.length
  · have cA : HSpec Tryz.prog 49 [crvX cs (i : Int).toNat, lL x] [] (ApRs false (cs.getD i c0) x) := by
      rw [crvX_eq, Int.toNat_natCast]
      exact s49 _ _
    have nxt : ¬ mP cs x y i → ∀ j, j < i + 1 → ¬ mP cs x y j := fun h j hj' => by
      rcases Nat.lt_succ_iff_lt_or_eq.1 hj' with h' | rfl
      · exact hj j h'
      · exact h
    repeat' ((conv => whnf); first | refine Rng.g ?_ | refine Ob.g ?_ | refine Ob.e ?_ | refine Ob.m ?_ | refine Ob.mk (Nat.le_of_ble_eq_true rfl) ?_ | refine JoinVC.on ?_ | refine Nils.mk (fun h => ?_) ?_ | refine Val.t ?_ | refine Val.d ?_ | refine Mm.mk ?_ | (refine Br.mk (fun h => ?_) (fun h => ?_) <;> first | (exfalso; omega; done) | (exfalso; simp at h; done) | skip))
    conv => whnf
    refine CallVC.mk [] _ _ _ rfl rfl rfl (cA) (fun r m' h' => ?_)
    cases h' with
    | bad e h he hr hm => exact absurd ⟨hC.each i hi', hx⟩ h
    | far _ _ zs hz hs hb hr hm =>
      subst hr hm
      repeat' ((conv => whnf); first | refine Rng.g ?_ | refine Ob.g ?_ | refine Ob.e ?_ | refine Ob.m ?_ | refine Ob.mk (Nat.le_of_ble_eq_true rfl) ?_ | refine JoinVC.on ?_ | refine Nils.mk (fun h => ?_) ?_ | refine Val.t ?_ | refine Val.d ?_ | refine Mm.mk ?_ | (refine Br.mk (fun h => ?_) (fun h => ?_) <;> first | (exfalso; omega; done) | (exfalso; simp at h; done) | skip))
      refine Back.mk (cs.length - (i + 1)) _ (by omega) ⟨i + 1, by omega, rfl, nxt (fun hm => hz.no_far' hs hb hm.1 hm.2), rfl⟩ ?_
      refine ⟨[], rfl, rfl, ?_, ?_⟩ <;> repeat' (first | exact trivial | exact rfl | exact Iff.rfl | apply And.intro)
    | ok _ _ zs hz hs hr hm =>
      subst hr hm
      have ce := s149 zs y (by omega)
      repeat' ((conv => whnf); first | refine Rng.g ?_ | refine Ob.g ?_ | refine Ob.e ?_ | refine Ob.m ?_ | refine Ob.mk (Nat.le_of_ble_eq_true rfl) ?_ | refine JoinVC.on ?_ | refine Nils.mk (fun h => ?_) ?_ | refine Val.t ?_ | refine Val.d ?_ | refine Mm.mk ?_ | refine CallVC.pure rfl (ce) ?_ | refine CallVC0.pure rfl (ce) ?_ | (refine Br.mk (fun h => ?_) (fun h => ?_) <;> first | (exfalso; omega; done) | (exfalso; simp at h; done) | skip))
      · repeat refine Mm.mk ?_
        conv => whnf
        refine EndVC.mk _ rfl _ _ (.ok i hi' ⟨h ▸ hz, by omega⟩ hj rfl rfl) ?_
        refine ⟨[], rfl, rfl, ?_, ?_⟩ <;> repeat' (first | exact trivial | exact rfl | exact Iff.rfl | apply And.intro)
      · refine Back.mk (cs.length - (i + 1)) _ (by omega) ⟨i + 1, by omega, rfl, nxt (fun hm => h (hz.same' hm.1 hs hm.2)), rfl⟩ ?_
        refine ⟨[], rfl, rfl, ?_, ?_⟩ <;> repeat' (first | exact trivial | exact rfl | exact Iff.rfl | apply And.intro)
  · repeat' ((conv => whnf); first | refine Rng.g ?_ | refine Ob.g ?_ | refine Ob.e ?_ | refine Ob.m ?_ | refine Ob.mk (Nat.le_of_ble_eq_true rfl) ?_ | refine JoinVC.on ?_ | refine Nils.mk (fun h => ?_) ?_ | refine Val.t ?_ | refine Val.d ?_ | refine Mm.mk ?_ | (refine Br.mk (fun h => ?_) (fun h => ?_) <;> first | (exfalso; omega; done) | (exfalso; simp at h; done) | skip))
    repeat refine Mm.mk ?_
    conv => whnf
    refine EndVC.mk _ rfl _ _ (.none (fun j hj' => hj j (by omega)) rfl rfl) ?_
    refine ⟨[], rfl, rfl, ?_, ?_⟩ <;> repeat' (first | exact trivial | exact rfl | exact Iff.rfl | apply And.intro)
theorem s63 (c : Crv) (xs : List Int) : HSpec Tryz.prog 63 [c.x, lL xs] [] (ApRs true c xs) := by
  refine spec_of pMix (O := []) Tryz.func63 (c := bodyOf Tryz.f63) rfl (by kernel_rfl) (by kernel_rfl) Tryz.ntmps63 (res := [.tmp 4, .tmp 5]) (by kernel_rfl) ?_
  repeat' ((conv => whnf); first | refine Rng.g ?_ | refine Ob.g ?_ | refine Ob.e ?_ | refine Ob.m ?_ | refine Ob.mk (Nat.le_of_ble_eq_true rfl) ?_ | refine JoinVC.on ?_ | refine Nils.mk (fun h => ?_) ?_ | refine Val.t ?_ | refine Val.d ?_ | refine Mm.mk ?_ | (refine Br.mk (fun h => ?_) (fun h => ?_) <;> first | (exfalso; omega; done) | (exfalso; simp at h; done) | skip))
  conv => whnf
  refine CallVC.mk [] _ _ _ rfl rfl rfl (s104 true [c] xs) (fun r m' h' => ?_)
  have h' := h'.one
  cases h' with
  | bad e h he hr hm =>
    subst hr hm
    repeat' ((conv => whnf); first | refine Rng.g ?_ | refine Ob.g ?_ | refine Ob.e ?_ | refine Ob.m ?_ | refine Ob.mk (Nat.le_of_ble_eq_true rfl) ?_ | refine JoinVC.on ?_ | refine Nils.mk (fun h => ?_) ?_ | refine Val.t ?_ | refine Val.d ?_ | refine Mm.mk ?_ | (refine Br.mk (fun h => ?_) (fun h => ?_) <;> first | (exfalso; omega; done) | (exfalso; simp at h; done) | skip))
    repeat refine Mm.mk ?_
    conv => whnf
    refine EndVC.mk _ rfl _ _ (.bad e h he rfl rfl) ?_
    refine ⟨[], rfl, rfl, ?_, ?_⟩ <;> repeat' (first | exact trivial | exact rfl | exact Iff.rfl | apply And.intro)
  | far hl hx ys h hs hb hr hm =>
    subst hr hm
    repeat' ((conv => whnf); first | refine Rng.g ?_ | refine Ob.g ?_ | refine Ob.e ?_ | refine Ob.m ?_ | refine Ob.mk (Nat.le_of_ble_eq_true rfl) ?_ | refine JoinVC.on ?_ | refine Nils.mk (fun h => ?_) ?_ | refine Val.t ?_ | refine Val.d ?_ | refine Mm.mk ?_ | (refine Br.mk (fun h => ?_) (fun h => ?_) <;> first | (exfalso; omega; done) | (exfalso; simp at h; done) | skip))
    repeat refine Mm.mk ?_
    conv => whnf
    refine EndVC.mk _ rfl _ _ (.far hl hx ys h hs hb rfl rfl) ?_
    refine ⟨[], rfl, rfl, ?_, ?_⟩ <;> repeat' (first | exact trivial | exact rfl | exact Iff.rfl | apply And.intro)
  | ok hl hx ys h hs hr hm =>
    subst hr hm
    repeat' ((conv => whnf); first | refine Rng.g ?_ | refine Ob.g ?_ | refine Ob.e ?_ | refine Ob.m ?_ | refine Ob.mk (Nat.le_of_ble_eq_true rfl) ?_ | refine JoinVC.on ?_ | refine Nils.mk (fun h => ?_) ?_ | refine Val.t ?_ | refine Val.d ?_ | refine Mm.mk ?_ | (refine Br.mk (fun h => ?_) (fun h => ?_) <;> first | (exfalso; omega; done) | (exfalso; simp at h; done) | skip))
    repeat refine Mm.mk ?_
    conv => whnf
    refine EndVC.mk _ rfl _ _ (.ok hl hx ys h hs rfl rfl) ?_
    refine ⟨[some 2], rfl, rfl, ?_, ?_⟩ <;> repeat' (first | exact trivial | exact rfl | exact Iff.rfl | apply And.intro)
end Go.Sx

namespace Go.Sx
open Go Go.Proofs
set_option maxRecDepth 10000
set_option maxHeartbeats 4000000
/-! ### Shortest ways by relaxing edges in rounds: plain laws -/
structure Edg where
  rule : Int
  pos : Int
  fr : Int
  to : Int
  w : Int
abbrev e0 : Edg := ⟨0, 0, 0, 0, 0⟩
structure LSt where
  R : List Int
  P : List Edg
  c : Int
def nx (P : List Edg) (v : Nat) : Nat := (P.getD v e0).fr.toNat
def rlx (s : LSt) (x : Edg) : LSt := if s.R.getD x.to.toNat 0 ≤ s.R.getD x.fr.toNat 0 + x.w then s else ⟨s.R.set x.to.toNat (s.R.getD x.fr.toNat 0 + x.w), s.P.set x.to.toNat x, x.to⟩
structure EOK (n : Nat) (B : Int) (x : Edg) : Prop where
  f : 0 ≤ x.fr ∧ x.fr < n
  t : 0 ≤ x.to ∧ x.to < n
  ne : x.fr ≠ x.to
  w : -B ≤ x.w ∧ x.w ≤ B
structure LJ (n : Nat) (ini : Nat → Int) (E D : List Edg) (r : Int) (s : LSt) (L : Int) (N : Nat) (t : Nat → Nat) (T : Nat → Int) : Prop where
  lr : s.R.length = n
  lp : s.P.length = n
  hi : ∀ v, v < n → s.R.getD v 0 ≤ ini v
  lo : ∀ v, v < n → -L ≤ s.R.getD v 0
  lb : ∀ y : Nat → Int, (∀ v, v < n → y v ≤ ini v) → (∀ e, e ∈ E → y e.to.toNat ≤ y e.fr.toNat + e.w) → ∀ v, v < n → y v ≤ s.R.getD v 0
  tm : ∀ v, t v ≤ N
  tr : ∀ v, T v ≤ r
  pa : ∀ v, v < n → ((s.P.getD v e0).fr = -1 ∧ T v = -1) ∨ (s.P.getD v e0 ∈ E ∧ (s.P.getD v e0).to = (v : Int) ∧ T v ≤ T (nx s.P v) + 1 ∧ (s.R.getD (nx s.P v) 0 + (s.P.getD v e0).w < s.R.getD v 0 ∨ (s.R.getD v 0 = s.R.getD (nx s.P v) 0 + (s.P.getD v e0).w ∧ t (nx s.P v) < t v)))
  al : ∀ e, e ∈ E → r - 1 ≤ T e.fr.toNat ∨ s.R.getD e.to.toNat 0 ≤ s.R.getD e.fr.toNat 0 + e.w
  dn : ∀ e, e ∈ D → r ≤ T e.fr.toNat ∨ s.R.getD e.to.toNat 0 ≤ s.R.getD e.fr.toNat 0 + e.w
  c : (s.c = -1 ∧ ∀ e, e ∈ D → s.R.getD e.to.toNat 0 ≤ s.R.getD e.fr.toNat 0 + e.w) ∨ (0 ≤ s.c ∧ s.c < n ∧ T s.c.toNat = r)
theorem gset {α : Type} (l : List α) (i j : Nat) (a d : α) (h : i < l.length) : (l.set i a).getD j d = if j = i then a else l.getD j d := by
  simp only [List.getD_eq_getElem?_getD, List.getElem?_set]
  by_cases e : i = j
  · subst e; simp [h]
  · rw [if_neg e, if_neg (fun h => e h.symm)]
theorem LJ.step {n : Nat} {B : Int} {ini : Nat → Int} {E D : List Edg} {r : Int} {s : LSt} {L : Int} {N : Nat} {t : Nat → Nat} {T : Nat → Int} (h : LJ n ini E D r s L N t T) (hB : 0 ≤ B) (hE : ∀ e, e ∈ E → EOK n B e) {x : Edg} (hx : x ∈ E) : ∃ t' T', LJ n ini E (x :: D) r (rlx s x) (L + B) (N + 1) t' T' := by
  obtain ⟨hf, ht, hne, hw⟩ := hE x hx
  unfold rlx
  by_cases hc : s.R.getD x.to.toNat 0 ≤ s.R.getD x.fr.toNat 0 + x.w
  · rw [if_pos hc]
    refine ⟨t, T, h.lr, h.lp, h.hi, fun v hv => by have := h.lo v hv; omega, h.lb, fun v => Nat.le_succ_of_le (h.tm v), h.tr, h.pa, h.al, ?_, ?_⟩
    · intro e he
      rcases List.mem_cons.1 he with rfl | he
      · exact .inr hc
      · exact h.dn e he
    · rcases h.c with ⟨h1, h2⟩ | h1
      · refine .inl ⟨h1, fun e he => ?_⟩
        rcases List.mem_cons.1 he with rfl | he
        · exact hc
        · exact h2 e he
      · exact .inr h1
  · rw [if_neg hc]
    obtain ⟨u, hu⟩ : ∃ u, x.fr.toNat = u := ⟨_, rfl⟩
    obtain ⟨z, hz⟩ : ∃ z, x.to.toNat = z := ⟨_, rfl⟩
    have hun : u < n := by omega
    have hzn : z < n := by omega
    have huz : u ≠ z := by omega
    rw [hu, hz] at hc ⊢
    have hlr := h.lr
    have hlp := h.lp
    have gR : ∀ j, (s.R.set z (s.R.getD u 0 + x.w)).getD j 0 = if j = z then s.R.getD u 0 + x.w else s.R.getD j 0 := fun j => gset _ _ _ _ _ (by omega)
    have gP : ∀ j, (s.P.set z x).getD j e0 = if j = z then x else s.P.getD j e0 := fun j => gset _ _ _ _ _ (by omega)
    have hlow := h.lo u hun
    have key : ∀ e : Edg, e.fr.toNat ≠ z → s.R.getD e.to.toNat 0 ≤ s.R.getD e.fr.toNat 0 + e.w → (s.R.set z (s.R.getD u 0 + x.w)).getD e.to.toNat 0 ≤ (s.R.set z (s.R.getD u 0 + x.w)).getD e.fr.toNat 0 + e.w := by
      intro e h1 h2
      rw [gR, gR, if_neg h1]
      split
      · rename_i h3
        rw [h3] at h2
        omega
      · exact h2
    refine ⟨fun v => if v = z then N + 1 else t v, fun v => if v = z then r else T v, ?_, ?_, ?_, ?_, ?_, ?_, ?_, ?_, ?_, ?_, ?_⟩
    · simp only [List.length_set]; exact hlr
    · simp only [List.length_set]; exact hlp
    · intro v hv
      simp only [gR]
      have := h.hi v hv
      split
      · rename_i h3
        rw [h3] at this
        rw [h3]
        omega
      · exact this
    · intro v hv
      simp only [gR]
      have := h.lo v hv
      split <;> omega
    · intro y h1 h2 v hv
      simp only [gR]
      have h3 := h.lb y h1 h2
      split
      · rename_i h4
        have h5 := h2 x hx
        rw [hu, hz] at h5
        have h6 := h3 u hun
        rw [h4]
        omega
      · exact h3 v hv
    · intro v
      show (if v = z then N + 1 else t v) ≤ N + 1
      have := h.tm v
      split <;> omega
    · intro v
      show (if v = z then r else T v) ≤ r
      have := h.tr v
      split <;> omega
    · intro v hv
      by_cases hvz : v = z
      · refine .inr ?_
        have e1 : (s.P.set z x).getD v e0 = x := by rw [gP, if_pos hvz]
        have e2 : nx (s.P.set z x) v = u := by unfold nx; rw [e1]; exact hu
        simp only [e1, e2]
        refine ⟨hx, by omega, ?_, .inr ⟨?_, ?_⟩⟩
        · rw [if_pos hvz, if_neg huz]
          rcases h.al x hx with h1 | h1
          · rw [hu] at h1; omega
          · rw [hu, hz] at h1; exact absurd h1 hc
        · rw [gR, gR, if_pos hvz, if_neg huz]
        · rw [if_neg huz, if_pos hvz]
          have := h.tm u
          omega
      · have e1 : (s.P.set z x).getD v e0 = s.P.getD v e0 := by rw [gP, if_neg hvz]
        have e2 : nx (s.P.set z x) v = nx s.P v := by unfold nx; rw [e1]
        simp only [e1, e2]
        rcases h.pa v hv with h1 | ⟨h1, h2, h3, h4⟩
        · exact .inl ⟨h1.1, by rw [if_neg hvz]; exact h1.2⟩
        · refine .inr ⟨h1, h2, ?_, ?_⟩
          · rw [if_neg hvz]
            have := h.tr v
            split <;> omega
          · rw [gR, gR, if_neg hvz, if_neg hvz]
            by_cases hq : nx s.P v = z
            · rw [if_pos hq]
              rw [hq] at h4
              refine .inl ?_
              rcases h4 with h4 | h4 <;> omega
            · rw [if_neg hq, if_neg hq]
              exact h4
    · intro e he
      by_cases h1 : e.fr.toNat = z
      · refine .inl ?_
        simp only [h1, if_pos]
        omega
      · rcases h.al e he with h2 | h2
        · refine .inl ?_
          simp only [if_neg h1]
          exact h2
        · exact .inr (key e h1 h2)
    · intro e he
      by_cases h1 : e.fr.toNat = z
      · refine .inl ?_
        simp only [h1, if_pos]
        omega
      · rcases List.mem_cons.1 he with h2 | h2
        · refine .inr ?_
          subst h2
          show (s.R.set z (s.R.getD u 0 + e.w)).getD e.to.toNat 0 ≤ (s.R.set z (s.R.getD u 0 + e.w)).getD e.fr.toNat 0 + e.w
          rw [gR, gR, if_pos hz, if_neg h1, hu]
          omega
        · rcases h.dn e h2 with h3 | h3
          · refine .inl ?_
            simp only [if_neg h1]
            exact h3
          · exact .inr (key e h1 h3)
    · refine .inr ⟨ht.1, ht.2, ?_⟩
      show (if x.to.toNat = z then r else T x.to.toNat) = r
      rw [if_pos hz]
theorem LJ.next {n : Nat} {ini : Nat → Int} {E D : List Edg} {r : Int} {s : LSt} {L : Int} {N : Nat} {t : Nat → Nat} {T : Nat → Int} (h : LJ n ini E D r s L N t T) (hD : ∀ e, e ∈ E → e ∈ D) : LJ n ini E [] (r + 1) ⟨s.R, s.P, -1⟩ L N t T :=
  ⟨h.lr, h.lp, h.hi, h.lo, h.lb, h.tm, fun v => by have := h.tr v; omega, h.pa, fun e he => by
    rcases h.dn e (hD e he) with h1 | h1
    · exact .inl (by omega)
    · exact .inr h1, fun e he => (List.not_mem_nil he).elim, .inl ⟨rfl, fun e he => (List.not_mem_nil he).elim⟩⟩
theorem LJ.fold {n : Nat} {B : Int} {ini : Nat → Int} {E : List Edg} {r : Int} (hB : 0 ≤ B) (hE : ∀ e, e ∈ E → EOK n B e) : ∀ (F : List Edg) {D : List Edg} {s : LSt} {L : Int} {N : Nat} {t : Nat → Nat} {T : Nat → Int}, LJ n ini E D r s L N t T → (∀ e, e ∈ F → e ∈ E) → ∃ t' T', LJ n ini E (F.reverse ++ D) r (F.foldl rlx s) (L + B * F.length) (N + F.length) t' T'
  | [], D, s, L, N, t, T, h, _ => ⟨t, T, by simpa using h⟩
  | x :: F, D, s, L, N, t, T, h, hF => by
    obtain ⟨t1, T1, h1⟩ := h.step hB hE (hF x List.mem_cons_self)
    obtain ⟨t2, T2, h2⟩ := LJ.fold hB hE F h1 (fun e he => hF e (List.mem_cons_of_mem _ he))
    refine ⟨t2, T2, ?_⟩
    have e1 : L + B + B * (F.length : Int) = L + B * ((x :: F).length : Int) := by
      rw [List.length_cons, Int.natCast_add, Int.mul_add]; omega
    have e2 : N + 1 + F.length = N + (x :: F).length := by rw [List.length_cons]; omega
    have e3 : F.reverse ++ x :: D = (x :: F).reverse ++ D := by simp
    rw [← e1, ← e2, ← e3]
    exact h2
theorem pigeon : ∀ (n : Nat) (f : Nat → Nat), (∀ i, i ≤ n → f i < n) → ∃ i j, i < j ∧ j ≤ n ∧ f i = f j
  | 0, f, h => absurd (h 0 (Nat.le_refl _)) (Nat.not_lt_zero _)
  | n + 1, f, h => by
    by_cases hd : ∃ i, i ≤ n ∧ f i = f (n + 1)
    · obtain ⟨i, hi, he⟩ := hd
      exact ⟨i, n + 1, by omega, by omega, he⟩
    · have hd' : ∀ i, i ≤ n → f i ≠ f (n + 1) := fun i hi he => hd ⟨i, hi, he⟩
      have hl := h (n + 1) (Nat.le_refl _)
      obtain ⟨i, j, hij, hj, he⟩ := pigeon n (fun i => if f i = n then f (n + 1) else f i) (fun i hi => by
        have h1 := h i (by omega)
        have h2 := hd' i hi
        show (if f i = n then f (n + 1) else f i) < n
        split <;> omega)
      have hi' := hd' i (by omega)
      have hj' := hd' j hj
      replace he : (if f i = n then f (n + 1) else f i) = (if f j = n then f (n + 1) else f j) := he
      refine ⟨i, j, hij, by omega, ?_⟩
      split at he <;> split at he <;> omega
def itr (P : List Edg) (v : Nat) : Nat → Nat
  | 0 => v
  | k + 1 => nx P (itr P v k)
theorem itr_add (P : List Edg) (v : Nat) {i j : Nat} (h : itr P v i = itr P v j) : ∀ m, itr P v (i + m) = itr P v (j + m)
  | 0 => h
  | m + 1 => by
    show nx P (itr P v (i + m)) = nx P (itr P v (j + m))
    rw [itr_add P v h m]
/-- A circle of edges is found. -/
structure Circ (n : Nat) (P : List Edg) (v : Nat) : Prop where
  each : ∀ k, itr P v k < n ∧ (P.getD (itr P v k) e0).fr = (itr P v (k + 1) : Nat)
  back : ∃ c, 1 ≤ c ∧ c ≤ n ∧ itr P v (n + c) = itr P v n
theorem LJ.circ {n : Nat} {B : Int} {ini : Nat → Int} {E D : List Edg} {r : Int} {s : LSt} {L : Int} {N : Nat} {t : Nat → Nat} {T : Nat → Int} (h : LJ n ini E D r s L N t T) (hE : ∀ e, e ∈ E → EOK n B e) (hr : (n : Int) + 1 ≤ r) (hc : s.c ≠ -1) : Circ n s.P s.c.toNat := by
  obtain ⟨c0, c1, c2⟩ : 0 ≤ s.c ∧ s.c < n ∧ T s.c.toNat = r := by
    rcases h.c with ⟨h1, _⟩ | h1
    · exact absurd h1 hc
    · exact h1
  have nxt : ∀ z, z < n → 0 ≤ T z → nx s.P z < n ∧ (s.P.getD z e0).fr = (nx s.P z : Nat) ∧ T z - 1 ≤ T (nx s.P z) := by
    intro z hz h0
    rcases h.pa z hz with ⟨_, h1⟩ | ⟨h1, _, h3, _⟩
    · omega
    · have h2 := (hE _ h1).f
      have e : nx s.P z = (s.P.getD z e0).fr.toNat := rfl
      omega
  have st : ∀ k, k ≤ n + 1 → itr s.P s.c.toNat k < n ∧ r - k ≤ T (itr s.P s.c.toNat k) := by
    intro k
    induction k with
    | zero => intro _; exact ⟨by show s.c.toNat < n; omega, by show r - (0 : Nat) ≤ T s.c.toNat; omega⟩
    | succ k ih =>
      intro hk
      obtain ⟨h1, h2⟩ := ih (by omega)
      obtain ⟨h3, _, h5⟩ := nxt _ h1 (by omega)
      exact ⟨h3, by show r - ((k + 1 : Nat) : Int) ≤ T (nx s.P (itr s.P s.c.toNat k)); omega⟩
  obtain ⟨i, j, hij, hj, he⟩ := pigeon n (itr s.P s.c.toNat) (fun i hi => (st i (by omega)).1)
  have pe := itr_add s.P s.c.toNat he
  have all : ∀ q k, k ≤ q → itr s.P s.c.toNat k < n ∧ 0 ≤ T (itr s.P s.c.toNat k) := by
    intro q
    induction q with
    | zero => intro k hk; have := st k (by omega); omega
    | succ q ih =>
      intro k hk
      by_cases h1 : k ≤ n
      · have := st k (by omega); omega
      · have h2 := pe (k - j)
        rw [show j + (k - j) = k by omega] at h2
        rw [← h2]
        exact ih _ (by omega)
  refine ⟨fun k => ?_, j - i, by omega, by omega, ?_⟩
  · obtain ⟨h1, h2⟩ := all k k (Nat.le_refl _)
    exact ⟨h1, (nxt _ h1 h2).2.1⟩
  · have h2 := pe (n - i)
    rw [show i + (n - i) = n by omega, show j + (n - i) = n + (j - i) by omega] at h2
    exact h2.symm
theorem LJ.noc {n : Nat} {B : Int} {ini : Nat → Int} {E D : List Edg} {r : Int} {s : LSt} {L : Int} {N : Nat} {t : Nat → Nat} {T : Nat → Int} (h : LJ n ini E D r s L N t T) (hE : ∀ e, e ∈ E → EOK n B e) (hr : (n : Int) + 1 ≤ r) (hc : s.c ≠ -1) {y : Nat → Int} (_h1 : ∀ v, v < n → y v ≤ ini v) (h2 : ∀ e, e ∈ E → y e.to.toNat ≤ y e.fr.toNat + e.w) : False := by
  have hC := h.circ hE hr hc
  obtain ⟨c, hc1, _, hb⟩ := hC.back
  have one : ∀ k, s.R.getD (itr s.P s.c.toNat (k + 1)) 0 - y (itr s.P s.c.toNat (k + 1)) < s.R.getD (itr s.P s.c.toNat k) 0 - y (itr s.P s.c.toNat k) ∨ (s.R.getD (itr s.P s.c.toNat (k + 1)) 0 - y (itr s.P s.c.toNat (k + 1)) = s.R.getD (itr s.P s.c.toNat k) 0 - y (itr s.P s.c.toNat k) ∧ t (itr s.P s.c.toNat (k + 1)) < t (itr s.P s.c.toNat k)) := by
    intro k
    obtain ⟨hk1, hk2⟩ := hC.each k
    rcases h.pa _ hk1 with ⟨h3, _⟩ | ⟨h3, h4, _, h5⟩
    · omega
    · have h6 := h2 _ h3
      rw [h4, Int.toNat_natCast, hk2, Int.toNat_natCast] at h6
      have e : nx s.P (itr s.P s.c.toNat k) = itr s.P s.c.toNat (k + 1) := rfl
      rw [e] at h5
      rcases h5 with h5 | ⟨h5, h7⟩
      · exact .inl (by omega)
      · by_cases h8 : s.R.getD (itr s.P s.c.toNat (k + 1)) 0 - y (itr s.P s.c.toNat (k + 1)) < s.R.getD (itr s.P s.c.toNat k) 0 - y (itr s.P s.c.toNat k)
        · exact .inl h8
        · exact .inr ⟨by omega, h7⟩
  have many : ∀ m, s.R.getD (itr s.P s.c.toNat (n + m)) 0 - y (itr s.P s.c.toNat (n + m)) < s.R.getD (itr s.P s.c.toNat n) 0 - y (itr s.P s.c.toNat n) ∨ (s.R.getD (itr s.P s.c.toNat (n + m)) 0 - y (itr s.P s.c.toNat (n + m)) = s.R.getD (itr s.P s.c.toNat n) 0 - y (itr s.P s.c.toNat n) ∧ t (itr s.P s.c.toNat (n + m)) + m ≤ t (itr s.P s.c.toNat n)) := by
    intro m
    induction m with
    | zero => exact .inr ⟨rfl, Nat.le_refl _⟩
    | succ m ih =>
      have h3 := one (n + m)
      rw [← Nat.add_assoc n m 1]
      rcases h3 with h3 | ⟨h3, h4⟩ <;> rcases ih with h5 | ⟨h5, h6⟩
      · exact .inl (by omega)
      · exact .inl (by omega)
      · exact .inl (by omega)
      · exact .inr ⟨by omega, by omega⟩
  have := many c
  rw [hb] at this
  omega
/-- A way from the rim. -/
def Way (n : Nat) (P : List Edg) (v m : Nat) : Prop := (∀ k, k < m → itr P v k < n ∧ (P.getD (itr P v k) e0).fr = (itr P v (k + 1) : Nat)) ∧ itr P v m < n ∧ (P.getD (itr P v m) e0).fr = -1
theorem itr_succ (P : List Edg) (v : Nat) : ∀ k, itr P v (k + 1) = itr P (nx P v) k
  | 0 => rfl
  | k + 1 => by
    show nx P (itr P v (k + 1)) = nx P (itr P (nx P v) k)
    rw [itr_succ P v k]
theorem LJ.way {n : Nat} {B : Int} {ini : Nat → Int} {E D : List Edg} {r : Int} {s : LSt} {L : Int} {N : Nat} {t : Nat → Nat} {T : Nat → Int} (h : LJ n ini E D r s L N t T) (hE : ∀ e, e ∈ E → EOK n B e) (hf : ∀ e, e ∈ E → s.R.getD e.to.toNat 0 ≤ s.R.getD e.fr.toNat 0 + e.w) : ∀ q v, t v ≤ q → v < n → ∃ m, m ≤ q ∧ Way n s.P v m := by
  have one : ∀ v, v < n → (s.P.getD v e0).fr = -1 ∨ (nx s.P v < n ∧ (s.P.getD v e0).fr = (nx s.P v : Nat) ∧ t (nx s.P v) < t v) := by
    intro v hv
    rcases h.pa v hv with ⟨h1, _⟩ | ⟨h1, h2, _, h4⟩
    · exact .inl h1
    · have h5 := (hE _ h1).f
      have h6 := hf _ h1
      have e : nx s.P v = (s.P.getD v e0).fr.toNat := rfl
      rw [h2, Int.toNat_natCast, ← e] at h6
      refine .inr ⟨by omega, by omega, ?_⟩
      rcases h4 with h4 | h4
      · omega
      · exact h4.2
  intro q
  induction q with
  | zero =>
    intro v hq hv
    rcases one v hv with h1 | ⟨_, _, h3⟩
    · exact ⟨0, Nat.zero_le _, fun k hk => absurd hk (Nat.not_lt_zero _), hv, h1⟩
    · omega
  | succ q ih =>
    intro v hq hv
    rcases one v hv with h1 | ⟨h1, h2, h3⟩
    · exact ⟨0, Nat.zero_le _, fun k hk => absurd hk (Nat.not_lt_zero _), hv, h1⟩
    · obtain ⟨m, hmq, h4, h5, h6⟩ := ih (nx s.P v) (by omega) h1
      refine ⟨m + 1, by omega, fun k hk => ?_, ?_, ?_⟩
      · cases k with
        | zero => exact ⟨hv, h2⟩
        | succ k =>
          rw [itr_succ, itr_succ]
          exact h4 k (by omega)
      · rw [itr_succ]; exact h5
      · rw [itr_succ]; exact h6
end Go.Sx

namespace Go.Sx
open Go Go.Proofs
set_option maxRecDepth 10000
set_option maxHeartbeats 4000000
/-! ### What a blank asks of a cut -/
structure Blnk where
  per : Int
  rim : Int
  core : Int
  land : Int
  slow : Int
  fast : Int
structure BlnkOK (b : Blnk) : Prop where
  per : 1 ≤ b.per ∧ b.per ≤ 65536
  rim : 0 ≤ b.rim ∧ b.rim ≤ 4194304
  core : 0 ≤ b.core ∧ b.core ≤ b.rim
  land : 0 ≤ b.land ∧ b.land ≤ 65536
  fast : 0 ≤ b.fast ∧ b.fast ≤ 65536
  slow : 0 ≤ b.slow ∧ b.slow ≤ b.fast
def eR (b : Blnk) (p : List Smp) (i : Nat) : Edg := ⟨1, i, -1, i, b.rim - (p.getD i s0).r⟩
def eC (b : Blnk) (p : List Smp) (i : Nat) : Edg := ⟨2, i, i, -1, (p.getD i s0).l - b.core⟩
def eS (b : Blnk) (i : Nat) : Edg := ⟨3, i, (i : Int) - 1, i, -b.slow⟩
def eF (b : Blnk) (i : Nat) : Edg := ⟨4, i, i, (i : Int) - 1, b.fast⟩
def eL (b : Blnk) (p : List Smp) (i : Nat) : Edg := ⟨5, i, (i : Int) - b.per, i, (p.getD ((i : Int) - b.per).toNat s0).l - (p.getD i s0).r - b.land⟩
def F1 (b : Blnk) (p : List Smp) (i : Nat) : List Edg := (if 0 < i then [eS b i] else []) ++ (if b.per ≤ i then [eL b p i] else [])
def E1 (b : Blnk) (p : List Smp) (m : Nat) : List Edg := (List.range m).flatMap (F1 b p)
def E2 (b : Blnk) (n j : Nat) : List Edg := (List.range j).map fun q => eF b (n - 1 - q)
def edgs (b : Blnk) (p : List Smp) : List Edg := E1 b p p.length ++ E2 b p.length (p.length - 1)
theorem E1_succ (b : Blnk) (p : List Smp) (m : Nat) : E1 b p (m + 1) = E1 b p m ++ F1 b p m := by simp [E1, List.range_succ]
theorem E2_succ (b : Blnk) (n j : Nat) : E2 b n (j + 1) = E2 b n j ++ [eF b (n - 1 - j)] := by simp [E2, List.range_succ]
theorem F1_len (b : Blnk) (p : List Smp) (i : Nat) : (F1 b p i).length ≤ 2 := by unfold F1; split <;> split <;> simp
theorem E1_len (b : Blnk) (p : List Smp) : ∀ m, (E1 b p m).length ≤ 2 * m
  | 0 => by simp [E1]
  | m + 1 => by
    rw [E1_succ, List.length_append]
    have := E1_len b p m
    have := F1_len b p m
    omega
theorem E2_len (b : Blnk) (n j : Nat) : (E2 b n j).length = j := by simp [E2]
theorem edgs_len (b : Blnk) (p : List Smp) : (edgs b p).length ≤ 3 * p.length := by
  unfold edgs
  rw [List.length_append, E2_len]
  have := E1_len b p p.length
  omega
theorem E1_mem {b : Blnk} {p : List Smp} {m : Nat} {e : Edg} : e ∈ E1 b p m ↔ ∃ i, i < m ∧ ((0 < i ∧ e = eS b i) ∨ (b.per ≤ i ∧ e = eL b p i)) := by
  unfold E1
  rw [List.mem_flatMap]
  constructor
  · rintro ⟨i, hi, he⟩
    refine ⟨i, List.mem_range.1 hi, ?_⟩
    unfold F1 at he
    rcases List.mem_append.1 he with h | h
    · split at h
      · rename_i h1
        exact .inl ⟨h1, by simpa using h⟩
      · simp at h
    · split at h
      · rename_i h1
        exact .inr ⟨h1, by simpa using h⟩
      · simp at h
  · rintro ⟨i, hi, h⟩
    refine ⟨i, List.mem_range.2 hi, ?_⟩
    unfold F1
    rcases h with ⟨h1, rfl⟩ | ⟨h1, rfl⟩
    · exact List.mem_append.2 (.inl (by rw [if_pos h1]; simp))
    · exact List.mem_append.2 (.inr (by rw [if_pos h1]; simp))
theorem E2_mem {b : Blnk} {n j : Nat} {e : Edg} : e ∈ E2 b n j ↔ ∃ q, q < j ∧ e = eF b (n - 1 - q) := by
  unfold E2
  rw [List.mem_map]
  constructor
  · rintro ⟨q, h1, h2⟩
    exact ⟨q, List.mem_range.1 h1, h2.symm⟩
  · rintro ⟨q, h1, h2⟩
    exact ⟨q, List.mem_range.2 h1, h2.symm⟩
theorem edgs_mem {b : Blnk} {p : List Smp} {e : Edg} : e ∈ edgs b p ↔ ∃ i, i < p.length ∧ ((0 < i ∧ e = eS b i) ∨ (b.per ≤ i ∧ e = eL b p i) ∨ (0 < i ∧ e = eF b i)) := by
  unfold edgs
  rw [List.mem_append, E1_mem, E2_mem]
  constructor
  · rintro (⟨i, hi, h⟩ | ⟨q, hq, h⟩)
    · refine ⟨i, hi, ?_⟩
      rcases h with h | h
      · exact .inl h
      · exact .inr (.inl h)
    · exact ⟨p.length - 1 - q, by omega, .inr (.inr ⟨by omega, h⟩)⟩
  · rintro ⟨i, hi, h | h | ⟨h, h1⟩⟩
    · exact .inl ⟨i, hi, .inl h⟩
    · exact .inl ⟨i, hi, .inr h⟩
    · exact .inr ⟨p.length - 1 - i, by omega, by rw [h1]; congr 1; omega⟩
structure PtB (p : List Smp) : Prop where
  len : p.length ≤ 4096
  each : ∀ j, j < p.length → (-4194304 ≤ (p.getD j s0).l ∧ (p.getD j s0).l ≤ 4194304) ∧ (-4194304 ≤ (p.getD j s0).r ∧ (p.getD j s0).r ≤ 4194304)
theorem edgs_ok {b : Blnk} {p : List Smp} (hb : BlnkOK b) (hp : PtB p) : ∀ e, e ∈ edgs b p → EOK p.length 16777216 e := by
  intro e he
  obtain ⟨i, hi, h⟩ := edgs_mem.1 he
  obtain ⟨p1, p2⟩ := hb.per
  obtain ⟨f1, f2⟩ := hb.fast
  obtain ⟨s1, s2⟩ := hb.slow
  obtain ⟨l1, l2⟩ := hb.land
  have hi' := hp.each i hi
  rcases h with ⟨h1, rfl⟩ | ⟨h1, rfl⟩ | ⟨h1, rfl⟩
  · exact ⟨by simp only [eS]; omega, by simp only [eS]; omega, by simp only [eS]; omega, by simp only [eS]; omega⟩
  · have hk := hp.each ((i : Int) - b.per).toNat (by omega)
    exact ⟨by simp only [eL]; omega, by simp only [eL]; omega, by simp only [eL]; omega, by simp only [eL]; omega⟩
  · exact ⟨by simp only [eF]; omega, by simp only [eF]; omega, by simp only [eF]; omega, by simp only [eF]; omega⟩
def Feas (b : Blnk) (p : List Smp) (y : Nat → Int) : Prop := ∀ i, i < p.length → y i ≤ b.rim - (p.getD i s0).r ∧ 0 ≤ y i + ((p.getD i s0).l - b.core) ∧ (0 < i → y i ≤ y (i - 1) + -b.slow ∧ y (i - 1) ≤ y i + b.fast) ∧ (b.per ≤ i → y i ≤ y ((i : Int) - b.per).toNat + ((p.getD ((i : Int) - b.per).toNat s0).l - (p.getD i s0).r - b.land))
theorem toN1 (i : Nat) : ((i : Int) - 1).toNat = i - 1 := by omega
/-- The edges hold just if the rules between samples do. -/
theorem edgs_all {b : Blnk} {p : List Smp} {y : Nat → Int} : (∀ e, e ∈ edgs b p → y e.to.toNat ≤ y e.fr.toNat + e.w) ↔ ∀ i, i < p.length → (0 < i → y i ≤ y (i - 1) + -b.slow ∧ y (i - 1) ≤ y i + b.fast) ∧ (b.per ≤ i → y i ≤ y ((i : Int) - b.per).toNat + ((p.getD ((i : Int) - b.per).toNat s0).l - (p.getD i s0).r - b.land)) := by
  constructor
  · intro h i hi
    refine ⟨fun h0 => ⟨?_, ?_⟩, fun h0 => ?_⟩
    · have := h _ (edgs_mem.2 ⟨i, hi, .inl ⟨h0, rfl⟩⟩)
      simp only [eS, toN1, Int.toNat_natCast] at this
      exact this
    · have := h _ (edgs_mem.2 ⟨i, hi, .inr (.inr ⟨h0, rfl⟩)⟩)
      simp only [eF, toN1, Int.toNat_natCast] at this
      exact this
    · have := h _ (edgs_mem.2 ⟨i, hi, .inr (.inl ⟨h0, rfl⟩)⟩)
      simp only [eL, Int.toNat_natCast] at this
      exact this
  · intro h e he
    obtain ⟨i, hi, h1⟩ := edgs_mem.1 he
    obtain ⟨h2, h3⟩ := h i hi
    rcases h1 with ⟨h4, rfl⟩ | ⟨h4, rfl⟩ | ⟨h4, rfl⟩
    · simp only [eS, toN1, Int.toNat_natCast]
      exact (h2 h4).1
    · simp only [eL, Int.toNat_natCast]
      exact h3 h4
    · simp only [eF, toN1, Int.toNat_natCast]
      exact (h2 h4).2
theorem Feas.edges {b : Blnk} {p : List Smp} {y : Nat → Int} (h : Feas b p y) : ∀ e, e ∈ edgs b p → y e.to.toNat ≤ y e.fr.toNat + e.w := edgs_all.2 fun i hi => (h i hi).2.2
def iniF (b : Blnk) (p : List Smp) (i : Nat) : Int := b.rim - (p.getD i s0).r
/-- The outermost cut. -/
structure Best (b : Blnk) (p : List Smp) (R : List Int) : Prop where
  len : R.length = p.length
  ok : Feas b p (fun i => R.getD i 0)
  best : ∀ y, Feas b p y → ∀ i, i < p.length → y i ≤ R.getD i 0
abbrev LJp (b : Blnk) (p : List Smp) := LJ p.length (iniF b p) (edgs b p)
theorem LJ.start {b : Blnk} {p : List Smp} (hb : BlnkOK b) (hp : PtB p) {R : List Int} {P : List Edg} (l1 : R.length = p.length) (l2 : P.length = p.length) (gR : ∀ v, v < p.length → R.getD v 0 = iniF b p v) (gP : ∀ v, v < p.length → P.getD v e0 = eR b p v) : LJp b p [] 0 ⟨R, P, -1⟩ 16777216 0 (fun _ => 0) (fun _ => -1) := by
  refine ⟨l1, l2, fun v hv => ?_, fun v hv => ?_, fun y hy _ v hv => ?_, fun _ => Nat.le_refl _, fun _ => by decide, fun v hv => .inl ?_, fun e _ => .inl (by decide), fun e he => (List.not_mem_nil he).elim, .inl ⟨rfl, fun e he => (List.not_mem_nil he).elim⟩⟩
  · simp only [gR v hv]; exact Int.le_refl _
  · simp only [gR v hv]
    have := hp.each v hv
    have := hb.rim
    unfold iniF
    omega
  · simp only [gR v hv]; exact hy v hv
  · simp only [gP v hv]; exact ⟨rfl, trivial⟩
theorem LJ.fin {b : Blnk} {p : List Smp} {D : List Edg} {r : Int} {s : LSt} {L : Int} {N : Nat} {t : Nat → Nat} {T : Nat → Int} (h : LJp b p D r s L N t T) (hf : ∀ e, e ∈ edgs b p → s.R.getD e.to.toNat 0 ≤ s.R.getD e.fr.toNat 0 + e.w) (hc : ∀ i, i < p.length → 0 ≤ s.R.getD i 0 + ((p.getD i s0).l - b.core)) : Best b p s.R := by
  refine ⟨h.lr, fun i hi => ⟨h.hi i hi, hc i hi, ?_⟩, fun y hy => h.lb y (fun v hv => (hy v hv).1) hy.edges⟩
  exact (edgs_all (b := b) (p := p) (y := fun i => s.R.getD i 0)).1 hf i hi
theorem LJ.none {b : Blnk} {p : List Smp} {D : List Edg} {r : Int} {s : LSt} {L : Int} {N : Nat} {t : Nat → Nat} {T : Nat → Int} (h : LJp b p D r s L N t T) {i : Nat} (hi : i < p.length) (hc : s.R.getD i 0 + ((p.getD i s0).l - b.core) < 0) (y : Nat → Int) : ¬ Feas b p y := fun hy => by
  have h1 := h.lb y (fun v hv => (hy v hv).1) hy.edges i hi
  have h2 := (hy i hi).2.1
  omega
theorem LJ.none' {b : Blnk} {p : List Smp} (hb : BlnkOK b) (hp : PtB p) {D : List Edg} {r : Int} {s : LSt} {L : Int} {N : Nat} {t : Nat → Nat} {T : Nat → Int} (h : LJp b p D r s L N t T) (hr : (p.length : Int) + 1 ≤ r) (hc : s.c ≠ -1) (y : Nat → Int) : ¬ Feas b p y := fun hy => h.noc (edgs_ok hb hp) hr hc (fun v hv => (hy v hv).1) hy.edges
end Go.Sx

namespace Go.Sx
open Go Go.Proofs
set_option maxRecDepth 10000
set_option maxHeartbeats 1000000
theorem e209 : EntersF Tryz.prog 209 := enters_of Tryz.func209 (c := bodyOf Tryz.f209) (by kernel_rfl) rfl
theorem e117 : EntersF Tryz.prog 117 := enters_of Tryz.func117 (c := bodyOf Tryz.f117) (by kernel_rfl) rfl
/-! ### Names -/
def okC (c : Int) : Prop := (97 ≤ c ∧ c ≤ 122) ∨ (48 ≤ c ∧ c ≤ 57)
def chr (s : ByteArray) (j : Nat) : Int := ((s.data.toList.getD j 0).toNat : Int)
def nameOK (s : ByteArray) : Prop := 1 ≤ s.size ∧ s.size ≤ 20 ∧ ∀ j, j < s.size → okC (chr s j)
open Classical in
theorem s282 (s : ByteArray) : PSpec Tryz.prog 282 [.one (.str s)] (xP (nameOK s)) := by
  by_cases hs : s.size < 1 ∨ 20 < s.size
  · refine spec_of pMix (O := []) Tryz.func282 (c := bodyOf Tryz.f282) rfl (by kernel_rfl) (by kernel_rfl) Tryz.ntmps282 (res := [.tmp 2]) (by kernel_rfl) ?_
    repeat' ((conv => whnf); first | refine Rng.g ?_ | refine Ob.g ?_ | refine Ob.e ?_ | refine Ob.m ?_ | refine Ob.mk (Nat.le_of_ble_eq_true rfl) ?_ | refine JoinVC.on ?_ | refine Nils.mk (fun h => ?_) ?_ | refine Val.t ?_ | refine Val.d ?_ | refine Mm.mk ?_ | (refine Br.mk (fun h => ?_) (fun h => ?_) <;> first | (exfalso; omega; done) | (exfalso; simp at h; done) | skip))
    all_goals
      repeat refine Mm.mk ?_
      refine EndVC.mk _ rfl _ _ ⟨rfl, rfl⟩ ?_
      refine ⟨[], rfl, rfl, ?_, ?_⟩ <;> repeat' (first | exact trivial | exact rfl | exact Iff.rfl | apply And.intro)
      show ¬ _
      intro hn
      have := hn.1
      have := hn.2.1
      omega
  refine spec_of pMix (O := []) Tryz.func282 (c := bodyOf Tryz.f282) rfl (by kernel_rfl) (by kernel_rfl) Tryz.ntmps282 (res := [.tmp 2]) (by kernel_rfl) ?_
  repeat' ((conv => whnf); first | refine Rng.g ?_ | refine Ob.g ?_ | refine Ob.e ?_ | refine Ob.m ?_ | refine Ob.mk (Nat.le_of_ble_eq_true rfl) ?_ | refine JoinVC.on ?_ | refine Nils.mk (fun h => ?_) ?_ | refine Val.t ?_ | refine Val.d ?_ | refine Mm.mk ?_ | (refine Br.mk (fun h => ?_) (fun h => ?_) <;> first | (exfalso; omega; done) | (exfalso; simp at h; done) | skip))
  refine LoopVC.mk (fun n st => ∃ (i : Nat), i ≤ s.size ∧ n = s.size - i ∧ (∀ j, j < i → okC (chr s j)) ∧ st = ⟨0, envA 42 [(0, .x (.one (.str s))), (3, .int .i64 (i : Int))], []⟩) _ _ ⟨0, Nat.zero_le _, rfl, fun j hj => absurd hj (Nat.not_lt_zero j), rfl⟩ ?_ ?_
  · refine ⟨[], rfl, rfl, ?_, ?_⟩ <;> repeat' (first | exact trivial | exact rfl | exact Iff.rfl | apply And.intro)
  rintro n _ ⟨i, hi, hn, hj, rfl⟩
  have gc : chr s i = ((s.data.toList.getD (i : Int).toNat 0).toNat : Int) := rfl
  by_cases hi' : i < s.size
  · by_cases hc : okC (chr s i)
    · have hc' := hc
      unfold okC at hc'
      rw [gc] at hc'
      repeat' ((conv => whnf); first | refine Rng.g ?_ | refine Ob.g ?_ | refine Ob.e ?_ | refine Ob.m ?_ | refine Ob.mk (Nat.le_of_ble_eq_true rfl) ?_ | refine JoinVC.on ?_ | refine Nils.mk (fun h => ?_) ?_ | refine Val.t ?_ | refine Val.d ?_ | refine Mm.mk ?_ | (refine Br.mk (fun h => ?_) (fun h => ?_) <;> first | (exfalso; omega; done) | (exfalso; simp at h; done) | skip))
      all_goals
        refine Back.mk (s.size - (i + 1)) _ (by omega) ⟨i + 1, by omega, rfl, fun j hj' => ?_, rfl⟩ ?_
        · rcases Nat.lt_succ_iff_lt_or_eq.1 hj' with h' | rfl
          · exact hj j h'
          · exact hc
        · refine ⟨[], rfl, rfl, ?_, ?_⟩ <;> repeat' (first | exact trivial | exact rfl | exact Iff.rfl | apply And.intro)
    · have hc' := hc
      unfold okC at hc'
      rw [gc] at hc'
      repeat' ((conv => whnf); first | refine Rng.g ?_ | refine Ob.g ?_ | refine Ob.e ?_ | refine Ob.m ?_ | refine Ob.mk (Nat.le_of_ble_eq_true rfl) ?_ | refine JoinVC.on ?_ | refine Nils.mk (fun h => ?_) ?_ | refine Val.t ?_ | refine Val.d ?_ | refine Mm.mk ?_ | (refine Br.mk (fun h => ?_) (fun h => ?_) <;> first | (exfalso; omega; done) | (exfalso; simp at h; done) | skip))
      all_goals
        repeat refine Mm.mk ?_
        refine EndVC.mk _ rfl _ _ ⟨rfl, rfl⟩ ?_
        refine ⟨[], rfl, rfl, ?_, ?_⟩ <;> repeat' (first | exact trivial | exact rfl | exact Iff.rfl | apply And.intro)
        exact fun hn => hc (hn.2.2 i hi')
  · repeat' ((conv => whnf); first | refine Rng.g ?_ | refine Ob.g ?_ | refine Ob.e ?_ | refine Ob.m ?_ | refine Ob.mk (Nat.le_of_ble_eq_true rfl) ?_ | refine JoinVC.on ?_ | refine Nils.mk (fun h => ?_) ?_ | refine Val.t ?_ | refine Val.d ?_ | refine Mm.mk ?_ | (refine Br.mk (fun h => ?_) (fun h => ?_) <;> first | (exfalso; omega; done) | (exfalso; simp at h; done) | skip))
    repeat refine Mm.mk ?_
    refine EndVC.mk _ rfl _ _ ⟨rfl, rfl⟩ ?_
    refine ⟨[], rfl, rfl, ?_, ?_⟩ <;> repeat' (first | exact trivial | exact rfl | exact Iff.rfl | apply And.intro)
    · omega
    · omega
    · exact fun j hj' => hj j (by omega)
/-! ### Takes -/
structure Tak where
  nm : ByteArray
  d : List Smp
def takA (l : List Tak) : Arr := l.map fun t => [.str t.nm, .sl (smpA t.d)]
theorem takA_len (l : List Tak) : (takA l).length = l.length := by simp [takA]
abbrev t0 : Tak := ⟨ByteArray.empty, []⟩
theorem takA_n (l : List Tak) (i : Nat) : rS (takA l) i 0 = (l.getD i t0).nm := map_rS _ t0 l i 0 rfl
theorem takA_d (l : List Tak) (i : Nat) : rA (takA l) i 1 = smpA (l.getD i t0).d := map_rA _ t0 l i 1 rfl
@[reducible] def KT : List CK := [.str, .sl KS]
@[reducible] def lT (l : List Tak) : XV := .one (.lst true KT (takA l))
@[reducible] def Tak.x (t : Tak) : XV := .agg [.str t.nm, .lst true KS (smpA t.d)]
def SmpI (l : List Smp) : Prop := ∀ j, inI (l.getD j s0).l ∧ inI (l.getD j s0).r
open Classical in
/-- The error of a take. -/
noncomputable def takE (t : Tak) : Int := if 4096 < t.d.length then 6 else if ¬ nameOK t.nm ∨ t.d.length = 0 then 2 else smpE t.d
def Tak.ok (t : Tak) : Prop := nameOK t.nm ∧ 1 ≤ t.d.length ∧ t.d.length ≤ 4096 ∧ ∀ s ∈ t.d, s.ok
theorem takE_0 {t : Tak} : takE t = 0 ↔ t.ok := by
  unfold takE Tak.ok
  by_cases h1 : 4096 < t.d.length
  · rw [if_pos h1]; exact ⟨fun h => (by cases h), fun h => (by omega)⟩
  · rw [if_neg h1]
    by_cases h2 : ¬ nameOK t.nm ∨ t.d.length = 0
    · rw [if_pos h2]; exact ⟨fun h => (by cases h), fun h => h2.elim (fun h' => absurd h.1 h') (fun h' => (by omega))⟩
    · rw [if_neg h2, smpE_0]
      have h3 := not_or.1 h2
      exact ⟨fun h => ⟨Classical.not_not.1 h3.1, by omega, h.1, h.2⟩, fun h => ⟨h.2.2.1, h.2.2.2⟩⟩
theorem s209 (t : Tak) (hI : SmpI t.d) : PSpec Tryz.prog 209 [t.x] (.x (I (takE t))) := by
  have ll := smpA_len t.d
  unfold takE
  by_cases h1 : 4096 < t.d.length
  · rw [if_pos h1]
    refine spec_of pMix (O := []) Tryz.func209 (c := bodyOf Tryz.f209) rfl (by kernel_rfl) (by kernel_rfl) Tryz.ntmps209 (res := [.tmp 2]) (by kernel_rfl) ?_
    repeat' ((conv => whnf); first | refine Rng.g ?_ | refine Ob.g ?_ | refine Ob.e ?_ | refine Ob.m ?_ | refine Ob.mk (Nat.le_of_ble_eq_true rfl) ?_ | refine JoinVC.on ?_ | refine Nils.mk (fun h => ?_) ?_ | refine Val.t ?_ | refine Val.d ?_ | refine Mm.mk ?_ | (refine Br.mk (fun h => ?_) (fun h => ?_) <;> first | (exfalso; omega; done) | (exfalso; simp at h; done) | skip))
    repeat refine Mm.mk ?_
    refine EndVC.mk _ rfl _ _ ⟨rfl, rfl⟩ ?_
    refine ⟨[], rfl, rfl, ?_, ?_⟩ <;> repeat' (first | exact trivial | exact rfl | exact Iff.rfl | apply And.intro)
  rw [if_neg h1]
  by_cases h2 : nameOK t.nm
  · by_cases h3 : t.d.length = 0
    · rw [if_pos (.inr h3)]
      refine spec_of pMix (O := []) Tryz.func209 (c := bodyOf Tryz.f209) rfl (by kernel_rfl) (by kernel_rfl) Tryz.ntmps209 (res := [.tmp 2]) (by kernel_rfl) ?_
      repeat' ((conv => whnf); first | refine Rng.g ?_ | refine Ob.g ?_ | refine Ob.e ?_ | refine Ob.m ?_ | refine Ob.mk (Nat.le_of_ble_eq_true rfl) ?_ | refine JoinVC.on ?_ | refine Nils.mk (fun h => ?_) ?_ | refine Val.t ?_ | refine Val.d ?_ | refine Mm.mk ?_ | refine CallVC.pure rfl (s282 t.nm) ?_ | refine CallVC0.pure rfl (s282 t.nm) ?_ | (refine Br.mk (fun h => ?_) (fun h => ?_) <;> first | (exfalso; omega; done) | (exfalso; simp at h; done) | (exfalso; simp [h2] at h; done) | skip))
      repeat refine Mm.mk ?_
      refine EndVC.mk _ rfl _ _ ⟨rfl, rfl⟩ ?_
      refine ⟨[], rfl, rfl, ?_, ?_⟩ <;> repeat' (first | exact trivial | exact rfl | exact Iff.rfl | apply And.intro)
    · rw [if_neg (by rintro (h | h); exact h h2; exact h3 h)]
      refine spec_of pMix (O := []) Tryz.func209 (c := bodyOf Tryz.f209) rfl (by kernel_rfl) (by kernel_rfl) Tryz.ntmps209 (res := [.tmp 2]) (by kernel_rfl) ?_
      repeat' ((conv => whnf); first | refine Rng.g ?_ | refine Ob.g ?_ | refine Ob.e ?_ | refine Ob.m ?_ | refine Ob.mk (Nat.le_of_ble_eq_true rfl) ?_ | refine JoinVC.on ?_ | refine Nils.mk (fun h => ?_) ?_ | refine Val.t ?_ | refine Val.d ?_ | refine Mm.mk ?_ | refine CallVC.pure rfl (s282 t.nm) ?_ | refine CallVC.pure rfl (s58 t.d hI) ?_ | refine CallVC0.pure rfl (s282 t.nm) ?_ | refine CallVC0.pure rfl (s58 t.d hI) ?_ | (refine Br.mk (fun h => ?_) (fun h => ?_) <;> first | (exfalso; omega; done) | (exfalso; simp at h; done) | (exfalso; simp [h2] at h; done) | skip))
      repeat refine Mm.mk ?_
      refine EndVC.mk _ rfl _ _ ⟨rfl, rfl⟩ ?_
      refine ⟨[], rfl, rfl, ?_, ?_⟩ <;> repeat' (first | exact trivial | exact rfl | exact Iff.rfl | apply And.intro)
  · rw [if_pos (.inl h2)]
    refine spec_of pMix (O := []) Tryz.func209 (c := bodyOf Tryz.f209) rfl (by kernel_rfl) (by kernel_rfl) Tryz.ntmps209 (res := [.tmp 2]) (by kernel_rfl) ?_
    repeat' ((conv => whnf); first | refine Rng.g ?_ | refine Ob.g ?_ | refine Ob.e ?_ | refine Ob.m ?_ | refine Ob.mk (Nat.le_of_ble_eq_true rfl) ?_ | refine JoinVC.on ?_ | refine Nils.mk (fun h => ?_) ?_ | refine Val.t ?_ | refine Val.d ?_ | refine Mm.mk ?_ | refine CallVC.pure rfl (s282 t.nm) ?_ | refine CallVC0.pure rfl (s282 t.nm) ?_ | (refine Br.mk (fun h => ?_) (fun h => ?_) <;> first | (exfalso; omega; done) | (exfalso; simp at h; done) | (exfalso; simp [h2] at h; done) | skip))
    repeat refine Mm.mk ?_
    refine EndVC.mk _ rfl _ _ ⟨rfl, rfl⟩ ?_
    refine ⟨[], rfl, rfl, ?_, ?_⟩ <;> repeat' (first | exact trivial | exact rfl | exact Iff.rfl | apply And.intro)
def TakI (l : List Tak) : Prop := ∀ j, SmpI (l.getD j t0).d
/-- All takes are right, with different names. -/
structure TaksOK (l : List Tak) : Prop where
  len : 1 ≤ l.length ∧ l.length ≤ 16
  each : ∀ j, j < l.length → (l.getD j t0).ok
  names : ∀ i j, i < l.length → j < i → (l.getD i t0).nm ≠ (l.getD j t0).nm
theorem s117 (l : List Tak) (hI : TakI l) : HSpec Tryz.prog 117 [lT l] [] (fun r m' => ∃ e, r = .x (I e) ∧ m' = [] ∧ (e = 0 ↔ TaksOK l)) := by
  have ll := takA_len l
  by_cases hl : l.length < 1 ∨ 16 < l.length
  · refine spec_of pMix (O := []) Tryz.func117 (c := bodyOf Tryz.f117) rfl (by kernel_rfl) (by kernel_rfl) Tryz.ntmps117 (res := [.tmp 2]) (by kernel_rfl) ?_
    repeat' ((conv => whnf); first | refine Rng.g ?_ | refine Ob.g ?_ | refine Ob.e ?_ | refine Ob.m ?_ | refine Ob.mk (Nat.le_of_ble_eq_true rfl) ?_ | refine JoinVC.on ?_ | refine Nils.mk (fun h => ?_) ?_ | refine Val.t ?_ | refine Val.d ?_ | refine Mm.mk ?_ | (refine Br.mk (fun h => ?_) (fun h => ?_) <;> first | (exfalso; omega; done) | (exfalso; simp at h; done) | skip))
    all_goals
      repeat refine Mm.mk ?_
      conv => whnf
      refine EndVC.mk _ rfl _ _ (⟨6, rfl, rfl, ⟨fun h => (by cases h), fun h => (by have := h.len; omega)⟩⟩) ?_
      refine ⟨[], rfl, rfl, ?_, ?_⟩ <;> repeat' (first | exact trivial | exact rfl | exact Iff.rfl | apply And.intro)
  refine spec_of pMix (O := []) Tryz.func117 (c := bodyOf Tryz.f117) rfl (by kernel_rfl) (by kernel_rfl) Tryz.ntmps117 (res := [.tmp 2]) (by kernel_rfl) ?_
  repeat' ((conv => whnf); first | refine Rng.g ?_ | refine Ob.g ?_ | refine Ob.e ?_ | refine Ob.m ?_ | refine Ob.mk (Nat.le_of_ble_eq_true rfl) ?_ | refine JoinVC.on ?_ | refine Nils.mk (fun h => ?_) ?_ | refine Val.t ?_ | refine Val.d ?_ | refine Mm.mk ?_ | (refine Br.mk (fun h => ?_) (fun h => ?_) <;> first | (exfalso; omega; done) | (exfalso; simp at h; done) | skip))
  refine LoopVC.mk (fun n st => ∃ (i : Nat), i ≤ l.length ∧ n = l.length - i ∧ (∀ j, j < i → (l.getD j t0).d.length ≤ 4096) ∧ st = ⟨0, envA 62 [(0, .x (lT l)), (3, .int .i64 (i : Int))], []⟩) _ _ ⟨0, Nat.zero_le _, rfl, fun j hj => absurd hj (Nat.not_lt_zero j), rfl⟩ ?_ ?_
  · refine ⟨[], rfl, rfl, ?_, ?_⟩ <;> repeat' (first | exact trivial | exact rfl | exact Iff.rfl | apply And.intro)
  rintro n _ ⟨i, hi, hn, hj, rfl⟩
  have gd : rA (takA l) (i : Int).toNat 1 = smpA (l.getD i t0).d := takA_d l i
  have gl : (rA (takA l) (i : Int).toNat (0 + (0 + 1))).length = (l.getD i t0).d.length := (congrArg List.length gd).trans (smpA_len _)
  by_cases hi' : i < l.length
  · repeat' ((conv => whnf); first | refine Rng.g ?_ | refine Ob.g ?_ | refine Ob.e ?_ | refine Ob.m ?_ | refine Ob.mk (Nat.le_of_ble_eq_true rfl) ?_ | refine JoinVC.on ?_ | refine Nils.mk (fun h => ?_) ?_ | refine Val.t ?_ | refine Val.d ?_ | refine Mm.mk ?_ | (refine Br.mk (fun h => ?_) (fun h => ?_) <;> first | (exfalso; omega; done) | (exfalso; simp at h; done) | skip))
    · repeat refine Mm.mk ?_
      conv => whnf
      refine EndVC.mk _ rfl _ _ (⟨6, rfl, rfl, ⟨fun h => (by cases h), fun h' => (by have := (h'.each i hi').2.2.1; omega)⟩⟩) ?_
      refine ⟨[], rfl, rfl, ?_, ?_⟩ <;> repeat' (first | exact trivial | exact rfl | exact Iff.rfl | apply And.intro)
    · refine Back.mk (l.length - (i + 1)) _ (by omega) ⟨i + 1, by omega, rfl, fun j hj' => ?_, rfl⟩ ?_
      · rcases Nat.lt_succ_iff_lt_or_eq.1 hj' with h' | rfl
        · exact hj j h'
        · omega
      · refine ⟨[], rfl, rfl, ?_, ?_⟩ <;> repeat' (first | exact trivial | exact rfl | exact Iff.rfl | apply And.intro)
  have hd : ∀ j, j < l.length → (l.getD j t0).d.length ≤ 4096 := fun j hj' => hj j (by omega)
  clear gd gl hj
  repeat' ((conv => whnf); first | refine Rng.g ?_ | refine Ob.g ?_ | refine Ob.e ?_ | refine Ob.m ?_ | refine Ob.mk (Nat.le_of_ble_eq_true rfl) ?_ | refine JoinVC.on ?_ | refine Nils.mk (fun h => ?_) ?_ | refine Val.t ?_ | refine Val.d ?_ | refine Mm.mk ?_ | (refine Br.mk (fun h => ?_) (fun h => ?_) <;> first | (exfalso; omega; done) | (exfalso; simp at h; done) | skip))
  clear hi' hi hn
  refine LoopVC.mk (fun n st => ∃ (i : Nat), i ≤ l.length ∧ n = l.length - i ∧ (∀ j, j < i → (l.getD j t0).ok) ∧ st = ⟨0, envA 62 [(0, .x (lT l)), (4, .int .i64 (i : Int))], []⟩) _ _ ⟨0, Nat.zero_le _, rfl, fun j hj => absurd hj (Nat.not_lt_zero j), rfl⟩ ?_ ?_
  · refine ⟨[], rfl, rfl, ?_, ?_⟩ <;> repeat' (first | exact trivial | exact rfl | exact Iff.rfl | apply And.intro)
  rintro n _ ⟨i, hi, hn, hj, rfl⟩
  have gd : rA (takA l) (i : Int).toNat 1 = smpA (l.getD i t0).d := takA_d l i
  have gn : rS (takA l) (i : Int).toNat 0 = (l.getD i t0).nm := takA_n l i
  have c1 := s209 (l.getD i t0) (hI i)
  unfold Tak.x at c1
  rw [← gd, ← gn] at c1
  by_cases hi' : i < l.length
  · repeat' ((conv => whnf); first | refine Rng.g ?_ | refine Ob.g ?_ | refine Ob.e ?_ | refine Ob.m ?_ | refine Ob.mk (Nat.le_of_ble_eq_true rfl) ?_ | refine JoinVC.on ?_ | refine Nils.mk (fun h => ?_) ?_ | refine Val.t ?_ | refine Val.d ?_ | refine Mm.mk ?_ | refine CallVC.pure rfl (c1) ?_ | refine CallVC0.pure rfl (c1) ?_ | (refine Br.mk (fun h => ?_) (fun h => ?_) <;> first | (exfalso; omega; done) | (exfalso; simp at h; done) | skip))
    · repeat refine Mm.mk ?_
      conv => whnf
      refine EndVC.mk _ rfl _ _ (⟨2, rfl, rfl, ⟨fun h => (by cases h), fun h' => absurd (takE_0.2 (h'.each i hi')) h⟩⟩) ?_
      refine ⟨[], rfl, rfl, ?_, ?_⟩ <;> repeat' (first | exact trivial | exact rfl | exact Iff.rfl | apply And.intro)
    · refine Back.mk (l.length - (i + 1)) _ (by omega) ⟨i + 1, by omega, rfl, fun j hj' => ?_, rfl⟩ ?_
      · rcases Nat.lt_succ_iff_lt_or_eq.1 hj' with h' | rfl
        · exact hj j h'
        · exact takE_0.1 (Classical.not_not.1 h)
      · refine ⟨[], rfl, rfl, ?_, ?_⟩ <;> repeat' (first | exact trivial | exact rfl | exact Iff.rfl | apply And.intro)
  have he : ∀ j, j < l.length → (l.getD j t0).ok := fun j hj' => hj j (by omega)
  clear gd gn hj c1
  repeat' ((conv => whnf); first | refine Rng.g ?_ | refine Ob.g ?_ | refine Ob.e ?_ | refine Ob.m ?_ | refine Ob.mk (Nat.le_of_ble_eq_true rfl) ?_ | refine JoinVC.on ?_ | refine Nils.mk (fun h => ?_) ?_ | refine Val.t ?_ | refine Val.d ?_ | refine Mm.mk ?_ | (refine Br.mk (fun h => ?_) (fun h => ?_) <;> first | (exfalso; omega; done) | (exfalso; simp at h; done) | skip))
  clear hi' hi hn
  refine LoopVC.mk (fun n st => ∃ (i : Nat), i ≤ l.length ∧ n = l.length - i ∧ (∀ a b, a < i → b < a → (l.getD a t0).nm ≠ (l.getD b t0).nm) ∧ st = ⟨0, envA 62 [(0, .x (lT l)), (5, .int .i64 (i : Int))], []⟩) _ _ ⟨0, Nat.zero_le _, rfl, fun a b h => absurd h (Nat.not_lt_zero a), rfl⟩ ?_ ?_
  · refine ⟨[], rfl, rfl, ?_, ?_⟩ <;> repeat' (first | exact trivial | exact rfl | exact Iff.rfl | apply And.intro)
  rintro n _ ⟨i, hi, hn, hj, rfl⟩
  have gn : rS (takA l) (i : Int).toNat 0 = (l.getD i t0).nm := takA_n l i
  by_cases hi' : i < l.length
  · repeat' ((conv => whnf); first | refine Rng.g ?_ | refine Ob.g ?_ | refine Ob.e ?_ | refine Ob.m ?_ | refine Ob.mk (Nat.le_of_ble_eq_true rfl) ?_ | refine JoinVC.on ?_ | refine Nils.mk (fun h => ?_) ?_ | refine Val.t ?_ | refine Val.d ?_ | refine Mm.mk ?_ | (refine Br.mk (fun h => ?_) (fun h => ?_) <;> first | (exfalso; omega; done) | (exfalso; simp at h; done) | skip))
    refine LoopVC.mk (fun n st => ∃ (k : Nat), k ≤ i ∧ n = i - k ∧ (∀ b, b < k → (l.getD i t0).nm ≠ (l.getD b t0).nm) ∧ st = ⟨0, envA 62 [(0, .x (lT l)), (5, .int .i64 (i : Int)), (6, .int .i64 (k : Int))], []⟩) _ _ ⟨0, Nat.zero_le _, rfl, fun b h => absurd h (Nat.not_lt_zero b), rfl⟩ ?_ ?_
    · refine ⟨[], rfl, rfl, ?_, ?_⟩ <;> repeat' (first | exact trivial | exact rfl | exact Iff.rfl | apply And.intro)
    rintro n2 _ ⟨k, hk, hn2, hb, rfl⟩
    have gk : rS (takA l) (k : Int).toNat 0 = (l.getD k t0).nm := takA_n l k
    by_cases hk' : k < i
    · repeat' ((conv => whnf); first | refine Rng.g ?_ | refine Ob.g ?_ | refine Ob.e ?_ | refine Ob.m ?_ | refine Ob.mk (Nat.le_of_ble_eq_true rfl) ?_ | refine JoinVC.on ?_ | refine Nils.mk (fun h => ?_) ?_ | refine Val.t ?_ | refine Val.d ?_ | refine Mm.mk ?_ | (refine Br.mk (fun h => ?_) (fun h => ?_) <;> first | (exfalso; omega; done) | (exfalso; simp at h; done) | skip))
      · rw [gn, gk] at h
        repeat refine Mm.mk ?_
        conv => whnf
        refine EndVC.mk _ rfl _ _ (⟨12, rfl, rfl, ⟨fun h => (by cases h), fun h' => absurd h (h'.names i k hi' hk')⟩⟩) ?_
        refine ⟨[], rfl, rfl, ?_, ?_⟩ <;> repeat' (first | exact trivial | exact rfl | exact Iff.rfl | apply And.intro)
      · rw [gn, gk] at h
        refine Back.mk (i - (k + 1)) _ (by omega) ⟨k + 1, by omega, rfl, fun b hb' => ?_, rfl⟩ ?_
        · rcases Nat.lt_succ_iff_lt_or_eq.1 hb' with h' | rfl
          · exact hb b h'
          · exact h
        · refine ⟨[], rfl, rfl, ?_, ?_⟩ <;> repeat' (first | exact trivial | exact rfl | exact Iff.rfl | apply And.intro)
    · repeat' ((conv => whnf); first | refine Rng.g ?_ | refine Ob.g ?_ | refine Ob.e ?_ | refine Ob.m ?_ | refine Ob.mk (Nat.le_of_ble_eq_true rfl) ?_ | refine JoinVC.on ?_ | refine Nils.mk (fun h => ?_) ?_ | refine Val.t ?_ | refine Val.d ?_ | refine Mm.mk ?_ | (refine Br.mk (fun h => ?_) (fun h => ?_) <;> first | (exfalso; omega; done) | (exfalso; simp at h; done) | skip))
      refine Back.mk (l.length - (i + 1)) _ (by omega) ⟨i + 1, by omega, rfl, fun a b ha hb' => ?_, rfl⟩ ?_
      · rcases Nat.lt_succ_iff_lt_or_eq.1 ha with h' | rfl
        · exact hj a b h' hb'
        · exact hb b (by omega)
      · refine ⟨[], rfl, rfl, ?_, ?_⟩ <;> repeat' (first | exact trivial | exact rfl | exact Iff.rfl | apply And.intro)
  · repeat' ((conv => whnf); first | refine Rng.g ?_ | refine Ob.g ?_ | refine Ob.e ?_ | refine Ob.m ?_ | refine Ob.mk (Nat.le_of_ble_eq_true rfl) ?_ | refine JoinVC.on ?_ | refine Nils.mk (fun h => ?_) ?_ | refine Val.t ?_ | refine Val.d ?_ | refine Mm.mk ?_ | (refine Br.mk (fun h => ?_) (fun h => ?_) <;> first | (exfalso; omega; done) | (exfalso; simp at h; done) | skip))
    repeat refine Mm.mk ?_
    conv => whnf
    refine EndVC.mk _ rfl _ _ (⟨0, rfl, rfl, ⟨fun _ => ⟨by omega, he, fun a b ha hb => hj a b (by omega) hb⟩, fun _ => rfl⟩⟩) ?_
    refine ⟨[], rfl, rfl, ?_, ?_⟩ <;> repeat' (first | exact trivial | exact rfl | exact Iff.rfl | apply And.intro)
end Go.Sx

namespace Go.Sx
open Go Go.Proofs
set_option maxRecDepth 10000
set_option maxHeartbeats 4000000
/-! ### A groove without a signal, and a groove in its band -/
theorem rep_get {k i : Nat} (s : Smp) (h : i < k) : (List.replicate k s).getD i s0 = s := by simp [List.getD_eq_getElem?_getD, h]
theorem div_back {i : Nat} {per : Int} (hp : 1 ≤ per) (h : per ≤ i) : ((((i : Int) - per).toNat : Nat) : Int) / per = (i : Int) / per - 1 := by
  rw [Int.toNat_of_nonneg (by omega)]
  have h1 := Int.add_mul_ediv_left ((i : Int) - per) 1 (show per ≠ 0 by omega)
  rw [show (i : Int) - per + per * 1 = i by omega] at h1
  omega
theorem div_step {i : Nat} {per : Int} (hp : 1 ≤ per) (h : 0 < i) : ((i - 1 : Nat) : Int) / per ≤ (i : Int) / per ∧ (i : Int) / per ≤ ((i - 1 : Nat) : Int) / per + 1 := by
  have h1 : ((i - 1 : Nat) : Int) ≤ (i : Int) := by omega
  refine ⟨Int.ediv_le_ediv (by omega) h1, ?_⟩
  have h2 := Int.add_mul_ediv_left ((i - 1 : Nat) : Int) 1 (show per ≠ 0 by omega)
  rw [← h2]
  exact Int.ediv_le_ediv (by omega) (by omega)
theorem div_nonneg' {i : Nat} {per : Int} (hp : 1 ≤ per) : 0 ≤ (i : Int) / per := Int.ediv_nonneg (by omega) (by omega)
theorem sil_feas {b : Blnk} {h : Int} {k : Nat} (hk : 1 ≤ k) (hp : 1 ≤ b.per) (hs : b.slow = 0) (hh : 0 ≤ 2 * h + b.land) (hf : 2 * h + b.land ≤ b.fast) : (∃ y, Feas b (List.replicate k ⟨-h, h⟩) y) ↔ b.core + 2 * h + (2 * h + b.land) * (((k : Int) - 1) / b.per) ≤ b.rim := by
  have hl : (List.replicate k (⟨-h, h⟩ : Smp)).length = k := List.length_replicate
  obtain ⟨g, hg⟩ : ∃ g, 2 * h + b.land = g := ⟨_, rfl⟩
  rw [hg] at hh hf ⊢
  constructor
  · rintro ⟨y, hy⟩
    have main : ∀ j i : Nat, i < k → (j : Int) * b.per ≤ i → y i ≤ b.rim - h - g * j := by
      intro j
      induction j with
      | zero =>
        intro i hi _
        have := (hy i (by rw [hl]; exact hi)).1
        rw [rep_get _ hi] at this
        show y i ≤ b.rim - h - g * (0 : Int)
        rw [Int.mul_zero]
        simp only at this
        omega
      | succ j ih =>
        intro i hi hj
        have e : ((j + 1 : Nat) : Int) * b.per = (j : Int) * b.per + b.per := by rw [Int.natCast_add, Int.add_mul]; simp
        have e2 : g * ((j + 1 : Nat) : Int) = g * j + g := by rw [Int.natCast_add, Int.mul_add]; simp
        have h0 : 0 ≤ (j : Int) * b.per := Int.mul_nonneg (by omega) (by omega)
        have h1 := (hy i (by rw [hl]; exact hi)).2.2.2 (by omega)
        have h2 := ih ((i : Int) - b.per).toNat (by omega) (by omega)
        rw [rep_get _ hi, rep_get _ (show ((i : Int) - b.per).toNat < k by omega)] at h1
        simp only at h1
        omega
    have hj : 0 ≤ ((k : Int) - 1) / b.per := Int.ediv_nonneg (by omega) (by omega)
    have h3 := main (((k : Int) - 1) / b.per).toNat (k - 1) (by omega) (by
      rw [Int.toNat_of_nonneg hj]
      have := Int.ediv_mul_le ((k : Int) - 1) (show b.per ≠ 0 by omega)
      omega)
    rw [Int.toNat_of_nonneg hj] at h3
    have h4 := (hy (k - 1) (by rw [hl]; omega)).2.1
    rw [rep_get _ (show k - 1 < k by omega)] at h4
    simp only at h4
    omega
  · intro hr
    refine ⟨fun i => b.rim - h - g * ((i : Int) / b.per), fun i hi => ?_⟩
    rw [hl] at hi
    rw [rep_get _ hi]
    simp only
    have h0 : 0 ≤ g * ((i : Int) / b.per) := Int.mul_nonneg hh (div_nonneg' hp)
    refine ⟨by omega, ?_, fun h1 => ?_, fun h1 => ?_⟩
    · have h2 : (i : Int) / b.per ≤ ((k : Int) - 1) / b.per := Int.ediv_le_ediv (by omega) (by omega)
      have h3 := Int.mul_le_mul_of_nonneg_left h2 hh
      omega
    · obtain ⟨h2, h3⟩ := div_step hp h1
      have h4 := Int.mul_le_mul_of_nonneg_left h2 hh
      have h5 := Int.mul_le_mul_of_nonneg_left h3 hh
      rw [Int.mul_add] at h5
      omega
    · rw [rep_get _ (show ((i : Int) - b.per).toNat < k by omega), div_back hp h1]
      simp only
      rw [Int.mul_sub]
      omega
/-- A cut that goes inwards by the pitch once in a turn. -/
def plainF (outer most pitch per : Int) (i : Nat) : Int := outer - most - pitch * ((i : Int) / per)
theorem band_feas {p : List Smp} {outer most least pitch land per : Int} (hper : 1 ≤ per) (h0 : 0 ≤ pitch) (hl : 0 ≤ land) (hm : ∀ i, i < p.length → (p.getD i s0).r ≤ most ∧ least ≤ (p.getD i s0).l) (hp : most - least + land ≤ pitch) : Feas ⟨per, outer, outer - pitch * (((p.length : Int) + per - 1) / per), land, 0, pitch⟩ p (plainF outer most pitch per) := by
  intro i hi
  obtain ⟨m1, m2⟩ := hm i hi
  have n0 : 0 ≤ pitch * ((i : Int) / per) := Int.mul_nonneg h0 (div_nonneg' hper)
  simp only [plainF]
  refine ⟨by omega, ?_, fun h1 => ?_, fun h1 => ?_⟩
  · have h2 : (i : Int) / per + 1 ≤ ((p.length : Int) + per - 1) / per := by
      have h3 := Int.add_mul_ediv_left (i : Int) 1 (show per ≠ 0 by omega)
      rw [← h3]
      exact Int.ediv_le_ediv (by omega) (by omega)
    have h4 := Int.mul_le_mul_of_nonneg_left h2 h0
    rw [Int.mul_add] at h4
    omega
  · obtain ⟨h2, h3⟩ := div_step hper h1
    have h4 := Int.mul_le_mul_of_nonneg_left h2 h0
    have h5 := Int.mul_le_mul_of_nonneg_left h3 h0
    rw [Int.mul_add] at h5
    omega
  · obtain ⟨m3, m4⟩ := hm ((i : Int) - per).toNat (by omega)
    rw [div_back hper h1, Int.mul_sub]
    omega
/-! ### Sorting by insertion -/
def swp (O : List Int) (j : Nat) : List Int := (O.set (j + 1) (O.getD j 0)).set j (O.getD (j + 1) 0)
def ins (lt : Int → Int → Bool) (O : List Int) : Nat → List Int
  | 0 => O
  | j + 1 => if lt (O.getD (j + 1) 0) (O.getD j 0) = true then ins lt (swp O j) j else O
def isr (lt : Int → Int → Bool) (O : List Int) : Nat → List Int
  | 0 => O
  | k + 1 => ins lt (isr lt O k) (k + 1)
theorem swp_len (O : List Int) (j : Nat) : (swp O j).length = O.length := by simp [swp]
theorem ins_len (lt : Int → Int → Bool) : ∀ (j : Nat) (O : List Int), (ins lt O j).length = O.length
  | 0, O => rfl
  | j + 1, O => by
    unfold ins
    split
    · rw [ins_len lt j, swp_len]
    · rfl
theorem isr_len (lt : Int → Int → Bool) (O : List Int) : ∀ k, (isr lt O k).length = O.length
  | 0 => rfl
  | k + 1 => by
    unfold isr
    rw [ins_len, isr_len lt O k]
/-- Each number below n, once. -/
structure IdxOK (O : List Int) (n : Nat) : Prop where
  len : O.length = n
  rng : ∀ i, i < n → 0 ≤ O.getD i 0 ∧ O.getD i 0 < n
  inj : ∀ i j, i < n → j < n → O.getD i 0 = O.getD j 0 → i = j
def sgF (j i : Nat) : Nat := if i = j then j + 1 else if i = j + 1 then j else i
theorem swp_get (O : List Int) {j : Nat} (h : j + 1 < O.length) (i : Nat) : (swp O j).getD i 0 = O.getD (sgF j i) 0 := by
  unfold swp sgF
  rw [gset _ _ _ _ _ (by simp; omega), gset _ _ _ _ _ h]
  split
  · rfl
  · split <;> rfl
theorem sg_lt {n j i : Nat} (hj : j + 1 < n) (hi : i < n) : sgF j i < n := by unfold sgF; split <;> (try split) <;> omega
theorem sg_inj {j i k : Nat} (h : sgF j i = sgF j k) : i = k := by unfold sgF at h; (repeat' split at h) <;> omega
theorem IdxOK.swp {O : List Int} {n : Nat} (h : IdxOK O n) {j : Nat} (hj : j + 1 < n) : IdxOK (Go.Sx.swp O j) n := by
  have hl := h.len
  have g := swp_get O (j := j) (by omega)
  refine ⟨by rw [swp_len]; exact hl, fun i hi => ?_, fun i k hi hk => ?_⟩
  · rw [g]
    exact h.rng _ (sg_lt hj hi)
  · rw [g, g]
    exact fun e => sg_inj (h.inj _ _ (sg_lt hj hi) (sg_lt hj hk) e)
theorem IdxOK.ins {lt : Int → Int → Bool} {n : Nat} : ∀ (j : Nat) {O : List Int}, IdxOK O n → j < n → IdxOK (Go.Sx.ins lt O j) n
  | 0, O, h, _ => h
  | j + 1, O, h, hj => by
    unfold Go.Sx.ins
    split
    · exact IdxOK.ins j (h.swp hj) (by omega)
    · exact h
theorem IdxOK.isr {lt : Int → Int → Bool} {n : Nat} {O : List Int} (h : IdxOK O n) : ∀ k, k < n → IdxOK (Go.Sx.isr lt O k) n
  | 0, _ => h
  | k + 1, hk => by
    unfold Go.Sx.isr
    exact IdxOK.ins (k + 1) (h.isr k (by omega)) hk
def spanL (i n : Nat) : List Int := (List.range n).map fun k => ((i + k : Nat) : Int)
theorem spanL_len (i n : Nat) : (spanL i n).length = n := by simp [spanL]
theorem spanL_get (i n k : Nat) (h : k < n) : (spanL i n).getD k 0 = ((i + k : Nat) : Int) := by simp [spanL, List.getD_eq_getElem?_getD, List.getElem?_range h]
theorem spanL_succ (i n : Nat) : spanL i (n + 1) = spanL i n ++ [((i + n : Nat) : Int)] := by simp [spanL, List.range_succ]
theorem span_idx (n : Nat) : IdxOK (spanL 0 n) n := ⟨spanL_len 0 n, fun i hi => by rw [spanL_get _ _ _ hi]; omega, fun i j hi hj e => by rw [spanL_get _ _ _ hi, spanL_get _ _ _ hj] at e; omega⟩
/-! ### The bands of a side -/
structure Fmt where
  nm : ByteArray
  outer : Int
  inner : Int
  per : Int
  lead : Int
  gap : Int
  tail : Int
  cost : Int
structure FmtOK (f : Fmt) : Prop where
  nm : nameOK f.nm
  outer : 1 ≤ f.outer ∧ f.outer ≤ 4194304
  inner : 0 ≤ f.inner ∧ f.inner ≤ f.outer - 1
  per : 1 ≤ f.per ∧ f.per ≤ 65536
  cost : 0 ≤ f.cost ∧ f.cost ≤ 1048576
  lead : 0 ≤ f.lead ∧ f.lead ≤ 4194304
  gap : 0 ≤ f.gap ∧ f.gap ≤ 4194304
  tail : 0 ≤ f.tail ∧ f.tail ≤ 4194304
structure Sng where
  long : Int
  pitch : Int
  least : Int
abbrev g0 : Sng := ⟨0, 0, 0⟩
def Sng.ok (g : Sng) : Prop := (1 ≤ g.long ∧ g.long ≤ 16777216) ∧ (1 ≤ g.pitch ∧ g.pitch ≤ 4096) ∧ (0 ≤ g.least ∧ g.least ≤ 4194304)
structure SngsOK (l : List Sng) : Prop where
  len : l.length ≤ 24
  each : ∀ j, j < l.length → (l.getD j g0).ok
def widF (f : Fmt) (g : Sng) : Int := g.pitch * ((g.long + f.per - 1) / f.per)
theorem wid_bd {f : Fmt} {g : Sng} (hp : 1 ≤ f.per) (hg : g.ok) : (1 ≤ (g.long + f.per - 1) / f.per ∧ (g.long + f.per - 1) / f.per ≤ 16777216) ∧ 1 ≤ widF f g ∧ widF f g ≤ 68719476736 := by
  obtain ⟨⟨l1, l2⟩, ⟨p1, p2⟩, _⟩ := hg
  have h1 : 1 ≤ (g.long + f.per - 1) / f.per := by
    have := Int.add_mul_ediv_left (g.long - 1) 1 (show f.per ≠ 0 by omega)
    rw [show g.long - 1 + f.per * 1 = g.long + f.per - 1 by omega] at this
    have h2 : 0 ≤ (g.long - 1) / f.per := Int.ediv_nonneg (by omega) (by omega)
    omega
  have h2 : (g.long + f.per - 1) / f.per ≤ 16777216 := by
    have := Int.add_mul_ediv_left (g.long - 1) 1 (show f.per ≠ 0 by omega)
    rw [show g.long - 1 + f.per * 1 = g.long + f.per - 1 by omega] at this
    have h3 : (g.long - 1) / f.per ≤ g.long - 1 := Int.ediv_le_self _ (by omega)
    omega
  refine ⟨⟨h1, h2⟩, ?_, ?_⟩
  · unfold widF
    have := Int.mul_le_mul p1 h1 (by decide) (by omega)
    omega
  · unfold widF
    have := Int.mul_le_mul p2 h2 (by omega) (by decide)
    omega
/-- Where the next track begins or ends. -/
def atF (f : Fmt) (l : List Sng) (O : List Int) : Nat → Int
  | 0 => f.outer - f.lead
  | i + 1 => atF f l O i - (if 0 < i then f.gap else 0) - widF f (l.getD (O.getD i 0).toNat g0)
theorem atF_bd {f : Fmt} {l : List Sng} {O : List Int} (hf : FmtOK f) (hl : SngsOK l) (hO : ∀ i, i < O.length → 0 ≤ O.getD i 0 ∧ O.getD i 0 < l.length) : ∀ i, i ≤ O.length → atF f l O i ≤ 4194304 ∧ -4194304 - 68723671040 * (i : Int) ≤ atF f l O i
  | 0, _ => by
    have := hf.outer
    have := hf.lead
    unfold atF
    omega
  | i + 1, hi => by
    have h1 := atF_bd hf hl hO i (by omega)
    have h2 := hO i (by omega)
    have h3 := (wid_bd hf.per.1 (hl.each (O.getD i 0).toNat (by omega))).2
    have := hf.gap
    unfold atF
    split <;> omega
def bndR (f : Fmt) (l : List Sng) (O : List Int) (i : Nat) : List Cell := [.int (O.getD i 0), .int (atF f l O i - (if 0 < i then f.gap else 0)), .int (atF f l O (i + 1))]
def bndA (f : Fmt) (l : List Sng) (O : List Int) (n : Nat) : Arr := (List.range n).map (bndR f l O)
theorem bndA_len (f : Fmt) (l : List Sng) (O : List Int) (n : Nat) : (bndA f l O n).length = n := by simp [bndA]
theorem bndA_succ (f : Fmt) (l : List Sng) (O : List Int) (n : Nat) : bndA f l O (n + 1) = bndA f l O n ++ [bndR f l O n] := by simp [bndA, List.range_succ]
def okAt (f : Fmt) (l : List Sng) (O : List Int) (i : Nat) : Prop := (l.getD (O.getD i 0).toNat g0).least ≤ atF f l O (i + 1)
def LayOK (f : Fmt) (l : List Sng) (O : List Int) : Prop := (∀ i, i < O.length → okAt f l O i) ∧ f.inner ≤ atF f l O O.length - f.tail
def cmpI (x y : Int) : Int := if x < y then -1 else if y < x then 1 else 0
def usF (l : List Sng) (a b : Int) : Int := if cmpI (l.getD b.toNat g0).least (l.getD a.toNat g0).least ≠ 0 then cmpI (l.getD b.toNat g0).least (l.getD a.toNat g0).least else cmpI a b
def usB (l : List Sng) (a b : Int) : Bool := decide (usF l a b < 0)
def allO (l : List Sng) : List Int := isr (usB l) (spanL 0 l.length) (l.length - 1)
theorem allO_idx (l : List Sng) : IdxOK (allO l) l.length := by
  unfold allO
  by_cases h : l.length = 0
  · rw [h]; exact span_idx 0
  · exact (span_idx _).isr _ (by omega)
end Go.Sx

namespace Go.Sx
open Go Go.Proofs
set_option maxRecDepth 10000
set_option maxHeartbeats 4000000
/-! ### Formats and tracks -/
@[reducible] def Fmt.x (f : Fmt) : XV := .agg [.str f.nm, .int .i64 f.outer, .int .i64 f.inner, .int .i64 f.per, .int .i64 f.lead, .int .i64 f.gap, .int .i64 f.tail, .int .i64 f.cost]
@[reducible] def Sng.x (g : Sng) : XV := .agg [.int .i64 g.long, .int .i64 g.pitch, .int .i64 g.least]
def sngA (l : List Sng) : Arr := l.map fun g => [.int g.long, .int g.pitch, .int g.least]
theorem sngA_len (l : List Sng) : (sngA l).length = l.length := by simp [sngA]
theorem sngA_0 (l : List Sng) (i : Nat) : rI (sngA l) i 0 = (l.getD i g0).long := map_rI _ g0 l i 0 rfl
theorem sngA_1 (l : List Sng) (i : Nat) : rI (sngA l) i (0 + 1) = (l.getD i g0).pitch := map_rI _ g0 l i 1 rfl
theorem sngA_2 (l : List Sng) (i : Nat) : rI (sngA l) i (0 + 1 + 1) = (l.getD i g0).least := map_rI _ g0 l i 2 rfl
@[reducible] def KSng : List CK := [.int .i64, .int .i64, .int .i64]
@[reducible] def lSng (l : List Sng) : XV := .one (.lst true KSng (sngA l))
@[reducible] def sngX (l : List Sng) (i : Nat) : XV := .agg [.int .i64 (rI (sngA l) i 0), .int .i64 (rI (sngA l) i (0 + 1)), .int .i64 (rI (sngA l) i (0 + 1 + 1))]
theorem sngX_eq (l : List Sng) (i : Nat) : sngX l i = (l.getD i g0).x := by
  unfold sngX
  rw [sngA_0, sngA_1, sngA_2]
theorem s295 (n lo hi : Int) : PSpec Tryz.prog 295 [I n, I lo, I hi] (xP (n < lo ∨ n > hi)) := by
  refine spec_of pMix (O := []) Tryz.func295 (c := bodyOf Tryz.f295) rfl (by kernel_rfl) (by kernel_rfl) Tryz.ntmps295 (res := [.tmp 6]) (by kernel_rfl) ?_
  repeat' ((conv => whnf); first | refine Rng.g ?_ | refine Ob.g ?_ | refine Ob.e ?_ | refine Ob.m ?_ | refine Ob.mk (Nat.le_of_ble_eq_true rfl) ?_ | refine JoinVC.on ?_ | refine Nils.mk (fun h => ?_) ?_ | refine Val.t ?_ | refine Val.d ?_ | refine Mm.mk ?_ | (refine Br.mk (fun h => ?_) (fun h => ?_) <;> first | (exfalso; omega; done) | (exfalso; simp at h; done) | skip))
  · repeat refine Mm.mk ?_
    refine EndVC.mk _ rfl _ _ ⟨rfl, rfl⟩ ?_
    refine ⟨[], rfl, rfl, ?_, ?_⟩ <;> repeat' (first | exact trivial | exact rfl | exact Iff.rfl | apply And.intro)
    exact .inl h
  · repeat refine Mm.mk ?_
    refine EndVC.mk _ rfl _ _ ⟨rfl, rfl⟩ ?_
    refine ⟨[], rfl, rfl, ?_, ?_⟩ <;> repeat' (first | exact trivial | exact rfl | exact Iff.rfl | apply And.intro)
    exact ⟨fun h2 => .inr h2, fun h2 => h2.elim (fun h3 => absurd h3 h) id⟩
theorem s141 (n lo hi : Int) : PSpec Tryz.prog 141 [I n, I lo, I hi] (xP (n ≥ lo ∧ n ≤ hi)) := by
  refine spec_of pMix (O := []) Tryz.func141 (c := bodyOf Tryz.f141) rfl (by kernel_rfl) (by kernel_rfl) Tryz.ntmps141 (res := [.tmp 6]) (by kernel_rfl) ?_
  repeat' ((conv => whnf); first | refine Rng.g ?_ | refine Ob.g ?_ | refine Ob.e ?_ | refine Ob.m ?_ | refine Ob.mk (Nat.le_of_ble_eq_true rfl) ?_ | refine JoinVC.on ?_ | refine Nils.mk (fun h => ?_) ?_ | refine Val.t ?_ | refine Val.d ?_ | refine Mm.mk ?_ | (refine Br.mk (fun h => ?_) (fun h => ?_) <;> first | (exfalso; omega; done) | (exfalso; simp at h; done) | skip))
  · repeat refine Mm.mk ?_
    refine EndVC.mk _ rfl _ _ ⟨rfl, rfl⟩ ?_
    refine ⟨[], rfl, rfl, ?_, ?_⟩ <;> repeat' (first | exact trivial | exact rfl | exact Iff.rfl | apply And.intro)
    exact ⟨fun h2 => ⟨h, h2⟩, fun h2 => h2.2⟩
  · repeat refine Mm.mk ?_
    refine EndVC.mk _ rfl _ _ ⟨rfl, rfl⟩ ?_
    refine ⟨[], rfl, rfl, ?_, ?_⟩ <;> repeat' (first | exact trivial | exact rfl | exact Iff.rfl | apply And.intro)
    exact fun h2 => h h2.1
theorem bytA_get (b : ByteArray) (i : Nat) : rI (bytA b) i 0 = chr b i := map_rI _ (0 : UInt8) b.data.toList i 0 rfl
theorem bytA_len (b : ByteArray) : (bytA b).length = b.size := by
  show (b.data.toList.map _).length = b.data.size
  rw [List.length_map, Array.length_toList]
open Classical in
theorem s294 (s : ByteArray) (hs : s.size ≤ 140737488355328) : PSpec Tryz.prog 294 [.one (.str s)] (xP (nameOK s)) := by
  have lb := bytA_len s
  refine spec_of pMix (O := []) Tryz.func294 (c := bodyOf Tryz.f294) rfl (by kernel_rfl) (by kernel_rfl) Tryz.ntmps294 (res := [.tmp 2]) (by kernel_rfl) ?_
  repeat' ((conv => whnf); first | refine Rng.g ?_ | refine Ob.g ?_ | refine Ob.e ?_ | refine Ob.m ?_ | refine Ob.mk (Nat.le_of_ble_eq_true rfl) ?_ | refine JoinVC.on ?_ | refine Nils.mk (fun h => ?_) ?_ | refine Val.t ?_ | refine Val.d ?_ | refine Mm.mk ?_ | (refine Br.mk (fun h => ?_) (fun h => ?_) <;> first | (exfalso; omega; done) | (exfalso; simp at h; done) | skip))
  refine LoopVC.mk (fun n st => ∃ (i : Nat), i ≤ s.size ∧ n = s.size - i ∧ (∀ j, j < i → okC (chr s j)) ∧ st = ⟨0, envA 34 [(0, .x (.one (.str s))), (6, .x (.one (.lst false [.int .u8] (bytA s)))), (7, .int .i64 (s.size : Int)), (8, .int .i64 (i : Int))], []⟩) _ _ ⟨0, Nat.zero_le _, rfl, fun j hj => absurd hj (Nat.not_lt_zero j), rfl⟩ ?_ ?_
  · refine ⟨[], rfl, rfl, ?_, ?_⟩ <;> repeat' (first | exact trivial | exact rfl | exact Iff.rfl | apply And.intro)
    exact congrArg Int.ofNat lb
  rintro n _ ⟨i, hi, hn, hj, rfl⟩
  have gc : rI (bytA s) (i : Int).toNat 0 = chr s i := by rw [Int.toNat_natCast, bytA_get]
  by_cases hi' : i < s.size
  · by_cases hc : okC (chr s i)
    · have hc' := hc
      unfold okC at hc'
      repeat' ((conv => whnf); first | rw [gc] | refine Rng.g ?_ | refine Ob.g ?_ | refine Ob.e ?_ | refine Ob.m ?_ | refine Ob.mk (Nat.le_of_ble_eq_true rfl) ?_ | refine JoinVC.on ?_ | refine Nils.mk (fun h => ?_) ?_ | refine Val.t ?_ | refine Val.d ?_ | refine Mm.mk ?_ | (refine Br.mk (fun h => ?_) (fun h => ?_) <;> first | (exfalso; omega; done) | (exfalso; simp at h; done) | skip))
      all_goals
        refine Back.mk (s.size - (i + 1)) _ (by omega) ⟨i + 1, by omega, rfl, fun j hj' => ?_, rfl⟩ ?_
        · rcases Nat.lt_succ_iff_lt_or_eq.1 hj' with h' | rfl
          · exact hj j h'
          · exact hc
        · refine ⟨[], rfl, rfl, ?_, ?_⟩ <;> repeat' (first | exact trivial | exact rfl | exact Iff.rfl | apply And.intro)
    · have hc' := hc
      unfold okC at hc'
      repeat' ((conv => whnf); first | rw [gc] | refine Rng.g ?_ | refine Ob.g ?_ | refine Ob.e ?_ | refine Ob.m ?_ | refine Ob.mk (Nat.le_of_ble_eq_true rfl) ?_ | refine JoinVC.on ?_ | refine Nils.mk (fun h => ?_) ?_ | refine Val.t ?_ | refine Val.d ?_ | refine Mm.mk ?_ | (refine Br.mk (fun h => ?_) (fun h => ?_) <;> first | (exfalso; omega; done) | (exfalso; simp at h; done) | skip))
      all_goals
        repeat refine Mm.mk ?_
        refine EndVC.mk _ rfl _ _ ⟨rfl, rfl⟩ ?_
        refine ⟨[], rfl, rfl, ?_, ?_⟩ <;> repeat' (first | exact trivial | exact rfl | exact Iff.rfl | apply And.intro)
        exact fun hn => hc (hn.2.2 i hi')
  · have h0 : s.size = 0 ↔ s = ⟨#[]⟩ := ⟨fun h => ByteArray.ext (Array.eq_empty_of_size_eq_zero h), fun h => by rw [h]; rfl⟩
    repeat' ((conv => whnf); first | refine Rng.g ?_ | refine Ob.g ?_ | refine Ob.e ?_ | refine Ob.m ?_ | refine Ob.mk (Nat.le_of_ble_eq_true rfl) ?_ | refine JoinVC.on ?_ | refine Nils.mk (fun h => ?_) ?_ | refine Val.t ?_ | refine Val.d ?_ | refine Mm.mk ?_ | (refine Br.mk (fun h => ?_) (fun h => ?_) <;> first | (exfalso; omega; done) | (exfalso; simp at h; done) | skip))
    · have h1 : ¬ s.size = 0 := fun e => h (h0.1 e)
      repeat refine Mm.mk ?_
      refine EndVC.mk _ rfl _ _ ⟨rfl, rfl⟩ ?_
      refine ⟨[], rfl, rfl, ?_, ?_⟩ <;> repeat' (first | exact trivial | exact rfl | exact Iff.rfl | apply And.intro)
      exact ⟨fun h2 => ⟨by omega, by omega, fun j hj' => hj j (by omega)⟩, fun hn => (by have := hn.2.1; omega)⟩
    · have h1 : s.size = 0 := h0.2 (Classical.not_not.1 h)
      repeat refine Mm.mk ?_
      refine EndVC.mk _ rfl _ _ ⟨rfl, rfl⟩ ?_
      refine ⟨[], rfl, rfl, ?_, ?_⟩ <;> repeat' (first | exact trivial | exact rfl | exact Iff.rfl | apply And.intro)
      exact fun hn => (by have := hn.1; omega)
/-! ### Which formats and tracks are valid -/
theorem s227 (f : Fmt) (hI : f.nm.size ≤ 140737488355328) : HSpec Tryz.prog 227 [f.x] [] (fun r m' => ∃ e, r = .x (I e) ∧ m' = [] ∧ (e = 0 ↔ FmtOK f)) := by
  have k0 := s295 f.lead 0 4194304
  have k1 := s295 f.gap 0 4194304
  have k2 := s295 f.tail 0 4194304
  refine spec_of pMix (O := []) Tryz.func227 (c := bodyOf Tryz.f227) rfl (by kernel_rfl) (by kernel_rfl) Tryz.ntmps227 (res := [.tmp 2]) (by kernel_rfl) ?_
  repeat' ((conv => whnf); first | refine Rng.g ?_ | refine Ob.g ?_ | refine Ob.e ?_ | refine Ob.m ?_ | refine Ob.mk (Nat.le_of_ble_eq_true rfl) ?_ | refine JoinVC.on ?_ | refine Nils.mk (fun h => ?_) ?_ | refine Val.t ?_ | refine Val.d ?_ | refine Mm.mk ?_ | refine CallVC.pure rfl (s294 f.nm hI) ?_ | refine CallVC.pure rfl (s295 f.outer 1 4194304) ?_ | refine CallVC.pure rfl (s295 f.inner 0 (f.outer - 1)) ?_ | refine CallVC.pure rfl (s295 f.per 1 65536) ?_ | refine CallVC.pure rfl (s295 f.cost 0 1048576) ?_ | refine CallVC0.pure rfl (s294 f.nm hI) ?_ | refine CallVC0.pure rfl (s295 f.outer 1 4194304) ?_ | refine CallVC0.pure rfl (s295 f.inner 0 (f.outer - 1)) ?_ | refine CallVC0.pure rfl (s295 f.per 1 65536) ?_ | refine CallVC0.pure rfl (s295 f.cost 0 1048576) ?_ | (refine Br.mk (fun h => ?_) (fun h => ?_) <;> first | (exfalso; omega; done) | (exfalso; simp at h; done) | skip))
  all_goals
    refine LoopVC.un 4 ?_
    repeat' ((conv => whnf); first | refine Rng.g ?_ | refine Ob.g ?_ | refine Ob.e ?_ | refine Ob.m ?_ | refine Ob.mk (Nat.le_of_ble_eq_true rfl) ?_ | refine JoinVC.on ?_ | refine Nils.mk (fun h => ?_) ?_ | refine Val.t ?_ | refine Val.d ?_ | refine Mm.mk ?_ | refine CallVC.pure rfl (k0) ?_ | refine CallVC.pure rfl (k1) ?_ | refine CallVC.pure rfl (k2) ?_ | refine CallVC0.pure rfl (k0) ?_ | refine CallVC0.pure rfl (k1) ?_ | refine CallVC0.pure rfl (k2) ?_ | (refine Br.mk (fun h => ?_) (fun h => ?_) <;> first | (exfalso; omega; done) | (exfalso; simp at h; done) | skip))
  rotate_right
  · repeat refine Mm.mk ?_
    conv => whnf
    refine EndVC.mk _ rfl _ _ (⟨0, rfl, rfl, ⟨fun _ => ⟨Classical.not_not.1 (by assumption), by omega, by omega, by omega, by omega, by omega, by omega, by omega⟩, fun _ => rfl⟩⟩) ?_
    refine ⟨[], rfl, rfl, ?_, ?_⟩ <;> repeat' (first | exact trivial | exact rfl | exact Iff.rfl | apply And.intro)
  all_goals
    repeat refine Mm.mk ?_
    conv => whnf
    refine EndVC.mk _ rfl _ _ (⟨2, rfl, rfl, ⟨fun h => (by cases h), fun hC => (by obtain ⟨h0, h1, h2, h3, h4, h5, h6, h7⟩ := hC; first | contradiction | omega)⟩⟩) ?_
    refine ⟨[], rfl, rfl, ?_, ?_⟩ <;> repeat' (first | exact trivial | exact rfl | exact Iff.rfl | apply And.intro)
end Go.Sx

namespace Go.Sx
open Go Go.Proofs
set_option maxRecDepth 10000
set_option maxHeartbeats 4000000
theorem s228 (l : List Sng) : HSpec Tryz.prog 228 [lSng l] [] (fun r m' => ∃ e, r = .x (I e) ∧ m' = [] ∧ (e = 0 ↔ SngsOK l)) := by
  have lp := sngA_len l
  by_cases h24 : 24 < l.length
  · refine spec_of pMix (O := []) Tryz.func228 (c := bodyOf Tryz.f228) rfl (by kernel_rfl) (by kernel_rfl) Tryz.ntmps228 (res := [.tmp 2]) (by kernel_rfl) ?_
    repeat' ((conv => whnf); first | refine Rng.g ?_ | refine Ob.g ?_ | refine Ob.e ?_ | refine Ob.m ?_ | refine Ob.mk (Nat.le_of_ble_eq_true rfl) ?_ | refine JoinVC.on ?_ | refine Nils.mk (fun h => ?_) ?_ | refine Val.t ?_ | refine Val.d ?_ | refine Mm.mk ?_ | (refine Br.mk (fun h => ?_) (fun h => ?_) <;> first | (exfalso; omega; done) | (exfalso; simp at h; done) | skip))
    repeat refine Mm.mk ?_
    conv => whnf
    refine EndVC.mk _ rfl _ _ (⟨6, rfl, rfl, ⟨fun h => (by cases h), fun h => (by have := h.len; omega)⟩⟩) ?_
    refine ⟨[], rfl, rfl, ?_, ?_⟩ <;> repeat' (first | exact trivial | exact rfl | exact Iff.rfl | apply And.intro)
  refine spec_of pMix (O := []) Tryz.func228 (c := bodyOf Tryz.f228) rfl (by kernel_rfl) (by kernel_rfl) Tryz.ntmps228 (res := [.tmp 2]) (by kernel_rfl) ?_
  repeat' ((conv => whnf); first | refine Rng.g ?_ | refine Ob.g ?_ | refine Ob.e ?_ | refine Ob.m ?_ | refine Ob.mk (Nat.le_of_ble_eq_true rfl) ?_ | refine JoinVC.on ?_ | refine Nils.mk (fun h => ?_) ?_ | refine Val.t ?_ | refine Val.d ?_ | refine Mm.mk ?_ | (refine Br.mk (fun h => ?_) (fun h => ?_) <;> first | (exfalso; omega; done) | (exfalso; simp at h; done) | skip))
  refine LoopVC.mk (fun n st => ∃ (i : Nat), i ≤ l.length ∧ n = l.length - i ∧ (∀ j, j < i → (l.getD j g0).ok) ∧ st = ⟨0, envA 28 [(8, .x (lSng l)), (9, .int .i64 (l.length : Int)), (10, .int .i64 (i : Int))], []⟩) _ _ ⟨0, Nat.zero_le _, rfl, fun j hj => absurd hj (Nat.not_lt_zero j), rfl⟩ ?_ ?_
  · refine ⟨[], rfl, rfl, ?_, ?_⟩ <;> repeat' (first | exact trivial | exact rfl | exact Iff.rfl | apply And.intro)
    all_goals exact congrArg Int.ofNat lp
  rintro n _ ⟨i, hi, hn, hj, rfl⟩
  have c0 : rI (sngA l) (i : Int).toNat 0 = (l.getD i g0).long := by rw [Int.toNat_natCast, sngA_0]
  have c1 : rI (sngA l) (i : Int).toNat (0 + 1) = (l.getD i g0).pitch := by rw [Int.toNat_natCast, sngA_1]
  have c2 : rI (sngA l) (i : Int).toNat (0 + 1 + 1) = (l.getD i g0).least := by rw [Int.toNat_natCast, sngA_2]
  have k0 := s295 (l.getD i g0).long 1 16777216
  have k1 := s295 (l.getD i g0).pitch 1 4096
  have k2 := s295 (l.getD i g0).least 0 4194304
  by_cases hi' : i < l.length
  · by_cases hg : (l.getD i g0).ok
    · have hg' := hg
      unfold Sng.ok at hg'
      repeat' ((conv => whnf); first | rw [c0] | rw [c1] | rw [c2] | refine Rng.g ?_ | refine Ob.g ?_ | refine Ob.e ?_ | refine Ob.m ?_ | refine Ob.mk (Nat.le_of_ble_eq_true rfl) ?_ | refine JoinVC.on ?_ | refine Nils.mk (fun h => ?_) ?_ | refine Val.t ?_ | refine Val.d ?_ | refine Mm.mk ?_ | refine CallVC.pure rfl (k0) ?_ | refine CallVC.pure rfl (k1) ?_ | refine CallVC.pure rfl (k2) ?_ | refine CallVC0.pure rfl (k0) ?_ | refine CallVC0.pure rfl (k1) ?_ | refine CallVC0.pure rfl (k2) ?_ | (refine Br.mk (fun h => ?_) (fun h => ?_) <;> first | (exfalso; omega; done) | (exfalso; simp at h; done) | skip))
      refine Back.mk (l.length - (i + 1)) _ (by omega) ⟨i + 1, by omega, rfl, fun j hj' => ?_, rfl⟩ ?_
      · rcases Nat.lt_succ_iff_lt_or_eq.1 hj' with h' | rfl
        · exact hj j h'
        · exact hg
      · refine ⟨[], rfl, rfl, ?_, ?_⟩ <;> repeat' (first | exact trivial | exact rfl | exact Iff.rfl | apply And.intro)
    · have hg' := hg
      unfold Sng.ok at hg'
      repeat' ((conv => whnf); first | rw [c0] | rw [c1] | rw [c2] | refine Rng.g ?_ | refine Ob.g ?_ | refine Ob.e ?_ | refine Ob.m ?_ | refine Ob.mk (Nat.le_of_ble_eq_true rfl) ?_ | refine JoinVC.on ?_ | refine Nils.mk (fun h => ?_) ?_ | refine Val.t ?_ | refine Val.d ?_ | refine Mm.mk ?_ | refine CallVC.pure rfl (k0) ?_ | refine CallVC.pure rfl (k1) ?_ | refine CallVC.pure rfl (k2) ?_ | refine CallVC0.pure rfl (k0) ?_ | refine CallVC0.pure rfl (k1) ?_ | refine CallVC0.pure rfl (k2) ?_ | (refine Br.mk (fun h => ?_) (fun h => ?_) <;> first | (exfalso; omega; done) | (exfalso; simp at h; done) | skip))
      all_goals
        repeat refine Mm.mk ?_
        conv => whnf
        refine EndVC.mk _ rfl _ _ (⟨2, rfl, rfl, ⟨fun h => (by cases h), fun h => absurd (h.each i hi') hg⟩⟩) ?_
        refine ⟨[], rfl, rfl, ?_, ?_⟩ <;> repeat' (first | exact trivial | exact rfl | exact Iff.rfl | apply And.intro)
  · repeat' ((conv => whnf); first | refine Rng.g ?_ | refine Ob.g ?_ | refine Ob.e ?_ | refine Ob.m ?_ | refine Ob.mk (Nat.le_of_ble_eq_true rfl) ?_ | refine JoinVC.on ?_ | refine Nils.mk (fun h => ?_) ?_ | refine Val.t ?_ | refine Val.d ?_ | refine Mm.mk ?_ | (refine Br.mk (fun h => ?_) (fun h => ?_) <;> first | (exfalso; omega; done) | (exfalso; simp at h; done) | skip))
    repeat refine Mm.mk ?_
    conv => whnf
    refine EndVC.mk _ rfl _ _ (⟨0, rfl, rfl, ⟨fun _ => ⟨by omega, fun j hj' => hj j (by omega)⟩, fun _ => rfl⟩⟩) ?_
    refine ⟨[], rfl, rfl, ?_, ?_⟩ <;> repeat' (first | exact trivial | exact rfl | exact Iff.rfl | apply And.intro)
@[reducible] def bPl (f : Fmt) (l : List Sng) : Blk := .box 351 [.str f.nm, .int .i64 f.outer, .int .i64 f.inner, .int .i64 f.per, .int .i64 f.lead, .int .i64 f.gap, .int .i64 f.tail, .int .i64 f.cost, .lst true KSng (sngA l)]
theorem s138 (f : Fmt) (l : List Sng) (hI : f.nm.size ≤ 140737488355328) : HSpec Tryz.prog 138 [f.x, lSng l] [] (fun r m' => (∃ e, ¬ (FmtOK f ∧ SngsOK l) ∧ e ≠ 0 ∧ r = .tup [.one .nilp, I e] ∧ m' = []) ∨ (FmtOK f ∧ SngsOK l ∧ r = .tup [.one (.ptr 0 0), I 0] ∧ m' = [some (bPl f l)])) := by
  have v1 := s227 f hI
  have v2 := s228 l
  by_cases hC : ¬ FmtOK f
  · refine spec_of pMix (O := []) Tryz.func138 (c := bodyOf Tryz.f138) rfl (by kernel_rfl) (by kernel_rfl) Tryz.ntmps138 (res := [.tmp 4, .tmp 5]) (by kernel_rfl) ?_
    repeat' ((conv => whnf); first | refine Rng.g ?_ | refine Ob.g ?_ | refine Ob.e ?_ | refine Ob.m ?_ | refine Ob.mk (Nat.le_of_ble_eq_true rfl) ?_ | refine JoinVC.on ?_ | refine Nils.mk (fun h => ?_) ?_ | refine Val.t ?_ | refine Val.d ?_ | refine Mm.mk ?_ | (refine Br.mk (fun h => ?_) (fun h => ?_) <;> first | (exfalso; omega; done) | (exfalso; simp at h; done) | skip))
    conv => whnf
    refine CallVC.mk [] _ _ _ rfl rfl rfl (v1) (fun r m' h' => ?_)
    obtain ⟨e, rfl, rfl, he⟩ := h'
    conv => whnf
    have he0 : e ≠ 0 := fun h0 => hC (he.1 h0)
    repeat' ((conv => whnf); first | refine Rng.g ?_ | refine Ob.g ?_ | refine Ob.e ?_ | refine Ob.m ?_ | refine Ob.mk (Nat.le_of_ble_eq_true rfl) ?_ | refine JoinVC.on ?_ | refine Nils.mk (fun h => ?_) ?_ | refine Val.t ?_ | refine Val.d ?_ | refine Mm.mk ?_ | (refine Br.mk (fun h => ?_) (fun h => ?_) <;> first | (exfalso; omega; done) | (exfalso; simp at h; done) | skip))
    repeat refine Mm.mk ?_
    conv => whnf
    refine EndVC.mk _ rfl _ _ (.inl ⟨e, fun h => hC h.1, he0, rfl, rfl⟩) ?_
    refine ⟨[], rfl, rfl, ?_, ?_⟩ <;> repeat' (first | exact trivial | exact rfl | exact Iff.rfl | apply And.intro)
  replace hC := Classical.not_not.1 hC
  by_cases hP : ¬ SngsOK l
  · refine spec_of pMix (O := []) Tryz.func138 (c := bodyOf Tryz.f138) rfl (by kernel_rfl) (by kernel_rfl) Tryz.ntmps138 (res := [.tmp 4, .tmp 5]) (by kernel_rfl) ?_
    repeat' ((conv => whnf); first | refine Rng.g ?_ | refine Ob.g ?_ | refine Ob.e ?_ | refine Ob.m ?_ | refine Ob.mk (Nat.le_of_ble_eq_true rfl) ?_ | refine JoinVC.on ?_ | refine Nils.mk (fun h => ?_) ?_ | refine Val.t ?_ | refine Val.d ?_ | refine Mm.mk ?_ | (refine Br.mk (fun h => ?_) (fun h => ?_) <;> first | (exfalso; omega; done) | (exfalso; simp at h; done) | skip))
    conv => whnf
    refine CallVC.mk [] _ _ _ rfl rfl rfl (v1) (fun r m' h' => ?_)
    obtain ⟨e, rfl, rfl, he⟩ := h'
    conv => whnf
    cases he.2 hC
    repeat' ((conv => whnf); first | refine Rng.g ?_ | refine Ob.g ?_ | refine Ob.e ?_ | refine Ob.m ?_ | refine Ob.mk (Nat.le_of_ble_eq_true rfl) ?_ | refine JoinVC.on ?_ | refine Nils.mk (fun h => ?_) ?_ | refine Val.t ?_ | refine Val.d ?_ | refine Mm.mk ?_ | (refine Br.mk (fun h => ?_) (fun h => ?_) <;> first | (exfalso; omega; done) | (exfalso; simp at h; done) | skip))
    conv => whnf
    refine CallVC.mk [] _ _ _ rfl rfl rfl (v2) (fun r m' h' => ?_)
    obtain ⟨e, rfl, rfl, he'⟩ := h'
    conv => whnf
    have he0 : e ≠ 0 := fun h0 => hP (he'.1 h0)
    repeat' ((conv => whnf); first | refine Rng.g ?_ | refine Ob.g ?_ | refine Ob.e ?_ | refine Ob.m ?_ | refine Ob.mk (Nat.le_of_ble_eq_true rfl) ?_ | refine JoinVC.on ?_ | refine Nils.mk (fun h => ?_) ?_ | refine Val.t ?_ | refine Val.d ?_ | refine Mm.mk ?_ | (refine Br.mk (fun h => ?_) (fun h => ?_) <;> first | (exfalso; omega; done) | (exfalso; simp at h; done) | skip))
    repeat refine Mm.mk ?_
    conv => whnf
    refine EndVC.mk _ rfl _ _ (.inl ⟨e, fun h => hP h.2, he0, rfl, rfl⟩) ?_
    refine ⟨[], rfl, rfl, ?_, ?_⟩ <;> repeat' (first | exact trivial | exact rfl | exact Iff.rfl | apply And.intro)
  replace hP := Classical.not_not.1 hP
  refine spec_of pMix (O := []) Tryz.func138 (c := bodyOf Tryz.f138) rfl (by kernel_rfl) (by kernel_rfl) Tryz.ntmps138 (res := [.tmp 4, .tmp 5]) (by kernel_rfl) ?_
  repeat' ((conv => whnf); first | refine Rng.g ?_ | refine Ob.g ?_ | refine Ob.e ?_ | refine Ob.m ?_ | refine Ob.mk (Nat.le_of_ble_eq_true rfl) ?_ | refine JoinVC.on ?_ | refine Nils.mk (fun h => ?_) ?_ | refine Val.t ?_ | refine Val.d ?_ | refine Mm.mk ?_ | (refine Br.mk (fun h => ?_) (fun h => ?_) <;> first | (exfalso; omega; done) | (exfalso; simp at h; done) | skip))
  conv => whnf
  refine CallVC.mk [] _ _ _ rfl rfl rfl (v1) (fun r m' h' => ?_)
  obtain ⟨e, rfl, rfl, he⟩ := h'
  conv => whnf
  cases he.2 hC
  repeat' ((conv => whnf); first | refine Rng.g ?_ | refine Ob.g ?_ | refine Ob.e ?_ | refine Ob.m ?_ | refine Ob.mk (Nat.le_of_ble_eq_true rfl) ?_ | refine JoinVC.on ?_ | refine Nils.mk (fun h => ?_) ?_ | refine Val.t ?_ | refine Val.d ?_ | refine Mm.mk ?_ | (refine Br.mk (fun h => ?_) (fun h => ?_) <;> first | (exfalso; omega; done) | (exfalso; simp at h; done) | skip))
  conv => whnf
  refine CallVC.mk [] _ _ _ rfl rfl rfl (v2) (fun r m' h' => ?_)
  obtain ⟨e, rfl, rfl, he'⟩ := h'
  conv => whnf
  cases he'.2 hP
  repeat' ((conv => whnf); first | refine Rng.g ?_ | refine Ob.g ?_ | refine Ob.e ?_ | refine Ob.m ?_ | refine Ob.mk (Nat.le_of_ble_eq_true rfl) ?_ | refine JoinVC.on ?_ | refine Nils.mk (fun h => ?_) ?_ | refine Val.t ?_ | refine Val.d ?_ | refine Mm.mk ?_ | (refine Br.mk (fun h => ?_) (fun h => ?_) <;> first | (exfalso; omega; done) | (exfalso; simp at h; done) | skip))
  repeat refine Mm.mk ?_
  conv => whnf
  refine EndVC.mk _ rfl _ _ (.inr ⟨hC, hP, rfl, rfl⟩) ?_
  refine ⟨[some 1], rfl, rfl, ?_, ?_⟩ <;> repeat' (first | exact trivial | exact rfl | exact Iff.rfl | apply And.intro)
@[reducible] def pvT : Option (List Sng) → SV
  | some l => .lst true KSng (sngA l)
  | none => .any
@[reducible] def bPv (f : Fmt) (v : Option (List Sng)) : Blk := .box 351 [.str f.nm, .int .i64 f.outer, .int .i64 f.inner, .int .i64 f.per, .int .i64 f.lead, .int .i64 f.gap, .int .i64 f.tail, .int .i64 f.cost, pvT v]
theorem s139 (f : Fmt) (v : Option (List Sng)) (g : Sng) (hf : FmtOK f) (hg : g.ok) : HSpec Tryz.prog 139 [.one (.ptr 0 0), g.x] [bPv f v] (fun r m' => r = .x (I (widF f g)) ∧ m' = [some (bPv f v)]) := by
  obtain ⟨w1, w2⟩ := wid_bd hf.per.1 hg
  have hp := hf.per
  have hg1 := hg.1
  have hg2 := hg.2.1
  unfold widF at w2
  cases v
  all_goals
    refine spec_of pMix (O := []) Tryz.func139 (c := bodyOf Tryz.f139) rfl (by kernel_rfl) (by kernel_rfl) Tryz.ntmps139 (res := [.tmp 4]) (by kernel_rfl) ?_
    repeat' ((conv => whnf); first | refine Rng.g ?_ | refine Ob.g ?_ | refine Ob.e ?_ | refine Ob.m ?_ | refine Ob.mk (Nat.le_of_ble_eq_true rfl) ?_ | refine JoinVC.on ?_ | refine Nils.mk (fun h => ?_) ?_ | refine Val.t ?_ | refine Val.d ?_ | refine Mm.mk ?_ | (refine Br.mk (fun h => ?_) (fun h => ?_) <;> first | (exfalso; omega; done) | (exfalso; simp at h; done) | skip))
    repeat refine Mm.mk ?_
    refine EndVC.mk _ rfl _ _ ⟨rfl, rfl⟩ ?_
    refine ⟨[some 0], rfl, rfl, ?_, ?_⟩ <;> repeat' (first | exact trivial | exact rfl | exact Iff.rfl | apply And.intro)
inductive WdRs (f : Fmt) (g : Sng) (r : AV) (m' : List (Option Blk)) : Prop
  | bad (e : Int) (h : ¬ (FmtOK f ∧ g.ok)) (he : e ≠ 0) (hr : r = .tup [I 0, I e]) (hm : m' = [])
  | ok (hf : FmtOK f) (hg : g.ok) (hr : r = .tup [I (widF f g), I 0]) (hm : m' = [])
theorem sngs1 (g : Sng) : SngsOK [g] ↔ g.ok := ⟨fun h => h.each 0 (by simp), fun h => ⟨by simp, fun j hj => (by rw [show j = 0 by simp at hj; omega]; exact h)⟩⟩
theorem s54 (f : Fmt) (g : Sng) (hI : f.nm.size ≤ 140737488355328) : HSpec Tryz.prog 54 [f.x, g.x] [] (WdRs f g) := by
  refine spec_of pMix (O := []) Tryz.func54 (c := bodyOf Tryz.f54) rfl (by kernel_rfl) (by kernel_rfl) Tryz.ntmps54 (res := [.tmp 4, .tmp 5]) (by kernel_rfl) ?_
  repeat' ((conv => whnf); first | refine Rng.g ?_ | refine Ob.g ?_ | refine Ob.e ?_ | refine Ob.m ?_ | refine Ob.mk (Nat.le_of_ble_eq_true rfl) ?_ | refine JoinVC.on ?_ | refine Nils.mk (fun h => ?_) ?_ | refine Val.t ?_ | refine Val.d ?_ | refine Mm.mk ?_ | (refine Br.mk (fun h => ?_) (fun h => ?_) <;> first | (exfalso; omega; done) | (exfalso; simp at h; done) | skip))
  conv => whnf
  refine CallVC.mk [] _ _ _ rfl rfl rfl (s138 f [g] hI) (fun r m' h' => ?_)
  rcases h' with ⟨e, hn, he, rfl, rfl⟩ | ⟨hf, hg, rfl, rfl⟩
  · repeat' ((conv => whnf); first | refine Rng.g ?_ | refine Ob.g ?_ | refine Ob.e ?_ | refine Ob.m ?_ | refine Ob.mk (Nat.le_of_ble_eq_true rfl) ?_ | refine JoinVC.on ?_ | refine Nils.mk (fun h => ?_) ?_ | refine Val.t ?_ | refine Val.d ?_ | refine Mm.mk ?_ | (refine Br.mk (fun h => ?_) (fun h => ?_) <;> first | (exfalso; omega; done) | (exfalso; simp at h; done) | skip))
    repeat refine Mm.mk ?_
    conv => whnf
    refine EndVC.mk _ rfl _ _ (.bad e (fun hh => hn ⟨hh.1, (sngs1 g).2 hh.2⟩) he rfl rfl) ?_
    refine ⟨[], rfl, rfl, ?_, ?_⟩ <;> repeat' (first | exact trivial | exact rfl | exact Iff.rfl | apply And.intro)
  · have hg' := (sngs1 g).1 hg
    repeat' ((conv => whnf); first | refine Rng.g ?_ | refine Ob.g ?_ | refine Ob.e ?_ | refine Ob.m ?_ | refine Ob.mk (Nat.le_of_ble_eq_true rfl) ?_ | refine JoinVC.on ?_ | refine Nils.mk (fun h => ?_) ?_ | refine Val.t ?_ | refine Val.d ?_ | refine Mm.mk ?_ | (refine Br.mk (fun h => ?_) (fun h => ?_) <;> first | (exfalso; omega; done) | (exfalso; simp at h; done) | skip))
    conv => whnf
    refine CallVC.mk [3] _ _ _ rfl rfl rfl (s139 f none g hf hg') (fun r m' h' => ?_)
    obtain ⟨rfl, rfl⟩ := h'
    conv => whnf
    repeat' ((conv => whnf); first | refine Rng.g ?_ | refine Ob.g ?_ | refine Ob.e ?_ | refine Ob.m ?_ | refine Ob.mk (Nat.le_of_ble_eq_true rfl) ?_ | refine JoinVC.on ?_ | refine Nils.mk (fun h => ?_) ?_ | refine Val.t ?_ | refine Val.d ?_ | refine Mm.mk ?_ | (refine Br.mk (fun h => ?_) (fun h => ?_) <;> first | (exfalso; omega; done) | (exfalso; simp at h; done) | skip))
    repeat refine Mm.mk ?_
    conv => whnf
    refine EndVC.mk _ rfl _ _ (.ok hf hg' rfl rfl) ?_
    refine ⟨[], rfl, rfl, ?_, ?_⟩ <;> repeat' (first | exact trivial | exact rfl | exact Iff.rfl | apply And.intro)
end Go.Sx

namespace Go.Sx
open Go Go.Proofs
set_option maxRecDepth 10000
set_option maxHeartbeats 2000000
theorem e118 : EntersF Tryz.prog 118 := enters_of Tryz.func118 (c := bodyOf Tryz.f118) (by kernel_rfl) rfl
theorem e210 : EntersF Tryz.prog 210 := enters_of Tryz.func210 (c := bodyOf Tryz.f210) (by kernel_rfl) rfl
theorem e120 : EntersF Tryz.prog 120 := enters_of Tryz.func120 (c := bodyOf Tryz.f120) (by kernel_rfl) rfl
theorem e119 : EntersF Tryz.prog 119 := enters_of Tryz.func119 (c := bodyOf Tryz.f119) (by kernel_rfl) rfl
theorem e36 : EntersF Tryz.prog 36 := enters_of Tryz.func36 (c := bodyOf Tryz.f36) (by kernel_rfl) rfl
theorem e37 : EntersF Tryz.prog 37 := enters_of Tryz.func37 (c := bodyOf Tryz.f37) (by kernel_rfl) rfl
/-! ### Parts -/
structure Prt where
  tk : Int
  fr : Int
  to : Int
  gap : Int
  inn : Int
  out : Int
  lev : Int
abbrev p0 : Prt := ⟨0, 0, 0, 0, 0, 0, 0⟩
def Prt.row (p : Prt) : List Cell := [.int p.tk, .int p.fr, .int p.to, .int p.gap, .int p.inn, .int p.out, .int p.lev]
def prtA (l : List Prt) : Arr := l.map Prt.row
theorem prtA_len (l : List Prt) : (prtA l).length = l.length := by simp [prtA]
theorem prtA_0 (l : List Prt) (i : Nat) : rI (prtA l) i 0 = (l.getD i p0).tk := map_rI _ p0 l i 0 rfl
theorem prtA_1 (l : List Prt) (i : Nat) : rI (prtA l) i (0 + 1) = (l.getD i p0).fr := map_rI _ p0 l i 1 rfl
theorem prtA_2 (l : List Prt) (i : Nat) : rI (prtA l) i (0 + 1 + 1) = (l.getD i p0).to := map_rI _ p0 l i 2 rfl
theorem prtA_3 (l : List Prt) (i : Nat) : rI (prtA l) i (0 + 1 + 1 + 1) = (l.getD i p0).gap := map_rI _ p0 l i 3 rfl
theorem prtA_4 (l : List Prt) (i : Nat) : rI (prtA l) i (0 + 1 + 1 + 1 + 1) = (l.getD i p0).inn := map_rI _ p0 l i 4 rfl
theorem prtA_5 (l : List Prt) (i : Nat) : rI (prtA l) i (0 + 1 + 1 + 1 + 1 + 1) = (l.getD i p0).out := map_rI _ p0 l i 5 rfl
theorem prtA_6 (l : List Prt) (i : Nat) : rI (prtA l) i (0 + 1 + 1 + 1 + 1 + 1 + 1) = (l.getD i p0).lev := map_rI _ p0 l i 6 rfl
@[reducible] def K7i : List CK := [.int .i64, .int .i64, .int .i64, .int .i64, .int .i64, .int .i64, .int .i64]
@[reducible] def lP (l : List Prt) : XV := .one (.lst true K7i (prtA l))
@[reducible] def Prt.x (p : Prt) : XV := .agg [.int .i64 p.tk, .int .i64 p.fr, .int .i64 p.to, .int .i64 p.gap, .int .i64 p.inn, .int .i64 p.out, .int .i64 p.lev]
/-- A part as an element of a list. -/
@[reducible] def prtX (l : List Prt) (i : Nat) : XV := .agg [.int .i64 (rI (prtA l) i 0), .int .i64 (rI (prtA l) i (0 + 1)), .int .i64 (rI (prtA l) i (0 + 1 + 1)), .int .i64 (rI (prtA l) i (0 + 1 + 1 + 1)), .int .i64 (rI (prtA l) i (0 + 1 + 1 + 1 + 1)), .int .i64 (rI (prtA l) i (0 + 1 + 1 + 1 + 1 + 1)), .int .i64 (rI (prtA l) i (0 + 1 + 1 + 1 + 1 + 1 + 1))]
theorem prtX_eq (l : List Prt) (i : Nat) : prtX l i = (l.getD i p0).x := by
  unfold prtX Prt.x
  rw [prtA_0, prtA_1, prtA_2, prtA_3, prtA_4, prtA_5, prtA_6]
def Prt.long (p : Prt) : Int := p.to - p.fr
def partOK (T : List Tak) (p : Prt) : Prop := 0 ≤ p.tk ∧ p.tk < T.length ∧ 0 ≤ p.fr ∧ p.fr < p.to ∧ p.to ≤ (T.getD p.tk.toNat t0).d.length ∧ -4096 ≤ p.gap ∧ p.gap ≤ 4096 ∧ 0 ≤ p.inn ∧ p.inn ≤ 1000 ∧ 0 ≤ p.out ∧ p.out ≤ 1000 ∧ 0 ≤ p.lev ∧ p.lev ≤ 4000
instance (T : List Tak) (p : Prt) : Decidable (partOK T p) := by unfold partOK; exact inferInstance
theorem s118 (T : List Tak) (p : Prt) : PSpec Tryz.prog 118 [lT T, p.x] (xP (partOK T p)) := by
  have ll := takA_len T
  have gl : (rA (takA T) p.tk.toNat (0 + (0 + 1))).length = (T.getD p.tk.toNat t0).d.length := (congrArg List.length (takA_d T _)).trans (smpA_len _)
  refine spec_of pMix (O := []) Tryz.func118 (c := bodyOf Tryz.f118) rfl (by kernel_rfl) (by kernel_rfl) Tryz.ntmps118 (res := [.tmp 4]) (by kernel_rfl) ?_
  repeat' ((conv => whnf); first | refine Rng.g ?_ | refine Ob.g ?_ | refine Ob.e ?_ | refine Ob.m ?_ | refine Ob.mk (Nat.le_of_ble_eq_true rfl) ?_ | refine JoinVC.on ?_ | refine Nils.mk (fun h => ?_) ?_ | refine Val.t ?_ | refine Val.d ?_ | refine Mm.mk ?_ | (refine Br.mk (fun h => ?_) (fun h => ?_) <;> first | (exfalso; omega; done) | (exfalso; simp at h; done) | skip))
  all_goals
    repeat refine Mm.mk ?_
    refine EndVC.mk _ rfl _ _ ⟨rfl, rfl⟩ ?_
    refine ⟨[], rfl, rfl, ?_, ?_⟩ <;> repeat' (first | exact trivial | exact rfl | exact Iff.rfl | apply And.intro)
    first
      | (show ¬ _; unfold partOK; omega)
      | (show _ ↔ _; unfold partOK; omega)
/-- The bounds of a part that is right. -/
structure PB (p : Prt) : Prop where
  fr : 0 ≤ p.fr ∧ p.fr < p.to
  to : p.to ≤ 4096
  gap : -4096 ≤ p.gap ∧ p.gap ≤ 4096
theorem s210 (p : Prt) (h : PB p) : PSpec Tryz.prog 210 [p.x] (.x (I p.long)) := by
  have h1 := h.fr
  have h2 := h.to
  refine spec_of pMix (O := []) Tryz.func210 (c := bodyOf Tryz.f210) rfl (by kernel_rfl) (by kernel_rfl) Tryz.ntmps210 (res := [.tmp 2]) (by kernel_rfl) ?_
  repeat' ((conv => whnf); first | refine Rng.g ?_ | refine Ob.g ?_ | refine Ob.e ?_ | refine Ob.m ?_ | refine Ob.mk (Nat.le_of_ble_eq_true rfl) ?_ | refine JoinVC.on ?_ | refine Nils.mk (fun h => ?_) ?_ | refine Val.t ?_ | refine Val.d ?_ | refine Mm.mk ?_ | (refine Br.mk (fun h => ?_) (fun h => ?_) <;> first | (exfalso; omega; done) | (exfalso; simp at h; done) | skip))
  repeat refine Mm.mk ?_
  refine EndVC.mk _ rfl _ _ ⟨rfl, rfl⟩ ?_
  refine ⟨[], rfl, rfl, ?_, ?_⟩ <;> repeat' (first | exact trivial | exact rfl | exact Iff.rfl | apply And.intro)
/-- The end of some parts. -/
def endP : List Prt → Int := fun l => l.foldl (fun e p => e + p.gap + p.long) 0
theorem endP_snoc (l : List Prt) (p : Prt) : endP (l ++ [p]) = endP l + p.gap + p.long := by unfold endP; rw [List.foldl_append]; rfl
def begP (l : List Prt) (i : Nat) : Int := endP (l.take i) + (l.getD i p0).gap
theorem endP_succ (l : List Prt) {i : Nat} (h : i < l.length) : endP (l.take (i + 1)) = begP l i + (l.getD i p0).long := by
  rw [take_snoc l i p0 h, endP_snoc]; rfl
def PBs (l : List Prt) : Prop := l.length ≤ 32 ∧ ∀ j, j < l.length → PB (l.getD j p0)
theorem endP_bd {l : List Prt} (h : PBs l) : ∀ i, i ≤ l.length → -8192 * (i : Int) ≤ endP (l.take i) ∧ endP (l.take i) ≤ 8192 * i
  | 0, _ => by simp [endP]
  | i + 1, hi => by
    have ih := endP_bd h i (by omega)
    have hb := h.2 i (by omega)
    obtain ⟨h1, h2, h3⟩ := hb
    rw [endP_succ l (by omega)]
    unfold begP Prt.long
    omega
def begs (l : List Prt) (n : Nat) : List Int := (List.range n).map (begP l)
theorem begs_len (l : List Prt) (n : Nat) : (begs l n).length = n := by simp [begs]
theorem begs_snoc (l : List Prt) (n : Nat) : begs l (n + 1) = begs l n ++ [begP l n] := by simp [begs, List.range_succ]
theorem begs_get (l : List Prt) (n i : Nat) (h : i < n) : (begs l n).getD i 0 = begP l i := by
  simp [begs, List.getD_eq_getElem?_getD, List.getElem?_range h]
theorem eb3 : Tryz.t3.bytes = 8 := by kernel_rfl
@[reducible] def rowN (l : List Int) : Blk := .row 3 false [.int .i64] (i64s l)
theorem s120 (l : List Prt) (h : PBs l) : HSpec Tryz.prog 120 [lP l] [] (fun r m' => r = .tup [.one (.own 0), I (endP l)] ∧ m' = [some (rowN (begs l l.length))]) := by
  have ll := prtA_len l
  have h32 := h.1
  refine spec_of pMix (O := [(7, ([], [⟨0, [], []⟩, ⟨1, [], []⟩, ⟨2, [], []⟩, ⟨3, [], []⟩, ⟨4, [], []⟩, ⟨5, [], []⟩, ⟨6, [], []⟩, ⟨7, [], []⟩, ⟨8, [0, 1, 2, 3], []⟩, ⟨9, [], []⟩, ⟨10, [], []⟩]))]) Tryz.func120 (c := bodyOf Tryz.f120) rfl (by kernel_rfl) (by kernel_rfl) Tryz.ntmps120 (res := [.tmp 2, .tmp 3]) (by kernel_rfl) ?_
  repeat' ((conv => whnf); first | refine Rng.g ?_ | refine Ob.g ?_ | refine Ob.e ?_ | refine Ob.m ?_ | refine Ob.mk (Nat.le_of_ble_eq_true rfl) ?_ | refine JoinVC.on ?_ | refine Nils.mk (fun h => ?_) ?_ | refine Val.t ?_ | refine Val.d ?_ | refine Mm.mk ?_ | (refine Br.mk (fun h => ?_) (fun h => ?_) <;> first | (exfalso; omega; done) | (exfalso; simp at h; done) | skip))
  refine LoopVC.mk (fun n st => ∃ (i : Nat), i ≤ l.length ∧ n = l.length - i ∧ st = ⟨0, envA 35 [(0, .x (lP l)), (4, .x (.one (.own 0))), (5, .int .i64 (endP (l.take i))), (6, .int .i64 (i : Int))], [some (rowN (begs l i))]⟩) _ _ ⟨0, Nat.zero_le _, rfl, rfl⟩ ?_ ?_
  · refine ⟨[none], rfl, rfl, ?_, ?_⟩ <;> repeat' (first | exact trivial | exact rfl | exact Iff.rfl | apply And.intro)
  rintro n _ ⟨i, hi, hn, rfl⟩
  have gg : rI (prtA l) (i : Int).toNat (0 + (0 + 1 + 1 + 1)) = (l.getD i p0).gap := prtA_3 l i
  have hb := endP_bd h i hi
  have lb : (i64s (begs l i)).length = i := by rw [i64s_len, begs_len]
  by_cases hi' : i < l.length
  · have hp := h.2 i hi'
    have c1 := s210 (l.getD i p0) hp
    rw [← prtX_eq] at c1
    obtain ⟨h1, h2, h3⟩ := hp
    have hx : rI (i64s (begs l (i + 1))) (i : Int).toNat 0 = begP l i := by rw [Int.toNat_natCast, i64s_get, begs_get _ _ _ (Nat.lt_succ_self i)]
    have he := endP_succ l hi'
    have hs : endP (l.take i) + rI (prtA l) (i : Int).toNat (0 + (0 + 1 + 1 + 1)) = begP l i := by rw [gg]; rfl
    have hrow : i64s (begs l i) ++ [[.int (endP (l.take i) + rI (prtA l) (i : Int).toNat (0 + (0 + 1 + 1 + 1)))]] = i64s (begs l (i + 1)) := by rw [hs, begs_snoc, i64s_snoc]
    have hbb : -300000 ≤ begP l i ∧ begP l i ≤ 300000 := by unfold begP; omega
    have hlg : 0 ≤ (l.getD i p0).long ∧ (l.getD i p0).long ≤ 4096 := by unfold Prt.long; omega
    repeat' ((conv => whnf); first | refine Rng.g ?_ | refine Ob.g ?_ | refine Ob.e ?_ | refine Ob.m ?_ | refine Ob.mk (Nat.le_of_ble_eq_true rfl) ?_ | refine JoinVC.on ?_ | refine Nils.mk (fun h => ?_) ?_ | refine Val.t ?_ | refine Val.d ?_ | refine Mm.mk ?_ | (refine Br.mk (fun h => ?_) (fun h => ?_) <;> first | (exfalso; omega; done) | (exfalso; simp at h; done) | skip))
    repeat refine Mm.mk ?_
    refine Ob.mk (by simp only [lb, eb3, List.length_cons, List.length_nil]; omega) ?_
    have lb2 : (i64s (begs l (i + 1))).length = i + 1 := by rw [i64s_len, begs_len]
    repeat' ((conv => whnf); first | rw [hrow] | rw [hx] | refine Rng.g ?_ | refine Ob.g ?_ | refine Ob.e ?_ | refine Ob.m ?_ | refine Ob.mk (Nat.le_of_ble_eq_true rfl) ?_ | refine JoinVC.on ?_ | refine Nils.mk (fun h => ?_) ?_ | refine Val.t ?_ | refine Val.d ?_ | refine Mm.mk ?_ | refine CallVC.pure rfl (c1) ?_ | refine CallVC0.pure rfl (c1) ?_ | (refine Br.mk (fun h => ?_) (fun h => ?_) <;> first | (exfalso; omega; done) | (exfalso; simp at h; done) | skip))
    refine Back.mk (l.length - (i + 1)) _ (by omega) ⟨i + 1, by omega, rfl, rfl⟩ ?_
    refine ⟨[some 2], rfl, rfl, ?_, ?_⟩ <;> repeat' (first | exact trivial | exact rfl | exact Iff.rfl | apply And.intro)
    exact he.symm
  · have e1 : l.take i = l := List.take_of_length_le (by omega)
    have e2 : i = l.length := by omega
    rw [e1]
    subst e2
    repeat' ((conv => whnf); first | refine Rng.g ?_ | refine Ob.g ?_ | refine Ob.e ?_ | refine Ob.m ?_ | refine Ob.mk (Nat.le_of_ble_eq_true rfl) ?_ | refine JoinVC.on ?_ | refine Nils.mk (fun h => ?_) ?_ | refine Val.t ?_ | refine Val.d ?_ | refine Mm.mk ?_ | (refine Br.mk (fun h => ?_) (fun h => ?_) <;> first | (exfalso; omega; done) | (exfalso; simp at h; done) | skip))
    repeat refine Mm.mk ?_
    refine EndVC.mk _ rfl _ _ ⟨rfl, rfl⟩ ?_
    refine ⟨[some 0], rfl, rfl, ?_, ?_⟩ <;> repeat' (first | exact trivial | exact rfl | exact Iff.rfl | apply And.intro)
/-! ### Possible programmes -/
structure Poss (l : List Prt) : Prop where
  first : 0 < l.length → 0 ≤ begP l 0
  gap : ∀ i, 0 < i → i < l.length → -(l.getD i p0).long ≤ (l.getD i p0).gap ∧ -(l.getD (i - 1) p0).long ≤ (l.getD i p0).gap
  free : ∀ i, 1 < i → i < l.length → begP l (i - 2) + (l.getD (i - 2) p0).long ≤ begP l i
  stop : endP l ≤ 4096
open Classical in
theorem s119 (l : List Prt) (h : PBs l) : PSpec Tryz.prog 119 [lP l] (xP (Poss l)) := by
  have ll := prtA_len l
  have h32 := h.1
  have lb : (i64s (begs l l.length)).length = l.length := by rw [i64s_len, begs_len]
  refine spec_of pMix (O := [(5, ([], [⟨0, [], []⟩, ⟨1, [], []⟩, ⟨2, [], []⟩, ⟨3, [], []⟩, ⟨4, [], []⟩, ⟨5, [], []⟩, ⟨6, [], []⟩, ⟨7, [], []⟩, ⟨8, [], []⟩, ⟨9, [], []⟩, ⟨10, [], []⟩, ⟨11, [], []⟩, ⟨12, [], []⟩, ⟨13, [], []⟩, ⟨14, [], []⟩, ⟨15, [], []⟩, ⟨16, [], []⟩, ⟨17, [], []⟩, ⟨18, [], []⟩, ⟨19, [], []⟩, ⟨20, [], []⟩, ⟨21, [], []⟩, ⟨22, [13, 14, 15, 16, 17], []⟩, ⟨23, [], []⟩, ⟨24, [], []⟩, ⟨25, [], []⟩, ⟨26, [], []⟩, ⟨27, [], []⟩, ⟨28, [], []⟩, ⟨29, [], []⟩, ⟨30, [], []⟩, ⟨31, [], []⟩, ⟨32, [], []⟩, ⟨33, [], []⟩, ⟨34, [], []⟩, ⟨35, [], []⟩, ⟨36, [26, 27, 28, 29, 30], []⟩, ⟨37, [], []⟩, ⟨38, [], []⟩, ⟨39, [], []⟩, ⟨40, [], []⟩, ⟨41, [], []⟩, ⟨42, [], []⟩, ⟨43, [], []⟩, ⟨44, [], []⟩, ⟨45, [], []⟩, ⟨46, [], []⟩, ⟨47, [], []⟩, ⟨48, [], []⟩, ⟨49, [], []⟩, ⟨50, [], []⟩, ⟨51, [], []⟩, ⟨52, [], []⟩, ⟨53, [], []⟩, ⟨54, [], []⟩, ⟨55, [], []⟩, ⟨56, [], []⟩, ⟨57, [], []⟩, ⟨58, [], []⟩, ⟨59, [], []⟩, ⟨60, [46, 47, 48, 49, 50, 51, 52, 53, 54], []⟩, ⟨61, [], []⟩, ⟨62, [], []⟩, ⟨63, [], []⟩, ⟨64, [], []⟩]))]) Tryz.func119 (c := bodyOf Tryz.f119) rfl (by kernel_rfl) (by kernel_rfl) Tryz.ntmps119 (res := [.tmp 2]) (by kernel_rfl) ?_
  repeat' ((conv => whnf); first | refine Rng.g ?_ | refine Ob.g ?_ | refine Ob.e ?_ | refine Ob.m ?_ | refine Ob.mk (Nat.le_of_ble_eq_true rfl) ?_ | refine JoinVC.on ?_ | refine Nils.mk (fun h => ?_) ?_ | refine Val.t ?_ | refine Val.d ?_ | refine Mm.mk ?_ | (refine Br.mk (fun h => ?_) (fun h => ?_) <;> first | (exfalso; omega; done) | (exfalso; simp at h; done) | skip))
  conv => whnf
  refine CallVC.mk [] _ _ _ rfl rfl rfl (s120 l h) (fun r m' h' => ?_)
  obtain ⟨rfl, rfl⟩ := h'
  conv => whnf
  repeat' ((conv => whnf); first | refine Rng.g ?_ | refine Ob.g ?_ | refine Ob.e ?_ | refine Ob.m ?_ | refine Ob.mk (Nat.le_of_ble_eq_true rfl) ?_ | refine JoinVC.on ?_ | refine Nils.mk (fun h => ?_) ?_ | refine Val.t ?_ | refine Val.d ?_ | refine Mm.mk ?_ | (refine Br.mk (fun h => ?_) (fun h => ?_) <;> first | (exfalso; omega; done) | (exfalso; simp at h; done) | skip))
  refine LoopVC.mk (fun n st => ∃ (i : Nat), i ≤ l.length ∧ n = l.length - i ∧ (∀ j, j < i → (j = 0 → 0 ≤ begP l 0) ∧ (0 < j → -(l.getD j p0).long ≤ (l.getD j p0).gap ∧ -(l.getD (j - 1) p0).long ≤ (l.getD j p0).gap) ∧ (1 < j → begP l (j - 2) + (l.getD (j - 2) p0).long ≤ begP l j)) ∧ st = ⟨0, envA 84 [(0, .x (lP l)), (3, .x (.one (.own 0))), (4, .int .i64 (endP l)), (5, .int .i64 (i : Int))], [some (rowN (begs l l.length))]⟩) _ _ ⟨0, Nat.zero_le _, rfl, fun j hj => absurd hj (Nat.not_lt_zero j), rfl⟩ ?_ ?_
  · refine ⟨[some 0], rfl, rfl, ?_, ?_⟩ <;> repeat' (first | exact trivial | exact rfl | exact Iff.rfl | apply And.intro)
  rintro n _ ⟨i, hi, hn, hj, rfl⟩
  by_cases hi' : i < l.length
  · have hb : ∀ k, k < l.length → -300000 ≤ begP l k ∧ begP l k ≤ 300000 ∧ 0 < (l.getD k p0).long ∧ (l.getD k p0).long ≤ 4096 := fun k hk => by
      have h1 := endP_bd h k (by omega)
      have h2 := h.2 k hk
      obtain ⟨h3, h4, h5⟩ := h2
      unfold begP Prt.long
      omega
    have gg : rI (prtA l) (i : Int).toNat (0 + (0 + 1 + 1 + 1)) = (l.getD i p0).gap := prtA_3 l i
    have gb : rI (i64s (begs l l.length)) (i : Int).toNat 0 = begP l i := by rw [Int.toNat_natCast, i64s_get, begs_get _ _ _ hi']
    have hp := h.2 i hi'
    have c1 := s210 (l.getD i p0) hp
    rw [← prtX_eq] at c1
    have hbi := hb i hi'
    have hgi := hp.gap
    have fin : (i = 0 → 0 ≤ begP l 0) → (0 < i → -(l.getD i p0).long ≤ (l.getD i p0).gap ∧ -(l.getD (i - 1) p0).long ≤ (l.getD i p0).gap) → (1 < i → begP l (i - 2) + (l.getD (i - 2) p0).long ≤ begP l i) → ∀ j, j < i + 1 → (j = 0 → 0 ≤ begP l 0) ∧ (0 < j → -(l.getD j p0).long ≤ (l.getD j p0).gap ∧ -(l.getD (j - 1) p0).long ≤ (l.getD j p0).gap) ∧ (1 < j → begP l (j - 2) + (l.getD (j - 2) p0).long ≤ begP l j) := fun f1 f2 f3 j hj' => by
      rcases Nat.lt_succ_iff_lt_or_eq.1 hj' with h' | rfl
      · exact hj j h'
      · exact ⟨f1, f2, f3⟩
    by_cases hz : i = 0
    · have hbz : begP l i = begP l 0 := by rw [hz]
      repeat' ((conv => whnf); first | refine Rng.g ?_ | refine Ob.g ?_ | refine Ob.e ?_ | refine Ob.m ?_ | refine Ob.mk (Nat.le_of_ble_eq_true rfl) ?_ | refine JoinVC.on ?_ | refine Nils.mk (fun h => ?_) ?_ | refine Val.t ?_ | refine Val.d ?_ | refine Mm.mk ?_ | refine CallVC.pure rfl (c1) ?_ | refine CallVC0.pure rfl (c1) ?_ | (refine Br.mk (fun h => ?_) (fun h => ?_) <;> first | (exfalso; omega; done) | (exfalso; simp at h; done) | skip))
      any_goals
        refine Back.mk (l.length - (i + 1)) _ (by omega) ⟨i + 1, by omega, rfl, fin (fun _ => by omega) (fun h => by omega) (fun h => by omega), rfl⟩ ?_
        refine ⟨[some 0], rfl, rfl, ?_, ?_⟩ <;> repeat' (first | exact trivial | exact rfl | exact Iff.rfl | apply And.intro)
      all_goals
        repeat refine Mm.mk ?_
        refine EndVC.mk _ rfl _ _ ⟨rfl, rfl⟩ ?_
        refine ⟨[], rfl, rfl, ?_, ?_⟩ <;> repeat' (first | exact trivial | exact rfl | exact Iff.rfl | apply And.intro)
        exact fun hP => (by have := hP.first (by omega); omega)
    have e1 : ((i : Int) - 1).toNat = i - 1 := by omega
    have c2 : PSpec Tryz.prog 210 [prtX l ((i : Int) - 1).toNat] (.x (I (l.getD (i - 1) p0).long)) := by rw [e1, prtX_eq]; exact s210 _ (h.2 _ (by omega))
    have hb1 := hb (i - 1) (by omega)
    by_cases h1 : i = 1
    · repeat' ((conv => whnf); first | refine Rng.g ?_ | refine Ob.g ?_ | refine Ob.e ?_ | refine Ob.m ?_ | refine Ob.mk (Nat.le_of_ble_eq_true rfl) ?_ | refine JoinVC.on ?_ | refine Nils.mk (fun h => ?_) ?_ | refine Val.t ?_ | refine Val.d ?_ | refine Mm.mk ?_ | refine CallVC.pure rfl (c1) ?_ | refine CallVC.pure rfl (c2) ?_ | refine CallVC0.pure rfl (c1) ?_ | refine CallVC0.pure rfl (c2) ?_ | (refine Br.mk (fun h => ?_) (fun h => ?_) <;> first | (exfalso; omega; done) | (exfalso; simp at h; done) | skip))
      any_goals
        refine Back.mk (l.length - (i + 1)) _ (by omega) ⟨i + 1, by omega, rfl, fin (fun h => by omega) (fun _ => ⟨by omega, by omega⟩) (fun h => by omega), rfl⟩ ?_
        refine ⟨[some 0], rfl, rfl, ?_, ?_⟩ <;> repeat' (first | exact trivial | exact rfl | exact Iff.rfl | apply And.intro)
      all_goals
        repeat refine Mm.mk ?_
        refine EndVC.mk _ rfl _ _ ⟨rfl, rfl⟩ ?_
        refine ⟨[], rfl, rfl, ?_, ?_⟩ <;> repeat' (first | exact trivial | exact rfl | exact Iff.rfl | apply And.intro)
        exact fun hP => (by have := hP.gap i (by omega) hi'; omega)
    have e2 : ((i : Int) - 2).toNat = i - 2 := by omega
    have c3 : PSpec Tryz.prog 210 [prtX l ((i : Int) - 2).toNat] (.x (I (l.getD (i - 2) p0).long)) := by rw [e2, prtX_eq]; exact s210 _ (h.2 _ (by omega))
    have hb2 := hb (i - 2) (by omega)
    have gb2 : rI (i64s (begs l l.length)) ((i : Int) - 2).toNat 0 = begP l (i - 2) := by rw [e2, i64s_get, begs_get _ _ _ (by omega)]
    repeat' ((conv => whnf); first | refine Rng.g ?_ | refine Ob.g ?_ | refine Ob.e ?_ | refine Ob.m ?_ | refine Ob.mk (Nat.le_of_ble_eq_true rfl) ?_ | refine JoinVC.on ?_ | refine Nils.mk (fun h => ?_) ?_ | refine Val.t ?_ | refine Val.d ?_ | refine Mm.mk ?_ | refine CallVC.pure rfl (c1) ?_ | refine CallVC.pure rfl (c2) ?_ | refine CallVC.pure rfl (c3) ?_ | refine CallVC0.pure rfl (c1) ?_ | refine CallVC0.pure rfl (c2) ?_ | refine CallVC0.pure rfl (c3) ?_ | (refine Br.mk (fun h => ?_) (fun h => ?_) <;> first | (exfalso; omega; done) | (exfalso; simp at h; done) | skip))
    any_goals
      refine Back.mk (l.length - (i + 1)) _ (by omega) ⟨i + 1, by omega, rfl, fin (fun h => by omega) (fun _ => ⟨by omega, by omega⟩) (fun _ => by omega), rfl⟩ ?_
      refine ⟨[some 0], rfl, rfl, ?_, ?_⟩ <;> repeat' (first | exact trivial | exact rfl | exact Iff.rfl | apply And.intro)
    all_goals
      repeat refine Mm.mk ?_
      refine EndVC.mk _ rfl _ _ ⟨rfl, rfl⟩ ?_
      refine ⟨[], rfl, rfl, ?_, ?_⟩ <;> repeat' (first | exact trivial | exact rfl | exact Iff.rfl | apply And.intro)
      exact fun hP => (by have g1 := hP.gap i (by omega) hi'; have g2 := hP.free i (by omega) hi'; omega)
  · repeat' ((conv => whnf); first | refine Rng.g ?_ | refine Ob.g ?_ | refine Ob.e ?_ | refine Ob.m ?_ | refine Ob.mk (Nat.le_of_ble_eq_true rfl) ?_ | refine JoinVC.on ?_ | refine Nils.mk (fun h => ?_) ?_ | refine Val.t ?_ | refine Val.d ?_ | refine Mm.mk ?_ | (refine Br.mk (fun h => ?_) (fun h => ?_) <;> first | (exfalso; omega; done) | (exfalso; simp at h; done) | skip))
    repeat refine Mm.mk ?_
    refine EndVC.mk _ rfl _ _ ⟨rfl, rfl⟩ ?_
    refine ⟨[], rfl, rfl, ?_, ?_⟩ <;> repeat' (first | exact trivial | exact rfl | exact Iff.rfl | apply And.intro)
    have hj' := fun j (hj' : j < l.length) => hj j (by omega)
    show _ ↔ _
    exact ⟨fun h4 => ⟨fun h0 => (hj' 0 h0).1 rfl, fun i h0 hi => (hj' i hi).2.1 h0, fun i h0 hi => (hj' i hi).2.2 h0, h4⟩, fun hP => hP.stop⟩
end Go.Sx
