import Derived.Test.YthlebjnhcinheaaGreatDoorProg
import Derived.Test.YthlebjnhcinheaaGreatDoorXd
import Derived.Shelf.Strings.SlTrimAscii
namespace Go.Sx
open Go Go.Proofs
set_option maxRecDepth 10000
set_option maxHeartbeats 1000000
theorem pMix : Tryz.prog.follows .mixedOrders = true := by kernel_rfl
/-- A sample. -/
structure Smp where
  l : Int
  r : Int
@[reducible] def Smp.x (s : Smp) : XV := .agg [.int .i64 s.l, .int .i64 s.r]
def smpA (l : List Smp) : Arr := l.map fun s => [.int s.l, .int s.r]
theorem smpA_len (l : List Smp) : (smpA l).length = l.length := by simp [smpA]
abbrev s0 : Smp := ⟨0, 0⟩
theorem smpA_l (l : List Smp) (i : Nat) : rI (smpA l) i 0 = (l.getD i s0).l := map_rI _ s0 l i 0 rfl
theorem smpA_r (l : List Smp) (i : Nat) : rI (smpA l) i 1 = (l.getD i s0).r := map_rI _ s0 l i 1 rfl
theorem smpA_snoc (l : List Smp) (s : Smp) : smpA (l ++ [s]) = smpA l ++ [[.int s.l, .int s.r]] := by simp [smpA]
@[reducible] def KS : List CK := [.int .i64, .int .i64]
@[reducible] def lS (l : List Smp) : XV := .one (.lst true KS (smpA l))
def Smp.ok (s : Smp) : Prop := -32767 ≤ s.l ∧ s.l ≤ 32767 ∧ -32767 ≤ s.r ∧ s.r ≤ 32767
instance (s : Smp) : Decidable s.ok := by unfold Smp.ok; exact inferInstance
def inI (n : Int) : Prop := -9223372036854775808 ≤ n ∧ n ≤ 9223372036854775807
theorem s125 (n lo hi : Int) : PSpec Tryz.prog 125 [I n, I lo, I hi] (xP (lo ≤ n ∧ n ≤ hi)) := by
  refine spec_of pMix (O := []) Tryz.func125 (c := bodyOf Tryz.f125) rfl (by kernel_rfl) (by kernel_rfl) Tryz.ntmps125 (res := [.tmp 6]) (by kernel_rfl) ?_
  repeat' ((conv => whnf); first | refine Rng.g ?_ | refine Ob.g ?_ | refine Ob.e ?_ | refine Ob.m ?_ | refine Ob.mk (Nat.le_of_ble_eq_true rfl) ?_ | refine JoinVC.on ?_ | refine Nils.mk (fun h => ?_) ?_ | refine Val.t ?_ | refine Val.d ?_ | refine Mm.mk ?_ | (refine Br.mk (fun h => ?_) (fun h => ?_) <;> first | (exfalso; omega; done) | (exfalso; simp at h; done) | skip))
  · repeat refine Mm.mk ?_
    refine EndVC.mk _ rfl _ _ ⟨rfl, rfl⟩ ?_
    refine ⟨[], rfl, rfl, ?_, ?_⟩ <;> repeat' (first | exact trivial | exact rfl | exact Iff.rfl | apply And.intro)
    show _ ↔ _
    simp [h]
  · repeat refine Mm.mk ?_
    refine EndVC.mk _ rfl _ _ ⟨rfl, rfl⟩ ?_
    refine ⟨[], rfl, rfl, ?_, ?_⟩ <;> repeat' (first | exact trivial | exact rfl | exact Iff.rfl | apply And.intro)
    show ¬ _
    simp [h]
theorem s200 (s : Smp) : PSpec Tryz.prog 200 [s.x] (xP s.ok) := by
  refine spec_of pMix (O := []) Tryz.func200 (c := bodyOf Tryz.f200) rfl (by kernel_rfl) (by kernel_rfl) Tryz.ntmps200 (res := [.tmp 2]) (by kernel_rfl) ?_
  repeat' ((conv => whnf); first | refine Rng.g ?_ | refine Ob.g ?_ | refine Ob.e ?_ | refine Ob.m ?_ | refine Ob.mk (Nat.le_of_ble_eq_true rfl) ?_ | refine JoinVC.on ?_ | refine Nils.mk (fun h => ?_) ?_ | refine Val.t ?_ | refine Val.d ?_ | refine Mm.mk ?_ | refine CallVC.pure rfl (s125 _ _ _) ?_ | refine CallVC0.pure rfl (s125 _ _ _) ?_ | (refine Br.mk (fun h => ?_) (fun h => ?_) <;> first | (exfalso; omega; done) | (exfalso; simp at h; done) | skip))
  · repeat refine Mm.mk ?_
    refine EndVC.mk _ rfl _ _ ⟨rfl, rfl⟩ ?_
    refine ⟨[], rfl, rfl, ?_, ?_⟩ <;> repeat' (first | exact trivial | exact rfl | exact Iff.rfl | apply And.intro)
    show _ ↔ _
    unfold Smp.ok
    omega
  · repeat refine Mm.mk ?_
    refine EndVC.mk _ rfl _ _ ⟨rfl, rfl⟩ ?_
    refine ⟨[], rfl, rfl, ?_, ?_⟩ <;> repeat' (first | exact trivial | exact rfl | exact Iff.rfl | apply And.intro)
    show ¬ _
    unfold Smp.ok
    omega
/-- The error of samples. -/
def smpE (l : List Smp) : Int := if 4096 < l.length then 6 else if ∀ s ∈ l, s.ok then 0 else 2
theorem smpE_0 {l : List Smp} : smpE l = 0 ↔ l.length ≤ 4096 ∧ ∀ s ∈ l, s.ok := by
  unfold smpE
  split
  · constructor
    · intro h; cases h
    · intro h; omega
  · split
    · rename_i h1 h2; exact ⟨fun _ => ⟨by omega, h2⟩, fun _ => rfl⟩
    · rename_i h1 h2; exact ⟨fun h => (by cases h), fun h => absurd h.2 h2⟩
theorem smpE_2 {l : List Smp} (h : l.length ≤ 4096) {i : Nat} (hi : i < l.length) (hn : ¬ (l.getD i s0).ok) : smpE l = 2 := by
  unfold smpE
  rw [if_neg (by omega), if_neg (fun h' => hn (h' _ (getD_mem' s0 hi)))]
theorem smpE_ok {l : List Smp} (h : l.length ≤ 4096) (hn : ∀ j, j < l.length → (l.getD j s0).ok) : smpE l = 0 := by
  refine smpE_0.2 ⟨h, fun s hs => ?_⟩
  obtain ⟨j, hj, rfl⟩ := List.getElem_of_mem hs
  have := hn j hj
  rwa [List.getD_eq_getElem?_getD, List.getElem?_eq_getElem hj] at this
theorem s103 (l : List Smp) : PSpec Tryz.prog 103 [lS l] (.x (I (smpE l))) := by
  have ll := smpA_len l
  by_cases hl : 4096 < l.length
  · refine spec_of pMix (O := []) Tryz.func103 (c := bodyOf Tryz.f103) rfl (by kernel_rfl) (by kernel_rfl) Tryz.ntmps103 (res := [.tmp 2]) (by kernel_rfl) ?_
    repeat' ((conv => whnf); first | refine Rng.g ?_ | refine Ob.g ?_ | refine Ob.e ?_ | refine Ob.m ?_ | refine Ob.mk (Nat.le_of_ble_eq_true rfl) ?_ | refine JoinVC.on ?_ | refine Nils.mk (fun h => ?_) ?_ | refine Val.t ?_ | refine Val.d ?_ | refine Mm.mk ?_ | (refine Br.mk (fun h => ?_) (fun h => ?_) <;> first | (exfalso; omega; done) | (exfalso; simp at h; done) | skip))
    repeat refine Mm.mk ?_
    refine EndVC.mk _ rfl _ _ ⟨rfl, rfl⟩ ?_
    refine ⟨[], rfl, rfl, ?_, ?_⟩ <;> repeat' (first | exact trivial | exact rfl | exact Iff.rfl | apply And.intro)
    unfold smpE
    rw [if_pos hl]
  refine spec_of pMix (O := []) Tryz.func103 (c := bodyOf Tryz.f103) rfl (by kernel_rfl) (by kernel_rfl) Tryz.ntmps103 (res := [.tmp 2]) (by kernel_rfl) ?_
  repeat' ((conv => whnf); first | refine Rng.g ?_ | refine Ob.g ?_ | refine Ob.e ?_ | refine Ob.m ?_ | refine Ob.mk (Nat.le_of_ble_eq_true rfl) ?_ | refine JoinVC.on ?_ | refine Nils.mk (fun h => ?_) ?_ | refine Val.t ?_ | refine Val.d ?_ | refine Mm.mk ?_ | (refine Br.mk (fun h => ?_) (fun h => ?_) <;> first | (exfalso; omega; done) | (exfalso; simp at h; done) | skip))
  refine LoopVC.mk (fun n st => ∃ (i : Nat) (M : List (Option Blk)), i ≤ l.length ∧ n = l.length - i ∧ (∀ j, j < i → (l.getD j s0).ok) ∧ st = ⟨0, envA 18 [(8, .x (lS l)), (9, .int .i64 (l.length : Int)), (10, .int .i64 (i : Int))], []⟩) _ _ ⟨0, [], Nat.zero_le _, rfl, fun j hj => absurd hj (Nat.not_lt_zero j), rfl⟩ ?_ ?_
  · refine ⟨[], rfl, rfl, ?_, ?_⟩ <;> repeat' (first | exact trivial | exact rfl | exact Iff.rfl | apply And.intro)
    exact congrArg Int.ofNat ll
  rintro n _ ⟨i, _, hi, hn, hj, rfl⟩
  have g0 : rI (smpA l) (i : Int).toNat 0 = (l.getD i s0).l := smpA_l l i
  have g1 : rI (smpA l) (i : Int).toNat 1 = (l.getD i s0).r := smpA_r l i
  by_cases hi' : i < l.length
  · repeat' ((conv => whnf); first | refine Rng.g ?_ | refine Ob.g ?_ | refine Ob.e ?_ | refine Ob.m ?_ | refine Ob.mk (Nat.le_of_ble_eq_true rfl) ?_ | refine JoinVC.on ?_ | refine Nils.mk (fun h => ?_) ?_ | refine Val.t ?_ | refine Val.d ?_ | refine Mm.mk ?_ | refine CallVC.pure rfl (s200 ⟨rI (smpA l) (i : Int).toNat 0, rI (smpA l) (i : Int).toNat 1⟩) ?_ | refine CallVC0.pure rfl (s200 ⟨rI (smpA l) (i : Int).toNat 0, rI (smpA l) (i : Int).toNat 1⟩) ?_ | (refine Br.mk (fun h => ?_) (fun h => ?_) <;> first | (exfalso; omega; done) | (exfalso; simp at h; done) | skip))
    all_goals rw [g0, g1] at h
    · repeat refine Mm.mk ?_
      refine EndVC.mk _ rfl _ _ ⟨rfl, rfl⟩ ?_
      refine ⟨[], rfl, rfl, ?_, ?_⟩ <;> repeat' (first | exact trivial | exact rfl | exact Iff.rfl | apply And.intro)
      exact (smpE_2 (by omega) hi' h).symm
    · refine Back.mk (l.length - (i + 1)) _ (by omega) ⟨i + 1, [], by omega, rfl, fun j hj' => ?_, rfl⟩ ?_
      · rcases Nat.lt_succ_iff_lt_or_eq.1 hj' with h' | rfl
        · exact hj j h'
        · exact Decidable.not_not.1 h
      · refine ⟨[], rfl, rfl, ?_, ?_⟩ <;> repeat' (first | exact trivial | exact rfl | exact Iff.rfl | apply And.intro)
  · repeat' ((conv => whnf); first | refine Rng.g ?_ | refine Ob.g ?_ | refine Ob.e ?_ | refine Ob.m ?_ | refine Ob.mk (Nat.le_of_ble_eq_true rfl) ?_ | refine JoinVC.on ?_ | refine Nils.mk (fun h => ?_) ?_ | refine Val.t ?_ | refine Val.d ?_ | refine Mm.mk ?_ | (refine Br.mk (fun h => ?_) (fun h => ?_) <;> first | (exfalso; omega; done) | (exfalso; simp at h; done) | skip))
    repeat refine Mm.mk ?_
    refine EndVC.mk _ rfl _ _ ⟨rfl, rfl⟩ ?_
    refine ⟨[], rfl, rfl, ?_, ?_⟩ <;> repeat' (first | exact trivial | exact rfl | exact Iff.rfl | apply And.intro)
    exact (smpE_ok (by omega) (fun j hj' => hj j (by omega))).symm
end Go.Sx

namespace Go.Sx
open Go Go.Proofs
set_option maxRecDepth 10000
set_option maxHeartbeats 4000000
/-! ### Shortest ways by relaxing edges in rounds: plain laws -/
structure Edg where
  rule : Int
  pos : Int
  fr : Int
  to : Int
  w : Int
abbrev e0 : Edg := ⟨0, 0, 0, 0, 0⟩
structure LSt where
  R : List Int
  P : List Edg
  c : Int
def nx (P : List Edg) (v : Nat) : Nat := (P.getD v e0).fr.toNat
def rlx (s : LSt) (x : Edg) : LSt := if s.R.getD x.to.toNat 0 ≤ s.R.getD x.fr.toNat 0 + x.w then s else ⟨s.R.set x.to.toNat (s.R.getD x.fr.toNat 0 + x.w), s.P.set x.to.toNat x, x.to⟩
structure EOK (n : Nat) (B : Int) (x : Edg) : Prop where
  f : 0 ≤ x.fr ∧ x.fr < n
  t : 0 ≤ x.to ∧ x.to < n
  ne : x.fr ≠ x.to
  w : -B ≤ x.w ∧ x.w ≤ B
structure LJ (n : Nat) (ini : Nat → Int) (E D : List Edg) (r : Int) (s : LSt) (L : Int) (N : Nat) (t : Nat → Nat) (T : Nat → Int) : Prop where
  lr : s.R.length = n
  lp : s.P.length = n
  hi : ∀ v, v < n → s.R.getD v 0 ≤ ini v
  lo : ∀ v, v < n → -L ≤ s.R.getD v 0
  lb : ∀ y : Nat → Int, (∀ v, v < n → y v ≤ ini v) → (∀ e, e ∈ E → y e.to.toNat ≤ y e.fr.toNat + e.w) → ∀ v, v < n → y v ≤ s.R.getD v 0
  tm : ∀ v, t v ≤ N
  tr : ∀ v, T v ≤ r
  pa : ∀ v, v < n → ((s.P.getD v e0).fr = -1 ∧ T v = -1) ∨ (s.P.getD v e0 ∈ E ∧ (s.P.getD v e0).to = (v : Int) ∧ T v ≤ T (nx s.P v) + 1 ∧ (s.R.getD (nx s.P v) 0 + (s.P.getD v e0).w < s.R.getD v 0 ∨ (s.R.getD v 0 = s.R.getD (nx s.P v) 0 + (s.P.getD v e0).w ∧ t (nx s.P v) < t v)))
  al : ∀ e, e ∈ E → r - 1 ≤ T e.fr.toNat ∨ s.R.getD e.to.toNat 0 ≤ s.R.getD e.fr.toNat 0 + e.w
  dn : ∀ e, e ∈ D → r ≤ T e.fr.toNat ∨ s.R.getD e.to.toNat 0 ≤ s.R.getD e.fr.toNat 0 + e.w
  c : (s.c = -1 ∧ ∀ e, e ∈ D → s.R.getD e.to.toNat 0 ≤ s.R.getD e.fr.toNat 0 + e.w) ∨ (0 ≤ s.c ∧ s.c < n ∧ T s.c.toNat = r)
theorem gset {α : Type} (l : List α) (i j : Nat) (a d : α) (h : i < l.length) : (l.set i a).getD j d = if j = i then a else l.getD j d := by
  simp only [List.getD_eq_getElem?_getD, List.getElem?_set]
  by_cases e : i = j
  · subst e; simp [h]
  · rw [if_neg e, if_neg (fun h => e h.symm)]
theorem LJ.step {n : Nat} {B : Int} {ini : Nat → Int} {E D : List Edg} {r : Int} {s : LSt} {L : Int} {N : Nat} {t : Nat → Nat} {T : Nat → Int} (h : LJ n ini E D r s L N t T) (hB : 0 ≤ B) (hE : ∀ e, e ∈ E → EOK n B e) {x : Edg} (hx : x ∈ E) : ∃ t' T', LJ n ini E (x :: D) r (rlx s x) (L + B) (N + 1) t' T' := by
  obtain ⟨hf, ht, hne, hw⟩ := hE x hx
  unfold rlx
  by_cases hc : s.R.getD x.to.toNat 0 ≤ s.R.getD x.fr.toNat 0 + x.w
  · rw [if_pos hc]
    refine ⟨t, T, h.lr, h.lp, h.hi, fun v hv => by have := h.lo v hv; omega, h.lb, fun v => Nat.le_succ_of_le (h.tm v), h.tr, h.pa, h.al, ?_, ?_⟩
    · intro e he
      rcases List.mem_cons.1 he with rfl | he
      · exact .inr hc
      · exact h.dn e he
    · rcases h.c with ⟨h1, h2⟩ | h1
      · refine .inl ⟨h1, fun e he => ?_⟩
        rcases List.mem_cons.1 he with rfl | he
        · exact hc
        · exact h2 e he
      · exact .inr h1
  · rw [if_neg hc]
    obtain ⟨u, hu⟩ : ∃ u, x.fr.toNat = u := ⟨_, rfl⟩
    obtain ⟨z, hz⟩ : ∃ z, x.to.toNat = z := ⟨_, rfl⟩
    have hun : u < n := by omega
    have hzn : z < n := by omega
    have huz : u ≠ z := by omega
    rw [hu, hz] at hc ⊢
    have hlr := h.lr
    have hlp := h.lp
    have gR : ∀ j, (s.R.set z (s.R.getD u 0 + x.w)).getD j 0 = if j = z then s.R.getD u 0 + x.w else s.R.getD j 0 := fun j => gset _ _ _ _ _ (by omega)
    have gP : ∀ j, (s.P.set z x).getD j e0 = if j = z then x else s.P.getD j e0 := fun j => gset _ _ _ _ _ (by omega)
    have hlow := h.lo u hun
    have key : ∀ e : Edg, e.fr.toNat ≠ z → s.R.getD e.to.toNat 0 ≤ s.R.getD e.fr.toNat 0 + e.w → (s.R.set z (s.R.getD u 0 + x.w)).getD e.to.toNat 0 ≤ (s.R.set z (s.R.getD u 0 + x.w)).getD e.fr.toNat 0 + e.w := by
      intro e h1 h2
      rw [gR, gR, if_neg h1]
      split
      · rename_i h3
        rw [h3] at h2
        omega
      · exact h2
    refine ⟨fun v => if v = z then N + 1 else t v, fun v => if v = z then r else T v, ?_, ?_, ?_, ?_, ?_, ?_, ?_, ?_, ?_, ?_, ?_⟩
    · simp only [List.length_set]; exact hlr
    · simp only [List.length_set]; exact hlp
    · intro v hv
      simp only [gR]
      have := h.hi v hv
      split
      · rename_i h3
        rw [h3] at this
        rw [h3]
        omega
      · exact this
    · intro v hv
      simp only [gR]
      have := h.lo v hv
      split <;> omega
    · intro y h1 h2 v hv
      simp only [gR]
      have h3 := h.lb y h1 h2
      split
      · rename_i h4
        have h5 := h2 x hx
        rw [hu, hz] at h5
        have h6 := h3 u hun
        rw [h4]
        omega
      · exact h3 v hv
    · intro v
      show (if v = z then N + 1 else t v) ≤ N + 1
      have := h.tm v
      split <;> omega
    · intro v
      show (if v = z then r else T v) ≤ r
      have := h.tr v
      split <;> omega
    · intro v hv
      by_cases hvz : v = z
      · refine .inr ?_
        have e1 : (s.P.set z x).getD v e0 = x := by rw [gP, if_pos hvz]
        have e2 : nx (s.P.set z x) v = u := by unfold nx; rw [e1]; exact hu
        simp only [e1, e2]
        refine ⟨hx, by omega, ?_, .inr ⟨?_, ?_⟩⟩
        · rw [if_pos hvz, if_neg huz]
          rcases h.al x hx with h1 | h1
          · rw [hu] at h1; omega
          · rw [hu, hz] at h1; exact absurd h1 hc
        · rw [gR, gR, if_pos hvz, if_neg huz]
        · rw [if_neg huz, if_pos hvz]
          have := h.tm u
          omega
      · have e1 : (s.P.set z x).getD v e0 = s.P.getD v e0 := by rw [gP, if_neg hvz]
        have e2 : nx (s.P.set z x) v = nx s.P v := by unfold nx; rw [e1]
        simp only [e1, e2]
        rcases h.pa v hv with h1 | ⟨h1, h2, h3, h4⟩
        · exact .inl ⟨h1.1, by rw [if_neg hvz]; exact h1.2⟩
        · refine .inr ⟨h1, h2, ?_, ?_⟩
          · rw [if_neg hvz]
            have := h.tr v
            split <;> omega
          · rw [gR, gR, if_neg hvz, if_neg hvz]
            by_cases hq : nx s.P v = z
            · rw [if_pos hq]
              rw [hq] at h4
              refine .inl ?_
              rcases h4 with h4 | h4 <;> omega
            · rw [if_neg hq, if_neg hq]
              exact h4
    · intro e he
      by_cases h1 : e.fr.toNat = z
      · refine .inl ?_
        simp only [h1, if_pos]
        omega
      · rcases h.al e he with h2 | h2
        · refine .inl ?_
          simp only [if_neg h1]
          exact h2
        · exact .inr (key e h1 h2)
    · intro e he
      by_cases h1 : e.fr.toNat = z
      · refine .inl ?_
        simp only [h1, if_pos]
        omega
      · rcases List.mem_cons.1 he with h2 | h2
        · refine .inr ?_
          subst h2
          show (s.R.set z (s.R.getD u 0 + e.w)).getD e.to.toNat 0 ≤ (s.R.set z (s.R.getD u 0 + e.w)).getD e.fr.toNat 0 + e.w
          rw [gR, gR, if_pos hz, if_neg h1, hu]
          omega
        · rcases h.dn e h2 with h3 | h3
          · refine .inl ?_
            simp only [if_neg h1]
            exact h3
          · exact .inr (key e h1 h3)
    · refine .inr ⟨ht.1, ht.2, ?_⟩
      show (if x.to.toNat = z then r else T x.to.toNat) = r
      rw [if_pos hz]
theorem LJ.next {n : Nat} {ini : Nat → Int} {E D : List Edg} {r : Int} {s : LSt} {L : Int} {N : Nat} {t : Nat → Nat} {T : Nat → Int} (h : LJ n ini E D r s L N t T) (hD : ∀ e, e ∈ E → e ∈ D) : LJ n ini E [] (r + 1) ⟨s.R, s.P, -1⟩ L N t T :=
  ⟨h.lr, h.lp, h.hi, h.lo, h.lb, h.tm, fun v => by have := h.tr v; omega, h.pa, fun e he => by
    rcases h.dn e (hD e he) with h1 | h1
    · exact .inl (by omega)
    · exact .inr h1, fun e he => (List.not_mem_nil he).elim, .inl ⟨rfl, fun e he => (List.not_mem_nil he).elim⟩⟩
end Go.Sx

namespace Go.Sx
open Go Go.Proofs
set_option maxRecDepth 10000
set_option maxHeartbeats 4000000
/-! ### What a blank asks of a cut -/
structure Blnk where
  per : Int
  rim : Int
  core : Int
  land : Int
  slow : Int
  fast : Int
structure BlnkOK (b : Blnk) : Prop where
  per : 1 ≤ b.per ∧ b.per ≤ 65536
  rim : 0 ≤ b.rim ∧ b.rim ≤ 4194304
  core : 0 ≤ b.core ∧ b.core ≤ b.rim
  land : 0 ≤ b.land ∧ b.land ≤ 65536
  fast : 0 ≤ b.fast ∧ b.fast ≤ 65536
  slow : 0 ≤ b.slow ∧ b.slow ≤ b.fast
def eR (b : Blnk) (p : List Smp) (i : Nat) : Edg := ⟨1, i, -1, i, b.rim - (p.getD i s0).r⟩
def eS (b : Blnk) (i : Nat) : Edg := ⟨3, i, (i : Int) - 1, i, -b.slow⟩
def eF (b : Blnk) (i : Nat) : Edg := ⟨4, i, i, (i : Int) - 1, b.fast⟩
def eL (b : Blnk) (p : List Smp) (i : Nat) : Edg := ⟨5, i, (i : Int) - b.per, i, (p.getD ((i : Int) - b.per).toNat s0).l - (p.getD i s0).r - b.land⟩
def F1 (b : Blnk) (p : List Smp) (i : Nat) : List Edg := (if 0 < i then [eS b i] else []) ++ (if b.per ≤ i then [eL b p i] else [])
def E1 (b : Blnk) (p : List Smp) (m : Nat) : List Edg := (List.range m).flatMap (F1 b p)
def E2 (b : Blnk) (n j : Nat) : List Edg := (List.range j).map fun q => eF b (n - 1 - q)
def edgs (b : Blnk) (p : List Smp) : List Edg := E1 b p p.length ++ E2 b p.length (p.length - 1)
theorem E1_mem {b : Blnk} {p : List Smp} {m : Nat} {e : Edg} : e ∈ E1 b p m ↔ ∃ i, i < m ∧ ((0 < i ∧ e = eS b i) ∨ (b.per ≤ i ∧ e = eL b p i)) := by
  unfold E1
  rw [List.mem_flatMap]
  constructor
  · rintro ⟨i, hi, he⟩
    refine ⟨i, List.mem_range.1 hi, ?_⟩
    unfold F1 at he
    rcases List.mem_append.1 he with h | h
    · split at h
      · rename_i h1
        exact .inl ⟨h1, by simpa using h⟩
      · simp at h
    · split at h
      · rename_i h1
        exact .inr ⟨h1, by simpa using h⟩
      · simp at h
  · rintro ⟨i, hi, h⟩
    refine ⟨i, List.mem_range.2 hi, ?_⟩
    unfold F1
    rcases h with ⟨h1, rfl⟩ | ⟨h1, rfl⟩
    · exact List.mem_append.2 (.inl (by rw [if_pos h1]; simp))
    · exact List.mem_append.2 (.inr (by rw [if_pos h1]; simp))
theorem E2_mem {b : Blnk} {n j : Nat} {e : Edg} : e ∈ E2 b n j ↔ ∃ q, q < j ∧ e = eF b (n - 1 - q) := by
  unfold E2
  rw [List.mem_map]
  constructor
  · rintro ⟨q, h1, h2⟩
    exact ⟨q, List.mem_range.1 h1, h2.symm⟩
  · rintro ⟨q, h1, h2⟩
    exact ⟨q, List.mem_range.2 h1, h2.symm⟩
theorem edgs_mem {b : Blnk} {p : List Smp} {e : Edg} : e ∈ edgs b p ↔ ∃ i, i < p.length ∧ ((0 < i ∧ e = eS b i) ∨ (b.per ≤ i ∧ e = eL b p i) ∨ (0 < i ∧ e = eF b i)) := by
  unfold edgs
  rw [List.mem_append, E1_mem, E2_mem]
  constructor
  · rintro (⟨i, hi, h⟩ | ⟨q, hq, h⟩)
    · refine ⟨i, hi, ?_⟩
      rcases h with h | h
      · exact .inl h
      · exact .inr (.inl h)
    · exact ⟨p.length - 1 - q, by omega, .inr (.inr ⟨by omega, h⟩)⟩
  · rintro ⟨i, hi, h | h | ⟨h, h1⟩⟩
    · exact .inl ⟨i, hi, .inl h⟩
    · exact .inl ⟨i, hi, .inr h⟩
    · exact .inr ⟨p.length - 1 - i, by omega, by rw [h1]; congr 1; omega⟩
structure PtB (p : List Smp) : Prop where
  len : p.length ≤ 4096
  each : ∀ j, j < p.length → (-4194304 ≤ (p.getD j s0).l ∧ (p.getD j s0).l ≤ 4194304) ∧ (-4194304 ≤ (p.getD j s0).r ∧ (p.getD j s0).r ≤ 4194304)
def Feas (b : Blnk) (p : List Smp) (y : Nat → Int) : Prop := ∀ i, i < p.length → y i ≤ b.rim - (p.getD i s0).r ∧ 0 ≤ y i + ((p.getD i s0).l - b.core) ∧ (0 < i → y i ≤ y (i - 1) + -b.slow ∧ y (i - 1) ≤ y i + b.fast) ∧ (b.per ≤ i → y i ≤ y ((i : Int) - b.per).toNat + ((p.getD ((i : Int) - b.per).toNat s0).l - (p.getD i s0).r - b.land))
theorem toN1 (i : Nat) : ((i : Int) - 1).toNat = i - 1 := by omega
/-- The edges hold just if the rules between samples do. -/
theorem edgs_all {b : Blnk} {p : List Smp} {y : Nat → Int} : (∀ e, e ∈ edgs b p → y e.to.toNat ≤ y e.fr.toNat + e.w) ↔ ∀ i, i < p.length → (0 < i → y i ≤ y (i - 1) + -b.slow ∧ y (i - 1) ≤ y i + b.fast) ∧ (b.per ≤ i → y i ≤ y ((i : Int) - b.per).toNat + ((p.getD ((i : Int) - b.per).toNat s0).l - (p.getD i s0).r - b.land)) := by
  constructor
  · intro h i hi
    refine ⟨fun h0 => ⟨?_, ?_⟩, fun h0 => ?_⟩
    · have := h _ (edgs_mem.2 ⟨i, hi, .inl ⟨h0, rfl⟩⟩)
      simp only [eS, toN1, Int.toNat_natCast] at this
      exact this
    · have := h _ (edgs_mem.2 ⟨i, hi, .inr (.inr ⟨h0, rfl⟩)⟩)
      simp only [eF, toN1, Int.toNat_natCast] at this
      exact this
    · have := h _ (edgs_mem.2 ⟨i, hi, .inr (.inl ⟨h0, rfl⟩)⟩)
      simp only [eL, Int.toNat_natCast] at this
      exact this
  · intro h e he
    obtain ⟨i, hi, h1⟩ := edgs_mem.1 he
    obtain ⟨h2, h3⟩ := h i hi
    rcases h1 with ⟨h4, rfl⟩ | ⟨h4, rfl⟩ | ⟨h4, rfl⟩
    · simp only [eS, toN1, Int.toNat_natCast]
      exact (h2 h4).1
    · simp only [eL, Int.toNat_natCast]
      exact h3 h4
    · simp only [eF, toN1, Int.toNat_natCast]
      exact (h2 h4).2
theorem Feas.edges {b : Blnk} {p : List Smp} {y : Nat → Int} (h : Feas b p y) : ∀ e, e ∈ edgs b p → y e.to.toNat ≤ y e.fr.toNat + e.w := edgs_all.2 fun i hi => (h i hi).2.2
def iniF (b : Blnk) (p : List Smp) (i : Nat) : Int := b.rim - (p.getD i s0).r
/-- The outermost cut. -/
structure Best (b : Blnk) (p : List Smp) (R : List Int) : Prop where
  len : R.length = p.length
  ok : Feas b p (fun i => R.getD i 0)
  best : ∀ y, Feas b p y → ∀ i, i < p.length → y i ≤ R.getD i 0
abbrev LJp (b : Blnk) (p : List Smp) := LJ p.length (iniF b p) (edgs b p)
theorem LJ.start {b : Blnk} {p : List Smp} (hb : BlnkOK b) (hp : PtB p) {R : List Int} {P : List Edg} (l1 : R.length = p.length) (l2 : P.length = p.length) (gR : ∀ v, v < p.length → R.getD v 0 = iniF b p v) (gP : ∀ v, v < p.length → P.getD v e0 = eR b p v) : LJp b p [] 0 ⟨R, P, -1⟩ 16777216 0 (fun _ => 0) (fun _ => -1) := by
  refine ⟨l1, l2, fun v hv => ?_, fun v hv => ?_, fun y hy _ v hv => ?_, fun _ => Nat.le_refl _, fun _ => by decide, fun v hv => .inl ?_, fun e _ => .inl (by decide), fun e he => (List.not_mem_nil he).elim, .inl ⟨rfl, fun e he => (List.not_mem_nil he).elim⟩⟩
  · simp only [gR v hv]; exact Int.le_refl _
  · simp only [gR v hv]
    have := hp.each v hv
    have := hb.rim
    unfold iniF
    omega
  · simp only [gR v hv]; exact hy v hv
  · simp only [gP v hv]; exact ⟨rfl, trivial⟩
theorem LJ.fin {b : Blnk} {p : List Smp} {D : List Edg} {r : Int} {s : LSt} {L : Int} {N : Nat} {t : Nat → Nat} {T : Nat → Int} (h : LJp b p D r s L N t T) (hf : ∀ e, e ∈ edgs b p → s.R.getD e.to.toNat 0 ≤ s.R.getD e.fr.toNat 0 + e.w) (hc : ∀ i, i < p.length → 0 ≤ s.R.getD i 0 + ((p.getD i s0).l - b.core)) : Best b p s.R := by
  refine ⟨h.lr, fun i hi => ⟨h.hi i hi, hc i hi, ?_⟩, fun y hy => h.lb y (fun v hv => (hy v hv).1) hy.edges⟩
  exact (edgs_all (b := b) (p := p) (y := fun i => s.R.getD i 0)).1 hf i hi
theorem LJ.none {b : Blnk} {p : List Smp} {D : List Edg} {r : Int} {s : LSt} {L : Int} {N : Nat} {t : Nat → Nat} {T : Nat → Int} (h : LJp b p D r s L N t T) {i : Nat} (hi : i < p.length) (hc : s.R.getD i 0 + ((p.getD i s0).l - b.core) < 0) (y : Nat → Int) : ¬ Feas b p y := fun hy => by
  have h1 := h.lb y (fun v hv => (hy v hv).1) hy.edges i hi
  have h2 := (hy i hi).2.1
  omega
end Go.Sx

namespace Go.Sx
open Go Go.Proofs
set_option maxRecDepth 10000
set_option maxHeartbeats 2000000
def bey (n most : Int) : Prop := n < -most ∨ most < n
instance (n m : Int) : Decidable (bey n m) := by unfold bey; exact inferInstance
theorem s280 (n most : Int) (hm : 0 ≤ most ∧ most ≤ 1000000) : PSpec Tryz.prog 280 [I n, I most] (xP (bey n most)) := by
  refine spec_of pMix (O := []) Tryz.func280 (c := bodyOf Tryz.f280) rfl (by kernel_rfl) (by kernel_rfl) Tryz.ntmps280 (res := [.tmp 4]) (by kernel_rfl) ?_
  repeat' ((conv => whnf); first | refine Rng.g ?_ | refine Ob.g ?_ | refine Ob.e ?_ | refine Ob.m ?_ | refine Ob.mk (Nat.le_of_ble_eq_true rfl) ?_ | refine JoinVC.on ?_ | refine Nils.mk (fun h => ?_) ?_ | refine Val.t ?_ | refine Val.d ?_ | refine Mm.mk ?_ | (refine Br.mk (fun h => ?_) (fun h => ?_) <;> first | (exfalso; omega; done) | (exfalso; simp at h; done) | skip))
  · repeat refine Mm.mk ?_
    refine EndVC.mk _ rfl _ _ ⟨rfl, rfl⟩ ?_
    refine ⟨[], rfl, rfl, ?_, ?_⟩ <;> repeat' (first | exact trivial | exact rfl | exact Iff.rfl | apply And.intro)
    show bey n most
    unfold bey; omega
  · repeat refine Mm.mk ?_
    refine EndVC.mk _ rfl _ _ ⟨rfl, rfl⟩ ?_
    refine ⟨[], rfl, rfl, ?_, ?_⟩ <;> repeat' (first | exact trivial | exact rfl | exact Iff.rfl | apply And.intro)
    show _ ↔ _
    unfold bey; omega
@[reducible] def bI (n : Int) : Blk := .box 2 [.int .i64 n]
theorem s300 (n most : Int) (hm : 0 ≤ most ∧ most ≤ 1000000) : HSpec Tryz.prog 300 [I n, .one (.ptr 0 0)] [bI most] (fun r m' => r = xP (bey n most) ∧ m' = [some (bI most)]) := by
  refine spec_of pMix (O := []) Tryz.func300 (c := bodyOf Tryz.f300) rfl (by kernel_rfl) (by kernel_rfl) Tryz.ntmps300 (res := [.tmp 3]) (by kernel_rfl) ?_
  repeat' ((conv => whnf); first | refine Rng.g ?_ | refine Ob.g ?_ | refine Ob.e ?_ | refine Ob.m ?_ | refine Ob.mk (Nat.le_of_ble_eq_true rfl) ?_ | refine JoinVC.on ?_ | refine Nils.mk (fun h => ?_) ?_ | refine Val.t ?_ | refine Val.d ?_ | refine Mm.mk ?_ | refine CallVC.pure rfl (s280 n most hm) ?_ | refine CallVC0.pure rfl (s280 n most hm) ?_ | (refine Br.mk (fun h => ?_) (fun h => ?_) <;> first | (exfalso; omega; done) | (exfalso; simp at h; done) | skip))
  repeat refine Mm.mk ?_
  refine EndVC.mk _ rfl _ _ ⟨rfl, rfl⟩ ?_
  refine ⟨[some 0], rfl, rfl, ?_, ?_⟩ <;> repeat' (first | exact trivial | exact rfl | exact Iff.rfl | apply And.intro)
/-- A list of int64, as an argument. -/
@[reducible] def lL (xs : List Int) : XV := .one (.lst true [.int .i64] (i64s xs))
def anyB (xs : List Int) (most : Int) : Prop := ∃ j, j < xs.length ∧ bey (xs.getD j 0) most
theorem s333 (xs : List Int) (most : Int) (hm : 0 ≤ most ∧ most ≤ 1000000) (hl : xs.length ≤ 1000000) : HSpec Tryz.prog 333 [lL xs, .one (.fn 300 [(0, 0)])] [bI most] (fun r m' => ∃ v : Int, (0 ≤ v ↔ anyB xs most) ∧ r = .x (I v) ∧ m' = [some (bI most)]) := by
  have lx := i64s_len xs
  refine spec_of pMix (O := []) Tryz.func333 (c := bodyOf Tryz.f333) rfl (by kernel_rfl) (by kernel_rfl) Tryz.ntmps333 (res := [.tmp 4]) (by kernel_rfl) ?_
  repeat' ((conv => whnf); first | refine Rng.g ?_ | refine Ob.g ?_ | refine Ob.e ?_ | refine Ob.m ?_ | refine Ob.mk (Nat.le_of_ble_eq_true rfl) ?_ | refine JoinVC.on ?_ | refine Nils.mk (fun h => ?_) ?_ | refine Val.t ?_ | refine Val.d ?_ | refine Mm.mk ?_ | (refine Br.mk (fun h => ?_) (fun h => ?_) <;> first | (exfalso; omega; done) | (exfalso; simp at h; done) | skip))
  refine LoopVC.mk (fun n st => ∃ (i : Nat), i ≤ xs.length ∧ n = xs.length - i ∧ (∀ j, j < i → ¬ bey (xs.getD j 0) most) ∧ st = ⟨1, envA 19 [(0, .x (lL xs)), (1, .x (.one (.fn 300 [(0, 0)]))), (7, .int .i64 (xs.length : Int)), (8, .int .i64 (i : Int))], [some (bI most)]⟩) _ _ ⟨0, Nat.zero_le _, rfl, fun j hj => absurd hj (Nat.not_lt_zero j), rfl⟩ ?_ ?_
  · refine ⟨[some 0], rfl, rfl, ?_, ?_⟩ <;> repeat' (first | exact trivial | exact rfl | exact Iff.rfl | apply And.intro)
    exact congrArg Int.ofNat lx
  rintro n _ ⟨i, hi, hn, hj, rfl⟩
  have gx : rI (i64s xs) (i : Int).toNat 0 = xs.getD i 0 := by rw [Int.toNat_natCast, i64s_get]
  by_cases hi' : i < xs.length
  · repeat' ((conv => whnf); first | refine Rng.g ?_ | refine Ob.g ?_ | refine Ob.e ?_ | refine Ob.m ?_ | refine Ob.mk (Nat.le_of_ble_eq_true rfl) ?_ | refine JoinVC.on ?_ | refine Nils.mk (fun h => ?_) ?_ | refine Val.t ?_ | refine Val.d ?_ | refine Mm.mk ?_ | (refine Br.mk (fun h => ?_) (fun h => ?_) <;> first | (exfalso; omega; done) | (exfalso; simp at h; done) | skip))
    conv => whnf
    refine CallVC.mk [0] _ _ _ rfl rfl rfl (s300 (rI (i64s xs) (i : Int).toNat 0) most hm) (fun r m' h' => ?_)
    obtain ⟨rfl, rfl⟩ := h'
    conv => whnf
    repeat' ((conv => whnf); first | refine Rng.g ?_ | refine Ob.g ?_ | refine Ob.e ?_ | refine Ob.m ?_ | refine Ob.mk (Nat.le_of_ble_eq_true rfl) ?_ | refine JoinVC.on ?_ | refine Nils.mk (fun h => ?_) ?_ | refine Val.t ?_ | refine Val.d ?_ | refine Mm.mk ?_ | (refine Br.mk (fun h => ?_) (fun h => ?_) <;> first | (exfalso; omega; done) | (exfalso; simp at h; done) | skip))
    all_goals rw [gx] at h
    · repeat refine Mm.mk ?_
      conv => whnf
      refine EndVC.mk _ rfl _ _ (⟨(i : Int), ⟨fun _ => ⟨i, hi', h⟩, fun _ => by omega⟩, rfl, rfl⟩) ?_
      refine ⟨[some 0], rfl, rfl, ?_, ?_⟩ <;> repeat' (first | exact trivial | exact rfl | exact Iff.rfl | apply And.intro)
    · refine Back.mk (xs.length - (i + 1)) _ (by omega) ⟨i + 1, by omega, rfl, fun j hj' => ?_, rfl⟩ ?_
      · rcases Nat.lt_succ_iff_lt_or_eq.1 hj' with h' | rfl
        · exact hj j h'
        · exact h
      · refine ⟨[some 0], rfl, rfl, ?_, ?_⟩ <;> repeat' (first | exact trivial | exact rfl | exact Iff.rfl | apply And.intro)
  · repeat' ((conv => whnf); first | refine Rng.g ?_ | refine Ob.g ?_ | refine Ob.e ?_ | refine Ob.m ?_ | refine Ob.mk (Nat.le_of_ble_eq_true rfl) ?_ | refine JoinVC.on ?_ | refine Nils.mk (fun h => ?_) ?_ | refine Val.t ?_ | refine Val.d ?_ | refine Mm.mk ?_ | (refine Br.mk (fun h => ?_) (fun h => ?_) <;> first | (exfalso; omega; done) | (exfalso; simp at h; done) | skip))
    repeat refine Mm.mk ?_
    conv => whnf
    refine EndVC.mk _ rfl _ _ (⟨-1, ⟨fun h => (by omega), fun ⟨j, h1, h2⟩ => absurd h2 (hj j (by omega))⟩, rfl, rfl⟩) ?_
    refine ⟨[some 0], rfl, rfl, ?_, ?_⟩ <;> repeat' (first | exact trivial | exact rfl | exact Iff.rfl | apply And.intro)
open Classical in
theorem s299 (xs : List Int) (most : Int) (hm : 0 ≤ most ∧ most ≤ 1000000) (hl : xs.length ≤ 1000000) : HSpec Tryz.prog 299 [lL xs, .one (.fn 300 [(0, 0)])] [bI most] (fun r m' => r = xP (anyB xs most) ∧ m' = [some (bI most)]) := by
  refine spec_of pMix (O := []) Tryz.func299 (c := bodyOf Tryz.f299) rfl (by kernel_rfl) (by kernel_rfl) Tryz.ntmps299 (res := [.tmp 4]) (by kernel_rfl) ?_
  repeat' ((conv => whnf); first | refine Rng.g ?_ | refine Ob.g ?_ | refine Ob.e ?_ | refine Ob.m ?_ | refine Ob.mk (Nat.le_of_ble_eq_true rfl) ?_ | refine JoinVC.on ?_ | refine Nils.mk (fun h => ?_) ?_ | refine Val.t ?_ | refine Val.d ?_ | refine Mm.mk ?_ | (refine Br.mk (fun h => ?_) (fun h => ?_) <;> first | (exfalso; omega; done) | (exfalso; simp at h; done) | skip))
  conv => whnf
  refine CallVC.mk [0] _ _ _ rfl rfl rfl (s333 xs most hm hl) (fun r m' h' => ?_)
  obtain ⟨v, hv, rfl, rfl⟩ := h'
  conv => whnf
  repeat' ((conv => whnf); first | refine Rng.g ?_ | refine Ob.g ?_ | refine Ob.e ?_ | refine Ob.m ?_ | refine Ob.mk (Nat.le_of_ble_eq_true rfl) ?_ | refine JoinVC.on ?_ | refine Nils.mk (fun h => ?_) ?_ | refine Val.t ?_ | refine Val.d ?_ | refine Mm.mk ?_ | (refine Br.mk (fun h => ?_) (fun h => ?_) <;> first | (exfalso; omega; done) | (exfalso; simp at h; done) | skip))
  repeat refine Mm.mk ?_
  refine EndVC.mk _ rfl _ _ ⟨rfl, rfl⟩ ?_
  refine ⟨[some 0], rfl, rfl, ?_, ?_⟩ <;> repeat' (first | exact trivial | exact rfl | exact Iff.rfl | apply And.intro)
  exact hv
open Classical in
theorem s233 (xs : List Int) (most : Int) (hm : 0 ≤ most ∧ most ≤ 1000000) (hl : xs.length ≤ 1000000) : PSpec Tryz.prog 233 [lL xs, I most] (xP (anyB xs most)) := by
  refine spec_of pMix (O := []) Tryz.func233 (c := bodyOf Tryz.f233) rfl (by kernel_rfl) (by kernel_rfl) Tryz.ntmps233 (res := [.tmp 4]) (by kernel_rfl) ?_
  repeat' ((conv => whnf); first | refine Rng.g ?_ | refine Ob.g ?_ | refine Ob.e ?_ | refine Ob.m ?_ | refine Ob.mk (Nat.le_of_ble_eq_true rfl) ?_ | refine JoinVC.on ?_ | refine Nils.mk (fun h => ?_) ?_ | refine Val.t ?_ | refine Val.d ?_ | refine Mm.mk ?_ | (refine Br.mk (fun h => ?_) (fun h => ?_) <;> first | (exfalso; omega; done) | (exfalso; simp at h; done) | skip))
  conv => whnf
  refine CallVC.mk [0] _ _ _ rfl rfl rfl (s299 xs most hm hl) (fun r m' h' => ?_)
  obtain ⟨rfl, rfl⟩ := h'
  conv => whnf
  repeat' ((conv => whnf); first | refine Rng.g ?_ | refine Ob.g ?_ | refine Ob.e ?_ | refine Ob.m ?_ | refine Ob.mk (Nat.le_of_ble_eq_true rfl) ?_ | refine JoinVC.on ?_ | refine Nils.mk (fun h => ?_) ?_ | refine Val.t ?_ | refine Val.d ?_ | refine Mm.mk ?_ | (refine Br.mk (fun h => ?_) (fun h => ?_) <;> first | (exfalso; omega; done) | (exfalso; simp at h; done) | skip))
  repeat refine Mm.mk ?_
  refine EndVC.mk _ rfl _ _ ⟨rfl, rfl⟩ ?_
  refine ⟨[], rfl, rfl, ?_, ?_⟩ <;> repeat' (first | exact trivial | exact rfl | exact Iff.rfl | apply And.intro)
end Go.Sx

namespace Go.Sx
open Go Go.Proofs
set_option maxRecDepth 10000
set_option maxHeartbeats 2000000
/-- A curve. -/
structure Crv where
  f : List Int
  b : List Int
  sh : Int
@[reducible] def Crv.x (c : Crv) : XV := .agg [.lst true [.int .i64] (i64s c.f), .lst true [.int .i64] (i64s c.b), .int .i64 c.sh]
def Crv.row (c : Crv) : List Cell := [.sl (i64s c.f), .sl (i64s c.b), .int c.sh]
def crvA (l : List Crv) : Arr := l.map Crv.row
abbrev c0 : Crv := ⟨[], [], 0⟩
theorem crvA_len (l : List Crv) : (crvA l).length = l.length := by simp [crvA]
theorem crvA_f (l : List Crv) (i : Nat) : rA (crvA l) i 0 = i64s (l.getD i c0).f := map_rA _ c0 l i 0 rfl
theorem crvA_b (l : List Crv) (i : Nat) : rA (crvA l) i (0 + 1) = i64s (l.getD i c0).b := map_rA _ c0 l i 1 rfl
theorem crvA_s (l : List Crv) (i : Nat) : rI (crvA l) i (0 + 1 + 1) = (l.getD i c0).sh := map_rI _ c0 l i 2 rfl
@[reducible] def KC : List CK := [.sl [.int .i64], .sl [.int .i64], .int .i64]
@[reducible] def lC (l : List Crv) : XV := .one (.lst true KC (crvA l))
@[reducible] def crvX (l : List Crv) (i : Nat) : XV := .agg [.lst true [.int .i64] (rA (crvA l) i 0), .lst true [.int .i64] (rA (crvA l) i (0 + 1)), .int .i64 (rI (crvA l) i (0 + 1 + 1))]
theorem crvX_eq (l : List Crv) (i : Nat) : crvX l i = (l.getD i c0).x := by
  unfold crvX Crv.x
  rw [crvA_f, crvA_b, crvA_s]
structure CrvOK (c : Crv) : Prop where
  f : c.f.length ≤ 8 ∧ ∀ j, -4096 ≤ c.f.getD j 0 ∧ c.f.getD j 0 ≤ 4096
  b : c.b.length ≤ 8 ∧ ∀ j, -4096 ≤ c.b.getD j 0 ∧ c.b.getD j 0 ≤ 4096
  sh : 1 ≤ c.sh ∧ c.sh ≤ 4096
theorem not_anyB {xs : List Int} {m : Int} (hm : 0 ≤ m) (h : ¬ anyB xs m) (j : Nat) : -m ≤ xs.getD j 0 ∧ xs.getD j 0 ≤ m := by
  by_cases hj : j < xs.length
  · have : ¬ bey (xs.getD j 0) m := fun h2 => h ⟨j, hj, h2⟩
    unfold bey at this
    omega
  · rw [List.getD_eq_getElem?_getD, List.getElem?_eq_none (by omega)]
    simp only [Option.getD_none]
    omega
theorem CrvOK.nf {c : Crv} (h : CrvOK c) : ¬ anyB c.f 4096 := fun ⟨j, _, h3⟩ => by have := h.f.2 j; unfold bey at h3; omega
theorem CrvOK.nb {c : Crv} (h : CrvOK c) : ¬ anyB c.b 4096 := fun ⟨j, _, h3⟩ => by have := h.b.2 j; unfold bey at h3; omega
@[reducible] def CRs (c : Crv) (r : AV) (m' : List (Option Blk)) : Prop := ∃ e, r = .x (I e) ∧ m' = [] ∧ (e = 0 ↔ CrvOK c)
theorem s222 (c : Crv) : HSpec Tryz.prog 222 [c.x] [] (CRs c) := by
  have lf := i64s_len c.f
  have lb := i64s_len c.b
  by_cases h8 : 8 < c.f.length ∨ 8 < c.b.length
  · have hm : 8 < (if (List.length (i64s c.f) : Int) < (List.length (i64s c.b) : Int) then (List.length (i64s c.b) : Int) else (List.length (i64s c.f) : Int)) := by split <;> omega
    refine spec_of pMix (O := []) Tryz.func222 (c := bodyOf Tryz.f222) rfl (by kernel_rfl) (by kernel_rfl) Tryz.ntmps222 (res := [.tmp 2]) (by kernel_rfl) ?_
    repeat' ((conv => whnf); first | refine Rng.g ?_ | refine Ob.g ?_ | refine Ob.e ?_ | refine Ob.m ?_ | refine Ob.mk (Nat.le_of_ble_eq_true rfl) ?_ | refine JoinVC.on ?_ | refine Nils.mk (fun h => ?_) ?_ | refine Val.t ?_ | refine Val.d ?_ | refine Mm.mk ?_ | (refine Br.mk (fun h => ?_) (fun h => ?_) <;> first | (exfalso; omega; done) | (exfalso; simp at h; done) | skip))
    repeat refine Mm.mk ?_
    conv => whnf
    refine EndVC.mk _ rfl _ _ (⟨6, rfl, rfl, ⟨fun h => (by cases h), fun hC => (by have := hC.f.1; have := hC.b.1; omega)⟩⟩) ?_
    refine ⟨[], rfl, rfl, ?_, ?_⟩ <;> repeat' (first | exact trivial | exact rfl | exact Iff.rfl | apply And.intro)
  · have hm : ¬ 8 < (if (List.length (i64s c.f) : Int) < (List.length (i64s c.b) : Int) then (List.length (i64s c.b) : Int) else (List.length (i64s c.f) : Int)) := by split <;> omega
    have h1 := s233 c.f 4096 (by decide) (by omega)
    have h2 := s233 c.b 4096 (by decide) (by omega)
    refine spec_of pMix (O := []) Tryz.func222 (c := bodyOf Tryz.f222) rfl (by kernel_rfl) (by kernel_rfl) Tryz.ntmps222 (res := [.tmp 2]) (by kernel_rfl) ?_
    repeat' ((conv => whnf); first | refine Rng.g ?_ | refine Ob.g ?_ | refine Ob.e ?_ | refine Ob.m ?_ | refine Ob.mk (Nat.le_of_ble_eq_true rfl) ?_ | refine JoinVC.on ?_ | refine Nils.mk (fun h => ?_) ?_ | refine Val.t ?_ | refine Val.d ?_ | refine Mm.mk ?_ | refine CallVC.pure rfl (h1) ?_ | refine CallVC.pure rfl (h2) ?_ | refine CallVC0.pure rfl (h1) ?_ | refine CallVC0.pure rfl (h2) ?_ | (refine Br.mk (fun h => ?_) (fun h => ?_) <;> first | (exfalso; omega; done) | (exfalso; simp at h; done) | skip))
    · repeat refine Mm.mk ?_
      conv => whnf
      refine EndVC.mk _ rfl _ _ (⟨2, rfl, rfl, ⟨fun h => (by cases h), fun hC => absurd h hC.nf⟩⟩) ?_
      refine ⟨[], rfl, rfl, ?_, ?_⟩ <;> repeat' (first | exact trivial | exact rfl | exact Iff.rfl | apply And.intro)
    · repeat refine Mm.mk ?_
      conv => whnf
      refine EndVC.mk _ rfl _ _ (⟨2, rfl, rfl, ⟨fun h => (by cases h), fun hC => absurd h hC.nb⟩⟩) ?_
      refine ⟨[], rfl, rfl, ?_, ?_⟩ <;> repeat' (first | exact trivial | exact rfl | exact Iff.rfl | apply And.intro)
    · repeat refine Mm.mk ?_
      conv => whnf
      refine EndVC.mk _ rfl _ _ (⟨2, rfl, rfl, ⟨fun h => (by cases h), fun hC => (by have := hC.sh; omega)⟩⟩) ?_
      refine ⟨[], rfl, rfl, ?_, ?_⟩ <;> repeat' (first | exact trivial | exact rfl | exact Iff.rfl | apply And.intro)
    · repeat refine Mm.mk ?_
      conv => whnf
      refine EndVC.mk _ rfl _ _ (⟨2, rfl, rfl, ⟨fun h => (by cases h), fun hC => (by have := hC.sh; omega)⟩⟩) ?_
      refine ⟨[], rfl, rfl, ?_, ?_⟩ <;> repeat' (first | exact trivial | exact rfl | exact Iff.rfl | apply And.intro)
    · rename_i g1 g2 g3
      repeat refine Mm.mk ?_
      conv => whnf
      refine EndVC.mk _ rfl _ _ (⟨0, rfl, rfl, ⟨fun _ => ⟨⟨by omega, not_anyB (by decide) g1⟩, ⟨by omega, not_anyB (by decide) g2⟩, by omega⟩, fun _ => rfl⟩⟩) ?_
      refine ⟨[], rfl, rfl, ?_, ?_⟩ <;> repeat' (first | exact trivial | exact rfl | exact Iff.rfl | apply And.intro)
end Go.Sx

namespace Go.Sx
open Go Go.Proofs
set_option maxRecDepth 10000
set_option maxHeartbeats 2000000
structure ChOK (l : List Crv) : Prop where
  len : l.length ≤ 8
  each : ∀ j, j < l.length → CrvOK (l.getD j c0)
@[reducible] def ChRs (l : List Crv) (r : AV) (m' : List (Option Blk)) : Prop := ∃ e, r = .x (I e) ∧ m' = [] ∧ (e = 0 ↔ ChOK l)
theorem s147 (l : List Crv) : HSpec Tryz.prog 147 [lC l] [] (ChRs l) := by
  have ll := crvA_len l
  by_cases hl : 8 < l.length
  · refine spec_of pMix (O := []) Tryz.func147 (c := bodyOf Tryz.f147) rfl (by kernel_rfl) (by kernel_rfl) Tryz.ntmps147 (res := [.tmp 2]) (by kernel_rfl) ?_
    repeat' ((conv => whnf); first | refine Rng.g ?_ | refine Ob.g ?_ | refine Ob.e ?_ | refine Ob.m ?_ | refine Ob.mk (Nat.le_of_ble_eq_true rfl) ?_ | refine JoinVC.on ?_ | refine Nils.mk (fun h => ?_) ?_ | refine Val.t ?_ | refine Val.d ?_ | refine Mm.mk ?_ | (refine Br.mk (fun h => ?_) (fun h => ?_) <;> first | (exfalso; omega; done) | (exfalso; simp at h; done) | skip))
    repeat refine Mm.mk ?_
    conv => whnf
    refine EndVC.mk _ rfl _ _ (⟨6, rfl, rfl, ⟨fun h => (by cases h), fun hC => (by have := hC.len; omega)⟩⟩) ?_
    refine ⟨[], rfl, rfl, ?_, ?_⟩ <;> repeat' (first | exact trivial | exact rfl | exact Iff.rfl | apply And.intro)
  refine spec_of pMix (O := []) Tryz.func147 (c := bodyOf Tryz.f147) rfl (by kernel_rfl) (by kernel_rfl) Tryz.ntmps147 (res := [.tmp 2]) (by kernel_rfl) ?_
  repeat' ((conv => whnf); first | refine Rng.g ?_ | refine Ob.g ?_ | refine Ob.e ?_ | refine Ob.m ?_ | refine Ob.mk (Nat.le_of_ble_eq_true rfl) ?_ | refine JoinVC.on ?_ | refine Nils.mk (fun h => ?_) ?_ | refine Val.t ?_ | refine Val.d ?_ | refine Mm.mk ?_ | (refine Br.mk (fun h => ?_) (fun h => ?_) <;> first | (exfalso; omega; done) | (exfalso; simp at h; done) | skip))
  refine LoopVC.mk (fun n st => ∃ (i : Nat), i ≤ l.length ∧ n = l.length - i ∧ (∀ j, j < i → CrvOK (l.getD j c0)) ∧ st = ⟨0, envA 21 [(9, .x (lC l)), (10, .int .i64 (l.length : Int)), (11, .int .i64 (i : Int))], []⟩) _ _ ⟨0, Nat.zero_le _, rfl, fun j hj => absurd hj (Nat.not_lt_zero j), rfl⟩ ?_ ?_
  · refine ⟨[], rfl, rfl, ?_, ?_⟩ <;> repeat' (first | exact trivial | exact rfl | exact Iff.rfl | apply And.intro)
    exact congrArg Int.ofNat ll
  rintro n _ ⟨i, hi, hn, hj, rfl⟩
  by_cases hi' : i < l.length
  · repeat' ((conv => whnf); first | refine Rng.g ?_ | refine Ob.g ?_ | refine Ob.e ?_ | refine Ob.m ?_ | refine Ob.mk (Nat.le_of_ble_eq_true rfl) ?_ | refine JoinVC.on ?_ | refine Nils.mk (fun h => ?_) ?_ | refine Val.t ?_ | refine Val.d ?_ | refine Mm.mk ?_ | (refine Br.mk (fun h => ?_) (fun h => ?_) <;> first | (exfalso; omega; done) | (exfalso; simp at h; done) | skip))
    conv => whnf
    refine CallVC.mk [] _ _ _ rfl rfl rfl ((crvX_eq l i ▸ s222 (l.getD i c0) : HSpec Tryz.prog 222 [crvX l i] [] (CRs (l.getD i c0)))) (fun r m' h' => ?_)
    obtain ⟨e, rfl, rfl, he⟩ := h'
    conv => whnf
    repeat' ((conv => whnf); first | refine Rng.g ?_ | refine Ob.g ?_ | refine Ob.e ?_ | refine Ob.m ?_ | refine Ob.mk (Nat.le_of_ble_eq_true rfl) ?_ | refine JoinVC.on ?_ | refine Nils.mk (fun h => ?_) ?_ | refine Val.t ?_ | refine Val.d ?_ | refine Mm.mk ?_ | (refine Br.mk (fun h => ?_) (fun h => ?_) <;> first | (exfalso; omega; done) | (exfalso; simp at h; done) | skip))
    · repeat refine Mm.mk ?_
      conv => whnf
      refine EndVC.mk _ rfl _ _ (⟨e, rfl, rfl, ⟨fun h0 => absurd h0 h, fun hC => absurd (he.2 (hC.each i hi')) h⟩⟩) ?_
      refine ⟨[], rfl, rfl, ?_, ?_⟩ <;> repeat' (first | exact trivial | exact rfl | exact Iff.rfl | apply And.intro)
    · have hc0 := he.1 (Classical.not_not.1 h)
      refine Back.mk (l.length - (i + 1)) _ (by omega) ⟨i + 1, by omega, rfl, fun j hj' => ?_, rfl⟩ ?_
      · rcases Nat.lt_succ_iff_lt_or_eq.1 hj' with h' | rfl
        · exact hj j h'
        · exact hc0
      · refine ⟨[], rfl, rfl, ?_, ?_⟩ <;> repeat' (first | exact trivial | exact rfl | exact Iff.rfl | apply And.intro)
  · repeat' ((conv => whnf); first | refine Rng.g ?_ | refine Ob.g ?_ | refine Ob.e ?_ | refine Ob.m ?_ | refine Ob.mk (Nat.le_of_ble_eq_true rfl) ?_ | refine JoinVC.on ?_ | refine Nils.mk (fun h => ?_) ?_ | refine Val.t ?_ | refine Val.d ?_ | refine Mm.mk ?_ | (refine Br.mk (fun h => ?_) (fun h => ?_) <;> first | (exfalso; omega; done) | (exfalso; simp at h; done) | skip))
    repeat refine Mm.mk ?_
    conv => whnf
    refine EndVC.mk _ rfl _ _ (⟨0, rfl, rfl, ⟨fun _ => ⟨by omega, fun j hj' => hj j (by omega)⟩, fun _ => rfl⟩⟩) ?_
    refine ⟨[], rfl, rfl, ?_, ?_⟩ <;> repeat' (first | exact trivial | exact rfl | exact Iff.rfl | apply And.intro)
/-- A signal. -/
structure SigOK (xs : List Int) : Prop where
  len : xs.length ≤ 4096
  each : ∀ j, -32767 ≤ xs.getD j 0 ∧ xs.getD j 0 ≤ 32767
@[reducible] def SgRs (xs : List Int) (r : AV) (m' : List (Option Blk)) : Prop := ∃ e, r = .x (I e) ∧ m' = [] ∧ (e = 0 ↔ SigOK xs)
theorem SigOK.nb {xs : List Int} (h : SigOK xs) : ¬ anyB xs 32767 := fun ⟨j, _, h3⟩ => by have := h.each j; unfold bey at h3; omega
theorem s148 (xs : List Int) : HSpec Tryz.prog 148 [lL xs] [] (SgRs xs) := by
  have lx := i64s_len xs
  by_cases hl : 4096 < xs.length
  · refine spec_of pMix (O := []) Tryz.func148 (c := bodyOf Tryz.f148) rfl (by kernel_rfl) (by kernel_rfl) Tryz.ntmps148 (res := [.tmp 2]) (by kernel_rfl) ?_
    repeat' ((conv => whnf); first | refine Rng.g ?_ | refine Ob.g ?_ | refine Ob.e ?_ | refine Ob.m ?_ | refine Ob.mk (Nat.le_of_ble_eq_true rfl) ?_ | refine JoinVC.on ?_ | refine Nils.mk (fun h => ?_) ?_ | refine Val.t ?_ | refine Val.d ?_ | refine Mm.mk ?_ | (refine Br.mk (fun h => ?_) (fun h => ?_) <;> first | (exfalso; omega; done) | (exfalso; simp at h; done) | skip))
    repeat refine Mm.mk ?_
    conv => whnf
    refine EndVC.mk _ rfl _ _ (⟨6, rfl, rfl, ⟨fun h => (by cases h), fun hC => (by have := hC.len; omega)⟩⟩) ?_
    refine ⟨[], rfl, rfl, ?_, ?_⟩ <;> repeat' (first | exact trivial | exact rfl | exact Iff.rfl | apply And.intro)
  have h1 := s233 xs 32767 (by decide) (by omega)
  refine spec_of pMix (O := []) Tryz.func148 (c := bodyOf Tryz.f148) rfl (by kernel_rfl) (by kernel_rfl) Tryz.ntmps148 (res := [.tmp 2]) (by kernel_rfl) ?_
  repeat' ((conv => whnf); first | refine Rng.g ?_ | refine Ob.g ?_ | refine Ob.e ?_ | refine Ob.m ?_ | refine Ob.mk (Nat.le_of_ble_eq_true rfl) ?_ | refine JoinVC.on ?_ | refine Nils.mk (fun h => ?_) ?_ | refine Val.t ?_ | refine Val.d ?_ | refine Mm.mk ?_ | refine CallVC.pure rfl (h1) ?_ | refine CallVC0.pure rfl (h1) ?_ | (refine Br.mk (fun h => ?_) (fun h => ?_) <;> first | (exfalso; omega; done) | (exfalso; simp at h; done) | skip))
  · repeat refine Mm.mk ?_
    conv => whnf
    refine EndVC.mk _ rfl _ _ (⟨3, rfl, rfl, ⟨fun h => (by cases h), fun hC => absurd h hC.nb⟩⟩) ?_
    refine ⟨[], rfl, rfl, ?_, ?_⟩ <;> repeat' (first | exact trivial | exact rfl | exact Iff.rfl | apply And.intro)
  · repeat refine Mm.mk ?_
    conv => whnf
    refine EndVC.mk _ rfl _ _ (⟨0, rfl, rfl, ⟨fun _ => ⟨by omega, not_anyB (by decide) h⟩, fun _ => rfl⟩⟩) ?_
    refine ⟨[], rfl, rfl, ?_, ?_⟩ <;> repeat' (first | exact trivial | exact rfl | exact Iff.rfl | apply And.intro)
@[reducible] def rowL (l : List Int) : Blk := .row 2 false [.int .i64] (i64s l)
theorem eb2 : Tryz.t2.bytes = 8 := by kernel_rfl
theorem s201 (xs : List Int) (hl : xs.length ≤ 1000000) : HSpec Tryz.prog 201 [lL xs] [] (fun r m' => r = .x (.one (.own 0)) ∧ m' = [some (rowL xs)]) := by
  have lx := i64s_len xs
  refine spec_of pMix (O := []) Tryz.func201 (c := bodyOf Tryz.f201) rfl (by kernel_rfl) (by kernel_rfl) Tryz.ntmps201 (res := [.tmp 2]) (by kernel_rfl) ?_
  repeat' ((conv => whnf); first | refine Rng.g ?_ | refine Ob.g ?_ | refine Ob.e ?_ | refine Ob.m ?_ | refine Ob.mk (Nat.le_of_ble_eq_true rfl) ?_ | refine JoinVC.on ?_ | refine Nils.mk (fun h => ?_) ?_ | refine Val.t ?_ | refine Val.d ?_ | refine Mm.mk ?_ | (refine Br.mk (fun h => ?_) (fun h => ?_) <;> first | (exfalso; omega; done) | (exfalso; simp at h; done) | skip))
  · repeat refine Mm.mk ?_
    refine EndVC.mk _ rfl _ _ ⟨rfl, rfl⟩ ?_
    refine ⟨[none], rfl, rfl, ?_, ?_⟩ <;> repeat' (first | exact trivial | exact rfl | exact Iff.rfl | apply And.intro)
    exact h
  · repeat refine Mm.mk ?_
    refine Ob.mk (by simp only [eb2, List.length_nil]; omega) ?_
    repeat' ((conv => whnf); first | refine Rng.g ?_ | refine Ob.g ?_ | refine Ob.e ?_ | refine Ob.m ?_ | refine Ob.mk (Nat.le_of_ble_eq_true rfl) ?_ | refine JoinVC.on ?_ | refine Nils.mk (fun h => ?_) ?_ | refine Val.t ?_ | refine Val.d ?_ | refine Mm.mk ?_ | (refine Br.mk (fun h => ?_) (fun h => ?_) <;> first | (exfalso; omega; done) | (exfalso; simp at h; done) | skip))
    repeat refine Mm.mk ?_
    refine EndVC.mk _ rfl _ _ ⟨rfl, rfl⟩ ?_
    refine ⟨[some 1], rfl, rfl, ?_, ?_⟩ <;> repeat' (first | exact trivial | exact rfl | exact Iff.rfl | apply And.intro)
end Go.Sx

namespace Go.Sx
open Go Go.Proofs
set_option maxRecDepth 10000
set_option maxHeartbeats 2000000
theorem s221 (n d : Int) (hd : 0 < d) (hn : -1000000000000 ≤ n ∧ n ≤ 1000000000000) : PSpec Tryz.prog 221 [I n, I d] (.x (I (n / d))) := by
  have h1 := tdiv_floor (n := n) hd
  have h2 := tdiv_rng (a := n) (d := d) (B := 1000000000000) hd (by
    have : (1000000000000 : Int) * 1 ≤ 1000000000000 * d := Int.mul_le_mul_of_nonneg_left (by omega) (by decide)
    omega)
  refine spec_of pMix (O := []) Tryz.func221 (c := bodyOf Tryz.f221) rfl (by kernel_rfl) (by kernel_rfl) Tryz.ntmps221 (res := [.tmp 4]) (by kernel_rfl) ?_
  repeat' ((conv => whnf); first | refine Rng.g ?_ | refine Ob.g ?_ | refine Ob.e ?_ | refine Ob.m ?_ | refine Ob.mk (Nat.le_of_ble_eq_true rfl) ?_ | refine JoinVC.on ?_ | refine Nils.mk (fun h => ?_) ?_ | refine Val.t ?_ | refine Val.d ?_ | refine Mm.mk ?_ | (refine Br.mk (fun h => ?_) (fun h => ?_) <;> first | (exfalso; omega; done) | (exfalso; simp at h; done) | skip))
  refine Val.mk _ rfl ?_
  repeat' ((conv => whnf); first | refine Rng.g ?_ | refine Ob.g ?_ | refine Ob.e ?_ | refine Ob.m ?_ | refine Ob.mk (Nat.le_of_ble_eq_true rfl) ?_ | refine JoinVC.on ?_ | refine Nils.mk (fun h => ?_) ?_ | refine Val.t ?_ | refine Val.d ?_ | refine Mm.mk ?_ | (refine Br.mk (fun h => ?_) (fun h => ?_) <;> first | (exfalso; omega; done) | (exfalso; simp at h; done) | skip))
  refine Val.mk _ rfl ?_
  repeat' ((conv => whnf); first | refine Rng.g ?_ | refine Ob.g ?_ | refine Ob.e ?_ | refine Ob.m ?_ | refine Ob.mk (Nat.le_of_ble_eq_true rfl) ?_ | refine JoinVC.on ?_ | refine Nils.mk (fun h => ?_) ?_ | refine Val.t ?_ | refine Val.d ?_ | refine Mm.mk ?_ | (refine Br.mk (fun h => ?_) (fun h => ?_) <;> first | (exfalso; omega; done) | (exfalso; simp at h; done) | skip))
  all_goals
    repeat refine Mm.mk ?_
    refine EndVC.mk _ rfl _ _ ⟨rfl, rfl⟩ ?_
    refine ⟨[], rfl, rfl, ?_, ?_⟩ <;> repeat' (first | exact trivial | exact rfl | exact Iff.rfl | apply And.intro)
  · exact h1.1 h
  · exact h1.2 h
end Go.Sx

namespace Go.Sx
open Go Go.Proofs
set_option maxRecDepth 10000
set_option maxHeartbeats 4000000
/-! ### The last numbers -/
@[reducible] def stB (L : List Int) (k : Int) (M : List Int) (m : Int) (c : Crv) : Blk := .box 431 [.int .i64 (L.getD 0 0), .int .i64 (L.getD 1 0), .int .i64 (L.getD 2 0), .int .i64 (L.getD 3 0), .int .i64 (L.getD 4 0), .int .i64 (L.getD 5 0), .int .i64 (L.getD 6 0), .int .i64 (L.getD 7 0), .int .i64 k,
  .int .i64 (M.getD 0 0), .int .i64 (M.getD 1 0), .int .i64 (M.getD 2 0), .int .i64 (M.getD 3 0), .int .i64 (M.getD 4 0), .int .i64 (M.getD 5 0), .int .i64 (M.getD 6 0), .int .i64 (M.getD 7 0), .int .i64 m, .lst true [.int .i64] (i64s c.f), .lst true [.int .i64] (i64s c.b), .int .i64 c.sh]
theorem eight {n : Int} (h : 0 ≤ n ∧ n < 8) : n = 0 ∨ n = 1 ∨ n = 2 ∨ n = 3 ∨ n = 4 ∨ n = 5 ∨ n = 6 ∨ n = 7 := by omega
/-- The ring holds these numbers, the latest one first. -/
structure Ring (L : List Int) (k : Int) (hs : List Int) : Prop where
  kb : 0 ≤ k ∧ k < 8
  len : L.length = 8
  at' : ∀ j : Int, 0 ≤ j ∧ j < 8 → L.getD ((k + 8 - 1 - j) % 8).toNat 0 = hs.getD j.toNat 0
theorem Ring.put {L : List Int} {k : Int} {hs : List Int} (h : Ring L k hs) (n : Int) : Ring (L.set k.toNat n) ((k + 1) % 8) (n :: hs) := by
  have hk := h.kb
  have hl := h.len
  refine ⟨by omega, by rw [List.length_set]; exact hl, fun j hj => ?_⟩
  rw [getD_set' _ _ _ _ _ (by omega)]
  by_cases h0 : j = 0
  · subst h0
    rw [if_pos (by omega)]; rfl
  · rw [if_neg (by omega)]
    have := h.at' (j - 1) (by omega)
    have e : (k + 8 - 1 - (j - 1)) % 8 = ((k + 1) % 8 + 8 - 1 - j) % 8 := by omega
    rw [← e, this]
    have e2 : j.toNat = (j - 1).toNat + 1 := by omega
    rw [e2]; rfl
theorem Ring.start : Ring [0, 0, 0, 0, 0, 0, 0, 0] 0 [] := by
  refine ⟨by decide, rfl, fun j hj => ?_⟩
  rcases eight hj with rfl | rfl | rfl | rfl | rfl | rfl | rfl | rfl <;> rfl
/-- The sum of the last numbers with weights. -/
def wsum (w hs : List Int) : Nat → Int
  | 0 => 0
  | i + 1 => wsum w hs i + w.getD i 0 * hs.getD i 0
def small (hs : List Int) : Prop := ∀ j, -100000 ≤ hs.getD j 0 ∧ hs.getD j 0 ≤ 100000
theorem wprod_bd {w hs : List Int} (hw : ∀ j, -4096 ≤ w.getD j 0 ∧ w.getD j 0 ≤ 4096) (hh : small hs) (i : Nat) : -409600000 ≤ w.getD i 0 * hs.getD i 0 ∧ w.getD i 0 * hs.getD i 0 ≤ 409600000 := by
  have h1 := hw i
  have h2 := hh i
  rcases Int.le_total 0 (hs.getD i 0) with h3 | h3
  · have := mul_rng (a := w.getD i 0) (b := hs.getD i 0) (A := 4096) (B := 100000) h1 (by omega)
    omega
  · have := mul_rng (a := w.getD i 0) (b := -hs.getD i 0) (A := 4096) (B := 100000) h1 (by omega)
    rw [Int.mul_neg] at this
    omega
theorem wsum_bd {w hs : List Int} (hw : ∀ j, -4096 ≤ w.getD j 0 ∧ w.getD j 0 ≤ 4096) (hh : small hs) : ∀ i : Nat, -409600000 * (i : Int) ≤ wsum w hs i ∧ wsum w hs i ≤ 409600000 * i
  | 0 => by simp [wsum]
  | i + 1 => by
    have h1 := wsum_bd hw hh i
    have h2 := wprod_bd hw hh i
    unfold wsum
    omega
end Go.Sx

namespace Go.Sx
open Go Go.Proofs
set_option maxRecDepth 10000
set_option maxHeartbeats 4000000
theorem set_a (L : List Int) (r : List SV) (n v : Int) (h : 0 ≤ n ∧ n < 8) (hl : L.length = 8) : (SV.int .i64 (L.getD 0 0) :: .int .i64 (L.getD 1 0) :: .int .i64 (L.getD 2 0) :: .int .i64 (L.getD 3 0) :: .int .i64 (L.getD 4 0) :: .int .i64 (L.getD 5 0) :: .int .i64 (L.getD 6 0) :: .int .i64 (L.getD 7 0) :: r).set (0 + 0 + n.toNat * (0 + 1)) (.int .i64 v) =
    (SV.int .i64 ((L.set n.toNat v).getD 0 0) :: .int .i64 ((L.set n.toNat v).getD 1 0) :: .int .i64 ((L.set n.toNat v).getD 2 0) :: .int .i64 ((L.set n.toNat v).getD 3 0) :: .int .i64 ((L.set n.toNat v).getD 4 0) :: .int .i64 ((L.set n.toNat v).getD 5 0) :: .int .i64 ((L.set n.toNat v).getD 6 0) :: .int .i64 ((L.set n.toNat v).getD 7 0) :: r) := by
  match L, hl with
  | [a, b, c, d, e, f, g, i], _ => rcases eight h with rfl | rfl | rfl | rfl | rfl | rfl | rfl | rfl <;> rfl
theorem set_b (x0 x1 x2 x3 x4 x5 x6 x7 x8 : SV) (L : List Int) (r : List SV) (n v : Int) (h : 0 ≤ n ∧ n < 8) (hl : L.length = 8) : (x0 :: x1 :: x2 :: x3 :: x4 :: x5 :: x6 :: x7 :: x8 :: SV.int .i64 (L.getD 0 0) :: .int .i64 (L.getD 1 0) :: .int .i64 (L.getD 2 0) :: .int .i64 (L.getD 3 0) :: .int .i64 (L.getD 4 0) :: .int .i64 (L.getD 5 0) :: .int .i64 (L.getD 6 0) :: .int .i64 (L.getD 7 0) :: r).set (9 + 0 + n.toNat * (0 + 1)) (.int .i64 v) =
    (x0 :: x1 :: x2 :: x3 :: x4 :: x5 :: x6 :: x7 :: x8 :: SV.int .i64 ((L.set n.toNat v).getD 0 0) :: .int .i64 ((L.set n.toNat v).getD 1 0) :: .int .i64 ((L.set n.toNat v).getD 2 0) :: .int .i64 ((L.set n.toNat v).getD 3 0) :: .int .i64 ((L.set n.toNat v).getD 4 0) :: .int .i64 ((L.set n.toNat v).getD 5 0) :: .int .i64 ((L.set n.toNat v).getD 6 0) :: .int .i64 ((L.set n.toNat v).getD 7 0) :: r) := by
  match L, hl with
  | [a, b, c, d, e, f, g, i], _ => rcases eight h with rfl | rfl | rfl | rfl | rfl | rfl | rfl | rfl <;> rfl
theorem s278a (L : List Int) (k : Int) (M : List Int) (m : Int) (c : Crv) (n : Int) (hs : List Int) (hR : Ring L k hs) :
    HSpec Tryz.prog 278 [.one (.ptr 0 0), I n] [stB L k M m c] (fun r m' => r = .tup [] ∧ m' = [some (stB (L.set k.toNat n) ((k + 1) % 8) M m c)]) := by
  have hk := hR.kb
  refine spec_of pMix (O := []) Tryz.func278 (c := bodyOf Tryz.f278) rfl (by kernel_rfl) (by kernel_rfl) Tryz.ntmps278 (res := []) (by kernel_rfl) ?_
  repeat' ((conv => whnf); first | refine Rng.g ?_ | refine Ob.g ?_ | refine Ob.e ?_ | refine Ob.m ?_ | refine Ob.mk (Nat.le_of_ble_eq_true rfl) ?_ | refine JoinVC.on ?_ | refine Nils.mk (fun h => ?_) ?_ | refine Val.t ?_ | refine Val.d ?_ | refine Mm.mk ?_ | (refine Br.mk (fun h => ?_) (fun h => ?_) <;> first | (exfalso; omega; done) | (exfalso; simp at h; done) | skip))
  refine ifB.mk (by rcases eight hk with rfl | rfl | rfl | rfl | rfl | rfl | rfl | rfl <;> rfl) ?_
  refine setL_mk _ (set_a L _ k n hk hR.len) ?_
  repeat' ((conv => whnf); first | refine Rng.g ?_ | refine Ob.g ?_ | refine Ob.e ?_ | refine Ob.m ?_ | refine Ob.mk (Nat.le_of_ble_eq_true rfl) ?_ | refine JoinVC.on ?_ | refine Nils.mk (fun h => ?_) ?_ | refine Val.t ?_ | refine Val.d ?_ | refine Mm.mk ?_ | (refine Br.mk (fun h => ?_) (fun h => ?_) <;> first | (exfalso; omega; done) | (exfalso; simp at h; done) | skip))
  repeat refine Mm.mk ?_
  refine EndVC.mk _ rfl _ _ ⟨rfl, rfl⟩ ?_
  refine ⟨[some 0], rfl, rfl, ?_, ?_⟩ <;> repeat' (first | exact trivial | exact rfl | exact Iff.rfl | apply And.intro)
theorem s278b (L : List Int) (k : Int) (M : List Int) (m : Int) (c : Crv) (n : Int) (hs : List Int) (hR : Ring M m hs) :
    HSpec Tryz.prog 278 [.one (.ptr 0 9), I n] [stB L k M m c] (fun r m' => r = .tup [] ∧ m' = [some (stB L k (M.set m.toNat n) ((m + 1) % 8) c)]) := by
  have hk := hR.kb
  refine spec_of pMix (O := []) Tryz.func278 (c := bodyOf Tryz.f278) rfl (by kernel_rfl) (by kernel_rfl) Tryz.ntmps278 (res := []) (by kernel_rfl) ?_
  repeat' ((conv => whnf); first | refine Rng.g ?_ | refine Ob.g ?_ | refine Ob.e ?_ | refine Ob.m ?_ | refine Ob.mk (Nat.le_of_ble_eq_true rfl) ?_ | refine JoinVC.on ?_ | refine Nils.mk (fun h => ?_) ?_ | refine Val.t ?_ | refine Val.d ?_ | refine Mm.mk ?_ | (refine Br.mk (fun h => ?_) (fun h => ?_) <;> first | (exfalso; omega; done) | (exfalso; simp at h; done) | skip))
  refine ifB.mk (by rcases eight hk with rfl | rfl | rfl | rfl | rfl | rfl | rfl | rfl <;> rfl) ?_
  refine setL_mk _ (set_b _ _ _ _ _ _ _ _ _ M _ m n hk hR.len) ?_
  repeat' ((conv => whnf); first | refine Rng.g ?_ | refine Ob.g ?_ | refine Ob.e ?_ | refine Ob.m ?_ | refine Ob.mk (Nat.le_of_ble_eq_true rfl) ?_ | refine JoinVC.on ?_ | refine Nils.mk (fun h => ?_) ?_ | refine Val.t ?_ | refine Val.d ?_ | refine Mm.mk ?_ | (refine Br.mk (fun h => ?_) (fun h => ?_) <;> first | (exfalso; omega; done) | (exfalso; simp at h; done) | skip))
  repeat refine Mm.mk ?_
  refine EndVC.mk _ rfl _ _ ⟨rfl, rfl⟩ ?_
  refine ⟨[some 0], rfl, rfl, ?_, ?_⟩ <;> repeat' (first | exact trivial | exact rfl | exact Iff.rfl | apply And.intro)
end Go.Sx

namespace Go.Sx
open Go Go.Proofs
set_option maxRecDepth 10000
set_option maxHeartbeats 4000000
/-- The next correction. -/
def corF (c : Crv) (hi ho : List Int) : Int := (wsum c.f hi c.f.length + wsum c.b ho c.b.length) / c.sh
theorem corF_bd {c : Crv} (hc : CrvOK c) {hi ho : List Int} (h1 : small hi) (h2 : small ho) : -6553600000 ≤ corF c hi ho ∧ corF c hi ho ≤ 6553600000 := by
  have a1 := wsum_bd hc.f.2 h1 c.f.length
  have a2 := wsum_bd hc.b.2 h2 c.b.length
  have f1 := hc.f.1; have f2 := hc.b.1; have f3 := hc.sh
  have hs : -6553600000 ≤ wsum c.f hi c.f.length + wsum c.b ho c.b.length ∧ wsum c.f hi c.f.length + wsum c.b ho c.b.length ≤ 6553600000 := by omega
  unfold corF
  generalize wsum c.f hi c.f.length + wsum c.b ho c.b.length = s at hs
  constructor
  · have h3 : -6553600000 * c.sh ≤ s := by
      have : (6553600000 : Int) * 1 ≤ 6553600000 * c.sh := Int.mul_le_mul_of_nonneg_left (by omega) (by decide)
      have e : (-6553600000 : Int) * c.sh = -(6553600000 * c.sh) := by rw [Int.neg_mul]
      omega
    exact (Int.le_ediv_iff_mul_le (by omega)).2 h3
  · have h3 : s ≤ 6553600000 * c.sh := by
      have : (6553600000 : Int) * 1 ≤ 6553600000 * c.sh := Int.mul_le_mul_of_nonneg_left (by omega) (by decide)
      omega
    have := Int.ediv_le_ediv (by omega : 0 < c.sh) h3
    rwa [Int.mul_ediv_cancel _ (by omega)] at this
@[reducible] def KSt : List CK := [.int .i64, .int .i64, .int .i64, .int .i64, .int .i64, .int .i64, .int .i64, .int .i64, .int .i64, .int .i64, .int .i64, .int .i64, .int .i64, .int .i64, .int .i64, .int .i64, .int .i64, .int .i64, .sl [.int .i64], .sl [.int .i64], .int .i64]
@[reducible] def stR (L : List Int) (k : Int) (M : List Int) (m : Int) (c : Crv) : List Cell := [.int (L.getD 0 0), .int (L.getD 1 0), .int (L.getD 2 0), .int (L.getD 3 0), .int (L.getD 4 0), .int (L.getD 5 0), .int (L.getD 6 0), .int (L.getD 7 0), .int k, .int (M.getD 0 0), .int (M.getD 1 0), .int (M.getD 2 0), .int (M.getD 3 0), .int (M.getD 4 0), .int (M.getD 5 0), .int (M.getD 6 0), .int (M.getD 7 0), .int m, .sl (i64s c.f), .sl (i64s c.b), .int c.sh]
theorem kst_a {n : Int} (h : 0 ≤ n ∧ n < 8) : getL KSt (0 + 0 + n.toNat * (0 + 1)) = some (.int .i64) := by
  rcases eight h with rfl | rfl | rfl | rfl | rfl | rfl | rfl | rfl <;> rfl
theorem kst_b {n : Int} (h : 0 ≤ n ∧ n < 8) : getL KSt (9 + 0 + n.toNat * (0 + 1)) = some (.int .i64) := by
  rcases eight h with rfl | rfl | rfl | rfl | rfl | rfl | rfl | rfl <;> rfl
theorem str_a (L : List Int) (k : Int) (M : List Int) (m : Int) (c : Crv) {n : Int} (h : 0 ≤ n ∧ n < 8) : rI [stR L k M m c] 0 (0 + 0 + n.toNat * (0 + 1)) = L.getD n.toNat 0 := by
  rcases eight h with rfl | rfl | rfl | rfl | rfl | rfl | rfl | rfl <;> rfl
theorem str_b (L : List Int) (k : Int) (M : List Int) (m : Int) (c : Crv) {n : Int} (h : 0 ≤ n ∧ n < 8) : rI [stR L k M m c] 0 (9 + 0 + n.toNat * (0 + 1)) = M.getD n.toNat 0 := by
  rcases eight h with rfl | rfl | rfl | rfl | rfl | rfl | rfl | rfl <;> rfl
theorem l326a (L : List Int) (k : Int) (M : List Int) (m : Int) (c : Crv) (w hs : List Int) (hR : Ring L k hs) (hw : ∀ j, -4096 ≤ w.getD j 0 ∧ w.getD j 0 ≤ 4096) (hl : w.length ≤ 8) (hh : small hs) :
    PSpec Tryz.prog 326 [.one (.lel true KSt [stR L k M m c] 0 0), lL w] (.x (I (wsum w hs w.length))) := by
  have lw := i64s_len w
  have hk := hR.kb
  have e8 : rI [stR L k M m c] 0 (0 + (0 + 1 + 1 + 1 + 1 + 1 + 1 + 1 + 1)) = k := rfl
  refine spec_of pMix (O := []) Tryz.func326 (c := bodyOf Tryz.f326) rfl (by kernel_rfl) (by kernel_rfl) Tryz.ntmps326 (res := [.tmp 4]) (by kernel_rfl) ?_
  repeat' ((conv => whnf); first | refine Rng.g ?_ | refine Ob.g ?_ | refine Ob.e ?_ | refine Ob.m ?_ | refine Ob.mk (Nat.le_of_ble_eq_true rfl) ?_ | refine JoinVC.on ?_ | refine Nils.mk (fun h => ?_) ?_ | refine Val.t ?_ | refine Val.d ?_ | refine Mm.mk ?_ | (refine Br.mk (fun h => ?_) (fun h => ?_) <;> first | (exfalso; omega; done) | (exfalso; simp at h; done) | skip))
  refine LoopVC.mk (fun n st => ∃ (i : Nat), i ≤ w.length ∧ n = w.length - i ∧ st = ⟨0, envA 35 [(0, .x (.one (.lel true KSt [stR L k M m c] 0 0))), (1, .x (lL w)), (5, .int .i64 (wsum w hs i)), (8, .x (lL w)), (9, .int .i64 (w.length : Int)), (10, .int .i64 (i : Int))], []⟩) _ _ ⟨0, Nat.zero_le _, rfl, rfl⟩ ?_ ?_
  · refine ⟨[], rfl, rfl, ?_, ?_⟩ <;> repeat' (first | exact trivial | exact rfl | exact Iff.rfl | apply And.intro)
    exact congrArg Int.ofNat lw
  rintro n _ ⟨i, hi, hn, rfl⟩
  have gw : rI (i64s w) (i : Int).toNat 0 = w.getD i 0 := by rw [Int.toNat_natCast, i64s_get]
  have hb := wsum_bd hw hh i
  have hp := wprod_bd hw hh i
  by_cases hi' : i < w.length
  · have hr := hR.at' i (by omega)
    rw [Int.toNat_natCast] at hr
    have hx := str_a L k M m c (n := (k + 8 - 1 - (i : Int)) % 8) (by omega)
    rw [hr] at hx
    repeat' ((conv => whnf); first | rw [e8] | refine Rng.g ?_ | refine Ob.g ?_ | refine Ob.e ?_ | refine Ob.m ?_ | refine Ob.mk (Nat.le_of_ble_eq_true rfl) ?_ | refine JoinVC.on ?_ | refine Nils.mk (fun h => ?_) ?_ | refine Val.t ?_ | refine Val.d ?_ | refine Mm.mk ?_ | (refine Br.mk (fun h => ?_) (fun h => ?_) <;> first | (exfalso; omega; done) | (exfalso; simp at h; done) | skip))
    refine optP.mk _ (kst_a (n := (k + 8 - 1 - (i : Int)) % 8) (by omega)) ?_
    repeat' ((conv => whnf); first | rw [hx] | rw [gw] | refine Rng.g ?_ | refine Ob.g ?_ | refine Ob.e ?_ | refine Ob.m ?_ | refine Ob.mk (Nat.le_of_ble_eq_true rfl) ?_ | refine JoinVC.on ?_ | refine Nils.mk (fun h => ?_) ?_ | refine Val.t ?_ | refine Val.d ?_ | refine Mm.mk ?_ | (refine Br.mk (fun h => ?_) (fun h => ?_) <;> first | (exfalso; omega; done) | (exfalso; simp at h; done) | skip))
    refine Back.mk (w.length - (i + 1)) _ (by omega) ⟨i + 1, by omega, rfl, rfl⟩ ?_
    refine ⟨[], rfl, rfl, ?_, ?_⟩ <;> repeat' (first | exact trivial | exact rfl | exact Iff.rfl | apply And.intro)
  · have e : i = w.length := by omega
    subst e
    repeat' ((conv => whnf); first | refine Rng.g ?_ | refine Ob.g ?_ | refine Ob.e ?_ | refine Ob.m ?_ | refine Ob.mk (Nat.le_of_ble_eq_true rfl) ?_ | refine JoinVC.on ?_ | refine Nils.mk (fun h => ?_) ?_ | refine Val.t ?_ | refine Val.d ?_ | refine Mm.mk ?_ | (refine Br.mk (fun h => ?_) (fun h => ?_) <;> first | (exfalso; omega; done) | (exfalso; simp at h; done) | skip))
    repeat refine Mm.mk ?_
    refine EndVC.mk _ rfl _ _ ⟨rfl, rfl⟩ ?_
    refine ⟨[], rfl, rfl, ?_, ?_⟩ <;> repeat' (first | exact trivial | exact rfl | exact Iff.rfl | apply And.intro)
theorem l326b (L : List Int) (k : Int) (M : List Int) (m : Int) (c : Crv) (w hs : List Int) (hR : Ring M m hs) (hw : ∀ j, -4096 ≤ w.getD j 0 ∧ w.getD j 0 ≤ 4096) (hl : w.length ≤ 8) (hh : small hs) :
    PSpec Tryz.prog 326 [.one (.lel true KSt [stR L k M m c] 0 9), lL w] (.x (I (wsum w hs w.length))) := by
  have lw := i64s_len w
  have hk := hR.kb
  have e8 : rI [stR L k M m c] 0 (9 + (0 + 1 + 1 + 1 + 1 + 1 + 1 + 1 + 1)) = m := rfl
  refine spec_of pMix (O := []) Tryz.func326 (c := bodyOf Tryz.f326) rfl (by kernel_rfl) (by kernel_rfl) Tryz.ntmps326 (res := [.tmp 4]) (by kernel_rfl) ?_
  repeat' ((conv => whnf); first | refine Rng.g ?_ | refine Ob.g ?_ | refine Ob.e ?_ | refine Ob.m ?_ | refine Ob.mk (Nat.le_of_ble_eq_true rfl) ?_ | refine JoinVC.on ?_ | refine Nils.mk (fun h => ?_) ?_ | refine Val.t ?_ | refine Val.d ?_ | refine Mm.mk ?_ | (refine Br.mk (fun h => ?_) (fun h => ?_) <;> first | (exfalso; omega; done) | (exfalso; simp at h; done) | skip))
  refine LoopVC.mk (fun n st => ∃ (i : Nat), i ≤ w.length ∧ n = w.length - i ∧ st = ⟨0, envA 35 [(0, .x (.one (.lel true KSt [stR L k M m c] 0 9))), (1, .x (lL w)), (5, .int .i64 (wsum w hs i)), (8, .x (lL w)), (9, .int .i64 (w.length : Int)), (10, .int .i64 (i : Int))], []⟩) _ _ ⟨0, Nat.zero_le _, rfl, rfl⟩ ?_ ?_
  · refine ⟨[], rfl, rfl, ?_, ?_⟩ <;> repeat' (first | exact trivial | exact rfl | exact Iff.rfl | apply And.intro)
    exact congrArg Int.ofNat lw
  rintro n _ ⟨i, hi, hn, rfl⟩
  have gw : rI (i64s w) (i : Int).toNat 0 = w.getD i 0 := by rw [Int.toNat_natCast, i64s_get]
  have hb := wsum_bd hw hh i
  have hp := wprod_bd hw hh i
  by_cases hi' : i < w.length
  · have hr := hR.at' i (by omega)
    rw [Int.toNat_natCast] at hr
    have hx := str_b L k M m c (n := (m + 8 - 1 - (i : Int)) % 8) (by omega)
    rw [hr] at hx
    repeat' ((conv => whnf); first | rw [e8] | refine Rng.g ?_ | refine Ob.g ?_ | refine Ob.e ?_ | refine Ob.m ?_ | refine Ob.mk (Nat.le_of_ble_eq_true rfl) ?_ | refine JoinVC.on ?_ | refine Nils.mk (fun h => ?_) ?_ | refine Val.t ?_ | refine Val.d ?_ | refine Mm.mk ?_ | (refine Br.mk (fun h => ?_) (fun h => ?_) <;> first | (exfalso; omega; done) | (exfalso; simp at h; done) | skip))
    refine optP.mk _ (kst_b (n := (m + 8 - 1 - (i : Int)) % 8) (by omega)) ?_
    repeat' ((conv => whnf); first | rw [hx] | rw [gw] | refine Rng.g ?_ | refine Ob.g ?_ | refine Ob.e ?_ | refine Ob.m ?_ | refine Ob.mk (Nat.le_of_ble_eq_true rfl) ?_ | refine JoinVC.on ?_ | refine Nils.mk (fun h => ?_) ?_ | refine Val.t ?_ | refine Val.d ?_ | refine Mm.mk ?_ | (refine Br.mk (fun h => ?_) (fun h => ?_) <;> first | (exfalso; omega; done) | (exfalso; simp at h; done) | skip))
    refine Back.mk (w.length - (i + 1)) _ (by omega) ⟨i + 1, by omega, rfl, rfl⟩ ?_
    refine ⟨[], rfl, rfl, ?_, ?_⟩ <;> repeat' (first | exact trivial | exact rfl | exact Iff.rfl | apply And.intro)
  · have e : i = w.length := by omega
    subst e
    repeat' ((conv => whnf); first | refine Rng.g ?_ | refine Ob.g ?_ | refine Ob.e ?_ | refine Ob.m ?_ | refine Ob.mk (Nat.le_of_ble_eq_true rfl) ?_ | refine JoinVC.on ?_ | refine Nils.mk (fun h => ?_) ?_ | refine Val.t ?_ | refine Val.d ?_ | refine Mm.mk ?_ | (refine Br.mk (fun h => ?_) (fun h => ?_) <;> first | (exfalso; omega; done) | (exfalso; simp at h; done) | skip))
    repeat refine Mm.mk ?_
    refine EndVC.mk _ rfl _ _ ⟨rfl, rfl⟩ ?_
    refine ⟨[], rfl, rfl, ?_, ?_⟩ <;> repeat' (first | exact trivial | exact rfl | exact Iff.rfl | apply And.intro)
theorem s277 (L : List Int) (k : Int) (M : List Int) (m : Int) (c : Crv) (hi ho : List Int) (hc : CrvOK c) (hO : Ring L k ho) (hI : Ring M m hi) (h1 : small hi) (h2 : small ho) :
    HSpec Tryz.prog 277 [.one (.ptr 0 0)] [stB L k M m c] (fun r m' => r = .x (I (corF c hi ho)) ∧ m' = [some (stB L k M m c)]) := by
  have a1 := wsum_bd hc.f.2 h1 c.f.length
  have a2 := wsum_bd hc.b.2 h2 c.b.length
  have f1 := hc.f.1; have f2 := hc.b.1; have f3 := hc.sh
  refine spec_of pMix (O := [(1, ([], [⟨0, [], []⟩, ⟨1, [], []⟩, ⟨2, [], []⟩, ⟨3, [], []⟩, ⟨4, [], []⟩, ⟨5, [], []⟩, ⟨6, [], []⟩, ⟨7, [], []⟩, ⟨9, [], []⟩, ⟨10, [], []⟩, ⟨11, [], []⟩, ⟨12, [], []⟩, ⟨13, [], []⟩, ⟨14, [], []⟩, ⟨15, [], []⟩, ⟨16, [], []⟩, ⟨19, [], []⟩, ⟨20, [], []⟩, ⟨21, [], []⟩, ⟨22, [], []⟩, ⟨23, [], []⟩, ⟨8, [9, 10, 11, 12, 13, 14, 15, 16, 19, 20, 21, 22, 23], []⟩, ⟨17, [19, 20, 21, 22, 23], []⟩, ⟨18, [], []⟩, ⟨24, [], []⟩, ⟨25, [], []⟩]))]) Tryz.func277 (c := bodyOf Tryz.f277) rfl (by kernel_rfl) (by kernel_rfl) Tryz.ntmps277 (res := [.tmp 2]) (by kernel_rfl) ?_
  repeat' ((conv => whnf); first | refine Rng.g ?_ | refine Ob.g ?_ | refine Ob.e ?_ | refine Ob.m ?_ | refine Ob.mk (Nat.le_of_ble_eq_true rfl) ?_ | refine JoinVC.on ?_ | refine Nils.mk (fun h => ?_) ?_ | refine Val.t ?_ | refine Val.d ?_ | refine Mm.mk ?_ | refine CallVC.pure rfl (l326b L k M m c c.f hi hI hc.f.2 hc.f.1 h1) ?_ | refine CallVC.pure rfl (l326a L k M m c c.b ho hO hc.b.2 hc.b.1 h2) ?_ | refine CallVC.pure rfl (s221 (wsum c.f hi c.f.length + wsum c.b ho c.b.length) c.sh (by omega) (by omega)) ?_ | refine CallVC0.pure rfl (l326b L k M m c c.f hi hI hc.f.2 hc.f.1 h1) ?_ | refine CallVC0.pure rfl (l326a L k M m c c.b ho hO hc.b.2 hc.b.1 h2) ?_ | refine CallVC0.pure rfl (s221 (wsum c.f hi c.f.length + wsum c.b ho c.b.length) c.sh (by omega) (by omega)) ?_ | (refine Br.mk (fun h => ?_) (fun h => ?_) <;> first | (exfalso; omega; done) | (exfalso; simp at h; done) | skip))
  repeat refine Mm.mk ?_
  refine EndVC.mk _ rfl _ _ ⟨rfl, rfl⟩ ?_
  refine ⟨[some 0], rfl, rfl, ?_, ?_⟩ <;> repeat' (first | exact trivial | exact rfl | exact Iff.rfl | apply And.intro)
/-- A step of a curve: what the closure keeps. -/
@[reducible] def stM (u : SV) (L : List Int) (k : Int) (M : List Int) (m : Int) (c : Crv) : List Blk := [.box 4 [u], .box 426 [.ptr 2 0], stB L k M m c]
theorem s276f (L : List Int) (k : Int) (M : List Int) (m : Int) (c : Crv) (hi ho : List Int) (n : Int) (hc : CrvOK c) (hO : Ring L k ho) (hI : Ring M m hi) (h1 : small hi) (h2 : small ho) (hn : -100000 ≤ n ∧ n ≤ 100000) :
    HSpec Tryz.prog 276 [I n, .one (.ptr 0 0), .one (.ptr 1 0)] (stM (.bool false) L k M m c) (fun r m' => ∃ L' k' M' m2, Ring L' k' ((n + corF c hi ho) :: ho) ∧ Ring M' m2 (n :: hi) ∧ r = .x (I (n + corF c hi ho)) ∧ m' = [some (.box 4 [.bool false]), some (.box 426 [.ptr 2 0]), some (stB L' k' M' m2 c)]) := by
  have hb := corF_bd hc h1 h2
  refine spec_of pMix (O := []) Tryz.func276 (c := bodyOf Tryz.f276) rfl (by kernel_rfl) (by kernel_rfl) Tryz.ntmps276 (res := [.tmp 4]) (by kernel_rfl) ?_
  repeat' ((conv => whnf); first | refine Rng.g ?_ | refine Ob.g ?_ | refine Ob.e ?_ | refine Ob.m ?_ | refine Ob.mk (Nat.le_of_ble_eq_true rfl) ?_ | refine JoinVC.on ?_ | refine Nils.mk (fun h => ?_) ?_ | refine Val.t ?_ | refine Val.d ?_ | refine Mm.mk ?_ | (refine Br.mk (fun h => ?_) (fun h => ?_) <;> first | (exfalso; omega; done) | (exfalso; simp at h; done) | skip))
  conv => whnf
  refine CallVC.mk [2] _ _ _ rfl rfl rfl (s277 L k M m c hi ho hc hO hI h1 h2) (fun r m' h' => ?_)
  obtain ⟨rfl, rfl⟩ := h'
  conv => whnf
  repeat' ((conv => whnf); first | refine Rng.g ?_ | refine Ob.g ?_ | refine Ob.e ?_ | refine Ob.m ?_ | refine Ob.mk (Nat.le_of_ble_eq_true rfl) ?_ | refine JoinVC.on ?_ | refine Nils.mk (fun h => ?_) ?_ | refine Val.t ?_ | refine Val.d ?_ | refine Mm.mk ?_ | (refine Br.mk (fun h => ?_) (fun h => ?_) <;> first | (exfalso; omega; done) | (exfalso; simp at h; done) | skip))
  conv => whnf
  refine CallVC.mk [2] _ _ _ rfl rfl rfl (s278b L k M m c n hi hI) (fun r m' h' => ?_)
  obtain ⟨rfl, rfl⟩ := h'
  conv => whnf
  repeat' ((conv => whnf); first | refine Rng.g ?_ | refine Ob.g ?_ | refine Ob.e ?_ | refine Ob.m ?_ | refine Ob.mk (Nat.le_of_ble_eq_true rfl) ?_ | refine JoinVC.on ?_ | refine Nils.mk (fun h => ?_) ?_ | refine Val.t ?_ | refine Val.d ?_ | refine Mm.mk ?_ | (refine Br.mk (fun h => ?_) (fun h => ?_) <;> first | (exfalso; omega; done) | (exfalso; simp at h; done) | skip))
  conv => whnf
  refine CallVC.mk [2] _ _ _ rfl rfl rfl (s278a L k _ _ c (n + corF c hi ho) ho hO) (fun r m' h' => ?_)
  obtain ⟨rfl, rfl⟩ := h'
  conv => whnf
  repeat' ((conv => whnf); first | refine Rng.g ?_ | refine Ob.g ?_ | refine Ob.e ?_ | refine Ob.m ?_ | refine Ob.mk (Nat.le_of_ble_eq_true rfl) ?_ | refine JoinVC.on ?_ | refine Nils.mk (fun h => ?_) ?_ | refine Val.t ?_ | refine Val.d ?_ | refine Mm.mk ?_ | (refine Br.mk (fun h => ?_) (fun h => ?_) <;> first | (exfalso; omega; done) | (exfalso; simp at h; done) | skip))
  repeat refine Mm.mk ?_
  conv => whnf
  refine EndVC.mk _ rfl _ _ (⟨_, _, _, _, hO.put _, hI.put _, rfl, rfl⟩) ?_
  refine ⟨[some 0, some 1, some 2], rfl, rfl, ?_, ?_⟩ <;> repeat' (first | exact trivial | exact rfl | exact Iff.rfl | apply And.intro)
theorem s276t (L : List Int) (k : Int) (M : List Int) (m : Int) (c : Crv) (hi ho : List Int) (n : Int) (hc : CrvOK c) (hO : Ring L k ho) (hI : Ring M m hi) (h1 : small hi) (h2 : small ho) (hn : -100000 ≤ n ∧ n ≤ 100000) :
    HSpec Tryz.prog 276 [I n, .one (.ptr 0 0), .one (.ptr 1 0)] (stM (.bool true) L k M m c) (fun r m' => ∃ L' k' M' m2, Ring L' k' (n :: ho) ∧ Ring M' m2 ((n - corF c hi ho) :: hi) ∧ r = .x (I (n - corF c hi ho)) ∧ m' = [some (.box 4 [.bool true]), some (.box 426 [.ptr 2 0]), some (stB L' k' M' m2 c)]) := by
  have hb := corF_bd hc h1 h2
  refine spec_of pMix (O := []) Tryz.func276 (c := bodyOf Tryz.f276) rfl (by kernel_rfl) (by kernel_rfl) Tryz.ntmps276 (res := [.tmp 4]) (by kernel_rfl) ?_
  repeat' ((conv => whnf); first | refine Rng.g ?_ | refine Ob.g ?_ | refine Ob.e ?_ | refine Ob.m ?_ | refine Ob.mk (Nat.le_of_ble_eq_true rfl) ?_ | refine JoinVC.on ?_ | refine Nils.mk (fun h => ?_) ?_ | refine Val.t ?_ | refine Val.d ?_ | refine Mm.mk ?_ | (refine Br.mk (fun h => ?_) (fun h => ?_) <;> first | (exfalso; omega; done) | (exfalso; simp at h; done) | skip))
  conv => whnf
  refine CallVC.mk [2] _ _ _ rfl rfl rfl (s277 L k M m c hi ho hc hO hI h1 h2) (fun r m' h' => ?_)
  obtain ⟨rfl, rfl⟩ := h'
  conv => whnf
  repeat' ((conv => whnf); first | refine Rng.g ?_ | refine Ob.g ?_ | refine Ob.e ?_ | refine Ob.m ?_ | refine Ob.mk (Nat.le_of_ble_eq_true rfl) ?_ | refine JoinVC.on ?_ | refine Nils.mk (fun h => ?_) ?_ | refine Val.t ?_ | refine Val.d ?_ | refine Mm.mk ?_ | (refine Br.mk (fun h => ?_) (fun h => ?_) <;> first | (exfalso; omega; done) | (exfalso; simp at h; done) | skip))
  conv => whnf
  refine CallVC.mk [2] _ _ _ rfl rfl rfl (s278b L k M m c (n - corF c hi ho) hi hI) (fun r m' h' => ?_)
  obtain ⟨rfl, rfl⟩ := h'
  conv => whnf
  repeat' ((conv => whnf); first | refine Rng.g ?_ | refine Ob.g ?_ | refine Ob.e ?_ | refine Ob.m ?_ | refine Ob.mk (Nat.le_of_ble_eq_true rfl) ?_ | refine JoinVC.on ?_ | refine Nils.mk (fun h => ?_) ?_ | refine Val.t ?_ | refine Val.d ?_ | refine Mm.mk ?_ | (refine Br.mk (fun h => ?_) (fun h => ?_) <;> first | (exfalso; omega; done) | (exfalso; simp at h; done) | skip))
  conv => whnf
  refine CallVC.mk [2] _ _ _ rfl rfl rfl (s278a L k _ _ c n ho hO) (fun r m' h' => ?_)
  obtain ⟨rfl, rfl⟩ := h'
  conv => whnf
  repeat' ((conv => whnf); first | refine Rng.g ?_ | refine Ob.g ?_ | refine Ob.e ?_ | refine Ob.m ?_ | refine Ob.mk (Nat.le_of_ble_eq_true rfl) ?_ | refine JoinVC.on ?_ | refine Nils.mk (fun h => ?_) ?_ | refine Val.t ?_ | refine Val.d ?_ | refine Mm.mk ?_ | (refine Br.mk (fun h => ?_) (fun h => ?_) <;> first | (exfalso; omega; done) | (exfalso; simp at h; done) | skip))
  repeat refine Mm.mk ?_
  conv => whnf
  refine EndVC.mk _ rfl _ _ (⟨_, _, _, _, hO.put _, hI.put _, rfl, rfl⟩) ?_
  refine ⟨[some 0, some 1, some 2], rfl, rfl, ?_, ?_⟩ <;> repeat' (first | exact trivial | exact rfl | exact Iff.rfl | apply And.intro)
end Go.Sx

namespace Go.Sx
open Go Go.Proofs
set_option maxRecDepth 10000
set_option maxHeartbeats 4000000
@[reducible] def bv : Bool → SV
  | true => .tt
  | false => .ff
/-- What a step makes of a number. -/
def stepF (u : Bool) (c : Crv) (hi ho : List Int) (n : Int) : Int := if u = true then n - corF c hi ho else n + corF c hi ho
theorem s276 (u : Bool) (L : List Int) (k : Int) (M : List Int) (m : Int) (c : Crv) (hi ho : List Int) (n : Int) (hc : CrvOK c) (hO : Ring L k ho) (hI : Ring M m hi) (h1 : small hi) (h2 : small ho) (hn : -100000 ≤ n ∧ n ≤ 100000) :
    HSpec Tryz.prog 276 [I n, .one (.ptr 0 0), .one (.ptr 1 0)] (stM (.bool u) L k M m c) (fun r m' => ∃ L' k' M' m2, Ring L' k' ((if u = true then n else stepF u c hi ho n) :: ho) ∧ Ring M' m2 ((if u = true then stepF u c hi ho n else n) :: hi) ∧ r = .x (I (stepF u c hi ho n)) ∧ m' = [some (.box 4 [.bool u]), some (.box 426 [.ptr 2 0]), some (stB L' k' M' m2 c)]) := by
  cases u with
  | false => exact s276f L k M m c hi ho n hc hO hI h1 h2 hn
  | true => exact s276t L k M m c hi ho n hc hO hI h1 h2 hn
theorem s279 (n most : Int) (hm : 0 ≤ most ∧ most ≤ 1000000) : HSpec Tryz.prog 279 [I n, .one (.ptr 0 0)] [bI most] (fun r m' => r = xP (¬ bey n most) ∧ m' = [some (bI most)]) := by
  refine spec_of pMix (O := []) Tryz.func279 (c := bodyOf Tryz.f279) rfl (by kernel_rfl) (by kernel_rfl) Tryz.ntmps279 (res := [.tmp 3]) (by kernel_rfl) ?_
  repeat' ((conv => whnf); first | refine Rng.g ?_ | refine Ob.g ?_ | refine Ob.e ?_ | refine Ob.m ?_ | refine Ob.mk (Nat.le_of_ble_eq_true rfl) ?_ | refine JoinVC.on ?_ | refine Nils.mk (fun h => ?_) ?_ | refine Val.t ?_ | refine Val.d ?_ | refine Mm.mk ?_ | refine CallVC.pure rfl (s280 n most hm) ?_ | refine CallVC0.pure rfl (s280 n most hm) ?_ | (refine Br.mk (fun h => ?_) (fun h => ?_) <;> first | (exfalso; omega; done) | (exfalso; simp at h; done) | skip))
  repeat refine Mm.mk ?_
  refine EndVC.mk _ rfl _ _ ⟨rfl, rfl⟩ ?_
  refine ⟨[some 0], rfl, rfl, ?_, ?_⟩ <;> repeat' (first | exact trivial | exact rfl | exact Iff.rfl | apply And.intro)
theorem s204 (most : Int) : HSpec Tryz.prog 204 [I most] [] (fun r m' => r = .x (.one (.fn 279 [(0, 0)])) ∧ m' = [some (bI most)]) := by
  refine spec_of pMix (O := []) Tryz.func204 (c := bodyOf Tryz.f204) rfl (by kernel_rfl) (by kernel_rfl) Tryz.ntmps204 (res := [.tmp 2]) (by kernel_rfl) ?_
  repeat' ((conv => whnf); first | refine Rng.g ?_ | refine Ob.g ?_ | refine Ob.e ?_ | refine Ob.m ?_ | refine Ob.mk (Nat.le_of_ble_eq_true rfl) ?_ | refine JoinVC.on ?_ | refine Nils.mk (fun h => ?_) ?_ | refine Val.t ?_ | refine Val.d ?_ | refine Mm.mk ?_ | (refine Br.mk (fun h => ?_) (fun h => ?_) <;> first | (exfalso; omega; done) | (exfalso; simp at h; done) | skip))
  repeat refine Mm.mk ?_
  refine EndVC.mk _ rfl _ _ ⟨rfl, rfl⟩ ?_
  refine ⟨[some 0], rfl, rfl, ?_, ?_⟩ <;> repeat' (first | exact trivial | exact rfl | exact Iff.rfl | apply And.intro)
theorem s203 (u : Bool) (c : Crv) : HSpec Tryz.prog 203 [c.x, .one (bv u)] [] (fun r m' => r = .x (.one (.fn 276 [(0, 0), (1, 0)])) ∧ m' = [some (.box 4 [.bool u]), some (.box 426 [.ptr 2 0]), some (stB [0, 0, 0, 0, 0, 0, 0, 0] 0 [0, 0, 0, 0, 0, 0, 0, 0] 0 c)]) := by
  cases u
  all_goals
    refine spec_of pMix (O := []) Tryz.func203 (c := bodyOf Tryz.f203) rfl (by kernel_rfl) (by kernel_rfl) Tryz.ntmps203 (res := [.tmp 4]) (by kernel_rfl) ?_
    repeat' ((conv => whnf); first | refine Rng.g ?_ | refine Ob.g ?_ | refine Ob.e ?_ | refine Ob.m ?_ | refine Ob.mk (Nat.le_of_ble_eq_true rfl) ?_ | refine JoinVC.on ?_ | refine Nils.mk (fun h => ?_) ?_ | refine Val.t ?_ | refine Val.d ?_ | refine Mm.mk ?_ | (refine Br.mk (fun h => ?_) (fun h => ?_) <;> first | (exfalso; omega; done) | (exfalso; simp at h; done) | skip))
    repeat refine Mm.mk ?_
    refine EndVC.mk _ rfl _ _ ⟨rfl, rfl⟩ ?_
    refine ⟨[some 1, some 3, some 2], rfl, rfl, ?_, ?_⟩ <;> repeat' (first | exact trivial | exact rfl | exact Iff.rfl | apply And.intro)
/-! ### What a curve makes of a signal -/
def hiF (u : Bool) (xs ys : List Int) (i : Nat) : List Int := if u = true then (ys.take i).reverse else (xs.take i).reverse
def hoF (u : Bool) (xs ys : List Int) (i : Nat) : List Int := if u = true then (xs.take i).reverse else (ys.take i).reverse
def nextY (u : Bool) (c : Crv) (xs ys : List Int) (i : Nat) : Int := stepF u c (hiF u xs ys i) (hoF u xs ys i) (xs.getD i 0)
structure Filt (u : Bool) (c : Crv) (most : Int) (xs ys : List Int) : Prop where
  len : ys.length ≤ xs.length
  each : ∀ j, j < ys.length → ys.getD j 0 = nextY u c xs ys j ∧ ¬ bey (ys.getD j 0) most
theorem take_app {α : Type} (l r : List α) (i : Nat) (h : i ≤ l.length) : (l ++ r).take i = l.take i := by
  rw [List.take_append_of_le_length h]
theorem nextY_app (u : Bool) (c : Crv) (xs ys r : List Int) (i : Nat) (h : i ≤ ys.length) : nextY u c xs (ys ++ r) i = nextY u c xs ys i := by
  unfold nextY hiF hoF
  rw [take_app _ _ _ h]
theorem getD_app_l {α : Type} (l r : List α) (d : α) (i : Nat) (h : i < l.length) : (l ++ r).getD i d = l.getD i d := by
  rw [List.getD_eq_getElem?_getD, List.getD_eq_getElem?_getD, List.getElem?_append_left h]
theorem getD_app_e {α : Type} (l : List α) (x d : α) : (l ++ [x]).getD l.length d = x := by
  rw [List.getD_eq_getElem?_getD, List.getElem?_append_right (Nat.le_refl _)]; simp
theorem rev_snoc (xs : List Int) (i : Nat) (h : i < xs.length) : (xs.take (i + 1)).reverse = xs.getD i 0 :: (xs.take i).reverse := by
  rw [take_snoc xs i 0 h, List.reverse_append]; rfl
theorem rev_app (ys : List Int) (y : Int) : ((ys ++ [y]).take (ys.length + 1)).reverse = y :: (ys.take ys.length).reverse := by
  have e : (ys ++ [y]).take (ys.length + 1) = ys ++ [y] := List.take_of_length_le (by simp)
  rw [e, List.take_length, List.reverse_append]; rfl
theorem hoF_snoc (u : Bool) (xs ys : List Int) (y : Int) (h : ys.length < xs.length) : hoF u xs (ys ++ [y]) (ys.length + 1) = (if u = true then xs.getD ys.length 0 else y) :: hoF u xs ys ys.length := by
  unfold hoF
  cases u
  · exact rev_app ys y
  · exact rev_snoc xs _ h
theorem hiF_snoc (u : Bool) (xs ys : List Int) (y : Int) (h : ys.length < xs.length) : hiF u xs (ys ++ [y]) (ys.length + 1) = (if u = true then y else xs.getD ys.length 0) :: hiF u xs ys ys.length := by
  unfold hiF
  cases u
  · exact rev_snoc xs _ h
  · exact rev_app ys y
theorem Filt.snoc {u : Bool} {c : Crv} {most : Int} {xs ys : List Int} (h : Filt u c most xs ys) (hl : ys.length < xs.length) (hb : ¬ bey (nextY u c xs ys ys.length) most) : Filt u c most xs (ys ++ [nextY u c xs ys ys.length]) := by
  refine ⟨by simp; omega, fun j hj => ?_⟩
  rw [List.length_append, List.length_cons, List.length_nil] at hj
  rcases Nat.lt_succ_iff_lt_or_eq.1 hj with h' | rfl
  · rw [getD_app_l _ _ _ _ h', nextY_app _ _ _ _ _ _ (by omega)]
    exact h.each j h'
  · rw [getD_app_e, nextY_app _ _ _ _ _ _ (Nat.le_refl _)]
    exact ⟨rfl, hb⟩
theorem getD_bd {xs : List Int} {B : Int} (h : ∀ j, -B ≤ xs.getD j 0 ∧ xs.getD j 0 ≤ B) (i : Nat) : ∀ j, -B ≤ (xs.take i).reverse.getD j 0 ∧ (xs.take i).reverse.getD j 0 ≤ B := by
  intro j
  have h0 := h xs.length
  rw [List.getD_eq_getElem?_getD, List.getElem?_eq_none (Nat.le_refl _)] at h0
  simp only [Option.getD_none] at h0
  by_cases hj : j < (xs.take i).reverse.length
  · have hm : (xs.take i).reverse.getD j 0 ∈ xs := by
      have := getD_mem' (0 : Int) hj
      rw [List.mem_reverse] at this
      exact List.mem_of_mem_take this
    obtain ⟨q, hq, e⟩ := List.getElem_of_mem hm
    have := h q
    rw [List.getD_eq_getElem?_getD, List.getElem?_eq_getElem hq] at this
    simp only [Option.getD_some] at this
    rw [e] at this
    exact this
  · rw [List.getD_eq_getElem?_getD, List.getElem?_eq_none (by omega)]
    exact h0
def sigB (B : Int) (xs : List Int) : Prop := ∀ j, -B ≤ xs.getD j 0 ∧ xs.getD j 0 ≤ B
theorem Filt.sig {u : Bool} {c : Crv} {most : Int} {xs ys : List Int} (h : Filt u c most xs ys) (hm : 0 ≤ most) : sigB most ys := by
  intro j
  by_cases hj : j < ys.length
  · have := (h.each j hj).2
    unfold bey at this
    omega
  · rw [List.getD_eq_getElem?_getD, List.getElem?_eq_none (by omega)]
    simp only [Option.getD_none]
    omega
theorem Filt.small {u : Bool} {c : Crv} {most : Int} {xs ys : List Int} (h : Filt u c most xs ys) (hm : 0 ≤ most ∧ most ≤ 100000) (hx : sigB 100000 xs) (i : Nat) : small (hiF u xs ys i) ∧ small (hoF u xs ys i) := by
  have h1 : sigB 100000 ys := fun j => by have := h.sig hm.1 j; omega
  unfold hiF hoF
  cases u
  · exact ⟨getD_bd hx i, getD_bd h1 i⟩
  · exact ⟨getD_bd h1 i, getD_bd hx i⟩
end Go.Sx

namespace Go.Sx
open Go Go.Proofs
set_option maxRecDepth 10000
set_option maxHeartbeats 4000000
/-- What 'each' gives with a curve's steps. -/
def EachRs (u : Bool) (c : Crv) (most : Int) (xs : List Int) (r : AV) (m' : List (Option Blk)) : Prop :=
  (∃ ys, Filt u c most xs ys ∧ ys.length = xs.length ∧ r = .tup [.one (.own 4), I 0] ∧ m' = [none, none, none, none, some (rowL ys)]) ∨
  (∃ ys, Filt u c most xs ys ∧ ys.length < xs.length ∧ bey (nextY u c xs ys ys.length) most ∧ r = .tup [.one .nils, I 4] ∧ m' = [none, none, none, none])
theorem s202 (u : Bool) (c : Crv) (most : Int) (xs : List Int) (hc : CrvOK c) (hm : 0 ≤ most ∧ most ≤ 100000) (hx : sigB 100000 xs) (hl : xs.length ≤ 4096) :
    HSpec Tryz.prog 202 [lL xs, .one (.fn 276 [(0, 0), (1, 0)]), .one (.fn 279 [(3, 0)])] [.box 4 [.bool u], .box 426 [.ptr 2 0], stB [0, 0, 0, 0, 0, 0, 0, 0] 0 [0, 0, 0, 0, 0, 0, 0, 0] 0 c, bI most] (EachRs u c most xs) := by
  have lx := i64s_len xs
  refine spec_of pMix (O := []) Tryz.func202 (c := bodyOf Tryz.f202) rfl (by kernel_rfl) (by kernel_rfl) Tryz.ntmps202 (res := [.tmp 6, .tmp 7]) (by kernel_rfl) ?_
  repeat' ((conv => whnf); first | refine Rng.g ?_ | refine Ob.g ?_ | refine Ob.e ?_ | refine Ob.m ?_ | refine Ob.mk (Nat.le_of_ble_eq_true rfl) ?_ | refine JoinVC.on ?_ | refine Nils.mk (fun h => ?_) ?_ | refine Val.t ?_ | refine Val.d ?_ | refine Mm.mk ?_ | (refine Br.mk (fun h => ?_) (fun h => ?_) <;> first | (exfalso; omega; done) | (exfalso; simp at h; done) | skip))
  repeat refine Mm.mk ?_
  refine Ob.mk (by simp only [eb2]; omega) ?_
  repeat' ((conv => whnf); first | refine Rng.g ?_ | refine Ob.g ?_ | refine Ob.e ?_ | refine Ob.m ?_ | refine Ob.mk (Nat.le_of_ble_eq_true rfl) ?_ | refine JoinVC.on ?_ | refine Nils.mk (fun h => ?_) ?_ | refine Val.t ?_ | refine Val.d ?_ | refine Mm.mk ?_ | (refine Br.mk (fun h => ?_) (fun h => ?_) <;> first | (exfalso; omega; done) | (exfalso; simp at h; done) | skip))
  refine LoopVC.mk (fun n st => ∃ (ys : List Int) (L : List Int) (k : Int) (M : List Int) (m : Int), Filt u c most xs ys ∧ n = xs.length - ys.length ∧ Ring L k (hoF u xs ys ys.length) ∧ Ring M m (hiF u xs ys ys.length) ∧ st = ⟨4, envA 34 [(1, .x (.one (.fn 276 [(0, 0), (1, 0)]))), (2, .x (.one (.fn 279 [(3, 0)]))), (8, .x (.one (.own 4))), (15, .x (lL xs)), (16, .int .i64 (xs.length : Int)), (17, .int .i64 (ys.length : Int))], [some (.box 4 [.bool u]), some (.box 426 [.ptr 2 0]), some (stB L k M m c), some (bI most), some (rowL ys)]⟩) _ _ ⟨[], _, _, _, _, ⟨Nat.zero_le _, fun j hj => absurd hj (Nat.not_lt_zero j)⟩, rfl, by cases u <;> exact Ring.start, by cases u <;> exact Ring.start, rfl⟩ ?_ ?_
  · refine ⟨[some 0, some 1, some 2, some 3, some 4], rfl, rfl, ?_, ?_⟩ <;> repeat' (first | exact trivial | exact rfl | exact Iff.rfl | apply And.intro)
    exact congrArg Int.ofNat lx
  rintro n _ ⟨ys, L, k, M, m, hF, hn, hO, hI, rfl⟩
  have hfl := hF.len
  have gx : rI (i64s xs) (ys.length : Int).toNat 0 = xs.getD ys.length 0 := by rw [Int.toNat_natCast, i64s_get]
  have hs := hF.small hm hx ys.length
  have hxi := hx ys.length
  by_cases hi' : ys.length < xs.length
  · have hst : stepF u c (hiF u xs ys ys.length) (hoF u xs ys ys.length) (xs.getD ys.length 0) = nextY u c xs ys ys.length := rfl
    repeat' ((conv => whnf); first | rw [gx] | refine Rng.g ?_ | refine Ob.g ?_ | refine Ob.e ?_ | refine Ob.m ?_ | refine Ob.mk (Nat.le_of_ble_eq_true rfl) ?_ | refine JoinVC.on ?_ | refine Nils.mk (fun h => ?_) ?_ | refine Val.t ?_ | refine Val.d ?_ | refine Mm.mk ?_ | (refine Br.mk (fun h => ?_) (fun h => ?_) <;> first | (exfalso; omega; done) | (exfalso; simp at h; done) | skip))
    conv => whnf
    conv => whnf
    refine CallVC.mk [0, 1, 2] _ _ _ rfl rfl rfl (s276 u L k M m c _ _ (xs.getD ys.length 0) hc hO hI hs.1 hs.2 hxi) (fun r m' h' => ?_)
    obtain ⟨L2, k2, M2, m2, hO2, hI2, rfl, rfl⟩ := h'
    conv => whnf
    rw [hst]
    repeat' ((conv => whnf); first | refine Rng.g ?_ | refine Ob.g ?_ | refine Ob.e ?_ | refine Ob.m ?_ | refine Ob.mk (Nat.le_of_ble_eq_true rfl) ?_ | refine JoinVC.on ?_ | refine Nils.mk (fun h => ?_) ?_ | refine Val.t ?_ | refine Val.d ?_ | refine Mm.mk ?_ | (refine Br.mk (fun h => ?_) (fun h => ?_) <;> first | (exfalso; omega; done) | (exfalso; simp at h; done) | skip))
    conv => whnf
    refine CallVC.mk [3] _ _ _ rfl rfl rfl (s279 (nextY u c xs ys ys.length) most (by omega)) (fun r m' h' => ?_)
    obtain ⟨rfl, rfl⟩ := h'
    conv => whnf
    repeat' ((conv => whnf); first | refine Rng.g ?_ | refine Ob.g ?_ | refine Ob.e ?_ | refine Ob.m ?_ | refine Ob.mk (Nat.le_of_ble_eq_true rfl) ?_ | refine JoinVC.on ?_ | refine Nils.mk (fun h => ?_) ?_ | refine Val.t ?_ | refine Val.d ?_ | refine Mm.mk ?_ | (refine Br.mk (fun h => ?_) (fun h => ?_) <;> first | (exfalso; omega; done) | (exfalso; simp at h; done) | skip))
    · repeat refine Mm.mk ?_
      conv => whnf
      refine EndVC.mk _ rfl _ _ (.inr ⟨ys, hF, hi', Classical.not_not.1 h, rfl, rfl⟩) ?_
      refine ⟨[none, none, none, none], rfl, rfl, ?_, ?_⟩ <;> repeat' (first | exact trivial | exact rfl | exact Iff.rfl | apply And.intro)
    · have hnb := Classical.not_not.1 h
      have ly : (i64s ys).length = ys.length := i64s_len ys
      repeat refine Mm.mk ?_
      refine Ob.mk (by simp only [ly, eb2, List.length_cons, List.length_nil]; omega) ?_
      repeat' ((conv => whnf); first | refine Rng.g ?_ | refine Ob.g ?_ | refine Ob.e ?_ | refine Ob.m ?_ | refine Ob.mk (Nat.le_of_ble_eq_true rfl) ?_ | refine JoinVC.on ?_ | refine Nils.mk (fun h => ?_) ?_ | refine Val.t ?_ | refine Val.d ?_ | refine Mm.mk ?_ | (refine Br.mk (fun h => ?_) (fun h => ?_) <;> first | (exfalso; omega; done) | (exfalso; simp at h; done) | skip))
      have hl1 : (ys ++ [nextY u c xs ys ys.length]).length = ys.length + 1 := by simp
      refine Back.mk (xs.length - (ys.length + 1)) _ (by omega) ⟨ys ++ [nextY u c xs ys ys.length], L2, k2, M2, m2, hF.snoc hi' hnb, by rw [hl1], by rw [hl1, hoF_snoc u xs ys _ hi']; exact hO2, by rw [hl1, hiF_snoc u xs ys _ hi']; exact hI2, rfl⟩ ?_
      refine ⟨[some 0, some 1, some 2, some 3, some 6], rfl, rfl, ?_, ?_⟩ <;> repeat' (first | exact trivial | exact rfl | exact Iff.rfl | apply And.intro)
      · rw [hl1]; rfl
      · exact (i64s_snoc ys _).symm
  · repeat' ((conv => whnf); first | refine Rng.g ?_ | refine Ob.g ?_ | refine Ob.e ?_ | refine Ob.m ?_ | refine Ob.mk (Nat.le_of_ble_eq_true rfl) ?_ | refine JoinVC.on ?_ | refine Nils.mk (fun h => ?_) ?_ | refine Val.t ?_ | refine Val.d ?_ | refine Mm.mk ?_ | (refine Br.mk (fun h => ?_) (fun h => ?_) <;> first | (exfalso; omega; done) | (exfalso; simp at h; done) | skip))
    repeat refine Mm.mk ?_
    conv => whnf
    refine EndVC.mk _ rfl _ _ (.inl ⟨ys, hF, by omega, rfl, rfl⟩) ?_
    refine ⟨[none, none, none, none, some 4], rfl, rfl, ?_, ?_⟩ <;> repeat' (first | exact trivial | exact rfl | exact Iff.rfl | apply And.intro)
end Go.Sx

namespace Go.Sx
open Go Go.Proofs
set_option maxRecDepth 10000
set_option maxHeartbeats 4000000
/-- What a chain makes of a signal. -/
def ChN (u : Bool) (f : Nat → Crv) (xs : List Int) : Nat → List Int → Prop
  | 0, ys => ys = xs
  | n + 1, ys => ∃ zs, ChN u f xs n zs ∧ Filt u (f n) 32767 zs ys ∧ ys.length = zs.length
theorem ChN.len {u : Bool} {f : Nat → Crv} {xs : List Int} : ∀ {n : Nat} {ys : List Int}, ChN u f xs n ys → ys.length = xs.length
  | 0, _, h => by rw [h]
  | _ + 1, _, ⟨_, h, _, e⟩ => by rw [e]; exact h.len
theorem ChN.sig {u : Bool} {f : Nat → Crv} {xs : List Int} (hx : sigB 32767 xs) : ∀ {n : Nat} {ys : List Int}, ChN u f xs n ys → sigB 32767 ys
  | 0, _, h => by rw [h]; exact hx
  | _ + 1, _, ⟨_, _, hf, _⟩ => hf.sig (by decide)
def atC (u : Bool) (l : List Crv) (i : Nat) : Crv := if u = true then l.getD (l.length - 1 - i) c0 else l.getD i c0
theorem sig1 {xs : List Int} (h : sigB 32767 xs) : sigB 100000 xs := fun j => by have := h j; omega
/-- A step of a chain that goes too far. -/
def FarN (u : Bool) (f : Nat → Crv) (xs : List Int) (n : Nat) : Prop := ∃ i zs ys, i < n ∧ ChN u f xs i zs ∧ Filt u (f i) 32767 zs ys ∧ ys.length < zs.length ∧ bey (nextY u (f i) zs ys ys.length) 32767
inductive ChRs' (u : Bool) (l : List Crv) (xs : List Int) (r : AV) (m' : List (Option Blk)) : Prop
  | bad (e : Int) (h : ¬ (ChOK l ∧ SigOK xs)) (he : e ≠ 0) (hr : r = .tup [.one .nils, I e]) (hm : m' = [])
  | far (hl : ChOK l) (hx : SigOK xs) (h : FarN u (atC u l) xs l.length) (hr : r = .tup [.one .nils, I 4]) (hm : m' = [])
  | ok (hl : ChOK l) (hx : SigOK xs) (ys : List Int) (h : ChN u (atC u l) xs l.length ys) (hr : r = .tup [.one (.own 0), I 0]) (hm : m' = [some (rowL ys)])
theorem s203e (l : List Crv) (u : Bool) (i : Nat) : HSpec Tryz.prog 203 [crvX l i, .one (bv u)] [] (fun r m' => r = .x (.one (.fn 276 [(0, 0), (1, 0)])) ∧ m' = [some (.box 4 [.bool u]), some (.box 426 [.ptr 2 0]), some (stB [0, 0, 0, 0, 0, 0, 0, 0] 0 [0, 0, 0, 0, 0, 0, 0, 0] 0 (l.getD i c0))]) := crvX_eq l i ▸ s203 u (l.getD i c0)
theorem s203r (l : List Crv) (u : Bool) (i : Nat) (hi : i < l.length) : HSpec Tryz.prog 203 [crvX l ((List.length (crvA l) : Int) - 1 - (i : Int)).toNat, .one (bv u)] [] (fun r m' => r = .x (.one (.fn 276 [(0, 0), (1, 0)])) ∧ m' = [some (.box 4 [.bool u]), some (.box 426 [.ptr 2 0]), some (stB [0, 0, 0, 0, 0, 0, 0, 0] 0 [0, 0, 0, 0, 0, 0, 0, 0] 0 (l.getD (l.length - 1 - i) c0))]) := by
  have e : ((List.length (crvA l) : Int) - 1 - (i : Int)).toNat = l.length - 1 - i := by rw [crvA_len]; omega
  rw [e]
  exact s203e l u _
theorem s104 (u : Bool) (l : List Crv) (xs : List Int) : HSpec Tryz.prog 104 [lC l, lL xs, .one (bv u)] [] (ChRs' u l xs) := by
  have ll := crvA_len l
  have lx := i64s_len xs
  have v1 := s147 l
  have v2 := s148 xs
  by_cases hC : ¬ ChOK l
  · cases u
    all_goals
      refine spec_of pMix (O := []) Tryz.func104 (c := bodyOf Tryz.f104) rfl (by kernel_rfl) (by kernel_rfl) Tryz.ntmps104 (res := [.tmp 6, .tmp 7]) (by kernel_rfl) ?_
      repeat' ((conv => whnf); first | refine Rng.g ?_ | refine Ob.g ?_ | refine Ob.e ?_ | refine Ob.m ?_ | refine Ob.mk (Nat.le_of_ble_eq_true rfl) ?_ | refine JoinVC.on ?_ | refine Nils.mk (fun h => ?_) ?_ | refine Val.t ?_ | refine Val.d ?_ | refine Mm.mk ?_ | (refine Br.mk (fun h => ?_) (fun h => ?_) <;> first | (exfalso; omega; done) | (exfalso; simp at h; done) | skip))
      conv => whnf
      refine CallVC.mk [] _ _ _ rfl rfl rfl (v1) (fun r m' h' => ?_)
      obtain ⟨e, rfl, rfl, he⟩ := h'
      conv => whnf
      have he0 : e ≠ 0 := fun h0 => hC (he.1 h0)
      repeat' ((conv => whnf); first | refine Rng.g ?_ | refine Ob.g ?_ | refine Ob.e ?_ | refine Ob.m ?_ | refine Ob.mk (Nat.le_of_ble_eq_true rfl) ?_ | refine JoinVC.on ?_ | refine Nils.mk (fun h => ?_) ?_ | refine Val.t ?_ | refine Val.d ?_ | refine Mm.mk ?_ | (refine Br.mk (fun h => ?_) (fun h => ?_) <;> first | (exfalso; omega; done) | (exfalso; simp at h; done) | skip))
      repeat refine Mm.mk ?_
      conv => whnf
      refine EndVC.mk _ rfl _ _ (.bad e (fun h => hC h.1) he0 rfl rfl) ?_
      refine ⟨[], rfl, rfl, ?_, ?_⟩ <;> repeat' (first | exact trivial | exact rfl | exact Iff.rfl | apply And.intro)
  replace hC := Classical.not_not.1 hC
  by_cases hX : ¬ SigOK xs
  · cases u
    all_goals
      refine spec_of pMix (O := []) Tryz.func104 (c := bodyOf Tryz.f104) rfl (by kernel_rfl) (by kernel_rfl) Tryz.ntmps104 (res := [.tmp 6, .tmp 7]) (by kernel_rfl) ?_
      repeat' ((conv => whnf); first | refine Rng.g ?_ | refine Ob.g ?_ | refine Ob.e ?_ | refine Ob.m ?_ | refine Ob.mk (Nat.le_of_ble_eq_true rfl) ?_ | refine JoinVC.on ?_ | refine Nils.mk (fun h => ?_) ?_ | refine Val.t ?_ | refine Val.d ?_ | refine Mm.mk ?_ | (refine Br.mk (fun h => ?_) (fun h => ?_) <;> first | (exfalso; omega; done) | (exfalso; simp at h; done) | skip))
      conv => whnf
      refine CallVC.mk [] _ _ _ rfl rfl rfl (v1) (fun r m' h' => ?_)
      obtain ⟨e, rfl, rfl, he⟩ := h'
      conv => whnf
      cases he.2 hC
      repeat' ((conv => whnf); first | refine Rng.g ?_ | refine Ob.g ?_ | refine Ob.e ?_ | refine Ob.m ?_ | refine Ob.mk (Nat.le_of_ble_eq_true rfl) ?_ | refine JoinVC.on ?_ | refine Nils.mk (fun h => ?_) ?_ | refine Val.t ?_ | refine Val.d ?_ | refine Mm.mk ?_ | (refine Br.mk (fun h => ?_) (fun h => ?_) <;> first | (exfalso; omega; done) | (exfalso; simp at h; done) | skip))
      conv => whnf
      refine CallVC.mk [] _ _ _ rfl rfl rfl (v2) (fun r m' h' => ?_)
      obtain ⟨e, rfl, rfl, he'⟩ := h'
      conv => whnf
      have he0 : e ≠ 0 := fun h0 => hX (he'.1 h0)
      repeat' ((conv => whnf); first | refine Rng.g ?_ | refine Ob.g ?_ | refine Ob.e ?_ | refine Ob.m ?_ | refine Ob.mk (Nat.le_of_ble_eq_true rfl) ?_ | refine JoinVC.on ?_ | refine Nils.mk (fun h => ?_) ?_ | refine Val.t ?_ | refine Val.d ?_ | refine Mm.mk ?_ | (refine Br.mk (fun h => ?_) (fun h => ?_) <;> first | (exfalso; omega; done) | (exfalso; simp at h; done) | skip))
      repeat refine Mm.mk ?_
      conv => whnf
      refine EndVC.mk _ rfl _ _ (.bad e (fun h => hX h.2) he0 rfl rfl) ?_
      refine ⟨[], rfl, rfl, ?_, ?_⟩ <;> repeat' (first | exact trivial | exact rfl | exact Iff.rfl | apply And.intro)
  replace hX := Classical.not_not.1 hX
  have hxl := hX.len
  have hll := hC.len
  cases u
  · refine spec_of pMix (O := []) Tryz.func104 (c := bodyOf Tryz.f104) rfl (by kernel_rfl) (by kernel_rfl) Tryz.ntmps104 (res := [.tmp 6, .tmp 7]) (by kernel_rfl) ?_
    repeat' ((conv => whnf); first | refine Rng.g ?_ | refine Ob.g ?_ | refine Ob.e ?_ | refine Ob.m ?_ | refine Ob.mk (Nat.le_of_ble_eq_true rfl) ?_ | refine JoinVC.on ?_ | refine Nils.mk (fun h => ?_) ?_ | refine Val.t ?_ | refine Val.d ?_ | refine Mm.mk ?_ | (refine Br.mk (fun h => ?_) (fun h => ?_) <;> first | (exfalso; omega; done) | (exfalso; simp at h; done) | skip))
    conv => whnf
    refine CallVC.mk [] _ _ _ rfl rfl rfl (v1) (fun r m' h' => ?_)
    obtain ⟨e, rfl, rfl, he⟩ := h'
    conv => whnf
    cases he.2 hC
    repeat' ((conv => whnf); first | refine Rng.g ?_ | refine Ob.g ?_ | refine Ob.e ?_ | refine Ob.m ?_ | refine Ob.mk (Nat.le_of_ble_eq_true rfl) ?_ | refine JoinVC.on ?_ | refine Nils.mk (fun h => ?_) ?_ | refine Val.t ?_ | refine Val.d ?_ | refine Mm.mk ?_ | (refine Br.mk (fun h => ?_) (fun h => ?_) <;> first | (exfalso; omega; done) | (exfalso; simp at h; done) | skip))
    conv => whnf
    refine CallVC.mk [] _ _ _ rfl rfl rfl (v2) (fun r m' h' => ?_)
    obtain ⟨e, rfl, rfl, he'⟩ := h'
    conv => whnf
    cases he'.2 hX
    repeat' ((conv => whnf); first | refine Rng.g ?_ | refine Ob.g ?_ | refine Ob.e ?_ | refine Ob.m ?_ | refine Ob.mk (Nat.le_of_ble_eq_true rfl) ?_ | refine JoinVC.on ?_ | refine Nils.mk (fun h => ?_) ?_ | refine Val.t ?_ | refine Val.d ?_ | refine Mm.mk ?_ | (refine Br.mk (fun h => ?_) (fun h => ?_) <;> first | (exfalso; omega; done) | (exfalso; simp at h; done) | skip))
    conv => whnf
    refine CallVC.mk [] _ _ _ rfl rfl rfl (s201 xs (by omega)) (fun r m' h' => ?_)
    obtain ⟨rfl, rfl⟩ := h'
    conv => whnf
    repeat' ((conv => whnf); first | refine Rng.g ?_ | refine Ob.g ?_ | refine Ob.e ?_ | refine Ob.m ?_ | refine Ob.mk (Nat.le_of_ble_eq_true rfl) ?_ | refine JoinVC.on ?_ | refine Nils.mk (fun h => ?_) ?_ | refine Val.t ?_ | refine Val.d ?_ | refine Mm.mk ?_ | (refine Br.mk (fun h => ?_) (fun h => ?_) <;> first | (exfalso; omega; done) | (exfalso; simp at h; done) | skip))
    refine LoopVC.mk (fun n st => ∃ (i : Nat) (ys : List Int), i ≤ l.length ∧ n = l.length - i ∧ ChN false (atC false l) xs i ys ∧ st = ⟨0, envA 59 [(0, .x (lC l)), (1, .x (.one (.own 0))), (2, .x (.one .ff)), (27, .int .i64 (l.length : Int)), (28, .int .i64 (i : Int))], [some (rowL ys)]⟩) _ _ ⟨0, xs, Nat.zero_le _, rfl, rfl, rfl⟩ ?_ ?_
    · refine ⟨[some 0], rfl, rfl, ?_, ?_⟩ <;> repeat' (first | exact trivial | exact rfl | exact Iff.rfl | apply And.intro)
      exact congrArg Int.ofNat ll
    rintro n _ ⟨i, ys, hi, hn, hc, rfl⟩
    have hys := hc.len
    have hsg := hc.sig (xs := xs) hX.each
    by_cases hi' : i < l.length
    · repeat' ((conv => whnf); first | refine Rng.g ?_ | refine Ob.g ?_ | refine Ob.e ?_ | refine Ob.m ?_ | refine Ob.mk (Nat.le_of_ble_eq_true rfl) ?_ | refine JoinVC.on ?_ | refine Nils.mk (fun h => ?_) ?_ | refine Val.t ?_ | refine Val.d ?_ | refine Mm.mk ?_ | (refine Br.mk (fun h => ?_) (fun h => ?_) <;> first | (exfalso; omega; done) | (exfalso; simp at h; done) | skip))
      conv => whnf
      refine CallVC.mk [] _ _ _ rfl rfl rfl (s203e l false i) (fun r m' h' => ?_)
      obtain ⟨rfl, rfl⟩ := h'
      conv => whnf
      repeat' ((conv => whnf); first | refine Rng.g ?_ | refine Ob.g ?_ | refine Ob.e ?_ | refine Ob.m ?_ | refine Ob.mk (Nat.le_of_ble_eq_true rfl) ?_ | refine JoinVC.on ?_ | refine Nils.mk (fun h => ?_) ?_ | refine Val.t ?_ | refine Val.d ?_ | refine Mm.mk ?_ | (refine Br.mk (fun h => ?_) (fun h => ?_) <;> first | (exfalso; omega; done) | (exfalso; simp at h; done) | skip))
      conv => whnf
      refine CallVC.mk [] _ _ _ rfl rfl rfl (s204 32767) (fun r m' h' => ?_)
      obtain ⟨rfl, rfl⟩ := h'
      conv => whnf
      repeat' ((conv => whnf); first | refine Rng.g ?_ | refine Ob.g ?_ | refine Ob.e ?_ | refine Ob.m ?_ | refine Ob.mk (Nat.le_of_ble_eq_true rfl) ?_ | refine JoinVC.on ?_ | refine Nils.mk (fun h => ?_) ?_ | refine Val.t ?_ | refine Val.d ?_ | refine Mm.mk ?_ | (refine Br.mk (fun h => ?_) (fun h => ?_) <;> first | (exfalso; omega; done) | (exfalso; simp at h; done) | skip))
      conv => whnf
      refine CallVC.mk [2, 3, 4, 5] _ _ _ rfl rfl rfl (s202 false (l.getD i c0) 32767 ys (hC.each i hi') (by decide) (sig1 hsg) (by omega)) (fun r m' h' => ?_)
      rcases h' with ⟨zs, hF, hzl, rfl, rfl⟩ | ⟨zs, hF, hzl, hzb, rfl, rfl⟩
      · repeat' ((conv => whnf); first | refine Rng.g ?_ | refine Ob.g ?_ | refine Ob.e ?_ | refine Ob.m ?_ | refine Ob.mk (Nat.le_of_ble_eq_true rfl) ?_ | refine JoinVC.on ?_ | refine Nils.mk (fun h => ?_) ?_ | refine Val.t ?_ | refine Val.d ?_ | refine Mm.mk ?_ | (refine Br.mk (fun h => ?_) (fun h => ?_) <;> first | (exfalso; omega; done) | (exfalso; simp at h; done) | skip))
        refine Back.mk (l.length - (i + 1)) _ (by omega) ⟨i + 1, zs, by omega, rfl, ⟨ys, hc, hF, hzl⟩, rfl⟩ ?_
        refine ⟨[some 6], rfl, rfl, ?_, ?_⟩ <;> repeat' (first | exact trivial | exact rfl | exact Iff.rfl | apply And.intro)
      · repeat' ((conv => whnf); first | refine Rng.g ?_ | refine Ob.g ?_ | refine Ob.e ?_ | refine Ob.m ?_ | refine Ob.mk (Nat.le_of_ble_eq_true rfl) ?_ | refine JoinVC.on ?_ | refine Nils.mk (fun h => ?_) ?_ | refine Val.t ?_ | refine Val.d ?_ | refine Mm.mk ?_ | (refine Br.mk (fun h => ?_) (fun h => ?_) <;> first | (exfalso; omega; done) | (exfalso; simp at h; done) | skip))
        repeat refine Mm.mk ?_
        conv => whnf
        refine EndVC.mk _ rfl _ _ (.far hC hX ⟨i, ys, zs, hi', hc, hF, hzl, hzb⟩ rfl rfl) ?_
        refine ⟨[], rfl, rfl, ?_, ?_⟩ <;> repeat' (first | exact trivial | exact rfl | exact Iff.rfl | apply And.intro)
    · repeat' ((conv => whnf); first | refine Rng.g ?_ | refine Ob.g ?_ | refine Ob.e ?_ | refine Ob.m ?_ | refine Ob.mk (Nat.le_of_ble_eq_true rfl) ?_ | refine JoinVC.on ?_ | refine Nils.mk (fun h => ?_) ?_ | refine Val.t ?_ | refine Val.d ?_ | refine Mm.mk ?_ | (refine Br.mk (fun h => ?_) (fun h => ?_) <;> first | (exfalso; omega; done) | (exfalso; simp at h; done) | skip))
      repeat refine Mm.mk ?_
      conv => whnf
      refine EndVC.mk _ rfl _ _ (.ok hC hX ys (by rw [← (show i = l.length by omega)]; exact hc) rfl rfl) ?_
      refine ⟨[some 0], rfl, rfl, ?_, ?_⟩ <;> repeat' (first | exact trivial | exact rfl | exact Iff.rfl | apply And.intro)
  · refine spec_of pMix (O := []) Tryz.func104 (c := bodyOf Tryz.f104) rfl (by kernel_rfl) (by kernel_rfl) Tryz.ntmps104 (res := [.tmp 6, .tmp 7]) (by kernel_rfl) ?_
    repeat' ((conv => whnf); first | refine Rng.g ?_ | refine Ob.g ?_ | refine Ob.e ?_ | refine Ob.m ?_ | refine Ob.mk (Nat.le_of_ble_eq_true rfl) ?_ | refine JoinVC.on ?_ | refine Nils.mk (fun h => ?_) ?_ | refine Val.t ?_ | refine Val.d ?_ | refine Mm.mk ?_ | (refine Br.mk (fun h => ?_) (fun h => ?_) <;> first | (exfalso; omega; done) | (exfalso; simp at h; done) | skip))
    conv => whnf
    refine CallVC.mk [] _ _ _ rfl rfl rfl (v1) (fun r m' h' => ?_)
    obtain ⟨e, rfl, rfl, he⟩ := h'
    conv => whnf
    cases he.2 hC
    repeat' ((conv => whnf); first | refine Rng.g ?_ | refine Ob.g ?_ | refine Ob.e ?_ | refine Ob.m ?_ | refine Ob.mk (Nat.le_of_ble_eq_true rfl) ?_ | refine JoinVC.on ?_ | refine Nils.mk (fun h => ?_) ?_ | refine Val.t ?_ | refine Val.d ?_ | refine Mm.mk ?_ | (refine Br.mk (fun h => ?_) (fun h => ?_) <;> first | (exfalso; omega; done) | (exfalso; simp at h; done) | skip))
    conv => whnf
    refine CallVC.mk [] _ _ _ rfl rfl rfl (v2) (fun r m' h' => ?_)
    obtain ⟨e, rfl, rfl, he'⟩ := h'
    conv => whnf
    cases he'.2 hX
    repeat' ((conv => whnf); first | refine Rng.g ?_ | refine Ob.g ?_ | refine Ob.e ?_ | refine Ob.m ?_ | refine Ob.mk (Nat.le_of_ble_eq_true rfl) ?_ | refine JoinVC.on ?_ | refine Nils.mk (fun h => ?_) ?_ | refine Val.t ?_ | refine Val.d ?_ | refine Mm.mk ?_ | (refine Br.mk (fun h => ?_) (fun h => ?_) <;> first | (exfalso; omega; done) | (exfalso; simp at h; done) | skip))
    conv => whnf
    refine CallVC.mk [] _ _ _ rfl rfl rfl (s201 xs (by omega)) (fun r m' h' => ?_)
    obtain ⟨rfl, rfl⟩ := h'
    conv => whnf
    repeat' ((conv => whnf); first | refine Rng.g ?_ | refine Ob.g ?_ | refine Ob.e ?_ | refine Ob.m ?_ | refine Ob.mk (Nat.le_of_ble_eq_true rfl) ?_ | refine JoinVC.on ?_ | refine Nils.mk (fun h => ?_) ?_ | refine Val.t ?_ | refine Val.d ?_ | refine Mm.mk ?_ | (refine Br.mk (fun h => ?_) (fun h => ?_) <;> first | (exfalso; omega; done) | (exfalso; simp at h; done) | skip))
    refine LoopVC.mk (fun n st => ∃ (i : Nat) (ys : List Int), i ≤ l.length ∧ n = l.length - i ∧ ChN true (atC true l) xs i ys ∧ st = ⟨0, envA 59 [(0, .x (lC l)), (1, .x (.one (.own 0))), (2, .x (.one .tt)), (27, .int .i64 (l.length : Int)), (28, .int .i64 (i : Int))], [some (rowL ys)]⟩) _ _ ⟨0, xs, Nat.zero_le _, rfl, rfl, rfl⟩ ?_ ?_
    · refine ⟨[some 0], rfl, rfl, ?_, ?_⟩ <;> repeat' (first | exact trivial | exact rfl | exact Iff.rfl | apply And.intro)
      exact congrArg Int.ofNat ll
    rintro n _ ⟨i, ys, hi, hn, hc, rfl⟩
    have hys := hc.len
    have hsg := hc.sig (xs := xs) hX.each
    by_cases hi' : i < l.length
    · repeat' ((conv => whnf); first | refine Rng.g ?_ | refine Ob.g ?_ | refine Ob.e ?_ | refine Ob.m ?_ | refine Ob.mk (Nat.le_of_ble_eq_true rfl) ?_ | refine JoinVC.on ?_ | refine Nils.mk (fun h => ?_) ?_ | refine Val.t ?_ | refine Val.d ?_ | refine Mm.mk ?_ | (refine Br.mk (fun h => ?_) (fun h => ?_) <;> first | (exfalso; omega; done) | (exfalso; simp at h; done) | skip))
      conv => whnf
      refine CallVC.mk [] _ _ _ rfl rfl rfl (s203r l true i hi') (fun r m' h' => ?_)
      obtain ⟨rfl, rfl⟩ := h'
      conv => whnf
      repeat' ((conv => whnf); first | refine Rng.g ?_ | refine Ob.g ?_ | refine Ob.e ?_ | refine Ob.m ?_ | refine Ob.mk (Nat.le_of_ble_eq_true rfl) ?_ | refine JoinVC.on ?_ | refine Nils.mk (fun h => ?_) ?_ | refine Val.t ?_ | refine Val.d ?_ | refine Mm.mk ?_ | (refine Br.mk (fun h => ?_) (fun h => ?_) <;> first | (exfalso; omega; done) | (exfalso; simp at h; done) | skip))
      conv => whnf
      refine CallVC.mk [] _ _ _ rfl rfl rfl (s204 32767) (fun r m' h' => ?_)
      obtain ⟨rfl, rfl⟩ := h'
      conv => whnf
      repeat' ((conv => whnf); first | refine Rng.g ?_ | refine Ob.g ?_ | refine Ob.e ?_ | refine Ob.m ?_ | refine Ob.mk (Nat.le_of_ble_eq_true rfl) ?_ | refine JoinVC.on ?_ | refine Nils.mk (fun h => ?_) ?_ | refine Val.t ?_ | refine Val.d ?_ | refine Mm.mk ?_ | (refine Br.mk (fun h => ?_) (fun h => ?_) <;> first | (exfalso; omega; done) | (exfalso; simp at h; done) | skip))
      conv => whnf
      refine CallVC.mk [2, 3, 4, 5] _ _ _ rfl rfl rfl (s202 true (l.getD (l.length - 1 - i) c0) 32767 ys (hC.each _ (by omega)) (by decide) (sig1 hsg) (by omega)) (fun r m' h' => ?_)
      rcases h' with ⟨zs, hF, hzl, rfl, rfl⟩ | ⟨zs, hF, hzl, hzb, rfl, rfl⟩
      · repeat' ((conv => whnf); first | refine Rng.g ?_ | refine Ob.g ?_ | refine Ob.e ?_ | refine Ob.m ?_ | refine Ob.mk (Nat.le_of_ble_eq_true rfl) ?_ | refine JoinVC.on ?_ | refine Nils.mk (fun h => ?_) ?_ | refine Val.t ?_ | refine Val.d ?_ | refine Mm.mk ?_ | (refine Br.mk (fun h => ?_) (fun h => ?_) <;> first | (exfalso; omega; done) | (exfalso; simp at h; done) | skip))
        refine Back.mk (l.length - (i + 1)) _ (by omega) ⟨i + 1, zs, by omega, rfl, ⟨ys, hc, hF, hzl⟩, rfl⟩ ?_
        refine ⟨[some 6], rfl, rfl, ?_, ?_⟩ <;> repeat' (first | exact trivial | exact rfl | exact Iff.rfl | apply And.intro)
      · repeat' ((conv => whnf); first | refine Rng.g ?_ | refine Ob.g ?_ | refine Ob.e ?_ | refine Ob.m ?_ | refine Ob.mk (Nat.le_of_ble_eq_true rfl) ?_ | refine JoinVC.on ?_ | refine Nils.mk (fun h => ?_) ?_ | refine Val.t ?_ | refine Val.d ?_ | refine Mm.mk ?_ | (refine Br.mk (fun h => ?_) (fun h => ?_) <;> first | (exfalso; omega; done) | (exfalso; simp at h; done) | skip))
        repeat refine Mm.mk ?_
        conv => whnf
        refine EndVC.mk _ rfl _ _ (.far hC hX ⟨i, ys, zs, hi', hc, hF, hzl, hzb⟩ rfl rfl) ?_
        refine ⟨[], rfl, rfl, ?_, ?_⟩ <;> repeat' (first | exact trivial | exact rfl | exact Iff.rfl | apply And.intro)
    · repeat' ((conv => whnf); first | refine Rng.g ?_ | refine Ob.g ?_ | refine Ob.e ?_ | refine Ob.m ?_ | refine Ob.mk (Nat.le_of_ble_eq_true rfl) ?_ | refine JoinVC.on ?_ | refine Nils.mk (fun h => ?_) ?_ | refine Val.t ?_ | refine Val.d ?_ | refine Mm.mk ?_ | (refine Br.mk (fun h => ?_) (fun h => ?_) <;> first | (exfalso; omega; done) | (exfalso; simp at h; done) | skip))
      repeat refine Mm.mk ?_
      conv => whnf
      refine EndVC.mk _ rfl _ _ (.ok hC hX ys (by rw [← (show i = l.length by omega)]; exact hc) rfl rfl) ?_
      refine ⟨[some 0], rfl, rfl, ?_, ?_⟩ <;> repeat' (first | exact trivial | exact rfl | exact Iff.rfl | apply And.intro)
end Go.Sx

namespace Go.Sx
open Go Go.Proofs
set_option maxRecDepth 10000
set_option maxHeartbeats 4000000
/-- What a curve makes of a signal. -/
inductive ApRs (u : Bool) (c : Crv) (xs : List Int) (r : AV) (m' : List (Option Blk)) : Prop
  | bad (e : Int) (h : ¬ (CrvOK c ∧ SigOK xs)) (he : e ≠ 0) (hr : r = .tup [.one .nils, I e]) (hm : m' = [])
  | far (hl : CrvOK c) (hx : SigOK xs) (ys : List Int) (h : Filt u c 32767 xs ys) (hs : ys.length < xs.length) (hb : bey (nextY u c xs ys ys.length) 32767) (hr : r = .tup [.one .nils, I 4]) (hm : m' = [])
  | ok (hl : CrvOK c) (hx : SigOK xs) (ys : List Int) (h : Filt u c 32767 xs ys) (hs : ys.length = xs.length) (hr : r = .tup [.one (.own 0), I 0]) (hm : m' = [some (rowL ys)])
theorem chOK1 (c : Crv) : ChOK [c] ↔ CrvOK c := ⟨fun h => h.each 0 (by simp), fun h => ⟨by simp, fun j hj => (by rw [show j = 0 by simp at hj; omega]; exact h)⟩⟩
theorem ChRs'.one {u : Bool} {c : Crv} {xs : List Int} {r : AV} {m' : List (Option Blk)} (h : ChRs' u [c] xs r m') : ApRs u c xs r m' := by
  have ha : atC u [c] 0 = c := by cases u <;> rfl
  cases h with
  | bad e h he hr hm => exact .bad e (fun hh => h ⟨(chOK1 c).2 hh.1, hh.2⟩) he hr hm
  | far hl hx h hr hm =>
    obtain ⟨i, zs, ys, hi, hc, hf, hs, hb⟩ := h
    have hi0 : i = 0 := by simp at hi; omega
    subst hi0
    cases hc
    rw [ha] at hf hb
    exact .far ((chOK1 c).1 hl) hx ys hf hs hb hr hm
  | ok hl hx ys h hr hm =>
    obtain ⟨zs, hc, hf, hs⟩ := h
    cases hc
    rw [ha] at hf
    exact .ok ((chOK1 c).1 hl) hx ys hf hs hr hm
theorem s49 (c : Crv) (xs : List Int) : HSpec Tryz.prog 49 [c.x, lL xs] [] (ApRs false c xs) := by
  refine spec_of pMix (O := []) Tryz.func49 (c := bodyOf Tryz.f49) rfl (by kernel_rfl) (by kernel_rfl) Tryz.ntmps49 (res := [.tmp 4, .tmp 5]) (by kernel_rfl) ?_
  repeat' ((conv => whnf); first | refine Rng.g ?_ | refine Ob.g ?_ | refine Ob.e ?_ | refine Ob.m ?_ | refine Ob.mk (Nat.le_of_ble_eq_true rfl) ?_ | refine JoinVC.on ?_ | refine Nils.mk (fun h => ?_) ?_ | refine Val.t ?_ | refine Val.d ?_ | refine Mm.mk ?_ | (refine Br.mk (fun h => ?_) (fun h => ?_) <;> first | (exfalso; omega; done) | (exfalso; simp at h; done) | skip))
  conv => whnf
  refine CallVC.mk [] _ _ _ rfl rfl rfl (s104 false [c] xs) (fun r m' h' => ?_)
  have h' := h'.one
  cases h' with
  | bad e h he hr hm =>
    subst hr hm
    repeat' ((conv => whnf); first | refine Rng.g ?_ | refine Ob.g ?_ | refine Ob.e ?_ | refine Ob.m ?_ | refine Ob.mk (Nat.le_of_ble_eq_true rfl) ?_ | refine JoinVC.on ?_ | refine Nils.mk (fun h => ?_) ?_ | refine Val.t ?_ | refine Val.d ?_ | refine Mm.mk ?_ | (refine Br.mk (fun h => ?_) (fun h => ?_) <;> first | (exfalso; omega; done) | (exfalso; simp at h; done) | skip))
    repeat refine Mm.mk ?_
    conv => whnf
    refine EndVC.mk _ rfl _ _ (.bad e h he rfl rfl) ?_
    refine ⟨[], rfl, rfl, ?_, ?_⟩ <;> repeat' (first | exact trivial | exact rfl | exact Iff.rfl | apply And.intro)
  | far hl hx ys h hs hb hr hm =>
    subst hr hm
    repeat' ((conv => whnf); first | refine Rng.g ?_ | refine Ob.g ?_ | refine Ob.e ?_ | refine Ob.m ?_ | refine Ob.mk (Nat.le_of_ble_eq_true rfl) ?_ | refine JoinVC.on ?_ | refine Nils.mk (fun h => ?_) ?_ | refine Val.t ?_ | refine Val.d ?_ | refine Mm.mk ?_ | (refine Br.mk (fun h => ?_) (fun h => ?_) <;> first | (exfalso; omega; done) | (exfalso; simp at h; done) | skip))
    repeat refine Mm.mk ?_
    conv => whnf
    refine EndVC.mk _ rfl _ _ (.far hl hx ys h hs hb rfl rfl) ?_
    refine ⟨[], rfl, rfl, ?_, ?_⟩ <;> repeat' (first | exact trivial | exact rfl | exact Iff.rfl | apply And.intro)
  | ok hl hx ys h hs hr hm =>
    subst hr hm
    repeat' ((conv => whnf); first | refine Rng.g ?_ | refine Ob.g ?_ | refine Ob.e ?_ | refine Ob.m ?_ | refine Ob.mk (Nat.le_of_ble_eq_true rfl) ?_ | refine JoinVC.on ?_ | refine Nils.mk (fun h => ?_) ?_ | refine Val.t ?_ | refine Val.d ?_ | refine Mm.mk ?_ | (refine Br.mk (fun h => ?_) (fun h => ?_) <;> first | (exfalso; omega; done) | (exfalso; simp at h; done) | skip))
    repeat refine Mm.mk ?_
    conv => whnf
    refine EndVC.mk _ rfl _ _ (.ok hl hx ys h hs rfl rfl) ?_
    refine ⟨[some 2], rfl, rfl, ?_, ?_⟩ <;> repeat' (first | exact trivial | exact rfl | exact Iff.rfl | apply And.intro)
end Go.Sx

namespace Go.Sx
open Go Go.Proofs
set_option maxRecDepth 10000
set_option maxHeartbeats 2000000
/-- A cutter. -/
structure Cut where
  half : Int
  gain : Int
  thin : Int
  wide : Int
  slope : Int
  jerk : Int
  sty : Int
@[reducible] def Cut.x (c : Cut) : XV := .agg [.int .i64 c.half, .int .i64 c.gain, .int .i64 c.thin, .int .i64 c.wide, .int .i64 c.slope, .int .i64 c.jerk, .int .i64 c.sty]
structure CutOK (c : Cut) : Prop where
  half : 1 ≤ c.half ∧ c.half ≤ 4096
  gain : 0 ≤ c.gain ∧ c.gain ≤ 100000
  thin : 0 ≤ c.thin ∧ c.thin ≤ c.wide
  wide : 0 ≤ c.wide ∧ c.wide ≤ 1048576
  slope : 0 ≤ c.slope ∧ c.slope ≤ 10000
  jerk : 0 ≤ c.jerk ∧ c.jerk ≤ 1048576
  sty : 0 ≤ c.sty ∧ c.sty ≤ 1024
theorem s99 (x a b : Int) : PSpec Tryz.prog 99 [I x, I a, I b] (xP (x ≥ a ∧ x ≤ b)) := by
  refine spec_of pMix (O := []) Tryz.func99 (c := bodyOf Tryz.f99) rfl (by kernel_rfl) (by kernel_rfl) Tryz.ntmps99 (res := [.tmp 6]) (by kernel_rfl) ?_
  repeat' ((conv => whnf); first | refine Rng.g ?_ | refine Ob.g ?_ | refine Ob.e ?_ | refine Ob.m ?_ | refine Ob.mk (Nat.le_of_ble_eq_true rfl) ?_ | refine JoinVC.on ?_ | refine Nils.mk (fun h => ?_) ?_ | refine Val.t ?_ | refine Val.d ?_ | refine Mm.mk ?_ | (refine Br.mk (fun h => ?_) (fun h => ?_) <;> first | (exfalso; omega; done) | (exfalso; simp at h; done) | skip))
  · repeat refine Mm.mk ?_
    refine EndVC.mk _ rfl _ _ ⟨rfl, rfl⟩ ?_
    refine ⟨[], rfl, rfl, ?_, ?_⟩ <;> repeat' (first | exact trivial | exact rfl | exact Iff.rfl | apply And.intro)
    exact ⟨fun h2 => ⟨h, h2⟩, fun h2 => h2.2⟩
  · repeat refine Mm.mk ?_
    refine EndVC.mk _ rfl _ _ ⟨rfl, rfl⟩ ?_
    refine ⟨[], rfl, rfl, ?_, ?_⟩ <;> repeat' (first | exact trivial | exact rfl | exact Iff.rfl | apply And.intro)
    exact fun h2 => h h2.1
theorem s205 (x a b : Int) : PSpec Tryz.prog 205 [I x, I a, I b] (xP (x ≥ a ∧ x ≤ b)) := by
  refine spec_of pMix (O := []) Tryz.func205 (c := bodyOf Tryz.f205) rfl (by kernel_rfl) (by kernel_rfl) Tryz.ntmps205 (res := [.tmp 6]) (by kernel_rfl) ?_
  repeat' ((conv => whnf); first | refine Rng.g ?_ | refine Ob.g ?_ | refine Ob.e ?_ | refine Ob.m ?_ | refine Ob.mk (Nat.le_of_ble_eq_true rfl) ?_ | refine JoinVC.on ?_ | refine Nils.mk (fun h => ?_) ?_ | refine Val.t ?_ | refine Val.d ?_ | refine Mm.mk ?_ | (refine Br.mk (fun h => ?_) (fun h => ?_) <;> first | (exfalso; omega; done) | (exfalso; simp at h; done) | skip))
  · repeat refine Mm.mk ?_
    refine EndVC.mk _ rfl _ _ ⟨rfl, rfl⟩ ?_
    refine ⟨[], rfl, rfl, ?_, ?_⟩ <;> repeat' (first | exact trivial | exact rfl | exact Iff.rfl | apply And.intro)
    exact ⟨fun h2 => ⟨h, h2⟩, fun h2 => h2.2⟩
  · repeat refine Mm.mk ?_
    refine EndVC.mk _ rfl _ _ ⟨rfl, rfl⟩ ?_
    refine ⟨[], rfl, rfl, ?_, ?_⟩ <;> repeat' (first | exact trivial | exact rfl | exact Iff.rfl | apply And.intro)
    exact fun h2 => h h2.1
@[reducible] def CkRs (c : Cut) (r : AV) (m' : List (Option Blk)) : Prop := ∃ e, r = .x (I e) ∧ m' = [] ∧ (e = 0 ↔ CutOK c)
/-- The tests of a cutter. -/
def cdC (c : Cut) : Nat → Prop
  | 0 => 1 ≤ c.half ∧ c.half ≤ 4096
  | 1 => 0 ≤ c.gain ∧ c.gain ≤ 100000
  | 2 => 0 ≤ c.thin ∧ c.thin ≤ c.wide
  | 3 => 0 ≤ c.wide ∧ c.wide ≤ 1048576
  | 4 => 0 ≤ c.slope ∧ c.slope ≤ 10000
  | 5 => 0 ≤ c.jerk ∧ c.jerk ≤ 1048576
  | _ => 0 ≤ c.sty ∧ c.sty ≤ 1024
theorem CutOK.cd {c : Cut} (h : CutOK c) (j : Nat) : cdC c j := by
  obtain ⟨h1, h2, h3, h4, h5, h6, h7⟩ := h
  match j with
  | 0 => exact h1
  | 1 => exact h2
  | 2 => exact h3
  | 3 => exact h4
  | 4 => exact h5
  | 5 => exact h6
  | _ + 6 => exact h7
theorem s105 (c : Cut) : HSpec Tryz.prog 105 [c.x] [] (CkRs c) := by
  have k0 := s205 c.half 1 4096
  have k1 := s205 c.gain 0 100000
  have k2 := s205 c.thin 0 c.wide
  have k3 := s205 c.wide 0 1048576
  have k4 := s205 c.slope 0 10000
  have k5 := s205 c.jerk 0 1048576
  have k6 := s205 c.sty 0 1024
  refine spec_of pMix (O := []) Tryz.func105 (c := bodyOf Tryz.f105) rfl (by kernel_rfl) (by kernel_rfl) Tryz.ntmps105 (res := [.tmp 2]) (by kernel_rfl) ?_
  conv => whnf
  refine LoopVC.mk (fun n st => ∃ (i : Nat), i ≤ 7 ∧ n = 7 - i ∧ (∀ j, j < i → cdC c j) ∧ st = ⟨0, envA 41 [(28, .x (.agg [.int .i64 c.half, .int .i64 1, .int .i64 4096, .int .i64 c.gain, .int .i64 0, .int .i64 100000, .int .i64 c.thin, .int .i64 0, .int .i64 c.wide, .int .i64 c.wide, .int .i64 0, .int .i64 1048576, .int .i64 c.slope, .int .i64 0, .int .i64 10000, .int .i64 c.jerk, .int .i64 0, .int .i64 1048576, .int .i64 c.sty, .int .i64 0, .int .i64 1024])), (29, .int .i64 (i : Int))], []⟩) _ _ ⟨0, by decide, rfl, fun j hj => absurd hj (Nat.not_lt_zero j), rfl⟩ ?_ ?_
  · refine ⟨[], rfl, rfl, ?_, ?_⟩ <;> repeat' (first | exact trivial | exact rfl | exact Iff.rfl | apply And.intro)
  rintro n _ ⟨i, hi, hn, hj, rfl⟩
  have hcs : i = 0 ∨ i = 1 ∨ i = 2 ∨ i = 3 ∨ i = 4 ∨ i = 5 ∨ i = 6 ∨ i = 7 := by omega
  rcases hcs with rfl | rfl | rfl | rfl | rfl | rfl | rfl | rfl
  · repeat' ((conv => whnf); first | refine Rng.g ?_ | refine Ob.g ?_ | refine Ob.e ?_ | refine Ob.m ?_ | refine Ob.mk (Nat.le_of_ble_eq_true rfl) ?_ | refine JoinVC.on ?_ | refine Nils.mk (fun h => ?_) ?_ | refine Val.t ?_ | refine Val.d ?_ | refine Mm.mk ?_ | refine CallVC.pure rfl (k0) ?_ | refine CallVC0.pure rfl (k0) ?_ | (refine Br.mk (fun h => ?_) (fun h => ?_) <;> first | (exfalso; omega; done) | (exfalso; simp at h; done) | skip))
    · repeat refine Mm.mk ?_
      conv => whnf
      refine EndVC.mk _ rfl _ _ (⟨2, rfl, rfl, ⟨fun h => (by cases h), fun hC => absurd (hC.cd 0) h⟩⟩) ?_
      refine ⟨[], rfl, rfl, ?_, ?_⟩ <;> repeat' (first | exact trivial | exact rfl | exact Iff.rfl | apply And.intro)
    · refine Back.mk (7 - (0 + 1)) _ (by omega) ⟨0 + 1, by omega, rfl, fun j hj' => ?_, rfl⟩ ?_
      · rcases Nat.lt_succ_iff_lt_or_eq.1 hj' with h' | rfl
        · exact hj j h'
        · exact Classical.not_not.1 h
      · refine ⟨[], rfl, rfl, ?_, ?_⟩ <;> repeat' (first | exact trivial | exact rfl | exact Iff.rfl | apply And.intro)
  · repeat' ((conv => whnf); first | refine Rng.g ?_ | refine Ob.g ?_ | refine Ob.e ?_ | refine Ob.m ?_ | refine Ob.mk (Nat.le_of_ble_eq_true rfl) ?_ | refine JoinVC.on ?_ | refine Nils.mk (fun h => ?_) ?_ | refine Val.t ?_ | refine Val.d ?_ | refine Mm.mk ?_ | refine CallVC.pure rfl (k1) ?_ | refine CallVC0.pure rfl (k1) ?_ | (refine Br.mk (fun h => ?_) (fun h => ?_) <;> first | (exfalso; omega; done) | (exfalso; simp at h; done) | skip))
    · repeat refine Mm.mk ?_
      conv => whnf
      refine EndVC.mk _ rfl _ _ (⟨2, rfl, rfl, ⟨fun h => (by cases h), fun hC => absurd (hC.cd 1) h⟩⟩) ?_
      refine ⟨[], rfl, rfl, ?_, ?_⟩ <;> repeat' (first | exact trivial | exact rfl | exact Iff.rfl | apply And.intro)
    · refine Back.mk (7 - (1 + 1)) _ (by omega) ⟨1 + 1, by omega, rfl, fun j hj' => ?_, rfl⟩ ?_
      · rcases Nat.lt_succ_iff_lt_or_eq.1 hj' with h' | rfl
        · exact hj j h'
        · exact Classical.not_not.1 h
      · refine ⟨[], rfl, rfl, ?_, ?_⟩ <;> repeat' (first | exact trivial | exact rfl | exact Iff.rfl | apply And.intro)
  · repeat' ((conv => whnf); first | refine Rng.g ?_ | refine Ob.g ?_ | refine Ob.e ?_ | refine Ob.m ?_ | refine Ob.mk (Nat.le_of_ble_eq_true rfl) ?_ | refine JoinVC.on ?_ | refine Nils.mk (fun h => ?_) ?_ | refine Val.t ?_ | refine Val.d ?_ | refine Mm.mk ?_ | refine CallVC.pure rfl (k2) ?_ | refine CallVC0.pure rfl (k2) ?_ | (refine Br.mk (fun h => ?_) (fun h => ?_) <;> first | (exfalso; omega; done) | (exfalso; simp at h; done) | skip))
    · repeat refine Mm.mk ?_
      conv => whnf
      refine EndVC.mk _ rfl _ _ (⟨2, rfl, rfl, ⟨fun h => (by cases h), fun hC => absurd (hC.cd 2) h⟩⟩) ?_
      refine ⟨[], rfl, rfl, ?_, ?_⟩ <;> repeat' (first | exact trivial | exact rfl | exact Iff.rfl | apply And.intro)
    · refine Back.mk (7 - (2 + 1)) _ (by omega) ⟨2 + 1, by omega, rfl, fun j hj' => ?_, rfl⟩ ?_
      · rcases Nat.lt_succ_iff_lt_or_eq.1 hj' with h' | rfl
        · exact hj j h'
        · exact Classical.not_not.1 h
      · refine ⟨[], rfl, rfl, ?_, ?_⟩ <;> repeat' (first | exact trivial | exact rfl | exact Iff.rfl | apply And.intro)
  · repeat' ((conv => whnf); first | refine Rng.g ?_ | refine Ob.g ?_ | refine Ob.e ?_ | refine Ob.m ?_ | refine Ob.mk (Nat.le_of_ble_eq_true rfl) ?_ | refine JoinVC.on ?_ | refine Nils.mk (fun h => ?_) ?_ | refine Val.t ?_ | refine Val.d ?_ | refine Mm.mk ?_ | refine CallVC.pure rfl (k3) ?_ | refine CallVC0.pure rfl (k3) ?_ | (refine Br.mk (fun h => ?_) (fun h => ?_) <;> first | (exfalso; omega; done) | (exfalso; simp at h; done) | skip))
    · repeat refine Mm.mk ?_
      conv => whnf
      refine EndVC.mk _ rfl _ _ (⟨2, rfl, rfl, ⟨fun h => (by cases h), fun hC => absurd (hC.cd 3) h⟩⟩) ?_
      refine ⟨[], rfl, rfl, ?_, ?_⟩ <;> repeat' (first | exact trivial | exact rfl | exact Iff.rfl | apply And.intro)
    · refine Back.mk (7 - (3 + 1)) _ (by omega) ⟨3 + 1, by omega, rfl, fun j hj' => ?_, rfl⟩ ?_
      · rcases Nat.lt_succ_iff_lt_or_eq.1 hj' with h' | rfl
        · exact hj j h'
        · exact Classical.not_not.1 h
      · refine ⟨[], rfl, rfl, ?_, ?_⟩ <;> repeat' (first | exact trivial | exact rfl | exact Iff.rfl | apply And.intro)
  · repeat' ((conv => whnf); first | refine Rng.g ?_ | refine Ob.g ?_ | refine Ob.e ?_ | refine Ob.m ?_ | refine Ob.mk (Nat.le_of_ble_eq_true rfl) ?_ | refine JoinVC.on ?_ | refine Nils.mk (fun h => ?_) ?_ | refine Val.t ?_ | refine Val.d ?_ | refine Mm.mk ?_ | refine CallVC.pure rfl (k4) ?_ | refine CallVC0.pure rfl (k4) ?_ | (refine Br.mk (fun h => ?_) (fun h => ?_) <;> first | (exfalso; omega; done) | (exfalso; simp at h; done) | skip))
    · repeat refine Mm.mk ?_
      conv => whnf
      refine EndVC.mk _ rfl _ _ (⟨2, rfl, rfl, ⟨fun h => (by cases h), fun hC => absurd (hC.cd 4) h⟩⟩) ?_
      refine ⟨[], rfl, rfl, ?_, ?_⟩ <;> repeat' (first | exact trivial | exact rfl | exact Iff.rfl | apply And.intro)
    · refine Back.mk (7 - (4 + 1)) _ (by omega) ⟨4 + 1, by omega, rfl, fun j hj' => ?_, rfl⟩ ?_
      · rcases Nat.lt_succ_iff_lt_or_eq.1 hj' with h' | rfl
        · exact hj j h'
        · exact Classical.not_not.1 h
      · refine ⟨[], rfl, rfl, ?_, ?_⟩ <;> repeat' (first | exact trivial | exact rfl | exact Iff.rfl | apply And.intro)
  · repeat' ((conv => whnf); first | refine Rng.g ?_ | refine Ob.g ?_ | refine Ob.e ?_ | refine Ob.m ?_ | refine Ob.mk (Nat.le_of_ble_eq_true rfl) ?_ | refine JoinVC.on ?_ | refine Nils.mk (fun h => ?_) ?_ | refine Val.t ?_ | refine Val.d ?_ | refine Mm.mk ?_ | refine CallVC.pure rfl (k5) ?_ | refine CallVC0.pure rfl (k5) ?_ | (refine Br.mk (fun h => ?_) (fun h => ?_) <;> first | (exfalso; omega; done) | (exfalso; simp at h; done) | skip))
    · repeat refine Mm.mk ?_
      conv => whnf
      refine EndVC.mk _ rfl _ _ (⟨2, rfl, rfl, ⟨fun h => (by cases h), fun hC => absurd (hC.cd 5) h⟩⟩) ?_
      refine ⟨[], rfl, rfl, ?_, ?_⟩ <;> repeat' (first | exact trivial | exact rfl | exact Iff.rfl | apply And.intro)
    · refine Back.mk (7 - (5 + 1)) _ (by omega) ⟨5 + 1, by omega, rfl, fun j hj' => ?_, rfl⟩ ?_
      · rcases Nat.lt_succ_iff_lt_or_eq.1 hj' with h' | rfl
        · exact hj j h'
        · exact Classical.not_not.1 h
      · refine ⟨[], rfl, rfl, ?_, ?_⟩ <;> repeat' (first | exact trivial | exact rfl | exact Iff.rfl | apply And.intro)
  · repeat' ((conv => whnf); first | refine Rng.g ?_ | refine Ob.g ?_ | refine Ob.e ?_ | refine Ob.m ?_ | refine Ob.mk (Nat.le_of_ble_eq_true rfl) ?_ | refine JoinVC.on ?_ | refine Nils.mk (fun h => ?_) ?_ | refine Val.t ?_ | refine Val.d ?_ | refine Mm.mk ?_ | refine CallVC.pure rfl (k6) ?_ | refine CallVC0.pure rfl (k6) ?_ | (refine Br.mk (fun h => ?_) (fun h => ?_) <;> first | (exfalso; omega; done) | (exfalso; simp at h; done) | skip))
    · repeat refine Mm.mk ?_
      conv => whnf
      refine EndVC.mk _ rfl _ _ (⟨2, rfl, rfl, ⟨fun h => (by cases h), fun hC => absurd (hC.cd 6) h⟩⟩) ?_
      refine ⟨[], rfl, rfl, ?_, ?_⟩ <;> repeat' (first | exact trivial | exact rfl | exact Iff.rfl | apply And.intro)
    · refine Back.mk (7 - (6 + 1)) _ (by omega) ⟨6 + 1, by omega, rfl, fun j hj' => ?_, rfl⟩ ?_
      · rcases Nat.lt_succ_iff_lt_or_eq.1 hj' with h' | rfl
        · exact hj j h'
        · exact Classical.not_not.1 h
      · refine ⟨[], rfl, rfl, ?_, ?_⟩ <;> repeat' (first | exact trivial | exact rfl | exact Iff.rfl | apply And.intro)
  · repeat' ((conv => whnf); first | refine Rng.g ?_ | refine Ob.g ?_ | refine Ob.e ?_ | refine Ob.m ?_ | refine Ob.mk (Nat.le_of_ble_eq_true rfl) ?_ | refine JoinVC.on ?_ | refine Nils.mk (fun h => ?_) ?_ | refine Val.t ?_ | refine Val.d ?_ | refine Mm.mk ?_ | (refine Br.mk (fun h => ?_) (fun h => ?_) <;> first | (exfalso; omega; done) | (exfalso; simp at h; done) | skip))
    repeat refine Mm.mk ?_
    conv => whnf
    refine EndVC.mk _ rfl _ _ (⟨0, rfl, rfl, ⟨fun _ => ⟨hj 0 (by decide), hj 1 (by decide), hj 2 (by decide), hj 3 (by decide), hj 4 (by decide), hj 5 (by decide), hj 6 (by decide)⟩, fun _ => rfl⟩⟩) ?_
    refine ⟨[], rfl, rfl, ?_, ?_⟩ <;> repeat' (first | exact trivial | exact rfl | exact Iff.rfl | apply And.intro)
end Go.Sx

namespace Go.Sx
open Go Go.Proofs
set_option maxRecDepth 10000
set_option maxHeartbeats 1000000
/-! ### Names -/
def okC (c : Int) : Prop := (97 ≤ c ∧ c ≤ 122) ∨ (48 ≤ c ∧ c ≤ 57)
def chr (s : ByteArray) (j : Nat) : Int := ((s.data.toList.getD j 0).toNat : Int)
def nameOK (s : ByteArray) : Prop := 1 ≤ s.size ∧ s.size ≤ 20 ∧ ∀ j, j < s.size → okC (chr s j)
/-! ### Takes -/
structure Tak where
  nm : ByteArray
  d : List Smp
def takA (l : List Tak) : Arr := l.map fun t => [.str t.nm, .sl (smpA t.d)]
theorem takA_len (l : List Tak) : (takA l).length = l.length := by simp [takA]
abbrev t0 : Tak := ⟨ByteArray.empty, []⟩
theorem takA_n (l : List Tak) (i : Nat) : rS (takA l) i 0 = (l.getD i t0).nm := map_rS _ t0 l i 0 rfl
theorem takA_d (l : List Tak) (i : Nat) : rA (takA l) i 1 = smpA (l.getD i t0).d := map_rA _ t0 l i 1 rfl
@[reducible] def KT : List CK := [.str, .sl KS]
@[reducible] def lT (l : List Tak) : XV := .one (.lst true KT (takA l))
@[reducible] def Tak.x (t : Tak) : XV := .agg [.str t.nm, .lst true KS (smpA t.d)]
def SmpI (l : List Smp) : Prop := ∀ j, inI (l.getD j s0).l ∧ inI (l.getD j s0).r
def Tak.ok (t : Tak) : Prop := nameOK t.nm ∧ 1 ≤ t.d.length ∧ t.d.length ≤ 4096 ∧ ∀ s ∈ t.d, s.ok
/-- All takes are right, with different names. -/
structure TaksOK (l : List Tak) : Prop where
  len : 1 ≤ l.length ∧ l.length ≤ 16
  each : ∀ j, j < l.length → (l.getD j t0).ok
  names : ∀ i j, i < l.length → j < i → (l.getD i t0).nm ≠ (l.getD j t0).nm
end Go.Sx

namespace Go.Sx
open Go Go.Proofs Go.Shelf Go.RowKit
set_option maxRecDepth 10000
set_option maxHeartbeats 1000000
def trimRen : Ren := ⟨fun | 160 => 341 | 232 => 355 | 231 => 354 | 227 => 356 | 234 => 358 | 233 => 357 | 236 => 360 | 235 => 359 | 228 => 366 | 271 => 369 | 151 => 368 | 197 => 367 | 120 => 373 | 152 => 372 | 260 => 371 | 137 => 374 | 119 => 375 | 224 => 376 | 225 => 377 | 217 => 378 | 266 => 379 | n => n, fun | 9 => 9 | 4 => 4 | 3 => 3 | 5 => 5 | 117 => 511 | 116 => 510 | 0 => 0 | 124 => 514 | 21 => 21 | 105 => 522 | 46 => 349 | 119 => 528 | 139 => 531 | 138 => 530 | n => n, fun | 3 => 1 | 4 => 2 | n => n⟩
theorem trimLays : Lays.n160 Tryz.prog trimRen where
  mixed := by kernel_rfl
  f119 := Tryz.func375.trans (congrArg some (by kernel_rfl))
  f120 := Tryz.func373.trans (congrArg some (by kernel_rfl))
  f137 := Tryz.func374.trans (congrArg some (by kernel_rfl))
  f151 := Tryz.func368.trans (congrArg some (by kernel_rfl))
  f152 := Tryz.func372.trans (congrArg some (by kernel_rfl))
  f160 := Tryz.func341.trans (congrArg some (by kernel_rfl))
  f197 := Tryz.func367.trans (congrArg some (by kernel_rfl))
  f217 := Tryz.func378.trans (congrArg some (by kernel_rfl))
  f224 := Tryz.func376.trans (congrArg some (by kernel_rfl))
  f225 := Tryz.func377.trans (congrArg some (by kernel_rfl))
  f227 := Tryz.func356.trans (congrArg some (by kernel_rfl))
  f228 := Tryz.func366.trans (congrArg some (by kernel_rfl))
  f231 := Tryz.func354.trans (congrArg some (by kernel_rfl))
  f232 := Tryz.func355.trans (congrArg some (by kernel_rfl))
  f233 := Tryz.func357.trans (congrArg some (by kernel_rfl))
  f234 := Tryz.func358.trans (congrArg some (by kernel_rfl))
  f235 := Tryz.func359.trans (congrArg some (by kernel_rfl))
  f236 := Tryz.func360.trans (congrArg some (by kernel_rfl))
  f260 := Tryz.func371.trans (congrArg some (by kernel_rfl))
  f266 := Tryz.func379.trans (congrArg some (by kernel_rfl))
  f271 := Tryz.func369.trans (congrArg some (by kernel_rfl))
  t0 := Tryz.underlying0
  a0 := Tryz.isAgg0
  z0 := Tryz.sizeOf0
  v0 := Tryz.zeroValue0
  t3 := Tryz.underlying3
  a3 := Tryz.isAgg3
  z3 := Tryz.sizeOf3
  v3 := Tryz.zeroValue3
  t4 := Tryz.underlying4
  a4 := Tryz.isAgg4
  z4 := Tryz.sizeOf4
  v4 := Tryz.zeroValue4
  t5 := Tryz.underlying5
  a5 := Tryz.isAgg5
  z5 := Tryz.sizeOf5
  v5 := Tryz.zeroValue5
  t9 := Tryz.underlying9
  a9 := Tryz.isAgg9
  z9 := Tryz.sizeOf9
  v9 := Tryz.zeroValue9
  t21 := Tryz.underlying21
  a21 := Tryz.isAgg21
  z21 := Tryz.sizeOf21
  v21 := Tryz.zeroValue21
  t46 := Tryz.underlying349
  a46 := Tryz.isAgg349
  z46 := Tryz.sizeOf349
  v46 := Tryz.zeroValue349
  t105 := Tryz.underlying522
  a105 := Tryz.isAgg522
  z105 := Tryz.sizeOf522
  v105 := Tryz.zeroValue522
  t116 := Tryz.underlying510
  a116 := Tryz.isAgg510
  z116 := Tryz.sizeOf510
  t117 := Tryz.underlying511
  a117 := Tryz.isAgg511
  z117 := Tryz.sizeOf511
  v117 := Tryz.zeroValue511
  t119 := Tryz.underlying528
  a119 := Tryz.isAgg528
  z119 := Tryz.sizeOf528
  t124 := Tryz.underlying514
  a124 := Tryz.isAgg514
  z124 := Tryz.sizeOf514
  v124 := Tryz.zeroValue514
  t138 := Tryz.underlying530
  a138 := Tryz.isAgg530
  z138 := Tryz.sizeOf530
  v138 := Tryz.zeroValue530
  t139 := Tryz.underlying531
  a139 := Tryz.isAgg531
  z139 := Tryz.sizeOf531
  v139 := Tryz.zeroValue531
  g3 := by kernel_rfl
  g4 := by kernel_rfl
theorem e341 : EntersF Tryz.prog 341 := enters_of Tryz.func341 (c := bodyOf Tryz.f341) (by kernel_rfl) rfl
theorem fr_below {w w' : World} {R : Rp} (h : MemOK w R []) (hb : Below w.heap.size w w') : Fr w R [] w' R [] :=
  ⟨hb.os, hb.tape, hb.output, hb.size, fun b hlt _ => hb.block b hlt, ⟨h.n, fun id b h => by simp at h, fun i j g h => by obtain ⟨b, h⟩ := h; simp at h, fun i g h => by obtain ⟨b, h⟩ := h; simp at h, fun b hI => Nat.lt_of_lt_of_le (h.lt b hI) hb.size, h.cell⟩, Nat.zero_le _, fun id h => absurd h (Nat.not_lt_zero id), fun b => Iff.rfl, fun b h => .inl h, fun i g h => by obtain ⟨b, h⟩ := h; simp at h⟩
theorem rep2 {w : World} {R : Rp} {a b : XV} {vs : Array Value} (h : RepXs w R [a, b] vs) : ∃ v u, vs = #[v, u] ∧ RepX w R a v ∧ RepX w R b u := by
  have h1 : vs.size = 2 := h.1
  have h2 := h.2 0 a rfl
  have h3 := h.2 1 b rfl
  obtain ⟨l⟩ := vs
  match l, h1 with
  | [v, u], _ => exact ⟨v, u, rfl, h2, h3⟩
theorem trimR_all (cs : List UInt8) (l : List UInt8) (h : ∀ b ∈ l, cs.contains b = true) : Lib.trimS l cs = [] := by
  have e : Lib.trimRightS l cs = [] := by
    unfold Lib.trimRightS
    have : ∀ m : List UInt8, (∀ b ∈ m, cs.contains b = true) → m.dropWhile (cs.contains ·) = [] := by
      intro m
      induction m with
      | nil => intro _; rfl
      | cons b m ih =>
        intro hm
        rw [List.dropWhile_cons, if_pos (hm b (by simp))]
        exact ih fun c hc => hm c (List.mem_cons_of_mem _ hc)
    first
      | (rw [this _ (fun b hb => h b (by simpa using hb))]; rfl)
      | (simp [this _ (fun b hb => h b (by simpa using hb))])
  unfold Lib.trimS
  rw [e]
  rfl
@[reducible] def cutS : ByteArray := ⟨#[97, 98, 99, 100, 101, 102, 103, 104, 105, 106, 107, 108, 109, 110, 111, 112, 113, 114, 115, 116, 117, 118, 119, 120, 121, 122, 48, 49, 50, 51, 52, 53, 54, 55, 56, 57]⟩
theorem cut_has (b : UInt8) (h : okC (b.toNat : Int)) : cutS.data.toList.contains b = true := by
  have key : ∀ n : Fin 256, (97 ≤ n.val ∧ n.val ≤ 122) ∨ (48 ≤ n.val ∧ n.val ≤ 57) → cutS.data.toList.contains (UInt8.ofNat n.val) = true := by decide +kernel
  have hb : b.toNat < 256 := b.toNat_lt
  have := key ⟨b.toNat, hb⟩ (by unfold okC at h; simp only; omega)
  simpa using this
theorem s341 (s : ByteArray) (h : nameOK s) : PSpec Tryz.prog 341 [.one (.str s), .one (.str cutS)] (.x (.one (.str ⟨#[]⟩))) := by
  intro w R vs hargs hmem
  obtain ⟨v, u, rfl, hv, hu⟩ := rep2 hargs
  have hv' : v = .string s := hv
  have hu' : u = .string cutS := hu
  subst hv' hu'
  have hc := Any.strings_Trim_laid trimLays (by kernel_rfl) s cutS w (by have := h.2.1; omega) (by decide) (ascii_of_all (by decide))
  have e : Lib.trimS s.data.toList cutS.data.toList = [] := by
    refine trimR_all _ _ fun b hb => cut_has b ?_
    obtain ⟨j, hj, rfl⟩ := List.getElem_of_mem hb
    have hj' : j < s.size := by simpa using hj
    have := h.2.2 j hj'
    unfold chr at this
    rwa [List.getD_eq_getElem?_getD, List.getElem?_eq_getElem hj] at this
  rw [e] at hc
  refine .inl ⟨e341 _ _, hc.mono fun e w' h => ?_⟩
  obtain ⟨rfl, hb⟩ := h
  exact ⟨_, _, _, R, rfl, ⟨rfl, rfl⟩, fr_below hmem hb, rfl⟩
theorem s325 (s : ByteArray) (hN : nameOK s) : PSpec Tryz.prog 325 [.one (.str s)] (xP True) := by
  have h1 := hN.1
  have h2 := hN.2.1
  have h0 : s ≠ ⟨#[]⟩ := fun e => by rw [e] at h1; exact absurd h1 (by decide)
  refine spec_of pMix (O := []) Tryz.func325 (c := bodyOf Tryz.f325) rfl (by kernel_rfl) (by kernel_rfl) Tryz.ntmps325 (res := [.tmp 2]) (by kernel_rfl) ?_
  repeat' ((conv => whnf); first | refine Rng.g ?_ | refine Ob.g ?_ | refine Ob.e ?_ | refine Ob.m ?_ | refine Ob.mk (Nat.le_of_ble_eq_true rfl) ?_ | refine JoinVC.on ?_ | refine Nils.mk (fun h => ?_) ?_ | refine Val.t ?_ | refine Val.d ?_ | refine Mm.mk ?_ | refine CallVC.pure rfl (s341 s hN) ?_ | refine CallVC0.pure rfl (s341 s hN) ?_ | (refine Br.mk (fun h => ?_) (fun h => ?_) <;> first | (exfalso; omega; done) | (exfalso; simp at h; done) | (exfalso; simp [h0] at h; done) | skip))
  repeat refine Mm.mk ?_
  refine EndVC.mk _ rfl _ _ ⟨rfl, rfl⟩ ?_
  refine ⟨[], rfl, rfl, ?_, ?_⟩ <;> repeat' (first | exact trivial | exact rfl | exact Iff.rfl | apply And.intro)
  show _ ↔ _
  simp
theorem s275 (t : Tak) (hN : t.ok) : PSpec Tryz.prog 275 [t.x] (.x (I 0)) := by
  have ll := smpA_len t.d
  have he : smpE t.d = 0 := smpE_0.2 ⟨hN.2.2.1, hN.2.2.2⟩
  have h1 := hN.2.1
  have c1 := s103 t.d
  rw [he] at c1
  refine spec_of pMix (O := []) Tryz.func275 (c := bodyOf Tryz.f275) rfl (by kernel_rfl) (by kernel_rfl) Tryz.ntmps275 (res := [.tmp 2]) (by kernel_rfl) ?_
  repeat' ((conv => whnf); first | refine Rng.g ?_ | refine Ob.g ?_ | refine Ob.e ?_ | refine Ob.m ?_ | refine Ob.mk (Nat.le_of_ble_eq_true rfl) ?_ | refine JoinVC.on ?_ | refine Nils.mk (fun h => ?_) ?_ | refine Val.t ?_ | refine Val.d ?_ | refine Mm.mk ?_ | refine CallVC.pure rfl (c1) ?_ | refine CallVC.pure rfl (s325 t.nm hN.1) ?_ | refine CallVC0.pure rfl (c1) ?_ | refine CallVC0.pure rfl (s325 t.nm hN.1) ?_ | (refine Br.mk (fun h => ?_) (fun h => ?_) <;> first | (exfalso; omega; done) | (exfalso; simp at h; done) | skip))
  all_goals
    repeat refine Mm.mk ?_
    refine EndVC.mk _ rfl _ _ ⟨rfl, rfl⟩ ?_
    refine ⟨[], rfl, rfl, ?_, ?_⟩ <;> repeat' (first | exact trivial | exact rfl | exact Iff.rfl | apply And.intro)
end Go.Sx

namespace Go.Sx
open Go Go.Proofs
set_option maxRecDepth 10000
set_option maxHeartbeats 2000000
/-! ### Parts -/
structure Prt where
  tk : Int
  fr : Int
  to : Int
  gap : Int
  inn : Int
  out : Int
  lev : Int
abbrev p0 : Prt := ⟨0, 0, 0, 0, 0, 0, 0⟩
def Prt.row (p : Prt) : List Cell := [.int p.tk, .int p.fr, .int p.to, .int p.gap, .int p.inn, .int p.out, .int p.lev]
def prtA (l : List Prt) : Arr := l.map Prt.row
theorem prtA_len (l : List Prt) : (prtA l).length = l.length := by simp [prtA]
theorem prtA_0 (l : List Prt) (i : Nat) : rI (prtA l) i 0 = (l.getD i p0).tk := map_rI _ p0 l i 0 rfl
theorem prtA_1 (l : List Prt) (i : Nat) : rI (prtA l) i (0 + 1) = (l.getD i p0).fr := map_rI _ p0 l i 1 rfl
theorem prtA_2 (l : List Prt) (i : Nat) : rI (prtA l) i (0 + 1 + 1) = (l.getD i p0).to := map_rI _ p0 l i 2 rfl
theorem prtA_3 (l : List Prt) (i : Nat) : rI (prtA l) i (0 + 1 + 1 + 1) = (l.getD i p0).gap := map_rI _ p0 l i 3 rfl
theorem prtA_4 (l : List Prt) (i : Nat) : rI (prtA l) i (0 + 1 + 1 + 1 + 1) = (l.getD i p0).inn := map_rI _ p0 l i 4 rfl
theorem prtA_5 (l : List Prt) (i : Nat) : rI (prtA l) i (0 + 1 + 1 + 1 + 1 + 1) = (l.getD i p0).out := map_rI _ p0 l i 5 rfl
theorem prtA_6 (l : List Prt) (i : Nat) : rI (prtA l) i (0 + 1 + 1 + 1 + 1 + 1 + 1) = (l.getD i p0).lev := map_rI _ p0 l i 6 rfl
@[reducible] def K7i : List CK := [.int .i64, .int .i64, .int .i64, .int .i64, .int .i64, .int .i64, .int .i64]
@[reducible] def lP (l : List Prt) : XV := .one (.lst true K7i (prtA l))
@[reducible] def Prt.x (p : Prt) : XV := .agg [.int .i64 p.tk, .int .i64 p.fr, .int .i64 p.to, .int .i64 p.gap, .int .i64 p.inn, .int .i64 p.out, .int .i64 p.lev]
/-- A part as an element of a list. -/
@[reducible] def prtX (l : List Prt) (i : Nat) : XV := .agg [.int .i64 (rI (prtA l) i 0), .int .i64 (rI (prtA l) i (0 + 1)), .int .i64 (rI (prtA l) i (0 + 1 + 1)), .int .i64 (rI (prtA l) i (0 + 1 + 1 + 1)), .int .i64 (rI (prtA l) i (0 + 1 + 1 + 1 + 1)), .int .i64 (rI (prtA l) i (0 + 1 + 1 + 1 + 1 + 1)), .int .i64 (rI (prtA l) i (0 + 1 + 1 + 1 + 1 + 1 + 1))]
theorem prtX_eq (l : List Prt) (i : Nat) : prtX l i = (l.getD i p0).x := by
  unfold prtX Prt.x
  rw [prtA_0, prtA_1, prtA_2, prtA_3, prtA_4, prtA_5, prtA_6]
def Prt.long (p : Prt) : Int := p.to - p.fr
def partOK (T : List Tak) (p : Prt) : Prop := 0 ≤ p.tk ∧ p.tk < T.length ∧ 0 ≤ p.fr ∧ p.fr < p.to ∧ p.to ≤ (T.getD p.tk.toNat t0).d.length ∧ -4096 ≤ p.gap ∧ p.gap ≤ 4096 ∧ 0 ≤ p.inn ∧ p.inn ≤ 1000 ∧ 0 ≤ p.out ∧ p.out ≤ 1000 ∧ 0 ≤ p.lev ∧ p.lev ≤ 4000
instance (T : List Tak) (p : Prt) : Decidable (partOK T p) := by unfold partOK; exact inferInstance
/-- The bounds of a part that is right. -/
structure PB (p : Prt) : Prop where
  fr : 0 ≤ p.fr ∧ p.fr < p.to
  to : p.to ≤ 4096
  gap : -4096 ≤ p.gap ∧ p.gap ≤ 4096
/-- The end of some parts. -/
def endP : List Prt → Int := fun l => l.foldl (fun e p => e + p.gap + p.long) 0
theorem endP_snoc (l : List Prt) (p : Prt) : endP (l ++ [p]) = endP l + p.gap + p.long := by unfold endP; rw [List.foldl_append]; rfl
def begP (l : List Prt) (i : Nat) : Int := endP (l.take i) + (l.getD i p0).gap
theorem endP_succ (l : List Prt) {i : Nat} (h : i < l.length) : endP (l.take (i + 1)) = begP l i + (l.getD i p0).long := by
  rw [take_snoc l i p0 h, endP_snoc]; rfl
def PBs (l : List Prt) : Prop := l.length ≤ 32 ∧ ∀ j, j < l.length → PB (l.getD j p0)
theorem endP_bd {l : List Prt} (h : PBs l) : ∀ i, i ≤ l.length → -8192 * (i : Int) ≤ endP (l.take i) ∧ endP (l.take i) ≤ 8192 * i
  | 0, _ => by simp [endP]
  | i + 1, hi => by
    have ih := endP_bd h i (by omega)
    have hb := h.2 i (by omega)
    obtain ⟨h1, h2, h3⟩ := hb
    rw [endP_succ l (by omega)]
    unfold begP Prt.long
    omega
theorem eb3 : Tryz.t3.bytes = 8 := by kernel_rfl
/-! ### Possible programmes -/
structure Poss (l : List Prt) : Prop where
  first : 0 < l.length → 0 ≤ begP l 0
  gap : ∀ i, 0 < i → i < l.length → -(l.getD i p0).long ≤ (l.getD i p0).gap ∧ -(l.getD (i - 1) p0).long ≤ (l.getD i p0).gap
  free : ∀ i, 1 < i → i < l.length → begP l (i - 2) + (l.getD (i - 2) p0).long ≤ begP l i
  stop : endP l ≤ 4096
end Go.Sx

namespace Go.Sx
open Go Go.Proofs
set_option maxRecDepth 10000
set_option maxHeartbeats 2000000
/-- A programme is valid and possible. -/
structure ProgOK (T : List Tak) (l : List Prt) : Prop where
  takes : TaksOK T
  len : l.length ≤ 32
  parts : ∀ j, j < l.length → partOK T (l.getD j p0)
  poss : Poss l
theorem partOK.pb {T : List Tak} {p : Prt} (hT : TaksOK T) (h : partOK T p) : PB p := by
  unfold partOK at h
  have := (hT.each p.tk.toNat (by omega)).2.2.1
  exact ⟨by omega, by omega, by omega⟩
theorem ProgOK.pbs {T : List Tak} {l : List Prt} (h : ProgOK T l) : PBs l := ⟨h.len, fun j hj => (h.parts j hj).pb h.takes⟩
/-! ### Sounds -/
def upF (p : Prt) (k : Int) : Int := if p.inn < k then p.inn + 1 else k + 1
def dnF (p : Prt) (k : Int) : Int := if p.out < p.long - k - 1 then p.out + 1 else p.long - k
def denF (p : Prt) : Int := 1000 * (p.inn + 1) * (p.out + 1)
/-- The sound of a channel's sample. -/
def loudF (s : Int) (p : Prt) (k lev : Int) : Int := (s * lev * upF p k * dnF p k).tdiv (denF p)
/-- What is asked of a part's numbers. -/
structure PF (p : Prt) (k lev : Int) : Prop where
  pb : PB p
  inn : 0 ≤ p.inn ∧ p.inn ≤ 1000
  out : 0 ≤ p.out ∧ p.out ≤ 1000
  k : 0 ≤ k ∧ k < p.long
  lev : 0 ≤ lev ∧ lev ≤ 4000
theorem PF.up {p : Prt} {k lev : Int} (h : PF p k lev) : 1 ≤ upF p k ∧ upF p k ≤ p.inn + 1 := by
  have := h.inn; have := h.k
  unfold upF; split <;> omega
theorem PF.dn {p : Prt} {k lev : Int} (h : PF p k lev) : 1 ≤ dnF p k ∧ dnF p k ≤ p.out + 1 := by
  have := h.out; have := h.k
  unfold dnF; split <;> omega
theorem PF.den {p : Prt} {k lev : Int} (h : PF p k lev) : 1000 ≤ denF p ∧ denF p ≤ 1002001000 := by
  have h1 := h.inn; have h2 := h.out
  unfold denF
  have h3 := mul_rng (a := p.inn + 1) (b := p.out + 1) (A := 1001) (B := 1001) (by omega) (by omega)
  have h4 : 1 * 1 ≤ (p.inn + 1) * (p.out + 1) := Int.mul_le_mul (by omega) (by omega) (by omega) (by omega)
  rw [Int.mul_assoc]
  omega
theorem PF.steps {p : Prt} {s k lev : Int} (h : PF p k lev) (hs : -32767 ≤ s ∧ s ≤ 32767) : (-131068000 ≤ s * lev ∧ s * lev ≤ 131068000) ∧ (-131199068000 ≤ s * lev * upF p k ∧ s * lev * upF p k ≤ 131199068000) ∧ (-131330267068000 ≤ s * lev * upF p k * dnF p k ∧ s * lev * upF p k * dnF p k ≤ 131330267068000) := by
  have h1 := mul_rng (a := s) (b := lev) (A := 32767) (B := 4000) hs h.lev
  have hu := h.up; have hd := h.dn; have hi := h.inn; have ho := h.out
  have h2 := mul_rng (a := s * lev) (b := upF p k) (A := 131068000) (B := 1001) (by omega) (by omega)
  have h3 := mul_rng (a := s * lev * upF p k) (b := dnF p k) (A := 131199068000) (B := 1001) (by omega) (by omega)
  exact ⟨by omega, by omega, by omega⟩
theorem PF.loud {p : Prt} {s k lev : Int} (h : PF p k lev) (hs : -32767 ≤ s ∧ s ≤ 32767) : -131068 ≤ loudF s p k lev ∧ loudF s p k lev ≤ 131068 := by
  have hd := h.den
  have h1 := mul_rng (a := s) (b := lev) (A := 32767) (B := 4000) hs h.lev
  have hu := h.up; have hn := h.dn
  have hi := h.inn; have ho := h.out
  refine tdiv_rng (by omega) ?_
  have h2 := mul_rng (a := s * lev) (b := upF p k) (A := 131068000) (B := p.inn + 1) (by omega) (by omega)
  have h3 := mul_rng (a := s * lev * upF p k) (b := dnF p k) (A := 131068000 * (p.inn + 1)) (B := p.out + 1) h2 (by omega)
  have e : (131068 : Int) * denF p = 131068000 * (p.inn + 1) * (p.out + 1) := by
    unfold denF
    rw [← Int.mul_assoc, ← Int.mul_assoc]; rfl
  rw [e]
  exact h3
/-- A part that may sound. -/
structure SF (T : List Tak) (p : Prt) (k lev : Int) : Prop where
  ok : partOK T p
  takes : TaksOK T
  k : 0 ≤ k ∧ k < p.long
  lev : 0 ≤ lev ∧ lev ≤ 4000
theorem SF.pf {T : List Tak} {p : Prt} {k lev : Int} (h : SF T p k lev) : PF p k lev := by
  have ho := h.ok
  have hb := ho.pb h.takes
  unfold partOK at ho
  exact ⟨hb, by omega, by omega, h.k, h.lev⟩
def smpAt (T : List Tak) (p : Prt) (k : Int) : Smp := (T.getD p.tk.toNat t0).d.getD (p.fr + k).toNat s0
def sndF (T : List Tak) (p : Prt) (k lev : Int) : Smp := ⟨loudF (smpAt T p k).l p k lev, loudF (smpAt T p k).r p k lev⟩
theorem SF.smp {T : List Tak} {p : Prt} {k lev : Int} (h : SF T p k lev) : (smpAt T p k).ok := by
  have ho := h.ok
  unfold partOK at ho
  have hk := h.k
  have hL : p.long = p.to - p.fr := rfl
  exact (h.takes.each p.tk.toNat (by omega)).2.2.2 _ (getD_mem' s0 (by omega))
theorem SF.snd {T : List Tak} {p : Prt} {k lev : Int} (h : SF T p k lev) : (-131068 ≤ (sndF T p k lev).l ∧ (sndF T p k lev).l ≤ 131068) ∧ (-131068 ≤ (sndF T p k lev).r ∧ (sndF T p k lev).r ≤ 131068) := by
  have hs := h.smp
  unfold Smp.ok at hs
  exact ⟨h.pf.loud (by omega), h.pf.loud (by omega)⟩
end Go.Sx

namespace Go.Sx
open Go Go.Proofs
set_option maxRecDepth 10000
set_option maxHeartbeats 2000000
/-- Does a part sound at a time? -/
def onB (l : List Prt) (t : Int) (i : Nat) : Bool := decide (begP l i ≤ t ∧ t < begP l i + (l.getD i p0).long)
def srcI (l : List Prt) (t : Int) (n : Nat) : List Nat := (List.range n).filter (onB l t)
theorem srcI_succ (l : List Prt) (t : Int) (n : Nat) : srcI l t (n + 1) = srcI l t n ++ (if onB l t n then [n] else []) := by
  unfold srcI
  rw [List.range_succ, List.filter_append]
  congr 1
  by_cases h : onB l t n = true
  · rw [if_pos h]; simp [h]
  · rw [if_neg h]; simp [h]
theorem srcI_mem {l : List Prt} {t : Int} {n i : Nat} (h : i ∈ srcI l t n) : i < n ∧ begP l i ≤ t ∧ t < begP l i + (l.getD i p0).long := by
  unfold srcI at h
  rw [List.mem_filter, List.mem_range] at h
  exact ⟨h.1, of_decide_eq_true h.2⟩
theorem srcI_len (l : List Prt) (t : Int) (n : Nat) : (srcI l t n).length ≤ n := by
  unfold srcI
  exact Nat.le_trans (List.length_filter_le _ _) (by simp)
/-! ### What sounds at each time -/
def addS (a b : Smp) : Smp := ⟨a.l + b.l, a.r + b.r⟩
def sndI (T : List Tak) (l : List Prt) (t : Int) (i : Nat) : Smp := sndF T (l.getD i p0) (t - begP l i) (l.getD i p0).lev
def sumI (T : List Tak) (l : List Prt) (t : Int) (L : List Nat) : Smp := L.foldl (fun a i => addS a (sndI T l t i)) s0
theorem sumI_snoc (T : List Tak) (l : List Prt) (t : Int) (L : List Nat) (i : Nat) : sumI T l t (L ++ [i]) = addS (sumI T l t L) (sndI T l t i) := by unfold sumI; rw [List.foldl_append]; rfl
def rendAt (T : List Tak) (l : List Prt) (t : Int) : Smp := sumI T l t (srcI l t l.length)
def rend (T : List Tak) (l : List Prt) : List Smp := (List.range (endP l).toNat).map fun t : Nat => rendAt T l (t : Int)
theorem rend_len (T : List Tak) (l : List Prt) : (rend T l).length = (endP l).toNat := by simp [rend]
theorem rend_get (T : List Tak) (l : List Prt) (t : Nat) (h : t < (endP l).toNat) : (rend T l).getD t s0 = rendAt T l t := by
  simp [rend, List.getD_eq_getElem?_getD, List.getElem?_range h]
theorem begP_nonneg {l : List Prt} (hb : PBs l) (hP : Poss l) : ∀ i, i < l.length → 0 ≤ begP l i
  | 0, h => hP.first h
  | i + 1, h => by
    have ih := begP_nonneg hb hP i (by omega)
    have h1 := (hP.gap (i + 1) (by omega) h).2
    have h2 := endP_succ l (show i < l.length by omega)
    have h3 : i + 1 - 1 = i := by omega
    rw [h3] at h1
    unfold begP at ih ⊢
    unfold begP at h2
    omega
theorem endP_nonneg {l : List Prt} (hb : PBs l) (hP : Poss l) : 0 ≤ endP l := by
  by_cases h : l.length = 0
  · have : l = [] := List.eq_nil_of_length_eq_zero h
    subst this; exact Int.le_refl _
  · have h1 := begP_nonneg hb hP (l.length - 1) (by omega)
    have h2 := endP_succ l (show l.length - 1 < l.length by omega)
    have h3 : l.length - 1 + 1 = l.length := by omega
    rw [h3, List.take_length] at h2
    have h4 := (hb.2 (l.length - 1) (by omega)).fr
    unfold Prt.long at h2
    omega
theorem ProgOK.sf {T : List Tak} {l : List Prt} (h : ProgOK T l) {t : Int} {i : Nat} (hi : i ∈ srcI l t l.length) : SF T (l.getD i p0) (t - begP l i) (l.getD i p0).lev := by
  obtain ⟨h1, h2, h3⟩ := srcI_mem hi
  have h4 := h.parts i h1
  have h5 := h4
  unfold partOK at h5
  exact ⟨h4, h.takes, by omega, by omega⟩
theorem sumI_bd {T : List Tak} {l : List Prt} {t : Int} : ∀ {L : List Nat}, (∀ i ∈ L, SF T (l.getD i p0) (t - begP l i) (l.getD i p0).lev) → (-131068 * (L.length : Int) ≤ (sumI T l t L).l ∧ (sumI T l t L).l ≤ 131068 * L.length) ∧ (-131068 * (L.length : Int) ≤ (sumI T l t L).r ∧ (sumI T l t L).r ≤ 131068 * L.length) := by
  intro L
  refine snoc_ind (p := fun L : List Nat => (∀ i ∈ L, SF T (l.getD i p0) (t - begP l i) (l.getD i p0).lev) → (-131068 * (L.length : Int) ≤ (sumI T l t L).l ∧ (sumI T l t L).l ≤ 131068 * L.length) ∧ (-131068 * (L.length : Int) ≤ (sumI T l t L).r ∧ (sumI T l t L).r ≤ 131068 * L.length)) ?_ ?_ L
  · intro _; simp [sumI]
  · intro L i ih h
    have h1 := ih (fun j hj => h j (List.mem_append_left _ hj))
    have h2 := (h i (by simp)).snd
    rw [sumI_snoc, List.length_append, List.length_cons, List.length_nil]
    unfold addS sndI
    simp only
    omega
theorem smpA_set (O : List Smp) (i : Nat) (s : Smp) (h : i < O.length) : updRow (smpA O) i 0 [.int s.l, .int s.r] = smpA (O.set i s) := by
  have e : (smpA O).getD i [] = [.int (O.getD i s0).l, .int (O.getD i s0).r] := by simp [smpA, List.getD_eq_getElem?_getD, h]
  unfold updRow
  rw [e]
  simp [smpA, setAll, List.map_set]
theorem smpA_rep (n : Nat) : List.replicate n [Cell.int 0, Cell.int 0] = smpA (List.replicate n s0) := by simp [smpA]
end Go.Sx

namespace Go.Sx
open Go Go.Proofs
set_option maxRecDepth 10000
set_option maxHeartbeats 4000000
@[reducible] def rowS (O : List Smp) : Blk := .row 47 false KS (smpA O)
theorem eb47 : Tryz.t47.bytes = 16 := by kernel_rfl
/-- What is rendered up to a time. -/
structure Upto (T : List Tak) (l : List Prt) (O : List Smp) (i : Nat) (a : Smp) : Prop where
  len : O.length = (endP l).toNat
  done : ∀ j, j < i → O.getD j s0 = rendAt T l j
  at' : O.getD i s0 = a
  rest : ∀ j, i < j → O.getD j s0 = s0
theorem Upto.set {T : List Tak} {l : List Prt} {O : List Smp} {i : Nat} {a : Smp} (h : Upto T l O i a) (hi : i < O.length) (b : Smp) : Upto T l (O.set i b) i b := by
  refine ⟨by rw [List.length_set]; exact h.len, fun j hj => ?_, ?_, fun j hj => ?_⟩
  · rw [getD_set' _ _ _ _ _ hi, if_neg (by omega)]; exact h.done j hj
  · rw [getD_set' _ _ _ _ _ hi, if_pos rfl]
  · rw [getD_set' _ _ _ _ _ hi, if_neg (by omega)]; exact h.rest j hj
theorem Upto.next {T : List Tak} {l : List Prt} {O : List Smp} {i : Nat} (h : Upto T l O i (rendAt T l i)) : Upto T l O (i + 1) s0 := by
  refine ⟨h.len, fun j hj => ?_, h.rest _ (Nat.lt_succ_self i), fun j hj => h.rest j (by omega)⟩
  rcases Nat.lt_succ_iff_lt_or_eq.1 hj with h' | rfl
  · exact h.done j h'
  · exact h.at'
theorem Upto.fin {T : List Tak} {l : List Prt} {O : List Smp} {a : Smp} (h : Upto T l O (endP l).toNat a) : O = rend T l := by
  refine List.ext_getElem (by rw [h.len, rend_len]) fun j h1 h2 => ?_
  have h3 := h.done j (by rw [← h.len]; exact h1)
  rw [← rend_get T l j (by rw [← h.len]; exact h1)] at h3
  simpa [List.getD_eq_getElem?_getD, h1, h2] using h3
end Go.Sx

namespace Go.Sx
open Go Go.Proofs
set_option maxRecDepth 10000
set_option maxHeartbeats 4000000
/-! ### The names of takes in a map -/
theorem keyEqS (c : List Cell) (a : ByteArray) : keyEq [.str] c [.str a] = match c with | [] => false | x :: _ => decide (x.toStr = a) := by
  cases c with
  | nil => rfl
  | cons x c => simp [keyEq, cellEq, Cell.toStr]; rfl
theorem mfind_mputS (a b : ByteArray) (v : List Cell) : ∀ (l : MapL), mfind [.str] (mput [.str] l [.str a] v) [.str b] = if a = b then some v else mfind [.str] l [.str b]
  | [] => by
    simp only [mput, mfind, keyEqS, Cell.toStr]
    by_cases h : a = b <;> simp [h]
  | p :: l => by
    have ih := mfind_mputS a b v l
    simp only [mput]
    cases h1 : keyEq [.str] p.1 [.str a] with
    | true =>
      simp only [mfind]
      by_cases h : a = b
      · subst h; simp [keyEqS, Cell.toStr]
      · have h2 : keyEq [.str] p.1 [.str b] = false := by
          rw [keyEqS] at h1 ⊢
          split at h1
          · cases h1
          · rename_i x c hp
            simp only [decide_eq_true_eq] at h1
            simp only [decide_eq_false_iff_not]
            rw [h1]; exact h
        simp [keyEqS, Cell.toStr, h, h2, keyEqS] at h2 ⊢
    | false =>
      simp only [mfind]
      cases h2 : keyEq [.str] p.1 [.str b] with
      | true =>
        have : a ≠ b := fun h => by rw [h, h2] at h1; cases h1
        simp [this]
      | false => simpa using ih
theorem mput_len (kk : List CK) (k v : List Cell) : ∀ l : MapL, (mput kk l k v).length = if mfind kk l k = none then l.length + 1 else l.length
  | [] => by simp [mput, mfind]
  | p :: l => by
    have ih := mput_len kk k v l
    by_cases h : keyEq kk p.1 k = true
    · simp [mput, mfind, h]
    · have h' : keyEq kk p.1 k = false := by simpa using h
      simp only [mput, mfind, h', List.length_cons, ih]
      split <;> rfl
theorem s196 (l : List Tak) (hT : TaksOK l) : PSpec Tryz.prog 196 [lT l] (.x (I 0)) := by
  have ll := takA_len l
  have h1 := hT.len
  refine spec_of pMix (O := []) Tryz.func196 (c := bodyOf Tryz.f196) rfl (by kernel_rfl) (by kernel_rfl) Tryz.ntmps196 (res := [.tmp 2]) (by kernel_rfl) ?_
  repeat' ((conv => whnf); first | refine Rng.g ?_ | refine Ob.g ?_ | refine Ob.e ?_ | refine Ob.m ?_ | refine Ob.mk (Nat.le_of_ble_eq_true rfl) ?_ | refine JoinVC.on ?_ | refine Nils.mk (fun h => ?_) ?_ | refine Val.t ?_ | refine Val.d ?_ | refine Mm.mk ?_ | (refine Br.mk (fun h => ?_) (fun h => ?_) <;> first | (exfalso; omega; done) | (exfalso; simp at h; done) | skip))
  refine LoopVC.mk (fun n st => ∃ (i : Nat) (m : MapL), i ≤ l.length ∧ n = l.length - i ∧ m.length = i ∧ (∀ b, mfind [.str] m [.str b] = none ↔ ∀ j, j < i → (l.getD j t0).nm ≠ b) ∧ st = ⟨0, envA 49 [(0, .x (lT l)), (3, .int .i64 0), (4, .x (.one (.map 0))), (17, .x (lT l)), (18, .int .i64 (l.length : Int)), (19, .int .i64 (i : Int))], [some (.mp false false [.str] [.int .i64] m none)]⟩) _ _ ⟨0, [], Nat.zero_le _, rfl, rfl, fun b => by simp [mfind], rfl⟩ ?_ ?_
  · refine ⟨[some 0], rfl, rfl, ?_, ?_⟩ <;> repeat' (first | exact trivial | exact rfl | exact Iff.rfl | apply And.intro)
    exact congrArg Int.ofNat ll
  rintro n _ ⟨i, m, hi, hn, hm, hf, rfl⟩
  have gd : rA (takA l) (i : Int).toNat (0 + 1) = smpA (l.getD i t0).d := takA_d l i
  have gn : rS (takA l) (i : Int).toNat 0 = (l.getD i t0).nm := takA_n l i
  by_cases hi' : i < l.length
  · have hok := hT.each i hi'
    have c1 : PSpec Tryz.prog 275 [.agg [.str (rS (takA l) (i : Int).toNat 0), .lst true KS (rA (takA l) (i : Int).toNat (0 + 1))]] (.x (I 0)) := by rw [gd, gn]; exact s275 _ hok
    have hmf : mfind [.str] m [.str (rS (takA l) (i : Int).toNat 0)] = none := by
      rw [gn]
      exact (hf _).2 fun j hj e => hT.names i j hi' hj e.symm
    have hr : rI [mrow [.str] (zeroRow [.int .i64]) m [.str (rS (takA l) (i : Int).toNat 0)]] 0 0 = 0 := by unfold mrow; rw [hmf]; rfl
    repeat' ((conv => whnf); first | refine Rng.g ?_ | refine Ob.g ?_ | refine Ob.e ?_ | refine Ob.m ?_ | refine Ob.mk (Nat.le_of_ble_eq_true rfl) ?_ | refine JoinVC.on ?_ | refine Nils.mk (fun h => ?_) ?_ | refine Val.t ?_ | refine Val.d ?_ | refine Mm.mk ?_ | refine CallVC.pure rfl (c1) ?_ | refine CallVC0.pure rfl (c1) ?_ | (refine Br.mk (fun h => ?_) (fun h => ?_) <;> first | (exfalso; omega; done) | (exfalso; simp at h; done) | skip))
    refine Back.mk (l.length - (i + 1)) _ (by omega) ⟨i + 1, mput [.str] m [.str (rS (takA l) (i : Int).toNat 0)] [.int (rI [mrow [.str] (zeroRow [.int .i64]) m [.str (rS (takA l) (i : Int).toNat 0)]] 0 0 + 1)], by omega, rfl, ?_, fun b => ?_, rfl⟩ ?_
    · rw [mput_len, if_pos hmf, hm]
    · rw [mfind_mputS, gn]
      by_cases hb : (l.getD i t0).nm = b
      · rw [if_pos hb]
        exact ⟨fun h => (by cases h), fun h => absurd hb (h i (Nat.lt_succ_self i))⟩
      · rw [if_neg hb, hf b]
        refine ⟨fun h j hj => ?_, fun h j hj => h j (by omega)⟩
        rcases Nat.lt_succ_iff_lt_or_eq.1 hj with h' | rfl
        · exact h j h'
        · exact hb
    · refine ⟨[some 0], rfl, rfl, ?_, ?_⟩ <;> repeat' (first | exact trivial | exact rfl | exact Iff.rfl | apply And.intro)
  · repeat' ((conv => whnf); first | refine Rng.g ?_ | refine Ob.g ?_ | refine Ob.e ?_ | refine Ob.m ?_ | refine Ob.mk (Nat.le_of_ble_eq_true rfl) ?_ | refine JoinVC.on ?_ | refine Nils.mk (fun h => ?_) ?_ | refine Val.t ?_ | refine Val.d ?_ | refine Mm.mk ?_ | (refine Br.mk (fun h => ?_) (fun h => ?_) <;> first | (exfalso; omega; done) | (exfalso; simp at h; done) | skip))
    repeat refine Mm.mk ?_
    refine EndVC.mk _ rfl _ _ ⟨rfl, rfl⟩ ?_
    refine ⟨[], rfl, rfl, ?_, ?_⟩ <;> repeat' (first | exact trivial | exact rfl | exact Iff.rfl | apply And.intro)
/-! ### Parts in a programme -/
@[reducible] def bG (i : Nat) (T : List Tak) (n : Int) : Blk := .box 204 [.lst true KT (takA T), .own i, .int .i64 n]
@[reducible] def K10 : List CK := [.int .i64, .int .i64, .int .i64, .int .i64, .int .i64, .int .i64, .int .i64, .int .i64, .int .i64, .int .i64]
@[reducible] def KG : List CK := [.sl KT, .sl K10, .int .i64]
@[reducible] def gX (T : List Tak) (A : Arr) (n : Int) : XV := .one (.lel true KG [[.sl (takA T), .sl A, .int n]] 0 0)
theorem s197 (T : List Tak) (A : Arr) (n : Int) (p : Prt) (hp : partOK T p) : PSpec Tryz.prog 197 [gX T A n, p.x] (xP True) := by
  have ll := takA_len T
  have gl : (rA (takA T) p.tk.toNat (0 + (0 + 1))).length = (T.getD p.tk.toNat t0).d.length := (congrArg List.length (takA_d T _)).trans (smpA_len _)
  have hq := hp
  unfold partOK at hq
  have e0 : rA [[Cell.sl (takA T), .sl A, .int n]] 0 0 = takA T := rfl
  refine spec_of pMix (O := []) Tryz.func197 (c := bodyOf Tryz.f197) rfl (by kernel_rfl) (by kernel_rfl) Tryz.ntmps197 (res := [.tmp 4]) (by kernel_rfl) ?_
  repeat' ((conv => whnf); first | rw [e0] | refine Rng.g ?_ | refine Ob.g ?_ | refine Ob.e ?_ | refine Ob.m ?_ | refine Ob.mk (Nat.le_of_ble_eq_true rfl) ?_ | refine JoinVC.on ?_ | refine Nils.mk (fun h => ?_) ?_ | refine Val.t ?_ | refine Val.d ?_ | refine Mm.mk ?_ | refine CallVC.pure rfl (s125 _ _ _) ?_ | refine CallVC0.pure rfl (s125 _ _ _) ?_ | (refine Br.mk (fun h => ?_) (fun h => ?_) <;> first | (exfalso; omega; done) | (exfalso; simp at h; done) | skip))
  repeat refine Mm.mk ?_
  refine EndVC.mk _ rfl _ _ ⟨rfl, rfl⟩ ?_
  refine ⟨[], rfl, rfl, ?_, ?_⟩ <;> repeat' (first | exact trivial | exact rfl | exact Iff.rfl | apply And.intro)
  show _ ↔ _
  simp
  omega
end Go.Sx

namespace Go.Sx
open Go Go.Proofs
set_option maxRecDepth 10000
set_option maxHeartbeats 4000000
/-- A part with its place. -/
def plcR (l : List Prt) (i : Nat) : List Cell := [.int (l.getD i p0).tk, .int (l.getD i p0).fr, .int (l.getD i p0).to, .int (l.getD i p0).gap, .int (l.getD i p0).inn, .int (l.getD i p0).out, .int (l.getD i p0).lev, .int (i : Int), .int (begP l i), .int (begP l i + (l.getD i p0).long)]
def plcA (l : List Prt) (n : Nat) : Arr := (List.range n).map (plcR l)
theorem plcA_len (l : List Prt) (n : Nat) : (plcA l n).length = n := by simp [plcA]
theorem plcA_snoc (l : List Prt) (n : Nat) : plcA l (n + 1) = plcA l n ++ [plcR l n] := by simp [plcA, List.range_succ]
theorem plcA_at (l : List Prt) (n i : Nat) (h : i < n) : (plcA l n).getD i [] = plcR l i := by
  simp [plcA, List.getD_eq_getElem?_getD, List.getElem?_range h]
theorem plc_8 (l : List Prt) (n i : Nat) (h : i < n) : rI (plcA l n) i (0 + 1 + 1 + 1 + 1 + 1 + 1 + 1 + 1) = begP l i := by simp only [rI, cellAt, plcA_at l n i h]; rfl
theorem plc_9 (l : List Prt) (n i : Nat) (h : i < n) : rI (plcA l n) i (0 + 1 + 1 + 1 + 1 + 1 + 1 + 1 + 1 + 1) = begP l i + (l.getD i p0).long := by simp only [rI, cellAt, plcA_at l n i h]; rfl
@[reducible] def rowG (A : Arr) : Blk := .row 206 false K10 A
theorem eb206 : Tryz.t206.bytes = 80 := by kernel_rfl
theorem Poss.mono {l : List Prt} (_hb : PBs l) (hP : Poss l) {i : Nat} (h0 : 0 < i) (hi : i < l.length) : begP l (i - 1) + (l.getD (i - 1) p0).long ≤ begP l i + (l.getD i p0).long ∧ begP l (i - 1) ≤ begP l i := by
  have h1 := hP.gap i h0 hi
  have h2 := endP_succ l (show i - 1 < l.length by omega)
  have h3 : i - 1 + 1 = i := by omega
  rw [h3] at h2
  have h4 : begP l i = endP (l.take i) + (l.getD i p0).gap := rfl
  omega
theorem s100 (T : List Tak) (l : List Prt) (hP : ProgOK T l) : HSpec Tryz.prog 100 [lT T, lP l] [] (fun r m' => r = .tup [.one (.ptr 0 0), I 0] ∧ m' = [some (bG 1 T (endP l)), some (rowG (plcA l l.length))]) := by
  have ll := prtA_len l
  have hb := hP.pbs
  have h32 := hb.1
  have hst := hP.poss.stop
  have hbd : ∀ k, k < l.length → -300000 ≤ begP l k ∧ begP l k ≤ 300000 ∧ 0 < (l.getD k p0).long ∧ (l.getD k p0).long ≤ 4096 := fun k hk => by
    have h1 := endP_bd hb k (by omega)
    have h2 := hb.2 k hk
    obtain ⟨h3, h4, h5⟩ := h2
    unfold begP Prt.long
    omega
  refine spec_of pMix (O := [(12, ([10], [⟨0, [], []⟩, ⟨1, [], []⟩, ⟨2, [], []⟩, ⟨3, [], []⟩, ⟨4, [], []⟩, ⟨5, [], []⟩, ⟨6, [], []⟩, ⟨7, [], []⟩, ⟨8, [], []⟩, ⟨9, [], []⟩, ⟨10, [], []⟩, ⟨11, [], []⟩])), (14, ([], [⟨0, [], []⟩, ⟨1, [], []⟩, ⟨2, [], []⟩, ⟨3, [], []⟩, ⟨4, [], []⟩, ⟨5, [], [6]⟩, ⟨6, [], []⟩, ⟨7, [0], []⟩, ⟨8, [], []⟩, ⟨9, [], []⟩, ⟨10, [], []⟩]))]) Tryz.func100 (c := bodyOf Tryz.f100) rfl (by kernel_rfl) (by kernel_rfl) Tryz.ntmps100 (res := [.tmp 4, .tmp 5]) (by kernel_rfl) ?_
  repeat' ((conv => whnf); first | refine Rng.g ?_ | refine Ob.g ?_ | refine Ob.e ?_ | refine Ob.m ?_ | refine Ob.mk (Nat.le_of_ble_eq_true rfl) ?_ | refine JoinVC.on ?_ | refine Nils.mk (fun h => ?_) ?_ | refine Val.t ?_ | refine Val.d ?_ | refine Mm.mk ?_ | refine CallVC.pure rfl (s196 T hP.takes) ?_ | refine CallVC0.pure rfl (s196 T hP.takes) ?_ | (refine Br.mk (fun h => ?_) (fun h => ?_) <;> first | (exfalso; omega; done) | (exfalso; simp at h; done) | skip))
  refine LoopVC.mk (fun n st => ∃ (i : Nat), i ≤ l.length ∧ n = l.length - i ∧ st = ⟨0, envA 135 [(0, .x (lT T)), (1, .x (lP l)), (7, .x (.one (.ptr 0 0))), (25, .x (lP l)), (26, .int .i64 (l.length : Int)), (27, .int .i64 (i : Int))], [some (bG 1 T (endP (l.take i))), some (rowG (plcA l i))]⟩) _ _ ⟨0, Nat.zero_le _, rfl, rfl⟩ ?_ ?_
  · refine ⟨[some 0, none], rfl, rfl, ?_, ?_⟩ <;> repeat' (first | exact trivial | exact rfl | exact Iff.rfl | apply And.intro)
    exact congrArg Int.ofNat ll
  rintro n _ ⟨i, hi, hn, rfl⟩
  by_cases hi' : i < l.length
  · have c1 : PSpec Tryz.prog 197 [gX T (plcA l i) (endP (l.take i)), prtX l i] (xP True) := by rw [prtX_eq]; exact s197 T _ _ _ (hP.parts i hi')
    have g1 : rI (prtA l) (i : Int).toNat (0 + 1) = (l.getD i p0).fr := prtA_1 l i
    have g2 : rI (prtA l) (i : Int).toNat (0 + 1 + 1) = (l.getD i p0).to := prtA_2 l i
    have g3 : rI (prtA l) (i : Int).toNat (0 + 1 + 1 + 1) = (l.getD i p0).gap := prtA_3 l i
    have hbi := hbd i hi'
    have hpi := hb.2 i hi'
    obtain ⟨b1, b2, b3⟩ := hpi
    have hlo : (l.getD i p0).long = (l.getD i p0).to - (l.getD i p0).fr := rfl
    have hbg : begP l i = endP (l.take i) + (l.getD i p0).gap := rfl
    have lp := plcA_len l i
    have g0 : rI (prtA l) (i : Int).toNat 0 = (l.getD i p0).tk := prtA_0 l i
    have g4 : rI (prtA l) (i : Int).toNat (0 + 1 + 1 + 1 + 1) = (l.getD i p0).inn := prtA_4 l i
    have g5 : rI (prtA l) (i : Int).toNat (0 + 1 + 1 + 1 + 1 + 1) = (l.getD i p0).out := prtA_5 l i
    have g6 : rI (prtA l) (i : Int).toNat (0 + 1 + 1 + 1 + 1 + 1 + 1) = (l.getD i p0).lev := prtA_6 l i
    have he := endP_succ l hi'
    repeat' ((conv => whnf); first | refine Rng.g ?_ | refine Ob.g ?_ | refine Ob.e ?_ | refine Ob.m ?_ | refine Ob.mk (Nat.le_of_ble_eq_true rfl) ?_ | refine JoinVC.on ?_ | refine Nils.mk (fun h => ?_) ?_ | refine Val.t ?_ | refine Val.d ?_ | refine Mm.mk ?_ | refine CallVC.pure rfl (c1) ?_ | refine CallVC0.pure rfl (c1) ?_ | (refine Br.mk (fun h => ?_) (fun h => ?_) <;> first | (exfalso; omega; done) | (exfalso; simp at h; done) | skip))
    repeat refine Mm.mk ?_
    refine Ob.mk (by simp only [lp, eb206, List.length_cons, List.length_nil]; omega) ?_
    repeat' ((conv => whnf); first | refine Rng.g ?_ | refine Ob.g ?_ | refine Ob.e ?_ | refine Ob.m ?_ | refine Ob.mk (Nat.le_of_ble_eq_true rfl) ?_ | refine JoinVC.on ?_ | refine Nils.mk (fun h => ?_) ?_ | refine Val.t ?_ | refine Val.d ?_ | refine Mm.mk ?_ | (refine Br.mk (fun h => ?_) (fun h => ?_) <;> first | (exfalso; omega; done) | (exfalso; simp at h; done) | skip))
    refine Back.mk (l.length - (i + 1)) _ (by omega) ⟨i + 1, by omega, rfl, rfl⟩ ?_
    refine ⟨[some 0, some 5], rfl, rfl, ?_, ?_⟩ <;> repeat' (first | exact trivial | exact rfl | exact Iff.rfl | apply And.intro)
    · rw [he, g1, g2, g3, hbg, hlo]; omega
    · rw [plcA_snoc, g0, g1, g2, g3, g4, g5, g6]
      unfold plcR
      rw [hbg, hlo]
      have e : endP (l.take i) + (l.getD i p0).gap + (l.getD i p0).to - (l.getD i p0).fr = endP (l.take i) + (l.getD i p0).gap + ((l.getD i p0).to - (l.getD i p0).fr) := by omega
      rw [e]
  have e1 : l.take i = l := List.take_of_length_le (by omega)
  have e2 : i = l.length := by omega
  rw [e1]
  subst e2
  clear hi hi' hn e1
  have lp := plcA_len l l.length
  repeat' ((conv => whnf); first | refine Rng.g ?_ | refine Ob.g ?_ | refine Ob.e ?_ | refine Ob.m ?_ | refine Ob.mk (Nat.le_of_ble_eq_true rfl) ?_ | refine JoinVC.on ?_ | refine Nils.mk (fun h => ?_) ?_ | refine Val.t ?_ | refine Val.d ?_ | refine Mm.mk ?_ | (refine Br.mk (fun h => ?_) (fun h => ?_) <;> first | (exfalso; omega; done) | (exfalso; simp at h; done) | skip))
  refine LoopVC.mk (fun n st => ∃ (i : Nat), i ≤ l.length ∧ n = l.length - i ∧ st = ⟨0, envA 135 [(7, .x (.one (.ptr 0 0))), (11, .int .i64 (if 1 < i then begP l (i - 2) + (l.getD (i - 2) p0).long else 0)), (74, .x (.one (.own 1))), (75, .int .i64 (l.length : Int)), (76, .int .i64 (i : Int))], [some (bG 1 T (endP l)), some (rowG (plcA l l.length))]⟩) _ _ ⟨0, Nat.zero_le _, rfl, rfl⟩ ?_ ?_
  · refine ⟨[some 0, some 1], rfl, rfl, ?_, ?_⟩ <;> repeat' (first | exact trivial | exact rfl | exact Iff.rfl | apply And.intro)
    exact congrArg Int.ofNat lp
  rintro n _ ⟨i, hi, hn, rfl⟩
  by_cases hi' : i < l.length
  · have g8 : rI (plcA l l.length) (i : Int).toNat (0 + 1 + 1 + 1 + 1 + 1 + 1 + 1 + 1) = begP l i := plc_8 l _ i hi'
    have g9 : rI (plcA l l.length) (i : Int).toNat (0 + 1 + 1 + 1 + 1 + 1 + 1 + 1 + 1 + 1) = begP l i + (l.getD i p0).long := plc_9 l _ i hi'
    have hbi := hbd i hi'
    have hng := begP_nonneg hb hP.poss i hi'
    by_cases hz : i = 0
    · subst hz
      rw [if_neg (by omega)]
      repeat' ((conv => whnf); first | refine Rng.g ?_ | refine Ob.g ?_ | refine Ob.e ?_ | refine Ob.m ?_ | refine Ob.mk (Nat.le_of_ble_eq_true rfl) ?_ | refine JoinVC.on ?_ | refine Nils.mk (fun h => ?_) ?_ | refine Val.t ?_ | refine Val.d ?_ | refine Mm.mk ?_ | (refine Br.mk (fun h => ?_) (fun h => ?_) <;> first | (exfalso; omega; done) | (exfalso; simp at h; done) | skip))
      refine Back.mk (l.length - (0 + 1)) _ (by omega) ⟨0 + 1, by omega, rfl, rfl⟩ ?_
      refine ⟨[some 0, some 1], rfl, rfl, ?_, ?_⟩ <;> repeat' (first | exact trivial | exact rfl | exact Iff.rfl | apply And.intro)
    · have e1 : ((i : Int) - 1).toNat = i - 1 := by omega
      have m8 : rI (plcA l l.length) ((i : Int) - 1).toNat (0 + 1 + 1 + 1 + 1 + 1 + 1 + 1 + 1) = begP l (i - 1) := by rw [e1]; exact plc_8 l _ _ (by omega)
      have m9 : rI (plcA l l.length) ((i : Int) - 1).toNat (0 + 1 + 1 + 1 + 1 + 1 + 1 + 1 + 1 + 1) = begP l (i - 1) + (l.getD (i - 1) p0).long := by rw [e1]; exact plc_9 l _ _ (by omega)
      have hm := hP.poss.mono hb (by omega) hi'
      obtain ⟨v, hv⟩ : ∃ v, v = (if 1 < i then begP l (i - 2) + (l.getD (i - 2) p0).long else 0) := ⟨_, rfl⟩
      have hv2 : v ≤ begP l i := by
        rw [hv]
        split
        · exact hP.poss.free i (by omega) hi'
        · exact hng
      rw [← hv]
      repeat' ((conv => whnf); first | refine Rng.g ?_ | refine Ob.g ?_ | refine Ob.e ?_ | refine Ob.m ?_ | refine Ob.mk (Nat.le_of_ble_eq_true rfl) ?_ | refine JoinVC.on ?_ | refine Nils.mk (fun h => ?_) ?_ | refine Val.t ?_ | refine Val.d ?_ | refine Mm.mk ?_ | (refine Br.mk (fun h => ?_) (fun h => ?_) <;> first | (exfalso; omega; done) | (exfalso; simp at h; done) | skip))
      refine Back.mk (l.length - (i + 1)) _ (by omega) ⟨i + 1, by omega, rfl, rfl⟩ ?_
      refine ⟨[some 0, some 1], rfl, rfl, ?_, ?_⟩ <;> repeat' (first | exact trivial | exact rfl | exact Iff.rfl | apply And.intro)
      rw [m9, if_pos (by omega)]
      rfl
  · repeat' ((conv => whnf); first | refine Rng.g ?_ | refine Ob.g ?_ | refine Ob.e ?_ | refine Ob.m ?_ | refine Ob.mk (Nat.le_of_ble_eq_true rfl) ?_ | refine JoinVC.on ?_ | refine Nils.mk (fun h => ?_) ?_ | refine Val.t ?_ | refine Val.d ?_ | refine Mm.mk ?_ | (refine Br.mk (fun h => ?_) (fun h => ?_) <;> first | (exfalso; omega; done) | (exfalso; simp at h; done) | skip))
    repeat refine Mm.mk ?_
    refine EndVC.mk _ rfl _ _ ⟨rfl, rfl⟩ ?_
    refine ⟨[some 0, some 1], rfl, rfl, ?_, ?_⟩ <;> repeat' (first | exact trivial | exact rfl | exact Iff.rfl | apply And.intro)
end Go.Sx

namespace Go.Sx
open Go Go.Proofs
set_option maxRecDepth 10000
set_option maxHeartbeats 4000000
/-- The gain of a sample of a part. -/
theorem s199 (n d s : Int) (hd : 0 < d) (hn : -9000000000000000000 ≤ s * n ∧ s * n ≤ 9000000000000000000) (hq : -9000000000000000000 ≤ (s * n).tdiv d ∧ (s * n).tdiv d ≤ 9000000000000000000) : PSpec Tryz.prog 199 [.agg [.int .i64 n, .int .i64 d], I s] (.x (I ((s * n).tdiv d))) := by
  refine spec_of pMix (O := []) Tryz.func199 (c := bodyOf Tryz.f199) rfl (by kernel_rfl) (by kernel_rfl) Tryz.ntmps199 (res := [.tmp 4]) (by kernel_rfl) ?_
  repeat' ((conv => whnf); first | refine Rng.g ?_ | refine Ob.g ?_ | refine Ob.e ?_ | refine Ob.m ?_ | refine Ob.mk (Nat.le_of_ble_eq_true rfl) ?_ | refine JoinVC.on ?_ | refine Nils.mk (fun h => ?_) ?_ | refine Val.t ?_ | refine Val.d ?_ | refine Mm.mk ?_ | (refine Br.mk (fun h => ?_) (fun h => ?_) <;> first | (exfalso; omega; done) | (exfalso; simp at h; done) | skip))
  refine Val.mk _ rfl ?_
  repeat' ((conv => whnf); first | refine Rng.g ?_ | refine Ob.g ?_ | refine Ob.e ?_ | refine Ob.m ?_ | refine Ob.mk (Nat.le_of_ble_eq_true rfl) ?_ | refine JoinVC.on ?_ | refine Nils.mk (fun h => ?_) ?_ | refine Val.t ?_ | refine Val.d ?_ | refine Mm.mk ?_ | (refine Br.mk (fun h => ?_) (fun h => ?_) <;> first | (exfalso; omega; done) | (exfalso; simp at h; done) | skip))
  repeat refine Mm.mk ?_
  refine EndVC.mk _ rfl _ _ ⟨rfl, rfl⟩ ?_
  refine ⟨[], rfl, rfl, ?_, ?_⟩ <;> repeat' (first | exact trivial | exact rfl | exact Iff.rfl | apply And.intro)
@[reducible] def plcX (p : Prt) (i b e : Int) : XV := .agg [.int .i64 p.tk, .int .i64 p.fr, .int .i64 p.to, .int .i64 p.gap, .int .i64 p.inn, .int .i64 p.out, .int .i64 p.lev, .int .i64 i, .int .i64 b, .int .i64 e]
theorem s198 (p : Prt) (i b k lev : Int) (hF : PF p k lev) (_hb : 0 ≤ b ∧ b ≤ 100000) : PSpec Tryz.prog 198 [plcX p i b (b + p.long), I k, I lev] (.x (.agg [.int .i64 (lev * upF p k * dnF p k), .int .i64 (denF p)])) := by
  have hp := hF.pb
  have h1 := hp.fr; have h2 := hp.to; have h3 := hF.inn; have h4 := hF.out; have h5 := hF.k; have h6 := hF.lev
  have hd := hF.den
  have hL : p.long = p.to - p.fr := rfl
  have hup := hF.up; have hdn := hF.dn
  have hu : (if p.inn < k then p.inn else k) + 1 = upF p k := by unfold upF; split <;> rfl
  have hn : (if p.out < b + p.long - b - k - 1 then p.out else b + p.long - b - k - 1) + 1 = dnF p k := by unfold dnF; split <;> split <;> omega
  have m1 := mul_rng (a := lev) (b := upF p k) (A := 4000) (B := 1001) (by omega) (by omega)
  have m2 := mul_rng (a := lev * upF p k) (b := dnF p k) (A := 4004000) (B := 1001) (by omega) (by omega)
  have hd' : 1000 ≤ 1000 * (p.inn + 1) * (p.out + 1) ∧ 1000 * (p.inn + 1) * (p.out + 1) ≤ 1002001000 := hd
  refine spec_of pMix (O := []) Tryz.func198 (c := bodyOf Tryz.f198) rfl (by kernel_rfl) (by kernel_rfl) Tryz.ntmps198 (res := [.cell 6 325]) (by kernel_rfl) ?_
  repeat' ((conv => whnf); first | rw [hu] | rw [hn] | refine Rng.g ?_ | refine Ob.g ?_ | refine Ob.e ?_ | refine Ob.m ?_ | refine Ob.mk (Nat.le_of_ble_eq_true rfl) ?_ | refine JoinVC.on ?_ | refine Nils.mk (fun h => ?_) ?_ | refine Val.t ?_ | refine Val.d ?_ | refine Mm.mk ?_ | (refine Br.mk (fun h => ?_) (fun h => ?_) <;> first | (exfalso; omega; done) | (exfalso; simp at h; done) | skip))
  repeat refine Mm.mk ?_
  refine EndVC.mk _ rfl _ _ ⟨rfl, rfl⟩ ?_
  refine ⟨[], rfl, rfl, ?_, ?_⟩ <;> repeat' (first | exact trivial | exact rfl | exact Iff.rfl | apply And.intro)
theorem loud_assoc (s : Int) (p : Prt) (k lev : Int) : (s * (lev * upF p k * dnF p k)).tdiv (denF p) = loudF s p k lev := by
  unfold loudF
  rw [← Int.mul_assoc, ← Int.mul_assoc]
theorem s102 (T : List Tak) (A : Arr) (n : Int) (p : Prt) (i b k lev : Int) (hF : SF T p k lev) (hb : 0 ≤ b ∧ b ≤ 100000) : PSpec Tryz.prog 102 [gX T A n, plcX p i b (b + p.long), I k, I lev] (.x (sndF T p k lev).x) := by
  have lt := takA_len T
  have ho := hF.ok
  unfold partOK at ho
  have hk := hF.k
  have hL : p.long = p.to - p.fr := rfl
  have hbt := hF.pf.pb.to
  have e0 : rA [[Cell.sl (takA T), .sl A, .int n]] 0 0 = takA T := rfl
  have gd : rA (takA T) p.tk.toNat (0 + (0 + 1)) = smpA (T.getD p.tk.toNat t0).d := takA_d T _
  have gl : (rA (takA T) p.tk.toNat (0 + (0 + 1))).length = (T.getD p.tk.toNat t0).d.length := (congrArg List.length gd).trans (smpA_len _)
  have hs := hF.smp
  unfold Smp.ok at hs
  have hd := hF.pf.den
  have key : ∀ v, -32767 ≤ v ∧ v ≤ 32767 → PSpec Tryz.prog 199 [.agg [.int .i64 (lev * upF p k * dnF p k), .int .i64 (denF p)], I v] (.x (I (loudF v p k lev))) := fun v hv => by
    rw [← loud_assoc]
    have h1 := hF.pf.steps hv
    have h2 := hF.pf.loud hv
    refine s199 _ _ v (by omega) ?_ (by rw [loud_assoc]; omega)
    rw [← Int.mul_assoc, ← Int.mul_assoc]; omega
  have c1 : PSpec Tryz.prog 199 [.agg [.int .i64 (lev * upF p k * dnF p k), .int .i64 (denF p)], I (rI (rA (takA T) p.tk.toNat (0 + (0 + 1))) (p.fr + k).toNat 0)] (.x (I (sndF T p k lev).l)) := by
    rw [gd, smpA_l]; exact key _ (by unfold smpAt at hs; omega)
  have c2 : PSpec Tryz.prog 199 [.agg [.int .i64 (lev * upF p k * dnF p k), .int .i64 (denF p)], I (rI (rA (takA T) p.tk.toNat (0 + (0 + 1))) (p.fr + k).toNat (0 + (0 + 1)))] (.x (I (sndF T p k lev).r)) := by
    rw [gd, smpA_r]; exact key _ (by unfold smpAt at hs; omega)
  refine spec_of pMix (O := [(2, ([17], [⟨0, [], []⟩, ⟨1, [], []⟩, ⟨2, [], []⟩, ⟨3, [], []⟩, ⟨4, [], []⟩, ⟨5, [], []⟩, ⟨6, [], []⟩, ⟨7, [], []⟩, ⟨8, [], []⟩, ⟨9, [], []⟩, ⟨10, [], []⟩, ⟨11, [], []⟩, ⟨12, [], []⟩, ⟨13, [], []⟩, ⟨14, [], []⟩, ⟨15, [], []⟩, ⟨16, [], []⟩, ⟨17, [], []⟩, ⟨18, [], []⟩])), (3, ([], [⟨0, [], []⟩, ⟨1, [], []⟩, ⟨2, [], []⟩, ⟨4, [], []⟩, ⟨5, [], []⟩, ⟨6, [], []⟩, ⟨3, [4, 5, 6], []⟩, ⟨7, [], []⟩, ⟨8, [], []⟩, ⟨9, [], []⟩]))]) Tryz.func102 (c := bodyOf Tryz.f102) rfl (by kernel_rfl) (by kernel_rfl) Tryz.ntmps102 (res := [.cell 8 47]) (by kernel_rfl) ?_
  repeat' ((conv => whnf); first | rw [e0] | refine Rng.g ?_ | refine Ob.g ?_ | refine Ob.e ?_ | refine Ob.m ?_ | refine Ob.mk (Nat.le_of_ble_eq_true rfl) ?_ | refine JoinVC.on ?_ | refine Nils.mk (fun h => ?_) ?_ | refine Val.t ?_ | refine Val.d ?_ | refine Mm.mk ?_ | refine CallVC.pure rfl (s198 p i b k lev hF.pf hb) ?_ | refine CallVC.pure rfl (c1) ?_ | refine CallVC.pure rfl (c2) ?_ | refine CallVC0.pure rfl (s198 p i b k lev hF.pf hb) ?_ | refine CallVC0.pure rfl (c1) ?_ | refine CallVC0.pure rfl (c2) ?_ | (refine Br.mk (fun h => ?_) (fun h => ?_) <;> first | (exfalso; omega; done) | (exfalso; simp at h; done) | skip))
  repeat refine Mm.mk ?_
  refine EndVC.mk _ rfl _ _ ⟨rfl, rfl⟩ ?_
  refine ⟨[], rfl, rfl, ?_, ?_⟩ <;> repeat' (first | exact trivial | exact rfl | exact Iff.rfl | apply And.intro)
end Go.Sx

namespace Go.Sx
open Go Go.Proofs
set_option maxRecDepth 10000
set_option maxHeartbeats 4000000
theorem s101 (a b : Smp) (ha : (-5000000 ≤ a.l ∧ a.l ≤ 5000000) ∧ (-5000000 ≤ a.r ∧ a.r ≤ 5000000)) (hb : (-5000000 ≤ b.l ∧ b.l ≤ 5000000) ∧ (-5000000 ≤ b.r ∧ b.r ≤ 5000000)) : PSpec Tryz.prog 101 [a.x, b.x] (.x (addS a b).x) := by
  refine spec_of pMix (O := []) Tryz.func101 (c := bodyOf Tryz.f101) rfl (by kernel_rfl) (by kernel_rfl) Tryz.ntmps101 (res := [.cell 4 47]) (by kernel_rfl) ?_
  repeat' ((conv => whnf); first | refine Rng.g ?_ | refine Ob.g ?_ | refine Ob.e ?_ | refine Ob.m ?_ | refine Ob.mk (Nat.le_of_ble_eq_true rfl) ?_ | refine JoinVC.on ?_ | refine Nils.mk (fun h => ?_) ?_ | refine Val.t ?_ | refine Val.d ?_ | refine Mm.mk ?_ | (refine Br.mk (fun h => ?_) (fun h => ?_) <;> first | (exfalso; omega; done) | (exfalso; simp at h; done) | skip))
  repeat refine Mm.mk ?_
  refine EndVC.mk _ rfl _ _ ⟨rfl, rfl⟩ ?_
  refine ⟨[], rfl, rfl, ?_, ?_⟩ <;> repeat' (first | exact trivial | exact rfl | exact Iff.rfl | apply And.intro)
/-- What is rendered, part by part. -/
structure Acc (T : List Tak) (l : List Prt) (O : List Smp) (i : Nat) (e : Int) : Prop where
  len : O.length = (endP l).toNat
  get : ∀ t : Nat, t < (endP l).toNat → O.getD t s0 = if begP l i ≤ t ∧ (t : Int) < e then sumI T l t (srcI l t (i + 1)) else sumI T l t (srcI l t i)
theorem Acc.next {T : List Tak} {l : List Prt} {O : List Smp} {i : Nat} (h : Acc T l O i (begP l i + (l.getD i p0).long)) : Acc T l O (i + 1) (begP l (i + 1)) := by
  refine ⟨h.len, fun t ht => ?_⟩
  rw [h.get t ht, if_neg (by omega : ¬ (begP l (i + 1) ≤ (t : Int) ∧ (t : Int) < begP l (i + 1)))]
  split
  · rfl
  · rename_i hn
    rw [srcI_succ, if_neg (show ¬ onB l t i = true from fun h => hn (of_decide_eq_true h)), List.append_nil]
theorem Acc.step {T : List Tak} {l : List Prt} {O : List Smp} {i : Nat} {t : Nat} (h : Acc T l O i t) (ht : t < (endP l).toNat) (h1 : begP l i ≤ t) (h2 : (t : Int) < begP l i + (l.getD i p0).long) : Acc T l (O.set t (addS (O.getD t s0) (sndI T l t i))) i (t + 1 : Nat) := by
  have hl := h.len
  refine ⟨by rw [List.length_set]; exact hl, fun u hu => ?_⟩
  rw [getD_set' _ _ _ _ _ (by omega)]
  by_cases e : t = u
  · subst e
    rw [if_pos rfl, if_pos ⟨h1, by omega⟩, h.get t ht, if_neg (by omega), srcI_succ, if_pos (show onB l t i = true from decide_eq_true ⟨h1, h2⟩), sumI_snoc]
  · rw [if_neg e, h.get u hu]
    by_cases h3 : begP l i ≤ u ∧ (u : Int) < t
    · rw [if_pos h3, if_pos ⟨h3.1, by omega⟩]
    · rw [if_neg h3, if_neg (by omega)]
theorem Acc.fin {T : List Tak} {l : List Prt} {O : List Smp} (h : Acc T l O l.length (begP l l.length)) : O = rend T l := by
  refine List.ext_getElem (by rw [h.len, rend_len]) fun j h1 h2 => ?_
  have h3 := h.get j (by rw [← h.len]; exact h1)
  rw [if_neg (by omega)] at h3
  have h4 := rend_get T l j (by rw [← h.len]; exact h1)
  unfold rendAt at h4
  rw [← h4] at h3
  simpa [List.getD_eq_getElem?_getD, h1, h2] using h3
theorem sumI_bd2 {T : List Tak} {l : List Prt} (hP : ProgOK T l) (t : Int) {i : Nat} (hi : i ≤ l.length) : (-4194176 ≤ (sumI T l t (srcI l t i)).l ∧ (sumI T l t (srcI l t i)).l ≤ 4194176) ∧ (-4194176 ≤ (sumI T l t (srcI l t i)).r ∧ (sumI T l t (srcI l t i)).r ≤ 4194176) := by
  have h1 := sumI_bd (T := T) (l := l) (t := t) (L := srcI l t i) (fun j hj => hP.sf (by
    obtain ⟨h2, h3, h4⟩ := srcI_mem hj
    unfold srcI
    rw [List.mem_filter, List.mem_range]
    exact ⟨by omega, decide_eq_true ⟨h3, h4⟩⟩))
  have h2 := srcI_len l t i
  have h3 := hP.len
  omega
theorem plc_x (l : List Prt) (n i : Nat) (h : i < n) (j : Nat) : rI (plcA l n) i j = ((plcR l i).getD j (.int 0)).toInt := by simp only [rI, cellAt, plcA_at l n i h]
theorem Poss.inside {l : List Prt} (hb : PBs l) (hP : Poss l) : ∀ k i, i + k = l.length → 0 < k → begP l i + (l.getD i p0).long ≤ endP l := by
  intro k
  induction k with
  | zero => intro i _ h; omega
  | succ k ih =>
    intro i hi _
    by_cases hk : k = 0
    · have h2 := endP_succ l (show i < l.length by omega)
      have h3 : i + 1 = l.length := by omega
      rw [h3, List.take_length] at h2
      omega
    · have h1 := ih (i + 1) (by omega) (by omega)
      have h2 := hP.mono hb (i := i + 1) (by omega) (by omega)
      have h3 : i + 1 - 1 = i := by omega
      rw [h3] at h2
      omega
theorem s26 (T : List Tak) (l : List Prt) (hP : ProgOK T l) : HSpec Tryz.prog 26 [lT T, lP l] [] (fun r m' => (smpE (rend T l) = 0 ∧ r = .tup [.one (.own 0), I 0] ∧ m' = [some (rowS (rend T l))]) ∨ (smpE (rend T l) ≠ 0 ∧ r = .tup [.one .nils, I 4] ∧ m' = [])) := by
  have hb := hP.pbs
  have h32 := hb.1
  have he := endP_nonneg hb hP.poss
  have he2 := hP.poss.stop
  have lp := plcA_len l l.length
  refine spec_of pMix (O := [(11, ([], [⟨0, [], []⟩, ⟨1, [], []⟩, ⟨2, [], []⟩, ⟨3, [], []⟩, ⟨4, [], []⟩, ⟨5, [], []⟩, ⟨6, [], []⟩, ⟨7, [], []⟩, ⟨8, [], []⟩, ⟨9, [], []⟩, ⟨10, [], []⟩, ⟨11, [], []⟩, ⟨12, [], []⟩, ⟨13, [], []⟩, ⟨14, [], []⟩, ⟨15, [0, 1, 2, 3, 4, 5], []⟩, ⟨16, [0, 1], []⟩, ⟨17, [], []⟩, ⟨18, [], []⟩]))]) Tryz.func26 (c := bodyOf Tryz.f26) rfl (by kernel_rfl) (by kernel_rfl) Tryz.ntmps26 (res := [.tmp 4, .tmp 5]) (by kernel_rfl) ?_
  repeat' ((conv => whnf); first | refine Rng.g ?_ | refine Ob.g ?_ | refine Ob.e ?_ | refine Ob.m ?_ | refine Ob.mk (Nat.le_of_ble_eq_true rfl) ?_ | refine JoinVC.on ?_ | refine Nils.mk (fun h => ?_) ?_ | refine Val.t ?_ | refine Val.d ?_ | refine Mm.mk ?_ | (refine Br.mk (fun h => ?_) (fun h => ?_) <;> first | (exfalso; omega; done) | (exfalso; simp at h; done) | skip))
  conv => whnf
  refine CallVC.mk [] _ _ _ rfl rfl rfl (s100 T l hP) (fun r m' h' => ?_)
  obtain ⟨rfl, rfl⟩ := h'
  conv => whnf
  repeat' ((conv => whnf); first | refine Rng.g ?_ | refine Ob.g ?_ | refine Ob.e ?_ | refine Ob.m ?_ | refine Ob.mk (Nat.le_of_ble_eq_true rfl) ?_ | refine JoinVC.on ?_ | refine Nils.mk (fun h => ?_) ?_ | refine Val.t ?_ | refine Val.d ?_ | refine Mm.mk ?_ | (refine Br.mk (fun h => ?_) (fun h => ?_) <;> first | (exfalso; omega; done) | (exfalso; simp at h; done) | skip))
  repeat refine Mm.mk ?_
  refine Ob.mk (by simp only [eb47]; omega) ?_
  repeat' ((conv => whnf); first | refine Rng.g ?_ | refine Ob.g ?_ | refine Ob.e ?_ | refine Ob.m ?_ | refine Ob.mk (Nat.le_of_ble_eq_true rfl) ?_ | refine JoinVC.on ?_ | refine Nils.mk (fun h => ?_) ?_ | refine Val.t ?_ | refine Val.d ?_ | refine Mm.mk ?_ | (refine Br.mk (fun h => ?_) (fun h => ?_) <;> first | (exfalso; omega; done) | (exfalso; simp at h; done) | skip))
  refine LoopVC.mk (fun n st => ∃ (i : Nat) (O : List Smp), i ≤ l.length ∧ n = l.length - i ∧ Acc T l O i (begP l i) ∧ st = ⟨0, envA 66 [(6, .x (.one (.ptr 0 0))), (8, .x (.one (.own 2))), (29, .x (.one (.own 1))), (30, .int .i64 (l.length : Int)), (31, .int .i64 (i : Int))], [some (bG 1 T (endP l)), some (rowG (plcA l l.length)), some (rowS O)]⟩) _ _ ⟨0, List.replicate (endP l).toNat s0, Nat.zero_le _, rfl, ⟨by simp, fun t ht => by rw [if_neg (by omega)]; simp [List.getD_eq_getElem?_getD, List.getElem?_replicate, srcI, sumI]; split <;> rfl⟩, rfl⟩ ?_ ?_
  · refine ⟨[some 0, some 1, some 2], rfl, rfl, ?_, ?_⟩ <;> repeat' (first | exact trivial | exact rfl | exact Iff.rfl | apply And.intro)
    · exact congrArg Int.ofNat lp
    · exact smpA_rep _
  rintro n _ ⟨i, O, hi, hn, hO, rfl⟩
  by_cases hi' : i < l.length
  · have g8 : rI (plcA l l.length) (i : Int).toNat (0 + 1 + 1 + 1 + 1 + 1 + 1 + 1 + 1) = begP l i := plc_8 l _ i hi'
    have g9 : rI (plcA l l.length) (i : Int).toNat (0 + 1 + 1 + 1 + 1 + 1 + 1 + 1 + 1 + 1) = begP l i + (l.getD i p0).long := plc_9 l _ i hi'
    have hbi := begP_nonneg hb hP.poss i hi'
    have hpi := hb.2 i hi'
    obtain ⟨b1, b2, b3⟩ := id hpi
    have hlo : (l.getD i p0).long = (l.getD i p0).to - (l.getD i p0).fr := rfl
    have hin := hP.poss.inside hb (l.length - i) i (by omega) (by omega)
    repeat' ((conv => whnf); first | refine Rng.g ?_ | refine Ob.g ?_ | refine Ob.e ?_ | refine Ob.m ?_ | refine Ob.mk (Nat.le_of_ble_eq_true rfl) ?_ | refine JoinVC.on ?_ | refine Nils.mk (fun h => ?_) ?_ | refine Val.t ?_ | refine Val.d ?_ | refine Mm.mk ?_ | (refine Br.mk (fun h => ?_) (fun h => ?_) <;> first | (exfalso; omega; done) | (exfalso; simp at h; done) | skip))
    refine LoopVC.mk (fun n st => ∃ (t : Nat) (O : List Smp), begP l i ≤ t ∧ (t : Int) ≤ begP l i + (l.getD i p0).long ∧ n = (begP l i + (l.getD i p0).long).toNat - t ∧ Acc T l O i t ∧ st = ⟨0, envA 66 [(6, .x (.one (.ptr 0 0))), (8, .x (.one (.own 2))), (10, .x (.one (.ptr 3 0))), (11, .int .i64 (t : Int)), (29, .x (.one (.own 1))), (30, .int .i64 (l.length : Int)), (31, .int .i64 (i : Int))], [some (bG 1 T (endP l)), some (rowG (plcA l l.length)), some (rowS O), some (.box 206 [.int .i64 (l.getD i p0).tk, .int .i64 (l.getD i p0).fr, .int .i64 (l.getD i p0).to, .int .i64 (l.getD i p0).gap, .int .i64 (l.getD i p0).inn, .int .i64 (l.getD i p0).out, .int .i64 (l.getD i p0).lev, .int .i64 (i : Int), .int .i64 (begP l i), .int .i64 (begP l i + (l.getD i p0).long)])]⟩) _ _ ⟨(begP l i).toNat, O, by omega, by omega, rfl, by rw [Int.toNat_of_nonneg hbi]; exact hO, rfl⟩ ?_ ?_
    · rw [Int.toNat_of_nonneg hbi]
      refine ⟨[some 0, some 1, some 2, some 3], rfl, rfl, ?_, ?_⟩ <;> repeat' (first | exact trivial | exact rfl | exact Iff.rfl | apply And.intro)
      all_goals (rw [Int.toNat_natCast, plc_x l _ i hi']; rfl)
    clear hO
    rintro n2 _ ⟨t, O, ht1, ht2, hn2, hO, rfl⟩
    have lO := smpA_len O
    have hOl := hO.len
    by_cases ht : (t : Int) < begP l i + (l.getD i p0).long
    · have hsf := hP.sf (t := t) (i := i) (by unfold srcI; rw [List.mem_filter, List.mem_range]; exact ⟨hi', decide_eq_true ⟨ht1, ht⟩⟩)
      have hsn : (-131068 ≤ (sndI T l t i).l ∧ (sndI T l t i).l ≤ 131068) ∧ (-131068 ≤ (sndI T l t i).r ∧ (sndI T l t i).r ≤ 131068) := hsf.snd
      have htN : t < (endP l).toNat := by omega
      have hget := hO.get t htN
      rw [if_neg (by omega)] at hget
      have hbd := sumI_bd2 hP t (i := i) (by omega)
      rw [← hget] at hbd
      have c1 : PSpec Tryz.prog 102 [gX T (plcA l l.length) (endP l), plcX (l.getD i p0) i (begP l i) (begP l i + (l.getD i p0).long), I ((t : Int) - begP l i), I (l.getD i p0).lev] (.x (sndI T l t i).x) := s102 T _ _ _ _ _ _ _ hsf (by omega)
      have a0 : rI (smpA O) (t : Int).toNat 0 = (O.getD t s0).l := by rw [Int.toNat_natCast, smpA_l]
      have a1 : rI (smpA O) (t : Int).toNat (0 + 1) = (O.getD t s0).r := by rw [Int.toNat_natCast, smpA_r]
      have c2 : PSpec Tryz.prog 101 [.agg [.int .i64 (rI (smpA O) (t : Int).toNat 0), .int .i64 (rI (smpA O) (t : Int).toNat (0 + 1))], (sndI T l t i).x] (.x (addS (O.getD t s0) (sndI T l t i)).x) := by
        rw [a0, a1]; exact s101 _ _ (by omega) (by omega)
      have u1 : updRow (smpA O) (t : Int).toNat 0 [.int (addS (O.getD t s0) (sndI T l t i)).l, .int (addS (O.getD t s0) (sndI T l t i)).r] = smpA (O.set t (addS (O.getD t s0) (sndI T l t i))) := by rw [Int.toNat_natCast]; exact smpA_set O t _ (by omega)
      repeat' ((conv => whnf); first | rw [u1] | refine Rng.g ?_ | refine Ob.g ?_ | refine Ob.e ?_ | refine Ob.m ?_ | refine Ob.mk (Nat.le_of_ble_eq_true rfl) ?_ | refine JoinVC.on ?_ | refine Nils.mk (fun h => ?_) ?_ | refine Val.t ?_ | refine Val.d ?_ | refine Mm.mk ?_ | refine CallVC.pure rfl (c1) ?_ | refine CallVC.pure rfl (c2) ?_ | refine CallVC0.pure rfl (c1) ?_ | refine CallVC0.pure rfl (c2) ?_ | (refine Br.mk (fun h => ?_) (fun h => ?_) <;> first | (exfalso; omega; done) | (exfalso; simp at h; done) | skip))
      refine Back.mk ((begP l i + (l.getD i p0).long).toNat - (t + 1)) _ (by omega) ⟨t + 1, _, by omega, by omega, rfl, hO.step htN ht1 ht, rfl⟩ ?_
      refine ⟨[some 0, some 1, some 2, some 3], rfl, rfl, ?_, ?_⟩ <;> repeat' (first | exact trivial | exact rfl | exact Iff.rfl | apply And.intro)
    · have e : (t : Int) = begP l i + (l.getD i p0).long := by omega
      rw [e] at hO
      repeat' ((conv => whnf); first | refine Rng.g ?_ | refine Ob.g ?_ | refine Ob.e ?_ | refine Ob.m ?_ | refine Ob.mk (Nat.le_of_ble_eq_true rfl) ?_ | refine JoinVC.on ?_ | refine Nils.mk (fun h => ?_) ?_ | refine Val.t ?_ | refine Val.d ?_ | refine Mm.mk ?_ | (refine Br.mk (fun h => ?_) (fun h => ?_) <;> first | (exfalso; omega; done) | (exfalso; simp at h; done) | skip))
      refine Back.mk (l.length - (i + 1)) _ (by omega) ⟨i + 1, O, by omega, rfl, hO.next, rfl⟩ ?_
      refine ⟨[some 0, some 1, some 2], rfl, rfl, ?_, ?_⟩ <;> repeat' (first | exact trivial | exact rfl | exact Iff.rfl | apply And.intro)
  · have e1 : i = l.length := by omega
    subst e1
    rw [hO.fin]
    have c1 := s103 (rend T l)
    by_cases hE : smpE (rend T l) = 0
    · repeat' ((conv => whnf); first | refine Rng.g ?_ | refine Ob.g ?_ | refine Ob.e ?_ | refine Ob.m ?_ | refine Ob.mk (Nat.le_of_ble_eq_true rfl) ?_ | refine JoinVC.on ?_ | refine Nils.mk (fun h => ?_) ?_ | refine Val.t ?_ | refine Val.d ?_ | refine Mm.mk ?_ | refine CallVC.pure rfl (c1) ?_ | refine CallVC0.pure rfl (c1) ?_ | (refine Br.mk (fun h => ?_) (fun h => ?_) <;> first | (exfalso; omega; done) | (exfalso; simp at h; done) | skip))
      repeat refine Mm.mk ?_
      conv => whnf
      refine EndVC.mk _ rfl _ _ (.inl ⟨hE, rfl, rfl⟩) ?_
      refine ⟨[some 2], rfl, rfl, ?_, ?_⟩ <;> repeat' (first | exact trivial | exact rfl | exact Iff.rfl | apply And.intro)
    · repeat' ((conv => whnf); first | refine Rng.g ?_ | refine Ob.g ?_ | refine Ob.e ?_ | refine Ob.m ?_ | refine Ob.mk (Nat.le_of_ble_eq_true rfl) ?_ | refine JoinVC.on ?_ | refine Nils.mk (fun h => ?_) ?_ | refine Val.t ?_ | refine Val.d ?_ | refine Mm.mk ?_ | refine CallVC.pure rfl (c1) ?_ | refine CallVC0.pure rfl (c1) ?_ | (refine Br.mk (fun h => ?_) (fun h => ?_) <;> first | (exfalso; omega; done) | (exfalso; simp at h; done) | skip))
      repeat refine Mm.mk ?_
      conv => whnf
      refine EndVC.mk _ rfl _ _ (.inr ⟨hE, rfl, rfl⟩) ?_
      refine ⟨[], rfl, rfl, ?_, ?_⟩ <;> repeat' (first | exact trivial | exact rfl | exact Iff.rfl | apply And.intro)
end Go.Sx

namespace Go.Sx
open Go Go.Proofs
set_option maxRecDepth 10000
set_option maxHeartbeats 2000000
/-- The point of a sample (in, out). -/
def ptF (c : Cut) (s : Smp) : Smp := ⟨(s.r * c.gain).tdiv 1000 - c.half, (s.l * c.gain).tdiv 1000 + c.half⟩
theorem gain_rng {c : Cut} (hC : CutOK c) {n : Int} (hn : -32767 ≤ n ∧ n ≤ 32767) : (-3276700000 ≤ n * c.gain ∧ n * c.gain ≤ 3276700000) ∧ (-3276700 ≤ (n * c.gain).tdiv 1000 ∧ (n * c.gain).tdiv 1000 ≤ 3276700) := by
  have hg := hC.gain
  have h1 := mul_rng (a := n) (b := c.gain) (A := 32767) (B := 100000) hn hg
  have h2 := tdiv_rng (a := n * c.gain) (d := 1000) (B := 3276700) (by decide) (by omega)
  omega
theorem s106 (c : Cut) (s : Smp) (hC : CutOK c) (hs : s.ok) : PSpec Tryz.prog 106 [c.x, s.x] (.x (ptF c s).x) := by
  obtain ⟨h1, h2, h3, h4⟩ := hs
  have g1 := gain_rng hC ⟨h1, h2⟩
  have g2 := gain_rng hC ⟨h3, h4⟩
  have g3 := hC.half
  refine spec_of pMix (O := []) Tryz.func106 (c := bodyOf Tryz.f106) rfl (by kernel_rfl) (by kernel_rfl) Tryz.ntmps106 (res := [.cell 4 51]) (by kernel_rfl) ?_
  repeat' ((conv => whnf); first | refine Rng.g ?_ | refine Ob.g ?_ | refine Ob.e ?_ | refine Ob.m ?_ | refine Ob.mk (Nat.le_of_ble_eq_true rfl) ?_ | refine JoinVC.on ?_ | refine Nils.mk (fun h => ?_) ?_ | refine Val.t ?_ | refine Val.d ?_ | refine Mm.mk ?_ | (refine Br.mk (fun h => ?_) (fun h => ?_) <;> first | (exfalso; omega; done) | (exfalso; simp at h; done) | skip))
  refine Val.mk _ rfl ?_
  repeat' ((conv => whnf); first | refine Rng.g ?_ | refine Ob.g ?_ | refine Ob.e ?_ | refine Ob.m ?_ | refine Ob.mk (Nat.le_of_ble_eq_true rfl) ?_ | refine JoinVC.on ?_ | refine Nils.mk (fun h => ?_) ?_ | refine Val.t ?_ | refine Val.d ?_ | refine Mm.mk ?_ | (refine Br.mk (fun h => ?_) (fun h => ?_) <;> first | (exfalso; omega; done) | (exfalso; simp at h; done) | skip))
  refine Val.mk _ rfl ?_
  repeat' ((conv => whnf); first | refine Rng.g ?_ | refine Ob.g ?_ | refine Ob.e ?_ | refine Ob.m ?_ | refine Ob.mk (Nat.le_of_ble_eq_true rfl) ?_ | refine JoinVC.on ?_ | refine Nils.mk (fun h => ?_) ?_ | refine Val.t ?_ | refine Val.d ?_ | refine Mm.mk ?_ | (refine Br.mk (fun h => ?_) (fun h => ?_) <;> first | (exfalso; omega; done) | (exfalso; simp at h; done) | skip))
  repeat refine Mm.mk ?_
  refine EndVC.mk _ rfl _ _ ⟨rfl, rfl⟩ ?_
  refine ⟨[], rfl, rfl, ?_, ?_⟩ <;> repeat' (first | exact trivial | exact rfl | exact Iff.rfl | apply And.intro)
theorem s107 (p : Smp) : PSpec Tryz.prog 107 [p.x] (xP ((p.l ≥ -4194304 ∧ p.l ≤ 4194304) ∧ (p.r ≥ -4194304 ∧ p.r ≤ 4194304))) := by
  refine spec_of pMix (O := []) Tryz.func107 (c := bodyOf Tryz.f107) rfl (by kernel_rfl) (by kernel_rfl) Tryz.ntmps107 (res := [.tmp 2]) (by kernel_rfl) ?_
  repeat' ((conv => whnf); first | refine Rng.g ?_ | refine Ob.g ?_ | refine Ob.e ?_ | refine Ob.m ?_ | refine Ob.mk (Nat.le_of_ble_eq_true rfl) ?_ | refine JoinVC.on ?_ | refine Nils.mk (fun h => ?_) ?_ | refine Val.t ?_ | refine Val.d ?_ | refine Mm.mk ?_ | refine CallVC.pure rfl (s205 p.l (-4194304) 4194304) ?_ | refine CallVC.pure rfl (s205 p.r (-4194304) 4194304) ?_ | refine CallVC0.pure rfl (s205 p.l (-4194304) 4194304) ?_ | refine CallVC0.pure rfl (s205 p.r (-4194304) 4194304) ?_ | (refine Br.mk (fun h => ?_) (fun h => ?_) <;> first | (exfalso; omega; done) | (exfalso; simp at h; done) | skip))
  · repeat refine Mm.mk ?_
    refine EndVC.mk _ rfl _ _ ⟨rfl, rfl⟩ ?_
    refine ⟨[], rfl, rfl, ?_, ?_⟩ <;> repeat' (first | exact trivial | exact rfl | exact Iff.rfl | apply And.intro)
    exact ⟨fun h2 => ⟨h, h2⟩, fun h2 => h2.2⟩
  · repeat refine Mm.mk ?_
    refine EndVC.mk _ rfl _ _ ⟨rfl, rfl⟩ ?_
    refine ⟨[], rfl, rfl, ?_, ?_⟩ <;> repeat' (first | exact trivial | exact rfl | exact Iff.rfl | apply And.intro)
    exact fun h2 => h h2.1
@[reducible] def smpX (l : List Smp) (i : Nat) : XV := .agg [.int .i64 (rI (smpA l) (i : Int).toNat 0), .int .i64 (rI (smpA l) (i : Int).toNat (0 + 1))]
theorem smpX_eq (l : List Smp) (i : Nat) : smpX l i = (l.getD i s0).x := by
  unfold smpX Smp.x
  rw [Int.toNat_natCast, smpA_l, smpA_r]
/-- A list that is filled from the front. -/
structure Fill (f : Nat → Smp) (n : Nat) (O : List Smp) (i : Nat) : Prop where
  len : O.length = n
  done : ∀ j, j < i → O.getD j s0 = f j
theorem Fill.step {f : Nat → Smp} {n : Nat} {O : List Smp} {i : Nat} (h : Fill f n O i) (hi : i < n) : Fill f n (O.set i (f i)) (i + 1) := by
  have hl := h.len
  refine ⟨by rw [List.length_set]; exact hl, fun j hj => ?_⟩
  rw [getD_set' _ _ _ _ _ (by omega)]
  split
  · rename_i e; rw [e]
  · exact h.done j (by omega)
theorem Fill.fin {f : Nat → Smp} {n : Nat} {O : List Smp} (h : Fill f n O n) : O = (List.range n).map f := by
  have hl := h.len
  refine List.ext_getElem (by simp [hl]) fun j h1 h2 => ?_
  have h3 := h.done j (by omega)
  simpa [List.getD_eq_getElem?_getD, h1] using h3
@[reducible] def rowP (O : List Smp) : Blk := .row 51 false KS (smpA O)
theorem eb51 : Tryz.t51.bytes = 16 := by kernel_rfl
/-- The groove of samples. -/
def cutF (c : Cut) (l : List Smp) : List Smp := (List.range l.length).map fun i => ptF c (l.getD i s0)
structure SmpsOK (l : List Smp) : Prop where
  len : l.length ≤ 4096
  each : ∀ j, j < l.length → (l.getD j s0).ok
theorem smpE_iff (l : List Smp) : smpE l = 0 ↔ SmpsOK l := by
  unfold smpE
  constructor
  · intro h
    by_cases h1 : 4096 < l.length
    · rw [if_pos h1] at h; cases h
    rw [if_neg h1] at h
    by_cases h2 : ∀ s ∈ l, s.ok
    · exact ⟨by omega, fun j hj => h2 _ (getD_mem' s0 hj)⟩
    · rw [if_neg h2] at h; cases h
  · intro h
    rw [if_neg (by have := h.len; omega), if_pos]
    intro s hs
    obtain ⟨q, hq, e⟩ := List.getElem_of_mem hs
    have := h.each q hq
    rw [List.getD_eq_getElem?_getD, List.getElem?_eq_getElem hq] at this
    rw [← e]
    exact this
inductive CutRs (c : Cut) (l : List Smp) (r : AV) (m' : List (Option Blk)) : Prop
  | bad (e : Int) (h : ¬ (CutOK c ∧ SmpsOK l)) (he : e ≠ 0) (hr : r = .tup [.one .nils, I e]) (hm : m' = [])
  | ok (hC : CutOK c) (hl : SmpsOK l) (hr : r = .tup [.one (.own 0), I 0]) (hm : m' = [some (rowP (cutF c l))])
theorem s30 (c : Cut) (l : List Smp) : HSpec Tryz.prog 30 [c.x, lS l] [] (CutRs c l) := by
  have ll := smpA_len l
  have v1 := s105 c
  have v2 := s103 l
  have v3 := smpE_iff l
  refine spec_of pMix (O := []) Tryz.func30 (c := bodyOf Tryz.f30) rfl (by kernel_rfl) (by kernel_rfl) Tryz.ntmps30 (res := [.tmp 4, .tmp 5]) (by kernel_rfl) ?_
  repeat' ((conv => whnf); first | refine Rng.g ?_ | refine Ob.g ?_ | refine Ob.e ?_ | refine Ob.m ?_ | refine Ob.mk (Nat.le_of_ble_eq_true rfl) ?_ | refine JoinVC.on ?_ | refine Nils.mk (fun h => ?_) ?_ | refine Val.t ?_ | refine Val.d ?_ | refine Mm.mk ?_ | (refine Br.mk (fun h => ?_) (fun h => ?_) <;> first | (exfalso; omega; done) | (exfalso; simp at h; done) | skip))
  conv => whnf
  refine CallVC.mk [] _ _ _ rfl rfl rfl (v1) (fun r m' h' => ?_)
  obtain ⟨e, rfl, rfl, he⟩ := h'
  conv => whnf
  repeat' ((conv => whnf); first | refine Rng.g ?_ | refine Ob.g ?_ | refine Ob.e ?_ | refine Ob.m ?_ | refine Ob.mk (Nat.le_of_ble_eq_true rfl) ?_ | refine JoinVC.on ?_ | refine Nils.mk (fun h => ?_) ?_ | refine Val.t ?_ | refine Val.d ?_ | refine Mm.mk ?_ | refine CallVC.pure rfl (v2) ?_ | refine CallVC0.pure rfl (v2) ?_ | (refine Br.mk (fun h => ?_) (fun h => ?_) <;> first | (exfalso; omega; done) | (exfalso; simp at h; done) | skip))
  · repeat refine Mm.mk ?_
    conv => whnf
    refine EndVC.mk _ rfl _ _ (.bad e (fun h2 => h (he.2 h2.1)) h rfl rfl) ?_
    refine ⟨[], rfl, rfl, ?_, ?_⟩ <;> repeat' (first | exact trivial | exact rfl | exact Iff.rfl | apply And.intro)
  · repeat refine Mm.mk ?_
    conv => whnf
    refine EndVC.mk _ rfl _ _ (.bad _ (fun h2 => h (v3.2 h2.2)) h rfl rfl) ?_
    refine ⟨[], rfl, rfl, ?_, ?_⟩ <;> repeat' (first | exact trivial | exact rfl | exact Iff.rfl | apply And.intro)
  · rename_i g1
    have hC := he.1 (Classical.not_not.1 g1)
    have hL := v3.1 (Classical.not_not.1 h)
    have hl4 := hL.len
    repeat refine Mm.mk ?_
    refine Ob.mk (by simp only [eb51]; omega) ?_
    repeat' ((conv => whnf); first | refine Rng.g ?_ | refine Ob.g ?_ | refine Ob.e ?_ | refine Ob.m ?_ | refine Ob.mk (Nat.le_of_ble_eq_true rfl) ?_ | refine JoinVC.on ?_ | refine Nils.mk (fun h => ?_) ?_ | refine Val.t ?_ | refine Val.d ?_ | refine Mm.mk ?_ | (refine Br.mk (fun h => ?_) (fun h => ?_) <;> first | (exfalso; omega; done) | (exfalso; simp at h; done) | skip))
    refine LoopVC.mk (fun n st => ∃ (i : Nat) (O : List Smp), i ≤ l.length ∧ n = l.length - i ∧ Fill (fun j => ptF c (l.getD j s0)) l.length O i ∧ st = ⟨0, envA 39 [(24, .x (lS l)), (2, .x (.one (.ptr 0 0))), (8, .x (.one (.own 1))), (25, .int .i64 (l.length : Int)), (26, .int .i64 (i : Int))], [some (.box 26 [.int .i64 c.half, .int .i64 c.gain, .int .i64 c.thin, .int .i64 c.wide, .int .i64 c.slope, .int .i64 c.jerk, .int .i64 c.sty]), some (rowP O)]⟩) _ _ ⟨0, List.replicate l.length s0, Nat.zero_le _, rfl, ⟨by simp, fun j hj => absurd hj (Nat.not_lt_zero j)⟩, rfl⟩ ?_ ?_
    · refine ⟨[some 0, some 1], rfl, rfl, ?_, ?_⟩ <;> repeat' (first | exact trivial | exact rfl | exact Iff.rfl | apply And.intro)
      · exact congrArg Int.ofNat ll
      · show List.replicate ((List.length (smpA l) : Int)).toNat _ = _
        rw [Int.toNat_natCast, ll]
        exact smpA_rep _
    rintro n _ ⟨i, O, hi, hn, hO, rfl⟩
    have lO := smpA_len O
    have hOl := hO.len
    by_cases hi' : i < l.length
    · have u1 : updRow (smpA O) (i : Int).toNat 0 [.int (ptF c (l.getD i s0)).l, .int (ptF c (l.getD i s0)).r] = smpA (O.set i (ptF c (l.getD i s0))) := by rw [Int.toNat_natCast]; exact smpA_set O i _ (by omega)
      have c1 : PSpec Tryz.prog 106 [c.x, smpX l i] (.x (ptF c (l.getD i s0)).x) := smpX_eq l i ▸ s106 c _ hC (hL.each i hi')
      repeat' ((conv => whnf); first | rw [u1] | refine Rng.g ?_ | refine Ob.g ?_ | refine Ob.e ?_ | refine Ob.m ?_ | refine Ob.mk (Nat.le_of_ble_eq_true rfl) ?_ | refine JoinVC.on ?_ | refine Nils.mk (fun h => ?_) ?_ | refine Val.t ?_ | refine Val.d ?_ | refine Mm.mk ?_ | refine CallVC.pure rfl (c1) ?_ | refine CallVC0.pure rfl (c1) ?_ | (refine Br.mk (fun h => ?_) (fun h => ?_) <;> first | (exfalso; omega; done) | (exfalso; simp at h; done) | skip))
      refine Back.mk (l.length - (i + 1)) _ (by omega) ⟨i + 1, _, by omega, rfl, hO.step hi', rfl⟩ ?_
      refine ⟨[some 0, some 1], rfl, rfl, ?_, ?_⟩ <;> repeat' (first | exact trivial | exact rfl | exact Iff.rfl | apply And.intro)
    · repeat' ((conv => whnf); first | refine Rng.g ?_ | refine Ob.g ?_ | refine Ob.e ?_ | refine Ob.m ?_ | refine Ob.mk (Nat.le_of_ble_eq_true rfl) ?_ | refine JoinVC.on ?_ | refine Nils.mk (fun h => ?_) ?_ | refine Val.t ?_ | refine Val.d ?_ | refine Mm.mk ?_ | (refine Br.mk (fun h => ?_) (fun h => ?_) <;> first | (exfalso; omega; done) | (exfalso; simp at h; done) | skip))
      have e1 : i = l.length := by omega
      rw [e1] at hO
      rw [hO.fin]
      repeat refine Mm.mk ?_
      conv => whnf
      refine EndVC.mk _ rfl _ _ (.ok hC hL rfl rfl) ?_
      refine ⟨[some 1], rfl, rfl, ?_, ?_⟩ <;> repeat' (first | exact trivial | exact rfl | exact Iff.rfl | apply And.intro)
end Go.Sx

namespace Go.Sx
open Go Go.Proofs
set_option maxRecDepth 10000
set_option maxHeartbeats 2000000
def amt (n : Int) : Int := if n < -n then -n else n
theorem s111 (n : Int) (hn : -1000000000000 ≤ n ∧ n ≤ 1000000000000) : PSpec Tryz.prog 111 [I n] (.x (I (amt n))) := by
  refine spec_of pMix (O := []) Tryz.func111 (c := bodyOf Tryz.f111) rfl (by kernel_rfl) (by kernel_rfl) Tryz.ntmps111 (res := [.tmp 2]) (by kernel_rfl) ?_
  repeat' ((conv => whnf); first | refine Rng.g ?_ | refine Ob.g ?_ | refine Ob.e ?_ | refine Ob.m ?_ | refine Ob.mk (Nat.le_of_ble_eq_true rfl) ?_ | refine JoinVC.on ?_ | refine Nils.mk (fun h => ?_) ?_ | refine Val.t ?_ | refine Val.d ?_ | refine Mm.mk ?_ | (refine Br.mk (fun h => ?_) (fun h => ?_) <;> first | (exfalso; omega; done) | (exfalso; simp at h; done) | skip))
  · repeat refine Mm.mk ?_
    refine EndVC.mk _ rfl _ _ ⟨rfl, rfl⟩ ?_
    refine ⟨[], rfl, rfl, ?_, ?_⟩ <;> repeat' (first | exact trivial | exact rfl | exact Iff.rfl | apply And.intro)
    unfold amt
    rw [Int.zero_sub]
def pB (c : Cut) (d k : Int) : Prop := (k * c.gain).tdiv 1000 ≥ amt d
instance (c : Cut) (d k : Int) : Decidable (pB c d k) := by unfold pB; exact inferInstance
theorem pB.mono {c : Cut} (hC : CutOK c) {d k q : Int} (hk : 0 ≤ k) (hq : k ≤ q) (h : pB c d k) : pB c d q := by
  have hg := hC.gain
  unfold pB at h ⊢
  have h1 : k * c.gain ≤ q * c.gain := Int.mul_le_mul_of_nonneg_right hq hg.1
  have h2 : 0 ≤ k * c.gain := Int.mul_nonneg hk hg.1
  rw [Int.tdiv_eq_ediv_of_nonneg h2] at h
  rw [Int.tdiv_eq_ediv_of_nonneg (by omega)]
  have := Int.ediv_le_ediv (show (0 : Int) < 1000 by decide) h1
  omega
/-- What a search finds. -/
structure Least (p : Int → Prop) (n k : Int) : Prop where
  rng : 0 ≤ k ∧ k ≤ n
  no : ∀ q, 0 ≤ q → q < k → ¬ p q
  yes : k < n → p k
end Go.Sx

namespace Go.Sx
open Go Go.Proofs
set_option maxRecDepth 10000
set_option maxHeartbeats 2000000
def edgeP (p : Smp) : Prop := (p.l ≥ -4194304 ∧ p.l ≤ 4194304) ∧ (p.r ≥ -4194304 ∧ p.r ≤ 4194304)
end Go.Sx

namespace Go.Sx
open Go Go.Proofs
set_option maxRecDepth 10000
set_option maxHeartbeats 4000000
theorem e281 : EntersF Tryz.prog 281 := enters_of Tryz.func281 (c := bodyOf Tryz.f281) (by kernel_rfl) rfl
instance (p : Smp) : Decidable (edgeP p) := by unfold edgeP; exact inferInstance
theorem s113 (r per : Int) : PSpec Tryz.prog 113 [I r, I per] (.x (I (if (0 ≤ r ∧ r ≤ 4194304) ∧ (1 ≤ per ∧ per ≤ 65536) then 0 else 3))) := by
  by_cases hk : (0 ≤ r ∧ r ≤ 4194304) ∧ (1 ≤ per ∧ per ≤ 65536)
  · rw [if_pos hk]
    refine spec_of pMix (O := []) Tryz.func113 (c := bodyOf Tryz.f113) rfl (by kernel_rfl) (by kernel_rfl) Tryz.ntmps113 (res := [.tmp 4]) (by kernel_rfl) ?_
    repeat' ((conv => whnf); first | refine Rng.g ?_ | refine Ob.g ?_ | refine Ob.e ?_ | refine Ob.m ?_ | refine Ob.mk (Nat.le_of_ble_eq_true rfl) ?_ | refine JoinVC.on ?_ | refine Nils.mk (fun h => ?_) ?_ | refine Val.t ?_ | refine Val.d ?_ | refine Mm.mk ?_ | refine CallVC.pure rfl (s205 r 0 4194304) ?_ | refine CallVC.pure rfl (s205 per 1 65536) ?_ | refine CallVC0.pure rfl (s205 r 0 4194304) ?_ | refine CallVC0.pure rfl (s205 per 1 65536) ?_ | (refine Br.mk (fun h => ?_) (fun h => ?_) <;> first | (exfalso; omega; done) | (exfalso; simp at h; done) | skip))
    repeat refine Mm.mk ?_
    refine EndVC.mk _ rfl _ _ ⟨rfl, rfl⟩ ?_
    refine ⟨[], rfl, rfl, ?_, ?_⟩ <;> repeat' (first | exact trivial | exact rfl | exact Iff.rfl | apply And.intro)
  · rw [if_neg hk]
    refine spec_of pMix (O := []) Tryz.func113 (c := bodyOf Tryz.f113) rfl (by kernel_rfl) (by kernel_rfl) Tryz.ntmps113 (res := [.tmp 4]) (by kernel_rfl) ?_
    repeat' ((conv => whnf); first | refine Rng.g ?_ | refine Ob.g ?_ | refine Ob.e ?_ | refine Ob.m ?_ | refine Ob.mk (Nat.le_of_ble_eq_true rfl) ?_ | refine JoinVC.on ?_ | refine Nils.mk (fun h => ?_) ?_ | refine Val.t ?_ | refine Val.d ?_ | refine Mm.mk ?_ | refine CallVC.pure rfl (s205 r 0 4194304) ?_ | refine CallVC.pure rfl (s205 per 1 65536) ?_ | refine CallVC0.pure rfl (s205 r 0 4194304) ?_ | refine CallVC0.pure rfl (s205 per 1 65536) ?_ | (refine Br.mk (fun h => ?_) (fun h => ?_) <;> first | (exfalso; omega; done) | (exfalso; simp at h; done) | skip))
    all_goals
      repeat refine Mm.mk ?_
      refine EndVC.mk _ rfl _ _ ⟨rfl, rfl⟩ ?_
      refine ⟨[], rfl, rfl, ?_, ?_⟩ <;> repeat' (first | exact trivial | exact rfl | exact Iff.rfl | apply And.intro)
structure PtsOK (l : List Smp) : Prop where
  len : l.length ≤ 4096
  each : ∀ j, j < l.length → edgeP (l.getD j s0)
theorem s153 (l : List Smp) : HSpec Tryz.prog 153 [lS l] [] (fun r m' => ∃ e, r = .x (I e) ∧ m' = [] ∧ (e = 0 ↔ PtsOK l)) := by
  have ll := smpA_len l
  by_cases hl : 4096 < l.length
  · refine spec_of pMix (O := []) Tryz.func153 (c := bodyOf Tryz.f153) rfl (by kernel_rfl) (by kernel_rfl) Tryz.ntmps153 (res := [.tmp 2]) (by kernel_rfl) ?_
    repeat' ((conv => whnf); first | refine Rng.g ?_ | refine Ob.g ?_ | refine Ob.e ?_ | refine Ob.m ?_ | refine Ob.mk (Nat.le_of_ble_eq_true rfl) ?_ | refine JoinVC.on ?_ | refine Nils.mk (fun h => ?_) ?_ | refine Val.t ?_ | refine Val.d ?_ | refine Mm.mk ?_ | (refine Br.mk (fun h => ?_) (fun h => ?_) <;> first | (exfalso; omega; done) | (exfalso; simp at h; done) | skip))
    repeat refine Mm.mk ?_
    conv => whnf
    refine EndVC.mk _ rfl _ _ (⟨6, rfl, rfl, ⟨fun h => (by cases h), fun hC => (by have := hC.len; omega)⟩⟩) ?_
    refine ⟨[], rfl, rfl, ?_, ?_⟩ <;> repeat' (first | exact trivial | exact rfl | exact Iff.rfl | apply And.intro)
  refine spec_of pMix (O := []) Tryz.func153 (c := bodyOf Tryz.f153) rfl (by kernel_rfl) (by kernel_rfl) Tryz.ntmps153 (res := [.tmp 2]) (by kernel_rfl) ?_
  repeat' ((conv => whnf); first | refine Rng.g ?_ | refine Ob.g ?_ | refine Ob.e ?_ | refine Ob.m ?_ | refine Ob.mk (Nat.le_of_ble_eq_true rfl) ?_ | refine JoinVC.on ?_ | refine Nils.mk (fun h => ?_) ?_ | refine Val.t ?_ | refine Val.d ?_ | refine Mm.mk ?_ | (refine Br.mk (fun h => ?_) (fun h => ?_) <;> first | (exfalso; omega; done) | (exfalso; simp at h; done) | skip))
  refine LoopVC.mk (fun n st => ∃ (i : Nat), i ≤ l.length ∧ n = l.length - i ∧ (∀ j, j < i → edgeP (l.getD j s0)) ∧ st = ⟨0, envA 18 [(8, .x (lS l)), (9, .int .i64 (l.length : Int)), (10, .int .i64 (i : Int))], []⟩) _ _ ⟨0, Nat.zero_le _, rfl, fun j hj => absurd hj (Nat.not_lt_zero j), rfl⟩ ?_ ?_
  · refine ⟨[], rfl, rfl, ?_, ?_⟩ <;> repeat' (first | exact trivial | exact rfl | exact Iff.rfl | apply And.intro)
    exact congrArg Int.ofNat ll
  rintro n _ ⟨i, hi, hn, hj, rfl⟩
  by_cases hi' : i < l.length
  · have c1 : PSpec Tryz.prog 107 [smpX l i] (xP (edgeP (l.getD i s0))) := smpX_eq l i ▸ s107 _
    repeat' ((conv => whnf); first | refine Rng.g ?_ | refine Ob.g ?_ | refine Ob.e ?_ | refine Ob.m ?_ | refine Ob.mk (Nat.le_of_ble_eq_true rfl) ?_ | refine JoinVC.on ?_ | refine Nils.mk (fun h => ?_) ?_ | refine Val.t ?_ | refine Val.d ?_ | refine Mm.mk ?_ | refine CallVC.pure rfl (c1) ?_ | refine CallVC0.pure rfl (c1) ?_ | (refine Br.mk (fun h => ?_) (fun h => ?_) <;> first | (exfalso; omega; done) | (exfalso; simp at h; done) | skip))
    · repeat refine Mm.mk ?_
      conv => whnf
      refine EndVC.mk _ rfl _ _ (⟨2, rfl, rfl, ⟨fun h => (by cases h), fun hC => absurd (hC.each i hi') h⟩⟩) ?_
      refine ⟨[], rfl, rfl, ?_, ?_⟩ <;> repeat' (first | exact trivial | exact rfl | exact Iff.rfl | apply And.intro)
    · refine Back.mk (l.length - (i + 1)) _ (by omega) ⟨i + 1, by omega, rfl, fun j hj' => ?_, rfl⟩ ?_
      · rcases Nat.lt_succ_iff_lt_or_eq.1 hj' with h' | rfl
        · exact hj j h'
        · exact Classical.not_not.1 h
      · refine ⟨[], rfl, rfl, ?_, ?_⟩ <;> repeat' (first | exact trivial | exact rfl | exact Iff.rfl | apply And.intro)
  · repeat' ((conv => whnf); first | refine Rng.g ?_ | refine Ob.g ?_ | refine Ob.e ?_ | refine Ob.m ?_ | refine Ob.mk (Nat.le_of_ble_eq_true rfl) ?_ | refine JoinVC.on ?_ | refine Nils.mk (fun h => ?_) ?_ | refine Val.t ?_ | refine Val.d ?_ | refine Mm.mk ?_ | (refine Br.mk (fun h => ?_) (fun h => ?_) <;> first | (exfalso; omega; done) | (exfalso; simp at h; done) | skip))
    repeat refine Mm.mk ?_
    conv => whnf
    refine EndVC.mk _ rfl _ _ (⟨0, rfl, rfl, ⟨fun _ => ⟨by omega, fun j hj' => hj j (by omega)⟩, fun _ => rfl⟩⟩) ?_
    refine ⟨[], rfl, rfl, ?_, ?_⟩ <;> repeat' (first | exact trivial | exact rfl | exact Iff.rfl | apply And.intro)
theorem s327 (a b : Int) : PSpec Tryz.prog 327 [lL [a, b]] (.x (I (if a < b then b else a))) := by
  have l2 : (i64s [a, b]).length = 2 := rfl
  refine spec_of pMix (O := []) Tryz.func327 (c := bodyOf Tryz.f327) rfl (by kernel_rfl) (by kernel_rfl) Tryz.ntmps327 (res := [.tmp 2]) (by kernel_rfl) ?_
  have l3 : (List.drop ((some (1 : Int)).getD 0).toNat (List.take ((none : Option Int).getD (List.length (i64s [a, b]) : Int)).toNat (i64s [a, b]))).length = 1 := rfl
  repeat' ((conv => whnf); first | refine Rng.g ?_ | refine Ob.g ?_ | refine Ob.e ?_ | refine Ob.m ?_ | refine Ob.mk (Nat.le_of_ble_eq_true rfl) ?_ | refine JoinVC.on ?_ | refine Nils.mk (fun h => ?_) ?_ | refine Val.t ?_ | refine Val.d ?_ | refine Mm.mk ?_ | (refine Br.mk (fun h => ?_) (fun h => ?_) <;> first | (exfalso; omega; done) | (exfalso; simp at h; done) | skip))
  refine LoopVC.un 2 ?_
  repeat' ((conv => whnf); first | refine Rng.g ?_ | refine Ob.g ?_ | refine Ob.e ?_ | refine Ob.m ?_ | refine Ob.mk (Nat.le_of_ble_eq_true rfl) ?_ | refine JoinVC.on ?_ | refine Nils.mk (fun h => ?_) ?_ | refine Val.t ?_ | refine Val.d ?_ | refine Mm.mk ?_ | (refine Br.mk (fun h => ?_) (fun h => ?_) <;> first | (exfalso; omega; done) | (exfalso; simp at h; done) | skip))
  repeat refine Mm.mk ?_
  refine EndVC.mk _ rfl _ _ ⟨rfl, rfl⟩ ?_
  refine ⟨[], rfl, rfl, ?_, ?_⟩ <;> repeat' (first | exact trivial | exact rfl | exact Iff.rfl | apply And.intro)
/-- The track of a groove (cutter, points, radius, turn). -/
structure Trk where
  c : Cut
  p : List Smp
  r : Int
  per : Int
@[reducible] def KTk : List CK := [.int .i64, .int .i64, .int .i64, .int .i64, .int .i64, .int .i64, .int .i64, .sl KS, .int .i64, .int .i64]
def tkA (t : Trk) : Arr := [[.int t.c.half, .int t.c.gain, .int t.c.thin, .int t.c.wide, .int t.c.slope, .int t.c.jerk, .int t.c.sty, .sl (smpA t.p), .int t.r, .int t.per]]
@[reducible] def tkX (t : Trk) : XV := .one (.lel true KTk (tkA t) 0 0)
@[reducible] def bTk (t : Trk) : Blk := .box 240 [.int .i64 t.c.half, .int .i64 t.c.gain, .int .i64 t.c.thin, .int .i64 t.c.wide, .int .i64 t.c.slope, .int .i64 t.c.jerk, .int .i64 t.c.sty, .lst true KS (smpA t.p), .int .i64 t.r, .int .i64 t.per]
structure TrkOK (t : Trk) : Prop where
  c : CutOK t.c
  p : PtsOK t.p
  r : 0 ≤ t.r ∧ t.r ≤ 4194304
  per : 1 ≤ t.per ∧ t.per ≤ 65536
@[reducible] def befX (l : List Smp) (i : Nat) : Bool → SV
  | true => .lel true KS (smpA l) (i - 1) 0
  | false => .nilp
@[reducible] def aftX (l : List Smp) (i : Nat) : Bool → SV
  | true => .lel true KS (smpA l) (i + 1) 0
  | false => .nilp
@[reducible] def nrX (l : List Smp) (i : Nat) (b a : Bool) : XV := .agg [befX l i b, .lel true KS (smpA l) i 0, aftX l i a]
theorem s283 (l : List Smp) (i : Nat) (b a : Bool) (hp : edgeP (l.getD i s0)) : PSpec Tryz.prog 283 [nrX l i b a] (.x (I ((l.getD i s0).r - (l.getD i s0).l))) := by
  have g0 : rI (smpA l) i (0 + 0) = (l.getD i s0).l := smpA_l l i
  have g1 : rI (smpA l) i (0 + (0 + 1)) = (l.getD i s0).r := smpA_r l i
  obtain ⟨h1, h2⟩ := hp
  cases b
  all_goals
    cases a
    all_goals
      refine spec_of pMix (O := []) Tryz.func283 (c := bodyOf Tryz.f283) rfl (by kernel_rfl) (by kernel_rfl) Tryz.ntmps283 (res := [.tmp 2]) (by kernel_rfl) ?_
      repeat' ((conv => whnf); first | refine Rng.g ?_ | refine Ob.g ?_ | refine Ob.e ?_ | refine Ob.m ?_ | refine Ob.mk (Nat.le_of_ble_eq_true rfl) ?_ | refine JoinVC.on ?_ | refine Nils.mk (fun h => ?_) ?_ | refine Val.t ?_ | refine Val.d ?_ | refine Mm.mk ?_ | (refine Br.mk (fun h => ?_) (fun h => ?_) <;> first | (exfalso; omega; done) | (exfalso; simp at h; done) | skip))
      repeat refine Mm.mk ?_
      refine EndVC.mk _ rfl _ _ ⟨rfl, rfl⟩ ?_
      refine ⟨[], rfl, rfl, ?_, ?_⟩ <;> repeat' (first | exact trivial | exact rfl | exact Iff.rfl | apply And.intro)
      rw [g0, g1]
def mx2 (a b : Int) : Int := if a < b then b else a
def stF (l : List Smp) (i : Nat) (b : Bool) : Int := if b = true then mx2 (amt ((l.getD i s0).l - (l.getD (i - 1) s0).l)) (amt ((l.getD i s0).r - (l.getD (i - 1) s0).r)) else 0
def bdF (l : List Smp) (i : Nat) (b a : Bool) : Int := if b = true ∧ a = true then mx2 (amt ((l.getD (i - 1) s0).l + (l.getD (i + 1) s0).l - 2 * (l.getD i s0).l)) (amt ((l.getD (i - 1) s0).r + (l.getD (i + 1) s0).r - 2 * (l.getD i s0).r)) else 0
theorem amt_bd {n B : Int} (h : -B ≤ n ∧ n ≤ B) : 0 ≤ amt n ∧ amt n ≤ B := by unfold amt; split <;> omega
/-- The points near a place. -/
structure NearOK (l : List Smp) (i : Nat) (b a : Bool) : Prop where
  h : edgeP (l.getD i s0)
  b : b = true → edgeP (l.getD (i - 1) s0)
  a : a = true → edgeP (l.getD (i + 1) s0)
theorem stF_bd {l : List Smp} {i : Nat} {b a : Bool} (hp : NearOK l i b a) : 0 ≤ stF l i b ∧ stF l i b ≤ 8388608 := by
  unfold stF
  split
  · rename_i hb
    obtain ⟨h1, h2⟩ := hp.h
    obtain ⟨h3, h4⟩ := hp.b hb
    have h5 := amt_bd (n := (l.getD i s0).l - (l.getD (i - 1) s0).l) (B := 8388608) (by omega)
    have h6 := amt_bd (n := (l.getD i s0).r - (l.getD (i - 1) s0).r) (B := 8388608) (by omega)
    unfold mx2
    split <;> omega
  · omega
theorem bdF_bd {l : List Smp} {i : Nat} {b a : Bool} (hp : NearOK l i b a) : 0 ≤ bdF l i b a ∧ bdF l i b a ≤ 16777216 := by
  unfold bdF
  split
  · rename_i hb
    obtain ⟨h1, h2⟩ := hp.h
    obtain ⟨h3, h4⟩ := hp.b hb.1
    obtain ⟨h7, h8⟩ := hp.a hb.2
    have h5 := amt_bd (n := (l.getD (i - 1) s0).l + (l.getD (i + 1) s0).l - 2 * (l.getD i s0).l) (B := 16777216) (by omega)
    have h6 := amt_bd (n := (l.getD (i - 1) s0).r + (l.getD (i + 1) s0).r - 2 * (l.getD i s0).r) (B := 16777216) (by omega)
    unfold mx2
    split <;> omega
  · omega
theorem s284 (l : List Smp) (i : Nat) (b a : Bool) (hp : NearOK l i b a) : PSpec Tryz.prog 284 [nrX l i b a] (.x (I (stF l i b))) := by
  have g0 : rI (smpA l) i (0 + 0) = (l.getD i s0).l := smpA_l l i
  have g1 : rI (smpA l) i (0 + (0 + 1)) = (l.getD i s0).r := smpA_r l i
  have g2 : rI (smpA l) (i - 1) (0 + 0) = (l.getD (i - 1) s0).l := smpA_l l _
  have g3 : rI (smpA l) (i - 1) (0 + (0 + 1)) = (l.getD (i - 1) s0).r := smpA_r l _
  obtain ⟨h1, h2⟩ := hp.h
  cases b with
  | false =>
    cases a
    all_goals
      refine spec_of pMix (O := [(3, ([], [⟨0, [], []⟩, ⟨1, [], []⟩, ⟨2, [], []⟩, ⟨3, [], []⟩, ⟨4, [], []⟩, ⟨5, [], []⟩, ⟨6, [], []⟩, ⟨7, [], []⟩, ⟨8, [], []⟩, ⟨9, [], []⟩, ⟨10, [], []⟩, ⟨12, [], []⟩, ⟨13, [], []⟩, ⟨14, [], []⟩, ⟨15, [], []⟩, ⟨16, [], []⟩, ⟨17, [], []⟩, ⟨18, [], []⟩, ⟨19, [], []⟩, ⟨20, [], []⟩, ⟨21, [], []⟩, ⟨22, [], []⟩, ⟨11, [12, 13, 14, 15, 16, 17, 18, 19, 20, 21, 22], []⟩, ⟨23, [], [24]⟩, ⟨24, [], []⟩, ⟨25, [], []⟩, ⟨26, [], []⟩]))]) Tryz.func284 (c := bodyOf Tryz.f284) rfl (by kernel_rfl) (by kernel_rfl) Tryz.ntmps284 (res := [.tmp 2]) (by kernel_rfl) ?_
      repeat' ((conv => whnf); first | refine Rng.g ?_ | refine Ob.g ?_ | refine Ob.e ?_ | refine Ob.m ?_ | refine Ob.mk (Nat.le_of_ble_eq_true rfl) ?_ | refine JoinVC.on ?_ | refine Nils.mk (fun h => ?_) ?_ | refine Val.t ?_ | refine Val.d ?_ | refine Mm.mk ?_ | (refine Br.mk (fun h => ?_) (fun h => ?_) <;> first | (exfalso; omega; done) | (exfalso; simp at h; done) | skip))
      repeat refine Mm.mk ?_
      refine EndVC.mk _ rfl _ _ ⟨rfl, rfl⟩ ?_
      refine ⟨[], rfl, rfl, ?_, ?_⟩ <;> repeat' (first | exact trivial | exact rfl | exact Iff.rfl | apply And.intro)
  | true =>
    obtain ⟨h3, h4⟩ := hp.b rfl
    have c1 := s111 (rI (smpA l) i (0 + 0) - rI (smpA l) (i - 1) (0 + 0)) (by omega)
    have c2 := s111 (rI (smpA l) i (0 + (0 + 1)) - rI (smpA l) (i - 1) (0 + (0 + 1))) (by omega)
    have c3 := s327 (amt (rI (smpA l) i (0 + 0) - rI (smpA l) (i - 1) (0 + 0))) (amt (rI (smpA l) i (0 + (0 + 1)) - rI (smpA l) (i - 1) (0 + (0 + 1))))
    cases a
    all_goals
      refine spec_of pMix (O := [(3, ([], [⟨0, [], []⟩, ⟨1, [], []⟩, ⟨2, [], []⟩, ⟨3, [], []⟩, ⟨4, [], []⟩, ⟨5, [], []⟩, ⟨6, [], []⟩, ⟨7, [], []⟩, ⟨8, [], []⟩, ⟨9, [], []⟩, ⟨10, [], []⟩, ⟨12, [], []⟩, ⟨13, [], []⟩, ⟨14, [], []⟩, ⟨15, [], []⟩, ⟨16, [], []⟩, ⟨17, [], []⟩, ⟨18, [], []⟩, ⟨19, [], []⟩, ⟨20, [], []⟩, ⟨21, [], []⟩, ⟨22, [], []⟩, ⟨11, [12, 13, 14, 15, 16, 17, 18, 19, 20, 21, 22], []⟩, ⟨23, [], [24]⟩, ⟨24, [], []⟩, ⟨25, [], []⟩, ⟨26, [], []⟩]))]) Tryz.func284 (c := bodyOf Tryz.f284) rfl (by kernel_rfl) (by kernel_rfl) Tryz.ntmps284 (res := [.tmp 2]) (by kernel_rfl) ?_
      repeat' ((conv => whnf); first | refine Rng.g ?_ | refine Ob.g ?_ | refine Ob.e ?_ | refine Ob.m ?_ | refine Ob.mk (Nat.le_of_ble_eq_true rfl) ?_ | refine JoinVC.on ?_ | refine Nils.mk (fun h => ?_) ?_ | refine Val.t ?_ | refine Val.d ?_ | refine Mm.mk ?_ | refine CallVC.pure rfl (c1) ?_ | refine CallVC.pure rfl (c2) ?_ | refine CallVC.pure rfl (c3) ?_ | refine CallVC0.pure rfl (c1) ?_ | refine CallVC0.pure rfl (c2) ?_ | refine CallVC0.pure rfl (c3) ?_ | (refine Br.mk (fun h => ?_) (fun h => ?_) <;> first | (exfalso; omega; done) | (exfalso; simp at h; done) | skip))
      repeat refine Mm.mk ?_
      refine EndVC.mk _ rfl _ _ ⟨rfl, rfl⟩ ?_
      refine ⟨[], rfl, rfl, ?_, ?_⟩ <;> repeat' (first | exact trivial | exact rfl | exact Iff.rfl | apply And.intro)
      rw [g0, g1, g2, g3]
      rfl
theorem s285 (l : List Smp) (i : Nat) (b a : Bool) (hp : NearOK l i b a) : PSpec Tryz.prog 285 [nrX l i b a] (.x (I (bdF l i b a))) := by
  have g0 : rI (smpA l) i (0 + 0) = (l.getD i s0).l := smpA_l l i
  have g1 : rI (smpA l) i (0 + (0 + 1)) = (l.getD i s0).r := smpA_r l i
  have g2 : rI (smpA l) (i - 1) (0 + 0) = (l.getD (i - 1) s0).l := smpA_l l _
  have g3 : rI (smpA l) (i - 1) (0 + (0 + 1)) = (l.getD (i - 1) s0).r := smpA_r l _
  have g4 : rI (smpA l) (i + 1) (0 + 0) = (l.getD (i + 1) s0).l := smpA_l l _
  have g5 : rI (smpA l) (i + 1) (0 + (0 + 1)) = (l.getD (i + 1) s0).r := smpA_r l _
  obtain ⟨h1, h2⟩ := hp.h
  by_cases hba : b = true ∧ a = true
  · obtain ⟨rfl, rfl⟩ := hba
    obtain ⟨h3, h4⟩ := hp.b rfl
    obtain ⟨h5, h6⟩ := hp.a rfl
    have c1 := s111 (rI (smpA l) (i - 1) (0 + 0) + rI (smpA l) (i + 1) (0 + 0) - 2 * rI (smpA l) i (0 + 0)) (by omega)
    have c2 := s111 (rI (smpA l) (i - 1) (0 + (0 + 1)) + rI (smpA l) (i + 1) (0 + (0 + 1)) - 2 * rI (smpA l) i (0 + (0 + 1))) (by omega)
    have c3 := s327 (amt (rI (smpA l) (i - 1) (0 + 0) + rI (smpA l) (i + 1) (0 + 0) - 2 * rI (smpA l) i (0 + 0))) (amt (rI (smpA l) (i - 1) (0 + (0 + 1)) + rI (smpA l) (i + 1) (0 + (0 + 1)) - 2 * rI (smpA l) i (0 + (0 + 1))))
    refine spec_of pMix (O := [(3, ([], [⟨0, [], []⟩, ⟨1, [], []⟩, ⟨2, [], []⟩, ⟨3, [], []⟩, ⟨4, [], []⟩, ⟨5, [], []⟩, ⟨6, [], []⟩, ⟨7, [], []⟩, ⟨8, [], []⟩, ⟨9, [], []⟩, ⟨10, [], []⟩, ⟨11, [], []⟩, ⟨12, [], []⟩, ⟨13, [], []⟩, ⟨14, [], []⟩, ⟨15, [], []⟩, ⟨16, [], []⟩, ⟨17, [], []⟩, ⟨19, [], []⟩, ⟨20, [], []⟩, ⟨21, [], []⟩, ⟨22, [], []⟩, ⟨23, [], []⟩, ⟨24, [], []⟩, ⟨25, [], []⟩, ⟨26, [], []⟩, ⟨27, [], []⟩, ⟨28, [], []⟩, ⟨29, [], []⟩, ⟨30, [], []⟩, ⟨31, [], []⟩, ⟨32, [], []⟩, ⟨33, [], []⟩, ⟨34, [], []⟩, ⟨35, [], []⟩, ⟨36, [], []⟩, ⟨18, [19, 20, 21, 22, 23, 24, 25, 26, 27, 28, 29, 30, 31, 32, 33, 34, 35, 36], []⟩, ⟨37, [], [38]⟩, ⟨38, [], []⟩, ⟨39, [], []⟩, ⟨40, [], []⟩]))]) Tryz.func285 (c := bodyOf Tryz.f285) rfl (by kernel_rfl) (by kernel_rfl) Tryz.ntmps285 (res := [.tmp 2]) (by kernel_rfl) ?_
    repeat' ((conv => whnf); first | refine Rng.g ?_ | refine Ob.g ?_ | refine Ob.e ?_ | refine Ob.m ?_ | refine Ob.mk (Nat.le_of_ble_eq_true rfl) ?_ | refine JoinVC.on ?_ | refine Nils.mk (fun h => ?_) ?_ | refine Val.t ?_ | refine Val.d ?_ | refine Mm.mk ?_ | refine CallVC.pure rfl (c1) ?_ | refine CallVC.pure rfl (c2) ?_ | refine CallVC.pure rfl (c3) ?_ | refine CallVC0.pure rfl (c1) ?_ | refine CallVC0.pure rfl (c2) ?_ | refine CallVC0.pure rfl (c3) ?_ | (refine Br.mk (fun h => ?_) (fun h => ?_) <;> first | (exfalso; omega; done) | (exfalso; simp at h; done) | skip))
    repeat refine Mm.mk ?_
    refine EndVC.mk _ rfl _ _ ⟨rfl, rfl⟩ ?_
    refine ⟨[], rfl, rfl, ?_, ?_⟩ <;> repeat' (first | exact trivial | exact rfl | exact Iff.rfl | apply And.intro)
    rw [g0, g1, g2, g3, g4, g5]
    rfl
  · cases b
    all_goals
      cases a
      all_goals first | (exact absurd ⟨rfl, rfl⟩ hba) | skip
      all_goals
        refine spec_of pMix (O := [(3, ([], [⟨0, [], []⟩, ⟨1, [], []⟩, ⟨2, [], []⟩, ⟨3, [], []⟩, ⟨4, [], []⟩, ⟨5, [], []⟩, ⟨6, [], []⟩, ⟨7, [], []⟩, ⟨8, [], []⟩, ⟨9, [], []⟩, ⟨10, [], []⟩, ⟨11, [], []⟩, ⟨12, [], []⟩, ⟨13, [], []⟩, ⟨14, [], []⟩, ⟨15, [], []⟩, ⟨16, [], []⟩, ⟨17, [], []⟩, ⟨19, [], []⟩, ⟨20, [], []⟩, ⟨21, [], []⟩, ⟨22, [], []⟩, ⟨23, [], []⟩, ⟨24, [], []⟩, ⟨25, [], []⟩, ⟨26, [], []⟩, ⟨27, [], []⟩, ⟨28, [], []⟩, ⟨29, [], []⟩, ⟨30, [], []⟩, ⟨31, [], []⟩, ⟨32, [], []⟩, ⟨33, [], []⟩, ⟨34, [], []⟩, ⟨35, [], []⟩, ⟨36, [], []⟩, ⟨18, [19, 20, 21, 22, 23, 24, 25, 26, 27, 28, 29, 30, 31, 32, 33, 34, 35, 36], []⟩, ⟨37, [], [38]⟩, ⟨38, [], []⟩, ⟨39, [], []⟩, ⟨40, [], []⟩]))]) Tryz.func285 (c := bodyOf Tryz.f285) rfl (by kernel_rfl) (by kernel_rfl) Tryz.ntmps285 (res := [.tmp 2]) (by kernel_rfl) ?_
        repeat' ((conv => whnf); first | refine Rng.g ?_ | refine Ob.g ?_ | refine Ob.e ?_ | refine Ob.m ?_ | refine Ob.mk (Nat.le_of_ble_eq_true rfl) ?_ | refine JoinVC.on ?_ | refine Nils.mk (fun h => ?_) ?_ | refine Val.t ?_ | refine Val.d ?_ | refine Mm.mk ?_ | (refine Br.mk (fun h => ?_) (fun h => ?_) <;> first | (exfalso; omega; done) | (exfalso; simp at h; done) | skip))
        repeat refine Mm.mk ?_
        refine EndVC.mk _ rfl _ _ ⟨rfl, rfl⟩ ?_
        refine ⟨[], rfl, rfl, ?_, ?_⟩ <;> repeat' (first | exact trivial | exact rfl | exact Iff.rfl | apply And.intro)
end Go.Sx

namespace Go.Sx
open Go Go.Proofs
set_option maxRecDepth 10000
set_option maxHeartbeats 4000000
/-! ### A groove on a blank -/
@[reducible] def Blnk.x (b : Blnk) : XV := .agg [.int .i64 b.per, .int .i64 b.rim, .int .i64 b.core, .int .i64 b.land, .int .i64 b.slow, .int .i64 b.fast]
/-! ### What a rule says at a sample -/
@[reducible] def Edg.x (e : Edg) : XV := .agg [.int .i64 e.rule, .int .i64 e.pos, .int .i64 e.fr, .int .i64 e.to, .int .i64 e.w]
end Go.Sx


namespace Go.Sx
open Go Go.Proofs
set_option maxRecDepth 10000
set_option maxHeartbeats 8000000
theorem i64s_upd (xs : List Int) (i : Nat) (v : Int) (h : i < xs.length) : updRow (i64s xs) i 0 [.int v] = i64s (xs.set i v) := by
  unfold updRow i64s
  rw [List.map_set]
  congr 1
  simp [List.getD_eq_getElem?_getD, h, setAll]
def Edg.row (e : Edg) : List Cell := [.int e.rule, .int e.pos, .int e.fr, .int e.to, .int e.w]
/-! ### The steps of a proof -/
end Go.Sx

namespace Go.Sx
open Go Go.Proofs
set_option maxRecDepth 10000
set_option maxHeartbeats 4000000
def arcF (r per : Int) : Int := (710 * r * (710 * r)) / (113 * per * (113 * per))
theorem sq_rng {a A : Int} (h : 0 ≤ a ∧ a ≤ A) : 0 ≤ a * a ∧ a * a ≤ A * A :=
  ⟨Int.mul_nonneg h.1 h.1, Int.mul_le_mul h.2 h.2 h.1 (by omega)⟩
theorem s286 (t : Trk) (ht : TrkOK t) : PSpec Tryz.prog 286 [tkX t] (.x (I (arcF t.r t.per))) := by
  have hr := ht.r
  have hp := ht.per
  have h1 := sq_rng (a := 710 * t.r) (A := 2977955840) (by omega)
  have h2 := sq_rng (a := 113 * t.per) (A := 7405568) (by omega)
  have h3 : 0 < 113 * t.per * (113 * t.per) := Int.mul_pos (by omega) (by omega)
  refine spec_of pMix (O := []) Tryz.func286 (c := bodyOf Tryz.f286) rfl (by kernel_rfl) (by kernel_rfl) Tryz.ntmps286 (res := [.tmp 2]) (by kernel_rfl) ?_
  have h4 := Int.ediv_nonneg h1.1 (Int.le_of_lt h3)
  have h5 := Int.ediv_le_self (113 * t.per * (113 * t.per)) h1.1
  have f8 : rI (tkA t) 0 (0 + (0 + 1 + 1 + 1 + 1 + 1 + 1 + 1 + 1)) = t.r := rfl
  have f9 : rI (tkA t) 0 (0 + (0 + 1 + 1 + 1 + 1 + 1 + 1 + 1 + 1 + 1)) = t.per := rfl
  repeat' ((conv => whnf); first | rw [f8] | rw [f9] | refine Rng.g ?_ | refine Ob.g ?_ | refine Ob.e ?_ | refine Ob.m ?_ | refine Ob.mk (Nat.le_of_ble_eq_true rfl) ?_ | refine JoinVC.on ?_ | refine Nils.mk (fun h => ?_) ?_ | refine Val.t ?_ | refine Val.d ?_ | refine Mm.mk ?_ | (refine Br.mk (fun h => ?_) (fun h => ?_) <;> first | (exfalso; omega; done) | (exfalso; simp at h; done) | skip))
  repeat refine Mm.mk ?_
  refine EndVC.mk _ rfl _ _ ⟨rfl, rfl⟩ ?_
  refine ⟨[], rfl, rfl, ?_, ?_⟩ <;> repeat' (first | exact trivial | exact rfl | exact Iff.rfl | apply And.intro)
/-- The rules. -/
def brk (t : Trk) (i : Nat) (b a : Bool) : Nat → Prop
  | 1 => (t.p.getD i s0).r - (t.p.getD i s0).l < t.c.thin
  | 2 => (t.p.getD i s0).r - (t.p.getD i s0).l > t.c.wide
  | 3 => 113000 * t.per * stF t.p i b > 710 * t.r * t.c.slope
  | 4 => bdF t.p i b a > t.c.jerk
  | 5 => bdF t.p i b a * t.c.sty > arcF t.r t.per
  | _ => False
instance (t : Trk) (i : Nat) (b a : Bool) (k : Nat) : Decidable (brk t i b a k) := by unfold brk; split <;> exact inferInstance
theorem s213 (t : Trk) (i : Nat) (b a : Bool) (hn : NearOK t.p i b a) : PSpec Tryz.prog 213 [tkX t, nrX t.p i b a] (xP (brk t i b a 1)) := by
  have c1 := s283 t.p i b a hn.h
  have f2 : rI (tkA t) 0 (0 + 0 + (0 + 1 + 1)) = t.c.thin := rfl
  cases b
  all_goals
    cases a
    all_goals
      refine spec_of pMix (O := [(1, ([], [⟨0, [], []⟩, ⟨2, [], []⟩, ⟨3, [], []⟩, ⟨4, [], []⟩, ⟨5, [], []⟩, ⟨6, [], []⟩, ⟨1, [2, 3, 4, 5, 6], []⟩, ⟨7, [], []⟩, ⟨8, [], []⟩]))]) Tryz.func213 (c := bodyOf Tryz.f213) rfl (by kernel_rfl) (by kernel_rfl) Tryz.ntmps213 (res := [.tmp 4]) (by kernel_rfl) ?_
      repeat' ((conv => whnf); first | rw [f2] | refine Rng.g ?_ | refine Ob.g ?_ | refine Ob.e ?_ | refine Ob.m ?_ | refine Ob.mk (Nat.le_of_ble_eq_true rfl) ?_ | refine JoinVC.on ?_ | refine Nils.mk (fun h => ?_) ?_ | refine Val.t ?_ | refine Val.d ?_ | refine Mm.mk ?_ | refine CallVC.pure rfl (c1) ?_ | refine CallVC0.pure rfl (c1) ?_ | (refine Br.mk (fun h => ?_) (fun h => ?_) <;> first | (exfalso; omega; done) | (exfalso; simp at h; done) | skip))
      repeat refine Mm.mk ?_
      refine EndVC.mk _ rfl _ _ ⟨rfl, rfl⟩ ?_
      refine ⟨[], rfl, rfl, ?_, ?_⟩ <;> repeat' (first | exact trivial | exact rfl | exact Iff.rfl | apply And.intro)
theorem s214 (t : Trk) (i : Nat) (b a : Bool) (hn : NearOK t.p i b a) : PSpec Tryz.prog 214 [tkX t, nrX t.p i b a] (xP (brk t i b a 2)) := by
  have c1 := s283 t.p i b a hn.h
  have f2 : rI (tkA t) 0 (0 + 0 + (0 + 1 + 1 + 1)) = t.c.wide := rfl
  cases b
  all_goals
    cases a
    all_goals
      refine spec_of pMix (O := [(1, ([], [⟨0, [], []⟩, ⟨2, [], []⟩, ⟨3, [], []⟩, ⟨4, [], []⟩, ⟨5, [], []⟩, ⟨6, [], []⟩, ⟨1, [2, 3, 4, 5, 6], []⟩, ⟨7, [], []⟩, ⟨8, [], []⟩]))]) Tryz.func214 (c := bodyOf Tryz.f214) rfl (by kernel_rfl) (by kernel_rfl) Tryz.ntmps214 (res := [.tmp 4]) (by kernel_rfl) ?_
      repeat' ((conv => whnf); first | rw [f2] | refine Rng.g ?_ | refine Ob.g ?_ | refine Ob.e ?_ | refine Ob.m ?_ | refine Ob.mk (Nat.le_of_ble_eq_true rfl) ?_ | refine JoinVC.on ?_ | refine Nils.mk (fun h => ?_) ?_ | refine Val.t ?_ | refine Val.d ?_ | refine Mm.mk ?_ | refine CallVC.pure rfl (c1) ?_ | refine CallVC0.pure rfl (c1) ?_ | (refine Br.mk (fun h => ?_) (fun h => ?_) <;> first | (exfalso; omega; done) | (exfalso; simp at h; done) | skip))
      repeat refine Mm.mk ?_
      refine EndVC.mk _ rfl _ _ ⟨rfl, rfl⟩ ?_
      refine ⟨[], rfl, rfl, ?_, ?_⟩ <;> repeat' (first | exact trivial | exact rfl | exact Iff.rfl | apply And.intro)
theorem s215 (t : Trk) (i : Nat) (b a : Bool) (ht : TrkOK t) (hn : NearOK t.p i b a) : PSpec Tryz.prog 215 [tkX t, nrX t.p i b a] (xP (brk t i b a 3)) := by
  have c1 := s284 t.p i b a hn
  have f2 : rI (tkA t) 0 (0 + 0 + (0 + 1 + 1 + 1 + 1)) = t.c.slope := rfl
  have f8 : rI (tkA t) 0 (0 + (0 + 1 + 1 + 1 + 1 + 1 + 1 + 1 + 1)) = t.r := rfl
  have f9 : rI (tkA t) 0 (0 + (0 + 1 + 1 + 1 + 1 + 1 + 1 + 1 + 1 + 1)) = t.per := rfl
  have hr := ht.r
  have hp := ht.per
  have hs := ht.c.slope
  have hst := stF_bd hn
  have h1 := mul_rng (a := 113000 * t.per) (b := stF t.p i b) (A := 7405568000) (B := 8388608) (by omega) hst
  have h2 := mul_rng (a := 710 * t.r) (b := t.c.slope) (A := 2977955840) (B := 10000) (by omega) hs
  cases b
  all_goals
    cases a
    all_goals
      refine spec_of pMix (O := [(1, ([], [⟨0, [], []⟩, ⟨1, [], []⟩, ⟨2, [], []⟩, ⟨3, [], []⟩, ⟨4, [], []⟩, ⟨5, [], []⟩, ⟨8, [], []⟩, ⟨9, [], []⟩, ⟨10, [], []⟩, ⟨11, [], []⟩, ⟨12, [], []⟩, ⟨13, [], []⟩, ⟨14, [], []⟩, ⟨15, [], []⟩, ⟨16, [], []⟩, ⟨17, [], []⟩, ⟨18, [], []⟩, ⟨6, [0, 1, 2, 3, 4, 8, 9, 10, 11, 12, 13, 14, 15, 16, 17, 18], []⟩, ⟨7, [], []⟩, ⟨19, [], []⟩, ⟨20, [], []⟩]))]) Tryz.func215 (c := bodyOf Tryz.f215) rfl (by kernel_rfl) (by kernel_rfl) Tryz.ntmps215 (res := [.tmp 4]) (by kernel_rfl) ?_
      repeat' ((conv => whnf); first | rw [f2] | rw [f8] | rw [f9] | refine Rng.g ?_ | refine Ob.g ?_ | refine Ob.e ?_ | refine Ob.m ?_ | refine Ob.mk (Nat.le_of_ble_eq_true rfl) ?_ | refine JoinVC.on ?_ | refine Nils.mk (fun h => ?_) ?_ | refine Val.t ?_ | refine Val.d ?_ | refine Mm.mk ?_ | refine CallVC.pure rfl (c1) ?_ | refine CallVC0.pure rfl (c1) ?_ | (refine Br.mk (fun h => ?_) (fun h => ?_) <;> first | (exfalso; omega; done) | (exfalso; simp at h; done) | skip))
      repeat refine Mm.mk ?_
      refine EndVC.mk _ rfl _ _ ⟨rfl, rfl⟩ ?_
      refine ⟨[], rfl, rfl, ?_, ?_⟩ <;> repeat' (first | exact trivial | exact rfl | exact Iff.rfl | apply And.intro)
theorem s216 (t : Trk) (i : Nat) (b a : Bool) (hn : NearOK t.p i b a) : PSpec Tryz.prog 216 [tkX t, nrX t.p i b a] (xP (brk t i b a 4)) := by
  have c1 := s285 t.p i b a hn
  have f2 : rI (tkA t) 0 (0 + 0 + (0 + 1 + 1 + 1 + 1 + 1)) = t.c.jerk := rfl
  cases b
  all_goals
    cases a
    all_goals
      refine spec_of pMix (O := [(1, ([], [⟨0, [], []⟩, ⟨2, [], []⟩, ⟨3, [], []⟩, ⟨4, [], []⟩, ⟨5, [], []⟩, ⟨6, [], []⟩, ⟨1, [2, 3, 4, 5, 6], []⟩, ⟨7, [], []⟩, ⟨8, [], []⟩]))]) Tryz.func216 (c := bodyOf Tryz.f216) rfl (by kernel_rfl) (by kernel_rfl) Tryz.ntmps216 (res := [.tmp 4]) (by kernel_rfl) ?_
      repeat' ((conv => whnf); first | rw [f2] | refine Rng.g ?_ | refine Ob.g ?_ | refine Ob.e ?_ | refine Ob.m ?_ | refine Ob.mk (Nat.le_of_ble_eq_true rfl) ?_ | refine JoinVC.on ?_ | refine Nils.mk (fun h => ?_) ?_ | refine Val.t ?_ | refine Val.d ?_ | refine Mm.mk ?_ | refine CallVC.pure rfl (c1) ?_ | refine CallVC0.pure rfl (c1) ?_ | (refine Br.mk (fun h => ?_) (fun h => ?_) <;> first | (exfalso; omega; done) | (exfalso; simp at h; done) | skip))
      repeat refine Mm.mk ?_
      refine EndVC.mk _ rfl _ _ ⟨rfl, rfl⟩ ?_
      refine ⟨[], rfl, rfl, ?_, ?_⟩ <;> repeat' (first | exact trivial | exact rfl | exact Iff.rfl | apply And.intro)
theorem s217 (t : Trk) (i : Nat) (b a : Bool) (ht : TrkOK t) (hn : NearOK t.p i b a) : PSpec Tryz.prog 217 [tkX t, nrX t.p i b a] (xP (brk t i b a 5)) := by
  have c1 := s285 t.p i b a hn
  have c2 := s286 t ht
  have f2 : rI (tkA t) 0 (0 + 0 + (0 + 1 + 1 + 1 + 1 + 1 + 1)) = t.c.sty := rfl
  have hst := bdF_bd hn
  have hs := ht.c.sty
  have h1 := mul_rng (a := bdF t.p i b a) (b := t.c.sty) (A := 16777216) (B := 1024) (by omega) hs
  cases b
  all_goals
    cases a
    all_goals
      refine spec_of pMix (O := [(1, ([], [⟨0, [], []⟩, ⟨2, [], []⟩, ⟨3, [], []⟩, ⟨4, [], []⟩, ⟨5, [], []⟩, ⟨6, [], []⟩, ⟨8, [], []⟩, ⟨1, [2, 3, 4, 5, 6, 8], []⟩, ⟨7, [], []⟩, ⟨9, [2, 3, 4, 5, 6, 7], []⟩, ⟨10, [], []⟩, ⟨11, [], []⟩]))]) Tryz.func217 (c := bodyOf Tryz.f217) rfl (by kernel_rfl) (by kernel_rfl) Tryz.ntmps217 (res := [.tmp 4]) (by kernel_rfl) ?_
      repeat' ((conv => whnf); first | rw [f2] | refine Rng.g ?_ | refine Ob.g ?_ | refine Ob.e ?_ | refine Ob.m ?_ | refine Ob.mk (Nat.le_of_ble_eq_true rfl) ?_ | refine JoinVC.on ?_ | refine Nils.mk (fun h => ?_) ?_ | refine Val.t ?_ | refine Val.d ?_ | refine Mm.mk ?_ | refine CallVC.pure rfl (c1) ?_ | refine CallVC.pure rfl (c2) ?_ | refine CallVC0.pure rfl (c1) ?_ | refine CallVC0.pure rfl (c2) ?_ | (refine Br.mk (fun h => ?_) (fun h => ?_) <;> first | (exfalso; omega; done) | (exfalso; simp at h; done) | skip))
      repeat refine Mm.mk ?_
      refine EndVC.mk _ rfl _ _ ⟨rfl, rfl⟩ ?_
      refine ⟨[], rfl, rfl, ?_, ?_⟩ <;> repeat' (first | exact trivial | exact rfl | exact Iff.rfl | apply And.intro)
/-- The first rule that is broken. -/
def ruleF (t : Trk) (i : Nat) (b a : Bool) : Int := if brk t i b a 1 then 1 else if brk t i b a 2 then 2 else if brk t i b a 3 then 3 else if brk t i b a 4 then 4 else if brk t i b a 5 then 5 else 0
theorem s128 (t : Trk) (i : Nat) (b a : Bool) (ht : TrkOK t) (hn : NearOK t.p i b a) : PSpec Tryz.prog 128 [tkX t, nrX t.p i b a] (.x (I (ruleF t i b a))) := by
  have c1 := s213 t i b a hn
  have c2 := s214 t i b a hn
  have c3 := s215 t i b a ht hn
  have c4 := s216 t i b a hn
  have c5 := s217 t i b a ht hn
  cases b
  all_goals
    cases a
    all_goals
      refine spec_of pMix (O := []) Tryz.func128 (c := bodyOf Tryz.f128) rfl (by kernel_rfl) (by kernel_rfl) Tryz.ntmps128 (res := [.tmp 4]) (by kernel_rfl) ?_
      repeat' ((conv => whnf); first | refine Rng.g ?_ | refine Ob.g ?_ | refine Ob.e ?_ | refine Ob.m ?_ | refine Ob.mk (Nat.le_of_ble_eq_true rfl) ?_ | refine JoinVC.on ?_ | refine Nils.mk (fun h => ?_) ?_ | refine Val.t ?_ | refine Val.d ?_ | refine Mm.mk ?_ | (refine Br.mk (fun h => ?_) (fun h => ?_) <;> first | (exfalso; omega; done) | (exfalso; simp at h; done) | skip))
      refine LoopVC.un 6 ?_
      repeat' ((conv => whnf); first | refine Rng.g ?_ | refine Ob.g ?_ | refine Ob.e ?_ | refine Ob.m ?_ | refine Ob.mk (Nat.le_of_ble_eq_true rfl) ?_ | refine JoinVC.on ?_ | refine Nils.mk (fun h => ?_) ?_ | refine Val.t ?_ | refine Val.d ?_ | refine Mm.mk ?_ | refine CallVC.pure rfl (c1) ?_ | refine CallVC.pure rfl (c2) ?_ | refine CallVC.pure rfl (c3) ?_ | refine CallVC.pure rfl (c4) ?_ | refine CallVC.pure rfl (c5) ?_ | refine CallVC0.pure rfl (c1) ?_ | refine CallVC0.pure rfl (c2) ?_ | refine CallVC0.pure rfl (c3) ?_ | refine CallVC0.pure rfl (c4) ?_ | refine CallVC0.pure rfl (c5) ?_ | (refine Br.mk (fun h => ?_) (fun h => ?_) <;> first | (exfalso; omega; done) | (exfalso; simp at h; done) | skip))
      all_goals
        repeat refine Mm.mk ?_
        refine EndVC.mk _ rfl _ _ ⟨rfl, rfl⟩ ?_
        refine ⟨[], rfl, rfl, ?_, ?_⟩ <;> repeat' (first | exact trivial | exact rfl | exact Iff.rfl | apply And.intro)
        simp [ruleF, *]
end Go.Sx

namespace Go.Sx
open Go Go.Proofs
set_option maxRecDepth 10000
set_option maxHeartbeats 4000000
theorem s129 (t : Trk) (i : Nat) (b a : Bool) (hl : t.p.length ≤ 4096) (hi : i < t.p.length) (hb : b = true ↔ 0 < i) (ha : a = true ↔ i + 1 < t.p.length) : PSpec Tryz.prog 129 [tkX t, I (i : Int)] (.x (nrX t.p i b a)) := by
  have f7 : rA (tkA t) 0 (0 + (0 + 1 + 1 + 1 + 1 + 1 + 1 + 1)) = smpA t.p := rfl
  have lp := smpA_len t.p
  cases b
  all_goals
    have hb' : ¬ 0 < i ∨ 0 < i := by omega
    cases a
    all_goals
      simp only [true_iff, reduceCtorEq, false_iff] at hb ha
      refine spec_of pMix (O := []) Tryz.func129 (c := bodyOf Tryz.f129) rfl (by kernel_rfl) (by kernel_rfl) Tryz.ntmps129 (res := [.cell 4 234]) (by kernel_rfl) ?_
      repeat' ((conv => whnf); first | rw [f7] | refine Rng.g ?_ | refine Ob.g ?_ | refine Ob.e ?_ | refine Ob.m ?_ | refine Ob.mk (Nat.le_of_ble_eq_true rfl) ?_ | refine JoinVC.on ?_ | refine Nils.mk (fun h => ?_) ?_ | refine Val.t ?_ | refine Val.d ?_ | refine Mm.mk ?_ | (refine Br.mk (fun h => ?_) (fun h => ?_) <;> first | (exfalso; omega; done) | (exfalso; simp at h; done) | skip))
      repeat refine Mm.mk ?_
      refine EndVC.mk _ rfl _ _ ⟨rfl, rfl⟩ ?_
      refine ⟨[], rfl, rfl, ?_, ?_⟩ <;> repeat' (first | exact trivial | exact rfl | exact Iff.rfl | apply And.intro)
  all_goals omega
theorem s208 (t : Trk) : HSpec Tryz.prog 208 [tkX t] [] (fun r m' => r = .x (.one (.fn 281 [(0, 0)])) ∧ m' = [some (.box 214 [.lel true KTk (tkA t) 0 0])]) := by
  refine spec_of pMix (O := []) Tryz.func208 (c := bodyOf Tryz.f208) rfl (by kernel_rfl) (by kernel_rfl) Tryz.ntmps208 (res := [.tmp 2]) (by kernel_rfl) ?_
  repeat' ((conv => whnf); first | refine Rng.g ?_ | refine Ob.g ?_ | refine Ob.e ?_ | refine Ob.m ?_ | refine Ob.mk (Nat.le_of_ble_eq_true rfl) ?_ | refine JoinVC.on ?_ | refine Nils.mk (fun h => ?_) ?_ | refine Val.t ?_ | refine Val.d ?_ | refine Mm.mk ?_ | (refine Br.mk (fun h => ?_) (fun h => ?_) <;> first | (exfalso; omega; done) | (exfalso; simp at h; done) | skip))
  repeat refine Mm.mk ?_
  refine EndVC.mk _ rfl _ _ ⟨rfl, rfl⟩ ?_
  refine ⟨[some 0], rfl, rfl, ?_, ?_⟩ <;> repeat' (first | exact trivial | exact rfl | exact Iff.rfl | apply And.intro)
def bB (i : Nat) : Bool := decide (0 < i)
def aB (l : List Smp) (i : Nat) : Bool := decide (i + 1 < l.length)
theorem TrkOK.near {t : Trk} (ht : TrkOK t) {i : Nat} (hi : i < t.p.length) : NearOK t.p i (bB i) (aB t.p i) :=
  ⟨ht.p.each i hi, fun _ => ht.p.each _ (by omega), fun ha => ht.p.each _ (of_decide_eq_true ha)⟩
def ruleAt (t : Trk) (i : Nat) : Int := ruleF t i (bB i) (aB t.p i)
theorem ruleF_rng (t : Trk) (i : Nat) (b a : Bool) : 0 ≤ ruleF t i b a ∧ ruleF t i b a ≤ 5 := by
  unfold ruleF
  repeat' split
  all_goals omega
/-- The fault of a groove. -/
structure FaultIs (t : Trk) (i : Nat) (x : Int) : Prop where
  none : x = 0 → i = 0 ∧ ∀ j, j < t.p.length → ruleAt t j = 0
  some : x ≠ 0 → i < t.p.length ∧ x = ruleAt t i ∧ ∀ j, j < i → ruleAt t j = 0
def cF : Code → Code
  | .seq a _ => a
  | c => c
def cS : Code → Code
  | .seq _ b => b
  | c => c
def cB : Code → Code
  | .block _ c => c
  | c => c
def cAs : Code → Code
  | .rangeFunc _ _ x _ => x
  | c => c
def cBo : Code → Code
  | .rangeFunc _ _ _ b => b
  | c => c
noncomputable def rf116 : Code := cB (cS (cF (cS (bodyOf Tryz.f116))))
theorem s116 (t : Trk) (ht : TrkOK t) : HSpec Tryz.prog 116 [tkX t] [] (fun r m' => ∃ (i : Nat) (x : Int), FaultIs t i x ∧ r = .tup [I (i : Int), I x] ∧ m' = []) := by
  have lp := smpA_len t.p
  have hl := ht.p.len
  have f7 : rA (tkA t) 0 (0 + (0 + 1 + 1 + 1 + 1 + 1 + 1 + 1)) = smpA t.p := rfl
  refine spec_of pMix (O := []) Tryz.func116 (c := bodyOf Tryz.f116) rfl (by kernel_rfl) (by kernel_rfl) Tryz.ntmps116 (res := [.cell 2 3, .cell 3 3]) (by kernel_rfl) ?_
  repeat' ((conv => whnf); first | refine Rng.g ?_ | refine Ob.g ?_ | refine Ob.e ?_ | refine Ob.m ?_ | refine Ob.mk (Nat.le_of_ble_eq_true rfl) ?_ | refine JoinVC.on ?_ | refine Nils.mk (fun h => ?_) ?_ | refine Val.t ?_ | refine Val.d ?_ | refine Mm.mk ?_ | (refine Br.mk (fun h => ?_) (fun h => ?_) <;> first | (exfalso; omega; done) | (exfalso; simp at h; done) | skip))
  conv => whnf
  refine CallVC.mk [] _ _ _ rfl rfl rfl (s208 t) (fun r m' h' => ?_)
  obtain ⟨rfl, rfl⟩ := h'
  conv => whnf
  repeat' ((conv => whnf); first | refine Rng.g ?_ | refine Ob.g ?_ | refine Ob.e ?_ | refine Ob.m ?_ | refine Ob.mk (Nat.le_of_ble_eq_true rfl) ?_ | refine JoinVC.on ?_ | refine Nils.mk (fun h => ?_) ?_ | refine Val.t ?_ | refine Val.d ?_ | refine Mm.mk ?_ | (refine Br.mk (fun h => ?_) (fun h => ?_) <;> first | (exfalso; omega; done) | (exfalso; simp at h; done) | skip))
  change RangeVC _ _ _ _ _
  refine RangeVC.mk e281 (isem_of_awp pMix [] Tryz.func281 (c := bodyOf Tryz.f281) rfl (by kernel_rfl) Tryz.ntmps281 (by kernel_rfl) ?_)
  repeat' ((conv => whnf); first | rw [f7] | refine Rng.g ?_ | refine Ob.g ?_ | refine Ob.e ?_ | refine Ob.m ?_ | refine Ob.mk (Nat.le_of_ble_eq_true rfl) ?_ | refine JoinVC.on ?_ | refine Nils.mk (fun h => ?_) ?_ | refine Val.t ?_ | refine Val.d ?_ | refine Mm.mk ?_ | (refine Br.mk (fun h => ?_) (fun h => ?_) <;> first | (exfalso; omega; done) | (exfalso; simp at h; done) | skip))
  refine LoopVC.mk (fun n st => ∃ (i : Nat), i ≤ t.p.length ∧ n = t.p.length - i ∧ (∀ j, j < i → ruleAt t j = 0) ∧ st = ⟨5, envA 20 [(0, .x (.one (.yld 4))), (1, .x (.one (.ptr 3 0))), (8, .int .i64 (t.p.length : Int)), (9, .int .i64 (i : Int))], [some (.box 214 [.lel true KTk (tkA t) 0 0]), some (.box 3 [.int .i64 0]), some (.box 3 [.int .i64 0]), some (.box 214 [.lel true KTk (tkA t) 0 0]), some (.loop [9, 10] (cAs rf116) (cBo rf116) (envA 18 [(1, .x (.one (.ptr 0 0))), (2, .x (.one (.ptr 1 0))), (3, .x (.one (.ptr 2 0)))]) .ready)]⟩) _ _ ⟨0, Nat.zero_le _, rfl, fun j hj => absurd hj (Nat.not_lt_zero j), rfl⟩ ?_ ?_
  · refine ⟨[some 0, some 1, some 2, some 3, some 4], rfl, rfl, ?_, ?_⟩ <;> repeat' (first | exact trivial | exact rfl | exact Iff.rfl | apply And.intro)
    exact congrArg Int.ofNat lp
  rintro n _ ⟨i, hi, hn, hj, rfl⟩
  by_cases hi' : i < t.p.length
  · have c1 := s129 t i (bB i) (aB t.p i) hl hi' decide_eq_true_iff decide_eq_true_iff
    have c2 := s128 t i (bB i) (aB t.p i) ht (ht.near hi')
    have e : ruleAt t i = ruleF t i (bB i) (aB t.p i) := rfl
    have hr5 := ruleF_rng t i (bB i) (aB t.p i)
    obtain ⟨b, hb⟩ : ∃ b, bB i = b := ⟨_, rfl⟩
    obtain ⟨a, ha⟩ : ∃ a, aB t.p i = a := ⟨_, rfl⟩
    rw [hb, ha] at c1 c2 e hr5
    cases b
    all_goals
      cases a
      all_goals
        repeat' ((conv => whnf); first | refine Rng.g ?_ | refine Ob.g ?_ | refine Ob.e ?_ | refine Ob.m ?_ | refine Ob.mk (Nat.le_of_ble_eq_true rfl) ?_ | refine JoinVC.on ?_ | refine Nils.mk (fun h => ?_) ?_ | refine Val.t ?_ | refine Val.d ?_ | refine Mm.mk ?_ | refine CallVC.pure rfl (c1) ?_ | refine CallVC.pure rfl (c2) ?_ | refine CallVC0.pure rfl (c1) ?_ | refine CallVC0.pure rfl (c2) ?_ | refine YieldVC.mk (rsem_of_awp pMix [] rfl (by kernel_rfl) ?_) | (refine Br.mk (fun h => ?_) (fun h => ?_) <;> first | (exfalso; omega; done) | (exfalso; simp at h; done) | skip))
        · repeat refine Mm.mk ?_
          conv => whnf
          refine EndVC.mk _ rfl _ _ (⟨i, _, ⟨fun h0 => by rw [h0] at h; omega, fun _ => ⟨hi', e.symm, hj⟩⟩, rfl, rfl⟩) ?_
          refine ⟨[], rfl, rfl, ?_, ?_⟩ <;> repeat' (first | exact trivial | exact rfl | exact Iff.rfl | apply And.intro)
        · refine Back.mk (t.p.length - (i + 1)) _ (by omega) ⟨i + 1, by omega, rfl, fun j hj' => ?_, rfl⟩ ?_
          · rcases Nat.lt_succ_iff_lt_or_eq.1 hj' with h' | h'
            · exact hj j h'
            · rw [h', e]; omega
          · refine ⟨[some 0, some 1, some 2, some 3, some 4], rfl, rfl, ?_, ?_⟩ <;> repeat' (first | exact trivial | exact rfl | exact Iff.rfl | apply And.intro)
  · repeat' ((conv => whnf); first | refine Rng.g ?_ | refine Ob.g ?_ | refine Ob.e ?_ | refine Ob.m ?_ | refine Ob.mk (Nat.le_of_ble_eq_true rfl) ?_ | refine JoinVC.on ?_ | refine Nils.mk (fun h => ?_) ?_ | refine Val.t ?_ | refine Val.d ?_ | refine Mm.mk ?_ | (refine Br.mk (fun h => ?_) (fun h => ?_) <;> first | (exfalso; omega; done) | (exfalso; simp at h; done) | skip))
    repeat refine Mm.mk ?_
    conv => whnf
    refine EndVC.mk _ rfl _ _ (⟨0, 0, ⟨fun _ => ⟨rfl, fun j hj' => hj j (by omega)⟩, fun h0 => absurd rfl h0⟩, rfl, rfl⟩) ?_
    refine ⟨[], rfl, rfl, ?_, ?_⟩ <;> repeat' (first | exact trivial | exact rfl | exact Iff.rfl | apply And.intro)
end Go.Sx

namespace Go.Sx
open Go Go.RowKit
/-! ### Rounds and iterators, proved by themselves -/
theorem Fr.le {w w' : World} {R R' : Rp} {M m' m2 : List (Option Blk)} (hf : Fr w R M w' R' m') (h : Le ⟨M.length, [], m'⟩ ⟨M.length, [], m2⟩) : ∃ R2, Fr w R M w' R2 m2 := by
  obtain ⟨R2, hC⟩ := Le_ok h (show Conc w R M ⟨M.length, [], m'⟩ R' { tmps := #[], defers := [] } w' from ⟨hf, rfl, fun i v hv => by simp at hv, Marks.nil .., rfl⟩)
  exact ⟨R2, hC.fr⟩
theorem RSem.le {P : Program} {id : Nat} {args : List XV} {M : List (Option Blk)} {Q Q' : Bool → List (Option Blk) → Prop} (h : RSem P id args M Q) (hq : ∀ b m', Q b m' → ∃ m2, Q' b m2 ∧ Le ⟨M.length, [], m'⟩ ⟨M.length, [], m2⟩) : RSem P id args M Q' := by
  intro w R vs l h1 h2 h3 h4
  obtain ⟨r, e1, e2, e3⟩ := h w R vs l h1 h2 h3 h4
  refine ⟨r, e1, e2, e3.mono ?_⟩
  rintro e w' ⟨b, m', R', rfl, hQ, hf⟩
  obtain ⟨m2, q2, hl⟩ := hq b m' hQ
  obtain ⟨R2, hf2⟩ := hf.le hl
  exact ⟨b, m2, R2, rfl, q2, hf2⟩
theorem ISem.le {P : Program} {f : FuncId} {args : List XV} {M : List (Option Blk)} {Q Q' : List (Option Blk) → Prop} (h : ISem P f args M Q) (hq : ∀ m', Q m' → ∃ m2, Q' m2 ∧ Le ⟨M.length, [], m'⟩ ⟨M.length, [], m2⟩) : ISem P f args M Q' := by
  intro w R vs h1 h2
  refine (h w R vs h1 h2).mono ?_
  rintro e w' ⟨v, m', R', rfl, hQ, hf⟩
  obtain ⟨m2, q2, hl⟩ := hq m' hQ
  obtain ⟨R2, hf2⟩ := hf.le hl
  exact ⟨v, m2, R2, rfl, q2, hf2⟩
theorem RSem.mono {P : Program} {id : Nat} {args : List XV} {M : List (Option Blk)} {Q Q' : Bool → List (Option Blk) → Prop} (h : RSem P id args M Q) (hq : ∀ b m', Q b m' → Q' b m') : RSem P id args M Q' := by
  intro w R vs l h1 h2 h3 h4
  obtain ⟨r, e1, e2, e3⟩ := h w R vs l h1 h2 h3 h4
  refine ⟨r, e1, e2, e3.mono ?_⟩
  rintro e w' ⟨b, m', R', rfl, hQ, hf⟩
  exact ⟨b, m', R', rfl, hq _ _ hQ, hf⟩
theorem ISem.mono {P : Program} {f : FuncId} {args : List XV} {M : List (Option Blk)} {Q Q' : List (Option Blk) → Prop} (h : ISem P f args M Q) (hq : ∀ m', Q m' → Q' m') : ISem P f args M Q' := by
  intro w R vs h1 h2
  refine (h w R vs h1 h2).mono ?_
  rintro e w' ⟨v, m', R', rfl, hQ, hf⟩
  exact ⟨v, m', R', rfl, hq _ hQ, hf⟩
theorem YieldVC.of {P : Program} {id : Nat} {args : List XV} {s : St} {K : AV → St → Prop} {m2 : List (Option Blk)} (h : RSem P id args s.mem (fun b m' => b = true ∧ m' = m2)) (k : K (.x (.one .tt)) ⟨s.k, s.env, m2⟩) : YieldVC P id args s K :=
  .mk (h.mono fun b m' hh => by obtain ⟨rfl, rfl⟩ := hh; exact k)
theorem RangeVC.of {P : Program} {f : FuncId} {args : List XV} {m : List (Option Blk)} {Q Q' : List (Option Blk) → Prop} (he : EntersF P f) (h : ISem P f args m Q') (k : ∀ m', Q' m' → Q m') : RangeVC P f args m Q := .mk he (h.mono k)
end Go.Sx

namespace Go.Sx
open Go Go.Proofs
set_option maxRecDepth 10000
set_option maxHeartbeats 8000000
def cL : Code → Code
  | .loop c => c
  | c => c
end Go.Sx

namespace Go.Sx
open Go Go.Proofs
set_option maxRecDepth 10000
set_option maxHeartbeats 16000000
end Go.Sx

namespace Go.Sx
open Go Go.Proofs
set_option maxRecDepth 10000
set_option maxHeartbeats 16000000
end Go.Sx

namespace Go.Sx
open Go Go.Proofs
set_option maxRecDepth 10000
set_option maxHeartbeats 4000000
theorem s112 (c : Cut) (l : List Smp) : HSpec Tryz.prog 112 [c.x, lS l] [] (fun r m' => (∃ e, ¬ (CutOK c ∧ PtsOK l) ∧ e ≠ 0 ∧ r = .tup [.one .nilp, I e] ∧ m' = []) ∨ (CutOK c ∧ PtsOK l ∧ r = .tup [.one (.ptr 0 0), I 0] ∧ m' = [some (bTk ⟨c, l, 0, 0⟩)])) := by
  have v1 := s105 c
  have v2 := s153 l
  by_cases hC : ¬ CutOK c
  · refine spec_of pMix (O := []) Tryz.func112 (c := bodyOf Tryz.f112) rfl (by kernel_rfl) (by kernel_rfl) Tryz.ntmps112 (res := [.tmp 4, .tmp 5]) (by kernel_rfl) ?_
    repeat' ((conv => whnf); first | refine Rng.g ?_ | refine Ob.g ?_ | refine Ob.e ?_ | refine Ob.m ?_ | refine Ob.mk (Nat.le_of_ble_eq_true rfl) ?_ | refine JoinVC.on ?_ | refine Nils.mk (fun h => ?_) ?_ | refine Val.t ?_ | refine Val.d ?_ | refine Mm.mk ?_ | (refine Br.mk (fun h => ?_) (fun h => ?_) <;> first | (exfalso; omega; done) | (exfalso; simp at h; done) | skip))
    conv => whnf
    refine CallVC.mk [] _ _ _ rfl rfl rfl (v1) (fun r m' h' => ?_)
    obtain ⟨e, rfl, rfl, he⟩ := h'
    conv => whnf
    have he0 : e ≠ 0 := fun h0 => hC (he.1 h0)
    repeat' ((conv => whnf); first | refine Rng.g ?_ | refine Ob.g ?_ | refine Ob.e ?_ | refine Ob.m ?_ | refine Ob.mk (Nat.le_of_ble_eq_true rfl) ?_ | refine JoinVC.on ?_ | refine Nils.mk (fun h => ?_) ?_ | refine Val.t ?_ | refine Val.d ?_ | refine Mm.mk ?_ | (refine Br.mk (fun h => ?_) (fun h => ?_) <;> first | (exfalso; omega; done) | (exfalso; simp at h; done) | skip))
    repeat refine Mm.mk ?_
    conv => whnf
    refine EndVC.mk _ rfl _ _ (.inl ⟨e, fun h => hC h.1, he0, rfl, rfl⟩) ?_
    refine ⟨[], rfl, rfl, ?_, ?_⟩ <;> repeat' (first | exact trivial | exact rfl | exact Iff.rfl | apply And.intro)
  replace hC := Classical.not_not.1 hC
  by_cases hP : ¬ PtsOK l
  · refine spec_of pMix (O := []) Tryz.func112 (c := bodyOf Tryz.f112) rfl (by kernel_rfl) (by kernel_rfl) Tryz.ntmps112 (res := [.tmp 4, .tmp 5]) (by kernel_rfl) ?_
    repeat' ((conv => whnf); first | refine Rng.g ?_ | refine Ob.g ?_ | refine Ob.e ?_ | refine Ob.m ?_ | refine Ob.mk (Nat.le_of_ble_eq_true rfl) ?_ | refine JoinVC.on ?_ | refine Nils.mk (fun h => ?_) ?_ | refine Val.t ?_ | refine Val.d ?_ | refine Mm.mk ?_ | (refine Br.mk (fun h => ?_) (fun h => ?_) <;> first | (exfalso; omega; done) | (exfalso; simp at h; done) | skip))
    conv => whnf
    refine CallVC.mk [] _ _ _ rfl rfl rfl (v1) (fun r m' h' => ?_)
    obtain ⟨e, rfl, rfl, he⟩ := h'
    conv => whnf
    cases he.2 hC
    repeat' ((conv => whnf); first | refine Rng.g ?_ | refine Ob.g ?_ | refine Ob.e ?_ | refine Ob.m ?_ | refine Ob.mk (Nat.le_of_ble_eq_true rfl) ?_ | refine JoinVC.on ?_ | refine Nils.mk (fun h => ?_) ?_ | refine Val.t ?_ | refine Val.d ?_ | refine Mm.mk ?_ | (refine Br.mk (fun h => ?_) (fun h => ?_) <;> first | (exfalso; omega; done) | (exfalso; simp at h; done) | skip))
    conv => whnf
    refine CallVC.mk [] _ _ _ rfl rfl rfl (v2) (fun r m' h' => ?_)
    obtain ⟨e, rfl, rfl, he'⟩ := h'
    conv => whnf
    have he0 : e ≠ 0 := fun h0 => hP (he'.1 h0)
    repeat' ((conv => whnf); first | refine Rng.g ?_ | refine Ob.g ?_ | refine Ob.e ?_ | refine Ob.m ?_ | refine Ob.mk (Nat.le_of_ble_eq_true rfl) ?_ | refine JoinVC.on ?_ | refine Nils.mk (fun h => ?_) ?_ | refine Val.t ?_ | refine Val.d ?_ | refine Mm.mk ?_ | (refine Br.mk (fun h => ?_) (fun h => ?_) <;> first | (exfalso; omega; done) | (exfalso; simp at h; done) | skip))
    repeat refine Mm.mk ?_
    conv => whnf
    refine EndVC.mk _ rfl _ _ (.inl ⟨e, fun h => hP h.2, he0, rfl, rfl⟩) ?_
    refine ⟨[], rfl, rfl, ?_, ?_⟩ <;> repeat' (first | exact trivial | exact rfl | exact Iff.rfl | apply And.intro)
  replace hP := Classical.not_not.1 hP
  refine spec_of pMix (O := []) Tryz.func112 (c := bodyOf Tryz.f112) rfl (by kernel_rfl) (by kernel_rfl) Tryz.ntmps112 (res := [.tmp 4, .tmp 5]) (by kernel_rfl) ?_
  repeat' ((conv => whnf); first | refine Rng.g ?_ | refine Ob.g ?_ | refine Ob.e ?_ | refine Ob.m ?_ | refine Ob.mk (Nat.le_of_ble_eq_true rfl) ?_ | refine JoinVC.on ?_ | refine Nils.mk (fun h => ?_) ?_ | refine Val.t ?_ | refine Val.d ?_ | refine Mm.mk ?_ | (refine Br.mk (fun h => ?_) (fun h => ?_) <;> first | (exfalso; omega; done) | (exfalso; simp at h; done) | skip))
  conv => whnf
  refine CallVC.mk [] _ _ _ rfl rfl rfl (v1) (fun r m' h' => ?_)
  obtain ⟨e, rfl, rfl, he⟩ := h'
  conv => whnf
  cases he.2 hC
  repeat' ((conv => whnf); first | refine Rng.g ?_ | refine Ob.g ?_ | refine Ob.e ?_ | refine Ob.m ?_ | refine Ob.mk (Nat.le_of_ble_eq_true rfl) ?_ | refine JoinVC.on ?_ | refine Nils.mk (fun h => ?_) ?_ | refine Val.t ?_ | refine Val.d ?_ | refine Mm.mk ?_ | (refine Br.mk (fun h => ?_) (fun h => ?_) <;> first | (exfalso; omega; done) | (exfalso; simp at h; done) | skip))
  conv => whnf
  refine CallVC.mk [] _ _ _ rfl rfl rfl (v2) (fun r m' h' => ?_)
  obtain ⟨e, rfl, rfl, he'⟩ := h'
  conv => whnf
  cases he'.2 hP
  repeat' ((conv => whnf); first | refine Rng.g ?_ | refine Ob.g ?_ | refine Ob.e ?_ | refine Ob.m ?_ | refine Ob.mk (Nat.le_of_ble_eq_true rfl) ?_ | refine JoinVC.on ?_ | refine Nils.mk (fun h => ?_) ?_ | refine Val.t ?_ | refine Val.d ?_ | refine Mm.mk ?_ | (refine Br.mk (fun h => ?_) (fun h => ?_) <;> first | (exfalso; omega; done) | (exfalso; simp at h; done) | skip))
  repeat refine Mm.mk ?_
  conv => whnf
  refine EndVC.mk _ rfl _ _ (.inr ⟨hC, hP, rfl, rfl⟩) ?_
  refine ⟨[some 1], rfl, rfl, ?_, ?_⟩ <;> repeat' (first | exact trivial | exact rfl | exact Iff.rfl | apply And.intro)
/-! ### Greater radii are milder -/
def Trk.at (t : Trk) (r : Int) : Trk := ⟨t.c, t.p, r, t.per⟩
theorem arcF_mono {r q per : Int} (h0 : 0 ≤ r) (h : r ≤ q) (hp : 1 ≤ per) : arcF r per ≤ arcF q per := by
  unfold arcF
  refine Int.ediv_le_ediv (Int.mul_pos (by omega) (by omega)) ?_
  exact Int.mul_le_mul (by omega) (by omega) (by omega) (by omega)
theorem brk_mono {t : Trk} (hc : CutOK t.c) (hp : 1 ≤ t.per) {r q : Int} (h0 : 0 ≤ r) (h : r ≤ q) (i : Nat) (b a : Bool) (k : Nat) (hb : brk (t.at q) i b a k) : brk (t.at r) i b a k := by
  have hs := hc.slope
  unfold brk at hb ⊢
  match k with
  | 0 => exact hb
  | 1 => exact hb
  | 2 => exact hb
  | 3 =>
    have : 710 * r * t.c.slope ≤ 710 * q * t.c.slope := Int.mul_le_mul_of_nonneg_right (by omega) hs.1
    simp only [Trk.at] at hb ⊢
    omega
  | 4 => exact hb
  | 5 =>
    have := arcF_mono h0 h hp
    simp only [Trk.at] at hb ⊢
    omega
  | _ + 6 => exact hb
theorem ruleF_0 (t : Trk) (i : Nat) (b a : Bool) : ruleF t i b a = 0 ↔ ¬ brk t i b a 1 ∧ ¬ brk t i b a 2 ∧ ¬ brk t i b a 3 ∧ ¬ brk t i b a 4 ∧ ¬ brk t i b a 5 := by
  unfold ruleF
  repeat' split
  all_goals simp_all
def pN (t : Trk) (i : Nat) (r : Int) : Prop := ruleAt (t.at r) i = 0
instance (t : Trk) (i : Nat) (r : Int) : Decidable (pN t i r) := by unfold pN; exact inferInstance
def pL (t : Trk) (r : Int) : Prop := ∀ j, j < t.p.length → pN t j r
open Classical in
noncomputable instance (t : Trk) (r : Int) : Decidable (pL t r) := propDecidable _
theorem pN.mono {t : Trk} (hc : CutOK t.c) (hp : 1 ≤ t.per) {i : Nat} {r q : Int} (h0 : 0 ≤ r) (h : r ≤ q) (hn : pN t i r) : pN t i q := by
  unfold pN ruleAt at hn ⊢
  rw [ruleF_0] at hn ⊢
  obtain ⟨h1, h2, h3, h4, h5⟩ := hn
  exact ⟨fun hb => h1 (brk_mono hc hp h0 h _ _ _ _ hb), fun hb => h2 (brk_mono hc hp h0 h _ _ _ _ hb), fun hb => h3 (brk_mono hc hp h0 h _ _ _ _ hb), fun hb => h4 (brk_mono hc hp h0 h _ _ _ _ hb), fun hb => h5 (brk_mono hc hp h0 h _ _ _ _ hb)⟩
theorem pL.mono {t : Trk} (hc : CutOK t.c) (hp : 1 ≤ t.per) {r q : Int} (h0 : 0 ≤ r) (h : r ≤ q) (hn : pL t r) : pL t q := fun j hj => (hn j hj).mono hc hp h0 h
theorem FaultIs.zero {t : Trk} {i : Nat} {x : Int} (h : FaultIs t i x) : x = 0 ↔ pL t t.r := by
  constructor
  · intro h0 j hj
    exact (h.none h0).2 j hj
  · intro hp
    refine Classical.byContradiction fun h0 => ?_
    obtain ⟨h1, h2, _⟩ := h.some h0
    exact h0 (h2.trans (hp i h1))
/-! ### The least radius of a groove -/
theorem s115 (t : Trk) (ht : TrkOK t) : HSpec Tryz.prog 115 [.one (.ptr 0 0)] [.box 214 [.ptr 1 0], bTk t] (fun r m' => r = xP (pL t t.r) ∧ m' = [some (.box 214 [.ptr 1 0]), some (bTk t)]) := by
  refine spec_of pMix (O := []) Tryz.func115 (c := bodyOf Tryz.f115) rfl (by kernel_rfl) (by kernel_rfl) Tryz.ntmps115 (res := [.tmp 1]) (by kernel_rfl) ?_
  repeat' ((conv => whnf); first | refine Rng.g ?_ | refine Ob.g ?_ | refine Ob.e ?_ | refine Ob.m ?_ | refine Ob.mk (Nat.le_of_ble_eq_true rfl) ?_ | refine JoinVC.on ?_ | refine Nils.mk (fun h => ?_) ?_ | refine Val.t ?_ | refine Val.d ?_ | refine Mm.mk ?_ | (refine Br.mk (fun h => ?_) (fun h => ?_) <;> first | (exfalso; omega; done) | (exfalso; simp at h; done) | skip))
  conv => whnf
  refine CallVC.mk [] _ _ _ rfl rfl rfl (s116 t ht) (fun r m' h' => ?_)
  obtain ⟨i, x, hF, rfl, rfl⟩ := h'
  conv => whnf
  repeat' ((conv => whnf); first | refine Rng.g ?_ | refine Ob.g ?_ | refine Ob.e ?_ | refine Ob.m ?_ | refine Ob.mk (Nat.le_of_ble_eq_true rfl) ?_ | refine JoinVC.on ?_ | refine Nils.mk (fun h => ?_) ?_ | refine Val.t ?_ | refine Val.d ?_ | refine Mm.mk ?_ | (refine Br.mk (fun h => ?_) (fun h => ?_) <;> first | (exfalso; omega; done) | (exfalso; simp at h; done) | skip))
  repeat refine Mm.mk ?_
  refine EndVC.mk _ rfl _ _ ⟨rfl, rfl⟩ ?_
  refine ⟨[some 0, some 1], rfl, rfl, ?_, ?_⟩ <;> repeat' (first | exact trivial | exact rfl | exact Iff.rfl | apply And.intro)
  all_goals exact hF.zero
theorem s207 (t : Trk) (r : Int) (ht : TrkOK (t.at r)) : HSpec Tryz.prog 207 [I r, .one (.ptr 0 0), .one (.ptr 1 0)] [.box 214 [.ptr 2 0], .box 33 [.fn 115 [(3, 0)]], bTk t, .box 214 [.ptr 2 0]] (fun x m' => x = xP (pL t r) ∧ m' = [some (.box 214 [.ptr 2 0]), some (.box 33 [.fn 115 [(3, 0)]]), some (bTk (t.at r)), some (.box 214 [.ptr 2 0])]) := by
  refine spec_of pMix (O := []) Tryz.func207 (c := bodyOf Tryz.f207) rfl (by kernel_rfl) (by kernel_rfl) Tryz.ntmps207 (res := [.tmp 4]) (by kernel_rfl) ?_
  repeat' ((conv => whnf); first | refine Rng.g ?_ | refine Ob.g ?_ | refine Ob.e ?_ | refine Ob.m ?_ | refine Ob.mk (Nat.le_of_ble_eq_true rfl) ?_ | refine JoinVC.on ?_ | refine Nils.mk (fun h => ?_) ?_ | refine Val.t ?_ | refine Val.d ?_ | refine Mm.mk ?_ | (refine Br.mk (fun h => ?_) (fun h => ?_) <;> first | (exfalso; omega; done) | (exfalso; simp at h; done) | skip))
  conv => whnf
  refine CallVC.mk [3, 2] _ _ _ rfl rfl rfl (s115 (t.at r) ht) (fun r m' h' => ?_)
  obtain ⟨rfl, rfl⟩ := h'
  conv => whnf
  repeat' ((conv => whnf); first | refine Rng.g ?_ | refine Ob.g ?_ | refine Ob.e ?_ | refine Ob.m ?_ | refine Ob.mk (Nat.le_of_ble_eq_true rfl) ?_ | refine JoinVC.on ?_ | refine Nils.mk (fun h => ?_) ?_ | refine Val.t ?_ | refine Val.d ?_ | refine Mm.mk ?_ | (refine Br.mk (fun h => ?_) (fun h => ?_) <;> first | (exfalso; omega; done) | (exfalso; simp at h; done) | skip))
  repeat refine Mm.mk ?_
  refine EndVC.mk _ rfl _ _ ⟨rfl, rfl⟩ ?_
  refine ⟨[some 0, some 1, some 2, some 3], rfl, rfl, ?_, ?_⟩ <;> repeat' (first | exact trivial | exact rfl | exact Iff.rfl | apply And.intro)
end Go.Sx

namespace Go.Sx
open Go Go.Proofs
set_option maxRecDepth 10000
set_option maxHeartbeats 8000000
/-! ### How much fits -/
@[reducible] def bPs (p : List Smp) : Blk := .box 42 [.lst true KS (smpA p)]
theorem PtsOK.take {p : List Smp} (h : PtsOK p) (k : Nat) : PtsOK (p.take k) := ⟨by rw [List.length_take]; have := h.len; omega, fun j hj => by
  rw [List.length_take] at hj
  have e : (p.take k).getD j s0 = p.getD j s0 := by simp [List.getD_eq_getElem?_getD, show j < k by omega]
  rw [e]
  exact h.each j (by omega)⟩
end Go.Sx

namespace Go.Sx
open Go Go.Proofs
set_option maxRecDepth 10000
set_option maxHeartbeats 16000000
/-! ### Whether a cut keeps the rules -/
end Go.Sx

namespace Go.Sx
open Go Go.Proofs
set_option maxRecDepth 10000
set_option maxHeartbeats 16000000
end Go.Sx

namespace Go.Sx
open Go Go.Proofs
set_option maxRecDepth 10000
set_option maxHeartbeats 4000000
/-! ### A groove without a signal, and a groove in its band -/
/-! ### Sorting by insertion -/
def swp (O : List Int) (j : Nat) : List Int := (O.set (j + 1) (O.getD j 0)).set j (O.getD (j + 1) 0)
def ins (lt : Int → Int → Bool) (O : List Int) : Nat → List Int
  | 0 => O
  | j + 1 => if lt (O.getD (j + 1) 0) (O.getD j 0) = true then ins lt (swp O j) j else O
def isr (lt : Int → Int → Bool) (O : List Int) : Nat → List Int
  | 0 => O
  | k + 1 => ins lt (isr lt O k) (k + 1)
theorem swp_len (O : List Int) (j : Nat) : (swp O j).length = O.length := by simp [swp]
theorem ins_len (lt : Int → Int → Bool) : ∀ (j : Nat) (O : List Int), (ins lt O j).length = O.length
  | 0, O => rfl
  | j + 1, O => by
    unfold ins
    split
    · rw [ins_len lt j, swp_len]
    · rfl
theorem isr_len (lt : Int → Int → Bool) (O : List Int) : ∀ k, (isr lt O k).length = O.length
  | 0 => rfl
  | k + 1 => by
    unfold isr
    rw [ins_len, isr_len lt O k]
/-- Each number below n, once. -/
structure IdxOK (O : List Int) (n : Nat) : Prop where
  len : O.length = n
  rng : ∀ i, i < n → 0 ≤ O.getD i 0 ∧ O.getD i 0 < n
  inj : ∀ i j, i < n → j < n → O.getD i 0 = O.getD j 0 → i = j
def sgF (j i : Nat) : Nat := if i = j then j + 1 else if i = j + 1 then j else i
theorem swp_get (O : List Int) {j : Nat} (h : j + 1 < O.length) (i : Nat) : (swp O j).getD i 0 = O.getD (sgF j i) 0 := by
  unfold swp sgF
  rw [gset _ _ _ _ _ (by simp; omega), gset _ _ _ _ _ h]
  split
  · rfl
  · split <;> rfl
theorem sg_lt {n j i : Nat} (hj : j + 1 < n) (hi : i < n) : sgF j i < n := by unfold sgF; split <;> (try split) <;> omega
theorem sg_inj {j i k : Nat} (h : sgF j i = sgF j k) : i = k := by unfold sgF at h; (repeat' split at h) <;> omega
theorem IdxOK.swp {O : List Int} {n : Nat} (h : IdxOK O n) {j : Nat} (hj : j + 1 < n) : IdxOK (Go.Sx.swp O j) n := by
  have hl := h.len
  have g := swp_get O (j := j) (by omega)
  refine ⟨by rw [swp_len]; exact hl, fun i hi => ?_, fun i k hi hk => ?_⟩
  · rw [g]
    exact h.rng _ (sg_lt hj hi)
  · rw [g, g]
    exact fun e => sg_inj (h.inj _ _ (sg_lt hj hi) (sg_lt hj hk) e)
theorem IdxOK.ins {lt : Int → Int → Bool} {n : Nat} : ∀ (j : Nat) {O : List Int}, IdxOK O n → j < n → IdxOK (Go.Sx.ins lt O j) n
  | 0, O, h, _ => h
  | j + 1, O, h, hj => by
    unfold Go.Sx.ins
    split
    · exact IdxOK.ins j (h.swp hj) (by omega)
    · exact h
theorem IdxOK.isr {lt : Int → Int → Bool} {n : Nat} {O : List Int} (h : IdxOK O n) : ∀ k, k < n → IdxOK (Go.Sx.isr lt O k) n
  | 0, _ => h
  | k + 1, hk => by
    unfold Go.Sx.isr
    exact IdxOK.ins (k + 1) (h.isr k (by omega)) hk
def spanL (i n : Nat) : List Int := (List.range n).map fun k => ((i + k : Nat) : Int)
theorem spanL_len (i n : Nat) : (spanL i n).length = n := by simp [spanL]
theorem spanL_get (i n k : Nat) (h : k < n) : (spanL i n).getD k 0 = ((i + k : Nat) : Int) := by simp [spanL, List.getD_eq_getElem?_getD, List.getElem?_range h]
theorem spanL_succ (i n : Nat) : spanL i (n + 1) = spanL i n ++ [((i + n : Nat) : Int)] := by simp [spanL, List.range_succ]
theorem span_idx (n : Nat) : IdxOK (spanL 0 n) n := ⟨spanL_len 0 n, fun i hi => by rw [spanL_get _ _ _ hi]; omega, fun i j hi hj e => by rw [spanL_get _ _ _ hi, spanL_get _ _ _ hj] at e; omega⟩
/-! ### The bands of a side -/
structure Fmt where
  nm : ByteArray
  outer : Int
  inner : Int
  per : Int
  lead : Int
  gap : Int
  tail : Int
  cost : Int
structure FmtOK (f : Fmt) : Prop where
  nm : nameOK f.nm
  outer : 1 ≤ f.outer ∧ f.outer ≤ 4194304
  inner : 0 ≤ f.inner ∧ f.inner ≤ f.outer - 1
  per : 1 ≤ f.per ∧ f.per ≤ 65536
  cost : 0 ≤ f.cost ∧ f.cost ≤ 1048576
  lead : 0 ≤ f.lead ∧ f.lead ≤ 4194304
  gap : 0 ≤ f.gap ∧ f.gap ≤ 4194304
  tail : 0 ≤ f.tail ∧ f.tail ≤ 4194304
structure Sng where
  long : Int
  pitch : Int
  least : Int
abbrev g0 : Sng := ⟨0, 0, 0⟩
def Sng.ok (g : Sng) : Prop := (1 ≤ g.long ∧ g.long ≤ 16777216) ∧ (1 ≤ g.pitch ∧ g.pitch ≤ 4096) ∧ (0 ≤ g.least ∧ g.least ≤ 4194304)
structure SngsOK (l : List Sng) : Prop where
  len : l.length ≤ 24
  each : ∀ j, j < l.length → (l.getD j g0).ok
def widF (f : Fmt) (g : Sng) : Int := g.pitch * ((g.long + f.per - 1) / f.per)
theorem wid_bd {f : Fmt} {g : Sng} (hp : 1 ≤ f.per) (hg : g.ok) : (1 ≤ (g.long + f.per - 1) / f.per ∧ (g.long + f.per - 1) / f.per ≤ 16777216) ∧ 1 ≤ widF f g ∧ widF f g ≤ 68719476736 := by
  obtain ⟨⟨l1, l2⟩, ⟨p1, p2⟩, _⟩ := hg
  have h1 : 1 ≤ (g.long + f.per - 1) / f.per := by
    have := Int.add_mul_ediv_left (g.long - 1) 1 (show f.per ≠ 0 by omega)
    rw [show g.long - 1 + f.per * 1 = g.long + f.per - 1 by omega] at this
    have h2 : 0 ≤ (g.long - 1) / f.per := Int.ediv_nonneg (by omega) (by omega)
    omega
  have h2 : (g.long + f.per - 1) / f.per ≤ 16777216 := by
    have := Int.add_mul_ediv_left (g.long - 1) 1 (show f.per ≠ 0 by omega)
    rw [show g.long - 1 + f.per * 1 = g.long + f.per - 1 by omega] at this
    have h3 : (g.long - 1) / f.per ≤ g.long - 1 := Int.ediv_le_self _ (by omega)
    omega
  refine ⟨⟨h1, h2⟩, ?_, ?_⟩
  · unfold widF
    have := Int.mul_le_mul p1 h1 (by decide) (by omega)
    omega
  · unfold widF
    have := Int.mul_le_mul p2 h2 (by omega) (by decide)
    omega
/-- Where the next track begins or ends. -/
def atF (f : Fmt) (l : List Sng) (O : List Int) : Nat → Int
  | 0 => f.outer - f.lead
  | i + 1 => atF f l O i - (if 0 < i then f.gap else 0) - widF f (l.getD (O.getD i 0).toNat g0)
theorem atF_bd {f : Fmt} {l : List Sng} {O : List Int} (hf : FmtOK f) (hl : SngsOK l) (hO : ∀ i, i < O.length → 0 ≤ O.getD i 0 ∧ O.getD i 0 < l.length) : ∀ i, i ≤ O.length → atF f l O i ≤ 4194304 ∧ -4194304 - 68723671040 * (i : Int) ≤ atF f l O i
  | 0, _ => by
    have := hf.outer
    have := hf.lead
    unfold atF
    omega
  | i + 1, hi => by
    have h1 := atF_bd hf hl hO i (by omega)
    have h2 := hO i (by omega)
    have h3 := (wid_bd hf.per.1 (hl.each (O.getD i 0).toNat (by omega))).2
    have := hf.gap
    unfold atF
    split <;> omega
def bndR (f : Fmt) (l : List Sng) (O : List Int) (i : Nat) : List Cell := [.int (O.getD i 0), .int (atF f l O i - (if 0 < i then f.gap else 0)), .int (atF f l O (i + 1))]
def bndA (f : Fmt) (l : List Sng) (O : List Int) (n : Nat) : Arr := (List.range n).map (bndR f l O)
theorem bndA_len (f : Fmt) (l : List Sng) (O : List Int) (n : Nat) : (bndA f l O n).length = n := by simp [bndA]
theorem bndA_succ (f : Fmt) (l : List Sng) (O : List Int) (n : Nat) : bndA f l O (n + 1) = bndA f l O n ++ [bndR f l O n] := by simp [bndA, List.range_succ]
def okAt (f : Fmt) (l : List Sng) (O : List Int) (i : Nat) : Prop := (l.getD (O.getD i 0).toNat g0).least ≤ atF f l O (i + 1)
def LayOK (f : Fmt) (l : List Sng) (O : List Int) : Prop := (∀ i, i < O.length → okAt f l O i) ∧ f.inner ≤ atF f l O O.length - f.tail
def cmpI (x y : Int) : Int := if x < y then -1 else if y < x then 1 else 0
def usF (l : List Sng) (a b : Int) : Int := if cmpI (l.getD b.toNat g0).least (l.getD a.toNat g0).least ≠ 0 then cmpI (l.getD b.toNat g0).least (l.getD a.toNat g0).least else cmpI a b
def usB (l : List Sng) (a b : Int) : Bool := decide (usF l a b < 0)
def allO (l : List Sng) : List Int := isr (usB l) (spanL 0 l.length) (l.length - 1)
theorem allO_idx (l : List Sng) : IdxOK (allO l) l.length := by
  unfold allO
  by_cases h : l.length = 0
  · rw [h]; exact span_idx 0
  · exact (span_idx _).isr _ (by omega)
end Go.Sx
