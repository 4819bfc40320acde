import Derived.Test.YteodcncppchhnaaGreatDoorPrTopFacesA
import Derived.Test.YteodcncppchhnaaGreatDoorXv
import Derived.Test.YteodcncppchhnaaGreatDoorProg
import Derived.Laws.Bits64b
import Derived.Test.YteodcncppchhnaaGreatDoorXd
namespace Go.Sx
open Go Go.Proofs
set_option maxRecDepth 10000
set_option maxHeartbeats 4000000
def c3 : Cut := ⟨400, 2000, 200, 2000, 1000, 1000, 100⟩
def l3 : List Smp := [⟨0, 0⟩, ⟨100, 100⟩, ⟨0, 0⟩]
theorem c3_ok : CutOK c3 := by constructor <;> decide
theorem all_lt {p : Nat → Prop} (n : Nat) [DecidablePred p] (h : ((List.range n).all fun j => decide (p j)) = true) : ∀ j, j < n → p j := fun j hj => of_decide_eq_true (List.all_eq_true.1 h j (List.mem_range.2 hj))
instance (s : Smp) : Decidable (s.ok) := by unfold Smp.ok; exact inferInstance
theorem l3_ok : SmpsOK l3 := ⟨by decide, all_lt 3 (by decide)⟩
theorem g3_ok : PtsOK (cutF c3 l3) := ⟨by decide, all_lt 3 (by decide)⟩
def t3 : Trk := ⟨c3, cutF c3 l3, 0, 1000⟩
theorem t3_yes : pL t3 31831 := all_lt 3 (by decide +kernel)
theorem t3_no : ¬ pN t3 0 31830 ∨ ¬ pN t3 1 31830 ∨ ¬ pN t3 2 31830 := by decide +kernel
theorem t3_least {k : Int} (hk : Least (pL t3) 4194305 k) : k = 31831 := by
  have h1 : ¬ 31831 < k := fun h => hk.no 31831 (by decide) h t3_yes
  have h2 : ¬ k ≤ 31830 := fun h => by
    have h3 := (hk.yes (by omega)).mono (t := t3) c3_ok (by decide) hk.rng.1 h
    rcases t3_no with h4 | h4 | h4
    · exact h4 (h3 0 (by decide))
    · exact h4 (h3 1 (by decide))
    · exact h4 (h3 2 (by decide))
  omega
/-! ### The curve of the example -/
def v3 : Crv := ⟨[64], [128], 256⟩
def x3 : List Int := [100, 0, 0, -3]
theorem v3_ok : CrvOK v3 := by
  refine ⟨⟨by decide, fun j => ?_⟩, ⟨by decide, fun j => ?_⟩, by decide⟩
  · match j with
    | 0 => decide
    | j + 1 => show -4096 ≤ (0 : Int) ∧ (0 : Int) ≤ 4096; decide
  · match j with
    | 0 => decide
    | j + 1 => show -4096 ≤ (0 : Int) ∧ (0 : Int) ≤ 4096; decide
theorem x3_ok : SigOK x3 := by
  refine ⟨by decide, fun j => ?_⟩
  match j with
  | 0 => decide
  | 1 => decide
  | 2 => decide
  | 3 => decide
  | j + 4 => show -32767 ≤ (0 : Int) ∧ (0 : Int) ≤ 32767; decide
theorem nextY_take (u : Bool) (c : Crv) (xs zs : List Int) (n i : Nat) (h : i ≤ n) : nextY u c xs (zs.take n) i = nextY u c xs zs i := by
  unfold nextY hiF hoF
  rw [List.take_take, Nat.min_eq_left h]
theorem Filt.uniq {u : Bool} {c : Crv} {most : Int} {xs ys zs : List Int} (hy : Filt u c most xs ys) (hz : Filt u c most xs zs) (hl : ys.length ≤ zs.length) : ys = zs.take ys.length := by
  have key : ∀ n, n ≤ ys.length → ys.take n = zs.take n := by
    intro n
    induction n with
    | zero => intro _; rfl
    | succ n ih =>
      intro hn
      rw [take_snoc ys n 0 (by omega), take_snoc zs n 0 (by omega), ih (by omega), (hy.each n (by omega)).1, (hz.each n (by omega)).1, ← nextY_take u c xs ys n n (Nat.le_refl _), ih (by omega), nextY_take u c xs zs n n (Nat.le_refl _)]
  have := key ys.length (Nat.le_refl _)
  rwa [List.take_length] at this
theorem Filt.same {u : Bool} {c : Crv} {most : Int} {xs ys zs : List Int} (hy : Filt u c most xs ys) (hz : Filt u c most xs zs) (h1 : ys.length = xs.length) (h2 : zs.length = xs.length) : ys = zs := by
  have := hy.uniq hz (by omega)
  rwa [List.take_of_length_le (by omega)] at this
theorem Filt.no_far {u : Bool} {c : Crv} {most : Int} {xs ys zs : List Int} (hy : Filt u c most xs ys) (h1 : ys.length < xs.length) (hb : bey (nextY u c xs ys ys.length) most) (hz : Filt u c most xs zs) (h2 : zs.length = xs.length) : False := by
  have e := hy.uniq hz (by omega)
  have h3 := hz.each ys.length (by omega)
  rw [e, List.length_take, Nat.min_eq_left (by omega), nextY_take _ _ _ _ _ _ (Nat.le_refl _), ← h3.1] at hb
  exact h3.2 hb
def y3 : List Int := [nextY false v3 x3 [] 0, nextY false v3 x3 [100] 1, nextY false v3 x3 [100, 75] 2, nextY false v3 x3 [100, 75, 37] 3]
instance (n m : Int) : Decidable (bey n m) := by unfold bey; exact inferInstance
theorem y3_filt : Filt false v3 32767 x3 y3 := ⟨by decide, all_lt 4 (by decide)⟩
/-! ### The programme of the example -/
def T3 : List Tak := [⟨⟨#[97]⟩, [⟨10, -10⟩, ⟨5, 0⟩]⟩]
def p3 : List Prt := [⟨0, 0, 2, 0, 0, 0, 500⟩]
theorem T3_name : nameOK ⟨#[97]⟩ := ⟨by decide, by decide, fun j hj => by
  have : j = 0 := by
    have : j < 1 := hj
    omega
  subst this
  exact .inl (by decide)⟩
theorem T3_ok : TaksOK T3 := by
  refine ⟨by decide, fun j hj => ?_, fun i j hi hj => ?_⟩
  · have : j = 0 := by
      have : j < 1 := hj
      omega
    subst this
    exact ⟨T3_name, by decide, by decide, by decide⟩
  · have : i < 1 := hi
    omega
theorem p3_ok : ProgOK T3 p3 := by
  refine ⟨T3_ok, by decide, fun j hj => ?_, ⟨fun _ => by decide, fun i h1 h2 => ?_, fun i h1 h2 => ?_, by decide⟩⟩
  · have : j = 0 := by
      have : j < 1 := hj
      omega
    subst this
    decide
  · have : i < 1 := h2
    omega
  · have : i < 1 := h2
    omega
theorem r3_ok : smpE (rend T3 p3) = 0 := (smpE_iff _).2 ⟨by decide, all_lt 2 (by decide +kernel)⟩
theorem s25 : PSpec Tryz.prog 17 [] (xP True) := by
  refine spec_of pMix (O := []) Tryz.func17 (c := bodyOf Tryz.f17) rfl (by kernel_rfl) (by kernel_rfl) Tryz.ntmps17 (res := [.tmp 0]) (by kernel_rfl) ?_
  repeat' ((conv => whnf); first | refine Rng.g ?_ | fail)
  conv => whnf
  refine CallVC.mk [] _ _ _ rfl rfl rfl (s30 c3 l3) (fun r m' h' => ?_)
  cases h' with
  | bad e h he hr hm => exact absurd ⟨c3_ok, l3_ok⟩ h
  | ok hC hl hr hm =>
    subst hr hm
    repeat' ((conv => whnf); first | refine Rng.g ?_ | fail)
    conv => whnf
    refine CallVC.mk [] _ _ _ rfl rfl rfl (s35 c3 (cutF c3 l3) 1000) (fun r m' h' => ?_)
    cases h' with
    | bad e h he hr hm => exact absurd ⟨c3_ok, g3_ok, by decide⟩ h
    | none ht h hr hm => exact absurd (t3_yes.mono (t := t3) c3_ok (by decide) (by decide) (by decide)) h
    | ok ht k hk hk' hr hm =>
      have hk3 := t3_least hk
      subst hk3 hr hm
      repeat' ((conv => whnf); first | refine Rng.g ?_ | fail)
      conv => whnf
      refine CallVC.mk [] _ _ _ rfl rfl rfl (s49 v3 x3) (fun r m' h' => ?_)
      cases h' with
      | bad e h he hr hm => exact absurd ⟨v3_ok, x3_ok⟩ h
      | far hl hx ys h hs hb hr hm => exact (h.no_far hs hb y3_filt rfl).elim
      | ok hl hx ys h hs hr hm =>
        have hy := h.same y3_filt hs rfl
        subst hy hr hm
        repeat' ((conv => whnf); first | refine Rng.g ?_ | fail)
        conv => whnf
        refine CallVC.mk [] _ _ _ rfl rfl rfl (s26 T3 p3 p3_ok) (fun r m' h' => ?_)
        rcases h' with ⟨h1, rfl, rfl⟩ | ⟨h1, rfl, rfl⟩
        · have q1 : (List.length (smpA (cutF c3 l3)) : Int) = 3 := by decide
          have q2 : rI (smpA (cutF c3 l3)) (Int.toNat 1) 0 = -200 := by decide
          have q3 : rI (smpA (cutF c3 l3)) (Int.toNat 1) (0 + 1) = 600 := by decide
          have q4 : (List.length (i64s y3) : Int) = 4 := by decide
          have q5 : rI (i64s y3) (Int.toNat 1) 0 = 75 := by decide
          have q6 : (List.length (smpA (rend T3 p3)) : Int) = 2 := by decide
          have q7 : rI (smpA (rend T3 p3)) (Int.toNat 0) 0 = 5 := by decide +kernel
          have q8 : rI (smpA (rend T3 p3)) (Int.toNat 0) (0 + 1) = -5 := by decide +kernel
          repeat' ((conv => whnf); first | refine Ob.g ?_ | refine Ob.e ?_ | (refine Br.mk (fun h => ?_) (fun h => ?_) <;> first | (exfalso; omega; done) | (exfalso; simp at h; done) | skip))
          all_goals first
            | exact absurd ⟨q2, q3, trivial⟩ h
            | exact absurd ⟨q7, q8, trivial⟩ h
            | skip
          repeat refine Mm.mk ?_
          refine EndVC.mk _ rfl _ _ ⟨rfl, rfl⟩ ?_
          refine ⟨[], rfl, rfl, ?_, ?_⟩ <;> repeat' (first | exact trivial | apply And.intro)
          exact ⟨fun _ => trivial, fun _ => ⟨q7, q8, trivial⟩⟩
        · exact absurd r3_ok h1
end Go.Sx

namespace Go.Sx
open Go Go.Proofs
set_option maxRecDepth 10000
set_option maxHeartbeats 4000000
/-! ### What a chain makes can be undone -/
theorem Filt.inv {c : Crv} {m : Int} {xs ys : List Int} (h : Filt false c m xs ys) (hl : ys.length = xs.length) (hx : sigB m xs) : Filt true c m ys xs := by
  refine ⟨by omega, fun j hj => ⟨?_, fun hb => ?_⟩⟩
  · have h1 := (h.each j (by omega)).1
    have e1 : nextY false c xs ys j = xs.getD j 0 + corF c (xs.take j).reverse (ys.take j).reverse := rfl
    have e2 : nextY true c ys xs j = ys.getD j 0 - corF c (xs.take j).reverse (ys.take j).reverse := rfl
    rw [e1] at h1
    rw [e2]
    omega
  · have := hx j
    unfold bey at hb
    omega
theorem ChN.cons {u : Bool} {g : Nat → Crv} {x z : List Int} (h1 : Filt u (g 0) 32767 x z) (h2 : z.length = x.length) : ∀ {n : Nat} {a : List Int}, ChN u (fun i => g (i + 1)) z n a → ChN u g x (n + 1) a
  | 0, _, h => by cases h; exact ⟨x, rfl, h1, h2⟩
  | n + 1, _, ⟨w, hw, hf, hl⟩ => ⟨w, ChN.cons h1 h2 hw, hf, hl⟩
theorem ChN.inv {f : Nat → Crv} {a : List Int} (ha : sigB 32767 a) : ∀ {n : Nat} {x : List Int}, ChN false f a n x → ChN true (fun i => f (n - 1 - i)) x n a
  | 0, _, h => h.symm
  | n + 1, x, ⟨z, hz, hf, hl⟩ => by
    have h1 := hf.inv hl (hz.sig ha)
    have h2 := ChN.inv ha hz
    refine ChN.cons (z := z) (by simpa using h1) hl.symm ?_
    have e : (fun i => f (n + 1 - 1 - (i + 1))) = fun i => f (n - 1 - i) := by
      funext i
      rw [show n + 1 - 1 - (i + 1) = n - 1 - i by omega]
    rw [e]
    exact h2
theorem ChN.uniq {u : Bool} {f : Nat → Crv} {xs : List Int} : ∀ {n : Nat} {ys zs : List Int}, ChN u f xs n ys → ChN u f xs n zs → ys = zs
  | 0, _, _, h1, h2 => by rw [h1, h2]
  | n + 1, _, _, ⟨w, h1, h2, h3⟩, ⟨v, h4, h5, h6⟩ => by
    have e := ChN.uniq h1 h4
    subst e
    exact h2.same h5 h3 h6
theorem ChN.pre {u : Bool} {f : Nat → Crv} {xs : List Int} {i : Nat} : ∀ {n : Nat} {ys : List Int}, ChN u f xs n ys → i ≤ n → ∃ zs, ChN u f xs i zs
  | 0, ys, h, hi => by rw [show i = 0 by omega]; exact ⟨ys, h⟩
  | n + 1, ys, h, hi => by
    by_cases e : i = n + 1
    · rw [e]; exact ⟨ys, h⟩
    · obtain ⟨w, hw, _⟩ := h
      exact ChN.pre hw (by omega)
theorem ChN.no_far {u : Bool} {f : Nat → Crv} {xs ys : List Int} {n : Nat} (h : ChN u f xs n ys) (hf : FarN u f xs n) : False := by
  obtain ⟨i, zs, vs, hi, hc, hv, hl, hb⟩ := hf
  obtain ⟨ws, zs', hz, hw, hwl⟩ := h.pre (i := i + 1) (by omega)
  have e := hc.uniq hz
  subst e
  exact hv.no_far hl hb hw hwl
/-! ### A point is read as its sample -/
end Go.Sx

namespace Go.Sx
open Go Go.Proofs
set_option maxRecDepth 10000
set_option maxHeartbeats 8000000
/-! ### Edges of a cut groove -/
theorem Least.zero {p : Int → Prop} {n k : Int} (h : Least p n k) (h0 : p 0) : k = 0 := by
  have h1 := h.rng
  by_cases hk : k = 0
  · exact hk
  · exact absurd h0 (h.no 0 (Int.le_refl _) (by omega))
end Go.Sx

namespace Go.Sx
open Go Go.Proofs
set_option maxRecDepth 10000
set_option maxHeartbeats 2000000
/-! ### Where a programme is split -/
def finP (l : List Prt) (i : Nat) : Int := begP l i + (l.getD i p0).long
theorem finP_mono {l : List Prt} (hb : PBs l) (hP : Poss l) {i : Nat} : ∀ {j : Nat}, i ≤ j → j < l.length → finP l i ≤ finP l j
  | 0, h, _ => by rw [show i = 0 by omega]; exact Int.le_refl _
  | j + 1, h, hj => by
    by_cases e : i = j + 1
    · rw [e]; exact Int.le_refl _
    · have h1 := finP_mono hb hP (i := i) (j := j) (by omega) (by omega)
      have h2 := (hP.mono hb (i := j + 1) (by omega) hj).1
      unfold finP at h1 ⊢
      simp only [Nat.add_sub_cancel] at h2
      omega
theorem begP_mono {l : List Prt} (hb : PBs l) (hP : Poss l) {i : Nat} : ∀ {j : Nat}, i ≤ j → j < l.length → begP l i ≤ begP l j
  | 0, h, _ => by rw [show i = 0 by omega]; exact Int.le_refl _
  | j + 1, h, hj => by
    by_cases e : i = j + 1
    · rw [e]; exact Int.le_refl _
    · have h1 := begP_mono hb hP (i := i) (j := j) (by omega) (by omega)
      have h2 := (hP.mono hb (i := j + 1) (by omega) hj).2
      simp only [Nat.add_sub_cancel] at h2
      omega
/-- No part sounds on both sides of t; the first n ones end at or before it. -/
structure SplitAt (l : List Prt) (t : Int) (n : Nat) : Prop where
  le : n ≤ l.length
  fst : ∀ j, j < n → finP l j ≤ t
  snd : ∀ j, n ≤ j → j < l.length → t ≤ begP l j
def secP (l : List Prt) (n : Nat) (t : Int) : List Prt := match l.drop n with
  | [] => []
  | p :: q => ⟨p.tk, p.fr, p.to, begP l n - t, p.inn, p.out, p.lev⟩ :: q
theorem secP_len (l : List Prt) (n : Nat) (t : Int) : (secP l n t).length = l.length - n := by
  unfold secP
  have h := List.length_drop (i := n) (l := l)
  cases hd : l.drop n with
  | nil => rw [hd] at h; simpa using h
  | cons p q => rw [hd] at h; simpa using h
theorem secP_0 {l : List Prt} {n : Nat} (t : Int) (h : n < l.length) : (secP l n t).getD 0 p0 = ⟨(l.getD n p0).tk, (l.getD n p0).fr, (l.getD n p0).to, begP l n - t, (l.getD n p0).inn, (l.getD n p0).out, (l.getD n p0).lev⟩ := by
  unfold secP
  have e : l.drop n = l.getD n p0 :: l.drop (n + 1) := by
    rw [List.drop_eq_getElem_cons h]
    simp [List.getD_eq_getElem?_getD, h]
  rw [e]
  rfl
theorem secP_s {l : List Prt} {n : Nat} (t : Int) {j : Nat} (h : n < l.length) : (secP l n t).getD (j + 1) p0 = l.getD (n + (j + 1)) p0 := by
  unfold secP
  have e : l.drop n = l.getD n p0 :: l.drop (n + 1) := by
    rw [List.drop_eq_getElem_cons h]
    simp [List.getD_eq_getElem?_getD, h]
  rw [e]
  simp only [List.getD_eq_getElem?_getD, List.getElem?_cons_succ, List.getElem?_drop]
  rw [show n + 1 + j = n + (j + 1) by omega]
theorem secP_long {l : List Prt} {n : Nat} (t : Int) (h : n < l.length) (j : Nat) : ((secP l n t).getD j p0).long = (l.getD (n + j) p0).long := by
  cases j with
  | zero => rw [secP_0 t h]; rfl
  | succ j => rw [secP_s t h]
theorem endP_take_succ (l : List Prt) {i : Nat} (h : i < l.length) : endP (l.take (i + 1)) = finP l i := endP_succ l h
theorem begP_succ (l : List Prt) {i : Nat} (h : i + 1 < l.length) : begP l (i + 1) = finP l i + (l.getD (i + 1) p0).gap := by
  unfold begP
  rw [endP_take_succ l (by omega)]
theorem secP_beg {l : List Prt} {n : Nat} (t : Int) : ∀ {j : Nat}, n + j < l.length → begP (secP l n t) j = begP l (n + j) - t
  | 0, h => by
    have e : begP (secP l n t) 0 = ((secP l n t).getD 0 p0).gap := by unfold begP endP; simp
    rw [e, secP_0 t (by omega)]
    rfl
  | j + 1, h => by
    rw [begP_succ _ (by rw [secP_len]; omega)]
    have ih := secP_beg (l := l) (n := n) t (j := j) (by omega)
    have hl := secP_long (l := l) (n := n) t (by omega) j
    have h2 := begP_succ l (i := n + j) (by omega)
    unfold finP at h2 ⊢
    rw [ih, hl, secP_s t (by omega)]
    rw [show n + (j + 1) = n + j + 1 by omega, h2]
    omega
theorem take_beg {l : List Prt} {n j : Nat} (hj : j < n) (_hn : n ≤ l.length) : begP (l.take n) j = begP l j := by
  unfold begP
  rw [List.take_take, Nat.min_eq_left (by omega)]
  congr 2
  simp [List.getD_eq_getElem?_getD, hj]
theorem take_getD {l : List Prt} {n j : Nat} (hj : j < n) : (l.take n).getD j p0 = l.getD j p0 := by simp [List.getD_eq_getElem?_getD, hj]
theorem secP_end {l : List Prt} {n : Nat} (t : Int) (h : n < l.length) : endP (secP l n t) = endP l - t := by
  obtain ⟨k, hk⟩ : ∃ k, k = l.length - n - 1 := ⟨_, rfl⟩
  have h1 := endP_take_succ (secP l n t) (i := k) (by rw [secP_len]; omega)
  have h2 := endP_take_succ l (i := n + k) (by omega)
  rw [show n + k + 1 = l.length by omega, List.take_length] at h2
  rw [show k + 1 = (secP l n t).length by rw [secP_len]; omega, List.take_length] at h1
  rw [h1, h2]
  unfold finP
  rw [secP_beg t (by omega), secP_long t h]
  omega
variable {T : List Tak} {l : List Prt} {t : Int} {n : Nat}
theorem fst_end (hS : SplitAt l t n) (ht : 0 ≤ t) : endP (l.take n) ≤ t := by
  cases n with
  | zero => simpa [endP] using ht
  | succ n => rw [endP_take_succ l (by have := hS.le; omega)]; exact hS.fst n (Nat.lt_succ_self n)
theorem fst_ok (hP : ProgOK T l) (hS : SplitAt l t n) (ht : 0 ≤ t ∧ t ≤ endP l) : ProgOK T (l.take n) := by
  have hn := hS.le
  have hlen : (l.take n).length = n := by rw [List.length_take]; omega
  refine ⟨hP.takes, by have := hP.len; omega, fun j hj => ?_, ⟨fun h => ?_, fun i h1 h2 => ?_, fun i h1 h2 => ?_, ?_⟩⟩
  · rw [hlen] at hj
    rw [take_getD hj]; exact hP.parts j (by omega)
  · rw [hlen] at h
    rw [take_beg h hn]; exact hP.poss.first (by omega)
  · rw [hlen] at h2
    rw [take_getD h2, take_getD (by omega)]; exact hP.poss.gap i h1 (by omega)
  · rw [hlen] at h2
    rw [take_beg h2 hn, take_beg (by omega) hn, take_getD (by omega)]; exact hP.poss.free i h1 (by omega)
  · have := fst_end hS ht.1
    have := hP.poss.stop
    omega
theorem snd_ok (hP : ProgOK T l) (hS : SplitAt l t n) (ht : 0 ≤ t ∧ t ≤ endP l) : ProgOK T (secP l n t) := by
  have hn := hS.le
  have hb := hP.pbs
  have hst := hP.poss.stop
  have hlen := secP_len l n t
  refine ⟨hP.takes, by have := hP.len; omega, fun j hj => ?_, ⟨fun h => ?_, fun i h1 h2 => ?_, fun i h1 h2 => ?_, ?_⟩⟩
  · rw [hlen] at hj
    have hp := hP.parts (n + j) (by omega)
    cases j with
    | zero =>
      rw [secP_0 t (by omega)]
      have h1 := hS.snd n (Nat.le_refl _) (by omega)
      have h2 := hP.poss.inside hb (l.length - n) n (by omega) (by omega)
      have h3 := (hb.2 n (by omega)).fr
      unfold Prt.long at h2
      unfold partOK at hp ⊢
      simp only [Nat.add_zero] at hp
      simp only
      omega
    | succ j => rw [secP_s t (by omega)]; exact hp
  · rw [hlen] at h
    rw [secP_beg t (by omega)]
    have := hS.snd n (Nat.le_refl _) (by omega)
    simp only [Nat.add_zero]
    omega
  · rw [hlen] at h2
    obtain ⟨i, rfl⟩ : ∃ k, i = k + 1 := ⟨i - 1, by omega⟩
    have h3 := hP.poss.gap (n + (i + 1)) (by omega) (by omega)
    rw [secP_long t (by omega), secP_long t (by omega), secP_s t (by omega)]
    rw [show n + (i + 1 - 1) = n + (i + 1) - 1 by omega]
    exact h3
  · rw [hlen] at h2
    have h3 := hP.poss.free (n + i) (by omega) (by omega)
    rw [secP_beg t (by omega), secP_beg t (by omega), secP_long t (by omega), show n + (i - 2) = n + i - 2 by omega]
    omega
  · by_cases h : n < l.length
    · rw [secP_end t h]; omega
    · have e : secP l n t = [] := List.eq_nil_of_length_eq_zero (by rw [hlen]; omega)
      rw [e]; exact (by decide : (0 : Int) ≤ 4096)
end Go.Sx

namespace Go.Sx
open Go Go.Proofs
set_option maxRecDepth 10000
set_option maxHeartbeats 4000000
/-! ### The halves sound as the whole -/
variable {T : List Tak} {l : List Prt} {t : Int} {n : Nat}
theorem onB_iff {l : List Prt} {t : Int} {i : Nat} : onB l t i = true ↔ begP l i ≤ t ∧ t < finP l i := by unfold onB finP; simp
theorem foldl_same {α β : Type} {f g : β → α → β} : ∀ (L : List α) (b : β), (∀ b, ∀ a ∈ L, f b a = g b a) → L.foldl f b = L.foldl g b
  | [], _, _ => rfl
  | a :: L, b, h => by
    simp only [List.foldl_cons]
    rw [h b a (List.mem_cons_self ..)]
    exact foldl_same L _ fun b x hx => h b x (List.mem_cons_of_mem _ hx)
theorem fst_src (hS : SplitAt l t n) {u : Int} (hu : u < t) : srcI l u l.length = srcI (l.take n) u (l.take n).length := by
  have hn := hS.le
  have hlen : (l.take n).length = n := by rw [List.length_take]; omega
  rw [hlen]
  unfold srcI
  have e : List.range l.length = List.range n ++ (List.range (l.length - n)).map (n + ·) := by
    rw [← List.range_add]; congr 1; omega
  rw [e, List.filter_append]
  have e2 : ((List.range (l.length - n)).map (n + ·)).filter (onB l u) = [] := by
    rw [List.filter_eq_nil_iff]
    intro x hx h
    obtain ⟨k, hk, rfl⟩ := List.mem_map.1 hx
    have h1 := hS.snd (n + k) (by omega) (by have := List.mem_range.1 hk; omega)
    have h2 := (onB_iff.1 h).1
    omega
  rw [e2, List.append_nil]
  refine List.filter_congr fun x hx => ?_
  have hx := List.mem_range.1 hx
  unfold onB
  rw [take_beg hx hn, take_getD hx]
theorem fst_at (hS : SplitAt l t n) {u : Int} (hu : u < t) : rendAt T l u = rendAt T (l.take n) u := by
  unfold rendAt
  rw [fst_src hS hu]
  unfold sumI
  refine foldl_same _ _ fun b a ha => ?_
  have h1 := (srcI_mem ha).1
  have hlen : (l.take n).length = n := by have := hS.le; rw [List.length_take]; omega
  rw [hlen] at h1
  unfold sndI
  rw [take_beg h1 hS.le, take_getD h1]
theorem snd_src (hS : SplitAt l t n) {u : Int} (hu : t ≤ u) : srcI l u l.length = (srcI (secP l n t) (u - t) (secP l n t).length).map (n + ·) := by
  have hn := hS.le
  rw [secP_len]
  unfold srcI
  have e : List.range l.length = List.range n ++ (List.range (l.length - n)).map (n + ·) := by
    rw [← List.range_add]; congr 1; omega
  rw [e, List.filter_append]
  have e2 : (List.range n).filter (onB l u) = [] := by
    rw [List.filter_eq_nil_iff]
    intro x hx h
    have hx := List.mem_range.1 hx
    have h1 := hS.fst x hx
    have h2 := (onB_iff.1 h).2
    omega
  rw [e2, List.nil_append, List.filter_map]
  congr 1
  refine List.filter_congr fun x hx => ?_
  have hx := List.mem_range.1 hx
  show onB l u (n + x) = onB (secP l n t) (u - t) x
  unfold onB
  rw [secP_beg t (by omega), secP_long t (by omega)]
  refine decide_eq_decide.2 ?_
  omega
theorem sndF_same {T : List Tak} {p q : Prt} {k lev : Int} (h1 : p.tk = q.tk) (h2 : p.fr = q.fr) (h3 : p.to = q.to) (h4 : p.inn = q.inn) (h5 : p.out = q.out) : sndF T p k lev = sndF T q k lev := by
  unfold sndF loudF smpAt denF upF dnF Prt.long
  rw [h1, h2, h3, h4, h5]
theorem snd_at (hS : SplitAt l t n) {u : Int} (hu : t ≤ u) : rendAt T l u = rendAt T (secP l n t) (u - t) := by
  unfold rendAt
  rw [snd_src hS hu]
  unfold sumI
  rw [List.foldl_map]
  refine foldl_same _ _ fun b a ha => ?_
  have h1 := (srcI_mem ha).1
  rw [secP_len] at h1
  congr 1
  unfold sndI
  rw [secP_beg t (by omega)]
  have e : u - begP l (n + a) = u - t - (begP l (n + a) - t) := by omega
  rw [e]
  cases a with
  | zero => rw [secP_0 t (by omega)]; exact sndF_same rfl rfl rfl rfl rfl
  | succ a => rw [secP_s t (by omega)]
/-- What is asked of samples, of the halves too. -/
theorem fst_good (hP : ProgOK T l) (hS : SplitAt l t n) (ht : 0 ≤ t ∧ t ≤ endP l) (hg : SmpsOK (rend T l)) : SmpsOK (rend T (l.take n)) := by
  have h1 := fst_end hS ht.1
  refine ⟨by rw [rend_len]; have := (fst_ok hP hS ht).poss.stop; omega, fun j hj => ?_⟩
  rw [rend_len] at hj
  have h2 := hg.each j (by rw [rend_len]; omega)
  rw [rend_get T l j (by omega), fst_at hS (by omega)] at h2
  rw [rend_get T _ j hj]
  exact h2
theorem snd_good (hP : ProgOK T l) (hS : SplitAt l t n) (ht : 0 ≤ t ∧ t ≤ endP l) (hg : SmpsOK (rend T l)) : SmpsOK (rend T (secP l n t)) := by
  by_cases h : n < l.length
  · have h1 := secP_end t h
    refine ⟨by rw [rend_len]; have := (snd_ok hP hS ht).poss.stop; omega, fun j hj => ?_⟩
    rw [rend_len] at hj
    obtain ⟨k, hk⟩ : ∃ k : Nat, (k : Int) = t + j := ⟨(t + j).toNat, by omega⟩
    have h2 := hg.each k (by rw [rend_len]; omega)
    rw [rend_get T l k (by omega), snd_at hS (by omega), show (k : Int) - t = (j : Int) by omega] at h2
    rw [rend_get T _ j hj]
    exact h2
  · have e : secP l n t = [] := List.eq_nil_of_length_eq_zero (by rw [secP_len]; omega)
    rw [e]
    exact ⟨by rw [rend_len]; decide, fun j hj => by rw [rend_len] at hj; simp [endP] at hj⟩
end Go.Sx

namespace Go.Sx
open Go Go.Proofs
set_option maxRecDepth 10000
set_option maxHeartbeats 4000000
/-! ### TopFaces: a programme that is split again and again -/
theorem secP_zero {l : List Prt} (h : 0 < l.length) : secP l 0 0 = l := by
  cases l with
  | nil => simp at h
  | cons p q =>
    have e : begP (p :: q) 0 - 0 = p.gap := by unfold begP endP; simp
    unfold secP
    rw [List.drop_zero]
    simp only [e]
theorem secP_nil {l : List Prt} {n : Nat} (t : Int) (h : l.length ≤ n) : secP l n t = [] := List.eq_nil_of_length_eq_zero (by rw [secP_len]; omega)
theorem secP_secP {l : List Prt} {k m : Nat} (t u : Int) (hk : k + m ≤ l.length) : secP (secP l k t) m u = secP l (k + m) (t + u) := by
  by_cases he : k + m = l.length
  · rw [secP_nil u (l := secP l k t) (n := m) (by rw [secP_len]; omega), secP_nil (t + u) (by omega)]
  · have hk' : k < l.length := by omega
    have hl := secP_len l k t
    refine List.ext_getElem (by rw [secP_len, secP_len, secP_len]; omega) fun i h1 h2 => ?_
    have g : ∀ (L : List Prt) (h : i < L.length), L[i] = L.getD i p0 := fun L h => by simp [List.getD_eq_getElem?_getD, h]
    rw [g _ h1, g _ h2]
    cases i with
    | zero =>
      rw [secP_0 _ (by omega), secP_0 _ (by omega), secP_beg t (by omega)]
      have e : begP l (k + m) - t - u = begP l (k + m) - (t + u) := by omega
      rw [e]
      cases m with
      | zero => rw [secP_0 _ hk']; rfl
      | succ m => rw [secP_s _ hk']
    | succ i =>
      rw [secP_s _ (by omega), secP_s _ (by omega), show m + (i + 1) = m + i + 1 by omega, secP_s _ hk']
      congr 1
      omega
variable {T : List Tak} {l : List Prt}
theorem split_at (hb : PBs l) (hP : Poss l) (hg : ∀ i, i < l.length → 0 ≤ (l.getD i p0).gap) {k : Nat} (hk : k ≤ l.length) : SplitAt l (endP (l.take k)) k := by
  refine ⟨hk, fun j hj => ?_, fun j h1 h2 => ?_⟩
  · obtain ⟨i, rfl⟩ : ∃ i, k = i + 1 := ⟨k - 1, by omega⟩
    rw [endP_take_succ l (by omega)]
    exact finP_mono hb hP (by omega) (by omega)
  · have h3 := begP_mono hb hP h1 h2
    have h4 := hg k (by omega)
    have h5 : begP l k = endP (l.take k) + (l.getD k p0).gap := rfl
    omega
theorem split_rest {t t' : Int} {k k' : Nat} (h : SplitAt l t k) (h' : SplitAt l t' k') (hk : k ≤ k') : SplitAt (secP l k t) (t' - t) (k' - k) := by
  have hl := h.le
  have hl' := h'.le
  refine ⟨by rw [secP_len]; omega, fun j hj => ?_, fun j h1 h2 => ?_⟩
  · have h3 := h'.fst (k + j) (by omega)
    unfold finP at h3 ⊢
    rw [secP_beg t (by omega), secP_long t (by omega)]
    omega
  · rw [secP_len] at h2
    have h3 := h'.snd (k + j) (by omega) (by omega)
    rw [secP_beg t (by omega)]
    omega
theorem endP_mono (hb : PBs l) (hP : Poss l) {k k' : Nat} (hk : k ≤ k') (hk' : k' ≤ l.length) : endP (l.take k) ≤ endP (l.take k') := by
  cases k' with
  | zero => rw [show k = 0 by omega]; exact Int.le_refl _
  | succ i =>
    rw [endP_take_succ l (by omega)]
    cases k with
    | zero =>
      have h1 := begP_nonneg hb hP i (by omega)
      have h2 := (hb.2 i (by omega)).fr
      have e : endP (l.take 0) = 0 := by simp [endP]
      rw [e]
      unfold finP Prt.long
      omega
    | succ j =>
      rw [endP_take_succ l (by omega)]
      exact finP_mono hb hP (by omega) (by omega)
/-- The end of a part of the rest. -/
theorem endP_face {t : Int} {k k' : Nat} (hk : k < k') (hk' : k' ≤ l.length) : endP ((secP l k t).take (k' - k)) = endP (l.take k') - t := by
  obtain ⟨m, hm⟩ : ∃ m, k' - k = m + 1 := ⟨k' - k - 1, by omega⟩
  have e : k' = k + m + 1 := by omega
  rw [hm, endP_take_succ _ (by rw [secP_len]; omega), e, endP_take_succ l (by omega)]
  unfold finP
  rw [secP_beg t (by omega), secP_long t (by omega)]
  omega
theorem whole_next {t t' : Int} {k k' : Nat} (h : SplitAt l t k) (h' : SplitAt l t' k') (hk : k < k') (h0 : 0 ≤ t) (htt : t ≤ t') (ht' : t' ≤ endP l) (he : endP (l.take k') = t') : (rend T l).take t.toNat ++ rend T ((secP l k t).take (k' - k)) = (rend T l).take t'.toNat := by
  have hkl := h'.le
  have hlf : (rend T ((secP l k t).take (k' - k))).length = (t' - t).toNat := by rw [rend_len, endP_face hk hkl, he]
  have hlr : (rend T l).length = (endP l).toNat := rend_len T l
  refine List.ext_getElem (by rw [List.length_append, List.length_take, List.length_take, hlf, hlr]; omega) fun i h1 h2 => ?_
  have g : ∀ (L : List Smp) (h : i < L.length), L[i] = L.getD i s0 := fun L h => by simp [List.getD_eq_getElem?_getD, h]
  rw [g _ h1, g _ h2]
  rw [List.length_take, hlr] at h2
  have e2 : ((rend T l).take t'.toNat).getD i s0 = rendAt T l i := by
    rw [List.getD_eq_getElem?_getD, List.getElem?_take_of_lt (by omega), ← List.getD_eq_getElem?_getD, rend_get T l i (by omega)]
  rw [e2]
  by_cases hi : (i : Int) < t
  · rw [List.getD_eq_getElem?_getD, List.getElem?_append_left (by rw [List.length_take, hlr]; omega), List.getElem?_take_of_lt (by omega), ← List.getD_eq_getElem?_getD, rend_get T l i (by omega)]
  · have hlt : ((rend T l).take t.toNat).length = t.toNat := by rw [List.length_take, hlr]; omega
    rw [List.getD_eq_getElem?_getD, List.getElem?_append_right (by omega), hlt, ← List.getD_eq_getElem?_getD, rend_get T _ _ (by rw [endP_face hk hkl, he]; omega)]
    have h3 := split_rest h h' (by omega)
    rw [← fst_at h3 (by omega), snd_at h (u := (i : Int)) (by omega)]
    congr 1
    omega
theorem face_good (hP : ProgOK T l) {t t' : Int} {k k' : Nat} (h : SplitAt l t k) (h' : SplitAt l t' k') (hk : k < k') (h0 : 0 ≤ t) (htt : t ≤ t') (ht' : t' ≤ endP l) (hg : SmpsOK (rend T l)) : ProgOK T (secP l k t) ∧ ProgOK T ((secP l k t).take (k' - k)) ∧ SmpsOK (rend T ((secP l k t).take (k' - k))) ∧ (0 ≤ t' - t ∧ t' - t ≤ endP (secP l k t)) := by
  have hkl := h'.le
  have h1 := snd_ok hP h ⟨h0, by omega⟩
  have h2 := snd_good hP h ⟨h0, by omega⟩ hg
  have h3 := split_rest h h' (by omega)
  have e := secP_end t (l := l) (n := k) (by omega)
  have h4 : 0 ≤ t' - t ∧ t' - t ≤ endP (secP l k t) := by omega
  exact ⟨h1, fst_ok h1 h3 h4, fst_good h1 h3 h4 h2, h4⟩
end Go.Sx

namespace Go.Sx
open Go Go.Proofs
set_option maxRecDepth 10000
set_option maxHeartbeats 8000000
@[reducible] def rowR (l : List Prt) : Blk := .row 32 false K7i (prtA l)
theorem eb64 : Tryz.t32.bytes = 56 := by kernel_rfl
theorem prtA_drop (l : List Prt) (n : Nat) : (prtA l).drop n = prtA (l.drop n) := by simp [prtA, List.map_drop]
theorem prtA_take (l : List Prt) (n : Nat) : (prtA l).take n = prtA (l.take n) := by simp [prtA, List.map_take]
theorem prtA_sec (l : List Prt) (n : Nat) (t : Int) (h : n < l.length) : updRow (prtA (l.drop n)) 0 (0 + 1 + 1 + 1) [.int (begP l n - t)] = prtA (secP l n t) := by
  have e : l.drop n = l.getD n p0 :: l.drop (n + 1) := by
    rw [List.drop_eq_getElem_cons h]
    simp [List.getD_eq_getElem?_getD, h]
  unfold secP
  rw [e]
  simp [updRow, prtA, Prt.row, setAll]
end Go.Sx

namespace Go.Sx
open Go Go.Proofs
set_option maxRecDepth 10000
set_option maxHeartbeats 8000000
theorem e8 : EntersF Tryz.prog 8 := enters_of Tryz.func8 (c := bodyOf Tryz.f8) (by kernel_rfl) rfl
/-! ### TopFaces: the starts, and the split where it is possible -/
theorem begs_snoc' (l : List Prt) (n : Nat) : begs l (n + 1) = begs l n ++ [begP l n] := by simp [begs, List.range_succ]
theorem s8s (T : List Tak) (l : List Prt) (hP : ProgOK T l) : HSpec Tryz.prog 8 [lT T, lP l] [] (fun r m' => r = .tup [.one (.own 0), I (endP l), I 0] ∧ m' = [some (rowN (begs l l.length))]) := by
  have hb := hP.pbs
  have h32 := hb.1
  have lp := plcA_len l l.length
  refine spec_of pMix (O := []) Tryz.func8 (c := bodyOf Tryz.f8) rfl (by kernel_rfl) (by kernel_rfl) Tryz.ntmps8 (res := [.tmp 4, .tmp 5, .tmp 6]) (by kernel_rfl) ?_
  repeat' ((conv => whnf); first | refine Rng.g ?_ | fail)
  conv => whnf
  refine CallVC.mk [] _ _ _ rfl rfl rfl (s100 T l hP) (fun r m' h' => ?_)
  obtain ⟨rfl, rfl⟩ := h'
  conv => whnf
  repeat' ((conv => whnf); first | (refine Br.mk (fun h => ?_) (fun h => ?_) <;> first | (exfalso; omega; done) | (exfalso; simp at h; done) | skip))
  refine LoopVC.mk (fun m st => ∃ (i : Nat), i ≤ l.length ∧ m = l.length - i ∧ st = ⟨0, envA 41 [(7, .x (.one (.ptr 0 0))), (9, .x (.one (.own 2))), (24, .x (.one (.own 1))), (25, .int .i64 (l.length : Int)), (26, .int .i64 (i : Int))], [some (bG 1 T (endP l)), some (rowG (plcA l l.length)), some (rowN (begs l i))]⟩) _ _ ⟨0, Nat.zero_le _, rfl, rfl⟩ ?_ ?_
  · refine ⟨[some 0, some 1, none], rfl, rfl, ?_, ?_⟩ <;> repeat' (first | exact trivial | exact rfl | apply And.intro)
    all_goals exact congrArg Int.ofNat lp
  rintro m _ ⟨i, hi, hm, rfl⟩
  by_cases hi' : i < l.length
  · have g8 : rI (plcA l l.length) (i : Int).toNat (0 + 1 + 1 + 1 + 1 + 1 + 1 + 1 + 1) = begP l i := plc_8 l _ i hi'
    have lb : (i64s (begs l i)).length = i := by rw [i64s_len]; simp [begs]
    repeat' ((conv => whnf); first | refine Ob.g ?_ | (refine Br.mk (fun h => ?_) (fun h => ?_) <;> first | (exfalso; omega; done) | (exfalso; simp at h; done) | skip))
    repeat refine Mm.mk ?_
    refine Ob.mk (by rw [lb, eb3]; simp only [List.length_cons, List.length_nil]; omega) ?_
    repeat' ((conv => whnf); first | refine Rng.g ?_ | fail)
    refine Back.mk (l.length - (i + 1)) _ (by omega) ⟨i + 1, by omega, rfl, rfl⟩ ?_
    refine ⟨[some 0, some 1, some 5], rfl, rfl, ?_, ?_⟩ <;> repeat' (first | exact trivial | exact rfl | apply And.intro)
    rw [begs_snoc', i64s_snoc, g8]
  · have ei : i = l.length := by omega
    subst ei
    repeat' ((conv => whnf); first | (refine Br.mk (fun h => ?_) (fun h => ?_) <;> first | (exfalso; omega; done) | (exfalso; simp at h; done) | skip))
    repeat refine Mm.mk ?_
    conv => whnf
    refine EndVC.mk _ rfl _ _ (⟨rfl, rfl⟩) ?_
    refine ⟨[some 2], rfl, rfl, ?_, ?_⟩ <;> repeat' (first | exact trivial | exact rfl | apply And.intro)
theorem s9k (T : List Tak) (l : List Prt) (t : Int) (N : Nat) (hP : ProgOK T l) (ht : 0 ≤ t ∧ t ≤ endP l) (hN : SplitAt l t N) :
    HSpec Tryz.prog 9 [lT T, lP l, I t] [] (fun r m' => r = .tup [.one (.own 0), .one (.own 1), I 0] ∧ m' = [some (rowR (l.take N)), some (rowR (secP l N t))]) := by
  have hb := hP.pbs
  have h32 := hb.1
  have he2 := hP.poss.stop
  have lp := plcA_len l l.length
  have lpr := prtA_len l
  have hNl := hN.le
  refine spec_of pMix (O := [(15, ([0, 5], [⟨1, [], []⟩, ⟨2, [], []⟩, ⟨3, [], []⟩, ⟨6, [], []⟩, ⟨7, [], []⟩, ⟨8, [], []⟩, ⟨0, [], []⟩, ⟨4, [6, 7, 8], []⟩, ⟨5, [], []⟩, ⟨9, [], []⟩, ⟨10, [], []⟩, ⟨11, [], []⟩]))]) Tryz.func9 (c := bodyOf Tryz.f9) rfl (by kernel_rfl) (by kernel_rfl) Tryz.ntmps9 (res := [.tmp 6, .tmp 7, .tmp 8]) (by kernel_rfl) ?_
  repeat' ((conv => whnf); first | refine Rng.g ?_ | fail)
  conv => whnf
  refine CallVC.mk [] _ _ _ rfl rfl rfl (s100 T l hP) (fun r m' h' => ?_)
  obtain ⟨rfl, rfl⟩ := h'
  conv => whnf
  repeat' ((conv => whnf); first | (refine Br.mk (fun h => ?_) (fun h => ?_) <;> first | (exfalso; omega; done) | (exfalso; simp at h; done) | skip))
  refine LoopVC.mk (fun m st => ∃ (i : Nat), i ≤ l.length ∧ m = l.length - i ∧ st = ⟨0, envA 89 [(1, .x (lP l)), (2, .x (I t)), (9, .x (.one (.ptr 0 0))), (11, .int .i64 ((min i N : Nat) : Int)), (38, .x (.one (.own 1))), (39, .int .i64 (l.length : Int)), (40, .int .i64 (i : Int))], [some (bG 1 T (endP l)), some (rowG (plcA l l.length))]⟩) _ _ ⟨0, Nat.zero_le _, rfl, rfl⟩ ?_ ?_
  · refine ⟨[some 0, some 1], rfl, rfl, ?_, ?_⟩ <;> repeat' (first | exact trivial | exact rfl | apply And.intro)
    all_goals first | exact congrArg Int.ofNat lp | (rw [Nat.zero_min]; rfl) | skip
  rintro m _ ⟨i, hi, hm, rfl⟩
  by_cases hi' : i < l.length
  · have g8 : rI (plcA l l.length) (i : Int).toNat (0 + 1 + 1 + 1 + 1 + 1 + 1 + 1 + 1) = begP l i := plc_8 l _ i hi'
    have g9 : rI (plcA l l.length) (i : Int).toNat (0 + 1 + 1 + 1 + 1 + 1 + 1 + 1 + 1 + 1) = finP l i := plc_9 l _ i hi'
    have hbe : begP l i < finP l i := by
      have := (hb.2 i hi').fr
      unfold finP Prt.long
      omega
    have h1 : i < N → finP l i ≤ t := hN.fst i
    have h2 : ¬ i < N → t ≤ begP l i := fun h => hN.snd i (by omega) hi'
    by_cases hiN : i < N
    · have h1' := h1 hiN
      have e1 : min i N = i := by omega
      have e2 : min (i + 1) N = i + 1 := by omega
      rw [e1]
      repeat' ((conv => whnf); first | rw [g8] | rw [g9] | refine Rng.g ?_ | refine Ob.g ?_ | refine JoinVC.on ?_ | (refine Br.mk (fun h => ?_) (fun h => ?_) <;> first | (exfalso; omega; done) | (exfalso; simp at h; done) | skip))
      all_goals first | (exfalso; omega) | skip
      refine Back.mk (l.length - (i + 1)) _ (by omega) ⟨i + 1, by omega, rfl, rfl⟩ ?_
      rw [e2]
      refine ⟨[some 0, some 1], rfl, rfl, ?_, ?_⟩ <;> repeat' (first | exact trivial | exact rfl | apply And.intro)
    · have h2' := h2 hiN
      have e1 : min i N = N := by omega
      have e2 : min (i + 1) N = N := by omega
      rw [e1]
      repeat' ((conv => whnf); first | rw [g8] | rw [g9] | refine Rng.g ?_ | refine Ob.g ?_ | refine JoinVC.on ?_ | (refine Br.mk (fun h => ?_) (fun h => ?_) <;> first | (exfalso; omega; done) | (exfalso; simp at h; done) | skip))
      all_goals first | (exfalso; omega) | skip
      refine Back.mk (l.length - (i + 1)) _ (by omega) ⟨i + 1, by omega, rfl, rfl⟩ ?_
      rw [e2]
      refine ⟨[some 0, some 1], rfl, rfl, ?_, ?_⟩ <;> repeat' (first | exact trivial | exact rfl | apply And.intro)
  · have ei : i = l.length := by omega
    subst ei
    have e1 : min l.length N = N := by omega
    rw [e1]
    repeat' ((conv => whnf); first | refine Ob.g ?_ | (refine Br.mk (fun h => ?_) (fun h => ?_) <;> first | (exfalso; omega; done) | (exfalso; simp at h; done) | skip))
    repeat refine Mm.mk ?_
    refine Ob.mk (by simp only [List.length_nil, List.length_drop, List.length_take, eb64, lpr]; omega) ?_
    repeat' ((conv => whnf); first | refine Rng.g ?_ | fail)
    repeat refine Mm.mk ?_
    refine Ob.mk (by simp only [List.length_nil, List.length_drop, List.length_take, eb64, lpr]; omega) ?_
    have d1 : ([] : Arr) ++ List.drop ((none : Option Int).getD 0).toNat (List.take ((some (N : Int)).getD ((List.length (prtA l) : Nat) : Int)).toNat (prtA l)) = prtA (l.take N) := by
      show List.drop 0 (List.take (N : Int).toNat (prtA l)) = _
      rw [List.drop_zero, Int.toNat_natCast, prtA_take]
    have d2 : ([] : Arr) ++ List.drop ((some (N : Int)).getD 0).toNat (List.take ((none : Option Int).getD ((List.length (prtA l) : Nat) : Int)).toNat (prtA l)) = prtA (l.drop N) := by
      show List.drop (N : Int).toNat (List.take ((List.length (prtA l) : Nat) : Int).toNat (prtA l)) = _
      rw [Int.toNat_natCast, Int.toNat_natCast, List.take_length, prtA_drop]
    have ld : (prtA (l.drop N)).length = l.length - N := by rw [prtA_len, List.length_drop]
    by_cases hn : N < l.length
    · have g8 : rI (plcA l l.length) (N : Int).toNat (0 + (0 + 1 + 1 + 1 + 1 + 1 + 1 + 1 + 1)) = begP l N := plc_8 l _ N hn
      have hbn : 0 ≤ begP l N ∧ begP l N ≤ 4096 := by
        have h1 := begP_nonneg hb hP.poss N hn
        have h2 := hP.poss.inside hb (l.length - N) N (by omega) (by omega)
        have h3 := (hb.2 N hn).fr
        unfold Prt.long at h2
        omega
      have u1 := prtA_sec l N t hn
      repeat' ((conv => whnf); first | rw [d1] | rw [d2] | rw [g8] | refine Rng.g ?_ | refine Ob.g ?_ | refine JoinVC.on ?_ | (refine Br.mk (fun h => ?_) (fun h => ?_) <;> first | (exfalso; omega; done) | (exfalso; simp at h; done) | skip))
      repeat refine Mm.mk ?_
      conv => whnf
      refine EndVC.mk _ rfl _ _ (⟨rfl, rfl⟩) ?_
      refine ⟨[some 3, some 5], rfl, rfl, ?_, ?_⟩ <;> repeat' (first | exact trivial | exact rfl | apply And.intro)
      all_goals first | exact u1 | skip
    · have es : secP l N t = [] := List.eq_nil_of_length_eq_zero (by rw [secP_len]; omega)
      have ed : l.drop N = [] := List.drop_eq_nil_of_le (by omega)
      repeat' ((conv => whnf); first | rw [d1] | rw [d2] | refine JoinVC.on ?_ | (refine Br.mk (fun h => ?_) (fun h => ?_) <;> first | (exfalso; omega; done) | (exfalso; simp at h; done) | skip))
      repeat refine Mm.mk ?_
      conv => whnf
      refine EndVC.mk _ rfl _ _ (⟨rfl, rfl⟩) ?_
      refine ⟨[some 3, some 5], rfl, rfl, ?_, ?_⟩ <;> repeat' (first | exact trivial | exact rfl | apply And.intro)
      rw [es, ed]
end Go.Sx

namespace Go.Sx.Sd
open Go Go.Proofs Go.Sx
set_option maxRecDepth 10000
set_option maxHeartbeats 4000000
/-! ### Names -/
def okC (c : Int) : Prop := (97 ≤ c ∧ c ≤ 122) ∨ (48 ≤ c ∧ c ≤ 57)
def chr (s : ByteArray) (j : Nat) : Int := ((s.data.toList.getD j 0).toNat : Int)
def nameOK (s : ByteArray) : Prop := 1 ≤ s.size ∧ s.size ≤ 20 ∧ ∀ j, j < s.size → okC (chr s j)
theorem gset {α : Type} (l : List α) (i j : Nat) (a d : α) (h : i < l.length) : (l.set i a).getD j d = if j = i then a else l.getD j d := by
  simp only [List.getD_eq_getElem?_getD, List.getElem?_set]
  by_cases e : i = j
  · subst e; simp [h]
  · rw [if_neg e, if_neg (fun h => e h.symm)]
/-! ### A groove without a signal, and a groove in its band -/
/-! ### Sorting by insertion -/
/-! ### The bands of a side -/
structure Fmt where
  nm : ByteArray
  outer : Int
  inner : Int
  per : Int
  lead : Int
  gap : Int
  tail : Int
  cost : Int
structure FmtOK (f : Fmt) : Prop where
  nm : nameOK f.nm
  outer : 1 ≤ f.outer ∧ f.outer ≤ 4194304
  inner : 0 ≤ f.inner ∧ f.inner ≤ f.outer - 1
  per : 1 ≤ f.per ∧ f.per ≤ 65536
  cost : 0 ≤ f.cost ∧ f.cost ≤ 1048576
  lead : 0 ≤ f.lead ∧ f.lead ≤ 4194304
  gap : 0 ≤ f.gap ∧ f.gap ≤ 4194304
  tail : 0 ≤ f.tail ∧ f.tail ≤ 4194304
structure Sng where
  long : Int
  pitch : Int
  least : Int
abbrev g0 : Sng := ⟨0, 0, 0⟩
def Sng.ok (g : Sng) : Prop := (1 ≤ g.long ∧ g.long ≤ 16777216) ∧ (1 ≤ g.pitch ∧ g.pitch ≤ 4096) ∧ (0 ≤ g.least ∧ g.least ≤ 4194304)
structure SngsOK (l : List Sng) : Prop where
  len : l.length ≤ 24
  each : ∀ j, j < l.length → (l.getD j g0).ok
def widF (f : Fmt) (g : Sng) : Int := g.pitch * ((g.long + f.per - 1) / f.per)
theorem wid_bd {f : Fmt} {g : Sng} (hp : 1 ≤ f.per) (hg : g.ok) : (1 ≤ (g.long + f.per - 1) / f.per ∧ (g.long + f.per - 1) / f.per ≤ 16777216) ∧ 1 ≤ widF f g ∧ widF f g ≤ 68719476736 := by
  obtain ⟨⟨l1, l2⟩, ⟨p1, p2⟩, _⟩ := hg
  have h1 : 1 ≤ (g.long + f.per - 1) / f.per := by
    have := Int.add_mul_ediv_left (g.long - 1) 1 (show f.per ≠ 0 by omega)
    rw [show g.long - 1 + f.per * 1 = g.long + f.per - 1 by omega] at this
    have h2 : 0 ≤ (g.long - 1) / f.per := Int.ediv_nonneg (by omega) (by omega)
    omega
  have h2 : (g.long + f.per - 1) / f.per ≤ 16777216 := by
    have := Int.add_mul_ediv_left (g.long - 1) 1 (show f.per ≠ 0 by omega)
    rw [show g.long - 1 + f.per * 1 = g.long + f.per - 1 by omega] at this
    have h3 : (g.long - 1) / f.per ≤ g.long - 1 := Int.ediv_le_self _ (by omega)
    omega
  refine ⟨⟨h1, h2⟩, ?_, ?_⟩
  · unfold widF
    have := Int.mul_le_mul p1 h1 (by decide) (by omega)
    omega
  · unfold widF
    have := Int.mul_le_mul p2 h2 (by omega) (by decide)
    omega
/-- Where the next track begins or ends. -/
def atF (f : Fmt) (l : List Sng) (O : List Int) : Nat → Int
  | 0 => f.outer - f.lead
  | i + 1 => atF f l O i - (if 0 < i then f.gap else 0) - widF f (l.getD (O.getD i 0).toNat g0)
theorem atF_bd {f : Fmt} {l : List Sng} {O : List Int} (hf : FmtOK f) (hl : SngsOK l) (hO : ∀ i, i < O.length → 0 ≤ O.getD i 0 ∧ O.getD i 0 < l.length) : ∀ i, i ≤ O.length → atF f l O i ≤ 4194304 ∧ -4194304 - 68723671040 * (i : Int) ≤ atF f l O i
  | 0, _ => by
    have := hf.outer
    have := hf.lead
    unfold atF
    omega
  | i + 1, hi => by
    have h1 := atF_bd hf hl hO i (by omega)
    have h2 := hO i (by omega)
    have h3 := (wid_bd hf.per.1 (hl.each (O.getD i 0).toNat (by omega))).2
    have := hf.gap
    unfold atF
    split <;> omega
def bndR (f : Fmt) (l : List Sng) (O : List Int) (i : Nat) : List Cell := [.int (O.getD i 0), .int (atF f l O i - (if 0 < i then f.gap else 0)), .int (atF f l O (i + 1))]
def bndA (f : Fmt) (l : List Sng) (O : List Int) (n : Nat) : Arr := (List.range n).map (bndR f l O)
theorem bndA_len (f : Fmt) (l : List Sng) (O : List Int) (n : Nat) : (bndA f l O n).length = n := by simp [bndA]
theorem bndA_succ (f : Fmt) (l : List Sng) (O : List Int) (n : Nat) : bndA f l O (n + 1) = bndA f l O n ++ [bndR f l O n] := by simp [bndA, List.range_succ]
def okAt (f : Fmt) (l : List Sng) (O : List Int) (i : Nat) : Prop := (l.getD (O.getD i 0).toNat g0).least ≤ atF f l O (i + 1)
def LayOK (f : Fmt) (l : List Sng) (O : List Int) : Prop := (∀ i, i < O.length → okAt f l O i) ∧ f.inner ≤ atF f l O O.length - f.tail
/-! ### If any order is possible, the usual one is: plain laws for the statements about sides -/
theorem at_mem {O : List Int} {i : Nat} (h : i < O.length) : O.getD i 0 ∈ O := by
  have : O.getD i 0 = O[i] := by simp [List.getD_eq_getElem?_getD, h]
  rw [this]
  exact List.getElem_mem h
end Go.Sx.Sd

namespace Go.Sx.Sd
open Go Go.Proofs Go.Sx
set_option maxRecDepth 10000
set_option maxHeartbeats 4000000
/-! ### Error codes -/
open Classical in
/-- The error of a format. -/
noncomputable def fmtE (f : Fmt) : Int := if FmtOK f then 0 else 2
open Classical in
/-- The error of tracks. -/
noncomputable def trkE (l : List Sng) : Int := if 24 < l.length then 6 else if SngsOK l then 0 else 2
theorem fmtE_ok {f : Fmt} (h : FmtOK f) : fmtE f = 0 := if_pos h
theorem fmtE_no {f : Fmt} (h : ¬ FmtOK f) : fmtE f = 2 := if_neg h
theorem trkE_ok {l : List Sng} (h : SngsOK l) : trkE l = 0 := by
  unfold trkE
  rw [if_neg (by have := h.len; omega), if_pos h]
theorem trkE_many {l : List Sng} (h : 24 < l.length) : trkE l = 6 := if_pos h
theorem trkE_no {l : List Sng} (h1 : ¬ 24 < l.length) (h2 : ¬ SngsOK l) : trkE l = 2 := by
  unfold trkE
  rw [if_neg h1, if_neg h2]
theorem trkE_0 {l : List Sng} (h : trkE l = 0) : SngsOK l := Classical.byContradiction fun hc => by
  by_cases h1 : 24 < l.length
  · rw [trkE_many h1] at h; cases h
  · rw [trkE_no h1 hc] at h; cases h
/-- An order of different tracks. -/
structure OrdOK (n : Nat) (O : List Int) : Prop where
  rng : ∀ i, i < O.length → 0 ≤ O.getD i 0 ∧ O.getD i 0 < n
  inj : ∀ i j, i < O.length → j < O.length → O.getD i 0 = O.getD j 0 → i = j
theorem nodup_at {O : List Int} (h : O.Nodup) : ∀ i j, i < O.length → j < O.length → O.getD i 0 = O.getD j 0 → i = j := fun i j hi hj e => by
  simp only [List.getD_eq_getElem?_getD, List.getElem?_eq_getElem hi, List.getElem?_eq_getElem hj, Option.getD_some] at e
  exact (List.getElem_inj h).1 e
theorem OrdOK.of {n : Nat} {O : List Int} (h : O.Nodup) (h2 : ∀ x, x ∈ O → 0 ≤ x ∧ x < n) : OrdOK n O := ⟨fun _ hi => h2 _ (at_mem hi), nodup_at h⟩
/-! ### Orders by places -/
/-! ### An order from which tracks are left out -/
end Go.Sx.Sd

namespace Go.Sx.Sd
open Go Go.Proofs Go.Sx
set_option maxRecDepth 10000
set_option maxHeartbeats 4000000
/-! ### The usual order of some tracks -/
/-! ### What insertion gives -/
end Go.Sx.Sd

namespace Go.Sx.Sd
open Go Go.Proofs Go.Sx
set_option maxRecDepth 10000
set_option maxHeartbeats 8000000
theorem pMix : Tryz.prog.follows .mixedOrders = true := by kernel_rfl
/-! ### Formats and tracks -/
@[reducible] def Fmt.x (f : Fmt) : XV := .agg [.str f.nm, .int .i64 f.outer, .int .i64 f.inner, .int .i64 f.per, .int .i64 f.lead, .int .i64 f.gap, .int .i64 f.tail, .int .i64 f.cost]
@[reducible] def Sng.x (g : Sng) : XV := .agg [.int .i64 g.long, .int .i64 g.pitch, .int .i64 g.least]
def sngA (l : List Sng) : Arr := l.map fun g => [.int g.long, .int g.pitch, .int g.least]
theorem sngA_len (l : List Sng) : (sngA l).length = l.length := by simp [sngA]
theorem sngA_0 (l : List Sng) (i : Nat) : rI (sngA l) i 0 = (l.getD i g0).long := map_rI _ g0 l i 0 rfl
theorem sngA_1 (l : List Sng) (i : Nat) : rI (sngA l) i (0 + 1) = (l.getD i g0).pitch := map_rI _ g0 l i 1 rfl
theorem sngA_2 (l : List Sng) (i : Nat) : rI (sngA l) i (0 + 1 + 1) = (l.getD i g0).least := map_rI _ g0 l i 2 rfl
@[reducible] def KSng : List CK := [.int .i64, .int .i64, .int .i64]
@[reducible] def lSng (l : List Sng) : XV := .one (.lst true KSng (sngA l))
theorem s52 (n lo hi : Int) : PSpec Tryz.prog 68 [I n, I lo, I hi] (xP (n < lo ∨ n > hi)) := by
  refine spec_of pMix (O := []) Tryz.func68 (c := bodyOf Tryz.f68) rfl (by kernel_rfl) (by kernel_rfl) Tryz.ntmps68 (res := [.tmp 6]) (by kernel_rfl) ?_
  repeat' ((conv => whnf); first | (refine Br.mk (fun h => ?_) (fun h => ?_) <;> first | (exfalso; omega; done) | (exfalso; simp at h; done) | skip))
  · repeat refine Mm.mk ?_
    refine EndVC.mk _ rfl _ _ ⟨rfl, rfl⟩ ?_
    refine ⟨[], rfl, rfl, ?_, ?_⟩ <;> repeat' (first | exact trivial | apply And.intro)
    exact .inl h
  · repeat refine Mm.mk ?_
    refine EndVC.mk _ rfl _ _ ⟨rfl, rfl⟩ ?_
    refine ⟨[], rfl, rfl, ?_, ?_⟩ <;> repeat' (first | exact trivial | apply And.intro)
    exact ⟨fun h2 => .inr h2, fun h2 => h2.elim (fun h3 => absurd h3 h) id⟩
theorem s71 (n lo hi : Int) : PSpec Tryz.prog 40 [I n, I lo, I hi] (xP (n ≥ lo ∧ n ≤ hi)) := by
  refine spec_of pMix (O := []) Tryz.func40 (c := bodyOf Tryz.f40) rfl (by kernel_rfl) (by kernel_rfl) Tryz.ntmps40 (res := [.tmp 6]) (by kernel_rfl) ?_
  repeat' ((conv => whnf); first | (refine Br.mk (fun h => ?_) (fun h => ?_) <;> first | (exfalso; omega; done) | (exfalso; simp at h; done) | skip))
  · repeat refine Mm.mk ?_
    refine EndVC.mk _ rfl _ _ ⟨rfl, rfl⟩ ?_
    refine ⟨[], rfl, rfl, ?_, ?_⟩ <;> repeat' (first | exact trivial | apply And.intro)
    exact ⟨fun h2 => ⟨h, h2⟩, fun h2 => h2.2⟩
  · repeat refine Mm.mk ?_
    refine EndVC.mk _ rfl _ _ ⟨rfl, rfl⟩ ?_
    refine ⟨[], rfl, rfl, ?_, ?_⟩ <;> repeat' (first | exact trivial | apply And.intro)
    exact fun h2 => h h2.1
theorem bytA_get (b : ByteArray) (i : Nat) : rI (bytA b) i 0 = chr b i := map_rI _ (0 : UInt8) b.data.toList i 0 rfl
theorem bytA_len (b : ByteArray) : (bytA b).length = b.size := by
  show (b.data.toList.map _).length = b.data.size
  rw [List.length_map, Array.length_toList]
open Classical in
theorem s82 (s : ByteArray) (hs : s.size ≤ 9223372036854775807) : PSpec Tryz.prog 67 [.one (.str s)] (xP (nameOK s)) := by
  have lb := bytA_len s
  refine spec_of pMix (O := []) Tryz.func67 (c := bodyOf Tryz.f67) rfl (by kernel_rfl) (by kernel_rfl) Tryz.ntmps67 (res := [.tmp 2]) (by kernel_rfl) ?_
  repeat' ((conv => whnf); first | refine Rng.g ?_ | fail)
  refine LoopVC.mk (fun n st => ∃ (i : Nat), i ≤ s.size ∧ n = s.size - i ∧ (∀ j, j < i → okC (chr s j)) ∧ st = ⟨0, envA 34 [(0, .x (.one (.str s))), (6, .x (.one (.lst false [.int .u8] (bytA s)))), (7, .int .i64 (s.size : Int)), (8, .int .i64 (i : Int))], []⟩) _ _ ⟨0, Nat.zero_le _, rfl, fun j hj => absurd hj (Nat.not_lt_zero j), rfl⟩ ?_ ?_
  · refine ⟨[], rfl, rfl, ?_, ?_⟩ <;> repeat' (first | exact trivial | exact rfl | apply And.intro)
    exact congrArg Int.ofNat lb
  rintro n _ ⟨i, hi, hn, hj, rfl⟩
  have gc : rI (bytA s) (i : Int).toNat 0 = chr s i := by rw [Int.toNat_natCast, bytA_get]
  by_cases hi' : i < s.size
  · by_cases hc : okC (chr s i)
    · have hc' := hc
      unfold okC at hc'
      repeat' ((conv => whnf); first | rw [gc] | refine Rng.g ?_ | refine Ob.g ?_ | (refine Br.mk (fun h => ?_) (fun h => ?_) <;> first | (exfalso; omega; done) | (exfalso; simp at h; done) | skip))
      all_goals
        refine Back.mk (s.size - (i + 1)) _ (by omega) ⟨i + 1, by omega, rfl, fun j hj' => ?_, rfl⟩ ?_
        · rcases Nat.lt_succ_iff_lt_or_eq.1 hj' with h' | rfl
          · exact hj j h'
          · exact hc
        · refine ⟨[], rfl, rfl, ?_, ?_⟩ <;> repeat' (first | exact trivial | exact rfl | apply And.intro)
    · have hc' := hc
      unfold okC at hc'
      repeat' ((conv => whnf); first | rw [gc] | refine Ob.g ?_ | (refine Br.mk (fun h => ?_) (fun h => ?_) <;> first | (exfalso; omega; done) | (exfalso; simp at h; done) | skip))
      all_goals
        repeat refine Mm.mk ?_
        refine EndVC.mk _ rfl _ _ ⟨rfl, rfl⟩ ?_
        refine ⟨[], rfl, rfl, ?_, ?_⟩ <;> repeat' (first | exact trivial | apply And.intro)
        exact fun hn => hc (hn.2.2 i hi')
  · have h0 : s.size = 0 ↔ s = ⟨#[]⟩ := ⟨fun h => ByteArray.ext (Array.eq_empty_of_size_eq_zero h), fun h => by rw [h]; rfl⟩
    repeat' ((conv => whnf); first | (refine Br.mk (fun h => ?_) (fun h => ?_) <;> first | (exfalso; omega; done) | (exfalso; simp at h; done) | skip))
    · have h1 : ¬ s.size = 0 := fun e => h (h0.1 e)
      repeat refine Mm.mk ?_
      refine EndVC.mk _ rfl _ _ ⟨rfl, rfl⟩ ?_
      refine ⟨[], rfl, rfl, ?_, ?_⟩ <;> repeat' (first | exact trivial | apply And.intro)
      exact ⟨fun h2 => ⟨by omega, by omega, fun j hj' => hj j (by omega)⟩, fun hn => (by have := hn.2.1; omega)⟩
    · have h1 : s.size = 0 := h0.2 (Classical.not_not.1 h)
      repeat refine Mm.mk ?_
      refine EndVC.mk _ rfl _ _ ⟨rfl, rfl⟩ ?_
      refine ⟨[], rfl, rfl, ?_, ?_⟩ <;> repeat' (first | exact trivial | apply And.intro)
      exact fun hn => (by have := hn.1; omega)
/-! ### Which formats and tracks are valid -/
theorem s67 (f : Fmt) (hI : f.nm.size ≤ 9223372036854775807) : PSpec Tryz.prog 41 [f.x] (.x (I (fmtE f))) := by
  have k0 := s52 f.lead 0 4194304
  have k1 := s52 f.gap 0 4194304
  have k2 := s52 f.tail 0 4194304
  refine spec_of pMix (O := []) Tryz.func41 (c := bodyOf Tryz.f41) rfl (by kernel_rfl) (by kernel_rfl) Tryz.ntmps41 (res := [.tmp 2]) (by kernel_rfl) ?_
  repeat' ((conv => whnf); first | refine Rng.g ?_ | refine CallVC.pure rfl (s82 f.nm hI) ?_ | refine CallVC.pure rfl (s52 f.outer 1 4194304) ?_ | refine CallVC.pure rfl (s52 f.inner 0 (f.outer - 1)) ?_ | refine CallVC.pure rfl (s52 f.per 1 65536) ?_ | refine CallVC.pure rfl (s52 f.cost 0 1048576) ?_ | (refine Br.mk (fun h => ?_) (fun h => ?_) <;> first | (exfalso; omega; done) | (exfalso; simp at h; done) | skip))
  all_goals
    refine LoopVC.un 4 ?_
    repeat' ((conv => whnf); first | refine Rng.g ?_ | refine Ob.g ?_ | refine CallVC.pure rfl (k0) ?_ | refine CallVC.pure rfl (k1) ?_ | refine CallVC.pure rfl (k2) ?_ | (refine Br.mk (fun h => ?_) (fun h => ?_) <;> first | (exfalso; omega; done) | (exfalso; simp at h; done) | skip))
  rotate_right
  · repeat refine Mm.mk ?_
    refine EndVC.mk _ rfl _ _ ⟨rfl, rfl⟩ ?_
    refine ⟨[], rfl, rfl, ?_, ?_⟩ <;> repeat' (first | exact trivial | exact rfl | apply And.intro)
    exact (fmtE_ok ⟨Classical.not_not.1 (by assumption), by omega, by omega, by omega, by omega, by omega, by omega, by omega⟩).symm
  all_goals
    repeat refine Mm.mk ?_
    refine EndVC.mk _ rfl _ _ ⟨rfl, rfl⟩ ?_
    refine ⟨[], rfl, rfl, ?_, ?_⟩ <;> repeat' (first | exact trivial | exact rfl | apply And.intro)
    exact (fmtE_no fun hC => (by obtain ⟨h0, h1, h2, h3, h4, h5, h6, h7⟩ := hC; first | contradiction | omega)).symm
theorem s68 (l : List Sng) : PSpec Tryz.prog 42 [lSng l] (.x (I (trkE l))) := by
  have lp := sngA_len l
  by_cases h24 : 24 < l.length
  · refine spec_of pMix (O := []) Tryz.func42 (c := bodyOf Tryz.f42) rfl (by kernel_rfl) (by kernel_rfl) Tryz.ntmps42 (res := [.tmp 2]) (by kernel_rfl) ?_
    repeat' ((conv => whnf); first | (refine Br.mk (fun h => ?_) (fun h => ?_) <;> first | (exfalso; omega; done) | (exfalso; simp at h; done) | skip))
    repeat refine Mm.mk ?_
    refine EndVC.mk _ rfl _ _ ⟨rfl, rfl⟩ ?_
    refine ⟨[], rfl, rfl, ?_, ?_⟩ <;> repeat' (first | exact trivial | exact rfl | apply And.intro)
    exact (trkE_many h24).symm
  refine spec_of pMix (O := []) Tryz.func42 (c := bodyOf Tryz.f42) rfl (by kernel_rfl) (by kernel_rfl) Tryz.ntmps42 (res := [.tmp 2]) (by kernel_rfl) ?_
  repeat' ((conv => whnf); first | (refine Br.mk (fun h => ?_) (fun h => ?_) <;> first | (exfalso; omega; done) | (exfalso; simp at h; done) | skip))
  refine LoopVC.mk (fun n st => ∃ (i : Nat), i ≤ l.length ∧ n = l.length - i ∧ (∀ j, j < i → (l.getD j g0).ok) ∧ st = ⟨0, envA 28 [(8, .x (lSng l)), (9, .int .i64 (l.length : Int)), (10, .int .i64 (i : Int))], []⟩) _ _ ⟨0, Nat.zero_le _, rfl, fun j hj => absurd hj (Nat.not_lt_zero j), rfl⟩ ?_ ?_
  · refine ⟨[], rfl, rfl, ?_, ?_⟩ <;> repeat' (first | exact trivial | exact rfl | apply And.intro)
    all_goals exact congrArg Int.ofNat lp
  rintro n _ ⟨i, hi, hn, hj, rfl⟩
  have c0 : rI (sngA l) (i : Int).toNat 0 = (l.getD i g0).long := by rw [Int.toNat_natCast, sngA_0]
  have c1 : rI (sngA l) (i : Int).toNat (0 + 1) = (l.getD i g0).pitch := by rw [Int.toNat_natCast, sngA_1]
  have c2 : rI (sngA l) (i : Int).toNat (0 + 1 + 1) = (l.getD i g0).least := by rw [Int.toNat_natCast, sngA_2]
  have k0 := s52 (l.getD i g0).long 1 16777216
  have k1 := s52 (l.getD i g0).pitch 1 4096
  have k2 := s52 (l.getD i g0).least 0 4194304
  by_cases hi' : i < l.length
  · by_cases hg : (l.getD i g0).ok
    · have hg' := hg
      unfold Sng.ok at hg'
      repeat' ((conv => whnf); first | rw [c0] | rw [c1] | rw [c2] | refine Rng.g ?_ | refine Ob.g ?_ | refine CallVC.pure rfl (k0) ?_ | refine CallVC.pure rfl (k1) ?_ | refine CallVC.pure rfl (k2) ?_ | (refine Br.mk (fun h => ?_) (fun h => ?_) <;> first | (exfalso; omega; done) | (exfalso; simp at h; done) | skip))
      refine Back.mk (l.length - (i + 1)) _ (by omega) ⟨i + 1, by omega, rfl, fun j hj' => ?_, rfl⟩ ?_
      · rcases Nat.lt_succ_iff_lt_or_eq.1 hj' with h' | rfl
        · exact hj j h'
        · exact hg
      · refine ⟨[], rfl, rfl, ?_, ?_⟩ <;> repeat' (first | exact trivial | exact rfl | apply And.intro)
    · have hg' := hg
      unfold Sng.ok at hg'
      repeat' ((conv => whnf); first | rw [c0] | rw [c1] | rw [c2] | refine Ob.g ?_ | refine CallVC.pure rfl (k0) ?_ | refine CallVC.pure rfl (k1) ?_ | refine CallVC.pure rfl (k2) ?_ | (refine Br.mk (fun h => ?_) (fun h => ?_) <;> first | (exfalso; omega; done) | (exfalso; simp at h; done) | skip))
      all_goals
        repeat refine Mm.mk ?_
        refine EndVC.mk _ rfl _ _ ⟨rfl, rfl⟩ ?_
        refine ⟨[], rfl, rfl, ?_, ?_⟩ <;> repeat' (first | exact trivial | exact rfl | apply And.intro)
        exact (trkE_no h24 fun h => absurd (h.each i hi') hg).symm
  · repeat' ((conv => whnf); first | (refine Br.mk (fun h => ?_) (fun h => ?_) <;> first | (exfalso; omega; done) | (exfalso; simp at h; done) | skip))
    repeat refine Mm.mk ?_
    refine EndVC.mk _ rfl _ _ ⟨rfl, rfl⟩ ?_
    refine ⟨[], rfl, rfl, ?_, ?_⟩ <;> repeat' (first | exact trivial | exact rfl | apply And.intro)
    exact (trkE_ok ⟨by omega, fun j hj' => hj j (by omega)⟩).symm
theorem sngs1 (g : Sng) : SngsOK [g] ↔ g.ok := ⟨fun h => h.each 0 (by simp), fun h => ⟨by simp, fun j hj => (by rw [show j = 0 by simp at hj; omega]; exact h)⟩⟩
open Classical in
theorem s70 (s : ByteArray) : PSpec Tryz.prog 39 [.one (.str s)] (xP (nameOK s)) := by
  by_cases hs : s.size < 1 ∨ 20 < s.size
  · refine spec_of pMix (O := []) Tryz.func39 (c := bodyOf Tryz.f39) rfl (by kernel_rfl) (by kernel_rfl) Tryz.ntmps39 (res := [.tmp 2]) (by kernel_rfl) ?_
    repeat' ((conv => whnf); first | (refine Br.mk (fun h => ?_) (fun h => ?_) <;> first | (exfalso; omega; done) | (exfalso; simp at h; done) | skip))
    all_goals
      repeat refine Mm.mk ?_
      refine EndVC.mk _ rfl _ _ ⟨rfl, rfl⟩ ?_
      refine ⟨[], rfl, rfl, ?_, ?_⟩ <;> repeat' (first | exact trivial | apply And.intro)
      show ¬ _
      intro hn
      have := hn.1
      have := hn.2.1
      omega
  refine spec_of pMix (O := []) Tryz.func39 (c := bodyOf Tryz.f39) rfl (by kernel_rfl) (by kernel_rfl) Tryz.ntmps39 (res := [.tmp 2]) (by kernel_rfl) ?_
  repeat' ((conv => whnf); first | (refine Br.mk (fun h => ?_) (fun h => ?_) <;> first | (exfalso; omega; done) | (exfalso; simp at h; done) | skip))
  refine LoopVC.mk (fun n st => ∃ (i : Nat), i ≤ s.size ∧ n = s.size - i ∧ (∀ j, j < i → okC (chr s j)) ∧ st = ⟨0, envA 42 [(0, .x (.one (.str s))), (3, .int .i64 (i : Int))], []⟩) _ _ ⟨0, Nat.zero_le _, rfl, fun j hj => absurd hj (Nat.not_lt_zero j), rfl⟩ ?_ ?_
  · refine ⟨[], rfl, rfl, ?_, ?_⟩ <;> repeat' (first | exact trivial | exact rfl | apply And.intro)
  rintro n _ ⟨i, hi, hn, hj, rfl⟩
  have gc : chr s i = ((s.data.toList.getD (i : Int).toNat 0).toNat : Int) := rfl
  by_cases hi' : i < s.size
  · by_cases hc : okC (chr s i)
    · have hc' := hc
      unfold okC at hc'
      rw [gc] at hc'
      repeat' ((conv => whnf); first | refine Rng.g ?_ | refine Ob.g ?_ | (refine Br.mk (fun h => ?_) (fun h => ?_) <;> first | (exfalso; omega; done) | (exfalso; simp at h; done) | skip))
      all_goals
        refine Back.mk (s.size - (i + 1)) _ (by omega) ⟨i + 1, by omega, rfl, fun j hj' => ?_, rfl⟩ ?_
        · rcases Nat.lt_succ_iff_lt_or_eq.1 hj' with h' | rfl
          · exact hj j h'
          · exact hc
        · refine ⟨[], rfl, rfl, ?_, ?_⟩ <;> repeat' (first | exact trivial | exact rfl | apply And.intro)
    · have hc' := hc
      unfold okC at hc'
      rw [gc] at hc'
      repeat' ((conv => whnf); first | refine Ob.g ?_ | (refine Br.mk (fun h => ?_) (fun h => ?_) <;> first | (exfalso; omega; done) | (exfalso; simp at h; done) | skip))
      all_goals
        repeat refine Mm.mk ?_
        refine EndVC.mk _ rfl _ _ ⟨rfl, rfl⟩ ?_
        refine ⟨[], rfl, rfl, ?_, ?_⟩ <;> repeat' (first | exact trivial | apply And.intro)
        exact fun hn => hc (hn.2.2 i hi')
  · repeat' ((conv => whnf); first | (refine Br.mk (fun h => ?_) (fun h => ?_) <;> first | (exfalso; omega; done) | (exfalso; simp at h; done) | skip))
    repeat refine Mm.mk ?_
    refine EndVC.mk _ rfl _ _ ⟨rfl, rfl⟩ ?_
    refine ⟨[], rfl, rfl, ?_, ?_⟩ <;> repeat' (first | exact trivial | apply And.intro)
    · omega
    · omega
    · exact fun j hj' => hj j (by omega)
/-! ### Takes -/

theorem s41 (f : Fmt) : PSpec Tryz.prog 18 [f.x] (.x (I (fmtE f))) := by
  have k0 := s71 f.lead 0 4194304
  have k1 := s71 f.gap 0 4194304
  have k2 := s71 f.tail 0 4194304
  refine spec_of pMix (O := []) Tryz.func18 (c := bodyOf Tryz.f18) rfl (by kernel_rfl) (by kernel_rfl) Tryz.ntmps18 (res := [.tmp 2]) (by kernel_rfl) ?_
  repeat' ((conv => whnf); first | refine Rng.g ?_ | refine CallVC.pure rfl (s70 f.nm) ?_ | refine CallVC.pure rfl (s71 f.outer 0 4194304) ?_ | refine CallVC.pure rfl (s71 f.inner 0 (f.outer - 1)) ?_ | refine CallVC.pure rfl (s71 f.per 1 65536) ?_ | refine CallVC.pure rfl (s71 f.cost 0 1048576) ?_ | refine CallVC.pure rfl (k0) ?_ | refine CallVC.pure rfl (k1) ?_ | refine CallVC.pure rfl (k2) ?_ | (refine Br.mk (fun h => ?_) (fun h => ?_) <;> first | (exfalso; omega; done) | (exfalso; simp at h; done) | skip))
  rotate_right
  · repeat refine Mm.mk ?_
    refine EndVC.mk _ rfl _ _ ⟨rfl, rfl⟩ ?_
    refine ⟨[], rfl, rfl, ?_, ?_⟩ <;> repeat' (first | exact trivial | exact rfl | apply And.intro)
    exact (fmtE_ok ⟨Classical.not_not.1 (by assumption), by omega, by omega, by omega, by omega, by omega, by omega, by omega⟩).symm
  all_goals
    repeat refine Mm.mk ?_
    refine EndVC.mk _ rfl _ _ ⟨rfl, rfl⟩ ?_
    refine ⟨[], rfl, rfl, ?_, ?_⟩ <;> repeat' (first | exact trivial | exact rfl | apply And.intro)
    exact (fmtE_no fun hC => (by obtain ⟨h0, h1, h2, h3, h4, h5, h6, h7⟩ := hC; first | contradiction | omega)).symm
theorem s42 (l : List Sng) : PSpec Tryz.prog 19 [lSng l] (.x (I (trkE l))) := by
  have lp := sngA_len l
  by_cases h24 : 24 < l.length
  · refine spec_of pMix (O := []) Tryz.func19 (c := bodyOf Tryz.f19) rfl (by kernel_rfl) (by kernel_rfl) Tryz.ntmps19 (res := [.tmp 2]) (by kernel_rfl) ?_
    repeat' ((conv => whnf); first | (refine Br.mk (fun h => ?_) (fun h => ?_) <;> first | (exfalso; omega; done) | (exfalso; simp at h; done) | skip))
    repeat refine Mm.mk ?_
    refine EndVC.mk _ rfl _ _ ⟨rfl, rfl⟩ ?_
    refine ⟨[], rfl, rfl, ?_, ?_⟩ <;> repeat' (first | exact trivial | exact rfl | apply And.intro)
    exact (trkE_many h24).symm
  refine spec_of pMix (O := []) Tryz.func19 (c := bodyOf Tryz.f19) rfl (by kernel_rfl) (by kernel_rfl) Tryz.ntmps19 (res := [.tmp 2]) (by kernel_rfl) ?_
  repeat' ((conv => whnf); first | (refine Br.mk (fun h => ?_) (fun h => ?_) <;> first | (exfalso; omega; done) | (exfalso; simp at h; done) | skip))
  refine LoopVC.mk (fun n st => ∃ (i : Nat), i ≤ l.length ∧ n = l.length - i ∧ (∀ j, j < i → (l.getD j g0).ok) ∧ st = ⟨0, envA 38 [(0, .x (lSng l)), (3, .int .i64 (i : Int))], []⟩) _ _ ⟨0, Nat.zero_le _, rfl, fun j hj => absurd hj (Nat.not_lt_zero j), rfl⟩ ?_ ?_
  · refine ⟨[], rfl, rfl, ?_, ?_⟩ <;> repeat' (first | exact trivial | exact rfl | apply And.intro)
  rintro n _ ⟨i, hi, hn, hj, rfl⟩
  have c0 : rI (sngA l) (i : Int).toNat 0 = (l.getD i g0).long := by rw [Int.toNat_natCast, sngA_0]
  have c1 : rI (sngA l) (i : Int).toNat (0 + (0 + 1)) = (l.getD i g0).pitch := by rw [Int.toNat_natCast]; exact sngA_1 l i
  have c2 : rI (sngA l) (i : Int).toNat (0 + (0 + 1 + 1)) = (l.getD i g0).least := by rw [Int.toNat_natCast]; exact sngA_2 l i
  have k0 := s71 (l.getD i g0).long 1 16777216
  have k1 := s71 (l.getD i g0).pitch 1 4096
  have k2 := s71 (l.getD i g0).least 0 4194304
  by_cases hi' : i < l.length
  · by_cases hg : (l.getD i g0).ok
    · have hg' := hg
      unfold Sng.ok at hg'
      repeat' ((conv => whnf); first | rw [c0] | rw [c1] | rw [c2] | refine Rng.g ?_ | refine Ob.g ?_ | refine CallVC.pure rfl (k0) ?_ | refine CallVC.pure rfl (k1) ?_ | refine CallVC.pure rfl (k2) ?_ | (refine Br.mk (fun h => ?_) (fun h => ?_) <;> first | (exfalso; omega; done) | (exfalso; simp at h; done) | skip))
      refine Back.mk (l.length - (i + 1)) _ (by omega) ⟨i + 1, by omega, rfl, fun j hj' => ?_, rfl⟩ ?_
      · rcases Nat.lt_succ_iff_lt_or_eq.1 hj' with h' | rfl
        · exact hj j h'
        · exact hg
      · refine ⟨[], rfl, rfl, ?_, ?_⟩ <;> repeat' (first | exact trivial | exact rfl | apply And.intro)
    · have hg' := hg
      unfold Sng.ok at hg'
      repeat' ((conv => whnf); first | rw [c0] | rw [c1] | rw [c2] | refine Ob.g ?_ | refine CallVC.pure rfl (k0) ?_ | refine CallVC.pure rfl (k1) ?_ | refine CallVC.pure rfl (k2) ?_ | (refine Br.mk (fun h => ?_) (fun h => ?_) <;> first | (exfalso; omega; done) | (exfalso; simp at h; done) | skip))
      all_goals
        repeat refine Mm.mk ?_
        refine EndVC.mk _ rfl _ _ ⟨rfl, rfl⟩ ?_
        refine ⟨[], rfl, rfl, ?_, ?_⟩ <;> repeat' (first | exact trivial | exact rfl | apply And.intro)
        exact (trkE_no h24 fun h => absurd (h.each i hi') hg).symm
  · repeat' ((conv => whnf); first | (refine Br.mk (fun h => ?_) (fun h => ?_) <;> first | (exfalso; omega; done) | (exfalso; simp at h; done) | skip))
    repeat refine Mm.mk ?_
    refine EndVC.mk _ rfl _ _ ⟨rfl, rfl⟩ ?_
    refine ⟨[], rfl, rfl, ?_, ?_⟩ <;> repeat' (first | exact trivial | exact rfl | apply And.intro)
    exact (trkE_ok ⟨by omega, fun j hj' => hj j (by omega)⟩).symm
end Go.Sx.Sd

namespace Go.Sx.Sd
open Go Go.Proofs Go.Sx
set_option maxRecDepth 10000
set_option maxHeartbeats 8000000
theorem eb3 : Tryz.t3.bytes = 8 := by kernel_rfl
/-! ### The usual order -/
@[reducible] def rowOd (O : List Int) : Blk := .row 3 false [.int .i64] (i64s O)
/-- All of them are numbers of tracks. -/
def InR (O : List Int) (m : Nat) : Prop := ∀ i, i < O.length → 0 ≤ O.getD i 0 ∧ O.getD i 0 < m
/-! ### The bands -/
@[reducible] def rowB (A : Arr) : Blk := .row 156 false [.int .i64, .int .i64, .int .i64] A
theorem eb116 : Tryz.t156.bytes = 24 := by kernel_rfl
end Go.Sx.Sd

namespace Go.Sx.Sd
open Go Go.Proofs Go.Sx
set_option maxRecDepth 10000
set_option maxHeartbeats 8000000
/-! ### An order is laid -/
/-! ### The example -/
end Go.Sx.Sd

namespace Go.Sx.Sd
open Go Go.Proofs Go.Sx
set_option maxRecDepth 10000
set_option maxHeartbeats 4000000
/-- The tracks from one on. -/
def seqL (i n : Nat) : List Int := (List.range n).map fun k => ((i + k : Nat) : Int)
theorem seqL_len (i n : Nat) : (seqL i n).length = n := by simp [seqL]
theorem seqL_succ (i n : Nat) : seqL i (n + 1) = seqL i n ++ [((i + n : Nat) : Int)] := by simp [seqL, List.range_succ]
theorem seqL_get (i n k : Nat) (h : k < n) : (seqL i n).getD k 0 = ((i + k : Nat) : Int) := by simp [seqL, List.getD_eq_getElem?_getD, List.getElem?_range h]
def f0 : Fmt := ⟨⟨#[]⟩, 0, 0, 0, 0, 0, 0, 0⟩
structure AlbOK (F : List Fmt) (l : List Sng) : Prop where
  few : 1 ≤ F.length ∧ F.length ≤ 8
  fmts : ∀ i, i < F.length → FmtOK (F.getD i f0)
  sngs : SngsOK l
/-! ### Faces, plans and prices: plain laws for the statements about sides -/
theorem atF_congr (f : Fmt) (l : List Sng) {O Q : List Int} : ∀ k, (∀ j, j < k → O.getD j 0 = Q.getD j 0) → atF f l O k = atF f l Q k
  | 0, _ => rfl
  | k + 1, h => by
    unfold atF
    rw [atF_congr f l k (fun j hj => h j (by omega)), h k (Nat.lt_succ_self k)]
/-- What is possible stays so without its last track. -/
theorem lay_prefix {f : Fmt} {l : List Sng} (hf : FmtOK f) (hl : SngsOK l) {i n : Nat} (hn : i + (n + 1) ≤ l.length) (h : LayOK f l (seqL i (n + 1))) : LayOK f l (seqL i n) := by
  have e : ∀ k, k ≤ n → atF f l (seqL i n) k = atF f l (seqL i (n + 1)) k := fun k hk => atF_congr f l k fun j hj => by
    rw [seqL_get _ _ _ (by omega), seqL_get _ _ _ (by omega)]
  have hw := (wid_bd hf.per.1 (hl.each (i + n) (by omega))).2.1
  have hg := hf.gap.1
  have h2 := h.2
  have ea : atF f l (seqL i (n + 1)) (n + 1) = atF f l (seqL i (n + 1)) n - (if 0 < n then f.gap else 0) - widF f (l.getD (i + n) g0) := by
    show _ - _ - widF f (l.getD ((seqL i (n + 1)).getD n 0).toNat g0) = _
    rw [seqL_get _ _ _ (Nat.lt_succ_self n), Int.toNat_natCast]
  rw [seqL_len, ea] at h2
  refine ⟨fun k hk => ?_, ?_⟩
  · rw [seqL_len] at hk
    have h3 := h.1 k (by rw [seqL_len]; omega)
    unfold okAt at h3 ⊢
    rw [seqL_get _ _ _ (by omega)] at h3 ⊢
    rw [e _ (by omega)]
    exact h3
  · rw [seqL_len, e n (Nat.le_refl n)]
    split at h2 <;> omega
/-- A face: the tracks from i on and before j on the format k. -/
structure faceP (F : List Fmt) (l : List Sng) (k i j : Nat) : Prop where
  fmt : k < F.length
  lt : i < j
  le : j ≤ l.length
  lay : LayOK (F.getD k f0) l (seqL i (j - i))
theorem face_pre {F : List Fmt} {l : List Sng} (hA : AlbOK F l) {k i j : Nat} (h : faceP F l k i (j + 1)) (hj : i < j) : faceP F l k i j := by
  refine ⟨h.fmt, hj, by have := h.le; omega, ?_⟩
  have h1 := h.lay
  rw [show j + 1 - i = j - i + 1 by omega] at h1
  exact lay_prefix (hA.fmts k h.fmt) hA.sngs (by have := h.le; omega) h1
/-- A plan from a track on: formats and numbers of tracks. -/
def PlanOK (F : List Fmt) (l : List Sng) : Nat → List (Nat × Nat) → Prop
  | i, [] => i = l.length
  | i, (k, m) :: t => faceP F l k i (i + m) ∧ PlanOK F l (i + m) t
def costP (F : List Fmt) : List (Nat × Nat) → Int
  | [] => 0
  | (k, _) :: t => (F.getD k f0).cost + costP F t
/-- The tracks before one can be laid out at a cost. -/
inductive Reach (F : List Fmt) (l : List Sng) : Nat → Int → Prop
  | nil : Reach F l 0 0
  | step {i j k : Nat} {c : Int} (h : Reach F l i c) (hf : faceP F l k i j) : Reach F l j (c + (F.getD k f0).cost)
theorem PlanOK.app {F : List Fmt} {l : List Sng} {j : Nat} {c : Int} (h : Reach F l j c) : ∀ {t}, PlanOK F l j t → ∃ pl, PlanOK F l 0 pl ∧ costP F pl = c + costP F t := by
  induction h with
  | nil => exact fun {t} ht => ⟨t, ht, by omega⟩
  | @step i j k c h hf ih =>
    intro t ht
    have hl := hf.lt
    obtain ⟨pl, h1, h2⟩ := ih (t := (k, j - i) :: t) ⟨by rw [show i + (j - i) = j by omega]; exact hf, by rw [show i + (j - i) = j by omega]; exact ht⟩
    refine ⟨pl, h1, ?_⟩
    rw [h2]
    simp only [costP]
    omega
/-- What is reached at the end is the cost of a plan. -/
theorem Reach.plan {F : List Fmt} {l : List Sng} {c : Int} (h : Reach F l l.length c) : ∃ pl, PlanOK F l 0 pl ∧ costP F pl = c := by
  obtain ⟨pl, h1, h2⟩ := PlanOK.app h (t := []) rfl
  exact ⟨pl, h1, by rw [h2]; simp only [costP]; omega⟩
/-! ### The faces in their order -/
theorem face_pre' {F : List Fmt} {l : List Sng} (hA : AlbOK F l) {k i j : Nat} (hj : i < j) : ∀ d, faceP F l k i (j + d) → faceP F l k i j
  | 0, h => h
  | d + 1, h => face_pre' hA hj d (face_pre hA h (by omega))
open Classical in
/-- The faces of a format that begin at i and end before j. -/
noncomputable def fcj (F : List Fmt) (l : List Sng) (i k : Nat) : Nat → List (Nat × Nat)
  | 0 => []
  | j + 1 => if faceP F l k i j then fcj F l i k j ++ [(k, j)] else fcj F l i k j
/-- The faces that begin at i, of the first formats. -/
noncomputable def fcs (F : List Fmt) (l : List Sng) (i : Nat) : Nat → List (Nat × Nat)
  | 0 => []
  | k + 1 => fcs F l i k ++ fcj F l i k (l.length + 1)
theorem fcj_yes {F : List Fmt} {l : List Sng} {i k j : Nat} (h : faceP F l k i j) : fcj F l i k (j + 1) = fcj F l i k j ++ [(k, j)] := if_pos h
theorem fcj_no {F : List Fmt} {l : List Sng} {i k j : Nat} (h : ¬ faceP F l k i j) : fcj F l i k (j + 1) = fcj F l i k j := if_neg h
theorem fcj_lo {F : List Fmt} {l : List Sng} {i k : Nat} : ∀ j, j ≤ i + 1 → fcj F l i k j = []
  | 0, _ => rfl
  | j + 1, h => by
    rw [fcj_no fun hf => by have := hf.lt; omega]
    exact fcj_lo j (by omega)
theorem fcj_stop {F : List Fmt} {l : List Sng} (hA : AlbOK F l) {i k j : Nat} (hj : i < j) (h : ¬ faceP F l k i j) : ∀ d, fcj F l i k (j + d) = fcj F l i k j
  | 0 => rfl
  | d + 1 => by
    rw [show j + (d + 1) = j + d + 1 from rfl, fcj_no fun hf => h (face_pre' hA hj d hf)]
    exact fcj_stop hA hj h d
theorem fcj_end {F : List Fmt} {l : List Sng} (hA : AlbOK F l) {i k j : Nat} (hj : i < j) (h : ¬ faceP F l k i j) (hl : j ≤ l.length + 1) : fcj F l i k j = fcj F l i k (l.length + 1) := by
  have := fcj_stop hA hj h (l.length + 1 - j)
  rw [show j + (l.length + 1 - j) = l.length + 1 by omega] at this
  exact this.symm
theorem mem_fcj {F : List Fmt} {l : List Sng} {i k : Nat} {p : Nat × Nat} : ∀ {j}, p ∈ fcj F l i k j ↔ p.1 = k ∧ p.2 < j ∧ faceP F l k i p.2
  | 0 => ⟨fun h => (by simp [fcj] at h), fun h => (by omega)⟩
  | j + 1 => by
    by_cases h : faceP F l k i j
    · rw [fcj_yes h, List.mem_append, mem_fcj, List.mem_singleton]
      constructor
      · rintro (⟨h1, h2, h3⟩ | rfl)
        · exact ⟨h1, by omega, h3⟩
        · exact ⟨rfl, Nat.lt_succ_self j, h⟩
      · rintro ⟨h1, h2, h3⟩
        by_cases e : p.2 = j
        · exact .inr (Prod.ext h1 e)
        · exact .inl ⟨h1, by omega, h3⟩
    · rw [fcj_no h, mem_fcj]
      constructor
      · rintro ⟨h1, h2, h3⟩
        exact ⟨h1, by omega, h3⟩
      · rintro ⟨h1, h2, h3⟩
        refine ⟨h1, ?_, h3⟩
        by_cases e : p.2 = j
        · rw [e] at h3; exact absurd h3 h
        · omega
theorem mem_fcs {F : List Fmt} {l : List Sng} {i : Nat} {p : Nat × Nat} : ∀ {k}, p ∈ fcs F l i k ↔ p.1 < k ∧ faceP F l p.1 i p.2
  | 0 => ⟨fun h => (by simp [fcs] at h), fun h => (by omega)⟩
  | k + 1 => by
    unfold fcs
    rw [List.mem_append, mem_fcs, mem_fcj]
    constructor
    · rintro (⟨h1, h2⟩ | ⟨h1, h2, h3⟩)
      · exact ⟨by omega, h2⟩
      · rw [h1]; exact ⟨Nat.lt_succ_self k, h3⟩
    · rintro ⟨h1, h2⟩
      by_cases e : p.1 = k
      · rw [e] at h2; exact .inr ⟨e, by have := h2.le; omega, h2⟩
      · exact .inl ⟨by omega, h2⟩
/-- All faces that begin at i, by formats and then by their ends. -/
noncomputable def facesL (F : List Fmt) (l : List Sng) (i : Nat) : List (Nat × Nat) := fcs F l i F.length
theorem mem_faces {F : List Fmt} {l : List Sng} {i : Nat} {p : Nat × Nat} : p ∈ facesL F l i ↔ faceP F l p.1 i p.2 := by
  unfold facesL
  rw [mem_fcs]
  exact ⟨fun h => h.2, fun h => ⟨h.fmt, h⟩⟩
/-! ### Best plans -/
/-- A worth is better than another one. -/
def ltW (a b : Int × Int) : Prop := a.1 < b.1 ∨ a.1 = b.1 ∧ a.2 < b.2
instance (a b : Int × Int) : Decidable (ltW a b) := by unfold ltW; exact inferInstance
/-- The best worth from a track on, with its first face. -/
abbrev EntW := Option ((Int × Int) × (Nat × Nat))
def stepE (F : List Fmt) (T : Nat → EntW) (acc : EntW) (p : Nat × Nat) : EntW :=
  match T p.2 with
  | none => acc
  | some (w, _) => match acc with
    | none => some ((w.1 + (F.getD p.1 f0).cost, w.2 + 1), p)
    | some (v, q) => if ltW (w.1 + (F.getD p.1 f0).cost, w.2 + 1) v then some ((w.1 + (F.getD p.1 f0).cost, w.2 + 1), p) else some (v, q)
/-- The entries of the last d tracks, and of the end. -/
noncomputable def bstT (F : List Fmt) (l : List Sng) : Nat → Nat → EntW
  | 0 => fun i => if i = l.length then some ((0, 0), (0, 0)) else none
  | d + 1 => fun i => if i + (d + 1) = l.length then (facesL F l i).foldl (stepE F (bstT F l d)) none else bstT F l d i
noncomputable def bst (F : List Fmt) (l : List Sng) : Nat → EntW := bstT F l l.length
theorem bstT_up {F : List Fmt} {l : List Sng} {i : Nat} : ∀ {d}, l.length ≤ i + d → ∀ m, i + d + m ≤ l.length + l.length → bstT F l (d + m) i = bstT F l d i
  | d, h, 0, _ => rfl
  | d, h, m + 1, hm => by
    have e : bstT F l (d + (m + 1)) i = bstT F l (d + m) i := if_neg (show ¬ i + (d + m + 1) = l.length by omega)
    rw [e]
    exact bstT_up h m (by omega)
theorem bstT_bst {F : List Fmt} {l : List Sng} {i d : Nat} (h : l.length ≤ i + d) (hi : i ≤ l.length) (hd : d ≤ l.length) : bstT F l d i = bst F l i := by
  have := bstT_up (F := F) (l := l) (i := i) (d := d) h (l.length - d) (by omega)
  rw [show d + (l.length - d) = l.length by omega] at this
  exact this.symm
theorem bst_end (F : List Fmt) (l : List Sng) : bst F l l.length = some ((0, 0), (0, 0)) := by
  rw [← bstT_bst (d := 0) (by omega) (Nat.le_refl _) (Nat.zero_le _)]
  exact if_pos rfl
theorem foldE_congr (F : List Fmt) {T T' : Nat → EntW} : ∀ (L : List (Nat × Nat)) (acc : EntW), (∀ p, p ∈ L → T p.2 = T' p.2) → L.foldl (stepE F T) acc = L.foldl (stepE F T') acc
  | [], _, _ => rfl
  | p :: L, acc, h => by
    simp only [List.foldl_cons]
    have e : stepE F T acc p = stepE F T' acc p := by unfold stepE; rw [h p List.mem_cons_self]
    rw [e]
    exact foldE_congr F L _ fun q hq => h q (List.mem_cons_of_mem _ hq)
theorem bst_at {F : List Fmt} {l : List Sng} {i : Nat} (hi : i < l.length) : bst F l i = (facesL F l i).foldl (stepE F (bst F l)) none := by
  rw [← bstT_bst (d := l.length - i - 1 + 1) (by omega) (by omega) (by omega)]
  unfold bstT
  rw [if_pos (by omega)]
  refine foldE_congr F _ _ fun p hp => ?_
  have h1 := mem_faces.1 hp
  have h2 := h1.lt
  have h3 := h1.le
  exact bstT_bst (by omega) h3 (by omega)
/-- What the fold keeps: an entry of one of the faces, and none is better. -/
structure FoldOK (F : List Fmt) (T : Nat → EntW) (L : List (Nat × Nat)) (e : EntW) : Prop where
  from_ : ∀ v q, e = some (v, q) → q ∈ L ∧ ∃ w f, T q.2 = some (w, f) ∧ v = (w.1 + (F.getD q.1 f0).cost, w.2 + 1)
  best : ∀ p w f, p ∈ L → T p.2 = some (w, f) → ∃ v q, e = some (v, q) ∧ ¬ ltW (w.1 + (F.getD p.1 f0).cost, w.2 + 1) v
theorem ltW_tr {a b c : Int × Int} (h : ltW a b) (h2 : ltW b c) : ltW a c := by
  unfold ltW at *
  omega
theorem foldE_ok (F : List Fmt) (T : Nat → EntW) (L : List (Nat × Nat)) : FoldOK F T L (L.foldl (stepE F T) none) := by
  refine snoc_ind (p := fun L => FoldOK F T L (L.foldl (stepE F T) none)) ?_ ?_ L
  · exact ⟨fun v q h => by simp at h, fun p w f h => by simp at h⟩
  · intro L p ih
    rw [List.foldl_append]
    simp only [List.foldl_cons, List.foldl_nil]
    obtain ⟨acc, hacc⟩ : ∃ acc, L.foldl (stepE F T) none = acc := ⟨_, rfl⟩
    rw [hacc] at ih ⊢
    unfold stepE
    cases hT : T p.2 with
    | none =>
      simp only
      refine ⟨fun v q h => ?_, fun q w f hq hw => ?_⟩
      · obtain ⟨h1, h2⟩ := ih.from_ v q h
        exact ⟨List.mem_append_left _ h1, h2⟩
      · rcases List.mem_append.1 hq with h1 | h1
        · exact ih.best q w f h1 hw
        · rw [List.mem_singleton.1 h1, hT] at hw; cases hw
    | some e =>
      obtain ⟨w, f⟩ := e
      cases acc with
      | none =>
        simp only
        refine ⟨fun v q h => ?_, fun q w' f' hq hw => ?_⟩
        · cases h
          exact ⟨List.mem_append_right _ List.mem_cons_self, w, f, hT, rfl⟩
        · rcases List.mem_append.1 hq with h1 | h1
          · obtain ⟨v, q', h2, _⟩ := ih.best q w' f' h1 hw
            cases h2
          · rw [List.mem_singleton.1 h1] at hw ⊢
            rw [hT] at hw
            cases hw
            exact ⟨_, _, rfl, fun h => by unfold ltW at h; omega⟩
      | some a =>
        obtain ⟨v, q⟩ := a
        simp only
        split
        · rename_i hlt
          refine ⟨fun v' q' h => ?_, fun q' w' f' hq hw => ?_⟩
          · cases h
            exact ⟨List.mem_append_right _ List.mem_cons_self, w, f, hT, rfl⟩
          · rcases List.mem_append.1 hq with h1 | h1
            · obtain ⟨v2, q2, h2, h3⟩ := ih.best q' w' f' h1 hw
              cases h2
              exact ⟨_, _, rfl, fun h => h3 (ltW_tr h hlt)⟩
            · rw [List.mem_singleton.1 h1] at hw ⊢
              rw [hT] at hw
              cases hw
              exact ⟨_, _, rfl, fun h => by unfold ltW at h; omega⟩
        · rename_i hlt
          refine ⟨fun v' q' h => ?_, fun q' w' f' hq hw => ?_⟩
          · cases h
            obtain ⟨h1, h2⟩ := ih.from_ v q rfl
            exact ⟨List.mem_append_left _ h1, h2⟩
          · rcases List.mem_append.1 hq with h1 | h1
            · exact ih.best q' w' f' h1 hw
            · rw [List.mem_singleton.1 h1] at hw ⊢
              rw [hT] at hw
              cases hw
              exact ⟨_, _, rfl, hlt⟩
theorem bst_ok {F : List Fmt} {l : List Sng} {i : Nat} (hi : i < l.length) : FoldOK F (bst F l) (facesL F l i) (bst F l i) := by
  rw [bst_at hi]
  exact foldE_ok F (bst F l) (facesL F l i)
/-- The plan that follows the first faces. -/
noncomputable def planB (F : List Fmt) (l : List Sng) : Nat → Nat → List (Nat × Nat)
  | 0, _ => []
  | n + 1, i => if i < l.length then match bst F l i with
    | some (_, (k, j)) => (k, j - i) :: planB F l n j
    | none => []
    else []
theorem planB_ok {F : List Fmt} {l : List Sng} : ∀ (n i : Nat) (w : Int × Int) (q : Nat × Nat), l.length ≤ i + n → i ≤ l.length → bst F l i = some (w, q) → PlanOK F l i (planB F l n i) ∧ costP F (planB F l n i) = w.1 ∧ ((planB F l n i).length : Int) = w.2
  | 0, i, w, q, h1, h2, h3 => by
    have e : i = l.length := by omega
    rw [e, bst_end] at h3
    cases h3
    exact ⟨e, rfl, rfl⟩
  | n + 1, i, w, q, h1, h2, h3 => by
    by_cases hi : i < l.length
    · obtain ⟨k, j⟩ := q
      obtain ⟨h4, w', f', h5, h6⟩ := (bst_ok (F := F) hi).from_ w (k, j) h3
      have h7 := mem_faces.1 h4
      simp only at h5 h6 h7
      have h8 := h7.lt
      obtain ⟨i1, i2, i3⟩ := planB_ok n j w' f' (by omega) h7.le h5
      unfold planB
      rw [if_pos hi, h3]
      simp only
      have e : i + (j - i) = j := by omega
      refine ⟨⟨by rw [e]; exact h7, by rw [e]; exact i1⟩, ?_, ?_⟩
      · simp only [costP, i2, h6]
        omega
      · simp only [List.length_cons, h6]
        omega
    · have e : i = l.length := by omega
      rw [e, bst_end] at h3
      cases h3
      unfold planB
      rw [if_neg hi]
      exact ⟨e, rfl, rfl⟩
end Go.Sx.Sd

namespace Go.Sx.Sd
open Go Go.Proofs Go.Sx
set_option maxRecDepth 10000
set_option maxHeartbeats 8000000
/-! ### Plates that nothing writes into any more -/
@[reducible] def KPl : List CK := [.str, .int .i64, .int .i64, .int .i64, .int .i64, .int .i64, .int .i64, .int .i64, .sl KSng]
def plA (f : Fmt) (l : List Sng) : Arr := [[.str f.nm, .int f.outer, .int f.inner, .int f.per, .int f.lead, .int f.gap, .int f.tail, .int f.cost, .sl (sngA l)]]
@[reducible] def plX (f : Fmt) (l : List Sng) : XV := .one (.lel true KPl (plA f l) 0 0)
theorem s43p (f : Fmt) (l : List Sng) (g : Sng) (hf : FmtOK f) (hg : g.ok) : HSpec Tryz.prog 35 [plX f l, g.x] [] (fun r m' => r = .x (I (widF f g)) ∧ m' = []) := by
  obtain ⟨w1, w2⟩ := wid_bd hf.per.1 hg
  have hp := hf.per
  have hg1 := hg.1
  have hg2 := hg.2.1
  have e3 : rI (plA f l) 0 (0 + 0 + (0 + 1 + 1 + 1)) = f.per := rfl
  unfold widF at w2
  refine spec_of pMix (O := []) Tryz.func35 (c := bodyOf Tryz.f35) rfl (by kernel_rfl) (by kernel_rfl) Tryz.ntmps35 (res := [.tmp 4]) (by kernel_rfl) ?_
  repeat' ((conv => whnf); first | rw [e3] | refine Rng.g ?_ | refine Ob.g ?_ | refine Val.d ?_ | fail)
  repeat refine Mm.mk ?_
  conv => whnf
  refine EndVC.mk _ rfl _ _ (⟨rfl, rfl⟩) ?_
  refine ⟨[], rfl, rfl, ?_, ?_⟩ <;> repeat' (first | exact trivial | exact rfl | apply And.intro)
inductive LyRs0 (f : Fmt) (l : List Sng) (O : List Int) (r : AV) (m' : List (Option Blk)) : Prop
  | rule (i : Nat) (hi : i < O.length) (h : ∀ j, j < i → okAt f l O j) (hn : ¬ okAt f l O i) (hr : r = .tup [.one .nils, I (i : Int), I 20]) (hm : m' = [])
  | limit (h : ∀ j, j < O.length → okAt f l O j) (hn : ¬ LayOK f l O) (hr : r = .tup [.one .nils, I (O.length : Int), I 14]) (hm : m' = [])
  | ok (h : LayOK f l O) (hr : r = .tup [.one (.own 0), I (O.length : Int), I 0]) (hm : m' = [some (rowB (bndA f l O O.length))])
theorem s37p (f : Fmt) (l : List Sng) (O : List Int) (hf : FmtOK f) (hg : SngsOK l) (hO : InR O l.length) (hl : O.length ≤ 100) : HSpec Tryz.prog 58 [plX f l, .one (.lst true [.int .i64] (i64s O))] [] (LyRs0 f l O) := by
  have lo := i64s_len O
  have lg := sngA_len l
  have hbd := atF_bd hf hg hO
  have hf1 := hf.outer
  have hf2 := hf.lead
  have hf3 := hf.gap
  have hf4 := hf.tail
  have hf5 := hf.inner
  have p1 : rI (plA f l) 0 (0 + 0 + (0 + 1)) = f.outer := rfl
  have p2 : rI (plA f l) 0 (0 + 0 + (0 + 1 + 1)) = f.inner := rfl
  have p4 : rI (plA f l) 0 (0 + 0 + (0 + 1 + 1 + 1 + 1)) = f.lead := rfl
  have p5 : rI (plA f l) 0 (0 + 0 + (0 + 1 + 1 + 1 + 1 + 1)) = f.gap := rfl
  have p6 : rI (plA f l) 0 (0 + 0 + (0 + 1 + 1 + 1 + 1 + 1 + 1)) = f.tail := rfl
  have p8 : rA (plA f l) 0 (0 + (0 + 1 + 1 + 1 + 1 + 1 + 1 + 1 + 1)) = sngA l := rfl
  refine spec_of pMix (O := []) Tryz.func58 (c := bodyOf Tryz.f58) rfl (by kernel_rfl) (by kernel_rfl) Tryz.ntmps58 (res := [.tmp 4, .tmp 5, .tmp 6]) (by kernel_rfl) ?_
  repeat' ((conv => whnf); first | rw [p1] | rw [p4] | refine Rng.g ?_ | fail)
  refine LoopVC.mk (fun n st => ∃ (i : Nat), i ≤ O.length ∧ n = O.length - i ∧ (∀ j, j < i → okAt f l O j) ∧ st = ⟨0, envA 89 [(0, .x (plX f l)), (1, .x (.one (.lst true [.int .i64] (i64s O)))), (7, .x (.one (.own 0))), (8, .int .i64 (atF f l O i)), (23, .x (.one (.lst true [.int .i64] (i64s O)))), (24, .int .i64 (O.length : Int)), (25, .int .i64 (i : Int))], [some (rowB (bndA f l O i))]⟩) _ _ ⟨0, Nat.zero_le _, rfl, fun j hj => absurd hj (Nat.not_lt_zero j), rfl⟩ ?_ ?_
  · refine ⟨[none], rfl, rfl, ?_, ?_⟩ <;> repeat' (first | exact trivial | exact rfl | apply And.intro)
    exact congrArg Int.ofNat lo
  rintro n _ ⟨i, hi, hn, hj, rfl⟩
  have lb := bndA_len f l O i
  have gi : rI (i64s O) (i : Int).toNat 0 = O.getD i 0 := by rw [Int.toNat_natCast]; exact i64s_get O i
  have hbi := hbd i hi
  by_cases hi' : i < O.length
  · have hr := hO i hi'
    obtain ⟨q, hq⟩ : ∃ q, O.getD i 0 = q := ⟨_, rfl⟩
    have c0 : rI (sngA l) q.toNat 0 = (l.getD q.toNat g0).long := sngA_0 l _
    have c1 : rI (sngA l) q.toNat (0 + 1) = (l.getD q.toNat g0).pitch := sngA_1 l _
    have c2 : rI (sngA l) q.toNat (0 + 1 + 1) = (l.getD q.toNat g0).least := sngA_2 l _
    have c3 : rI (sngA l) q.toNat (0 + (0 + 1 + 1)) = (l.getD q.toNat g0).least := sngA_2 l _
    rw [hq] at gi hr
    have hgk := hg.each q.toNat (by omega)
    have hw := (wid_bd hf.per.1 hgk).2
    have k1 := s43p f l (l.getD q.toNat g0) hf hgk
    have ea : atF f l O (i + 1) = atF f l O i - (if 0 < i then f.gap else 0) - widF f (l.getD (O.getD i 0).toNat g0) := rfl
    rw [hq] at ea
    have eo : okAt f l O i ↔ (l.getD q.toNat g0).least ≤ atF f l O (i + 1) := by unfold okAt; rw [hq]
    by_cases h0 : 0 < i
    · have e1 : (if 0 < i then f.gap else 0) = f.gap := if_pos h0
      have e2 : (atF f l O i - f.gap) - widF f (l.getD q.toNat g0) = atF f l O (i + 1) := by rw [ea, e1]
      have hbj := hbd (i + 1) hi'
      have e3 : bndR f l O i = [Cell.int q, Cell.int (atF f l O i - f.gap), Cell.int (atF f l O (i + 1))] := by unfold bndR; rw [hq, e1]
      repeat' ((conv => whnf); first | rw [p5] | rw [p8] | rw [gi] | rw [c0] | rw [c1] | rw [c2] | refine Rng.g ?_ | refine Ob.g ?_ | refine JoinVC.on ?_ | (refine Br.mk (fun h => ?_) (fun h => ?_) <;> first | (exfalso; omega; done) | (exfalso; simp at h; done) | skip))
      conv => whnf
      refine CallVC.mk [] _ _ _ rfl rfl rfl (k1) (fun r m' h' => ?_)
      obtain ⟨rfl, rfl⟩ := h'
      conv => whnf
      repeat' ((conv => whnf); first | rw [p8] | rw [e2] | rw [c3] | refine Rng.g ?_ | refine Ob.g ?_ | (refine Br.mk (fun h => ?_) (fun h => ?_) <;> first | (exfalso; omega; done) | (exfalso; simp at h; done) | skip))
      · have hno : ¬ okAt f l O i := fun hk => by have := eo.1 hk; omega
        repeat refine Mm.mk ?_
        conv => whnf
        refine EndVC.mk _ rfl _ _ (.rule i hi' hj hno rfl rfl) ?_
        refine ⟨[], rfl, rfl, ?_, ?_⟩ <;> repeat' (first | exact trivial | exact rfl | apply And.intro)
      · repeat refine Mm.mk ?_
        refine Ob.mk (by rw [eb116]; simp only [List.length_cons, List.length_nil]; omega) ?_
        repeat' ((conv => whnf); first | refine Rng.g ?_ | fail)
        refine Back.mk (O.length - (i + 1)) _ (by omega) ⟨i + 1, by omega, rfl, fun j hj' => ?_, rfl⟩ ?_
        · rcases Nat.lt_succ_iff_lt_or_eq.1 hj' with h' | rfl
          · exact hj j h'
          · exact eo.2 (by omega)
        · rw [bndA_succ, e3]
          refine ⟨[some 3], rfl, rfl, ?_, ?_⟩ <;> repeat' (first | exact trivial | exact rfl | apply And.intro)
    · have e1 : (if 0 < i then f.gap else 0) = 0 := if_neg h0
      have e2 : (atF f l O i) - widF f (l.getD q.toNat g0) = atF f l O (i + 1) := by rw [ea, e1]; omega
      have hbj := hbd (i + 1) hi'
      have e3 : bndR f l O i = [Cell.int q, Cell.int (atF f l O i), Cell.int (atF f l O (i + 1))] := by unfold bndR; rw [hq, e1]; simp only [Int.sub_zero]
      repeat' ((conv => whnf); first | rw [p8] | rw [gi] | rw [c0] | rw [c1] | rw [c2] | refine Ob.g ?_ | refine JoinVC.on ?_ | (refine Br.mk (fun h => ?_) (fun h => ?_) <;> first | (exfalso; omega; done) | (exfalso; simp at h; done) | skip))
      conv => whnf
      refine CallVC.mk [] _ _ _ rfl rfl rfl (k1) (fun r m' h' => ?_)
      obtain ⟨rfl, rfl⟩ := h'
      conv => whnf
      repeat' ((conv => whnf); first | rw [p8] | rw [e2] | rw [c3] | refine Rng.g ?_ | refine Ob.g ?_ | (refine Br.mk (fun h => ?_) (fun h => ?_) <;> first | (exfalso; omega; done) | (exfalso; simp at h; done) | skip))
      · have hno : ¬ okAt f l O i := fun hk => by have := eo.1 hk; omega
        repeat refine Mm.mk ?_
        conv => whnf
        refine EndVC.mk _ rfl _ _ (.rule i hi' hj hno rfl rfl) ?_
        refine ⟨[], rfl, rfl, ?_, ?_⟩ <;> repeat' (first | exact trivial | exact rfl | apply And.intro)
      · repeat refine Mm.mk ?_
        refine Ob.mk (by rw [eb116]; simp only [List.length_cons, List.length_nil]; omega) ?_
        repeat' ((conv => whnf); first | refine Rng.g ?_ | fail)
        refine Back.mk (O.length - (i + 1)) _ (by omega) ⟨i + 1, by omega, rfl, fun j hj' => ?_, rfl⟩ ?_
        · rcases Nat.lt_succ_iff_lt_or_eq.1 hj' with h' | rfl
          · exact hj j h'
          · exact eo.2 (by omega)
        · rw [bndA_succ, e3]
          refine ⟨[some 3], rfl, rfl, ?_, ?_⟩ <;> repeat' (first | exact trivial | exact rfl | apply And.intro)
  · have ei : i = O.length := by omega
    subst ei
    repeat' ((conv => whnf); first | rw [p2] | rw [p6] | rw [lo] | refine Rng.g ?_ | (refine Br.mk (fun h => ?_) (fun h => ?_) <;> first | (exfalso; omega; done) | (exfalso; simp at h; done) | skip))
    · repeat refine Mm.mk ?_
      conv => whnf
      refine EndVC.mk _ rfl _ _ (.limit hj (fun hL => (by have := hL.2; omega)) rfl rfl) ?_
      refine ⟨[], rfl, rfl, ?_, ?_⟩ <;> repeat' (first | exact trivial | exact rfl | apply And.intro)
    · repeat refine Mm.mk ?_
      conv => whnf
      refine EndVC.mk _ rfl _ _ (.ok ⟨hj, by omega⟩ rfl rfl) ?_
      refine ⟨[some 0], rfl, rfl, ?_, ?_⟩ <;> repeat' (first | exact trivial | exact rfl | apply And.intro)
open Classical in
theorem s47p (f : Fmt) (l : List Sng) (O : List Int) (hf : FmtOK f) (hg : SngsOK l) (hO : InR O l.length) (hl : O.length ≤ 100) : HSpec Tryz.prog 34 [plX f l, .one (.lst true [.int .i64] (i64s O))] [] (fun r m' => r = xP (LayOK f l O) ∧ m' = []) := by
  refine spec_of pMix (O := []) Tryz.func34 (c := bodyOf Tryz.f34) rfl (by kernel_rfl) (by kernel_rfl) Tryz.ntmps34 (res := [.tmp 4]) (by kernel_rfl) ?_
  repeat' ((conv => whnf); first | refine Rng.g ?_ | fail)
  conv => whnf
  refine CallVC.mk [] _ _ _ rfl rfl rfl (s37p f l O hf hg hO hl) (fun r m' h' => ?_)
  cases h' with
  | rule i hi h hn hr hm =>
    subst hr hm
    repeat' ((conv => whnf); first | refine Rng.g ?_ | fail)
    repeat refine Mm.mk ?_
    refine EndVC.mk _ rfl _ _ ⟨rfl, rfl⟩ ?_
    refine ⟨[], rfl, rfl, ?_, ?_⟩ <;> repeat' (first | exact trivial | apply And.intro)
    show _ ↔ _
    exact ⟨fun h1 => absurd h1 (by decide), fun h1 => absurd (h1.1 i hi) hn⟩
  | limit h hn hr hm =>
    subst hr hm
    repeat' ((conv => whnf); first | refine Rng.g ?_ | fail)
    repeat refine Mm.mk ?_
    refine EndVC.mk _ rfl _ _ ⟨rfl, rfl⟩ ?_
    refine ⟨[], rfl, rfl, ?_, ?_⟩ <;> repeat' (first | exact trivial | apply And.intro)
    show _ ↔ _
    exact ⟨fun h1 => absurd h1 (by decide), fun h1 => absurd h1 hn⟩
  | ok h hr hm =>
    subst hr hm
    repeat' ((conv => whnf); first | refine Rng.g ?_ | fail)
    repeat refine Mm.mk ?_
    refine EndVC.mk _ rfl _ _ ⟨rfl, rfl⟩ ?_
    refine ⟨[], rfl, rfl, ?_, ?_⟩ <;> repeat' (first | exact trivial | apply And.intro)
    show _ ↔ _
    exact ⟨fun _ => h, fun _ => rfl⟩
theorem s54g (i j : Nat) (hj : j ≤ 100000) : HSpec Tryz.prog 57 [I (i : Int), I (j : Int)] [] (fun r m' => r = .x (.one (.own 0)) ∧ m' = [some (rowOd (seqL i (j - i)))]) := by
  refine spec_of pMix (O := []) Tryz.func57 (c := bodyOf Tryz.f57) rfl (by kernel_rfl) (by kernel_rfl) Tryz.ntmps57 (res := [.tmp 4]) (by kernel_rfl) ?_
  repeat' ((conv => whnf); first | refine Rng.g ?_ | fail)
  refine LoopVC.mk (fun m st => ∃ (k : Nat), (k ≤ j - i) ∧ m = j - i - k ∧ st = ⟨0, envA 16 [(0, .int .i64 ((i + k : Nat) : Int)), (1, .x (I (j : Int))), (5, .x (.one (.own 0)))], [some (rowOd (seqL i k))]⟩) _ _ ⟨0, Nat.zero_le _, rfl, rfl⟩ ?_ ?_
  · refine ⟨[none], rfl, rfl, ?_, ?_⟩ <;> repeat' (first | exact trivial | exact rfl | apply And.intro)
  rintro m _ ⟨k, hk, hm, rfl⟩
  have ls : (i64s (seqL i k)).length = k := by rw [i64s_len, seqL_len]
  by_cases hk' : k < j - i
  · repeat' ((conv => whnf); first | (refine Br.mk (fun h => ?_) (fun h => ?_) <;> first | (exfalso; omega; done) | (exfalso; simp at h; done) | skip))
    repeat refine Mm.mk ?_
    refine Ob.mk (by rw [eb3]; simp only [List.length_cons, List.length_nil]; omega) ?_
    repeat' ((conv => whnf); first | refine Rng.g ?_ | fail)
    refine Back.mk (j - i - (k + 1)) _ (by omega) ⟨k + 1, by omega, rfl, rfl⟩ ?_
    rw [seqL_succ]
    refine ⟨[some 2], rfl, rfl, ?_, ?_⟩ <;> repeat' (first | exact trivial | exact rfl | apply And.intro)
    rw [i64s_snoc]
  · have ek : k = j - i := by omega
    subst ek
    repeat' ((conv => whnf); first | (refine Br.mk (fun h => ?_) (fun h => ?_) <;> first | (exfalso; omega; done) | (exfalso; simp at h; done) | skip))
    repeat refine Mm.mk ?_
    refine EndVC.mk _ rfl _ _ ⟨rfl, rfl⟩ ?_
    refine ⟨[some 0], rfl, rfl, ?_, ?_⟩ <;> repeat' (first | exact trivial | exact rfl | apply And.intro)
end Go.Sx.Sd

namespace Go.Sx.Sd
open Go Go.Proofs Go.Sx
set_option maxRecDepth 10000
set_option maxHeartbeats 8000000
/-! ### Formats and their plates -/
@[reducible] def KFm : List CK := [.str, .int .i64, .int .i64, .int .i64, .int .i64, .int .i64, .int .i64, .int .i64]
def fmtA (F : List Fmt) : Arr := F.map fun f => [.str f.nm, .int f.outer, .int f.inner, .int f.per, .int f.lead, .int f.gap, .int f.tail, .int f.cost]
theorem fmtA_len (F : List Fmt) : (fmtA F).length = F.length := by simp [fmtA]
@[reducible] def lFmt (F : List Fmt) : XV := .one (.lst true KFm (fmtA F))
theorem fmt_at (F : List Fmt) (i : Nat) (h : i < F.length) : rS (fmtA F) i 0 = (F.getD i f0).nm ∧ rI (fmtA F) i (0 + 1) = (F.getD i f0).outer ∧ rI (fmtA F) i (0 + 1 + 1) = (F.getD i f0).inner ∧ rI (fmtA F) i (0 + 1 + 1 + 1) = (F.getD i f0).per ∧ rI (fmtA F) i (0 + 1 + 1 + 1 + 1) = (F.getD i f0).lead ∧ rI (fmtA F) i (0 + 1 + 1 + 1 + 1 + 1) = (F.getD i f0).gap ∧ rI (fmtA F) i (0 + 1 + 1 + 1 + 1 + 1 + 1) = (F.getD i f0).tail ∧ rI (fmtA F) i (0 + 1 + 1 + 1 + 1 + 1 + 1 + 1) = (F.getD i f0).cost := by
  have h1 : (fmtA F)[i]? = some [.str (F.getD i f0).nm, .int (F.getD i f0).outer, .int (F.getD i f0).inner, .int (F.getD i f0).per, .int (F.getD i f0).lead, .int (F.getD i f0).gap, .int (F.getD i f0).tail, .int (F.getD i f0).cost] := by simp [fmtA, List.getD_eq_getElem?_getD, h]
  simp [rS, rI, cellAt, h1, Cell.toInt, Cell.toStr]
def plsA (F : List Fmt) (l : List Sng) : Arr := F.map fun f => [.sl (plA f l)]
theorem plsA_len (F : List Fmt) (l : List Sng) : (plsA F l).length = F.length := by simp [plsA]
theorem plsA_snoc (F : List Fmt) (l : List Sng) (f : Fmt) : plsA (F ++ [f]) l = plsA F l ++ [[.sl (plA f l)]] := by simp [plsA]
theorem plsA_at (F : List Fmt) (l : List Sng) (i : Nat) (h : i < F.length) : rA (plsA F l) i 0 = plA (F.getD i f0) l := by
  have h1 : (plsA F l)[i]? = some [.sl (plA (F.getD i f0) l)] := by simp [plsA, List.getD_eq_getElem?_getD, h]
  simp [rA, cellAt, h1, Cell.toArr]
@[reducible] def rowPl (F : List Fmt) (l : List Sng) : Blk := .row 91 true [.pt KPl] (plsA F l)
theorem eb246 : Tryz.t91.bytes = 8 := by kernel_rfl
@[reducible] def bAlb (F : List Fmt) (l : List Sng) (n : Int) : Blk := .box 71 [.lst true [.pt KPl] (plsA F l), .int .i64 n]
open Classical in
/-- The error of formats and tracks. -/
noncomputable def fmsE (F : List Fmt) (l : List Sng) : Int := if F.length = 0 ∨ 8 < F.length then 6 else if ∀ i, i < F.length → FmtOK (F.getD i f0) then trkE l else 2
theorem fmsE_many {F : List Fmt} {l : List Sng} (h : F.length = 0 ∨ 8 < F.length) : fmsE F l = 6 := if_pos h
theorem fmsE_bad {F : List Fmt} {l : List Sng} (h : ¬ (F.length = 0 ∨ 8 < F.length)) {i : Nat} (hi : i < F.length) (hn : ¬ FmtOK (F.getD i f0)) : fmsE F l = 2 := (if_neg h).trans (if_neg fun h => hn (h i hi))
theorem fmsE_trk {F : List Fmt} {l : List Sng} (h : ¬ (F.length = 0 ∨ 8 < F.length)) (hn : ∀ i, i < F.length → FmtOK (F.getD i f0)) : fmsE F l = trkE l := (if_neg h).trans (if_pos hn)
theorem s49 (F : List Fmt) (l : List Sng) (hI : ∀ i, (F.getD i f0).nm.size ≤ 9223372036854775807) : HSpec Tryz.prog 20 [lFmt F, lSng l] [] (fun r m' => (fmsE F l ≠ 0 ∧ r = .tup [.one .nilp, I (fmsE F l)] ∧ m' = []) ∨ (fmsE F l ≠ 0 ∧ r = .tup [.one (.ptr 0 0), I (fmsE F l)] ∧ m' = [some (bAlb F l (l.length : Int))]) ∨ (AlbOK F l ∧ r = .tup [.one (.ptr 0 0), I 0] ∧ m' = [some (bAlb F l (l.length : Int))])) := by
  have lF := fmtA_len F
  have ll := sngA_len l
  by_cases h8 : F.length = 0 ∨ 8 < F.length
  · refine spec_of pMix (O := [(10, ([], [⟨0, [], []⟩, ⟨1, [], []⟩, ⟨2, [], []⟩, ⟨3, [], []⟩, ⟨4, [], []⟩, ⟨5, [], []⟩, ⟨6, [], []⟩, ⟨7, [], []⟩, ⟨8, [0, 1, 2, 3, 4], [9]⟩, ⟨9, [], []⟩, ⟨10, [0], []⟩, ⟨11, [], []⟩, ⟨12, [], []⟩, ⟨13, [], []⟩]))]) Tryz.func20 (c := bodyOf Tryz.f20) rfl (by kernel_rfl) (by kernel_rfl) Tryz.ntmps20 (res := [.tmp 4, .tmp 5]) (by kernel_rfl) ?_
    repeat' ((conv => whnf); first | (refine Br.mk (fun h => ?_) (fun h => ?_) <;> first | (exfalso; omega; done) | (exfalso; simp at h; done) | skip))
    all_goals
      repeat refine Mm.mk ?_
      conv => whnf
      refine EndVC.mk _ rfl _ _ (.inl ⟨by rw [fmsE_many h8]; decide, rfl, rfl⟩) ?_
      refine ⟨[], rfl, rfl, ?_, ?_⟩ <;> repeat' (first | exact trivial | exact rfl | apply And.intro)
      exact (fmsE_many h8).symm
  refine spec_of pMix (O := [(10, ([], [⟨0, [], []⟩, ⟨1, [], []⟩, ⟨2, [], []⟩, ⟨3, [], []⟩, ⟨4, [], []⟩, ⟨5, [], []⟩, ⟨6, [], []⟩, ⟨7, [], []⟩, ⟨8, [0, 1, 2, 3, 4], [9]⟩, ⟨9, [], []⟩, ⟨10, [0], []⟩, ⟨11, [], []⟩, ⟨12, [], []⟩, ⟨13, [], []⟩]))]) Tryz.func20 (c := bodyOf Tryz.f20) rfl (by kernel_rfl) (by kernel_rfl) Tryz.ntmps20 (res := [.tmp 4, .tmp 5]) (by kernel_rfl) ?_
  repeat' ((conv => whnf); first | (refine Br.mk (fun h => ?_) (fun h => ?_) <;> first | (exfalso; omega; done) | (exfalso; simp at h; done) | skip))
  refine LoopVC.mk (fun n st => ∃ (i : Nat), i ≤ F.length ∧ n = F.length - i ∧ (∀ j, j < i → FmtOK (F.getD j f0)) ∧ st = ⟨0, envA 50 [(1, .x (lSng l)), (6, .x (.one (.ptr 0 0))), (22, .x (lFmt F)), (23, .int .i64 (F.length : Int)), (24, .int .i64 (i : Int))], [some (.box 71 [.own 1, .int .i64 (l.length : Int)]), some (rowPl (F.take i) l)]⟩) _ _ ⟨0, Nat.zero_le _, rfl, fun j hj => absurd hj (Nat.not_lt_zero j), rfl⟩ ?_ ?_
  · refine ⟨[some 0, none], rfl, rfl, ?_, ?_⟩ <;> repeat' (first | exact trivial | exact rfl | apply And.intro)
    all_goals first | exact congrArg Int.ofNat lF | exact congrArg Int.ofNat ll
  rintro n _ ⟨i, hi, hn, hj, rfl⟩
  have lr : (plsA (F.take i) l).length = i := by rw [plsA_len, List.length_take]; omega
  by_cases hi' : i < F.length
  · obtain ⟨g0', g1, g2, g3, g4, g5, g6, g7⟩ := fmt_at F i hi'
    have et : (i : Int).toNat = i := Int.toNat_natCast i
    have u1 := plsA_snoc (F.take i) l (F.getD i f0)
    rw [← take_snoc F i f0 hi'] at u1
    have hf := hI i
    obtain ⟨f, hfe⟩ : ∃ f, F.getD i f0 = f := ⟨_, rfl⟩
    rw [hfe] at g0' g1 g2 g3 g4 g5 g6 g7 u1 hf
    repeat' ((conv => whnf); first | rw [et] | rw [g0'] | rw [g1] | rw [g2] | rw [g3] | rw [g4] | rw [g5] | rw [g6] | rw [g7] | refine Ob.g ?_ | (refine Br.mk (fun h => ?_) (fun h => ?_) <;> first | (exfalso; omega; done) | (exfalso; simp at h; done) | skip))
    have k0 := s67 f hf
    by_cases h0 : FmtOK f
    rotate_left
    · rw [fmtE_no h0] at k0
      have he : fmsE F l = 2 := fmsE_bad h8 hi' (by rw [hfe]; exact h0)
      repeat' ((conv => whnf); first | refine CallVC.pure rfl (k0) ?_ | (refine Br.mk (fun h => ?_) (fun h => ?_) <;> first | (exfalso; omega; done) | (exfalso; simp at h; done) | skip))
      repeat refine Mm.mk ?_
      conv => whnf
      refine EndVC.mk _ rfl _ _ (.inl ⟨by rw [he]; decide, rfl, rfl⟩) ?_
      refine ⟨[], rfl, rfl, ?_, ?_⟩ <;> repeat' (first | exact trivial | exact rfl | apply And.intro)
      exact he.symm
    have hfo := h0
    rw [fmtE_ok h0] at k0
    unfold plA at u1
    repeat' ((conv => whnf); first | refine CallVC.pure rfl (k0) ?_ | (refine Br.mk (fun h => ?_) (fun h => ?_) <;> first | (exfalso; omega; done) | (exfalso; simp at h; done) | skip))
    repeat refine Mm.mk ?_
    refine Ob.mk (by simp only [eb246, lr, List.length_cons, List.length_nil]; omega) ?_
    repeat' ((conv => whnf); first | rw [← u1] | refine Rng.g ?_ | fail)
    refine Back.mk (F.length - (i + 1)) _ (by omega) ⟨i + 1, by omega, rfl, fun j hj' => ?_, rfl⟩ ?_
    · rcases Nat.lt_succ_iff_lt_or_eq.1 hj' with h' | rfl
      · exact hj j h'
      · rw [hfe]; exact hfo
    · refine ⟨[some 0, some 5], rfl, rfl, ?_, ?_⟩ <;> repeat' (first | exact trivial | exact rfl | apply And.intro)
  · have ei : i = F.length := by omega
    subst ei
    rw [show F.take F.length = F from List.take_length]
    repeat' ((conv => whnf); first | (refine Br.mk (fun h => ?_) (fun h => ?_) <;> first | (exfalso; omega; done) | (exfalso; simp at h; done) | skip))
    have k1 := s68 l
    have he := fmsE_trk (l := l) h8 hj
    by_cases h0 : SngsOK l
    · rw [trkE_ok h0] at k1
      repeat' ((conv => whnf); first | refine CallVC.pure rfl (k1) ?_)
      repeat refine Mm.mk ?_
      conv => whnf
      refine EndVC.mk _ rfl _ _ (.inr (.inr ⟨⟨by omega, hj, h0⟩, rfl, rfl⟩)) ?_
      refine ⟨[some 0], rfl, rfl, ?_, ?_⟩ <;> repeat' (first | exact trivial | exact rfl | apply And.intro)
    · obtain ⟨e, hee⟩ : ∃ e, trkE l = e := ⟨_, rfl⟩
      have hn : e ≠ 0 := fun h => h0 (trkE_0 (hee.trans h))
      rw [hee] at k1 he
      repeat' ((conv => whnf); first | refine CallVC.pure rfl (k1) ?_)
      repeat refine Mm.mk ?_
      conv => whnf
      refine EndVC.mk _ rfl _ _ (.inr (.inl ⟨by rw [he]; exact hn, rfl, rfl⟩)) ?_
      refine ⟨[some 0], rfl, rfl, ?_, ?_⟩ <;> repeat' (first | exact trivial | exact rfl | apply And.intro)
      exact he.symm
/-! ### Parts of code -/
def cF : Code → Code
  | .seq a _ => a
  | c => c
def cS : Code → Code
  | .seq _ b => b
  | c => c
def cB : Code → Code
  | .block _ c => c
  | c => c
def cAs : Code → Code
  | .rangeFunc _ _ x _ => x
  | c => c
def cBo : Code → Code
  | .rangeFunc _ _ _ b => b
  | c => c
def cL : Code → Code
  | .loop c => c
  | c => c
end Go.Sx.Sd

namespace Go.Sx.Sd
open Go Go.Proofs Go.Sx
set_option maxRecDepth 10000
set_option maxHeartbeats 4000000
/-! ### Best prices, forwards -/
def BestU (P : Int → Prop) (v : Int) : Prop := (v = -1 ∧ ∀ c, ¬ P c) ∨ (0 ≤ v ∧ P v ∧ ∀ c, P c → v ≤ c)
theorem BestU.congr {P Q : Int → Prop} {v : Int} (h : BestU P v) (e : ∀ c, P c ↔ Q c) : BestU Q v := by
  rcases h with ⟨h1, h2⟩ | ⟨h1, h2, h3⟩
  · exact .inl ⟨h1, fun c hc => h2 c ((e c).2 hc)⟩
  · exact .inr ⟨h1, (e v).1 h2, fun c hc => h3 c ((e c).2 hc)⟩
end Go.Sx.Sd

namespace Go.Sx.Sd
open Go Go.Proofs Go.Sx
set_option maxRecDepth 10000
set_option maxHeartbeats 8000000
/-! ### slices.Repeat -/
end Go.Sx.Sd

namespace Go.Sx.Sd
open Go Go.Proofs Go.Sx
set_option maxRecDepth 10000
set_option maxHeartbeats 8000000
theorem e69 : EntersF Tryz.prog 69 := enters_of Tryz.func69 (c := bodyOf Tryz.f69) (by kernel_rfl) rfl
theorem s53 (F : List Fmt) (l : List Sng) (n : Int) (i : Int) : HSpec Tryz.prog 43 [.one (.ptr 0 0), I i] [bAlb F l n] (fun r m' => r = .x (.one (.fn 69 [(1, 0), (2, 0)])) ∧ m' = [some (bAlb F l n), some (.box 60 [.ptr 0 0]), some (.box 3 [.int .i64 i])]) := by
  refine spec_of pMix (O := []) Tryz.func43 (c := bodyOf Tryz.f43) rfl (by kernel_rfl) (by kernel_rfl) Tryz.ntmps43 (res := [.tmp 4]) (by kernel_rfl) ?_
  repeat' ((conv => whnf); first | refine Rng.g ?_ | fail)
  repeat refine Mm.mk ?_
  conv => whnf
  refine EndVC.mk _ rfl _ _ (⟨rfl, rfl⟩) ?_
  refine ⟨[some 0, some 1, some 2], rfl, rfl, ?_, ?_⟩ <;> repeat' (first | exact trivial | exact rfl | apply And.intro)
end Go.Sx.Sd

namespace Go.Sx.Sd
open Go Go.Proofs Go.Sx
set_option maxRecDepth 10000
set_option maxHeartbeats 16000000
/-! ### The worth of a plan -/
structure Wth where
  c : Int
  n : Int
@[reducible] def Wth.x (w : Wth) : XV := .agg [.int .i64 w.c, .int .i64 w.n]
/-- What is known of the variable 'none'. -/
@[reducible] def gNone : Blk := .gbox 0 [.int .i64, .int .i64] [.int (-1), .int 0]
def Wth.none (w : Wth) : Prop := w.c = -1 ∧ w.n = 0
instance (w : Wth) : Decidable w.none := by unfold Wth.none; exact inferInstance
/-- Whether a worth is better than another one. -/
def lessW (w v : Wth) : Prop := ((v.none ∨ w.none) ∧ ¬ w.none) ∨ (¬ (v.none ∨ w.none) ∧ (w.c < v.c ∨ w.c = v.c ∧ w.n < v.n))
instance (w v : Wth) : Decidable (lessW w v) := by unfold lessW; exact inferInstance
theorem s64w (w v : Wth) : HSpec Tryz.prog 44 [w.x, v.x] [gNone] (fun r m' => r = xP (lessW w v) ∧ m' = [some gNone]) := by
  have e0 : rI [[Cell.int (-1), Cell.int 0]] 0 0 = -1 := rfl
  have e1 : rI [[Cell.int (-1), Cell.int 0]] 0 (0 + 1) = 0 := rfl
  have hw : w.none ↔ (w.c = -1 ∧ w.n = 0) := Iff.rfl
  have hv : v.none ↔ (v.c = -1 ∧ v.n = 0) := Iff.rfl
  unfold lessW
  refine spec_of pMix (O := []) Tryz.func44 (c := bodyOf Tryz.f44) rfl (by kernel_rfl) (by kernel_rfl) Tryz.ntmps44 (res := [.tmp 4]) (by kernel_rfl) ?_
  repeat' ((conv => whnf); first | rw [e0] | rw [e1] | refine Ob.g ?_ | (refine Br.mk (fun h => ?_) (fun h => ?_) <;> first | (exfalso; omega; done) | (exfalso; simp at h; done) | skip))
  all_goals
    conv => whnf
    refine EndVC.mk _ rfl _ _ ⟨rfl, rfl⟩ ?_
    refine ⟨[some 0], rfl, rfl, ?_, ?_⟩ <;> repeat' (first | exact trivial | exact rfl | apply And.intro)
  · have a : v.c = -1 ∧ v.n = 0 ∧ True := by assumption
    simp only [and_true] at a
    show ¬ (w.c = -1 ∧ w.n = 0 ∧ True) ↔ _
    simp only [Wth.none, and_true]
    omega
  · have a : w.c = -1 ∧ w.n = 0 ∧ True := by assumption
    simp only [and_true] at a
    show ¬ (w.c = -1 ∧ w.n = 0 ∧ True) ↔ _
    simp only [Wth.none, and_true]
    omega
  all_goals
    have a : ¬ (v.c = -1 ∧ v.n = 0 ∧ True) := by assumption
    have b : ¬ (w.c = -1 ∧ w.n = 0 ∧ True) := by assumption
    simp only [and_true] at a b
  · show (_ ∨ _)
    simp only [Wth.none]
    omega
  · show (w.n < v.n) ↔ _
    simp only [Wth.none]
    omega
  · show ¬ (_ ∨ _)
    simp only [Wth.none]
    omega
/-! ### Arrays of pairs -/
def pcs (W : List Wth) : List SV := W.flatMap fun w => [.int .i64 w.c, .int .i64 w.n]
@[reducible] def bWs (W : List Wth) : Blk := .box 65 (pcs W)
@[reducible] def bFs (W : List Wth) : Blk := .box 66 (pcs W)
def w0 : Wth := ⟨0, 0⟩
theorem pcs_set : ∀ (W : List Wth) (k : Nat) (a b : Int), ((pcs W).set (k * 2) (SV.int .i64 a)).set (k * 2 + 1) (SV.int .i64 b) = pcs (W.set k ⟨a, b⟩)
  | [], k, a, b => by simp [pcs]
  | w :: W, 0, a, b => by simp [pcs]
  | w :: W, k + 1, a, b => by
    have h := pcs_set W k a b
    have e1 : (k + 1) * 2 = k * 2 + 1 + 1 := by omega
    rw [e1]
    simp only [pcs, List.flatMap_cons, List.cons_append, List.nil_append, List.set_cons_succ] at h ⊢
    rw [h]
theorem pcs_at : ∀ (W : List Wth) (k : Nat), k < W.length → ((pcs W).drop (k * 2)).take 2 = [SV.int .i64 (W.getD k w0).c, SV.int .i64 (W.getD k w0).n]
  | [], k, h => absurd h (Nat.not_lt_zero k)
  | w :: W, 0, _ => by simp [pcs]
  | w :: W, k + 1, h => by
    have h1 := pcs_at W k (by simpa using h)
    have e1 : (k + 1) * 2 = k * 2 + 1 + 1 := by omega
    rw [e1]
    simpa [pcs] using h1
theorem pcs_len (W : List Wth) : (pcs W).length = W.length * 2 := by
  induction W with
  | nil => rfl
  | cons w W ih => simp only [pcs, List.flatMap_cons, List.length_append, List.length_cons, List.length_nil] at ih ⊢; omega
/-- A pair is written. -/
theorem pw_set (W : List Wth) (k : Nat) (a b : Int) (K : List SV → Prop) : setsL (pcs W) (0 + k * (0 + 1 + 1)) (xvCells (.agg [.int .i64 a, .int .i64 b])) K = K (pcs (W.set k ⟨a, b⟩)) := by
  rw [show xvCells (.agg [.int .i64 a, .int .i64 b]) = [SV.int .i64 a, SV.int .i64 b] from rfl, setsL_eq]
  rw [← pcs_set]
  simp [setAll]
theorem pw_ble (W : List Wth) (k n : Nat) (hn : n ≤ 2) (hk : k < W.length) : (0 + k * (0 + 1 + 1) + n).ble (lenL (pcs W)) = true := by
  rw [lenL_eq, pcs_len]
  exact Nat.ble_eq_true_of_le (by omega)
theorem pw_get (W : List Wth) (k : Nat) (hk : k < W.length) : takeL (dropL (pcs W) (0 + k * (0 + 1 + 1))) 2 = [SV.int .i64 (W.getD k w0).c, SV.int .i64 (W.getD k w0).n] := by
  rw [takeL_eq, dropL_eq, ← pcs_at W k hk]
  simp
theorem pcs_le (k : Nat) (mm : List (Option Blk)) (r : List (Option Nat)) : ∀ W : List Wth, leSs k mm r (pcs W) (pcs W)
  | [] => trivial
  | _ :: W => ⟨⟨rfl, rfl⟩, ⟨rfl, rfl⟩, pcs_le k mm r W⟩
theorem pcs_all (W : List Wth) (n : Nat) (hn : n = W.length * 2) : takeL (dropL (pcs W) (0 + 0)) n = pcs W := by
  rw [takeL_eq, dropL_eq, show (0 + 0 : Nat) = 0 from rfl, List.drop_zero]
  exact List.take_of_length_le (by rw [pcs_len]; omega)
theorem setAll_full : ∀ (vs l : List SV) (n : Nat), l.length = n + vs.length → setAll l n vs = l.take n ++ vs
  | [], l, n, h => by
    simp only [List.length_nil, Nat.add_zero] at h
    rw [List.append_nil, List.take_of_length_le (by omega)]
    rfl
  | v :: vs, l, n, h => by
    simp only [List.length_cons] at h
    show setAll (l.set n v) (n + 1) vs = _
    rw [setAll_full vs (l.set n v) (n + 1) (by rw [List.length_set]; omega)]
    rw [List.take_succ_eq_append_getElem (by rw [List.length_set]; omega), List.take_set_of_le (Nat.le_refl n)]
    simp
/-- A whole array is written. -/
theorem sets_full (l vs : List SV) (K : List SV → Prop) (h : l.length = vs.length) : setsL l (0 + 0) vs K = K vs := by
  rw [setsL_eq, show (0 + 0 : Nat) = 0 from rfl, setAll_full vs l 0 (by omega)]
  rfl
theorem sz87 : Tryz.t65.size = 50 := by kernel_rfl
theorem sz88 : Tryz.t66.size = 48 := by kernel_rfl
theorem sz86 : Tryz.t64.size = 2 := by kernel_rfl
theorem sz69 : Tryz.t44.size = 2 := by kernel_rfl
noncomputable def rf46 : Code := cB (cS (cS (cB (cF (cS (cL (cB (cS (cF (cS (cS (cS (bodyOf Tryz.f21)))))))))))))
/-! ### What the arrays hold -/
def wOf : EntW → Wth
  | some (w, _) => ⟨w.1, w.2⟩
  | none => ⟨-1, 0⟩
def fOf (i : Nat) : EntW → Wth
  | some (_, q) => ⟨(q.1 : Int), (q.2 : Int) - (i : Int)⟩
  | none => ⟨0, 0⟩
/-- The entries from a track on are known. -/
structure ArrOK (F : List Fmt) (l : List Sng) (i : Nat) (W Fa : List Wth) : Prop where
  lw : W.length = 25
  lf : Fa.length = 24
  w : ∀ t, i ≤ t → t ≤ l.length → W.getD t w0 = wOf (bst F l t)
  f : ∀ t e, i ≤ t → t < l.length → bst F l t = some e → Fa.getD t w0 = fOf t (some e)
theorem bst_bd {F : List Fmt} {l : List Sng} (hA : AlbOK F l) {i : Nat} (hi : i ≤ l.length) {w : Int × Int} {q : Nat × Nat} (h : bst F l i = some (w, q)) : (0 ≤ w.1 ∧ w.1 ≤ 1048576 * ((l.length : Int) - i)) ∧ 0 ≤ w.2 ∧ w.2 ≤ (l.length : Int) - i := by
  obtain ⟨h1, h2, h3⟩ := planB_ok (F := F) (l := l) l.length i w q (by omega) hi h
  have key : ∀ (pl : List (Nat × Nat)) (i : Nat), i ≤ l.length → PlanOK F l i pl → (0 ≤ costP F pl ∧ costP F pl ≤ 1048576 * ((l.length : Int) - i)) ∧ (pl.length : Int) ≤ (l.length : Int) - i := by
    intro pl
    induction pl with
    | nil =>
      intro i hi h
      have e : i = l.length := h
      subst e
      simp [costP]
    | cons p t ih =>
      obtain ⟨k, m⟩ := p
      intro i hi h
      have h4 := h.1.lt
      have h5 := h.1.le
      obtain ⟨g1, g2⟩ := ih (i + m) h5 h.2
      have g3 := (hA.fmts k h.1.fmt).cost
      simp only [costP, List.length_cons]
      omega
  obtain ⟨g1, g2⟩ := key _ i hi h1
  rw [h2] at g1
  rw [h3] at g2
  refine ⟨g1, ?_, g2⟩
  rw [← h3]
  omega
/-- .. and the one of a track, of these faces. -/
structure InOK (F : List Fmt) (l : List Sng) (x : Nat) (acc : EntW) (W Fa : List Wth) : Prop where
  lw : W.length = 25
  lf : Fa.length = 24
  w : ∀ t, x < t → t ≤ l.length → W.getD t w0 = wOf (bst F l t)
  wx : W.getD x w0 = wOf acc
  f : ∀ t e, x < t → t < l.length → bst F l t = some e → Fa.getD t w0 = fOf t (some e)
  fx : ∀ e, acc = some e → Fa.getD x w0 = fOf x (some e)
theorem ArrOK.start {F : List Fmt} {l : List Sng} {x : Nat} {W Fa : List Wth} (h : ArrOK F l (x + 1) W Fa) (hx : x < 25) : InOK F l x none (W.set x ⟨-1, 0⟩) Fa := by
  have lw := h.lw
  refine ⟨by rw [List.length_set]; exact h.lw, h.lf, fun t h1 h2 => ?_, ?_, fun t e h1 h2 => h.f t e h1 h2, fun e he => by cases he⟩
  · rw [gset _ _ _ _ _ (by omega), if_neg (by omega)]
    exact h.w t h1 h2
  · rw [gset _ _ _ _ _ (by omega), if_pos rfl]
    rfl
theorem InOK.fin {F : List Fmt} {l : List Sng} {x : Nat} {W Fa : List Wth} (hx : x < l.length) (h : InOK F l x ((facesL F l x).foldl (stepE F (bst F l)) none) W Fa) : ArrOK F l x W Fa := by
  rw [← bst_at hx] at h
  refine ⟨h.lw, h.lf, fun t h1 h2 => ?_, fun t e h1 h2 he => ?_⟩
  · by_cases e : t = x
    · subst e; exact h.wx
    · exact h.w t (by omega) h2
  · by_cases ex : t = x
    · subst ex; exact h.fx e he
    · exact h.f t e (by omega) h2 he
/-- A face that does not help. -/
theorem InOK.skip {F : List Fmt} {l : List Sng} {x : Nat} {acc : EntW} {W Fa : List Wth} (h : InOK F l x acc W Fa) {p : Nat × Nat} (he : stepE F (bst F l) acc p = acc) : InOK F l x (stepE F (bst F l) acc p) W Fa := by rw [he]; exact h
/-- A face that is better. -/
theorem InOK.put {F : List Fmt} {l : List Sng} {x : Nat} {acc : EntW} {W Fa : List Wth} (h : InOK F l x acc W Fa) (hx : x < 24) {p : Nat × Nat} {e : (Int × Int) × (Nat × Nat)} (he : stepE F (bst F l) acc p = some e) : InOK F l x (stepE F (bst F l) acc p) (W.set x (wOf (some e))) (Fa.set x (fOf x (some e))) := by
  have lw := h.lw
  have lf := h.lf
  rw [he]
  refine ⟨by rw [List.length_set]; exact h.lw, by rw [List.length_set]; exact h.lf, fun t h1 h2 => ?_, ?_, fun t e' h1 h2 he' => ?_, fun e' he' => ?_⟩
  · rw [gset _ _ _ _ _ (by omega), if_neg (by omega)]
    exact h.w t h1 h2
  · rw [gset _ _ _ _ _ (by omega), if_pos rfl]
  · rw [gset _ _ _ _ _ (by omega), if_neg (by omega)]
    exact h.f t e' h1 h2 he'
  · cases he'
    rw [gset _ _ _ _ _ (by omega), if_pos rfl]
/-- One face more. -/
theorem step_h2 {F : List Fmt} {l : List Sng} (hA : AlbOK F l) {x : Nat} {acc : EntW} {W Fa : List Wth} (hx : x < 24) (hQ : InOK F l x acc W Fa) {L : List (Nat × Nat)} (hacc : L.foldl (stepE F (bst F l)) none = acc) (hL : ∀ p, p ∈ L → faceP F l p.1 x p.2) {k j : Nat} (hf : faceP F l k x j) {d : Int} (hd : d = (j : Int) - x) :
    (¬ (W.getD j w0).none → (0 ≤ (W.getD j w0).c ∧ (W.getD j w0).c ≤ 100000000) ∧ 0 ≤ (W.getD j w0).n ∧ (W.getD j w0).n ≤ 100) ∧ ((W.getD x w0).c ≤ 100000000 ∧ (W.getD x w0).n ≤ 100 ∧ -1 ≤ (W.getD x w0).c ∧ 0 ≤ (W.getD x w0).n) ∧ ∃ W2 Fa2,
    (((W.getD j w0).none ∧ W2 = W ∧ Fa2 = Fa) ∨ (¬ (W.getD j w0).none ∧ ¬ lessW ⟨(W.getD j w0).c + (F.getD k f0).cost, (W.getD j w0).n + 1⟩ (W.getD x w0) ∧ W2 = W ∧ Fa2 = Fa) ∨ (¬ (W.getD j w0).none ∧ lessW ⟨(W.getD j w0).c + (F.getD k f0).cost, (W.getD j w0).n + 1⟩ (W.getD x w0) ∧ W2 = W.set x ⟨(W.getD j w0).c + (F.getD k f0).cost, (W.getD j w0).n + 1⟩ ∧ Fa2 = Fa.set x ⟨(k : Int), d⟩)) ∧ InOK F l x (stepE F (bst F l) acc (k, j)) W2 Fa2 := by
  have hlt := hf.lt
  have hle := hf.le
  have h24 := hA.sngs.len
  have hco := (hA.fmts k hf.fmt).cost
  have hj := hQ.w j hlt hle
  have hxw := hQ.wx
  have hcur : (W.getD x w0).c ≤ 100000000 ∧ (W.getD x w0).n ≤ 100 ∧ -1 ≤ (W.getD x w0).c ∧ 0 ≤ (W.getD x w0).n := by
    rw [hxw]
    cases ha : acc with
    | none => simp [wOf]
    | some e =>
      obtain ⟨v, q⟩ := e
      obtain ⟨h1, w, f, h2, h3⟩ := (foldE_ok F (bst F l) L).from_ v q (by rw [hacc]; exact ha)
      have h4 := hL q h1
      obtain ⟨h5, h6, h7⟩ := bst_bd hA h4.le h2
      have h8 := (hA.fmts q.1 h4.fmt).cost
      have h9 := h4.lt
      have h10 := h4.le
      rw [h3]
      simp only [wOf]
      omega
  refine ⟨?_, hcur, ?_⟩
  · rw [hj]
    cases hb : bst F l j with
    | none => exact fun h => absurd ⟨rfl, rfl⟩ h
    | some e =>
      obtain ⟨w, f⟩ := e
      obtain ⟨h5, h6, h7⟩ := bst_bd hA hle hb
      intro _
      simp only [wOf]
      omega
  · rw [hj, hxw]
    cases hb : bst F l j with
    | none =>
      have hst : stepE F (bst F l) acc (k, j) = acc := by unfold stepE; rw [hb]
      exact ⟨W, Fa, .inl ⟨⟨rfl, rfl⟩, rfl, rfl⟩, hQ.skip hst⟩
    | some e =>
      obtain ⟨w, f⟩ := e
      obtain ⟨⟨h5, h5'⟩, h6, h7⟩ := bst_bd hA hle hb
      have hnn : ¬ (wOf (some (w, f))).none := fun h => by have := h.1; simp only [wOf] at this; omega
      cases ha : acc with
      | none =>
        have hst : stepE F (bst F l) acc (k, j) = some ((w.1 + (F.getD k f0).cost, w.2 + 1), (k, j)) := by unfold stepE; rw [hb, ha]
        refine ⟨_, _, .inr (.inr ⟨hnn, ?_, rfl, rfl⟩), ?_⟩
        · refine .inl ⟨.inl ⟨rfl, rfl⟩, fun h => ?_⟩
          have := h.1
          simp only [wOf] at this
          omega
        · have := hQ.put hx hst
          rw [hd]
          rw [← ha]
          exact this
      | some e2 =>
        obtain ⟨v, q⟩ := e2
        have hvn : ¬ (wOf (some (v, q))).none := fun h => by
          obtain ⟨h1, w', f', h2, h3⟩ := (foldE_ok F (bst F l) L).from_ v q (by rw [hacc]; exact ha)
          have h4 := hL q h1
          obtain ⟨g5, _, _⟩ := bst_bd hA h4.le h2
          have h8 := (hA.fmts q.1 h4.fmt).cost
          have := h.1
          rw [h3] at this
          simp only [wOf] at this
          omega
        have hnew : ¬ (⟨w.1 + (F.getD k f0).cost, w.2 + 1⟩ : Wth).none := fun h => by have := h.1; simp only at this; omega
        by_cases hlt2 : ltW (w.1 + (F.getD k f0).cost, w.2 + 1) v
        · have hst : stepE F (bst F l) acc (k, j) = some ((w.1 + (F.getD k f0).cost, w.2 + 1), (k, j)) := by
            unfold stepE
            rw [hb, ha]
            exact if_pos hlt2
          refine ⟨_, _, .inr (.inr ⟨hnn, .inr ⟨fun h => h.elim hvn hnew, hlt2⟩, rfl, rfl⟩), ?_⟩
          have := hQ.put hx hst
          rw [hd]
          rw [← ha]
          exact this
        · have hst : stepE F (bst F l) acc (k, j) = acc := by
            unfold stepE
            rw [hb, ha]
            exact if_neg hlt2
          refine ⟨W, Fa, .inr (.inl ⟨hnn, fun h => ?_, rfl, rfl⟩), ?_⟩
          · rcases h with h | h
            · exact h.1.elim hvn hnew
            · exact hlt2 h.2
          · rw [← ha]
            exact hQ.skip hst
end Go.Sx.Sd

namespace Go.Sx
open Go Go.RowKit
/-! ### Rounds and iterators, proved by themselves -/
theorem Fr.le {w w' : World} {R R' : Rp} {M m' m2 : List (Option Blk)} (hf : Fr w R M w' R' m') (h : Le ⟨M.length, [], m'⟩ ⟨M.length, [], m2⟩) : ∃ R2, Fr w R M w' R2 m2 := by
  obtain ⟨R2, hC⟩ := Le_ok h (show Conc w R M ⟨M.length, [], m'⟩ R' { tmps := #[], defers := [] } w' from ⟨hf, rfl, fun i v hv => by simp at hv, Marks.nil .., rfl⟩)
  exact ⟨R2, hC.fr⟩
theorem RSem.le {P : Program} {id : Nat} {args : List XV} {M : List (Option Blk)} {Q Q' : Bool → List (Option Blk) → Prop} (h : RSem P id args M Q) (hq : ∀ b m', Q b m' → ∃ m2, Q' b m2 ∧ Le ⟨M.length, [], m'⟩ ⟨M.length, [], m2⟩) : RSem P id args M Q' := by
  intro w R vs l h1 h2 h3 h4
  obtain ⟨r, e1, e2, e3⟩ := h w R vs l h1 h2 h3 h4
  refine ⟨r, e1, e2, e3.mono ?_⟩
  rintro e w' ⟨b, m', R', rfl, hQ, hf⟩
  obtain ⟨m2, q2, hl⟩ := hq b m' hQ
  obtain ⟨R2, hf2⟩ := hf.le hl
  exact ⟨b, m2, R2, rfl, q2, hf2⟩
theorem ISem.le {P : Program} {f : FuncId} {args : List XV} {M : List (Option Blk)} {Q Q' : List (Option Blk) → Prop} (h : ISem P f args M Q) (hq : ∀ m', Q m' → ∃ m2, Q' m2 ∧ Le ⟨M.length, [], m'⟩ ⟨M.length, [], m2⟩) : ISem P f args M Q' := by
  intro w R vs h1 h2
  refine (h w R vs h1 h2).mono ?_
  rintro e w' ⟨v, m', R', rfl, hQ, hf⟩
  obtain ⟨m2, q2, hl⟩ := hq m' hQ
  obtain ⟨R2, hf2⟩ := hf.le hl
  exact ⟨v, m2, R2, rfl, q2, hf2⟩
theorem RSem.mono {P : Program} {id : Nat} {args : List XV} {M : List (Option Blk)} {Q Q' : Bool → List (Option Blk) → Prop} (h : RSem P id args M Q) (hq : ∀ b m', Q b m' → Q' b m') : RSem P id args M Q' := by
  intro w R vs l h1 h2 h3 h4
  obtain ⟨r, e1, e2, e3⟩ := h w R vs l h1 h2 h3 h4
  refine ⟨r, e1, e2, e3.mono ?_⟩
  rintro e w' ⟨b, m', R', rfl, hQ, hf⟩
  exact ⟨b, m', R', rfl, hq _ _ hQ, hf⟩
theorem ISem.mono {P : Program} {f : FuncId} {args : List XV} {M : List (Option Blk)} {Q Q' : List (Option Blk) → Prop} (h : ISem P f args M Q) (hq : ∀ m', Q m' → Q' m') : ISem P f args M Q' := by
  intro w R vs h1 h2
  refine (h w R vs h1 h2).mono ?_
  rintro e w' ⟨v, m', R', rfl, hQ, hf⟩
  exact ⟨v, m', R', rfl, hq _ hQ, hf⟩
theorem YieldVC.of {P : Program} {id : Nat} {args : List XV} {s : St} {K : AV → St → Prop} {m2 : List (Option Blk)} (h : RSem P id args s.mem (fun b m' => b = true ∧ m' = m2)) (k : K (.x (.one .tt)) ⟨s.k, s.env, m2⟩) : YieldVC P id args s K :=
  .mk (h.mono fun b m' hh => by obtain ⟨rfl, rfl⟩ := hh; exact k)
theorem RangeVC.of {P : Program} {f : FuncId} {args : List XV} {m : List (Option Blk)} {Q Q' : List (Option Blk) → Prop} (he : EntersF P f) (h : ISem P f args m Q') (k : ∀ m', Q' m' → Q m') : RangeVC P f args m Q := .mk he (h.mono k)
end Go.Sx

namespace Go.Sx.Sd
open Go Go.Proofs Go.Sx
set_option maxRecDepth 10000
set_option maxHeartbeats 16000000
@[reducible] noncomputable def MB (F : List Fmt) (l : List Sng) (x : Nat) (Z : List Int) (W' Fa' : List Wth) : List (Option Blk) := [some gNone, some (bAlb F l (l.length : Int)), some (.box 60 [.ptr 1 0]), some (bWs (List.replicate 25 w0)), some (bFs (List.replicate 24 w0)), some (bWs W'), some (bFs Fa'), some (.box 3 [.int .i64 (x : Int)]), some (.box 60 [.ptr 1 0]), some (.box 3 [.int .i64 (x : Int)]), some (.loop [25] (cAs rf46) (cBo rf46) (envA 68 [(1, .x (.one (.ptr 2 0))), (2, .x (.one (.ptr 3 0))), (3, .x (.one (.ptr 4 0))), (4, .x (.one (.ptr 5 0))), (5, .x (.one (.ptr 6 0))), (6, .x (.one (.ptr 7 0)))]) .ready), some (rowOd Z)]
@[reducible] def fcX (k : Nat) (d : Int) : XV := .agg [.int .i64 (k : Int), .int .i64 d]
theorem rnd46 (F : List Fmt) (l : List Sng) (hA : AlbOK F l) (x : Nat) (Z : List Int) (W Fa : List Wth) (lW : W.length = 25) (lF : Fa.length = 24) (hx : x < 24) (k : Nat) (hk : k < F.length) (d : Int) (j : Nat) (hj : j < 25) (ejt : ((x : Int) + d).toNat = j) (hd : 0 ≤ (x : Int) + d) (rest cur : Wth) (hrest : W.getD j w0 = rest) (hcur : W.getD x w0 = cur) (hr : ¬ rest.none → (0 ≤ rest.c ∧ rest.c ≤ 100000000) ∧ 0 ≤ rest.n ∧ rest.n ≤ 100) (_ : cur.c ≤ 100000000 ∧ cur.n ≤ 100 ∧ -1 ≤ cur.c ∧ 0 ≤ cur.n) (W2 Fa2 : List Wth)
    (h2 : (rest.none ∧ W2 = W ∧ Fa2 = Fa) ∨ (¬ rest.none ∧ ¬ lessW ⟨rest.c + (F.getD k f0).cost, rest.n + 1⟩ cur ∧ W2 = W ∧ Fa2 = Fa) ∨ (¬ rest.none ∧ lessW ⟨rest.c + (F.getD k f0).cost, rest.n + 1⟩ cur ∧ W2 = W.set x ⟨rest.c + (F.getD k f0).cost, rest.n + 1⟩ ∧ Fa2 = Fa.set x ⟨(k : Int), d⟩)) :
    RSem Tryz.prog 10 [fcX k d] (MB F l x Z W Fa) (fun bb m' => bb = true ∧ m' = MB F l x Z W2 Fa2) := by
  have hf := hA.fmts k hk
  have hco := hf.cost
  have h8 := hA.few
  have lpl := plsA_len F l
  have ext : (x : Int).toNat = x := Int.toNat_natCast x
  have gk : rA (plsA F l) (k : Int).toNat 0 = plA (F.getD k f0) l := by rw [Int.toNat_natCast]; exact plsA_at F l k hk
  have gc : rI (plA (F.getD k f0) l) 0 (0 + 0 + (0 + 1 + 1 + 1 + 1 + 1 + 1 + 1)) = (F.getD k f0).cost := rfl
  have e0 : rI [[Cell.int (-1), Cell.int 0]] 0 0 = -1 := rfl
  have e1 : rI [[Cell.int (-1), Cell.int 0]] 0 (0 + 1) = 0 := rfl
  have b1 := pw_ble W j Tryz.t64.size (by rw [sz86]; exact Nat.le_refl 2) (by omega)
  have g1 : takeL (dropL (pcs W) (0 + j * (0 + 1 + 1))) Tryz.t64.size = [SV.int .i64 (W.getD j w0).c, SV.int .i64 (W.getD j w0).n] := by rw [sz86]; exact pw_get W j (by omega)
  have b2 := pw_ble W x Tryz.t64.size (by rw [sz86]; exact Nat.le_refl 2) (by omega)
  have g2 : takeL (dropL (pcs W) (0 + x * (0 + 1 + 1))) Tryz.t64.size = [SV.int .i64 (W.getD x w0).c, SV.int .i64 (W.getD x w0).n] := by rw [sz86]; exact pw_get W x (by omega)
  have b3 := pw_ble Fa x Tryz.t44.size (by rw [sz69]; exact Nat.le_refl 2) (by omega)
  rw [hrest] at g1
  rw [hcur] at g2
  refine RSem.le (rsem_of_awp (Q := fun bb m' => ∃ m2, (bb = true ∧ m2 = MB F l x Z W2 Fa2) ∧ Le ⟨(MB F l x Z W Fa).length, [], m'⟩ ⟨(MB F l x Z W Fa).length, [], m2⟩) pMix ([(11, ([19], [⟨0, [], []⟩, ⟨1, [], []⟩, ⟨2, [], []⟩, ⟨3, [], []⟩, ⟨4, [], []⟩, ⟨5, [], []⟩, ⟨6, [], []⟩, ⟨7, [], []⟩, ⟨8, [], []⟩, ⟨9, [], []⟩, ⟨10, [], []⟩, ⟨11, [], []⟩, ⟨12, [], []⟩, ⟨13, [], []⟩, ⟨14, [], []⟩, ⟨15, [], []⟩, ⟨16, [], []⟩, ⟨17, [], []⟩, ⟨18, [], []⟩, ⟨19, [], []⟩, ⟨20, [], []⟩])), (13, ([], [⟨0, [], []⟩, ⟨1, [], []⟩, ⟨2, [], []⟩, ⟨3, [], []⟩, ⟨4, [], []⟩, ⟨5, [1, 3], []⟩, ⟨6, [], []⟩, ⟨7, [], []⟩])), (16, ([], [⟨0, [], []⟩, ⟨1, [], []⟩, ⟨2, [1], []⟩, ⟨3, [], []⟩]))]) rfl (by kernel_rfl) ?_) (fun bb m' h => by obtain ⟨m2, h1, h2⟩ := h; exact ⟨m2, h1, h2⟩)
  have hrn : rest.none ↔ (rest.c = -1 ∧ rest.n = 0) := Iff.rfl
  by_cases hn : rest.none
  · have hn2 := hrn.1 hn
    obtain ⟨rfl, rfl⟩ : W2 = W ∧ Fa2 = Fa := by
      rcases h2 with ⟨_, h⟩ | ⟨h, _⟩ | ⟨h, _⟩
      · exact h
      · exact absurd hn h
      · exact absurd hn h
    repeat' ((conv => whnf); first | rw [ejt] | rw [b1] | rw [g1] | rw [e0] | rw [e1] | refine Rng.g ?_ | refine Ob.g ?_ | (refine Br.mk (fun h => ?_) (fun h => ?_) <;> first | (exfalso; omega; done) | (exfalso; simp at h; done) | (exfalso; simp [hn2] at h; done) | skip))
    refine ⟨_, ⟨rfl, rfl⟩, [some 0, some 1, some 2, some 3, some 4, some 5, some 6, some 7, some 8, some 9, some 10, some 11], rfl, rfl, ?_, ?_⟩ <;> repeat' (first | exact trivial | exact rfl | exact pcs_le _ _ _ _ | apply And.intro)
  · have hn2 : ¬ (rest.c = -1 ∧ rest.n = 0) := fun h => hn (hrn.2 h)
    have hr' := hr hn
    repeat' ((conv => whnf); first | rw [ejt] | rw [ext] | rw [b1] | rw [g1] | rw [e0] | rw [e1] | rw [b2] | rw [g2] | rw [gk] | rw [gc] | refine Rng.g ?_ | refine Ob.g ?_ | (refine Br.mk (fun h => ?_) (fun h => ?_) <;> first | (exfalso; omega; done) | (exfalso; simp at h; done) | (exfalso; simp [hn2] at h; done) | skip))
    conv => whnf
    refine CallVC.mk [0] _ _ _ rfl rfl rfl (s64w ⟨rest.c + (F.getD k f0).cost, rest.n + 1⟩ cur) (fun r m' h' => ?_)
    obtain ⟨rfl, rfl⟩ := h'
    conv => whnf
    by_cases hl : lessW ⟨rest.c + (F.getD k f0).cost, rest.n + 1⟩ cur
    · obtain ⟨rfl, rfl⟩ : W2 = W.set x ⟨rest.c + (F.getD k f0).cost, rest.n + 1⟩ ∧ Fa2 = Fa.set x ⟨(k : Int), d⟩ := by
        rcases h2 with ⟨h, _⟩ | ⟨_, h, _⟩ | ⟨_, _, h⟩
        · exact absurd h hn
        · exact absurd hl h
        · exact h
      repeat' ((conv => whnf); first | rw [ext] | rw [b2, pw_set] | rw [b3, pw_set] | rw [fSs_eq] | refine Ob.g ?_ | refine JoinVC.on ?_ | (refine Br.mk (fun h => ?_) (fun h => ?_) <;> first | (exfalso; omega; done) | (exfalso; simp at h; done) | skip))
      all_goals first | contradiction | skip
      refine ⟨_, ⟨rfl, rfl⟩, [some 0, some 1, some 2, some 3, some 4, some 5, some 6, some 7, some 8, some 9, some 10, some 11], rfl, rfl, ?_, ?_⟩ <;> repeat' (first | exact trivial | exact rfl | exact pcs_le _ _ _ _ | apply And.intro)
    · obtain ⟨rfl, rfl⟩ : W2 = W ∧ Fa2 = Fa := by
        rcases h2 with ⟨h, _⟩ | ⟨_, _, h⟩ | ⟨_, h, _⟩
        · exact absurd h hn
        · exact h
        · exact absurd h hl
      repeat' ((conv => whnf); first | rw [ext] | rw [b2, pw_set] | rw [b3, pw_set] | rw [fSs_eq] | refine Ob.g ?_ | refine JoinVC.on ?_ | (refine Br.mk (fun h => ?_) (fun h => ?_) <;> first | (exfalso; omega; done) | (exfalso; simp at h; done) | skip))
      all_goals first | contradiction | skip
      refine ⟨_, ⟨rfl, rfl⟩, [some 0, some 1, some 2, some 3, some 4, some 5, some 6, some 7, some 8, some 9, some 10, some 11], rfl, rfl, ?_, ?_⟩ <;> repeat' (first | exact trivial | exact rfl | exact pcs_le _ _ _ _ | apply And.intro)
end Go.Sx.Sd

namespace Go.Sx.Sd
open Go Go.Proofs Go.Sx
set_option maxRecDepth 10000
set_option maxHeartbeats 16000000
theorem res87 (W : List Wth) (lW : W.length = 25) (s : St) (id : Nat) (h1 : s.get 2 = .x (.one (.ptr id 0))) (h2 : s.blk id = some (.box 65 (pcs W))) : resV Tryz.prog s (.cell 2 65) = some (.agg (pcs W)) := by
  have c1 : cellsOf Tryz.prog 65 = some Tryz.t65.size := by kernel_rfl
  have c2 : aggSize Tryz.prog 65 = some (some Tryz.t65.size) := by kernel_rfl
  have n1 : (0 + Tryz.t65.size).ble (lenL (pcs W)) = true := by rw [lenL_eq, pcs_len, lW, sz87]; rfl
  have a1 : takeL (dropL (pcs W) 0) Tryz.t65.size = pcs W := pcs_all W Tryz.t65.size (by rw [sz87, lW])
  unfold resV
  simp only [h1, c1, c2, h2, n1, a1, if_true]
theorem res88 (W : List Wth) (lW : W.length = 24) (s : St) (id : Nat) (h1 : s.get 3 = .x (.one (.ptr id 0))) (h2 : s.blk id = some (.box 66 (pcs W))) : resV Tryz.prog s (.cell 3 66) = some (.agg (pcs W)) := by
  have c1 : cellsOf Tryz.prog 66 = some Tryz.t66.size := by kernel_rfl
  have c2 : aggSize Tryz.prog 66 = some (some Tryz.t66.size) := by kernel_rfl
  have n1 : (0 + Tryz.t66.size).ble (lenL (pcs W)) = true := by rw [lenL_eq, pcs_len, lW, sz88]; rfl
  have a1 : takeL (dropL (pcs W) 0) Tryz.t66.size = pcs W := pcs_all W Tryz.t66.size (by rw [sz88, lW])
  unfold resV
  simp only [h1, c1, c2, h2, n1, a1, if_true]
theorem noAny_pcs : ∀ W : List Wth, noAny (pcs W) = true
  | [] => rfl
  | _ :: W => noAny_pcs W
theorem s46b (F : List Fmt) (l : List Sng) (hA : AlbOK F l) : HSpec Tryz.prog 21 [.one (.ptr 1 0)] [gNone, bAlb F l (l.length : Int)] (fun r m' => ∃ W Fa, ArrOK F l 0 W Fa ∧ r = .tup [.agg (pcs W), .agg (pcs Fa)] ∧ m' = [some gNone, some (bAlb F l (l.length : Int))]) := by
  have h24 := hA.sngs.len
  refine spec_of pMix (O := [(11, ([19], [⟨0, [], []⟩, ⟨1, [], []⟩, ⟨2, [], []⟩, ⟨3, [], []⟩, ⟨4, [], []⟩, ⟨5, [], []⟩, ⟨6, [], []⟩, ⟨7, [], []⟩, ⟨8, [], []⟩, ⟨9, [], []⟩, ⟨10, [], []⟩, ⟨11, [], []⟩, ⟨12, [], []⟩, ⟨13, [], []⟩, ⟨14, [], []⟩, ⟨15, [], []⟩, ⟨16, [], []⟩, ⟨17, [], []⟩, ⟨18, [], []⟩, ⟨19, [], []⟩, ⟨20, [], []⟩])), (13, ([], [⟨0, [], []⟩, ⟨1, [], []⟩, ⟨2, [], []⟩, ⟨3, [], []⟩, ⟨4, [], []⟩, ⟨5, [1, 3], []⟩, ⟨6, [], []⟩, ⟨7, [], []⟩])), (16, ([], [⟨0, [], []⟩, ⟨1, [], []⟩, ⟨2, [1], []⟩, ⟨3, [], []⟩]))]) Tryz.func21 (c := bodyOf Tryz.f21) rfl (by kernel_rfl) (by kernel_rfl) Tryz.ntmps21 (res := [.cell 2 65, .cell 3 66]) (by kernel_rfl) ?_
  repeat' ((conv => whnf); first | refine Rng.g ?_ | fail)
  refine LoopVC.mk (fun m st => ∃ (i : Nat) (W Fa : List Wth), i ≤ l.length ∧ m = i ∧ ArrOK F l i W Fa ∧ st = ⟨2, envA 68 [(1, .x (.one (.ptr 2 0))), (2, .x (.one (.ptr 3 0))), (3, .x (.one (.ptr 4 0))), (4, .x (.one (.ptr 5 0))), (5, .x (.one (.ptr 6 0))), (6, .x (.one (.ptr 7 0)))], [some gNone, some (bAlb F l (l.length : Int)), some (.box 60 [.ptr 1 0]), some (bWs (List.replicate 25 w0)), some (bFs (List.replicate 24 w0)), some (bWs W), some (bFs Fa), some (.box 3 [.int .i64 ((i : Int) - 1)])]⟩) _ _ ⟨l.length, List.replicate 25 w0, List.replicate 24 w0, Nat.le_refl _, rfl, ⟨by simp, by simp, fun t h1 h2 => ?_, fun t e h1 h2 => by omega⟩, rfl⟩ ?_ ?_
  · have e : t = l.length := by omega
    subst e
    rw [bst_end]
    rw [List.getD_eq_getElem?_getD, List.getElem?_replicate, if_pos (by omega)]
    rfl
  · refine ⟨[some 0, some 1, some 2, some 3, some 4, some 5, some 6, some 7], rfl, rfl, ?_, ?_⟩ <;> repeat' (first | exact trivial | exact rfl | apply And.intro)
  rintro m _ ⟨i, W, Fa, hi, hm, hW, rfl⟩
  have lW := hW.lw
  have lF := hW.lf
  by_cases hi' : 0 < i
  rotate_left
  · have ei : i = 0 := by omega
    subst ei
    have a1 : takeL (dropL (pcs W) 0) Tryz.t65.size = pcs W := pcs_all W Tryz.t65.size (by rw [sz87, lW])
    have a2 : takeL (dropL (pcs Fa) 0) Tryz.t66.size = pcs Fa := pcs_all Fa Tryz.t66.size (by rw [sz88, lF])
    have n1 : (0 + Tryz.t65.size).ble (lenL (pcs W)) = true := by rw [lenL_eq, pcs_len, lW, sz87]; rfl
    have n2 : (0 + Tryz.t66.size).ble (lenL (pcs Fa)) = true := by rw [lenL_eq, pcs_len, lF, sz88]; rfl
    have f1 : ∀ K, setsL (pcs (List.replicate 25 w0)) 0 (xvCells (.agg (pcs W))) K = K (pcs W) := fun K => sets_full (pcs (List.replicate 25 w0)) (pcs W) K (by rw [pcs_len, pcs_len, lW]; rfl)
    have f2 : ∀ K, setsL (pcs (List.replicate 24 w0)) 0 (xvCells (.agg (pcs Fa))) K = K (pcs Fa) := fun K => sets_full (pcs (List.replicate 24 w0)) (pcs Fa) K (by rw [pcs_len, pcs_len, lF]; rfl)
    have q1 : ((lenL (xvCells (XV.agg (pcs W)))).beq Tryz.t65.size && noAny (xvCells (XV.agg (pcs W)))) = true := by
      rw [show xvCells (XV.agg (pcs W)) = pcs W from rfl, noAny_pcs, lenL_eq, pcs_len, lW, sz87]
      rfl
    have q2 : ((lenL (xvCells (XV.agg (pcs Fa)))).beq Tryz.t66.size && noAny (xvCells (XV.agg (pcs Fa)))) = true := by
      rw [show xvCells (XV.agg (pcs Fa)) = pcs Fa from rfl, noAny_pcs, lenL_eq, pcs_len, lF, sz88]
      rfl
    have n3 : (0 + Tryz.t65.size).ble (lenL (pcs (List.replicate 25 w0))) = true := by rw [lenL_eq, pcs_len, sz87]; rfl
    have n4 : (0 + Tryz.t66.size).ble (lenL (pcs (List.replicate 24 w0))) = true := by rw [lenL_eq, pcs_len, sz88]; rfl
    repeat' ((conv => whnf); first | rw [n1] | rw [n2] | rw [q1] | rw [q2] | rw [a1] | rw [a2] | rw [f1] | rw [f2] | rw [fSs_eq] | (refine Br.mk (fun h => ?_) (fun h => ?_) <;> first | (exfalso; omega; done) | (exfalso; simp at h; done) | skip))
    refine EndVC.mk [.agg (pcs W), .agg (pcs Fa)] ?_ _ _ ⟨W, Fa, hW, rfl, rfl⟩ ?_
    · unfold resVs
      rw [res87 W lW _ 3 rfl rfl]
      unfold resVs
      rw [res88 Fa lF _ 4 rfl rfl]
      rfl
    · refine ⟨[some 0, some 1], rfl, rfl, ?_, ?_⟩ <;> repeat' (first | exact trivial | exact rfl | exact pcs_le _ _ _ _ | apply And.intro)
  obtain ⟨x, rfl⟩ : ∃ x, i = x + 1 := ⟨i - 1, by omega⟩
  have ex : ((x + 1 : Nat) : Int) - 1 = (x : Int) := by omega
  rw [ex]
  have b1 := pw_ble W (x : Int).toNat Tryz.t64.size (by rw [sz86]; exact Nat.le_refl 2) (by omega)
  have e0 : rI [[Cell.int (-1), Cell.int 0]] 0 0 = -1 := rfl
  have e1 : rI [[Cell.int (-1), Cell.int 0]] 0 (0 + 1) = 0 := rfl
  repeat' ((conv => whnf); first | rw [e0] | rw [e1] | rw [b1, pw_set] | rw [fSs_eq] | refine Ob.g ?_ | (refine Br.mk (fun h => ?_) (fun h => ?_) <;> first | (exfalso; omega; done) | (exfalso; simp at h; done) | skip))
  conv => whnf
  refine CallVC.mk [1] _ _ _ rfl rfl rfl (s53 F l (l.length : Int) (x : Int)) (fun r m' h' => ?_)
  obtain ⟨rfl, rfl⟩ := h'
  conv => whnf
  repeat' ((conv => whnf); first | refine Rng.g ?_ | fail)
  have lpl := plsA_len F l
  have h8 := hA.few
  have hx24 : x < 24 := by omega
  have hW1 := hW.start (x := x) (by omega)
  have ext : (x : Int).toNat = x := Int.toNat_natCast x
  change RangeVC _ _ _ _ _
  refine RangeVC.mk e69 (isem_of_awp pMix [] Tryz.func69 (c := bodyOf Tryz.f69) rfl (by kernel_rfl) Tryz.ntmps69 (by kernel_rfl) ?_)
  repeat' ((conv => whnf); first | refine Rng.g ?_ | fail)
  refine LoopVC.mk (fun n st => ∃ (k : Nat) (W' Fa' : List Wth), k ≤ F.length ∧ n = F.length - k ∧ InOK F l x ((fcs F l x k).foldl (stepE F (bst F l)) none) W' Fa' ∧ st = ⟨11, envA 43 [(0, .x (.one (.yld 10))), (1, .x (.one (.ptr 8 0))), (2, .x (.one (.ptr 9 0))), (10, .x (.one (.lst true [.pt KPl] (plsA F l)))), (11, .int .i64 (F.length : Int)), (12, .int .i64 (k : Int))], [some gNone, some (bAlb F l (l.length : Int)), some (.box 60 [.ptr 1 0]), some (bWs (List.replicate 25 w0)), some (bFs (List.replicate 24 w0)), some (bWs W'), some (bFs Fa'), some (.box 3 [.int .i64 (x : Int)]), some (.box 60 [.ptr 1 0]), some (.box 3 [.int .i64 (x : Int)]), some (.loop [25] (cAs rf46) (cBo rf46) (envA 68 [(1, .x (.one (.ptr 2 0))), (2, .x (.one (.ptr 3 0))), (3, .x (.one (.ptr 4 0))), (4, .x (.one (.ptr 5 0))), (5, .x (.one (.ptr 6 0))), (6, .x (.one (.ptr 7 0)))]) .ready)]⟩) _ _ ⟨0, _, Fa, Nat.zero_le _, rfl, hW1, rfl⟩ ?_ ?_
  · refine ⟨[some 0, some 1, some 2, some 3, some 4, some 5, some 6, some 7, some 8, some 9, some 10], rfl, rfl, ?_, ?_⟩ <;> repeat' (first | exact trivial | exact rfl | apply And.intro)
    all_goals first | exact pcs_le _ _ _ _ | skip
    all_goals first | exact congrArg Int.ofNat lpl | rw [ext]
  clear hW1
  rintro n _ ⟨k, W', Fa', hk, hn, hQ, rfl⟩
  have lW' := hQ.lw
  have lF' := hQ.lf
  by_cases hk' : k < F.length
  rotate_left
  · have ek : k = F.length := by omega
    subst ek
    have hfin := InOK.fin (by omega) hQ
    repeat' ((conv => whnf); first | refine Rng.g ?_ | (refine Br.mk (fun h => ?_) (fun h => ?_) <;> first | (exfalso; omega; done) | (exfalso; simp at h; done) | skip))
    refine Back.mk x _ (by omega) ⟨x, W', Fa', by omega, rfl, hfin, rfl⟩ ?_
    refine ⟨[some 0, some 1, some 2, some 3, some 4, some 5, some 6, some 11], rfl, rfl, ?_, ?_⟩ <;> repeat' (first | exact trivial | exact rfl | apply And.intro)
    all_goals first | exact pcs_le _ _ _ _ | skip
  have gk : rA (plsA F l) (k : Int).toNat 0 = plA (F.getD k f0) l := by rw [Int.toNat_natCast]; exact plsA_at F l k hk'
  have hf := hA.fmts k hk'
  repeat' ((conv => whnf); first | rw [gk] | refine Rng.g ?_ | refine Ob.g ?_ | (refine Br.mk (fun h => ?_) (fun h => ?_) <;> first | (exfalso; omega; done) | (exfalso; simp at h; done) | skip))
  refine LoopVC.mk (fun n st => ∃ (j : Nat) (W' Fa' : List Wth), x < j ∧ j ≤ l.length + 1 ∧ n = l.length + 1 - j ∧ InOK F l x ((fcs F l x k ++ fcj F l x k j).foldl (stepE F (bst F l)) none) W' Fa' ∧ st = ⟨11, envA 43 [(0, .x (.one (.yld 10))), (1, .x (.one (.ptr 8 0))), (2, .x (.one (.ptr 9 0))), (4, .int .i64 (k : Int)), (5, .x (plX (F.getD k f0) l)), (6, .int .i64 (j : Int)), (10, .x (.one (.lst true [.pt KPl] (plsA F l)))), (11, .int .i64 (F.length : Int)), (12, .int .i64 (k : Int))], [some gNone, some (bAlb F l (l.length : Int)), some (.box 60 [.ptr 1 0]), some (bWs (List.replicate 25 w0)), some (bFs (List.replicate 24 w0)), some (bWs W'), some (bFs Fa'), some (.box 3 [.int .i64 (x : Int)]), some (.box 60 [.ptr 1 0]), some (.box 3 [.int .i64 (x : Int)]), some (.loop [25] (cAs rf46) (cBo rf46) (envA 68 [(1, .x (.one (.ptr 2 0))), (2, .x (.one (.ptr 3 0))), (3, .x (.one (.ptr 4 0))), (4, .x (.one (.ptr 5 0))), (5, .x (.one (.ptr 6 0))), (6, .x (.one (.ptr 7 0)))]) .ready)]⟩) _ _ ⟨x + 1, W', Fa', by omega, by omega, rfl, by rw [fcj_lo _ (Nat.le_refl _), List.append_nil]; exact hQ, rfl⟩ ?_ ?_
  · refine ⟨[some 0, some 1, some 2, some 3, some 4, some 5, some 6, some 7, some 8, some 9, some 10], rfl, rfl, ?_, ?_⟩ <;> repeat' (first | exact trivial | exact rfl | apply And.intro)
    all_goals first | exact pcs_le _ _ _ _ | skip
  clear hQ lW' lF' W' Fa'
  rintro n2 _ ⟨j, W', Fa', hij, hj, hn2, hQ, rfl⟩
  have lW' := hQ.lw
  have lF' := hQ.lf
  have c54 := s54g x j (by omega)
  by_cases hj' : j ≤ l.length
  rotate_left
  · have ej : j = l.length + 1 := by omega
    subst ej
    repeat' ((conv => whnf); first | refine Rng.g ?_ | (refine Br.mk (fun h => ?_) (fun h => ?_) <;> first | (exfalso; omega; done) | (exfalso; simp at h; done) | skip))
    refine Back.mk (F.length - (k + 1)) _ (by omega) ⟨k + 1, W', Fa', by omega, rfl, hQ, rfl⟩ ?_
    refine ⟨[some 0, some 1, some 2, some 3, some 4, some 5, some 6, some 7, some 8, some 9, some 10], rfl, rfl, ?_, ?_⟩ <;> repeat' (first | exact trivial | exact rfl | apply And.intro)
    all_goals first | exact pcs_le _ _ _ _ | skip
  have c47 := s47p (F.getD k f0) l (seqL x (j - x)) hf hA.sngs (fun y hy => by rw [seqL_len] at hy; rw [seqL_get _ _ _ hy]; omega) (by rw [seqL_len]; omega)
  repeat' ((conv => whnf); first | (refine Br.mk (fun h => ?_) (fun h => ?_) <;> first | (exfalso; omega; done) | (exfalso; simp at h; done) | skip))
  conv => whnf
  refine CallVC.mk [] _ _ _ rfl rfl rfl (c54) (fun r m' h' => ?_)
  obtain ⟨rfl, rfl⟩ := h'
  conv => whnf
  repeat' ((conv => whnf); first | refine Rng.g ?_ | fail)
  conv => whnf
  refine CallVC.mk [] _ _ _ rfl rfl rfl (c47) (fun r m' h' => ?_)
  obtain ⟨rfl, rfl⟩ := h'
  conv => whnf
  repeat refine Mm.mk ?_
  try refine JoinVC.on ?_
  refine Br.mk (fun hL => ?_) (fun hL => ?_)
  rotate_left
  · have hnf : ¬ faceP F l k x j := fun h => hL h.lay
    rw [fcj_end hA hij hnf hj] at hQ
    repeat' ((conv => whnf); first | refine Rng.g ?_ | fail)
    refine Back.mk (F.length - (k + 1)) _ (by omega) ⟨k + 1, W', Fa', by omega, rfl, hQ, rfl⟩ ?_
    refine ⟨[some 0, some 1, some 2, some 3, some 4, some 5, some 6, some 7, some 8, some 9, some 10], rfl, rfl, ?_, ?_⟩ <;> repeat' (first | exact trivial | exact rfl | apply And.intro)
    all_goals first | exact pcs_le _ _ _ _ | skip
  have hface : faceP F l k x j := ⟨hk', hij, hj', hL⟩
  have hco := hf.cost
  have gc : rI (rA (plsA F l) (k : Int).toNat 0) 0 (0 + 0 + (0 + 1 + 1 + 1 + 1 + 1 + 1 + 1)) = (F.getD k f0).cost := by rw [gk]; rfl
  have ejt : ((x : Int) + ((j : Int) - x)).toNat = j := by omega
  obtain ⟨acc, hacc⟩ : ∃ acc, (fcs F l x k ++ fcj F l x k j).foldl (stepE F (bst F l)) none = acc := ⟨_, rfl⟩
  have hnext : (fcs F l x k ++ fcj F l x k (j + 1)).foldl (stepE F (bst F l)) none = stepE F (bst F l) acc (k, j) := by
    rw [fcj_yes hface, ← List.append_assoc, List.foldl_append, hacc]
    rfl
  rw [hacc] at hQ
  have hLm : ∀ y, y ∈ fcs F l x k ++ fcj F l x k j → faceP F l y.1 x y.2 := fun y hy => by
    rcases List.mem_append.1 hy with h | h
    · exact (mem_fcs.1 h).2
    · have h3 := mem_fcj.1 h
      rw [h3.1]; exact h3.2.2
  obtain ⟨d, hd⟩ : ∃ d : Int, (j : Int) - (x : Int) = d := ⟨_, rfl⟩
  obtain ⟨s1, s2, W2, Fa2, s3, s4⟩ := step_h2 hA hx24 hQ hacc hLm hface hd.symm
  have rnd := rnd46 F l hA x (seqL x (j - x)) W' Fa' lW' lF' hx24 k hk' d j (by omega) (by omega) (by omega) _ _ rfl rfl s1 s2 W2 Fa2 s3
  rw [← hd] at rnd
  repeat' ((conv => whnf); first | refine Rng.g ?_ | fail)
  refine YieldVC.of rnd ?_
  repeat' ((conv => whnf); first | refine Rng.g ?_ | fail)
  refine Back.mk (l.length + 1 - (j + 1)) _ (by omega) ⟨j + 1, W2, Fa2, by omega, by omega, rfl, by rw [hnext]; exact s4, rfl⟩ ?_
  refine ⟨[some 0, some 1, some 2, some 3, some 4, some 5, some 6, some 7, some 8, some 9, some 10], rfl, rfl, ?_, ?_⟩ <;> repeat' (first | exact trivial | exact rfl | apply And.intro)
  all_goals first | exact pcs_le _ _ _ _ | skip
end Go.Sx.Sd

namespace Go.Sx.Sd
open Go Go.Proofs Go.Sx
set_option maxRecDepth 10000
set_option maxHeartbeats 8000000
/-! ### The cost of a plan -/
structure Fc where
  fm : Int
  mn : Int
@[reducible] def Fc.x (a : Fc) : XV := .agg [.int .i64 a.fm, .int .i64 a.mn]
def Fc.ok (n : Nat) (a : Fc) : Prop := (0 ≤ a.fm ∧ a.fm < n) ∧ 1 ≤ a.mn ∧ a.mn ≤ 24
instance (n : Nat) (a : Fc) : Decidable (a.ok n) := by unfold Fc.ok; exact inferInstance
def Fc.p (a : Fc) : Nat × Nat := (a.fm.toNat, a.mn.toNat)
def sumN : List (Nat × Nat) → Nat → Nat
  | _, 0 => 0
  | [], _ + 1 => 0
  | a :: t, i + 1 => a.2 + sumN t i
theorem planOK_iff {F : List Fmt} {l : List Sng} : ∀ (pl : List (Nat × Nat)) (s : Nat), PlanOK F l s pl ↔ (∀ i, i < pl.length → faceP F l (pl.getD i (0, 0)).1 (s + sumN pl i) (s + sumN pl i + (pl.getD i (0, 0)).2)) ∧ s + sumN pl pl.length = l.length
  | [], s => by
    constructor
    · exact fun h => ⟨fun i hi => absurd hi (Nat.not_lt_zero i), h⟩
    · exact fun h => h.2
  | (k, m) :: t, s => by
    show (faceP F l k s (s + m) ∧ PlanOK F l (s + m) t) ↔ _
    rw [planOK_iff t (s + m)]
    constructor
    · rintro ⟨h1, h2, h3⟩
      refine ⟨fun i hi => ?_, ?_⟩
      · cases i with
        | zero => exact h1
        | succ i =>
          have := h2 i (by simpa using hi)
          simp only [sumN, List.getD_cons_succ]
          rw [show s + (m + sumN t i) = s + m + sumN t i by omega]
          exact this
      · simp only [List.length_cons, sumN]
        omega
    · rintro ⟨h1, h2⟩
      refine ⟨h1 0 (by simp), fun i hi => ?_, ?_⟩
      · have := h1 (i + 1) (by simpa using hi)
        simp only [sumN, List.getD_cons_succ] at this
        rw [show s + (m + sumN t i) = s + m + sumN t i by omega] at this
        exact this
      · simp only [List.length_cons, sumN] at h2
        omega
theorem sumN_succ : ∀ (pl : List (Nat × Nat)) (i : Nat), i < pl.length → sumN pl (i + 1) = sumN pl i + (pl.getD i (0, 0)).2
  | [], i, h => absurd h (Nat.not_lt_zero i)
  | a :: t, 0, _ => by simp [sumN]
  | a :: t, i + 1, h => by
    have := sumN_succ t i (by simpa using h)
    simp only [sumN, List.getD_cons_succ] at this ⊢
    omega
end Go.Sx.Sd

namespace Go.Sx.Sd
open Go Go.Proofs Go.Sx
set_option maxRecDepth 10000
set_option maxHeartbeats 16000000
/-! ### The best plan -/
theorem planB_fuel {F : List Fmt} {l : List Sng} : ∀ (n m i : Nat), l.length ≤ i + n → l.length ≤ i + m → planB F l n i = planB F l m i
  | 0, 0, _, _, _ => rfl
  | 0, m + 1, i, h1, _ => by
    unfold planB
    rw [if_neg (by omega)]
  | n + 1, 0, i, _, h2 => by
    unfold planB
    rw [if_neg (by omega)]
  | n + 1, m + 1, i, h1, h2 => by
    unfold planB
    by_cases hi : i < l.length
    · rw [if_pos hi, if_pos hi]
      cases hb : bst F l i with
      | none => rfl
      | some e =>
        obtain ⟨w, k, j⟩ := e
        have h3 := (mem_faces.1 ((bst_ok (F := F) hi).from_ w (k, j) hb).1).lt
        simp only at h3 ⊢
        rw [planB_fuel n m j (by omega) (by omega)]
    · rw [if_neg hi, if_neg hi]
theorem planB_step {F : List Fmt} {l : List Sng} {i k j : Nat} {w : Int × Int} (hi : i < l.length) (hb : bst F l i = some (w, (k, j))) : planB F l l.length i = (k, j - i) :: planB F l l.length j := by
  have h3 := (mem_faces.1 ((bst_ok (F := F) hi).from_ w (k, j) hb).1).lt
  simp only at h3
  rw [planB_fuel l.length (l.length + 1) i (by omega) (by omega)]
  show (if i < l.length then _ else _) = _
  rw [if_pos hi, hb]
def fcsA (P : List (Nat × Nat)) : Arr := P.map fun p => [.int (p.1 : Int), .int (p.2 : Int)]
theorem fcsA_len (P : List (Nat × Nat)) : (fcsA P).length = P.length := by simp [fcsA]
theorem fcsA_snoc (P : List (Nat × Nat)) (p : Nat × Nat) : fcsA (P ++ [p]) = fcsA P ++ [[.int (p.1 : Int), .int (p.2 : Int)]] := by simp [fcsA]
@[reducible] def KF2 : List CK := [.int .i64, .int .i64]
theorem eb69 : Tryz.t44.bytes = 16 := by kernel_rfl
theorem back_pcs (b : Bool) (sel : List Nat) (n : Nat) : ∀ W : List Wth, backSs b sel n (pcs W) = pcs W
  | [] => rfl
  | w :: W => by
    show SV.int .i64 w.c :: SV.int .i64 w.n :: backSs b sel n (pcs W) = _
    rw [back_pcs b sel n W]
    rfl
theorem sets_mk {l A : List SV} {K : List SV → Prop} (h : l.length = A.length) (k : K A) : setsL l 0 (xvCells (.agg A)) K := by
  show setsL l (0 + 0) A K
  rw [sets_full l A K h]
  exact k
theorem pcs_c : ∀ (W : List Wth) (k : Nat), k < W.length → (pcs W)[k * 2]? = some (SV.int .i64 (W.getD k w0).c) ∧ (pcs W)[k * 2 + 1]? = some (SV.int .i64 (W.getD k w0).n)
  | [], k, h => absurd h (Nat.not_lt_zero k)
  | w :: W, 0, _ => ⟨rfl, rfl⟩
  | w :: W, k + 1, h => by
    have h1 := pcs_c W k (by simpa using h)
    rw [show (k + 1) * 2 = k * 2 + 1 + 1 by omega]
    exact h1
theorem pg1 (W : List Wth) (k : Nat) (hk : k < W.length) : getL (pcs W) (0 + k * (0 + 1 + 1) + (0 + 1)) = some (SV.int .i64 (W.getD k w0).n) := by
  rw [getL_eq, ← (pcs_c W k hk).2]
  congr 1
  omega
theorem pg0 (W : List Wth) (k : Nat) (hk : k < W.length) : getL (pcs W) (0 + k * (0 + 1 + 1)) = some (SV.int .i64 (W.getD k w0).c) := by
  rw [getL_eq, ← (pcs_c W k hk).1]
  congr 1
  omega
inductive AlRs (F : List Fmt) (l : List Sng) (r : AV) (m' : List (Option Blk)) : Prop
  | bad (h : fmsE F l ≠ 0) (hr : r = .tup [.one .nils, I 0, I (fmsE F l)]) (hm : m' = [some gNone])
  | none (hA : AlbOK F l) (h : bst F l 0 = none) (hr : r = .tup [.one .nils, I 0, I 15]) (hm : m' = [some gNone])
  | ok (hA : AlbOK F l) (w : Int × Int) (q : Nat × Nat) (h : bst F l 0 = some (w, q)) (hr : r = .tup [.one (.lst false KF2 (fcsA (planB F l l.length 0))), I w.1, I 0]) (hm : m' = [some gNone])
theorem s18a (F : List Fmt) (l : List Sng) (hI : ∀ i, (F.getD i f0).nm.size ≤ 9223372036854775807) : HSpec Tryz.prog 7 [lFmt F, lSng l] [gNone] (AlRs F l) := by
  have e0 : rI [[Cell.int (-1), Cell.int 0]] 0 0 = -1 := rfl
  have e1 : rI [[Cell.int (-1), Cell.int 0]] 0 (0 + 1) = 0 := rfl
  refine spec_of pMix (O := []) Tryz.func7 (c := bodyOf Tryz.f7) rfl (by kernel_rfl) (by kernel_rfl) Tryz.ntmps7 (res := [.tmp 4, .tmp 5, .tmp 6]) (by kernel_rfl) ?_
  repeat' ((conv => whnf); first | refine Rng.g ?_ | fail)
  conv => whnf
  refine CallVC.mk [] _ _ _ rfl rfl rfl (s49 F l hI) (fun r m' h' => ?_)
  rcases h' with ⟨he, rfl, rfl⟩ | ⟨he, rfl, rfl⟩ | ⟨hA, rfl, rfl⟩
  · repeat' ((conv => whnf); first | (refine Br.mk (fun h => ?_) (fun h => ?_) <;> first | (exfalso; omega; done) | (exfalso; simp at h; done) | skip))
    repeat refine Mm.mk ?_
    conv => whnf
    refine EndVC.mk _ rfl _ _ (.bad he rfl rfl) ?_
    refine ⟨[some 0], rfl, rfl, ?_, ?_⟩ <;> repeat' (first | exact trivial | exact rfl | apply And.intro)
  · repeat' ((conv => whnf); first | (refine Br.mk (fun h => ?_) (fun h => ?_) <;> first | (exfalso; omega; done) | (exfalso; simp at h; done) | skip))
    repeat refine Mm.mk ?_
    conv => whnf
    refine EndVC.mk _ rfl _ _ (.bad he rfl rfl) ?_
    refine ⟨[some 0], rfl, rfl, ?_, ?_⟩ <;> repeat' (first | exact trivial | exact rfl | apply And.intro)
  have h24 := hA.sngs.len
  repeat' ((conv => whnf); first | (refine Br.mk (fun h => ?_) (fun h => ?_) <;> first | (exfalso; omega; done) | (exfalso; simp at h; done) | skip))
  conv => whnf
  refine CallVC.mk [0, 1] _ _ _ rfl rfl rfl (s46b F l hA) (fun r m' h' => ?_)
  obtain ⟨W, Fa, hArr, rfl, rfl⟩ := h'
  conv => whnf
  have lW := hArr.lw
  have lF := hArr.lf
  have q1 : ((lenL (xvCells (XV.agg (pcs W)))).beq Tryz.t65.size && noAny (xvCells (XV.agg (pcs W)))) = true := by
    rw [show xvCells (XV.agg (pcs W)) = pcs W from rfl, noAny_pcs, lenL_eq, pcs_len, lW, sz87]
    rfl
  have q2 : ((lenL (xvCells (XV.agg (pcs Fa)))).beq Tryz.t66.size && noAny (xvCells (XV.agg (pcs Fa)))) = true := by
    rw [show xvCells (XV.agg (pcs Fa)) = pcs Fa from rfl, noAny_pcs, lenL_eq, pcs_len, lF, sz88]
    rfl
  have b1 := pw_ble W 0 Tryz.t64.size (by rw [sz86]; exact Nat.le_refl 2) (by omega)
  have g1 : takeL (dropL (pcs W) (0 + 0 * (0 + 1 + 1))) Tryz.t64.size = [SV.int .i64 (W.getD 0 w0).c, SV.int .i64 (W.getD 0 w0).n] := by rw [sz86]; exact pw_get W 0 (by omega)
  rw [back_pcs]
  repeat' ((conv => whnf); first | rw [q1] | rw [fSs_eq] | rw [back_pcs])
  refine sets_mk (by rw [pcs_len, lW]; rfl) ?_
  repeat' ((conv => whnf); first | rw [q2] | rw [fSs_eq])
  refine sets_mk (by rw [pcs_len, lF]; rfl) ?_
  have hw0 := hArr.w 0 (Nat.le_refl 0) (Nat.zero_le _)
  rw [hw0] at g1
  have e00 : Int.toNat 0 = 0 := rfl
  cases hb : bst F l 0 with
  | none =>
    rw [hb] at g1
    repeat' ((conv => whnf); first | rw [fSs_eq] | rw [e00] | rw [b1] | rw [g1] | rw [e0] | rw [e1] | refine Ob.g ?_ | (refine Br.mk (fun h => ?_) (fun h => ?_) <;> first | (exfalso; omega; done) | (exfalso; simp at h; done) | skip))
    all_goals first | (exfalso; exact h ⟨rfl, rfl, trivial⟩) | skip
    repeat refine Mm.mk ?_
    conv => whnf
    refine EndVC.mk _ rfl _ _ (.none hA hb rfl rfl) ?_
    refine ⟨[some 0], rfl, rfl, ?_, ?_⟩ <;> repeat' (first | exact trivial | exact rfl | apply And.intro)
  | some e =>
    rw [hb] at g1
    obtain ⟨w, q⟩ := e
    obtain ⟨⟨c1, c2⟩, c3, c4⟩ := bst_bd hA (Nat.zero_le _) hb
    have hne : ¬ ((wOf (some (w, q))).c = -1) := fun h => by simp only [wOf] at h; omega
    have hne2 : ¬ ((wOf (some (w, q))).c = -1 ∧ (wOf (some (w, q))).n = 0 ∧ True) := fun h => hne h.1
    repeat' ((conv => whnf); first | rw [fSs_eq] | rw [e00] | rw [b1] | rw [g1] | rw [e0] | rw [e1] | refine Ob.g ?_ | (refine Br.mk (fun h => ?_) (fun h => ?_) <;> first | (exfalso; omega; done) | (exfalso; simp at h; done) | skip))
    all_goals first | contradiction | skip
    all_goals (first | (exfalso; rename_i hx; exact hne2 hx) | skip)
    refine LoopVC.mk (fun n st => ∃ (i : Nat) (D : List (Nat × Nat)), i ≤ l.length ∧ n = l.length - i ∧ (∃ e, bst F l i = some e) ∧ planB F l l.length 0 = D ++ planB F l l.length i ∧ D.length ≤ i ∧ st = ⟨1, envA 53 [(7, .x (.one (.ptr 1 0))), (9, .x (.one (.ptr 2 0))), (10, .x (.one (.ptr 3 0))), (11, .x (.one (.own 4))), (12, .int .i64 (i : Int))], [some gNone, some (bAlb F l (l.length : Int)), some (.box 65 (pcs W)), some (.box 66 (pcs Fa)), some (.row 44 false KF2 (fcsA D))]⟩) _ _ ⟨0, [], Nat.zero_le _, rfl, ⟨_, hb⟩, rfl, Nat.le_refl _, rfl⟩ ?_ ?_
    · refine ⟨[some 0, some 1, some 2, some 3, none], rfl, rfl, ?_, ?_⟩ <;> repeat' (first | exact trivial | exact rfl | apply And.intro)
      all_goals first | exact pcs_le _ _ _ _ | skip
    rintro n _ ⟨i, D, hi, hn, ⟨e, he⟩, hP, hD, rfl⟩
    have lD := fcsA_len D
    have ext : (i : Int).toNat = i := Int.toNat_natCast i
    by_cases hi' : i < l.length
    rotate_left
    · have ei : i = l.length := by omega
      subst ei
      have hfin : planB F l l.length l.length = [] := by
        rw [planB_fuel l.length 0 l.length (by omega) (by omega)]
        rfl
      rw [hfin, List.append_nil] at hP
      have p0 : getL (pcs W) (0 + 0 * (0 + 1 + 1)) = some (SV.int .i64 w.1) := by rw [pg0 W 0 (by omega), hw0, hb]; rfl
      repeat' ((conv => whnf); first | rw [e00] | rw [p0] | refine Ob.g ?_ | (refine Br.mk (fun h => ?_) (fun h => ?_) <;> first | (exfalso; omega; done) | (exfalso; simp at h; done) | skip))
      repeat refine Mm.mk ?_
      conv => whnf
      refine EndVC.mk _ rfl _ _ (.ok hA w q hb rfl rfl) ?_
      refine ⟨[some 0], rfl, rfl, ?_, ?_⟩ <;> repeat' (first | exact trivial | exact rfl | apply And.intro)
      rw [hP]
    obtain ⟨w', k, j⟩ := e
    have hfi : Fa.getD i w0 = ⟨(k : Int), (j : Int) - (i : Int)⟩ := hArr.f i _ (Nat.zero_le _) hi' he
    have hstep := planB_step hi' he
    have hj := mem_faces.1 ((bst_ok (F := F) hi').from_ w' (k, j) he).1
    have hj1 := hj.lt
    have hj2 := hj.le
    obtain ⟨h1, w2, f2, h3, _⟩ := (bst_ok (F := F) hi').from_ w' (k, j) he
    have b3 := pw_ble Fa i Tryz.t44.size (by rw [sz69]; exact Nat.le_refl 2) (by omega)
    have g3 : takeL (dropL (pcs Fa) (0 + i * (0 + 1 + 1))) Tryz.t44.size = [SV.int .i64 (Fa.getD i w0).c, SV.int .i64 (Fa.getD i w0).n] := by rw [sz69]; exact pw_get Fa i (by omega)
    have g4 := pg1 Fa i (by omega)
    rw [hfi] at g3 g4
    simp only at g3 g4
    have hsn := (fcsA_snoc D (k, j - i)).symm
    simp only at hj1 hj2 h3
    have ek : ((j - i : Nat) : Int) = (j : Int) - (i : Int) := by omega
    simp only [ek] at hsn
    repeat' ((conv => whnf); first | rw [ext] | rw [b3] | rw [g3] | refine Ob.g ?_ | (refine Br.mk (fun h => ?_) (fun h => ?_) <;> first | (exfalso; omega; done) | (exfalso; simp at h; done) | skip))
    repeat refine Mm.mk ?_
    refine Ob.mk (by rw [eb69]; simp only [List.length_cons, List.length_nil]; omega) ?_
    repeat' ((conv => whnf); first | rw [ext] | rw [g4] | refine Rng.g ?_ | refine Ob.g ?_ | fail)
    refine Back.mk (l.length - j) _ (by omega) ⟨j, D ++ [(k, j - i)], by omega, rfl, ⟨_, h3⟩, by rw [hP, hstep, List.append_assoc]; rfl, by rw [List.length_append, List.length_singleton]; omega, rfl⟩ ?_
    refine ⟨[some 0, some 1, some 2, some 3, some 6], rfl, rfl, ?_, ?_⟩ <;> repeat' (first | exact trivial | exact rfl | apply And.intro)
    all_goals first | exact pcs_le _ _ _ _ | omega | exact hsn | (rw [fcsA_snoc]; simp only [ek])
end Go.Sx.Sd

namespace Go.Sx.Sd
open Go Go.Proofs Go.Sx
set_option maxRecDepth 10000
set_option maxHeartbeats 8000000
/-! ### An order is laid, as the document tells it -/
end Go.Sx.Sd

namespace Go.Sx.Sd
open Go Go.Proofs Go.Sx
set_option maxRecDepth 10000
set_option maxHeartbeats 8000000
/-! ### The examples -/
instance (f : Fmt) (l : List Sng) (O : List Int) (i : Nat) : Decidable (okAt f l O i) := by unfold okAt; exact inferInstance
instance (f : Fmt) (l : List Sng) (O : List Int) : Decidable (LayOK f l O) := by unfold LayOK; exact inferInstance
end Go.Sx.Sd

namespace Go.Sx.Sd
open Go Go.Proofs Go.Sx
set_option maxRecDepth 10000
set_option maxHeartbeats 8000000
/-! ### Which prices are right -/
structure WrgOK (n : Nat) (B : Nat → Prop) (a : Int) : Prop where
  rng : 1 ≤ a ∧ a ≤ n + 1
  bad : a ≤ n → B a.toNat
  least : ∀ j, B j → a ≤ j
theorem WrgOK.congr {n : Nat} {B B' : Nat → Prop} {a : Int} (h : WrgOK n B a) (e : ∀ j, B j ↔ B' j) : WrgOK n B' a := ⟨h.rng, fun hn => (e _).1 (h.bad hn), fun j hj => h.least j ((e j).2 hj)⟩
end Go.Sx.Sd

namespace Go.Sx.Sd
open Go Go.Proofs Go.Sx
set_option maxRecDepth 10000
set_option maxHeartbeats 8000000
end Go.Sx.Sd

namespace Go.Sx.Sd
open Go Go.Proofs Go.Sx
set_option maxRecDepth 10000
set_option maxHeartbeats 8000000
/-! ### SidePriced -/
theorem s48 (F : List Fmt) (l : List Sng) : PSpec Tryz.prog 6 [lFmt F, lSng l] (.x (I (fmsE F l))) := by
  have lF := fmtA_len F
  have ll := sngA_len l
  by_cases h8 : F.length = 0 ∨ 8 < F.length
  · rw [fmsE_many h8]
    refine spec_of pMix (O := []) Tryz.func6 (c := bodyOf Tryz.f6) rfl (by kernel_rfl) (by kernel_rfl) Tryz.ntmps6 (res := [.tmp 4]) (by kernel_rfl) ?_
    repeat' ((conv => whnf); first | (refine Br.mk (fun h => ?_) (fun h => ?_) <;> first | (exfalso; omega; done) | (exfalso; simp at h; done) | skip))
    all_goals
      repeat refine Mm.mk ?_
      refine EndVC.mk _ rfl _ _ ⟨rfl, rfl⟩ ?_
      refine ⟨[], rfl, rfl, ?_, ?_⟩ <;> repeat' (first | exact trivial | exact rfl | apply And.intro)
  refine spec_of pMix (O := []) Tryz.func6 (c := bodyOf Tryz.f6) rfl (by kernel_rfl) (by kernel_rfl) Tryz.ntmps6 (res := [.tmp 4]) (by kernel_rfl) ?_
  repeat' ((conv => whnf); first | (refine Br.mk (fun h => ?_) (fun h => ?_) <;> first | (exfalso; omega; done) | (exfalso; simp at h; done) | skip))
  refine LoopVC.mk (fun n st => ∃ (i : Nat), i ≤ F.length ∧ n = F.length - i ∧ (∀ j, j < i → FmtOK (F.getD j f0)) ∧ st = ⟨0, envA 31 [(0, .x (lFmt F)), (1, .x (lSng l)), (5, .int .i64 (i : Int))], []⟩) _ _ ⟨0, Nat.zero_le _, rfl, fun j hj => absurd hj (Nat.not_lt_zero j), rfl⟩ ?_ ?_
  · refine ⟨[], rfl, rfl, ?_, ?_⟩ <;> repeat' (first | exact trivial | exact rfl | apply And.intro)
  rintro n _ ⟨i, hi, hn, hj, rfl⟩
  by_cases hi' : i < F.length
  · obtain ⟨g0', g1, g2, g3, g4, g5, g6, g7⟩ := fmt_at F i hi'
    have et : (i : Int).toNat = i := Int.toNat_natCast i
    obtain ⟨f, hfe⟩ : ∃ f, F.getD i f0 = f := ⟨_, rfl⟩
    rw [hfe] at g0' g1 g2 g3 g4 g5 g6 g7
    have k0 := s41 f
    by_cases h0 : FmtOK f
    · rw [fmtE_ok h0] at k0
      repeat' ((conv => whnf); first | rw [et] | rw [g0'] | rw [g1] | rw [g2] | rw [g3] | rw [g4] | rw [g5] | rw [g6] | rw [g7] | refine Rng.g ?_ | refine Ob.g ?_ | refine CallVC.pure rfl (k0) ?_ | (refine Br.mk (fun h => ?_) (fun h => ?_) <;> first | (exfalso; omega; done) | (exfalso; simp at h; done) | skip))
      refine Back.mk (F.length - (i + 1)) _ (by omega) ⟨i + 1, by omega, rfl, fun j hj' => ?_, rfl⟩ ?_
      · rcases Nat.lt_succ_iff_lt_or_eq.1 hj' with h' | rfl
        · exact hj j h'
        · rw [hfe]; exact h0
      · refine ⟨[], rfl, rfl, ?_, ?_⟩ <;> repeat' (first | exact trivial | exact rfl | apply And.intro)
    · rw [fmtE_no h0] at k0
      have he : fmsE F l = 2 := fmsE_bad h8 hi' (by rw [hfe]; exact h0)
      rw [he]
      repeat' ((conv => whnf); first | rw [et] | rw [g0'] | rw [g1] | rw [g2] | rw [g3] | rw [g4] | rw [g5] | rw [g6] | rw [g7] | refine Ob.g ?_ | refine CallVC.pure rfl (k0) ?_ | (refine Br.mk (fun h => ?_) (fun h => ?_) <;> first | (exfalso; omega; done) | (exfalso; simp at h; done) | skip))
      repeat refine Mm.mk ?_
      refine EndVC.mk _ rfl _ _ ⟨rfl, rfl⟩ ?_
      refine ⟨[], rfl, rfl, ?_, ?_⟩ <;> repeat' (first | exact trivial | exact rfl | apply And.intro)
  · have ei : i = F.length := by omega
    subst ei
    have k1 := s42 l
    have he := fmsE_trk (l := l) h8 hj
    rw [he]
    repeat' ((conv => whnf); first | refine CallVC.pure rfl (k1) ?_ | (refine Br.mk (fun h => ?_) (fun h => ?_) <;> first | (exfalso; omega; done) | (exfalso; simp at h; done) | skip))
    repeat refine Mm.mk ?_
    refine EndVC.mk _ rfl _ _ ⟨rfl, rfl⟩ ?_
    refine ⟨[], rfl, rfl, ?_, ?_⟩ <;> repeat' (first | exact trivial | exact rfl | apply And.intro)
end Go.Sx.Sd

namespace Go.Sx.Sd
open Go Go.Proofs Go.Sx
set_option maxRecDepth 10000
set_option maxHeartbeats 16000000
/-! ### SideCheaper -/
end Go.Sx.Sd

namespace Go.Sx
open Go Go.Proofs
set_option maxRecDepth 10000
set_option maxHeartbeats 4000000
/-! ### Shortest ways by relaxing edges in rounds: plain laws -/
structure Edg where
  rule : Int
  pos : Int
  fr : Int
  to : Int
  w : Int
abbrev e0 : Edg := ⟨0, 0, 0, 0, 0⟩
structure LSt where
  R : List Int
  P : List Edg
  c : Int
def nx (P : List Edg) (v : Nat) : Nat := (P.getD v e0).fr.toNat
def rlx (s : LSt) (x : Edg) : LSt := if s.R.getD x.to.toNat 0 ≤ s.R.getD x.fr.toNat 0 + x.w then s else ⟨s.R.set x.to.toNat (s.R.getD x.fr.toNat 0 + x.w), s.P.set x.to.toNat x, x.to⟩
structure EOK (n : Nat) (B : Int) (x : Edg) : Prop where
  f : 0 ≤ x.fr ∧ x.fr < n
  t : 0 ≤ x.to ∧ x.to < n
  ne : x.fr ≠ x.to
  w : -B ≤ x.w ∧ x.w ≤ B
structure LJ (n : Nat) (ini : Nat → Int) (E D : List Edg) (r : Int) (s : LSt) (L : Int) (N : Nat) (t : Nat → Nat) (T : Nat → Int) : Prop where
  lr : s.R.length = n
  lp : s.P.length = n
  hi : ∀ v, v < n → s.R.getD v 0 ≤ ini v
  lo : ∀ v, v < n → -L ≤ s.R.getD v 0
  lb : ∀ y : Nat → Int, (∀ v, v < n → y v ≤ ini v) → (∀ e, e ∈ E → y e.to.toNat ≤ y e.fr.toNat + e.w) → ∀ v, v < n → y v ≤ s.R.getD v 0
  tm : ∀ v, t v ≤ N
  tr : ∀ v, T v ≤ r
  pa : ∀ v, v < n → ((s.P.getD v e0).fr = -1 ∧ T v = -1) ∨ (s.P.getD v e0 ∈ E ∧ (s.P.getD v e0).to = (v : Int) ∧ T v ≤ T (nx s.P v) + 1 ∧ (s.R.getD (nx s.P v) 0 + (s.P.getD v e0).w < s.R.getD v 0 ∨ (s.R.getD v 0 = s.R.getD (nx s.P v) 0 + (s.P.getD v e0).w ∧ t (nx s.P v) < t v)))
  al : ∀ e, e ∈ E → r - 1 ≤ T e.fr.toNat ∨ s.R.getD e.to.toNat 0 ≤ s.R.getD e.fr.toNat 0 + e.w
  dn : ∀ e, e ∈ D → r ≤ T e.fr.toNat ∨ s.R.getD e.to.toNat 0 ≤ s.R.getD e.fr.toNat 0 + e.w
  c : (s.c = -1 ∧ ∀ e, e ∈ D → s.R.getD e.to.toNat 0 ≤ s.R.getD e.fr.toNat 0 + e.w) ∨ (0 ≤ s.c ∧ s.c < n ∧ T s.c.toNat = r)
theorem gset {α : Type} (l : List α) (i j : Nat) (a d : α) (h : i < l.length) : (l.set i a).getD j d = if j = i then a else l.getD j d := by
  simp only [List.getD_eq_getElem?_getD, List.getElem?_set]
  by_cases e : i = j
  · subst e; simp [h]
  · rw [if_neg e, if_neg (fun h => e h.symm)]
theorem LJ.step {n : Nat} {B : Int} {ini : Nat → Int} {E D : List Edg} {r : Int} {s : LSt} {L : Int} {N : Nat} {t : Nat → Nat} {T : Nat → Int} (h : LJ n ini E D r s L N t T) (hB : 0 ≤ B) (hE : ∀ e, e ∈ E → EOK n B e) {x : Edg} (hx : x ∈ E) : ∃ t' T', LJ n ini E (x :: D) r (rlx s x) (L + B) (N + 1) t' T' := by
  obtain ⟨hf, ht, hne, hw⟩ := hE x hx
  unfold rlx
  by_cases hc : s.R.getD x.to.toNat 0 ≤ s.R.getD x.fr.toNat 0 + x.w
  · rw [if_pos hc]
    refine ⟨t, T, h.lr, h.lp, h.hi, fun v hv => by have := h.lo v hv; omega, h.lb, fun v => Nat.le_succ_of_le (h.tm v), h.tr, h.pa, h.al, ?_, ?_⟩
    · intro e he
      rcases List.mem_cons.1 he with rfl | he
      · exact .inr hc
      · exact h.dn e he
    · rcases h.c with ⟨h1, h2⟩ | h1
      · refine .inl ⟨h1, fun e he => ?_⟩
        rcases List.mem_cons.1 he with rfl | he
        · exact hc
        · exact h2 e he
      · exact .inr h1
  · rw [if_neg hc]
    obtain ⟨u, hu⟩ : ∃ u, x.fr.toNat = u := ⟨_, rfl⟩
    obtain ⟨z, hz⟩ : ∃ z, x.to.toNat = z := ⟨_, rfl⟩
    have hun : u < n := by omega
    have hzn : z < n := by omega
    have huz : u ≠ z := by omega
    rw [hu, hz] at hc ⊢
    have hlr := h.lr
    have hlp := h.lp
    have gR : ∀ j, (s.R.set z (s.R.getD u 0 + x.w)).getD j 0 = if j = z then s.R.getD u 0 + x.w else s.R.getD j 0 := fun j => gset _ _ _ _ _ (by omega)
    have gP : ∀ j, (s.P.set z x).getD j e0 = if j = z then x else s.P.getD j e0 := fun j => gset _ _ _ _ _ (by omega)
    have hlow := h.lo u hun
    have key : ∀ e : Edg, e.fr.toNat ≠ z → s.R.getD e.to.toNat 0 ≤ s.R.getD e.fr.toNat 0 + e.w → (s.R.set z (s.R.getD u 0 + x.w)).getD e.to.toNat 0 ≤ (s.R.set z (s.R.getD u 0 + x.w)).getD e.fr.toNat 0 + e.w := by
      intro e h1 h2
      rw [gR, gR, if_neg h1]
      split
      · rename_i h3
        rw [h3] at h2
        omega
      · exact h2
    refine ⟨fun v => if v = z then N + 1 else t v, fun v => if v = z then r else T v, ?_, ?_, ?_, ?_, ?_, ?_, ?_, ?_, ?_, ?_, ?_⟩
    · simp only [List.length_set]; exact hlr
    · simp only [List.length_set]; exact hlp
    · intro v hv
      simp only [gR]
      have := h.hi v hv
      split
      · rename_i h3
        rw [h3] at this
        rw [h3]
        omega
      · exact this
    · intro v hv
      simp only [gR]
      have := h.lo v hv
      split <;> omega
    · intro y h1 h2 v hv
      simp only [gR]
      have h3 := h.lb y h1 h2
      split
      · rename_i h4
        have h5 := h2 x hx
        rw [hu, hz] at h5
        have h6 := h3 u hun
        rw [h4]
        omega
      · exact h3 v hv
    · intro v
      show (if v = z then N + 1 else t v) ≤ N + 1
      have := h.tm v
      split <;> omega
    · intro v
      show (if v = z then r else T v) ≤ r
      have := h.tr v
      split <;> omega
    · intro v hv
      by_cases hvz : v = z
      · refine .inr ?_
        have e1 : (s.P.set z x).getD v e0 = x := by rw [gP, if_pos hvz]
        have e2 : nx (s.P.set z x) v = u := by unfold nx; rw [e1]; exact hu
        simp only [e1, e2]
        refine ⟨hx, by omega, ?_, .inr ⟨?_, ?_⟩⟩
        · rw [if_pos hvz, if_neg huz]
          rcases h.al x hx with h1 | h1
          · rw [hu] at h1; omega
          · rw [hu, hz] at h1; exact absurd h1 hc
        · rw [gR, gR, if_pos hvz, if_neg huz]
        · rw [if_neg huz, if_pos hvz]
          have := h.tm u
          omega
      · have e1 : (s.P.set z x).getD v e0 = s.P.getD v e0 := by rw [gP, if_neg hvz]
        have e2 : nx (s.P.set z x) v = nx s.P v := by unfold nx; rw [e1]
        simp only [e1, e2]
        rcases h.pa v hv with h1 | ⟨h1, h2, h3, h4⟩
        · exact .inl ⟨h1.1, by rw [if_neg hvz]; exact h1.2⟩
        · refine .inr ⟨h1, h2, ?_, ?_⟩
          · rw [if_neg hvz]
            have := h.tr v
            split <;> omega
          · rw [gR, gR, if_neg hvz, if_neg hvz]
            by_cases hq : nx s.P v = z
            · rw [if_pos hq]
              rw [hq] at h4
              refine .inl ?_
              rcases h4 with h4 | h4 <;> omega
            · rw [if_neg hq, if_neg hq]
              exact h4
    · intro e he
      by_cases h1 : e.fr.toNat = z
      · refine .inl ?_
        simp only [h1, if_pos]
        omega
      · rcases h.al e he with h2 | h2
        · refine .inl ?_
          simp only [if_neg h1]
          exact h2
        · exact .inr (key e h1 h2)
    · intro e he
      by_cases h1 : e.fr.toNat = z
      · refine .inl ?_
        simp only [h1, if_pos]
        omega
      · rcases List.mem_cons.1 he with h2 | h2
        · refine .inr ?_
          subst h2
          show (s.R.set z (s.R.getD u 0 + e.w)).getD e.to.toNat 0 ≤ (s.R.set z (s.R.getD u 0 + e.w)).getD e.fr.toNat 0 + e.w
          rw [gR, gR, if_pos hz, if_neg h1, hu]
          omega
        · rcases h.dn e h2 with h3 | h3
          · refine .inl ?_
            simp only [if_neg h1]
            exact h3
          · exact .inr (key e h1 h3)
    · refine .inr ⟨ht.1, ht.2, ?_⟩
      show (if x.to.toNat = z then r else T x.to.toNat) = r
      rw [if_pos hz]
theorem LJ.next {n : Nat} {ini : Nat → Int} {E D : List Edg} {r : Int} {s : LSt} {L : Int} {N : Nat} {t : Nat → Nat} {T : Nat → Int} (h : LJ n ini E D r s L N t T) (hD : ∀ e, e ∈ E → e ∈ D) : LJ n ini E [] (r + 1) ⟨s.R, s.P, -1⟩ L N t T :=
  ⟨h.lr, h.lp, h.hi, h.lo, h.lb, h.tm, fun v => by have := h.tr v; omega, h.pa, fun e he => by
    rcases h.dn e (hD e he) with h1 | h1
    · exact .inl (by omega)
    · exact .inr h1, fun e he => (List.not_mem_nil he).elim, .inl ⟨rfl, fun e he => (List.not_mem_nil he).elim⟩⟩
end Go.Sx

namespace Go.Sx
open Go Go.Proofs
set_option maxRecDepth 10000
set_option maxHeartbeats 4000000
/-! ### What a blank asks of a cut -/
structure Blnk where
  per : Int
  rim : Int
  core : Int
  land : Int
  slow : Int
  fast : Int
structure BlnkOK (b : Blnk) : Prop where
  per : 1 ≤ b.per ∧ b.per ≤ 65536
  rim : 0 ≤ b.rim ∧ b.rim ≤ 4194304
  core : 0 ≤ b.core ∧ b.core ≤ b.rim
  land : 0 ≤ b.land ∧ b.land ≤ 65536
  fast : 0 ≤ b.fast ∧ b.fast ≤ 65536
  slow : 0 ≤ b.slow ∧ b.slow ≤ b.fast
def eR (b : Blnk) (p : List Smp) (i : Nat) : Edg := ⟨1, i, -1, i, b.rim - (p.getD i s0).r⟩
def eS (b : Blnk) (i : Nat) : Edg := ⟨3, i, (i : Int) - 1, i, -b.slow⟩
def eF (b : Blnk) (i : Nat) : Edg := ⟨4, i, i, (i : Int) - 1, b.fast⟩
def eL (b : Blnk) (p : List Smp) (i : Nat) : Edg := ⟨5, i, (i : Int) - b.per, i, (p.getD ((i : Int) - b.per).toNat s0).l - (p.getD i s0).r - b.land⟩
def F1 (b : Blnk) (p : List Smp) (i : Nat) : List Edg := (if 0 < i then [eS b i] else []) ++ (if b.per ≤ i then [eL b p i] else [])
def E1 (b : Blnk) (p : List Smp) (m : Nat) : List Edg := (List.range m).flatMap (F1 b p)
def E2 (b : Blnk) (n j : Nat) : List Edg := (List.range j).map fun q => eF b (n - 1 - q)
def edgs (b : Blnk) (p : List Smp) : List Edg := E1 b p p.length ++ E2 b p.length (p.length - 1)
theorem E1_mem {b : Blnk} {p : List Smp} {m : Nat} {e : Edg} : e ∈ E1 b p m ↔ ∃ i, i < m ∧ ((0 < i ∧ e = eS b i) ∨ (b.per ≤ i ∧ e = eL b p i)) := by
  unfold E1
  rw [List.mem_flatMap]
  constructor
  · rintro ⟨i, hi, he⟩
    refine ⟨i, List.mem_range.1 hi, ?_⟩
    unfold F1 at he
    rcases List.mem_append.1 he with h | h
    · split at h
      · rename_i h1
        exact .inl ⟨h1, by simpa using h⟩
      · simp at h
    · split at h
      · rename_i h1
        exact .inr ⟨h1, by simpa using h⟩
      · simp at h
  · rintro ⟨i, hi, h⟩
    refine ⟨i, List.mem_range.2 hi, ?_⟩
    unfold F1
    rcases h with ⟨h1, rfl⟩ | ⟨h1, rfl⟩
    · exact List.mem_append.2 (.inl (by rw [if_pos h1]; simp))
    · exact List.mem_append.2 (.inr (by rw [if_pos h1]; simp))
theorem E2_mem {b : Blnk} {n j : Nat} {e : Edg} : e ∈ E2 b n j ↔ ∃ q, q < j ∧ e = eF b (n - 1 - q) := by
  unfold E2
  rw [List.mem_map]
  constructor
  · rintro ⟨q, h1, h2⟩
    exact ⟨q, List.mem_range.1 h1, h2.symm⟩
  · rintro ⟨q, h1, h2⟩
    exact ⟨q, List.mem_range.2 h1, h2.symm⟩
theorem edgs_mem {b : Blnk} {p : List Smp} {e : Edg} : e ∈ edgs b p ↔ ∃ i, i < p.length ∧ ((0 < i ∧ e = eS b i) ∨ (b.per ≤ i ∧ e = eL b p i) ∨ (0 < i ∧ e = eF b i)) := by
  unfold edgs
  rw [List.mem_append, E1_mem, E2_mem]
  constructor
  · rintro (⟨i, hi, h⟩ | ⟨q, hq, h⟩)
    · refine ⟨i, hi, ?_⟩
      rcases h with h | h
      · exact .inl h
      · exact .inr (.inl h)
    · exact ⟨p.length - 1 - q, by omega, .inr (.inr ⟨by omega, h⟩)⟩
  · rintro ⟨i, hi, h | h | ⟨h, h1⟩⟩
    · exact .inl ⟨i, hi, .inl h⟩
    · exact .inl ⟨i, hi, .inr h⟩
    · exact .inr ⟨p.length - 1 - i, by omega, by rw [h1]; congr 1; omega⟩
structure PtB (p : List Smp) : Prop where
  len : p.length ≤ 4096
  each : ∀ j, j < p.length → (-4194304 ≤ (p.getD j s0).l ∧ (p.getD j s0).l ≤ 4194304) ∧ (-4194304 ≤ (p.getD j s0).r ∧ (p.getD j s0).r ≤ 4194304)
def Feas (b : Blnk) (p : List Smp) (y : Nat → Int) : Prop := ∀ i, i < p.length → y i ≤ b.rim - (p.getD i s0).r ∧ 0 ≤ y i + ((p.getD i s0).l - b.core) ∧ (0 < i → y i ≤ y (i - 1) + -b.slow ∧ y (i - 1) ≤ y i + b.fast) ∧ (b.per ≤ i → y i ≤ y ((i : Int) - b.per).toNat + ((p.getD ((i : Int) - b.per).toNat s0).l - (p.getD i s0).r - b.land))
theorem toN1 (i : Nat) : ((i : Int) - 1).toNat = i - 1 := by omega
/-- The edges hold just if the rules between samples do. -/
theorem edgs_all {b : Blnk} {p : List Smp} {y : Nat → Int} : (∀ e, e ∈ edgs b p → y e.to.toNat ≤ y e.fr.toNat + e.w) ↔ ∀ i, i < p.length → (0 < i → y i ≤ y (i - 1) + -b.slow ∧ y (i - 1) ≤ y i + b.fast) ∧ (b.per ≤ i → y i ≤ y ((i : Int) - b.per).toNat + ((p.getD ((i : Int) - b.per).toNat s0).l - (p.getD i s0).r - b.land)) := by
  constructor
  · intro h i hi
    refine ⟨fun h0 => ⟨?_, ?_⟩, fun h0 => ?_⟩
    · have := h _ (edgs_mem.2 ⟨i, hi, .inl ⟨h0, rfl⟩⟩)
      simp only [eS, toN1, Int.toNat_natCast] at this
      exact this
    · have := h _ (edgs_mem.2 ⟨i, hi, .inr (.inr ⟨h0, rfl⟩)⟩)
      simp only [eF, toN1, Int.toNat_natCast] at this
      exact this
    · have := h _ (edgs_mem.2 ⟨i, hi, .inr (.inl ⟨h0, rfl⟩)⟩)
      simp only [eL, Int.toNat_natCast] at this
      exact this
  · intro h e he
    obtain ⟨i, hi, h1⟩ := edgs_mem.1 he
    obtain ⟨h2, h3⟩ := h i hi
    rcases h1 with ⟨h4, rfl⟩ | ⟨h4, rfl⟩ | ⟨h4, rfl⟩
    · simp only [eS, toN1, Int.toNat_natCast]
      exact (h2 h4).1
    · simp only [eL, Int.toNat_natCast]
      exact h3 h4
    · simp only [eF, toN1, Int.toNat_natCast]
      exact (h2 h4).2
theorem Feas.edges {b : Blnk} {p : List Smp} {y : Nat → Int} (h : Feas b p y) : ∀ e, e ∈ edgs b p → y e.to.toNat ≤ y e.fr.toNat + e.w := edgs_all.2 fun i hi => (h i hi).2.2
def iniF (b : Blnk) (p : List Smp) (i : Nat) : Int := b.rim - (p.getD i s0).r
/-- The outermost cut. -/
structure Best (b : Blnk) (p : List Smp) (R : List Int) : Prop where
  len : R.length = p.length
  ok : Feas b p (fun i => R.getD i 0)
  best : ∀ y, Feas b p y → ∀ i, i < p.length → y i ≤ R.getD i 0
abbrev LJp (b : Blnk) (p : List Smp) := LJ p.length (iniF b p) (edgs b p)
theorem LJ.start {b : Blnk} {p : List Smp} (hb : BlnkOK b) (hp : PtB p) {R : List Int} {P : List Edg} (l1 : R.length = p.length) (l2 : P.length = p.length) (gR : ∀ v, v < p.length → R.getD v 0 = iniF b p v) (gP : ∀ v, v < p.length → P.getD v e0 = eR b p v) : LJp b p [] 0 ⟨R, P, -1⟩ 16777216 0 (fun _ => 0) (fun _ => -1) := by
  refine ⟨l1, l2, fun v hv => ?_, fun v hv => ?_, fun y hy _ v hv => ?_, fun _ => Nat.le_refl _, fun _ => by decide, fun v hv => .inl ?_, fun e _ => .inl (by decide), fun e he => (List.not_mem_nil he).elim, .inl ⟨rfl, fun e he => (List.not_mem_nil he).elim⟩⟩
  · simp only [gR v hv]; exact Int.le_refl _
  · simp only [gR v hv]
    have := hp.each v hv
    have := hb.rim
    unfold iniF
    omega
  · simp only [gR v hv]; exact hy v hv
  · simp only [gP v hv]; exact ⟨rfl, trivial⟩
theorem LJ.fin {b : Blnk} {p : List Smp} {D : List Edg} {r : Int} {s : LSt} {L : Int} {N : Nat} {t : Nat → Nat} {T : Nat → Int} (h : LJp b p D r s L N t T) (hf : ∀ e, e ∈ edgs b p → s.R.getD e.to.toNat 0 ≤ s.R.getD e.fr.toNat 0 + e.w) (hc : ∀ i, i < p.length → 0 ≤ s.R.getD i 0 + ((p.getD i s0).l - b.core)) : Best b p s.R := by
  refine ⟨h.lr, fun i hi => ⟨h.hi i hi, hc i hi, ?_⟩, fun y hy => h.lb y (fun v hv => (hy v hv).1) hy.edges⟩
  exact (edgs_all (b := b) (p := p) (y := fun i => s.R.getD i 0)).1 hf i hi
theorem LJ.none {b : Blnk} {p : List Smp} {D : List Edg} {r : Int} {s : LSt} {L : Int} {N : Nat} {t : Nat → Nat} {T : Nat → Int} (h : LJp b p D r s L N t T) {i : Nat} (hi : i < p.length) (hc : s.R.getD i 0 + ((p.getD i s0).l - b.core) < 0) (y : Nat → Int) : ¬ Feas b p y := fun hy => by
  have h1 := h.lb y (fun v hv => (hy v hv).1) hy.edges i hi
  have h2 := (hy i hi).2.1
  omega
end Go.Sx

namespace Go.Sx
open Go Go.Proofs
set_option maxRecDepth 10000
set_option maxHeartbeats 4000000
/-! ### A groove without a signal, and a groove in its band -/
/-! ### Sorting by insertion -/
def swp (O : List Int) (j : Nat) : List Int := (O.set (j + 1) (O.getD j 0)).set j (O.getD (j + 1) 0)
def ins (lt : Int → Int → Bool) (O : List Int) : Nat → List Int
  | 0 => O
  | j + 1 => if lt (O.getD (j + 1) 0) (O.getD j 0) = true then ins lt (swp O j) j else O
def isr (lt : Int → Int → Bool) (O : List Int) : Nat → List Int
  | 0 => O
  | k + 1 => ins lt (isr lt O k) (k + 1)
theorem swp_len (O : List Int) (j : Nat) : (swp O j).length = O.length := by simp [swp]
theorem ins_len (lt : Int → Int → Bool) : ∀ (j : Nat) (O : List Int), (ins lt O j).length = O.length
  | 0, O => rfl
  | j + 1, O => by
    unfold ins
    split
    · rw [ins_len lt j, swp_len]
    · rfl
theorem isr_len (lt : Int → Int → Bool) (O : List Int) : ∀ k, (isr lt O k).length = O.length
  | 0 => rfl
  | k + 1 => by
    unfold isr
    rw [ins_len, isr_len lt O k]
/-- Each number below n, once. -/
structure IdxOK (O : List Int) (n : Nat) : Prop where
  len : O.length = n
  rng : ∀ i, i < n → 0 ≤ O.getD i 0 ∧ O.getD i 0 < n
  inj : ∀ i j, i < n → j < n → O.getD i 0 = O.getD j 0 → i = j
def sgF (j i : Nat) : Nat := if i = j then j + 1 else if i = j + 1 then j else i
theorem swp_get (O : List Int) {j : Nat} (h : j + 1 < O.length) (i : Nat) : (swp O j).getD i 0 = O.getD (sgF j i) 0 := by
  unfold swp sgF
  rw [gset _ _ _ _ _ (by simp; omega), gset _ _ _ _ _ h]
  split
  · rfl
  · split <;> rfl
theorem sg_lt {n j i : Nat} (hj : j + 1 < n) (hi : i < n) : sgF j i < n := by unfold sgF; split <;> (try split) <;> omega
theorem sg_inj {j i k : Nat} (h : sgF j i = sgF j k) : i = k := by unfold sgF at h; (repeat' split at h) <;> omega
theorem IdxOK.swp {O : List Int} {n : Nat} (h : IdxOK O n) {j : Nat} (hj : j + 1 < n) : IdxOK (Go.Sx.swp O j) n := by
  have hl := h.len
  have g := swp_get O (j := j) (by omega)
  refine ⟨by rw [swp_len]; exact hl, fun i hi => ?_, fun i k hi hk => ?_⟩
  · rw [g]
    exact h.rng _ (sg_lt hj hi)
  · rw [g, g]
    exact fun e => sg_inj (h.inj _ _ (sg_lt hj hi) (sg_lt hj hk) e)
theorem IdxOK.ins {lt : Int → Int → Bool} {n : Nat} : ∀ (j : Nat) {O : List Int}, IdxOK O n → j < n → IdxOK (Go.Sx.ins lt O j) n
  | 0, O, h, _ => h
  | j + 1, O, h, hj => by
    unfold Go.Sx.ins
    split
    · exact IdxOK.ins j (h.swp hj) (by omega)
    · exact h
theorem IdxOK.isr {lt : Int → Int → Bool} {n : Nat} {O : List Int} (h : IdxOK O n) : ∀ k, k < n → IdxOK (Go.Sx.isr lt O k) n
  | 0, _ => h
  | k + 1, hk => by
    unfold Go.Sx.isr
    exact IdxOK.ins (k + 1) (h.isr k (by omega)) hk
def spanL (i n : Nat) : List Int := (List.range n).map fun k => ((i + k : Nat) : Int)
theorem spanL_len (i n : Nat) : (spanL i n).length = n := by simp [spanL]
theorem spanL_get (i n k : Nat) (h : k < n) : (spanL i n).getD k 0 = ((i + k : Nat) : Int) := by simp [spanL, List.getD_eq_getElem?_getD, List.getElem?_range h]
theorem spanL_succ (i n : Nat) : spanL i (n + 1) = spanL i n ++ [((i + n : Nat) : Int)] := by simp [spanL, List.range_succ]
theorem span_idx (n : Nat) : IdxOK (spanL 0 n) n := ⟨spanL_len 0 n, fun i hi => by rw [spanL_get _ _ _ hi]; omega, fun i j hi hj e => by rw [spanL_get _ _ _ hi, spanL_get _ _ _ hj] at e; omega⟩
/-! ### The bands of a side -/
structure Fmt where
  nm : ByteArray
  outer : Int
  inner : Int
  per : Int
  lead : Int
  gap : Int
  tail : Int
  cost : Int
structure FmtOK (f : Fmt) : Prop where
  nm : nameOK f.nm
  outer : 1 ≤ f.outer ∧ f.outer ≤ 4194304
  inner : 0 ≤ f.inner ∧ f.inner ≤ f.outer - 1
  per : 1 ≤ f.per ∧ f.per ≤ 65536
  cost : 0 ≤ f.cost ∧ f.cost ≤ 1048576
  lead : 0 ≤ f.lead ∧ f.lead ≤ 4194304
  gap : 0 ≤ f.gap ∧ f.gap ≤ 4194304
  tail : 0 ≤ f.tail ∧ f.tail ≤ 4194304
structure Sng where
  long : Int
  pitch : Int
  least : Int
abbrev g0 : Sng := ⟨0, 0, 0⟩
def Sng.ok (g : Sng) : Prop := (1 ≤ g.long ∧ g.long ≤ 16777216) ∧ (1 ≤ g.pitch ∧ g.pitch ≤ 4096) ∧ (0 ≤ g.least ∧ g.least ≤ 4194304)
structure SngsOK (l : List Sng) : Prop where
  len : l.length ≤ 24
  each : ∀ j, j < l.length → (l.getD j g0).ok
def widF (f : Fmt) (g : Sng) : Int := g.pitch * ((g.long + f.per - 1) / f.per)
theorem wid_bd {f : Fmt} {g : Sng} (hp : 1 ≤ f.per) (hg : g.ok) : (1 ≤ (g.long + f.per - 1) / f.per ∧ (g.long + f.per - 1) / f.per ≤ 16777216) ∧ 1 ≤ widF f g ∧ widF f g ≤ 68719476736 := by
  obtain ⟨⟨l1, l2⟩, ⟨p1, p2⟩, _⟩ := hg
  have h1 : 1 ≤ (g.long + f.per - 1) / f.per := by
    have := Int.add_mul_ediv_left (g.long - 1) 1 (show f.per ≠ 0 by omega)
    rw [show g.long - 1 + f.per * 1 = g.long + f.per - 1 by omega] at this
    have h2 : 0 ≤ (g.long - 1) / f.per := Int.ediv_nonneg (by omega) (by omega)
    omega
  have h2 : (g.long + f.per - 1) / f.per ≤ 16777216 := by
    have := Int.add_mul_ediv_left (g.long - 1) 1 (show f.per ≠ 0 by omega)
    rw [show g.long - 1 + f.per * 1 = g.long + f.per - 1 by omega] at this
    have h3 : (g.long - 1) / f.per ≤ g.long - 1 := Int.ediv_le_self _ (by omega)
    omega
  refine ⟨⟨h1, h2⟩, ?_, ?_⟩
  · unfold widF
    have := Int.mul_le_mul p1 h1 (by decide) (by omega)
    omega
  · unfold widF
    have := Int.mul_le_mul p2 h2 (by omega) (by decide)
    omega
/-- Where the next track begins or ends. -/
def atF (f : Fmt) (l : List Sng) (O : List Int) : Nat → Int
  | 0 => f.outer - f.lead
  | i + 1 => atF f l O i - (if 0 < i then f.gap else 0) - widF f (l.getD (O.getD i 0).toNat g0)
theorem atF_bd {f : Fmt} {l : List Sng} {O : List Int} (hf : FmtOK f) (hl : SngsOK l) (hO : ∀ i, i < O.length → 0 ≤ O.getD i 0 ∧ O.getD i 0 < l.length) : ∀ i, i ≤ O.length → atF f l O i ≤ 4194304 ∧ -4194304 - 68723671040 * (i : Int) ≤ atF f l O i
  | 0, _ => by
    have := hf.outer
    have := hf.lead
    unfold atF
    omega
  | i + 1, hi => by
    have h1 := atF_bd hf hl hO i (by omega)
    have h2 := hO i (by omega)
    have h3 := (wid_bd hf.per.1 (hl.each (O.getD i 0).toNat (by omega))).2
    have := hf.gap
    unfold atF
    split <;> omega
def bndR (f : Fmt) (l : List Sng) (O : List Int) (i : Nat) : List Cell := [.int (O.getD i 0), .int (atF f l O i - (if 0 < i then f.gap else 0)), .int (atF f l O (i + 1))]
def bndA (f : Fmt) (l : List Sng) (O : List Int) (n : Nat) : Arr := (List.range n).map (bndR f l O)
theorem bndA_len (f : Fmt) (l : List Sng) (O : List Int) (n : Nat) : (bndA f l O n).length = n := by simp [bndA]
theorem bndA_succ (f : Fmt) (l : List Sng) (O : List Int) (n : Nat) : bndA f l O (n + 1) = bndA f l O n ++ [bndR f l O n] := by simp [bndA, List.range_succ]
def okAt (f : Fmt) (l : List Sng) (O : List Int) (i : Nat) : Prop := (l.getD (O.getD i 0).toNat g0).least ≤ atF f l O (i + 1)
def LayOK (f : Fmt) (l : List Sng) (O : List Int) : Prop := (∀ i, i < O.length → okAt f l O i) ∧ f.inner ≤ atF f l O O.length - f.tail
def cmpI (x y : Int) : Int := if x < y then -1 else if y < x then 1 else 0
def usF (l : List Sng) (a b : Int) : Int := if cmpI (l.getD b.toNat g0).least (l.getD a.toNat g0).least ≠ 0 then cmpI (l.getD b.toNat g0).least (l.getD a.toNat g0).least else cmpI a b
def usB (l : List Sng) (a b : Int) : Bool := decide (usF l a b < 0)
def allO (l : List Sng) : List Int := isr (usB l) (spanL 0 l.length) (l.length - 1)
theorem allO_idx (l : List Sng) : IdxOK (allO l) l.length := by
  unfold allO
  by_cases h : l.length = 0
  · rw [h]; exact span_idx 0
  · exact (span_idx _).isr _ (by omega)
end Go.Sx

namespace Go.Sx
open Go Go.Proofs
set_option maxRecDepth 10000
set_option maxHeartbeats 4000000
/-! ### Formats and tracks -/
@[reducible] def Fmt.x (f : Fmt) : XV := .agg [.str f.nm, .int .i64 f.outer, .int .i64 f.inner, .int .i64 f.per, .int .i64 f.lead, .int .i64 f.gap, .int .i64 f.tail, .int .i64 f.cost]
@[reducible] def Sng.x (g : Sng) : XV := .agg [.int .i64 g.long, .int .i64 g.pitch, .int .i64 g.least]
def sngA (l : List Sng) : Arr := l.map fun g => [.int g.long, .int g.pitch, .int g.least]
theorem sngA_len (l : List Sng) : (sngA l).length = l.length := by simp [sngA]
theorem sngA_0 (l : List Sng) (i : Nat) : rI (sngA l) i 0 = (l.getD i g0).long := map_rI _ g0 l i 0 rfl
theorem sngA_1 (l : List Sng) (i : Nat) : rI (sngA l) i (0 + 1) = (l.getD i g0).pitch := map_rI _ g0 l i 1 rfl
theorem sngA_2 (l : List Sng) (i : Nat) : rI (sngA l) i (0 + 1 + 1) = (l.getD i g0).least := map_rI _ g0 l i 2 rfl
@[reducible] def KSng : List CK := [.int .i64, .int .i64, .int .i64]
@[reducible] def lSng (l : List Sng) : XV := .one (.lst true KSng (sngA l))
theorem s295 (n lo hi : Int) : PSpec Tryz.prog 68 [I n, I lo, I hi] (xP (n < lo ∨ n > hi)) := by
  refine spec_of pMix (O := []) Tryz.func68 (c := bodyOf Tryz.f68) rfl (by kernel_rfl) (by kernel_rfl) Tryz.ntmps68 (res := [.tmp 6]) (by kernel_rfl) ?_
  repeat' ((conv => whnf); first | (refine Br.mk (fun h => ?_) (fun h => ?_) <;> first | (exfalso; omega; done) | (exfalso; simp at h; done) | skip))
  · repeat refine Mm.mk ?_
    refine EndVC.mk _ rfl _ _ ⟨rfl, rfl⟩ ?_
    refine ⟨[], rfl, rfl, ?_, ?_⟩ <;> repeat' (first | exact trivial | apply And.intro)
    exact .inl h
  · repeat refine Mm.mk ?_
    refine EndVC.mk _ rfl _ _ ⟨rfl, rfl⟩ ?_
    refine ⟨[], rfl, rfl, ?_, ?_⟩ <;> repeat' (first | exact trivial | apply And.intro)
    exact ⟨fun h2 => .inr h2, fun h2 => h2.elim (fun h3 => absurd h3 h) id⟩
theorem bytA_get (b : ByteArray) (i : Nat) : rI (bytA b) i 0 = chr b i := map_rI _ (0 : UInt8) b.data.toList i 0 rfl
theorem bytA_len (b : ByteArray) : (bytA b).length = b.size := by
  show (b.data.toList.map _).length = b.data.size
  rw [List.length_map, Array.length_toList]
open Classical in
theorem s294 (s : ByteArray) (hs : s.size ≤ 140737488355328) : PSpec Tryz.prog 67 [.one (.str s)] (xP (nameOK s)) := by
  have lb := bytA_len s
  refine spec_of pMix (O := []) Tryz.func67 (c := bodyOf Tryz.f67) rfl (by kernel_rfl) (by kernel_rfl) Tryz.ntmps67 (res := [.tmp 2]) (by kernel_rfl) ?_
  repeat' ((conv => whnf); first | refine Rng.g ?_ | fail)
  refine LoopVC.mk (fun n st => ∃ (i : Nat), i ≤ s.size ∧ n = s.size - i ∧ (∀ j, j < i → okC (chr s j)) ∧ st = ⟨0, envA 34 [(0, .x (.one (.str s))), (6, .x (.one (.lst false [.int .u8] (bytA s)))), (7, .int .i64 (s.size : Int)), (8, .int .i64 (i : Int))], []⟩) _ _ ⟨0, Nat.zero_le _, rfl, fun j hj => absurd hj (Nat.not_lt_zero j), rfl⟩ ?_ ?_
  · refine ⟨[], rfl, rfl, ?_, ?_⟩ <;> repeat' (first | exact trivial | exact rfl | apply And.intro)
    exact congrArg Int.ofNat lb
  rintro n _ ⟨i, hi, hn, hj, rfl⟩
  have gc : rI (bytA s) (i : Int).toNat 0 = chr s i := by rw [Int.toNat_natCast, bytA_get]
  by_cases hi' : i < s.size
  · by_cases hc : okC (chr s i)
    · have hc' := hc
      unfold okC at hc'
      repeat' ((conv => whnf); first | rw [gc] | refine Rng.g ?_ | refine Ob.g ?_ | (refine Br.mk (fun h => ?_) (fun h => ?_) <;> first | (exfalso; omega; done) | (exfalso; simp at h; done) | skip))
      all_goals
        refine Back.mk (s.size - (i + 1)) _ (by omega) ⟨i + 1, by omega, rfl, fun j hj' => ?_, rfl⟩ ?_
        · rcases Nat.lt_succ_iff_lt_or_eq.1 hj' with h' | rfl
          · exact hj j h'
          · exact hc
        · refine ⟨[], rfl, rfl, ?_, ?_⟩ <;> repeat' (first | exact trivial | exact rfl | apply And.intro)
    · have hc' := hc
      unfold okC at hc'
      repeat' ((conv => whnf); first | rw [gc] | refine Ob.g ?_ | (refine Br.mk (fun h => ?_) (fun h => ?_) <;> first | (exfalso; omega; done) | (exfalso; simp at h; done) | skip))
      all_goals
        repeat refine Mm.mk ?_
        refine EndVC.mk _ rfl _ _ ⟨rfl, rfl⟩ ?_
        refine ⟨[], rfl, rfl, ?_, ?_⟩ <;> repeat' (first | exact trivial | apply And.intro)
        exact fun hn => hc (hn.2.2 i hi')
  · have h0 : s.size = 0 ↔ s = ⟨#[]⟩ := ⟨fun h => ByteArray.ext (Array.eq_empty_of_size_eq_zero h), fun h => by rw [h]; rfl⟩
    repeat' ((conv => whnf); first | (refine Br.mk (fun h => ?_) (fun h => ?_) <;> first | (exfalso; omega; done) | (exfalso; simp at h; done) | skip))
    · have h1 : ¬ s.size = 0 := fun e => h (h0.1 e)
      repeat refine Mm.mk ?_
      refine EndVC.mk _ rfl _ _ ⟨rfl, rfl⟩ ?_
      refine ⟨[], rfl, rfl, ?_, ?_⟩ <;> repeat' (first | exact trivial | apply And.intro)
      exact ⟨fun h2 => ⟨by omega, by omega, fun j hj' => hj j (by omega)⟩, fun hn => (by have := hn.2.1; omega)⟩
    · have h1 : s.size = 0 := h0.2 (Classical.not_not.1 h)
      repeat refine Mm.mk ?_
      refine EndVC.mk _ rfl _ _ ⟨rfl, rfl⟩ ?_
      refine ⟨[], rfl, rfl, ?_, ?_⟩ <;> repeat' (first | exact trivial | apply And.intro)
      exact fun hn => (by have := hn.1; omega)
/-! ### Which formats and tracks are valid -/
theorem s227 (f : Fmt) (hI : f.nm.size ≤ 140737488355328) : HSpec Tryz.prog 41 [f.x] [] (fun r m' => ∃ e, r = .x (I e) ∧ m' = [] ∧ (e = 0 ↔ FmtOK f)) := by
  have k0 := s295 f.lead 0 4194304
  have k1 := s295 f.gap 0 4194304
  have k2 := s295 f.tail 0 4194304
  refine spec_of pMix (O := []) Tryz.func41 (c := bodyOf Tryz.f41) rfl (by kernel_rfl) (by kernel_rfl) Tryz.ntmps41 (res := [.tmp 2]) (by kernel_rfl) ?_
  repeat' ((conv => whnf); first | refine Rng.g ?_ | refine CallVC.pure rfl (s294 f.nm hI) ?_ | refine CallVC.pure rfl (s295 f.outer 1 4194304) ?_ | refine CallVC.pure rfl (s295 f.inner 0 (f.outer - 1)) ?_ | refine CallVC.pure rfl (s295 f.per 1 65536) ?_ | refine CallVC.pure rfl (s295 f.cost 0 1048576) ?_ | (refine Br.mk (fun h => ?_) (fun h => ?_) <;> first | (exfalso; omega; done) | (exfalso; simp at h; done) | skip))
  all_goals
    refine LoopVC.un 4 ?_
    repeat' ((conv => whnf); first | refine Rng.g ?_ | refine Ob.g ?_ | refine CallVC.pure rfl (k0) ?_ | refine CallVC.pure rfl (k1) ?_ | refine CallVC.pure rfl (k2) ?_ | (refine Br.mk (fun h => ?_) (fun h => ?_) <;> first | (exfalso; omega; done) | (exfalso; simp at h; done) | skip))
  rotate_right
  · repeat refine Mm.mk ?_
    conv => whnf
    refine EndVC.mk _ rfl _ _ (⟨0, rfl, rfl, ⟨fun _ => ⟨Classical.not_not.1 (by assumption), by omega, by omega, by omega, by omega, by omega, by omega, by omega⟩, fun _ => rfl⟩⟩) ?_
    refine ⟨[], rfl, rfl, ?_, ?_⟩ <;> repeat' (first | exact trivial | exact rfl | apply And.intro)
  all_goals
    repeat refine Mm.mk ?_
    conv => whnf
    refine EndVC.mk _ rfl _ _ (⟨2, rfl, rfl, ⟨fun h => (by cases h), fun hC => (by obtain ⟨h0, h1, h2, h3, h4, h5, h6, h7⟩ := hC; first | contradiction | omega)⟩⟩) ?_
    refine ⟨[], rfl, rfl, ?_, ?_⟩ <;> repeat' (first | exact trivial | exact rfl | apply And.intro)
end Go.Sx

namespace Go.Sx
open Go Go.Proofs
set_option maxRecDepth 10000
set_option maxHeartbeats 4000000
theorem s228 (l : List Sng) : HSpec Tryz.prog 42 [lSng l] [] (fun r m' => ∃ e, r = .x (I e) ∧ m' = [] ∧ (e = 0 ↔ SngsOK l)) := by
  have lp := sngA_len l
  by_cases h24 : 24 < l.length
  · refine spec_of pMix (O := []) Tryz.func42 (c := bodyOf Tryz.f42) rfl (by kernel_rfl) (by kernel_rfl) Tryz.ntmps42 (res := [.tmp 2]) (by kernel_rfl) ?_
    repeat' ((conv => whnf); first | (refine Br.mk (fun h => ?_) (fun h => ?_) <;> first | (exfalso; omega; done) | (exfalso; simp at h; done) | skip))
    repeat refine Mm.mk ?_
    conv => whnf
    refine EndVC.mk _ rfl _ _ (⟨6, rfl, rfl, ⟨fun h => (by cases h), fun h => (by have := h.len; omega)⟩⟩) ?_
    refine ⟨[], rfl, rfl, ?_, ?_⟩ <;> repeat' (first | exact trivial | exact rfl | apply And.intro)
  refine spec_of pMix (O := []) Tryz.func42 (c := bodyOf Tryz.f42) rfl (by kernel_rfl) (by kernel_rfl) Tryz.ntmps42 (res := [.tmp 2]) (by kernel_rfl) ?_
  repeat' ((conv => whnf); first | (refine Br.mk (fun h => ?_) (fun h => ?_) <;> first | (exfalso; omega; done) | (exfalso; simp at h; done) | skip))
  refine LoopVC.mk (fun n st => ∃ (i : Nat), i ≤ l.length ∧ n = l.length - i ∧ (∀ j, j < i → (l.getD j g0).ok) ∧ st = ⟨0, envA 28 [(8, .x (lSng l)), (9, .int .i64 (l.length : Int)), (10, .int .i64 (i : Int))], []⟩) _ _ ⟨0, Nat.zero_le _, rfl, fun j hj => absurd hj (Nat.not_lt_zero j), rfl⟩ ?_ ?_
  · refine ⟨[], rfl, rfl, ?_, ?_⟩ <;> repeat' (first | exact trivial | exact rfl | apply And.intro)
    all_goals exact congrArg Int.ofNat lp
  rintro n _ ⟨i, hi, hn, hj, rfl⟩
  have c0 : rI (sngA l) (i : Int).toNat 0 = (l.getD i g0).long := by rw [Int.toNat_natCast, sngA_0]
  have c1 : rI (sngA l) (i : Int).toNat (0 + 1) = (l.getD i g0).pitch := by rw [Int.toNat_natCast, sngA_1]
  have c2 : rI (sngA l) (i : Int).toNat (0 + 1 + 1) = (l.getD i g0).least := by rw [Int.toNat_natCast, sngA_2]
  have k0 := s295 (l.getD i g0).long 1 16777216
  have k1 := s295 (l.getD i g0).pitch 1 4096
  have k2 := s295 (l.getD i g0).least 0 4194304
  by_cases hi' : i < l.length
  · by_cases hg : (l.getD i g0).ok
    · have hg' := hg
      unfold Sng.ok at hg'
      repeat' ((conv => whnf); first | rw [c0] | rw [c1] | rw [c2] | refine Rng.g ?_ | refine Ob.g ?_ | refine CallVC.pure rfl (k0) ?_ | refine CallVC.pure rfl (k1) ?_ | refine CallVC.pure rfl (k2) ?_ | (refine Br.mk (fun h => ?_) (fun h => ?_) <;> first | (exfalso; omega; done) | (exfalso; simp at h; done) | skip))
      refine Back.mk (l.length - (i + 1)) _ (by omega) ⟨i + 1, by omega, rfl, fun j hj' => ?_, rfl⟩ ?_
      · rcases Nat.lt_succ_iff_lt_or_eq.1 hj' with h' | rfl
        · exact hj j h'
        · exact hg
      · refine ⟨[], rfl, rfl, ?_, ?_⟩ <;> repeat' (first | exact trivial | exact rfl | apply And.intro)
    · have hg' := hg
      unfold Sng.ok at hg'
      repeat' ((conv => whnf); first | rw [c0] | rw [c1] | rw [c2] | refine Ob.g ?_ | refine CallVC.pure rfl (k0) ?_ | refine CallVC.pure rfl (k1) ?_ | refine CallVC.pure rfl (k2) ?_ | (refine Br.mk (fun h => ?_) (fun h => ?_) <;> first | (exfalso; omega; done) | (exfalso; simp at h; done) | skip))
      all_goals
        repeat refine Mm.mk ?_
        conv => whnf
        refine EndVC.mk _ rfl _ _ (⟨2, rfl, rfl, ⟨fun h => (by cases h), fun h => absurd (h.each i hi') hg⟩⟩) ?_
        refine ⟨[], rfl, rfl, ?_, ?_⟩ <;> repeat' (first | exact trivial | exact rfl | apply And.intro)
  · repeat' ((conv => whnf); first | (refine Br.mk (fun h => ?_) (fun h => ?_) <;> first | (exfalso; omega; done) | (exfalso; simp at h; done) | skip))
    repeat refine Mm.mk ?_
    conv => whnf
    refine EndVC.mk _ rfl _ _ (⟨0, rfl, rfl, ⟨fun _ => ⟨by omega, fun j hj' => hj j (by omega)⟩, fun _ => rfl⟩⟩) ?_
    refine ⟨[], rfl, rfl, ?_, ?_⟩ <;> repeat' (first | exact trivial | exact rfl | apply And.intro)
@[reducible] def bPl (f : Fmt) (l : List Sng) : Blk := .box 115 [.str f.nm, .int .i64 f.outer, .int .i64 f.inner, .int .i64 f.per, .int .i64 f.lead, .int .i64 f.gap, .int .i64 f.tail, .int .i64 f.cost, .lst true KSng (sngA l)]
theorem s138 (f : Fmt) (l : List Sng) (hI : f.nm.size ≤ 140737488355328) : HSpec Tryz.prog 32 [f.x, lSng l] [] (fun r m' => (∃ e, ¬ (FmtOK f ∧ SngsOK l) ∧ e ≠ 0 ∧ r = .tup [.one .nilp, I e] ∧ m' = []) ∨ (FmtOK f ∧ SngsOK l ∧ r = .tup [.one (.ptr 0 0), I 0] ∧ m' = [some (bPl f l)])) := by
  have v1 := s227 f hI
  have v2 := s228 l
  by_cases hC : ¬ FmtOK f
  · refine spec_of pMix (O := []) Tryz.func32 (c := bodyOf Tryz.f32) rfl (by kernel_rfl) (by kernel_rfl) Tryz.ntmps32 (res := [.tmp 4, .tmp 5]) (by kernel_rfl) ?_
    repeat' ((conv => whnf); first | refine Rng.g ?_ | fail)
    conv => whnf
    refine CallVC.mk [] _ _ _ rfl rfl rfl (v1) (fun r m' h' => ?_)
    obtain ⟨e, rfl, rfl, he⟩ := h'
    conv => whnf
    have he0 : e ≠ 0 := fun h0 => hC (he.1 h0)
    repeat' ((conv => whnf); first | (refine Br.mk (fun h => ?_) (fun h => ?_) <;> first | (exfalso; omega; done) | (exfalso; simp at h; done) | skip))
    repeat refine Mm.mk ?_
    conv => whnf
    refine EndVC.mk _ rfl _ _ (.inl ⟨e, fun h => hC h.1, he0, rfl, rfl⟩) ?_
    refine ⟨[], rfl, rfl, ?_, ?_⟩ <;> repeat' (first | exact trivial | exact rfl | apply And.intro)
  replace hC := Classical.not_not.1 hC
  by_cases hP : ¬ SngsOK l
  · refine spec_of pMix (O := []) Tryz.func32 (c := bodyOf Tryz.f32) rfl (by kernel_rfl) (by kernel_rfl) Tryz.ntmps32 (res := [.tmp 4, .tmp 5]) (by kernel_rfl) ?_
    repeat' ((conv => whnf); first | refine Rng.g ?_ | fail)
    conv => whnf
    refine CallVC.mk [] _ _ _ rfl rfl rfl (v1) (fun r m' h' => ?_)
    obtain ⟨e, rfl, rfl, he⟩ := h'
    conv => whnf
    cases he.2 hC
    repeat' ((conv => whnf); first | (refine Br.mk (fun h => ?_) (fun h => ?_) <;> first | (exfalso; omega; done) | (exfalso; simp at h; done) | skip))
    conv => whnf
    refine CallVC.mk [] _ _ _ rfl rfl rfl (v2) (fun r m' h' => ?_)
    obtain ⟨e, rfl, rfl, he'⟩ := h'
    conv => whnf
    have he0 : e ≠ 0 := fun h0 => hP (he'.1 h0)
    repeat' ((conv => whnf); first | (refine Br.mk (fun h => ?_) (fun h => ?_) <;> first | (exfalso; omega; done) | (exfalso; simp at h; done) | skip))
    repeat refine Mm.mk ?_
    conv => whnf
    refine EndVC.mk _ rfl _ _ (.inl ⟨e, fun h => hP h.2, he0, rfl, rfl⟩) ?_
    refine ⟨[], rfl, rfl, ?_, ?_⟩ <;> repeat' (first | exact trivial | exact rfl | apply And.intro)
  replace hP := Classical.not_not.1 hP
  refine spec_of pMix (O := []) Tryz.func32 (c := bodyOf Tryz.f32) rfl (by kernel_rfl) (by kernel_rfl) Tryz.ntmps32 (res := [.tmp 4, .tmp 5]) (by kernel_rfl) ?_
  repeat' ((conv => whnf); first | refine Rng.g ?_ | fail)
  conv => whnf
  refine CallVC.mk [] _ _ _ rfl rfl rfl (v1) (fun r m' h' => ?_)
  obtain ⟨e, rfl, rfl, he⟩ := h'
  conv => whnf
  cases he.2 hC
  repeat' ((conv => whnf); first | (refine Br.mk (fun h => ?_) (fun h => ?_) <;> first | (exfalso; omega; done) | (exfalso; simp at h; done) | skip))
  conv => whnf
  refine CallVC.mk [] _ _ _ rfl rfl rfl (v2) (fun r m' h' => ?_)
  obtain ⟨e, rfl, rfl, he'⟩ := h'
  conv => whnf
  cases he'.2 hP
  repeat' ((conv => whnf); first | (refine Br.mk (fun h => ?_) (fun h => ?_) <;> first | (exfalso; omega; done) | (exfalso; simp at h; done) | skip))
  repeat refine Mm.mk ?_
  conv => whnf
  refine EndVC.mk _ rfl _ _ (.inr ⟨hC, hP, rfl, rfl⟩) ?_
  refine ⟨[some 1], rfl, rfl, ?_, ?_⟩ <;> repeat' (first | exact trivial | exact rfl | apply And.intro)
@[reducible] def pvT : Option (List Sng) → SV
  | some l => .lst true KSng (sngA l)
  | none => .any
@[reducible] def bPv (f : Fmt) (v : Option (List Sng)) : Blk := .box 115 [.str f.nm, .int .i64 f.outer, .int .i64 f.inner, .int .i64 f.per, .int .i64 f.lead, .int .i64 f.gap, .int .i64 f.tail, .int .i64 f.cost, pvT v]
theorem s139 (f : Fmt) (v : Option (List Sng)) (g : Sng) (hf : FmtOK f) (hg : g.ok) : HSpec Tryz.prog 35 [.one (.ptr 0 0), g.x] [bPv f v] (fun r m' => r = .x (I (widF f g)) ∧ m' = [some (bPv f v)]) := by
  obtain ⟨w1, w2⟩ := wid_bd hf.per.1 hg
  have hp := hf.per
  have hg1 := hg.1
  have hg2 := hg.2.1
  unfold widF at w2
  cases v
  all_goals
    refine spec_of pMix (O := []) Tryz.func35 (c := bodyOf Tryz.f35) rfl (by kernel_rfl) (by kernel_rfl) Tryz.ntmps35 (res := [.tmp 4]) (by kernel_rfl) ?_
    repeat' ((conv => whnf); first | refine Rng.g ?_ | refine Ob.g ?_ | refine Val.d ?_ | fail)
    repeat refine Mm.mk ?_
    refine EndVC.mk _ rfl _ _ ⟨rfl, rfl⟩ ?_
    refine ⟨[some 0], rfl, rfl, ?_, ?_⟩ <;> repeat' (first | exact trivial | exact rfl | apply And.intro)
inductive WdRs (f : Fmt) (g : Sng) (r : AV) (m' : List (Option Blk)) : Prop
  | bad (e : Int) (h : ¬ (FmtOK f ∧ g.ok)) (he : e ≠ 0) (hr : r = .tup [I 0, I e]) (hm : m' = [])
  | ok (hf : FmtOK f) (hg : g.ok) (hr : r = .tup [I (widF f g), I 0]) (hm : m' = [])
theorem sngs1 (g : Sng) : SngsOK [g] ↔ g.ok := ⟨fun h => h.each 0 (by simp), fun h => ⟨by simp, fun j hj => (by rw [show j = 0 by simp at hj; omega]; exact h)⟩⟩
theorem s54 (f : Fmt) (g : Sng) (hI : f.nm.size ≤ 140737488355328) : HSpec Tryz.prog 16 [f.x, g.x] [] (WdRs f g) := by
  refine spec_of pMix (O := []) Tryz.func16 (c := bodyOf Tryz.f16) rfl (by kernel_rfl) (by kernel_rfl) Tryz.ntmps16 (res := [.tmp 4, .tmp 5]) (by kernel_rfl) ?_
  repeat' ((conv => whnf); first | refine Rng.g ?_ | fail)
  conv => whnf
  refine CallVC.mk [] _ _ _ rfl rfl rfl (s138 f [g] hI) (fun r m' h' => ?_)
  rcases h' with ⟨e, hn, he, rfl, rfl⟩ | ⟨hf, hg, rfl, rfl⟩
  · repeat' ((conv => whnf); first | (refine Br.mk (fun h => ?_) (fun h => ?_) <;> first | (exfalso; omega; done) | (exfalso; simp at h; done) | skip))
    repeat refine Mm.mk ?_
    conv => whnf
    refine EndVC.mk _ rfl _ _ (.bad e (fun hh => hn ⟨hh.1, (sngs1 g).2 hh.2⟩) he rfl rfl) ?_
    refine ⟨[], rfl, rfl, ?_, ?_⟩ <;> repeat' (first | exact trivial | exact rfl | apply And.intro)
  · have hg' := (sngs1 g).1 hg
    repeat' ((conv => whnf); first | (refine Br.mk (fun h => ?_) (fun h => ?_) <;> first | (exfalso; omega; done) | (exfalso; simp at h; done) | skip))
    conv => whnf
    refine CallVC.mk [3] _ _ _ rfl rfl rfl (s139 f none g hf hg') (fun r m' h' => ?_)
    obtain ⟨rfl, rfl⟩ := h'
    conv => whnf
    repeat' ((conv => whnf); first | refine Rng.g ?_ | fail)
    repeat refine Mm.mk ?_
    conv => whnf
    refine EndVC.mk _ rfl _ _ (.ok hf hg' rfl rfl) ?_
    refine ⟨[], rfl, rfl, ?_, ?_⟩ <;> repeat' (first | exact trivial | exact rfl | apply And.intro)
end Go.Sx

namespace Go.Sx
open Go Go.Proofs
set_option maxRecDepth 10000
set_option maxHeartbeats 8000000
/-! ### The usual order -/
theorem s352 (x : Int) : PSpec Tryz.prog 123 [I x] (xP (x ≠ x)) := by
  refine spec_of pMix (O := []) Tryz.func123 (c := bodyOf Tryz.f123) rfl (by kernel_rfl) (by kernel_rfl) Tryz.ntmps123 (res := [.tmp 2]) (by kernel_rfl) ?_
  repeat' ((conv => whnf); first | refine Rng.g ?_ | fail)
  repeat refine Mm.mk ?_
  refine EndVC.mk _ rfl _ _ ⟨rfl, rfl⟩ ?_
  refine ⟨[], rfl, rfl, ?_, ?_⟩ <;> repeat' (first | exact trivial | exact Iff.rfl | apply And.intro)
theorem s353 (x : Int) : PSpec Tryz.prog 124 [I x] (xP (x ≠ x)) := by
  refine spec_of pMix (O := []) Tryz.func124 (c := bodyOf Tryz.f124) rfl (by kernel_rfl) (by kernel_rfl) Tryz.ntmps124 (res := [.tmp 2]) (by kernel_rfl) ?_
  repeat' ((conv => whnf); first | refine Rng.g ?_ | fail)
  repeat refine Mm.mk ?_
  refine EndVC.mk _ rfl _ _ ⟨rfl, rfl⟩ ?_
  refine ⟨[], rfl, rfl, ?_, ?_⟩ <;> repeat' (first | exact trivial | exact Iff.rfl | apply And.intro)
theorem s331 (x y : Int) : PSpec Tryz.prog 93 [I x, I y] (.x (I (cmpI x y))) := by
  by_cases h1 : x < y
  · have e : cmpI x y = -1 := if_pos h1
    rw [e]
    refine spec_of pMix (O := []) Tryz.func93 (c := bodyOf Tryz.f93) rfl (by kernel_rfl) (by kernel_rfl) Tryz.ntmps93 (res := [.tmp 4]) (by kernel_rfl) ?_
    repeat' ((conv => whnf); first | refine CallVC.pure rfl (s352 x) ?_ | refine CallVC.pure rfl (s352 y) ?_ | (refine Br.mk (fun h => ?_) (fun h => ?_) <;> first | (exfalso; omega; done) | (exfalso; simp at h; done) | skip))
    all_goals
      repeat refine Mm.mk ?_
      refine EndVC.mk _ rfl _ _ ⟨rfl, rfl⟩ ?_
      refine ⟨[], rfl, rfl, ?_, ?_⟩ <;> repeat' (first | exact trivial | exact rfl | apply And.intro)
  · by_cases h2 : y < x
    · have e : cmpI x y = 1 := (if_neg h1).trans (if_pos h2)
      rw [e]
      refine spec_of pMix (O := []) Tryz.func93 (c := bodyOf Tryz.f93) rfl (by kernel_rfl) (by kernel_rfl) Tryz.ntmps93 (res := [.tmp 4]) (by kernel_rfl) ?_
      repeat' ((conv => whnf); first | refine CallVC.pure rfl (s352 x) ?_ | refine CallVC.pure rfl (s352 y) ?_ | (refine Br.mk (fun h => ?_) (fun h => ?_) <;> first | (exfalso; omega; done) | (exfalso; simp at h; done) | skip))
      all_goals
        repeat refine Mm.mk ?_
        refine EndVC.mk _ rfl _ _ ⟨rfl, rfl⟩ ?_
        refine ⟨[], rfl, rfl, ?_, ?_⟩ <;> repeat' (first | exact trivial | exact rfl | apply And.intro)
    · have e : cmpI x y = 0 := (if_neg h1).trans (if_neg h2)
      rw [e]
      refine spec_of pMix (O := []) Tryz.func93 (c := bodyOf Tryz.f93) rfl (by kernel_rfl) (by kernel_rfl) Tryz.ntmps93 (res := [.tmp 4]) (by kernel_rfl) ?_
      repeat' ((conv => whnf); first | refine CallVC.pure rfl (s352 x) ?_ | refine CallVC.pure rfl (s352 y) ?_ | (refine Br.mk (fun h => ?_) (fun h => ?_) <;> first | (exfalso; omega; done) | (exfalso; simp at h; done) | skip))
      all_goals
        repeat refine Mm.mk ?_
        refine EndVC.mk _ rfl _ _ ⟨rfl, rfl⟩ ?_
        refine ⟨[], rfl, rfl, ?_, ?_⟩ <;> repeat' (first | exact trivial | exact rfl | apply And.intro)
theorem s332 (x y : Int) : PSpec Tryz.prog 94 [I x, I y] (.x (I (cmpI x y))) := by
  by_cases h1 : x < y
  · have e : cmpI x y = -1 := if_pos h1
    rw [e]
    refine spec_of pMix (O := []) Tryz.func94 (c := bodyOf Tryz.f94) rfl (by kernel_rfl) (by kernel_rfl) Tryz.ntmps94 (res := [.tmp 4]) (by kernel_rfl) ?_
    repeat' ((conv => whnf); first | refine CallVC.pure rfl (s353 x) ?_ | refine CallVC.pure rfl (s353 y) ?_ | (refine Br.mk (fun h => ?_) (fun h => ?_) <;> first | (exfalso; omega; done) | (exfalso; simp at h; done) | skip))
    all_goals
      repeat refine Mm.mk ?_
      refine EndVC.mk _ rfl _ _ ⟨rfl, rfl⟩ ?_
      refine ⟨[], rfl, rfl, ?_, ?_⟩ <;> repeat' (first | exact trivial | exact rfl | apply And.intro)
  · by_cases h2 : y < x
    · have e : cmpI x y = 1 := (if_neg h1).trans (if_pos h2)
      rw [e]
      refine spec_of pMix (O := []) Tryz.func94 (c := bodyOf Tryz.f94) rfl (by kernel_rfl) (by kernel_rfl) Tryz.ntmps94 (res := [.tmp 4]) (by kernel_rfl) ?_
      repeat' ((conv => whnf); first | refine CallVC.pure rfl (s353 x) ?_ | refine CallVC.pure rfl (s353 y) ?_ | (refine Br.mk (fun h => ?_) (fun h => ?_) <;> first | (exfalso; omega; done) | (exfalso; simp at h; done) | skip))
      all_goals
        repeat refine Mm.mk ?_
        refine EndVC.mk _ rfl _ _ ⟨rfl, rfl⟩ ?_
        refine ⟨[], rfl, rfl, ?_, ?_⟩ <;> repeat' (first | exact trivial | exact rfl | apply And.intro)
    · have e : cmpI x y = 0 := (if_neg h1).trans (if_neg h2)
      rw [e]
      refine spec_of pMix (O := []) Tryz.func94 (c := bodyOf Tryz.f94) rfl (by kernel_rfl) (by kernel_rfl) Tryz.ntmps94 (res := [.tmp 4]) (by kernel_rfl) ?_
      repeat' ((conv => whnf); first | refine CallVC.pure rfl (s353 x) ?_ | refine CallVC.pure rfl (s353 y) ?_ | (refine Br.mk (fun h => ?_) (fun h => ?_) <;> first | (exfalso; omega; done) | (exfalso; simp at h; done) | skip))
      all_goals
        repeat refine Mm.mk ?_
        refine EndVC.mk _ rfl _ _ ⟨rfl, rfl⟩ ?_
        refine ⟨[], rfl, rfl, ?_, ?_⟩ <;> repeat' (first | exact trivial | exact rfl | apply And.intro)
theorem s330 (a b : Int) : PSpec Tryz.prog 92 [.one (.lst true [.int .i64] [[.int a], [.int b]])] (.x (I (if a ≠ 0 then a else b))) := by
  have g0 : rI [[Cell.int a], [Cell.int b]] (Int.toNat 0) 0 = a := rfl
  have g1 : rI [[Cell.int a], [Cell.int b]] (Int.toNat (0 + 1)) 0 = b := rfl
  by_cases h1 : a = 0
  · rw [if_neg (fun h => h h1)]
    refine spec_of pMix (O := []) Tryz.func92 (c := bodyOf Tryz.f92) rfl (by kernel_rfl) (by kernel_rfl) Tryz.ntmps92 (res := [.tmp 2]) (by kernel_rfl) ?_
    repeat' ((conv => whnf); first | refine Rng.g ?_ | fail)
    refine LoopVC.un 4 ?_
    repeat' ((conv => whnf); first | rw [g0] | rw [g1] | refine Rng.g ?_ | refine Ob.g ?_ | (refine Br.mk (fun h => ?_) (fun h => ?_) <;> first | (exfalso; omega; done) | (exfalso; simp at h; done) | skip))
    all_goals
      repeat refine Mm.mk ?_
      refine EndVC.mk _ rfl _ _ ⟨rfl, rfl⟩ ?_
      refine ⟨[], rfl, rfl, ?_, ?_⟩ <;> repeat' (first | exact trivial | exact rfl | apply And.intro)
    all_goals omega
  · rw [if_pos h1]
    refine spec_of pMix (O := []) Tryz.func92 (c := bodyOf Tryz.f92) rfl (by kernel_rfl) (by kernel_rfl) Tryz.ntmps92 (res := [.tmp 2]) (by kernel_rfl) ?_
    repeat' ((conv => whnf); first | refine Rng.g ?_ | fail)
    refine LoopVC.un 4 ?_
    repeat' ((conv => whnf); first | rw [g0] | refine Ob.g ?_ | (refine Br.mk (fun h => ?_) (fun h => ?_) <;> first | (exfalso; omega; done) | (exfalso; simp at h; done) | skip))
    all_goals
      repeat refine Mm.mk ?_
      refine EndVC.mk _ rfl _ _ ⟨rfl, rfl⟩ ?_
      refine ⟨[], rfl, rfl, ?_, ?_⟩ <;> repeat' (first | exact trivial | exact rfl | apply And.intro)
theorem s298 (f : Fmt) (l : List Sng) (a b : Int) (ha : 0 ≤ a ∧ a < l.length) (hb : 0 ≤ b ∧ b < l.length) : HSpec Tryz.prog 76 [.one (.ptr 0 0), I a, I b] [bPl f l] (fun r m' => r = .x (I (usF l a b)) ∧ m' = [some (bPl f l)]) := by
  have lp := sngA_len l
  have c1 : rI (sngA l) a.toNat (0 + (0 + 1 + 1)) = (l.getD a.toNat g0).least := sngA_2 l _
  have c2 : rI (sngA l) b.toNat (0 + (0 + 1 + 1)) = (l.getD b.toNat g0).least := sngA_2 l _
  have k1 := s331 (l.getD b.toNat g0).least (l.getD a.toNat g0).least
  have k2 := s332 a b
  have k3 := s330 (cmpI (l.getD b.toNat g0).least (l.getD a.toNat g0).least) (cmpI a b)
  refine spec_of pMix (O := [(1, ([], [⟨0, [], []⟩, ⟨1, [], []⟩, ⟨2, [], []⟩, ⟨3, [], []⟩, ⟨4, [], []⟩, ⟨5, [], []⟩, ⟨6, [], []⟩, ⟨7, [], []⟩, ⟨8, [], []⟩, ⟨9, [], []⟩, ⟨10, [], []⟩, ⟨11, [], []⟩, ⟨12, [], []⟩, ⟨13, [], []⟩, ⟨14, [], []⟩, ⟨15, [], []⟩, ⟨17, [], []⟩, ⟨18, [], []⟩, ⟨16, [17, 18], []⟩, ⟨19, [], [20]⟩, ⟨20, [], []⟩, ⟨21, [], []⟩, ⟨22, [], []⟩]))]) Tryz.func76 (c := bodyOf Tryz.f76) rfl (by kernel_rfl) (by kernel_rfl) Tryz.ntmps76 (res := [.tmp 6]) (by kernel_rfl) ?_
  repeat' ((conv => whnf); first | rw [c1] | rw [c2] | refine Ob.g ?_ | refine CallVC.pure rfl (k1) ?_ | refine CallVC.pure rfl (k2) ?_ | refine CallVC.pure rfl (k3) ?_)
  repeat refine Mm.mk ?_
  refine EndVC.mk _ rfl _ _ ⟨rfl, rfl⟩ ?_
  refine ⟨[some 0], rfl, rfl, ?_, ?_⟩ <;> repeat' (first | exact trivial | exact rfl | apply And.intro)
@[reducible] def rowOd (O : List Int) : Blk := .row 3 false [.int .i64] (i64s O)
theorem i64s_upd' (xs : List Int) (i : Nat) (v : Int) (h : i < xs.length) : updRow (i64s xs) i 0 [.int v] = i64s (xs.set i v) := by
  unfold updRow i64s
  rw [List.map_set]
  congr 1
  simp [List.getD_eq_getElem?_getD, h, setAll]
/-- All of them are numbers of tracks. -/
def InR (O : List Int) (m : Nat) : Prop := ∀ i, i < O.length → 0 ≤ O.getD i 0 ∧ O.getD i 0 < m
theorem InR.swp {O : List Int} {m : Nat} (h : InR O m) {j : Nat} (hj : j + 1 < O.length) : InR (Go.Sx.swp O j) m := fun i hi => by
  rw [swp_len] at hi
  rw [swp_get O hj]
  exact h _ (sg_lt hj hi)
theorem InR.ins {lt : Int → Int → Bool} {m : Nat} : ∀ (j : Nat) {O : List Int}, InR O m → j < O.length → InR (Go.Sx.ins lt O j) m
  | 0, O, h, _ => h
  | j + 1, O, h, hj => by
    unfold Go.Sx.ins
    split
    · exact InR.ins j (h.swp hj) (by rw [swp_len]; omega)
    · exact h
theorem InR.isr {lt : Int → Int → Bool} {m : Nat} {O : List Int} (h : InR O m) : ∀ k, k < O.length ∨ k = 0 → InR (Go.Sx.isr lt O k) m
  | 0, _ => h
  | k + 1, hk => by
    unfold Go.Sx.isr
    exact InR.ins (k + 1) (h.isr k (by omega)) (by rw [isr_len]; omega)
theorem s342 (f : Fmt) (l : List Sng) (O : List Int) (hO : InR O l.length) (hl : O.length ≤ 1000000) : HSpec Tryz.prog 113 [.one (.own 0), I 0, I (O.length : Int), .one (.bnd 76 false [.ptr 1 0])] [rowOd O, bPl f l] (fun r m' => r = .tup [] ∧ m' = [some (rowOd (isr (usB l) O (O.length - 1))), some (bPl f l)]) := by
  have lo := i64s_len O
  refine spec_of pMix (O := [(6, ([], [⟨0, [], []⟩, ⟨1, [], []⟩, ⟨2, [], []⟩, ⟨3, [], []⟩, ⟨4, [], []⟩, ⟨5, [], []⟩, ⟨6, [], []⟩, ⟨7, [], []⟩, ⟨8, [], []⟩, ⟨9, [], []⟩, ⟨10, [], []⟩, ⟨11, [], []⟩, ⟨12, [], []⟩, ⟨13, [], []⟩, ⟨14, [], []⟩, ⟨15, [2, 3, 4], []⟩, ⟨16, [], []⟩, ⟨17, [], []⟩]))]) Tryz.func113 (c := bodyOf Tryz.f113) rfl (by kernel_rfl) (by kernel_rfl) Tryz.ntmps113 (res := []) (by kernel_rfl) ?_
  repeat' ((conv => whnf); first | refine Rng.g ?_ | fail)
  refine LoopVC.mk (fun n st => ∃ (k : Nat), (k < O.length ∨ k = 0) ∧ n = O.length - k ∧ st = ⟨2, envA 53 [(0, .x (.one (.own 0))), (1, .x (I 0)), (2, .x (I (O.length : Int))), (3, .x (.one (.bnd 76 false [.ptr 1 0]))), (8, .int .i64 ((k : Int) + 1))], [some (rowOd (isr (usB l) O k)), some (bPl f l)]⟩) _ _ ⟨0, .inr rfl, rfl, rfl⟩ ?_ ?_
  · refine ⟨[some 0, some 1], rfl, rfl, ?_, ?_⟩ <;> repeat' (first | exact trivial | exact rfl | apply And.intro)
  rintro n _ ⟨k, hk, hn, rfl⟩
  by_cases hk' : k + 1 < O.length
  · obtain ⟨Z, hZ⟩ : ∃ Z, isr (usB l) O (k + 1) = Z := ⟨_, rfl⟩
    have hZ' : ins (usB l) (isr (usB l) O k) (k + 1) = Z := hZ
    repeat' ((conv => whnf); first | (refine Br.mk (fun h => ?_) (fun h => ?_) <;> first | (exfalso; omega; done) | (exfalso; simp at h; done) | skip))
    refine LoopVC.mk (fun n st => ∃ (j : Nat) (V : List Int), j ≤ k + 1 ∧ n = j ∧ V.length = O.length ∧ InR V l.length ∧ ins (usB l) V j = Z ∧ st = ⟨2, envA 53 [(0, .x (.one (.own 0))), (1, .x (I 0)), (2, .x (I (O.length : Int))), (3, .x (.one (.bnd 76 false [.ptr 1 0]))), (8, .int .i64 ((k : Int) + 1)), (9, .int .i64 (j : Int))], [some (rowOd V), some (bPl f l)]⟩) _ _ ⟨k + 1, isr (usB l) O k, Nat.le_refl _, rfl, isr_len _ _ _, hO.isr k hk, hZ', rfl⟩ ?_ ?_
    · refine ⟨[some 0, some 1], rfl, rfl, ?_, ?_⟩ <;> repeat' (first | exact trivial | exact rfl | apply And.intro)
    rintro n _ ⟨j, V, hj, hn, lV, hV, hi, rfl⟩
    have lv := i64s_len V
    cases j with
    | zero =>
      have e : V = Z := hi
      repeat' ((conv => whnf); first | refine Rng.g ?_ | (refine Br.mk (fun h => ?_) (fun h => ?_) <;> first | (exfalso; omega; done) | (exfalso; simp at h; done) | skip))
      refine Back.mk (O.length - (k + 1)) _ (by omega) ⟨k + 1, .inl hk', rfl, rfl⟩ ?_
      rw [hZ, ← e]
      refine ⟨[some 0, some 1], rfl, rfl, ?_, ?_⟩ <;> repeat' (first | exact trivial | exact rfl | apply And.intro)
    | succ j =>
      have g1 : rI (i64s V) ((j + 1 : Nat) : Int).toNat 0 = V.getD (j + 1) 0 := by rw [Int.toNat_natCast]; exact i64s_get V _
      have g2 : rI (i64s V) (((j + 1 : Nat) : Int) - 1).toNat 0 = V.getD j 0 := by rw [show (((j + 1 : Nat) : Int) - 1).toNat = j by omega]; exact i64s_get V _
      have h1 := hV (j + 1) (by omega)
      have h2 := hV j (by omega)
      have u1 : updRow (i64s V) ((j + 1 : Nat) : Int).toNat 0 [Cell.int (V.getD j 0)] = i64s (V.set (j + 1) (V.getD j 0)) := by rw [Int.toNat_natCast]; exact i64s_upd' _ _ _ (by omega)
      have u2 : updRow (i64s (V.set (j + 1) (V.getD j 0))) (((j + 1 : Nat) : Int) - 1).toNat 0 [Cell.int (V.getD (j + 1) 0)] = i64s (swp V j) := by
        rw [show (((j + 1 : Nat) : Int) - 1).toNat = j by omega]
        exact i64s_upd' _ _ _ (by rw [List.length_set]; omega)
      have lv2 : (i64s (V.set (j + 1) (V.getD j 0))).length = V.length := by rw [i64s_len, List.length_set]
      unfold ins at hi
      repeat' ((conv => whnf); first | rw [g1] | rw [g2] | refine Rng.g ?_ | refine Ob.g ?_ | (refine Br.mk (fun h => ?_) (fun h => ?_) <;> first | (exfalso; omega; done) | (exfalso; simp at h; done) | skip))
      conv => whnf
      refine CallVC.mk [1] _ _ _ rfl rfl rfl (s298 f l (V.getD (j + 1) 0) (V.getD j 0) h1 h2) (fun r m' h' => ?_)
      obtain ⟨rfl, rfl⟩ := h'
      conv => whnf
      by_cases hlt : usF l (V.getD (j + 1) 0) (V.getD j 0) < 0
      · rw [if_pos (show usB l (V.getD (j + 1) 0) (V.getD j 0) = true from decide_eq_true hlt)] at hi
        repeat' ((conv => whnf); first | rw [g1] | rw [g2] | rw [u1] | rw [u2] | refine Rng.g ?_ | refine Ob.g ?_ | (refine Br.mk (fun h => ?_) (fun h => ?_) <;> first | (exfalso; omega; done) | (exfalso; simp at h; done) | skip))
        refine Back.mk j _ (by omega) ⟨j, swp V j, by omega, rfl, by rw [swp_len]; exact lV, hV.swp (by omega), hi, rfl⟩ ?_
        refine ⟨[some 0, some 1], rfl, rfl, ?_, ?_⟩ <;> repeat' (first | exact trivial | exact rfl | apply And.intro)
        all_goals omega
      · rw [if_neg (show ¬ usB l (V.getD (j + 1) 0) (V.getD j 0) = true from fun h => hlt (of_decide_eq_true h))] at hi
        repeat' ((conv => whnf); first | refine Rng.g ?_ | (refine Br.mk (fun h => ?_) (fun h => ?_) <;> first | (exfalso; omega; done) | (exfalso; simp at h; done) | skip))
        refine Back.mk (O.length - (k + 1)) _ (by omega) ⟨k + 1, .inl hk', rfl, rfl⟩ ?_
        rw [hZ, ← hi]
        refine ⟨[some 0, some 1], rfl, rfl, ?_, ?_⟩ <;> repeat' (first | exact trivial | exact rfl | apply And.intro)
  · have ek : k = O.length - 1 := by omega
    subst ek
    repeat' ((conv => whnf); first | (refine Br.mk (fun h => ?_) (fun h => ?_) <;> first | (exfalso; omega; done) | (exfalso; simp at h; done) | skip))
    repeat refine Mm.mk ?_
    refine EndVC.mk _ rfl _ _ ⟨rfl, rfl⟩ ?_
    refine ⟨[some 0, some 1], rfl, rfl, ?_, ?_⟩ <;> repeat' (first | exact trivial | exact rfl | apply And.intro)
theorem rngU8 (x : UInt8) : inR .i64 (x.toNat : Int) := by
  have := x.toNat_lt
  simp only [inR]
  omega
theorem rngU8' (x : UInt8) : inR .i64 (0 + (x.toNat : Int)) := by
  have := x.toNat_lt
  simp only [inR]
  omega
/-- The number of bits is a number. -/
theorem s351 (n : Int) (hn : 0 ≤ n ∧ n ≤ 12) : HSpec Tryz.prog 122 [.one (.int .u64 n)] [] (fun r m' => ∃ v, r = .x (I v) ∧ m' = []) := by
  have hc : n = 0 ∨ n = 1 ∨ n = 2 ∨ n = 3 ∨ n = 4 ∨ n = 5 ∨ n = 6 ∨ n = 7 ∨ n = 8 ∨ n = 9 ∨ n = 10 ∨ n = 11 ∨ n = 12 := by omega
  rcases hc with rfl | rfl | rfl | rfl | rfl | rfl | rfl | rfl | rfl | rfl | rfl | rfl | rfl
  all_goals
    refine spec_of pMix (O := []) Tryz.func122 (c := bodyOf Tryz.f122) rfl (by kernel_rfl) (by kernel_rfl) Tryz.ntmps122 (res := [.tmp 2]) (by kernel_rfl) ?_
    repeat' ((conv => whnf); first | refine Rng.g ?_ | refine Ob.g ?_ | refine JoinVC.on ?_ | (refine Br.mk (fun h => ?_) (fun h => ?_) <;> first | (exfalso; omega; done) | (exfalso; simp at h; done) | skip))
    refine Rng.ok (rngU8 _) ?_
    repeat' ((conv => whnf); first | refine Rng.g ?_ | fail)
    refine Rng.ok (rngU8' _) ?_
    repeat' ((conv => whnf); first | refine Rng.g ?_ | fail)
    conv => whnf
    exact EndVC.run _ rfl ⟨_, rfl, rfl⟩
theorem s329 (n : Int) (hn : 0 ≤ n ∧ n ≤ 12) : HSpec Tryz.prog 91 [.one (.int .u64 n)] [] (fun r m' => ∃ v, r = .x (I v) ∧ m' = []) := by
  refine spec_of pMix (O := []) Tryz.func91 (c := bodyOf Tryz.f91) rfl (by kernel_rfl) (by kernel_rfl) Tryz.ntmps91 (res := [.tmp 2]) (by kernel_rfl) ?_
  repeat' ((conv => whnf); first | refine Rng.g ?_ | fail)
  conv => whnf
  refine CallVC.mk [] _ _ _ rfl rfl rfl (s351 n hn) (fun r m' h' => ?_)
  obtain ⟨v, rfl, rfl⟩ := h'
  conv => whnf
  repeat' ((conv => whnf); first | refine Rng.g ?_ | fail)
  repeat refine Mm.mk ?_
  conv => whnf
  refine EndVC.mk _ rfl _ _ (⟨v, rfl, rfl⟩) ?_
  refine ⟨[], rfl, rfl, ?_, ?_⟩ <;> repeat' (first | exact trivial | exact rfl | apply And.intro)
theorem s328 (f : Fmt) (l : List Sng) (O : List Int) (v : Int) (hO : InR O l.length) (hl : O.length ≤ 12) : HSpec Tryz.prog 90 [.one (.own 0), I 0, I (O.length : Int), I v, .one (.bnd 76 false [.ptr 1 0])] [rowOd O, bPl f l] (fun r m' => r = .tup [] ∧ m' = [some (rowOd (isr (usB l) O (O.length - 1))), some (bPl f l)]) := by
  have lo := i64s_len O
  refine spec_of pMix (O := []) Tryz.func90 (c := bodyOf Tryz.f90) rfl (by kernel_rfl) (by kernel_rfl) Tryz.ntmps90 (res := []) (by kernel_rfl) ?_
  repeat' ((conv => whnf); first | refine Rng.g ?_ | fail)
  refine LoopVC.un 1 ?_
  repeat' ((conv => whnf); first | refine Rng.g ?_ | (refine Br.mk (fun h => ?_) (fun h => ?_) <;> first | (exfalso; omega; done) | (exfalso; simp at h; done) | skip))
  conv => whnf
  refine CallVC.mk [0, 1] _ _ _ rfl rfl rfl (s342 f l O hO (by omega)) (fun r m' h' => ?_)
  obtain ⟨rfl, rfl⟩ := h'
  conv => whnf
  repeat' ((conv => whnf); first | refine Rng.g ?_ | fail)
  repeat refine Mm.mk ?_
  refine EndVC.mk _ rfl _ _ ⟨rfl, rfl⟩ ?_
  refine ⟨[some 0, some 1], rfl, rfl, ?_, ?_⟩ <;> repeat' (first | exact trivial | exact rfl | apply And.intro)
theorem s297 (f : Fmt) (l : List Sng) (O : List Int) (hO : InR O l.length) (hl : O.length ≤ 12) : HSpec Tryz.prog 75 [.one (.own 0), .one (.bnd 76 false [.ptr 1 0])] [rowOd O, bPl f l] (fun r m' => r = .tup [] ∧ m' = [some (rowOd (isr (usB l) O (O.length - 1))), some (bPl f l)]) := by
  have lo := i64s_len O
  refine spec_of pMix (O := []) Tryz.func75 (c := bodyOf Tryz.f75) rfl (by kernel_rfl) (by kernel_rfl) Tryz.ntmps75 (res := []) (by kernel_rfl) ?_
  repeat' ((conv => whnf); first | rw [lo] | refine Rng.g ?_ | fail)
  conv => whnf
  refine CallVC.mk [] _ _ _ rfl rfl rfl (s329 (O.length : Int) (by omega)) (fun r m' h' => ?_)
  obtain ⟨v, rfl, rfl⟩ := h'
  conv => whnf
  repeat' ((conv => whnf); first | refine Rng.g ?_ | fail)
  conv => whnf
  refine CallVC.mk [0, 1] _ _ _ rfl rfl rfl (s328 f l O v hO hl) (fun r m' h' => ?_)
  obtain ⟨rfl, rfl⟩ := h'
  conv => whnf
  repeat' ((conv => whnf); first | refine Rng.g ?_ | fail)
  repeat refine Mm.mk ?_
  refine EndVC.mk _ rfl _ _ ⟨rfl, rfl⟩ ?_
  refine ⟨[some 0, some 1], rfl, rfl, ?_, ?_⟩ <;> repeat' (first | exact trivial | exact rfl | apply And.intro)
theorem s296 (xs : List Int) (hl : xs.length ≤ 1000000) : HSpec Tryz.prog 74 [.one (.lst true [.int .i64] (i64s xs))] [] (fun r m' => r = .x (.one (.own 0)) ∧ m' = [some (rowOd xs)]) := by
  have lo := i64s_len xs
  refine spec_of pMix (O := []) Tryz.func74 (c := bodyOf Tryz.f74) rfl (by kernel_rfl) (by kernel_rfl) Tryz.ntmps74 (res := [.tmp 2]) (by kernel_rfl) ?_
  repeat' ((conv => whnf); first | refine Nils.mk (fun h => ?_) ?_)
  · repeat refine Mm.mk ?_
    refine EndVC.mk _ rfl _ _ ⟨rfl, rfl⟩ ?_
    refine ⟨[none], rfl, rfl, ?_, ?_⟩ <;> repeat' (first | exact trivial | exact rfl | apply And.intro)
    exact h
  · repeat refine Mm.mk ?_
    refine Ob.mk (by simp only [eb3, List.length_nil]; omega) ?_
    repeat' ((conv => whnf); first | refine Rng.g ?_ | fail)
    repeat refine Mm.mk ?_
    refine EndVC.mk _ rfl _ _ ⟨rfl, rfl⟩ ?_
    refine ⟨[some 1], rfl, rfl, ?_, ?_⟩ <;> repeat' (first | exact trivial | exact rfl | apply And.intro)
theorem spanL_nn (n : Nat) : InR (spanL 0 n) n := fun i hi => (span_idx n).rng i (by rw [spanL_len] at hi; exact hi)
theorem s231 (n : Nat) (hn : n ≤ 100000) : HSpec Tryz.prog 57 [I 0, I (n : Int)] [] (fun r m' => r = .x (.one (.own 0)) ∧ m' = [some (rowOd (spanL 0 n))]) := by
  refine spec_of pMix (O := []) Tryz.func57 (c := bodyOf Tryz.f57) rfl (by kernel_rfl) (by kernel_rfl) Tryz.ntmps57 (res := [.tmp 4]) (by kernel_rfl) ?_
  repeat' ((conv => whnf); first | refine Rng.g ?_ | fail)
  refine LoopVC.mk (fun m st => ∃ (i : Nat), i ≤ n ∧ m = n - i ∧ st = ⟨0, envA 16 [(0, .int .i64 (i : Int)), (1, .x (I (n : Int))), (5, .x (.one (.own 0)))], [some (rowOd (spanL 0 i))]⟩) _ _ ⟨0, Nat.zero_le _, rfl, rfl⟩ ?_ ?_
  · refine ⟨[none], rfl, rfl, ?_, ?_⟩ <;> repeat' (first | exact trivial | exact rfl | apply And.intro)
  rintro m _ ⟨i, hi, hm, rfl⟩
  have ls : (i64s (spanL 0 i)).length = i := by rw [i64s_len, spanL_len]
  by_cases hi' : i < n
  · repeat' ((conv => whnf); first | (refine Br.mk (fun h => ?_) (fun h => ?_) <;> first | (exfalso; omega; done) | (exfalso; simp at h; done) | skip))
    repeat refine Mm.mk ?_
    refine Ob.mk (by rw [eb3]; simp only [List.length_cons, List.length_nil]; omega) ?_
    repeat' ((conv => whnf); first | refine Rng.g ?_ | fail)
    refine Back.mk (n - (i + 1)) _ (by omega) ⟨i + 1, by omega, rfl, rfl⟩ ?_
    rw [spanL_succ]
    refine ⟨[some 2], rfl, rfl, ?_, ?_⟩ <;> repeat' (first | exact trivial | exact rfl | apply And.intro)
    rw [i64s_snoc, Nat.zero_add]
  · have ei : i = n := by omega
    subst ei
    repeat' ((conv => whnf); first | (refine Br.mk (fun h => ?_) (fun h => ?_) <;> first | (exfalso; omega; done) | (exfalso; simp at h; done) | skip))
    repeat refine Mm.mk ?_
    refine EndVC.mk _ rfl _ _ ⟨rfl, rfl⟩ ?_
    refine ⟨[some 0], rfl, rfl, ?_, ?_⟩ <;> repeat' (first | exact trivial | exact rfl | apply And.intro)
theorem s230 (f : Fmt) (l : List Sng) (O : List Int) (hO : InR O l.length) (hl : O.length ≤ 12) : HSpec Tryz.prog 56 [.one (.ptr 0 0), .one (.own 1)] [bPl f l, rowOd O] (fun r m' => r = .x (.one (.own 2)) ∧ m' = [some (bPl f l), some (rowOd O), some (rowOd (isr (usB l) O (O.length - 1)))]) := by
  refine spec_of pMix (O := []) Tryz.func56 (c := bodyOf Tryz.f56) rfl (by kernel_rfl) (by kernel_rfl) Tryz.ntmps56 (res := [.tmp 4]) (by kernel_rfl) ?_
  repeat' ((conv => whnf); first | refine Rng.g ?_ | fail)
  conv => whnf
  refine CallVC.mk [] _ _ _ rfl rfl rfl (s296 O (by omega)) (fun r m' h' => ?_)
  obtain ⟨rfl, rfl⟩ := h'
  conv => whnf
  repeat' ((conv => whnf); first | refine Rng.g ?_ | fail)
  conv => whnf
  refine CallVC.mk [2, 0] _ _ _ rfl rfl rfl (s297 f l O hO hl) (fun r m' h' => ?_)
  obtain ⟨rfl, rfl⟩ := h'
  conv => whnf
  repeat' ((conv => whnf); first | refine Rng.g ?_ | fail)
  repeat refine Mm.mk ?_
  refine EndVC.mk _ rfl _ _ ⟨rfl, rfl⟩ ?_
  refine ⟨[some 0, some 1, some 2], rfl, rfl, ?_, ?_⟩ <;> repeat' (first | exact trivial | exact rfl | apply And.intro)
theorem s143 (f : Fmt) (l : List Sng) (hl : l.length ≤ 12) : HSpec Tryz.prog 33 [.one (.ptr 0 0)] [bPl f l] (fun r m' => r = .x (.one (.own 1)) ∧ m' = [some (bPl f l), some (rowOd (allO l))]) := by
  have lp := sngA_len l
  have c := s230 f l (spanL 0 l.length) (spanL_nn _) (by rw [spanL_len]; exact hl)
  rw [spanL_len] at c
  refine spec_of pMix (O := []) Tryz.func33 (c := bodyOf Tryz.f33) rfl (by kernel_rfl) (by kernel_rfl) Tryz.ntmps33 (res := [.tmp 2]) (by kernel_rfl) ?_
  repeat' ((conv => whnf); first | rw [lp])
  conv => whnf
  refine CallVC.mk [] _ _ _ rfl rfl rfl (s231 l.length (by omega)) (fun r m' h' => ?_)
  obtain ⟨rfl, rfl⟩ := h'
  conv => whnf
  repeat' ((conv => whnf); first | refine Rng.g ?_ | fail)
  conv => whnf
  refine CallVC.mk [0, 1] _ _ _ rfl rfl rfl (c) (fun r m' h' => ?_)
  obtain ⟨rfl, rfl⟩ := h'
  conv => whnf
  repeat' ((conv => whnf); first | refine Rng.g ?_ | fail)
  repeat refine Mm.mk ?_
  refine EndVC.mk _ rfl _ _ ⟨rfl, rfl⟩ ?_
  refine ⟨[some 0, some 2], rfl, rfl, ?_, ?_⟩ <;> repeat' (first | exact trivial | exact rfl | apply And.intro)
/-! ### The bands -/
@[reducible] def rowB (A : Arr) : Blk := .row 156 false [.int .i64, .int .i64, .int .i64] A
theorem eb116 : Tryz.t156.bytes = 24 := by kernel_rfl
inductive LyRs (f : Fmt) (l : List Sng) (O : List Int) (r : AV) (m' : List (Option Blk)) : Prop
  | rule (i : Nat) (hi : i < O.length) (h : ∀ j, j < i → okAt f l O j) (hn : ¬ okAt f l O i) (hr : r = .tup [.one .nils, I (i : Int), I 20]) (hm : m' = [some (bPl f l)])
  | limit (h : ∀ j, j < O.length → okAt f l O j) (hn : ¬ LayOK f l O) (hr : r = .tup [.one .nils, I (O.length : Int), I 14]) (hm : m' = [some (bPl f l)])
  | ok (h : LayOK f l O) (hr : r = .tup [.one (.own 1), I (O.length : Int), I 0]) (hm : m' = [some (bPl f l), some (rowB (bndA f l O O.length))])
theorem s146 (f : Fmt) (l : List Sng) (O : List Int) (hf : FmtOK f) (hg : SngsOK l) (hO : InR O l.length) (hl : O.length ≤ 100) : HSpec Tryz.prog 58 [.one (.ptr 0 0), .one (.lst true [.int .i64] (i64s O))] [bPl f l] (LyRs f l O) := by
  have lo := i64s_len O
  have lg := sngA_len l
  have hbd := atF_bd hf hg hO
  have hf1 := hf.outer
  have hf2 := hf.lead
  have hf3 := hf.gap
  have hf4 := hf.tail
  have hf5 := hf.inner
  refine spec_of pMix (O := []) Tryz.func58 (c := bodyOf Tryz.f58) rfl (by kernel_rfl) (by kernel_rfl) Tryz.ntmps58 (res := [.tmp 4, .tmp 5, .tmp 6]) (by kernel_rfl) ?_
  repeat' ((conv => whnf); first | refine Rng.g ?_ | fail)
  refine LoopVC.mk (fun n st => ∃ (i : Nat), i ≤ O.length ∧ n = O.length - i ∧ (∀ j, j < i → okAt f l O j) ∧ st = ⟨1, envA 89 [(0, .x (.one (.ptr 0 0))), (1, .x (.one (.lst true [.int .i64] (i64s O)))), (7, .x (.one (.own 1))), (8, .int .i64 (atF f l O i)), (23, .x (.one (.lst true [.int .i64] (i64s O)))), (24, .int .i64 (O.length : Int)), (25, .int .i64 (i : Int))], [some (bPl f l), some (rowB (bndA f l O i))]⟩) _ _ ⟨0, Nat.zero_le _, rfl, fun j hj => absurd hj (Nat.not_lt_zero j), rfl⟩ ?_ ?_
  · refine ⟨[some 0, none], rfl, rfl, ?_, ?_⟩ <;> repeat' (first | exact trivial | exact rfl | apply And.intro)
    exact congrArg Int.ofNat lo
  rintro n _ ⟨i, hi, hn, hj, rfl⟩
  have lb := bndA_len f l O i
  have gi : rI (i64s O) (i : Int).toNat 0 = O.getD i 0 := by rw [Int.toNat_natCast]; exact i64s_get O i
  have hbi := hbd i hi
  by_cases hi' : i < O.length
  · have hr := hO i hi'
    obtain ⟨q, hq⟩ : ∃ q, O.getD i 0 = q := ⟨_, rfl⟩
    have c0 : rI (sngA l) q.toNat 0 = (l.getD q.toNat g0).long := sngA_0 l _
    have c1 : rI (sngA l) q.toNat (0 + 1) = (l.getD q.toNat g0).pitch := sngA_1 l _
    have c2 : rI (sngA l) q.toNat (0 + 1 + 1) = (l.getD q.toNat g0).least := sngA_2 l _
    have c3 : rI (sngA l) q.toNat (0 + (0 + 1 + 1)) = (l.getD q.toNat g0).least := sngA_2 l _
    rw [hq] at gi hr
    have hgk := hg.each q.toNat (by omega)
    have hw := (wid_bd hf.per.1 hgk).2
    have k1 := s139 f (some l) (l.getD q.toNat g0) hf hgk
    have ea : atF f l O (i + 1) = atF f l O i - (if 0 < i then f.gap else 0) - widF f (l.getD (O.getD i 0).toNat g0) := rfl
    rw [hq] at ea
    have eo : okAt f l O i ↔ (l.getD q.toNat g0).least ≤ atF f l O (i + 1) := by unfold okAt; rw [hq]
    by_cases h0 : 0 < i
    · have e1 : (if 0 < i then f.gap else 0) = f.gap := if_pos h0
      have e2 : (atF f l O i - f.gap) - widF f (l.getD q.toNat g0) = atF f l O (i + 1) := by rw [ea, e1]
      have hbj := hbd (i + 1) hi'
      have e3 : bndR f l O i = [Cell.int q, Cell.int (atF f l O i - f.gap), Cell.int (atF f l O (i + 1))] := by unfold bndR; rw [hq, e1]
      repeat' ((conv => whnf); first | rw [gi] | rw [c0] | rw [c1] | rw [c2] | refine Rng.g ?_ | refine Ob.g ?_ | refine JoinVC.on ?_ | (refine Br.mk (fun h => ?_) (fun h => ?_) <;> first | (exfalso; omega; done) | (exfalso; simp at h; done) | skip))
      conv => whnf
      refine CallVC.mk [0] _ _ _ rfl rfl rfl (k1) (fun r m' h' => ?_)
      obtain ⟨rfl, rfl⟩ := h'
      conv => whnf
      repeat' ((conv => whnf); first | rw [e2] | rw [c3] | refine Rng.g ?_ | refine Ob.g ?_ | (refine Br.mk (fun h => ?_) (fun h => ?_) <;> first | (exfalso; omega; done) | (exfalso; simp at h; done) | skip))
      · have hno : ¬ okAt f l O i := fun hk => by have := eo.1 hk; omega
        repeat refine Mm.mk ?_
        conv => whnf
        refine EndVC.mk _ rfl _ _ (.rule i hi' hj hno rfl rfl) ?_
        refine ⟨[some 0], rfl, rfl, ?_, ?_⟩ <;> repeat' (first | exact trivial | exact rfl | apply And.intro)
      · repeat refine Mm.mk ?_
        refine Ob.mk (by rw [eb116]; simp only [List.length_cons, List.length_nil]; omega) ?_
        repeat' ((conv => whnf); first | refine Rng.g ?_ | fail)
        refine Back.mk (O.length - (i + 1)) _ (by omega) ⟨i + 1, by omega, rfl, fun j hj' => ?_, rfl⟩ ?_
        · rcases Nat.lt_succ_iff_lt_or_eq.1 hj' with h' | rfl
          · exact hj j h'
          · exact eo.2 (by omega)
        · rw [bndA_succ, e3]
          refine ⟨[some 0, some 4], rfl, rfl, ?_, ?_⟩ <;> repeat' (first | exact trivial | exact rfl | apply And.intro)
    · have e1 : (if 0 < i then f.gap else 0) = 0 := if_neg h0
      have e2 : (atF f l O i) - widF f (l.getD q.toNat g0) = atF f l O (i + 1) := by rw [ea, e1]; omega
      have hbj := hbd (i + 1) hi'
      have e3 : bndR f l O i = [Cell.int q, Cell.int (atF f l O i), Cell.int (atF f l O (i + 1))] := by unfold bndR; rw [hq, e1]; simp only [Int.sub_zero]
      repeat' ((conv => whnf); first | rw [gi] | rw [c0] | rw [c1] | rw [c2] | refine Ob.g ?_ | refine JoinVC.on ?_ | (refine Br.mk (fun h => ?_) (fun h => ?_) <;> first | (exfalso; omega; done) | (exfalso; simp at h; done) | skip))
      conv => whnf
      refine CallVC.mk [0] _ _ _ rfl rfl rfl (k1) (fun r m' h' => ?_)
      obtain ⟨rfl, rfl⟩ := h'
      conv => whnf
      repeat' ((conv => whnf); first | rw [e2] | rw [c3] | refine Rng.g ?_ | refine Ob.g ?_ | (refine Br.mk (fun h => ?_) (fun h => ?_) <;> first | (exfalso; omega; done) | (exfalso; simp at h; done) | skip))
      · have hno : ¬ okAt f l O i := fun hk => by have := eo.1 hk; omega
        repeat refine Mm.mk ?_
        conv => whnf
        refine EndVC.mk _ rfl _ _ (.rule i hi' hj hno rfl rfl) ?_
        refine ⟨[some 0], rfl, rfl, ?_, ?_⟩ <;> repeat' (first | exact trivial | exact rfl | apply And.intro)
      · repeat refine Mm.mk ?_
        refine Ob.mk (by rw [eb116]; simp only [List.length_cons, List.length_nil]; omega) ?_
        repeat' ((conv => whnf); first | refine Rng.g ?_ | fail)
        refine Back.mk (O.length - (i + 1)) _ (by omega) ⟨i + 1, by omega, rfl, fun j hj' => ?_, rfl⟩ ?_
        · rcases Nat.lt_succ_iff_lt_or_eq.1 hj' with h' | rfl
          · exact hj j h'
          · exact eo.2 (by omega)
        · rw [bndA_succ, e3]
          refine ⟨[some 0, some 4], rfl, rfl, ?_, ?_⟩ <;> repeat' (first | exact trivial | exact rfl | apply And.intro)
  · have ei : i = O.length := by omega
    subst ei
    repeat' ((conv => whnf); first | rw [lo] | refine Rng.g ?_ | (refine Br.mk (fun h => ?_) (fun h => ?_) <;> first | (exfalso; omega; done) | (exfalso; simp at h; done) | skip))
    · repeat refine Mm.mk ?_
      conv => whnf
      refine EndVC.mk _ rfl _ _ (.limit hj (fun hL => (by have := hL.2; omega)) rfl rfl) ?_
      refine ⟨[some 0], rfl, rfl, ?_, ?_⟩ <;> repeat' (first | exact trivial | exact rfl | apply And.intro)
    · repeat refine Mm.mk ?_
      conv => whnf
      refine EndVC.mk _ rfl _ _ (.ok ⟨hj, by omega⟩ rfl rfl) ?_
      refine ⟨[some 0, some 1], rfl, rfl, ?_, ?_⟩ <;> repeat' (first | exact trivial | exact rfl | apply And.intro)
end Go.Sx

namespace Go.Sx
open Go Go.Proofs
set_option maxRecDepth 10000
set_option maxHeartbeats 8000000
open Classical in
theorem s144 (f : Fmt) (l : List Sng) (O : List Int) (hf : FmtOK f) (hg : SngsOK l) (hO : InR O l.length) (hl : O.length ≤ 100) : HSpec Tryz.prog 34 [.one (.ptr 0 0), .one (.lst true [.int .i64] (i64s O))] [bPl f l] (fun r m' => r = xP (LayOK f l O) ∧ m' = [some (bPl f l)]) := by
  refine spec_of pMix (O := []) Tryz.func34 (c := bodyOf Tryz.f34) rfl (by kernel_rfl) (by kernel_rfl) Tryz.ntmps34 (res := [.tmp 4]) (by kernel_rfl) ?_
  repeat' ((conv => whnf); first | refine Rng.g ?_ | fail)
  conv => whnf
  refine CallVC.mk [0] _ _ _ rfl rfl rfl (s146 f l O hf hg hO hl) (fun r m' h' => ?_)
  cases h' with
  | rule i hi h hn hr hm =>
    subst hr hm
    repeat' ((conv => whnf); first | refine Rng.g ?_ | fail)
    repeat refine Mm.mk ?_
    refine EndVC.mk _ rfl _ _ ⟨rfl, rfl⟩ ?_
    refine ⟨[some 0], rfl, rfl, ?_, ?_⟩ <;> repeat' (first | exact trivial | exact rfl | apply And.intro)
    show _ ↔ _
    exact ⟨fun h1 => absurd h1 (by decide), fun h1 => absurd (h1.1 i hi) hn⟩
  | limit h hn hr hm =>
    subst hr hm
    repeat' ((conv => whnf); first | refine Rng.g ?_ | fail)
    repeat refine Mm.mk ?_
    refine EndVC.mk _ rfl _ _ ⟨rfl, rfl⟩ ?_
    refine ⟨[some 0], rfl, rfl, ?_, ?_⟩ <;> repeat' (first | exact trivial | exact rfl | apply And.intro)
    show _ ↔ _
    exact ⟨fun h1 => absurd h1 (by decide), fun h1 => absurd h1 hn⟩
  | ok h hr hm =>
    subst hr hm
    repeat' ((conv => whnf); first | refine Rng.g ?_ | fail)
    repeat refine Mm.mk ?_
    refine EndVC.mk _ rfl _ _ ⟨rfl, rfl⟩ ?_
    refine ⟨[some 0], rfl, rfl, ?_, ?_⟩ <;> repeat' (first | exact trivial | exact rfl | apply And.intro)
    show _ ↔ _
    exact ⟨fun _ => h, fun _ => rfl⟩
inductive ArRs (f : Fmt) (l : List Sng) (r : AV) (m' : List (Option Blk)) : Prop
  | bad (e : Int) (h : ¬ (FmtOK f ∧ SngsOK l)) (he : e ≠ 0) (hr : r = .tup [.one .nils, I e]) (hm : m' = [])
  | none (hf : FmtOK f) (hg : SngsOK l) (hn : ¬ LayOK f l (allO l)) (hr : r = .tup [.one .nils, I 15]) (hm : m' = [])
  | ok (hf : FmtOK f) (hg : SngsOK l) (h : LayOK f l (allO l)) (hr : r = .tup [.one (.own 0), I 0]) (hm : m' = [some (rowOd (allO l))])
theorem allO_in (l : List Sng) : InR (allO l) l.length := fun i hi => (allO_idx l).rng i (by rw [(allO_idx l).len] at hi; exact hi)
theorem s59 (f : Fmt) (l : List Sng) (hI : f.nm.size ≤ 140737488355328) (hl : l.length ≤ 12) : HSpec Tryz.prog 15 [f.x, lSng l] [] (ArRs f l) := by
  refine spec_of pMix (O := []) Tryz.func15 (c := bodyOf Tryz.f15) rfl (by kernel_rfl) (by kernel_rfl) Tryz.ntmps15 (res := [.tmp 4, .tmp 5]) (by kernel_rfl) ?_
  repeat' ((conv => whnf); first | refine Rng.g ?_ | fail)
  conv => whnf
  refine CallVC.mk [] _ _ _ rfl rfl rfl (s138 f l hI) (fun r m' h' => ?_)
  rcases h' with ⟨e, hn, he, rfl, rfl⟩ | ⟨hf, hg, rfl, rfl⟩
  · repeat' ((conv => whnf); first | (refine Br.mk (fun h => ?_) (fun h => ?_) <;> first | (exfalso; omega; done) | (exfalso; simp at h; done) | skip))
    repeat refine Mm.mk ?_
    conv => whnf
    refine EndVC.mk _ rfl _ _ (.bad e hn he rfl rfl) ?_
    refine ⟨[], rfl, rfl, ?_, ?_⟩ <;> repeat' (first | exact trivial | exact rfl | apply And.intro)
  · repeat' ((conv => whnf); first | (refine Br.mk (fun h => ?_) (fun h => ?_) <;> first | (exfalso; omega; done) | (exfalso; simp at h; done) | skip))
    conv => whnf
    refine CallVC.mk [1] _ _ _ rfl rfl rfl (s143 f l hl) (fun r m' h' => ?_)
    obtain ⟨rfl, rfl⟩ := h'
    conv => whnf
    repeat' ((conv => whnf); first | refine Rng.g ?_ | fail)
    conv => whnf
    refine CallVC.mk [1] _ _ _ rfl rfl rfl (s144 f l (allO l) hf hg (allO_in l) (by rw [(allO_idx l).len]; omega)) (fun r m' h' => ?_)
    obtain ⟨rfl, rfl⟩ := h'
    conv => whnf
    repeat' ((conv => whnf); first | (refine Br.mk (fun h => ?_) (fun h => ?_) <;> first | (exfalso; omega; done) | (exfalso; simp at h; done) | skip))
    · repeat refine Mm.mk ?_
      conv => whnf
      refine EndVC.mk _ rfl _ _ (.ok hf hg h rfl rfl) ?_
      refine ⟨[some 2], rfl, rfl, ?_, ?_⟩ <;> repeat' (first | exact trivial | exact rfl | apply And.intro)
    · repeat refine Mm.mk ?_
      conv => whnf
      refine EndVC.mk _ rfl _ _ (.none hf hg h rfl rfl) ?_
      refine ⟨[], rfl, rfl, ?_, ?_⟩ <;> repeat' (first | exact trivial | exact rfl | apply And.intro)
/-! ### An order is laid -/
/-! ### The example -/
def f4 : Fmt := ⟨⟨#[102]⟩, 1000, 400, 10, 20, 10, 30, 5⟩
def l4 : List Sng := [⟨95, 20, 500⟩, ⟨30, 40, 800⟩, ⟨41, 10, 0⟩]
theorem f4_name : nameOK ⟨#[102]⟩ := ⟨by decide, by decide, fun j hj => by
  have : j = 0 := by
    have : j < 1 := hj
    omega
  subst this
  exact .inl (by decide)⟩
theorem f4_ok : FmtOK f4 := ⟨f4_name, by decide, by decide, by decide, by decide, by decide, by decide, by decide⟩
theorem l4_ok : SngsOK l4 := ⟨by decide, fun j hj => by
  have hc : j = 0 ∨ j = 1 ∨ j = 2 := by
    have : j < 3 := hj
    omega
  rcases hc with rfl | rfl | rfl <;> (unfold Sng.ok; decide)⟩
theorem allO4 : allO l4 = [1, 0, 2] := by decide
theorem lay4 : LayOK f4 l4 (allO l4) := by
  rw [allO4]
  refine ⟨fun i hi => ?_, by decide⟩
  have hc : i = 0 ∨ i = 1 ∨ i = 2 := by
    have : i < 3 := hi
    omega
  rcases hc with rfl | rfl | rfl <;> (unfold okAt; decide)
theorem s57 : PSpec Tryz.prog 5 [] (xP True) := by
  have hw := s25
  refine spec_of pMix (O := []) Tryz.func5 (c := bodyOf Tryz.f5) rfl (by kernel_rfl) (by kernel_rfl) Tryz.ntmps5 (res := [.tmp 0]) (by kernel_rfl) ?_
  repeat' ((conv => whnf); first | refine Rng.g ?_ | fail)
  conv => whnf
  refine CallVC.mk [] _ _ _ rfl rfl rfl (s59 f4 l4 (by decide) (by decide)) (fun r m' h' => ?_)
  cases h' with
  | bad e h he hr hm => exact absurd ⟨f4_ok, l4_ok⟩ h
  | none _ _ hN hr hm => exact absurd lay4 hN
  | ok _ _ _ hr hm =>
    subst hr hm
    rw [allO4]
    repeat' ((conv => whnf); first | refine Ob.g ?_ | fail)
    conv => whnf
    refine CallVC.mk [] _ _ _ rfl rfl rfl (s54 f4 ⟨95, 20, 500⟩ (by decide)) (fun r m' h' => ?_)
    cases h' with
    | bad e h he hr hm => exact absurd ⟨f4_ok, (by unfold Sng.ok; decide)⟩ h
    | ok _ _ hr hm =>
      subst hr hm
      have ew : widF f4 ⟨95, 20, 500⟩ = 200 := by decide
      have g0 : rI (i64s [1, 0, 2]) (Int.toNat 0) 0 = 1 := rfl
      have g3 : ((i64s [1, 0, 2]).length : Int) = 3 := rfl
      rw [ew]
      repeat' ((conv => whnf); first | rw [g0] | refine Ob.g ?_ | refine CallVC.pure rfl (hw) ?_ | (refine Br.mk (fun h => ?_) (fun h => ?_) <;> first | (exfalso; omega; done) | (exfalso; simp at h; done) | skip))
      all_goals
        repeat refine Mm.mk ?_
        refine EndVC.mk _ rfl _ _ ⟨rfl, rfl⟩ ?_
        refine ⟨[], rfl, rfl, ?_, ?_⟩ <;> repeat' (first | exact trivial | exact Iff.rfl | apply And.intro)
end Go.Sx

namespace Go.Sx
open Go Go.Proofs
set_option maxRecDepth 10000
set_option maxHeartbeats 16000000
theorem e3 : EntersF Tryz.prog 3 := enters_of Tryz.func3 (c := bodyOf Tryz.f3) (by kernel_rfl) rfl
/-! ### TopFaces: the law -/
/-- The tracks of an album, of a programme's parts. -/
def trkF (l : List Prt) (b : List Int) (i : Nat) : Sd.Sng := ⟨(l.getD i p0).to - (l.getD i p0).fr, if i < b.length then 1 + b.getD i 0 else 1, 0⟩
def trkL (l : List Prt) (b : List Int) (n : Nat) : List Sd.Sng := (List.range n).map (trkF l b)
theorem trkL_len (l : List Prt) (b : List Int) (n : Nat) : (trkL l b n).length = n := by simp [trkL]
theorem trkL_snoc (l : List Prt) (b : List Int) (n : Nat) : trkL l b (n + 1) = trkL l b n ++ [trkF l b n] := by simp [trkL, List.range_succ]
theorem Sd.sngA_snoc (l : List Sd.Sng) (g : Sd.Sng) : Sd.sngA (l ++ [g]) = Sd.sngA l ++ [[.int g.long, .int g.pitch, .int g.least]] := by simp [Sd.sngA]
theorem eb30 : Tryz.t34.bytes = 24 := rfl
theorem fcsA_0 (P : List (Nat × Nat)) (i : Nat) : rI (Sd.fcsA P) i 0 = ((P.getD i (0, 0)).1 : Int) := map_rI _ (0, 0) P i 0 rfl
theorem fcsA_1 (P : List (Nat × Nat)) (i : Nat) : rI (Sd.fcsA P) i (0 + 1) = ((P.getD i (0, 0)).2 : Int) := map_rI _ (0, 0) P i 1 rfl
theorem sumN_ge {P : List (Nat × Nat)} (h : ∀ i, i < P.length → 1 ≤ (P.getD i (0, 0)).2) : ∀ i, i ≤ P.length → i ≤ Sd.sumN P i
  | 0, _ => Nat.zero_le _
  | i + 1, hi => by
    have h1 := sumN_ge h i (by omega)
    have h2 := h i (by omega)
    rw [Sd.sumN_succ P i (by omega)]
    omega
theorem costP_succ (F : List Sd.Fmt) : ∀ (P : List (Nat × Nat)) (i : Nat), i < P.length → Sd.costP F (P.take (i + 1)) = Sd.costP F (P.take i) + (F.getD (P.getD i (0, 0)).1 Sd.f0).cost
  | [], i, h => absurd h (Nat.not_lt_zero i)
  | (a, b) :: t, 0, _ => by simp [Sd.costP]
  | (a, b) :: t, i + 1, h => by
    have h1 := costP_succ F t i (by simpa using h)
    simp only [List.take_succ_cons, Sd.costP, List.getD_cons_succ] at h1 ⊢
    rw [h1]
    omega
theorem costP_bd {F : List Sd.Fmt} {P : List (Nat × Nat)} (h : ∀ i, i < P.length → 0 ≤ (F.getD (P.getD i (0, 0)).1 Sd.f0).cost ∧ (F.getD (P.getD i (0, 0)).1 Sd.f0).cost ≤ 1048576) : ∀ i, i ≤ P.length → 0 ≤ Sd.costP F (P.take i) ∧ Sd.costP F (P.take i) ≤ 1048576 * i
  | 0, _ => by simp [Sd.costP]
  | i + 1, hi => by
    have h1 := costP_bd h i (by omega)
    have h2 := h i (by omega)
    rw [costP_succ F P i (by omega)]
    omega
theorem s3 (T : List Tak) (l : List Prt) (F : List Sd.Fmt) (b : List Int) (hI : TakI T) (hb : ∀ j, 0 ≤ b.getD j 0 ∧ b.getD j 0 ≤ 255) (hF : ∀ i, (F.getD i Sd.f0).nm.size ≤ 9223372036854775807) : HSpec Tryz.prog 3 [lT T, lP l, Sd.lFmt F, .one (.lst true [.int .u8] (i64s b))] [Sd.gNone] (fun r _ => r = xP True) := by
  have hw := s57
  have lpr := prtA_len l
  have lF := Sd.fmtA_len F
  have lb := i64s_len b
  by_cases hV : PgOK T l ∧ 0 < l.length ∧ F.length ≤ 4
  rotate_left
  · refine spec_of pMix (O := [(13, ([], [⟨0, [], []⟩, ⟨1, [], []⟩, ⟨2, [], []⟩, ⟨3, [], []⟩, ⟨4, [], []⟩, ⟨5, [], []⟩, ⟨6, [], []⟩, ⟨7, [], []⟩, ⟨8, [], []⟩, ⟨9, [], []⟩, ⟨10, [], []⟩, ⟨11, [], []⟩, ⟨12, [], []⟩, ⟨13, [], [14]⟩, ⟨14, [], []⟩, ⟨15, [], []⟩, ⟨16, [], []⟩]))]) Tryz.func3 (c := bodyOf Tryz.f3) rfl (by kernel_rfl) (by kernel_rfl) Tryz.ntmps3 (res := [.tmp 8]) (by kernel_rfl) ?_
    repeat' ((conv => whnf); first | refine Rng.g ?_ | fail)
    conv => whnf
    refine CallVC.mk [] _ _ _ rfl rfl rfl (s22 T l hI) (fun r m' h' => ?_)
    cases h' with
    | no h hr hm =>
      subst hr hm
      repeat' ((conv => whnf); first | refine CallVC.pure rfl (hw) ?_ | (refine Br.mk (fun h => ?_) (fun h => ?_) <;> first | (exfalso; omega; done) | (exfalso; simp at h; done) | skip))
      conv => whnf
      refine EndVC.mk _ rfl (xP True) [some Sd.gNone] rfl ?_
      refine ⟨[some 0], rfl, rfl, ?_, ?_⟩ <;> repeat' (first | exact trivial | exact rfl | exact Iff.rfl | apply And.intro)
    | yes hG hr hm =>
      subst hr hm
      repeat' ((conv => whnf); first | refine CallVC.pure rfl (hw) ?_ | (refine Br.mk (fun h => ?_) (fun h => ?_) <;> first | (exfalso; omega; done) | (exfalso; simp at h; done) | skip))
      all_goals first | (exfalso; exact hV ⟨hG, by omega, by omega⟩) | skip
      all_goals
        conv => whnf
        refine EndVC.mk _ rfl (xP True) [some Sd.gNone] rfl ?_
        refine ⟨[some 0], rfl, rfl, ?_, ?_⟩ <;> repeat' (first | exact trivial | exact rfl | exact Iff.rfl | apply And.intro)
  obtain ⟨hG, h0, hF4⟩ := hV
  have h6 := hG.len
  have hP := hG.ok
  have hpb := hP.pbs
  refine spec_of pMix (O := [(13, ([], [⟨0, [], []⟩, ⟨1, [], []⟩, ⟨2, [], []⟩, ⟨3, [], []⟩, ⟨4, [], []⟩, ⟨5, [], []⟩, ⟨6, [], []⟩, ⟨7, [], []⟩, ⟨8, [], []⟩, ⟨9, [], []⟩, ⟨10, [], []⟩, ⟨11, [], []⟩, ⟨12, [], []⟩, ⟨13, [], [14]⟩, ⟨14, [], []⟩, ⟨15, [], []⟩, ⟨16, [], []⟩]))]) Tryz.func3 (c := bodyOf Tryz.f3) rfl (by kernel_rfl) (by kernel_rfl) Tryz.ntmps3 (res := [.tmp 8]) (by kernel_rfl) ?_
  repeat' ((conv => whnf); first | refine Rng.g ?_ | fail)
  conv => whnf
  refine CallVC.mk [] _ _ _ rfl rfl rfl (s22 T l hI) (fun r m' h' => ?_)
  cases h' with
  | no h hr hm => exact absurd hG h
  | yes _ hr hm =>
  subst hr hm
  repeat' ((conv => whnf); first | (refine Br.mk (fun h => ?_) (fun h => ?_) <;> first | (exfalso; omega; done) | (exfalso; simp at h; done) | skip))
  all_goals first | (exfalso; omega) | skip
  refine LoopVC.mk (fun n st => ∃ (i : Nat), i ≤ l.length ∧ n = l.length - i ∧ (∀ j, j < i → 0 ≤ (l.getD j p0).gap) ∧ st = ⟨1, envA 281 [(0, .x (lT T)), (1, .x (lP l)), (2, .x (Sd.lFmt F)), (3, .x (.one (.lst true [.int .u8] (i64s b)))), (9, .x (.one (.own 1))), (11, .x (.one (.own 2))), (12, .int .i64 (i : Int))], [some Sd.gNone, some (rowS (rend T l)), some (.row 34 false Sd.KSng (Sd.sngA (trkL l b i)))]⟩) _ _ ⟨0, Nat.zero_le _, rfl, fun j h => absurd h (Nat.not_lt_zero j), rfl⟩ ?_ ?_
  · refine ⟨[some 0, some 1, none], rfl, rfl, ?_, ?_⟩ <;> repeat' (first | exact trivial | exact rfl | apply And.intro)
  rintro m _ ⟨i, hi, hm, hg, rfl⟩
  have ls := Sd.sngA_len (trkL l b i)
  rw [trkL_len] at ls
  by_cases hi' : i < l.length
  · have hp := hpb.2 i hi'
    obtain ⟨hp1, hp2, hp3⟩ := hp
    have g1 : rI (prtA l) (i : Int).toNat (0 + (0 + 1)) = (l.getD i p0).fr := prtA_1 l i
    have g2 : rI (prtA l) (i : Int).toNat (0 + (0 + 1 + 1)) = (l.getD i p0).to := prtA_2 l i
    have g3 : rI (prtA l) (i : Int).toNat (0 + (0 + 1 + 1 + 1)) = (l.getD i p0).gap := prtA_3 l i
    have gb : rI (i64s b) (i : Int).toNat 0 = b.getD i 0 := by rw [Int.toNat_natCast]; exact i64s_get b i
    have hbi := hb i
    by_cases hgap : (l.getD i p0).gap < 0
    · repeat' ((conv => whnf); first | refine Ob.g ?_ | refine CallVC.pure rfl (hw) ?_ | (refine Br.mk (fun h => ?_) (fun h => ?_) <;> first | (exfalso; omega; done) | (exfalso; simp at h; done) | skip))
      all_goals first | (exfalso; omega) | skip
      conv => whnf
      refine EndVC.mk _ rfl (xP True) [some Sd.gNone] rfl ?_
      refine ⟨[some 0], rfl, rfl, ?_, ?_⟩ <;> repeat' (first | exact trivial | exact rfl | exact Iff.rfl | apply And.intro)
    have e0 : (0 : Int) ≤ 1 + b.getD i 0 := by omega
    repeat' ((conv => whnf); first | refine Rng.g ?_ | refine Ob.g ?_ | refine JoinVC.on ?_ | (refine Br.mk (fun h => ?_) (fun h => ?_) <;> first | (exfalso; omega; done) | (exfalso; simp at h; done) | skip))
    all_goals first | (exfalso; omega) | skip
    · repeat refine Mm.mk ?_
      refine Ob.mk (by rw [ls, eb30]; simp only [List.length_cons, List.length_nil]; omega) ?_
      repeat' ((conv => whnf); first | refine Rng.g ?_ | fail)
      refine Back.mk (l.length - (i + 1)) _ (by omega) ⟨i + 1, by omega, rfl, fun j hj => by rcases Nat.lt_succ_iff_lt_or_eq.1 hj with h | h; exact hg j h; (subst h; omega), rfl⟩ ?_
      refine ⟨[some 0, some 1, some 4], rfl, rfl, ?_, ?_⟩ <;> repeat' (first | exact trivial | exact rfl | apply And.intro)
      rw [trkL_snoc, Sd.sngA_snoc, g1, g2, gb]
      unfold trkF
      rw [if_pos (by omega)]
    · repeat refine Mm.mk ?_
      refine Ob.mk (by rw [ls, eb30]; simp only [List.length_cons, List.length_nil]; omega) ?_
      repeat' ((conv => whnf); first | refine Rng.g ?_ | fail)
      refine Back.mk (l.length - (i + 1)) _ (by omega) ⟨i + 1, by omega, rfl, fun j hj => by rcases Nat.lt_succ_iff_lt_or_eq.1 hj with h | h; exact hg j h; (subst h; omega), rfl⟩ ?_
      refine ⟨[some 0, some 1, some 4], rfl, rfl, ?_, ?_⟩ <;> repeat' (first | exact trivial | exact rfl | apply And.intro)
      rw [trkL_snoc, Sd.sngA_snoc, g1, g2]
      unfold trkF
      rw [if_neg (by omega)]
  have ei : i = l.length := by omega
  subst ei
  have lS := trkL_len l b l.length
  generalize trkL l b l.length = S at *
  repeat' ((conv => whnf); first | refine CallVC.pure rfl (hw) ?_ | refine CallVC.pure rfl (Sd.s48 F S) ?_ | (refine Br.mk (fun h => ?_) (fun h => ?_) <;> first | (exfalso; omega; done) | (exfalso; simp at h; done) | skip))
  · conv => whnf
    refine EndVC.mk _ rfl (xP True) [some Sd.gNone] rfl ?_
    refine ⟨[some 0], rfl, rfl, ?_, ?_⟩ <;> repeat' (first | exact trivial | exact rfl | exact Iff.rfl | apply And.intro)
  conv => whnf
  first | refine CallVC.mk [0] _ _ _ rfl rfl rfl (Sd.s18a F S hF) (fun r m' h' => ?_) | refine CallVC0.on [0] _ _ _ rfl rfl rfl rfl (Sd.s18a F S hF) (fun r m' h' => ?_)
  cases h' with
  | bad h hr hm => exact absurd h (by assumption)
  | none hA h hr hm =>
    subst hr hm
    repeat' ((conv => whnf); first | refine CallVC.pure rfl (hw) ?_ | (refine Br.mk (fun h => ?_) (fun h => ?_) <;> first | (exfalso; omega; done) | (exfalso; simp at h; done) | skip))
    all_goals
      conv => whnf
      refine EndVC.mk _ rfl (xP True) [some Sd.gNone] rfl ?_
      refine ⟨[some 0], rfl, rfl, ?_, ?_⟩ <;> repeat' (first | exact trivial | exact rfl | exact Iff.rfl | apply And.intro)
  | ok hA w q hb0 hr hm =>
  subst hr hm
  obtain ⟨hpl, hco, -⟩ := Sd.planB_ok (F := F) (l := S) S.length 0 w q (by omega) (by omega) hb0
  generalize Sd.planB F S S.length 0 = P at *
  have hs2 := hP.poss.stop
  have hlS := smpA_len (rend T l)
  rw [rend_len] at hlS
  have heR := hG.stop
  have he0 : 0 ≤ endP l := endP_nonneg hpb hP.poss
  have lB : List.length (i64s (begs l l.length)) = l.length := by rw [i64s_len]; simp [begs]
  repeat' ((conv => whnf); first | (refine Br.mk (fun h => ?_) (fun h => ?_) <;> first | (exfalso; omega; done) | (exfalso; simp at h; done) | skip))
  conv => whnf
  first | refine CallVC.mk [] _ _ _ rfl rfl rfl (s8s T l hP) (fun r m' h' => ?_) | refine CallVC0.mk _ _ rfl (s8s T l hP) (fun r m' h' => ?_) | refine CallVC0.on [] _ _ _ rfl rfl rfl rfl (s8s T l hP) (fun r m' h' => ?_)
  obtain ⟨rfl, rfl⟩ := h'
  conv => whnf
  repeat' ((conv => whnf); first | (refine Br.mk (fun h => ?_) (fun h => ?_) <;> first | (exfalso; omega; done) | (exfalso; simp at h; done) | skip))
  all_goals first | (exfalso; omega) | skip
  repeat refine Mm.mk ?_
  refine Ob.mk (by simp only [List.length_nil, eb64, lpr]; omega) ?_
  repeat' ((conv => whnf); first | refine Rng.g ?_ | fail)
  obtain ⟨hf, hsum⟩ := (Sd.planOK_iff P 0).1 hpl
  simp only [Nat.zero_add] at hf hsum
  have hlen : ∀ i, i ≤ P.length → i ≤ Sd.sumN P i := sumN_ge (fun i hi => by have := (hf i hi).lt; omega)
  have hcost : ∀ i, i ≤ P.length → 0 ≤ Sd.costP F (P.take i) ∧ Sd.costP F (P.take i) ≤ 1048576 * i := costP_bd (fun i hi => (hA.fmts _ (hf i hi).fmt).cost)
  have hPl := hlen P.length (Nat.le_refl _)
  have lP0 := Sd.fcsA_len P
  have hg' : ∀ i, i < l.length → 0 ≤ (l.getD i p0).gap := hg
  refine LoopVC.mk (fun n st => ∃ (i : Nat), i ≤ P.length ∧ n = P.length - i ∧ st = ⟨1, envA 281 [(0, .x (lT T)), (1, .x (lP l)), (2, .x (Sd.lFmt F)), (3, .x (.one (.lst true [.int .u8] (i64s b)))), (9, .x (.one (.own 1))), (14, .x (.one (.lst false Sd.KF2 (Sd.fcsA P)))), (15, .int .i64 w.1), (17, .x (.one (.own 2))), (19, .int .i64 (Sd.costP F (P.take i))), (20, .int .i64 (Sd.sumN P i : Int)), (21, .int .i64 (endP (l.take (Sd.sumN P i)))), (22, .x (.one (.own 3))), (23, .x (.one (.own 4))), (24, .int .i64 (i : Int))], [some Sd.gNone, some (rowS (rend T l)), some (rowN (begs l l.length)), some (rowR (secP l (Sd.sumN P i) (endP (l.take (Sd.sumN P i))))), some (rowS ((rend T l).take (endP (l.take (Sd.sumN P i))).toNat))]⟩) _ _ ⟨0, Nat.zero_le _, rfl, rfl⟩ ?_ ?_
  · have u0 : Sd.sumN P 0 = 0 := by cases P <;> rfl
    have u1 : endP (l.take 0) = 0 := by simp [endP]
    rw [u0, u1, secP_zero h0]
    refine ⟨[some 0, some 1, some 3, some 5, none], rfl, rfl, ?_, ?_⟩ <;> repeat' (first | exact trivial | exact rfl | apply And.intro)
  rintro m' _ ⟨i, hi2, hm2, rfl⟩
  by_cases hi3 : i < P.length
  · have hfi := hf i hi3
    have hk := hfi.lt
    have hk2 := hfi.le
    have hfm := hfi.fmt
    have hsuc := Sd.sumN_succ P i hi3
    have hc0 := hcost i hi2
    have hc1 := costP_succ F P i hi3
    have hc2 := hcost (i + 1) hi3
    rw [hc1] at hc2
    have q0 : rI (Sd.fcsA P) (i : Int).toNat 0 = ((P.getD i (0, 0)).1 : Int) := fcsA_0 P i
    have q1 : rI (Sd.fcsA P) (i : Int).toNat (0 + 1) = ((P.getD i (0, 0)).2 : Int) := fcsA_1 P i
    have qc : rI (Sd.fmtA F) ((P.getD i (0, 0)).1 : Int).toNat (0 + 1 + 1 + 1 + 1 + 1 + 1 + 1) = (F.getD (P.getD i (0, 0)).1 Sd.f0).cost := (Sd.fmt_at F _ hfm).2.2.2.2.2.2.2
    generalize hK : Sd.sumN P i = K at *
    generalize hM : (P.getD i (0, 0)).2 = M at *
    have hKM : K + M ≤ l.length := by omega
    have ej : ((K : Int) + (M : Int) - 1).toNat = K + M - 1 := by omega
    have gb : rI (i64s (begs l l.length)) ((K : Int) + (M : Int) - 1).toNat 0 = begP l (K + M - 1) := by rw [ej, i64s_get, begs_get _ _ _ (by omega)]
    have gt : rI (prtA l) ((K : Int) + (M : Int) - 1).toNat (0 + (0 + 1 + 1)) = (l.getD (K + M - 1) p0).to := by rw [ej]; exact prtA_2 l _
    have gf : rI (prtA l) ((K : Int) + (M : Int) - 1).toNat (0 + (0 + 1)) = (l.getD (K + M - 1) p0).fr := by rw [ej]; exact prtA_1 l _
    have hb0' := begP_nonneg hpb hP.poss (K + M - 1) (by omega)
    have hpj := hpb.2 (K + M - 1) (by omega)
    obtain ⟨hpj1, hpj2, -⟩ := hpj
    have hs1 := split_at hpb hP.poss hg' (k := K) (by omega)
    have hs3 := split_at hpb hP.poss hg' (k := K + M) hKM
    have hfe : endP (l.take (K + M)) = finP l (K + M - 1) := by
      have h := endP_take_succ l (i := K + M - 1) (by omega)
      rwa [show K + M - 1 + 1 = K + M by omega] at h
    have hmo := endP_mono hpb hP.poss (k := K) (k' := K + M) (by omega) hKM
    have hm0 := endP_mono hpb hP.poss (k := 0) (k' := K) (by omega) (by omega)
    have hm3 := endP_mono hpb hP.poss (k := K + M) (k' := l.length) hKM (Nat.le_refl _)
    rw [show endP (l.take 0) = 0 by simp [endP]] at hm0
    rw [List.take_length] at hm3
    have het : begP l (K + M - 1) + (l.getD (K + M - 1) p0).to - (l.getD (K + M - 1) p0).fr = endP (l.take (K + M)) := by
      rw [hfe]; unfold finP Prt.long; omega
    have hbj : begP l (K + M - 1) ≤ 200 := by unfold finP Prt.long at hfe; omega
    obtain ⟨hr1, hr2, hr3, hr4⟩ := face_good hP hs1 hs3 (by omega) hm0 hmo (by omega) ((smpE_iff _).1 hG.good)
    have hs4 := split_rest hs1 hs3 (by omega)
    have hwn := whole_next (T := T) hs1 hs3 (by omega) hm0 hmo (by omega) rfl
    have hss := secP_secP (l := l) (k := K) (m := M) (endP (l.take K)) (endP (l.take (K + M)) - endP (l.take K)) hKM
    have hef := endP_face (l := l) (t := endP (l.take K)) (k := K) (k' := K + M) (by omega) hKM
    rw [show K + M - K = M by omega] at hr2 hr3 hs4 hwn hef
    rw [show endP (l.take K) + (endP (l.take (K + M)) - endP (l.take K)) = endP (l.take (K + M)) by omega] at hss
    generalize hA1 : endP (l.take K) = A1 at *
    generalize hA2 : endP (l.take (K + M)) = A2 at *
    repeat' ((conv => whnf); first | rw [q0] | rw [q1] | rw [qc] | rw [gb] | rw [gt] | rw [gf] | refine Rng.g ?_ | refine Ob.g ?_ | (refine Br.mk (fun h => ?_) (fun h => ?_) <;> first | (exfalso; omega; done) | (exfalso; simp at h; done) | skip))
    all_goals first | (exfalso; omega) | skip
    rw [het]
    repeat' ((conv => whnf); first | refine Rng.g ?_ | fail)
    have lf1 : List.length (prtA (List.take M (secP l K A1))) = M := by rw [prtA_len, List.length_take, secP_len]; omega
    have lf2 : List.length (prtA (secP l (K + M) A2)) = l.length - (K + M) := by rw [prtA_len, secP_len]
    conv => whnf
    first | refine CallVC.mk [] _ _ _ rfl rfl rfl (s9k T (secP l K A1) (A2 - A1) M hr1 hr4 hs4) (fun r m' h' => ?_) | refine CallVC0.mk _ _ rfl (s9k T (secP l K A1) (A2 - A1) M hr1 hr4 hs4) (fun r m' h' => ?_) | refine CallVC0.on [] _ _ _ rfl rfl rfl rfl (s9k T (secP l K A1) (A2 - A1) M hr1 hr4 hs4) (fun r m' h' => ?_)
    obtain ⟨rfl, rfl⟩ := h'
    conv => whnf
    rw [hss]
    repeat' ((conv => whnf); first | rw [q1] | refine Rng.g ?_ | refine Ob.g ?_ | (refine Br.mk (fun h => ?_) (fun h => ?_) <;> first | (exfalso; omega; done) | (exfalso; simp at h; done) | skip))
    all_goals first | (exfalso; omega) | skip
    conv => whnf
    refine CallVC.mk [] _ _ _ rfl rfl rfl (s26 T (List.take M (secP l K A1)) hr2) (fun r m' h' => ?_)
    rcases h' with ⟨-, rfl, rfl⟩ | ⟨h', -, -⟩
    rotate_left
    · exact absurd ((smpE_iff _).2 hr3) h'
    have la1 : List.length (smpA (rend T (List.take M (secP l K A1)))) = (A2 - A1).toNat := by rw [smpA_len, rend_len, hef]
    repeat' ((conv => whnf); first | refine Rng.g ?_ | (refine Br.mk (fun h => ?_) (fun h => ?_) <;> first | (exfalso; omega; done) | (exfalso; simp at h; done) | skip))
    all_goals first | (exfalso; omega) | skip
    have la2 : List.length (smpA (List.take A1.toNat (rend T l))) = A1.toNat := by rw [smpA_len, List.length_take, rend_len]; omega
    repeat refine Mm.mk ?_
    refine Ob.mk (by rw [la1, la2, eb47]; omega) ?_
    repeat' ((conv => whnf); first | refine Rng.g ?_ | fail)
    refine Back.mk (P.length - (i + 1)) _ (by omega) ⟨i + 1, by omega, rfl, rfl⟩ ?_
    rw [hsuc, hc1, hA2]
    refine ⟨[some 0, some 1, some 2, some 6, some 8], rfl, rfl, ?_, ?_⟩ <;> repeat' (first | exact trivial | exact rfl | apply And.intro)
    rw [← hwn]
    exact (List.map_append).symm
  have ei : i = P.length := by omega
  subst ei
  have hk5 : Sd.sumN P P.length = l.length := by omega
  have hwh : (rend T l).take (endP (l.take (Sd.sumN P P.length))).toNat = rend T l := by
    rw [hk5, List.take_length]
    exact List.take_of_length_le (by rw [rend_len]; exact Nat.le_refl _)
  rw [hwh, hk5, List.take_length, hco]
  repeat' ((conv => whnf); first | refine CallVC.pure rfl (s27 (rend T l) (rend T l) (by rw [rend_len]; omega)) ?_ | refine CallVC.pure rfl (hw) ?_ | (refine Br.mk (fun h => ?_) (fun h => ?_) <;> first | (exfalso; omega; done) | (exfalso; simp at h; done) | skip))
  conv => whnf
  refine EndVC.mk _ rfl (xP True) [some Sd.gNone] rfl ?_
  refine ⟨[some 0], rfl, rfl, ?_, ?_⟩ <;> repeat' (first | exact trivial | exact rfl | exact Iff.rfl | apply And.intro)
end Go.Sx

namespace Go.Sx.Sd
open Go Go.Proofs Go.Sx
set_option maxRecDepth 10000
/-! ### Rows read as tracks, formats, faces -/
theorem wfr_of : ∀ {ks : List CK} {r : List Cell}, r.length = ks.length → (∀ (j : Nat) k c, ks[j]? = some k → r[j]? = some c → Wf k c) → WfR ks r
  | [], [], _, _ => .nil
  | [], _ :: _, h, _ => by simp at h
  | _ :: _, [], h, _ => by simp at h
  | k :: ks, c :: cs, h, hw => .cons (hw 0 k c rfl rfl) (wfr_of (by simpa using h) fun j k' c' h1 h2 => hw (j + 1) k' c' (by simpa using h1) (by simpa using h2))
theorem wf_map {α : Type} {ks : List CK} {row : α → List Cell} {p : α → Prop} (hrow : ∀ r, WfR ks r → ∃ x, r = row x ∧ p x) {a : Arr} (h : Wf (.sl ks) (.sl a)) : ∃ l : List α, a = l.map row ∧ ∀ x ∈ l, p x := by
  cases h with
  | sl hl hr hw =>
    clear hl
    induction a with
    | nil => exact ⟨[], rfl, fun x hx => by simp at hx⟩
    | cons r a ih =>
      obtain ⟨l, rfl, h2⟩ := ih (fun r h => hr r (List.mem_cons_of_mem _ h)) (fun r h => hw r (List.mem_cons_of_mem _ h))
      obtain ⟨x, rfl, h3⟩ := hrow r (wfr_of (hr r (List.mem_cons_self ..)) (hw r (List.mem_cons_self ..)))
      exact ⟨x :: l, rfl, fun y hy => by rcases List.mem_cons.1 hy with rfl | hy; (· exact h3); exact h2 y hy⟩
theorem mem_getD {α : Type} {p : α → Prop} {l : List α} {d : α} (h : ∀ x ∈ l, p x) (hd : p d) (j : Nat) : p (l.getD j d) := by
  rw [List.getD_eq_getElem?_getD]
  cases hx : l[j]? with
  | none => exact hd
  | some x => exact h x (List.mem_of_getElem? hx)
theorem wf_fmts {a : Arr} (h : Wf (.sl KFm) (.sl a)) : ∃ F : List Fmt, a = fmtA F ∧ ∀ i, (F.getD i f0).nm.size ≤ maxLen := by
  obtain ⟨l, h1, h2⟩ := wf_map (row := fun f : Fmt => [.str f.nm, .int f.outer, .int f.inner, .int f.per, .int f.lead, .int f.gap, .int f.tail, .int f.cost]) (p := fun f => f.nm.size ≤ maxLen) (fun r hr => by
    obtain ⟨c0, _, rfl, g0, h1⟩ := hr.inv
    obtain ⟨n0, rfl, z0⟩ := g0.str_inv
    obtain ⟨c1, _, rfl, g1, h2⟩ := h1.inv
    obtain ⟨n1, rfl, _⟩ := g1.int_inv
    obtain ⟨c2, _, rfl, g2, h3⟩ := h2.inv
    obtain ⟨n2, rfl, _⟩ := g2.int_inv
    obtain ⟨c3, _, rfl, g3, h4⟩ := h3.inv
    obtain ⟨n3, rfl, _⟩ := g3.int_inv
    obtain ⟨c4, _, rfl, g4, h5⟩ := h4.inv
    obtain ⟨n4, rfl, _⟩ := g4.int_inv
    obtain ⟨c5, _, rfl, g5, h6⟩ := h5.inv
    obtain ⟨n5, rfl, _⟩ := g5.int_inv
    obtain ⟨c6, _, rfl, g6, h7⟩ := h6.inv
    obtain ⟨n6, rfl, _⟩ := g6.int_inv
    obtain ⟨c7, _, rfl, g7, h8⟩ := h7.inv
    obtain ⟨n7, rfl, _⟩ := g7.int_inv
    cases h8.nil_inv
    exact ⟨⟨n0, n1, n2, n3, n4, n5, n6, n7⟩, rfl, z0⟩) h
  exact ⟨l, h1, mem_getD h2 (by decide)⟩
end Go.Sx.Sd

namespace Go.Sx
open Go Go.Proofs
set_option maxRecDepth 10000
/-! ### Rows read as takes, parts, curves, samples -/
theorem wfr_of : ∀ {ks : List CK} {r : List Cell}, r.length = ks.length → (∀ (j : Nat) k c, ks[j]? = some k → r[j]? = some c → Wf k c) → WfR ks r
  | [], [], _, _ => .nil
  | [], _ :: _, h, _ => by simp at h
  | _ :: _, [], h, _ => by simp at h
  | k :: ks, c :: cs, h, hw => .cons (hw 0 k c rfl rfl) (wfr_of (by simpa using h) fun j k' c' h1 h2 => hw (j + 1) k' c' (by simpa using h1) (by simpa using h2))
theorem wf_map {α : Type} {ks : List CK} {row : α → List Cell} {p : α → Prop} (hrow : ∀ r, WfR ks r → ∃ x, r = row x ∧ p x) {a : Arr} (h : Wf (.sl ks) (.sl a)) : ∃ l : List α, a = l.map row ∧ ∀ x ∈ l, p x := by
  cases h with
  | sl hl hr hw =>
    clear hl
    induction a with
    | nil => exact ⟨[], rfl, fun x hx => by simp at hx⟩
    | cons r a ih =>
      obtain ⟨l, rfl, h2⟩ := ih (fun r h => hr r (List.mem_cons_of_mem _ h)) (fun r h => hw r (List.mem_cons_of_mem _ h))
      obtain ⟨x, rfl, h3⟩ := hrow r (wfr_of (hr r (List.mem_cons_self ..)) (hw r (List.mem_cons_self ..)))
      exact ⟨x :: l, rfl, fun y hy => by rcases List.mem_cons.1 hy with rfl | hy; (· exact h3); exact h2 y hy⟩
theorem mem_getD {α : Type} {p : α → Prop} {l : List α} {d : α} (h : ∀ x ∈ l, p x) (hd : p d) (j : Nat) : p (l.getD j d) := by
  rw [List.getD_eq_getElem?_getD]
  cases hx : l[j]? with
  | none => exact hd
  | some x => exact h x (List.mem_of_getElem? hx)
theorem inI_0 : inI 0 := by unfold inI; omega
theorem wf_smps {a : Arr} (h : Wf (.sl KS) (.sl a)) : ∃ l : List Smp, a = smpA l ∧ SmpI l := by
  obtain ⟨l, h1, h2⟩ := wf_map (row := fun s : Smp => [.int s.l, .int s.r]) (p := fun s => inI s.l ∧ inI s.r) (fun r hr => by
    obtain ⟨c0, _, rfl, g0, h1⟩ := hr.inv
    obtain ⟨n0, rfl, i0⟩ := g0.int_inv
    obtain ⟨c1, _, rfl, g1, h2⟩ := h1.inv
    obtain ⟨n1, rfl, i1⟩ := g1.int_inv
    cases h2.nil_inv
    exact ⟨⟨n0, n1⟩, rfl, by simpa [inR, inI] using i0, by simpa [inR, inI] using i1⟩) h
  exact ⟨l, h1, mem_getD h2 ⟨inI_0, inI_0⟩⟩
theorem wf_taks {a : Arr} (h : Wf (.sl KT) (.sl a)) : ∃ T : List Tak, a = takA T ∧ TakI T := by
  obtain ⟨l, h1, h2⟩ := wf_map (row := fun t : Tak => [.str t.nm, .sl (smpA t.d)]) (p := fun t => SmpI t.d) (fun r hr => by
    obtain ⟨c0, _, rfl, g0, h1⟩ := hr.inv
    obtain ⟨n0, rfl, i0⟩ := g0.str_inv
    obtain ⟨c1, _, rfl, g1, h2⟩ := h1.inv
    obtain ⟨a1, rfl, w1⟩ := g1.sl_inv
    obtain ⟨d, rfl, hd⟩ := wf_smps w1
    cases h2.nil_inv
    exact ⟨⟨n0, d⟩, rfl, hd⟩) h
  exact ⟨l, h1, mem_getD h2 (fun j => ⟨inI_0, inI_0⟩)⟩
theorem wf_prts {a : Arr} (h : Wf (.sl K7i) (.sl a)) : ∃ l : List Prt, a = prtA l := by
  obtain ⟨l, h1, _⟩ := wf_map (row := Prt.row) (p := fun _ => True) (fun r hr => by
    obtain ⟨c0, _, rfl, g0, h1⟩ := hr.inv
    obtain ⟨n0, rfl, _⟩ := g0.int_inv
    obtain ⟨c1, _, rfl, g1, h2⟩ := h1.inv
    obtain ⟨n1, rfl, _⟩ := g1.int_inv
    obtain ⟨c2, _, rfl, g2, h3⟩ := h2.inv
    obtain ⟨n2, rfl, _⟩ := g2.int_inv
    obtain ⟨c3, _, rfl, g3, h4⟩ := h3.inv
    obtain ⟨n3, rfl, _⟩ := g3.int_inv
    obtain ⟨c4, _, rfl, g4, h5⟩ := h4.inv
    obtain ⟨n4, rfl, _⟩ := g4.int_inv
    obtain ⟨c5, _, rfl, g5, h6⟩ := h5.inv
    obtain ⟨n5, rfl, _⟩ := g5.int_inv
    obtain ⟨c6, _, rfl, g6, h7⟩ := h6.inv
    obtain ⟨n6, rfl, _⟩ := g6.int_inv
    cases h7.nil_inv
    exact ⟨⟨n0, n1, n2, n3, n4, n5, n6⟩, rfl, trivial⟩) h
  exact ⟨l, h1⟩
end Go.Sx
