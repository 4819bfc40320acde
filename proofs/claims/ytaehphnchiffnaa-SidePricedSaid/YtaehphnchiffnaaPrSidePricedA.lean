import Derived.Test.YtaehphnchiffnaaXd
import Derived.Test.YtaehphnchiffnaaProg
import Derived.Laws.Bits64b
import Derived.Test.YtaehphnchiffnaaXc
namespace Go.Sx
open Go Go.Proofs
set_option maxRecDepth 10000
set_option maxHeartbeats 4000000
/-! ### Names -/
def okC (c : Int) : Prop := (97 ≤ c ∧ c ≤ 122) ∨ (48 ≤ c ∧ c ≤ 57)
def chr (s : ByteArray) (j : Nat) : Int := ((s.data.toList.getD j 0).toNat : Int)
def nameOK (s : ByteArray) : Prop := 1 ≤ s.size ∧ s.size ≤ 20 ∧ ∀ j, j < s.size → okC (chr s j)
theorem gset {α : Type} (l : List α) (i j : Nat) (a d : α) (h : i < l.length) : (l.set i a).getD j d = if j = i then a else l.getD j d := by
  simp only [List.getD_eq_getElem?_getD, List.getElem?_set]
  by_cases e : i = j
  · subst e; simp [h]
  · rw [if_neg e, if_neg (fun h => e h.symm)]
/-! ### A groove without a signal, and a groove in its band -/
/-! ### Sorting by insertion -/
def swp (O : List Int) (j : Nat) : List Int := (O.set (j + 1) (O.getD j 0)).set j (O.getD (j + 1) 0)
def ins (lt : Int → Int → Bool) (O : List Int) : Nat → List Int
  | 0 => O
  | j + 1 => if lt (O.getD (j + 1) 0) (O.getD j 0) = true then ins lt (swp O j) j else O
def isr (lt : Int → Int → Bool) (O : List Int) : Nat → List Int
  | 0 => O
  | k + 1 => ins lt (isr lt O k) (k + 1)
theorem swp_len (O : List Int) (j : Nat) : (swp O j).length = O.length := by simp [swp]
theorem ins_len (lt : Int → Int → Bool) : ∀ (j : Nat) (O : List Int), (ins lt O j).length = O.length
  | 0, O => rfl
  | j + 1, O => by
    unfold ins
    split
    · rw [ins_len lt j, swp_len]
    · rfl
theorem isr_len (lt : Int → Int → Bool) (O : List Int) : ∀ k, (isr lt O k).length = O.length
  | 0 => rfl
  | k + 1 => by
    unfold isr
    rw [ins_len, isr_len lt O k]
/-- Each number below n, once. -/
structure IdxOK (O : List Int) (n : Nat) : Prop where
  len : O.length = n
  rng : ∀ i, i < n → 0 ≤ O.getD i 0 ∧ O.getD i 0 < n
  inj : ∀ i j, i < n → j < n → O.getD i 0 = O.getD j 0 → i = j
def sgF (j i : Nat) : Nat := if i = j then j + 1 else if i = j + 1 then j else i
theorem swp_get (O : List Int) {j : Nat} (h : j + 1 < O.length) (i : Nat) : (swp O j).getD i 0 = O.getD (sgF j i) 0 := by
  unfold swp sgF
  rw [gset _ _ _ _ _ (by simp; omega), gset _ _ _ _ _ h]
  split
  · rfl
  · split <;> rfl
theorem sg_lt {n j i : Nat} (hj : j + 1 < n) (hi : i < n) : sgF j i < n := by unfold sgF; split <;> (try split) <;> omega
theorem sg_inj {j i k : Nat} (h : sgF j i = sgF j k) : i = k := by unfold sgF at h; (repeat' split at h) <;> omega
theorem IdxOK.swp {O : List Int} {n : Nat} (h : IdxOK O n) {j : Nat} (hj : j + 1 < n) : IdxOK (Go.Sx.swp O j) n := by
  have hl := h.len
  have g := swp_get O (j := j) (by omega)
  refine ⟨by rw [swp_len]; exact hl, fun i hi => ?_, fun i k hi hk => ?_⟩
  · rw [g]
    exact h.rng _ (sg_lt hj hi)
  · rw [g, g]
    exact fun e => sg_inj (h.inj _ _ (sg_lt hj hi) (sg_lt hj hk) e)
theorem IdxOK.ins {lt : Int → Int → Bool} {n : Nat} : ∀ (j : Nat) {O : List Int}, IdxOK O n → j < n → IdxOK (Go.Sx.ins lt O j) n
  | 0, O, h, _ => h
  | j + 1, O, h, hj => by
    unfold Go.Sx.ins
    split
    · exact IdxOK.ins j (h.swp hj) (by omega)
    · exact h
theorem IdxOK.isr {lt : Int → Int → Bool} {n : Nat} {O : List Int} (h : IdxOK O n) : ∀ k, k < n → IdxOK (Go.Sx.isr lt O k) n
  | 0, _ => h
  | k + 1, hk => by
    unfold Go.Sx.isr
    exact IdxOK.ins (k + 1) (h.isr k (by omega)) hk
def spanL (i n : Nat) : List Int := (List.range n).map fun k => ((i + k : Nat) : Int)
theorem spanL_len (i n : Nat) : (spanL i n).length = n := by simp [spanL]
theorem spanL_get (i n k : Nat) (h : k < n) : (spanL i n).getD k 0 = ((i + k : Nat) : Int) := by simp [spanL, List.getD_eq_getElem?_getD, List.getElem?_range h]
theorem spanL_succ (i n : Nat) : spanL i (n + 1) = spanL i n ++ [((i + n : Nat) : Int)] := by simp [spanL, List.range_succ]
theorem span_idx (n : Nat) : IdxOK (spanL 0 n) n := ⟨spanL_len 0 n, fun i hi => by rw [spanL_get _ _ _ hi]; omega, fun i j hi hj e => by rw [spanL_get _ _ _ hi, spanL_get _ _ _ hj] at e; omega⟩
/-! ### The bands of a side -/
structure Fmt where
  nm : ByteArray
  outer : Int
  inner : Int
  per : Int
  lead : Int
  gap : Int
  tail : Int
  cost : Int
structure FmtOK (f : Fmt) : Prop where
  nm : nameOK f.nm
  outer : 1 ≤ f.outer ∧ f.outer ≤ 4194304
  inner : 0 ≤ f.inner ∧ f.inner ≤ f.outer - 1
  per : 1 ≤ f.per ∧ f.per ≤ 65536
  cost : 0 ≤ f.cost ∧ f.cost ≤ 1048576
  lead : 0 ≤ f.lead ∧ f.lead ≤ 4194304
  gap : 0 ≤ f.gap ∧ f.gap ≤ 4194304
  tail : 0 ≤ f.tail ∧ f.tail ≤ 4194304
structure Sng where
  long : Int
  pitch : Int
  least : Int
abbrev g0 : Sng := ⟨0, 0, 0⟩
def Sng.ok (g : Sng) : Prop := (1 ≤ g.long ∧ g.long ≤ 16777216) ∧ (1 ≤ g.pitch ∧ g.pitch ≤ 4096) ∧ (0 ≤ g.least ∧ g.least ≤ 4194304)
structure SngsOK (l : List Sng) : Prop where
  len : l.length ≤ 24
  each : ∀ j, j < l.length → (l.getD j g0).ok
def widF (f : Fmt) (g : Sng) : Int := g.pitch * ((g.long + f.per - 1) / f.per)
theorem wid_bd {f : Fmt} {g : Sng} (hp : 1 ≤ f.per) (hg : g.ok) : (1 ≤ (g.long + f.per - 1) / f.per ∧ (g.long + f.per - 1) / f.per ≤ 16777216) ∧ 1 ≤ widF f g ∧ widF f g ≤ 68719476736 := by
  obtain ⟨⟨l1, l2⟩, ⟨p1, p2⟩, _⟩ := hg
  have h1 : 1 ≤ (g.long + f.per - 1) / f.per := by
    have := Int.add_mul_ediv_left (g.long - 1) 1 (show f.per ≠ 0 by omega)
    rw [show g.long - 1 + f.per * 1 = g.long + f.per - 1 by omega] at this
    have h2 : 0 ≤ (g.long - 1) / f.per := Int.ediv_nonneg (by omega) (by omega)
    omega
  have h2 : (g.long + f.per - 1) / f.per ≤ 16777216 := by
    have := Int.add_mul_ediv_left (g.long - 1) 1 (show f.per ≠ 0 by omega)
    rw [show g.long - 1 + f.per * 1 = g.long + f.per - 1 by omega] at this
    have h3 : (g.long - 1) / f.per ≤ g.long - 1 := Int.ediv_le_self _ (by omega)
    omega
  refine ⟨⟨h1, h2⟩, ?_, ?_⟩
  · unfold widF
    have := Int.mul_le_mul p1 h1 (by decide) (by omega)
    omega
  · unfold widF
    have := Int.mul_le_mul p2 h2 (by omega) (by decide)
    omega
/-- Where the next track begins or ends. -/
def atF (f : Fmt) (l : List Sng) (O : List Int) : Nat → Int
  | 0 => f.outer - f.lead
  | i + 1 => atF f l O i - (if 0 < i then f.gap else 0) - widF f (l.getD (O.getD i 0).toNat g0)
theorem atF_bd {f : Fmt} {l : List Sng} {O : List Int} (hf : FmtOK f) (hl : SngsOK l) (hO : ∀ i, i < O.length → 0 ≤ O.getD i 0 ∧ O.getD i 0 < l.length) : ∀ i, i ≤ O.length → atF f l O i ≤ 4194304 ∧ -4194304 - 68723671040 * (i : Int) ≤ atF f l O i
  | 0, _ => by
    have := hf.outer
    have := hf.lead
    unfold atF
    omega
  | i + 1, hi => by
    have h1 := atF_bd hf hl hO i (by omega)
    have h2 := hO i (by omega)
    have h3 := (wid_bd hf.per.1 (hl.each (O.getD i 0).toNat (by omega))).2
    have := hf.gap
    unfold atF
    split <;> omega
def bndR (f : Fmt) (l : List Sng) (O : List Int) (i : Nat) : List Cell := [.int (O.getD i 0), .int (atF f l O i - (if 0 < i then f.gap else 0)), .int (atF f l O (i + 1))]
def bndA (f : Fmt) (l : List Sng) (O : List Int) (n : Nat) : Arr := (List.range n).map (bndR f l O)
theorem bndA_len (f : Fmt) (l : List Sng) (O : List Int) (n : Nat) : (bndA f l O n).length = n := by simp [bndA]
theorem bndA_succ (f : Fmt) (l : List Sng) (O : List Int) (n : Nat) : bndA f l O (n + 1) = bndA f l O n ++ [bndR f l O n] := by simp [bndA, List.range_succ]
def okAt (f : Fmt) (l : List Sng) (O : List Int) (i : Nat) : Prop := (l.getD (O.getD i 0).toNat g0).least ≤ atF f l O (i + 1)
def LayOK (f : Fmt) (l : List Sng) (O : List Int) : Prop := (∀ i, i < O.length → okAt f l O i) ∧ f.inner ≤ atF f l O O.length - f.tail
def cmpI (x y : Int) : Int := if x < y then -1 else if y < x then 1 else 0
def usF (l : List Sng) (a b : Int) : Int := if cmpI (l.getD b.toNat g0).least (l.getD a.toNat g0).least ≠ 0 then cmpI (l.getD b.toNat g0).least (l.getD a.toNat g0).least else cmpI a b
def usB (l : List Sng) (a b : Int) : Bool := decide (usF l a b < 0)
def allO (l : List Sng) : List Int := isr (usB l) (spanL 0 l.length) (l.length - 1)
theorem allO_idx (l : List Sng) : IdxOK (allO l) l.length := by
  unfold allO
  by_cases h : l.length = 0
  · rw [h]; exact span_idx 0
  · exact (span_idx _).isr _ (by omega)
/-! ### If any order is possible, the usual one is: plain laws for the statements about sides -/
theorem at_mem {O : List Int} {i : Nat} (h : i < O.length) : O.getD i 0 ∈ O := by
  have : O.getD i 0 = O[i] := by simp [List.getD_eq_getElem?_getD, h]
  rw [this]
  exact List.getElem_mem h
end Go.Sx

namespace Go.Sx
open Go Go.Proofs
set_option maxRecDepth 10000
set_option maxHeartbeats 4000000
/-! ### Error codes -/
open Classical in
/-- The error of a format. -/
noncomputable def fmtE (f : Fmt) : Int := if FmtOK f then 0 else 2
open Classical in
/-- The error of tracks. -/
noncomputable def trkE (l : List Sng) : Int := if 24 < l.length then 6 else if SngsOK l then 0 else 2
open Classical in
noncomputable def bothE (f : Fmt) (l : List Sng) : Int := if FmtOK f then trkE l else 2
theorem fmtE_ok {f : Fmt} (h : FmtOK f) : fmtE f = 0 := if_pos h
theorem fmtE_no {f : Fmt} (h : ¬ FmtOK f) : fmtE f = 2 := if_neg h
theorem trkE_ok {l : List Sng} (h : SngsOK l) : trkE l = 0 := by
  unfold trkE
  rw [if_neg (by have := h.len; omega), if_pos h]
theorem trkE_many {l : List Sng} (h : 24 < l.length) : trkE l = 6 := if_pos h
theorem trkE_no {l : List Sng} (h1 : ¬ 24 < l.length) (h2 : ¬ SngsOK l) : trkE l = 2 := by
  unfold trkE
  rw [if_neg h1, if_neg h2]
theorem trkE_0 {l : List Sng} (h : trkE l = 0) : SngsOK l := Classical.byContradiction fun hc => by
  by_cases h1 : 24 < l.length
  · rw [trkE_many h1] at h; cases h
  · rw [trkE_no h1 hc] at h; cases h
theorem bothE_f {f : Fmt} {l : List Sng} (h : ¬ FmtOK f) : bothE f l = 2 := if_neg h
theorem bothE_t {f : Fmt} {l : List Sng} (h : FmtOK f) : bothE f l = trkE l := if_pos h
theorem bothE_ok {f : Fmt} {l : List Sng} (h : FmtOK f) (h2 : SngsOK l) : bothE f l = 0 := by rw [bothE_t h, trkE_ok h2]
/-- An order of different tracks. -/
structure OrdOK (n : Nat) (O : List Int) : Prop where
  rng : ∀ i, i < O.length → 0 ≤ O.getD i 0 ∧ O.getD i 0 < n
  inj : ∀ i j, i < O.length → j < O.length → O.getD i 0 = O.getD j 0 → i = j
theorem nodup_at {O : List Int} (h : O.Nodup) : ∀ i j, i < O.length → j < O.length → O.getD i 0 = O.getD j 0 → i = j := fun i j hi hj e => by
  simp only [List.getD_eq_getElem?_getD, List.getElem?_eq_getElem hi, List.getElem?_eq_getElem hj, Option.getD_some] at e
  exact (List.getElem_inj h).1 e
theorem OrdOK.of {n : Nat} {O : List Int} (h : O.Nodup) (h2 : ∀ x, x ∈ O → 0 ≤ x ∧ x < n) : OrdOK n O := ⟨fun _ hi => h2 _ (at_mem hi), nodup_at h⟩
/-! ### Orders by places -/
/-! ### An order from which tracks are left out -/
end Go.Sx

namespace Go.Sx
open Go Go.Proofs
set_option maxRecDepth 10000
set_option maxHeartbeats 4000000
/-! ### The usual order of some tracks -/
/-! ### What insertion gives -/
end Go.Sx

namespace Go.Sx
open Go Go.Proofs
set_option maxRecDepth 10000
set_option maxHeartbeats 8000000
theorem pMix : Try.prog.follows .mixedOrders = true := by kernel_rfl
/-! ### Formats and tracks -/
@[reducible] def Fmt.x (f : Fmt) : XV := .agg [.str f.nm, .int .i64 f.outer, .int .i64 f.inner, .int .i64 f.per, .int .i64 f.lead, .int .i64 f.gap, .int .i64 f.tail, .int .i64 f.cost]
@[reducible] def Sng.x (g : Sng) : XV := .agg [.int .i64 g.long, .int .i64 g.pitch, .int .i64 g.least]
def sngA (l : List Sng) : Arr := l.map fun g => [.int g.long, .int g.pitch, .int g.least]
theorem sngA_len (l : List Sng) : (sngA l).length = l.length := by simp [sngA]
theorem sngA_0 (l : List Sng) (i : Nat) : rI (sngA l) i 0 = (l.getD i g0).long := map_rI _ g0 l i 0 rfl
theorem sngA_1 (l : List Sng) (i : Nat) : rI (sngA l) i (0 + 1) = (l.getD i g0).pitch := map_rI _ g0 l i 1 rfl
theorem sngA_2 (l : List Sng) (i : Nat) : rI (sngA l) i (0 + 1 + 1) = (l.getD i g0).least := map_rI _ g0 l i 2 rfl
@[reducible] def KSng : List CK := [.int .i64, .int .i64, .int .i64]
@[reducible] def lSng (l : List Sng) : XV := .one (.lst true KSng (sngA l))
theorem s52 (n lo hi : Int) : PSpec Try.prog 52 [I n, I lo, I hi] (xP (n < lo ∨ n > hi)) := by
  refine spec_of pMix (O := []) Try.func52 (c := bodyOf Try.f52) rfl (by kernel_rfl) (by kernel_rfl) Try.ntmps52 (res := [.tmp 6]) (by kernel_rfl) ?_
  repeat' ((conv => whnf); first | refine Rng.g ?_ | refine Ob.g ?_ | refine Ob.e ?_ | refine Ob.m ?_ | refine Ob.mk (Nat.le_of_ble_eq_true rfl) ?_ | refine JoinVC.on ?_ | refine Nils.mk (fun h => ?_) ?_ | refine Val.t ?_ | refine Val.d ?_ | refine Mm.mk ?_ | (refine Br.mk (fun h => ?_) (fun h => ?_) <;> first | (exfalso; omega; done) | (exfalso; simp at h; done) | skip))
  · repeat refine Mm.mk ?_
    refine EndVC.mk _ rfl _ _ ⟨rfl, rfl⟩ ?_
    refine ⟨[], rfl, rfl, ?_, ?_⟩ <;> repeat' (first | exact trivial | exact rfl | exact Iff.rfl | apply And.intro)
    exact .inl h
  · repeat refine Mm.mk ?_
    refine EndVC.mk _ rfl _ _ ⟨rfl, rfl⟩ ?_
    refine ⟨[], rfl, rfl, ?_, ?_⟩ <;> repeat' (first | exact trivial | exact rfl | exact Iff.rfl | apply And.intro)
    exact ⟨fun h2 => .inr h2, fun h2 => h2.elim (fun h3 => absurd h3 h) id⟩
theorem s71 (n lo hi : Int) : PSpec Try.prog 71 [I n, I lo, I hi] (xP (n ≥ lo ∧ n ≤ hi)) := by
  refine spec_of pMix (O := []) Try.func71 (c := bodyOf Try.f71) rfl (by kernel_rfl) (by kernel_rfl) Try.ntmps71 (res := [.tmp 6]) (by kernel_rfl) ?_
  repeat' ((conv => whnf); first | refine Rng.g ?_ | refine Ob.g ?_ | refine Ob.e ?_ | refine Ob.m ?_ | refine Ob.mk (Nat.le_of_ble_eq_true rfl) ?_ | refine JoinVC.on ?_ | refine Nils.mk (fun h => ?_) ?_ | refine Val.t ?_ | refine Val.d ?_ | refine Mm.mk ?_ | (refine Br.mk (fun h => ?_) (fun h => ?_) <;> first | (exfalso; omega; done) | (exfalso; simp at h; done) | skip))
  · repeat refine Mm.mk ?_
    refine EndVC.mk _ rfl _ _ ⟨rfl, rfl⟩ ?_
    refine ⟨[], rfl, rfl, ?_, ?_⟩ <;> repeat' (first | exact trivial | exact rfl | exact Iff.rfl | apply And.intro)
    exact ⟨fun h2 => ⟨h, h2⟩, fun h2 => h2.2⟩
  · repeat refine Mm.mk ?_
    refine EndVC.mk _ rfl _ _ ⟨rfl, rfl⟩ ?_
    refine ⟨[], rfl, rfl, ?_, ?_⟩ <;> repeat' (first | exact trivial | exact rfl | exact Iff.rfl | apply And.intro)
    exact fun h2 => h h2.1
theorem bytA_get (b : ByteArray) (i : Nat) : rI (bytA b) i 0 = chr b i := map_rI _ (0 : UInt8) b.data.toList i 0 rfl
theorem bytA_len (b : ByteArray) : (bytA b).length = b.size := by
  show (b.data.toList.map _).length = b.data.size
  rw [List.length_map, Array.length_toList]
open Classical in
theorem s82 (s : ByteArray) (hs : s.size ≤ 140737488355328) : PSpec Try.prog 82 [.one (.str s)] (xP (nameOK s)) := by
  have lb := bytA_len s
  refine spec_of pMix (O := []) Try.func82 (c := bodyOf Try.f82) rfl (by kernel_rfl) (by kernel_rfl) Try.ntmps82 (res := [.tmp 2]) (by kernel_rfl) ?_
  repeat' ((conv => whnf); first | refine Rng.g ?_ | refine Ob.g ?_ | refine Ob.e ?_ | refine Ob.m ?_ | refine Ob.mk (Nat.le_of_ble_eq_true rfl) ?_ | refine JoinVC.on ?_ | refine Nils.mk (fun h => ?_) ?_ | refine Val.t ?_ | refine Val.d ?_ | refine Mm.mk ?_ | (refine Br.mk (fun h => ?_) (fun h => ?_) <;> first | (exfalso; omega; done) | (exfalso; simp at h; done) | skip))
  refine LoopVC.mk (fun n st => ∃ (i : Nat), i ≤ s.size ∧ n = s.size - i ∧ (∀ j, j < i → okC (chr s j)) ∧ st = ⟨0, envA 34 [(0, .x (.one (.str s))), (6, .x (.one (.lst false [.int .u8] (bytA s)))), (7, .int .i64 (s.size : Int)), (8, .int .i64 (i : Int))], []⟩) _ _ ⟨0, Nat.zero_le _, rfl, fun j hj => absurd hj (Nat.not_lt_zero j), rfl⟩ ?_ ?_
  · refine ⟨[], rfl, rfl, ?_, ?_⟩ <;> repeat' (first | exact trivial | exact rfl | exact Iff.rfl | apply And.intro)
    exact congrArg Int.ofNat lb
  rintro n _ ⟨i, hi, hn, hj, rfl⟩
  have gc : rI (bytA s) (i : Int).toNat 0 = chr s i := by rw [Int.toNat_natCast, bytA_get]
  by_cases hi' : i < s.size
  · by_cases hc : okC (chr s i)
    · have hc' := hc
      unfold okC at hc'
      repeat' ((conv => whnf); first | rw [gc] | refine Rng.g ?_ | refine Ob.g ?_ | refine Ob.e ?_ | refine Ob.m ?_ | refine Ob.mk (Nat.le_of_ble_eq_true rfl) ?_ | refine JoinVC.on ?_ | refine Nils.mk (fun h => ?_) ?_ | refine Val.t ?_ | refine Val.d ?_ | refine Mm.mk ?_ | (refine Br.mk (fun h => ?_) (fun h => ?_) <;> first | (exfalso; omega; done) | (exfalso; simp at h; done) | skip))
      all_goals
        refine Back.mk (s.size - (i + 1)) _ (by omega) ⟨i + 1, by omega, rfl, fun j hj' => ?_, rfl⟩ ?_
        · rcases Nat.lt_succ_iff_lt_or_eq.1 hj' with h' | rfl
          · exact hj j h'
          · exact hc
        · refine ⟨[], rfl, rfl, ?_, ?_⟩ <;> repeat' (first | exact trivial | exact rfl | exact Iff.rfl | apply And.intro)
    · have hc' := hc
      unfold okC at hc'
      repeat' ((conv => whnf); first | rw [gc] | refine Rng.g ?_ | refine Ob.g ?_ | refine Ob.e ?_ | refine Ob.m ?_ | refine Ob.mk (Nat.le_of_ble_eq_true rfl) ?_ | refine JoinVC.on ?_ | refine Nils.mk (fun h => ?_) ?_ | refine Val.t ?_ | refine Val.d ?_ | refine Mm.mk ?_ | (refine Br.mk (fun h => ?_) (fun h => ?_) <;> first | (exfalso; omega; done) | (exfalso; simp at h; done) | skip))
      all_goals
        repeat refine Mm.mk ?_
        refine EndVC.mk _ rfl _ _ ⟨rfl, rfl⟩ ?_
        refine ⟨[], rfl, rfl, ?_, ?_⟩ <;> repeat' (first | exact trivial | exact rfl | exact Iff.rfl | apply And.intro)
        exact fun hn => hc (hn.2.2 i hi')
  · have h0 : s.size = 0 ↔ s = ⟨#[]⟩ := ⟨fun h => ByteArray.ext (Array.eq_empty_of_size_eq_zero h), fun h => by rw [h]; rfl⟩
    repeat' ((conv => whnf); first | refine Rng.g ?_ | refine Ob.g ?_ | refine Ob.e ?_ | refine Ob.m ?_ | refine Ob.mk (Nat.le_of_ble_eq_true rfl) ?_ | refine JoinVC.on ?_ | refine Nils.mk (fun h => ?_) ?_ | refine Val.t ?_ | refine Val.d ?_ | refine Mm.mk ?_ | (refine Br.mk (fun h => ?_) (fun h => ?_) <;> first | (exfalso; omega; done) | (exfalso; simp at h; done) | skip))
    · have h1 : ¬ s.size = 0 := fun e => h (h0.1 e)
      repeat refine Mm.mk ?_
      refine EndVC.mk _ rfl _ _ ⟨rfl, rfl⟩ ?_
      refine ⟨[], rfl, rfl, ?_, ?_⟩ <;> repeat' (first | exact trivial | exact rfl | exact Iff.rfl | apply And.intro)
      exact ⟨fun h2 => ⟨by omega, by omega, fun j hj' => hj j (by omega)⟩, fun hn => (by have := hn.2.1; omega)⟩
    · have h1 : s.size = 0 := h0.2 (Classical.not_not.1 h)
      repeat refine Mm.mk ?_
      refine EndVC.mk _ rfl _ _ ⟨rfl, rfl⟩ ?_
      refine ⟨[], rfl, rfl, ?_, ?_⟩ <;> repeat' (first | exact trivial | exact rfl | exact Iff.rfl | apply And.intro)
      exact fun hn => (by have := hn.1; omega)
/-! ### Which formats and tracks are valid -/
theorem s67 (f : Fmt) (hI : f.nm.size ≤ 140737488355328) : PSpec Try.prog 67 [f.x] (.x (I (fmtE f))) := by
  have k0 := s52 f.lead 0 4194304
  have k1 := s52 f.gap 0 4194304
  have k2 := s52 f.tail 0 4194304
  refine spec_of pMix (O := []) Try.func67 (c := bodyOf Try.f67) rfl (by kernel_rfl) (by kernel_rfl) Try.ntmps67 (res := [.tmp 2]) (by kernel_rfl) ?_
  repeat' ((conv => whnf); first | refine Rng.g ?_ | refine Ob.g ?_ | refine Ob.e ?_ | refine Ob.m ?_ | refine Ob.mk (Nat.le_of_ble_eq_true rfl) ?_ | refine JoinVC.on ?_ | refine Nils.mk (fun h => ?_) ?_ | refine Val.t ?_ | refine Val.d ?_ | refine Mm.mk ?_ | refine CallVC.pure rfl (s82 f.nm hI) ?_ | refine CallVC.pure rfl (s52 f.outer 1 4194304) ?_ | refine CallVC.pure rfl (s52 f.inner 0 (f.outer - 1)) ?_ | refine CallVC.pure rfl (s52 f.per 1 65536) ?_ | refine CallVC.pure rfl (s52 f.cost 0 1048576) ?_ | refine CallVC0.pure rfl (s82 f.nm hI) ?_ | refine CallVC0.pure rfl (s52 f.outer 1 4194304) ?_ | refine CallVC0.pure rfl (s52 f.inner 0 (f.outer - 1)) ?_ | refine CallVC0.pure rfl (s52 f.per 1 65536) ?_ | refine CallVC0.pure rfl (s52 f.cost 0 1048576) ?_ | (refine Br.mk (fun h => ?_) (fun h => ?_) <;> first | (exfalso; omega; done) | (exfalso; simp at h; done) | skip))
  all_goals
    refine LoopVC.un 4 ?_
    repeat' ((conv => whnf); first | refine Rng.g ?_ | refine Ob.g ?_ | refine Ob.e ?_ | refine Ob.m ?_ | refine Ob.mk (Nat.le_of_ble_eq_true rfl) ?_ | refine JoinVC.on ?_ | refine Nils.mk (fun h => ?_) ?_ | refine Val.t ?_ | refine Val.d ?_ | refine Mm.mk ?_ | refine CallVC.pure rfl (k0) ?_ | refine CallVC.pure rfl (k1) ?_ | refine CallVC.pure rfl (k2) ?_ | refine CallVC0.pure rfl (k0) ?_ | refine CallVC0.pure rfl (k1) ?_ | refine CallVC0.pure rfl (k2) ?_ | (refine Br.mk (fun h => ?_) (fun h => ?_) <;> first | (exfalso; omega; done) | (exfalso; simp at h; done) | skip))
  rotate_right
  · repeat refine Mm.mk ?_
    refine EndVC.mk _ rfl _ _ ⟨rfl, rfl⟩ ?_
    refine ⟨[], rfl, rfl, ?_, ?_⟩ <;> repeat' (first | exact trivial | exact rfl | exact Iff.rfl | apply And.intro)
    exact (fmtE_ok ⟨Classical.not_not.1 (by assumption), by omega, by omega, by omega, by omega, by omega, by omega, by omega⟩).symm
  all_goals
    repeat refine Mm.mk ?_
    refine EndVC.mk _ rfl _ _ ⟨rfl, rfl⟩ ?_
    refine ⟨[], rfl, rfl, ?_, ?_⟩ <;> repeat' (first | exact trivial | exact rfl | exact Iff.rfl | apply And.intro)
    exact (fmtE_no fun hC => (by obtain ⟨h0, h1, h2, h3, h4, h5, h6, h7⟩ := hC; first | contradiction | omega)).symm
theorem s68 (l : List Sng) : PSpec Try.prog 68 [lSng l] (.x (I (trkE l))) := by
  have lp := sngA_len l
  by_cases h24 : 24 < l.length
  · refine spec_of pMix (O := []) Try.func68 (c := bodyOf Try.f68) rfl (by kernel_rfl) (by kernel_rfl) Try.ntmps68 (res := [.tmp 2]) (by kernel_rfl) ?_
    repeat' ((conv => whnf); first | refine Rng.g ?_ | refine Ob.g ?_ | refine Ob.e ?_ | refine Ob.m ?_ | refine Ob.mk (Nat.le_of_ble_eq_true rfl) ?_ | refine JoinVC.on ?_ | refine Nils.mk (fun h => ?_) ?_ | refine Val.t ?_ | refine Val.d ?_ | refine Mm.mk ?_ | (refine Br.mk (fun h => ?_) (fun h => ?_) <;> first | (exfalso; omega; done) | (exfalso; simp at h; done) | skip))
    repeat refine Mm.mk ?_
    refine EndVC.mk _ rfl _ _ ⟨rfl, rfl⟩ ?_
    refine ⟨[], rfl, rfl, ?_, ?_⟩ <;> repeat' (first | exact trivial | exact rfl | exact Iff.rfl | apply And.intro)
    exact (trkE_many h24).symm
  refine spec_of pMix (O := []) Try.func68 (c := bodyOf Try.f68) rfl (by kernel_rfl) (by kernel_rfl) Try.ntmps68 (res := [.tmp 2]) (by kernel_rfl) ?_
  repeat' ((conv => whnf); first | refine Rng.g ?_ | refine Ob.g ?_ | refine Ob.e ?_ | refine Ob.m ?_ | refine Ob.mk (Nat.le_of_ble_eq_true rfl) ?_ | refine JoinVC.on ?_ | refine Nils.mk (fun h => ?_) ?_ | refine Val.t ?_ | refine Val.d ?_ | refine Mm.mk ?_ | (refine Br.mk (fun h => ?_) (fun h => ?_) <;> first | (exfalso; omega; done) | (exfalso; simp at h; done) | skip))
  refine LoopVC.mk (fun n st => ∃ (i : Nat), i ≤ l.length ∧ n = l.length - i ∧ (∀ j, j < i → (l.getD j g0).ok) ∧ st = ⟨0, envA 28 [(8, .x (lSng l)), (9, .int .i64 (l.length : Int)), (10, .int .i64 (i : Int))], []⟩) _ _ ⟨0, Nat.zero_le _, rfl, fun j hj => absurd hj (Nat.not_lt_zero j), rfl⟩ ?_ ?_
  · refine ⟨[], rfl, rfl, ?_, ?_⟩ <;> repeat' (first | exact trivial | exact rfl | exact Iff.rfl | apply And.intro)
    all_goals exact congrArg Int.ofNat lp
  rintro n _ ⟨i, hi, hn, hj, rfl⟩
  have c0 : rI (sngA l) (i : Int).toNat 0 = (l.getD i g0).long := by rw [Int.toNat_natCast, sngA_0]
  have c1 : rI (sngA l) (i : Int).toNat (0 + 1) = (l.getD i g0).pitch := by rw [Int.toNat_natCast, sngA_1]
  have c2 : rI (sngA l) (i : Int).toNat (0 + 1 + 1) = (l.getD i g0).least := by rw [Int.toNat_natCast, sngA_2]
  have k0 := s52 (l.getD i g0).long 1 16777216
  have k1 := s52 (l.getD i g0).pitch 1 4096
  have k2 := s52 (l.getD i g0).least 0 4194304
  by_cases hi' : i < l.length
  · by_cases hg : (l.getD i g0).ok
    · have hg' := hg
      unfold Sng.ok at hg'
      repeat' ((conv => whnf); first | rw [c0] | rw [c1] | rw [c2] | refine Rng.g ?_ | refine Ob.g ?_ | refine Ob.e ?_ | refine Ob.m ?_ | refine Ob.mk (Nat.le_of_ble_eq_true rfl) ?_ | refine JoinVC.on ?_ | refine Nils.mk (fun h => ?_) ?_ | refine Val.t ?_ | refine Val.d ?_ | refine Mm.mk ?_ | refine CallVC.pure rfl (k0) ?_ | refine CallVC.pure rfl (k1) ?_ | refine CallVC.pure rfl (k2) ?_ | refine CallVC0.pure rfl (k0) ?_ | refine CallVC0.pure rfl (k1) ?_ | refine CallVC0.pure rfl (k2) ?_ | (refine Br.mk (fun h => ?_) (fun h => ?_) <;> first | (exfalso; omega; done) | (exfalso; simp at h; done) | skip))
      refine Back.mk (l.length - (i + 1)) _ (by omega) ⟨i + 1, by omega, rfl, fun j hj' => ?_, rfl⟩ ?_
      · rcases Nat.lt_succ_iff_lt_or_eq.1 hj' with h' | rfl
        · exact hj j h'
        · exact hg
      · refine ⟨[], rfl, rfl, ?_, ?_⟩ <;> repeat' (first | exact trivial | exact rfl | exact Iff.rfl | apply And.intro)
    · have hg' := hg
      unfold Sng.ok at hg'
      repeat' ((conv => whnf); first | rw [c0] | rw [c1] | rw [c2] | refine Rng.g ?_ | refine Ob.g ?_ | refine Ob.e ?_ | refine Ob.m ?_ | refine Ob.mk (Nat.le_of_ble_eq_true rfl) ?_ | refine JoinVC.on ?_ | refine Nils.mk (fun h => ?_) ?_ | refine Val.t ?_ | refine Val.d ?_ | refine Mm.mk ?_ | refine CallVC.pure rfl (k0) ?_ | refine CallVC.pure rfl (k1) ?_ | refine CallVC.pure rfl (k2) ?_ | refine CallVC0.pure rfl (k0) ?_ | refine CallVC0.pure rfl (k1) ?_ | refine CallVC0.pure rfl (k2) ?_ | (refine Br.mk (fun h => ?_) (fun h => ?_) <;> first | (exfalso; omega; done) | (exfalso; simp at h; done) | skip))
      all_goals
        repeat refine Mm.mk ?_
        refine EndVC.mk _ rfl _ _ ⟨rfl, rfl⟩ ?_
        refine ⟨[], rfl, rfl, ?_, ?_⟩ <;> repeat' (first | exact trivial | exact rfl | exact Iff.rfl | apply And.intro)
        exact (trkE_no h24 fun h => absurd (h.each i hi') hg).symm
  · repeat' ((conv => whnf); first | refine Rng.g ?_ | refine Ob.g ?_ | refine Ob.e ?_ | refine Ob.m ?_ | refine Ob.mk (Nat.le_of_ble_eq_true rfl) ?_ | refine JoinVC.on ?_ | refine Nils.mk (fun h => ?_) ?_ | refine Val.t ?_ | refine Val.d ?_ | refine Mm.mk ?_ | (refine Br.mk (fun h => ?_) (fun h => ?_) <;> first | (exfalso; omega; done) | (exfalso; simp at h; done) | skip))
    repeat refine Mm.mk ?_
    refine EndVC.mk _ rfl _ _ ⟨rfl, rfl⟩ ?_
    refine ⟨[], rfl, rfl, ?_, ?_⟩ <;> repeat' (first | exact trivial | exact rfl | exact Iff.rfl | apply And.intro)
    exact (trkE_ok ⟨by omega, fun j hj' => hj j (by omega)⟩).symm
@[reducible] def bPl (f : Fmt) (l : List Sng) : Blk := .box 95 [.str f.nm, .int .i64 f.outer, .int .i64 f.inner, .int .i64 f.per, .int .i64 f.lead, .int .i64 f.gap, .int .i64 f.tail, .int .i64 f.cost, .lst true KSng (sngA l)]
theorem s35 (f : Fmt) (l : List Sng) (hI : f.nm.size ≤ 140737488355328) : HSpec Try.prog 35 [f.x, lSng l] [] (fun r m' => (bothE f l ≠ 0 ∧ r = .tup [.one .nilp, I (bothE f l)] ∧ m' = []) ∨ (FmtOK f ∧ SngsOK l ∧ r = .tup [.one (.ptr 0 0), I 0] ∧ m' = [some (bPl f l)])) := by
  have v1 := s67 f hI
  have v2 := s68 l
  by_cases hC : FmtOK f
  rotate_left
  · rw [fmtE_no hC] at v1
    refine spec_of pMix (O := []) Try.func35 (c := bodyOf Try.f35) rfl (by kernel_rfl) (by kernel_rfl) Try.ntmps35 (res := [.tmp 4, .tmp 5]) (by kernel_rfl) ?_
    repeat' ((conv => whnf); first | refine Rng.g ?_ | refine Ob.g ?_ | refine Ob.e ?_ | refine Ob.m ?_ | refine Ob.mk (Nat.le_of_ble_eq_true rfl) ?_ | refine JoinVC.on ?_ | refine Nils.mk (fun h => ?_) ?_ | refine Val.t ?_ | refine Val.d ?_ | refine Mm.mk ?_ | refine CallVC.pure rfl (v1) ?_ | refine CallVC0.pure rfl (v1) ?_ | (refine Br.mk (fun h => ?_) (fun h => ?_) <;> first | (exfalso; omega; done) | (exfalso; simp at h; done) | skip))
    repeat refine Mm.mk ?_
    conv => whnf
    refine EndVC.mk _ rfl _ _ (.inl ⟨by rw [bothE_f hC]; decide, rfl, rfl⟩) ?_
    refine ⟨[], rfl, rfl, ?_, ?_⟩ <;> repeat' (first | exact trivial | exact rfl | exact Iff.rfl | apply And.intro)
    exact (bothE_f hC).symm
  rw [fmtE_ok hC] at v1
  have hb := bothE_t (l := l) hC
  by_cases hP : SngsOK l
  · rw [trkE_ok hP] at v2
    refine spec_of pMix (O := []) Try.func35 (c := bodyOf Try.f35) rfl (by kernel_rfl) (by kernel_rfl) Try.ntmps35 (res := [.tmp 4, .tmp 5]) (by kernel_rfl) ?_
    repeat' ((conv => whnf); first | refine Rng.g ?_ | refine Ob.g ?_ | refine Ob.e ?_ | refine Ob.m ?_ | refine Ob.mk (Nat.le_of_ble_eq_true rfl) ?_ | refine JoinVC.on ?_ | refine Nils.mk (fun h => ?_) ?_ | refine Val.t ?_ | refine Val.d ?_ | refine Mm.mk ?_ | refine CallVC.pure rfl (v1) ?_ | refine CallVC.pure rfl (v2) ?_ | refine CallVC0.pure rfl (v1) ?_ | refine CallVC0.pure rfl (v2) ?_ | (refine Br.mk (fun h => ?_) (fun h => ?_) <;> first | (exfalso; omega; done) | (exfalso; simp at h; done) | skip))
    repeat refine Mm.mk ?_
    conv => whnf
    refine EndVC.mk _ rfl _ _ (.inr ⟨hC, hP, rfl, rfl⟩) ?_
    refine ⟨[some 1], rfl, rfl, ?_, ?_⟩ <;> repeat' (first | exact trivial | exact rfl | exact Iff.rfl | apply And.intro)
  · obtain ⟨e, he⟩ : ∃ e, trkE l = e := ⟨_, rfl⟩
    have h0 : e ≠ 0 := fun h0 => hP (trkE_0 (he.trans h0))
    rw [he] at v2 hb
    refine spec_of pMix (O := []) Try.func35 (c := bodyOf Try.f35) rfl (by kernel_rfl) (by kernel_rfl) Try.ntmps35 (res := [.tmp 4, .tmp 5]) (by kernel_rfl) ?_
    repeat' ((conv => whnf); first | refine Rng.g ?_ | refine Ob.g ?_ | refine Ob.e ?_ | refine Ob.m ?_ | refine Ob.mk (Nat.le_of_ble_eq_true rfl) ?_ | refine JoinVC.on ?_ | refine Nils.mk (fun h => ?_) ?_ | refine Val.t ?_ | refine Val.d ?_ | refine Mm.mk ?_ | refine CallVC.pure rfl (v1) ?_ | refine CallVC.pure rfl (v2) ?_ | refine CallVC0.pure rfl (v1) ?_ | refine CallVC0.pure rfl (v2) ?_ | (refine Br.mk (fun h => ?_) (fun h => ?_) <;> first | (exfalso; omega; done) | (exfalso; simp at h; done) | skip))
    repeat refine Mm.mk ?_
    conv => whnf
    refine EndVC.mk _ rfl _ _ (.inl ⟨by rw [hb]; exact h0, rfl, rfl⟩) ?_
    refine ⟨[], rfl, rfl, ?_, ?_⟩ <;> repeat' (first | exact trivial | exact rfl | exact Iff.rfl | apply And.intro)
    exact hb.symm
@[reducible] def pvT : Option (List Sng) → SV
  | some l => .lst true KSng (sngA l)
  | none => .any
@[reducible] def bPv (f : Fmt) (v : Option (List Sng)) : Blk := .box 95 [.str f.nm, .int .i64 f.outer, .int .i64 f.inner, .int .i64 f.per, .int .i64 f.lead, .int .i64 f.gap, .int .i64 f.tail, .int .i64 f.cost, pvT v]
theorem s43 (f : Fmt) (v : Option (List Sng)) (g : Sng) (hf : FmtOK f) (hg : g.ok) : HSpec Try.prog 43 [.one (.ptr 0 0), g.x] [bPv f v] (fun r m' => r = .x (I (widF f g)) ∧ m' = [some (bPv f v)]) := by
  obtain ⟨w1, w2⟩ := wid_bd hf.per.1 hg
  have hp := hf.per
  have hg1 := hg.1
  have hg2 := hg.2.1
  unfold widF at w2
  cases v
  all_goals
    refine spec_of pMix (O := []) Try.func43 (c := bodyOf Try.f43) rfl (by kernel_rfl) (by kernel_rfl) Try.ntmps43 (res := [.tmp 4]) (by kernel_rfl) ?_
    repeat' ((conv => whnf); first | refine Rng.g ?_ | refine Ob.g ?_ | refine Ob.e ?_ | refine Ob.m ?_ | refine Ob.mk (Nat.le_of_ble_eq_true rfl) ?_ | refine JoinVC.on ?_ | refine Nils.mk (fun h => ?_) ?_ | refine Val.t ?_ | refine Val.d ?_ | refine Mm.mk ?_ | (refine Br.mk (fun h => ?_) (fun h => ?_) <;> first | (exfalso; omega; done) | (exfalso; simp at h; done) | skip))
    repeat refine Mm.mk ?_
    refine EndVC.mk _ rfl _ _ ⟨rfl, rfl⟩ ?_
    refine ⟨[some 0], rfl, rfl, ?_, ?_⟩ <;> repeat' (first | exact trivial | exact rfl | exact Iff.rfl | apply And.intro)
open Classical in
theorem s70 (s : ByteArray) : PSpec Try.prog 70 [.one (.str s)] (xP (nameOK s)) := by
  by_cases hs : s.size < 1 ∨ 20 < s.size
  · refine spec_of pMix (O := []) Try.func70 (c := bodyOf Try.f70) rfl (by kernel_rfl) (by kernel_rfl) Try.ntmps70 (res := [.tmp 2]) (by kernel_rfl) ?_
    repeat' ((conv => whnf); first | refine Rng.g ?_ | refine Ob.g ?_ | refine Ob.e ?_ | refine Ob.m ?_ | refine Ob.mk (Nat.le_of_ble_eq_true rfl) ?_ | refine JoinVC.on ?_ | refine Nils.mk (fun h => ?_) ?_ | refine Val.t ?_ | refine Val.d ?_ | refine Mm.mk ?_ | (refine Br.mk (fun h => ?_) (fun h => ?_) <;> first | (exfalso; omega; done) | (exfalso; simp at h; done) | skip))
    all_goals
      repeat refine Mm.mk ?_
      refine EndVC.mk _ rfl _ _ ⟨rfl, rfl⟩ ?_
      refine ⟨[], rfl, rfl, ?_, ?_⟩ <;> repeat' (first | exact trivial | exact rfl | exact Iff.rfl | apply And.intro)
      show ¬ _
      intro hn
      have := hn.1
      have := hn.2.1
      omega
  refine spec_of pMix (O := []) Try.func70 (c := bodyOf Try.f70) rfl (by kernel_rfl) (by kernel_rfl) Try.ntmps70 (res := [.tmp 2]) (by kernel_rfl) ?_
  repeat' ((conv => whnf); first | refine Rng.g ?_ | refine Ob.g ?_ | refine Ob.e ?_ | refine Ob.m ?_ | refine Ob.mk (Nat.le_of_ble_eq_true rfl) ?_ | refine JoinVC.on ?_ | refine Nils.mk (fun h => ?_) ?_ | refine Val.t ?_ | refine Val.d ?_ | refine Mm.mk ?_ | (refine Br.mk (fun h => ?_) (fun h => ?_) <;> first | (exfalso; omega; done) | (exfalso; simp at h; done) | skip))
  refine LoopVC.mk (fun n st => ∃ (i : Nat), i ≤ s.size ∧ n = s.size - i ∧ (∀ j, j < i → okC (chr s j)) ∧ st = ⟨0, envA 42 [(0, .x (.one (.str s))), (3, .int .i64 (i : Int))], []⟩) _ _ ⟨0, Nat.zero_le _, rfl, fun j hj => absurd hj (Nat.not_lt_zero j), rfl⟩ ?_ ?_
  · refine ⟨[], rfl, rfl, ?_, ?_⟩ <;> repeat' (first | exact trivial | exact rfl | exact Iff.rfl | apply And.intro)
  rintro n _ ⟨i, hi, hn, hj, rfl⟩
  have gc : chr s i = ((s.data.toList.getD (i : Int).toNat 0).toNat : Int) := rfl
  by_cases hi' : i < s.size
  · by_cases hc : okC (chr s i)
    · have hc' := hc
      unfold okC at hc'
      rw [gc] at hc'
      repeat' ((conv => whnf); first | refine Rng.g ?_ | refine Ob.g ?_ | refine Ob.e ?_ | refine Ob.m ?_ | refine Ob.mk (Nat.le_of_ble_eq_true rfl) ?_ | refine JoinVC.on ?_ | refine Nils.mk (fun h => ?_) ?_ | refine Val.t ?_ | refine Val.d ?_ | refine Mm.mk ?_ | (refine Br.mk (fun h => ?_) (fun h => ?_) <;> first | (exfalso; omega; done) | (exfalso; simp at h; done) | skip))
      all_goals
        refine Back.mk (s.size - (i + 1)) _ (by omega) ⟨i + 1, by omega, rfl, fun j hj' => ?_, rfl⟩ ?_
        · rcases Nat.lt_succ_iff_lt_or_eq.1 hj' with h' | rfl
          · exact hj j h'
          · exact hc
        · refine ⟨[], rfl, rfl, ?_, ?_⟩ <;> repeat' (first | exact trivial | exact rfl | exact Iff.rfl | apply And.intro)
    · have hc' := hc
      unfold okC at hc'
      rw [gc] at hc'
      repeat' ((conv => whnf); first | refine Rng.g ?_ | refine Ob.g ?_ | refine Ob.e ?_ | refine Ob.m ?_ | refine Ob.mk (Nat.le_of_ble_eq_true rfl) ?_ | refine JoinVC.on ?_ | refine Nils.mk (fun h => ?_) ?_ | refine Val.t ?_ | refine Val.d ?_ | refine Mm.mk ?_ | (refine Br.mk (fun h => ?_) (fun h => ?_) <;> first | (exfalso; omega; done) | (exfalso; simp at h; done) | skip))
      all_goals
        repeat refine Mm.mk ?_
        refine EndVC.mk _ rfl _ _ ⟨rfl, rfl⟩ ?_
        refine ⟨[], rfl, rfl, ?_, ?_⟩ <;> repeat' (first | exact trivial | exact rfl | exact Iff.rfl | apply And.intro)
        exact fun hn => hc (hn.2.2 i hi')
  · repeat' ((conv => whnf); first | refine Rng.g ?_ | refine Ob.g ?_ | refine Ob.e ?_ | refine Ob.m ?_ | refine Ob.mk (Nat.le_of_ble_eq_true rfl) ?_ | refine JoinVC.on ?_ | refine Nils.mk (fun h => ?_) ?_ | refine Val.t ?_ | refine Val.d ?_ | refine Mm.mk ?_ | (refine Br.mk (fun h => ?_) (fun h => ?_) <;> first | (exfalso; omega; done) | (exfalso; simp at h; done) | skip))
    repeat refine Mm.mk ?_
    refine EndVC.mk _ rfl _ _ ⟨rfl, rfl⟩ ?_
    refine ⟨[], rfl, rfl, ?_, ?_⟩ <;> repeat' (first | exact trivial | exact rfl | exact Iff.rfl | apply And.intro)
    · omega
    · omega
    · exact fun j hj' => hj j (by omega)
/-! ### Takes -/

theorem s41 (f : Fmt) : PSpec Try.prog 41 [f.x] (.x (I (fmtE f))) := by
  have k0 := s71 f.lead 0 4194304
  have k1 := s71 f.gap 0 4194304
  have k2 := s71 f.tail 0 4194304
  refine spec_of pMix (O := []) Try.func41 (c := bodyOf Try.f41) rfl (by kernel_rfl) (by kernel_rfl) Try.ntmps41 (res := [.tmp 2]) (by kernel_rfl) ?_
  repeat' ((conv => whnf); first | refine Rng.g ?_ | refine Ob.g ?_ | refine Ob.e ?_ | refine Ob.m ?_ | refine Ob.mk (Nat.le_of_ble_eq_true rfl) ?_ | refine JoinVC.on ?_ | refine Nils.mk (fun h => ?_) ?_ | refine Val.t ?_ | refine Val.d ?_ | refine Mm.mk ?_ | refine CallVC.pure rfl (s70 f.nm) ?_ | refine CallVC.pure rfl (s71 f.outer 0 4194304) ?_ | refine CallVC.pure rfl (s71 f.inner 0 (f.outer - 1)) ?_ | refine CallVC.pure rfl (s71 f.per 1 65536) ?_ | refine CallVC.pure rfl (s71 f.cost 0 1048576) ?_ | refine CallVC.pure rfl (k0) ?_ | refine CallVC.pure rfl (k1) ?_ | refine CallVC.pure rfl (k2) ?_ | refine CallVC0.pure rfl (s70 f.nm) ?_ | refine CallVC0.pure rfl (s71 f.outer 0 4194304) ?_ | refine CallVC0.pure rfl (s71 f.inner 0 (f.outer - 1)) ?_ | refine CallVC0.pure rfl (s71 f.per 1 65536) ?_ | refine CallVC0.pure rfl (s71 f.cost 0 1048576) ?_ | refine CallVC0.pure rfl (k0) ?_ | refine CallVC0.pure rfl (k1) ?_ | refine CallVC0.pure rfl (k2) ?_ | (refine Br.mk (fun h => ?_) (fun h => ?_) <;> first | (exfalso; omega; done) | (exfalso; simp at h; done) | skip))
  rotate_right
  · repeat refine Mm.mk ?_
    refine EndVC.mk _ rfl _ _ ⟨rfl, rfl⟩ ?_
    refine ⟨[], rfl, rfl, ?_, ?_⟩ <;> repeat' (first | exact trivial | exact rfl | exact Iff.rfl | apply And.intro)
    exact (fmtE_ok ⟨Classical.not_not.1 (by assumption), by omega, by omega, by omega, by omega, by omega, by omega, by omega⟩).symm
  all_goals
    repeat refine Mm.mk ?_
    refine EndVC.mk _ rfl _ _ ⟨rfl, rfl⟩ ?_
    refine ⟨[], rfl, rfl, ?_, ?_⟩ <;> repeat' (first | exact trivial | exact rfl | exact Iff.rfl | apply And.intro)
    exact (fmtE_no fun hC => (by obtain ⟨h0, h1, h2, h3, h4, h5, h6, h7⟩ := hC; first | contradiction | omega)).symm
theorem s42 (l : List Sng) : PSpec Try.prog 42 [lSng l] (.x (I (trkE l))) := by
  have lp := sngA_len l
  by_cases h24 : 24 < l.length
  · refine spec_of pMix (O := []) Try.func42 (c := bodyOf Try.f42) rfl (by kernel_rfl) (by kernel_rfl) Try.ntmps42 (res := [.tmp 2]) (by kernel_rfl) ?_
    repeat' ((conv => whnf); first | refine Rng.g ?_ | refine Ob.g ?_ | refine Ob.e ?_ | refine Ob.m ?_ | refine Ob.mk (Nat.le_of_ble_eq_true rfl) ?_ | refine JoinVC.on ?_ | refine Nils.mk (fun h => ?_) ?_ | refine Val.t ?_ | refine Val.d ?_ | refine Mm.mk ?_ | (refine Br.mk (fun h => ?_) (fun h => ?_) <;> first | (exfalso; omega; done) | (exfalso; simp at h; done) | skip))
    repeat refine Mm.mk ?_
    refine EndVC.mk _ rfl _ _ ⟨rfl, rfl⟩ ?_
    refine ⟨[], rfl, rfl, ?_, ?_⟩ <;> repeat' (first | exact trivial | exact rfl | exact Iff.rfl | apply And.intro)
    exact (trkE_many h24).symm
  refine spec_of pMix (O := []) Try.func42 (c := bodyOf Try.f42) rfl (by kernel_rfl) (by kernel_rfl) Try.ntmps42 (res := [.tmp 2]) (by kernel_rfl) ?_
  repeat' ((conv => whnf); first | refine Rng.g ?_ | refine Ob.g ?_ | refine Ob.e ?_ | refine Ob.m ?_ | refine Ob.mk (Nat.le_of_ble_eq_true rfl) ?_ | refine JoinVC.on ?_ | refine Nils.mk (fun h => ?_) ?_ | refine Val.t ?_ | refine Val.d ?_ | refine Mm.mk ?_ | (refine Br.mk (fun h => ?_) (fun h => ?_) <;> first | (exfalso; omega; done) | (exfalso; simp at h; done) | skip))
  refine LoopVC.mk (fun n st => ∃ (i : Nat), i ≤ l.length ∧ n = l.length - i ∧ (∀ j, j < i → (l.getD j g0).ok) ∧ st = ⟨0, envA 38 [(0, .x (lSng l)), (3, .int .i64 (i : Int))], []⟩) _ _ ⟨0, Nat.zero_le _, rfl, fun j hj => absurd hj (Nat.not_lt_zero j), rfl⟩ ?_ ?_
  · refine ⟨[], rfl, rfl, ?_, ?_⟩ <;> repeat' (first | exact trivial | exact rfl | exact Iff.rfl | apply And.intro)
  rintro n _ ⟨i, hi, hn, hj, rfl⟩
  have c0 : rI (sngA l) (i : Int).toNat 0 = (l.getD i g0).long := by rw [Int.toNat_natCast, sngA_0]
  have c1 : rI (sngA l) (i : Int).toNat (0 + (0 + 1)) = (l.getD i g0).pitch := by rw [Int.toNat_natCast]; exact sngA_1 l i
  have c2 : rI (sngA l) (i : Int).toNat (0 + (0 + 1 + 1)) = (l.getD i g0).least := by rw [Int.toNat_natCast]; exact sngA_2 l i
  have k0 := s71 (l.getD i g0).long 1 16777216
  have k1 := s71 (l.getD i g0).pitch 1 4096
  have k2 := s71 (l.getD i g0).least 0 4194304
  by_cases hi' : i < l.length
  · by_cases hg : (l.getD i g0).ok
    · have hg' := hg
      unfold Sng.ok at hg'
      repeat' ((conv => whnf); first | rw [c0] | rw [c1] | rw [c2] | refine Rng.g ?_ | refine Ob.g ?_ | refine Ob.e ?_ | refine Ob.m ?_ | refine Ob.mk (Nat.le_of_ble_eq_true rfl) ?_ | refine JoinVC.on ?_ | refine Nils.mk (fun h => ?_) ?_ | refine Val.t ?_ | refine Val.d ?_ | refine Mm.mk ?_ | refine CallVC.pure rfl (k0) ?_ | refine CallVC.pure rfl (k1) ?_ | refine CallVC.pure rfl (k2) ?_ | refine CallVC0.pure rfl (k0) ?_ | refine CallVC0.pure rfl (k1) ?_ | refine CallVC0.pure rfl (k2) ?_ | (refine Br.mk (fun h => ?_) (fun h => ?_) <;> first | (exfalso; omega; done) | (exfalso; simp at h; done) | skip))
      refine Back.mk (l.length - (i + 1)) _ (by omega) ⟨i + 1, by omega, rfl, fun j hj' => ?_, rfl⟩ ?_
      · rcases Nat.lt_succ_iff_lt_or_eq.1 hj' with h' | rfl
        · exact hj j h'
        · exact hg
      · refine ⟨[], rfl, rfl, ?_, ?_⟩ <;> repeat' (first | exact trivial | exact rfl | exact Iff.rfl | apply And.intro)
    · have hg' := hg
      unfold Sng.ok at hg'
      repeat' ((conv => whnf); first | rw [c0] | rw [c1] | rw [c2] | refine Rng.g ?_ | refine Ob.g ?_ | refine Ob.e ?_ | refine Ob.m ?_ | refine Ob.mk (Nat.le_of_ble_eq_true rfl) ?_ | refine JoinVC.on ?_ | refine Nils.mk (fun h => ?_) ?_ | refine Val.t ?_ | refine Val.d ?_ | refine Mm.mk ?_ | refine CallVC.pure rfl (k0) ?_ | refine CallVC.pure rfl (k1) ?_ | refine CallVC.pure rfl (k2) ?_ | refine CallVC0.pure rfl (k0) ?_ | refine CallVC0.pure rfl (k1) ?_ | refine CallVC0.pure rfl (k2) ?_ | (refine Br.mk (fun h => ?_) (fun h => ?_) <;> first | (exfalso; omega; done) | (exfalso; simp at h; done) | skip))
      all_goals
        repeat refine Mm.mk ?_
        refine EndVC.mk _ rfl _ _ ⟨rfl, rfl⟩ ?_
        refine ⟨[], rfl, rfl, ?_, ?_⟩ <;> repeat' (first | exact trivial | exact rfl | exact Iff.rfl | apply And.intro)
        exact (trkE_no h24 fun h => absurd (h.each i hi') hg).symm
  · repeat' ((conv => whnf); first | refine Rng.g ?_ | refine Ob.g ?_ | refine Ob.e ?_ | refine Ob.m ?_ | refine Ob.mk (Nat.le_of_ble_eq_true rfl) ?_ | refine JoinVC.on ?_ | refine Nils.mk (fun h => ?_) ?_ | refine Val.t ?_ | refine Val.d ?_ | refine Mm.mk ?_ | (refine Br.mk (fun h => ?_) (fun h => ?_) <;> first | (exfalso; omega; done) | (exfalso; simp at h; done) | skip))
    repeat refine Mm.mk ?_
    refine EndVC.mk _ rfl _ _ ⟨rfl, rfl⟩ ?_
    refine ⟨[], rfl, rfl, ?_, ?_⟩ <;> repeat' (first | exact trivial | exact rfl | exact Iff.rfl | apply And.intro)
    exact (trkE_ok ⟨by omega, fun j hj' => hj j (by omega)⟩).symm
end Go.Sx

namespace Go.Sx
open Go Go.Proofs
set_option maxRecDepth 10000
set_option maxHeartbeats 8000000
theorem eb3 : Try.t3.bytes = 8 := by kernel_rfl
/-! ### The usual order -/
theorem s110 (x : Int) : PSpec Try.prog 110 [I x] (xP (x ≠ x)) := by
  refine spec_of pMix (O := []) Try.func110 (c := bodyOf Try.f110) rfl (by kernel_rfl) (by kernel_rfl) Try.ntmps110 (res := [.tmp 2]) (by kernel_rfl) ?_
  repeat' ((conv => whnf); first | refine Rng.g ?_ | refine Ob.g ?_ | refine Ob.e ?_ | refine Ob.m ?_ | refine Ob.mk (Nat.le_of_ble_eq_true rfl) ?_ | refine JoinVC.on ?_ | refine Nils.mk (fun h => ?_) ?_ | refine Val.t ?_ | refine Val.d ?_ | refine Mm.mk ?_ | (refine Br.mk (fun h => ?_) (fun h => ?_) <;> first | (exfalso; omega; done) | (exfalso; simp at h; done) | skip))
  repeat refine Mm.mk ?_
  refine EndVC.mk _ rfl _ _ ⟨rfl, rfl⟩ ?_
  refine ⟨[], rfl, rfl, ?_, ?_⟩ <;> repeat' (first | exact trivial | exact rfl | exact Iff.rfl | apply And.intro)
theorem s111 (x : Int) : PSpec Try.prog 111 [I x] (xP (x ≠ x)) := by
  refine spec_of pMix (O := []) Try.func111 (c := bodyOf Try.f111) rfl (by kernel_rfl) (by kernel_rfl) Try.ntmps111 (res := [.tmp 2]) (by kernel_rfl) ?_
  repeat' ((conv => whnf); first | refine Rng.g ?_ | refine Ob.g ?_ | refine Ob.e ?_ | refine Ob.m ?_ | refine Ob.mk (Nat.le_of_ble_eq_true rfl) ?_ | refine JoinVC.on ?_ | refine Nils.mk (fun h => ?_) ?_ | refine Val.t ?_ | refine Val.d ?_ | refine Mm.mk ?_ | (refine Br.mk (fun h => ?_) (fun h => ?_) <;> first | (exfalso; omega; done) | (exfalso; simp at h; done) | skip))
  repeat refine Mm.mk ?_
  refine EndVC.mk _ rfl _ _ ⟨rfl, rfl⟩ ?_
  refine ⟨[], rfl, rfl, ?_, ?_⟩ <;> repeat' (first | exact trivial | exact rfl | exact Iff.rfl | apply And.intro)
theorem s85 (x y : Int) : PSpec Try.prog 85 [I x, I y] (.x (I (cmpI x y))) := by
  by_cases h1 : x < y
  · have e : cmpI x y = -1 := if_pos h1
    rw [e]
    refine spec_of pMix (O := []) Try.func85 (c := bodyOf Try.f85) rfl (by kernel_rfl) (by kernel_rfl) Try.ntmps85 (res := [.tmp 4]) (by kernel_rfl) ?_
    repeat' ((conv => whnf); first | refine Rng.g ?_ | refine Ob.g ?_ | refine Ob.e ?_ | refine Ob.m ?_ | refine Ob.mk (Nat.le_of_ble_eq_true rfl) ?_ | refine JoinVC.on ?_ | refine Nils.mk (fun h => ?_) ?_ | refine Val.t ?_ | refine Val.d ?_ | refine Mm.mk ?_ | refine CallVC.pure rfl (s110 x) ?_ | refine CallVC.pure rfl (s110 y) ?_ | refine CallVC0.pure rfl (s110 x) ?_ | refine CallVC0.pure rfl (s110 y) ?_ | (refine Br.mk (fun h => ?_) (fun h => ?_) <;> first | (exfalso; omega; done) | (exfalso; simp at h; done) | skip))
    all_goals
      repeat refine Mm.mk ?_
      refine EndVC.mk _ rfl _ _ ⟨rfl, rfl⟩ ?_
      refine ⟨[], rfl, rfl, ?_, ?_⟩ <;> repeat' (first | exact trivial | exact rfl | exact Iff.rfl | apply And.intro)
  · by_cases h2 : y < x
    · have e : cmpI x y = 1 := (if_neg h1).trans (if_pos h2)
      rw [e]
      refine spec_of pMix (O := []) Try.func85 (c := bodyOf Try.f85) rfl (by kernel_rfl) (by kernel_rfl) Try.ntmps85 (res := [.tmp 4]) (by kernel_rfl) ?_
      repeat' ((conv => whnf); first | refine Rng.g ?_ | refine Ob.g ?_ | refine Ob.e ?_ | refine Ob.m ?_ | refine Ob.mk (Nat.le_of_ble_eq_true rfl) ?_ | refine JoinVC.on ?_ | refine Nils.mk (fun h => ?_) ?_ | refine Val.t ?_ | refine Val.d ?_ | refine Mm.mk ?_ | refine CallVC.pure rfl (s110 x) ?_ | refine CallVC.pure rfl (s110 y) ?_ | refine CallVC0.pure rfl (s110 x) ?_ | refine CallVC0.pure rfl (s110 y) ?_ | (refine Br.mk (fun h => ?_) (fun h => ?_) <;> first | (exfalso; omega; done) | (exfalso; simp at h; done) | skip))
      all_goals
        repeat refine Mm.mk ?_
        refine EndVC.mk _ rfl _ _ ⟨rfl, rfl⟩ ?_
        refine ⟨[], rfl, rfl, ?_, ?_⟩ <;> repeat' (first | exact trivial | exact rfl | exact Iff.rfl | apply And.intro)
    · have e : cmpI x y = 0 := (if_neg h1).trans (if_neg h2)
      rw [e]
      refine spec_of pMix (O := []) Try.func85 (c := bodyOf Try.f85) rfl (by kernel_rfl) (by kernel_rfl) Try.ntmps85 (res := [.tmp 4]) (by kernel_rfl) ?_
      repeat' ((conv => whnf); first | refine Rng.g ?_ | refine Ob.g ?_ | refine Ob.e ?_ | refine Ob.m ?_ | refine Ob.mk (Nat.le_of_ble_eq_true rfl) ?_ | refine JoinVC.on ?_ | refine Nils.mk (fun h => ?_) ?_ | refine Val.t ?_ | refine Val.d ?_ | refine Mm.mk ?_ | refine CallVC.pure rfl (s110 x) ?_ | refine CallVC.pure rfl (s110 y) ?_ | refine CallVC0.pure rfl (s110 x) ?_ | refine CallVC0.pure rfl (s110 y) ?_ | (refine Br.mk (fun h => ?_) (fun h => ?_) <;> first | (exfalso; omega; done) | (exfalso; simp at h; done) | skip))
      all_goals
        repeat refine Mm.mk ?_
        refine EndVC.mk _ rfl _ _ ⟨rfl, rfl⟩ ?_
        refine ⟨[], rfl, rfl, ?_, ?_⟩ <;> repeat' (first | exact trivial | exact rfl | exact Iff.rfl | apply And.intro)
theorem s86 (x y : Int) : PSpec Try.prog 86 [I x, I y] (.x (I (cmpI x y))) := by
  by_cases h1 : x < y
  · have e : cmpI x y = -1 := if_pos h1
    rw [e]
    refine spec_of pMix (O := []) Try.func86 (c := bodyOf Try.f86) rfl (by kernel_rfl) (by kernel_rfl) Try.ntmps86 (res := [.tmp 4]) (by kernel_rfl) ?_
    repeat' ((conv => whnf); first | refine Rng.g ?_ | refine Ob.g ?_ | refine Ob.e ?_ | refine Ob.m ?_ | refine Ob.mk (Nat.le_of_ble_eq_true rfl) ?_ | refine JoinVC.on ?_ | refine Nils.mk (fun h => ?_) ?_ | refine Val.t ?_ | refine Val.d ?_ | refine Mm.mk ?_ | refine CallVC.pure rfl (s111 x) ?_ | refine CallVC.pure rfl (s111 y) ?_ | refine CallVC0.pure rfl (s111 x) ?_ | refine CallVC0.pure rfl (s111 y) ?_ | (refine Br.mk (fun h => ?_) (fun h => ?_) <;> first | (exfalso; omega; done) | (exfalso; simp at h; done) | skip))
    all_goals
      repeat refine Mm.mk ?_
      refine EndVC.mk _ rfl _ _ ⟨rfl, rfl⟩ ?_
      refine ⟨[], rfl, rfl, ?_, ?_⟩ <;> repeat' (first | exact trivial | exact rfl | exact Iff.rfl | apply And.intro)
  · by_cases h2 : y < x
    · have e : cmpI x y = 1 := (if_neg h1).trans (if_pos h2)
      rw [e]
      refine spec_of pMix (O := []) Try.func86 (c := bodyOf Try.f86) rfl (by kernel_rfl) (by kernel_rfl) Try.ntmps86 (res := [.tmp 4]) (by kernel_rfl) ?_
      repeat' ((conv => whnf); first | refine Rng.g ?_ | refine Ob.g ?_ | refine Ob.e ?_ | refine Ob.m ?_ | refine Ob.mk (Nat.le_of_ble_eq_true rfl) ?_ | refine JoinVC.on ?_ | refine Nils.mk (fun h => ?_) ?_ | refine Val.t ?_ | refine Val.d ?_ | refine Mm.mk ?_ | refine CallVC.pure rfl (s111 x) ?_ | refine CallVC.pure rfl (s111 y) ?_ | refine CallVC0.pure rfl (s111 x) ?_ | refine CallVC0.pure rfl (s111 y) ?_ | (refine Br.mk (fun h => ?_) (fun h => ?_) <;> first | (exfalso; omega; done) | (exfalso; simp at h; done) | skip))
      all_goals
        repeat refine Mm.mk ?_
        refine EndVC.mk _ rfl _ _ ⟨rfl, rfl⟩ ?_
        refine ⟨[], rfl, rfl, ?_, ?_⟩ <;> repeat' (first | exact trivial | exact rfl | exact Iff.rfl | apply And.intro)
    · have e : cmpI x y = 0 := (if_neg h1).trans (if_neg h2)
      rw [e]
      refine spec_of pMix (O := []) Try.func86 (c := bodyOf Try.f86) rfl (by kernel_rfl) (by kernel_rfl) Try.ntmps86 (res := [.tmp 4]) (by kernel_rfl) ?_
      repeat' ((conv => whnf); first | refine Rng.g ?_ | refine Ob.g ?_ | refine Ob.e ?_ | refine Ob.m ?_ | refine Ob.mk (Nat.le_of_ble_eq_true rfl) ?_ | refine JoinVC.on ?_ | refine Nils.mk (fun h => ?_) ?_ | refine Val.t ?_ | refine Val.d ?_ | refine Mm.mk ?_ | refine CallVC.pure rfl (s111 x) ?_ | refine CallVC.pure rfl (s111 y) ?_ | refine CallVC0.pure rfl (s111 x) ?_ | refine CallVC0.pure rfl (s111 y) ?_ | (refine Br.mk (fun h => ?_) (fun h => ?_) <;> first | (exfalso; omega; done) | (exfalso; simp at h; done) | skip))
      all_goals
        repeat refine Mm.mk ?_
        refine EndVC.mk _ rfl _ _ ⟨rfl, rfl⟩ ?_
        refine ⟨[], rfl, rfl, ?_, ?_⟩ <;> repeat' (first | exact trivial | exact rfl | exact Iff.rfl | apply And.intro)
theorem s84 (a b : Int) : PSpec Try.prog 84 [.one (.lst true [.int .i64] [[.int a], [.int b]])] (.x (I (if a ≠ 0 then a else b))) := by
  have g0 : rI [[Cell.int a], [Cell.int b]] (Int.toNat 0) 0 = a := rfl
  have g1 : rI [[Cell.int a], [Cell.int b]] (Int.toNat (0 + 1)) 0 = b := rfl
  by_cases h1 : a = 0
  · rw [if_neg (fun h => h h1)]
    refine spec_of pMix (O := []) Try.func84 (c := bodyOf Try.f84) rfl (by kernel_rfl) (by kernel_rfl) Try.ntmps84 (res := [.tmp 2]) (by kernel_rfl) ?_
    repeat' ((conv => whnf); first | refine Rng.g ?_ | refine Ob.g ?_ | refine Ob.e ?_ | refine Ob.m ?_ | refine Ob.mk (Nat.le_of_ble_eq_true rfl) ?_ | refine JoinVC.on ?_ | refine Nils.mk (fun h => ?_) ?_ | refine Val.t ?_ | refine Val.d ?_ | refine Mm.mk ?_ | (refine Br.mk (fun h => ?_) (fun h => ?_) <;> first | (exfalso; omega; done) | (exfalso; simp at h; done) | skip))
    refine LoopVC.un 4 ?_
    repeat' ((conv => whnf); first | rw [g0] | rw [g1] | refine Rng.g ?_ | refine Ob.g ?_ | refine Ob.e ?_ | refine Ob.m ?_ | refine Ob.mk (Nat.le_of_ble_eq_true rfl) ?_ | refine JoinVC.on ?_ | refine Nils.mk (fun h => ?_) ?_ | refine Val.t ?_ | refine Val.d ?_ | refine Mm.mk ?_ | (refine Br.mk (fun h => ?_) (fun h => ?_) <;> first | (exfalso; omega; done) | (exfalso; simp at h; done) | skip))
    all_goals
      repeat refine Mm.mk ?_
      refine EndVC.mk _ rfl _ _ ⟨rfl, rfl⟩ ?_
      refine ⟨[], rfl, rfl, ?_, ?_⟩ <;> repeat' (first | exact trivial | exact rfl | exact Iff.rfl | apply And.intro)
    all_goals omega
  · rw [if_pos h1]
    refine spec_of pMix (O := []) Try.func84 (c := bodyOf Try.f84) rfl (by kernel_rfl) (by kernel_rfl) Try.ntmps84 (res := [.tmp 2]) (by kernel_rfl) ?_
    repeat' ((conv => whnf); first | refine Rng.g ?_ | refine Ob.g ?_ | refine Ob.e ?_ | refine Ob.m ?_ | refine Ob.mk (Nat.le_of_ble_eq_true rfl) ?_ | refine JoinVC.on ?_ | refine Nils.mk (fun h => ?_) ?_ | refine Val.t ?_ | refine Val.d ?_ | refine Mm.mk ?_ | (refine Br.mk (fun h => ?_) (fun h => ?_) <;> first | (exfalso; omega; done) | (exfalso; simp at h; done) | skip))
    refine LoopVC.un 4 ?_
    repeat' ((conv => whnf); first | rw [g0] | rw [g1] | refine Rng.g ?_ | refine Ob.g ?_ | refine Ob.e ?_ | refine Ob.m ?_ | refine Ob.mk (Nat.le_of_ble_eq_true rfl) ?_ | refine JoinVC.on ?_ | refine Nils.mk (fun h => ?_) ?_ | refine Val.t ?_ | refine Val.d ?_ | refine Mm.mk ?_ | (refine Br.mk (fun h => ?_) (fun h => ?_) <;> first | (exfalso; omega; done) | (exfalso; simp at h; done) | skip))
    all_goals
      repeat refine Mm.mk ?_
      refine EndVC.mk _ rfl _ _ ⟨rfl, rfl⟩ ?_
      refine ⟨[], rfl, rfl, ?_, ?_⟩ <;> repeat' (first | exact trivial | exact rfl | exact Iff.rfl | apply And.intro)
theorem s74 (f : Fmt) (l : List Sng) (a b : Int) (ha : 0 ≤ a ∧ a < l.length) (hb : 0 ≤ b ∧ b < l.length) : HSpec Try.prog 74 [.one (.ptr 0 0), I a, I b] [bPl f l] (fun r m' => r = .x (I (usF l a b)) ∧ m' = [some (bPl f l)]) := by
  have lp := sngA_len l
  have c1 : rI (sngA l) a.toNat (0 + (0 + 1 + 1)) = (l.getD a.toNat g0).least := sngA_2 l _
  have c2 : rI (sngA l) b.toNat (0 + (0 + 1 + 1)) = (l.getD b.toNat g0).least := sngA_2 l _
  have k1 := s85 (l.getD b.toNat g0).least (l.getD a.toNat g0).least
  have k2 := s86 a b
  have k3 := s84 (cmpI (l.getD b.toNat g0).least (l.getD a.toNat g0).least) (cmpI a b)
  refine spec_of pMix (O := [(1, ([], [⟨0, [], []⟩, ⟨1, [], []⟩, ⟨2, [], []⟩, ⟨3, [], []⟩, ⟨4, [], []⟩, ⟨5, [], []⟩, ⟨6, [], []⟩, ⟨7, [], []⟩, ⟨8, [], []⟩, ⟨9, [], []⟩, ⟨10, [], []⟩, ⟨11, [], []⟩, ⟨12, [], []⟩, ⟨13, [], []⟩, ⟨14, [], []⟩, ⟨15, [], []⟩, ⟨17, [], []⟩, ⟨18, [], []⟩, ⟨16, [17, 18], []⟩, ⟨19, [], [20]⟩, ⟨20, [], []⟩, ⟨21, [], []⟩, ⟨22, [], []⟩]))]) Try.func74 (c := bodyOf Try.f74) rfl (by kernel_rfl) (by kernel_rfl) Try.ntmps74 (res := [.tmp 6]) (by kernel_rfl) ?_
  repeat' ((conv => whnf); first | rw [c1] | rw [c2] | refine Rng.g ?_ | refine Ob.g ?_ | refine Ob.e ?_ | refine Ob.m ?_ | refine Ob.mk (Nat.le_of_ble_eq_true rfl) ?_ | refine JoinVC.on ?_ | refine Nils.mk (fun h => ?_) ?_ | refine Val.t ?_ | refine Val.d ?_ | refine Mm.mk ?_ | refine CallVC.pure rfl (k1) ?_ | refine CallVC.pure rfl (k2) ?_ | refine CallVC.pure rfl (k3) ?_ | refine CallVC0.pure rfl (k1) ?_ | refine CallVC0.pure rfl (k2) ?_ | refine CallVC0.pure rfl (k3) ?_ | (refine Br.mk (fun h => ?_) (fun h => ?_) <;> first | (exfalso; omega; done) | (exfalso; simp at h; done) | skip))
  repeat refine Mm.mk ?_
  refine EndVC.mk _ rfl _ _ ⟨rfl, rfl⟩ ?_
  refine ⟨[some 0], rfl, rfl, ?_, ?_⟩ <;> repeat' (first | exact trivial | exact rfl | exact Iff.rfl | apply And.intro)
@[reducible] def rowOd (O : List Int) : Blk := .row 3 false [.int .i64] (i64s O)
theorem i64s_upd' (xs : List Int) (i : Nat) (v : Int) (h : i < xs.length) : updRow (i64s xs) i 0 [.int v] = i64s (xs.set i v) := by
  unfold updRow i64s
  rw [List.map_set]
  congr 1
  simp [List.getD_eq_getElem?_getD, h, setAll]
/-- All of them are numbers of tracks. -/
def InR (O : List Int) (m : Nat) : Prop := ∀ i, i < O.length → 0 ≤ O.getD i 0 ∧ O.getD i 0 < m
theorem InR.swp {O : List Int} {m : Nat} (h : InR O m) {j : Nat} (hj : j + 1 < O.length) : InR (Go.Sx.swp O j) m := fun i hi => by
  rw [swp_len] at hi
  rw [swp_get O hj]
  exact h _ (sg_lt hj hi)
theorem InR.ins {lt : Int → Int → Bool} {m : Nat} : ∀ (j : Nat) {O : List Int}, InR O m → j < O.length → InR (Go.Sx.ins lt O j) m
  | 0, O, h, _ => h
  | j + 1, O, h, hj => by
    unfold Go.Sx.ins
    split
    · exact InR.ins j (h.swp hj) (by rw [swp_len]; omega)
    · exact h
theorem InR.isr {lt : Int → Int → Bool} {m : Nat} {O : List Int} (h : InR O m) : ∀ k, k < O.length ∨ k = 0 → InR (Go.Sx.isr lt O k) m
  | 0, _ => h
  | k + 1, hk => by
    unfold Go.Sx.isr
    exact InR.ins (k + 1) (h.isr k (by omega)) (by rw [isr_len]; omega)
theorem s102 (f : Fmt) (l : List Sng) (O : List Int) (hO : InR O l.length) (hl : O.length ≤ 1000000) : HSpec Try.prog 102 [.one (.own 0), I 0, I (O.length : Int), .one (.bnd 74 false [.ptr 1 0])] [rowOd O, bPl f l] (fun r m' => r = .tup [] ∧ m' = [some (rowOd (isr (usB l) O (O.length - 1))), some (bPl f l)]) := by
  have lo := i64s_len O
  refine spec_of pMix (O := [(6, ([], [⟨0, [], []⟩, ⟨1, [], []⟩, ⟨2, [], []⟩, ⟨3, [], []⟩, ⟨4, [], []⟩, ⟨5, [], []⟩, ⟨6, [], []⟩, ⟨7, [], []⟩, ⟨8, [], []⟩, ⟨9, [], []⟩, ⟨10, [], []⟩, ⟨11, [], []⟩, ⟨12, [], []⟩, ⟨13, [], []⟩, ⟨14, [], []⟩, ⟨15, [2, 3, 4], []⟩, ⟨16, [], []⟩, ⟨17, [], []⟩]))]) Try.func102 (c := bodyOf Try.f102) rfl (by kernel_rfl) (by kernel_rfl) Try.ntmps102 (res := []) (by kernel_rfl) ?_
  repeat' ((conv => whnf); first | refine Rng.g ?_ | refine Ob.g ?_ | refine Ob.e ?_ | refine Ob.m ?_ | refine Ob.mk (Nat.le_of_ble_eq_true rfl) ?_ | refine JoinVC.on ?_ | refine Nils.mk (fun h => ?_) ?_ | refine Val.t ?_ | refine Val.d ?_ | refine Mm.mk ?_ | (refine Br.mk (fun h => ?_) (fun h => ?_) <;> first | (exfalso; omega; done) | (exfalso; simp at h; done) | skip))
  refine LoopVC.mk (fun n st => ∃ (k : Nat), (k < O.length ∨ k = 0) ∧ n = O.length - k ∧ st = ⟨2, envA 53 [(0, .x (.one (.own 0))), (1, .x (I 0)), (2, .x (I (O.length : Int))), (3, .x (.one (.bnd 74 false [.ptr 1 0]))), (8, .int .i64 ((k : Int) + 1))], [some (rowOd (isr (usB l) O k)), some (bPl f l)]⟩) _ _ ⟨0, .inr rfl, rfl, rfl⟩ ?_ ?_
  · refine ⟨[some 0, some 1], rfl, rfl, ?_, ?_⟩ <;> repeat' (first | exact trivial | exact rfl | exact Iff.rfl | apply And.intro)
  rintro n _ ⟨k, hk, hn, rfl⟩
  by_cases hk' : k + 1 < O.length
  · obtain ⟨Z, hZ⟩ : ∃ Z, isr (usB l) O (k + 1) = Z := ⟨_, rfl⟩
    have hZ' : ins (usB l) (isr (usB l) O k) (k + 1) = Z := hZ
    repeat' ((conv => whnf); first | refine Rng.g ?_ | refine Ob.g ?_ | refine Ob.e ?_ | refine Ob.m ?_ | refine Ob.mk (Nat.le_of_ble_eq_true rfl) ?_ | refine JoinVC.on ?_ | refine Nils.mk (fun h => ?_) ?_ | refine Val.t ?_ | refine Val.d ?_ | refine Mm.mk ?_ | (refine Br.mk (fun h => ?_) (fun h => ?_) <;> first | (exfalso; omega; done) | (exfalso; simp at h; done) | skip))
    refine LoopVC.mk (fun n st => ∃ (j : Nat) (V : List Int), j ≤ k + 1 ∧ n = j ∧ V.length = O.length ∧ InR V l.length ∧ ins (usB l) V j = Z ∧ st = ⟨2, envA 53 [(0, .x (.one (.own 0))), (1, .x (I 0)), (2, .x (I (O.length : Int))), (3, .x (.one (.bnd 74 false [.ptr 1 0]))), (8, .int .i64 ((k : Int) + 1)), (9, .int .i64 (j : Int))], [some (rowOd V), some (bPl f l)]⟩) _ _ ⟨k + 1, isr (usB l) O k, Nat.le_refl _, rfl, isr_len _ _ _, hO.isr k hk, hZ', rfl⟩ ?_ ?_
    · refine ⟨[some 0, some 1], rfl, rfl, ?_, ?_⟩ <;> repeat' (first | exact trivial | exact rfl | exact Iff.rfl | apply And.intro)
    rintro n _ ⟨j, V, hj, hn, lV, hV, hi, rfl⟩
    have lv := i64s_len V
    cases j with
    | zero =>
      have e : V = Z := hi
      repeat' ((conv => whnf); first | refine Rng.g ?_ | refine Ob.g ?_ | refine Ob.e ?_ | refine Ob.m ?_ | refine Ob.mk (Nat.le_of_ble_eq_true rfl) ?_ | refine JoinVC.on ?_ | refine Nils.mk (fun h => ?_) ?_ | refine Val.t ?_ | refine Val.d ?_ | refine Mm.mk ?_ | (refine Br.mk (fun h => ?_) (fun h => ?_) <;> first | (exfalso; omega; done) | (exfalso; simp at h; done) | skip))
      refine Back.mk (O.length - (k + 1)) _ (by omega) ⟨k + 1, .inl hk', rfl, rfl⟩ ?_
      rw [hZ, ← e]
      refine ⟨[some 0, some 1], rfl, rfl, ?_, ?_⟩ <;> repeat' (first | exact trivial | exact rfl | exact Iff.rfl | apply And.intro)
    | succ j =>
      have g1 : rI (i64s V) ((j + 1 : Nat) : Int).toNat 0 = V.getD (j + 1) 0 := by rw [Int.toNat_natCast]; exact i64s_get V _
      have g2 : rI (i64s V) (((j + 1 : Nat) : Int) - 1).toNat 0 = V.getD j 0 := by rw [show (((j + 1 : Nat) : Int) - 1).toNat = j by omega]; exact i64s_get V _
      have h1 := hV (j + 1) (by omega)
      have h2 := hV j (by omega)
      have u1 : updRow (i64s V) ((j + 1 : Nat) : Int).toNat 0 [Cell.int (V.getD j 0)] = i64s (V.set (j + 1) (V.getD j 0)) := by rw [Int.toNat_natCast]; exact i64s_upd' _ _ _ (by omega)
      have u2 : updRow (i64s (V.set (j + 1) (V.getD j 0))) (((j + 1 : Nat) : Int) - 1).toNat 0 [Cell.int (V.getD (j + 1) 0)] = i64s (swp V j) := by
        rw [show (((j + 1 : Nat) : Int) - 1).toNat = j by omega]
        exact i64s_upd' _ _ _ (by rw [List.length_set]; omega)
      have lv2 : (i64s (V.set (j + 1) (V.getD j 0))).length = V.length := by rw [i64s_len, List.length_set]
      unfold ins at hi
      repeat' ((conv => whnf); first | rw [g1] | rw [g2] | refine Rng.g ?_ | refine Ob.g ?_ | refine Ob.e ?_ | refine Ob.m ?_ | refine Ob.mk (Nat.le_of_ble_eq_true rfl) ?_ | refine JoinVC.on ?_ | refine Nils.mk (fun h => ?_) ?_ | refine Val.t ?_ | refine Val.d ?_ | refine Mm.mk ?_ | (refine Br.mk (fun h => ?_) (fun h => ?_) <;> first | (exfalso; omega; done) | (exfalso; simp at h; done) | skip))
      conv => whnf
      refine CallVC.mk [1] _ _ _ rfl rfl rfl (s74 f l (V.getD (j + 1) 0) (V.getD j 0) h1 h2) (fun r m' h' => ?_)
      obtain ⟨rfl, rfl⟩ := h'
      conv => whnf
      by_cases hlt : usF l (V.getD (j + 1) 0) (V.getD j 0) < 0
      · rw [if_pos (show usB l (V.getD (j + 1) 0) (V.getD j 0) = true from decide_eq_true hlt)] at hi
        repeat' ((conv => whnf); first | rw [g1] | rw [g2] | rw [u1] | rw [u2] | refine Rng.g ?_ | refine Ob.g ?_ | refine Ob.e ?_ | refine Ob.m ?_ | refine Ob.mk (Nat.le_of_ble_eq_true rfl) ?_ | refine JoinVC.on ?_ | refine Nils.mk (fun h => ?_) ?_ | refine Val.t ?_ | refine Val.d ?_ | refine Mm.mk ?_ | (refine Br.mk (fun h => ?_) (fun h => ?_) <;> first | (exfalso; omega; done) | (exfalso; simp at h; done) | skip))
        refine Back.mk j _ (by omega) ⟨j, swp V j, by omega, rfl, by rw [swp_len]; exact lV, hV.swp (by omega), hi, rfl⟩ ?_
        refine ⟨[some 0, some 1], rfl, rfl, ?_, ?_⟩ <;> repeat' (first | exact trivial | exact rfl | exact Iff.rfl | apply And.intro)
        all_goals omega
      · rw [if_neg (show ¬ usB l (V.getD (j + 1) 0) (V.getD j 0) = true from fun h => hlt (of_decide_eq_true h))] at hi
        repeat' ((conv => whnf); first | rw [g1] | rw [g2] | refine Rng.g ?_ | refine Ob.g ?_ | refine Ob.e ?_ | refine Ob.m ?_ | refine Ob.mk (Nat.le_of_ble_eq_true rfl) ?_ | refine JoinVC.on ?_ | refine Nils.mk (fun h => ?_) ?_ | refine Val.t ?_ | refine Val.d ?_ | refine Mm.mk ?_ | (refine Br.mk (fun h => ?_) (fun h => ?_) <;> first | (exfalso; omega; done) | (exfalso; simp at h; done) | skip))
        refine Back.mk (O.length - (k + 1)) _ (by omega) ⟨k + 1, .inl hk', rfl, rfl⟩ ?_
        rw [hZ, ← hi]
        refine ⟨[some 0, some 1], rfl, rfl, ?_, ?_⟩ <;> repeat' (first | exact trivial | exact rfl | exact Iff.rfl | apply And.intro)
  · have ek : k = O.length - 1 := by omega
    subst ek
    repeat' ((conv => whnf); first | refine Rng.g ?_ | refine Ob.g ?_ | refine Ob.e ?_ | refine Ob.m ?_ | refine Ob.mk (Nat.le_of_ble_eq_true rfl) ?_ | refine JoinVC.on ?_ | refine Nils.mk (fun h => ?_) ?_ | refine Val.t ?_ | refine Val.d ?_ | refine Mm.mk ?_ | (refine Br.mk (fun h => ?_) (fun h => ?_) <;> first | (exfalso; omega; done) | (exfalso; simp at h; done) | skip))
    repeat refine Mm.mk ?_
    refine EndVC.mk _ rfl _ _ ⟨rfl, rfl⟩ ?_
    refine ⟨[some 0, some 1], rfl, rfl, ?_, ?_⟩ <;> repeat' (first | exact trivial | exact rfl | exact Iff.rfl | apply And.intro)
theorem rngU8 (x : UInt8) : inR .i64 (x.toNat : Int) := by
  have := x.toNat_lt
  simp only [inR]
  omega
theorem rngU8' (x : UInt8) : inR .i64 (0 + (x.toNat : Int)) := by
  have := x.toNat_lt
  simp only [inR]
  omega
/-- The number of bits is a number. -/
theorem s99 (n : Int) (hn : 0 ≤ n ∧ n ≤ 12) : HSpec Try.prog 99 [.one (.int .u64 n)] [] (fun r m' => ∃ v, r = .x (I v) ∧ m' = []) := by
  have hc : n = 0 ∨ n = 1 ∨ n = 2 ∨ n = 3 ∨ n = 4 ∨ n = 5 ∨ n = 6 ∨ n = 7 ∨ n = 8 ∨ n = 9 ∨ n = 10 ∨ n = 11 ∨ n = 12 := by omega
  rcases hc with rfl | rfl | rfl | rfl | rfl | rfl | rfl | rfl | rfl | rfl | rfl | rfl | rfl
  all_goals
    refine spec_of pMix (O := []) Try.func99 (c := bodyOf Try.f99) rfl (by kernel_rfl) (by kernel_rfl) Try.ntmps99 (res := [.tmp 2]) (by kernel_rfl) ?_
    repeat' ((conv => whnf); first | refine Rng.g ?_ | refine Ob.g ?_ | refine Ob.e ?_ | refine Ob.m ?_ | refine Ob.mk (Nat.le_of_ble_eq_true rfl) ?_ | refine JoinVC.on ?_ | refine Nils.mk (fun h => ?_) ?_ | refine Val.t ?_ | refine Val.d ?_ | refine Mm.mk ?_ | (refine Br.mk (fun h => ?_) (fun h => ?_) <;> first | (exfalso; omega; done) | (exfalso; simp at h; done) | skip))
    refine Rng.ok (rngU8 _) ?_
    repeat' ((conv => whnf); first | refine Rng.g ?_ | refine Ob.g ?_ | refine Ob.e ?_ | refine Ob.m ?_ | refine Ob.mk (Nat.le_of_ble_eq_true rfl) ?_ | refine JoinVC.on ?_ | refine Nils.mk (fun h => ?_) ?_ | refine Val.t ?_ | refine Val.d ?_ | refine Mm.mk ?_ | (refine Br.mk (fun h => ?_) (fun h => ?_) <;> first | (exfalso; omega; done) | (exfalso; simp at h; done) | skip))
    refine Rng.ok (rngU8' _) ?_
    repeat' ((conv => whnf); first | refine Rng.g ?_ | refine Ob.g ?_ | refine Ob.e ?_ | refine Ob.m ?_ | refine Ob.mk (Nat.le_of_ble_eq_true rfl) ?_ | refine JoinVC.on ?_ | refine Nils.mk (fun h => ?_) ?_ | refine Val.t ?_ | refine Val.d ?_ | refine Mm.mk ?_ | (refine Br.mk (fun h => ?_) (fun h => ?_) <;> first | (exfalso; omega; done) | (exfalso; simp at h; done) | skip))
    conv => whnf
    exact EndVC.run _ rfl ⟨_, rfl, rfl⟩
theorem s80 (n : Int) (hn : 0 ≤ n ∧ n ≤ 12) : HSpec Try.prog 80 [.one (.int .u64 n)] [] (fun r m' => ∃ v, r = .x (I v) ∧ m' = []) := by
  refine spec_of pMix (O := []) Try.func80 (c := bodyOf Try.f80) rfl (by kernel_rfl) (by kernel_rfl) Try.ntmps80 (res := [.tmp 2]) (by kernel_rfl) ?_
  repeat' ((conv => whnf); first | refine Rng.g ?_ | refine Ob.g ?_ | refine Ob.e ?_ | refine Ob.m ?_ | refine Ob.mk (Nat.le_of_ble_eq_true rfl) ?_ | refine JoinVC.on ?_ | refine Nils.mk (fun h => ?_) ?_ | refine Val.t ?_ | refine Val.d ?_ | refine Mm.mk ?_ | (refine Br.mk (fun h => ?_) (fun h => ?_) <;> first | (exfalso; omega; done) | (exfalso; simp at h; done) | skip))
  conv => whnf
  refine CallVC.mk [] _ _ _ rfl rfl rfl (s99 n hn) (fun r m' h' => ?_)
  obtain ⟨v, rfl, rfl⟩ := h'
  conv => whnf
  repeat' ((conv => whnf); first | refine Rng.g ?_ | refine Ob.g ?_ | refine Ob.e ?_ | refine Ob.m ?_ | refine Ob.mk (Nat.le_of_ble_eq_true rfl) ?_ | refine JoinVC.on ?_ | refine Nils.mk (fun h => ?_) ?_ | refine Val.t ?_ | refine Val.d ?_ | refine Mm.mk ?_ | (refine Br.mk (fun h => ?_) (fun h => ?_) <;> first | (exfalso; omega; done) | (exfalso; simp at h; done) | skip))
  repeat refine Mm.mk ?_
  conv => whnf
  refine EndVC.mk _ rfl _ _ (⟨v, rfl, rfl⟩) ?_
  refine ⟨[], rfl, rfl, ?_, ?_⟩ <;> repeat' (first | exact trivial | exact rfl | exact Iff.rfl | apply And.intro)
theorem s83 (f : Fmt) (l : List Sng) (O : List Int) (v : Int) (hO : InR O l.length) (hl : O.length ≤ 12) : HSpec Try.prog 83 [.one (.own 0), I 0, I (O.length : Int), I v, .one (.bnd 74 false [.ptr 1 0])] [rowOd O, bPl f l] (fun r m' => r = .tup [] ∧ m' = [some (rowOd (isr (usB l) O (O.length - 1))), some (bPl f l)]) := by
  have lo := i64s_len O
  refine spec_of pMix (O := []) Try.func83 (c := bodyOf Try.f83) rfl (by kernel_rfl) (by kernel_rfl) Try.ntmps83 (res := []) (by kernel_rfl) ?_
  repeat' ((conv => whnf); first | refine Rng.g ?_ | refine Ob.g ?_ | refine Ob.e ?_ | refine Ob.m ?_ | refine Ob.mk (Nat.le_of_ble_eq_true rfl) ?_ | refine JoinVC.on ?_ | refine Nils.mk (fun h => ?_) ?_ | refine Val.t ?_ | refine Val.d ?_ | refine Mm.mk ?_ | (refine Br.mk (fun h => ?_) (fun h => ?_) <;> first | (exfalso; omega; done) | (exfalso; simp at h; done) | skip))
  refine LoopVC.un 1 ?_
  repeat' ((conv => whnf); first | refine Rng.g ?_ | refine Ob.g ?_ | refine Ob.e ?_ | refine Ob.m ?_ | refine Ob.mk (Nat.le_of_ble_eq_true rfl) ?_ | refine JoinVC.on ?_ | refine Nils.mk (fun h => ?_) ?_ | refine Val.t ?_ | refine Val.d ?_ | refine Mm.mk ?_ | (refine Br.mk (fun h => ?_) (fun h => ?_) <;> first | (exfalso; omega; done) | (exfalso; simp at h; done) | skip))
  conv => whnf
  refine CallVC.mk [0, 1] _ _ _ rfl rfl rfl (s102 f l O hO (by omega)) (fun r m' h' => ?_)
  obtain ⟨rfl, rfl⟩ := h'
  conv => whnf
  repeat' ((conv => whnf); first | refine Rng.g ?_ | refine Ob.g ?_ | refine Ob.e ?_ | refine Ob.m ?_ | refine Ob.mk (Nat.le_of_ble_eq_true rfl) ?_ | refine JoinVC.on ?_ | refine Nils.mk (fun h => ?_) ?_ | refine Val.t ?_ | refine Val.d ?_ | refine Mm.mk ?_ | (refine Br.mk (fun h => ?_) (fun h => ?_) <;> first | (exfalso; omega; done) | (exfalso; simp at h; done) | skip))
  repeat refine Mm.mk ?_
  refine EndVC.mk _ rfl _ _ ⟨rfl, rfl⟩ ?_
  refine ⟨[some 0, some 1], rfl, rfl, ?_, ?_⟩ <;> repeat' (first | exact trivial | exact rfl | exact Iff.rfl | apply And.intro)
theorem s73 (f : Fmt) (l : List Sng) (O : List Int) (hO : InR O l.length) (hl : O.length ≤ 12) : HSpec Try.prog 73 [.one (.own 0), .one (.bnd 74 false [.ptr 1 0])] [rowOd O, bPl f l] (fun r m' => r = .tup [] ∧ m' = [some (rowOd (isr (usB l) O (O.length - 1))), some (bPl f l)]) := by
  have lo := i64s_len O
  refine spec_of pMix (O := []) Try.func73 (c := bodyOf Try.f73) rfl (by kernel_rfl) (by kernel_rfl) Try.ntmps73 (res := []) (by kernel_rfl) ?_
  repeat' ((conv => whnf); first | rw [lo] | refine Rng.g ?_ | refine Ob.g ?_ | refine Ob.e ?_ | refine Ob.m ?_ | refine Ob.mk (Nat.le_of_ble_eq_true rfl) ?_ | refine JoinVC.on ?_ | refine Nils.mk (fun h => ?_) ?_ | refine Val.t ?_ | refine Val.d ?_ | refine Mm.mk ?_ | (refine Br.mk (fun h => ?_) (fun h => ?_) <;> first | (exfalso; omega; done) | (exfalso; simp at h; done) | skip))
  conv => whnf
  refine CallVC.mk [] _ _ _ rfl rfl rfl (s80 (O.length : Int) (by omega)) (fun r m' h' => ?_)
  obtain ⟨v, rfl, rfl⟩ := h'
  conv => whnf
  repeat' ((conv => whnf); first | refine Rng.g ?_ | refine Ob.g ?_ | refine Ob.e ?_ | refine Ob.m ?_ | refine Ob.mk (Nat.le_of_ble_eq_true rfl) ?_ | refine JoinVC.on ?_ | refine Nils.mk (fun h => ?_) ?_ | refine Val.t ?_ | refine Val.d ?_ | refine Mm.mk ?_ | (refine Br.mk (fun h => ?_) (fun h => ?_) <;> first | (exfalso; omega; done) | (exfalso; simp at h; done) | skip))
  conv => whnf
  refine CallVC.mk [0, 1] _ _ _ rfl rfl rfl (s83 f l O v hO hl) (fun r m' h' => ?_)
  obtain ⟨rfl, rfl⟩ := h'
  conv => whnf
  repeat' ((conv => whnf); first | refine Rng.g ?_ | refine Ob.g ?_ | refine Ob.e ?_ | refine Ob.m ?_ | refine Ob.mk (Nat.le_of_ble_eq_true rfl) ?_ | refine JoinVC.on ?_ | refine Nils.mk (fun h => ?_) ?_ | refine Val.t ?_ | refine Val.d ?_ | refine Mm.mk ?_ | (refine Br.mk (fun h => ?_) (fun h => ?_) <;> first | (exfalso; omega; done) | (exfalso; simp at h; done) | skip))
  repeat refine Mm.mk ?_
  refine EndVC.mk _ rfl _ _ ⟨rfl, rfl⟩ ?_
  refine ⟨[some 0, some 1], rfl, rfl, ?_, ?_⟩ <;> repeat' (first | exact trivial | exact rfl | exact Iff.rfl | apply And.intro)
theorem s72 (xs : List Int) (hl : xs.length ≤ 1000000) : HSpec Try.prog 72 [.one (.lst true [.int .i64] (i64s xs))] [] (fun r m' => r = .x (.one (.own 0)) ∧ m' = [some (rowOd xs)]) := by
  have lo := i64s_len xs
  refine spec_of pMix (O := []) Try.func72 (c := bodyOf Try.f72) rfl (by kernel_rfl) (by kernel_rfl) Try.ntmps72 (res := [.tmp 2]) (by kernel_rfl) ?_
  repeat' ((conv => whnf); first | refine Rng.g ?_ | refine Ob.g ?_ | refine Ob.e ?_ | refine Ob.m ?_ | refine Ob.mk (Nat.le_of_ble_eq_true rfl) ?_ | refine JoinVC.on ?_ | refine Nils.mk (fun h => ?_) ?_ | refine Val.t ?_ | refine Val.d ?_ | refine Mm.mk ?_ | (refine Br.mk (fun h => ?_) (fun h => ?_) <;> first | (exfalso; omega; done) | (exfalso; simp at h; done) | skip))
  · repeat refine Mm.mk ?_
    refine EndVC.mk _ rfl _ _ ⟨rfl, rfl⟩ ?_
    refine ⟨[none], rfl, rfl, ?_, ?_⟩ <;> repeat' (first | exact trivial | exact rfl | exact Iff.rfl | apply And.intro)
    exact h
  · repeat refine Mm.mk ?_
    refine Ob.mk (by simp only [eb3, List.length_nil]; omega) ?_
    repeat' ((conv => whnf); first | refine Rng.g ?_ | refine Ob.g ?_ | refine Ob.e ?_ | refine Ob.m ?_ | refine Ob.mk (Nat.le_of_ble_eq_true rfl) ?_ | refine JoinVC.on ?_ | refine Nils.mk (fun h => ?_) ?_ | refine Val.t ?_ | refine Val.d ?_ | refine Mm.mk ?_ | (refine Br.mk (fun h => ?_) (fun h => ?_) <;> first | (exfalso; omega; done) | (exfalso; simp at h; done) | skip))
    repeat refine Mm.mk ?_
    refine EndVC.mk _ rfl _ _ ⟨rfl, rfl⟩ ?_
    refine ⟨[some 1], rfl, rfl, ?_, ?_⟩ <;> repeat' (first | exact trivial | exact rfl | exact Iff.rfl | apply And.intro)
theorem spanL_nn (n : Nat) : InR (spanL 0 n) n := fun i hi => (span_idx n).rng i (by rw [spanL_len] at hi; exact hi)
theorem s54 (n : Nat) (hn : n ≤ 100000) : HSpec Try.prog 54 [I 0, I (n : Int)] [] (fun r m' => r = .x (.one (.own 0)) ∧ m' = [some (rowOd (spanL 0 n))]) := by
  refine spec_of pMix (O := []) Try.func54 (c := bodyOf Try.f54) rfl (by kernel_rfl) (by kernel_rfl) Try.ntmps54 (res := [.tmp 4]) (by kernel_rfl) ?_
  repeat' ((conv => whnf); first | refine Rng.g ?_ | refine Ob.g ?_ | refine Ob.e ?_ | refine Ob.m ?_ | refine Ob.mk (Nat.le_of_ble_eq_true rfl) ?_ | refine JoinVC.on ?_ | refine Nils.mk (fun h => ?_) ?_ | refine Val.t ?_ | refine Val.d ?_ | refine Mm.mk ?_ | (refine Br.mk (fun h => ?_) (fun h => ?_) <;> first | (exfalso; omega; done) | (exfalso; simp at h; done) | skip))
  refine LoopVC.mk (fun m st => ∃ (i : Nat), i ≤ n ∧ m = n - i ∧ st = ⟨0, envA 16 [(0, .int .i64 (i : Int)), (1, .x (I (n : Int))), (5, .x (.one (.own 0)))], [some (rowOd (spanL 0 i))]⟩) _ _ ⟨0, Nat.zero_le _, rfl, rfl⟩ ?_ ?_
  · refine ⟨[none], rfl, rfl, ?_, ?_⟩ <;> repeat' (first | exact trivial | exact rfl | exact Iff.rfl | apply And.intro)
  rintro m _ ⟨i, hi, hm, rfl⟩
  have ls : (i64s (spanL 0 i)).length = i := by rw [i64s_len, spanL_len]
  by_cases hi' : i < n
  · repeat' ((conv => whnf); first | refine Rng.g ?_ | refine Ob.g ?_ | refine Ob.e ?_ | refine Ob.m ?_ | refine Ob.mk (Nat.le_of_ble_eq_true rfl) ?_ | refine JoinVC.on ?_ | refine Nils.mk (fun h => ?_) ?_ | refine Val.t ?_ | refine Val.d ?_ | refine Mm.mk ?_ | (refine Br.mk (fun h => ?_) (fun h => ?_) <;> first | (exfalso; omega; done) | (exfalso; simp at h; done) | skip))
    repeat refine Mm.mk ?_
    refine Ob.mk (by rw [eb3]; simp only [List.length_cons, List.length_nil]; omega) ?_
    repeat' ((conv => whnf); first | refine Rng.g ?_ | refine Ob.g ?_ | refine Ob.e ?_ | refine Ob.m ?_ | refine Ob.mk (Nat.le_of_ble_eq_true rfl) ?_ | refine JoinVC.on ?_ | refine Nils.mk (fun h => ?_) ?_ | refine Val.t ?_ | refine Val.d ?_ | refine Mm.mk ?_ | (refine Br.mk (fun h => ?_) (fun h => ?_) <;> first | (exfalso; omega; done) | (exfalso; simp at h; done) | skip))
    refine Back.mk (n - (i + 1)) _ (by omega) ⟨i + 1, by omega, rfl, rfl⟩ ?_
    rw [spanL_succ]
    refine ⟨[some 2], rfl, rfl, ?_, ?_⟩ <;> repeat' (first | exact trivial | exact rfl | exact Iff.rfl | apply And.intro)
    rw [i64s_snoc, Nat.zero_add]
  · have ei : i = n := by omega
    subst ei
    repeat' ((conv => whnf); first | refine Rng.g ?_ | refine Ob.g ?_ | refine Ob.e ?_ | refine Ob.m ?_ | refine Ob.mk (Nat.le_of_ble_eq_true rfl) ?_ | refine JoinVC.on ?_ | refine Nils.mk (fun h => ?_) ?_ | refine Val.t ?_ | refine Val.d ?_ | refine Mm.mk ?_ | (refine Br.mk (fun h => ?_) (fun h => ?_) <;> first | (exfalso; omega; done) | (exfalso; simp at h; done) | skip))
    repeat refine Mm.mk ?_
    refine EndVC.mk _ rfl _ _ ⟨rfl, rfl⟩ ?_
    refine ⟨[some 0], rfl, rfl, ?_, ?_⟩ <;> repeat' (first | exact trivial | exact rfl | exact Iff.rfl | apply And.intro)
theorem s45 (f : Fmt) (l : List Sng) (O : List Int) (hO : InR O l.length) (hl : O.length ≤ 12) : HSpec Try.prog 45 [.one (.ptr 0 0), .one (.own 1)] [bPl f l, rowOd O] (fun r m' => r = .x (.one (.own 2)) ∧ m' = [some (bPl f l), some (rowOd O), some (rowOd (isr (usB l) O (O.length - 1)))]) := by
  refine spec_of pMix (O := []) Try.func45 (c := bodyOf Try.f45) rfl (by kernel_rfl) (by kernel_rfl) Try.ntmps45 (res := [.tmp 4]) (by kernel_rfl) ?_
  repeat' ((conv => whnf); first | refine Rng.g ?_ | refine Ob.g ?_ | refine Ob.e ?_ | refine Ob.m ?_ | refine Ob.mk (Nat.le_of_ble_eq_true rfl) ?_ | refine JoinVC.on ?_ | refine Nils.mk (fun h => ?_) ?_ | refine Val.t ?_ | refine Val.d ?_ | refine Mm.mk ?_ | (refine Br.mk (fun h => ?_) (fun h => ?_) <;> first | (exfalso; omega; done) | (exfalso; simp at h; done) | skip))
  conv => whnf
  refine CallVC.mk [] _ _ _ rfl rfl rfl (s72 O (by omega)) (fun r m' h' => ?_)
  obtain ⟨rfl, rfl⟩ := h'
  conv => whnf
  repeat' ((conv => whnf); first | refine Rng.g ?_ | refine Ob.g ?_ | refine Ob.e ?_ | refine Ob.m ?_ | refine Ob.mk (Nat.le_of_ble_eq_true rfl) ?_ | refine JoinVC.on ?_ | refine Nils.mk (fun h => ?_) ?_ | refine Val.t ?_ | refine Val.d ?_ | refine Mm.mk ?_ | (refine Br.mk (fun h => ?_) (fun h => ?_) <;> first | (exfalso; omega; done) | (exfalso; simp at h; done) | skip))
  conv => whnf
  refine CallVC.mk [2, 0] _ _ _ rfl rfl rfl (s73 f l O hO hl) (fun r m' h' => ?_)
  obtain ⟨rfl, rfl⟩ := h'
  conv => whnf
  repeat' ((conv => whnf); first | refine Rng.g ?_ | refine Ob.g ?_ | refine Ob.e ?_ | refine Ob.m ?_ | refine Ob.mk (Nat.le_of_ble_eq_true rfl) ?_ | refine JoinVC.on ?_ | refine Nils.mk (fun h => ?_) ?_ | refine Val.t ?_ | refine Val.d ?_ | refine Mm.mk ?_ | (refine Br.mk (fun h => ?_) (fun h => ?_) <;> first | (exfalso; omega; done) | (exfalso; simp at h; done) | skip))
  repeat refine Mm.mk ?_
  refine EndVC.mk _ rfl _ _ ⟨rfl, rfl⟩ ?_
  refine ⟨[some 0, some 1, some 2], rfl, rfl, ?_, ?_⟩ <;> repeat' (first | exact trivial | exact rfl | exact Iff.rfl | apply And.intro)
theorem s46 (f : Fmt) (l : List Sng) (hl : l.length ≤ 12) : HSpec Try.prog 46 [.one (.ptr 0 0)] [bPl f l] (fun r m' => r = .x (.one (.own 1)) ∧ m' = [some (bPl f l), some (rowOd (allO l))]) := by
  have lp := sngA_len l
  have c := s45 f l (spanL 0 l.length) (spanL_nn _) (by rw [spanL_len]; exact hl)
  rw [spanL_len] at c
  refine spec_of pMix (O := []) Try.func46 (c := bodyOf Try.f46) rfl (by kernel_rfl) (by kernel_rfl) Try.ntmps46 (res := [.tmp 2]) (by kernel_rfl) ?_
  repeat' ((conv => whnf); first | rw [lp] | refine Rng.g ?_ | refine Ob.g ?_ | refine Ob.e ?_ | refine Ob.m ?_ | refine Ob.mk (Nat.le_of_ble_eq_true rfl) ?_ | refine JoinVC.on ?_ | refine Nils.mk (fun h => ?_) ?_ | refine Val.t ?_ | refine Val.d ?_ | refine Mm.mk ?_ | (refine Br.mk (fun h => ?_) (fun h => ?_) <;> first | (exfalso; omega; done) | (exfalso; simp at h; done) | skip))
  conv => whnf
  refine CallVC.mk [] _ _ _ rfl rfl rfl (s54 l.length (by omega)) (fun r m' h' => ?_)
  obtain ⟨rfl, rfl⟩ := h'
  conv => whnf
  repeat' ((conv => whnf); first | refine Rng.g ?_ | refine Ob.g ?_ | refine Ob.e ?_ | refine Ob.m ?_ | refine Ob.mk (Nat.le_of_ble_eq_true rfl) ?_ | refine JoinVC.on ?_ | refine Nils.mk (fun h => ?_) ?_ | refine Val.t ?_ | refine Val.d ?_ | refine Mm.mk ?_ | (refine Br.mk (fun h => ?_) (fun h => ?_) <;> first | (exfalso; omega; done) | (exfalso; simp at h; done) | skip))
  conv => whnf
  refine CallVC.mk [0, 1] _ _ _ rfl rfl rfl (c) (fun r m' h' => ?_)
  obtain ⟨rfl, rfl⟩ := h'
  conv => whnf
  repeat' ((conv => whnf); first | refine Rng.g ?_ | refine Ob.g ?_ | refine Ob.e ?_ | refine Ob.m ?_ | refine Ob.mk (Nat.le_of_ble_eq_true rfl) ?_ | refine JoinVC.on ?_ | refine Nils.mk (fun h => ?_) ?_ | refine Val.t ?_ | refine Val.d ?_ | refine Mm.mk ?_ | (refine Br.mk (fun h => ?_) (fun h => ?_) <;> first | (exfalso; omega; done) | (exfalso; simp at h; done) | skip))
  repeat refine Mm.mk ?_
  refine EndVC.mk _ rfl _ _ ⟨rfl, rfl⟩ ?_
  refine ⟨[some 0, some 2], rfl, rfl, ?_, ?_⟩ <;> repeat' (first | exact trivial | exact rfl | exact Iff.rfl | apply And.intro)
/-! ### The bands -/
@[reducible] def rowB (A : Arr) : Blk := .row 32 false [.int .i64, .int .i64, .int .i64] A
theorem eb116 : Try.t32.bytes = 24 := by kernel_rfl
inductive LyRs (f : Fmt) (l : List Sng) (O : List Int) (r : AV) (m' : List (Option Blk)) : Prop
  | rule (i : Nat) (hi : i < O.length) (h : ∀ j, j < i → okAt f l O j) (hn : ¬ okAt f l O i) (hr : r = .tup [.one .nils, I (i : Int), I 20]) (hm : m' = [some (bPl f l)])
  | limit (h : ∀ j, j < O.length → okAt f l O j) (hn : ¬ LayOK f l O) (hr : r = .tup [.one .nils, I (O.length : Int), I 14]) (hm : m' = [some (bPl f l)])
  | ok (h : LayOK f l O) (hr : r = .tup [.one (.own 1), I (O.length : Int), I 0]) (hm : m' = [some (bPl f l), some (rowB (bndA f l O O.length))])
theorem s37 (f : Fmt) (l : List Sng) (O : List Int) (hf : FmtOK f) (hg : SngsOK l) (hO : InR O l.length) (hl : O.length ≤ 100) : HSpec Try.prog 37 [.one (.ptr 0 0), .one (.lst true [.int .i64] (i64s O))] [bPl f l] (LyRs f l O) := by
  have lo := i64s_len O
  have lg := sngA_len l
  have hbd := atF_bd hf hg hO
  have hf1 := hf.outer
  have hf2 := hf.lead
  have hf3 := hf.gap
  have hf4 := hf.tail
  have hf5 := hf.inner
  refine spec_of pMix (O := []) Try.func37 (c := bodyOf Try.f37) rfl (by kernel_rfl) (by kernel_rfl) Try.ntmps37 (res := [.tmp 4, .tmp 5, .tmp 6]) (by kernel_rfl) ?_
  repeat' ((conv => whnf); first | refine Rng.g ?_ | refine Ob.g ?_ | refine Ob.e ?_ | refine Ob.m ?_ | refine Ob.mk (Nat.le_of_ble_eq_true rfl) ?_ | refine JoinVC.on ?_ | refine Nils.mk (fun h => ?_) ?_ | refine Val.t ?_ | refine Val.d ?_ | refine Mm.mk ?_ | (refine Br.mk (fun h => ?_) (fun h => ?_) <;> first | (exfalso; omega; done) | (exfalso; simp at h; done) | skip))
  refine LoopVC.mk (fun n st => ∃ (i : Nat), i ≤ O.length ∧ n = O.length - i ∧ (∀ j, j < i → okAt f l O j) ∧ st = ⟨1, envA 89 [(0, .x (.one (.ptr 0 0))), (1, .x (.one (.lst true [.int .i64] (i64s O)))), (7, .x (.one (.own 1))), (8, .int .i64 (atF f l O i)), (23, .x (.one (.lst true [.int .i64] (i64s O)))), (24, .int .i64 (O.length : Int)), (25, .int .i64 (i : Int))], [some (bPl f l), some (rowB (bndA f l O i))]⟩) _ _ ⟨0, Nat.zero_le _, rfl, fun j hj => absurd hj (Nat.not_lt_zero j), rfl⟩ ?_ ?_
  · refine ⟨[some 0, none], rfl, rfl, ?_, ?_⟩ <;> repeat' (first | exact trivial | exact rfl | exact Iff.rfl | apply And.intro)
    exact congrArg Int.ofNat lo
  rintro n _ ⟨i, hi, hn, hj, rfl⟩
  have lb := bndA_len f l O i
  have gi : rI (i64s O) (i : Int).toNat 0 = O.getD i 0 := by rw [Int.toNat_natCast]; exact i64s_get O i
  have hbi := hbd i hi
  by_cases hi' : i < O.length
  · have hr := hO i hi'
    obtain ⟨q, hq⟩ : ∃ q, O.getD i 0 = q := ⟨_, rfl⟩
    have c0 : rI (sngA l) q.toNat 0 = (l.getD q.toNat g0).long := sngA_0 l _
    have c1 : rI (sngA l) q.toNat (0 + 1) = (l.getD q.toNat g0).pitch := sngA_1 l _
    have c2 : rI (sngA l) q.toNat (0 + 1 + 1) = (l.getD q.toNat g0).least := sngA_2 l _
    have c3 : rI (sngA l) q.toNat (0 + (0 + 1 + 1)) = (l.getD q.toNat g0).least := sngA_2 l _
    rw [hq] at gi hr
    have hgk := hg.each q.toNat (by omega)
    have hw := (wid_bd hf.per.1 hgk).2
    have k1 := s43 f (some l) (l.getD q.toNat g0) hf hgk
    have ea : atF f l O (i + 1) = atF f l O i - (if 0 < i then f.gap else 0) - widF f (l.getD (O.getD i 0).toNat g0) := rfl
    rw [hq] at ea
    have eo : okAt f l O i ↔ (l.getD q.toNat g0).least ≤ atF f l O (i + 1) := by unfold okAt; rw [hq]
    by_cases h0 : 0 < i
    · have e1 : (if 0 < i then f.gap else 0) = f.gap := if_pos h0
      have e2 : (atF f l O i - f.gap) - widF f (l.getD q.toNat g0) = atF f l O (i + 1) := by rw [ea, e1]
      have hbj := hbd (i + 1) hi'
      have e3 : bndR f l O i = [Cell.int q, Cell.int (atF f l O i - f.gap), Cell.int (atF f l O (i + 1))] := by unfold bndR; rw [hq, e1]
      repeat' ((conv => whnf); first | rw [gi] | rw [c0] | rw [c1] | rw [c2] | refine Rng.g ?_ | refine Ob.g ?_ | refine Ob.e ?_ | refine Ob.m ?_ | refine Ob.mk (Nat.le_of_ble_eq_true rfl) ?_ | refine JoinVC.on ?_ | refine Nils.mk (fun h => ?_) ?_ | refine Val.t ?_ | refine Val.d ?_ | refine Mm.mk ?_ | (refine Br.mk (fun h => ?_) (fun h => ?_) <;> first | (exfalso; omega; done) | (exfalso; simp at h; done) | skip))
      conv => whnf
      refine CallVC.mk [0] _ _ _ rfl rfl rfl (k1) (fun r m' h' => ?_)
      obtain ⟨rfl, rfl⟩ := h'
      conv => whnf
      repeat' ((conv => whnf); first | rw [e2] | rw [c3] | refine Rng.g ?_ | refine Ob.g ?_ | refine Ob.e ?_ | refine Ob.m ?_ | refine Ob.mk (Nat.le_of_ble_eq_true rfl) ?_ | refine JoinVC.on ?_ | refine Nils.mk (fun h => ?_) ?_ | refine Val.t ?_ | refine Val.d ?_ | refine Mm.mk ?_ | (refine Br.mk (fun h => ?_) (fun h => ?_) <;> first | (exfalso; omega; done) | (exfalso; simp at h; done) | skip))
      · have hno : ¬ okAt f l O i := fun hk => by have := eo.1 hk; omega
        repeat refine Mm.mk ?_
        conv => whnf
        refine EndVC.mk _ rfl _ _ (.rule i hi' hj hno rfl rfl) ?_
        refine ⟨[some 0], rfl, rfl, ?_, ?_⟩ <;> repeat' (first | exact trivial | exact rfl | exact Iff.rfl | apply And.intro)
      · repeat refine Mm.mk ?_
        refine Ob.mk (by rw [eb116]; simp only [List.length_cons, List.length_nil]; omega) ?_
        repeat' ((conv => whnf); first | rw [e2] | rw [c3] | refine Rng.g ?_ | refine Ob.g ?_ | refine Ob.e ?_ | refine Ob.m ?_ | refine Ob.mk (Nat.le_of_ble_eq_true rfl) ?_ | refine JoinVC.on ?_ | refine Nils.mk (fun h => ?_) ?_ | refine Val.t ?_ | refine Val.d ?_ | refine Mm.mk ?_ | (refine Br.mk (fun h => ?_) (fun h => ?_) <;> first | (exfalso; omega; done) | (exfalso; simp at h; done) | skip))
        refine Back.mk (O.length - (i + 1)) _ (by omega) ⟨i + 1, by omega, rfl, fun j hj' => ?_, rfl⟩ ?_
        · rcases Nat.lt_succ_iff_lt_or_eq.1 hj' with h' | rfl
          · exact hj j h'
          · exact eo.2 (by omega)
        · rw [bndA_succ, e3]
          refine ⟨[some 0, some 4], rfl, rfl, ?_, ?_⟩ <;> repeat' (first | exact trivial | exact rfl | exact Iff.rfl | apply And.intro)
    · have e1 : (if 0 < i then f.gap else 0) = 0 := if_neg h0
      have e2 : (atF f l O i) - widF f (l.getD q.toNat g0) = atF f l O (i + 1) := by rw [ea, e1]; omega
      have hbj := hbd (i + 1) hi'
      have e3 : bndR f l O i = [Cell.int q, Cell.int (atF f l O i), Cell.int (atF f l O (i + 1))] := by unfold bndR; rw [hq, e1]; simp only [Int.sub_zero]
      repeat' ((conv => whnf); first | rw [gi] | rw [c0] | rw [c1] | rw [c2] | refine Rng.g ?_ | refine Ob.g ?_ | refine Ob.e ?_ | refine Ob.m ?_ | refine Ob.mk (Nat.le_of_ble_eq_true rfl) ?_ | refine JoinVC.on ?_ | refine Nils.mk (fun h => ?_) ?_ | refine Val.t ?_ | refine Val.d ?_ | refine Mm.mk ?_ | (refine Br.mk (fun h => ?_) (fun h => ?_) <;> first | (exfalso; omega; done) | (exfalso; simp at h; done) | skip))
      conv => whnf
      refine CallVC.mk [0] _ _ _ rfl rfl rfl (k1) (fun r m' h' => ?_)
      obtain ⟨rfl, rfl⟩ := h'
      conv => whnf
      repeat' ((conv => whnf); first | rw [e2] | rw [c3] | refine Rng.g ?_ | refine Ob.g ?_ | refine Ob.e ?_ | refine Ob.m ?_ | refine Ob.mk (Nat.le_of_ble_eq_true rfl) ?_ | refine JoinVC.on ?_ | refine Nils.mk (fun h => ?_) ?_ | refine Val.t ?_ | refine Val.d ?_ | refine Mm.mk ?_ | (refine Br.mk (fun h => ?_) (fun h => ?_) <;> first | (exfalso; omega; done) | (exfalso; simp at h; done) | skip))
      · have hno : ¬ okAt f l O i := fun hk => by have := eo.1 hk; omega
        repeat refine Mm.mk ?_
        conv => whnf
        refine EndVC.mk _ rfl _ _ (.rule i hi' hj hno rfl rfl) ?_
        refine ⟨[some 0], rfl, rfl, ?_, ?_⟩ <;> repeat' (first | exact trivial | exact rfl | exact Iff.rfl | apply And.intro)
      · repeat refine Mm.mk ?_
        refine Ob.mk (by rw [eb116]; simp only [List.length_cons, List.length_nil]; omega) ?_
        repeat' ((conv => whnf); first | rw [e2] | rw [c3] | refine Rng.g ?_ | refine Ob.g ?_ | refine Ob.e ?_ | refine Ob.m ?_ | refine Ob.mk (Nat.le_of_ble_eq_true rfl) ?_ | refine JoinVC.on ?_ | refine Nils.mk (fun h => ?_) ?_ | refine Val.t ?_ | refine Val.d ?_ | refine Mm.mk ?_ | (refine Br.mk (fun h => ?_) (fun h => ?_) <;> first | (exfalso; omega; done) | (exfalso; simp at h; done) | skip))
        refine Back.mk (O.length - (i + 1)) _ (by omega) ⟨i + 1, by omega, rfl, fun j hj' => ?_, rfl⟩ ?_
        · rcases Nat.lt_succ_iff_lt_or_eq.1 hj' with h' | rfl
          · exact hj j h'
          · exact eo.2 (by omega)
        · rw [bndA_succ, e3]
          refine ⟨[some 0, some 4], rfl, rfl, ?_, ?_⟩ <;> repeat' (first | exact trivial | exact rfl | exact Iff.rfl | apply And.intro)
  · have ei : i = O.length := by omega
    subst ei
    repeat' ((conv => whnf); first | rw [lo] | refine Rng.g ?_ | refine Ob.g ?_ | refine Ob.e ?_ | refine Ob.m ?_ | refine Ob.mk (Nat.le_of_ble_eq_true rfl) ?_ | refine JoinVC.on ?_ | refine Nils.mk (fun h => ?_) ?_ | refine Val.t ?_ | refine Val.d ?_ | refine Mm.mk ?_ | (refine Br.mk (fun h => ?_) (fun h => ?_) <;> first | (exfalso; omega; done) | (exfalso; simp at h; done) | skip))
    · repeat refine Mm.mk ?_
      conv => whnf
      refine EndVC.mk _ rfl _ _ (.limit hj (fun hL => (by have := hL.2; omega)) rfl rfl) ?_
      refine ⟨[some 0], rfl, rfl, ?_, ?_⟩ <;> repeat' (first | exact trivial | exact rfl | exact Iff.rfl | apply And.intro)
    · repeat refine Mm.mk ?_
      conv => whnf
      refine EndVC.mk _ rfl _ _ (.ok ⟨hj, by omega⟩ rfl rfl) ?_
      refine ⟨[some 0, some 1], rfl, rfl, ?_, ?_⟩ <;> repeat' (first | exact trivial | exact rfl | exact Iff.rfl | apply And.intro)
end Go.Sx

namespace Go.Sx
open Go Go.Proofs
set_option maxRecDepth 10000
set_option maxHeartbeats 8000000
open Classical in
theorem s47 (f : Fmt) (l : List Sng) (O : List Int) (hf : FmtOK f) (hg : SngsOK l) (hO : InR O l.length) (hl : O.length ≤ 100) : HSpec Try.prog 47 [.one (.ptr 0 0), .one (.lst true [.int .i64] (i64s O))] [bPl f l] (fun r m' => r = xP (LayOK f l O) ∧ m' = [some (bPl f l)]) := by
  refine spec_of pMix (O := []) Try.func47 (c := bodyOf Try.f47) rfl (by kernel_rfl) (by kernel_rfl) Try.ntmps47 (res := [.tmp 4]) (by kernel_rfl) ?_
  repeat' ((conv => whnf); first | refine Rng.g ?_ | refine Ob.g ?_ | refine Ob.e ?_ | refine Ob.m ?_ | refine Ob.mk (Nat.le_of_ble_eq_true rfl) ?_ | refine JoinVC.on ?_ | refine Nils.mk (fun h => ?_) ?_ | refine Val.t ?_ | refine Val.d ?_ | refine Mm.mk ?_ | (refine Br.mk (fun h => ?_) (fun h => ?_) <;> first | (exfalso; omega; done) | (exfalso; simp at h; done) | skip))
  conv => whnf
  refine CallVC.mk [0] _ _ _ rfl rfl rfl (s37 f l O hf hg hO hl) (fun r m' h' => ?_)
  cases h' with
  | rule i hi h hn hr hm =>
    subst hr hm
    repeat' ((conv => whnf); first | refine Rng.g ?_ | refine Ob.g ?_ | refine Ob.e ?_ | refine Ob.m ?_ | refine Ob.mk (Nat.le_of_ble_eq_true rfl) ?_ | refine JoinVC.on ?_ | refine Nils.mk (fun h => ?_) ?_ | refine Val.t ?_ | refine Val.d ?_ | refine Mm.mk ?_ | (refine Br.mk (fun h => ?_) (fun h => ?_) <;> first | (exfalso; omega; done) | (exfalso; simp at h; done) | skip))
    repeat refine Mm.mk ?_
    refine EndVC.mk _ rfl _ _ ⟨rfl, rfl⟩ ?_
    refine ⟨[some 0], rfl, rfl, ?_, ?_⟩ <;> repeat' (first | exact trivial | exact rfl | exact Iff.rfl | apply And.intro)
    show _ ↔ _
    exact ⟨fun h1 => absurd h1 (by decide), fun h1 => absurd (h1.1 i hi) hn⟩
  | limit h hn hr hm =>
    subst hr hm
    repeat' ((conv => whnf); first | refine Rng.g ?_ | refine Ob.g ?_ | refine Ob.e ?_ | refine Ob.m ?_ | refine Ob.mk (Nat.le_of_ble_eq_true rfl) ?_ | refine JoinVC.on ?_ | refine Nils.mk (fun h => ?_) ?_ | refine Val.t ?_ | refine Val.d ?_ | refine Mm.mk ?_ | (refine Br.mk (fun h => ?_) (fun h => ?_) <;> first | (exfalso; omega; done) | (exfalso; simp at h; done) | skip))
    repeat refine Mm.mk ?_
    refine EndVC.mk _ rfl _ _ ⟨rfl, rfl⟩ ?_
    refine ⟨[some 0], rfl, rfl, ?_, ?_⟩ <;> repeat' (first | exact trivial | exact rfl | exact Iff.rfl | apply And.intro)
    show _ ↔ _
    exact ⟨fun h1 => absurd h1 (by decide), fun h1 => absurd h1 hn⟩
  | ok h hr hm =>
    subst hr hm
    repeat' ((conv => whnf); first | refine Rng.g ?_ | refine Ob.g ?_ | refine Ob.e ?_ | refine Ob.m ?_ | refine Ob.mk (Nat.le_of_ble_eq_true rfl) ?_ | refine JoinVC.on ?_ | refine Nils.mk (fun h => ?_) ?_ | refine Val.t ?_ | refine Val.d ?_ | refine Mm.mk ?_ | (refine Br.mk (fun h => ?_) (fun h => ?_) <;> first | (exfalso; omega; done) | (exfalso; simp at h; done) | skip))
    repeat refine Mm.mk ?_
    refine EndVC.mk _ rfl _ _ ⟨rfl, rfl⟩ ?_
    refine ⟨[some 0], rfl, rfl, ?_, ?_⟩ <;> repeat' (first | exact trivial | exact rfl | exact Iff.rfl | apply And.intro)
    show _ ↔ _
    exact ⟨fun _ => h, fun _ => rfl⟩
inductive ArRs (f : Fmt) (l : List Sng) (r : AV) (m' : List (Option Blk)) : Prop
  | bad (h : bothE f l ≠ 0) (hr : r = .tup [.one .nils, I (bothE f l)]) (hm : m' = [])
  | none (hf : FmtOK f) (hg : SngsOK l) (hn : ¬ LayOK f l (allO l)) (hr : r = .tup [.one .nils, I 15]) (hm : m' = [])
  | ok (hf : FmtOK f) (hg : SngsOK l) (h : LayOK f l (allO l)) (hr : r = .tup [.one (.own 0), I 0]) (hm : m' = [some (rowOd (allO l))])
theorem allO_in (l : List Sng) : InR (allO l) l.length := fun i hi => (allO_idx l).rng i (by rw [(allO_idx l).len] at hi; exact hi)
theorem s18 (f : Fmt) (l : List Sng) (hI : f.nm.size ≤ 140737488355328) (hl : l.length ≤ 12) : HSpec Try.prog 18 [f.x, lSng l] [] (ArRs f l) := by
  refine spec_of pMix (O := []) Try.func18 (c := bodyOf Try.f18) rfl (by kernel_rfl) (by kernel_rfl) Try.ntmps18 (res := [.tmp 4, .tmp 5]) (by kernel_rfl) ?_
  repeat' ((conv => whnf); first | refine Rng.g ?_ | refine Ob.g ?_ | refine Ob.e ?_ | refine Ob.m ?_ | refine Ob.mk (Nat.le_of_ble_eq_true rfl) ?_ | refine JoinVC.on ?_ | refine Nils.mk (fun h => ?_) ?_ | refine Val.t ?_ | refine Val.d ?_ | refine Mm.mk ?_ | (refine Br.mk (fun h => ?_) (fun h => ?_) <;> first | (exfalso; omega; done) | (exfalso; simp at h; done) | skip))
  conv => whnf
  refine CallVC.mk [] _ _ _ rfl rfl rfl (s35 f l hI) (fun r m' h' => ?_)
  rcases h' with ⟨hn, rfl, rfl⟩ | ⟨hf, hg, rfl, rfl⟩
  · repeat' ((conv => whnf); first | refine Rng.g ?_ | refine Ob.g ?_ | refine Ob.e ?_ | refine Ob.m ?_ | refine Ob.mk (Nat.le_of_ble_eq_true rfl) ?_ | refine JoinVC.on ?_ | refine Nils.mk (fun h => ?_) ?_ | refine Val.t ?_ | refine Val.d ?_ | refine Mm.mk ?_ | (refine Br.mk (fun h => ?_) (fun h => ?_) <;> first | (exfalso; omega; done) | (exfalso; simp at h; done) | skip))
    repeat refine Mm.mk ?_
    conv => whnf
    refine EndVC.mk _ rfl _ _ (.bad hn rfl rfl) ?_
    refine ⟨[], rfl, rfl, ?_, ?_⟩ <;> repeat' (first | exact trivial | exact rfl | exact Iff.rfl | apply And.intro)
  · repeat' ((conv => whnf); first | refine Rng.g ?_ | refine Ob.g ?_ | refine Ob.e ?_ | refine Ob.m ?_ | refine Ob.mk (Nat.le_of_ble_eq_true rfl) ?_ | refine JoinVC.on ?_ | refine Nils.mk (fun h => ?_) ?_ | refine Val.t ?_ | refine Val.d ?_ | refine Mm.mk ?_ | (refine Br.mk (fun h => ?_) (fun h => ?_) <;> first | (exfalso; omega; done) | (exfalso; simp at h; done) | skip))
    conv => whnf
    refine CallVC.mk [1] _ _ _ rfl rfl rfl (s46 f l hl) (fun r m' h' => ?_)
    obtain ⟨rfl, rfl⟩ := h'
    conv => whnf
    repeat' ((conv => whnf); first | refine Rng.g ?_ | refine Ob.g ?_ | refine Ob.e ?_ | refine Ob.m ?_ | refine Ob.mk (Nat.le_of_ble_eq_true rfl) ?_ | refine JoinVC.on ?_ | refine Nils.mk (fun h => ?_) ?_ | refine Val.t ?_ | refine Val.d ?_ | refine Mm.mk ?_ | (refine Br.mk (fun h => ?_) (fun h => ?_) <;> first | (exfalso; omega; done) | (exfalso; simp at h; done) | skip))
    conv => whnf
    refine CallVC.mk [1] _ _ _ rfl rfl rfl (s47 f l (allO l) hf hg (allO_in l) (by rw [(allO_idx l).len]; omega)) (fun r m' h' => ?_)
    obtain ⟨rfl, rfl⟩ := h'
    conv => whnf
    repeat' ((conv => whnf); first | refine Rng.g ?_ | refine Ob.g ?_ | refine Ob.e ?_ | refine Ob.m ?_ | refine Ob.mk (Nat.le_of_ble_eq_true rfl) ?_ | refine JoinVC.on ?_ | refine Nils.mk (fun h => ?_) ?_ | refine Val.t ?_ | refine Val.d ?_ | refine Mm.mk ?_ | (refine Br.mk (fun h => ?_) (fun h => ?_) <;> first | (exfalso; omega; done) | (exfalso; simp at h; done) | skip))
    · repeat refine Mm.mk ?_
      conv => whnf
      refine EndVC.mk _ rfl _ _ (.ok hf hg h rfl rfl) ?_
      refine ⟨[some 2], rfl, rfl, ?_, ?_⟩ <;> repeat' (first | exact trivial | exact rfl | exact Iff.rfl | apply And.intro)
    · repeat refine Mm.mk ?_
      conv => whnf
      refine EndVC.mk _ rfl _ _ (.none hf hg h rfl rfl) ?_
      refine ⟨[], rfl, rfl, ?_, ?_⟩ <;> repeat' (first | exact trivial | exact rfl | exact Iff.rfl | apply And.intro)
/-! ### An order is laid -/
/-! ### The example -/
def f4 : Fmt := ⟨⟨#[102]⟩, 1000, 400, 10, 20, 10, 30, 5⟩
def l4 : List Sng := [⟨95, 20, 500⟩, ⟨30, 40, 800⟩, ⟨41, 10, 0⟩]
theorem f4_name : nameOK ⟨#[102]⟩ := ⟨by decide, by decide, fun j hj => by
  have : j = 0 := by
    have : j < 1 := hj
    omega
  subst this
  exact .inl (by decide)⟩
theorem f4_ok : FmtOK f4 := ⟨f4_name, by decide, by decide, by decide, by decide, by decide, by decide, by decide⟩
theorem l4_ok : SngsOK l4 := ⟨by decide, fun j hj => by
  have hc : j = 0 ∨ j = 1 ∨ j = 2 := by
    have : j < 3 := hj
    omega
  rcases hc with rfl | rfl | rfl <;> (unfold Sng.ok; decide)⟩
theorem allO4 : allO l4 = [1, 0, 2] := by decide
theorem lay4 : LayOK f4 l4 (allO l4) := by
  rw [allO4]
  refine ⟨fun i hi => ?_, by decide⟩
  have hc : i = 0 ∨ i = 1 ∨ i = 2 := by
    have : i < 3 := hi
    omega
  rcases hc with rfl | rfl | rfl <;> (unfold okAt; decide)
end Go.Sx

namespace Go.Sx
open Go Go.Proofs
set_option maxRecDepth 10000
set_option maxHeartbeats 4000000
/-- The tracks from one on. -/
def seqL (i n : Nat) : List Int := (List.range n).map fun k => ((i + k : Nat) : Int)
theorem seqL_len (i n : Nat) : (seqL i n).length = n := by simp [seqL]
theorem seqL_succ (i n : Nat) : seqL i (n + 1) = seqL i n ++ [((i + n : Nat) : Int)] := by simp [seqL, List.range_succ]
theorem seqL_get (i n k : Nat) (h : k < n) : (seqL i n).getD k 0 = ((i + k : Nat) : Int) := by simp [seqL, List.getD_eq_getElem?_getD, List.getElem?_range h]
def f0 : Fmt := ⟨⟨#[]⟩, 0, 0, 0, 0, 0, 0, 0⟩
structure AlbOK (F : List Fmt) (l : List Sng) : Prop where
  few : 1 ≤ F.length ∧ F.length ≤ 8
  fmts : ∀ i, i < F.length → FmtOK (F.getD i f0)
  sngs : SngsOK l
/-! ### Faces, plans and prices: plain laws for the statements about sides -/
theorem atF_congr (f : Fmt) (l : List Sng) {O Q : List Int} : ∀ k, (∀ j, j < k → O.getD j 0 = Q.getD j 0) → atF f l O k = atF f l Q k
  | 0, _ => rfl
  | k + 1, h => by
    unfold atF
    rw [atF_congr f l k (fun j hj => h j (by omega)), h k (Nat.lt_succ_self k)]
/-- What is possible stays so without its last track. -/
theorem lay_prefix {f : Fmt} {l : List Sng} (hf : FmtOK f) (hl : SngsOK l) {i n : Nat} (hn : i + (n + 1) ≤ l.length) (h : LayOK f l (seqL i (n + 1))) : LayOK f l (seqL i n) := by
  have e : ∀ k, k ≤ n → atF f l (seqL i n) k = atF f l (seqL i (n + 1)) k := fun k hk => atF_congr f l k fun j hj => by
    rw [seqL_get _ _ _ (by omega), seqL_get _ _ _ (by omega)]
  have hw := (wid_bd hf.per.1 (hl.each (i + n) (by omega))).2.1
  have hg := hf.gap.1
  have h2 := h.2
  have ea : atF f l (seqL i (n + 1)) (n + 1) = atF f l (seqL i (n + 1)) n - (if 0 < n then f.gap else 0) - widF f (l.getD (i + n) g0) := by
    show _ - _ - widF f (l.getD ((seqL i (n + 1)).getD n 0).toNat g0) = _
    rw [seqL_get _ _ _ (Nat.lt_succ_self n), Int.toNat_natCast]
  rw [seqL_len, ea] at h2
  refine ⟨fun k hk => ?_, ?_⟩
  · rw [seqL_len] at hk
    have h3 := h.1 k (by rw [seqL_len]; omega)
    unfold okAt at h3 ⊢
    rw [seqL_get _ _ _ (by omega)] at h3 ⊢
    rw [e _ (by omega)]
    exact h3
  · rw [seqL_len, e n (Nat.le_refl n)]
    split at h2 <;> omega
/-- A face: the tracks from i on and before j on the format k. -/
structure faceP (F : List Fmt) (l : List Sng) (k i j : Nat) : Prop where
  fmt : k < F.length
  lt : i < j
  le : j ≤ l.length
  lay : LayOK (F.getD k f0) l (seqL i (j - i))
theorem face_pre {F : List Fmt} {l : List Sng} (hA : AlbOK F l) {k i j : Nat} (h : faceP F l k i (j + 1)) (hj : i < j) : faceP F l k i j := by
  refine ⟨h.fmt, hj, by have := h.le; omega, ?_⟩
  have h1 := h.lay
  rw [show j + 1 - i = j - i + 1 by omega] at h1
  exact lay_prefix (hA.fmts k h.fmt) hA.sngs (by have := h.le; omega) h1
/-- A plan from a track on: formats and numbers of tracks. -/
def PlanOK (F : List Fmt) (l : List Sng) : Nat → List (Nat × Nat) → Prop
  | i, [] => i = l.length
  | i, (k, m) :: t => faceP F l k i (i + m) ∧ PlanOK F l (i + m) t
def costP (F : List Fmt) : List (Nat × Nat) → Int
  | [] => 0
  | (k, _) :: t => (F.getD k f0).cost + costP F t
/-- Prices that are right. -/
structure RightP (F : List Fmt) (l : List Sng) (p : List Int) : Prop where
  len : p.length = l.length + 1
  zero : p.getD 0 0 = 0
  step : ∀ k i j, 0 ≤ p.getD i 0 → faceP F l k i j → 0 ≤ p.getD j 0 ∧ p.getD j 0 ≤ p.getD i 0 + (F.getD k f0).cost
theorem right_le {F : List Fmt} {l : List Sng} {p : List Int} (h : RightP F l p) : ∀ (pl : List (Nat × Nat)) (i : Nat), 0 ≤ p.getD i 0 → PlanOK F l i pl → 0 ≤ p.getD l.length 0 ∧ p.getD l.length 0 ≤ p.getD i 0 + costP F pl
  | [], i, h0, hp => by
    have e : i = l.length := hp
    rw [← e]
    exact ⟨h0, by unfold costP; omega⟩
  | (k, m) :: t, i, h0, hp => by
    obtain ⟨h1, h2⟩ := hp
    obtain ⟨h3, h4⟩ := h.step k i (i + m) h0 h1
    obtain ⟨h5, h6⟩ := right_le h t (i + m) h3 h2
    refine ⟨h5, ?_⟩
    simp only [costP]
    omega
/-- No plan costs less than the last price that is right. -/
theorem right_plan {F : List Fmt} {l : List Sng} {p : List Int} (h : RightP F l p) {pl : List (Nat × Nat)} (hp : PlanOK F l 0 pl) : 0 ≤ p.getD l.length 0 ∧ p.getD l.length 0 ≤ costP F pl := by
  have := right_le h pl 0 (by rw [h.zero]; omega) hp
  rw [h.zero] at this
  omega
/-- The tracks before one can be laid out at a cost. -/
inductive Reach (F : List Fmt) (l : List Sng) : Nat → Int → Prop
  | nil : Reach F l 0 0
  | step {i j k : Nat} {c : Int} (h : Reach F l i c) (hf : faceP F l k i j) : Reach F l j (c + (F.getD k f0).cost)
theorem PlanOK.app {F : List Fmt} {l : List Sng} {j : Nat} {c : Int} (h : Reach F l j c) : ∀ {t}, PlanOK F l j t → ∃ pl, PlanOK F l 0 pl ∧ costP F pl = c + costP F t := by
  induction h with
  | nil => exact fun {t} ht => ⟨t, ht, by omega⟩
  | @step i j k c h hf ih =>
    intro t ht
    have hl := hf.lt
    obtain ⟨pl, h1, h2⟩ := ih (t := (k, j - i) :: t) ⟨by rw [show i + (j - i) = j by omega]; exact hf, by rw [show i + (j - i) = j by omega]; exact ht⟩
    refine ⟨pl, h1, ?_⟩
    rw [h2]
    simp only [costP]
    omega
/-- What is reached at the end is the cost of a plan. -/
theorem Reach.plan {F : List Fmt} {l : List Sng} {c : Int} (h : Reach F l l.length c) : ∃ pl, PlanOK F l 0 pl ∧ costP F pl = c := by
  obtain ⟨pl, h1, h2⟩ := PlanOK.app h (t := []) rfl
  exact ⟨pl, h1, by rw [h2]; simp only [costP]; omega⟩
/-! ### The faces in their order -/
theorem face_pre' {F : List Fmt} {l : List Sng} (hA : AlbOK F l) {k i j : Nat} (hj : i < j) : ∀ d, faceP F l k i (j + d) → faceP F l k i j
  | 0, h => h
  | d + 1, h => face_pre' hA hj d (face_pre hA h (by omega))
open Classical in
/-- The faces of a format that begin at i and end before j. -/
noncomputable def fcj (F : List Fmt) (l : List Sng) (i k : Nat) : Nat → List (Nat × Nat)
  | 0 => []
  | j + 1 => if faceP F l k i j then fcj F l i k j ++ [(k, j)] else fcj F l i k j
/-- The faces that begin at i, of the first formats. -/
noncomputable def fcs (F : List Fmt) (l : List Sng) (i : Nat) : Nat → List (Nat × Nat)
  | 0 => []
  | k + 1 => fcs F l i k ++ fcj F l i k (l.length + 1)
theorem fcj_yes {F : List Fmt} {l : List Sng} {i k j : Nat} (h : faceP F l k i j) : fcj F l i k (j + 1) = fcj F l i k j ++ [(k, j)] := if_pos h
theorem fcj_no {F : List Fmt} {l : List Sng} {i k j : Nat} (h : ¬ faceP F l k i j) : fcj F l i k (j + 1) = fcj F l i k j := if_neg h
theorem fcj_lo {F : List Fmt} {l : List Sng} {i k : Nat} : ∀ j, j ≤ i + 1 → fcj F l i k j = []
  | 0, _ => rfl
  | j + 1, h => by
    rw [fcj_no fun hf => by have := hf.lt; omega]
    exact fcj_lo j (by omega)
theorem fcj_stop {F : List Fmt} {l : List Sng} (hA : AlbOK F l) {i k j : Nat} (hj : i < j) (h : ¬ faceP F l k i j) : ∀ d, fcj F l i k (j + d) = fcj F l i k j
  | 0 => rfl
  | d + 1 => by
    rw [show j + (d + 1) = j + d + 1 from rfl, fcj_no fun hf => h (face_pre' hA hj d hf)]
    exact fcj_stop hA hj h d
theorem fcj_end {F : List Fmt} {l : List Sng} (hA : AlbOK F l) {i k j : Nat} (hj : i < j) (h : ¬ faceP F l k i j) (hl : j ≤ l.length + 1) : fcj F l i k j = fcj F l i k (l.length + 1) := by
  have := fcj_stop hA hj h (l.length + 1 - j)
  rw [show j + (l.length + 1 - j) = l.length + 1 by omega] at this
  exact this.symm
theorem mem_fcj {F : List Fmt} {l : List Sng} {i k : Nat} {p : Nat × Nat} : ∀ {j}, p ∈ fcj F l i k j ↔ p.1 = k ∧ p.2 < j ∧ faceP F l k i p.2
  | 0 => ⟨fun h => (by simp [fcj] at h), fun h => (by omega)⟩
  | j + 1 => by
    by_cases h : faceP F l k i j
    · rw [fcj_yes h, List.mem_append, mem_fcj, List.mem_singleton]
      constructor
      · rintro (⟨h1, h2, h3⟩ | rfl)
        · exact ⟨h1, by omega, h3⟩
        · exact ⟨rfl, Nat.lt_succ_self j, h⟩
      · rintro ⟨h1, h2, h3⟩
        by_cases e : p.2 = j
        · exact .inr (Prod.ext h1 e)
        · exact .inl ⟨h1, by omega, h3⟩
    · rw [fcj_no h, mem_fcj]
      constructor
      · rintro ⟨h1, h2, h3⟩
        exact ⟨h1, by omega, h3⟩
      · rintro ⟨h1, h2, h3⟩
        refine ⟨h1, ?_, h3⟩
        by_cases e : p.2 = j
        · rw [e] at h3; exact absurd h3 h
        · omega
theorem mem_fcs {F : List Fmt} {l : List Sng} {i : Nat} {p : Nat × Nat} : ∀ {k}, p ∈ fcs F l i k ↔ p.1 < k ∧ faceP F l p.1 i p.2
  | 0 => ⟨fun h => (by simp [fcs] at h), fun h => (by omega)⟩
  | k + 1 => by
    unfold fcs
    rw [List.mem_append, mem_fcs, mem_fcj]
    constructor
    · rintro (⟨h1, h2⟩ | ⟨h1, h2, h3⟩)
      · exact ⟨by omega, h2⟩
      · rw [h1]; exact ⟨Nat.lt_succ_self k, h3⟩
    · rintro ⟨h1, h2⟩
      by_cases e : p.1 = k
      · rw [e] at h2; exact .inr ⟨e, by have := h2.le; omega, h2⟩
      · exact .inl ⟨by omega, h2⟩
/-- All faces that begin at i, by formats and then by their ends. -/
noncomputable def facesL (F : List Fmt) (l : List Sng) (i : Nat) : List (Nat × Nat) := fcs F l i F.length
theorem mem_faces {F : List Fmt} {l : List Sng} {i : Nat} {p : Nat × Nat} : p ∈ facesL F l i ↔ faceP F l p.1 i p.2 := by
  unfold facesL
  rw [mem_fcs]
  exact ⟨fun h => h.2, fun h => ⟨h.fmt, h⟩⟩
/-! ### Best plans -/
/-- A worth is better than another one. -/
def ltW (a b : Int × Int) : Prop := a.1 < b.1 ∨ a.1 = b.1 ∧ a.2 < b.2
instance (a b : Int × Int) : Decidable (ltW a b) := by unfold ltW; exact inferInstance
end Go.Sx

namespace Go.Sx
open Go Go.Proofs
set_option maxRecDepth 10000
set_option maxHeartbeats 8000000
/-! ### Plates that nothing writes into any more -/
@[reducible] def KPl : List CK := [.str, .int .i64, .int .i64, .int .i64, .int .i64, .int .i64, .int .i64, .int .i64, .sl KSng]
def plA (f : Fmt) (l : List Sng) : Arr := [[.str f.nm, .int f.outer, .int f.inner, .int f.per, .int f.lead, .int f.gap, .int f.tail, .int f.cost, .sl (sngA l)]]
@[reducible] def plX (f : Fmt) (l : List Sng) : XV := .one (.lel true KPl (plA f l) 0 0)
theorem s43p (f : Fmt) (l : List Sng) (g : Sng) (hf : FmtOK f) (hg : g.ok) : HSpec Try.prog 43 [plX f l, g.x] [] (fun r m' => r = .x (I (widF f g)) ∧ m' = []) := by
  obtain ⟨w1, w2⟩ := wid_bd hf.per.1 hg
  have hp := hf.per
  have hg1 := hg.1
  have hg2 := hg.2.1
  have e3 : rI (plA f l) 0 (0 + 0 + (0 + 1 + 1 + 1)) = f.per := rfl
  unfold widF at w2
  refine spec_of pMix (O := []) Try.func43 (c := bodyOf Try.f43) rfl (by kernel_rfl) (by kernel_rfl) Try.ntmps43 (res := [.tmp 4]) (by kernel_rfl) ?_
  repeat' ((conv => whnf); first | rw [e3] | refine Rng.g ?_ | refine Ob.g ?_ | refine Ob.e ?_ | refine Ob.m ?_ | refine Ob.mk (Nat.le_of_ble_eq_true rfl) ?_ | refine JoinVC.on ?_ | refine Nils.mk (fun h => ?_) ?_ | refine Val.t ?_ | refine Val.d ?_ | refine Mm.mk ?_ | (refine Br.mk (fun h => ?_) (fun h => ?_) <;> first | (exfalso; omega; done) | (exfalso; simp at h; done) | skip))
  repeat refine Mm.mk ?_
  conv => whnf
  refine EndVC.mk _ rfl _ _ (⟨rfl, rfl⟩) ?_
  refine ⟨[], rfl, rfl, ?_, ?_⟩ <;> repeat' (first | exact trivial | exact rfl | exact Iff.rfl | apply And.intro)
inductive LyRs0 (f : Fmt) (l : List Sng) (O : List Int) (r : AV) (m' : List (Option Blk)) : Prop
  | rule (i : Nat) (hi : i < O.length) (h : ∀ j, j < i → okAt f l O j) (hn : ¬ okAt f l O i) (hr : r = .tup [.one .nils, I (i : Int), I 20]) (hm : m' = [])
  | limit (h : ∀ j, j < O.length → okAt f l O j) (hn : ¬ LayOK f l O) (hr : r = .tup [.one .nils, I (O.length : Int), I 14]) (hm : m' = [])
  | ok (h : LayOK f l O) (hr : r = .tup [.one (.own 0), I (O.length : Int), I 0]) (hm : m' = [some (rowB (bndA f l O O.length))])
theorem s37p (f : Fmt) (l : List Sng) (O : List Int) (hf : FmtOK f) (hg : SngsOK l) (hO : InR O l.length) (hl : O.length ≤ 100) : HSpec Try.prog 37 [plX f l, .one (.lst true [.int .i64] (i64s O))] [] (LyRs0 f l O) := by
  have lo := i64s_len O
  have lg := sngA_len l
  have hbd := atF_bd hf hg hO
  have hf1 := hf.outer
  have hf2 := hf.lead
  have hf3 := hf.gap
  have hf4 := hf.tail
  have hf5 := hf.inner
  have p1 : rI (plA f l) 0 (0 + 0 + (0 + 1)) = f.outer := rfl
  have p2 : rI (plA f l) 0 (0 + 0 + (0 + 1 + 1)) = f.inner := rfl
  have p4 : rI (plA f l) 0 (0 + 0 + (0 + 1 + 1 + 1 + 1)) = f.lead := rfl
  have p5 : rI (plA f l) 0 (0 + 0 + (0 + 1 + 1 + 1 + 1 + 1)) = f.gap := rfl
  have p6 : rI (plA f l) 0 (0 + 0 + (0 + 1 + 1 + 1 + 1 + 1 + 1)) = f.tail := rfl
  have p8 : rA (plA f l) 0 (0 + (0 + 1 + 1 + 1 + 1 + 1 + 1 + 1 + 1)) = sngA l := rfl
  refine spec_of pMix (O := []) Try.func37 (c := bodyOf Try.f37) rfl (by kernel_rfl) (by kernel_rfl) Try.ntmps37 (res := [.tmp 4, .tmp 5, .tmp 6]) (by kernel_rfl) ?_
  repeat' ((conv => whnf); first | rw [p1] | rw [p2] | rw [p4] | rw [p5] | rw [p6] | rw [p8] | refine Rng.g ?_ | refine Ob.g ?_ | refine Ob.e ?_ | refine Ob.m ?_ | refine Ob.mk (Nat.le_of_ble_eq_true rfl) ?_ | refine JoinVC.on ?_ | refine Nils.mk (fun h => ?_) ?_ | refine Val.t ?_ | refine Val.d ?_ | refine Mm.mk ?_ | (refine Br.mk (fun h => ?_) (fun h => ?_) <;> first | (exfalso; omega; done) | (exfalso; simp at h; done) | skip))
  refine LoopVC.mk (fun n st => ∃ (i : Nat), i ≤ O.length ∧ n = O.length - i ∧ (∀ j, j < i → okAt f l O j) ∧ st = ⟨0, envA 89 [(0, .x (plX f l)), (1, .x (.one (.lst true [.int .i64] (i64s O)))), (7, .x (.one (.own 0))), (8, .int .i64 (atF f l O i)), (23, .x (.one (.lst true [.int .i64] (i64s O)))), (24, .int .i64 (O.length : Int)), (25, .int .i64 (i : Int))], [some (rowB (bndA f l O i))]⟩) _ _ ⟨0, Nat.zero_le _, rfl, fun j hj => absurd hj (Nat.not_lt_zero j), rfl⟩ ?_ ?_
  · refine ⟨[none], rfl, rfl, ?_, ?_⟩ <;> repeat' (first | exact trivial | exact rfl | exact Iff.rfl | apply And.intro)
    exact congrArg Int.ofNat lo
  rintro n _ ⟨i, hi, hn, hj, rfl⟩
  have lb := bndA_len f l O i
  have gi : rI (i64s O) (i : Int).toNat 0 = O.getD i 0 := by rw [Int.toNat_natCast]; exact i64s_get O i
  have hbi := hbd i hi
  by_cases hi' : i < O.length
  · have hr := hO i hi'
    obtain ⟨q, hq⟩ : ∃ q, O.getD i 0 = q := ⟨_, rfl⟩
    have c0 : rI (sngA l) q.toNat 0 = (l.getD q.toNat g0).long := sngA_0 l _
    have c1 : rI (sngA l) q.toNat (0 + 1) = (l.getD q.toNat g0).pitch := sngA_1 l _
    have c2 : rI (sngA l) q.toNat (0 + 1 + 1) = (l.getD q.toNat g0).least := sngA_2 l _
    have c3 : rI (sngA l) q.toNat (0 + (0 + 1 + 1)) = (l.getD q.toNat g0).least := sngA_2 l _
    rw [hq] at gi hr
    have hgk := hg.each q.toNat (by omega)
    have hw := (wid_bd hf.per.1 hgk).2
    have k1 := s43p f l (l.getD q.toNat g0) hf hgk
    have ea : atF f l O (i + 1) = atF f l O i - (if 0 < i then f.gap else 0) - widF f (l.getD (O.getD i 0).toNat g0) := rfl
    rw [hq] at ea
    have eo : okAt f l O i ↔ (l.getD q.toNat g0).least ≤ atF f l O (i + 1) := by unfold okAt; rw [hq]
    by_cases h0 : 0 < i
    · have e1 : (if 0 < i then f.gap else 0) = f.gap := if_pos h0
      have e2 : (atF f l O i - f.gap) - widF f (l.getD q.toNat g0) = atF f l O (i + 1) := by rw [ea, e1]
      have hbj := hbd (i + 1) hi'
      have e3 : bndR f l O i = [Cell.int q, Cell.int (atF f l O i - f.gap), Cell.int (atF f l O (i + 1))] := by unfold bndR; rw [hq, e1]
      repeat' ((conv => whnf); first | rw [p1] | rw [p2] | rw [p4] | rw [p5] | rw [p6] | rw [p8] | rw [gi] | rw [c0] | rw [c1] | rw [c2] | refine Rng.g ?_ | refine Ob.g ?_ | refine Ob.e ?_ | refine Ob.m ?_ | refine Ob.mk (Nat.le_of_ble_eq_true rfl) ?_ | refine JoinVC.on ?_ | refine Nils.mk (fun h => ?_) ?_ | refine Val.t ?_ | refine Val.d ?_ | refine Mm.mk ?_ | (refine Br.mk (fun h => ?_) (fun h => ?_) <;> first | (exfalso; omega; done) | (exfalso; simp at h; done) | skip))
      conv => whnf
      refine CallVC.mk [] _ _ _ rfl rfl rfl (k1) (fun r m' h' => ?_)
      obtain ⟨rfl, rfl⟩ := h'
      conv => whnf
      repeat' ((conv => whnf); first | rw [p1] | rw [p2] | rw [p4] | rw [p5] | rw [p6] | rw [p8] | rw [e2] | rw [c3] | refine Rng.g ?_ | refine Ob.g ?_ | refine Ob.e ?_ | refine Ob.m ?_ | refine Ob.mk (Nat.le_of_ble_eq_true rfl) ?_ | refine JoinVC.on ?_ | refine Nils.mk (fun h => ?_) ?_ | refine Val.t ?_ | refine Val.d ?_ | refine Mm.mk ?_ | (refine Br.mk (fun h => ?_) (fun h => ?_) <;> first | (exfalso; omega; done) | (exfalso; simp at h; done) | skip))
      · have hno : ¬ okAt f l O i := fun hk => by have := eo.1 hk; omega
        repeat refine Mm.mk ?_
        conv => whnf
        refine EndVC.mk _ rfl _ _ (.rule i hi' hj hno rfl rfl) ?_
        refine ⟨[], rfl, rfl, ?_, ?_⟩ <;> repeat' (first | exact trivial | exact rfl | exact Iff.rfl | apply And.intro)
      · repeat refine Mm.mk ?_
        refine Ob.mk (by rw [eb116]; simp only [List.length_cons, List.length_nil]; omega) ?_
        repeat' ((conv => whnf); first | rw [p1] | rw [p2] | rw [p4] | rw [p5] | rw [p6] | rw [p8] | rw [e2] | rw [c3] | refine Rng.g ?_ | refine Ob.g ?_ | refine Ob.e ?_ | refine Ob.m ?_ | refine Ob.mk (Nat.le_of_ble_eq_true rfl) ?_ | refine JoinVC.on ?_ | refine Nils.mk (fun h => ?_) ?_ | refine Val.t ?_ | refine Val.d ?_ | refine Mm.mk ?_ | (refine Br.mk (fun h => ?_) (fun h => ?_) <;> first | (exfalso; omega; done) | (exfalso; simp at h; done) | skip))
        refine Back.mk (O.length - (i + 1)) _ (by omega) ⟨i + 1, by omega, rfl, fun j hj' => ?_, rfl⟩ ?_
        · rcases Nat.lt_succ_iff_lt_or_eq.1 hj' with h' | rfl
          · exact hj j h'
          · exact eo.2 (by omega)
        · rw [bndA_succ, e3]
          refine ⟨[some 3], rfl, rfl, ?_, ?_⟩ <;> repeat' (first | exact trivial | exact rfl | exact Iff.rfl | apply And.intro)
    · have e1 : (if 0 < i then f.gap else 0) = 0 := if_neg h0
      have e2 : (atF f l O i) - widF f (l.getD q.toNat g0) = atF f l O (i + 1) := by rw [ea, e1]; omega
      have hbj := hbd (i + 1) hi'
      have e3 : bndR f l O i = [Cell.int q, Cell.int (atF f l O i), Cell.int (atF f l O (i + 1))] := by unfold bndR; rw [hq, e1]; simp only [Int.sub_zero]
      repeat' ((conv => whnf); first | rw [p1] | rw [p2] | rw [p4] | rw [p5] | rw [p6] | rw [p8] | rw [gi] | rw [c0] | rw [c1] | rw [c2] | refine Rng.g ?_ | refine Ob.g ?_ | refine Ob.e ?_ | refine Ob.m ?_ | refine Ob.mk (Nat.le_of_ble_eq_true rfl) ?_ | refine JoinVC.on ?_ | refine Nils.mk (fun h => ?_) ?_ | refine Val.t ?_ | refine Val.d ?_ | refine Mm.mk ?_ | (refine Br.mk (fun h => ?_) (fun h => ?_) <;> first | (exfalso; omega; done) | (exfalso; simp at h; done) | skip))
      conv => whnf
      refine CallVC.mk [] _ _ _ rfl rfl rfl (k1) (fun r m' h' => ?_)
      obtain ⟨rfl, rfl⟩ := h'
      conv => whnf
      repeat' ((conv => whnf); first | rw [p1] | rw [p2] | rw [p4] | rw [p5] | rw [p6] | rw [p8] | rw [e2] | rw [c3] | refine Rng.g ?_ | refine Ob.g ?_ | refine Ob.e ?_ | refine Ob.m ?_ | refine Ob.mk (Nat.le_of_ble_eq_true rfl) ?_ | refine JoinVC.on ?_ | refine Nils.mk (fun h => ?_) ?_ | refine Val.t ?_ | refine Val.d ?_ | refine Mm.mk ?_ | (refine Br.mk (fun h => ?_) (fun h => ?_) <;> first | (exfalso; omega; done) | (exfalso; simp at h; done) | skip))
      · have hno : ¬ okAt f l O i := fun hk => by have := eo.1 hk; omega
        repeat refine Mm.mk ?_
        conv => whnf
        refine EndVC.mk _ rfl _ _ (.rule i hi' hj hno rfl rfl) ?_
        refine ⟨[], rfl, rfl, ?_, ?_⟩ <;> repeat' (first | exact trivial | exact rfl | exact Iff.rfl | apply And.intro)
      · repeat refine Mm.mk ?_
        refine Ob.mk (by rw [eb116]; simp only [List.length_cons, List.length_nil]; omega) ?_
        repeat' ((conv => whnf); first | rw [p1] | rw [p2] | rw [p4] | rw [p5] | rw [p6] | rw [p8] | rw [e2] | rw [c3] | refine Rng.g ?_ | refine Ob.g ?_ | refine Ob.e ?_ | refine Ob.m ?_ | refine Ob.mk (Nat.le_of_ble_eq_true rfl) ?_ | refine JoinVC.on ?_ | refine Nils.mk (fun h => ?_) ?_ | refine Val.t ?_ | refine Val.d ?_ | refine Mm.mk ?_ | (refine Br.mk (fun h => ?_) (fun h => ?_) <;> first | (exfalso; omega; done) | (exfalso; simp at h; done) | skip))
        refine Back.mk (O.length - (i + 1)) _ (by omega) ⟨i + 1, by omega, rfl, fun j hj' => ?_, rfl⟩ ?_
        · rcases Nat.lt_succ_iff_lt_or_eq.1 hj' with h' | rfl
          · exact hj j h'
          · exact eo.2 (by omega)
        · rw [bndA_succ, e3]
          refine ⟨[some 3], rfl, rfl, ?_, ?_⟩ <;> repeat' (first | exact trivial | exact rfl | exact Iff.rfl | apply And.intro)
  · have ei : i = O.length := by omega
    subst ei
    repeat' ((conv => whnf); first | rw [p1] | rw [p2] | rw [p4] | rw [p5] | rw [p6] | rw [p8] | rw [lo] | refine Rng.g ?_ | refine Ob.g ?_ | refine Ob.e ?_ | refine Ob.m ?_ | refine Ob.mk (Nat.le_of_ble_eq_true rfl) ?_ | refine JoinVC.on ?_ | refine Nils.mk (fun h => ?_) ?_ | refine Val.t ?_ | refine Val.d ?_ | refine Mm.mk ?_ | (refine Br.mk (fun h => ?_) (fun h => ?_) <;> first | (exfalso; omega; done) | (exfalso; simp at h; done) | skip))
    · repeat refine Mm.mk ?_
      conv => whnf
      refine EndVC.mk _ rfl _ _ (.limit hj (fun hL => (by have := hL.2; omega)) rfl rfl) ?_
      refine ⟨[], rfl, rfl, ?_, ?_⟩ <;> repeat' (first | exact trivial | exact rfl | exact Iff.rfl | apply And.intro)
    · repeat refine Mm.mk ?_
      conv => whnf
      refine EndVC.mk _ rfl _ _ (.ok ⟨hj, by omega⟩ rfl rfl) ?_
      refine ⟨[some 0], rfl, rfl, ?_, ?_⟩ <;> repeat' (first | exact trivial | exact rfl | exact Iff.rfl | apply And.intro)
open Classical in
theorem s47p (f : Fmt) (l : List Sng) (O : List Int) (hf : FmtOK f) (hg : SngsOK l) (hO : InR O l.length) (hl : O.length ≤ 100) : HSpec Try.prog 47 [plX f l, .one (.lst true [.int .i64] (i64s O))] [] (fun r m' => r = xP (LayOK f l O) ∧ m' = []) := by
  refine spec_of pMix (O := []) Try.func47 (c := bodyOf Try.f47) rfl (by kernel_rfl) (by kernel_rfl) Try.ntmps47 (res := [.tmp 4]) (by kernel_rfl) ?_
  repeat' ((conv => whnf); first | refine Rng.g ?_ | refine Ob.g ?_ | refine Ob.e ?_ | refine Ob.m ?_ | refine Ob.mk (Nat.le_of_ble_eq_true rfl) ?_ | refine JoinVC.on ?_ | refine Nils.mk (fun h => ?_) ?_ | refine Val.t ?_ | refine Val.d ?_ | refine Mm.mk ?_ | (refine Br.mk (fun h => ?_) (fun h => ?_) <;> first | (exfalso; omega; done) | (exfalso; simp at h; done) | skip))
  conv => whnf
  refine CallVC.mk [] _ _ _ rfl rfl rfl (s37p f l O hf hg hO hl) (fun r m' h' => ?_)
  cases h' with
  | rule i hi h hn hr hm =>
    subst hr hm
    repeat' ((conv => whnf); first | refine Rng.g ?_ | refine Ob.g ?_ | refine Ob.e ?_ | refine Ob.m ?_ | refine Ob.mk (Nat.le_of_ble_eq_true rfl) ?_ | refine JoinVC.on ?_ | refine Nils.mk (fun h => ?_) ?_ | refine Val.t ?_ | refine Val.d ?_ | refine Mm.mk ?_ | (refine Br.mk (fun h => ?_) (fun h => ?_) <;> first | (exfalso; omega; done) | (exfalso; simp at h; done) | skip))
    repeat refine Mm.mk ?_
    refine EndVC.mk _ rfl _ _ ⟨rfl, rfl⟩ ?_
    refine ⟨[], rfl, rfl, ?_, ?_⟩ <;> repeat' (first | exact trivial | exact rfl | exact Iff.rfl | apply And.intro)
    show _ ↔ _
    exact ⟨fun h1 => absurd h1 (by decide), fun h1 => absurd (h1.1 i hi) hn⟩
  | limit h hn hr hm =>
    subst hr hm
    repeat' ((conv => whnf); first | refine Rng.g ?_ | refine Ob.g ?_ | refine Ob.e ?_ | refine Ob.m ?_ | refine Ob.mk (Nat.le_of_ble_eq_true rfl) ?_ | refine JoinVC.on ?_ | refine Nils.mk (fun h => ?_) ?_ | refine Val.t ?_ | refine Val.d ?_ | refine Mm.mk ?_ | (refine Br.mk (fun h => ?_) (fun h => ?_) <;> first | (exfalso; omega; done) | (exfalso; simp at h; done) | skip))
    repeat refine Mm.mk ?_
    refine EndVC.mk _ rfl _ _ ⟨rfl, rfl⟩ ?_
    refine ⟨[], rfl, rfl, ?_, ?_⟩ <;> repeat' (first | exact trivial | exact rfl | exact Iff.rfl | apply And.intro)
    show _ ↔ _
    exact ⟨fun h1 => absurd h1 (by decide), fun h1 => absurd h1 hn⟩
  | ok h hr hm =>
    subst hr hm
    repeat' ((conv => whnf); first | refine Rng.g ?_ | refine Ob.g ?_ | refine Ob.e ?_ | refine Ob.m ?_ | refine Ob.mk (Nat.le_of_ble_eq_true rfl) ?_ | refine JoinVC.on ?_ | refine Nils.mk (fun h => ?_) ?_ | refine Val.t ?_ | refine Val.d ?_ | refine Mm.mk ?_ | (refine Br.mk (fun h => ?_) (fun h => ?_) <;> first | (exfalso; omega; done) | (exfalso; simp at h; done) | skip))
    repeat refine Mm.mk ?_
    refine EndVC.mk _ rfl _ _ ⟨rfl, rfl⟩ ?_
    refine ⟨[], rfl, rfl, ?_, ?_⟩ <;> repeat' (first | exact trivial | exact rfl | exact Iff.rfl | apply And.intro)
    show _ ↔ _
    exact ⟨fun _ => h, fun _ => rfl⟩
theorem s54g (i j : Nat) (hj : j ≤ 100000) : HSpec Try.prog 54 [I (i : Int), I (j : Int)] [] (fun r m' => r = .x (.one (.own 0)) ∧ m' = [some (rowOd (seqL i (j - i)))]) := by
  refine spec_of pMix (O := []) Try.func54 (c := bodyOf Try.f54) rfl (by kernel_rfl) (by kernel_rfl) Try.ntmps54 (res := [.tmp 4]) (by kernel_rfl) ?_
  repeat' ((conv => whnf); first | refine Rng.g ?_ | refine Ob.g ?_ | refine Ob.e ?_ | refine Ob.m ?_ | refine Ob.mk (Nat.le_of_ble_eq_true rfl) ?_ | refine JoinVC.on ?_ | refine Nils.mk (fun h => ?_) ?_ | refine Val.t ?_ | refine Val.d ?_ | refine Mm.mk ?_ | (refine Br.mk (fun h => ?_) (fun h => ?_) <;> first | (exfalso; omega; done) | (exfalso; simp at h; done) | skip))
  refine LoopVC.mk (fun m st => ∃ (k : Nat), (k ≤ j - i) ∧ m = j - i - k ∧ st = ⟨0, envA 16 [(0, .int .i64 ((i + k : Nat) : Int)), (1, .x (I (j : Int))), (5, .x (.one (.own 0)))], [some (rowOd (seqL i k))]⟩) _ _ ⟨0, Nat.zero_le _, rfl, rfl⟩ ?_ ?_
  · refine ⟨[none], rfl, rfl, ?_, ?_⟩ <;> repeat' (first | exact trivial | exact rfl | exact Iff.rfl | apply And.intro)
  rintro m _ ⟨k, hk, hm, rfl⟩
  have ls : (i64s (seqL i k)).length = k := by rw [i64s_len, seqL_len]
  by_cases hk' : k < j - i
  · repeat' ((conv => whnf); first | refine Rng.g ?_ | refine Ob.g ?_ | refine Ob.e ?_ | refine Ob.m ?_ | refine Ob.mk (Nat.le_of_ble_eq_true rfl) ?_ | refine JoinVC.on ?_ | refine Nils.mk (fun h => ?_) ?_ | refine Val.t ?_ | refine Val.d ?_ | refine Mm.mk ?_ | (refine Br.mk (fun h => ?_) (fun h => ?_) <;> first | (exfalso; omega; done) | (exfalso; simp at h; done) | skip))
    repeat refine Mm.mk ?_
    refine Ob.mk (by rw [eb3]; simp only [List.length_cons, List.length_nil]; omega) ?_
    repeat' ((conv => whnf); first | refine Rng.g ?_ | refine Ob.g ?_ | refine Ob.e ?_ | refine Ob.m ?_ | refine Ob.mk (Nat.le_of_ble_eq_true rfl) ?_ | refine JoinVC.on ?_ | refine Nils.mk (fun h => ?_) ?_ | refine Val.t ?_ | refine Val.d ?_ | refine Mm.mk ?_ | (refine Br.mk (fun h => ?_) (fun h => ?_) <;> first | (exfalso; omega; done) | (exfalso; simp at h; done) | skip))
    refine Back.mk (j - i - (k + 1)) _ (by omega) ⟨k + 1, by omega, rfl, rfl⟩ ?_
    rw [seqL_succ]
    refine ⟨[some 2], rfl, rfl, ?_, ?_⟩ <;> repeat' (first | exact trivial | exact rfl | exact Iff.rfl | apply And.intro)
    rw [i64s_snoc]
  · have ek : k = j - i := by omega
    subst ek
    repeat' ((conv => whnf); first | refine Rng.g ?_ | refine Ob.g ?_ | refine Ob.e ?_ | refine Ob.m ?_ | refine Ob.mk (Nat.le_of_ble_eq_true rfl) ?_ | refine JoinVC.on ?_ | refine Nils.mk (fun h => ?_) ?_ | refine Val.t ?_ | refine Val.d ?_ | refine Mm.mk ?_ | (refine Br.mk (fun h => ?_) (fun h => ?_) <;> first | (exfalso; omega; done) | (exfalso; simp at h; done) | skip))
    repeat refine Mm.mk ?_
    refine EndVC.mk _ rfl _ _ ⟨rfl, rfl⟩ ?_
    refine ⟨[some 0], rfl, rfl, ?_, ?_⟩ <;> repeat' (first | exact trivial | exact rfl | exact Iff.rfl | apply And.intro)
end Go.Sx

namespace Go.Sx
open Go Go.Proofs
set_option maxRecDepth 10000
set_option maxHeartbeats 8000000
/-! ### Formats and their plates -/
@[reducible] def KFm : List CK := [.str, .int .i64, .int .i64, .int .i64, .int .i64, .int .i64, .int .i64, .int .i64]
def fmtA (F : List Fmt) : Arr := F.map fun f => [.str f.nm, .int f.outer, .int f.inner, .int f.per, .int f.lead, .int f.gap, .int f.tail, .int f.cost]
theorem fmtA_len (F : List Fmt) : (fmtA F).length = F.length := by simp [fmtA]
@[reducible] def lFmt (F : List Fmt) : XV := .one (.lst true KFm (fmtA F))
theorem fmt_at (F : List Fmt) (i : Nat) (h : i < F.length) : rS (fmtA F) i 0 = (F.getD i f0).nm ∧ rI (fmtA F) i (0 + 1) = (F.getD i f0).outer ∧ rI (fmtA F) i (0 + 1 + 1) = (F.getD i f0).inner ∧ rI (fmtA F) i (0 + 1 + 1 + 1) = (F.getD i f0).per ∧ rI (fmtA F) i (0 + 1 + 1 + 1 + 1) = (F.getD i f0).lead ∧ rI (fmtA F) i (0 + 1 + 1 + 1 + 1 + 1) = (F.getD i f0).gap ∧ rI (fmtA F) i (0 + 1 + 1 + 1 + 1 + 1 + 1) = (F.getD i f0).tail ∧ rI (fmtA F) i (0 + 1 + 1 + 1 + 1 + 1 + 1 + 1) = (F.getD i f0).cost := by
  have h1 : (fmtA F)[i]? = some [.str (F.getD i f0).nm, .int (F.getD i f0).outer, .int (F.getD i f0).inner, .int (F.getD i f0).per, .int (F.getD i f0).lead, .int (F.getD i f0).gap, .int (F.getD i f0).tail, .int (F.getD i f0).cost] := by simp [fmtA, List.getD_eq_getElem?_getD, h]
  simp [rS, rI, cellAt, h1, Cell.toInt, Cell.toStr]
def plsA (F : List Fmt) (l : List Sng) : Arr := F.map fun f => [.sl (plA f l)]
theorem plsA_len (F : List Fmt) (l : List Sng) : (plsA F l).length = F.length := by simp [plsA]
theorem plsA_snoc (F : List Fmt) (l : List Sng) (f : Fmt) : plsA (F ++ [f]) l = plsA F l ++ [[.sl (plA f l)]] := by simp [plsA]
theorem plsA_at (F : List Fmt) (l : List Sng) (i : Nat) (h : i < F.length) : rA (plsA F l) i 0 = plA (F.getD i f0) l := by
  have h1 : (plsA F l)[i]? = some [.sl (plA (F.getD i f0) l)] := by simp [plsA, List.getD_eq_getElem?_getD, h]
  simp [rA, cellAt, h1, Cell.toArr]
@[reducible] def rowPl (F : List Fmt) (l : List Sng) : Blk := .row 69 true [.pt KPl] (plsA F l)
theorem eb246 : Try.t69.bytes = 8 := by kernel_rfl
@[reducible] def bAlb (F : List Fmt) (l : List Sng) (n : Int) : Blk := .box 98 [.lst true [.pt KPl] (plsA F l), .int .i64 n]
open Classical in
/-- The error of formats and tracks. -/
noncomputable def fmsE (F : List Fmt) (l : List Sng) : Int := if F.length = 0 ∨ 8 < F.length then 6 else if ∀ i, i < F.length → FmtOK (F.getD i f0) then trkE l else 2
theorem fmsE_many {F : List Fmt} {l : List Sng} (h : F.length = 0 ∨ 8 < F.length) : fmsE F l = 6 := if_pos h
theorem fmsE_bad {F : List Fmt} {l : List Sng} (h : ¬ (F.length = 0 ∨ 8 < F.length)) {i : Nat} (hi : i < F.length) (hn : ¬ FmtOK (F.getD i f0)) : fmsE F l = 2 := (if_neg h).trans (if_neg fun h => hn (h i hi))
theorem fmsE_trk {F : List Fmt} {l : List Sng} (h : ¬ (F.length = 0 ∨ 8 < F.length)) (hn : ∀ i, i < F.length → FmtOK (F.getD i f0)) : fmsE F l = trkE l := (if_neg h).trans (if_pos hn)
theorem fmsE_0 {F : List Fmt} {l : List Sng} : fmsE F l = 0 ↔ AlbOK F l := by
  constructor
  · intro h
    by_cases h1 : F.length = 0 ∨ 8 < F.length
    · rw [fmsE_many h1] at h; cases h
    · by_cases h2 : ∀ i, i < F.length → FmtOK (F.getD i f0)
      · rw [fmsE_trk h1 h2] at h
        exact ⟨by omega, h2, trkE_0 h⟩
      · unfold fmsE at h
        rw [if_neg h1, if_neg h2] at h; cases h
  · intro h
    rw [fmsE_trk (by have := h.few; omega) h.fmts, trkE_ok h.sngs]
theorem s49 (F : List Fmt) (l : List Sng) (hI : ∀ i, (F.getD i f0).nm.size ≤ 140737488355328) : HSpec Try.prog 49 [lFmt F, lSng l] [] (fun r m' => (fmsE F l ≠ 0 ∧ r = .tup [.one .nilp, I (fmsE F l)] ∧ m' = []) ∨ (fmsE F l ≠ 0 ∧ r = .tup [.one (.ptr 0 0), I (fmsE F l)] ∧ m' = [some (bAlb F l (l.length : Int))]) ∨ (AlbOK F l ∧ r = .tup [.one (.ptr 0 0), I 0] ∧ m' = [some (bAlb F l (l.length : Int))])) := by
  have lF := fmtA_len F
  have ll := sngA_len l
  by_cases h8 : F.length = 0 ∨ 8 < F.length
  · refine spec_of pMix (O := [(10, ([], [⟨0, [], []⟩, ⟨1, [], []⟩, ⟨2, [], []⟩, ⟨3, [], []⟩, ⟨4, [], []⟩, ⟨5, [], []⟩, ⟨6, [], []⟩, ⟨7, [], []⟩, ⟨8, [0, 1, 2, 3, 4], [9]⟩, ⟨9, [], []⟩, ⟨10, [0], []⟩, ⟨11, [], []⟩, ⟨12, [], []⟩, ⟨13, [], []⟩]))]) Try.func49 (c := bodyOf Try.f49) rfl (by kernel_rfl) (by kernel_rfl) Try.ntmps49 (res := [.tmp 4, .tmp 5]) (by kernel_rfl) ?_
    repeat' ((conv => whnf); first | refine Rng.g ?_ | refine Ob.g ?_ | refine Ob.e ?_ | refine Ob.m ?_ | refine Ob.mk (Nat.le_of_ble_eq_true rfl) ?_ | refine JoinVC.on ?_ | refine Nils.mk (fun h => ?_) ?_ | refine Val.t ?_ | refine Val.d ?_ | refine Mm.mk ?_ | (refine Br.mk (fun h => ?_) (fun h => ?_) <;> first | (exfalso; omega; done) | (exfalso; simp at h; done) | skip))
    all_goals
      repeat refine Mm.mk ?_
      conv => whnf
      refine EndVC.mk _ rfl _ _ (.inl ⟨by rw [fmsE_many h8]; decide, rfl, rfl⟩) ?_
      refine ⟨[], rfl, rfl, ?_, ?_⟩ <;> repeat' (first | exact trivial | exact rfl | exact Iff.rfl | apply And.intro)
      exact (fmsE_many h8).symm
  refine spec_of pMix (O := [(10, ([], [⟨0, [], []⟩, ⟨1, [], []⟩, ⟨2, [], []⟩, ⟨3, [], []⟩, ⟨4, [], []⟩, ⟨5, [], []⟩, ⟨6, [], []⟩, ⟨7, [], []⟩, ⟨8, [0, 1, 2, 3, 4], [9]⟩, ⟨9, [], []⟩, ⟨10, [0], []⟩, ⟨11, [], []⟩, ⟨12, [], []⟩, ⟨13, [], []⟩]))]) Try.func49 (c := bodyOf Try.f49) rfl (by kernel_rfl) (by kernel_rfl) Try.ntmps49 (res := [.tmp 4, .tmp 5]) (by kernel_rfl) ?_
  repeat' ((conv => whnf); first | refine Rng.g ?_ | refine Ob.g ?_ | refine Ob.e ?_ | refine Ob.m ?_ | refine Ob.mk (Nat.le_of_ble_eq_true rfl) ?_ | refine JoinVC.on ?_ | refine Nils.mk (fun h => ?_) ?_ | refine Val.t ?_ | refine Val.d ?_ | refine Mm.mk ?_ | (refine Br.mk (fun h => ?_) (fun h => ?_) <;> first | (exfalso; omega; done) | (exfalso; simp at h; done) | skip))
  refine LoopVC.mk (fun n st => ∃ (i : Nat), i ≤ F.length ∧ n = F.length - i ∧ (∀ j, j < i → FmtOK (F.getD j f0)) ∧ st = ⟨0, envA 50 [(1, .x (lSng l)), (6, .x (.one (.ptr 0 0))), (22, .x (lFmt F)), (23, .int .i64 (F.length : Int)), (24, .int .i64 (i : Int))], [some (.box 98 [.own 1, .int .i64 (l.length : Int)]), some (rowPl (F.take i) l)]⟩) _ _ ⟨0, Nat.zero_le _, rfl, fun j hj => absurd hj (Nat.not_lt_zero j), rfl⟩ ?_ ?_
  · refine ⟨[some 0, none], rfl, rfl, ?_, ?_⟩ <;> repeat' (first | exact trivial | exact rfl | exact Iff.rfl | apply And.intro)
    all_goals first | exact congrArg Int.ofNat lF | exact congrArg Int.ofNat ll
  rintro n _ ⟨i, hi, hn, hj, rfl⟩
  have lr : (plsA (F.take i) l).length = i := by rw [plsA_len, List.length_take]; omega
  by_cases hi' : i < F.length
  · obtain ⟨g0', g1, g2, g3, g4, g5, g6, g7⟩ := fmt_at F i hi'
    have et : (i : Int).toNat = i := Int.toNat_natCast i
    have u1 := plsA_snoc (F.take i) l (F.getD i f0)
    rw [← take_snoc F i f0 hi'] at u1
    have hf := hI i
    obtain ⟨f, hfe⟩ : ∃ f, F.getD i f0 = f := ⟨_, rfl⟩
    rw [hfe] at g0' g1 g2 g3 g4 g5 g6 g7 u1 hf
    repeat' ((conv => whnf); first | rw [et] | rw [g0'] | rw [g1] | rw [g2] | rw [g3] | rw [g4] | rw [g5] | rw [g6] | rw [g7] | refine Rng.g ?_ | refine Ob.g ?_ | refine Ob.e ?_ | refine Ob.m ?_ | refine Ob.mk (Nat.le_of_ble_eq_true rfl) ?_ | refine JoinVC.on ?_ | refine Nils.mk (fun h => ?_) ?_ | refine Val.t ?_ | refine Val.d ?_ | refine Mm.mk ?_ | (refine Br.mk (fun h => ?_) (fun h => ?_) <;> first | (exfalso; omega; done) | (exfalso; simp at h; done) | skip))
    have k0 := s67 f hf
    by_cases h0 : FmtOK f
    rotate_left
    · rw [fmtE_no h0] at k0
      have he : fmsE F l = 2 := fmsE_bad h8 hi' (by rw [hfe]; exact h0)
      repeat' ((conv => whnf); first | refine Rng.g ?_ | refine Ob.g ?_ | refine Ob.e ?_ | refine Ob.m ?_ | refine Ob.mk (Nat.le_of_ble_eq_true rfl) ?_ | refine JoinVC.on ?_ | refine Nils.mk (fun h => ?_) ?_ | refine Val.t ?_ | refine Val.d ?_ | refine Mm.mk ?_ | refine CallVC.pure rfl (k0) ?_ | refine CallVC0.pure rfl (k0) ?_ | (refine Br.mk (fun h => ?_) (fun h => ?_) <;> first | (exfalso; omega; done) | (exfalso; simp at h; done) | skip))
      repeat refine Mm.mk ?_
      conv => whnf
      refine EndVC.mk _ rfl _ _ (.inl ⟨by rw [he]; decide, rfl, rfl⟩) ?_
      refine ⟨[], rfl, rfl, ?_, ?_⟩ <;> repeat' (first | exact trivial | exact rfl | exact Iff.rfl | apply And.intro)
      exact he.symm
    have hfo := h0
    rw [fmtE_ok h0] at k0
    unfold plA at u1
    repeat' ((conv => whnf); first | refine Rng.g ?_ | refine Ob.g ?_ | refine Ob.e ?_ | refine Ob.m ?_ | refine Ob.mk (Nat.le_of_ble_eq_true rfl) ?_ | refine JoinVC.on ?_ | refine Nils.mk (fun h => ?_) ?_ | refine Val.t ?_ | refine Val.d ?_ | refine Mm.mk ?_ | refine CallVC.pure rfl (k0) ?_ | refine CallVC0.pure rfl (k0) ?_ | (refine Br.mk (fun h => ?_) (fun h => ?_) <;> first | (exfalso; omega; done) | (exfalso; simp at h; done) | skip))
    repeat refine Mm.mk ?_
    refine Ob.mk (by simp only [eb246, lr, List.length_cons, List.length_nil]; omega) ?_
    repeat' ((conv => whnf); first | rw [← u1] | refine Rng.g ?_ | refine Ob.g ?_ | refine Ob.e ?_ | refine Ob.m ?_ | refine Ob.mk (Nat.le_of_ble_eq_true rfl) ?_ | refine JoinVC.on ?_ | refine Nils.mk (fun h => ?_) ?_ | refine Val.t ?_ | refine Val.d ?_ | refine Mm.mk ?_ | (refine Br.mk (fun h => ?_) (fun h => ?_) <;> first | (exfalso; omega; done) | (exfalso; simp at h; done) | skip))
    refine Back.mk (F.length - (i + 1)) _ (by omega) ⟨i + 1, by omega, rfl, fun j hj' => ?_, rfl⟩ ?_
    · rcases Nat.lt_succ_iff_lt_or_eq.1 hj' with h' | rfl
      · exact hj j h'
      · rw [hfe]; exact hfo
    · refine ⟨[some 0, some 5], rfl, rfl, ?_, ?_⟩ <;> repeat' (first | exact trivial | exact rfl | exact Iff.rfl | apply And.intro)
  · have ei : i = F.length := by omega
    subst ei
    rw [show F.take F.length = F from List.take_length]
    repeat' ((conv => whnf); first | refine Rng.g ?_ | refine Ob.g ?_ | refine Ob.e ?_ | refine Ob.m ?_ | refine Ob.mk (Nat.le_of_ble_eq_true rfl) ?_ | refine JoinVC.on ?_ | refine Nils.mk (fun h => ?_) ?_ | refine Val.t ?_ | refine Val.d ?_ | refine Mm.mk ?_ | (refine Br.mk (fun h => ?_) (fun h => ?_) <;> first | (exfalso; omega; done) | (exfalso; simp at h; done) | skip))
    have k1 := s68 l
    have he := fmsE_trk (l := l) h8 hj
    by_cases h0 : SngsOK l
    · rw [trkE_ok h0] at k1
      repeat' ((conv => whnf); first | refine Rng.g ?_ | refine Ob.g ?_ | refine Ob.e ?_ | refine Ob.m ?_ | refine Ob.mk (Nat.le_of_ble_eq_true rfl) ?_ | refine JoinVC.on ?_ | refine Nils.mk (fun h => ?_) ?_ | refine Val.t ?_ | refine Val.d ?_ | refine Mm.mk ?_ | refine CallVC.pure rfl (k1) ?_ | refine CallVC0.pure rfl (k1) ?_ | (refine Br.mk (fun h => ?_) (fun h => ?_) <;> first | (exfalso; omega; done) | (exfalso; simp at h; done) | skip))
      repeat refine Mm.mk ?_
      conv => whnf
      refine EndVC.mk _ rfl _ _ (.inr (.inr ⟨⟨by omega, hj, h0⟩, rfl, rfl⟩)) ?_
      refine ⟨[some 0], rfl, rfl, ?_, ?_⟩ <;> repeat' (first | exact trivial | exact rfl | exact Iff.rfl | apply And.intro)
    · obtain ⟨e, hee⟩ : ∃ e, trkE l = e := ⟨_, rfl⟩
      have hn : e ≠ 0 := fun h => h0 (trkE_0 (hee.trans h))
      rw [hee] at k1 he
      repeat' ((conv => whnf); first | refine Rng.g ?_ | refine Ob.g ?_ | refine Ob.e ?_ | refine Ob.m ?_ | refine Ob.mk (Nat.le_of_ble_eq_true rfl) ?_ | refine JoinVC.on ?_ | refine Nils.mk (fun h => ?_) ?_ | refine Val.t ?_ | refine Val.d ?_ | refine Mm.mk ?_ | refine CallVC.pure rfl (k1) ?_ | refine CallVC0.pure rfl (k1) ?_ | (refine Br.mk (fun h => ?_) (fun h => ?_) <;> first | (exfalso; omega; done) | (exfalso; simp at h; done) | skip))
      repeat refine Mm.mk ?_
      conv => whnf
      refine EndVC.mk _ rfl _ _ (.inr (.inl ⟨by rw [he]; exact hn, rfl, rfl⟩)) ?_
      refine ⟨[some 0], rfl, rfl, ?_, ?_⟩ <;> repeat' (first | exact trivial | exact rfl | exact Iff.rfl | apply And.intro)
      exact he.symm
/-! ### Parts of code -/
def cF : Code → Code
  | .seq a _ => a
  | c => c
def cS : Code → Code
  | .seq _ b => b
  | c => c
def cB : Code → Code
  | .block _ c => c
  | c => c
def cAs : Code → Code
  | .rangeFunc _ _ x _ => x
  | c => c
def cBo : Code → Code
  | .rangeFunc _ _ _ b => b
  | c => c
def cL : Code → Code
  | .loop c => c
  | c => c
end Go.Sx

namespace Go.Sx
open Go Go.Proofs
set_option maxRecDepth 10000
set_option maxHeartbeats 4000000
/-! ### Best prices, forwards -/
def BestU (P : Int → Prop) (v : Int) : Prop := (v = -1 ∧ ∀ c, ¬ P c) ∨ (0 ≤ v ∧ P v ∧ ∀ c, P c → v ≤ c)
theorem BestU.congr {P Q : Int → Prop} {v : Int} (h : BestU P v) (e : ∀ c, P c ↔ Q c) : BestU Q v := by
  rcases h with ⟨h1, h2⟩ | ⟨h1, h2, h3⟩
  · exact .inl ⟨h1, fun c hc => h2 c ((e c).2 hc)⟩
  · exact .inr ⟨h1, (e v).1 h2, fun c hc => h3 c ((e c).2 hc)⟩
theorem BestU.add {P : Int → Prop} {v x : Int} (h : BestU P v) (hx : 0 ≤ x) {Q : Int → Prop} (hQx : Q x) (hQ : ∀ c, Q c → x ≤ c) : BestU (fun c => P c ∨ Q c) (if v < 0 ∨ x < v then x else v) := by
  rcases h with ⟨h1, h2⟩ | ⟨h1, h2, h3⟩
  · rw [if_pos (by omega)]
    exact .inr ⟨hx, .inr hQx, fun c hc => hc.elim (fun h => absurd h (h2 c)) (hQ c)⟩
  · split
    · exact .inr ⟨hx, .inr hQx, fun c hc => hc.elim (fun h => (by have := h3 c h; omega)) (hQ c)⟩
    · exact .inr ⟨h1, .inl h2, fun c hc => hc.elim (h3 c) (fun h => (by have := hQ c h; omega))⟩
/-- What the tracks before one may cost, if the last side begins before i. -/
def Cand (F : List Fmt) (l : List Sng) (i n : Nat) (c : Int) : Prop := (n = 0 ∧ c = 0) ∨ ∃ m k c', m < i ∧ Reach F l m c' ∧ faceP F l k m n ∧ c = c' + (F.getD k f0).cost
theorem cand_reach {F : List Fmt} {l : List Sng} {i n : Nat} (h : n ≤ i) (c : Int) : Cand F l i n c ↔ Reach F l n c := by
  constructor
  · rintro (⟨rfl, rfl⟩ | ⟨m, k, c', _, h2, h3, rfl⟩)
    · exact .nil
    · exact h2.step h3
  · intro hr
    cases hr with
    | nil => exact .inl ⟨rfl, rfl⟩
    | @step m _ k c' h1 h2 => exact .inr ⟨m, k, c', by have := h2.lt; omega, h1, h2, rfl⟩
/-- .. or with one of these faces from i on. -/
def CandL (F : List Fmt) (l : List Sng) (i : Nat) (L : List (Nat × Nat)) (n : Nat) (c : Int) : Prop := Cand F l i n c ∨ ∃ p, p ∈ L ∧ p.2 = n ∧ ∃ c', Reach F l i c' ∧ c = c' + (F.getD p.1 f0).cost
theorem candL_all {F : List Fmt} {l : List Sng} {i n : Nat} (c : Int) : CandL F l i (facesL F l i) n c ↔ Cand F l (i + 1) n c := by
  constructor
  · rintro ((h | ⟨m, k, c', h1, h2⟩) | ⟨p, h1, h2, c', h3, h4⟩)
    · exact .inl h
    · exact .inr ⟨m, k, c', by omega, h2⟩
    · exact .inr ⟨i, p.1, c', Nat.lt_succ_self i, h3, h2 ▸ mem_faces.1 h1, h4⟩
  · rintro (h | ⟨m, k, c', h1, h2, h3, h4⟩)
    · exact .inl (.inl h)
    · by_cases e : m = i
      · subst e
        exact .inr ⟨(k, n), mem_faces.2 h3, rfl, c', h2, h4⟩
      · exact .inl (.inr ⟨m, k, c', by omega, h2, h3, h4⟩)
theorem cand_skip {F : List Fmt} {l : List Sng} {i n : Nat} (h : ∀ c, ¬ Reach F l i c) (c : Int) : Cand F l i n c ↔ Cand F l (i + 1) n c := by
  rw [← candL_all]
  constructor
  · exact .inl
  · rintro (h1 | ⟨p, _, _, c', h3, _⟩)
    · exact h1
    · exact absurd h3 (h c')
/-- The prices, when the last side begins before i. -/
structure PrcOK (F : List Fmt) (l : List Sng) (P : Nat → Int → Prop) (p : List Int) : Prop where
  len : p.length = l.length + 1
  each : ∀ n, n ≤ l.length → BestU (P n) (p.getD n 0)
def stepP (F : List Fmt) (i : Nat) (p : List Int) (q : Nat × Nat) : List Int := if p.getD q.2 0 < 0 ∨ p.getD i 0 + (F.getD q.1 f0).cost < p.getD q.2 0 then p.set q.2 (p.getD i 0 + (F.getD q.1 f0).cost) else p
theorem stepP_ok {F : List Fmt} {l : List Sng} (hA : AlbOK F l) {i : Nat} (hi : i < l.length) {L : List (Nat × Nat)} {p : List Int} (h : PrcOK F l (CandL F l i L) p) (hL : ∀ q, q ∈ L → faceP F l q.1 i q.2) (h0 : 0 ≤ p.getD i 0) {q : Nat × Nat} (hq : faceP F l q.1 i q.2) : PrcOK F l (CandL F l i (L ++ [q])) (stepP F i p q) ∧ (stepP F i p q).getD i 0 = p.getD i 0 := by
  have hlt := hq.lt
  have hle := hq.le
  have hc := (hA.fmts q.1 hq.fmt).cost
  have hlen := h.len
  have hbi : BestU (Reach F l i) (p.getD i 0) := (h.each i (by omega)).congr fun c => by
    constructor
    · rintro (h1 | ⟨q', h1, h2, _⟩)
      · exact (cand_reach (Nat.le_refl i) c).1 h1
      · have := (hL q' h1).lt
        omega
    · exact fun h1 => .inl ((cand_reach (Nat.le_refl i) c).2 h1)
  obtain ⟨r1, r2⟩ : Reach F l i (p.getD i 0) ∧ ∀ c, Reach F l i c → p.getD i 0 ≤ c := by
    rcases hbi with ⟨h1, _⟩ | ⟨_, h1, h2⟩
    · omega
    · exact ⟨h1, h2⟩
  have key : ∀ n, n ≤ l.length → BestU (CandL F l i (L ++ [q]) n) (if n = q.2 then (if p.getD n 0 < 0 ∨ p.getD i 0 + (F.getD q.1 f0).cost < p.getD n 0 then p.getD i 0 + (F.getD q.1 f0).cost else p.getD n 0) else p.getD n 0) := fun n hn => by
    split
    · rename_i e
      subst e
      refine ((h.each q.2 hn).add (x := p.getD i 0 + (F.getD q.1 f0).cost) (Q := fun c => ∃ c', Reach F l i c' ∧ c = c' + (F.getD q.1 f0).cost) (by omega) ⟨_, r1, rfl⟩ fun c ⟨c', h1, h2⟩ => (by have := r2 c' h1; omega)).congr fun c => ?_
      constructor
      · rintro ((h1 | ⟨q', h1, h2⟩) | ⟨c', h1, h2⟩)
        · exact .inl h1
        · exact .inr ⟨q', List.mem_append_left _ h1, h2⟩
        · exact .inr ⟨q, List.mem_append_right _ List.mem_cons_self, rfl, c', h1, h2⟩
      · rintro (h1 | ⟨q', h1, h2, h3⟩)
        · exact .inl (.inl h1)
        · rcases List.mem_append.1 h1 with h4 | h4
          · exact .inl (.inr ⟨q', h4, h2, h3⟩)
          · rw [List.mem_singleton.1 h4] at h3
            exact .inr h3
    · rename_i e
      refine (h.each n hn).congr fun c => ?_
      constructor
      · rintro (h1 | ⟨q', h1, h2⟩)
        · exact .inl h1
        · exact .inr ⟨q', List.mem_append_left _ h1, h2⟩
      · rintro (h1 | ⟨q', h1, h2, h3⟩)
        · exact .inl h1
        · rcases List.mem_append.1 h1 with h4 | h4
          · exact .inr ⟨q', h4, h2, h3⟩
          · rw [List.mem_singleton.1 h4] at h2
            exact absurd h2.symm e
  have g : ∀ n, (stepP F i p q).getD n 0 = if n = q.2 then (if p.getD n 0 < 0 ∨ p.getD i 0 + (F.getD q.1 f0).cost < p.getD n 0 then p.getD i 0 + (F.getD q.1 f0).cost else p.getD n 0) else p.getD n 0 := fun n => by
    unfold stepP
    by_cases e : n = q.2
    · subst e
      rw [if_pos rfl]
      split
      · rw [gset _ _ _ _ _ (by omega), if_pos rfl]
      · rfl
    · rw [if_neg e]
      split
      · rw [gset _ _ _ _ _ (by omega), if_neg e]
      · rfl
  refine ⟨⟨?_, fun n hn => by rw [g]; exact key n hn⟩, ?_⟩
  · unfold stepP
    split
    · rw [List.length_set]; exact hlen
    · exact hlen
  · rw [g, if_neg (by omega)]
theorem reach_bd {F : List Fmt} {l : List Sng} (hA : AlbOK F l) {n : Nat} {c : Int} (h : Reach F l n c) : 0 ≤ c ∧ c ≤ 1048576 * (n : Int) := by
  induction h with
  | nil => omega
  | step h hf ih =>
    have h1 := (hA.fmts _ hf.fmt).cost
    have h2 := hf.lt
    omega
theorem candL_bd {F : List Fmt} {l : List Sng} (hA : AlbOK F l) {i n : Nat} {L : List (Nat × Nat)} (hL : ∀ q, q ∈ L → faceP F l q.1 i q.2) {c : Int} (h : CandL F l i L n c) : 0 ≤ c ∧ c ≤ 1048576 * (n : Int) := by
  rcases h with (⟨rfl, rfl⟩ | ⟨m, k, c', h1, h2, h3, rfl⟩) | ⟨q, h1, rfl, c', h2, rfl⟩
  · omega
  · exact reach_bd hA (h2.step h3)
  · exact reach_bd hA (h2.step (hL q h1))
theorem PrcOK.bd {F : List Fmt} {l : List Sng} (hA : AlbOK F l) {i : Nat} {L : List (Nat × Nat)} (hL : ∀ q, q ∈ L → faceP F l q.1 i q.2) {p : List Int} (h : PrcOK F l (CandL F l i L) p) {n : Nat} (hn : n ≤ l.length) : -1 ≤ p.getD n 0 ∧ p.getD n 0 ≤ 1048576 * (n : Int) := by
  rcases h.each n hn with ⟨h1, _⟩ | ⟨_, h1, _⟩
  · omega
  · have := candL_bd hA hL h1
    omega
theorem prc_nil {F : List Fmt} {l : List Sng} {i : Nat} {p : List Int} (h : PrcOK F l (Cand F l i) p) : PrcOK F l (CandL F l i []) p := ⟨h.len, fun n hn => (h.each n hn).congr fun c => ⟨.inl, fun h1 => h1.elim id fun ⟨q, h2, _⟩ => absurd h2 (by simp)⟩⟩
theorem prc_next {F : List Fmt} {l : List Sng} {i : Nat} {p : List Int} (h : PrcOK F l (CandL F l i (facesL F l i)) p) : PrcOK F l (Cand F l (i + 1)) p := ⟨h.len, fun n hn => (h.each n hn).congr fun c => candL_all c⟩
theorem prc_skip {F : List Fmt} {l : List Sng} {i : Nat} {p : List Int} (h : PrcOK F l (Cand F l i) p) (hi : i ≤ l.length) (h0 : p.getD i 0 < 0) : PrcOK F l (Cand F l (i + 1)) p := ⟨h.len, fun n hn => (h.each n hn).congr fun c => cand_skip (fun c hc => by
  rcases h.each i hi with ⟨_, h1⟩ | ⟨h1, _⟩
  · exact h1 c ((cand_reach (Nat.le_refl i) c).2 hc)
  · omega) c⟩
theorem prc_end {F : List Fmt} {l : List Sng} {p : List Int} (h : PrcOK F l (Cand F l l.length) p) : PrcOK F l (Reach F l) p := ⟨h.len, fun n hn => (h.each n hn).congr fun c => cand_reach hn c⟩
theorem prc_start {F : List Fmt} {l : List Sng} : PrcOK F l (Cand F l 0) ((List.replicate (l.length + 1) (-1)).set 0 0) := ⟨by simp, fun n hn => by
  rw [gset _ _ _ _ _ (by simp)]
  split
  · rename_i e
    subst e
    exact .inr ⟨Int.le_refl 0, .inl ⟨rfl, rfl⟩, fun c hc => (by
      rcases hc with ⟨_, rfl⟩ | ⟨m, k, c', h1, _⟩
      · exact Int.le_refl 0
      · omega)⟩
  · rename_i e
    have : (List.replicate (l.length + 1) (-1 : Int)).getD n 0 = -1 := by simp [List.getD_eq_getElem?_getD, show n < l.length + 1 by omega]
    rw [this]
    exact .inl ⟨rfl, fun c hc => (by
      rcases hc with ⟨h1, _⟩ | ⟨m, k, c', h1, _⟩
      · exact e h1
      · omega)⟩⟩
end Go.Sx

namespace Go.Sx
open Go Go.Proofs
set_option maxRecDepth 10000
set_option maxHeartbeats 8000000
/-! ### slices.Repeat -/
theorem shr_val {n c : Int} {m : Nat} (h : (2 : Int) ^ m = c) : n / 2 ^ m = n / c := by rw [h]
@[reducible] def U64 (n : Int) : XV := .one (.int .u64 n)
theorem mask32 {n : Int} (h : 0 ≤ n ∧ n ≤ 18446744073709551615) : bits .and .u64 n 4294967295 = n % 4294967296 := by
  obtain ⟨k, rfl⟩ := Int.eq_ofNat_of_zero_le h.1
  have := bits_and_u64_nat k 4294967295 (by omega) (by omega)
  rw [show ((4294967295 : Nat) : Int) = 4294967295 from rfl] at this
  rw [this, show (4294967295 : Nat) = 2 ^ 32 - 1 from rfl, Nat.and_two_pow_sub_one_eq_mod]
  omega
theorem s101 (n : Int) (h : 0 ≤ n ∧ n ≤ 25) : PSpec Try.prog 101 [U64 1, U64 n] (.tup [U64 0, U64 n]) := by
  refine spec_of pMix (O := []) Try.func101 (c := bodyOf Try.f101) rfl (by kernel_rfl) (by kernel_rfl) Try.ntmps101 (res := [.tmp 4, .tmp 5]) (by kernel_rfl) ?_
  repeat' (conv => whnf
           first
           | refine Rng.ok (by simp only [inR]; omega) ?_
           | refine Ob.mk (by first | omega | (simp; done) | decide | (simp; omega)) ?_
           | refine Val.mk _ (shr_val (by simp; rfl)) ?_
           | refine Val.mk _ (mask32 (by omega)) ?_)
  repeat refine Mm.mk ?_
  refine EndVC.mk _ rfl _ _ ⟨rfl, rfl⟩ ?_
  refine ⟨[], rfl, rfl, ?_, ?_⟩ <;> repeat' (first | exact trivial | exact rfl | exact Iff.rfl | apply And.intro)
  all_goals omega
theorem s81 (n : Int) (h : 0 ≤ n ∧ n ≤ 25) : PSpec Try.prog 81 [U64 1, U64 n] (.tup [U64 0, U64 n]) := by
  refine spec_of pMix (O := []) Try.func81 (c := bodyOf Try.f81) rfl (by kernel_rfl) (by kernel_rfl) Try.ntmps81 (res := [.tmp 4, .tmp 5]) (by kernel_rfl) ?_
  repeat' ((conv => whnf); first | refine Rng.g ?_ | refine Ob.g ?_ | refine Ob.e ?_ | refine Ob.m ?_ | refine Ob.mk (Nat.le_of_ble_eq_true rfl) ?_ | refine JoinVC.on ?_ | refine Nils.mk (fun h => ?_) ?_ | refine Val.t ?_ | refine Val.d ?_ | refine Mm.mk ?_ | refine CallVC.pure rfl (s101 n h) ?_ | refine CallVC0.pure rfl (s101 n h) ?_ | (refine Br.mk (fun h => ?_) (fun h => ?_) <;> first | (exfalso; omega; done) | (exfalso; simp at h; done) | skip))
  repeat refine Mm.mk ?_
  refine EndVC.mk _ rfl _ _ ⟨rfl, rfl⟩ ?_
  refine ⟨[], rfl, rfl, ?_, ?_⟩ <;> repeat' (first | exact trivial | exact rfl | exact Iff.rfl | apply And.intro)
theorem rep_copy (n k : Nat) : (i64s (List.replicate k (-1) ++ List.replicate (n - k) 0)).take k ++ (((i64s (List.replicate k (-1) ++ List.replicate (n - k) 0)).take k).take (min (n - k) k) ++ (i64s (List.replicate k (-1) ++ List.replicate (n - k) 0)).drop (k + min (n - k) k)) = i64s (List.replicate (k + min (n - k) k) (-1) ++ List.replicate (n - (k + min (n - k) k)) 0) := by
  obtain ⟨m, hm⟩ : ∃ m, min (n - k) k = m := ⟨_, rfl⟩
  have h1 : m ≤ n - k := hm ▸ Nat.min_le_left _ _
  have h2 : m ≤ k := hm ▸ Nat.min_le_right _ _
  rw [hm]
  unfold i64s
  rw [← List.map_take, ← List.map_take, ← List.map_drop, ← List.map_append, ← List.map_append]
  congr 1
  rw [List.take_left' (by simp), List.take_replicate, Nat.min_eq_left h2, List.drop_append, List.drop_replicate, List.drop_replicate, ← List.append_assoc, List.replicate_append_replicate]
  simp only [List.length_replicate]
  rw [show k - (k + m) = 0 by omega, show n - k - (k + m - k) = n - (k + m) by omega]
  rfl
@[reducible] def rowPr (p : List Int) : Blk := .row 2 false [.int .i64] (i64s p)
theorem rep_min (n : Nat) (h : 1 ≤ n) : min (List.replicate (n : Int).toNat (zeroRow [.int .i64])).length ([[Cell.int (-1)]] : Arr).length = 1 := by
  rw [List.length_replicate, Int.toNat_natCast]
  exact Nat.min_eq_right h
theorem rep_init (n : Nat) (h : 1 ≤ n) : List.take 0 (List.replicate (n : Int).toNat (zeroRow [.int .i64])) ++ (List.take (min (List.replicate (n : Int).toNat (zeroRow [.int .i64])).length ([[Cell.int (-1)]] : Arr).length) [[Cell.int (-1)]] ++ List.drop (0 + min (List.replicate (n : Int).toNat (zeroRow [.int .i64])).length ([[Cell.int (-1)]] : Arr).length) (List.replicate (n : Int).toNat (zeroRow [.int .i64]))) = i64s (List.replicate 1 (-1) ++ List.replicate (n - 1) 0) := by
  rw [rep_min n h, Int.toNat_natCast, List.drop_replicate]
  simp [i64s, zeroRow, zeroCell]
theorem eb2 : Try.t2.bytes = 8 := by kernel_rfl
theorem s66 (n : Nat) (h1 : 1 ≤ n ∧ n ≤ 25) : HSpec Try.prog 66 [.one (.lst true [.int .i64] [[.int (-1)]]), I (n : Int)] [] (fun r m' => r = .x (.one (.own 0)) ∧ m' = [some (rowPr (List.replicate n (-1)))]) := by
  have hs := s81 (n : Int) (by omega)
  have l1 : (([[Cell.int (-1)]] : Arr).length : Int) = 1 := rfl
  refine spec_of pMix (O := [(9, ([], [⟨0, [], []⟩, ⟨1, [], []⟩, ⟨2, [], []⟩, ⟨3, [], []⟩, ⟨4, [], []⟩, ⟨5, [], []⟩, ⟨6, [], []⟩, ⟨7, [0], []⟩, ⟨8, [], []⟩, ⟨9, [], []⟩]))]) Try.func66 (c := bodyOf Try.f66) rfl (by kernel_rfl) (by kernel_rfl) Try.ntmps66 (res := [.tmp 4]) (by kernel_rfl) ?_
  repeat' ((conv => whnf); first | rw [l1] | refine Rng.g ?_ | refine Ob.g ?_ | refine Ob.e ?_ | refine Ob.m ?_ | refine Ob.mk (Nat.le_of_ble_eq_true rfl) ?_ | refine JoinVC.on ?_ | refine Nils.mk (fun h => ?_) ?_ | refine Val.t ?_ | refine Val.d ?_ | refine Mm.mk ?_ | refine CallVC.pure rfl (hs) ?_ | refine CallVC0.pure rfl (hs) ?_ | (refine Br.mk (fun h => ?_) (fun h => ?_) <;> first | (exfalso; omega; done) | (exfalso; simp at h; done) | skip))
  repeat refine Mm.mk ?_
  refine Ob.mk (by rw [eb2]; omega) ?_
  repeat' ((conv => whnf); first | rw [l1] | refine Rng.g ?_ | refine Ob.g ?_ | refine Ob.e ?_ | refine Ob.m ?_ | refine Ob.mk (Nat.le_of_ble_eq_true rfl) ?_ | refine JoinVC.on ?_ | refine Nils.mk (fun h => ?_) ?_ | refine Val.t ?_ | refine Val.d ?_ | refine Mm.mk ?_ | refine CallVC.pure rfl (hs) ?_ | refine CallVC0.pure rfl (hs) ?_ | (refine Br.mk (fun h => ?_) (fun h => ?_) <;> first | (exfalso; omega; done) | (exfalso; simp at h; done) | skip))
  have ln : ∀ k, (i64s (List.replicate k (-1) ++ List.replicate (n - k) 0)).length = k + (n - k) := fun k => by rw [i64s_len, List.length_append, List.length_replicate, List.length_replicate]
  refine LoopVC.mk (fun m st => ∃ (k : Nat), (1 ≤ k ∧ k ≤ n) ∧ m = n - k ∧ st = ⟨0, envA 48 [(7, .x (.one (.own 0))), (8, .int .i64 (k : Int))], [some (rowPr (List.replicate k (-1) ++ List.replicate (n - k) 0))]⟩) _ _ ⟨1, by omega, rfl, rfl⟩ ?_ ?_
  · refine ⟨[some 0], rfl, rfl, ?_, ?_⟩ <;> repeat' (first | exact trivial | exact rfl | exact Iff.rfl | apply And.intro)
    · rw [rep_min n h1.1]
    · exact rep_init n h1.1
  rintro m _ ⟨k, hk, hm, rfl⟩
  have lk := ln k
  by_cases hk' : k < n
  · have lt : ((i64s (List.replicate k (-1) ++ List.replicate (n - k) 0)).take (k : Int).toNat).length = k := by rw [List.length_take, lk]; omega
    have e1 : ((i64s (List.replicate k (-1) ++ List.replicate (n - k) 0)).length : Int).toNat - (k : Int).toNat = n - k := by rw [lk]; omega
    have e2 : (k : Int).toNat = k := Int.toNat_natCast k
    have e3 := rep_copy n k
    obtain ⟨d, hd⟩ : ∃ d, min (n - k) k = d := ⟨_, rfl⟩
    have hd1 : 1 ≤ d := by rw [← hd]; exact Nat.le_min.2 ⟨by omega, hk.1⟩
    have hd2 : d ≤ n - k := by rw [← hd]; exact Nat.min_le_left _ _
    rw [hd] at e3
    obtain ⟨A, hA⟩ : ∃ A, i64s (List.replicate k (-1) ++ List.replicate (n - k) 0) = A := ⟨_, rfl⟩
    rw [hA] at lt e1 e3 lk
    have hM : min (((none : Option Int).getD (A.length : Int)).toNat - (k : Int).toNat) (List.take ((some (k : Int)).getD (A.length : Int)).toNat (List.drop 0 A)).length = d := by
      show min ((A.length : Int).toNat - (k : Int).toNat) (List.take (k : Int).toNat A).length = d
      rw [e1, lt]
      exact hd
    simp only [rowPr, hA]
    repeat' ((conv => whnf); first | rw [hM] | refine Rng.g ?_ | refine Ob.g ?_ | refine Ob.e ?_ | refine Ob.m ?_ | refine Ob.mk (Nat.le_of_ble_eq_true rfl) ?_ | refine JoinVC.on ?_ | refine Nils.mk (fun h => ?_) ?_ | refine Val.t ?_ | refine Val.d ?_ | refine Mm.mk ?_ | (refine Br.mk (fun h => ?_) (fun h => ?_) <;> first | (exfalso; omega; done) | (exfalso; simp at h; done) | skip))
    refine Back.mk (n - (k + d)) _ (by omega) ⟨k + d, by omega, rfl, rfl⟩ ?_
    refine ⟨[some 0], rfl, rfl, ?_, ?_⟩ <;> repeat' (first | exact trivial | exact rfl | exact Iff.rfl | apply And.intro)
    · show List.take (k : Int).toNat A ++ (List.take d (List.take (k : Int).toNat (List.drop 0 A)) ++ List.drop ((k : Int).toNat + d) A) = _
      rw [e2, List.drop_zero]
      exact e3
  · have ek : k = n := by omega
    subst ek
    have e0 : List.replicate k (-1 : Int) ++ List.replicate (k - k) 0 = List.replicate k (-1) := by rw [Nat.sub_self]; simp
    rw [e0] at lk
    rw [e0]
    repeat' ((conv => whnf); first | refine Rng.g ?_ | refine Ob.g ?_ | refine Ob.e ?_ | refine Ob.m ?_ | refine Ob.mk (Nat.le_of_ble_eq_true rfl) ?_ | refine JoinVC.on ?_ | refine Nils.mk (fun h => ?_) ?_ | refine Val.t ?_ | refine Val.d ?_ | refine Mm.mk ?_ | (refine Br.mk (fun h => ?_) (fun h => ?_) <;> first | (exfalso; omega; done) | (exfalso; simp at h; done) | skip))
    repeat refine Mm.mk ?_
    refine EndVC.mk _ rfl _ _ ⟨rfl, rfl⟩ ?_
    refine ⟨[some 0], rfl, rfl, ?_, ?_⟩ <;> repeat' (first | exact trivial | exact rfl | exact Iff.rfl | apply And.intro)
end Go.Sx

namespace Go.Sx
open Go Go.Proofs
set_option maxRecDepth 10000
set_option maxHeartbeats 8000000
theorem e76 : EntersF Try.prog 76 := enters_of Try.func76 (c := bodyOf Try.f76) (by kernel_rfl) rfl
theorem upd0 (n : Nat) : updRow (i64s (List.replicate (n + 1) (-1))) (Int.toNat 0) 0 [Cell.int 0] = i64s ((List.replicate (n + 1) (-1)).set 0 0) := i64s_upd' _ 0 0 (by simp)
noncomputable def rf33 : Code := cB (cS (cS (cS (cB (cF (cS (cS (cL (cB (cS (cF (cS (cS (cS (cS (cS (bodyOf Try.f33)))))))))))))))))
theorem s53 (F : List Fmt) (l : List Sng) (n : Int) (i : Int) : HSpec Try.prog 53 [.one (.ptr 0 0), I i] [bAlb F l n] (fun r m' => r = .x (.one (.fn 76 [(1, 0), (2, 0)])) ∧ m' = [some (bAlb F l n), some (.box 85 [.ptr 0 0]), some (.box 3 [.int .i64 i])]) := by
  refine spec_of pMix (O := []) Try.func53 (c := bodyOf Try.f53) rfl (by kernel_rfl) (by kernel_rfl) Try.ntmps53 (res := [.tmp 4]) (by kernel_rfl) ?_
  repeat' ((conv => whnf); first | refine Rng.g ?_ | refine Ob.g ?_ | refine Ob.e ?_ | refine Ob.m ?_ | refine Ob.mk (Nat.le_of_ble_eq_true rfl) ?_ | refine JoinVC.on ?_ | refine Nils.mk (fun h => ?_) ?_ | refine Val.t ?_ | refine Val.d ?_ | refine Mm.mk ?_ | (refine Br.mk (fun h => ?_) (fun h => ?_) <;> first | (exfalso; omega; done) | (exfalso; simp at h; done) | skip))
  repeat refine Mm.mk ?_
  conv => whnf
  refine EndVC.mk _ rfl _ _ (⟨rfl, rfl⟩) ?_
  refine ⟨[some 0, some 1, some 2], rfl, rfl, ?_, ?_⟩ <;> repeat' (first | exact trivial | exact rfl | exact Iff.rfl | apply And.intro)
theorem s33 (F : List Fmt) (l : List Sng) (hI : ∀ i, (F.getD i f0).nm.size ≤ 140737488355328) : HSpec Try.prog 33 [lFmt F, lSng l] [] (fun r m' => (fmsE F l ≠ 0 ∧ r = .tup [.one .nils, I (fmsE F l)] ∧ m' = []) ∨ (AlbOK F l ∧ ∃ p, PrcOK F l (Reach F l) p ∧ r = .tup [.one (.own 0), I 0] ∧ m' = [some (rowPr p)])) := by
  have ll := sngA_len l
  refine spec_of pMix (O := []) Try.func33 (c := bodyOf Try.f33) rfl (by kernel_rfl) (by kernel_rfl) Try.ntmps33 (res := [.tmp 4, .tmp 5]) (by kernel_rfl) ?_
  repeat' ((conv => whnf); first | refine Rng.g ?_ | refine Ob.g ?_ | refine Ob.e ?_ | refine Ob.m ?_ | refine Ob.mk (Nat.le_of_ble_eq_true rfl) ?_ | refine JoinVC.on ?_ | refine Nils.mk (fun h => ?_) ?_ | refine Val.t ?_ | refine Val.d ?_ | refine Mm.mk ?_ | (refine Br.mk (fun h => ?_) (fun h => ?_) <;> first | (exfalso; omega; done) | (exfalso; simp at h; done) | skip))
  conv => whnf
  refine CallVC.mk [] _ _ _ rfl rfl rfl (s49 F l hI) (fun r m' h' => ?_)
  rcases h' with ⟨he, rfl, rfl⟩ | ⟨he, rfl, rfl⟩ | ⟨hA, rfl, rfl⟩
  · repeat' ((conv => whnf); first | refine Rng.g ?_ | refine Ob.g ?_ | refine Ob.e ?_ | refine Ob.m ?_ | refine Ob.mk (Nat.le_of_ble_eq_true rfl) ?_ | refine JoinVC.on ?_ | refine Nils.mk (fun h => ?_) ?_ | refine Val.t ?_ | refine Val.d ?_ | refine Mm.mk ?_ | (refine Br.mk (fun h => ?_) (fun h => ?_) <;> first | (exfalso; omega; done) | (exfalso; simp at h; done) | skip))
    repeat refine Mm.mk ?_
    conv => whnf
    refine EndVC.mk _ rfl _ _ (.inl ⟨he, rfl, rfl⟩) ?_
    refine ⟨[], rfl, rfl, ?_, ?_⟩ <;> repeat' (first | exact trivial | exact rfl | exact Iff.rfl | apply And.intro)
  · repeat' ((conv => whnf); first | refine Rng.g ?_ | refine Ob.g ?_ | refine Ob.e ?_ | refine Ob.m ?_ | refine Ob.mk (Nat.le_of_ble_eq_true rfl) ?_ | refine JoinVC.on ?_ | refine Nils.mk (fun h => ?_) ?_ | refine Val.t ?_ | refine Val.d ?_ | refine Mm.mk ?_ | (refine Br.mk (fun h => ?_) (fun h => ?_) <;> first | (exfalso; omega; done) | (exfalso; simp at h; done) | skip))
    repeat refine Mm.mk ?_
    conv => whnf
    refine EndVC.mk _ rfl _ _ (.inl ⟨he, rfl, rfl⟩) ?_
    refine ⟨[], rfl, rfl, ?_, ?_⟩ <;> repeat' (first | exact trivial | exact rfl | exact Iff.rfl | apply And.intro)
  have h24 := hA.sngs.len
  have e1 : ((l.length + 1 : Nat) : Int) = (l.length : Int) + 1 := by omega
  have c66 := s66 (l.length + 1) (by omega)
  rw [e1] at c66
  have lr : (i64s (List.replicate (l.length + 1) (-1))).length = l.length + 1 := by rw [i64s_len, List.length_replicate]
  repeat' ((conv => whnf); first | rw [ll] | refine Rng.g ?_ | refine Ob.g ?_ | refine Ob.e ?_ | refine Ob.m ?_ | refine Ob.mk (Nat.le_of_ble_eq_true rfl) ?_ | refine JoinVC.on ?_ | refine Nils.mk (fun h => ?_) ?_ | refine Val.t ?_ | refine Val.d ?_ | refine Mm.mk ?_ | (refine Br.mk (fun h => ?_) (fun h => ?_) <;> first | (exfalso; omega; done) | (exfalso; simp at h; done) | skip))
  conv => whnf
  refine CallVC.mk [] _ _ _ rfl rfl rfl (c66) (fun r m' h' => ?_)
  obtain ⟨rfl, rfl⟩ := h'
  conv => whnf
  repeat' ((conv => whnf); first | refine Rng.g ?_ | refine Ob.g ?_ | refine Ob.e ?_ | refine Ob.m ?_ | refine Ob.mk (Nat.le_of_ble_eq_true rfl) ?_ | refine JoinVC.on ?_ | refine Nils.mk (fun h => ?_) ?_ | refine Val.t ?_ | refine Val.d ?_ | refine Mm.mk ?_ | (refine Br.mk (fun h => ?_) (fun h => ?_) <;> first | (exfalso; omega; done) | (exfalso; simp at h; done) | skip))
  refine LoopVC.mk (fun m st => ∃ (i : Nat) (p : List Int), i ≤ l.length ∧ m = l.length - i ∧ PrcOK F l (Cand F l i) p ∧ st = ⟨0, envA 83 [(6, .x (.one (.ptr 1 0))), (8, .x (.one (.ptr 3 0))), (30, .int .i64 (l.length : Int)), (31, .int .i64 (i : Int))], [some (bAlb F l (l.length : Int)), some (.box 85 [.ptr 0 0]), some (rowPr p), some (.box 48 [.own 2])]⟩) _ _ ⟨0, _, Nat.zero_le _, rfl, prc_start, rfl⟩ ?_ ?_
  · rw [upd0]
    refine ⟨[some 0, some 1, some 3, some 4], rfl, rfl, ?_, ?_⟩ <;> repeat' (first | exact trivial | exact rfl | exact Iff.rfl | apply And.intro)
    exact congrArg Int.ofNat ll
  rintro m _ ⟨i, p, hi, hm, hP, rfl⟩
  have lp := hP.len
  have lpi := i64s_len p
  by_cases hi' : i < l.length
  rotate_left
  · have ei : i = l.length := by omega
    subst ei
    repeat' ((conv => whnf); first | refine Rng.g ?_ | refine Ob.g ?_ | refine Ob.e ?_ | refine Ob.m ?_ | refine Ob.mk (Nat.le_of_ble_eq_true rfl) ?_ | refine JoinVC.on ?_ | refine Nils.mk (fun h => ?_) ?_ | refine Val.t ?_ | refine Val.d ?_ | refine Mm.mk ?_ | (refine Br.mk (fun h => ?_) (fun h => ?_) <;> first | (exfalso; omega; done) | (exfalso; simp at h; done) | skip))
    repeat refine Mm.mk ?_
    conv => whnf
    refine EndVC.mk _ rfl _ _ (.inr ⟨hA, p, prc_end hP, rfl, rfl⟩) ?_
    refine ⟨[some 2], rfl, rfl, ?_, ?_⟩ <;> repeat' (first | exact trivial | exact rfl | exact Iff.rfl | apply And.intro)
  have gi : rI (i64s p) (i : Int).toNat 0 = p.getD i 0 := by rw [Int.toNat_natCast]; exact i64s_get p i
  by_cases h0 : p.getD i 0 < 0
  · repeat' ((conv => whnf); first | rw [gi] | refine Rng.g ?_ | refine Ob.g ?_ | refine Ob.e ?_ | refine Ob.m ?_ | refine Ob.mk (Nat.le_of_ble_eq_true rfl) ?_ | refine JoinVC.on ?_ | refine Nils.mk (fun h => ?_) ?_ | refine Val.t ?_ | refine Val.d ?_ | refine Mm.mk ?_ | (refine Br.mk (fun h => ?_) (fun h => ?_) <;> first | (exfalso; omega; done) | (exfalso; simp at h; done) | skip))
    refine Back.mk (l.length - (i + 1)) _ (by omega) ⟨i + 1, p, by omega, rfl, prc_skip hP hi h0, rfl⟩ ?_
    refine ⟨[some 0, some 1, some 2, some 3], rfl, rfl, ?_, ?_⟩ <;> repeat' (first | exact trivial | exact rfl | exact Iff.rfl | apply And.intro)
  repeat' ((conv => whnf); first | rw [gi] | refine Rng.g ?_ | refine Ob.g ?_ | refine Ob.e ?_ | refine Ob.m ?_ | refine Ob.mk (Nat.le_of_ble_eq_true rfl) ?_ | refine JoinVC.on ?_ | refine Nils.mk (fun h => ?_) ?_ | refine Val.t ?_ | refine Val.d ?_ | refine Mm.mk ?_ | (refine Br.mk (fun h => ?_) (fun h => ?_) <;> first | (exfalso; omega; done) | (exfalso; simp at h; done) | skip))
  conv => whnf
  refine CallVC.mk [0] _ _ _ rfl rfl rfl (s53 F l (l.length : Int) (i : Int)) (fun r m' h' => ?_)
  obtain ⟨rfl, rfl⟩ := h'
  conv => whnf
  repeat' ((conv => whnf); first | refine Rng.g ?_ | refine Ob.g ?_ | refine Ob.e ?_ | refine Ob.m ?_ | refine Ob.mk (Nat.le_of_ble_eq_true rfl) ?_ | refine JoinVC.on ?_ | refine Nils.mk (fun h => ?_) ?_ | refine Val.t ?_ | refine Val.d ?_ | refine Mm.mk ?_ | (refine Br.mk (fun h => ?_) (fun h => ?_) <;> first | (exfalso; omega; done) | (exfalso; simp at h; done) | skip))
  have lpl := plsA_len F l
  have h8 := hA.few
  change RangeVC _ _ _ _ _
  refine RangeVC.mk e76 (isem_of_awp pMix [] Try.func76 (c := bodyOf Try.f76) rfl (by kernel_rfl) Try.ntmps76 (by kernel_rfl) ?_)
  repeat' ((conv => whnf); first | refine Rng.g ?_ | refine Ob.g ?_ | refine Ob.e ?_ | refine Ob.m ?_ | refine Ob.mk (Nat.le_of_ble_eq_true rfl) ?_ | refine JoinVC.on ?_ | refine Nils.mk (fun h => ?_) ?_ | refine Val.t ?_ | refine Val.d ?_ | refine Mm.mk ?_ | (refine Br.mk (fun h => ?_) (fun h => ?_) <;> first | (exfalso; omega; done) | (exfalso; simp at h; done) | skip))
  refine LoopVC.mk (fun n st => ∃ (k : Nat) (q : List Int), k ≤ F.length ∧ n = F.length - k ∧ PrcOK F l (CandL F l i (fcs F l i k)) q ∧ q.getD i 0 = p.getD i 0 ∧ st = ⟨8, envA 43 [(0, .x (.one (.yld 7))), (1, .x (.one (.ptr 5 0))), (2, .x (.one (.ptr 6 0))), (10, .x (.one (.lst true [.pt KPl] (plsA F l)))), (11, .int .i64 (F.length : Int)), (12, .int .i64 (k : Int))], [some (bAlb F l (l.length : Int)), some (.box 85 [.ptr 0 0]), some (rowPr q), some (.box 48 [.own 2]), some (.box 3 [.int .i64 (i : Int)]), some (.box 85 [.ptr 0 0]), some (.box 3 [.int .i64 (i : Int)]), some (.loop [42] (cAs rf33) (cBo rf33) (envA 83 [(6, .x (.one (.ptr 1 0))), (8, .x (.one (.ptr 3 0))), (9, .x (.one (.ptr 4 0))), (30, .int .i64 (l.length : Int)), (31, .int .i64 (i : Int))]) .ready)]⟩) _ _ ⟨0, p, Nat.zero_le _, rfl, prc_nil hP, rfl, rfl⟩ ?_ ?_
  · refine ⟨[some 0, some 1, some 2, some 3, some 4, some 5, some 6, some 7], rfl, rfl, ?_, ?_⟩ <;> repeat' (first | exact trivial | exact rfl | exact Iff.rfl | apply And.intro)
    exact congrArg Int.ofNat lpl
  rintro n _ ⟨k, q, hk, hn, hQ, hqi, rfl⟩
  by_cases hk' : k < F.length
  rotate_left
  · have ek : k = F.length := by omega
    subst ek
    repeat' ((conv => whnf); first | refine Rng.g ?_ | refine Ob.g ?_ | refine Ob.e ?_ | refine Ob.m ?_ | refine Ob.mk (Nat.le_of_ble_eq_true rfl) ?_ | refine JoinVC.on ?_ | refine Nils.mk (fun h => ?_) ?_ | refine Val.t ?_ | refine Val.d ?_ | refine Mm.mk ?_ | (refine Br.mk (fun h => ?_) (fun h => ?_) <;> first | (exfalso; omega; done) | (exfalso; simp at h; done) | skip))
    refine Back.mk (l.length - (i + 1)) _ (by omega) ⟨i + 1, q, by omega, rfl, prc_next hQ, rfl⟩ ?_
    refine ⟨[some 0, some 1, some 2, some 3], rfl, rfl, ?_, ?_⟩ <;> repeat' (first | exact trivial | exact rfl | exact Iff.rfl | apply And.intro)
  have gk : rA (plsA F l) (k : Int).toNat 0 = plA (F.getD k f0) l := by rw [Int.toNat_natCast]; exact plsA_at F l k hk'
  have hf := hA.fmts k hk'
  repeat' ((conv => whnf); first | rw [gk] | refine Rng.g ?_ | refine Ob.g ?_ | refine Ob.e ?_ | refine Ob.m ?_ | refine Ob.mk (Nat.le_of_ble_eq_true rfl) ?_ | refine JoinVC.on ?_ | refine Nils.mk (fun h => ?_) ?_ | refine Val.t ?_ | refine Val.d ?_ | refine Mm.mk ?_ | (refine Br.mk (fun h => ?_) (fun h => ?_) <;> first | (exfalso; omega; done) | (exfalso; simp at h; done) | skip))
  refine LoopVC.mk (fun n st => ∃ (j : Nat) (q : List Int), i < j ∧ j ≤ l.length + 1 ∧ n = l.length + 1 - j ∧ PrcOK F l (CandL F l i (fcs F l i k ++ fcj F l i k j)) q ∧ q.getD i 0 = p.getD i 0 ∧ st = ⟨8, envA 43 [(0, .x (.one (.yld 7))), (1, .x (.one (.ptr 5 0))), (2, .x (.one (.ptr 6 0))), (4, .int .i64 (k : Int)), (5, .x (plX (F.getD k f0) l)), (6, .int .i64 (j : Int)), (10, .x (.one (.lst true [.pt KPl] (plsA F l)))), (11, .int .i64 (F.length : Int)), (12, .int .i64 (k : Int))], [some (bAlb F l (l.length : Int)), some (.box 85 [.ptr 0 0]), some (rowPr q), some (.box 48 [.own 2]), some (.box 3 [.int .i64 (i : Int)]), some (.box 85 [.ptr 0 0]), some (.box 3 [.int .i64 (i : Int)]), some (.loop [42] (cAs rf33) (cBo rf33) (envA 83 [(6, .x (.one (.ptr 1 0))), (8, .x (.one (.ptr 3 0))), (9, .x (.one (.ptr 4 0))), (30, .int .i64 (l.length : Int)), (31, .int .i64 (i : Int))]) .ready)]⟩) _ _ ⟨i + 1, q, by omega, by omega, rfl, by rw [fcj_lo _ (Nat.le_refl _), List.append_nil]; exact hQ, hqi, rfl⟩ ?_ ?_
  · refine ⟨[some 0, some 1, some 2, some 3, some 4, some 5, some 6, some 7], rfl, rfl, ?_, ?_⟩ <;> repeat' (first | exact trivial | exact rfl | exact Iff.rfl | apply And.intro)
  clear hQ hqi q
  rintro n2 _ ⟨j, q, hij, hj, hn2, hQ, hqi, rfl⟩
  have c54 := s54g i j (by omega)
  by_cases hj' : j ≤ l.length
  rotate_left
  · have ej : j = l.length + 1 := by omega
    subst ej
    repeat' ((conv => whnf); first | refine Rng.g ?_ | refine Ob.g ?_ | refine Ob.e ?_ | refine Ob.m ?_ | refine Ob.mk (Nat.le_of_ble_eq_true rfl) ?_ | refine JoinVC.on ?_ | refine Nils.mk (fun h => ?_) ?_ | refine Val.t ?_ | refine Val.d ?_ | refine Mm.mk ?_ | (refine Br.mk (fun h => ?_) (fun h => ?_) <;> first | (exfalso; omega; done) | (exfalso; simp at h; done) | skip))
    refine Back.mk (F.length - (k + 1)) _ (by omega) ⟨k + 1, q, by omega, rfl, hQ, hqi, rfl⟩ ?_
    refine ⟨[some 0, some 1, some 2, some 3, some 4, some 5, some 6, some 7], rfl, rfl, ?_, ?_⟩ <;> repeat' (first | exact trivial | exact rfl | exact Iff.rfl | apply And.intro)
  have c47 := s47p (F.getD k f0) l (seqL i (j - i)) hf hA.sngs (fun x hx => by rw [seqL_len] at hx; rw [seqL_get _ _ _ hx]; omega) (by rw [seqL_len]; omega)
  repeat' ((conv => whnf); first | refine Rng.g ?_ | refine Ob.g ?_ | refine Ob.e ?_ | refine Ob.m ?_ | refine Ob.mk (Nat.le_of_ble_eq_true rfl) ?_ | refine JoinVC.on ?_ | refine Nils.mk (fun h => ?_) ?_ | refine Val.t ?_ | refine Val.d ?_ | refine Mm.mk ?_ | (refine Br.mk (fun h => ?_) (fun h => ?_) <;> first | (exfalso; omega; done) | (exfalso; simp at h; done) | skip))
  conv => whnf
  refine CallVC.mk [] _ _ _ rfl rfl rfl (c54) (fun r m' h' => ?_)
  obtain ⟨rfl, rfl⟩ := h'
  conv => whnf
  repeat' ((conv => whnf); first | refine Rng.g ?_ | refine Ob.g ?_ | refine Ob.e ?_ | refine Ob.m ?_ | refine Ob.mk (Nat.le_of_ble_eq_true rfl) ?_ | refine JoinVC.on ?_ | refine Nils.mk (fun h => ?_) ?_ | refine Val.t ?_ | refine Val.d ?_ | refine Mm.mk ?_ | (refine Br.mk (fun h => ?_) (fun h => ?_) <;> first | (exfalso; omega; done) | (exfalso; simp at h; done) | skip))
  conv => whnf
  refine CallVC.mk [] _ _ _ rfl rfl rfl (c47) (fun r m' h' => ?_)
  obtain ⟨rfl, rfl⟩ := h'
  conv => whnf
  repeat refine Mm.mk ?_
  try refine JoinVC.on ?_
  refine Br.mk (fun hL => ?_) (fun hL => ?_)
  rotate_left
  · have hnf : ¬ faceP F l k i j := fun h => hL h.lay
    rw [fcj_end hA hij hnf hj] at hQ
    repeat' ((conv => whnf); first | refine Rng.g ?_ | refine Ob.g ?_ | refine Ob.e ?_ | refine Ob.m ?_ | refine Ob.mk (Nat.le_of_ble_eq_true rfl) ?_ | refine JoinVC.on ?_ | refine Nils.mk (fun h => ?_) ?_ | refine Val.t ?_ | refine Val.d ?_ | refine Mm.mk ?_ | (refine Br.mk (fun h => ?_) (fun h => ?_) <;> first | (exfalso; omega; done) | (exfalso; simp at h; done) | skip))
    refine Back.mk (F.length - (k + 1)) _ (by omega) ⟨k + 1, q, by omega, rfl, hQ, hqi, rfl⟩ ?_
    refine ⟨[some 0, some 1, some 2, some 3, some 4, some 5, some 6, some 7], rfl, rfl, ?_, ?_⟩ <;> repeat' (first | exact trivial | exact rfl | exact Iff.rfl | apply And.intro)
  have hface : faceP F l k i j := ⟨hk', hij, hj', hL⟩
  have hLm : ∀ x, x ∈ fcs F l i k ++ fcj F l i k j → faceP F l x.1 i x.2 := fun x hx => by
    rcases List.mem_append.1 hx with h | h
    · exact (mem_fcs.1 h).2
    · have h3 := mem_fcj.1 h
      rw [h3.1]; exact h3.2.2
  obtain ⟨hQ', hqi'⟩ := stepP_ok hA hi' hQ hLm (by omega) (q := (k, j)) hface
  have hbd := hQ.bd hA hLm (n := i) (by omega)
  have hco := hf.cost
  have lq := hQ.len
  have lqi := i64s_len q
  have gc : rI (rA (plsA F l) (k : Int).toNat 0) 0 (0 + 0 + (0 + 1 + 1 + 1 + 1 + 1 + 1 + 1)) = (F.getD k f0).cost := by rw [gk]; rfl
  have ga : rI (i64s q) (i : Int).toNat 0 = q.getD i 0 := by rw [Int.toNat_natCast]; exact i64s_get q i
  have gj : rI (i64s q) ((i : Int) + ((j : Int) - i)).toNat 0 = q.getD j 0 := by rw [show ((i : Int) + ((j : Int) - i)).toNat = j by omega]; exact i64s_get q j
  have et : ((i : Int) + ((j : Int) - i)).toNat = j := by omega
  have upd : updRow (i64s q) ((i : Int) + ((j : Int) - i)).toNat 0 [Cell.int (rI (i64s q) (i : Int).toNat 0 + rI (rA (plsA F l) (k : Int).toNat 0) 0 (0 + 0 + (0 + 1 + 1 + 1 + 1 + 1 + 1 + 1)))] = i64s (q.set j (q.getD i 0 + (F.getD k f0).cost)) := by
    rw [gc, ga, et]
    exact i64s_upd' q j _ (by omega)
  have fin : PrcOK F l (CandL F l i (fcs F l i k ++ fcj F l i k (j + 1))) (stepP F i q (k, j)) := by rw [fcj_yes hface, ← List.append_assoc]; exact hQ'
  repeat' ((conv => whnf); first | refine Rng.g ?_ | refine Ob.g ?_ | refine Ob.e ?_ | refine Ob.m ?_ | refine Ob.mk (Nat.le_of_ble_eq_true rfl) ?_ | refine JoinVC.on ?_ | refine Nils.mk (fun h => ?_) ?_ | refine Val.t ?_ | refine Val.d ?_ | refine Mm.mk ?_ | (refine Br.mk (fun h => ?_) (fun h => ?_) <;> first | (exfalso; omega; done) | (exfalso; simp at h; done) | skip))
  change YieldVC _ _ _ _ _
  refine YieldVC.mk (rsem_of_awp pMix [] rfl (by kernel_rfl) ?_)
  repeat' ((conv => whnf); first | refine Rng.g ?_ | refine Ob.g ?_ | refine Ob.e ?_ | refine Ob.m ?_ | refine Ob.mk (Nat.le_of_ble_eq_true rfl) ?_ | refine JoinVC.on ?_ | refine Nils.mk (fun h => ?_) ?_ | refine Val.t ?_ | refine Val.d ?_ | refine Mm.mk ?_ | (refine Br.mk (fun h => ?_) (fun h => ?_) <;> first | (exfalso; omega; done) | (exfalso; simp at h; done) | skip))
  · have e : stepP F i q (k, j) = q.set j (q.getD i 0 + (F.getD k f0).cost) := if_pos (.inl (by show q.getD j 0 < 0; omega))
    refine Back.mk (l.length + 1 - (j + 1)) _ (by omega) ⟨j + 1, _, by omega, by omega, rfl, fin, by rw [hqi']; exact hqi, rfl⟩ ?_
    rw [e]
    refine ⟨[some 0, some 1, some 2, some 3, some 4, some 5, some 6, some 7], rfl, rfl, ?_, ?_⟩ <;> repeat' (first | exact trivial | exact rfl | exact Iff.rfl | apply And.intro)
    exact upd
  · have e : stepP F i q (k, j) = q.set j (q.getD i 0 + (F.getD k f0).cost) := if_pos (.inr (by show q.getD i 0 + (F.getD k f0).cost < q.getD j 0; omega))
    refine Back.mk (l.length + 1 - (j + 1)) _ (by omega) ⟨j + 1, _, by omega, by omega, rfl, fin, by rw [hqi']; exact hqi, rfl⟩ ?_
    rw [e]
    refine ⟨[some 0, some 1, some 2, some 3, some 4, some 5, some 6, some 7], rfl, rfl, ?_, ?_⟩ <;> repeat' (first | exact trivial | exact rfl | exact Iff.rfl | apply And.intro)
    exact upd
  · have e : stepP F i q (k, j) = q := if_neg (by show ¬ (q.getD j 0 < 0 ∨ q.getD i 0 + (F.getD k f0).cost < q.getD j 0); omega)
    refine Back.mk (l.length + 1 - (j + 1)) _ (by omega) ⟨j + 1, _, by omega, by omega, rfl, fin, by rw [hqi']; exact hqi, rfl⟩ ?_
    rw [e]
    refine ⟨[some 0, some 1, some 2, some 3, some 4, some 5, some 6, some 7], rfl, rfl, ?_, ?_⟩ <;> repeat' (first | exact trivial | exact rfl | exact Iff.rfl | apply And.intro)
end Go.Sx

namespace Go.Sx
open Go Go.Proofs
set_option maxRecDepth 10000
set_option maxHeartbeats 8000000
/-! ### An order is laid, as the document tells it -/
end Go.Sx

namespace Go.Sx
open Go Go.Proofs
set_option maxRecDepth 10000
set_option maxHeartbeats 8000000
/-! ### The examples -/
open Classical in
theorem s26 (a b : List Int) (ha : a.length ≤ 1000000) : PSpec Try.prog 26 [.one (.lst true [.int .i64] (i64s a)), .one (.lst true [.int .i64] (i64s b))] (xP (a = b)) := by
  have la := i64s_len a
  have lb := i64s_len b
  by_cases hl : a.length = b.length
  rotate_left
  · refine spec_of pMix (O := []) Try.func26 (c := bodyOf Try.f26) rfl (by kernel_rfl) (by kernel_rfl) Try.ntmps26 (res := [.tmp 4]) (by kernel_rfl) ?_
    repeat' ((conv => whnf); first | refine Rng.g ?_ | refine Ob.g ?_ | refine Ob.e ?_ | refine Ob.m ?_ | refine Ob.mk (Nat.le_of_ble_eq_true rfl) ?_ | refine JoinVC.on ?_ | refine Nils.mk (fun h => ?_) ?_ | refine Val.t ?_ | refine Val.d ?_ | refine Mm.mk ?_ | (refine Br.mk (fun h => ?_) (fun h => ?_) <;> first | (exfalso; omega; done) | (exfalso; simp at h; done) | skip))
    repeat refine Mm.mk ?_
    refine EndVC.mk _ rfl _ _ ⟨rfl, rfl⟩ ?_
    refine ⟨[], rfl, rfl, ?_, ?_⟩ <;> repeat' (first | exact trivial | exact rfl | exact Iff.rfl | apply And.intro)
    exact fun h => hl (by rw [h])
  refine spec_of pMix (O := []) Try.func26 (c := bodyOf Try.f26) rfl (by kernel_rfl) (by kernel_rfl) Try.ntmps26 (res := [.tmp 4]) (by kernel_rfl) ?_
  repeat' ((conv => whnf); first | refine Rng.g ?_ | refine Ob.g ?_ | refine Ob.e ?_ | refine Ob.m ?_ | refine Ob.mk (Nat.le_of_ble_eq_true rfl) ?_ | refine JoinVC.on ?_ | refine Nils.mk (fun h => ?_) ?_ | refine Val.t ?_ | refine Val.d ?_ | refine Mm.mk ?_ | (refine Br.mk (fun h => ?_) (fun h => ?_) <;> first | (exfalso; omega; done) | (exfalso; simp at h; done) | skip))
  refine LoopVC.mk (fun n st => ∃ (i : Nat), i ≤ a.length ∧ n = a.length - i ∧ (∀ j, j < i → a.getD j 0 = b.getD j 0) ∧ st = ⟨0, envA 26 [(0, .x (.one (.lst true [.int .i64] (i64s a)))), (1, .x (.one (.lst true [.int .i64] (i64s b)))), (5, .int .i64 (i : Int))], []⟩) _ _ ⟨0, Nat.zero_le _, rfl, fun j hj => absurd hj (Nat.not_lt_zero j), rfl⟩ ?_ ?_
  · refine ⟨[], rfl, rfl, ?_, ?_⟩ <;> repeat' (first | exact trivial | exact rfl | exact Iff.rfl | apply And.intro)
  rintro n _ ⟨i, hi, hm, hj, rfl⟩
  have g1 : rI (i64s a) (i : Int).toNat 0 = a.getD i 0 := by rw [Int.toNat_natCast]; exact i64s_get a i
  have g2 : rI (i64s b) (i : Int).toNat 0 = b.getD i 0 := by rw [Int.toNat_natCast]; exact i64s_get b i
  by_cases hi' : i < a.length
  · by_cases he : a.getD i 0 = b.getD i 0
    · repeat' ((conv => whnf); first | refine Rng.g ?_ | refine Ob.g ?_ | refine Ob.e ?_ | refine Ob.m ?_ | refine Ob.mk (Nat.le_of_ble_eq_true rfl) ?_ | refine JoinVC.on ?_ | refine Nils.mk (fun h => ?_) ?_ | refine Val.t ?_ | refine Val.d ?_ | refine Mm.mk ?_ | (refine Br.mk (fun h => ?_) (fun h => ?_) <;> first | (exfalso; omega; done) | (exfalso; simp at h; done) | skip))
      refine Back.mk (a.length - (i + 1)) _ (by omega) ⟨i + 1, by omega, rfl, fun j hj' => ?_, rfl⟩ ?_
      · rcases Nat.lt_succ_iff_lt_or_eq.1 hj' with h' | rfl
        · exact hj j h'
        · exact he
      · refine ⟨[], rfl, rfl, ?_, ?_⟩ <;> repeat' (first | exact trivial | exact rfl | exact Iff.rfl | apply And.intro)
    · repeat' ((conv => whnf); first | refine Rng.g ?_ | refine Ob.g ?_ | refine Ob.e ?_ | refine Ob.m ?_ | refine Ob.mk (Nat.le_of_ble_eq_true rfl) ?_ | refine JoinVC.on ?_ | refine Nils.mk (fun h => ?_) ?_ | refine Val.t ?_ | refine Val.d ?_ | refine Mm.mk ?_ | (refine Br.mk (fun h => ?_) (fun h => ?_) <;> first | (exfalso; omega; done) | (exfalso; simp at h; done) | skip))
      repeat refine Mm.mk ?_
      refine EndVC.mk _ rfl _ _ ⟨rfl, rfl⟩ ?_
      refine ⟨[], rfl, rfl, ?_, ?_⟩ <;> repeat' (first | exact trivial | exact rfl | exact Iff.rfl | apply And.intro)
      exact fun h => he (by rw [h])
  · repeat' ((conv => whnf); first | refine Rng.g ?_ | refine Ob.g ?_ | refine Ob.e ?_ | refine Ob.m ?_ | refine Ob.mk (Nat.le_of_ble_eq_true rfl) ?_ | refine JoinVC.on ?_ | refine Nils.mk (fun h => ?_) ?_ | refine Val.t ?_ | refine Val.d ?_ | refine Mm.mk ?_ | (refine Br.mk (fun h => ?_) (fun h => ?_) <;> first | (exfalso; omega; done) | (exfalso; simp at h; done) | skip))
    repeat refine Mm.mk ?_
    refine EndVC.mk _ rfl _ _ ⟨rfl, rfl⟩ ?_
    refine ⟨[], rfl, rfl, ?_, ?_⟩ <;> repeat' (first | exact trivial | exact rfl | exact Iff.rfl | apply And.intro)
    exact list_ext_getD hl fun j hj' => hj j (by omega)
open Classical in
theorem s34 (a b : List Int) (ha : a.length ≤ 1000000) : PSpec Try.prog 34 [.one (.lst true [.int .i64] (i64s a)), .one (.lst true [.int .i64] (i64s b))] (xP (a = b)) := by
  have la := i64s_len a
  have lb := i64s_len b
  by_cases hl : a.length = b.length
  rotate_left
  · refine spec_of pMix (O := []) Try.func34 (c := bodyOf Try.f34) rfl (by kernel_rfl) (by kernel_rfl) Try.ntmps34 (res := [.tmp 4]) (by kernel_rfl) ?_
    repeat' ((conv => whnf); first | refine Rng.g ?_ | refine Ob.g ?_ | refine Ob.e ?_ | refine Ob.m ?_ | refine Ob.mk (Nat.le_of_ble_eq_true rfl) ?_ | refine JoinVC.on ?_ | refine Nils.mk (fun h => ?_) ?_ | refine Val.t ?_ | refine Val.d ?_ | refine Mm.mk ?_ | (refine Br.mk (fun h => ?_) (fun h => ?_) <;> first | (exfalso; omega; done) | (exfalso; simp at h; done) | skip))
    repeat refine Mm.mk ?_
    refine EndVC.mk _ rfl _ _ ⟨rfl, rfl⟩ ?_
    refine ⟨[], rfl, rfl, ?_, ?_⟩ <;> repeat' (first | exact trivial | exact rfl | exact Iff.rfl | apply And.intro)
    exact fun h => hl (by rw [h])
  refine spec_of pMix (O := []) Try.func34 (c := bodyOf Try.f34) rfl (by kernel_rfl) (by kernel_rfl) Try.ntmps34 (res := [.tmp 4]) (by kernel_rfl) ?_
  repeat' ((conv => whnf); first | refine Rng.g ?_ | refine Ob.g ?_ | refine Ob.e ?_ | refine Ob.m ?_ | refine Ob.mk (Nat.le_of_ble_eq_true rfl) ?_ | refine JoinVC.on ?_ | refine Nils.mk (fun h => ?_) ?_ | refine Val.t ?_ | refine Val.d ?_ | refine Mm.mk ?_ | (refine Br.mk (fun h => ?_) (fun h => ?_) <;> first | (exfalso; omega; done) | (exfalso; simp at h; done) | skip))
  refine LoopVC.mk (fun n st => ∃ (i : Nat), i ≤ a.length ∧ n = a.length - i ∧ (∀ j, j < i → a.getD j 0 = b.getD j 0) ∧ st = ⟨0, envA 26 [(0, .x (.one (.lst true [.int .i64] (i64s a)))), (1, .x (.one (.lst true [.int .i64] (i64s b)))), (5, .int .i64 (i : Int))], []⟩) _ _ ⟨0, Nat.zero_le _, rfl, fun j hj => absurd hj (Nat.not_lt_zero j), rfl⟩ ?_ ?_
  · refine ⟨[], rfl, rfl, ?_, ?_⟩ <;> repeat' (first | exact trivial | exact rfl | exact Iff.rfl | apply And.intro)
  rintro n _ ⟨i, hi, hm, hj, rfl⟩
  have g1 : rI (i64s a) (i : Int).toNat 0 = a.getD i 0 := by rw [Int.toNat_natCast]; exact i64s_get a i
  have g2 : rI (i64s b) (i : Int).toNat 0 = b.getD i 0 := by rw [Int.toNat_natCast]; exact i64s_get b i
  by_cases hi' : i < a.length
  · by_cases he : a.getD i 0 = b.getD i 0
    · repeat' ((conv => whnf); first | refine Rng.g ?_ | refine Ob.g ?_ | refine Ob.e ?_ | refine Ob.m ?_ | refine Ob.mk (Nat.le_of_ble_eq_true rfl) ?_ | refine JoinVC.on ?_ | refine Nils.mk (fun h => ?_) ?_ | refine Val.t ?_ | refine Val.d ?_ | refine Mm.mk ?_ | (refine Br.mk (fun h => ?_) (fun h => ?_) <;> first | (exfalso; omega; done) | (exfalso; simp at h; done) | skip))
      refine Back.mk (a.length - (i + 1)) _ (by omega) ⟨i + 1, by omega, rfl, fun j hj' => ?_, rfl⟩ ?_
      · rcases Nat.lt_succ_iff_lt_or_eq.1 hj' with h' | rfl
        · exact hj j h'
        · exact he
      · refine ⟨[], rfl, rfl, ?_, ?_⟩ <;> repeat' (first | exact trivial | exact rfl | exact Iff.rfl | apply And.intro)
    · repeat' ((conv => whnf); first | refine Rng.g ?_ | refine Ob.g ?_ | refine Ob.e ?_ | refine Ob.m ?_ | refine Ob.mk (Nat.le_of_ble_eq_true rfl) ?_ | refine JoinVC.on ?_ | refine Nils.mk (fun h => ?_) ?_ | refine Val.t ?_ | refine Val.d ?_ | refine Mm.mk ?_ | (refine Br.mk (fun h => ?_) (fun h => ?_) <;> first | (exfalso; omega; done) | (exfalso; simp at h; done) | skip))
      repeat refine Mm.mk ?_
      refine EndVC.mk _ rfl _ _ ⟨rfl, rfl⟩ ?_
      refine ⟨[], rfl, rfl, ?_, ?_⟩ <;> repeat' (first | exact trivial | exact rfl | exact Iff.rfl | apply And.intro)
      exact fun h => he (by rw [h])
  · repeat' ((conv => whnf); first | refine Rng.g ?_ | refine Ob.g ?_ | refine Ob.e ?_ | refine Ob.m ?_ | refine Ob.mk (Nat.le_of_ble_eq_true rfl) ?_ | refine JoinVC.on ?_ | refine Nils.mk (fun h => ?_) ?_ | refine Val.t ?_ | refine Val.d ?_ | refine Mm.mk ?_ | (refine Br.mk (fun h => ?_) (fun h => ?_) <;> first | (exfalso; omega; done) | (exfalso; simp at h; done) | skip))
    repeat refine Mm.mk ?_
    refine EndVC.mk _ rfl _ _ ⟨rfl, rfl⟩ ?_
    refine ⟨[], rfl, rfl, ?_, ?_⟩ <;> repeat' (first | exact trivial | exact rfl | exact Iff.rfl | apply And.intro)
    exact list_ext_getD hl fun j hj' => hj j (by omega)
theorem s32 : HSpec Try.prog 32 [] [] (fun r m' => r = .tup [f4.x, .one (.own 0)] ∧ m' = [some (.row 40 false KSng (sngA l4))]) := by
  refine spec_of pMix (O := []) Try.func32 (c := bodyOf Try.f32) rfl (by kernel_rfl) (by kernel_rfl) Try.ntmps32 (res := [.cell 0 23, .tmp 1]) (by kernel_rfl) ?_
  repeat' ((conv => whnf); first | refine Rng.g ?_ | refine Ob.g ?_ | refine Ob.e ?_ | refine Ob.m ?_ | refine Ob.mk (Nat.le_of_ble_eq_true rfl) ?_ | refine JoinVC.on ?_ | refine Nils.mk (fun h => ?_) ?_ | refine Val.t ?_ | refine Val.d ?_ | refine Mm.mk ?_ | (refine Br.mk (fun h => ?_) (fun h => ?_) <;> first | (exfalso; omega; done) | (exfalso; simp at h; done) | skip))
  repeat refine Mm.mk ?_
  refine EndVC.mk _ rfl _ _ ⟨rfl, rfl⟩ ?_
  refine ⟨[some 2], rfl, rfl, ?_, ?_⟩ <;> repeat' (first | exact trivial | exact rfl | exact Iff.rfl | apply And.intro)
instance (f : Fmt) (l : List Sng) (O : List Int) (i : Nat) : Decidable (okAt f l O i) := by unfold okAt; exact inferInstance
instance (f : Fmt) (l : List Sng) (O : List Int) : Decidable (LayOK f l O) := by unfold LayOK; exact inferInstance
theorem alb4 : AlbOK [f4] l4 := ⟨by decide, fun i hi => by
  have : i = 0 := by simp at hi; omega
  subst this
  exact f4_ok, l4_ok⟩
theorem face4 {k i j : Nat} : faceP [f4] l4 k i j ↔ k = 0 ∧ i < j ∧ j ≤ 3 ∧ LayOK f4 l4 (seqL i (j - i)) := by
  constructor
  · rintro ⟨h1, h2, h3, h4⟩
    have : k = 0 := by simp at h1; omega
    subst this
    exact ⟨rfl, h2, h3, h4⟩
  · rintro ⟨rfl, h2, h3, h4⟩
    exact ⟨by simp, h2, h3, h4⟩
theorem prc4 {p : List Int} (h : PrcOK [f4] l4 (Reach [f4] l4) p) : p = [0, 5, 10, 10] := by
  have f01 : faceP [f4] l4 0 0 1 := face4.2 ⟨rfl, by decide, by decide, by decide⟩
  have f12 : faceP [f4] l4 0 1 2 := face4.2 ⟨rfl, by decide, by decide, by decide⟩
  have f13 : faceP [f4] l4 0 1 3 := face4.2 ⟨rfl, by decide, by decide, by decide⟩
  have n02 : ∀ k, ¬ faceP [f4] l4 k 0 2 := fun k h => (by have := (face4.1 h).2.2.2; revert this; decide)
  have n03 : ∀ k, ¬ faceP [f4] l4 k 0 3 := fun k h => (by have := (face4.1 h).2.2.2; revert this; decide)
  have c : ([f4].getD 0 f0).cost = 5 := rfl
  have r1 : Reach [f4] l4 1 5 := by have := Reach.nil.step f01; rw [c] at this; exact this
  have r2 : Reach [f4] l4 2 10 := by have := r1.step f12; rw [c] at this; exact this
  have r3 : Reach [f4] l4 3 10 := by have := r1.step f13; rw [c] at this; exact this
  have b1 : ∀ x, Reach [f4] l4 1 x → 5 ≤ x := fun x hx => by
    cases hx with
    | @step i _ k c' h1 h2 =>
      have h3 := (reach_bd alb4 h1).1
      have h4 := (face4.1 h2).1
      subst h4
      rw [c]
      omega
  have bb : ∀ n x, (n = 2 ∨ n = 3) → Reach [f4] l4 n x → 10 ≤ x := fun n x hn hx => by
    cases hx with
    | nil => omega
    | @step i _ k c' h1 h2 =>
      have h5 := face4.1 h2
      have h4 := h5.1
      subst h4
      rw [c]
      have hi : i = 0 ∨ i = 1 ∨ i = 2 := by omega
      rcases hi with rfl | rfl | rfl
      · rcases hn with rfl | rfl
        · exact absurd h2 (n02 0)
        · exact absurd h2 (n03 0)
      · have := b1 _ h1
        omega
      · cases h1 with
        | @step i' _ k' c'' g1 g2 =>
          have g5 := face4.1 g2
          have g4 := g5.1
          subst g4
          rw [c]
          have := (reach_bd alb4 g1).1
          omega
  have u : ∀ n v x, n ≤ 3 → Reach [f4] l4 n v → (∀ y, Reach [f4] l4 n y → v ≤ y) → p.getD n 0 = x → x = v := fun n v x hn h1 h2 h3 => by
    rcases h.each n hn with ⟨h4, h5⟩ | ⟨h4, h5, h6⟩
    · exact absurd h1 (h5 v)
    · have a := h6 v h1
      have b := h2 _ h5
      omega
  have hlen : p.length = 4 := h.len
  match p, hlen with
  | [x0, x1, x2, x3], _ =>
    have e0 := u 0 0 x0 (by decide) .nil (fun y hy => (reach_bd alb4 hy).1) rfl
    have e1 := u 1 5 x1 (by decide) r1 b1 rfl
    have e2 := u 2 10 x2 (by decide) r2 (fun y hy => bb 2 y (.inl rfl) hy) rfl
    have e3 := u 3 10 x3 (by decide) r3 (fun y hy => bb 3 y (.inr rfl) hy) rfl
    rw [e0, e1, e2, e3]
theorem s11 : PSpec Try.prog 11 [] (xP True) := by
  have n4 : ∀ i, ([f4].getD i f0).nm.size ≤ 140737488355328 := fun i => by
    cases i with
    | zero => decide
    | succ n => exact (by decide : f0.nm.size ≤ 140737488355328)
  refine spec_of pMix (O := []) Try.func11 (c := bodyOf Try.f11) rfl (by kernel_rfl) (by kernel_rfl) Try.ntmps11 (res := [.tmp 0]) (by kernel_rfl) ?_
  repeat' ((conv => whnf); first | refine Rng.g ?_ | refine Ob.g ?_ | refine Ob.e ?_ | refine Ob.m ?_ | refine Ob.mk (Nat.le_of_ble_eq_true rfl) ?_ | refine JoinVC.on ?_ | refine Nils.mk (fun h => ?_) ?_ | refine Val.t ?_ | refine Val.d ?_ | refine Mm.mk ?_ | (refine Br.mk (fun h => ?_) (fun h => ?_) <;> first | (exfalso; omega; done) | (exfalso; simp at h; done) | skip))
  conv => whnf
  refine CallVC.mk [] _ _ _ rfl rfl rfl (s32) (fun r m' h' => ?_)
  obtain ⟨rfl, rfl⟩ := h'
  conv => whnf
  repeat' ((conv => whnf); first | refine Rng.g ?_ | refine Ob.g ?_ | refine Ob.e ?_ | refine Ob.m ?_ | refine Ob.mk (Nat.le_of_ble_eq_true rfl) ?_ | refine JoinVC.on ?_ | refine Nils.mk (fun h => ?_) ?_ | refine Val.t ?_ | refine Val.d ?_ | refine Mm.mk ?_ | (refine Br.mk (fun h => ?_) (fun h => ?_) <;> first | (exfalso; omega; done) | (exfalso; simp at h; done) | skip))
  conv => whnf
  refine CallVC.mk [] _ _ _ rfl rfl rfl (s18 f4 l4 (by decide) (by decide)) (fun r m' h' => ?_)
  cases h' with
  | bad h hr hm => exact absurd (bothE_ok f4_ok l4_ok) h
  | none _ _ hN hr hm => exact absurd lay4 hN
  | ok _ _ _ hr hm =>
    subst hr hm
    rw [allO4]
    repeat' ((conv => whnf); first | refine Rng.g ?_ | refine Ob.g ?_ | refine Ob.e ?_ | refine Ob.m ?_ | refine Ob.mk (Nat.le_of_ble_eq_true rfl) ?_ | refine JoinVC.on ?_ | refine Nils.mk (fun h => ?_) ?_ | refine Val.t ?_ | refine Val.d ?_ | refine Mm.mk ?_ | (refine Br.mk (fun h => ?_) (fun h => ?_) <;> first | (exfalso; omega; done) | (exfalso; simp at h; done) | skip))
    conv => whnf
    refine CallVC.mk [] _ _ _ rfl rfl rfl (s33 [f4] l4 n4) (fun r m' h' => ?_)
    rcases h' with ⟨he, rfl, rfl⟩ | ⟨_, p, hp, rfl, rfl⟩
    · exact absurd (fmsE_0.2 alb4) he
    rw [prc4 hp]
    have k1 := s26 [1, 0, 2] [1, 0, 2] (by decide)
    have k2 := s34 [0, 5, 10, 10] [0, 5, 10, 10] (by decide)
    repeat' ((conv => whnf); first | refine Rng.g ?_ | refine Ob.g ?_ | refine Ob.e ?_ | refine Ob.m ?_ | refine Ob.mk (Nat.le_of_ble_eq_true rfl) ?_ | refine JoinVC.on ?_ | refine Nils.mk (fun h => ?_) ?_ | refine Val.t ?_ | refine Val.d ?_ | refine Mm.mk ?_ | refine CallVC.pure rfl (k1) ?_ | refine CallVC.pure rfl (k2) ?_ | refine CallVC0.pure rfl (k1) ?_ | refine CallVC0.pure rfl (k2) ?_ | (refine Br.mk (fun h => ?_) (fun h => ?_) <;> first | (exfalso; omega; done) | (exfalso; simp at h; done) | skip))
    repeat refine Mm.mk ?_
    refine EndVC.mk _ rfl _ _ ⟨rfl, rfl⟩ ?_
    refine ⟨[], rfl, rfl, ?_, ?_⟩ <;> repeat' (first | exact trivial | exact rfl | exact Iff.rfl | apply And.intro)
    exact ⟨fun _ => trivial, fun _ => rfl⟩
end Go.Sx

namespace Go.Sx
open Go Go.Proofs
set_option maxRecDepth 10000
set_option maxHeartbeats 8000000
/-! ### Which prices are right -/
def outP (n : Int) : Prop := n < -1 ∨ n > 25165824
instance (n : Int) : Decidable (outP n) := by unfold outP; exact inferInstance
theorem s51 (n : Int) : PSpec Try.prog 51 [I n] (xP (outP n)) := by
  have c := s52 n (-1) 25165824
  refine spec_of pMix (O := []) Try.func51 (c := bodyOf Try.f51) rfl (by kernel_rfl) (by kernel_rfl) Try.ntmps51 (res := [.tmp 2]) (by kernel_rfl) ?_
  repeat' ((conv => whnf); first | refine Rng.g ?_ | refine Ob.g ?_ | refine Ob.e ?_ | refine Ob.m ?_ | refine Ob.mk (Nat.le_of_ble_eq_true rfl) ?_ | refine JoinVC.on ?_ | refine Nils.mk (fun h => ?_) ?_ | refine Val.t ?_ | refine Val.d ?_ | refine Mm.mk ?_ | refine CallVC.pure rfl (c) ?_ | refine CallVC0.pure rfl (c) ?_ | (refine Br.mk (fun h => ?_) (fun h => ?_) <;> first | (exfalso; omega; done) | (exfalso; simp at h; done) | skip))
  repeat refine Mm.mk ?_
  refine EndVC.mk _ rfl _ _ ⟨rfl, rfl⟩ ?_
  refine ⟨[], rfl, rfl, ?_, ?_⟩ <;> repeat' (first | exact trivial | exact rfl | exact Iff.rfl | apply And.intro)
theorem s75 (xs : List Int) (hl : xs.length ≤ 1000000) : HSpec Try.prog 75 [.one (.lst true [.int .i64] (i64s xs)), .one (.fn 51 [])] [] (fun r m' => ∃ k, r = .x (I k) ∧ m' = [] ∧ (k = -1 ∧ (∀ j, j < xs.length → ¬ outP (xs.getD j 0)) ∨ 0 ≤ k ∧ ∃ j, j < xs.length ∧ outP (xs.getD j 0))) := by
  have lo := i64s_len xs
  refine spec_of pMix (O := []) Try.func75 (c := bodyOf Try.f75) rfl (by kernel_rfl) (by kernel_rfl) Try.ntmps75 (res := [.tmp 4]) (by kernel_rfl) ?_
  repeat' ((conv => whnf); first | refine Rng.g ?_ | refine Ob.g ?_ | refine Ob.e ?_ | refine Ob.m ?_ | refine Ob.mk (Nat.le_of_ble_eq_true rfl) ?_ | refine JoinVC.on ?_ | refine Nils.mk (fun h => ?_) ?_ | refine Val.t ?_ | refine Val.d ?_ | refine Mm.mk ?_ | (refine Br.mk (fun h => ?_) (fun h => ?_) <;> first | (exfalso; omega; done) | (exfalso; simp at h; done) | skip))
  refine LoopVC.mk (fun n st => ∃ (i : Nat), i ≤ xs.length ∧ n = xs.length - i ∧ (∀ j, j < i → ¬ outP (xs.getD j 0)) ∧ st = ⟨0, envA 19 [(0, .x (.one (.lst true [.int .i64] (i64s xs)))), (1, .x (.one (.fn 51 []))), (6, .x (.one (.lst true [.int .i64] (i64s xs)))), (7, .int .i64 (xs.length : Int)), (8, .int .i64 (i : Int))], []⟩) _ _ ⟨0, Nat.zero_le _, rfl, fun j hj => absurd hj (Nat.not_lt_zero j), rfl⟩ ?_ ?_
  · refine ⟨[], rfl, rfl, ?_, ?_⟩ <;> repeat' (first | exact trivial | exact rfl | exact Iff.rfl | apply And.intro)
    all_goals exact congrArg Int.ofNat lo
  rintro n _ ⟨i, hi, hm, hj, rfl⟩
  have gi : rI (i64s xs) (i : Int).toNat 0 = xs.getD i 0 := by rw [Int.toNat_natCast]; exact i64s_get xs i
  have c := s51 (xs.getD i 0)
  by_cases hi' : i < xs.length
  · by_cases hv : outP (xs.getD i 0)
    · repeat' ((conv => whnf); first | rw [gi] | refine Rng.g ?_ | refine Ob.g ?_ | refine Ob.e ?_ | refine Ob.m ?_ | refine Ob.mk (Nat.le_of_ble_eq_true rfl) ?_ | refine JoinVC.on ?_ | refine Nils.mk (fun h => ?_) ?_ | refine Val.t ?_ | refine Val.d ?_ | refine Mm.mk ?_ | refine CallVC.pure rfl (c) ?_ | refine CallVC0.pure rfl (c) ?_ | (refine Br.mk (fun h => ?_) (fun h => ?_) <;> first | (exfalso; omega; done) | (exfalso; simp at h; done) | skip))
      · repeat refine Mm.mk ?_
        conv => whnf
        refine EndVC.mk _ rfl _ _ (⟨(i : Int), rfl, rfl, .inr ⟨by omega, i, hi', hv⟩⟩) ?_
        refine ⟨[], rfl, rfl, ?_, ?_⟩ <;> repeat' (first | exact trivial | exact rfl | exact Iff.rfl | apply And.intro)
      · exact absurd hv h
    · repeat' ((conv => whnf); first | rw [gi] | refine Rng.g ?_ | refine Ob.g ?_ | refine Ob.e ?_ | refine Ob.m ?_ | refine Ob.mk (Nat.le_of_ble_eq_true rfl) ?_ | refine JoinVC.on ?_ | refine Nils.mk (fun h => ?_) ?_ | refine Val.t ?_ | refine Val.d ?_ | refine Mm.mk ?_ | refine CallVC.pure rfl (c) ?_ | refine CallVC0.pure rfl (c) ?_ | (refine Br.mk (fun h => ?_) (fun h => ?_) <;> first | (exfalso; omega; done) | (exfalso; simp at h; done) | skip))
      · exact absurd h hv
      · refine Back.mk (xs.length - (i + 1)) _ (by omega) ⟨i + 1, by omega, rfl, fun j hj' => ?_, rfl⟩ ?_
        · rcases Nat.lt_succ_iff_lt_or_eq.1 hj' with h' | rfl
          · exact hj j h'
          · exact hv
        · refine ⟨[], rfl, rfl, ?_, ?_⟩ <;> repeat' (first | exact trivial | exact rfl | exact Iff.rfl | apply And.intro)
  · repeat' ((conv => whnf); first | refine Rng.g ?_ | refine Ob.g ?_ | refine Ob.e ?_ | refine Ob.m ?_ | refine Ob.mk (Nat.le_of_ble_eq_true rfl) ?_ | refine JoinVC.on ?_ | refine Nils.mk (fun h => ?_) ?_ | refine Val.t ?_ | refine Val.d ?_ | refine Mm.mk ?_ | (refine Br.mk (fun h => ?_) (fun h => ?_) <;> first | (exfalso; omega; done) | (exfalso; simp at h; done) | skip))
    repeat refine Mm.mk ?_
    conv => whnf
    refine EndVC.mk _ rfl _ _ (⟨-1, rfl, rfl, .inl ⟨rfl, fun j hj' => hj j (by omega)⟩⟩) ?_
    refine ⟨[], rfl, rfl, ?_, ?_⟩ <;> repeat' (first | exact trivial | exact rfl | exact Iff.rfl | apply And.intro)
open Classical in
theorem s50 (xs : List Int) (hl : xs.length ≤ 1000000) : PSpec Try.prog 50 [.one (.lst true [.int .i64] (i64s xs)), .one (.fn 51 [])] (xP (∃ j, j < xs.length ∧ outP (xs.getD j 0))) := by
  refine spec_of pMix (O := []) Try.func50 (c := bodyOf Try.f50) rfl (by kernel_rfl) (by kernel_rfl) Try.ntmps50 (res := [.tmp 4]) (by kernel_rfl) ?_
  repeat' ((conv => whnf); first | refine Rng.g ?_ | refine Ob.g ?_ | refine Ob.e ?_ | refine Ob.m ?_ | refine Ob.mk (Nat.le_of_ble_eq_true rfl) ?_ | refine JoinVC.on ?_ | refine Nils.mk (fun h => ?_) ?_ | refine Val.t ?_ | refine Val.d ?_ | refine Mm.mk ?_ | (refine Br.mk (fun h => ?_) (fun h => ?_) <;> first | (exfalso; omega; done) | (exfalso; simp at h; done) | skip))
  conv => whnf
  refine CallVC.mk [] _ _ _ rfl rfl rfl (s75 xs hl) (fun r m' h' => ?_)
  obtain ⟨k, rfl, rfl, hk⟩ := h'
  conv => whnf
  repeat' ((conv => whnf); first | refine Rng.g ?_ | refine Ob.g ?_ | refine Ob.e ?_ | refine Ob.m ?_ | refine Ob.mk (Nat.le_of_ble_eq_true rfl) ?_ | refine JoinVC.on ?_ | refine Nils.mk (fun h => ?_) ?_ | refine Val.t ?_ | refine Val.d ?_ | refine Mm.mk ?_ | (refine Br.mk (fun h => ?_) (fun h => ?_) <;> first | (exfalso; omega; done) | (exfalso; simp at h; done) | skip))
  repeat refine Mm.mk ?_
  refine EndVC.mk _ rfl _ _ ⟨rfl, rfl⟩ ?_
  refine ⟨[], rfl, rfl, ?_, ?_⟩ <;> repeat' (first | exact trivial | exact rfl | exact Iff.rfl | apply And.intro)
  show _ ↔ _
  rcases hk with ⟨rfl, h⟩ | ⟨h0, h⟩
  · exact ⟨fun h1 => absurd h1 (by decide), fun ⟨j, h1, h2⟩ => absurd h2 (h j h1)⟩
  · exact ⟨fun _ => h, fun _ => h0⟩
/-- A face that begins before i, or one of these, shows that the price of its end is not right. -/
def badP (F : List Fmt) (l : List Sng) (p : List Int) (i : Nat) (L : List (Nat × Nat)) (j : Nat) : Prop :=
  ∃ i' k, ((i' < i ∧ faceP F l k i' j) ∨ (i' = i ∧ (k, j) ∈ L)) ∧ 0 ≤ p.getD i' 0 ∧ (p.getD j 0 < 0 ∨ p.getD i' 0 + (F.getD k f0).cost < p.getD j 0)
structure WrgOK (n : Nat) (B : Nat → Prop) (a : Int) : Prop where
  rng : 1 ≤ a ∧ a ≤ n + 1
  bad : a ≤ n → B a.toNat
  least : ∀ j, B j → a ≤ j
def stepG (F : List Fmt) (p : List Int) (i : Nat) (a : Int) (q : Nat × Nat) : Int := if p.getD q.2 0 < 0 ∨ p.getD i 0 + (F.getD q.1 f0).cost < p.getD q.2 0 then (if (q.2 : Int) < a then (q.2 : Int) else a) else a
theorem stepG_ok {F : List Fmt} {l : List Sng} {p : List Int} {i : Nat} {L : List (Nat × Nat)} {a : Int} (h : WrgOK l.length (badP F l p i L) a) (h0 : 0 ≤ p.getD i 0) {q : Nat × Nat} (hq : faceP F l q.1 i q.2) : WrgOK l.length (badP F l p i (L ++ [q])) (stepG F p i a q) := by
  have hle := hq.le
  have hlt := hq.lt
  have up : ∀ j, badP F l p i L j → badP F l p i (L ++ [q]) j := fun j ⟨i', k, h1, h2⟩ => ⟨i', k, h1.imp id fun h => ⟨h.1, List.mem_append_left _ h.2⟩, h2⟩
  have dn : ∀ j, badP F l p i (L ++ [q]) j → badP F l p i L j ∨ (j = q.2 ∧ (p.getD q.2 0 < 0 ∨ p.getD i 0 + (F.getD q.1 f0).cost < p.getD q.2 0)) := fun j ⟨i', k, h1, h2, h3⟩ => by
    rcases h1 with h1 | ⟨rfl, h1⟩
    · exact .inl ⟨i', k, .inl h1, h2, h3⟩
    · rcases List.mem_append.1 h1 with h4 | h4
      · exact .inl ⟨i', k, .inr ⟨rfl, h4⟩, h2, h3⟩
      · have e := List.mem_singleton.1 h4
        have e1 : k = q.1 := congrArg Prod.fst e
        have e2 : j = q.2 := congrArg Prod.snd e
        subst e1 e2
        exact .inr ⟨rfl, h3⟩
  have hr := h.rng
  unfold stepG
  split
  · rename_i hb
    have hnew : badP F l p i (L ++ [q]) q.2 := ⟨i, q.1, .inr ⟨rfl, List.mem_append_right _ List.mem_cons_self⟩, h0, hb⟩
    split
    · rename_i hl
      refine ⟨by omega, fun _ => by rw [Int.toNat_natCast]; exact hnew, fun j hj => ?_⟩
      rcases dn j hj with h1 | ⟨rfl, _⟩
      · have := h.least j h1
        omega
      · exact Int.le_refl _
    · rename_i hl
      refine ⟨hr, fun hn => up _ (h.bad hn), fun j hj => ?_⟩
      rcases dn j hj with h1 | ⟨rfl, _⟩
      · exact h.least j h1
      · omega
  · rename_i hb
    refine ⟨hr, fun hn => up _ (h.bad hn), fun j hj => ?_⟩
    rcases dn j hj with h1 | ⟨rfl, h1⟩
    · exact h.least j h1
    · exact absurd h1 hb
theorem WrgOK.congr {n : Nat} {B B' : Nat → Prop} {a : Int} (h : WrgOK n B a) (e : ∀ j, B j ↔ B' j) : WrgOK n B' a := ⟨h.rng, fun hn => (e _).1 (h.bad hn), fun j hj => h.least j ((e j).2 hj)⟩
theorem badP_next {F : List Fmt} {l : List Sng} {p : List Int} {i : Nat} (j : Nat) : badP F l p i (facesL F l i) j ↔ badP F l p (i + 1) [] j := by
  constructor
  · rintro ⟨i', k, h1, h2⟩
    refine ⟨i', k, .inl ?_, h2⟩
    rcases h1 with h1 | ⟨rfl, h1⟩
    · exact ⟨by omega, h1.2⟩
    · exact ⟨Nat.lt_succ_self _, mem_faces.1 h1⟩
  · rintro ⟨i', k, h1, h2⟩
    refine ⟨i', k, ?_, h2⟩
    rcases h1 with h1 | ⟨_, h1⟩
    · by_cases e : i' = i
      · subst e
        exact .inr ⟨rfl, mem_faces.2 h1.2⟩
      · exact .inl ⟨by omega, h1.2⟩
    · simp at h1
theorem badP_skip {F : List Fmt} {l : List Sng} {p : List Int} {i : Nat} (h0 : p.getD i 0 < 0) (j : Nat) : badP F l p i [] j ↔ badP F l p (i + 1) [] j := by
  constructor
  · rintro ⟨i', k, h1, h2⟩
    refine ⟨i', k, .inl ?_, h2⟩
    rcases h1 with h1 | ⟨_, h1⟩
    · exact ⟨by omega, h1.2⟩
    · simp at h1
  · rintro ⟨i', k, h1, h2, h3⟩
    rcases h1 with h1 | ⟨_, h1⟩
    · refine ⟨i', k, .inl ⟨?_, h1.2⟩, h2, h3⟩
      have : i' ≠ i := fun e => by rw [e] at h2; omega
      omega
    · simp at h1
/-- What is wrong with prices. -/
def wrongP (F : List Fmt) (l : List Sng) (p : List Int) (j : Nat) : Prop := badP F l p l.length [] j
theorem wrg_start {F : List Fmt} {l : List Sng} {p : List Int} : WrgOK l.length (badP F l p 0 []) ((l.length : Int) + 1) := ⟨by omega, fun h => by omega, fun j ⟨i', k, h1, _⟩ => by
  rcases h1 with h1 | ⟨_, h1⟩
  · omega
  · simp at h1⟩
inductive CpRs (F : List Fmt) (l : List Sng) (p : List Int) (r : AV) : Prop
  | bad (h : fmsE F l ≠ 0) (hr : r = .tup [I 0, I (fmsE F l)])
  | len (hA : AlbOK F l) (h : p.length ≠ l.length + 1) (hr : r = .tup [I 0, I 17])
  | rng (hA : AlbOK F l) (hl : p.length = l.length + 1) (h : p.getD 0 0 ≠ 0 ∨ ∃ j, j < p.length ∧ outP (p.getD j 0)) (hr : r = .tup [I 0, I 3])
  | wrong (hA : AlbOK F l) (hl : p.length = l.length + 1) (hz : p.getD 0 0 = 0) (hin : ∀ j, j < p.length → ¬ outP (p.getD j 0)) (j : Nat) (hj : 1 ≤ j ∧ j ≤ l.length) (h : wrongP F l p j) (hm : ∀ j', wrongP F l p j' → j ≤ j') (hr : r = .tup [I (j : Int), I 16])
  | ok (hA : AlbOK F l) (hl : p.length = l.length + 1) (hz : p.getD 0 0 = 0) (hin : ∀ j, j < p.length → ¬ outP (p.getD j 0)) (h : ∀ j, ¬ wrongP F l p j) (hr : r = .tup [I 0, I 0])
end Go.Sx

namespace Go.Sx
open Go Go.Proofs
set_option maxRecDepth 10000
set_option maxHeartbeats 8000000
noncomputable def rf20 : Code := cB (cS (cS (cS (cB (cF (cS (cS (cL (cB (cS (cF (cS (cS (cS (cS (bodyOf Try.f20))))))))))))))))
theorem s20 (F : List Fmt) (l : List Sng) (p : List Int) (hI : ∀ i, (F.getD i f0).nm.size ≤ 140737488355328) (hpl : p.length ≤ 1000000) : HSpec Try.prog 20 [lFmt F, lSng l, .one (.lst true [.int .i64] (i64s p))] [] (fun r m' => CpRs F l p r ∧ m' = []) := by
  have ll := sngA_len l
  have lpi := i64s_len p
  refine spec_of pMix (O := []) Try.func20 (c := bodyOf Try.f20) rfl (by kernel_rfl) (by kernel_rfl) Try.ntmps20 (res := [.tmp 6, .tmp 7]) (by kernel_rfl) ?_
  repeat' ((conv => whnf); first | refine Rng.g ?_ | refine Ob.g ?_ | refine Ob.e ?_ | refine Ob.m ?_ | refine Ob.mk (Nat.le_of_ble_eq_true rfl) ?_ | refine JoinVC.on ?_ | refine Nils.mk (fun h => ?_) ?_ | refine Val.t ?_ | refine Val.d ?_ | refine Mm.mk ?_ | (refine Br.mk (fun h => ?_) (fun h => ?_) <;> first | (exfalso; omega; done) | (exfalso; simp at h; done) | skip))
  conv => whnf
  refine CallVC.mk [] _ _ _ rfl rfl rfl (s49 F l hI) (fun r m' h' => ?_)
  rcases h' with ⟨he, rfl, rfl⟩ | ⟨he, rfl, rfl⟩ | ⟨hA, rfl, rfl⟩
  · repeat' ((conv => whnf); first | refine Rng.g ?_ | refine Ob.g ?_ | refine Ob.e ?_ | refine Ob.m ?_ | refine Ob.mk (Nat.le_of_ble_eq_true rfl) ?_ | refine JoinVC.on ?_ | refine Nils.mk (fun h => ?_) ?_ | refine Val.t ?_ | refine Val.d ?_ | refine Mm.mk ?_ | (refine Br.mk (fun h => ?_) (fun h => ?_) <;> first | (exfalso; omega; done) | (exfalso; simp at h; done) | skip))
    repeat refine Mm.mk ?_
    conv => whnf
    refine EndVC.mk _ rfl _ _ (⟨.bad he rfl, rfl⟩) ?_
    refine ⟨[], rfl, rfl, ?_, ?_⟩ <;> repeat' (first | exact trivial | exact rfl | exact Iff.rfl | apply And.intro)
  · repeat' ((conv => whnf); first | refine Rng.g ?_ | refine Ob.g ?_ | refine Ob.e ?_ | refine Ob.m ?_ | refine Ob.mk (Nat.le_of_ble_eq_true rfl) ?_ | refine JoinVC.on ?_ | refine Nils.mk (fun h => ?_) ?_ | refine Val.t ?_ | refine Val.d ?_ | refine Mm.mk ?_ | (refine Br.mk (fun h => ?_) (fun h => ?_) <;> first | (exfalso; omega; done) | (exfalso; simp at h; done) | skip))
    repeat refine Mm.mk ?_
    conv => whnf
    refine EndVC.mk _ rfl _ _ (⟨.bad he rfl, rfl⟩) ?_
    refine ⟨[], rfl, rfl, ?_, ?_⟩ <;> repeat' (first | exact trivial | exact rfl | exact Iff.rfl | apply And.intro)
  have h24 := hA.sngs.len
  by_cases hl : p.length = l.length + 1
  rotate_left
  · repeat' ((conv => whnf); first | refine Rng.g ?_ | refine Ob.g ?_ | refine Ob.e ?_ | refine Ob.m ?_ | refine Ob.mk (Nat.le_of_ble_eq_true rfl) ?_ | refine JoinVC.on ?_ | refine Nils.mk (fun h => ?_) ?_ | refine Val.t ?_ | refine Val.d ?_ | refine Mm.mk ?_ | (refine Br.mk (fun h => ?_) (fun h => ?_) <;> first | (exfalso; omega; done) | (exfalso; simp at h; done) | skip))
    repeat refine Mm.mk ?_
    conv => whnf
    refine EndVC.mk _ rfl _ _ (⟨.len hA hl rfl, rfl⟩) ?_
    refine ⟨[], rfl, rfl, ?_, ?_⟩ <;> repeat' (first | exact trivial | exact rfl | exact Iff.rfl | apply And.intro)
  have gz : rI (i64s p) (Int.toNat 0) 0 = p.getD 0 0 := i64s_get p 0
  by_cases hz : p.getD 0 0 = 0
  rotate_left
  · repeat' ((conv => whnf); first | rw [gz] | refine Rng.g ?_ | refine Ob.g ?_ | refine Ob.e ?_ | refine Ob.m ?_ | refine Ob.mk (Nat.le_of_ble_eq_true rfl) ?_ | refine JoinVC.on ?_ | refine Nils.mk (fun h => ?_) ?_ | refine Val.t ?_ | refine Val.d ?_ | refine Mm.mk ?_ | (refine Br.mk (fun h => ?_) (fun h => ?_) <;> first | (exfalso; omega; done) | (exfalso; simp at h; done) | skip))
    repeat refine Mm.mk ?_
    conv => whnf
    refine EndVC.mk _ rfl _ _ (⟨.rng hA hl (.inl hz) rfl, rfl⟩) ?_
    refine ⟨[], rfl, rfl, ?_, ?_⟩ <;> repeat' (first | exact trivial | exact rfl | exact Iff.rfl | apply And.intro)
  have c50 := s50 p hpl
  by_cases hin : ∃ j, j < p.length ∧ outP (p.getD j 0)
  · repeat' ((conv => whnf); first | rw [gz] | refine Rng.g ?_ | refine Ob.g ?_ | refine Ob.e ?_ | refine Ob.m ?_ | refine Ob.mk (Nat.le_of_ble_eq_true rfl) ?_ | refine JoinVC.on ?_ | refine Nils.mk (fun h => ?_) ?_ | refine Val.t ?_ | refine Val.d ?_ | refine Mm.mk ?_ | refine CallVC.pure rfl (c50) ?_ | refine CallVC0.pure rfl (c50) ?_ | (refine Br.mk (fun h => ?_) (fun h => ?_) <;> first | (exfalso; omega; done) | (exfalso; simp at h; done) | skip))
    · repeat refine Mm.mk ?_
      conv => whnf
      refine EndVC.mk _ rfl _ _ (⟨.rng hA hl (.inr hin) rfl, rfl⟩) ?_
      refine ⟨[], rfl, rfl, ?_, ?_⟩ <;> repeat' (first | exact trivial | exact rfl | exact Iff.rfl | apply And.intro)
    · exact absurd hin h
  repeat' ((conv => whnf); first | rw [gz] | refine Rng.g ?_ | refine Ob.g ?_ | refine Ob.e ?_ | refine Ob.m ?_ | refine Ob.mk (Nat.le_of_ble_eq_true rfl) ?_ | refine JoinVC.on ?_ | refine Nils.mk (fun h => ?_) ?_ | refine Val.t ?_ | refine Val.d ?_ | refine Mm.mk ?_ | refine CallVC.pure rfl (c50) ?_ | refine CallVC0.pure rfl (c50) ?_ | (refine Br.mk (fun h => ?_) (fun h => ?_) <;> first | (exfalso; omega; done) | (exfalso; simp at h; done) | skip))
  · exact absurd h hin
  have hin' : ∀ j, j < p.length → ¬ outP (p.getD j 0) := fun j hj ho => hin ⟨j, hj, ho⟩
  have hbd : ∀ j, j < p.length → -1 ≤ p.getD j 0 ∧ p.getD j 0 ≤ 25165824 := fun j hj => by have := hin' j hj; unfold outP at this; omega
  refine LoopVC.mk (fun m st => ∃ (i : Nat) (a : Int), i ≤ l.length ∧ m = l.length - i ∧ WrgOK l.length (badP F l p i []) a ∧ st = ⟨0, envA 99 [(1, .x (lSng l)), (5, .x (.one (.ptr 0 0))), (8, .x (.one (.ptr 2 0))), (10, .x (.one (.ptr 3 0))), (44, .int .i64 (l.length : Int)), (45, .int .i64 (i : Int))], [some (.box 48 [.lst true [.int .i64] (i64s p)]), some (bAlb F l (l.length : Int)), some (.box 85 [.ptr 1 0]), some (.box 3 [.int .i64 a])]⟩) _ _ ⟨0, (l.length : Int) + 1, Nat.zero_le _, rfl, wrg_start, rfl⟩ ?_ ?_
  · refine ⟨[some 0, some 1, some 2, some 3], rfl, rfl, ?_, ?_⟩ <;> repeat' (first | exact trivial | exact rfl | exact Iff.rfl | apply And.intro)
    all_goals rw [ll]
  rintro m _ ⟨i, a, hi, hm, hW, rfl⟩
  have hWr := hW.rng
  by_cases hi' : i < l.length
  rotate_left
  · have ei : i = l.length := by omega
    subst ei
    by_cases ha : a ≤ l.length
    · repeat' ((conv => whnf); first | refine Rng.g ?_ | refine Ob.g ?_ | refine Ob.e ?_ | refine Ob.m ?_ | refine Ob.mk (Nat.le_of_ble_eq_true rfl) ?_ | refine JoinVC.on ?_ | refine Nils.mk (fun h => ?_) ?_ | refine Val.t ?_ | refine Val.d ?_ | refine Mm.mk ?_ | (refine Br.mk (fun h => ?_) (fun h => ?_) <;> first | (exfalso; omega; done) | (exfalso; simp at h; done) | skip))
      repeat refine Mm.mk ?_
      conv => whnf
      refine EndVC.mk _ rfl _ _ (⟨.wrong hA hl hz hin' a.toNat (by omega) (hW.bad ha) (fun j hj => (by have := hW.least j hj; omega)) rfl, rfl⟩) ?_
      refine ⟨[], rfl, rfl, ?_, ?_⟩ <;> repeat' (first | exact trivial | exact rfl | exact Iff.rfl | apply And.intro)
      omega
    · have hno : ∀ j, ¬ wrongP F l p j := fun j hj => by
        have h1 := hW.least j hj
        obtain ⟨i', k, h2, _⟩ := hj
        rcases h2 with ⟨_, h2⟩ | ⟨_, h2⟩
        · have := h2.le
          omega
        · simp at h2
      repeat' ((conv => whnf); first | refine Rng.g ?_ | refine Ob.g ?_ | refine Ob.e ?_ | refine Ob.m ?_ | refine Ob.mk (Nat.le_of_ble_eq_true rfl) ?_ | refine JoinVC.on ?_ | refine Nils.mk (fun h => ?_) ?_ | refine Val.t ?_ | refine Val.d ?_ | refine Mm.mk ?_ | (refine Br.mk (fun h => ?_) (fun h => ?_) <;> first | (exfalso; omega; done) | (exfalso; simp at h; done) | skip))
      repeat refine Mm.mk ?_
      conv => whnf
      refine EndVC.mk _ rfl _ _ (⟨.ok hA hl hz hin' hno rfl, rfl⟩) ?_
      refine ⟨[], rfl, rfl, ?_, ?_⟩ <;> repeat' (first | exact trivial | exact rfl | exact Iff.rfl | apply And.intro)
  have gi : rI (i64s p) (i : Int).toNat 0 = p.getD i 0 := by rw [Int.toNat_natCast]; exact i64s_get p i
  have hbi := hbd i (by omega)
  by_cases h0 : p.getD i 0 < 0
  · repeat' ((conv => whnf); first | rw [gi] | refine Rng.g ?_ | refine Ob.g ?_ | refine Ob.e ?_ | refine Ob.m ?_ | refine Ob.mk (Nat.le_of_ble_eq_true rfl) ?_ | refine JoinVC.on ?_ | refine Nils.mk (fun h => ?_) ?_ | refine Val.t ?_ | refine Val.d ?_ | refine Mm.mk ?_ | (refine Br.mk (fun h => ?_) (fun h => ?_) <;> first | (exfalso; omega; done) | (exfalso; simp at h; done) | skip))
    refine Back.mk (l.length - (i + 1)) _ (by omega) ⟨i + 1, a, by omega, rfl, hW.congr (badP_skip h0), rfl⟩ ?_
    refine ⟨[some 0, some 1, some 2, some 3], rfl, rfl, ?_, ?_⟩ <;> repeat' (first | exact trivial | exact rfl | exact Iff.rfl | apply And.intro)
  repeat' ((conv => whnf); first | rw [gi] | refine Rng.g ?_ | refine Ob.g ?_ | refine Ob.e ?_ | refine Ob.m ?_ | refine Ob.mk (Nat.le_of_ble_eq_true rfl) ?_ | refine JoinVC.on ?_ | refine Nils.mk (fun h => ?_) ?_ | refine Val.t ?_ | refine Val.d ?_ | refine Mm.mk ?_ | (refine Br.mk (fun h => ?_) (fun h => ?_) <;> first | (exfalso; omega; done) | (exfalso; simp at h; done) | skip))
  conv => whnf
  refine CallVC.mk [1] _ _ _ rfl rfl rfl (s53 F l (l.length : Int) (i : Int)) (fun r m' h' => ?_)
  obtain ⟨rfl, rfl⟩ := h'
  conv => whnf
  have lpl := plsA_len F l
  have h8 := hA.few
  repeat' ((conv => whnf); first | refine Rng.g ?_ | refine Ob.g ?_ | refine Ob.e ?_ | refine Ob.m ?_ | refine Ob.mk (Nat.le_of_ble_eq_true rfl) ?_ | refine JoinVC.on ?_ | refine Nils.mk (fun h => ?_) ?_ | refine Val.t ?_ | refine Val.d ?_ | refine Mm.mk ?_ | (refine Br.mk (fun h => ?_) (fun h => ?_) <;> first | (exfalso; omega; done) | (exfalso; simp at h; done) | skip))
  change RangeVC _ _ _ _ _
  refine RangeVC.mk e76 (isem_of_awp pMix [] Try.func76 (c := bodyOf Try.f76) rfl (by kernel_rfl) Try.ntmps76 (by kernel_rfl) ?_)
  repeat' ((conv => whnf); first | refine Rng.g ?_ | refine Ob.g ?_ | refine Ob.e ?_ | refine Ob.m ?_ | refine Ob.mk (Nat.le_of_ble_eq_true rfl) ?_ | refine JoinVC.on ?_ | refine Nils.mk (fun h => ?_) ?_ | refine Val.t ?_ | refine Val.d ?_ | refine Mm.mk ?_ | (refine Br.mk (fun h => ?_) (fun h => ?_) <;> first | (exfalso; omega; done) | (exfalso; simp at h; done) | skip))
  refine LoopVC.mk (fun n st => ∃ (k : Nat) (a : Int), k ≤ F.length ∧ n = F.length - k ∧ WrgOK l.length (badP F l p i (fcs F l i k)) a ∧ st = ⟨8, envA 43 [(0, .x (.one (.yld 7))), (1, .x (.one (.ptr 5 0))), (2, .x (.one (.ptr 6 0))), (10, .x (.one (.lst true [.pt KPl] (plsA F l)))), (11, .int .i64 (F.length : Int)), (12, .int .i64 (k : Int))], [some (.box 48 [.lst true [.int .i64] (i64s p)]), some (bAlb F l (l.length : Int)), some (.box 85 [.ptr 1 0]), some (.box 3 [.int .i64 a]), some (.box 3 [.int .i64 (i : Int)]), some (.box 85 [.ptr 1 0]), some (.box 3 [.int .i64 (i : Int)]), some (.loop [56] (cAs rf20) (cBo rf20) (envA 99 [(1, .x (lSng l)), (5, .x (.one (.ptr 0 0))), (8, .x (.one (.ptr 2 0))), (10, .x (.one (.ptr 3 0))), (11, .x (.one (.ptr 4 0))), (44, .int .i64 (l.length : Int)), (45, .int .i64 (i : Int))]) .ready)]⟩) _ _ ⟨0, a, Nat.zero_le _, rfl, hW, rfl⟩ ?_ ?_
  · refine ⟨[some 0, some 1, some 2, some 3, some 4, some 5, some 6, some 7], rfl, rfl, ?_, ?_⟩ <;> repeat' (first | exact trivial | exact rfl | exact Iff.rfl | apply And.intro)
    exact congrArg Int.ofNat lpl
  clear hW hWr
  rintro n _ ⟨k, a, hk, hn, hW, rfl⟩
  by_cases hk' : k < F.length
  rotate_left
  · have ek : k = F.length := by omega
    subst ek
    repeat' ((conv => whnf); first | refine Rng.g ?_ | refine Ob.g ?_ | refine Ob.e ?_ | refine Ob.m ?_ | refine Ob.mk (Nat.le_of_ble_eq_true rfl) ?_ | refine JoinVC.on ?_ | refine Nils.mk (fun h => ?_) ?_ | refine Val.t ?_ | refine Val.d ?_ | refine Mm.mk ?_ | (refine Br.mk (fun h => ?_) (fun h => ?_) <;> first | (exfalso; omega; done) | (exfalso; simp at h; done) | skip))
    refine Back.mk (l.length - (i + 1)) _ (by omega) ⟨i + 1, a, by omega, rfl, hW.congr badP_next, rfl⟩ ?_
    refine ⟨[some 0, some 1, some 2, some 3], rfl, rfl, ?_, ?_⟩ <;> repeat' (first | exact trivial | exact rfl | exact Iff.rfl | apply And.intro)
  have gk : rA (plsA F l) (k : Int).toNat 0 = plA (F.getD k f0) l := by rw [Int.toNat_natCast]; exact plsA_at F l k hk'
  have hf := hA.fmts k hk'
  repeat' ((conv => whnf); first | rw [gk] | refine Rng.g ?_ | refine Ob.g ?_ | refine Ob.e ?_ | refine Ob.m ?_ | refine Ob.mk (Nat.le_of_ble_eq_true rfl) ?_ | refine JoinVC.on ?_ | refine Nils.mk (fun h => ?_) ?_ | refine Val.t ?_ | refine Val.d ?_ | refine Mm.mk ?_ | (refine Br.mk (fun h => ?_) (fun h => ?_) <;> first | (exfalso; omega; done) | (exfalso; simp at h; done) | skip))
  refine LoopVC.mk (fun n st => ∃ (j : Nat) (a : Int), i < j ∧ j ≤ l.length + 1 ∧ n = l.length + 1 - j ∧ WrgOK l.length (badP F l p i (fcs F l i k ++ fcj F l i k j)) a ∧ st = ⟨8, envA 43 [(0, .x (.one (.yld 7))), (1, .x (.one (.ptr 5 0))), (2, .x (.one (.ptr 6 0))), (4, .int .i64 (k : Int)), (5, .x (plX (F.getD k f0) l)), (6, .int .i64 (j : Int)), (10, .x (.one (.lst true [.pt KPl] (plsA F l)))), (11, .int .i64 (F.length : Int)), (12, .int .i64 (k : Int))], [some (.box 48 [.lst true [.int .i64] (i64s p)]), some (bAlb F l (l.length : Int)), some (.box 85 [.ptr 1 0]), some (.box 3 [.int .i64 a]), some (.box 3 [.int .i64 (i : Int)]), some (.box 85 [.ptr 1 0]), some (.box 3 [.int .i64 (i : Int)]), some (.loop [56] (cAs rf20) (cBo rf20) (envA 99 [(1, .x (lSng l)), (5, .x (.one (.ptr 0 0))), (8, .x (.one (.ptr 2 0))), (10, .x (.one (.ptr 3 0))), (11, .x (.one (.ptr 4 0))), (44, .int .i64 (l.length : Int)), (45, .int .i64 (i : Int))]) .ready)]⟩) _ _ ⟨i + 1, a, by omega, by omega, rfl, by rw [fcj_lo _ (Nat.le_refl _), List.append_nil]; exact hW, rfl⟩ ?_ ?_
  · refine ⟨[some 0, some 1, some 2, some 3, some 4, some 5, some 6, some 7], rfl, rfl, ?_, ?_⟩ <;> repeat' (first | exact trivial | exact rfl | exact Iff.rfl | apply And.intro)
  clear hW
  rintro n2 _ ⟨j, a, hij, hj, hn2, hW, rfl⟩
  have c54 := s54g i j (by omega)
  by_cases hj' : j ≤ l.length
  rotate_left
  · have ej : j = l.length + 1 := by omega
    subst ej
    repeat' ((conv => whnf); first | refine Rng.g ?_ | refine Ob.g ?_ | refine Ob.e ?_ | refine Ob.m ?_ | refine Ob.mk (Nat.le_of_ble_eq_true rfl) ?_ | refine JoinVC.on ?_ | refine Nils.mk (fun h => ?_) ?_ | refine Val.t ?_ | refine Val.d ?_ | refine Mm.mk ?_ | (refine Br.mk (fun h => ?_) (fun h => ?_) <;> first | (exfalso; omega; done) | (exfalso; simp at h; done) | skip))
    refine Back.mk (F.length - (k + 1)) _ (by omega) ⟨k + 1, a, by omega, rfl, hW, rfl⟩ ?_
    refine ⟨[some 0, some 1, some 2, some 3, some 4, some 5, some 6, some 7], rfl, rfl, ?_, ?_⟩ <;> repeat' (first | exact trivial | exact rfl | exact Iff.rfl | apply And.intro)
  have c47 := s47p (F.getD k f0) l (seqL i (j - i)) hf hA.sngs (fun x hx => by rw [seqL_len] at hx; rw [seqL_get _ _ _ hx]; omega) (by rw [seqL_len]; omega)
  repeat' ((conv => whnf); first | refine Rng.g ?_ | refine Ob.g ?_ | refine Ob.e ?_ | refine Ob.m ?_ | refine Ob.mk (Nat.le_of_ble_eq_true rfl) ?_ | refine JoinVC.on ?_ | refine Nils.mk (fun h => ?_) ?_ | refine Val.t ?_ | refine Val.d ?_ | refine Mm.mk ?_ | (refine Br.mk (fun h => ?_) (fun h => ?_) <;> first | (exfalso; omega; done) | (exfalso; simp at h; done) | skip))
  conv => whnf
  refine CallVC.mk [] _ _ _ rfl rfl rfl (c54) (fun r m' h' => ?_)
  obtain ⟨rfl, rfl⟩ := h'
  conv => whnf
  repeat' ((conv => whnf); first | refine Rng.g ?_ | refine Ob.g ?_ | refine Ob.e ?_ | refine Ob.m ?_ | refine Ob.mk (Nat.le_of_ble_eq_true rfl) ?_ | refine JoinVC.on ?_ | refine Nils.mk (fun h => ?_) ?_ | refine Val.t ?_ | refine Val.d ?_ | refine Mm.mk ?_ | (refine Br.mk (fun h => ?_) (fun h => ?_) <;> first | (exfalso; omega; done) | (exfalso; simp at h; done) | skip))
  conv => whnf
  refine CallVC.mk [] _ _ _ rfl rfl rfl (c47) (fun r m' h' => ?_)
  obtain ⟨rfl, rfl⟩ := h'
  conv => whnf
  repeat refine Mm.mk ?_
  try refine JoinVC.on ?_
  refine Br.mk (fun hL => ?_) (fun hL => ?_)
  rotate_left
  · have hnf : ¬ faceP F l k i j := fun h => hL h.lay
    rw [fcj_end hA hij hnf hj] at hW
    repeat' ((conv => whnf); first | refine Rng.g ?_ | refine Ob.g ?_ | refine Ob.e ?_ | refine Ob.m ?_ | refine Ob.mk (Nat.le_of_ble_eq_true rfl) ?_ | refine JoinVC.on ?_ | refine Nils.mk (fun h => ?_) ?_ | refine Val.t ?_ | refine Val.d ?_ | refine Mm.mk ?_ | (refine Br.mk (fun h => ?_) (fun h => ?_) <;> first | (exfalso; omega; done) | (exfalso; simp at h; done) | skip))
    refine Back.mk (F.length - (k + 1)) _ (by omega) ⟨k + 1, a, by omega, rfl, hW, rfl⟩ ?_
    refine ⟨[some 0, some 1, some 2, some 3, some 4, some 5, some 6, some 7], rfl, rfl, ?_, ?_⟩ <;> repeat' (first | exact trivial | exact rfl | exact Iff.rfl | apply And.intro)
  have hface : faceP F l k i j := ⟨hk', hij, hj', hL⟩
  have hW' := stepG_ok hW (by omega) (q := (k, j)) hface
  have hbj := hbd j (by omega)
  have hco := hf.cost
  have gc : rI (rA (plsA F l) (k : Int).toNat 0) 0 (0 + 0 + (0 + 1 + 1 + 1 + 1 + 1 + 1 + 1)) = (F.getD k f0).cost := by rw [gk]; rfl
  have et : ((i : Int) + ((j : Int) - i)).toNat = j := by omega
  have gj : rI (i64s p) ((i : Int) + ((j : Int) - i)).toNat 0 = p.getD j 0 := by rw [et]; exact i64s_get p j
  have fin : WrgOK l.length (badP F l p i (fcs F l i k ++ fcj F l i k (j + 1))) (stepG F p i a (k, j)) := by rw [fcj_yes hface, ← List.append_assoc]; exact hW'
  repeat' ((conv => whnf); first | refine Rng.g ?_ | refine Ob.g ?_ | refine Ob.e ?_ | refine Ob.m ?_ | refine Ob.mk (Nat.le_of_ble_eq_true rfl) ?_ | refine JoinVC.on ?_ | refine Nils.mk (fun h => ?_) ?_ | refine Val.t ?_ | refine Val.d ?_ | refine Mm.mk ?_ | (refine Br.mk (fun h => ?_) (fun h => ?_) <;> first | (exfalso; omega; done) | (exfalso; simp at h; done) | skip))
  change YieldVC _ _ _ _ _
  refine YieldVC.mk (rsem_of_awp pMix [] rfl (by kernel_rfl) ?_)
  repeat' ((conv => whnf); first | refine Rng.g ?_ | refine Ob.g ?_ | refine Ob.e ?_ | refine Ob.m ?_ | refine Ob.mk (Nat.le_of_ble_eq_true rfl) ?_ | refine JoinVC.on ?_ | refine Nils.mk (fun h => ?_) ?_ | refine Val.t ?_ | refine Val.d ?_ | refine Mm.mk ?_ | (refine Br.mk (fun h => ?_) (fun h => ?_) <;> first | (exfalso; omega; done) | (exfalso; simp at h; done) | skip))
  · have e : stepG F p i a (k, j) = if ((i : Int) + ((j : Int) - i)) < a then ((i : Int) + ((j : Int) - i)) else a := by
      rw [show (i : Int) + ((j : Int) - i) = j by omega]
      exact if_pos (.inl (by show p.getD j 0 < 0; omega))
    refine Back.mk (l.length + 1 - (j + 1)) _ (by omega) ⟨j + 1, _, by omega, by omega, rfl, fin, rfl⟩ ?_
    rw [e]
    refine ⟨[some 0, some 1, some 2, some 3, some 4, some 5, some 6, some 7], rfl, rfl, ?_, ?_⟩ <;> repeat' (first | exact trivial | exact rfl | exact Iff.rfl | apply And.intro)
  · have e : stepG F p i a (k, j) = if ((i : Int) + ((j : Int) - i)) < a then ((i : Int) + ((j : Int) - i)) else a := by
      rw [show (i : Int) + ((j : Int) - i) = j by omega]
      exact if_pos (.inr (by show p.getD i 0 + (F.getD k f0).cost < p.getD j 0; omega))
    refine Back.mk (l.length + 1 - (j + 1)) _ (by omega) ⟨j + 1, _, by omega, by omega, rfl, fin, rfl⟩ ?_
    rw [e]
    refine ⟨[some 0, some 1, some 2, some 3, some 4, some 5, some 6, some 7], rfl, rfl, ?_, ?_⟩ <;> repeat' (first | exact trivial | exact rfl | exact Iff.rfl | apply And.intro)
  · have e : stepG F p i a (k, j) = a := if_neg (by show ¬ (p.getD j 0 < 0 ∨ p.getD i 0 + (F.getD k f0).cost < p.getD j 0); omega)
    refine Back.mk (l.length + 1 - (j + 1)) _ (by omega) ⟨j + 1, _, by omega, by omega, rfl, fin, rfl⟩ ?_
    rw [e]
    refine ⟨[some 0, some 1, some 2, some 3, some 4, some 5, some 6, some 7], rfl, rfl, ?_, ?_⟩ <;> repeat' (first | exact trivial | exact rfl | exact Iff.rfl | apply And.intro)
end Go.Sx

namespace Go.Sx
open Go Go.Proofs
set_option maxRecDepth 10000
set_option maxHeartbeats 8000000
/-! ### The cost of a plan -/
structure Fc where
  fm : Int
  mn : Int
abbrev fc0 : Fc := ⟨0, 0⟩
@[reducible] def Fc.x (a : Fc) : XV := .agg [.int .i64 a.fm, .int .i64 a.mn]
@[reducible] def KFc : List CK := [.int .i64, .int .i64]
def facA (P : List Fc) : Arr := P.map fun a => [.int a.fm, .int a.mn]
theorem facA_len (P : List Fc) : (facA P).length = P.length := by simp [facA]
theorem facA_0 (P : List Fc) (i : Nat) : rI (facA P) i 0 = (P.getD i fc0).fm := map_rI _ fc0 P i 0 rfl
theorem facA_1 (P : List Fc) (i : Nat) : rI (facA P) i (0 + 1) = (P.getD i fc0).mn := map_rI _ fc0 P i 1 rfl
@[reducible] def lFac (P : List Fc) : XV := .one (.lst true KFc (facA P))
def Fc.ok (n : Nat) (a : Fc) : Prop := (0 ≤ a.fm ∧ a.fm < n) ∧ 1 ≤ a.mn ∧ a.mn ≤ 24
instance (n : Nat) (a : Fc) : Decidable (a.ok n) := by unfold Fc.ok; exact inferInstance
def Fc.p (a : Fc) : Nat × Nat := (a.fm.toNat, a.mn.toNat)
/-- How many tracks the first faces have. -/
def sumM (P : List Fc) : Nat → Int
  | 0 => 0
  | i + 1 => sumM P i + (P.getD i fc0).mn
def sumN : List (Nat × Nat) → Nat → Nat
  | _, 0 => 0
  | [], _ + 1 => 0
  | a :: t, i + 1 => a.2 + sumN t i
theorem planOK_iff {F : List Fmt} {l : List Sng} : ∀ (pl : List (Nat × Nat)) (s : Nat), PlanOK F l s pl ↔ (∀ i, i < pl.length → faceP F l (pl.getD i (0, 0)).1 (s + sumN pl i) (s + sumN pl i + (pl.getD i (0, 0)).2)) ∧ s + sumN pl pl.length = l.length
  | [], s => by
    constructor
    · exact fun h => ⟨fun i hi => absurd hi (Nat.not_lt_zero i), h⟩
    · exact fun h => h.2
  | (k, m) :: t, s => by
    show (faceP F l k s (s + m) ∧ PlanOK F l (s + m) t) ↔ _
    rw [planOK_iff t (s + m)]
    constructor
    · rintro ⟨h1, h2, h3⟩
      refine ⟨fun i hi => ?_, ?_⟩
      · cases i with
        | zero => exact h1
        | succ i =>
          have := h2 i (by simpa using hi)
          simp only [sumN, List.getD_cons_succ]
          rw [show s + (m + sumN t i) = s + m + sumN t i by omega]
          exact this
      · simp only [List.length_cons, sumN]
        omega
    · rintro ⟨h1, h2⟩
      refine ⟨h1 0 (by simp), fun i hi => ?_, ?_⟩
      · have := h1 (i + 1) (by simpa using hi)
        simp only [sumN, List.getD_cons_succ] at this
        rw [show s + (m + sumN t i) = s + m + sumN t i by omega] at this
        exact this
      · simp only [List.length_cons, sumN] at h2
        omega
theorem sumN_succ : ∀ (pl : List (Nat × Nat)) (i : Nat), i < pl.length → sumN pl (i + 1) = sumN pl i + (pl.getD i (0, 0)).2
  | [], i, h => absurd h (Nat.not_lt_zero i)
  | a :: t, 0, _ => by simp [sumN]
  | a :: t, i + 1, h => by
    have := sumN_succ t i (by simpa using h)
    simp only [sumN, List.getD_cons_succ] at this ⊢
    omega
theorem map_p_get (P : List Fc) (i : Nat) (h : i < P.length) : (P.map Fc.p).getD i (0, 0) = (P.getD i fc0).p := by
  simp [List.getD_eq_getElem?_getD, h]
theorem sumM_N {P : List Fc} {n : Nat} (h : ∀ i, i < P.length → (P.getD i fc0).ok n) : ∀ i, i ≤ P.length → (sumN (P.map Fc.p) i : Int) = sumM P i
  | 0, _ => by cases P <;> rfl
  | i + 1, hi => by
    have h1 := sumM_N h i (by omega)
    have h2 := (h i (by omega)).2.1
    rw [sumN_succ _ _ (by rw [List.length_map]; omega), map_p_get P i (by omega)]
    simp only [sumM, Fc.p]
    omega
theorem sumM_bd {P : List Fc} {n : Nat} (k : Nat) (h : ∀ i, i < k → (P.getD i fc0).ok n) : ∀ i, i ≤ k → (i : Int) ≤ sumM P i ∧ sumM P i ≤ 24 * (i : Int)
  | 0, _ => by simp [sumM]
  | i + 1, hi => by
    have h1 := sumM_bd k h i (by omega)
    have h2 := (h i (by omega)).2
    simp only [sumM]
    omega
theorem sumM_mono {P : List Fc} {n : Nat} {k : Nat} (h : ∀ i, i < k → (P.getD i fc0).ok n) {i : Nat} : ∀ d, i + d ≤ k → sumM P i ≤ sumM P (i + d)
  | 0, _ => Int.le_refl _
  | d + 1, hd => by
    have h1 := sumM_mono h (i := i) d (by omega)
    have h2 := (h (i + d) (by omega)).2.1
    show _ ≤ sumM P (i + d) + (P.getD (i + d) fc0).mn
    omega
/-- The cost of the first faces. -/
def cstM (F : List Fmt) (P : List Fc) : Nat → Int
  | 0 => 0
  | i + 1 => cstM F P i + (F.getD (P.getD i fc0).fm.toNat f0).cost
theorem costP_app (F : List Fmt) : ∀ (a b : List (Nat × Nat)), costP F (a ++ b) = costP F a + costP F b
  | [], b => by simp [costP]
  | (k, m) :: t, b => by
    simp only [List.cons_append, costP, costP_app F t b]
    omega
theorem cstM_eq (F : List Fmt) (P : List Fc) : ∀ i, i ≤ P.length → cstM F P i = costP F ((P.take i).map Fc.p)
  | 0, _ => by simp [cstM, costP]
  | i + 1, h => by
    rw [take_snoc P i fc0 (by omega), List.map_append, costP_app, ← cstM_eq F P i (by omega)]
    simp [cstM, costP, Fc.p]
theorem cstM_bd {F : List Fmt} {l : List Sng} (hA : AlbOK F l) {P : List Fc} {k : Nat} (h : ∀ i, i < k → (P.getD i fc0).ok F.length) : ∀ i, i ≤ k → 0 ≤ cstM F P i ∧ cstM F P i ≤ 1048576 * (i : Int)
  | 0, _ => by simp [cstM]
  | i + 1, hi => by
    have h1 := cstM_bd hA h i (by omega)
    have h2 := (h i (by omega)).1
    have h3 := (hA.fmts (P.getD i fc0).fm.toNat (by omega)).cost
    simp only [cstM]
    omega
def AllF (F : List Fmt) (P : List Fc) : Prop := ∀ i, i < P.length → (P.getD i fc0).ok F.length
def plnP (P : List Fc) : List (Nat × Nat) := P.map Fc.p
open Classical in
noncomputable def cosE (F : List Fmt) (l : List Sng) (P : List Fc) : Int := if fmsE F l ≠ 0 then fmsE F l else if 24 < P.length then 6 else if ¬ AllF F P then 3 else if sumM P P.length ≠ (l.length : Int) then 17 else if PlanOK F l 0 (plnP P) then 0 else 15
open Classical in
noncomputable def cosN (F : List Fmt) (l : List Sng) (P : List Fc) : Int := if cosE F l P = 0 then costP F (plnP P) else 0
theorem cosE_bad {F : List Fmt} {l : List Sng} {P : List Fc} (h : fmsE F l ≠ 0) : cosE F l P = fmsE F l := if_pos h
theorem cosE_many {F : List Fmt} {l : List Sng} {P : List Fc} (hA : AlbOK F l) (h : 24 < P.length) : cosE F l P = 6 := by
  unfold cosE
  rw [if_neg (by rw [fmsE_0.2 hA]; simp), if_pos h]
theorem cosE_rng {F : List Fmt} {l : List Sng} {P : List Fc} (hA : AlbOK F l) (h : ¬ 24 < P.length) (h2 : ¬ AllF F P) : cosE F l P = 3 := by
  unfold cosE
  rw [if_neg (by rw [fmsE_0.2 hA]; simp), if_neg h, if_pos h2]
theorem cosE_eq {F : List Fmt} {l : List Sng} {P : List Fc} (hA : AlbOK F l) (h : ¬ 24 < P.length) (h2 : AllF F P) (h3 : sumM P P.length ≠ (l.length : Int)) : cosE F l P = 17 := by
  unfold cosE
  rw [if_neg (by rw [fmsE_0.2 hA]; simp), if_neg h, if_neg (fun hc => hc h2), if_pos h3]
theorem cosE_plan {F : List Fmt} {l : List Sng} {P : List Fc} (hA : AlbOK F l) (h : ¬ 24 < P.length) (h2 : AllF F P) (h3 : sumM P P.length = (l.length : Int)) (h4 : ¬ PlanOK F l 0 (plnP P)) : cosE F l P = 15 := by
  unfold cosE
  rw [if_neg (by rw [fmsE_0.2 hA]; simp), if_neg h, if_neg (fun hc => hc h2), if_neg (fun hc => hc h3), if_neg h4]
theorem cosE_ok {F : List Fmt} {l : List Sng} {P : List Fc} (hA : AlbOK F l) (h : ¬ 24 < P.length) (h2 : AllF F P) (h3 : sumM P P.length = (l.length : Int)) (h4 : PlanOK F l 0 (plnP P)) : cosE F l P = 0 := by
  unfold cosE
  rw [if_neg (by rw [fmsE_0.2 hA]; simp), if_neg h, if_neg (fun hc => hc h2), if_neg (fun hc => hc h3), if_pos h4]
theorem cosE_0 {F : List Fmt} {l : List Sng} {P : List Fc} (h : cosE F l P = 0) : AlbOK F l ∧ P.length ≤ 24 ∧ AllF F P ∧ PlanOK F l 0 (plnP P) := by
  by_cases hA : AlbOK F l
  · by_cases h1 : 24 < P.length
    · rw [cosE_many hA h1] at h; cases h
    · by_cases h2 : AllF F P
      · by_cases h3 : sumM P P.length = (l.length : Int)
        · by_cases h4 : PlanOK F l 0 (plnP P)
          · exact ⟨hA, by omega, h2, h4⟩
          · rw [cosE_plan hA h1 h2 h3 h4] at h; cases h
        · rw [cosE_eq hA h1 h2 h3] at h; cases h
      · rw [cosE_rng hA h1 h2] at h; cases h
  · have h0 : fmsE F l ≠ 0 := fun h => hA (fmsE_0.1 h)
    rw [cosE_bad h0] at h
    exact absurd h h0
/-- A plan is possible if each of its faces is. -/
theorem plan_faces {F : List Fmt} {l : List Sng} {P : List Fc} (h2 : AllF F P) (h3 : sumM P P.length = (l.length : Int)) : PlanOK F l 0 (plnP P) ↔ ∀ i, i < P.length → LayOK (F.getD (P.getD i fc0).fm.toNat f0) l (seqL (sumM P i).toNat (P.getD i fc0).mn.toNat) := by
  have hs := fun i hi => sumM_N h2 i hi
  rw [planOK_iff]
  have hl : (plnP P).length = P.length := by simp [plnP]
  rw [hl]
  constructor
  · rintro ⟨h4, _⟩ i hi
    have := (h4 i hi).lay
    have h6 := hs i (by omega)
    unfold plnP at this
    rw [map_p_get P i hi] at this
    simp only [Fc.p, Nat.zero_add] at this
    rw [show sumN (P.map Fc.p) i = (sumM P i).toNat by omega] at this
    rw [show (sumM P i).toNat + (P.getD i fc0).mn.toNat - (sumM P i).toNat = (P.getD i fc0).mn.toNat by omega] at this
    exact this
  · intro h4
    refine ⟨fun i hi => ?_, ?_⟩
    · have h6 := hs i (by omega)
      have h7 := h2 i hi
      have h8 := sumM_mono h2 (i := i + 1) (P.length - (i + 1)) (by omega)
      rw [show i + 1 + (P.length - (i + 1)) = P.length by omega, h3] at h8
      have h9 : sumM P (i + 1) = sumM P i + (P.getD i fc0).mn := rfl
      have h10 := (sumM_bd P.length h2 i (by omega)).1
      unfold plnP
      rw [map_p_get P i hi]
      simp only [Fc.p, Nat.zero_add]
      rw [show sumN (P.map Fc.p) i = (sumM P i).toNat by omega]
      have h11 := h7.1
      have h12 := h7.2
      refine ⟨by omega, by omega, by omega, ?_⟩
      rw [show (sumM P i).toNat + (P.getD i fc0).mn.toNat - (sumM P i).toNat = (P.getD i fc0).mn.toNat by omega]
      exact h4 i hi
    · have := hs P.length (Nat.le_refl _)
      unfold plnP
      omega
theorem s21 (F : List Fmt) (l : List Sng) (P : List Fc) (hI : ∀ i, (F.getD i f0).nm.size ≤ 140737488355328) : PSpec Try.prog 21 [lFmt F, lSng l, lFac P] (.tup [I (cosN F l P), I (cosE F l P)]) := by
  have lF := fmtA_len F
  have ll := sngA_len l
  have lP := facA_len P
  refine spec_of pMix (O := []) Try.func21 (c := bodyOf Try.f21) rfl (by kernel_rfl) (by kernel_rfl) Try.ntmps21 (res := [.tmp 6, .tmp 7]) (by kernel_rfl) ?_
  repeat' ((conv => whnf); first | refine Rng.g ?_ | refine Ob.g ?_ | refine Ob.e ?_ | refine Ob.m ?_ | refine Ob.mk (Nat.le_of_ble_eq_true rfl) ?_ | refine JoinVC.on ?_ | refine Nils.mk (fun h => ?_) ?_ | refine Val.t ?_ | refine Val.d ?_ | refine Mm.mk ?_ | (refine Br.mk (fun h => ?_) (fun h => ?_) <;> first | (exfalso; omega; done) | (exfalso; simp at h; done) | skip))
  conv => whnf
  refine CallVC.mk [] _ _ _ rfl rfl rfl (s49 F l hI) (fun r m' h' => ?_)
  rcases h' with ⟨he, rfl, rfl⟩ | ⟨he, rfl, rfl⟩ | ⟨hA, rfl, rfl⟩
  · have h1 := cosE_bad (P := P) he
    have h2 : cosN F l P = 0 := if_neg (by rw [h1]; exact he)
    rw [h1, h2]
    repeat' ((conv => whnf); first | refine Rng.g ?_ | refine Ob.g ?_ | refine Ob.e ?_ | refine Ob.m ?_ | refine Ob.mk (Nat.le_of_ble_eq_true rfl) ?_ | refine JoinVC.on ?_ | refine Nils.mk (fun h => ?_) ?_ | refine Val.t ?_ | refine Val.d ?_ | refine Mm.mk ?_ | (refine Br.mk (fun h => ?_) (fun h => ?_) <;> first | (exfalso; omega; done) | (exfalso; simp at h; done) | skip))
    repeat refine Mm.mk ?_
    refine EndVC.mk _ rfl _ _ ⟨rfl, rfl⟩ ?_
    refine ⟨[], rfl, rfl, ?_, ?_⟩ <;> repeat' (first | exact trivial | exact rfl | exact Iff.rfl | apply And.intro)
  · have h1 := cosE_bad (P := P) he
    have h2 : cosN F l P = 0 := if_neg (by rw [h1]; exact he)
    rw [h1, h2]
    repeat' ((conv => whnf); first | refine Rng.g ?_ | refine Ob.g ?_ | refine Ob.e ?_ | refine Ob.m ?_ | refine Ob.mk (Nat.le_of_ble_eq_true rfl) ?_ | refine JoinVC.on ?_ | refine Nils.mk (fun h => ?_) ?_ | refine Val.t ?_ | refine Val.d ?_ | refine Mm.mk ?_ | (refine Br.mk (fun h => ?_) (fun h => ?_) <;> first | (exfalso; omega; done) | (exfalso; simp at h; done) | skip))
    repeat refine Mm.mk ?_
    refine EndVC.mk _ rfl _ _ ⟨rfl, rfl⟩ ?_
    refine ⟨[], rfl, rfl, ?_, ?_⟩ <;> repeat' (first | exact trivial | exact rfl | exact Iff.rfl | apply And.intro)
  have h24 := hA.sngs.len
  by_cases hm : 24 < P.length
  · have h1 := cosE_many hA hm
    have h2 : cosN F l P = 0 := if_neg (by rw [h1]; decide)
    rw [h1, h2]
    repeat' ((conv => whnf); first | refine Rng.g ?_ | refine Ob.g ?_ | refine Ob.e ?_ | refine Ob.m ?_ | refine Ob.mk (Nat.le_of_ble_eq_true rfl) ?_ | refine JoinVC.on ?_ | refine Nils.mk (fun h => ?_) ?_ | refine Val.t ?_ | refine Val.d ?_ | refine Mm.mk ?_ | (refine Br.mk (fun h => ?_) (fun h => ?_) <;> first | (exfalso; omega; done) | (exfalso; simp at h; done) | skip))
    repeat refine Mm.mk ?_
    refine EndVC.mk _ rfl _ _ ⟨rfl, rfl⟩ ?_
    refine ⟨[], rfl, rfl, ?_, ?_⟩ <;> repeat' (first | exact trivial | exact rfl | exact Iff.rfl | apply And.intro)
  repeat' ((conv => whnf); first | refine Rng.g ?_ | refine Ob.g ?_ | refine Ob.e ?_ | refine Ob.m ?_ | refine Ob.mk (Nat.le_of_ble_eq_true rfl) ?_ | refine JoinVC.on ?_ | refine Nils.mk (fun h => ?_) ?_ | refine Val.t ?_ | refine Val.d ?_ | refine Mm.mk ?_ | (refine Br.mk (fun h => ?_) (fun h => ?_) <;> first | (exfalso; omega; done) | (exfalso; simp at h; done) | skip))
  refine LoopVC.mk (fun n st => ∃ (i : Nat), i ≤ P.length ∧ n = P.length - i ∧ (∀ j, j < i → (P.getD j fc0).ok F.length) ∧ st = ⟨0, envA 101 [(0, .x (lFmt F)), (1, .x (lSng l)), (2, .x (lFac P)), (8, .x (.one (.ptr 0 0))), (10, .int .i64 (sumM P i)), (30, .x (lFac P)), (31, .int .i64 (P.length : Int)), (32, .int .i64 (i : Int))], [some (bAlb F l (l.length : Int))]⟩) _ _ ⟨0, Nat.zero_le _, rfl, fun j hj => absurd hj (Nat.not_lt_zero j), rfl⟩ ?_ ?_
  · refine ⟨[some 0], rfl, rfl, ?_, ?_⟩ <;> repeat' (first | exact trivial | exact rfl | exact Iff.rfl | apply And.intro)
    all_goals exact congrArg Int.ofNat lP
  rintro n _ ⟨i, hi, hn, hj, rfl⟩
  have g1 : rI (facA P) (i : Int).toNat 0 = (P.getD i fc0).fm := by rw [Int.toNat_natCast]; exact facA_0 P i
  have g2 : rI (facA P) (i : Int).toNat (0 + 1) = (P.getD i fc0).mn := by rw [Int.toNat_natCast]; exact facA_1 P i
  have hsb := sumM_bd i hj i (Nat.le_refl _)
  by_cases hi' : i < P.length
  · by_cases hok : (P.getD i fc0).ok F.length
    · have hok' := hok
      unfold Fc.ok at hok'
      repeat' ((conv => whnf); first | rw [g1] | rw [g2] | refine Rng.g ?_ | refine Ob.g ?_ | refine Ob.e ?_ | refine Ob.m ?_ | refine Ob.mk (Nat.le_of_ble_eq_true rfl) ?_ | refine JoinVC.on ?_ | refine Nils.mk (fun h => ?_) ?_ | refine Val.t ?_ | refine Val.d ?_ | refine Mm.mk ?_ | (refine Br.mk (fun h => ?_) (fun h => ?_) <;> first | (exfalso; omega; done) | (exfalso; simp at h; done) | skip))
      refine Back.mk (P.length - (i + 1)) _ (by omega) ⟨i + 1, by omega, rfl, fun j hj' => ?_, rfl⟩ ?_
      · rcases Nat.lt_succ_iff_lt_or_eq.1 hj' with h' | rfl
        · exact hj j h'
        · exact hok
      · refine ⟨[some 0], rfl, rfl, ?_, ?_⟩ <;> repeat' (first | exact trivial | exact rfl | exact Iff.rfl | apply And.intro)
    · have hok' := hok
      unfold Fc.ok at hok'
      have h1 := cosE_rng (l := l) hA hm (fun h => hok (h i hi'))
      have h2 : cosN F l P = 0 := if_neg (by rw [h1]; decide)
      rw [h1, h2]
      repeat' ((conv => whnf); first | rw [g1] | rw [g2] | refine Rng.g ?_ | refine Ob.g ?_ | refine Ob.e ?_ | refine Ob.m ?_ | refine Ob.mk (Nat.le_of_ble_eq_true rfl) ?_ | refine JoinVC.on ?_ | refine Nils.mk (fun h => ?_) ?_ | refine Val.t ?_ | refine Val.d ?_ | refine Mm.mk ?_ | (refine Br.mk (fun h => ?_) (fun h => ?_) <;> first | (exfalso; omega; done) | (exfalso; simp at h; done) | skip))
      all_goals
        repeat refine Mm.mk ?_
        refine EndVC.mk _ rfl _ _ ⟨rfl, rfl⟩ ?_
        refine ⟨[], rfl, rfl, ?_, ?_⟩ <;> repeat' (first | exact trivial | exact rfl | exact Iff.rfl | apply And.intro)
  have ei : i = P.length := by omega
  subst ei
  have hall : AllF F P := hj
  by_cases hs : sumM P P.length = (l.length : Int)
  rotate_left
  · have h1 := cosE_eq (l := l) hA hm hall hs
    have h2 : cosN F l P = 0 := if_neg (by rw [h1]; decide)
    rw [h1, h2]
    repeat' ((conv => whnf); first | refine Rng.g ?_ | refine Ob.g ?_ | refine Ob.e ?_ | refine Ob.m ?_ | refine Ob.mk (Nat.le_of_ble_eq_true rfl) ?_ | refine JoinVC.on ?_ | refine Nils.mk (fun h => ?_) ?_ | refine Val.t ?_ | refine Val.d ?_ | refine Mm.mk ?_ | (refine Br.mk (fun h => ?_) (fun h => ?_) <;> first | (exfalso; omega; done) | (exfalso; simp at h; done) | skip))
    repeat refine Mm.mk ?_
    refine EndVC.mk _ rfl _ _ ⟨rfl, rfl⟩ ?_
    refine ⟨[], rfl, rfl, ?_, ?_⟩ <;> repeat' (first | exact trivial | exact rfl | exact Iff.rfl | apply And.intro)
  have hpf := plan_faces (l := l) hall hs
  repeat' ((conv => whnf); first | refine Rng.g ?_ | refine Ob.g ?_ | refine Ob.e ?_ | refine Ob.m ?_ | refine Ob.mk (Nat.le_of_ble_eq_true rfl) ?_ | refine JoinVC.on ?_ | refine Nils.mk (fun h => ?_) ?_ | refine Val.t ?_ | refine Val.d ?_ | refine Mm.mk ?_ | (refine Br.mk (fun h => ?_) (fun h => ?_) <;> first | (exfalso; omega; done) | (exfalso; simp at h; done) | skip))
  refine LoopVC.mk (fun n st => ∃ (i : Nat), i ≤ P.length ∧ n = P.length - i ∧ (∀ j, j < i → LayOK (F.getD (P.getD j fc0).fm.toNat f0) l (seqL (sumM P j).toNat (P.getD j fc0).mn.toNat)) ∧ st = ⟨0, envA 101 [(2, .x (lFac P)), (8, .x (.one (.ptr 0 0))), (13, .int .i64 (cstM F P i)), (14, .int .i64 (sumM P i)), (65, .x (lFac P)), (66, .int .i64 (P.length : Int)), (67, .int .i64 (i : Int))], [some (bAlb F l (l.length : Int))]⟩) _ _ ⟨0, Nat.zero_le _, rfl, fun j hj => absurd hj (Nat.not_lt_zero j), rfl⟩ ?_ ?_
  · refine ⟨[some 0], rfl, rfl, ?_, ?_⟩ <;> repeat' (first | exact trivial | exact rfl | exact Iff.rfl | apply And.intro)
    all_goals exact congrArg Int.ofNat lP
  rintro n _ ⟨i, hi, hn, hlay, rfl⟩
  have g1 : rI (facA P) (i : Int).toNat 0 = (P.getD i fc0).fm := by rw [Int.toNat_natCast]; exact facA_0 P i
  have g2 : rI (facA P) (i : Int).toNat (0 + 1) = (P.getD i fc0).mn := by rw [Int.toNat_natCast]; exact facA_1 P i
  have hsb := sumM_bd P.length hall i hi
  have hcb := cstM_bd hA hall i hi
  by_cases hi' : i < P.length
  rotate_left
  · have ei : i = P.length := by omega
    subst ei
    have hP := hpf.2 hlay
    have h1 := cosE_ok hA hm hall hs hP
    have h2 : cosN F l P = cstM F P P.length := by
      rw [cstM_eq F P _ (Nat.le_refl _), List.take_length]
      exact if_pos h1
    rw [h1, h2]
    repeat' ((conv => whnf); first | refine Rng.g ?_ | refine Ob.g ?_ | refine Ob.e ?_ | refine Ob.m ?_ | refine Ob.mk (Nat.le_of_ble_eq_true rfl) ?_ | refine JoinVC.on ?_ | refine Nils.mk (fun h => ?_) ?_ | refine Val.t ?_ | refine Val.d ?_ | refine Mm.mk ?_ | (refine Br.mk (fun h => ?_) (fun h => ?_) <;> first | (exfalso; omega; done) | (exfalso; simp at h; done) | skip))
    repeat refine Mm.mk ?_
    refine EndVC.mk _ rfl _ _ ⟨rfl, rfl⟩ ?_
    refine ⟨[], rfl, rfl, ?_, ?_⟩ <;> repeat' (first | exact trivial | exact rfl | exact Iff.rfl | apply And.intro)
  have hok := hall i hi'
  unfold Fc.ok at hok
  have hmono := sumM_mono hall (i := i + 1) (P.length - (i + 1)) (by omega)
  rw [show i + 1 + (P.length - (i + 1)) = P.length by omega, hs] at hmono
  have hs1 : sumM P (i + 1) = sumM P i + (P.getD i fc0).mn := rfl
  have hc1 : cstM F P (i + 1) = cstM F P i + (F.getD (P.getD i fc0).fm.toNat f0).cost := rfl
  obtain ⟨k, hk⟩ : ∃ k : Nat, (P.getD i fc0).fm = k := ⟨(P.getD i fc0).fm.toNat, by omega⟩
  obtain ⟨m, hmm⟩ : ∃ m : Nat, (P.getD i fc0).mn = m := ⟨(P.getD i fc0).mn.toNat, by omega⟩
  obtain ⟨s, hss⟩ : ∃ s : Nat, sumM P i = s := ⟨(sumM P i).toNat, by omega⟩
  rw [hk, hmm] at hok
  rw [hmm, hss] at hs1
  rw [hk, Int.toNat_natCast] at hc1
  rw [hk] at g1
  rw [hmm] at g2
  rw [hss] at hsb
  have hk' : k < F.length := by omega
  have hf := hA.fmts k hk'
  have hco := hf.cost
  have gk : rA (plsA F l) (k : Int).toNat 0 = plA (F.getD k f0) l := by rw [Int.toNat_natCast]; exact plsA_at F l k hk'
  have lpl := plsA_len F l
  have c54 := s54g s (s + m) (by omega)
  rw [Int.natCast_add] at c54
  have c47 := s47p (F.getD k f0) l (seqL s (s + m - s)) hf hA.sngs (fun x hx => by rw [seqL_len] at hx; rw [seqL_get _ _ _ hx]; omega) (by rw [seqL_len]; omega)
  rw [hss]
  repeat' ((conv => whnf); first | rw [g1] | rw [g2] | rw [gk] | refine Rng.g ?_ | refine Ob.g ?_ | refine Ob.e ?_ | refine Ob.m ?_ | refine Ob.mk (Nat.le_of_ble_eq_true rfl) ?_ | refine JoinVC.on ?_ | refine Nils.mk (fun h => ?_) ?_ | refine Val.t ?_ | refine Val.d ?_ | refine Mm.mk ?_ | (refine Br.mk (fun h => ?_) (fun h => ?_) <;> first | (exfalso; omega; done) | (exfalso; simp at h; done) | skip))
  conv => whnf
  refine CallVC.mk [] _ _ _ rfl rfl rfl (c54) (fun r m' h' => ?_)
  obtain ⟨rfl, rfl⟩ := h'
  conv => whnf
  repeat' ((conv => whnf); first | refine Rng.g ?_ | refine Ob.g ?_ | refine Ob.e ?_ | refine Ob.m ?_ | refine Ob.mk (Nat.le_of_ble_eq_true rfl) ?_ | refine JoinVC.on ?_ | refine Nils.mk (fun h => ?_) ?_ | refine Val.t ?_ | refine Val.d ?_ | refine Mm.mk ?_ | (refine Br.mk (fun h => ?_) (fun h => ?_) <;> first | (exfalso; omega; done) | (exfalso; simp at h; done) | skip))
  conv => whnf
  refine CallVC.mk [] _ _ _ rfl rfl rfl (c47) (fun r m' h' => ?_)
  obtain ⟨rfl, rfl⟩ := h'
  conv => whnf
  repeat refine Mm.mk ?_
  try refine JoinVC.on ?_
  refine Br.mk (fun hL => ?_) (fun hL => ?_)
  · have hno : ¬ PlanOK F l 0 (plnP P) := fun h => by
      have := hpf.1 h i hi'
      rw [hk, hmm, hss, Int.toNat_natCast, Int.toNat_natCast, Int.toNat_natCast] at this
      rw [show s + m - s = m by omega] at hL
      exact hL this
    have h1 := cosE_plan hA hm hall hs hno
    have h2 : cosN F l P = 0 := if_neg (by rw [h1]; decide)
    rw [h1, h2]
    repeat' ((conv => whnf); first | refine Rng.g ?_ | refine Ob.g ?_ | refine Ob.e ?_ | refine Ob.m ?_ | refine Ob.mk (Nat.le_of_ble_eq_true rfl) ?_ | refine JoinVC.on ?_ | refine Nils.mk (fun h => ?_) ?_ | refine Val.t ?_ | refine Val.d ?_ | refine Mm.mk ?_ | (refine Br.mk (fun h => ?_) (fun h => ?_) <;> first | (exfalso; omega; done) | (exfalso; simp at h; done) | skip))
    repeat refine Mm.mk ?_
    refine EndVC.mk _ rfl _ _ ⟨rfl, rfl⟩ ?_
    refine ⟨[], rfl, rfl, ?_, ?_⟩ <;> repeat' (first | exact trivial | exact rfl | exact Iff.rfl | apply And.intro)
  · have gc' : rI (plA (F.getD k f0) l) 0 (0 + 0 + (0 + 1 + 1 + 1 + 1 + 1 + 1 + 1)) = (F.getD k f0).cost := rfl
    repeat' ((conv => whnf); first | rw [g2] | rw [gc'] | refine Rng.g ?_ | refine Ob.g ?_ | refine Ob.e ?_ | refine Ob.m ?_ | refine Ob.mk (Nat.le_of_ble_eq_true rfl) ?_ | refine JoinVC.on ?_ | refine Nils.mk (fun h => ?_) ?_ | refine Val.t ?_ | refine Val.d ?_ | refine Mm.mk ?_ | (refine Br.mk (fun h => ?_) (fun h => ?_) <;> first | (exfalso; omega; done) | (exfalso; simp at h; done) | skip))
    refine Back.mk (P.length - (i + 1)) _ (by omega) ⟨i + 1, by omega, rfl, fun j hj' => ?_, rfl⟩ ?_
    · rcases Nat.lt_succ_iff_lt_or_eq.1 hj' with h' | rfl
      · exact hlay j h'
      · rw [hk, hmm, hss, Int.toNat_natCast, Int.toNat_natCast, Int.toNat_natCast]
        rw [show s + m - s = m by omega] at hL
        exact Classical.not_not.1 hL
    · rw [hs1, hc1]
      refine ⟨[some 0], rfl, rfl, ?_, ?_⟩ <;> repeat' (first | exact trivial | exact rfl | exact Iff.rfl | apply And.intro)
end Go.Sx

namespace Go.Sx
open Go Go.Proofs
set_option maxRecDepth 10000
set_option maxHeartbeats 8000000
/-! ### SidePriced -/
theorem fmsE_name {F : List Fmt} {l : List Sng} (h : AlbOK F l) (i : Nat) : (F.getD i f0).nm.size ≤ 140737488355328 := by
  by_cases hi : i < F.length
  · have := (h.fmts i hi).nm.2.1
    omega
  · rw [List.getD_eq_getElem?_getD, List.getElem?_eq_none (by omega)]
    decide
theorem s48 (F : List Fmt) (l : List Sng) : PSpec Try.prog 48 [lFmt F, lSng l] (.x (I (fmsE F l))) := by
  have lF := fmtA_len F
  have ll := sngA_len l
  by_cases h8 : F.length = 0 ∨ 8 < F.length
  · rw [fmsE_many h8]
    refine spec_of pMix (O := []) Try.func48 (c := bodyOf Try.f48) rfl (by kernel_rfl) (by kernel_rfl) Try.ntmps48 (res := [.tmp 4]) (by kernel_rfl) ?_
    repeat' ((conv => whnf); first | refine Rng.g ?_ | refine Ob.g ?_ | refine Ob.e ?_ | refine Ob.m ?_ | refine Ob.mk (Nat.le_of_ble_eq_true rfl) ?_ | refine JoinVC.on ?_ | refine Nils.mk (fun h => ?_) ?_ | refine Val.t ?_ | refine Val.d ?_ | refine Mm.mk ?_ | (refine Br.mk (fun h => ?_) (fun h => ?_) <;> first | (exfalso; omega; done) | (exfalso; simp at h; done) | skip))
    all_goals
      repeat refine Mm.mk ?_
      refine EndVC.mk _ rfl _ _ ⟨rfl, rfl⟩ ?_
      refine ⟨[], rfl, rfl, ?_, ?_⟩ <;> repeat' (first | exact trivial | exact rfl | exact Iff.rfl | apply And.intro)
  refine spec_of pMix (O := []) Try.func48 (c := bodyOf Try.f48) rfl (by kernel_rfl) (by kernel_rfl) Try.ntmps48 (res := [.tmp 4]) (by kernel_rfl) ?_
  repeat' ((conv => whnf); first | refine Rng.g ?_ | refine Ob.g ?_ | refine Ob.e ?_ | refine Ob.m ?_ | refine Ob.mk (Nat.le_of_ble_eq_true rfl) ?_ | refine JoinVC.on ?_ | refine Nils.mk (fun h => ?_) ?_ | refine Val.t ?_ | refine Val.d ?_ | refine Mm.mk ?_ | (refine Br.mk (fun h => ?_) (fun h => ?_) <;> first | (exfalso; omega; done) | (exfalso; simp at h; done) | skip))
  refine LoopVC.mk (fun n st => ∃ (i : Nat), i ≤ F.length ∧ n = F.length - i ∧ (∀ j, j < i → FmtOK (F.getD j f0)) ∧ st = ⟨0, envA 31 [(0, .x (lFmt F)), (1, .x (lSng l)), (5, .int .i64 (i : Int))], []⟩) _ _ ⟨0, Nat.zero_le _, rfl, fun j hj => absurd hj (Nat.not_lt_zero j), rfl⟩ ?_ ?_
  · refine ⟨[], rfl, rfl, ?_, ?_⟩ <;> repeat' (first | exact trivial | exact rfl | exact Iff.rfl | apply And.intro)
  rintro n _ ⟨i, hi, hn, hj, rfl⟩
  by_cases hi' : i < F.length
  · obtain ⟨g0', g1, g2, g3, g4, g5, g6, g7⟩ := fmt_at F i hi'
    have et : (i : Int).toNat = i := Int.toNat_natCast i
    obtain ⟨f, hfe⟩ : ∃ f, F.getD i f0 = f := ⟨_, rfl⟩
    rw [hfe] at g0' g1 g2 g3 g4 g5 g6 g7
    have k0 := s41 f
    by_cases h0 : FmtOK f
    · rw [fmtE_ok h0] at k0
      repeat' ((conv => whnf); first | rw [et] | rw [g0'] | rw [g1] | rw [g2] | rw [g3] | rw [g4] | rw [g5] | rw [g6] | rw [g7] | refine Rng.g ?_ | refine Ob.g ?_ | refine Ob.e ?_ | refine Ob.m ?_ | refine Ob.mk (Nat.le_of_ble_eq_true rfl) ?_ | refine JoinVC.on ?_ | refine Nils.mk (fun h => ?_) ?_ | refine Val.t ?_ | refine Val.d ?_ | refine Mm.mk ?_ | refine CallVC.pure rfl (k0) ?_ | refine CallVC0.pure rfl (k0) ?_ | (refine Br.mk (fun h => ?_) (fun h => ?_) <;> first | (exfalso; omega; done) | (exfalso; simp at h; done) | skip))
      refine Back.mk (F.length - (i + 1)) _ (by omega) ⟨i + 1, by omega, rfl, fun j hj' => ?_, rfl⟩ ?_
      · rcases Nat.lt_succ_iff_lt_or_eq.1 hj' with h' | rfl
        · exact hj j h'
        · rw [hfe]; exact h0
      · refine ⟨[], rfl, rfl, ?_, ?_⟩ <;> repeat' (first | exact trivial | exact rfl | exact Iff.rfl | apply And.intro)
    · rw [fmtE_no h0] at k0
      have he : fmsE F l = 2 := fmsE_bad h8 hi' (by rw [hfe]; exact h0)
      rw [he]
      repeat' ((conv => whnf); first | rw [et] | rw [g0'] | rw [g1] | rw [g2] | rw [g3] | rw [g4] | rw [g5] | rw [g6] | rw [g7] | refine Rng.g ?_ | refine Ob.g ?_ | refine Ob.e ?_ | refine Ob.m ?_ | refine Ob.mk (Nat.le_of_ble_eq_true rfl) ?_ | refine JoinVC.on ?_ | refine Nils.mk (fun h => ?_) ?_ | refine Val.t ?_ | refine Val.d ?_ | refine Mm.mk ?_ | refine CallVC.pure rfl (k0) ?_ | refine CallVC0.pure rfl (k0) ?_ | (refine Br.mk (fun h => ?_) (fun h => ?_) <;> first | (exfalso; omega; done) | (exfalso; simp at h; done) | skip))
      repeat refine Mm.mk ?_
      refine EndVC.mk _ rfl _ _ ⟨rfl, rfl⟩ ?_
      refine ⟨[], rfl, rfl, ?_, ?_⟩ <;> repeat' (first | exact trivial | exact rfl | exact Iff.rfl | apply And.intro)
  · have ei : i = F.length := by omega
    subst ei
    have k1 := s42 l
    have he := fmsE_trk (l := l) h8 hj
    rw [he]
    repeat' ((conv => whnf); first | refine Rng.g ?_ | refine Ob.g ?_ | refine Ob.e ?_ | refine Ob.m ?_ | refine Ob.mk (Nat.le_of_ble_eq_true rfl) ?_ | refine JoinVC.on ?_ | refine Nils.mk (fun h => ?_) ?_ | refine Val.t ?_ | refine Val.d ?_ | refine Mm.mk ?_ | refine CallVC.pure rfl (k1) ?_ | refine CallVC0.pure rfl (k1) ?_ | (refine Br.mk (fun h => ?_) (fun h => ?_) <;> first | (exfalso; omega; done) | (exfalso; simp at h; done) | skip))
    repeat refine Mm.mk ?_
    refine EndVC.mk _ rfl _ _ ⟨rfl, rfl⟩ ?_
    refine ⟨[], rfl, rfl, ?_, ?_⟩ <;> repeat' (first | exact trivial | exact rfl | exact Iff.rfl | apply And.intro)
open Classical in
theorem s19 (F : List Fmt) (l : List Sng) (m : Int) : PSpec Try.prog 19 [lFmt F, lSng l, I m] (xP ((l.length : Int) ≤ m ∧ AlbOK F l)) := by
  have ll := sngA_len l
  have k := s48 F l
  by_cases hm : (l.length : Int) ≤ m
  · refine spec_of pMix (O := []) Try.func19 (c := bodyOf Try.f19) rfl (by kernel_rfl) (by kernel_rfl) Try.ntmps19 (res := [.tmp 6]) (by kernel_rfl) ?_
    repeat' ((conv => whnf); first | refine Rng.g ?_ | refine Ob.g ?_ | refine Ob.e ?_ | refine Ob.m ?_ | refine Ob.mk (Nat.le_of_ble_eq_true rfl) ?_ | refine JoinVC.on ?_ | refine Nils.mk (fun h => ?_) ?_ | refine Val.t ?_ | refine Val.d ?_ | refine Mm.mk ?_ | refine CallVC.pure rfl (k) ?_ | refine CallVC0.pure rfl (k) ?_ | (refine Br.mk (fun h => ?_) (fun h => ?_) <;> first | (exfalso; omega; done) | (exfalso; simp at h; done) | skip))
    repeat refine Mm.mk ?_
    refine EndVC.mk _ rfl _ _ ⟨rfl, rfl⟩ ?_
    refine ⟨[], rfl, rfl, ?_, ?_⟩ <;> repeat' (first | exact trivial | exact rfl | exact Iff.rfl | apply And.intro)
    exact ⟨fun h => ⟨hm, fmsE_0.1 h⟩, fun h => fmsE_0.2 h.2⟩
  · refine spec_of pMix (O := []) Try.func19 (c := bodyOf Try.f19) rfl (by kernel_rfl) (by kernel_rfl) Try.ntmps19 (res := [.tmp 6]) (by kernel_rfl) ?_
    repeat' ((conv => whnf); first | refine Rng.g ?_ | refine Ob.g ?_ | refine Ob.e ?_ | refine Ob.m ?_ | refine Ob.mk (Nat.le_of_ble_eq_true rfl) ?_ | refine JoinVC.on ?_ | refine Nils.mk (fun h => ?_) ?_ | refine Val.t ?_ | refine Val.d ?_ | refine Mm.mk ?_ | (refine Br.mk (fun h => ?_) (fun h => ?_) <;> first | (exfalso; omega; done) | (exfalso; simp at h; done) | skip))
    repeat refine Mm.mk ?_
    refine EndVC.mk _ rfl _ _ ⟨rfl, rfl⟩ ?_
    refine ⟨[], rfl, rfl, ?_, ?_⟩ <;> repeat' (first | exact trivial | exact rfl | exact Iff.rfl | apply And.intro)
    exact fun h => hm h.1
theorem ok_right {F : List Fmt} {l : List Sng} {p : List Int} (hl : p.length = l.length + 1) (hz : p.getD 0 0 = 0) (h : ∀ j, ¬ wrongP F l p j) : RightP F l p := ⟨hl, hz, fun k i j h0 hf => by
  have h1 := hf.lt
  have h2 := hf.le
  refine Classical.byContradiction fun hc => h j ⟨i, k, .inl ⟨by omega, hf⟩, h0, ?_⟩
  omega⟩
theorem sub_at (l : List Sng) {i j k : Nat} (h : i + k < j) : ((l.take j).drop i).getD k g0 = l.getD (i + k) g0 := by
  simp [List.getD_eq_getElem?_getD, h]
theorem atF_shift (f : Fmt) (l : List Sng) {i j : Nat} : ∀ k, k ≤ j - i → atF f ((l.take j).drop i) (seqL 0 (j - i)) k = atF f l (seqL i (j - i)) k
  | 0, _ => rfl
  | k + 1, h => by
    unfold atF
    rw [atF_shift f l k (by omega), seqL_get _ _ _ (by omega), seqL_get _ _ _ (by omega), Int.toNat_natCast, Int.toNat_natCast, Nat.zero_add, sub_at l (by omega)]
theorem lay_shift (f : Fmt) (l : List Sng) {i j : Nat} : LayOK f ((l.take j).drop i) (seqL 0 (j - i)) ↔ LayOK f l (seqL i (j - i)) := by
  unfold LayOK
  rw [seqL_len, seqL_len, atF_shift f l _ (Nat.le_refl _)]
  have : ∀ k, k < j - i → (okAt f ((l.take j).drop i) (seqL 0 (j - i)) k ↔ okAt f l (seqL i (j - i)) k) := fun k hk => by
    unfold okAt
    rw [atF_shift f l (k + 1) (by omega), seqL_get _ _ _ hk, seqL_get _ _ _ hk, Int.toNat_natCast, Int.toNat_natCast, Nat.zero_add, sub_at l (by omega)]
  exact ⟨fun h => ⟨fun k hk => (this k hk).1 (h.1 k hk), h.2⟩, fun h => ⟨fun k hk => (this k hk).2 (h.1 k hk), h.2⟩⟩
/-- What a single face costs. -/
theorem cos1 {f : Fmt} {l : List Sng} (hf : FmtOK f) (hl : SngsOK l) {i j : Nat} (hij : i < j) (hj : j ≤ l.length) : cosE [f] ((l.take j).drop i) [⟨0, (j : Int) - i⟩] = 0 ↔ LayOK f l (seqL i (j - i)) := by
  have hll : ((l.take j).drop i).length = j - i := by rw [List.length_drop, List.length_take]; omega
  have h24 := hl.len
  have hA : AlbOK [f] ((l.take j).drop i) := ⟨by simp, fun k hk => (by
    have : k = 0 := by simp at hk; omega
    subst this
    exact hf), by rw [hll]; omega, fun k hk => (by
    rw [hll] at hk
    rw [sub_at l (by omega)]
    exact hl.each _ (by omega))⟩
  have hall : AllF [f] [⟨0, (j : Int) - i⟩] := fun k hk => by
    have : k = 0 := by simp at hk; omega
    subst this
    show (0 ≤ (0 : Int) ∧ (0 : Int) < ([f].length : Nat)) ∧ 1 ≤ (j : Int) - i ∧ (j : Int) - i ≤ 24
    simp only [List.length_singleton]
    omega
  have hs : sumM [⟨0, (j : Int) - i⟩] 1 = (((l.take j).drop i).length : Int) := by
    rw [hll]
    simp [sumM]
    omega
  have hpf := plan_faces (l := (l.take j).drop i) hall hs
  have key : (∀ k, k < ([⟨0, (j : Int) - i⟩] : List Fc).length → LayOK ([f].getD (([⟨0, (j : Int) - i⟩] : List Fc).getD k fc0).fm.toNat f0) ((l.take j).drop i) (seqL (sumM [⟨0, (j : Int) - i⟩] k).toNat (([⟨0, (j : Int) - i⟩] : List Fc).getD k fc0).mn.toNat)) ↔ LayOK f ((l.take j).drop i) (seqL 0 (j - i)) := by
    have e : ((j : Int) - i).toNat = j - i := by omega
    constructor
    · intro h
      have := h 0 (by simp)
      simp only [List.getD_cons_zero, sumM, e] at this
      exact this
    · intro h k hk
      have : k = 0 := by simp at hk; omega
      subst this
      simp only [List.getD_cons_zero, sumM, e]
      exact h
  rw [← lay_shift, ← key, ← hpf]
  constructor
  · exact fun h => (cosE_0 h).2.2.2
  · exact fun h => cosE_ok hA (by simp) hall hs h
theorem sngA_sub (l : List Sng) (i j : Nat) : ((sngA l).take j).drop i = sngA ((l.take j).drop i) := by simp [sngA]
theorem e6 : EntersF Try.prog 6 := enters_of Try.func6 (c := bodyOf Try.f6) (by kernel_rfl) rfl
theorem s6 (F : List Fmt) (l : List Sng) (p : List Int) (P : List Fc) : PSpec Try.prog 6 [lFmt F, lSng l, .one (.lst true [.int .i64] (i64s p)), lFac P] (xP True) := by
  have hw := s11
  have ll := sngA_len l
  have lF := fmtA_len F
  have lp := i64s_len p
  have lP := facA_len P
  have c19 := s19 F l 12
  by_cases hV : (l.length : Int) ≤ 12 ∧ AlbOK F l
  rotate_left
  · refine spec_of pMix (O := [(18, ([], [⟨0, [], []⟩, ⟨1, [], []⟩, ⟨2, [], []⟩, ⟨3, [], [4]⟩, ⟨5, [], []⟩, ⟨6, [], []⟩, ⟨7, [], []⟩, ⟨8, [], []⟩, ⟨9, [], []⟩, ⟨10, [], []⟩, ⟨11, [], []⟩, ⟨12, [], [13]⟩, ⟨13, [], []⟩, ⟨4, [], []⟩, ⟨14, [], []⟩, ⟨15, [], []⟩, ⟨16, [], []⟩, ⟨17, [], []⟩, ⟨18, [], []⟩, ⟨19, [], []⟩]))]) Try.func6 (c := bodyOf Try.f6) rfl (by kernel_rfl) (by kernel_rfl) Try.ntmps6 (res := [.tmp 8]) (by kernel_rfl) ?_
    repeat' ((conv => whnf); first | refine Rng.g ?_ | refine Ob.g ?_ | refine Ob.e ?_ | refine Ob.m ?_ | refine Ob.mk (Nat.le_of_ble_eq_true rfl) ?_ | refine JoinVC.on ?_ | refine Nils.mk (fun h => ?_) ?_ | refine Val.t ?_ | refine Val.d ?_ | refine Mm.mk ?_ | refine CallVC.pure rfl (c19) ?_ | refine CallVC.pure rfl (hw) ?_ | refine CallVC0.pure rfl (c19) ?_ | refine CallVC0.pure rfl (hw) ?_ | (refine Br.mk (fun h => ?_) (fun h => ?_) <;> first | (exfalso; omega; done) | (exfalso; simp at h; done) | (exfalso; simp [hV] at h; done) | skip))
    all_goals
      repeat refine Mm.mk ?_
      refine EndVC.mk _ rfl _ _ ⟨rfl, rfl⟩ ?_
      refine ⟨[], rfl, rfl, ?_, ?_⟩ <;> repeat' (first | exact trivial | exact rfl | exact Iff.rfl | apply And.intro)
  obtain ⟨h12, hA⟩ := hV
  by_cases hc : 12 < P.length ∨ 14 < p.length
  · refine spec_of pMix (O := [(18, ([], [⟨0, [], []⟩, ⟨1, [], []⟩, ⟨2, [], []⟩, ⟨3, [], [4]⟩, ⟨5, [], []⟩, ⟨6, [], []⟩, ⟨7, [], []⟩, ⟨8, [], []⟩, ⟨9, [], []⟩, ⟨10, [], []⟩, ⟨11, [], []⟩, ⟨12, [], [13]⟩, ⟨13, [], []⟩, ⟨4, [], []⟩, ⟨14, [], []⟩, ⟨15, [], []⟩, ⟨16, [], []⟩, ⟨17, [], []⟩, ⟨18, [], []⟩, ⟨19, [], []⟩]))]) Try.func6 (c := bodyOf Try.f6) rfl (by kernel_rfl) (by kernel_rfl) Try.ntmps6 (res := [.tmp 8]) (by kernel_rfl) ?_
    repeat' ((conv => whnf); first | refine Rng.g ?_ | refine Ob.g ?_ | refine Ob.e ?_ | refine Ob.m ?_ | refine Ob.mk (Nat.le_of_ble_eq_true rfl) ?_ | refine JoinVC.on ?_ | refine Nils.mk (fun h => ?_) ?_ | refine Val.t ?_ | refine Val.d ?_ | refine Mm.mk ?_ | refine CallVC.pure rfl (c19) ?_ | refine CallVC.pure rfl (hw) ?_ | refine CallVC0.pure rfl (c19) ?_ | refine CallVC0.pure rfl (hw) ?_ | (refine Br.mk (fun h => ?_) (fun h => ?_) <;> first | (exfalso; omega; done) | (exfalso; simp at h; done) | (exfalso; simp [h12, hA] at h; done) | skip))
    all_goals
      repeat refine Mm.mk ?_
      refine EndVC.mk _ rfl _ _ ⟨rfl, rfl⟩ ?_
      refine ⟨[], rfl, rfl, ?_, ?_⟩ <;> repeat' (first | exact trivial | exact rfl | exact Iff.rfl | apply And.intro)
  have hI := fmsE_name hA
  have c21 := s21 F l P hI
  refine spec_of pMix (O := [(18, ([], [⟨0, [], []⟩, ⟨1, [], []⟩, ⟨2, [], []⟩, ⟨3, [], [4]⟩, ⟨5, [], []⟩, ⟨6, [], []⟩, ⟨7, [], []⟩, ⟨8, [], []⟩, ⟨9, [], []⟩, ⟨10, [], []⟩, ⟨11, [], []⟩, ⟨12, [], [13]⟩, ⟨13, [], []⟩, ⟨4, [], []⟩, ⟨14, [], []⟩, ⟨15, [], []⟩, ⟨16, [], []⟩, ⟨17, [], []⟩, ⟨18, [], []⟩, ⟨19, [], []⟩]))]) Try.func6 (c := bodyOf Try.f6) rfl (by kernel_rfl) (by kernel_rfl) Try.ntmps6 (res := [.tmp 8]) (by kernel_rfl) ?_
  repeat' ((conv => whnf); first | refine Rng.g ?_ | refine Ob.g ?_ | refine Ob.e ?_ | refine Ob.m ?_ | refine Ob.mk (Nat.le_of_ble_eq_true rfl) ?_ | refine JoinVC.on ?_ | refine Nils.mk (fun h => ?_) ?_ | refine Val.t ?_ | refine Val.d ?_ | refine Mm.mk ?_ | refine CallVC.pure rfl (c19) ?_ | refine CallVC0.pure rfl (c19) ?_ | (refine Br.mk (fun h => ?_) (fun h => ?_) <;> first | (exfalso; omega; done) | (exfalso; simp at h; done) | (exfalso; simp [h12, hA] at h; done) | skip))
  conv => whnf
  refine CallVC.mk [] _ _ _ rfl rfl rfl (s20 F l p hI (by omega)) (fun r m' h' => ?_)
  obtain ⟨hR, rfl⟩ := h'
  cases hR with
  | bad h => exact absurd (fmsE_0.2 hA) h
  | len _ hl hr =>
    subst hr
    repeat' ((conv => whnf); first | refine Rng.g ?_ | refine Ob.g ?_ | refine Ob.e ?_ | refine Ob.m ?_ | refine Ob.mk (Nat.le_of_ble_eq_true rfl) ?_ | refine JoinVC.on ?_ | refine Nils.mk (fun h => ?_) ?_ | refine Val.t ?_ | refine Val.d ?_ | refine Mm.mk ?_ | refine CallVC.pure rfl (c21) ?_ | refine CallVC.pure rfl (hw) ?_ | refine CallVC0.pure rfl (c21) ?_ | refine CallVC0.pure rfl (hw) ?_ | (refine Br.mk (fun h => ?_) (fun h => ?_) <;> first | (exfalso; omega; done) | (exfalso; simp at h; done) | skip))
    all_goals
      repeat refine Mm.mk ?_
      refine EndVC.mk _ rfl _ _ ⟨rfl, rfl⟩ ?_
      refine ⟨[], rfl, rfl, ?_, ?_⟩ <;> repeat' (first | exact trivial | exact rfl | exact Iff.rfl | apply And.intro)
  | rng _ hl h hr =>
    subst hr
    repeat' ((conv => whnf); first | refine Rng.g ?_ | refine Ob.g ?_ | refine Ob.e ?_ | refine Ob.m ?_ | refine Ob.mk (Nat.le_of_ble_eq_true rfl) ?_ | refine JoinVC.on ?_ | refine Nils.mk (fun h => ?_) ?_ | refine Val.t ?_ | refine Val.d ?_ | refine Mm.mk ?_ | refine CallVC.pure rfl (c21) ?_ | refine CallVC.pure rfl (hw) ?_ | refine CallVC0.pure rfl (c21) ?_ | refine CallVC0.pure rfl (hw) ?_ | (refine Br.mk (fun h => ?_) (fun h => ?_) <;> first | (exfalso; omega; done) | (exfalso; simp at h; done) | skip))
    all_goals
      repeat refine Mm.mk ?_
      refine EndVC.mk _ rfl _ _ ⟨rfl, rfl⟩ ?_
      refine ⟨[], rfl, rfl, ?_, ?_⟩ <;> repeat' (first | exact trivial | exact rfl | exact Iff.rfl | apply And.intro)
  | ok _ hl hz hin h hr =>
    subst hr
    have hR := ok_right hl hz h
    have gl : rI (i64s p) ((sngA l).length : Int).toNat 0 = p.getD l.length 0 := by rw [ll, Int.toNat_natCast]; exact i64s_get p _
    by_cases hc0 : cosE F l P = 0
    · obtain ⟨_, _, _, hP⟩ := cosE_0 hc0
      have hb := right_plan hR hP
      have hn : cosN F l P = costP F (plnP P) := if_pos hc0
      rw [hn, hc0] at c21
      repeat' ((conv => whnf); first | refine Rng.g ?_ | refine Ob.g ?_ | refine Ob.e ?_ | refine Ob.m ?_ | refine Ob.mk (Nat.le_of_ble_eq_true rfl) ?_ | refine JoinVC.on ?_ | refine Nils.mk (fun h => ?_) ?_ | refine Val.t ?_ | refine Val.d ?_ | refine Mm.mk ?_ | refine CallVC.pure rfl (c21) ?_ | refine CallVC.pure rfl (hw) ?_ | refine CallVC0.pure rfl (c21) ?_ | refine CallVC0.pure rfl (hw) ?_ | (refine Br.mk (fun h => ?_) (fun h => ?_) <;> first | (exfalso; omega; done) | (exfalso; simp at h; done) | skip))
      all_goals
        repeat refine Mm.mk ?_
        refine EndVC.mk _ rfl _ _ ⟨rfl, rfl⟩ ?_
        refine ⟨[], rfl, rfl, ?_, ?_⟩ <;> repeat' (first | exact trivial | exact rfl | exact Iff.rfl | apply And.intro)
    · repeat' ((conv => whnf); first | refine Rng.g ?_ | refine Ob.g ?_ | refine Ob.e ?_ | refine Ob.m ?_ | refine Ob.mk (Nat.le_of_ble_eq_true rfl) ?_ | refine JoinVC.on ?_ | refine Nils.mk (fun h => ?_) ?_ | refine Val.t ?_ | refine Val.d ?_ | refine Mm.mk ?_ | refine CallVC.pure rfl (c21) ?_ | refine CallVC.pure rfl (hw) ?_ | refine CallVC0.pure rfl (c21) ?_ | refine CallVC0.pure rfl (hw) ?_ | (refine Br.mk (fun h => ?_) (fun h => ?_) <;> first | (exfalso; omega; done) | (exfalso; simp at h; done) | skip))
      all_goals
        repeat refine Mm.mk ?_
        refine EndVC.mk _ rfl _ _ ⟨rfl, rfl⟩ ?_
        refine ⟨[], rfl, rfl, ?_, ?_⟩ <;> repeat' (first | exact trivial | exact rfl | exact Iff.rfl | apply And.intro)
  | wrong _ hl hz hin j hj hwr hm hr =>
    subst hr
    have hbd : ∀ j, j < p.length → -1 ≤ p.getD j 0 ∧ p.getD j 0 ≤ 25165824 := fun j hj => by have := hin j hj; unfold outP at this; omega
    repeat' ((conv => whnf); first | refine Rng.g ?_ | refine Ob.g ?_ | refine Ob.e ?_ | refine Ob.m ?_ | refine Ob.mk (Nat.le_of_ble_eq_true rfl) ?_ | refine JoinVC.on ?_ | refine Nils.mk (fun h => ?_) ?_ | refine Val.t ?_ | refine Val.d ?_ | refine Mm.mk ?_ | refine CallVC.pure rfl (c21) ?_ | refine CallVC0.pure rfl (c21) ?_ | (refine Br.mk (fun h => ?_) (fun h => ?_) <;> first | (exfalso; omega; done) | (exfalso; simp at h; done) | skip))
    refine LoopVC.mk (fun n st => ∃ (i : Nat), i ≤ j ∧ n = j - i ∧ (∀ i' k, i' < i → ¬ (faceP F l k i' j ∧ 0 ≤ p.getD i' 0 ∧ (p.getD j 0 < 0 ∨ p.getD i' 0 + (F.getD k f0).cost < p.getD j 0))) ∧ st = ⟨0, envA 174 [(0, .x (lFmt F)), (1, .x (lSng l)), (2, .x (.one (.lst true [.int .i64] (i64s p)))), (9, .int .i64 (j : Int)), (13, .int .i64 (i : Int))], []⟩) _ _ ⟨0, Nat.zero_le _, rfl, fun i' k h => absurd h (Nat.not_lt_zero _), rfl⟩ ?_ ?_
    · refine ⟨[], rfl, rfl, ?_, ?_⟩ <;> repeat' (first | exact trivial | exact rfl | exact Iff.rfl | apply And.intro)
    rintro n _ ⟨i, hi, hn, hno, rfl⟩
    by_cases hi' : i < j
    rotate_left
    · exfalso
      obtain ⟨i', k, h1, h2, h3⟩ := hwr
      rcases h1 with ⟨_, h1⟩ | ⟨_, h1⟩
      · exact hno i' k (by have := h1.lt; omega) ⟨h1, h2, h3⟩
      · simp at h1
    have gi : rI (i64s p) (i : Int).toNat 0 = p.getD i 0 := by rw [Int.toNat_natCast]; exact i64s_get p i
    have gj : rI (i64s p) (j : Int).toNat 0 = p.getD j 0 := by rw [Int.toNat_natCast]; exact i64s_get p j
    have hbi := hbd i (by omega)
    have hbj := hbd j (by omega)
    repeat' ((conv => whnf); first | refine Rng.g ?_ | refine Ob.g ?_ | refine Ob.e ?_ | refine Ob.m ?_ | refine Ob.mk (Nat.le_of_ble_eq_true rfl) ?_ | refine JoinVC.on ?_ | refine Nils.mk (fun h => ?_) ?_ | refine Val.t ?_ | refine Val.d ?_ | refine Mm.mk ?_ | (refine Br.mk (fun h => ?_) (fun h => ?_) <;> first | (exfalso; omega; done) | (exfalso; simp at h; done) | skip))
    refine LoopVC.mk (fun n st => ∃ (k : Nat), k ≤ F.length ∧ n = F.length - k ∧ (∀ k', k' < k → ¬ (faceP F l k' i j ∧ 0 ≤ p.getD i 0 ∧ (p.getD j 0 < 0 ∨ p.getD i 0 + (F.getD k' f0).cost < p.getD j 0))) ∧ st = ⟨0, envA 174 [(0, .x (lFmt F)), (1, .x (lSng l)), (2, .x (.one (.lst true [.int .i64] (i64s p)))), (9, .int .i64 (j : Int)), (13, .int .i64 (i : Int)), (14, .int .i64 (k : Int))], []⟩) _ _ ⟨0, Nat.zero_le _, rfl, fun k h => absurd h (Nat.not_lt_zero _), rfl⟩ ?_ ?_
    · refine ⟨[], rfl, rfl, ?_, ?_⟩ <;> repeat' (first | exact trivial | exact rfl | exact Iff.rfl | apply And.intro)
    rintro n2 _ ⟨k, hk, hn2, hnk, rfl⟩
    by_cases hk' : k < F.length
    rotate_left
    · repeat' ((conv => whnf); first | refine Rng.g ?_ | refine Ob.g ?_ | refine Ob.e ?_ | refine Ob.m ?_ | refine Ob.mk (Nat.le_of_ble_eq_true rfl) ?_ | refine JoinVC.on ?_ | refine Nils.mk (fun h => ?_) ?_ | refine Val.t ?_ | refine Val.d ?_ | refine Mm.mk ?_ | (refine Br.mk (fun h => ?_) (fun h => ?_) <;> first | (exfalso; omega; done) | (exfalso; simp at h; done) | skip))
      refine Back.mk (j - (i + 1)) _ (by omega) ⟨i + 1, by omega, rfl, fun i' k' h1 hh => ?_, rfl⟩ ?_
      · rcases Nat.lt_succ_iff_lt_or_eq.1 h1 with h2 | rfl
        · exact hno i' k' h2 hh
        · exact hnk k' (by have := hh.1.fmt; omega) hh
      · refine ⟨[], rfl, rfl, ?_, ?_⟩ <;> repeat' (first | exact trivial | exact rfl | exact Iff.rfl | apply And.intro)
    obtain ⟨e0, e1, e2, e3, e4, e5, e6, e7⟩ := fmt_at F k hk'
    have et : (k : Int).toNat = k := Int.toNat_natCast k
    have hf := hA.fmts k hk'
    have h8 := hA.few
    have hco := hf.cost
    by_cases hcond : 0 ≤ p.getD i 0 ∧ (p.getD j 0 < 0 ∨ p.getD i 0 + (F.getD k f0).cost < p.getD j 0)
    rotate_left
    · have back : ∀ k', k' < k + 1 → ¬ (faceP F l k' i j ∧ 0 ≤ p.getD i 0 ∧ (p.getD j 0 < 0 ∨ p.getD i 0 + (F.getD k' f0).cost < p.getD j 0)) := fun k' hk2 => by
        rcases Nat.lt_succ_iff_lt_or_eq.1 hk2 with h2 | rfl
        · exact hnk k' h2
        · exact fun hh => hcond hh.2
      repeat' ((conv => whnf); first | rw [et] | rw [gi] | rw [gj] | rw [e7] | refine Rng.g ?_ | refine Ob.g ?_ | refine Ob.e ?_ | refine Ob.m ?_ | refine Ob.mk (Nat.le_of_ble_eq_true rfl) ?_ | refine JoinVC.on ?_ | refine Nils.mk (fun h => ?_) ?_ | refine Val.t ?_ | refine Val.d ?_ | refine Mm.mk ?_ | (refine Br.mk (fun h => ?_) (fun h => ?_) <;> first | (exfalso; omega; done) | (exfalso; simp at h; done) | skip))
      all_goals
        refine Back.mk (F.length - (k + 1)) _ (by omega) ⟨k + 1, by omega, rfl, back, rfl⟩ ?_
        refine ⟨[], rfl, rfl, ?_, ?_⟩ <;> repeat' (first | exact trivial | exact rfl | exact Iff.rfl | apply And.intro)
    · have hc1 := cos1 hf hA.sngs hi' hj.2
      have c1 := s21 [F.getD k f0] ((l.take j).drop i) [⟨0, (j : Int) - i⟩] (fun k' => by cases k' with | zero => exact hI k | succ _ => exact (by decide : f0.nm.size ≤ 140737488355328))
      have es : List.drop ((some (i : Int)).getD 0).toNat (List.take ((some (j : Int)).getD ((sngA l).length : Int)).toNat (sngA l)) = sngA ((l.take j).drop i) := by
        show List.drop (i : Int).toNat (List.take (j : Int).toNat (sngA l)) = _
        rw [Int.toNat_natCast, Int.toNat_natCast]
        exact sngA_sub l i j
      by_cases hL : LayOK (F.getD k f0) l (seqL i (j - i))
      · rw [hc1.2 hL] at c1
        repeat' ((conv => whnf); first | rw [et] | rw [gi] | rw [gj] | rw [e0] | rw [e1] | rw [e2] | rw [e3] | rw [e4] | rw [e5] | rw [e6] | rw [e7] | rw [es] | refine Rng.g ?_ | refine Ob.g ?_ | refine Ob.e ?_ | refine Ob.m ?_ | refine Ob.mk (Nat.le_of_ble_eq_true rfl) ?_ | refine JoinVC.on ?_ | refine Nils.mk (fun h => ?_) ?_ | refine Val.t ?_ | refine Val.d ?_ | refine Mm.mk ?_ | refine CallVC.pure rfl (c1) ?_ | refine CallVC.pure rfl (hw) ?_ | refine CallVC0.pure rfl (c1) ?_ | refine CallVC0.pure rfl (hw) ?_ | (refine Br.mk (fun h => ?_) (fun h => ?_) <;> first | (exfalso; omega; done) | (exfalso; simp at h; done) | skip))
        all_goals
          repeat refine Mm.mk ?_
          refine EndVC.mk _ rfl _ _ ⟨rfl, rfl⟩ ?_
          refine ⟨[], rfl, rfl, ?_, ?_⟩ <;> repeat' (first | exact trivial | exact rfl | exact Iff.rfl | apply And.intro)
      · obtain ⟨e, he⟩ : ∃ e, cosE [F.getD k f0] ((l.take j).drop i) [⟨0, (j : Int) - i⟩] = e := ⟨_, rfl⟩
        have h0 : e ≠ 0 := fun h => hL (hc1.1 (he.trans h))
        rw [he] at c1
        have back : ∀ k', k' < k + 1 → ¬ (faceP F l k' i j ∧ 0 ≤ p.getD i 0 ∧ (p.getD j 0 < 0 ∨ p.getD i 0 + (F.getD k' f0).cost < p.getD j 0)) := fun k' hk2 => by
          rcases Nat.lt_succ_iff_lt_or_eq.1 hk2 with h2 | rfl
          · exact hnk k' h2
          · exact fun hh => hL hh.1.lay
        repeat' ((conv => whnf); first | rw [et] | rw [gi] | rw [gj] | rw [e0] | rw [e1] | rw [e2] | rw [e3] | rw [e4] | rw [e5] | rw [e6] | rw [e7] | rw [es] | refine Rng.g ?_ | refine Ob.g ?_ | refine Ob.e ?_ | refine Ob.m ?_ | refine Ob.mk (Nat.le_of_ble_eq_true rfl) ?_ | refine JoinVC.on ?_ | refine Nils.mk (fun h => ?_) ?_ | refine Val.t ?_ | refine Val.d ?_ | refine Mm.mk ?_ | refine CallVC.pure rfl (c1) ?_ | refine CallVC0.pure rfl (c1) ?_ | (refine Br.mk (fun h => ?_) (fun h => ?_) <;> first | (exfalso; omega; done) | (exfalso; simp at h; done) | skip))
        all_goals
          refine Back.mk (F.length - (k + 1)) _ (by omega) ⟨k + 1, by omega, rfl, back, rfl⟩ ?_
          refine ⟨[], rfl, rfl, ?_, ?_⟩ <;> repeat' (first | exact trivial | exact rfl | exact Iff.rfl | apply And.intro)
end Go.Sx

namespace Go.Sx
open Go Go.Proofs
set_option maxRecDepth 10000
/-! ### Rows read as tracks, formats, faces -/
theorem wfr_of : ∀ {ks : List CK} {r : List Cell}, r.length = ks.length → (∀ (j : Nat) k c, ks[j]? = some k → r[j]? = some c → Wf k c) → WfR ks r
  | [], [], _, _ => .nil
  | [], _ :: _, h, _ => by simp at h
  | _ :: _, [], h, _ => by simp at h
  | k :: ks, c :: cs, h, hw => .cons (hw 0 k c rfl rfl) (wfr_of (by simpa using h) fun j k' c' h1 h2 => hw (j + 1) k' c' (by simpa using h1) (by simpa using h2))
theorem wf_map {α : Type} {ks : List CK} {row : α → List Cell} {p : α → Prop} (hrow : ∀ r, WfR ks r → ∃ x, r = row x ∧ p x) {a : Arr} (h : Wf (.sl ks) (.sl a)) : ∃ l : List α, a = l.map row ∧ ∀ x ∈ l, p x := by
  cases h with
  | sl hl hr hw =>
    clear hl
    induction a with
    | nil => exact ⟨[], rfl, fun x hx => by simp at hx⟩
    | cons r a ih =>
      obtain ⟨l, rfl, h2⟩ := ih (fun r h => hr r (List.mem_cons_of_mem _ h)) (fun r h => hw r (List.mem_cons_of_mem _ h))
      obtain ⟨x, rfl, h3⟩ := hrow r (wfr_of (hr r (List.mem_cons_self ..)) (hw r (List.mem_cons_self ..)))
      exact ⟨x :: l, rfl, fun y hy => by rcases List.mem_cons.1 hy with rfl | hy; (· exact h3); exact h2 y hy⟩
theorem mem_getD {α : Type} {p : α → Prop} {l : List α} {d : α} (h : ∀ x ∈ l, p x) (hd : p d) (j : Nat) : p (l.getD j d) := by
  rw [List.getD_eq_getElem?_getD]
  cases hx : l[j]? with
  | none => exact hd
  | some x => exact h x (List.mem_of_getElem? hx)
def Sng.inR (g : Sng) : Prop := Go.Sx.inR .i64 g.long ∧ Go.Sx.inR .i64 g.pitch ∧ Go.Sx.inR .i64 g.least
theorem wf_sngs {a : Arr} (h : Wf (.sl KSng) (.sl a)) : ∃ l : List Sng, a = sngA l ∧ ∀ g ∈ l, g.inR := by
  obtain ⟨l, h1, h2⟩ := wf_map (row := fun g : Sng => [.int g.long, .int g.pitch, .int g.least]) (p := Sng.inR) (fun r hr => by
    obtain ⟨c0, _, rfl, g0, h1⟩ := hr.inv
    obtain ⟨n0, rfl, i0⟩ := g0.int_inv
    obtain ⟨c1, _, rfl, g1, h2⟩ := h1.inv
    obtain ⟨n1, rfl, i1⟩ := g1.int_inv
    obtain ⟨c2, _, rfl, g2, h3⟩ := h2.inv
    obtain ⟨n2, rfl, i2⟩ := g2.int_inv
    cases h3.nil_inv
    exact ⟨⟨n0, n1, n2⟩, rfl, i0, i1, i2⟩) h
  exact ⟨l, h1, h2⟩
theorem wf_fmts {a : Arr} (h : Wf (.sl KFm) (.sl a)) : ∃ F : List Fmt, a = fmtA F ∧ ∀ i, (F.getD i f0).nm.size ≤ maxLen := by
  obtain ⟨l, h1, h2⟩ := wf_map (row := fun f : Fmt => [.str f.nm, .int f.outer, .int f.inner, .int f.per, .int f.lead, .int f.gap, .int f.tail, .int f.cost]) (p := fun f => f.nm.size ≤ maxLen) (fun r hr => by
    obtain ⟨c0, _, rfl, g0, h1⟩ := hr.inv
    obtain ⟨n0, rfl, z0⟩ := g0.str_inv
    obtain ⟨c1, _, rfl, g1, h2⟩ := h1.inv
    obtain ⟨n1, rfl, _⟩ := g1.int_inv
    obtain ⟨c2, _, rfl, g2, h3⟩ := h2.inv
    obtain ⟨n2, rfl, _⟩ := g2.int_inv
    obtain ⟨c3, _, rfl, g3, h4⟩ := h3.inv
    obtain ⟨n3, rfl, _⟩ := g3.int_inv
    obtain ⟨c4, _, rfl, g4, h5⟩ := h4.inv
    obtain ⟨n4, rfl, _⟩ := g4.int_inv
    obtain ⟨c5, _, rfl, g5, h6⟩ := h5.inv
    obtain ⟨n5, rfl, _⟩ := g5.int_inv
    obtain ⟨c6, _, rfl, g6, h7⟩ := h6.inv
    obtain ⟨n6, rfl, _⟩ := g6.int_inv
    obtain ⟨c7, _, rfl, g7, h8⟩ := h7.inv
    obtain ⟨n7, rfl, _⟩ := g7.int_inv
    cases h8.nil_inv
    exact ⟨⟨n0, n1, n2, n3, n4, n5, n6, n7⟩, rfl, z0⟩) h
  exact ⟨l, h1, mem_getD h2 (by decide)⟩
end Go.Sx

namespace Go.Sx
open Go Go.Proofs
set_option maxRecDepth 10000
theorem wf_faces {a : Arr} (h : Wf (.sl KFc) (.sl a)) : ∃ l : List Fc, a = facA l ∧ ∀ g ∈ l, inR .i64 g.fm ∧ inR .i64 g.mn := by
  obtain ⟨l, h1, h2⟩ := wf_map (row := fun g : Fc => [.int g.fm, .int g.mn]) (p := fun g => inR .i64 g.fm ∧ inR .i64 g.mn) (fun r hr => by
    obtain ⟨c0, _, rfl, g0, h1⟩ := hr.inv
    obtain ⟨n0, rfl, i0⟩ := g0.int_inv
    obtain ⟨c1, _, rfl, g1, h2⟩ := h1.inv
    obtain ⟨n1, rfl, i1⟩ := g1.int_inv
    cases h2.nil_inv
    exact ⟨⟨n0, n1⟩, rfl, i0, i1⟩) h
  exact ⟨l, h1, h2⟩
end Go.Sx
