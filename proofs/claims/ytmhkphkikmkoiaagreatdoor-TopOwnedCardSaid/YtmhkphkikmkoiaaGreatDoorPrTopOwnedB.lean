import Derived.Test.YtmhkphkikmkoiaaGreatDoorPrTopOwnedA
import Derived.Test.YtmhkphkikmkoiaaGreatDoorProg
import Derived.Test.YtmhkphkikmkoiaaGreatDoorXv
import Derived.Test.YtmhkphkikmkoiaaGreatDoorXc
import Derived.Shelf.SlMaps.Clone
namespace Go.Sx
open Go Go.Proofs
set_option maxRecDepth 10000
set_option maxHeartbeats 4000000
theorem s228 (l : List Sng) : HSpec Tryz.prog 104 [lSng l] [] (fun r m' => ∃ e, r = .x (I e) ∧ m' = [] ∧ (e = 0 ↔ SngsOK l)) := by
 have lp := sngA_len l
 by_cases h24 : 24 < l.length
 ·refine spec_g (bodyOf Tryz.f104) [] pMix Tryz.func104 Tryz.ntmps104 [.tmp 2] ?_
  repeat' ((conv => whnf); refine Br.t (fun h => ?_))
  conv => whnf
  refine EndVC.mk _ rfl _ _ (⟨6, rfl, rfl, ⟨fun h => (by cases h), fun h => (by have := h.len; omega)⟩⟩) ?_
  exact Le.g []
 refine spec_g (bodyOf Tryz.f104) [] pMix Tryz.func104 Tryz.ntmps104 [.tmp 2] ?_
 repeat' ((conv => whnf); refine Br.f (fun h => ?_))
 refine LoopVC.mk (fun n st => ∃ (i : Nat), i ≤ l.length ∧ n = l.length - i ∧ (∀ j, j < i → (l.getD j g0).ok) ∧ st = ⟨0, envA 28 [(8, .x (lSng l)), (9, .int .i64 (l.length : Int)), (10, .int .i64 (i : Int))], []⟩) _ _ ⟨0, Nat.zero_le _, rfl, fun j hj => absurd hj (Nat.not_lt_zero j), rfl⟩ ?_ ?_
 ·refine ⟨[], rfl, rfl, ?_, ?_⟩ <;> repeat' (first | exact trivial | exact rfl | apply And.intro)
  all_goals exact congrArg Int.ofNat lp
 rintro n _ ⟨i, hi, hn, hj, rfl⟩
 have c0 : rI (sngA l) (i : Int).toNat 0 = (l.getD i g0).long := by rw [Int.toNat_natCast, sngA_0]
 have c1 : rI (sngA l) (i : Int).toNat (0 + 1) = (l.getD i g0).pitch := by rw [Int.toNat_natCast, sngA_1]
 have c2 : rI (sngA l) (i : Int).toNat (0 + 1 + 1) = (l.getD i g0).least := by rw [Int.toNat_natCast, sngA_2]
 have k0 := s295 (l.getD i g0).long 1 16777216
 have k1 := s295 (l.getD i g0).pitch 1 4096
 have k2 := s295 (l.getD i g0).least 0 4194304
 by_cases hi' : i < l.length
 ·by_cases hg : (l.getD i g0).ok
  ·have hg' := hg
   unfold Sng.ok at hg'
   repeat' ((conv => whnf); first | rw [c0] | rw [c1] | rw [c2] | refine Rng.g ?_ | refine Ob.g ?_ | refine CallVC.pure rfl (k0) ?_ | refine CallVC.pure rfl (k1) ?_ | refine CallVC.pure rfl (k2) ?_ | refine Br.t (fun h => ?_) | refine Br.f (fun h => ?_))
   refine Back.mk (l.length - (i + 1)) _ (by omega) ⟨i + 1, by omega, rfl, fun j hj' => ?_, rfl⟩ ?_
   ·rcases Nat.lt_succ_iff_lt_or_eq.1 hj' with h' | rfl
    ·exact hj j h'
    ·exact hg
   ·exact Le.g []
  ·have hg' := hg
   unfold Sng.ok at hg'
   repeat' ((conv => whnf); first | rw [c0] | rw [c1] | rw [c2] | refine Ob.g ?_ | refine CallVC.pure rfl (k0) ?_ | refine CallVC.pure rfl (k1) ?_ | refine CallVC.pure rfl (k2) ?_ | refine Br.t (fun h => ?_) | refine Br.mk (fun h => ?_) fun h => ?_)
   all_goals
    conv => whnf
    refine EndVC.mk _ rfl _ _ (⟨2, rfl, rfl, ⟨fun h => (by cases h), fun h => absurd (h.each i hi') hg⟩⟩) ?_
    exact Le.g []
 ·repeat' ((conv => whnf); refine Br.f (fun h => ?_))
  conv => whnf
  refine EndVC.mk _ rfl _ _ (⟨0, rfl, rfl, ⟨fun _ => ⟨by omega, fun j hj' => hj j (by omega)⟩, fun _ => rfl⟩⟩) ?_
  exact Le.g []
@[reducible] def bPl (f : Fmt) (l : List Sng) : Blk := .box 239 [.str f.nm, .int .i64 f.outer, .int .i64 f.inner, .int .i64 f.per, .int .i64 f.lead, .int .i64 f.gap, .int .i64 f.tail, .int .i64 f.cost, .lst true KSng (sngA l)]
theorem s138 (f : Fmt) (l : List Sng) (hI : f.nm.size ≤ 140737488355328) : HSpec Tryz.prog 85 [f.x, lSng l] [] (fun r m' => (∃ e, ¬ (FmtOK f ∧ SngsOK l) ∧ e ≠ 0 ∧ r = .tup [.one .nilp, I e] ∧ m' = []) ∨ (FmtOK f ∧ SngsOK l ∧ r = .tup [.one (.ptr 0 0), I 0] ∧ m' = [some (bPl f l)])) := by
 have v1 := s227 f hI
 have v2 := s228 l
 by_cases hC : ¬ FmtOK f
 ·refine spec_g (bodyOf Tryz.f85) [] pMix Tryz.func85 Tryz.ntmps85 [.tmp 4, .tmp 5] ?_
  repeat' ((conv => whnf); first | refine Rng.g ?_ | fail)
  conv => whnf
  refine CallVC.mk [] _ _ _ rfl rfl rfl (v1) (fun r m' h' => ?_)
  obtain ⟨e, rfl, rfl, he⟩ := h'
  conv => whnf
  have he0 : e ≠ 0 := fun h0 => hC (he.1 h0)
  repeat' ((conv => whnf); refine Br.t (fun h => ?_))
  conv => whnf
  refine EndVC.mk _ rfl _ _ (.inl ⟨e, fun h => hC h.1, he0, rfl, rfl⟩) ?_
  exact Le.g []
 replace hC := Classical.not_not.1 hC
 by_cases hP : ¬ SngsOK l
 ·refine spec_g (bodyOf Tryz.f85) [] pMix Tryz.func85 Tryz.ntmps85 [.tmp 4, .tmp 5] ?_
  repeat' ((conv => whnf); first | refine Rng.g ?_ | fail)
  conv => whnf
  refine CallVC.mk [] _ _ _ rfl rfl rfl (v1) (fun r m' h' => ?_)
  obtain ⟨e, rfl, rfl, he⟩ := h'
  conv => whnf
  cases he.2 hC
  repeat' ((conv => whnf); refine Br.f (fun h => ?_))
  conv => whnf
  refine CallVC.mk [] _ _ _ rfl rfl rfl (v2) (fun r m' h' => ?_)
  obtain ⟨e, rfl, rfl, he'⟩ := h'
  conv => whnf
  have he0 : e ≠ 0 := fun h0 => hP (he'.1 h0)
  repeat' ((conv => whnf); refine Br.t (fun h => ?_))
  conv => whnf
  refine EndVC.mk _ rfl _ _ (.inl ⟨e, fun h => hP h.2, he0, rfl, rfl⟩) ?_
  exact Le.g []
 replace hP := Classical.not_not.1 hP
 refine spec_g (bodyOf Tryz.f85) [] pMix Tryz.func85 Tryz.ntmps85 [.tmp 4, .tmp 5] ?_
 repeat' ((conv => whnf); first | refine Rng.g ?_ | fail)
 conv => whnf
 refine CallVC.mk [] _ _ _ rfl rfl rfl (v1) (fun r m' h' => ?_)
 obtain ⟨e, rfl, rfl, he⟩ := h'
 conv => whnf
 cases he.2 hC
 repeat' ((conv => whnf); refine Br.f (fun h => ?_))
 conv => whnf
 refine CallVC.mk [] _ _ _ rfl rfl rfl (v2) (fun r m' h' => ?_)
 obtain ⟨e, rfl, rfl, he'⟩ := h'
 conv => whnf
 cases he'.2 hP
 repeat' ((conv => whnf); refine Br.f (fun h => ?_))
 conv => whnf
 refine EndVC.mk _ rfl _ _ (.inr ⟨hC, hP, rfl, rfl⟩) ?_
 exact Le.g [some 1]
@[reducible] def pvT : Option (List Sng) → SV
 | some l => .lst true KSng (sngA l)
 | none => .any
@[reducible] def bPv (f : Fmt) (v : Option (List Sng)) : Blk := .box 239 [.str f.nm, .int .i64 f.outer, .int .i64 f.inner, .int .i64 f.per, .int .i64 f.lead, .int .i64 f.gap, .int .i64 f.tail, .int .i64 f.cost, pvT v]
theorem s139 (f : Fmt) (v : Option (List Sng)) (g : Sng) (hf : FmtOK f) (hg : g.ok) : HSpec Tryz.prog 86 [.one (.ptr 0 0), g.x] [bPv f v] (fun r m' => r = .x (I (widF f g)) ∧ m' = [some (bPv f v)]) := by
 obtain ⟨w1, w2⟩ := wid_bd hf.per.1 hg
 have hp := hf.per
 have hg1 := hg.1
 have hg2 := hg.2.1
 unfold widF at w2
 cases v
 all_goals
  refine spec_g (bodyOf Tryz.f86) [] pMix Tryz.func86 Tryz.ntmps86 [.tmp 4] ?_
  repeat' ((conv => whnf); first | refine Rng.g ?_ | refine Ob.g ?_ | refine Val.d ?_ | fail)
  refine EndVC.mk _ rfl _ _ ⟨rfl, rfl⟩ ?_
  exact Le.g [some 0]
inductive WdRs (f : Fmt) (g : Sng) (r : AV) (m' : List (Option Blk)) : Prop
 | bad (e : Int) (h : ¬ (FmtOK f ∧ g.ok)) (he : e ≠ 0) (hr : r = .tup [I 0, I e]) (hm : m' = [])
 | ok (hf : FmtOK f) (hg : g.ok) (hr : r = .tup [I (widF f g), I 0]) (hm : m' = [])
theorem sngs1 (g : Sng) : SngsOK [g] ↔ g.ok := ⟨fun h => h.each 0 (by simp), fun h => ⟨by simp, fun j hj => (by rw [show j = 0 by simp at hj; omega]; exact h)⟩⟩
theorem s54 (f : Fmt) (g : Sng) (hI : f.nm.size ≤ 140737488355328) : HSpec Tryz.prog 67 [f.x, g.x] [] (WdRs f g) := by
 refine spec_g (bodyOf Tryz.f67) [] pMix Tryz.func67 Tryz.ntmps67 [.tmp 4, .tmp 5] ?_
 repeat' ((conv => whnf); first | refine Rng.g ?_ | fail)
 conv => whnf
 refine CallVC.mk [] _ _ _ rfl rfl rfl (s138 f [g] hI) (fun r m' h' => ?_)
 rcases h' with ⟨e, hn, he, rfl, rfl⟩ | ⟨hf, hg, rfl, rfl⟩
 ·repeat' ((conv => whnf); refine Br.t (fun h => ?_))
  conv => whnf
  refine EndVC.mk _ rfl _ _ (.bad e (fun hh => hn ⟨hh.1, (sngs1 g).2 hh.2⟩) he rfl rfl) ?_
  exact Le.g []
 ·have hg' := (sngs1 g).1 hg
  repeat' ((conv => whnf); refine Br.f (fun h => ?_))
  conv => whnf
  refine CallVC.mk [3] _ _ _ rfl rfl rfl (s139 f none g hf hg') (fun r m' h' => ?_)
  obtain ⟨rfl, rfl⟩ := h'
  conv => whnf
  repeat' ((conv => whnf); first | refine Rng.g ?_ | fail)
  conv => whnf
  refine EndVC.mk _ rfl _ _ (.ok hf hg' rfl rfl) ?_
  exact Le.g []
end Go.Sx

namespace Go.Sx
open Go Go.Proofs
set_option maxRecDepth 10000
set_option maxHeartbeats 8000000
end Go.Sx

namespace Go.Sx
open Go Go.Proofs
set_option maxRecDepth 10000
set_option maxHeartbeats 4000000
theorem s206L (t : Trk) (r0 r : Int) (ht : TrkOK (t.at r)) : HSpec Tryz.prog 141 [I r, .one (.ptr 0 0)] [.box 214 [.fn 126 [(1, 0), (2, 0)]], .box 243 [.ptr 3 0], .box 27 [.fn 111 [(4, 0)]], bTk (t.at r0), .box 243 [.ptr 3 0]] (fun x m' => x = xP (pL t r) ∧ m' = [some (.box 214 [.fn 126 [(1, 0), (2, 0)]]), some (.box 243 [.ptr 3 0]), some (.box 27 [.fn 111 [(4, 0)]]), some (bTk (t.at r)), some (.box 243 [.ptr 3 0])]) := by
 refine spec_g (bodyOf Tryz.f141) [] pMix Tryz.func141 Tryz.ntmps141 [.tmp 3] ?_
 repeat' ((conv => whnf); first | refine Rng.g ?_ | fail)
 conv => whnf
 refine CallVC.mk [1, 2, 3, 4] _ _ _ rfl rfl rfl (s207 (t.at r0) r ht) (fun r m' h' => ?_)
 obtain ⟨rfl, rfl⟩ := h'
 conv => whnf
 repeat' ((conv => whnf); first | refine Rng.g ?_ | fail)
 refine EndVC.mk _ rfl _ _ ⟨rfl, rfl⟩ ?_
 exact Le.g [some 0, some 1, some 2, some 3, some 4]
theorem s136L (t : Trk) (r0 : Int) (ht : ∀ r, 0 ≤ r → r ≤ 4194304 → TrkOK (t.at r)) : HSpec Tryz.prog 140 [I 4194305, .one (.fn 141 [(0, 0)])] [.box 214 [.fn 126 [(1, 0), (2, 0)]], .box 243 [.ptr 3 0], .box 27 [.fn 111 [(4, 0)]], bTk (t.at r0), .box 243 [.ptr 3 0]] (fun x m' => ∃ k r', Least (pL t) 4194305 k ∧ x = .x (I k) ∧ m' = [some (.box 214 [.fn 126 [(1, 0), (2, 0)]]), some (.box 243 [.ptr 3 0]), some (.box 27 [.fn 111 [(4, 0)]]), some (bTk (t.at r')), some (.box 243 [.ptr 3 0])]) := by
 have hc : CutOK t.c := (ht 0 (by decide) (by decide)).c
 have hp : 1 ≤ t.per := (ht 0 (by decide) (by decide)).per.1
 refine spec_g (bodyOf Tryz.f140) [] pMix Tryz.func140 Tryz.ntmps140 [.tmp 4] ?_
 repeat' ((conv => whnf); first | refine Rng.g ?_ | fail)
 refine LoopVC.mk (fun n st => ∃ (i' j r1 : Int), (0 ≤ i' ∧ i' ≤ j ∧ j ≤ 4194305) ∧ n = (j - i').toNat ∧ (∀ q, 0 ≤ q → q < i' → ¬ pL t q) ∧ (j < 4194305 → pL t j) ∧ st = ⟨5, envA 26 [(1, .x (.one (.fn 141 [(0, 0)]))), (5, .int .i64 i'), (6, .int .i64 j)], [some (.box 214 [.fn 126 [(1, 0), (2, 0)]]), some (.box 243 [.ptr 3 0]), some (.box 27 [.fn 111 [(4, 0)]]), some (bTk (t.at r1)), some (.box 243 [.ptr 3 0])]⟩) _ _ ⟨0, 4194305, r0, by omega, rfl, fun q h1 h2 => by omega, fun h1 => by omega, rfl⟩ ?_ ?_
 ·exact Le.g [some 0, some 1, some 2, some 3, some 4]
 rintro n _ ⟨i', j, r1, hij, hn, hno, hyes, rfl⟩
 by_cases hlt : i' < j
 ·obtain ⟨g, hg⟩ : ∃ g, g = (i' + j) / 2 := ⟨_, rfl⟩
  have h1 : i' ≤ g ∧ g < j := by omega
  repeat' ((conv => whnf); first | refine Rng.g ?_ | refine Ob.g ?_ | refine Br.t (fun h => ?_))
  refine Val.mk g (by rw [hg]; rfl) ?_
  repeat' ((conv => whnf); first | refine Rng.g ?_ | fail)
  conv => whnf
  refine CallVC.mk [0, 1, 2, 3, 4] _ _ _ rfl rfl rfl (s206L t r1 g (ht g (by omega) (by omega))) (fun r m' h' => ?_)
  obtain ⟨rfl, rfl⟩ := h'
  conv => whnf
  repeat' ((conv => whnf); first | refine Rng.g ?_ | refine JoinVC.on ?_ | refine Br.mk (fun h => ?_) fun h => ?_)
  ·refine Back.mk (j - (g + 1)).toNat _ (by omega) ⟨g + 1, j, g, by omega, rfl, fun q h2 h3 h4 => h (h4.mono hc hp h2 (by omega)), hyes, rfl⟩ ?_
   exact Le.g [some 0, some 1, some 2, some 3, some 4]
  ·refine Back.mk (g - i').toNat _ (by omega) ⟨i', g, g, by omega, rfl, hno, fun _ => Classical.not_not.1 h, rfl⟩ ?_
   exact Le.g [some 0, some 1, some 2, some 3, some 4]
 ·repeat' ((conv => whnf); refine Br.f (fun h => ?_))
  have e : i' = j := by omega
  subst e
  conv => whnf
  refine EndVC.mk _ rfl _ _ (⟨i', r1, ⟨by omega, hno, hyes⟩, rfl, rfl⟩) ?_
  exact Le.g [some 0, some 1, some 2, some 3, some 4]
theorem s109L (t : Trk) (r0 : Int) (ht : ∀ r, 0 ≤ r → r ≤ 4194304 → TrkOK (t.at r)) : HSpec Tryz.prog 125 [I 4194304, .one (.fn 126 [(0, 0), (1, 0)])] [.box 243 [.ptr 2 0], .box 27 [.fn 111 [(3, 0)]], bTk (t.at r0), .box 243 [.ptr 2 0]] (fun x m' => ∃ k r', Least (pL t) 4194305 k ∧ x = .x (I k) ∧ m' = [some (.box 243 [.ptr 2 0]), some (.box 27 [.fn 111 [(3, 0)]]), some (bTk (t.at r')), some (.box 243 [.ptr 2 0])]) := by
 refine spec_g (bodyOf Tryz.f125) [] pMix Tryz.func125 Tryz.ntmps125 [.tmp 4] ?_
 repeat' ((conv => whnf); first | refine Rng.g ?_ | fail)
 conv => whnf
 refine CallVC.mk [4, 0, 1, 2, 3] _ _ _ rfl rfl rfl (s136L t r0 ht) (fun r m' h' => ?_)
 obtain ⟨k, r', hk, rfl, rfl⟩ := h'
 conv => whnf
 have hk1 := hk.rng
 repeat' ((conv => whnf); first | refine Rng.g ?_ | fail)
 conv => whnf
 refine EndVC.mk _ rfl _ _ (⟨k, r', hk, rfl, rfl⟩) ?_
 exact Le.g [some 0, some 1, some 2, some 3]
theorem s114L (t : Trk) (per0 : Int) (ht : ∀ r, 0 ≤ r → r ≤ 4194304 → TrkOK (t.at r)) : HSpec Tryz.prog 110 [.one (.ptr 0 0), I t.per, .one (.fn 111 [(1, 0)])] [bTk ⟨t.c, t.p, t.r, per0⟩, .box 243 [.ptr 0 0]] (fun x m' => ∃ k r', Least (pL t) 4194305 k ∧ ((4194304 < k ∧ x = .tup [I 0, I 14]) ∨ (k ≤ 4194304 ∧ x = .tup [I k, I 0])) ∧ m' = [some (bTk (t.at r')), some (.box 243 [.ptr 0 0])]) := by
 refine spec_g (bodyOf Tryz.f110) [] pMix Tryz.func110 Tryz.ntmps110 [.tmp 6, .tmp 7] ?_
 repeat' ((conv => whnf); first | refine Rng.g ?_ | fail)
 conv => whnf
 refine CallVC.mk [2, 3, 0, 1] _ _ _ rfl rfl rfl (s109L t t.r ht) (fun r m' h' => ?_)
 obtain ⟨k, r', hk, rfl, rfl⟩ := h'
 conv => whnf
 have hk1 := hk.rng
 repeat' ((conv => whnf); refine Br.mk (fun h => ?_) fun h => ?_)
 ·conv => whnf
  refine EndVC.mk _ rfl _ _ (⟨k, r', hk, .inl ⟨by omega, rfl⟩, rfl⟩) ?_
  exact Le.g [some 0, some 1]
 ·conv => whnf
  refine EndVC.mk _ rfl _ _ (⟨k, r', hk, .inr ⟨by omega, rfl⟩, rfl⟩) ?_
  exact Le.g [some 0, some 1]
end Go.Sx

namespace Go.Sx
open Go Go.Proofs
set_option maxRecDepth 10000
set_option maxHeartbeats 4000000
inductive LsRs (c : Cut) (l : List Smp) (per : Int) (r : AV) (m' : List (Option Blk)) : Prop
 | bad (e : Int) (h : ¬ (CutOK c ∧ PtsOK l ∧ 1 ≤ per ∧ per ≤ 65536)) (he : e ≠ 0) (hr : r = .tup [I 0, I e]) (hm : m' = [])
 | none (ht : ∀ r, 0 ≤ r → r ≤ 4194304 → TrkOK (Trk.at ⟨c, l, 0, per⟩ r)) (h : ¬ pL ⟨c, l, 0, per⟩ 4194304) (hr : r = .tup [I 0, I 14]) (hm : m' = [])
 | ok (ht : ∀ r, 0 ≤ r → r ≤ 4194304 → TrkOK (Trk.at ⟨c, l, 0, per⟩ r)) (k : Int) (hk : Least (pL ⟨c, l, 0, per⟩) 4194305 k) (hk' : k ≤ 4194304) (hr : r = .tup [I k, I 0]) (hm : m' = [])
theorem s35 (c : Cut) (l : List Smp) (per : Int) : HSpec Tryz.prog 88 [c.x, lS l, I per] [] (LsRs c l per) := by
 by_cases hb : ¬ (CutOK c ∧ PtsOK l)
 ·refine spec_g (bodyOf Tryz.f88) [] pMix Tryz.func88 Tryz.ntmps88 [.tmp 6, .tmp 7] ?_
  repeat' ((conv => whnf); first | refine Rng.g ?_ | fail)
  conv => whnf
  refine CallVC.mk [] _ _ _ rfl rfl rfl (s112 c l) (fun r m' h' => ?_)
  rcases h' with ⟨e, he, he0, rfl, rfl⟩ | ⟨h1, h2, rfl, rfl⟩
  ·repeat' ((conv => whnf); first | refine JoinVC.on ?_ | refine Br.t (fun h => ?_) | refine Br.f (fun h => ?_))
   conv => whnf
   refine EndVC.mk _ rfl _ _ (.bad e (fun h => he ⟨h.1, h.2.1⟩) he0 rfl rfl) ?_
   exact Le.g []
  ·exact absurd ⟨h1, h2⟩ hb
 replace hb := Classical.not_not.1 hb
 by_cases hp : 1 ≤ per ∧ per ≤ 65536
 ·have c1 := s113 0 per
  rw [if_pos ⟨by decide, hp⟩] at c1
  have ht : ∀ r, 0 ≤ r → r ≤ 4194304 → TrkOK (Trk.at ⟨c, l, 0, per⟩ r) := fun r h1 h2 => ⟨hb.1, hb.2, ⟨h1, h2⟩, hp⟩
  refine spec_g (bodyOf Tryz.f88) [] pMix Tryz.func88 Tryz.ntmps88 [.tmp 6, .tmp 7] ?_
  repeat' ((conv => whnf); first | refine Rng.g ?_ | fail)
  conv => whnf
  refine CallVC.mk [] _ _ _ rfl rfl rfl (s112 c l) (fun r m' h' => ?_)
  rcases h' with ⟨e, he, he0, rfl, rfl⟩ | ⟨h1, h2, rfl, rfl⟩
  ·exact absurd hb he
  repeat' ((conv => whnf); first | refine JoinVC.on ?_ | refine CallVC.pure rfl (c1) ?_ | refine Br.t (fun h => ?_) | refine Br.f (fun h => ?_))
  conv => whnf
  refine CallVC.mk [1, 2] _ _ _ rfl rfl rfl (s114L ⟨c, l, 0, per⟩ 0 ht) (fun r m' h' => ?_)
  obtain ⟨k, r', hk, hk2, rfl⟩ := h'
  rcases hk2 with ⟨hk3, rfl⟩ | ⟨hk3, rfl⟩
  ·repeat' ((conv => whnf); first | refine Rng.g ?_ | fail)
   conv => whnf
   refine EndVC.mk _ rfl _ _ (.none ht (hk.no 4194304 (by decide) hk3) rfl rfl) ?_
   exact Le.g []
  ·repeat' ((conv => whnf); first | refine Rng.g ?_ | fail)
   conv => whnf
   refine EndVC.mk _ rfl _ _ (.ok ht k hk hk3 rfl rfl) ?_
   exact Le.g []
 ·have c1 := s113 0 per
  rw [if_neg (fun h => hp h.2)] at c1
  refine spec_g (bodyOf Tryz.f88) [] pMix Tryz.func88 Tryz.ntmps88 [.tmp 6, .tmp 7] ?_
  repeat' ((conv => whnf); first | refine Rng.g ?_ | fail)
  conv => whnf
  refine CallVC.mk [] _ _ _ rfl rfl rfl (s112 c l) (fun r m' h' => ?_)
  rcases h' with ⟨e, he, he0, rfl, rfl⟩ | ⟨h1, h2, rfl, rfl⟩
  ·exact absurd hb he
  repeat' ((conv => whnf); first | refine JoinVC.on ?_ | refine CallVC.pure rfl (c1) ?_ | refine Br.t (fun h => ?_))
  conv => whnf
  refine EndVC.mk _ rfl _ _ (.bad 3 (fun h => hp h.2.2) (by decide) rfl rfl) ?_
  exact Le.g []
end Go.Sx

namespace Go.Sx
open Go Go.Proofs
set_option maxRecDepth 10000
set_option maxHeartbeats 4000000
noncomputable instance (a b : List Smp) : Decidable (a = b) := Classical.propDecidable _
end Go.Sx

namespace Go.Sx
open Go Go.Proofs
set_option maxRecDepth 10000
set_option maxHeartbeats 4000000
end Go.Sx

namespace Go.Sx
open Go Go.Proofs
set_option maxRecDepth 10000
set_option maxHeartbeats 4000000
def c3 : Cut := ⟨400, 2000, 200, 2000, 1000, 1000, 100⟩
def l3 : List Smp := [⟨0, 0⟩, ⟨100, 100⟩, ⟨0, 0⟩]
theorem c3_ok : CutOK c3 := by constructor <;> decide
theorem all_lt {p : Nat → Prop} (n : Nat) [DecidablePred p] (h : ((List.range n).all fun j => decide (p j)) = true) : ∀ j, j < n → p j := fun j hj => of_decide_eq_true (List.all_eq_true.1 h j (List.mem_range.2 hj))
instance (s : Smp) : Decidable (s.ok) := by unfold Smp.ok; exact inferInstance
theorem l3_ok : SmpsOK l3 := ⟨by decide, all_lt 3 (by decide)⟩
theorem g3_ok : PtsOK (cutF c3 l3) := ⟨by decide, all_lt 3 (by decide)⟩
def t3 : Trk := ⟨c3, cutF c3 l3, 0, 1000⟩
theorem t3_yes : pL t3 31831 := all_lt 3 (by decide +kernel)
theorem t3_no : ¬ pN t3 0 31830 ∨ ¬ pN t3 1 31830 ∨ ¬ pN t3 2 31830 := by decide +kernel
theorem t3_least {k : Int} (hk : Least (pL t3) 4194305 k) : k = 31831 := by
 have h1 : ¬ 31831 < k := fun h => hk.no 31831 (by decide) h t3_yes
 have h2 : ¬ k ≤ 31830 := fun h => by
  have h3 := (hk.yes (by omega)).mono (t := t3) c3_ok (by decide) hk.rng.1 h
  rcases t3_no with h4 | h4 | h4
  ·exact h4 (h3 0 (by decide))
  ·exact h4 (h3 1 (by decide))
  ·exact h4 (h3 2 (by decide))
 omega
def v3 : Crv := ⟨[64], [128], 256⟩
def x3 : List Int := [100, 0, 0, -3]
theorem v3_ok : CrvOK v3 := by
 refine ⟨⟨by decide, fun j => ?_⟩, ⟨by decide, fun j => ?_⟩, by decide⟩
 ·match j with
  | 0 => decide
  | j + 1 => show -4096 ≤ (0 : Int) ∧ (0 : Int) ≤ 4096; decide
 ·match j with
  | 0 => decide
  | j + 1 => show -4096 ≤ (0 : Int) ∧ (0 : Int) ≤ 4096; decide
theorem x3_ok : SigOK x3 := by
 refine ⟨by decide, fun j => ?_⟩
 match j with
 | 0 => decide
 | 1 => decide
 | 2 => decide
 | 3 => decide
 | j + 4 => show -32767 ≤ (0 : Int) ∧ (0 : Int) ≤ 32767; decide
theorem nextY_take (u : Bool) (c : Crv) (xs zs : List Int) (n i : Nat) (h : i ≤ n) : nextY u c xs (zs.take n) i = nextY u c xs zs i := by
 unfold nextY hiF hoF
 rw [List.take_take, Nat.min_eq_left h]
theorem Filt.uniq {u : Bool} {c : Crv} {most : Int} {xs ys zs : List Int} (hy : Filt u c most xs ys) (hz : Filt u c most xs zs) (hl : ys.length ≤ zs.length) : ys = zs.take ys.length := by
 have key : ∀ n, n ≤ ys.length → ys.take n = zs.take n := by
  intro n
  induction n with
  | zero => intro _; rfl
  | succ n ih =>
   intro hn
   rw [take_snoc ys n 0 (by omega), take_snoc zs n 0 (by omega), ih (by omega), (hy.each n (by omega)).1, (hz.each n (by omega)).1, ← nextY_take u c xs ys n n (Nat.le_refl _), ih (by omega), nextY_take u c xs zs n n (Nat.le_refl _)]
 have := key ys.length (Nat.le_refl _)
 rwa [List.take_length] at this
theorem Filt.same {u : Bool} {c : Crv} {most : Int} {xs ys zs : List Int} (hy : Filt u c most xs ys) (hz : Filt u c most xs zs) (h1 : ys.length = xs.length) (h2 : zs.length = xs.length) : ys = zs := by
 have := hy.uniq hz (by omega)
 rwa [List.take_of_length_le (by omega)] at this
theorem Filt.no_far {u : Bool} {c : Crv} {most : Int} {xs ys zs : List Int} (hy : Filt u c most xs ys) (h1 : ys.length < xs.length) (hb : bey (nextY u c xs ys ys.length) most) (hz : Filt u c most xs zs) (h2 : zs.length = xs.length) : False := by
 have e := hy.uniq hz (by omega)
 have h3 := hz.each ys.length (by omega)
 rw [e, List.length_take, Nat.min_eq_left (by omega), nextY_take _ _ _ _ _ _ (Nat.le_refl _), ← h3.1] at hb
 exact h3.2 hb
def y3 : List Int := [nextY false v3 x3 [] 0, nextY false v3 x3 [100] 1, nextY false v3 x3 [100, 75] 2, nextY false v3 x3 [100, 75, 37] 3]
instance (n m : Int) : Decidable (bey n m) := by unfold bey; exact inferInstance
theorem y3_filt : Filt false v3 32767 x3 y3 := ⟨by decide, all_lt 4 (by decide)⟩
def T3 : List Tak := [⟨⟨#[97]⟩, [⟨10, -10⟩, ⟨5, 0⟩]⟩]
def p3 : List Prt := [⟨0, 0, 2, 0, 0, 0, 500⟩]
theorem T3_name : nameOK ⟨#[97]⟩ := ⟨by decide, by decide, fun j hj => by
 have : j = 0 := by
  have : j < 1 := hj
  omega
 subst this
 exact .inl (by decide)⟩
theorem T3_ok : TaksOK T3 := by
 refine ⟨by decide, fun j hj => ?_, fun i j hi hj => ?_⟩
 ·have : j = 0 := by
   have : j < 1 := hj
   omega
  subst this
  exact ⟨T3_name, by decide, by decide, by decide⟩
 ·have : i < 1 := hi
  omega
theorem p3_ok : ProgOK T3 p3 := by
 refine ⟨T3_ok, by decide, fun j hj => ?_, ⟨fun _ => by decide, fun i h1 h2 => ?_, fun i h1 h2 => ?_, by decide⟩⟩
 ·have : j = 0 := by
   have : j < 1 := hj
   omega
  subst this
  decide
 ·have : i < 1 := h2
  omega
 ·have : i < 1 := h2
  omega
theorem r3_ok : smpE (rend T3 p3) = 0 := (smpE_iff _).2 ⟨by decide, all_lt 2 (by decide +kernel)⟩
theorem s25 : PSpec Tryz.prog 68 [] (xP True) := by
 refine spec_g (bodyOf Tryz.f68) [] pMix Tryz.func68 Tryz.ntmps68 [.tmp 0] ?_
 repeat' ((conv => whnf); first | refine Rng.g ?_ | fail)
 conv => whnf
 refine CallVC.mk [] _ _ _ rfl rfl rfl (s30 c3 l3) (fun r m' h' => ?_)
 cases h' with
 | bad e h he hr hm => exact absurd ⟨c3_ok, l3_ok⟩ h
 | ok hC hl hr hm =>
  subst hr hm
  repeat' ((conv => whnf); first | refine Rng.g ?_ | fail)
  conv => whnf
  refine CallVC.mk [] _ _ _ rfl rfl rfl (s35 c3 (cutF c3 l3) 1000) (fun r m' h' => ?_)
  cases h' with
  | bad e h he hr hm => exact absurd ⟨c3_ok, g3_ok, by decide⟩ h
  | none ht h hr hm => exact absurd (t3_yes.mono (t := t3) c3_ok (by decide) (by decide) (by decide)) h
  | ok ht k hk hk' hr hm =>
   have hk3 := t3_least hk
   subst hk3 hr hm
   repeat' ((conv => whnf); first | refine Rng.g ?_ | fail)
   conv => whnf
   refine CallVC.mk [] _ _ _ rfl rfl rfl (s49 v3 x3) (fun r m' h' => ?_)
   cases h' with
   | bad e h he hr hm => exact absurd ⟨v3_ok, x3_ok⟩ h
   | far hl hx ys h hs hb hr hm => exact (h.no_far hs hb y3_filt rfl).elim
   | ok hl hx ys h hs hr hm =>
    have hy := h.same y3_filt hs rfl
    subst hy hr hm
    repeat' ((conv => whnf); first | refine Rng.g ?_ | fail)
    conv => whnf
    refine CallVC.mk [] _ _ _ rfl rfl rfl (s26 T3 p3 p3_ok) (fun r m' h' => ?_)
    rcases h' with ⟨h1, rfl, rfl⟩ | ⟨h1, rfl, rfl⟩
    ·have q1 : (List.length (smpA (cutF c3 l3)) : Int) = 3 := by decide
     have q2 : rI (smpA (cutF c3 l3)) (Int.toNat 1) 0 = -200 := by decide
     have q3 : rI (smpA (cutF c3 l3)) (Int.toNat 1) (0 + 1) = 600 := by decide
     have q4 : (List.length (i64s y3) : Int) = 4 := by decide
     have q5 : rI (i64s y3) (Int.toNat 1) 0 = 75 := by decide
     have q6 : (List.length (smpA (rend T3 p3)) : Int) = 2 := by decide
     have q7 : rI (smpA (rend T3 p3)) (Int.toNat 0) 0 = 5 := by decide +kernel
     have q8 : rI (smpA (rend T3 p3)) (Int.toNat 0) (0 + 1) = -5 := by decide +kernel
     repeat' ((conv => whnf); first | refine Ob.g ?_ | refine Ob.e ?_ | refine Br.t (fun h => ?_) | (refine Br.mk (fun h => ?_) (fun h => ?_) <;> first | (exfalso; omega; done) | (exfalso; simp at h; done) | skip))
     all_goals first
      | exact absurd ⟨q2, q3, trivial⟩ h
      | exact absurd ⟨q7, q8, trivial⟩ h
      | skip
     refine EndVC.mk _ rfl _ _ ⟨rfl, rfl⟩ ?_
     refine ⟨[], rfl, rfl, ?_, ?_⟩ <;> repeat' (first | exact trivial | apply And.intro)
     exact ⟨fun _ => trivial, fun _ => ⟨q7, q8, trivial⟩⟩
    ·exact absurd r3_ok h1
end Go.Sx

namespace Go.Sx
open Go Go.Proofs
set_option maxRecDepth 10000
set_option maxHeartbeats 8000000
end Go.Sx

namespace Go.Sx
open Go Go.Proofs
set_option maxRecDepth 10000
set_option maxHeartbeats 16000000
end Go.Sx

namespace Go.Sx
open Go Go.Proofs
set_option maxRecDepth 10000
set_option maxHeartbeats 4000000
end Go.Sx

namespace Go.Sx
open Go Go.Proofs
set_option maxRecDepth 10000
set_option maxHeartbeats 8000000
end Go.Sx

namespace Go.Sx
open Go Go.Proofs
set_option maxRecDepth 10000
set_option maxHeartbeats 8000000
end Go.Sx

namespace Go.Sx
open Go Go.Proofs
set_option maxRecDepth 10000
set_option maxHeartbeats 8000000
end Go.Sx

namespace Go.Sx
open Go Go.Proofs
set_option maxRecDepth 10000
set_option maxHeartbeats 8000000
end Go.Sx

namespace Go.Sx
open Go Go.Proofs
set_option maxRecDepth 10000
set_option maxHeartbeats 8000000
end Go.Sx

namespace Go.Sx
open Go Go.Proofs
set_option maxRecDepth 10000
set_option maxHeartbeats 8000000
end Go.Sx

namespace Go.Sx
open Go Go.Proofs
set_option maxRecDepth 10000
set_option maxHeartbeats 8000000
end Go.Sx

namespace Go.Sx
open Go Go.Proofs
set_option maxRecDepth 10000
set_option maxHeartbeats 8000000
end Go.Sx

namespace Go.Sx
open Go Go.Proofs
set_option maxRecDepth 10000
set_option maxHeartbeats 4000000
def winL (i n m : Nat) : List Nat := (List.range n).filter fun u => decide (i < u + m ∧ u < i + m)
def dst (i u : Nat) : Nat := if u < i then i - u else u - i
theorem win_mem {i n m u : Nat} : u ∈ winL i n m ↔ u < n ∧ dst i u < m := by
 unfold winL dst
 rw [List.mem_filter, List.mem_range]
 constructor
 ·rintro ⟨h1, h2⟩
  have := of_decide_eq_true h2
  refine ⟨h1, ?_⟩
  split <;> omega
 ·rintro ⟨h1, h2⟩
  refine ⟨h1, decide_eq_true ?_⟩
  split at h2 <;> omega
def mnL (a : Int) (l : List Int) : Int := l.foldl (fun a x => if x < a then x else a) a
theorem mnL_le : ∀ (l : List Int) (a : Int), mnL a l ≤ a ∧ ∀ x, x ∈ l → mnL a l ≤ x
 | [], a => ⟨Int.le_refl _, fun x h => by simp at h⟩
 | y :: l, a => by
  have e : mnL a (y :: l) = mnL (if y < a then y else a) l := rfl
  rw [e]
  by_cases hy : y < a
  ·rw [if_pos hy]
   obtain ⟨h1, h2⟩ := mnL_le l y
   refine ⟨by omega, fun x hx => ?_⟩
   rcases List.mem_cons.1 hx with rfl | hx
   ·exact h1
   ·exact h2 x hx
  ·rw [if_neg hy]
   obtain ⟨h1, h2⟩ := mnL_le l a
   refine ⟨h1, fun x hx => ?_⟩
   rcases List.mem_cons.1 hx with rfl | hx
   ·omega
   ·exact h2 x hx
theorem mnL_ge : ∀ (l : List Int) (a b : Int), b ≤ a → (∀ x, x ∈ l → b ≤ x) → b ≤ mnL a l
 | [], a, b, h, _ => h
 | y :: l, a, b, h, h2 => by
  have h3 := h2 y List.mem_cons_self
  have e : mnL a (y :: l) = mnL (if y < a then y else a) l := rfl
  rw [e]
  exact mnL_ge l _ b (by split <;> omega) (fun x hx => h2 x (List.mem_cons_of_mem _ hx))
def eroF (S h : List Int) (i : Nat) : Int := mnL (h.getD i 0) ((winL i h.length S.length).map fun u => h.getD u 0 + S.getD (dst i u) 0)
def eroL (S h : List Int) : List Int := (List.range h.length).map (eroF S h)
theorem eroL_len (S h : List Int) : (eroL S h).length = h.length := by simp [eroL]
theorem eroL_get (S h : List Int) (i : Nat) (hi : i < h.length) : (eroL S h).getD i 0 = eroF S h i := by simp [eroL, List.getD_eq_getElem?_getD, List.getElem?_range hi]
theorem ero_self (S h : List Int) (i : Nat) : eroF S h i ≤ h.getD i 0 := (mnL_le _ _).1
theorem ero_ge {S h : List Int} {i : Nat} {b : Int} (h1 : b ≤ h.getD i 0) (h2 : ∀ u, u < h.length → dst i u < S.length → b ≤ h.getD u 0 + S.getD (dst i u) 0) : b ≤ eroF S h i :=
 mnL_ge _ _ _ h1 fun x hx => by
  obtain ⟨u, hu, rfl⟩ := List.mem_map.1 hx
  obtain ⟨h3, h4⟩ := win_mem.1 hu
  exact h2 u h3 h4
structure TipOK (S : List Int) : Prop where
 len : 1 ≤ S.length ∧ S.length ≤ 64
 zero : S.getD 0 0 = 0
 rng : ∀ k, k < S.length → 0 ≤ S.getD k 0 ∧ S.getD k 0 ≤ 4194304
 mono : ∀ k, k + 1 < S.length → S.getD k 0 ≤ S.getD (k + 1) 0
def outs (p : List Smp) : List Int := p.map fun s => s.r
def inns (p : List Smp) : List Int := p.map fun s => -s.l
theorem outs_len (p : List Smp) : (outs p).length = p.length := by simp [outs]
theorem inns_len (p : List Smp) : (inns p).length = p.length := by simp [inns]
theorem outs_get (p : List Smp) (i : Nat) (h : i < p.length) : (outs p).getD i 0 = (p.getD i s0).r := by simp [outs, List.getD_eq_getElem?_getD, h]
theorem inns_get (p : List Smp) (i : Nat) (h : i < p.length) : (inns p).getD i 0 = -(p.getD i s0).l := by simp [inns, List.getD_eq_getElem?_getD, h]
def wallF (O N : List Int) (n : Nat) : List Smp := (List.range n).map fun i => ⟨-N.getD i 0, O.getD i 0⟩
theorem wallF_len (O N : List Int) (n : Nat) : (wallF O N n).length = n := by simp [wallF]
theorem wallF_get (O N : List Int) (n i : Nat) (h : i < n) : (wallF O N n).getD i s0 = ⟨-N.getD i 0, O.getD i 0⟩ := by simp [wallF, List.getD_eq_getElem?_getD, List.getElem?_range h]
def readF (S : List Int) (p : List Smp) : List Smp := wallF (eroL S (outs p)) (eroL S (inns p)) p.length
theorem getD_ext {l r : List Int} (h : l.length = r.length) (h2 : ∀ i, i < l.length → l.getD i 0 = r.getD i 0) : l = r := by
 apply List.ext_getElem h
 intro i h3 h4
 have := h2 i h3
 simpa [List.getD_eq_getElem?_getD, h3, h4] using this
end Go.Sx

namespace Go.Sx
open Go Go.Proofs
set_option maxRecDepth 10000
set_option maxHeartbeats 8000000
end Go.Sx

namespace Go.Sx
open Go Go.Proofs
set_option maxRecDepth 10000
set_option maxHeartbeats 8000000
@[reducible] def tipX (S : List Int) : XV := .agg [.lst true [.int .i64] (i64s S)]
@[reducible] def bTip (S : List Int) : Blk := .box 97 [.lst true [.int .i64] (i64s S)]
def tipN (S : List Int) (k : Nat) : Prop := ∀ j, j < k → (0 ≤ S.getD j 0 ∧ S.getD j 0 ≤ 4194304) ∧ (j = 0 → S.getD j 0 = 0) ∧ (0 < j → S.getD (j - 1) 0 ≤ S.getD j 0)
theorem tipOK_iff (S : List Int) : TipOK S ↔ (1 ≤ S.length ∧ S.length ≤ 64) ∧ tipN S S.length := by
 constructor
 ·intro h
  refine ⟨h.len, fun j hj => ⟨h.rng j hj, fun e => by rw [e]; exact h.zero, fun e => ?_⟩⟩
  have := h.mono (j - 1) (by omega)
  rwa [show j - 1 + 1 = j by omega] at this
 ·rintro ⟨h1, h2⟩
  exact ⟨h1, (h2 0 (by omega)).2.1 rfl, fun k hk => (h2 k hk).1, fun k hk => (h2 (k + 1) hk).2.2 (by omega)⟩
def lastN (S : List Int) : Nat → Int
 | 0 => 0
 | i + 1 => S.getD i 0
theorem s175 (S : List Int) : HSpec Tryz.prog 71 [tipX S] [] (fun r m' => ∃ e, r = .x (I e) ∧ m' = [] ∧ (e = 0 ↔ TipOK S)) := by
 have ls := i64s_len S
 have hT := tipOK_iff S
 by_cases hl : S.length = 0 ∨ 64 < S.length
 ·refine spec_g (bodyOf Tryz.f71) [] pMix Tryz.func71 Tryz.ntmps71 [.tmp 2] ?_
  repeat' ((conv => whnf); first | refine Br.t (fun h => ?_) | refine Br.mk (fun h => ?_) fun h => ?_)
  all_goals
   conv => whnf
   refine EndVC.mk _ rfl _ _ (⟨6, rfl, rfl, ⟨fun h => (by cases h), fun hC => (by have := hC.len; omega)⟩⟩) ?_
   exact Le.g []
 refine spec_g (bodyOf Tryz.f71) [] pMix Tryz.func71 Tryz.ntmps71 [.tmp 2] ?_
 repeat' ((conv => whnf); refine Br.f (fun h => ?_))
 refine LoopVC.mk (fun n st => ∃ (i : Nat), i ≤ S.length ∧ n = S.length - i ∧ tipN S i ∧ st = ⟨0, envA 41 [(3, .int .i64 (lastN S i)), (17, .x (lL S)), (18, .int .i64 ((i64s S).length : Int)), (19, .int .i64 (i : Int))], []⟩) _ _ ⟨0, Nat.zero_le _, rfl, fun j hj => absurd hj (Nat.not_lt_zero j), rfl⟩ ?_ ?_
 ·exact Le.g []
 rintro n _ ⟨i, hi, hn, ht, rfl⟩
 have gx : rI (i64s S) (i : Int).toNat 0 = S.getD i 0 := by rw [Int.toNat_natCast, i64s_get]
 by_cases hi' : i < S.length
 ·have hl0 : lastN S (i + 1) = S.getD i 0 := rfl
  have hbad : (S.getD i 0 < lastN S i ∨ 4194304 < S.getD i 0 ∨ (i = 0 ∧ S.getD i 0 ≠ 0)) → ¬ TipOK S := fun hb hC => by
   have h1 := (hT.1 hC).2 i hi'
   cases i with
   | zero =>
    have : lastN S 0 = 0 := rfl
    have := h1.2.1 rfl
    omega
   | succ i =>
    have e : lastN S (i + 1) = S.getD i 0 := rfl
    have h2 := h1.2.2 (by omega)
    rw [show i + 1 - 1 = i by omega] at h2
    omega
  have hgood : ¬ (S.getD i 0 < lastN S i ∨ 4194304 < S.getD i 0 ∨ (i = 0 ∧ S.getD i 0 ≠ 0)) → tipN S (i + 1) := fun hb j hj => by
   rcases Nat.lt_succ_iff_lt_or_eq.1 hj with h' | rfl
   ·exact ht j h'
   ·cases j with
    | zero =>
     have : lastN S 0 = 0 := rfl
     refine ⟨by omega, fun _ => by omega, fun h => absurd h (Nat.lt_irrefl 0)⟩
    | succ j =>
     have e : lastN S (j + 1) = S.getD j 0 := rfl
     have h1 := (ht j (by omega)).1
     refine ⟨by omega, fun h => by omega, fun _ => ?_⟩
     rw [show j + 1 - 1 = j by omega]
     omega
  by_cases hb : S.getD i 0 < lastN S i ∨ 4194304 < S.getD i 0 ∨ (i = 0 ∧ S.getD i 0 ≠ 0)
  ·repeat' ((conv => whnf); first | rw [gx] | refine Ob.g ?_ | refine Br.t (fun h => ?_) | refine Br.mk (fun h => ?_) fun h => ?_)
   all_goals
    conv => whnf
    refine EndVC.mk _ rfl _ _ (⟨2, rfl, rfl, ⟨fun h => (by cases h), fun hC => absurd hC (hbad hb)⟩⟩) ?_
    exact Le.g []
  ·repeat' ((conv => whnf); first | rw [gx] | refine Rng.g ?_ | refine Ob.g ?_ | refine Br.t (fun h => ?_) | refine Br.f (fun h => ?_) | refine Br.mk (fun h => ?_) fun h => ?_)
   all_goals
    refine Back.mk (S.length - (i + 1)) _ (by omega) ⟨i + 1, by omega, rfl, hgood hb, rfl⟩ ?_
    exact Le.g []
 ·have ei : i = S.length := by omega
  subst ei
  repeat' ((conv => whnf); refine Br.f (fun h => ?_))
  conv => whnf
  refine EndVC.mk _ rfl _ _ (⟨0, rfl, rfl, ⟨fun _ => hT.2 ⟨by omega, ht⟩, fun _ => rfl⟩⟩) ?_
  exact Le.g []
theorem s158 (S : List Int) (p : List Smp) : HSpec Tryz.prog 51 [tipX S, lS p] [] (fun r m' => ∃ e, r = .x (I e) ∧ m' = [] ∧ (e = 0 ↔ TipOK S ∧ PtsOK p)) := by
 refine spec_g (bodyOf Tryz.f51) [] pMix Tryz.func51 Tryz.ntmps51 [.tmp 4] ?_
 repeat' ((conv => whnf); first | refine Rng.g ?_ | fail)
 conv => whnf
 refine CallVC.mk [] _ _ _ rfl rfl rfl (s175 S) (fun r m' h' => ?_)
 obtain ⟨e, rfl, rfl, he⟩ := h'
 conv => whnf
 by_cases h0 : e = 0
 rotate_left
 ·repeat' ((conv => whnf); refine Br.t (fun h => ?_))
  conv => whnf
  refine EndVC.mk _ rfl _ _ (⟨e, rfl, rfl, ⟨fun h => absurd h h0, fun h => absurd (he.2 h.1) h0⟩⟩) ?_
  exact Le.g []
 have hS := he.1 h0
 subst h0
 repeat' ((conv => whnf); refine Br.f (fun h => ?_))
 conv => whnf
 refine CallVC.mk [] _ _ _ rfl rfl rfl (s153 p) (fun r m' h' => ?_)
 obtain ⟨e2, rfl, rfl, he2⟩ := h'
 conv => whnf
 repeat' ((conv => whnf); first | refine Rng.g ?_ | fail)
 conv => whnf
 refine EndVC.mk _ rfl _ _ (⟨e2, rfl, rfl, ⟨fun h => ⟨hS, he2.1 h⟩, fun h => he2.2 h.2⟩⟩) ?_
 exact Le.g []
end Go.Sx

namespace Go.Sx
open Go Go.Proofs
set_option maxRecDepth 10000
set_option maxHeartbeats 8000000
theorem m_ou_of : mthF  Tryz.prog  212 "deadwax/play.of" = some 209 := by kernel_rfl
theorem m_ou_bk : mthF  Tryz.prog  212 "deadwax/play.back" = some 208 := by kernel_rfl
theorem m_in_of : mthF  Tryz.prog  213 "deadwax/play.of" = some 211 := by kernel_rfl
theorem m_in_bk : mthF  Tryz.prog  213 "deadwax/play.back" = some 210 := by kernel_rfl
theorem s399 (n : Int) : PSpec Tryz.prog 208 [.agg [], I n] (.x (I n)) := by
 refine spec_g (bodyOf Tryz.f208) [] pMix Tryz.func208 Tryz.ntmps208 [.tmp 4] ?_
 repeat' ((conv => whnf); first | refine Rng.g ?_ | fail)
 refine EndVC.mk _ rfl _ _ ⟨rfl, rfl⟩ ?_
 exact Le.g []
theorem s400 (s : Smp) : PSpec Tryz.prog 209 [.agg [], s.x] (.x (I s.r)) := by
 refine spec_g (bodyOf Tryz.f209) [] pMix Tryz.func209 Tryz.ntmps209 [.tmp 4] ?_
 repeat' ((conv => whnf); first | refine Rng.g ?_ | fail)
 refine EndVC.mk _ rfl _ _ ⟨rfl, rfl⟩ ?_
 exact Le.g []
theorem s401 (n : Int) (hn : -1000000000 ≤ n ∧ n ≤ 1000000000) : PSpec Tryz.prog 210 [.agg [], I n] (.x (I (0 - n))) := by
 refine spec_g (bodyOf Tryz.f210) [] pMix Tryz.func210 Tryz.ntmps210 [.tmp 4] ?_
 repeat' ((conv => whnf); first | refine Rng.g ?_ | fail)
 refine EndVC.mk _ rfl _ _ ⟨rfl, rfl⟩ ?_
 exact Le.g []
theorem s402 (s : Smp) (hn : -1000000000 ≤ s.l ∧ s.l ≤ 1000000000) : PSpec Tryz.prog 211 [.agg [], s.x] (.x (I (0 - s.l))) := by
 refine spec_g (bodyOf Tryz.f211) [] pMix Tryz.func211 Tryz.ntmps211 [.tmp 4] ?_
 repeat' ((conv => whnf); first | refine Rng.g ?_ | fail)
 refine EndVC.mk _ rfl _ _ ⟨rfl, rfl⟩ ?_
 exact Le.g []
theorem s177 (i n m : Int) : HSpec Tryz.prog 94 [I i, I n, I m] [] (fun r m' => r = .x (.one (.fn 118 [(0, 0), (2, 0), (1, 0)])) ∧ m' = [some (.box 3 [.int .i64 i]), some (.box 3 [.int .i64 n]), some (.box 3 [.int .i64 m])]) := by
 refine spec_g (bodyOf Tryz.f94) [] pMix Tryz.func94 Tryz.ntmps94 [.tmp 6] ?_
 repeat' ((conv => whnf); first | refine Rng.g ?_ | fail)
 conv => whnf
 refine EndVC.mk _ rfl _ _ (⟨rfl, rfl⟩) ?_
 exact Le.g [some 0, some 1, some 2]
theorem s246 (a b : Int) : PSpec Tryz.prog 97 [I a, I b] (xP (a < b)) := by
 refine spec_g (bodyOf Tryz.f97) [] pMix Tryz.func97 Tryz.ntmps97 [.tmp 4] ?_
 repeat' ((conv => whnf); first | refine Rng.g ?_ | fail)
 refine EndVC.mk _ rfl _ _ ⟨rfl, rfl⟩ ?_
 exact Le.g []
end Go.Sx

namespace Go.Sx
open Go Go.Proofs
set_option maxRecDepth 10000
set_option maxHeartbeats 16000000
theorem e118 : EntersF Tryz.prog 118 := enters_of Tryz.func118 (c := bodyOf Tryz.f118) (by kernel_rfl) rfl
theorem e93 : EntersF Tryz.prog 93 := enters_of Tryz.func93 (c := bodyOf Tryz.f93) (by kernel_rfl) rfl
noncomputable def rf244 : Code := cB (cS (cF (cS (bodyOf Tryz.f95))))
noncomputable def rf243 : Code := cB (cS (cS (bodyOf Tryz.f93)))
def btF (sg : Bool) (x a : Int) : Int := match sg with
 | true => if x > a then x else a
 | false => if x < a then x else a
def btN : Bool → FuncId
 | true => 96
 | false => 97
@[reducible] noncomputable def MA7 (S H : List Int) (sg : Bool) (i a0 a : Int) : List (Option Blk) := [some (.box 3 [.int .i64 i]), some (.box 43 [.lst true [.int .i64] (i64s H)]), some (bTip S), some (.box 4 [bv sg]), some (.box 2 [.int .i64 a]), some (.box 111 [.fn (btN sg) []]), some (.loop [9] (cAs rf244) (cBo rf244) (envA 16 [(0, .x (I a0)), (1, .x (.one (.fn 93 [(0, 0), (1, 0), (2, 0), (3, 0)]))), (2, .x (.one (.fn (btN sg) []))), (3, .x (.one (.ptr 4 0))), (5, .x (.one (.ptr 5 0))), (6, .x (I 0)), (8, .x (.one (.fn 93 [(0, 0), (1, 0), (2, 0), (3, 0)])))]) .ready)]
@[reducible] noncomputable def MA12 (S H : List Int) (sg : Bool) (i a0 a : Int) : List (Option Blk) := [some (.box 3 [.int .i64 i]), some (.box 43 [.lst true [.int .i64] (i64s H)]), some (bTip S), some (.box 4 [bv sg]), some (.box 2 [.int .i64 a]), some (.box 111 [.fn (btN sg) []]), some (.loop [9] (cAs rf244) (cBo rf244) (envA 16 [(0, .x (I a0)), (1, .x (.one (.fn 93 [(0, 0), (1, 0), (2, 0), (3, 0)]))), (2, .x (.one (.fn (btN sg) []))), (3, .x (.one (.ptr 4 0))), (5, .x (.one (.ptr 5 0))), (6, .x (I 0)), (8, .x (.one (.fn 93 [(0, 0), (1, 0), (2, 0), (3, 0)])))]) .ready), some (.box 214 [.yld 6]), some (.box 3 [.int .i64 i]), some (.box 3 [.int .i64 (H.length : Int)]), some (.box 3 [.int .i64 (S.length : Int)]), some (.loop [16, 17] (cAs rf243) (cBo rf243) (envA 35 [(0, .x (.one (.yld 6))), (1, .x (.one (.ptr 0 0))), (2, .x (.one (.ptr 1 0))), (3, .x (.one (.ptr 2 0))), (4, .x (.one (.ptr 3 0))), (5, .x (.one (.ptr 7 0))), (9, .x (I i)), (10, .x (lL H)), (11, .x (I (H.length : Int))), (12, .x (.one (.ptr 2 0))), (13, .x (lL S)), (14, .x (I (S.length : Int))), (15, .x (.one (.fn 118 [(8, 0), (10, 0), (9, 0)])))]) .ready)]
@[reducible] noncomputable def MAb (S H : List Int) (sg : Bool) (i a0 a : Int) : List (Option Blk) := [some (.box 3 [.int .i64 i]), some (.box 43 [.lst true [.int .i64] (i64s H)]), some (bTip S), some (.box 4 [bv sg]), some (.box 2 [.int .i64 a]), some (.box 111 [.fn (btN sg) []]), some (.loop [9] (cAs rf244) (cBo rf244) (envA 16 [(0, .x (I a0)), (1, .x (.one (.fn 93 [(0, 0), (1, 0), (2, 0), (3, 0)]))), (2, .x (.one (.fn (btN sg) []))), (3, .x (.one (.ptr 4 0))), (5, .x (.one (.ptr 5 0))), (6, .x (I 0)), (8, .x (.one (.fn 93 [(0, 0), (1, 0), (2, 0), (3, 0)])))]) .ready), some (.box 214 [.yld 6]), some (.box 3 [.int .i64 i]), some (.box 3 [.int .i64 (H.length : Int)]), some (.box 3 [.int .i64 (S.length : Int)]), some (.loop [16, 17] (cAs rf243) (cBo rf243) (envA 35 [(0, .x (.one (.yld 6))), (1, .x (.one (.ptr 0 0))), (2, .x (.one (.ptr 1 0))), (3, .x (.one (.ptr 2 0))), (4, .x (.one (.ptr 3 0))), (5, .x (.one (.ptr 7 0))), (9, .x (I i)), (10, .x (lL H)), (11, .x (I (H.length : Int))), (12, .x (.one (.ptr 2 0))), (13, .x (lL S)), (14, .x (I (S.length : Int))), (15, .x (.one (.fn 118 [(8, 0), (10, 0), (9, 0)])))]) .busy)]
theorem rnd244 (S H : List Int) (i a0 a x : Int) : RSem Tryz.prog 6 [I x] (MAb S H false i a0 a) (fun bb m' => bb = true ∧ m' = MAb S H false i a0 (btF false x a)) := by
 refine RSem.le (rsem_of_awp (Q := fun bb m' => ∃ m2, (bb = true ∧ m2 = MAb S H false i a0 (btF false x a)) ∧ Le ⟨(MAb S H false i a0 a).length, [], m'⟩ ⟨(MAb S H false i a0 a).length, [], m2⟩) pMix [] rfl (by kernel_rfl) ?_) (fun bb m' h => by obtain ⟨m2, h1, h2⟩ := h; exact ⟨m2, h1, h2⟩)
 have k := s246 x a
 by_cases hc : x < a
 ·have e1 : btF false x a = x := if_pos hc
  rw [e1]
  repeat' ((conv => whnf); first | refine JoinVC.on ?_ | refine CallVC.pure rfl (k) ?_ | refine Br.t (fun h => ?_))
  refine ⟨_, ⟨rfl, rfl⟩, [some 0, some 1, some 2, some 3, some 4, some 5, some 6, some 7, some 8, some 9, some 10, some 11], rfl, rfl, ?_, ?_⟩ <;> repeat' (first | exact trivial | exact rfl | apply And.intro)
 ·have e1 : btF false x a = a := if_neg hc
  rw [e1]
  repeat' ((conv => whnf); first | refine JoinVC.on ?_ | refine CallVC.pure rfl (k) ?_ | refine Br.f (fun h => ?_))
  refine ⟨_, ⟨rfl, rfl⟩, [some 0, some 1, some 2, some 3, some 4, some 5, some 6, some 7, some 8, some 9, some 10, some 11], rfl, rfl, ?_, ?_⟩ <;> repeat' (first | exact trivial | exact rfl | apply And.intro)
theorem rnd243 (S H : List Int) (i a0 a : Int) (u d : Nat) (hu : u < H.length) (hd : d < S.length) (hH : ∀ j, -100000000 ≤ H.getD j 0 ∧ H.getD j 0 ≤ 100000000) (hS : ∀ j, 0 ≤ S.getD j 0 ∧ S.getD j 0 ≤ 4194304) : RSem Tryz.prog 11 [I (u : Int), I (d : Int)] (MA12 S H false i a0 a) (fun bb m' => bb = true ∧ m' = MA12 S H false i a0 (btF false (H.getD u 0 + S.getD d 0) a)) := by
 have lH := i64s_len H
 have lS := i64s_len S
 have gH : rI (i64s H) (u : Int).toNat 0 = H.getD u 0 := by rw [Int.toNat_natCast, i64s_get]
 have gS : rI (i64s S) (d : Int).toNat 0 = S.getD d 0 := by rw [Int.toNat_natCast, i64s_get]
 have bH := hH u
 have bS := hS d
 refine RSem.le (rsem_of_awp (Q := fun bb m' => ∃ m2, (bb = true ∧ m2 = MA12 S H false i a0 (btF false (H.getD u 0 + S.getD d 0) a)) ∧ Le ⟨(MA12 S H false i a0 a).length, [], m'⟩ ⟨(MA12 S H false i a0 a).length, [], m2⟩) pMix [] rfl (by kernel_rfl) ?_) (fun bb m' h => by obtain ⟨m2, h1, h2⟩ := h; exact ⟨m2, h1, h2⟩)
 repeat' ((conv => whnf); first | rw [gH] | rw [gS] | refine Rng.g ?_ | refine Ob.g ?_ | refine JoinVC.on ?_)
 refine YieldVC.of (rnd244 S H i a0 a (H.getD u 0 + S.getD d 0)) ?_
 repeat' ((conv => whnf); first | refine Rng.g ?_ | fail)
 refine ⟨_, ⟨rfl, rfl⟩, [some 0, some 1, some 2, some 3, some 4, some 5, some 6, some 7, some 8, some 9, some 10, some 11], rfl, rfl, ?_, ?_⟩ <;> repeat' (first | exact trivial | exact rfl | apply And.intro)
def lo0 (i : Nat) (m : Nat) : Nat := i + 1 - m
theorem win_succ (i k m : Nat) : winL i (k + 1) m = winL i k m ++ (if i < k + m ∧ k < i + m then [k] else []) := by
 unfold winL
 rw [List.range_succ, List.filter_append]
 by_cases h : i < k + m ∧ k < i + m
 ·simp [h]
 ·simp [h]
theorem win_lo (i m : Nat) : ∀ k, k ≤ lo0 i m → winL i k m = []
 | 0, _ => rfl
 | k + 1, h => by
  unfold lo0 at h
  rw [win_succ, win_lo i m k (by unfold lo0; omega), if_neg (by omega)]
  rfl
theorem win_hi (i m h : Nat) (hh : i + m ≤ h) : ∀ d, winL i (h + d) m = winL i h m
 | 0 => rfl
 | d + 1 => by
  rw [show h + (d + 1) = h + d + 1 by omega, win_succ, win_hi i m h hh d, if_neg (by omega)]
  simp
theorem it260 (S H : List Int) (i : Nat) (a0 a : Int) (hi : i < H.length) (hH4 : H.length ≤ 4096) (hS6 : 1 ≤ S.length ∧ S.length ≤ 64) (hH : ∀ j, -100000000 ≤ H.getD j 0 ∧ H.getD j 0 ≤ 100000000) (hS : ∀ j, 0 ≤ S.getD j 0 ∧ S.getD j 0 ≤ 4194304) : ISem Tryz.prog 118 [.one (.yld 11), .one (.ptr 8 0), .one (.ptr 10 0), .one (.ptr 9 0)] (MA12 S H false (i : Int) a0 a) (fun m' => ∃ z, z = ((winL i H.length S.length).map fun u => H.getD u 0 + S.getD (dst i u) 0).foldl (fun a x => btF false x a) a ∧ m' = MA12 S H false (i : Int) a0 z) := by
 refine ISem.le (isem_of_awp (Q := fun m' => ∃ m2, (∃ z, z = ((winL i H.length S.length).map fun u => H.getD u 0 + S.getD (dst i u) 0).foldl (fun a x => btF false x a) a ∧ m2 = MA12 S H false (i : Int) a0 z) ∧ Le ⟨(MA12 S H false (i : Int) a0 a).length, [], m'⟩ ⟨(MA12 S H false (i : Int) a0 a).length, [], m2⟩) pMix [] Tryz.func118 (c := bodyOf Tryz.f118) rfl (by kernel_rfl) Tryz.ntmps118 (by kernel_rfl) ?_) (fun _ h => h)
 repeat' ((conv => whnf); first | refine Rng.g ?_ | fail)
 conv => whnf
 refine Mm.nm (fun st hst => ?_)
 have hst2 : st = ((lo0 i S.length : Nat) : Int) := by rw [hst]; unfold lo0; split <;> omega
 clear hst
 subst hst2
 repeat' ((conv => whnf); first | refine Rng.g ?_ | fail)
 refine LoopVC.mk (fun n st => ∃ (k : Nat) (z : Int), lo0 i S.length ≤ k ∧ k ≤ H.length ∧ k ≤ i + S.length ∧ n = H.length - k ∧ z = ((winL i k S.length).map fun u => H.getD u 0 + S.getD (dst i u) 0).foldl (fun a x => btF false x a) a ∧ st = ⟨12, envA 31 [(0, .x (.one (.yld 11))), (1, .x (.one (.ptr 8 0))), (2, .x (.one (.ptr 10 0))), (3, .x (.one (.ptr 9 0))), (5, .int .i64 (k : Int))], [some (.box 3 [.int .i64 (i : Int)]), some (.box 43 [.lst true [.int .i64] (i64s H)]), some (bTip S), some (.box 4 [.ff]), some (.box 2 [.int .i64 z]), some (.box 111 [.fn (btN false) []]), some (.loop [9] (cAs rf244) (cBo rf244) (envA 16 [(0, .x (I a0)), (1, .x (.one (.fn 93 [(0, 0), (1, 0), (2, 0), (3, 0)]))), (2, .x (.one (.fn (btN false) []))), (3, .x (.one (.ptr 4 0))), (5, .x (.one (.ptr 5 0))), (6, .x (I 0)), (8, .x (.one (.fn 93 [(0, 0), (1, 0), (2, 0), (3, 0)])))]) .ready), some (.box 214 [.yld 6]), some (.box 3 [.int .i64 (i : Int)]), some (.box 3 [.int .i64 (H.length : Int)]), some (.box 3 [.int .i64 (S.length : Int)]), some (.loop [16, 17] (cAs rf243) (cBo rf243) (envA 35 [(0, .x (.one (.yld 6))), (1, .x (.one (.ptr 0 0))), (2, .x (.one (.ptr 1 0))), (3, .x (.one (.ptr 2 0))), (4, .x (.one (.ptr 3 0))), (5, .x (.one (.ptr 7 0))), (9, .x (I (i : Int))), (10, .x (lL H)), (11, .x (I (H.length : Int))), (12, .x (.one (.ptr 2 0))), (13, .x (lL S)), (14, .x (I (S.length : Int))), (15, .x (.one (.fn 118 [(8, 0), (10, 0), (9, 0)])))]) .ready)]⟩) _ _ ⟨lo0 i S.length, a, Nat.le_refl _, by unfold lo0; omega, by unfold lo0; omega, rfl, by rw [win_lo _ _ _ (Nat.le_refl _)]; rfl, rfl⟩ ?_ ?_
 ·exact Le.g [some 0, some 1, some 2, some 3, some 4, some 5, some 6, some 7, some 8, some 9, some 10, some 11]
 rintro n _ ⟨k, z, hk1, hk2, hk3, hn, hz, rfl⟩
 unfold lo0 at hk1
 by_cases hk : k < H.length ∧ k < i + S.length
 ·repeat' ((conv => whnf); first | refine Rng.g ?_ | fail)
  conv => whnf
  refine Mm.nm (fun e0 he0 => ?_)
  have he3 : (k : Int) < e0 := by rw [he0]; split <;> omega
  clear he0
  repeat' ((conv => whnf); first | refine Rng.g ?_ | refine Br.t (fun h => ?_))
  conv => whnf
  refine Mm.nm (fun e1 he1 => ?_)
  have he2 : e1 = ((dst i k : Nat) : Int) := by rw [he1]; unfold dst; split <;> split <;> omega
  clear he1
  have hd : dst i k < S.length := by unfold dst; split <;> omega
  subst he2
  repeat' ((conv => whnf); first | refine Rng.g ?_ | fail)
  refine YieldVC.of (rnd243 S H i a0 z k (dst i k) hk.1 hd hH hS) ?_
  repeat' ((conv => whnf); first | refine Rng.g ?_ | fail)
  refine Back.mk (H.length - (k + 1)) _ (by omega) ⟨k + 1, btF false (H.getD k 0 + S.getD (dst i k) 0) z, by unfold lo0; omega, by omega, by omega, rfl, ?_, rfl⟩ ?_
  ·rw [win_succ, if_pos (by omega), List.map_append, List.foldl_append, ← hz]
   rfl
  ·exact Le.g [some 0, some 1, some 2, some 3, some 4, some 5, some 6, some 7, some 8, some 9, some 10, some 11]
 ·repeat' ((conv => whnf); first | refine Rng.g ?_ | fail)
  conv => whnf
  refine Mm.nm (fun e0 he0 => ?_)
  have he3 : ¬ (k : Int) < e0 := by rw [he0]; split <;> omega
  clear he0
  have hw : winL i k S.length = winL i H.length S.length := by
   rcases Nat.lt_or_ge k H.length with h | h
   ·have h2 := win_hi i S.length k (by omega) (H.length - k)
    rw [show k + (H.length - k) = H.length by omega] at h2
    exact h2.symm
   ·rw [show k = H.length by omega]
  rw [hw] at hz
  repeat' ((conv => whnf); refine Br.f (fun h => ?_))
  refine ⟨_, ⟨z, hz, rfl⟩, [some 0, some 1, some 2, some 3, some 4, some 5, some 6, some 7, some 8, some 9, some 10, some 11], rfl, rfl, ?_, ?_⟩ <;> repeat' (first | exact trivial | exact rfl | apply And.intro)
end Go.Sx

namespace Go.Sx
open Go Go.Proofs
set_option maxRecDepth 10000
set_option maxHeartbeats 16000000
@[reducible] def wkL (S H : List Int) (i : Nat) : List Int := (winL i H.length S.length).map fun u => H.getD u 0 + S.getD (dst i u) 0
theorem it243 (S H : List Int) (i : Nat) (a0 a : Int) (hi : i < H.length) (hH4 : H.length ≤ 4096) (hS6 : 1 ≤ S.length ∧ S.length ≤ 64) (hH : ∀ j, -100000000 ≤ H.getD j 0 ∧ H.getD j 0 ≤ 100000000) (hS : ∀ j, 0 ≤ S.getD j 0 ∧ S.getD j 0 ≤ 4194304) : ISem Tryz.prog 93 [.one (.yld 6), .one (.ptr 0 0), .one (.ptr 1 0), .one (.ptr 2 0), .one (.ptr 3 0)] (MA7 S H false (i : Int) a0 a) (fun m' => ∃ z, z = (wkL S H i).foldl (fun a x => btF false x a) a ∧ m' = MA7 S H false (i : Int) a0 z) := by
 have lH := i64s_len H
 have lS := i64s_len S
 refine ISem.le (isem_of_awp (Q := fun m' => ∃ m2, (∃ z, z = (wkL S H i).foldl (fun a x => btF false x a) a ∧ m2 = MA7 S H false (i : Int) a0 z) ∧ Le ⟨(MA7 S H false (i : Int) a0 a).length, [], m'⟩ ⟨(MA7 S H false (i : Int) a0 a).length, [], m2⟩) pMix [] Tryz.func93 (c := bodyOf Tryz.f93) rfl (by kernel_rfl) Tryz.ntmps93 (by kernel_rfl) ?_) (fun _ h => h)
 repeat' ((conv => whnf); first | rw [lH] | rw [lS])
 conv => whnf
 refine CallVC.mk [] _ _ _ rfl rfl rfl (s177 i H.length S.length) (fun r m' h' => ?_)
 obtain ⟨rfl, rfl⟩ := h'
 conv => whnf
 repeat' ((conv => whnf); first | refine Rng.g ?_ | fail)
 change RangeVC _ _ _ _ _
 refine RangeVC.of e118 (it260 S H i a0 a hi hH4 hS6 hH hS) ?_
 rintro _ ⟨z, hz, rfl⟩
 repeat' ((conv => whnf); first | refine Rng.g ?_ | fail)
 refine ⟨_, ⟨z, hz, rfl⟩, [some 0, some 1, some 2, some 3, some 4, some 5, some 6], rfl, rfl, ?_, ?_⟩ <;> repeat' (first | exact trivial | exact rfl | apply And.intro)
theorem s244 (S H : List Int) (i : Nat) (a : Int) (hi : i < H.length) (hH4 : H.length ≤ 4096) (hS6 : 1 ≤ S.length ∧ S.length ≤ 64) (hH : ∀ j, -100000000 ≤ H.getD j 0 ∧ H.getD j 0 ≤ 100000000) (hS : ∀ j, 0 ≤ S.getD j 0 ∧ S.getD j 0 ≤ 4194304) : HSpec Tryz.prog 95 [I a, .one (.fn 93 [(0, 0), (1, 0), (2, 0), (3, 0)]), .one (.fn 97 [])] [.box 3 [.int .i64 (i : Int)], .box 43 [.lst true [.int .i64] (i64s H)], bTip S, .box 4 [.ff]] (fun r m' => ∃ z, z = (wkL S H i).foldl (fun a x => btF false x a) a ∧ r = .x (I z) ∧ m' = [some (.box 3 [.int .i64 (i : Int)]), some (.box 43 [.lst true [.int .i64] (i64s H)]), some (bTip S), some (.box 4 [.ff])]) := by
 refine spec_g (bodyOf Tryz.f95) [] pMix Tryz.func95 Tryz.ntmps95 [.tmp 6] ?_
 repeat' ((conv => whnf); first | refine Rng.g ?_ | fail)
 change RangeVC _ _ _ _ _
 refine RangeVC.of e93 (it243 S H i a a hi hH4 hS6 hH hS) ?_
 rintro _ ⟨z, hz, rfl⟩
 repeat' ((conv => whnf); first | refine Rng.g ?_ | fail)
 conv => whnf
 refine EndVC.mk _ rfl _ _ (⟨z, hz, rfl, rfl⟩) ?_
 exact Le.g [some 0, some 1, some 2, some 3]
end Go.Sx

namespace Go.Sx
open Go Go.Proofs
set_option maxRecDepth 10000
set_option maxHeartbeats 16000000
def accW (f : Nat → Int) (n k : Nat) : List Int := (List.range n).map fun j => if j < k then f j else 0
theorem accW_len (f : Nat → Int) (n k : Nat) : (accW f n k).length = n := by simp [accW]
theorem accW_0 (f : Nat → Int) (n : Nat) : List.replicate n [Cell.int 0] = i64s (accW f n 0) := by
 apply List.ext_getElem
 ·simp [accW, i64s]
 ·intro j h1 h2
  simp [accW, i64s]
theorem accW_n (f : Nat → Int) (n : Nat) : accW f n n = (List.range n).map f := by
 unfold accW
 apply List.map_congr_left
 intro j hj
 rw [if_pos (List.mem_range.1 hj)]
theorem accW_set (f : Nat → Int) (n k : Nat) : (accW f n k).set k (f k) = accW f n (k + 1) := by
 apply List.ext_getElem
 ·simp [accW]
 ·intro j h1 h2
  simp only [accW, List.getElem_set, List.getElem_map, List.getElem_range]
  by_cases e : k = j
  ·subst e
   rw [if_pos rfl, if_pos (Nat.lt_succ_self k)]
  ·rw [if_neg e]
   by_cases h : j < k
   ·rw [if_pos h, if_pos (by omega)]
   ·rw [if_neg h, if_neg (by omega)]
theorem accW_upd (f : Nat → Int) (n k : Nat) (v : Int) (hk : k < n) (hv : v = f k) : updRow (i64s (accW f n k)) (k : Int).toNat 0 [.int v] = i64s (accW f n (k + 1)) := by
 rw [Int.toNat_natCast, i64s_upd _ _ _ (by rw [accW_len]; exact hk), hv, accW_set]
theorem ero_eq (S H : List Int) (i : Nat) : (wkL S H i).foldl (fun a x => btF false x a) (H.getD i 0) = eroF S H i := rfl
theorem s165 (S H : List Int) (hH4 : H.length ≤ 4096) (hS6 : 1 ≤ S.length ∧ S.length ≤ 64) (hH : ∀ j, -100000000 ≤ H.getD j 0 ∧ H.getD j 0 ≤ 100000000) (hS : ∀ j, 0 ≤ S.getD j 0 ∧ S.getD j 0 ≤ 4194304) : HSpec Tryz.prog 75 [tipX S, lL H, .one .ff] [] (fun r m' => r = .x (.one (.own 0)) ∧ m' = [some (rowL (eroL S H))]) := by
 have lH := i64s_len H
 refine spec_g (bodyOf Tryz.f75) ([(7, ([], ordDef 0 4 ++ [⟨4, [0, 1], []⟩, ⟨5, [], []⟩, ⟨6, [], []⟩])), (8, ([], ordDef 0 4 ++ [⟨4, [0, 1], []⟩, ⟨5, [], []⟩, ⟨6, [], []⟩]))]) pMix Tryz.func75 Tryz.ntmps75 [.tmp 6] ?_
 have z0 : List.replicate ((i64s H).length : Int).toNat (zeroRow [CK.int IntKind.i64]) = i64s (accW (eroF S H) H.length 0) := by
  rw [Int.toNat_natCast, lH]
  exact accW_0 _ _
 repeat' ((conv => whnf); first | refine Rng.g ?_ | fail)
 refine Ob.mk (by rw [eb2, lH]; omega) ?_
 repeat' ((conv => whnf); rw [z0])
 refine LoopVC.mk (fun n st => ∃ (k : Nat), k ≤ H.length ∧ n = H.length - k ∧ st = ⟨0, envA 37 [(3, .x (.one (.ptr 0 0))), (4, .x (.one (.ptr 1 0))), (5, .x (.one (.ptr 2 0))), (7, .x (.one (.own 3))), (14, .x (lL H)), (15, .int .i64 ((i64s H).length : Int)), (16, .int .i64 (k : Int))], [some (bTip S), some (.box 43 [.lst true [.int .i64] (i64s H)]), some (.box 4 [.ff]), some (rowL (accW (eroF S H) H.length k))]⟩) _ _ ⟨0, Nat.zero_le _, rfl, rfl⟩ ?_ ?_
 ·exact Le.g [some 0, some 1, some 2, some 3]
 rintro n _ ⟨k, hk, hn, rfl⟩
 have gH : rI (i64s H) (k : Int).toNat 0 = H.getD k 0 := by rw [Int.toNat_natCast, i64s_get]
 have lA : (i64s (accW (eroF S H) H.length k)).length = H.length := by rw [i64s_len, accW_len]
 by_cases hk' : k < H.length
 ·repeat' ((conv => whnf); first | rw [gH] | refine Ob.g ?_ | refine JoinVC.on ?_ | refine Br.t (fun h => ?_))
  conv => whnf
  refine CallVC0.same [4, 1, 0, 2] _ _ _ rfl rfl rfl rfl (s244 S H k (H.getD k 0) hk' hH4 hS6 hH hS) (fun r m' h' => (by obtain ⟨z, hz, rfl, rfl⟩ := h'; rfl)) (fun r m' h' => ?_)
  obtain ⟨z, hz, rfl, rfl⟩ := h'
  conv => whnf
  have u := accW_upd (eroF S H) H.length k z hk' (hz.trans (ero_eq S H k))
  repeat' ((conv => whnf); first | rw [u] | refine Rng.g ?_ | refine Ob.g ?_ | fail)
  refine Back.mk (H.length - (k + 1)) _ (by omega) ⟨k + 1, by omega, rfl, rfl⟩ ?_
  exact Le.g [some 0, some 1, some 2, some 3]
 ·have ek : k = H.length := by omega
  subst ek
  rw [show accW (eroF S H) H.length H.length = eroL S H from accW_n _ _]
  repeat' ((conv => whnf); refine Br.f (fun h => ?_))
  conv => whnf
  refine EndVC.mk _ rfl _ _ (⟨rfl, rfl⟩) ?_
  exact Le.g [some 3]
end Go.Sx

namespace Go.Sx
open Go Go.Proofs
set_option maxRecDepth 10000
set_option maxHeartbeats 16000000
end Go.Sx

namespace Go.Sx
open Go Go.Proofs
set_option maxRecDepth 10000
set_option maxHeartbeats 4000000
def negL (x : List Int) : List Int := x.map fun y => 0 - y
theorem negL_len (x : List Int) : (negL x).length = x.length := by simp [negL]
theorem negL_get (x : List Int) (i : Nat) (h : i < x.length) : (negL x).getD i 0 = 0 - x.getD i 0 := by simp [negL, List.getD_eq_getElem?_getD, h]
end Go.Sx

namespace Go.Sx
open Go Go.Proofs
set_option maxRecDepth 10000
set_option maxHeartbeats 16000000
theorem oob {l : List Int} {j : Nat} (h : l.length ≤ j) : l.getD j 0 = 0 := by simp [List.getD_eq_getElem?_getD, List.getElem?_eq_none h]
theorem TipOK.all {S : List Int} (h : TipOK S) (j : Nat) : 0 ≤ S.getD j 0 ∧ S.getD j 0 ≤ 4194304 := by
 rcases Nat.lt_or_ge j S.length with hj | hj
 ·exact h.rng j hj
 ·rw [oob hj]
  omega
def inB (H : List Int) : Prop := ∀ j, -4194304 ≤ H.getD j 0 ∧ H.getD j 0 ≤ 4194304
theorem inB.big {H : List Int} (h : inB H) (j : Nat) : -100000000 ≤ H.getD j 0 ∧ H.getD j 0 ≤ 100000000 := by
 have := h j
 omega
theorem ero_bd {S H : List Int} (hS : TipOK S) (hH : inB H) : inB (eroL S H) := fun j => by
 rcases Nat.lt_or_ge j H.length with hj | hj
 ·rw [eroL_get _ _ _ hj]
  have h1 := hH j
  have h2 := ero_self S H j
  refine ⟨ero_ge h1.1 fun u _ _ => ?_, by omega⟩
  have h3 := hH u
  have h4 := hS.all (dst j u)
  omega
 ·rw [oob (by rw [eroL_len]; exact hj)]
  omega
theorem outs_bd {p : List Smp} (hp : PtsOK p) : inB (outs p) := fun j => by
 rcases Nat.lt_or_ge j p.length with hj | hj
 ·rw [outs_get _ _ hj]
  have := hp.each j hj
  unfold edgeP at this
  omega
 ·rw [oob (by rw [outs_len]; exact hj)]
  omega
theorem inns_bd {p : List Smp} (hp : PtsOK p) : inB (inns p) := fun j => by
 rcases Nat.lt_or_ge j p.length with hj | hj
 ·rw [inns_get _ _ hj]
  have := hp.each j hj
  unfold edgeP at this
  omega
 ·rw [oob (by rw [inns_len]; exact hj)]
  omega
end Go.Sx

namespace Go.Sx
open Go Go.Proofs
set_option maxRecDepth 10000
set_option maxHeartbeats 16000000
def mixW (L : List Int) (k : Nat) : List Int := (List.range L.length).map fun j => if j < k then 0 - L.getD j 0 else L.getD j 0
theorem mixW_len (L : List Int) (k : Nat) : (mixW L k).length = L.length := by simp [mixW]
theorem mixW_at (L : List Int) (k j : Nat) (h : j < L.length) : (mixW L k).getD j 0 = if j < k then 0 - L.getD j 0 else L.getD j 0 := by simp [mixW, List.getD_eq_getElem?_getD, h]
theorem mixW_0 (L : List Int) : mixW L 0 = L := getD_ext (mixW_len L 0) fun j hj => by
 rw [mixW_len] at hj
 rw [mixW_at _ _ _ hj, if_neg (by omega)]
theorem mixW_n (L : List Int) : mixW L L.length = negL L := getD_ext (by rw [mixW_len, negL_len]) fun j hj => by
 rw [mixW_len] at hj
 rw [mixW_at _ _ _ hj, if_pos hj, negL_get _ _ hj]
theorem set_get (l : List Int) (k j : Nat) (v : Int) (h : k < l.length) : (l.set k v).getD j 0 = if k = j then v else l.getD j 0 := by
 simp only [List.getD_eq_getElem?_getD, List.getElem?_set]
 by_cases e : k = j
 ·subst e
  simp [h]
 ·simp [e]
theorem mixW_upd (L : List Int) (k : Nat) (hk : k < L.length) : updRow (i64s (mixW L k)) (k : Int).toNat 0 [.int (0 - L.getD k 0)] = i64s (mixW L (k + 1)) := by
 rw [Int.toNat_natCast, i64s_upd _ _ _ (by rw [mixW_len]; exact hk)]
 congr 1
 refine getD_ext (by rw [List.length_set, mixW_len, mixW_len]) fun j hj => ?_
 rw [List.length_set, mixW_len] at hj
 rw [set_get _ _ _ _ (by rw [mixW_len]; exact hk), mixW_at _ _ _ hj, mixW_at _ _ _ hj]
 by_cases e : k = j
 ·subst e
  rw [if_pos rfl, if_pos (by omega)]
 ·rw [if_neg e]
  by_cases h : j < k
  ·rw [if_pos h, if_pos (by omega)]
  ·rw [if_neg h, if_neg (by omega)]
theorem same_upd (L : List Int) (k : Nat) (hk : k < L.length) : updRow (i64s L) (k : Int).toNat 0 [.int (L.getD k 0)] = i64s L := by
 rw [Int.toNat_natCast, i64s_upd _ _ _ hk]
 congr 1
 refine getD_ext (by rw [List.length_set]) fun j hj => ?_
 rw [set_get _ _ _ _ hk]
 by_cases e : k = j
 ·rw [if_pos e, e]
 ·rw [if_neg e]
theorem takeL_snoc (x : List Int) (i : Nat) (h : i < x.length) : i64s (x.take i) ++ [[.int (x.getD i 0)]] = i64s (x.take (i + 1)) := by
 rw [take_snoc x i 0 h, i64s_snoc]
theorem wall_take (O N : List Int) (n i : Nat) (h : i < n) : smpA ((wallF O N n).take i) ++ [[.int (-N.getD i 0), .int (O.getD i 0)]] = smpA ((wallF O N n).take (i + 1)) := by
 rw [take_snoc (wallF O N n) i s0 (by rw [wallF_len]; exact h), smpA_snoc, wallF_get _ _ _ _ h]
theorem s247 (S H : List Int) (hS : TipOK S) (hH4 : H.length ≤ 4096) (hH : inB H) : HSpec Tryz.prog 74 [.one (.own 1), .one (.ptr 0 0)] [bTip S, rowL H] (fun r m' => r = .x (.one (.own 2)) ∧ m' = [some (bTip S), some (rowL H), some (rowL (eroL S H))]) := by
 refine spec_g (bodyOf Tryz.f74) [] pMix Tryz.func74 Tryz.ntmps74 [.tmp 3] ?_
 repeat' ((conv => whnf); first | refine Rng.g ?_ | fail)
 conv => whnf
 refine CallVC.mk [] _ _ _ rfl rfl rfl (s165 S H hH4 hS.len hH.big hS.all) (fun r m' h' => ?_)
 obtain ⟨rfl, rfl⟩ := h'
 conv => whnf
 repeat' ((conv => whnf); first | refine Rng.g ?_ | fail)
 conv => whnf
 refine EndVC.mk _ rfl _ _ (⟨rfl, rfl⟩) ?_
 exact Le.g [some 0, some 1, some 2]
theorem s242or (S : List Int) (p : List Smp) (hS : TipOK S) (hp : PtsOK p) : HSpec Tryz.prog 92 [.one (.ifc 212), .one (.ptr 0 0), .one (.ptr 1 0)] [bPs p, .box 82 [.fn 74 [(2, 0)]], bTip S] (fun r m' => r = .x (.one (.own 3)) ∧ m' = [some (bPs p), some (.box 82 [.fn 74 [(2, 0)]]), some (bTip S), some (rowL (eroL S (outs p)))]) := by
 have lp := smpA_len p
 have hl := hp.len
 have lH := outs_len p
 have hHB := outs_bd hp
 have lE : (eroL S (outs p)).length = p.length := by rw [eroL_len, lH]
 have bE : inB (eroL S (outs p)) := ero_bd hS hHB
 obtain ⟨Z, hZ⟩ : ∃ Z, Z = (eroL S (outs p)) := ⟨_, rfl⟩
 rw [← hZ] at lE bE
 have lZ := i64s_len Z
 refine spec_g (bodyOf Tryz.f92) [] pMix Tryz.func92 Tryz.ntmps92 [.tmp 4] ?_
 repeat' ((conv => whnf); first | refine Rng.g ?_ | fail)
 refine LoopVC.mk (fun n st => ∃ (i : Nat), i ≤ p.length ∧ n = p.length - i ∧ st = ⟨3, envA 49 [(0, .x (.one (.ifc 212))), (1, .x (.one (.ptr 0 0))), (2, .x (.one (.ptr 1 0))), (5, .x (.one (.mth 212 "deadwax/play.of"))), (6, .x (.one (.mth 212 "deadwax/play.back"))), (7, .x (.one (.own 3))), (17, .x (lS p)), (18, .int .i64 (p.length : Int)), (19, .int .i64 (i : Int))], [some (bPs p), some (.box 82 [.fn 74 [(2, 0)]]), some (bTip S), some (rowL ((outs p).take i))]⟩) _ _ ⟨0, Nat.zero_le _, rfl, rfl⟩ ?_ ?_
 ·refine ⟨[some 0, some 1, some 2, none], rfl, rfl, ?_, ?_⟩ <;> repeat' (first | exact trivial | exact rfl | apply And.intro)
  all_goals exact congrArg Int.ofNat lp
 rintro n _ ⟨i, hi, hn, rfl⟩
 by_cases hi' : i < p.length
 ·have e1 : (i64s ((outs p).take i)).length = i := by rw [i64s_len, List.length_take]; omega
  have g0 : rI (smpA p) (i : Int).toNat 0 = (p.getD i s0).l := by rw [Int.toNat_natCast]; exact smpA_l p i
  have g1 : rI (smpA p) (i : Int).toNat (0 + 1) = (p.getD i s0).r := by rw [Int.toNat_natCast]; exact smpA_r p i
  have hed := hp.each i hi'
  unfold edgeP at hed
  have u1 := takeL_snoc (outs p) i (by omega)
  rw [outs_get p i hi'] at u1
  skip
  have c1 : PSpec Tryz.prog 209 [.agg [], smpX p i] (.x (I ((p.getD i s0).r))) := smpX_eq p i ▸ s400 (p.getD i s0)
  repeat' ((conv => whnf); first | refine Mth.mk _ m_ou_of ?_ | refine Ob.g ?_ | refine CallVC.pure rfl (c1) ?_ | refine Br.t (fun h => ?_))
  refine Ob.mk (by simp only [eb2, e1, List.length_cons, List.length_nil]; omega) ?_
  repeat' ((conv => whnf); first | rw [u1] | refine Rng.g ?_ | fail)
  refine Back.mk (p.length - (i + 1)) _ (by omega) ⟨i + 1, by omega, rfl, rfl⟩ ?_
  exact Le.g [some 0, some 1, some 2, some 6]
 have ei : i = p.length := by omega
 subst ei
 rw [show (outs p).take p.length = outs p from List.take_of_length_le (by omega)]
 repeat' ((conv => whnf); refine Br.f (fun h => ?_))
 conv => whnf
 refine CallVC.mk [2, 3] _ _ _ rfl rfl rfl (s247 S (outs p) hS (by omega) hHB) (fun r m' h' => ?_)
 obtain ⟨rfl, rfl⟩ := h'
 conv => whnf
 rw [← hZ]
 repeat' ((conv => whnf); first | refine Rng.g ?_ | fail)
 refine LoopVC.mk (fun n st => ∃ (i : Nat), i ≤ p.length ∧ n = p.length - i ∧ st = ⟨3, envA 49 [(0, .x (.one (.ifc 212))), (1, .x (.one (.ptr 0 0))), (2, .x (.one (.ptr 1 0))), (6, .x (.one (.mth 212 "deadwax/play.back"))), (7, .x (.one (.own 3))), (34, .int .i64 (p.length : Int)), (35, .int .i64 (i : Int))], [some (bPs p), some (.box 82 [.fn 74 [(2, 0)]]), some (bTip S), some (rowL (Z))]⟩) _ _ ⟨0, Nat.zero_le _, rfl, rfl⟩ ?_ ?_
 ·refine ⟨[some 0, some 1, some 2, some 4], rfl, rfl, ?_, ?_⟩ <;> repeat' (first | exact trivial | exact rfl | apply And.intro)
  all_goals first | (exact congrArg Int.ofNat (lZ.trans lE)) | (rfl)
 rintro n _ ⟨i, hi, hn, rfl⟩
 have lM : (i64s (Z)).length = p.length := by rw [i64s_len, lE]
 by_cases hi' : i < p.length
 ·have g0 : rI (i64s (Z)) (i : Int).toNat 0 = Z.getD i 0 := by rw [Int.toNat_natCast, i64s_get]
  have hb := bE i
  have u1 := same_upd Z i (by omega)
  have c1 := s399 (Z.getD i 0)
  repeat' ((conv => whnf); first | rw [g0] | rw [u1] | refine Mth.mk _ m_ou_bk ?_ | refine Rng.g ?_ | refine Ob.g ?_ | refine CallVC.pure rfl (c1) ?_ | refine Br.t (fun h => ?_))
  refine Back.mk (p.length - (i + 1)) _ (by omega) ⟨i + 1, by omega, rfl, rfl⟩ ?_
  exact Le.g [some 0, some 1, some 2, some 3]
 have ei : i = p.length := by omega
 subst ei
 skip
 rw [hZ]
 repeat' ((conv => whnf); refine Br.f (fun h => ?_))
 conv => whnf
 refine EndVC.mk _ rfl _ _ (⟨rfl, rfl⟩) ?_
 exact Le.g [some 0, some 1, some 2, some 3]
theorem s242ir (S : List Int) (p : List Smp) (hS : TipOK S) (hp : PtsOK p) : HSpec Tryz.prog 92 [.one (.ifc 213), .one (.ptr 0 0), .one (.ptr 1 0)] [bPs p, .box 82 [.fn 74 [(2, 0)]], bTip S] (fun r m' => r = .x (.one (.own 3)) ∧ m' = [some (bPs p), some (.box 82 [.fn 74 [(2, 0)]]), some (bTip S), some (rowL (negL (eroL S (inns p))))]) := by
 have lp := smpA_len p
 have hl := hp.len
 have lH := inns_len p
 have hHB := inns_bd hp
 have lE : (eroL S (inns p)).length = p.length := by rw [eroL_len, lH]
 have bE : inB (eroL S (inns p)) := ero_bd hS hHB
 obtain ⟨Z, hZ⟩ : ∃ Z, Z = (eroL S (inns p)) := ⟨_, rfl⟩
 rw [← hZ] at lE bE
 have lZ := i64s_len Z
 refine spec_g (bodyOf Tryz.f92) [] pMix Tryz.func92 Tryz.ntmps92 [.tmp 4] ?_
 repeat' ((conv => whnf); first | refine Rng.g ?_ | fail)
 refine LoopVC.mk (fun n st => ∃ (i : Nat), i ≤ p.length ∧ n = p.length - i ∧ st = ⟨3, envA 49 [(0, .x (.one (.ifc 213))), (1, .x (.one (.ptr 0 0))), (2, .x (.one (.ptr 1 0))), (5, .x (.one (.mth 213 "deadwax/play.of"))), (6, .x (.one (.mth 213 "deadwax/play.back"))), (7, .x (.one (.own 3))), (17, .x (lS p)), (18, .int .i64 (p.length : Int)), (19, .int .i64 (i : Int))], [some (bPs p), some (.box 82 [.fn 74 [(2, 0)]]), some (bTip S), some (rowL ((inns p).take i))]⟩) _ _ ⟨0, Nat.zero_le _, rfl, rfl⟩ ?_ ?_
 ·refine ⟨[some 0, some 1, some 2, none], rfl, rfl, ?_, ?_⟩ <;> repeat' (first | exact trivial | exact rfl | apply And.intro)
  all_goals exact congrArg Int.ofNat lp
 rintro n _ ⟨i, hi, hn, rfl⟩
 by_cases hi' : i < p.length
 ·have e1 : (i64s ((inns p).take i)).length = i := by rw [i64s_len, List.length_take]; omega
  have g0 : rI (smpA p) (i : Int).toNat 0 = (p.getD i s0).l := by rw [Int.toNat_natCast]; exact smpA_l p i
  have g1 : rI (smpA p) (i : Int).toNat (0 + 1) = (p.getD i s0).r := by rw [Int.toNat_natCast]; exact smpA_r p i
  have hed := hp.each i hi'
  unfold edgeP at hed
  have u1 := takeL_snoc (inns p) i (by omega)
  rw [inns_get p i hi'] at u1
  rw [← Int.zero_sub] at u1
  have c1 : PSpec Tryz.prog 211 [.agg [], smpX p i] (.x (I (0 - (p.getD i s0).l))) := smpX_eq p i ▸ s402 (p.getD i s0) (by omega)
  repeat' ((conv => whnf); first | refine Mth.mk _ m_in_of ?_ | refine Ob.g ?_ | refine CallVC.pure rfl (c1) ?_ | refine Br.t (fun h => ?_))
  refine Ob.mk (by simp only [eb2, e1, List.length_cons, List.length_nil]; omega) ?_
  repeat' ((conv => whnf); first | rw [u1] | refine Rng.g ?_ | fail)
  refine Back.mk (p.length - (i + 1)) _ (by omega) ⟨i + 1, by omega, rfl, rfl⟩ ?_
  exact Le.g [some 0, some 1, some 2, some 6]
 have ei : i = p.length := by omega
 subst ei
 rw [show (inns p).take p.length = inns p from List.take_of_length_le (by omega)]
 repeat' ((conv => whnf); refine Br.f (fun h => ?_))
 conv => whnf
 refine CallVC.mk [2, 3] _ _ _ rfl rfl rfl (s247 S (inns p) hS (by omega) hHB) (fun r m' h' => ?_)
 obtain ⟨rfl, rfl⟩ := h'
 conv => whnf
 rw [← hZ]
 repeat' ((conv => whnf); first | refine Rng.g ?_ | fail)
 refine LoopVC.mk (fun n st => ∃ (i : Nat), i ≤ p.length ∧ n = p.length - i ∧ st = ⟨3, envA 49 [(0, .x (.one (.ifc 213))), (1, .x (.one (.ptr 0 0))), (2, .x (.one (.ptr 1 0))), (6, .x (.one (.mth 213 "deadwax/play.back"))), (7, .x (.one (.own 3))), (34, .int .i64 (p.length : Int)), (35, .int .i64 (i : Int))], [some (bPs p), some (.box 82 [.fn 74 [(2, 0)]]), some (bTip S), some (rowL (mixW Z i))]⟩) _ _ ⟨0, Nat.zero_le _, rfl, rfl⟩ ?_ ?_
 ·refine ⟨[some 0, some 1, some 2, some 4], rfl, rfl, ?_, ?_⟩ <;> repeat' (first | exact trivial | exact rfl | apply And.intro)
  all_goals first | (exact congrArg Int.ofNat (lZ.trans lE)) | (exact (congrArg i64s (mixW_0 Z)).symm)
 rintro n _ ⟨i, hi, hn, rfl⟩
 have lM : (i64s (mixW Z i)).length = p.length := by rw [i64s_len, mixW_len, lE]
 by_cases hi' : i < p.length
 ·have g0 : rI (i64s (mixW Z i)) (i : Int).toNat 0 = Z.getD i 0 := by rw [Int.toNat_natCast, i64s_get]; rw [mixW_at _ _ _ (by omega), if_neg (Nat.lt_irrefl i)]
  have hb := bE i
  have u1 := mixW_upd Z i (by omega)
  have c1 := s401 (Z.getD i 0) (by omega)
  repeat' ((conv => whnf); first | rw [g0] | rw [u1] | refine Mth.mk _ m_in_bk ?_ | refine Rng.g ?_ | refine Ob.g ?_ | refine CallVC.pure rfl (c1) ?_ | refine Br.t (fun h => ?_))
  refine Back.mk (p.length - (i + 1)) _ (by omega) ⟨i + 1, by omega, rfl, rfl⟩ ?_
  exact Le.g [some 0, some 1, some 2, some 3]
 have ei : i = p.length := by omega
 subst ei
 rw [show mixW Z p.length = negL Z by rw [← lE]; exact mixW_n Z]
 rw [hZ]
 repeat' ((conv => whnf); refine Br.f (fun h => ?_))
 conv => whnf
 refine EndVC.mk _ rfl _ _ (⟨rfl, rfl⟩) ?_
 exact Le.g [some 0, some 1, some 2, some 3]
theorem s163r (S : List Int) (p : List Smp) (hS : TipOK S) (hp : PtsOK p) : HSpec Tryz.prog 73 [lS p, .one (.fn 74 [(0, 0)])] [bTip S] (fun r m' => r = .x (.one (.own 1)) ∧ m' = [some (bTip S), some (rowP (readF S p))]) := by
 have lp := smpA_len p
 have hl := hp.len
 obtain ⟨O, hO⟩ : ∃ O, O = eroL S (outs p) := ⟨_, rfl⟩
 obtain ⟨N, hN⟩ : ∃ N, N = eroL S (inns p) := ⟨_, rfl⟩
 have lO : O.length = p.length := by rw [hO, eroL_len, outs_len]
 have lN : N.length = p.length := by rw [hN, eroL_len, inns_len]
 have bO : inB O := by rw [hO]; have hHB := outs_bd hp; exact ero_bd hS hHB
 have bN : inB N := by rw [hN]; have hHB := inns_bd hp; exact ero_bd hS hHB
 have ln := negL_len N
 have l1 := i64s_len O
 have l2 := i64s_len (negL N)
 have eW : readF S p = wallF O N p.length := by rw [hO, hN]; rfl
 rw [eW]
 refine spec_g (bodyOf Tryz.f73) ([(7, ([], ordDef 0 9 ++ [⟨9, [], [10]⟩] ++ ordDef 10 3))]) pMix Tryz.func73 Tryz.ntmps73 [.tmp 4] ?_
 repeat' ((conv => whnf); first | refine Rng.g ?_ | fail)
 conv => whnf
 refine CallVC.mk [1, 2, 0] _ _ _ rfl rfl rfl (s242or S p hS hp) (fun r m' h' => ?_)
 obtain ⟨rfl, rfl⟩ := h'
 conv => whnf
 rw [← hO]
 repeat' ((conv => whnf); first | refine Rng.g ?_ | fail)
 conv => whnf
 refine CallVC.mk [1, 2, 0] _ _ _ rfl rfl rfl (s242ir S p hS hp) (fun r m' h' => ?_)
 obtain ⟨rfl, rfl⟩ := h'
 conv => whnf
 rw [← hN]
 repeat' ((conv => whnf); first | refine Rng.g ?_ | fail)
 refine LoopVC.mk (fun n st => ∃ (i : Nat), i ≤ p.length ∧ n = p.length - i ∧ st = ⟨1, envA 38 [(2, .x (.one (.ptr 1 0))), (3, .x (.one (.ptr 2 0))), (6, .x (.one (.own 3))), (7, .x (.one (.own 4))), (8, .x (.one (.own 5))), (20, .int .i64 (p.length : Int)), (21, .int .i64 (i : Int))], [some (bTip S), some (bPs p), some (.box 82 [.fn 74 [(0, 0)]]), some (rowL O), some (rowL (negL N)), some (rowP ((wallF O N p.length).take i))]⟩) _ _ ⟨0, Nat.zero_le _, rfl, rfl⟩ ?_ ?_
 ·refine ⟨[some 0, some 1, some 2, some 3, some 4, none], rfl, rfl, ?_, ?_⟩ <;> repeat' (first | exact trivial | exact rfl | apply And.intro)
  all_goals exact congrArg Int.ofNat lp
 rintro n _ ⟨i, hi, hn, rfl⟩
 by_cases hi' : i < p.length
 ·have e1 : (smpA ((wallF O N p.length).take i)).length = i := by rw [smpA_len, List.length_take, wallF_len]; omega
  have g0 : rI (i64s O) (i : Int).toNat 0 = O.getD i 0 := by rw [Int.toNat_natCast, i64s_get]
  have g1 : rI (i64s (negL N)) (i : Int).toNat 0 = -N.getD i 0 := by rw [Int.toNat_natCast, i64s_get, negL_get _ _ (by omega), Int.zero_sub]
  have u1 := wall_take O N p.length i hi'
  repeat' ((conv => whnf); first | rw [g0] | rw [g1] | refine Ob.g ?_ | refine Br.t (fun h => ?_))
  refine Ob.mk (by simp only [eb51, e1, List.length_cons, List.length_nil]; omega) ?_
  repeat' ((conv => whnf); first | rw [u1] | refine Rng.g ?_ | fail)
  refine Back.mk (p.length - (i + 1)) _ (by omega) ⟨i + 1, by omega, rfl, rfl⟩ ?_
  exact Le.g [some 0, some 1, some 2, some 3, some 4, some 7]
 have ei : i = p.length := by omega
 subst ei
 rw [show (wallF O N p.length).take p.length = wallF O N p.length from List.take_of_length_le (by rw [wallF_len]; omega)]
 repeat' ((conv => whnf); refine Br.f (fun h => ?_))
 conv => whnf
 refine EndVC.mk _ rfl _ _ (⟨rfl, rfl⟩) ?_
 exact Le.g [some 0, some 5]
theorem s166 (S : List Int) (p : List Smp) (hS : TipOK S) (hp : PtsOK p) : HSpec Tryz.prog 52 [tipX S, lS p] [] (fun r m' => r = .x (.one (.own 0)) ∧ m' = [some (rowP (readF S p))]) := by
 refine spec_g (bodyOf Tryz.f52) [] pMix Tryz.func52 Tryz.ntmps52 [.tmp 4] ?_
 repeat' ((conv => whnf); first | refine Rng.g ?_ | fail)
 conv => whnf
 refine CallVC.mk [0] _ _ _ rfl rfl rfl (s163r S p hS hp) (fun r m' h' => ?_)
 obtain ⟨rfl, rfl⟩ := h'
 conv => whnf
 repeat' ((conv => whnf); first | refine Rng.g ?_ | fail)
 conv => whnf
 refine EndVC.mk _ rfl _ _ (⟨rfl, rfl⟩) ?_
 exact Le.g [some 1]
theorem s80o (S : List Int) (p : List Smp) (hS : TipOK S) (hp : PtsOK p) : HSpec Tryz.prog 38 [tipX S, lS p] [] (fun r m' => r = .tup [.one (.own 0), I 0] ∧ m' = [some (rowP (readF S p))]) := by
 refine spec_g (bodyOf Tryz.f38) [] pMix Tryz.func38 Tryz.ntmps38 [.tmp 4, .tmp 5] ?_
 repeat' ((conv => whnf); first | refine Rng.g ?_ | fail)
 conv => whnf
 refine CallVC.mk [] _ _ _ rfl rfl rfl (s158 S p) (fun r m' h' => ?_)
 obtain ⟨e, rfl, rfl, he⟩ := h'
 conv => whnf
 cases he.2 ⟨hS, hp⟩
 repeat' ((conv => whnf); refine Br.f (fun h => ?_))
 conv => whnf
 refine CallVC.mk [] _ _ _ rfl rfl rfl (s166 S p hS hp) (fun r m' h' => ?_)
 obtain ⟨rfl, rfl⟩ := h'
 conv => whnf
 repeat' ((conv => whnf); first | refine Rng.g ?_ | fail)
 conv => whnf
 refine EndVC.mk _ rfl _ _ (⟨rfl, rfl⟩) ?_
 exact Le.g [some 1]
end Go.Sx

namespace Go.Sx
open Go Go.Proofs
set_option maxRecDepth 10000
set_option maxHeartbeats 8000000
def S6 : List Int := [0, 2, 10]
def p6 : List Smp := [⟨-100, 100⟩, ⟨-100, 90⟩, ⟨-95, 100⟩]
theorem S6_ok : TipOK S6 := ⟨by decide, rfl, fun k hk => by
 have hc : k = 0 ∨ k = 1 ∨ k = 2 := by
  have : k < 3 := hk
  omega
 rcases hc with rfl | rfl | rfl <;> decide, fun k hk => by
 have hc : k = 0 ∨ k = 1 := by
  have : k + 1 < 3 := hk
  omega
 rcases hc with rfl | rfl <;> decide⟩
theorem p6_ok : PtsOK p6 := ⟨by decide, fun j hj => by
 have hc : j = 0 ∨ j = 1 ∨ j = 2 := by
  have : j < 3 := hj
  omega
 rcases hc with rfl | rfl | rfl <;> (unfold edgeP; decide)⟩
end Go.Sx

namespace Go.Sx
open Go Go.Proofs
set_option maxRecDepth 10000
set_option maxHeartbeats 8000000
def b5 : Blnk := ⟨2, 1000, 100, 10, 1, 100⟩
def p5 : List Smp := [⟨-20, 20⟩, ⟨-20, 20⟩, ⟨-20, 20⟩, ⟨-20, 50⟩, ⟨-20, 20⟩]
def y5 : List Int := [980, 979, 930, 899, 880]
theorem b5_ok : BlnkOK b5 := by constructor <;> decide
theorem p5_ok : PtsOK p5 := ⟨by decide, fun j hj => by
 have hc : j = 0 ∨ j = 1 ∨ j = 2 ∨ j = 3 ∨ j = 4 := by
  have : j < 5 := hj
  omega
 rcases hc with rfl | rfl | rfl | rfl | rfl <;> (unfold edgeP; decide)⟩
theorem y5_ok : Feas b5 p5 (fun i => y5.getD i 0) := by
 intro j hj
 have hc : j = 0 ∨ j = 1 ∨ j = 2 ∨ j = 3 ∨ j = 4 := by
  have : j < 5 := hj
  omega
 rcases hc with rfl | rfl | rfl | rfl | rfl <;> decide
theorem best5 {R : List Int} (h : Best b5 p5 R) : R.length = 5 ∧ R.getD 3 0 = 899 := by
 have h1 := h.best _ y5_ok 3 (by decide)
 have h2 := (h.ok 0 (by decide)).1
 have h3 := ((h.ok 1 (by decide)).2.2.1 (by decide)).1
 have h4 := (h.ok 3 (by decide)).2.2.2 (by decide)
 refine ⟨h.len, ?_⟩
 simp [b5, p5, y5] at h1 h2 h3 h4 ⊢
 omega
def f5 : Fmt := ⟨⟨#[102]⟩, 1000, 400, 10, 0, 0, 0, 0⟩
def g5 : Sng := ⟨95, 20, 0⟩
theorem f5_name : nameOK ⟨#[102]⟩ := ⟨by decide, by decide, fun j hj => by
 have : j = 0 := by
  have : j < 1 := hj
  omega
 subst this
 exact .inl (by decide)⟩
theorem f5_ok : FmtOK f5 := ⟨f5_name, by decide, by decide, by decide, by decide, by decide, by decide, by decide⟩
theorem g5_ok : g5.ok := by unfold Sng.ok; decide
theorem s55 : PSpec Tryz.prog 42 [] (xP True) := by
 have hw := s25
 refine spec_g (bodyOf Tryz.f42) [] pMix Tryz.func42 Tryz.ntmps42 [.tmp 0] ?_
 repeat' ((conv => whnf); first | refine Rng.g ?_ | fail)
 conv => whnf
 refine CallVC.mk [] _ _ _ rfl rfl rfl (s82 b5 p5) (fun r m' h' => ?_)
 cases h' with
 | bad e h he hr hm => exact absurd ⟨b5_ok, p5_ok⟩ h
 | none _ _ hN hr hm => exact absurd y5_ok (hN _)
 | ok _ _ R hR hr hm =>
  subst hr hm
  obtain ⟨r1, r2⟩ := best5 hR
  have lr := i64s_len R
  have gr : rI (i64s R) (Int.toNat 3) 0 = 899 := (i64s_get R 3).trans r2
  repeat' ((conv => whnf); first | refine Rng.g ?_ | fail)
  conv => whnf
  refine CallVC.mk [] _ _ _ rfl rfl rfl (s54 f5 g5 (by decide)) (fun r m' h' => ?_)
  cases h' with
  | bad e h he hr hm => exact absurd ⟨f5_ok, g5_ok⟩ h
  | ok _ _ hr hm =>
   subst hr hm
   have ew : widF f5 g5 = 200 := by decide
   rw [ew]
   repeat' ((conv => whnf); first | rw [gr] | refine Ob.g ?_ | refine CallVC.pure rfl (hw) ?_ | refine Br.t (fun h => ?_))
   refine EndVC.mk _ rfl _ _ ⟨rfl, rfl⟩ ?_
   exact Le.g []
end Go.Sx

namespace Go.Sx.Pl
open Go Go.Proofs Go.Sx
set_option maxRecDepth 10000
set_option maxHeartbeats 4000000
structure Rcp where
 n0 : Int
 n1 : Int
 n2 : Int
 n3 : Int
 k0 : Int
 k1 : Int
 k2 : Int
 k3 : Int
 seed : Int
 soft : Int
 hard : Int
 mo : Int
 sp : Int
structure Pl where
 kd : Int
 pa : Int
 cut : Int
 area : Int
 thick : Int
 grown : Int
 ret : Bool
structure Tk where
 st : Int
 yd : Int
 ch : Int
 ld : Int
structure Act2 where
 kd : Int
 cut : Int
 area : Int
 stock : Int
 yd : Int
 plate : Int
 bath : Int
 s0 : Int
 s1 : Int
 cur : Int
 sec : Int
 place : Int
 flaw : Int
structure Sho where
 r : Rcp
 pl : List Pl
 be : List (List Int)
 tk : List Tk
 fl : List (Int × Int)
 ac : List Act2
@[reducible] def p0 : Pl := ⟨0, 0, 0, 0, 0, 0, false⟩
@[reducible] def tk0 : Tk := ⟨0, 0, 0, 0⟩
@[reducible] def ac0 : Act2 := ⟨0, 0, 0, 0, 0, 0, 0, 0, 0, 0, 0, 0, 0⟩
@[reducible] def i6 (n : Int) : SV := .int .i64 n
@[reducible] def Rcp.x (r : Rcp) : XV := .agg [i6 r.n0, i6 r.n1, i6 r.n2, i6 r.n3, i6 r.k0, i6 r.k1, i6 r.k2, i6 r.k3, i6 r.seed, i6 r.soft, i6 r.hard, i6 r.mo, i6 r.sp]
@[reducible] def Act2.x (a : Act2) : XV := .agg [i6 a.kd, i6 a.cut, i6 a.area, i6 a.stock, i6 a.yd, i6 a.plate, i6 a.bath, i6 a.s0, i6 a.s1, i6 a.cur, i6 a.sec, i6 a.place, i6 a.flaw]
@[reducible] def KPl : List CK := [.int .i64, .int .i64, .int .i64, .int .i64, .int .i64, .int .i64, .bool]
@[reducible] def KTk : List CK := [.int .i64, .int .i64, .int .i64, .int .i64]
@[reducible] def KFl : List CK := [.int .i64, .int .i64]
@[reducible] def KAc : List CK := [.int .i64, .int .i64, .int .i64, .int .i64, .int .i64, .int .i64, .int .i64, .int .i64, .int .i64, .int .i64, .int .i64, .int .i64, .int .i64]
def plC (p : Pl) : List Cell := [.int p.kd, .int p.pa, .int p.cut, .int p.area, .int p.thick, .int p.grown, .bool p.ret]
def tkC (t : Tk) : List Cell := [.int t.st, .int t.yd, .int t.ch, .int t.ld]
def flC (f : Int × Int) : List Cell := [.int f.1, .int f.2]
def acC (a : Act2) : List Cell := [.int a.kd, .int a.cut, .int a.area, .int a.stock, .int a.yd, .int a.plate, .int a.bath, .int a.s0, .int a.s1, .int a.cur, .int a.sec, .int a.place, .int a.flaw]
def plA (l : List Pl) : Arr := l.map plC
def tkA (l : List Tk) : Arr := l.map tkC
def flA (l : List (Int × Int)) : Arr := l.map flC
def acA (l : List Act2) : Arr := l.map acC
theorem plA_len (l : List Pl) : (plA l).length = l.length := List.length_map _
theorem tkA_len (l : List Tk) : (tkA l).length = l.length := List.length_map _
theorem flA_len (l : List (Int × Int)) : (flA l).length = l.length := List.length_map _
theorem acA_len (l : List Act2) : (acA l).length = l.length := List.length_map _
theorem plA_snoc (l : List Pl) (p : Pl) : plA l ++ [[.int p.kd, .int p.pa, .int p.cut, .int p.area, .int p.thick, .int p.grown, .bool p.ret]] = plA (l ++ [p]) := by simp [plA, plC]
theorem tkA_snoc (l : List Tk) (t : Tk) : tkA l ++ [[.int t.st, .int t.yd, .int t.ch, .int t.ld]] = tkA (l ++ [t]) := by simp [tkA, tkC]
theorem flA_snoc (l : List (Int × Int)) (x y : Int) : flA l ++ [[.int x, .int y]] = flA (l ++ [(x, y)]) := by simp [flA, flC]
theorem acA_snoc (l : List Act2) (a : Act2) : acA l ++ [[.int a.kd, .int a.cut, .int a.area, .int a.stock, .int a.yd, .int a.plate, .int a.bath, .int a.s0, .int a.s1, .int a.cur, .int a.sec, .int a.place, .int a.flaw]] = acA (l ++ [a]) := by simp [acA, acC]
section
variable (l : List Pl) (i : Nat)
theorem pl_0 : rI (plA l) i 0 = (l.getD i p0).kd := map_rI plC p0 l i 0 rfl
theorem pl_1 : rI (plA l) i ((0 + 1)) = (l.getD i p0).pa := map_rI plC p0 l i 1 rfl
theorem pl_2 : rI (plA l) i ((0 + 1 + 1)) = (l.getD i p0).cut := map_rI plC p0 l i 2 rfl
theorem pl_3 : rI (plA l) i ((0 + 1 + 1 + 1)) = (l.getD i p0).area := map_rI plC p0 l i 3 rfl
theorem pl_5 : rI (plA l) i ((0 + 1 + 1 + 1 + 1 + 1)) = (l.getD i p0).grown := map_rI plC p0 l i 5 rfl
theorem pl_6 : rB (plA l) i ((0 + 1 + 1 + 1 + 1 + 1 + 1)) = (l.getD i p0).ret := by
 simp only [rB, cellAt, plA, List.getD_eq_getElem?_getD, List.getElem?_map]
 cases l[i]? with
 | none => rfl
 | some x => rfl
end
section
variable (l : List Tk) (i : Nat)
theorem tk_0 : rI (tkA l) i 0 = (l.getD i tk0).st := map_rI tkC tk0 l i 0 rfl
theorem tk_1 : rI (tkA l) i ((0 + 1)) = (l.getD i tk0).yd := map_rI tkC tk0 l i 1 rfl
theorem tk_2 : rI (tkA l) i ((0 + 1 + 1)) = (l.getD i tk0).ch := map_rI tkC tk0 l i 2 rfl
theorem tk_3 : rI (tkA l) i ((0 + 1 + 1 + 1)) = (l.getD i tk0).ld := map_rI tkC tk0 l i 3 rfl
end
structure RcpOK (r : Rcp) : Prop where
 a1 : 0 ≤ r.n1 ∧ r.n1 ≤ r.k1 ∧ r.k1 ≤ 1073741824
 a2 : 0 ≤ r.n2 ∧ r.n2 ≤ r.k2 ∧ r.k2 ≤ 1073741824
 a3 : 0 ≤ r.n3 ∧ r.n3 ≤ r.k3 ∧ r.k3 ≤ 1073741824
 seed : 0 ≤ r.seed ∧ r.seed ≤ 1073741824
 soft : 0 ≤ r.soft ∧ r.soft ≤ 1048576
 hard : 0 ≤ r.hard ∧ r.hard ≤ 1048576
 mo : 1 ≤ r.mo ∧ r.mo ≤ 16
 sp : 1 ≤ r.sp ∧ r.sp ≤ 16
open Classical in
noncomputable def rcpE (r : Rcp) : Int := if RcpOK r then 0 else 2
def ActOK (a : Act2) : Prop :=
 (a.kd = 1 ∧ (0 ≤ a.cut ∧ a.cut ≤ 1099511627776) ∧ 1 ≤ a.area ∧ a.area ≤ 1048576) ∨
 (a.kd = 2 ∧ (0 ≤ a.stock ∧ a.stock ≤ 1099511627776) ∧ 1 ≤ a.yd ∧ a.yd ≤ 1000) ∨
 (a.kd = 3 ∧ (0 ≤ a.s0 ∧ a.s0 ≤ 1048576) ∧ (0 ≤ a.s1 ∧ a.s1 ≤ 1048576) ∧ (0 ≤ a.cur ∧ a.cur ≤ 1048576) ∧ 0 ≤ a.sec ∧ a.sec ≤ 1048576) ∨
 (a.kd = 4 ∧ 0 ≤ a.place ∧ a.place ≤ 359) ∨ a.kd = 5 ∨ a.kd = 6
instance (a : Act2) : Decidable (ActOK a) := by unfold ActOK; infer_instance
def Rcp.thin (r : Rcp) (k : Int) : Int := if k = 0 then r.n0 else if k = 1 then r.n1 else if k = 2 then r.n2 else r.n3
def Rcp.thk (r : Rcp) (k : Int) : Int := if k = 0 then r.k0 else if k = 1 then r.k1 else if k = 2 then r.k2 else r.k3
def capP (r : Rcp) (k : Int) : Int := if k = 0 then 1 else if k = 1 then r.mo else if k = 2 then r.sp else 0
def roomP (r : Rcp) (p : Pl) : Int := if p.ret = true then 0 else max 0 (capP r p.kd - p.grown)
def Sho.p (S : Sho) (i : Int) : Pl := S.pl.getD i.toNat p0
def Sho.t (S : Sho) (i : Int) : Tk := S.tk.getD i.toNat tk0
def Sho.b (S : Sho) (i : Int) : List Int := S.be.getD i.toNat []
def inP (S : Sho) (i : Int) : Prop := 0 ≤ i ∧ i < (S.pl.length : Int)
instance (S : Sho) (i : Int) : Decidable (inP S i) := by unfold inP; infer_instance
def fstM (S : Sho) (a : Act2) : Int := a.s0 * a.s1 * (S.t a.bath).yd / 1000
def allM (S : Sho) (a : Act2) : Int := fstM S a + a.cur * a.sec * (S.t a.bath).yd / 1000
def chgM (a : Act2) : Int := a.s0 * a.s1 + a.cur * a.sec
def thkM (S : Sho) (a : Act2) : Int := 1000 * allM S a / (S.p a.plate).area
def herE (S : Sho) (a : Act2) : Int :=
 if ¬ inP S a.plate ∨ a.bath < 0 ∨ (S.tk.length : Int) ≤ a.bath then 5
 else if (S.p a.plate).ret = true then 10
 else if roomP S.r (S.p a.plate) = 0 ∨ 256 ≤ S.pl.length then 11
 else if S.r.soft * (S.p a.plate).area < 1000 * a.s0 ∨ S.r.hard * (S.p a.plate).area < 1000 * a.cur then 14
 else 0
def layE (S : Sho) (a : Act2) : Int :=
 if 1000 * fstM S a / (S.p a.plate).area < S.r.seed ∨ thkM S a < S.r.thin ((S.p a.plate).kd + 1) ∨ S.r.thk ((S.p a.plate).kd + 1) < thkM S a then 20
 else if (S.t a.bath).st < allM S a then 13
 else 0
def groE (S : Sho) (a : Act2) : Int := if herE S a ≠ 0 then herE S a else layE S a
def actE (S : Sho) (a : Act2) : Int :=
 if a.kd = 1 then (if 256 ≤ S.pl.length then 11 else 0)
 else if a.kd = 2 then (if 8 ≤ S.tk.length then 11 else 0)
 else if a.kd = 3 then groE S a
 else if ¬ inP S a.plate ∨ (a.kd = 5 ∧ (a.flaw < 0 ∨ (S.fl.length : Int) ≤ a.flaw)) then 5
 else if (S.p a.plate).ret = true then 10
 else if a.kd = 4 then (if 64 ≤ S.fl.length then 11 else 0)
 else if a.kd = 5 then (if a.flaw ∈ S.b a.plate then 0 else 19)
 else 0
def actN (S : Sho) (a : Act2) : Int := if a.kd = 1 ∨ a.kd = 3 then S.pl.length else if a.kd = 2 then S.tk.length else if a.kd = 4 then S.fl.length else 0
def newP (S : Sho) (a : Act2) : Pl := ⟨(S.p a.plate).kd + 1, a.plate, (S.p a.plate).cut, (S.p a.plate).area, thkM S a, 0, false⟩
def oldP (p : Pl) : Pl := ⟨p.kd, p.pa, p.cut, p.area, p.thick, p.grown + 1, decide (p.kd = 0)⟩
def newT (S : Sho) (a : Act2) : Tk := ⟨(S.t a.bath).st - allM S a, (S.t a.bath).yd, (S.t a.bath).ch + chgM a, (S.t a.bath).ld + allM S a⟩
def retP (p : Pl) : Pl := ⟨p.kd, p.pa, p.cut, p.area, p.thick, p.grown, true⟩
def actS (S : Sho) (a : Act2) : Sho :=
 if a.kd = 1 then { S with pl := S.pl ++ [⟨0, -1, a.cut, a.area, 0, 0, false⟩], be := S.be ++ [[]] }
 else if a.kd = 2 then { S with tk := S.tk ++ [⟨a.stock, a.yd, 0, 0⟩] }
 else if a.kd = 3 then { S with pl := (S.pl ++ [newP S a]).set a.plate.toNat (oldP (S.p a.plate)), be := S.be ++ [S.b a.plate], tk := S.tk.set a.bath.toNat (newT S a) }
 else if a.kd = 4 then { S with fl := S.fl ++ [(a.plate, a.place)], be := S.be.set a.plate.toNat (S.b a.plate ++ [(S.fl.length : Int)]) }
 else if a.kd = 5 then { S with be := S.be.set a.plate.toNat ((S.b a.plate).filter fun x => decide (x ≠ a.flaw)) }
 else { S with pl := S.pl.set a.plate.toNat (retP (S.p a.plate)) }
def doE (S : Sho) (a : Act2) : Int := if 1000 ≤ S.ac.length then 6 else if ActOK a then actE S a else 2
def doN (S : Sho) (a : Act2) : Int := if doE S a = 0 then actN S a else 0
def actT (S : Sho) (a : Act2) : Sho := if actE S a = 0 then actS S a else S
def doS (S : Sho) (a : Act2) : Sho := if doE S a = 0 then { actS S a with ac := S.ac ++ [a] } else S
structure PlOK (S : Sho) (i : Nat) (p : Pl) : Prop where
 kd : 0 ≤ p.kd ∧ p.kd ≤ 3
 pa : -1 ≤ p.pa ∧ p.pa < (i : Int)
 area : 1 ≤ p.area ∧ p.area ≤ 1048576
 grown : 0 ≤ p.grown ∧ p.grown ≤ 16
structure ShOK (S : Sho) : Prop where
 r : RcpOK S.r
 nb : S.be.length = S.pl.length
 np : S.pl.length ≤ 256
 nt : S.tk.length ≤ 8
 nf : S.fl.length ≤ 64
 na : S.ac.length ≤ 1000
 pl : ∀ i, i < S.pl.length → PlOK S i (S.pl.getD i p0)
 tk : ∀ i, i < S.tk.length → (0 ≤ (S.tk.getD i tk0).st ∧ (S.tk.getD i tk0).st ≤ 1099511627776) ∧ (1 ≤ (S.tk.getD i tk0).yd ∧ (S.tk.getD i tk0).yd ≤ 1000) ∧ (0 ≤ (S.tk.getD i tk0).ld ∧ (S.tk.getD i tk0).ld + (S.tk.getD i tk0).st ≤ 1099511627776) ∧ 0 ≤ (S.tk.getD i tk0).ch ∧ (S.tk.getD i tk0).ch ≤ 2199023255552 * (S.ac.length : Int)
 be : ∀ i, i < S.be.length → (S.be.getD i []).Nodup ∧ ∀ k ∈ S.be.getD i [], 0 ≤ k ∧ k < (S.fl.length : Int)
structure SetOK (m : MS) (l : List Int) : Prop where
 mem : ∀ k, k ∈ m.ks ↔ k ∈ l
 nd : m.ks.Nodup
 st : ∀ e ∈ m.es, e.2 < m.c
def MsOK (ms : List MS) (be : List (List Int)) : Prop := ms.length = be.length ∧ ∀ i, i < be.length → SetOK (ms.getD i ms0) (be.getD i [])
@[reducible] def bSh (i1 i3 i4 i5 : Nat) (r : Rcp) : Blk := .box 131 [.tt, i6 r.n0, i6 r.n1, i6 r.n2, i6 r.n3, i6 r.k0, i6 r.k1, i6 r.k2, i6 r.k3, i6 r.seed, i6 r.soft, i6 r.hard, i6 r.mo, i6 r.sp, .own i1, .own i3, .own i4, .own i5]
@[reducible] def bPr (n : Nat) : Blk := .prow 135 2 n
@[reducible] def bFa (l : List Pl) (ms : List MS) : Blk := .fam 143 KPl (plA l) ms
@[reducible] def bTk (l : List Tk) : Blk := .row 164 false KTk (tkA l)
@[reducible] def bFl (l : List (Int × Int)) : Blk := .row 173 false KFl (flA l)
@[reducible] def bAc (l : List Act2) : Blk := .row 109 false KAc (acA l)
@[reducible] def shM (S : Sho) (ms : List MS) : List Blk := [bSh 1 3 4 5 S.r, bPr S.pl.length, bFa S.pl ms, bTk S.tk, bFl S.fl, bAc S.ac]
@[reducible] def shK (S : Sho) (ms : List MS) : List (Option Blk) := [some (bSh 1 3 4 5 S.r), some (bPr S.pl.length), some (bFa S.pl ms), some (bTk S.tk), some (bFl S.fl), some (bAc S.ac)]
@[reducible] def shO (S : Sho) (ms : List MS) : List (Option Blk) := [some (bSh 6 7 8 9 S.r), none, some (bFa S.pl ms), none, none, none, some (bPr S.pl.length), some (bTk S.tk), some (bFl S.fl), some (bAc S.ac)]
theorem pMix : Tryz.prog.follows .mixedOrders = true := by kernel_rfl
theorem eb43 : Tryz.t109.bytes = 104 := by kernel_rfl
theorem eb49 : Tryz.t164.bytes = 32 := by kernel_rfl
theorem eb120 : Tryz.t173.bytes = 16 := by kernel_rfl
theorem eb90 : Tryz.t135.bytes = 8 := by kernel_rfl
end Go.Sx.Pl

namespace Go.Sx.Pl
open Go Go.Proofs Go.Sx
set_option maxRecDepth 10000
set_option maxHeartbeats 8000000
theorem s86 (n lo hi : Int) : PSpec Tryz.prog 77 [I n, I lo, I hi] (xP (lo ≤ n ∧ n ≤ hi)) := by
 refine spec_g (bodyOf Tryz.f77) [] pMix Tryz.func77 Tryz.ntmps77 [.tmp 6] ?_
 repeat' ((conv => whnf); first | (refine Br.mk (fun h => ?_) (fun h => ?_) <;> first | (exfalso; omega; done) | (exfalso; simp at h; done) | skip))
 ·refine EndVC.mk _ rfl _ _ ⟨rfl, rfl⟩ ?_
  refine ⟨[], rfl, rfl, ?_, ?_⟩ <;> repeat' (first | exact trivial | apply And.intro)
  exact ⟨fun h2 => ⟨h, h2⟩, fun h2 => h2.2⟩
 ·refine EndVC.mk _ rfl _ _ ⟨rfl, rfl⟩ ?_
  refine ⟨[], rfl, rfl, ?_, ?_⟩ <;> repeat' (first | exact trivial | apply And.intro)
  exact fun h2 => h h2.1
@[reducible] def K3 : List CK := [.int .i64, .int .i64, .int .i64]
@[reducible] def z3 : Int × Int × Int := (0, 0, 0)
def t3C (t : Int × Int × Int) : List Cell := [.int t.1, .int t.2.1, .int t.2.2]
def t3A (l : List (Int × Int × Int)) : Arr := l.map t3C
theorem t3A_len (l : List (Int × Int × Int)) : (t3A l).length = l.length := List.length_map _
theorem t3_0 (l : List (Int × Int × Int)) (i : Nat) : rI (t3A l) i 0 = (l.getD i z3).1 := map_rI t3C z3 l i 0 rfl
theorem t3_1 (l : List (Int × Int × Int)) (i : Nat) : rI (t3A l) i ((0 + 1)) = (l.getD i z3).2.1 := map_rI t3C z3 l i 1 rfl
theorem t3_2 (l : List (Int × Int × Int)) (i : Nat) : rI (t3A l) i ((0 + 1 + 1)) = (l.getD i z3).2.2 := map_rI t3C z3 l i 2 rfl
def allIn : List (Int × Int × Int) → Prop
 | [] => True
 | t :: l => (t.2.1 ≤ t.1 ∧ t.1 ≤ t.2.2) ∧ allIn l
theorem allIn_iff : ∀ (l : List (Int × Int × Int)), allIn l ↔ ∀ j, j < l.length → (l.getD j z3).2.1 ≤ (l.getD j z3).1 ∧ (l.getD j z3).1 ≤ (l.getD j z3).2.2
 | [] => by simp [allIn]
 | t :: l => by
  unfold allIn
  rw [allIn_iff l]
  refine ⟨fun ⟨h1, h2⟩ j hj => ?_, fun h => ⟨h 0 (by simp), fun j hj => h (j + 1) (by simpa using hj)⟩⟩
  rcases j with _ | j
  ·exact h1
  ·exact h2 j (by simpa using hj)
open Classical in
theorem s80 (l : List (Int × Int × Int)) (hl : l.length ≤ 100) : PSpec Tryz.prog 76 [.one (.lst true K3 (t3A l))] (xP (allIn l)) := by
 have ll := t3A_len l
 refine spec_g (bodyOf Tryz.f76) [] pMix Tryz.func76 Tryz.ntmps76 [.tmp 2] ?_
 repeat' ((conv => whnf); first | refine Rng.g ?_ | fail)
 refine LoopVC.mk (fun n st => ∃ (i : Nat), i ≤ l.length ∧ n = l.length - i ∧ (∀ j, j < i → (l.getD j z3).2.1 ≤ (l.getD j z3).1 ∧ (l.getD j z3).1 ≤ (l.getD j z3).2.2) ∧ st = ⟨0, envA 20 [(0, .x (.one (.lst true K3 (t3A l)))), (5, .x (.one (.lst true K3 (t3A l)))), (6, .int .i64 (l.length : Int)), (7, .int .i64 (i : Int))], []⟩) _ _ ⟨0, Nat.zero_le _, rfl, fun j hj => absurd hj (Nat.not_lt_zero j), rfl⟩ ?_ ?_
 ·refine ⟨[], rfl, rfl, ?_, ?_⟩ <;> repeat' (first | exact trivial | exact rfl | apply And.intro)
  exact congrArg Int.ofNat ll
 rintro n _ ⟨i, hi, hn, hj, rfl⟩
 have g0 : rI (t3A l) (i : Int).toNat 0 = (l.getD i z3).1 := by rw [Int.toNat_natCast, t3_0]
 have g1 : rI (t3A l) (i : Int).toNat ((0 + 1)) = (l.getD i z3).2.1 := by rw [Int.toNat_natCast]; exact t3_1 l i
 have g2 : rI (t3A l) (i : Int).toNat ((0 + 1 + 1)) = (l.getD i z3).2.2 := by rw [Int.toNat_natCast]; exact t3_2 l i
 have c := s86 (l.getD i z3).1 (l.getD i z3).2.1 (l.getD i z3).2.2
 by_cases hi' : i < l.length
 ·repeat' ((conv => whnf); first | rw [g0] | rw [g1] | rw [g2] | refine Rng.g ?_ | refine Ob.g ?_ | refine CallVC.pure rfl (c) ?_ | refine Br.t (fun h => ?_) | (refine Br.mk (fun h => ?_) (fun h => ?_) <;> first | (exfalso; omega; done) | (exfalso; simp at h; done) | skip))
  ·refine EndVC.mk _ rfl _ _ ⟨rfl, rfl⟩ ?_
   refine ⟨[], rfl, rfl, ?_, ?_⟩ <;> repeat' (first | exact trivial | apply And.intro)
   exact fun hn => h ((allIn_iff l).1 hn i hi')
  ·refine Back.mk (l.length - (i + 1)) _ (by omega) ⟨i + 1, by omega, rfl, fun j hj' => ?_, rfl⟩ ?_
   ·rcases Nat.lt_succ_iff_lt_or_eq.1 hj' with h' | rfl
    ·exact hj j h'
    ·exact Classical.not_not.1 h
   ·exact Le.g []
 ·repeat' ((conv => whnf); refine Br.f (fun h => ?_))
  refine EndVC.mk _ rfl _ _ ⟨rfl, rfl⟩ ?_
  refine ⟨[], rfl, rfl, ?_, ?_⟩ <;> repeat' (first | exact trivial | apply And.intro)
  exact (allIn_iff l).2 fun j hj' => hj j (by omega)
@[reducible] def rL1 (r : Rcp) : List (Int × Int × Int) := [(r.k1, 0, 1073741824), (r.n1, 0, r.k1)]
@[reducible] def rL2 (r : Rcp) : List (Int × Int × Int) := [(r.k2, 0, 1073741824), (r.n2, 0, r.k2)]
@[reducible] def rL3 (r : Rcp) : List (Int × Int × Int) := [(r.k3, 0, 1073741824), (r.n3, 0, r.k3)]
@[reducible] def rL4 (r : Rcp) : List (Int × Int × Int) := [(r.seed, 0, 1073741824), (r.soft, 0, 1048576), (r.hard, 0, 1048576), (r.mo, 1, 16), (r.sp, 1, 16)]
theorem rcp_iff (r : Rcp) : RcpOK r ↔ allIn (rL1 r) ∧ allIn (rL2 r) ∧ allIn (rL3 r) ∧ allIn (rL4 r) := by
 simp only [allIn, and_true]
 constructor
 ·rintro ⟨h1, h2, h3, h4, h5, h6, h7, h8⟩
  omega
 ·rintro ⟨h1, h2, h3, h4⟩
  exact ⟨by omega, by omega, by omega, by omega, by omega, by omega, by omega, by omega⟩
open Classical in
theorem s47 (r : Rcp) : PSpec Tryz.prog 53 [r.x] (.x (.one (.int .i64 (rcpE r)))) := by
 have c1 := s80 (rL1 r) (by simp)
 have c2 := s80 (rL2 r) (by simp)
 have c3 := s80 (rL3 r) (by simp)
 have c4 := s80 (rL4 r) (by simp)
 refine spec_g (bodyOf Tryz.f53) ([(4, ([], ordDef 0 13 ++ [⟨13, [], [14]⟩] ++ ordDef 14 3))]) pMix Tryz.func53 Tryz.ntmps53 [.tmp 2] ?_
 repeat' ((conv => whnf); first | refine Rng.g ?_ | fail)
 refine LoopVC.un 4 ?_
 repeat' ((conv => whnf); first | refine Rng.g ?_ | refine Ob.g ?_ | refine CallVC.pure rfl (c1) ?_ | refine CallVC.pure rfl (c2) ?_ | refine CallVC.pure rfl (c3) ?_ | refine CallVC.pure rfl (c4) ?_ | refine Br.t (fun h => ?_) | refine Br.f (fun h => ?_) | (refine Br.mk (fun h => ?_) (fun h => ?_) <;> first | (exfalso; omega; done) | (exfalso; simp at h; done) | skip))
 all_goals
  refine EndVC.mk _ rfl _ _ ⟨rfl, rfl⟩ ?_
  refine ⟨[], rfl, rfl, ?_, ?_⟩ <;> repeat' (first | exact trivial | exact rfl | apply And.intro)
  first
   | exact (if_pos ((rcp_iff r).2 (by simp_all))).symm
   | exact (if_neg fun hr => by have := (rcp_iff r).1 hr; simp_all).symm
theorem act_iff1 (a : Act2) (h : a.kd = 1) : ActOK a ↔ allIn [(a.cut, 0, 1099511627776), (a.area, 1, 1048576)] := by
 simp only [ActOK, allIn, and_true]; constructor <;> intro hh <;> omega
theorem act_iff2 (a : Act2) (h : a.kd = 2) : ActOK a ↔ allIn [(a.stock, 0, 1099511627776), (a.yd, 1, 1000)] := by
 simp only [ActOK, allIn, and_true]; constructor <;> intro hh <;> omega
theorem act_iff3 (a : Act2) (h : a.kd = 3) : ActOK a ↔ allIn [(a.s0, 0, 1048576), (a.s1, 0, 1048576), (a.cur, 0, 1048576), (a.sec, 0, 1048576)] := by
 simp only [ActOK, allIn, and_true]; constructor <;> intro hh <;> omega
theorem act_iff4 (a : Act2) (h : a.kd = 4) : ActOK a ↔ 0 ≤ a.place ∧ a.place ≤ 359 := by
 simp only [ActOK]; constructor <;> intro hh <;> omega
theorem s54 (a : Act2) : PSpec Tryz.prog 55 [a.x] (xP (ActOK a)) := by
 have c1 := s80 [(a.cut, 0, 1099511627776), (a.area, 1, 1048576)] (by simp)
 have c2 := s80 [(a.stock, 0, 1099511627776), (a.yd, 1, 1000)] (by simp)
 have c3 := s80 [(a.s0, 0, 1048576), (a.s1, 0, 1048576), (a.cur, 0, 1048576), (a.sec, 0, 1048576)] (by simp)
 have c4 := s86 a.place 0 359
 refine spec_g (bodyOf Tryz.f55) [] pMix Tryz.func55 Tryz.ntmps55 [.tmp 2] ?_
 repeat' ((conv => whnf); first | refine Ob.g ?_ | refine JoinVC.on ?_ | refine CallVC.pure rfl (c1) ?_ | refine CallVC.pure rfl (c2) ?_ | refine CallVC.pure rfl (c3) ?_ | refine CallVC.pure rfl (c4) ?_ | (refine Br.mk (fun h => ?_) (fun h => ?_) <;> first | (exfalso; omega; done) | (exfalso; simp at h; done) | skip))
 all_goals
  refine EndVC.mk _ rfl _ _ ⟨rfl, rfl⟩ ?_
  refine ⟨[], rfl, rfl, ?_, ?_⟩ <;> repeat' (first | exact trivial | apply And.intro)
  first
   | exact (act_iff1 a (by assumption)).symm
   | exact (act_iff2 a (by assumption)).symm
   | exact (act_iff3 a (by assumption)).symm
   | exact (act_iff4 a (by assumption)).symm
   | (show ActOK a; unfold ActOK; omega)
   | (show ¬ ActOK a; unfold ActOK; omega)
end Go.Sx.Pl

namespace Go.Sx.Pl
open Go Go.Proofs Go.Sx
set_option maxRecDepth 10000
set_option maxHeartbeats 8000000
theorem s53 (S : Sho) (ms : List MS) : HSpec Tryz.prog 54 [.one (.ptr 0 0)] (shM S ms) (fun r m' => r = .x (.one .ff) ∧ m' = shK S ms) := by
 refine spec_g (bodyOf Tryz.f54) [] pMix Tryz.func54 Tryz.ntmps54 [.tmp 2] ?_
 repeat' ((conv => whnf); first | (refine Br.mk (fun h => ?_) (fun h => ?_) <;> first | (exfalso; omega; done) | (exfalso; simp at h; done) | skip))
 refine EndVC.mk _ rfl _ _ ⟨rfl, rfl⟩ ?_
 refine ⟨[some 0, some 1, some 2, some 3, some 4, some 5], rfl, rfl, ?_, ?_⟩ <;> repeat' (first | exact trivial | exact rfl | apply And.intro)
def getR (S : Sho) (i : Int) : AV := if inP S i then .x (.one (.pel 2 i.toNat 0)) else .x (.one .nilp)
theorem s63 (S : Sho) (ms : List MS) (i : Int) : HSpec Tryz.prog 62 [.one (.ptr 0 0), I i] (shM S ms) (fun r m' => r = getR S i ∧ m' = shK S ms) := by
 by_cases hi : inP S i
 ·rw [getR, if_pos hi]
  unfold inP at hi
  refine spec_g (bodyOf Tryz.f62) [] pMix Tryz.func62 Tryz.ntmps62 [.tmp 4] ?_
  repeat' ((conv => whnf); first | refine Ob.g ?_ | refine Br.f (fun h => ?_))
  refine EndVC.mk _ rfl _ _ ⟨rfl, rfl⟩ ?_
  exact Le.g [some 0, some 1, some 2, some 3, some 4, some 5]
 ·rw [getR, if_neg hi]
  unfold inP at hi
  refine spec_g (bodyOf Tryz.f62) [] pMix Tryz.func62 Tryz.ntmps62 [.tmp 4] ?_
  repeat' ((conv => whnf); first | refine Br.t (fun h => ?_) | refine Br.mk (fun h => ?_) fun h => ?_)
  all_goals
   refine EndVC.mk _ rfl _ _ ⟨rfl, rfl⟩ ?_
   exact Le.g [some 0, some 1, some 2, some 3, some 4, some 5]
theorem s70 (S : Sho) (ms : List MS) (hS : ShOK S) (i : Nat) (hi : i < S.pl.length) : HSpec Tryz.prog 64 [.one (.ptr 0 0), .one (.pel 2 i 0)] (shM S ms) (fun r m' => r = .x (I (roomP S.r (S.pl.getD i p0))) ∧ m' = shK S ms) := by
 have g0 := pl_0 S.pl i
 have g5 := pl_5 S.pl i
 have g6 := pl_6 S.pl i
 have hp := hS.pl i hi
 have hr := hS.r
 obtain ⟨h1, h2⟩ := hp.kd
 have hg := hp.grown
 have hmo := hr.mo
 have hsp := hr.sp
 by_cases hret : (S.pl.getD i p0).ret = true
 ·unfold roomP
  rw [if_pos hret]
  rw [hret] at g6
  refine spec_g (bodyOf Tryz.f64) [] pMix Tryz.func64 Tryz.ntmps64 [.tmp 4] ?_
  repeat' ((conv => whnf); first | rw [g6] | (refine Br.mk (fun h => ?_) (fun h => ?_) <;> first | (exfalso; omega; done) | (exfalso; simp at h; done) | skip))
  refine EndVC.mk _ rfl _ _ ⟨rfl, rfl⟩ ?_
  exact Le.g [some 0, some 1, some 2, some 3, some 4, some 5]
 ·unfold roomP
  rw [if_neg hret]
  rw [show (S.pl.getD i p0).ret = false by simpa using hret] at g6
  have hk : (S.pl.getD i p0).kd = 0 ∨ (S.pl.getD i p0).kd = 1 ∨ (S.pl.getD i p0).kd = 2 ∨ (S.pl.getD i p0).kd = 3 := by omega
  unfold capP
  rcases hk with hk | hk | hk | hk
  all_goals
   rw [hk] at g0 ⊢
   refine spec_g (bodyOf Tryz.f64) [] pMix Tryz.func64 Tryz.ntmps64 [.tmp 4] ?_
   repeat' ((conv => whnf); first | rw [g6] | rw [g0] | rw [g5] | refine Rng.g ?_ | refine Ob.g ?_ | refine Mm.mk ?_ | (refine Br.mk (fun h => ?_) (fun h => ?_) <;> first | (exfalso; omega; done) | (exfalso; simp at h; done) | skip))
   refine EndVC.mk _ rfl _ _ ⟨rfl, rfl⟩ ?_
   refine ⟨[some 0, some 1, some 2, some 3, some 4, some 5], rfl, rfl, ?_, ?_⟩ <;> repeat' (first | exact trivial | exact rfl | apply And.intro)
   simp
   omega
structure GroOK (a : Act2) : Prop where
 s0 : 0 ≤ a.s0 ∧ a.s0 ≤ 1048576
 s1 : 0 ≤ a.s1 ∧ a.s1 ≤ 1048576
 cur : 0 ≤ a.cur ∧ a.cur ≤ 1048576
 sec : 0 ≤ a.sec ∧ a.sec ≤ 1048576
theorem mulB {a b A B : Int} (ha : 0 ≤ a ∧ a ≤ A) (hb : 0 ≤ b ∧ b ≤ B) : 0 ≤ a * b ∧ a * b ≤ A * B :=
 ⟨Int.mul_nonneg ha.1 hb.1, Int.le_trans (Int.mul_le_mul_of_nonneg_right ha.2 hb.1) (Int.mul_le_mul_of_nonneg_left hb.2 (Int.le_trans ha.1 ha.2))⟩
theorem divB {a d B : Int} (ha : 0 ≤ a ∧ a ≤ B) (hd : 1 ≤ d) : 0 ≤ a / d ∧ a / d ≤ B := by
 refine ⟨Int.ediv_nonneg ha.1 (by omega), ?_⟩
 exact Int.le_trans (Int.ediv_le_self _ ha.1) ha.2
theorem groB {a : Act2} (h : GroOK a) {y : Int} (hy : 1 ≤ y ∧ y ≤ 1000) : (0 ≤ a.s0 * a.s1 ∧ a.s0 * a.s1 ≤ 1099511627776) ∧ (0 ≤ a.cur * a.sec ∧ a.cur * a.sec ≤ 1099511627776) ∧ (0 ≤ a.s0 * a.s1 * y ∧ a.s0 * a.s1 * y ≤ 1099511627776000) ∧ 0 ≤ a.cur * a.sec * y ∧ a.cur * a.sec * y ≤ 1099511627776000 := by
 have h1 := mulB h.s0 h.s1
 have h2 := mulB h.cur h.sec
 exact ⟨h1, h2, mulB h1 ⟨by omega, hy.2⟩, mulB h2 ⟨by omega, hy.2⟩⟩
def inT (S : Sho) (i : Int) : Prop := 0 ≤ i ∧ i < (S.tk.length : Int)
theorem s64 (S : Sho) (ms : List MS) (hS : ShOK S) (a : Act2) (ha : GroOK a) (hb : inT S a.bath) : HSpec Tryz.prog 81 [.one (.ptr 0 0), a.x] (shM S ms) (fun r m' => r = .x (.agg [i6 (fstM S a), i6 (allM S a), i6 (chgM a)]) ∧ m' = shK S ms) := by
 obtain ⟨hb1, hb2⟩ := hb
 have lt := tkA_len S.tk
 have ht := (hS.tk a.bath.toNat (by omega)).2.1
 have g1 := tk_1 S.tk a.bath.toNat
 obtain ⟨h1, h2, h3, h4⟩ := groB ha ht
 unfold allM chgM fstM Sho.t
 refine spec_g (bodyOf Tryz.f81) [] pMix Tryz.func81 Tryz.ntmps81 [.cell 4 168] ?_
 repeat' ((conv => whnf); first | rw [g1] | refine Rng.g ?_ | refine Ob.g ?_ | refine Val.d ?_ | fail)
 refine EndVC.mk _ rfl _ _ ⟨rfl, rfl⟩ ?_
 exact Le.g [some 0, some 1, some 2, some 3, some 4, some 5]
end Go.Sx.Pl

namespace Go.Sx.Pl
open Go Go.Proofs Go.Sx
set_option maxRecDepth 10000
set_option maxHeartbeats 8000000
theorem s62 (S : Sho) (ms : List MS) (hS : ShOK S) (a : Act2) (ha : GroOK a) : HSpec Tryz.prog 79 [.one (.ptr 0 0), a.x] (shM S ms) (fun r m' => r = .x (I (herE S a)) ∧ m' = shK S ms) := by
 have c63 := s63 S ms a.plate
 have lt := tkA_len S.tk
 have hr := hS.r
 have hsoft := hr.soft
 have hhard := hr.hard
 have hs0 := ha.s0
 have hcur := ha.cur
 unfold herE
 by_cases hi : inP S a.plate
 ·rw [getR, if_pos hi] at c63
  unfold inP at hi
  obtain ⟨hi1, hi2⟩ := hi
  have hi : inP S a.plate := ⟨hi1, hi2⟩
  have hp := hS.pl a.plate.toNat (by omega)
  have har := hp.area
  have g3 := pl_3 S.pl a.plate.toNat
  have g6 := pl_6 S.pl a.plate.toNat
  have c70 := s70 S ms hS a.plate.toNat (by omega)
  have e1 := mulB hsoft (show 0 ≤ (S.pl.getD a.plate.toNat p0).area ∧ (S.pl.getD a.plate.toNat p0).area ≤ 1048576 by omega)
  have e2 := mulB hhard (show 0 ≤ (S.pl.getD a.plate.toNat p0).area ∧ (S.pl.getD a.plate.toNat p0).area ≤ 1048576 by omega)
  by_cases hb : a.bath < 0 ∨ (S.tk.length : Int) ≤ a.bath
  ·rw [if_pos (.inr hb)]
   refine spec_g (bodyOf Tryz.f79) [] pMix Tryz.func79 Tryz.ntmps79 [.tmp 4] ?_
   repeat' ((conv => whnf); first | refine Rng.g ?_ | fail)
   conv => whnf
   refine CallVC.mk [0, 1, 2, 3, 4, 5] _ _ _ rfl rfl rfl (c63) (fun r m' h' => ?_)
   obtain ⟨rfl, rfl⟩ := h'
   conv => whnf
   repeat' ((conv => whnf); first | refine Br.t (fun h => ?_) | (refine Br.mk (fun h => ?_) (fun h => ?_) <;> first | (exfalso; omega; done) | (exfalso; simp at h; done) | skip))
   all_goals
    refine EndVC.mk _ rfl _ _ ⟨rfl, rfl⟩ ?_
    exact Le.g [some 0, some 1, some 2, some 3, some 4, some 5]
  ·rw [if_neg (by rintro (h | h); exact h hi; exact hb h)]
   unfold Sho.p
   by_cases hret : (S.pl.getD a.plate.toNat p0).ret = true
   ·rw [if_pos hret]
    rw [hret] at g6
    refine spec_g (bodyOf Tryz.f79) [] pMix Tryz.func79 Tryz.ntmps79 [.tmp 4] ?_
    repeat' ((conv => whnf); first | refine Rng.g ?_ | fail)
    conv => whnf
    refine CallVC.mk [0, 1, 2, 3, 4, 5] _ _ _ rfl rfl rfl (c63) (fun r m' h' => ?_)
    obtain ⟨rfl, rfl⟩ := h'
    conv => whnf
    repeat' ((conv => whnf); first | rw [g6] | refine Br.f (fun h => ?_) | (refine Br.mk (fun h => ?_) (fun h => ?_) <;> first | (exfalso; omega; done) | (exfalso; simp at h; done) | skip))
    refine EndVC.mk _ rfl _ _ ⟨rfl, rfl⟩ ?_
    refine ⟨[some 0, some 1, some 2, some 3, some 4, some 5], rfl, rfl, ?_, ?_⟩ <;> repeat' (first | exact trivial | exact rfl | apply And.intro)
   ·rw [if_neg hret]
    rw [show (S.pl.getD a.plate.toNat p0).ret = false by simpa using hret] at g6
    refine spec_g (bodyOf Tryz.f79) [] pMix Tryz.func79 Tryz.ntmps79 [.tmp 4] ?_
    repeat' ((conv => whnf); first | refine Rng.g ?_ | fail)
    conv => whnf
    refine CallVC.mk [0, 1, 2, 3, 4, 5] _ _ _ rfl rfl rfl (c63) (fun r m' h' => ?_)
    obtain ⟨rfl, rfl⟩ := h'
    conv => whnf
    repeat' ((conv => whnf); first | rw [g6] | refine Br.f (fun h => ?_) | (refine Br.mk (fun h => ?_) (fun h => ?_) <;> first | (exfalso; omega; done) | (exfalso; simp at h; done) | skip))
    conv => whnf
    refine CallVC.mk [0, 1, 2, 3, 4, 5] _ _ _ rfl rfl rfl (c70) (fun r m' h' => ?_)
    obtain ⟨rfl, rfl⟩ := h'
    conv => whnf
    repeat' ((conv => whnf); first | rw [g3] | refine Rng.g ?_ | refine Ob.g ?_ | (refine Br.mk (fun h => ?_) (fun h => ?_) <;> first | (exfalso; omega; done) | (exfalso; simp at h; done) | skip))
    all_goals
     refine EndVC.mk _ rfl _ _ ⟨rfl, rfl⟩ ?_
     refine ⟨[some 0, some 1, some 2, some 3, some 4, some 5], rfl, rfl, ?_, ?_⟩ <;> repeat' (first | exact trivial | exact rfl | apply And.intro)
     (repeat' split) <;> first | rfl | (exfalso; omega)
 ·rw [getR, if_neg hi] at c63
  rw [if_pos (.inl hi)]
  refine spec_g (bodyOf Tryz.f79) [] pMix Tryz.func79 Tryz.ntmps79 [.tmp 4] ?_
  repeat' ((conv => whnf); first | refine Rng.g ?_ | fail)
  conv => whnf
  refine CallVC.mk [0, 1, 2, 3, 4, 5] _ _ _ rfl rfl rfl (c63) (fun r m' h' => ?_)
  obtain ⟨rfl, rfl⟩ := h'
  conv => whnf
  repeat' ((conv => whnf); first | (refine Br.mk (fun h => ?_) (fun h => ?_) <;> first | (exfalso; omega; done) | (exfalso; simp at h; done) | skip))
  refine EndVC.mk _ rfl _ _ ⟨rfl, rfl⟩ ?_
  exact Le.g [some 0, some 1, some 2, some 3, some 4, some 5]
theorem thkB (S : Sho) (hS : ShOK S) (a : Act2) (ha : GroOK a) (hi : inP S a.plate) (hb : inT S a.bath) : (0 ≤ fstM S a ∧ fstM S a ≤ 1099511627776) ∧ (0 ≤ allM S a ∧ allM S a ≤ 2199023255552) ∧ (0 ≤ 1000 * fstM S a / (S.p a.plate).area ∧ 1000 * fstM S a / (S.p a.plate).area ≤ 1099511627776000) ∧ 0 ≤ thkM S a ∧ thkM S a ≤ 2199023255552000 := by
 obtain ⟨hb1, hb2⟩ := hb
 obtain ⟨hi1, hi2⟩ := hi
 have ht := (hS.tk a.bath.toNat (by omega)).2.1
 have hp := (hS.pl a.plate.toNat (by omega)).area
 obtain ⟨h1, h2, h3, h4⟩ := groB ha ht
 have e1 : 0 ≤ fstM S a ∧ fstM S a ≤ 1099511627776 := by unfold fstM Sho.t; omega
 have e2 : 0 ≤ allM S a ∧ allM S a ≤ 2199023255552 := by unfold allM fstM Sho.t; omega
 exact ⟨e1, e2, divB ⟨by omega, by omega⟩ hp.1, divB ⟨by omega, by omega⟩ hp.1⟩
theorem s65 (S : Sho) (ms : List MS) (hS : ShOK S) (a : Act2) (ha : GroOK a) (hi : inP S a.plate) (hb : inT S a.bath) (hk : (S.p a.plate).kd ≤ 2) : HSpec Tryz.prog 80 [.one (.ptr 0 0), a.x] (shM S ms) (fun r m' => r = .tup [I (if layE S a = 0 then thkM S a else 0), I (layE S a)] ∧ m' = shK S ms) := by
 have c63 := s63 S ms a.plate
 rw [getR, if_pos hi] at c63
 have c64 := s64 S ms hS a ha hb
 have hB := thkB S hS a ha hi hb
 obtain ⟨hb1, hb2⟩ := hb
 obtain ⟨hi1, hi2⟩ := hi
 have lt := tkA_len S.tk
 have hp := hS.pl a.plate.toNat (by omega)
 have har : 1 ≤ (S.p a.plate).area ∧ (S.p a.plate).area ≤ 1048576 := hp.area
 have g0 : rI (plA S.pl) a.plate.toNat 0 = (S.p a.plate).kd := pl_0 S.pl a.plate.toNat
 have g3 : rI (plA S.pl) a.plate.toNat ((0 + 1 + 1 + 1)) = (S.p a.plate).area := pl_3 S.pl a.plate.toNat
 have t0 : rI (tkA S.tk) a.bath.toNat 0 = (S.t a.bath).st := tk_0 S.tk a.bath.toNat
 obtain ⟨b1, b2, b3, b4⟩ := hB
 have k0 : 0 ≤ (S.p a.plate).kd := hp.kd.1
 have hk3 : (S.p a.plate).kd = 0 ∨ (S.p a.plate).kd = 1 ∨ (S.p a.plate).kd = 2 := by omega
 rcases hk3 with hk | hk | hk
 ·have e1 : S.r.thin ((S.p a.plate).kd + 1) = S.r.n1 := by rw [hk]; rfl
  have e2 : S.r.thk ((S.p a.plate).kd + 1) = S.r.k1 := by rw [hk]; rfl
  have hl : layE S a = if 1000 * fstM S a / (S.p a.plate).area < S.r.seed ∨ thkM S a < S.r.n1 ∨ S.r.k1 < thkM S a then 20 else if (S.t a.bath).st < allM S a then 13 else 0 := by rw [← e1, ← e2]; rfl
  rw [hl]
  unfold thkM at *
  rw [hk] at g0
  have c1 := s86 (1000 * allM S a / (S.p a.plate).area) S.r.n1 S.r.k1
  refine spec_g (bodyOf Tryz.f80) ([(1, ([7], ordDef 0 3 ++ [⟨4, [], []⟩, ⟨5, [], []⟩, ⟨3, [4, 5], []⟩] ++ ordDef 6 4))]) pMix Tryz.func80 Tryz.ntmps80 [.tmp 4, .tmp 5] ?_
  repeat' ((conv => whnf); first | refine Rng.g ?_ | fail)
  conv => whnf
  refine CallVC0.same [0, 1, 2, 3, 4, 5] _ _ _ rfl rfl rfl rfl (c63) (fun r m' h' => (by obtain ⟨rfl, rfl⟩ := h'; rfl)) (fun r m' h' => ?_)
  obtain ⟨rfl, rfl⟩ := h'
  conv => whnf
  repeat' ((conv => whnf); first | refine Rng.g ?_ | fail)
  conv => whnf
  refine CallVC.mk [0, 1, 2, 3, 4, 5] _ _ _ rfl rfl rfl (c64) (fun r m' h' => ?_)
  obtain ⟨rfl, rfl⟩ := h'
  conv => whnf
  repeat' ((conv => whnf); first | rw [g0] | rw [g3] | rw [t0] | refine Rng.g ?_ | refine Ob.g ?_ | refine Val.d ?_ | refine CallVC.pure rfl (c1) ?_ | refine Br.mk (fun h => ?_) fun h => ?_)
  all_goals
   refine EndVC.mk _ rfl _ _ ⟨rfl, rfl⟩ ?_
   refine ⟨[some 0, some 1, some 2, some 3, some 4, some 5], rfl, rfl, ?_, ?_⟩ <;> repeat' (first | exact trivial | exact rfl | apply And.intro)
  all_goals (repeat' split) <;> first | rfl | (exfalso; omega)
 ·have e1 : S.r.thin ((S.p a.plate).kd + 1) = S.r.n2 := by rw [hk]; rfl
  have e2 : S.r.thk ((S.p a.plate).kd + 1) = S.r.k2 := by rw [hk]; rfl
  have hl : layE S a = if 1000 * fstM S a / (S.p a.plate).area < S.r.seed ∨ thkM S a < S.r.n2 ∨ S.r.k2 < thkM S a then 20 else if (S.t a.bath).st < allM S a then 13 else 0 := by rw [← e1, ← e2]; rfl
  rw [hl]
  unfold thkM at *
  rw [hk] at g0
  have c1 := s86 (1000 * allM S a / (S.p a.plate).area) S.r.n2 S.r.k2
  refine spec_g (bodyOf Tryz.f80) ([(1, ([7], ordDef 0 3 ++ [⟨4, [], []⟩, ⟨5, [], []⟩, ⟨3, [4, 5], []⟩] ++ ordDef 6 4))]) pMix Tryz.func80 Tryz.ntmps80 [.tmp 4, .tmp 5] ?_
  repeat' ((conv => whnf); first | refine Rng.g ?_ | fail)
  conv => whnf
  refine CallVC0.same [0, 1, 2, 3, 4, 5] _ _ _ rfl rfl rfl rfl (c63) (fun r m' h' => (by obtain ⟨rfl, rfl⟩ := h'; rfl)) (fun r m' h' => ?_)
  obtain ⟨rfl, rfl⟩ := h'
  conv => whnf
  repeat' ((conv => whnf); first | refine Rng.g ?_ | fail)
  conv => whnf
  refine CallVC.mk [0, 1, 2, 3, 4, 5] _ _ _ rfl rfl rfl (c64) (fun r m' h' => ?_)
  obtain ⟨rfl, rfl⟩ := h'
  conv => whnf
  repeat' ((conv => whnf); first | rw [g0] | rw [g3] | rw [t0] | refine Rng.g ?_ | refine Ob.g ?_ | refine Val.d ?_ | refine CallVC.pure rfl (c1) ?_ | refine Br.mk (fun h => ?_) fun h => ?_)
  all_goals
   refine EndVC.mk _ rfl _ _ ⟨rfl, rfl⟩ ?_
   refine ⟨[some 0, some 1, some 2, some 3, some 4, some 5], rfl, rfl, ?_, ?_⟩ <;> repeat' (first | exact trivial | exact rfl | apply And.intro)
  all_goals (repeat' split) <;> first | rfl | (exfalso; omega)
 ·have e1 : S.r.thin ((S.p a.plate).kd + 1) = S.r.n3 := by rw [hk]; rfl
  have e2 : S.r.thk ((S.p a.plate).kd + 1) = S.r.k3 := by rw [hk]; rfl
  have hl : layE S a = if 1000 * fstM S a / (S.p a.plate).area < S.r.seed ∨ thkM S a < S.r.n3 ∨ S.r.k3 < thkM S a then 20 else if (S.t a.bath).st < allM S a then 13 else 0 := by rw [← e1, ← e2]; rfl
  rw [hl]
  unfold thkM at *
  rw [hk] at g0
  have c1 := s86 (1000 * allM S a / (S.p a.plate).area) S.r.n3 S.r.k3
  refine spec_g (bodyOf Tryz.f80) ([(1, ([7], ordDef 0 3 ++ [⟨4, [], []⟩, ⟨5, [], []⟩, ⟨3, [4, 5], []⟩] ++ ordDef 6 4))]) pMix Tryz.func80 Tryz.ntmps80 [.tmp 4, .tmp 5] ?_
  repeat' ((conv => whnf); first | refine Rng.g ?_ | fail)
  conv => whnf
  refine CallVC0.same [0, 1, 2, 3, 4, 5] _ _ _ rfl rfl rfl rfl (c63) (fun r m' h' => (by obtain ⟨rfl, rfl⟩ := h'; rfl)) (fun r m' h' => ?_)
  obtain ⟨rfl, rfl⟩ := h'
  conv => whnf
  repeat' ((conv => whnf); first | refine Rng.g ?_ | fail)
  conv => whnf
  refine CallVC.mk [0, 1, 2, 3, 4, 5] _ _ _ rfl rfl rfl (c64) (fun r m' h' => ?_)
  obtain ⟨rfl, rfl⟩ := h'
  conv => whnf
  repeat' ((conv => whnf); first | rw [g0] | rw [g3] | rw [t0] | refine Rng.g ?_ | refine Ob.g ?_ | refine Val.d ?_ | refine CallVC.pure rfl (c1) ?_ | refine Br.mk (fun h => ?_) fun h => ?_)
  all_goals
   refine EndVC.mk _ rfl _ _ ⟨rfl, rfl⟩ ?_
   refine ⟨[some 0, some 1, some 2, some 3, some 4, some 5], rfl, rfl, ?_, ?_⟩ <;> repeat' (first | exact trivial | exact rfl | apply And.intro)
  all_goals (repeat' split) <;> first | rfl | (exfalso; omega)
end Go.Sx.Pl

namespace Go.Sx.Pl
open Go Go.Proofs Go.Sx
set_option maxRecDepth 10000
set_option maxHeartbeats 8000000
@[reducible] def pl5 (kd pa cut area thick : Int) : Pl := ⟨kd, pa, cut, area, thick, 0, false⟩
@[reducible] def adO (S : Sho) (ms : List MS) (p : Pl) (c : Nat) : List (Option Blk) := [some (bSh 6 3 4 5 S.r), none, some (bFa (S.pl ++ [p]) (ms ++ [⟨[], c⟩])), some (bTk S.tk), some (bFl S.fl), some (bAc S.ac), some (bPr (S.pl.length + 1))]
theorem s87 (S : Sho) (ms : List MS) (hn : S.pl.length ≤ 256) (kd pa cut area thick : Int) : HSpec Tryz.prog 78 [.one (.ptr 0 0), .agg [i6 kd, i6 pa, i6 cut, i6 area, i6 thick, i6 0, .ff]] (shM S ms) (fun r m' => ∃ c, r = .x (.one (.pel 2 S.pl.length 0)) ∧ m' = adO S ms (pl5 kd pa cut area thick) c) := by
 have hl := plA_len S.pl
 have hs := plA_snoc S.pl (pl5 kd pa cut area thick)
 refine spec_g (bodyOf Tryz.f78) [] pMix Tryz.func78 Tryz.ntmps78 [.tmp 4] ?_
 repeat' ((conv => whnf); first | refine Rng.g ?_ | fail)
 refine Ob.mk (by exact ⟨hl.symm, by rw [eb90]; omega⟩) ?_
 intro c
 repeat' ((conv => whnf); first | refine Rng.g ?_ | fail)
 conv => whnf
 refine EndVC.mk _ rfl _ _ (⟨c, rfl, rfl⟩) ?_
 refine ⟨[some 0, none, some 2, some 3, some 4, some 5, some 10], rfl, rfl, ?_, ?_⟩ <;> repeat' (first | exact trivial | exact rfl | apply And.intro)
 exact hs
theorem A_upd {α : Type} (C : α → List Cell) (l : List α) (i : Nat) (d : α) (hi : i < l.length) {f : Nat} {cs : List Cell} {p : α} (h : setAll (C (l.getD i d)) f cs = C p) : updRow (l.map C) i f cs = (l.set i p).map C := by
 unfold updRow
 rw [List.map_set, ← h]
 congr 2
 simp [List.getD_eq_getElem?_getD, List.getElem?_eq_getElem hi]
theorem MsOK.snoc {ms : List MS} {be : List (List Int)} (h : MsOK ms be) (c : Nat) : MsOK (ms ++ [⟨[], c⟩]) (be ++ [[]]) := by
 refine ⟨by simp [h.1], fun i hi => ?_⟩
 simp at hi
 by_cases h1 : i < be.length
 ·rw [List.getD_eq_getElem?_getD, List.getD_eq_getElem?_getD, List.getElem?_append_left (by rw [h.1]; exact h1), List.getElem?_append_left h1, ← List.getD_eq_getElem?_getD, ← List.getD_eq_getElem?_getD]
  exact h.2 i h1
 ·have e : i = be.length := by omega
  subst e
  rw [List.getD_eq_getElem?_getD, List.getD_eq_getElem?_getD, ← h.1, List.getElem?_concat_length, h.1, List.getElem?_concat_length]
  exact ⟨fun k => by simp [MS.ks], by simp [MS.ks], fun e he => by simp at he⟩
def AcR (S : Sho) (a : Act2) (r : AV) (m' : List (Option Blk)) : Prop := ∃ ms', MsOK ms' (actT S a).be ∧ r = .tup [I (if actE S a = 0 then actN S a else 0), I (actE S a)] ∧ m' = shO (actT S a) ms'
theorem AcR.err {S : Sho} {a : Act2} {ms : List MS} (hM : MsOK ms S.be) {e : Int} (he : actE S a = e) (h0 : e ≠ 0) : AcR S a (.tup [I 0, I e]) (shO S ms) := by
 subst he
 have h1 : actT S a = S := if_neg h0
 exact ⟨ms, by rw [h1]; exact hM, by rw [if_neg h0], by rw [h1]⟩
theorem AcR.ok {S : Sho} {a : Act2} {ms : List MS} (he : actE S a = 0) {S' : Sho} (hS : actS S a = S') (hM : MsOK ms S'.be) {n : Int} (hn : actN S a = n) : AcR S a (.tup [I n, I 0]) (shO S' ms) := by
 have h1 : actT S a = S' := (if_pos he).trans hS
 exact ⟨ms, by rw [h1]; exact hM, by rw [if_pos he, he, hn], by rw [h1]⟩
theorem s55 (S : Sho) (ms : List MS) (hM : MsOK ms S.be) (a : Act2) (hk : a.kd = 1) : HSpec Tryz.prog 56 [.one (.ptr 0 0), a.x] (shM S ms) (AcR S a) := by
 by_cases h : 256 ≤ S.pl.length
 ·have he : actE S a = 11 := by unfold actE; rw [if_pos hk, if_pos h]
  refine spec_g (bodyOf Tryz.f56) [] pMix Tryz.func56 Tryz.ntmps56 [.tmp 4, .tmp 5] ?_
  repeat' ((conv => whnf); refine Br.t (fun h => ?_))
  conv => whnf
  refine EndVC.mk _ rfl _ _ (AcR.err hM he (by decide)) ?_
  exact Le.g [some 0, none, some 2, none, none, none, some 1, some 3, some 4, some 5]
 ·have he : actE S a = 0 := by unfold actE; rw [if_pos hk, if_neg h]
  have hs : actS S a = { S with pl := S.pl ++ [⟨0, -1, a.cut, a.area, 0, 0, false⟩], be := S.be ++ [[]] } := by unfold actS; rw [if_pos hk]
  have hn : actN S a = S.pl.length := by unfold actN; rw [if_pos (.inl hk)]
  refine spec_g (bodyOf Tryz.f56) [] pMix Tryz.func56 Tryz.ntmps56 [.tmp 4, .tmp 5] ?_
  repeat' ((conv => whnf); refine Br.f (fun h => ?_))
  conv => whnf
  refine CallVC.mk [0, 1, 2, 3, 4, 5] _ _ _ rfl rfl rfl (s87 S ms (by omega) 0 (-1) a.cut a.area 0) (fun r m' h' => ?_)
  obtain ⟨c, rfl, rfl⟩ := h'
  conv => whnf
  repeat' ((conv => whnf); first | refine Rng.g ?_ | fail)
  conv => whnf
  refine EndVC.mk _ rfl _ _ (AcR.ok he hs (hM.snoc c) hn) ?_
  refine ⟨[some 0, none, some 2, none, none, none, some 7, some 3, some 4, some 5], rfl, rfl, ?_, ?_⟩ <;> repeat' (first | exact trivial | exact rfl | apply And.intro)
  all_goals first
   | omega
   | (simp; done)
theorem s56 (S : Sho) (ms : List MS) (hM : MsOK ms S.be) (a : Act2) (hk : a.kd = 2) : HSpec Tryz.prog 57 [.one (.ptr 0 0), a.x] (shM S ms) (AcR S a) := by
 have hl := tkA_len S.tk
 by_cases h : 8 ≤ S.tk.length
 ·have he : actE S a = 11 := by unfold actE; rw [if_neg (by omega), if_pos hk, if_pos h]
  refine spec_g (bodyOf Tryz.f57) ([(3, ([], ordDef 0 9 ++ [⟨9, [], [10]⟩, ⟨10, [], []⟩, ⟨11, [0], []⟩] ++ ordDef 12 3))]) pMix Tryz.func57 Tryz.ntmps57 [.tmp 4, .tmp 5] ?_
  repeat' ((conv => whnf); refine Br.t (fun h => ?_))
  conv => whnf
  refine EndVC.mk _ rfl _ _ (AcR.err hM he (by decide)) ?_
  exact Le.g [some 0, none, some 2, none, none, none, some 1, some 3, some 4, some 5]
 ·have he : actE S a = 0 := by unfold actE; rw [if_neg (by omega), if_pos hk, if_neg h]
  have hs : actS S a = { S with tk := S.tk ++ [⟨a.stock, a.yd, 0, 0⟩] } := by unfold actS; rw [if_neg (by omega), if_pos hk]
  have hn : actN S a = S.tk.length := by unfold actN; rw [if_neg (by omega), if_pos hk]
  have hsn := tkA_snoc S.tk ⟨a.stock, a.yd, 0, 0⟩
  refine spec_g (bodyOf Tryz.f57) ([(3, ([], ordDef 0 9 ++ [⟨9, [], [10]⟩, ⟨10, [], []⟩, ⟨11, [0], []⟩] ++ ordDef 12 3))]) pMix Tryz.func57 Tryz.ntmps57 [.tmp 4, .tmp 5] ?_
  repeat' ((conv => whnf); refine Br.f (fun h => ?_))
  refine Ob.mk (by rw [eb49]; simp only [List.length_cons, List.length_nil]; omega) ?_
  have hl2 := tkA_len (S.tk ++ [⟨a.stock, a.yd, 0, 0⟩])
  rw [List.length_append, List.length_singleton] at hl2
  repeat' ((conv => whnf); first | rw [hsn] | refine Rng.g ?_ | fail)
  conv => whnf
  refine EndVC.mk _ rfl _ _ (AcR.ok he hs hM hn) ?_
  refine ⟨[some 0, none, some 2, none, none, none, some 1, some 8, some 4, some 5], rfl, rfl, ?_, ?_⟩ <;> repeat' (first | exact trivial | exact rfl | apply And.intro)
  all_goals first
   | exact hsn
   | omega
theorem s60 (S : Sho) (ms : List MS) (hM : MsOK ms S.be) (a : Act2) (hk : a.kd = 6) : HSpec Tryz.prog 61 [.one (.ptr 0 0), a.x] (shM S ms) (AcR S a) := by
 have c63 := s63 S ms a.plate
 by_cases hi : inP S a.plate
 ·rw [getR, if_pos hi] at c63
  have g6 := pl_6 S.pl a.plate.toNat
  by_cases hr : (S.p a.plate).ret = true
  ·have he : actE S a = 10 := by unfold actE; rw [if_neg (by omega), if_neg (by omega), if_neg (by omega), if_neg (by rintro (h | h); exact h hi; omega), if_pos hr]
   rw [show (S.pl.getD a.plate.toNat p0).ret = true from hr] at g6
   refine spec_g (bodyOf Tryz.f61) [] pMix Tryz.func61 Tryz.ntmps61 [.tmp 4, .tmp 5] ?_
   repeat' ((conv => whnf); first | refine Rng.g ?_ | fail)
   conv => whnf
   refine CallVC.mk [0, 1, 2, 3, 4, 5] _ _ _ rfl rfl rfl (c63) (fun r m' h' => ?_)
   obtain ⟨rfl, rfl⟩ := h'
   conv => whnf
   repeat' ((conv => whnf); first | rw [g6] | (refine Br.mk (fun h => ?_) (fun h => ?_) <;> first | (exfalso; omega; done) | (exfalso; simp at h; done) | skip))
   conv => whnf
   refine EndVC.mk _ rfl _ _ (AcR.err hM he (by decide)) ?_
   refine ⟨[some 0, none, some 2, none, none, none, some 1, some 3, some 4, some 5], rfl, rfl, ?_, ?_⟩ <;> repeat' (first | exact trivial | exact rfl | apply And.intro)
  ·have he : actE S a = 0 := by unfold actE; rw [if_neg (by omega), if_neg (by omega), if_neg (by omega), if_neg (by rintro (h | h); exact h hi; omega), if_neg hr, if_neg (by omega), if_neg (by omega)]
   have hs : actS S a = { S with pl := S.pl.set a.plate.toNat (retP (S.p a.plate)) } := by unfold actS; rw [if_neg (by omega), if_neg (by omega), if_neg (by omega), if_neg (by omega), if_neg (by omega)]
   have hn : actN S a = 0 := by unfold actN; rw [if_neg (by omega), if_neg (by omega), if_neg (by omega)]
   have hr' : (S.pl.getD a.plate.toNat p0).ret = false := Bool.eq_false_iff.2 hr
   rw [hr'] at g6
   have hu : updRow (plA S.pl) a.plate.toNat ((0 + 1 + 1 + 1 + 1 + 1 + 1)) [.bool true] = plA (S.pl.set a.plate.toNat (retP (S.p a.plate))) := A_upd plC S.pl a.plate.toNat p0 (by unfold inP at hi; omega) rfl
   refine spec_g (bodyOf Tryz.f61) [] pMix Tryz.func61 Tryz.ntmps61 [.tmp 4, .tmp 5] ?_
   repeat' ((conv => whnf); first | refine Rng.g ?_ | fail)
   conv => whnf
   refine CallVC.mk [0, 1, 2, 3, 4, 5] _ _ _ rfl rfl rfl (c63) (fun r m' h' => ?_)
   obtain ⟨rfl, rfl⟩ := h'
   conv => whnf
   repeat' ((conv => whnf); first | rw [g6] | (refine Br.mk (fun h => ?_) (fun h => ?_) <;> first | (exfalso; omega; done) | (exfalso; simp at h; done) | skip))
   conv => whnf
   refine EndVC.mk _ rfl _ _ (AcR.ok he hs hM hn) ?_
   refine ⟨[some 0, none, some 2, none, none, none, some 1, some 3, some 4, some 5], rfl, rfl, ?_, ?_⟩ <;> repeat' (first | exact trivial | exact rfl | apply And.intro)
   all_goals first
    | exact hu
    | (simp; done)
 ·have he : actE S a = 5 := by unfold actE; rw [if_neg (by omega), if_neg (by omega), if_neg (by omega), if_pos (.inl hi)]
  rw [getR, if_neg hi] at c63
  refine spec_g (bodyOf Tryz.f61) [] pMix Tryz.func61 Tryz.ntmps61 [.tmp 4, .tmp 5] ?_
  repeat' ((conv => whnf); first | refine Rng.g ?_ | fail)
  conv => whnf
  refine CallVC.mk [0, 1, 2, 3, 4, 5] _ _ _ rfl rfl rfl (c63) (fun r m' h' => ?_)
  obtain ⟨rfl, rfl⟩ := h'
  conv => whnf
  repeat' ((conv => whnf); first | (refine Br.mk (fun h => ?_) (fun h => ?_) <;> first | (exfalso; omega; done) | (exfalso; simp at h; done) | skip))
  conv => whnf
  refine EndVC.mk _ rfl _ _ (AcR.err hM he (by decide)) ?_
  exact Le.g [some 0, none, some 2, none, none, none, some 1, some 3, some 4, some 5]
end Go.Sx.Pl

namespace Go.Sx.Pl
open Go Go.Proofs Go.Sx
set_option maxRecDepth 10000
set_option maxHeartbeats 8000000
theorem del_ks (n : Int) : ∀ (es : List (Int × Nat)), (es.eraseP (fun e => decide (e.1 = n))).map (·.1) = (es.map (·.1)).erase n
 | [] => rfl
 | e :: es => by
  by_cases h : e.1 = n
  ·simp [h]
  ·simp [h, del_ks n es]
theorem SetOK.put {m : MS} {l : List Int} (h : SetOK m l) {n : Int} (hn : n ∉ l) : SetOK (m.put n) (l ++ [n]) := by
 have hk : n ∉ m.ks := fun hc => hn ((h.mem n).1 hc)
 have e : m.put n = ⟨m.es ++ [(n, m.c)], m.c + 1⟩ := by unfold MS.put; rw [if_neg hk]
 have ek : (m.put n).ks = m.ks ++ [n] := by rw [e]; simp [MS.ks]
 refine ⟨fun k => ?_, ?_, fun q hq => ?_⟩
 ·rw [ek]; simp [h.mem]
 ·rw [ek]
  exact List.nodup_append.2 ⟨h.nd, by simp, fun x hx y hy => by simp at hy; subst hy; rintro rfl; exact hk hx⟩
 ·rw [e] at hq ⊢
  simp only [List.mem_append, List.mem_singleton] at hq
  rcases hq with hq | rfl
  ·exact Nat.lt_succ_of_lt (h.st q hq)
  ·exact Nat.lt_succ_self _
theorem SetOK.del {m : MS} {l : List Int} (h : SetOK m l) (n : Int) : SetOK (m.del n) (l.filter fun x => decide (x ≠ n)) := by
 have ek : (m.del n).ks = m.ks.erase n := del_ks n m.es
 refine ⟨fun k => ?_, ?_, fun q hq => h.st q (List.mem_of_mem_eraseP hq)⟩
 ·rw [ek, h.nd.mem_erase_iff, h.mem, List.mem_filter]
  simp [and_comm]
 ·rw [ek]; exact h.nd.erase n
theorem MsOK.setI {ms : List MS} {be : List (List Int)} (h : MsOK ms be) (i : Nat) {m : MS} {l : List Int} (hm : SetOK m l) : MsOK (ms.set i m) (be.set i l) := by
 refine ⟨by simp [h.1], fun j hj => ?_⟩
 simp at hj
 rw [List.getD_eq_getElem?_getD, List.getD_eq_getElem?_getD, List.getElem?_set, List.getElem?_set]
 by_cases e : i = j
 ·subst e
  rw [if_pos rfl, if_pos rfl, if_pos (by rw [h.1]; exact hj), if_pos hj]
  exact hm
 ·rw [if_neg e, if_neg e, ← List.getD_eq_getElem?_getD, ← List.getD_eq_getElem?_getD]
  exact h.2 j hj
theorem s58 (S : Sho) (ms : List MS) (hS : ShOK S) (hM : MsOK ms S.be) (a : Act2) (hk : a.kd = 4) : HSpec Tryz.prog 59 [.one (.ptr 0 0), a.x] (shM S ms) (AcR S a) := by
 have c63 := s63 S ms a.plate
 have hl := flA_len S.fl
 have hnb := hS.nb
 by_cases hi : inP S a.plate
 ·rw [getR, if_pos hi] at c63
  have g6 := pl_6 S.pl a.plate.toNat
  have hil : a.plate.toNat < S.pl.length := by unfold inP at hi; omega
  by_cases hr : (S.p a.plate).ret = true
  ·have he : actE S a = 10 := by unfold actE; rw [if_neg (by omega), if_neg (by omega), if_neg (by omega), if_neg (by rintro (h | h); exact h hi; omega), if_pos hr]
   rw [show (S.pl.getD a.plate.toNat p0).ret = true from hr] at g6
   refine spec_g (bodyOf Tryz.f59) ([(9, ([], ordDef 0 9 ++ [⟨9, [], [10]⟩, ⟨10, [], []⟩, ⟨11, [0], []⟩] ++ ordDef 12 3))]) pMix Tryz.func59 Tryz.ntmps59 [.tmp 4, .tmp 5] ?_
   repeat' ((conv => whnf); first | refine Rng.g ?_ | fail)
   conv => whnf
   refine CallVC.mk [0, 1, 2, 3, 4, 5] _ _ _ rfl rfl rfl (c63) (fun r m' h' => ?_)
   obtain ⟨rfl, rfl⟩ := h'
   conv => whnf
   repeat' ((conv => whnf); first | rw [g6] | (refine Br.mk (fun h => ?_) (fun h => ?_) <;> first | (exfalso; omega; done) | (exfalso; simp at h; done) | skip))
   conv => whnf
   refine EndVC.mk _ rfl _ _ (AcR.err hM he (by decide)) ?_
   refine ⟨[some 0, none, some 2, none, none, none, some 1, some 3, some 4, some 5], rfl, rfl, ?_, ?_⟩ <;> repeat' (first | exact trivial | exact rfl | apply And.intro)
  ·have hr' : (S.pl.getD a.plate.toNat p0).ret = false := Bool.eq_false_iff.2 hr
   rw [hr'] at g6
   by_cases h64 : 64 ≤ S.fl.length
   ·have he : actE S a = 11 := by unfold actE; rw [if_neg (by omega), if_neg (by omega), if_neg (by omega), if_neg (by rintro (h | h); exact h hi; omega), if_neg hr, if_pos hk, if_pos h64]
    refine spec_g (bodyOf Tryz.f59) ([(9, ([], ordDef 0 9 ++ [⟨9, [], [10]⟩, ⟨10, [], []⟩, ⟨11, [0], []⟩] ++ ordDef 12 3))]) pMix Tryz.func59 Tryz.ntmps59 [.tmp 4, .tmp 5] ?_
    repeat' ((conv => whnf); first | refine Rng.g ?_ | fail)
    conv => whnf
    refine CallVC.mk [0, 1, 2, 3, 4, 5] _ _ _ rfl rfl rfl (c63) (fun r m' h' => ?_)
    obtain ⟨rfl, rfl⟩ := h'
    conv => whnf
    repeat' ((conv => whnf); first | rw [g6] | refine Br.t (fun h => ?_) | (refine Br.mk (fun h => ?_) (fun h => ?_) <;> first | (exfalso; omega; done) | (exfalso; simp at h; done) | skip))
    conv => whnf
    refine EndVC.mk _ rfl _ _ (AcR.err hM he (by decide)) ?_
    refine ⟨[some 0, none, some 2, none, none, none, some 1, some 3, some 4, some 5], rfl, rfl, ?_, ?_⟩ <;> repeat' (first | exact trivial | exact rfl | apply And.intro)
   ·have he : actE S a = 0 := by unfold actE; rw [if_neg (by omega), if_neg (by omega), if_neg (by omega), if_neg (by rintro (h | h); exact h hi; omega), if_neg hr, if_pos hk, if_neg h64]
    have hs : actS S a = { S with fl := S.fl ++ [(a.plate, a.place)], be := S.be.set a.plate.toNat (S.b a.plate ++ [(S.fl.length : Int)]) } := by unfold actS; rw [if_neg (by omega), if_neg (by omega), if_neg (by omega), if_pos hk]
    have hn : actN S a = S.fl.length := by unfold actN; rw [if_neg (by omega), if_neg (by omega), if_pos hk]
    have hsn := flA_snoc S.fl a.plate a.place
    have hb := hS.be a.plate.toNat (by omega)
    have hM' := hM.setI a.plate.toNat ((hM.2 a.plate.toNat (by omega)).put (n := (S.fl.length : Int)) (fun hc => by have := (hb.2 _ hc).2; omega))
    refine spec_g (bodyOf Tryz.f59) ([(9, ([], ordDef 0 9 ++ [⟨9, [], [10]⟩, ⟨10, [], []⟩, ⟨11, [0], []⟩] ++ ordDef 12 3))]) pMix Tryz.func59 Tryz.ntmps59 [.tmp 4, .tmp 5] ?_
    repeat' ((conv => whnf); first | refine Rng.g ?_ | fail)
    conv => whnf
    refine CallVC.mk [0, 1, 2, 3, 4, 5] _ _ _ rfl rfl rfl (c63) (fun r m' h' => ?_)
    obtain ⟨rfl, rfl⟩ := h'
    conv => whnf
    repeat' ((conv => whnf); first | rw [g6] | refine Br.f (fun h => ?_) | (refine Br.mk (fun h => ?_) (fun h => ?_) <;> first | (exfalso; omega; done) | (exfalso; simp at h; done) | skip))
    refine Ob.mk (by rw [eb120]; simp only [List.length_cons, List.length_nil]; omega) ?_
    repeat' ((conv => whnf); rw [hsn])
    conv => whnf
    refine EndVC.mk _ rfl _ _ (AcR.ok he hs hM' hn) ?_
    refine ⟨[some 0, none, some 2, none, none, none, some 1, some 3, some 8, some 5], rfl, rfl, ?_, ?_⟩ <;> repeat' (first | exact trivial | exact rfl | apply And.intro)
    all_goals first
     | exact hsn
     | omega
     | rw [hl]
 ·have he : actE S a = 5 := by unfold actE; rw [if_neg (by omega), if_neg (by omega), if_neg (by omega), if_pos (.inl hi)]
  rw [getR, if_neg hi] at c63
  refine spec_g (bodyOf Tryz.f59) ([(9, ([], ordDef 0 9 ++ [⟨9, [], [10]⟩, ⟨10, [], []⟩, ⟨11, [0], []⟩] ++ ordDef 12 3))]) pMix Tryz.func59 Tryz.ntmps59 [.tmp 4, .tmp 5] ?_
  repeat' ((conv => whnf); first | refine Rng.g ?_ | fail)
  conv => whnf
  refine CallVC.mk [0, 1, 2, 3, 4, 5] _ _ _ rfl rfl rfl (c63) (fun r m' h' => ?_)
  obtain ⟨rfl, rfl⟩ := h'
  conv => whnf
  repeat' ((conv => whnf); first | (refine Br.mk (fun h => ?_) (fun h => ?_) <;> first | (exfalso; omega; done) | (exfalso; simp at h; done) | skip))
  conv => whnf
  refine EndVC.mk _ rfl _ _ (AcR.err hM he (by decide)) ?_
  exact Le.g [some 0, none, some 2, none, none, none, some 1, some 3, some 4, some 5]
theorem s59 (S : Sho) (ms : List MS) (hS : ShOK S) (hM : MsOK ms S.be) (a : Act2) (hk : a.kd = 5) : HSpec Tryz.prog 60 [.one (.ptr 0 0), a.x] (shM S ms) (AcR S a) := by
 have c63 := s63 S ms a.plate
 have hl := flA_len S.fl
 have hnb := hS.nb
 by_cases hi : inP S a.plate
 ·rw [getR, if_pos hi] at c63
  have g6 := pl_6 S.pl a.plate.toNat
  have hil : a.plate.toNat < S.pl.length := by unfold inP at hi; omega
  by_cases hf : a.flaw < 0 ∨ (S.fl.length : Int) ≤ a.flaw
  ·have he : actE S a = 5 := by unfold actE; rw [if_neg (by omega), if_neg (by omega), if_neg (by omega), if_pos (.inr ⟨hk, hf⟩)]
   refine spec_g (bodyOf Tryz.f60) ([(6, ([10], ordDef 0 11 ++ [⟨11, [9], []⟩, ⟨12, [], []⟩]))]) pMix Tryz.func60 Tryz.ntmps60 [.tmp 4, .tmp 5] ?_
   repeat' ((conv => whnf); first | refine Rng.g ?_ | fail)
   conv => whnf
   refine CallVC.mk [0, 1, 2, 3, 4, 5] _ _ _ rfl rfl rfl (c63) (fun r m' h' => ?_)
   obtain ⟨rfl, rfl⟩ := h'
   conv => whnf
   repeat' ((conv => whnf); first | refine Br.t (fun h => ?_) | (refine Br.mk (fun h => ?_) (fun h => ?_) <;> first | (exfalso; omega; done) | (exfalso; simp at h; done) | skip))
   all_goals
    conv => whnf
    refine EndVC.mk _ rfl _ _ (AcR.err hM he (by decide)) ?_
    exact Le.g [some 0, none, some 2, none, none, none, some 1, some 3, some 4, some 5]
  have hgo : ¬ (¬ inP S a.plate ∨ (a.kd = 5 ∧ (a.flaw < 0 ∨ (S.fl.length : Int) ≤ a.flaw))) := by rintro (h | h); exact h hi; exact hf h.2
  by_cases hr : (S.p a.plate).ret = true
  ·have he : actE S a = 10 := by unfold actE; rw [if_neg (by omega), if_neg (by omega), if_neg (by omega), if_neg hgo, if_pos hr]
   rw [show (S.pl.getD a.plate.toNat p0).ret = true from hr] at g6
   refine spec_g (bodyOf Tryz.f60) ([(6, ([10], ordDef 0 11 ++ [⟨11, [9], []⟩, ⟨12, [], []⟩]))]) pMix Tryz.func60 Tryz.ntmps60 [.tmp 4, .tmp 5] ?_
   repeat' ((conv => whnf); first | refine Rng.g ?_ | fail)
   conv => whnf
   refine CallVC.mk [0, 1, 2, 3, 4, 5] _ _ _ rfl rfl rfl (c63) (fun r m' h' => ?_)
   obtain ⟨rfl, rfl⟩ := h'
   conv => whnf
   repeat' ((conv => whnf); first | rw [g6] | refine Br.f (fun h => ?_) | (refine Br.mk (fun h => ?_) (fun h => ?_) <;> first | (exfalso; omega; done) | (exfalso; simp at h; done) | skip))
   conv => whnf
   refine EndVC.mk _ rfl _ _ (AcR.err hM he (by decide)) ?_
   refine ⟨[some 0, none, some 2, none, none, none, some 1, some 3, some 4, some 5], rfl, rfl, ?_, ?_⟩ <;> repeat' (first | exact trivial | exact rfl | apply And.intro)
  ·have hr' : (S.pl.getD a.plate.toNat p0).ret = false := Bool.eq_false_iff.2 hr
   rw [hr'] at g6
   have hm := hM.2 a.plate.toNat (by omega)
   have hmm : a.flaw ∈ (ms.getD a.plate.toNat ms0).ks ↔ a.flaw ∈ S.b a.plate := hm.mem a.flaw
   by_cases hb : a.flaw ∈ S.b a.plate
   ·have he : actE S a = 0 := by unfold actE; rw [if_neg (by omega), if_neg (by omega), if_neg (by omega), if_neg hgo, if_neg hr, if_neg (by omega), if_pos hk, if_pos hb]
    have hs : actS S a = { S with be := S.be.set a.plate.toNat ((S.b a.plate).filter fun x => decide (x ≠ a.flaw)) } := by unfold actS; rw [if_neg (by omega), if_neg (by omega), if_neg (by omega), if_neg (by omega), if_pos hk]
    have hn : actN S a = 0 := by unfold actN; rw [if_neg (by omega), if_neg (by omega), if_neg (by omega)]
    have hM' := hM.setI a.plate.toNat (hm.del a.flaw)
    have hb' := hmm.2 hb
    refine spec_g (bodyOf Tryz.f60) ([(6, ([10], ordDef 0 11 ++ [⟨11, [9], []⟩, ⟨12, [], []⟩]))]) pMix Tryz.func60 Tryz.ntmps60 [.tmp 4, .tmp 5] ?_
    repeat' ((conv => whnf); first | refine Rng.g ?_ | fail)
    conv => whnf
    refine CallVC.mk [0, 1, 2, 3, 4, 5] _ _ _ rfl rfl rfl (c63) (fun r m' h' => ?_)
    obtain ⟨rfl, rfl⟩ := h'
    conv => whnf
    repeat' ((conv => whnf); first | rw [g6] | refine Br.f (fun h => ?_) | (refine Br.mk (fun h => ?_) (fun h => ?_) <;> first | (exfalso; omega; done) | (exfalso; simp at h; done) | skip))
    ·exact absurd hb' h
    repeat' ((conv => whnf); first | refine Rng.g ?_ | fail)
    conv => whnf
    refine EndVC.mk _ rfl _ _ (AcR.ok he hs hM' hn) ?_
    refine ⟨[some 0, none, some 2, none, none, none, some 1, some 3, some 4, some 5], rfl, rfl, ?_, ?_⟩ <;> repeat' (first | exact trivial | exact rfl | apply And.intro)
   ·have he : actE S a = 19 := by unfold actE; rw [if_neg (by omega), if_neg (by omega), if_neg (by omega), if_neg hgo, if_neg hr, if_neg (by omega), if_pos hk, if_neg hb]
    have hb' := fun h => hb (hmm.1 h)
    refine spec_g (bodyOf Tryz.f60) ([(6, ([10], ordDef 0 11 ++ [⟨11, [9], []⟩, ⟨12, [], []⟩]))]) pMix Tryz.func60 Tryz.ntmps60 [.tmp 4, .tmp 5] ?_
    repeat' ((conv => whnf); first | refine Rng.g ?_ | fail)
    conv => whnf
    refine CallVC.mk [0, 1, 2, 3, 4, 5] _ _ _ rfl rfl rfl (c63) (fun r m' h' => ?_)
    obtain ⟨rfl, rfl⟩ := h'
    conv => whnf
    repeat' ((conv => whnf); first | rw [g6] | (refine Br.mk (fun h => ?_) (fun h => ?_) <;> first | (exfalso; omega; done) | (exfalso; simp at h; done) | skip))
    rotate_left
    ·exact absurd hb' h
    conv => whnf
    refine EndVC.mk _ rfl _ _ (AcR.err hM he (by decide)) ?_
    refine ⟨[some 0, none, some 2, none, none, none, some 1, some 3, some 4, some 5], rfl, rfl, ?_, ?_⟩ <;> repeat' (first | exact trivial | exact rfl | apply And.intro)
 ·have he : actE S a = 5 := by unfold actE; rw [if_neg (by omega), if_neg (by omega), if_neg (by omega), if_pos (.inl hi)]
  rw [getR, if_neg hi] at c63
  refine spec_g (bodyOf Tryz.f60) ([(6, ([10], ordDef 0 11 ++ [⟨11, [9], []⟩, ⟨12, [], []⟩]))]) pMix Tryz.func60 Tryz.ntmps60 [.tmp 4, .tmp 5] ?_
  repeat' ((conv => whnf); first | refine Rng.g ?_ | fail)
  conv => whnf
  refine CallVC.mk [0, 1, 2, 3, 4, 5] _ _ _ rfl rfl rfl (c63) (fun r m' h' => ?_)
  obtain ⟨rfl, rfl⟩ := h'
  conv => whnf
  repeat' ((conv => whnf); first | (refine Br.mk (fun h => ?_) (fun h => ?_) <;> first | (exfalso; omega; done) | (exfalso; simp at h; done) | skip))
  conv => whnf
  refine EndVC.mk _ rfl _ _ (AcR.err hM he (by decide)) ?_
  exact Le.g [some 0, none, some 2, none, none, none, some 1, some 3, some 4, some 5]
end Go.Sx.Pl

namespace Go.Sx.Pl
open Go Go.Proofs Go.Sx
set_option maxRecDepth 10000
set_option maxHeartbeats 8000000
theorem herE_0 {S : Sho} {a : Act2} (hS : ShOK S) (h : herE S a = 0) : inP S a.plate ∧ inT S a.bath ∧ (S.p a.plate).ret = false ∧ S.pl.length < 256 ∧ (S.p a.plate).kd ≤ 2 ∧ (S.p a.plate).grown < capP S.r (S.p a.plate).kd := by
 unfold herE at h
 split at h
 ·cases h
 rename_i h1
 split at h
 ·cases h
 rename_i h2
 split at h
 ·cases h
 rename_i h3
 have hi : inP S a.plate := Classical.byContradiction fun hc => h1 (.inl hc)
 have hi' := hi
 unfold inP at hi'
 have hp := hS.pl a.plate.toNat (by omega)
 have hr : (S.p a.plate).ret = false := Bool.eq_false_iff.2 h2
 have hk := hp.kd
 have hg := hp.grown
 have h5 : roomP S.r (S.p a.plate) = max 0 (capP S.r (S.p a.plate).kd - (S.p a.plate).grown) := by unfold roomP; rw [hr]; rfl
 have h6 : (S.p a.plate).grown < capP S.r (S.p a.plate).kd := by omega
 refine ⟨hi, ⟨by omega, by omega⟩, hr, by omega, ?_, h6⟩
 have hk : 0 ≤ (S.p a.plate).kd ∧ (S.p a.plate).kd ≤ 3 := hk
 have hg : 0 ≤ (S.p a.plate).grown := hg.1
 rcases (show (S.p a.plate).kd ≤ 2 ∨ (S.p a.plate).kd = 3 by omega) with h | h
 ·exact h
 ·rw [h] at h6
  have : capP S.r 3 = 0 := rfl
  omega
theorem getD_set {α : Type} (l : List α) (i j : Nat) (a d : α) : (l.set i a).getD j d = if i = j ∧ j < l.length then a else l.getD j d := by
 rw [List.getD_eq_getElem?_getD, List.getD_eq_getElem?_getD, List.getElem?_set]
 by_cases h : i = j
 ·subst h
  by_cases h2 : i < l.length
  ·simp [h2]
  ·simp [h2]
 ·simp [h]
theorem getD_app {α : Type} (l : List α) (i : Nat) (a d : α) : (l ++ [a]).getD i d = if i < l.length then l.getD i d else if i = l.length then a else d := by
 rw [List.getD_eq_getElem?_getD, List.getD_eq_getElem?_getD]
 by_cases h : i < l.length
 ·rw [if_pos h, List.getElem?_append_left h]
 ·rw [if_neg h]
  by_cases h2 : i = l.length
  ·subst h2; simp
  ·rw [if_neg h2, List.getElem?_append_right (by omega), List.getElem?_eq_none (by simp; omega)]; rfl
theorem nodup_le {α : Type} [DecidableEq α] : ∀ (l m : List α), l.Nodup → (∀ x ∈ l, x ∈ m) → l.length ≤ m.length
 | [], _, _, _ => Nat.zero_le _
 | x :: l, m, h, hs => by
  obtain ⟨h1, h2⟩ := List.nodup_cons.1 h
  have hx := hs x (.head _)
  have := nodup_le l (m.erase x) h2 (fun y hy => (List.mem_erase_of_ne (by rintro rfl; exact h1 hy)).2 (hs y (.tail _ hy)))
  rw [List.length_erase_of_mem hx] at this
  have hp : 0 < m.length := List.length_pos_of_mem hx
  simp
  omega
theorem es_uniq : ∀ {es : List (Int × Nat)}, (es.map (·.1)).Nodup → ∀ {k : Int} {b b' : Nat}, (k, b) ∈ es → (k, b') ∈ es → b = b'
 | [], _, k, b, b', h, _ => by simp at h
 | e :: es, hn, k, b, b', h1, h2 => by
  simp only [List.map_cons, List.nodup_cons] at hn
  rcases List.mem_cons.1 h1 with q1 | q1 <;> rcases List.mem_cons.1 h2 with q2 | q2
  ·rw [← q1] at q2; cases q2; rfl
  ·exact (hn.1 (List.mem_map.2 ⟨_, q2, by rw [← q1]⟩)).elim
  ·exact (hn.1 (List.mem_map.2 ⟨_, q1, by rw [← q2]⟩)).elim
  ·exact es_uniq hn.2 q1 q2
theorem es_uniq2 : ∀ {es : List (Int × Nat)}, (es.map (·.2)).Nodup → ∀ {k k' : Int} {b : Nat}, (k, b) ∈ es → (k', b) ∈ es → k = k'
 | [], _, k, b, b', h, _ => by simp at h
 | e :: es, hn, k, k', b, h1, h2 => by
  simp only [List.map_cons, List.nodup_cons] at hn
  rcases List.mem_cons.1 h1 with q1 | q1 <;> rcases List.mem_cons.1 h2 with q2 | q2
  ·rw [← q1] at q2; cases q2; rfl
  ·exact (hn.1 (List.mem_map.2 ⟨_, q2, by rw [← q1]⟩)).elim
  ·exact (hn.1 (List.mem_map.2 ⟨_, q1, by rw [← q2]⟩)).elim
  ·exact es_uniq2 hn.2 q1 q2
structure CopyI (m : MS) (seen : List Nat) (m' : MS) : Prop where
 sub : ∀ b ∈ seen, ∃ k, (k, b) ∈ m.es
 nds : seen.Nodup
 ks : ∀ k, k ∈ m'.ks ↔ ∃ b ∈ seen, (k, b) ∈ m.es
 nd : m'.ks.Nodup
 st : ∀ e ∈ m'.es, e.2 < m'.c
@[reducible] def mE (c : Nat) : MS := ⟨[], c⟩
theorem CopyI.nil (m : MS) (c : Nat) : CopyI m [] ⟨[], c⟩ := ⟨fun b hb => by simp at hb, by simp, fun k => by simp [MS.ks], by simp [MS.ks], fun e he => by simp at he⟩
theorem CopyI.len {m : MS} {seen : List Nat} {m' : MS} (h : CopyI m seen m') : seen.length ≤ m.es.length := by
 have := nodup_le seen (m.es.map (·.2)) h.nds (fun b hb => by
  obtain ⟨k, hk⟩ := h.sub b hb
  exact List.mem_map.2 ⟨_, hk, rfl⟩)
 simpa using this
theorem CopyI.step {m : MS} {seen : List Nat} {m' : MS} (h : CopyI m seen m') (hn : m.ks.Nodup) (hs : (m.es.map (·.2)).Nodup) {k : Int} {b : Nat} (hk : (k, b) ∈ m.es) (hb : b ∉ seen) : CopyI m (seen ++ [b]) (m'.put k) := by
 have hkn : k ∉ m'.ks := fun hc => by
  obtain ⟨b', h1, h2⟩ := (h.ks k).1 hc
  exact hb (es_uniq hn hk h2 ▸ h1)
 have e : m'.put k = ⟨m'.es ++ [(k, m'.c)], m'.c + 1⟩ := by unfold MS.put; rw [if_neg hkn]
 have ek : (m'.put k).ks = m'.ks ++ [k] := by rw [e]; simp [MS.ks]
 refine ⟨fun b' hb' => ?_, ?_, fun k' => ?_, ?_, fun q hq => ?_⟩
 ·rcases List.mem_append.1 hb' with h1 | h1
  ·exact h.sub b' h1
  ·rw [List.mem_singleton.1 h1]; exact ⟨k, hk⟩
 ·exact List.nodup_append.2 ⟨h.nds, by simp, fun x hx y hy => by simp at hy; subst hy; rintro rfl; exact hb hx⟩
 ·rw [ek, List.mem_append, List.mem_singleton, h.ks]
  constructor
  ·rintro (⟨b', h1, h2⟩ | rfl)
   ·exact ⟨b', List.mem_append_left _ h1, h2⟩
   ·exact ⟨b, by simp, hk⟩
  ·rintro ⟨b', h1, h2⟩
   rcases List.mem_append.1 h1 with h1 | h1
   ·exact .inl ⟨b', h1, h2⟩
   ·obtain rfl := List.mem_singleton.1 h1
    exact .inr (es_uniq2 hs h2 hk)
 ·rw [ek]
  exact List.nodup_append.2 ⟨h.nd, by simp, fun x hx y hy => by simp at hy; subst hy; rintro rfl; exact hkn hx⟩
 ·rw [e] at hq ⊢
  simp only [List.mem_append, List.mem_singleton] at hq
  rcases hq with hq | rfl
  ·exact Nat.lt_succ_of_lt (h.st q hq)
  ·exact Nat.lt_succ_self _
theorem CopyI.done {m : MS} {seen : List Nat} {m' : MS} {l : List Int} (h : CopyI m seen m') (hm : SetOK m l) (ho : ∀ e ∈ m.es, e.2 ∈ seen) : SetOK m' l := by
 refine ⟨fun k => ?_, h.nd, h.st⟩
 rw [h.ks, ← hm.mem]
 constructor
 ·rintro ⟨b, _, h2⟩
  exact List.mem_map.2 ⟨_, h2, rfl⟩
 ·intro hk
  obtain ⟨e, he, rfl⟩ := List.mem_map.1 hk
  exact ⟨e.2, ho e he, he⟩
theorem s57 (S : Sho) (ms : List MS) (hS : ShOK S) (hM : MsOK ms S.be) (a : Act2) (ha : GroOK a) (hk : a.kd = 3) : HSpec Tryz.prog 58 [.one (.ptr 0 0), a.x] (shM S ms) (AcR S a) := by
 have c62 := s62 S ms hS a ha
 have hA : actE S a = groE S a := by unfold actE; rw [if_neg (by omega), if_neg (by omega), if_pos hk]
 by_cases h1 : herE S a = 0
 rotate_left
 ·have he : actE S a = herE S a := by rw [hA, groE, if_pos h1]
  refine spec_g (bodyOf Tryz.f58) ([(7, ([14], [⟨0, [], []⟩, ⟨1, [], []⟩] ++ ordDef 3 10 ++ [⟨2, [3, 4, 5, 6, 7, 8, 9, 10, 11, 12], []⟩, ⟨13, [3, 4, 5, 6, 7, 8, 9], []⟩, ⟨14, [], []⟩, ⟨15, [3, 4, 5, 6, 7, 8, 9], []⟩, ⟨16, [], []⟩, ⟨17, [], []⟩])), (8, ([], ordDef 0 26 ++ [⟨26, [1, 2, 14, 15, 16, 21, 22, 23], []⟩, ⟨27, [], []⟩, ⟨28, [], []⟩, ⟨29, [2, 21, 22, 23], []⟩] ++ ordDef 30 3))]) pMix Tryz.func58 Tryz.ntmps58 [.tmp 4, .tmp 5] ?_
  repeat' ((conv => whnf); first | refine Rng.g ?_ | fail)
  conv => whnf
  refine CallVC.mk [0, 1, 2, 3, 4, 5] _ _ _ rfl rfl rfl (c62) (fun r m' h' => ?_)
  obtain ⟨rfl, rfl⟩ := h'
  conv => whnf
  repeat' ((conv => whnf); refine Br.t (fun h => ?_))
  conv => whnf
  refine EndVC.mk _ rfl _ _ (AcR.err hM he h1) ?_
  exact Le.g [some 0, none, some 2, none, none, none, some 1, some 3, some 4, some 5]
 obtain ⟨hi, hb, hret, h256, hkd, hcap⟩ := herE_0 hS h1
 have c65 := s65 S ms hS a ha hi hb hkd
 rw [h1] at c62
 by_cases h2 : layE S a = 0
 rotate_left
 ·have he : actE S a = layE S a := by rw [hA, groE, if_neg (by omega)]
  rw [if_neg h2] at c65
  refine spec_g (bodyOf Tryz.f58) ([(7, ([14], [⟨0, [], []⟩, ⟨1, [], []⟩] ++ ordDef 3 10 ++ [⟨2, [3, 4, 5, 6, 7, 8, 9, 10, 11, 12], []⟩, ⟨13, [3, 4, 5, 6, 7, 8, 9], []⟩, ⟨14, [], []⟩, ⟨15, [3, 4, 5, 6, 7, 8, 9], []⟩, ⟨16, [], []⟩, ⟨17, [], []⟩])), (8, ([], ordDef 0 26 ++ [⟨26, [1, 2, 14, 15, 16, 21, 22, 23], []⟩, ⟨27, [], []⟩, ⟨28, [], []⟩, ⟨29, [2, 21, 22, 23], []⟩] ++ ordDef 30 3))]) pMix Tryz.func58 Tryz.ntmps58 [.tmp 4, .tmp 5] ?_
  repeat' ((conv => whnf); first | refine Rng.g ?_ | fail)
  conv => whnf
  refine CallVC.mk [0, 1, 2, 3, 4, 5] _ _ _ rfl rfl rfl (c62) (fun r m' h' => ?_)
  obtain ⟨rfl, rfl⟩ := h'
  conv => whnf
  repeat' ((conv => whnf); refine Br.f (fun h => ?_))
  conv => whnf
  refine CallVC.mk [0, 1, 2, 3, 4, 5] _ _ _ rfl rfl rfl (c65) (fun r m' h' => ?_)
  obtain ⟨rfl, rfl⟩ := h'
  conv => whnf
  repeat' ((conv => whnf); refine Br.t (fun h => ?_))
  conv => whnf
  refine EndVC.mk _ rfl _ _ (AcR.err hM he h2) ?_
  exact Le.g [some 0, none, some 2, none, none, none, some 1, some 3, some 4, some 5]
 have he : actE S a = 0 := by rw [hA, groE, if_neg (by omega), h2]
 rw [if_pos h2, h2] at c65
 have c63 := s63 S ms a.plate
 rw [getR, if_pos hi] at c63
 have c64 := s64 S ms hS a ha hb
 have hB := thkB S hS a ha hi hb
 obtain ⟨b1, b2, b3, b4⟩ := hB
 have hb' := hb
 have hi' := hi
 obtain ⟨hb1, hb2⟩ := hb'
 unfold inP at hi'
 obtain ⟨hi1, hi2⟩ := hi'
 have lt := tkA_len S.tk
 have htk := hS.tk a.bath.toNat (by omega)
 have hp := hS.pl a.plate.toNat (by omega)
 have hkd0 : 0 ≤ (S.p a.plate).kd := hp.kd.1
 have hst : 0 ≤ (S.t a.bath).st ∧ (S.t a.bath).st ≤ 1099511627776 := htk.1
 have hld : 0 ≤ (S.t a.bath).ld ∧ (S.t a.bath).ld + (S.t a.bath).st ≤ 1099511627776 := htk.2.2.1
 have hch : 0 ≤ (S.t a.bath).ch ∧ (S.t a.bath).ch ≤ 2199023255552 * (S.ac.length : Int) := htk.2.2.2
 have hac := hS.na
 have hg1 := mulB ha.s0 ha.s1
 have hg2 := mulB ha.cur ha.sec
 have hchg : 0 ≤ chgM a ∧ chgM a ≤ 2199023255552 := by unfold chgM; omega
 have t0 : rI (tkA S.tk) a.bath.toNat 0 = (S.t a.bath).st := tk_0 S.tk a.bath.toNat
 have t2 : rI (tkA S.tk) a.bath.toNat ((0 + 1 + 1)) = (S.t a.bath).ch := tk_2 S.tk a.bath.toNat
 have t3 : rI (tkA S.tk) a.bath.toNat ((0 + 1 + 1 + 1)) = (S.t a.bath).ld := tk_3 S.tk a.bath.toNat
 have g0 : rI (plA S.pl) a.plate.toNat 0 = (S.p a.plate).kd := pl_0 S.pl a.plate.toNat
 have g2 : rI (plA S.pl) a.plate.toNat ((0 + 1 + 1)) = (S.p a.plate).cut := pl_2 S.pl a.plate.toNat
 have g3 : rI (plA S.pl) a.plate.toNat ((0 + 1 + 1 + 1)) = (S.p a.plate).area := pl_3 S.pl a.plate.toNat
 have hbl : a.bath.toNat < S.tk.length := by omega
 let x1 : Tk := ⟨(S.t a.bath).st - allM S a, (S.t a.bath).yd, (S.t a.bath).ch, (S.t a.bath).ld⟩
 let x2 : Tk := ⟨(S.t a.bath).st - allM S a, (S.t a.bath).yd, (S.t a.bath).ch, (S.t a.bath).ld + allM S a⟩
 have u0 : updRow (tkA S.tk) a.bath.toNat 0 [.int ((S.t a.bath).st - allM S a)] = tkA (S.tk.set a.bath.toNat x1) := A_upd tkC S.tk a.bath.toNat tk0 hbl rfl
 have e1 : (S.tk.set a.bath.toNat x1).getD a.bath.toNat tk0 = x1 := by rw [getD_set, if_pos ⟨rfl, hbl⟩]
 have e2 : (S.tk.set a.bath.toNat x2).getD a.bath.toNat tk0 = x2 := by rw [getD_set, if_pos ⟨rfl, hbl⟩]
 have u1 : updRow (tkA (S.tk.set a.bath.toNat x1)) a.bath.toNat ((0 + 1 + 1 + 1)) [.int ((S.t a.bath).ld + allM S a)] = tkA (S.tk.set a.bath.toNat x2) := by
  have := A_upd tkC (S.tk.set a.bath.toNat x1) a.bath.toNat tk0 (by rw [List.length_set]; exact hbl) (f := (0 + 1 + 1 + 1)) (cs := [.int ((S.t a.bath).ld + allM S a)]) (p := x2) (by rw [e1]; rfl)
  rwa [List.set_set] at this
 have u2 : updRow (tkA (S.tk.set a.bath.toNat x2)) a.bath.toNat ((0 + 1 + 1)) [.int ((S.t a.bath).ch + chgM a)] = tkA (S.tk.set a.bath.toNat (newT S a)) := by
  have := A_upd tkC (S.tk.set a.bath.toNat x2) a.bath.toNat tk0 (by rw [List.length_set]; exact hbl) (f := (0 + 1 + 1)) (cs := [.int ((S.t a.bath).ch + chgM a)]) (p := newT S a) (by rw [e2]; rfl)
  rwa [List.set_set] at this
 have l1 : (tkA (S.tk.set a.bath.toNat x1)).length = S.tk.length := by rw [tkA_len, List.length_set]
 have l2 : (tkA (S.tk.set a.bath.toNat x2)).length = S.tk.length := by rw [tkA_len, List.length_set]
 have l3 : (tkA (S.tk.set a.bath.toNat (newT S a))).length = S.tk.length := by rw [tkA_len, List.length_set]
 have c87 := s87 { S with tk := S.tk.set a.bath.toNat (newT S a) } ms (show S.pl.length ≤ 256 by omega) ((S.p a.plate).kd + 1) a.plate (S.p a.plate).cut (S.p a.plate).area (thkM S a)
 refine spec_g (bodyOf Tryz.f58) ([(7, ([14], [⟨0, [], []⟩, ⟨1, [], []⟩] ++ ordDef 3 10 ++ [⟨2, [3, 4, 5, 6, 7, 8, 9, 10, 11, 12], []⟩, ⟨13, [3, 4, 5, 6, 7, 8, 9], []⟩, ⟨14, [], []⟩, ⟨15, [3, 4, 5, 6, 7, 8, 9], []⟩, ⟨16, [], []⟩, ⟨17, [], []⟩])), (8, ([], ordDef 0 26 ++ [⟨26, [1, 2, 14, 15, 16, 21, 22, 23], []⟩, ⟨27, [], []⟩, ⟨28, [], []⟩, ⟨29, [2, 21, 22, 23], []⟩] ++ ordDef 30 3))]) pMix Tryz.func58 Tryz.ntmps58 [.tmp 4, .tmp 5] ?_
 repeat' ((conv => whnf); first | refine Rng.g ?_ | fail)
 conv => whnf
 refine CallVC.mk [0, 1, 2, 3, 4, 5] _ _ _ rfl rfl rfl (c62) (fun r m' h' => ?_)
 obtain ⟨rfl, rfl⟩ := h'
 conv => whnf
 repeat' ((conv => whnf); refine Br.f (fun h => ?_))
 conv => whnf
 refine CallVC.mk [0, 1, 2, 3, 4, 5] _ _ _ rfl rfl rfl (c65) (fun r m' h' => ?_)
 obtain ⟨rfl, rfl⟩ := h'
 conv => whnf
 repeat' ((conv => whnf); first | refine Ob.g ?_ | refine Br.f (fun h => ?_))
 conv => whnf
 refine CallVC0.same [0, 1, 2, 3, 4, 5] _ _ _ rfl rfl rfl rfl (c64) (fun r m' h' => (by obtain ⟨rfl, rfl⟩ := h'; rfl)) (fun r m' h' => ?_)
 obtain ⟨rfl, rfl⟩ := h'
 conv => whnf
 repeat' ((conv => whnf); first | refine Rng.g ?_ | fail)
 conv => whnf
 refine CallVC0.same [0, 1, 2, 3, 4, 5] _ _ _ rfl rfl rfl rfl (c63) (fun r m' h' => (by obtain ⟨rfl, rfl⟩ := h'; rfl)) (fun r m' h' => ?_)
 obtain ⟨rfl, rfl⟩ := h'
 conv => whnf
 repeat' ((conv => whnf); first | rw [u0] | rw [u1] | rw [u2] | rw [t0] | rw [t2] | rw [t3] | rw [g0] | rw [g2] | rw [g3] | refine Rng.g ?_ | refine Ob.g ?_ | fail)
 conv => whnf
 refine CallVC.mk [0, 1, 2, 3, 4, 5] _ _ _ rfl rfl rfl (c87) (fun r m' h' => ?_)
 obtain ⟨c, rfl, rfl⟩ := h'
 conv => whnf
 repeat' ((conv => whnf); first | refine Rng.g ?_ | fail)
 have hml : ms.length = S.pl.length := by rw [hM.1, hS.nb]
 have hm := hM.2 a.plate.toNat (by rw [hS.nb]; omega)
 have hX : ∀ m', ((ms ++ [mE c]).set S.pl.length m').getD a.plate.toNat ms0 = ms.getD a.plate.toNat ms0 := fun m' => by
  rw [getD_set, if_neg (by omega), getD_app, if_pos (by omega)]
 have hY : ∀ m', ((ms ++ [mE c]).set S.pl.length m').getD S.pl.length ms0 = m' := fun m' => by
  rw [getD_set, if_pos ⟨rfl, by simp [hml]⟩]
 have hZ : ∀ m' m'', ((ms ++ [mE c]).set S.pl.length m').set S.pl.length m'' = (ms ++ [mE c]).set S.pl.length m'' := fun m' m'' => List.set_set ..
 have hW : (ms ++ [mE c]) = (ms ++ [mE c]).set S.pl.length (mE c) := by
  rw [← hml, List.set_append_right _ _ (Nat.le_refl _)]; simp
 have hV : (ms ++ [mE c]).getD a.plate.toNat ms0 = ms.getD a.plate.toNat ms0 := by rw [getD_app, if_pos (by omega)]
 generalize hmm : ms.getD a.plate.toNat ms0 = m at *
 refine LoopVC.mk (fun n st => ∃ (seen : List Nat) (m' : MS) (cur : Option (Int × Nat × Nat)), CopyI m seen m' ∧ n = m.es.length - seen.length ∧ st = ⟨6, envA 135 [(0, .x (.one (.ptr 0 0))), (11, .x (.one (.pel 2 a.plate.toNat 0))), (12, .x (.one (.pel 2 S.pl.length 0))), (99, .x (.one (.ptr 9 0)))], [some (bSh 8 3 4 5 S.r), none, some (bFa (S.pl ++ [newP S a]) ((ms ++ [mE c]).set S.pl.length m')), some (bTk (S.tk.set a.bath.toNat (newT S a))), some (bFl S.fl), some (bAc S.ac), none, none, some (bPr (S.pl.length + 1)), some (.mit 2 a.plate.toNat m.c seen cur)]⟩) _ _ ⟨[], mE c, none, CopyI.nil m c, rfl, rfl⟩ ?_ ?_
 ·refine ⟨[some 0, none, some 2, some 3, some 4, some 5, none, none, some 8, some 9], rfl, rfl, ?_, ?_⟩ <;> repeat' (first | exact trivial | exact rfl | apply And.intro)
  all_goals first
   | exact hW
   | exact congrArg MS.c hV
 rintro n _ ⟨seen, m', cur, hI, hn, rfl⟩
 have hX' := hX m'
 have hY' := hY m'
 have hnk : m.ks.Nodup := hm.nd
 repeat' ((conv => whnf); rw [hX'])
 refine NextVC.mk ⟨hm.st, Nat.le_refl _⟩ (fun ho => ?_) (fun hs k b hkb hbs => ?_)
 rotate_left
 ·have hI' := hI.step hnk hs hkb hbs
  repeat' ((conv => whnf); first | rw [hX'] | refine Ob.g ?_ | fail)
  refine Back.mk (m.es.length - (seen ++ [b]).length) _ (by have := hI'.len; simp at this ⊢; omega) ⟨seen ++ [b], m'.put k, some (k, b, m.c), hI', rfl, rfl⟩ ?_
  refine ⟨[some 0, none, some 2, some 3, some 4, some 5, none, none, some 8, some 9], rfl, rfl, ?_, ?_⟩ <;> repeat' (first | exact trivial | exact rfl | apply And.intro)
  rw [hY']
  exact hZ m' _
 have hSO := hI.done hm ho
 have hG : (S.pl ++ [newP S a]).getD a.plate.toNat p0 = S.p a.plate := by rw [getD_app, if_pos (by omega)]; rfl
 have g5 : rI (plA (S.pl ++ [newP S a])) a.plate.toNat ((0 + 1 + 1 + 1 + 1 + 1)) = (S.p a.plate).grown := by rw [pl_5, hG]
 have hgb : 0 ≤ (S.p a.plate).grown ∧ (S.p a.plate).grown ≤ 16 := hp.grown
 have hpl : a.plate.toNat < (S.pl ++ [newP S a]).length := by simp; omega
 let y1 : Pl := ⟨(S.p a.plate).kd, (S.p a.plate).pa, (S.p a.plate).cut, (S.p a.plate).area, (S.p a.plate).thick, (S.p a.plate).grown + 1, (S.p a.plate).ret⟩
 have w1 : updRow (plA (S.pl ++ [newP S a])) a.plate.toNat ((0 + 1 + 1 + 1 + 1 + 1)) [.int ((S.p a.plate).grown + 1)] = plA ((S.pl ++ [newP S a]).set a.plate.toNat y1) := A_upd plC _ a.plate.toNat p0 hpl (by rw [hG]; rfl)
 have hG1 : ((S.pl ++ [newP S a]).set a.plate.toNat y1).getD a.plate.toNat p0 = y1 := by rw [getD_set, if_pos ⟨rfl, hpl⟩]
 have g0' : rI (plA ((S.pl ++ [newP S a]).set a.plate.toNat y1)) a.plate.toNat 0 = (S.p a.plate).kd := by rw [pl_0, hG1]
 have w2 : updRow (plA ((S.pl ++ [newP S a]).set a.plate.toNat y1)) a.plate.toNat ((0 + 1 + 1 + 1 + 1 + 1 + 1)) [.bool true] = plA ((S.pl ++ [newP S a]).set a.plate.toNat ⟨(S.p a.plate).kd, (S.p a.plate).pa, (S.p a.plate).cut, (S.p a.plate).area, (S.p a.plate).thick, (S.p a.plate).grown + 1, true⟩) := by
  have := A_upd plC ((S.pl ++ [newP S a]).set a.plate.toNat y1) a.plate.toNat p0 (by rw [List.length_set]; exact hpl) (f := (0 + 1 + 1 + 1 + 1 + 1 + 1)) (cs := [.bool true]) (p := ⟨(S.p a.plate).kd, (S.p a.plate).pa, (S.p a.plate).cut, (S.p a.plate).area, (S.p a.plate).thick, (S.p a.plate).grown + 1, true⟩) (by rw [hG1]; rfl)
  rwa [List.set_set] at this
 repeat' ((conv => whnf); first | rw [g5] | rw [w1] | rw [g0'] | rw [w2] | refine Rng.g ?_ | refine JoinVC.on ?_ | (refine Br.mk (fun h => ?_) (fun h => ?_) <;> first | (exfalso; omega; done) | (exfalso; simp at h; done) | skip))
 all_goals
  have hsP : ∀ y, oldP (S.p a.plate) = y → actS S a = { S with pl := (S.pl ++ [newP S a]).set a.plate.toNat y, be := S.be ++ [S.b a.plate], tk := S.tk.set a.bath.toNat (newT S a) } := fun y hy => by
   rw [← hy]; unfold actS; rw [if_neg (by omega), if_neg (by omega), if_pos hk]
  have hn : actN S a = ((S.pl.length + 1 : Nat) : Int) - 1 := by unfold actN; rw [if_pos (.inr hk)]; omega
  have hM' : MsOK ((ms ++ [mE c]).set S.pl.length m') (S.be ++ [S.b a.plate]) := by
   have := (hM.snoc c).setI S.pl.length hSO
   rw [← hS.nb] at this ⊢
   rwa [List.set_append_right _ _ (Nat.le_refl _), Nat.sub_self] at this
 ·have hs := hsP ⟨(S.p a.plate).kd, (S.p a.plate).pa, (S.p a.plate).cut, (S.p a.plate).area, (S.p a.plate).thick, (S.p a.plate).grown + 1, true⟩ (by unfold oldP; rw [decide_eq_true h])
  conv => whnf
  refine EndVC.mk _ rfl _ _ (AcR.ok he hs hM' hn) ?_
  refine ⟨[some 0, none, some 2, none, none, none, some 8, some 3, some 4, some 5], rfl, rfl, ?_, ?_⟩ <;> repeat' (first | exact trivial | exact rfl | apply And.intro)
  simp
 ·have hs := hsP y1 (by unfold oldP; rw [decide_eq_false h, ← hret])
  conv => whnf
  refine EndVC.mk _ rfl _ _ (AcR.ok he hs hM' hn) ?_
  refine ⟨[some 0, none, some 2, none, none, none, some 8, some 3, some 4, some 5], rfl, rfl, ?_, ?_⟩ <;> repeat' (first | exact trivial | exact rfl | apply And.intro)
  simp
end Go.Sx.Pl

namespace Go.Sx.Pl
open Go Go.Proofs Go.Sx
set_option maxRecDepth 10000
set_option maxHeartbeats 8000000
theorem actT_r (S : Sho) (a : Act2) : (actT S a).r = S.r := by unfold actT actS; (repeat' split) <;> rfl
theorem actT_ac (S : Sho) (a : Act2) : (actT S a).ac = S.ac := by unfold actT actS; (repeat' split) <;> rfl
theorem ActOK.kd {a : Act2} (h : ActOK a) : 1 ≤ a.kd ∧ a.kd ≤ 6 := by unfold ActOK at h; omega
theorem ActOK.gro {a : Act2} (h : ActOK a) (hk : a.kd = 3) : GroOK a := by
 unfold ActOK at h
 rcases h with h | h | h | h | h | h
 ·omega
 ·omega
 ·exact ⟨h.2.1, h.2.2.1, h.2.2.2.1, h.2.2.2.2⟩
 ·omega
 ·omega
 ·omega
def DoR (S : Sho) (a : Act2) (r : AV) (m' : List (Option Blk)) : Prop := ∃ ms', MsOK ms' (doS S a).be ∧ r = .tup [I (doN S a), I (doE S a)] ∧ m' = shO (doS S a) ms'
theorem DoR.ok {S : Sho} {a : Act2} {ms : List MS} (hE : doE S a = actE S a) (h0 : actE S a = 0) (hM : MsOK ms (actT S a).be) : DoR S a (.tup [I (actN S a), I 0]) (shO { actT S a with r := S.r, ac := S.ac ++ [a] } ms) := by
 have h1 : actT S a = actS S a := if_pos h0
 have h2 : doS S a = { actS S a with ac := S.ac ++ [a] } := if_pos (hE.trans h0)
 have h3 := actT_r S a
 rw [h1] at h3 hM
 refine ⟨ms, by rw [h2]; exact hM, by rw [doN, if_pos (hE.trans h0), hE, h0], ?_⟩
 rw [h2, h1, ← h3]
theorem DoR.err {S : Sho} {a : Act2} {ms : List MS} (hE : doE S a = actE S a) (h0 : actE S a ≠ 0) (hM : MsOK ms (actT S a).be) : DoR S a (.tup [I 0, I (actE S a)]) (shO { actT S a with r := S.r, ac := S.ac } ms) := by
 have h1 : actT S a = S := if_neg h0
 have h2 : doS S a = S := if_neg (by rw [hE]; exact h0)
 rw [h1] at hM ⊢
 exact ⟨ms, by rw [h2]; exact hM, by rw [doN, if_neg (by rw [hE]; exact h0), hE], by rw [h2]⟩
theorem s21_1 (S : Sho) (ms : List MS) (a : Act2) (ha : ActOK a) (hn : S.ac.length < 1000) (hk : a.kd = 1) (c : HSpec Tryz.prog 56 [.one (.ptr 0 0), a.x] (shM S ms) (AcR S a)) : HSpec Tryz.prog 40 [.one (.ptr 0 0), a.x] (shM S ms) (DoR S a) := by
 have hl := acA_len S.ac
 have c53 := s53 S ms
 have c54 := s54 a
 have hsn := acA_snoc S.ac a
 have hE : doE S a = actE S a := by unfold doE; rw [if_neg (by omega), if_pos ha]
 have hk' : a.kd.toNat = 1 := by omega
 refine spec_g (bodyOf Tryz.f40) ([(10, ([], ordDef 0 5 ++ [⟨5, [], [6]⟩, ⟨6, [], []⟩, ⟨7, [0], []⟩] ++ ordDef 8 3))]) pMix Tryz.func40 Tryz.ntmps40 [.tmp 4, .tmp 5] ?_
 repeat' ((conv => whnf); first | refine Rng.g ?_ | fail)
 conv => whnf
 refine CallVC.mk [0, 1, 2, 3, 4, 5] _ _ _ rfl rfl rfl (c53) (fun r m' h' => ?_)
 obtain ⟨rfl, rfl⟩ := h'
 conv => whnf
 repeat' ((conv => whnf); first | refine Ob.g ?_ | refine CallVC.pure rfl (c54) ?_ | refine Br.f (fun h => ?_) | refine Br.mk (fun h => ?_) fun h => ?_)
 ·exact absurd ha h
 rw [hk']
 repeat' ((conv => whnf); first | refine Rng.g ?_ | fail)
 conv => whnf
 refine CallVC.mk [0, 1, 2, 3, 4, 5] _ _ _ rfl rfl rfl (c) (fun r m' h' => ?_)
 obtain ⟨ms', hM', rfl, rfl⟩ := h'
 conv => whnf
 rw [actT_r, actT_ac]
 by_cases h0 : actE S a = 0
 ·rw [if_pos h0, h0]
  repeat' ((conv => whnf); first | refine JoinVC.on ?_ | refine Br.t (fun h => ?_))
  refine Ob.mk (by rw [eb43]; simp only [List.length_cons, List.length_nil]; omega) ?_
  have hl2 := acA_len (S.ac ++ [a])
  rw [List.length_append, List.length_singleton] at hl2
  repeat' ((conv => whnf); rw [hsn])
  conv => whnf
  refine EndVC.mk _ rfl _ _ (DoR.ok hE h0 hM') ?_
  exact Le.g [some 0, none, some 2, none, none, none, some 8, some 9, some 10, some 13]
  all_goals first
   | exact hsn
   | omega
 ·rw [if_neg h0]
  repeat' ((conv => whnf); first | refine JoinVC.on ?_ | refine Br.f (fun h => ?_))
  conv => whnf
  refine EndVC.mk _ rfl _ _ (DoR.err hE h0 hM') ?_
  exact Le.g [some 0, none, some 2, none, none, none, some 8, some 9, some 10, some 11]
theorem s21_2 (S : Sho) (ms : List MS) (a : Act2) (ha : ActOK a) (hn : S.ac.length < 1000) (hk : a.kd = 2) (c : HSpec Tryz.prog 57 [.one (.ptr 0 0), a.x] (shM S ms) (AcR S a)) : HSpec Tryz.prog 40 [.one (.ptr 0 0), a.x] (shM S ms) (DoR S a) := by
 have hl := acA_len S.ac
 have c53 := s53 S ms
 have c54 := s54 a
 have hsn := acA_snoc S.ac a
 have hE : doE S a = actE S a := by unfold doE; rw [if_neg (by omega), if_pos ha]
 have hk' : a.kd.toNat = 2 := by omega
 refine spec_g (bodyOf Tryz.f40) ([(10, ([], ordDef 0 5 ++ [⟨5, [], [6]⟩, ⟨6, [], []⟩, ⟨7, [0], []⟩] ++ ordDef 8 3))]) pMix Tryz.func40 Tryz.ntmps40 [.tmp 4, .tmp 5] ?_
 repeat' ((conv => whnf); first | refine Rng.g ?_ | fail)
 conv => whnf
 refine CallVC.mk [0, 1, 2, 3, 4, 5] _ _ _ rfl rfl rfl (c53) (fun r m' h' => ?_)
 obtain ⟨rfl, rfl⟩ := h'
 conv => whnf
 repeat' ((conv => whnf); first | refine Ob.g ?_ | refine CallVC.pure rfl (c54) ?_ | refine Br.f (fun h => ?_) | refine Br.mk (fun h => ?_) fun h => ?_)
 ·exact absurd ha h
 rw [hk']
 repeat' ((conv => whnf); first | refine Rng.g ?_ | fail)
 conv => whnf
 refine CallVC.mk [0, 1, 2, 3, 4, 5] _ _ _ rfl rfl rfl (c) (fun r m' h' => ?_)
 obtain ⟨ms', hM', rfl, rfl⟩ := h'
 conv => whnf
 rw [actT_r, actT_ac]
 by_cases h0 : actE S a = 0
 ·rw [if_pos h0, h0]
  repeat' ((conv => whnf); first | refine JoinVC.on ?_ | refine Br.t (fun h => ?_))
  refine Ob.mk (by rw [eb43]; simp only [List.length_cons, List.length_nil]; omega) ?_
  have hl2 := acA_len (S.ac ++ [a])
  rw [List.length_append, List.length_singleton] at hl2
  repeat' ((conv => whnf); rw [hsn])
  conv => whnf
  refine EndVC.mk _ rfl _ _ (DoR.ok hE h0 hM') ?_
  exact Le.g [some 0, none, some 2, none, none, none, some 8, some 9, some 10, some 13]
  all_goals first
   | exact hsn
   | omega
 ·rw [if_neg h0]
  repeat' ((conv => whnf); first | refine JoinVC.on ?_ | refine Br.f (fun h => ?_))
  conv => whnf
  refine EndVC.mk _ rfl _ _ (DoR.err hE h0 hM') ?_
  exact Le.g [some 0, none, some 2, none, none, none, some 8, some 9, some 10, some 11]
theorem s21_3 (S : Sho) (ms : List MS) (a : Act2) (ha : ActOK a) (hn : S.ac.length < 1000) (hk : a.kd = 3) (c : HSpec Tryz.prog 58 [.one (.ptr 0 0), a.x] (shM S ms) (AcR S a)) : HSpec Tryz.prog 40 [.one (.ptr 0 0), a.x] (shM S ms) (DoR S a) := by
 have hl := acA_len S.ac
 have c53 := s53 S ms
 have c54 := s54 a
 have hsn := acA_snoc S.ac a
 have hE : doE S a = actE S a := by unfold doE; rw [if_neg (by omega), if_pos ha]
 have hk' : a.kd.toNat = 3 := by omega
 refine spec_g (bodyOf Tryz.f40) ([(10, ([], ordDef 0 5 ++ [⟨5, [], [6]⟩, ⟨6, [], []⟩, ⟨7, [0], []⟩] ++ ordDef 8 3))]) pMix Tryz.func40 Tryz.ntmps40 [.tmp 4, .tmp 5] ?_
 repeat' ((conv => whnf); first | refine Rng.g ?_ | fail)
 conv => whnf
 refine CallVC.mk [0, 1, 2, 3, 4, 5] _ _ _ rfl rfl rfl (c53) (fun r m' h' => ?_)
 obtain ⟨rfl, rfl⟩ := h'
 conv => whnf
 repeat' ((conv => whnf); first | refine Ob.g ?_ | refine CallVC.pure rfl (c54) ?_ | refine Br.f (fun h => ?_) | refine Br.mk (fun h => ?_) fun h => ?_)
 ·exact absurd ha h
 rw [hk']
 repeat' ((conv => whnf); first | refine Rng.g ?_ | fail)
 conv => whnf
 refine CallVC.mk [0, 1, 2, 3, 4, 5] _ _ _ rfl rfl rfl (c) (fun r m' h' => ?_)
 obtain ⟨ms', hM', rfl, rfl⟩ := h'
 conv => whnf
 rw [actT_r, actT_ac]
 by_cases h0 : actE S a = 0
 ·rw [if_pos h0, h0]
  repeat' ((conv => whnf); first | refine JoinVC.on ?_ | refine Br.t (fun h => ?_))
  refine Ob.mk (by rw [eb43]; simp only [List.length_cons, List.length_nil]; omega) ?_
  have hl2 := acA_len (S.ac ++ [a])
  rw [List.length_append, List.length_singleton] at hl2
  repeat' ((conv => whnf); rw [hsn])
  conv => whnf
  refine EndVC.mk _ rfl _ _ (DoR.ok hE h0 hM') ?_
  exact Le.g [some 0, none, some 2, none, none, none, some 8, some 9, some 10, some 13]
  all_goals first
   | exact hsn
   | omega
 ·rw [if_neg h0]
  repeat' ((conv => whnf); first | refine JoinVC.on ?_ | refine Br.f (fun h => ?_))
  conv => whnf
  refine EndVC.mk _ rfl _ _ (DoR.err hE h0 hM') ?_
  exact Le.g [some 0, none, some 2, none, none, none, some 8, some 9, some 10, some 11]
theorem s21_4 (S : Sho) (ms : List MS) (a : Act2) (ha : ActOK a) (hn : S.ac.length < 1000) (hk : a.kd = 4) (c : HSpec Tryz.prog 59 [.one (.ptr 0 0), a.x] (shM S ms) (AcR S a)) : HSpec Tryz.prog 40 [.one (.ptr 0 0), a.x] (shM S ms) (DoR S a) := by
 have hl := acA_len S.ac
 have c53 := s53 S ms
 have c54 := s54 a
 have hsn := acA_snoc S.ac a
 have hE : doE S a = actE S a := by unfold doE; rw [if_neg (by omega), if_pos ha]
 have hk' : a.kd.toNat = 4 := by omega
 refine spec_g (bodyOf Tryz.f40) ([(10, ([], ordDef 0 5 ++ [⟨5, [], [6]⟩, ⟨6, [], []⟩, ⟨7, [0], []⟩] ++ ordDef 8 3))]) pMix Tryz.func40 Tryz.ntmps40 [.tmp 4, .tmp 5] ?_
 repeat' ((conv => whnf); first | refine Rng.g ?_ | fail)
 conv => whnf
 refine CallVC.mk [0, 1, 2, 3, 4, 5] _ _ _ rfl rfl rfl (c53) (fun r m' h' => ?_)
 obtain ⟨rfl, rfl⟩ := h'
 conv => whnf
 repeat' ((conv => whnf); first | refine Ob.g ?_ | refine CallVC.pure rfl (c54) ?_ | refine Br.f (fun h => ?_) | refine Br.mk (fun h => ?_) fun h => ?_)
 ·exact absurd ha h
 rw [hk']
 repeat' ((conv => whnf); first | refine Rng.g ?_ | fail)
 conv => whnf
 refine CallVC.mk [0, 1, 2, 3, 4, 5] _ _ _ rfl rfl rfl (c) (fun r m' h' => ?_)
 obtain ⟨ms', hM', rfl, rfl⟩ := h'
 conv => whnf
 rw [actT_r, actT_ac]
 by_cases h0 : actE S a = 0
 ·rw [if_pos h0, h0]
  repeat' ((conv => whnf); first | refine JoinVC.on ?_ | refine Br.t (fun h => ?_))
  refine Ob.mk (by rw [eb43]; simp only [List.length_cons, List.length_nil]; omega) ?_
  have hl2 := acA_len (S.ac ++ [a])
  rw [List.length_append, List.length_singleton] at hl2
  repeat' ((conv => whnf); rw [hsn])
  conv => whnf
  refine EndVC.mk _ rfl _ _ (DoR.ok hE h0 hM') ?_
  exact Le.g [some 0, none, some 2, none, none, none, some 8, some 9, some 10, some 13]
  all_goals first
   | exact hsn
   | omega
 ·rw [if_neg h0]
  repeat' ((conv => whnf); first | refine JoinVC.on ?_ | refine Br.f (fun h => ?_))
  conv => whnf
  refine EndVC.mk _ rfl _ _ (DoR.err hE h0 hM') ?_
  exact Le.g [some 0, none, some 2, none, none, none, some 8, some 9, some 10, some 11]
theorem s21_5 (S : Sho) (ms : List MS) (a : Act2) (ha : ActOK a) (hn : S.ac.length < 1000) (hk : a.kd = 5) (c : HSpec Tryz.prog 60 [.one (.ptr 0 0), a.x] (shM S ms) (AcR S a)) : HSpec Tryz.prog 40 [.one (.ptr 0 0), a.x] (shM S ms) (DoR S a) := by
 have hl := acA_len S.ac
 have c53 := s53 S ms
 have c54 := s54 a
 have hsn := acA_snoc S.ac a
 have hE : doE S a = actE S a := by unfold doE; rw [if_neg (by omega), if_pos ha]
 have hk' : a.kd.toNat = 5 := by omega
 refine spec_g (bodyOf Tryz.f40) ([(10, ([], ordDef 0 5 ++ [⟨5, [], [6]⟩, ⟨6, [], []⟩, ⟨7, [0], []⟩] ++ ordDef 8 3))]) pMix Tryz.func40 Tryz.ntmps40 [.tmp 4, .tmp 5] ?_
 repeat' ((conv => whnf); first | refine Rng.g ?_ | fail)
 conv => whnf
 refine CallVC.mk [0, 1, 2, 3, 4, 5] _ _ _ rfl rfl rfl (c53) (fun r m' h' => ?_)
 obtain ⟨rfl, rfl⟩ := h'
 conv => whnf
 repeat' ((conv => whnf); first | refine Ob.g ?_ | refine CallVC.pure rfl (c54) ?_ | refine Br.f (fun h => ?_) | refine Br.mk (fun h => ?_) fun h => ?_)
 ·exact absurd ha h
 rw [hk']
 repeat' ((conv => whnf); first | refine Rng.g ?_ | fail)
 conv => whnf
 refine CallVC.mk [0, 1, 2, 3, 4, 5] _ _ _ rfl rfl rfl (c) (fun r m' h' => ?_)
 obtain ⟨ms', hM', rfl, rfl⟩ := h'
 conv => whnf
 rw [actT_r, actT_ac]
 by_cases h0 : actE S a = 0
 ·rw [if_pos h0, h0]
  repeat' ((conv => whnf); first | refine JoinVC.on ?_ | refine Br.t (fun h => ?_))
  refine Ob.mk (by rw [eb43]; simp only [List.length_cons, List.length_nil]; omega) ?_
  have hl2 := acA_len (S.ac ++ [a])
  rw [List.length_append, List.length_singleton] at hl2
  repeat' ((conv => whnf); rw [hsn])
  conv => whnf
  refine EndVC.mk _ rfl _ _ (DoR.ok hE h0 hM') ?_
  exact Le.g [some 0, none, some 2, none, none, none, some 8, some 9, some 10, some 13]
  all_goals first
   | exact hsn
   | omega
 ·rw [if_neg h0]
  repeat' ((conv => whnf); first | refine JoinVC.on ?_ | refine Br.f (fun h => ?_))
  conv => whnf
  refine EndVC.mk _ rfl _ _ (DoR.err hE h0 hM') ?_
  exact Le.g [some 0, none, some 2, none, none, none, some 8, some 9, some 10, some 11]
theorem s21_6 (S : Sho) (ms : List MS) (a : Act2) (ha : ActOK a) (hn : S.ac.length < 1000) (hk : a.kd = 6) (c : HSpec Tryz.prog 61 [.one (.ptr 0 0), a.x] (shM S ms) (AcR S a)) : HSpec Tryz.prog 40 [.one (.ptr 0 0), a.x] (shM S ms) (DoR S a) := by
 have hl := acA_len S.ac
 have c53 := s53 S ms
 have c54 := s54 a
 have hsn := acA_snoc S.ac a
 have hE : doE S a = actE S a := by unfold doE; rw [if_neg (by omega), if_pos ha]
 have hk' : a.kd.toNat = 6 := by omega
 refine spec_g (bodyOf Tryz.f40) ([(10, ([], ordDef 0 5 ++ [⟨5, [], [6]⟩, ⟨6, [], []⟩, ⟨7, [0], []⟩] ++ ordDef 8 3))]) pMix Tryz.func40 Tryz.ntmps40 [.tmp 4, .tmp 5] ?_
 repeat' ((conv => whnf); first | refine Rng.g ?_ | fail)
 conv => whnf
 refine CallVC.mk [0, 1, 2, 3, 4, 5] _ _ _ rfl rfl rfl (c53) (fun r m' h' => ?_)
 obtain ⟨rfl, rfl⟩ := h'
 conv => whnf
 repeat' ((conv => whnf); first | refine Ob.g ?_ | refine CallVC.pure rfl (c54) ?_ | refine Br.f (fun h => ?_) | refine Br.mk (fun h => ?_) fun h => ?_)
 ·exact absurd ha h
 rw [hk']
 repeat' ((conv => whnf); first | refine Rng.g ?_ | fail)
 conv => whnf
 refine CallVC.mk [0, 1, 2, 3, 4, 5] _ _ _ rfl rfl rfl (c) (fun r m' h' => ?_)
 obtain ⟨ms', hM', rfl, rfl⟩ := h'
 conv => whnf
 rw [actT_r, actT_ac]
 by_cases h0 : actE S a = 0
 ·rw [if_pos h0, h0]
  repeat' ((conv => whnf); first | refine JoinVC.on ?_ | refine Br.t (fun h => ?_))
  refine Ob.mk (by rw [eb43]; simp only [List.length_cons, List.length_nil]; omega) ?_
  have hl2 := acA_len (S.ac ++ [a])
  rw [List.length_append, List.length_singleton] at hl2
  repeat' ((conv => whnf); rw [hsn])
  conv => whnf
  refine EndVC.mk _ rfl _ _ (DoR.ok hE h0 hM') ?_
  exact Le.g [some 0, none, some 2, none, none, none, some 8, some 9, some 10, some 13]
  all_goals first
   | exact hsn
   | omega
 ·rw [if_neg h0]
  repeat' ((conv => whnf); first | refine JoinVC.on ?_ | refine Br.f (fun h => ?_))
  conv => whnf
  refine EndVC.mk _ rfl _ _ (DoR.err hE h0 hM') ?_
  exact Le.g [some 0, none, some 2, none, none, none, some 8, some 9, some 10, some 11]
theorem DoR.no {S : Sho} {a : Act2} {ms : List MS} {e : Int} (hE : doE S a = e) (h0 : e ≠ 0) (hM : MsOK ms S.be) : DoR S a (.tup [I 0, I e]) (shO S ms) := by
 subst hE
 have h2 : doS S a = S := if_neg h0
 exact ⟨ms, by rw [h2]; exact hM, by rw [doN, if_neg h0], by rw [h2]⟩
theorem s21 (S : Sho) (ms : List MS) (hS : ShOK S) (hM : MsOK ms S.be) (a : Act2) : HSpec Tryz.prog 40 [.one (.ptr 0 0), a.x] (shM S ms) (DoR S a) := by
 have hl := acA_len S.ac
 by_cases hn : 1000 ≤ S.ac.length
 ·have hE : doE S a = 6 := by unfold doE; rw [if_pos hn]
  have c53 := s53 S ms
  refine spec_g (bodyOf Tryz.f40) ([(10, ([], ordDef 0 5 ++ [⟨5, [], [6]⟩, ⟨6, [], []⟩, ⟨7, [0], []⟩] ++ ordDef 8 3))]) pMix Tryz.func40 Tryz.ntmps40 [.tmp 4, .tmp 5] ?_
  repeat' ((conv => whnf); first | refine Rng.g ?_ | fail)
  conv => whnf
  refine CallVC.mk [0, 1, 2, 3, 4, 5] _ _ _ rfl rfl rfl (c53) (fun r m' h' => ?_)
  obtain ⟨rfl, rfl⟩ := h'
  conv => whnf
  repeat' ((conv => whnf); refine Br.t (fun h => ?_))
  conv => whnf
  refine EndVC.mk _ rfl _ _ (DoR.no hE (by decide) hM) ?_
  exact Le.g [some 0, none, some 2, none, none, none, some 1, some 3, some 4, some 5]
 by_cases ha : ActOK a
 ·have hn' : S.ac.length < 1000 := by omega
  have hk := ha.kd
  rcases (show a.kd = 1 ∨ a.kd = 2 ∨ a.kd = 3 ∨ a.kd = 4 ∨ a.kd = 5 ∨ a.kd = 6 by omega) with h | h | h | h | h | h
  ·exact s21_1 S ms a ha hn' h (s55 S ms hM a h)
  ·exact s21_2 S ms a ha hn' h (s56 S ms hM a h)
  ·exact s21_3 S ms a ha hn' h (s57 S ms hS hM a (ha.gro h) h)
  ·exact s21_4 S ms a ha hn' h (s58 S ms hS hM a h)
  ·exact s21_5 S ms a ha hn' h (s59 S ms hS hM a h)
  ·exact s21_6 S ms a ha hn' h (s60 S ms hM a h)
 ·have hE : doE S a = 2 := by unfold doE; rw [if_neg hn, if_neg ha]
  have c53 := s53 S ms
  have c54 := s54 a
  refine spec_g (bodyOf Tryz.f40) ([(10, ([], ordDef 0 5 ++ [⟨5, [], [6]⟩, ⟨6, [], []⟩, ⟨7, [0], []⟩] ++ ordDef 8 3))]) pMix Tryz.func40 Tryz.ntmps40 [.tmp 4, .tmp 5] ?_
  repeat' ((conv => whnf); first | refine Rng.g ?_ | fail)
  conv => whnf
  refine CallVC.mk [0, 1, 2, 3, 4, 5] _ _ _ rfl rfl rfl (c53) (fun r m' h' => ?_)
  obtain ⟨rfl, rfl⟩ := h'
  conv => whnf
  repeat' ((conv => whnf); first | refine CallVC.pure rfl (c54) ?_ | (refine Br.mk (fun h => ?_) (fun h => ?_) <;> first | (exfalso; omega; done) | (exfalso; simp at h; done) | skip))
  ·conv => whnf
   refine EndVC.mk _ rfl _ _ (DoR.no hE (by decide) hM) ?_
   refine ⟨[some 0, none, some 2, none, none, none, some 1, some 3, some 4, some 5], rfl, rfl, ?_, ?_⟩ <;> repeat' (first | exact trivial | exact rfl | apply And.intro)
  ·exact absurd (Classical.not_not.1 ‹¬¬ActOK a›) ha
end Go.Sx.Pl

namespace Go.Sx.Pl
open Go Go.Proofs Go.Sx
set_option maxRecDepth 10000
set_option maxHeartbeats 4000000
theorem ShOK.doS {S : Sho} (hS : ShOK S) (a : Act2) : ShOK (doS S a) := by
 unfold Go.Sx.Pl.doS
 split
 case isFalse => exact hS
 rename_i hE
 unfold doE at hE
 split at hE
 ·cases hE
 rename_i hn
 split at hE
 case isFalse => cases hE
 rename_i ha
 have hk := ha.kd
 have hnb := hS.nb
 have hna := hS.na
 have hnp := hS.np
 have hnt := hS.nt
 have hnf := hS.nf
 have tkS : ∀ i, i < S.tk.length → (0 ≤ (S.tk.getD i tk0).st ∧ (S.tk.getD i tk0).st ≤ 1099511627776) ∧ (1 ≤ (S.tk.getD i tk0).yd ∧ (S.tk.getD i tk0).yd ≤ 1000) ∧ (0 ≤ (S.tk.getD i tk0).ld ∧ (S.tk.getD i tk0).ld + (S.tk.getD i tk0).st ≤ 1099511627776) ∧ 0 ≤ (S.tk.getD i tk0).ch ∧ (S.tk.getD i tk0).ch ≤ 2199023255552 * ((S.ac ++ [a]).length : Int) := fun i hi => by
  obtain ⟨h1, h2, h3, h4⟩ := hS.tk i hi
  refine ⟨h1, h2, h3, h4.1, ?_⟩
  simp only [List.length_append, List.length_singleton]
  omega
 have hac : (S.ac ++ [a]).length ≤ 1000 := by simp only [List.length_append, List.length_singleton]; omega
 have plS : ∀ (S' : Sho) i, i < S.pl.length → PlOK S' i (S.pl.getD i p0) := fun S' i hi => by
  have h := hS.pl i hi
  exact ⟨h.kd, h.pa, h.area, h.grown⟩
 rcases (show a.kd = 1 ∨ a.kd = 2 ∨ a.kd = 3 ∨ a.kd = 4 ∨ a.kd = 5 ∨ a.kd = 6 by omega) with h | h | h | h | h | h
 ·have hs : actS S a = { S with pl := S.pl ++ [⟨0, -1, a.cut, a.area, 0, 0, false⟩], be := S.be ++ [[]] } := by unfold actS; rw [if_pos h]
  have he : ¬ 256 ≤ S.pl.length := by
   unfold actE at hE
   rw [if_pos h] at hE
   intro hc
   rw [if_pos hc] at hE
   cases hE
  have hB : (0 ≤ a.cut ∧ a.cut ≤ 1099511627776) ∧ 1 ≤ a.area ∧ a.area ≤ 1048576 := by
   unfold ActOK at ha
   rcases ha with ha | ha | ha | ha | ha | ha
   ·exact ha.2
   all_goals omega
  rw [hs]
  refine ⟨hS.r, ?_, ?_, hnt, hnf, hac, fun i hi => ?_, tkS, fun i hi => ?_⟩
  ·simp [hnb]
  ·simp; omega
  ·dsimp only at hi ⊢
   simp only [List.length_append, List.length_singleton] at hi
   rw [getD_app]
   split
   ·exact plS _ i ‹_›
   ·rw [if_pos (by omega)]
    refine ⟨⟨?_, ?_⟩, ⟨?_, ?_⟩, hB.2, ?_, ?_⟩ <;> simp only [] <;> omega
  ·dsimp only at hi ⊢
   simp only [List.length_append, List.length_singleton] at hi
   rw [getD_app]
   split
   ·exact hS.be i ‹_›
   ·rw [if_pos (by omega)]
    exact ⟨by simp, fun k hk => by simp at hk⟩
 ·have hs : actS S a = { S with tk := S.tk ++ [⟨a.stock, a.yd, 0, 0⟩] } := by unfold actS; rw [if_neg (by omega), if_pos h]
  have he : ¬ 8 ≤ S.tk.length := by
   unfold actE at hE
   rw [if_neg (by omega), if_pos h] at hE
   intro hc
   rw [if_pos hc] at hE
   cases hE
  have hB : (0 ≤ a.stock ∧ a.stock ≤ 1099511627776) ∧ 1 ≤ a.yd ∧ a.yd ≤ 1000 := by
   unfold ActOK at ha
   rcases ha with ha | ha | ha | ha | ha | ha
   ·omega
   ·exact ha.2
   all_goals omega
  rw [hs]
  refine ⟨hS.r, hnb, hnp, ?_, hnf, hac, plS _, fun i hi => ?_, hS.be⟩
  ·simp; omega
  ·dsimp only at hi ⊢
   rw [List.length_append, List.length_singleton] at hi
   rw [getD_app]
   split
   ·exact tkS i ‹_›
   ·rw [if_pos (by omega)]
    exact ⟨hB.1, hB.2, ⟨Int.le_refl _, by simp only []; omega⟩, Int.le_refl _, by simp only [List.length_append, List.length_singleton]; omega⟩
 ·have hs : actS S a = { S with pl := (S.pl ++ [newP S a]).set a.plate.toNat (oldP (S.p a.plate)), be := S.be ++ [S.b a.plate], tk := S.tk.set a.bath.toNat (newT S a) } := by unfold actS; rw [if_neg (by omega), if_neg (by omega), if_pos h]
  have hG : groE S a = 0 := by unfold actE at hE; rwa [if_neg (by omega), if_neg (by omega), if_pos h] at hE
  have h1 : herE S a = 0 := by
   unfold groE at hG
   split at hG
   ·exact hG
   ·exact Classical.byContradiction ‹_›
  have h2 : layE S a = 0 := by unfold groE at hG; rwa [if_neg (by omega)] at hG
  have hst : ¬ (S.t a.bath).st < allM S a := by
   unfold layE at h2
   split at h2
   ·cases h2
   intro hc
   rw [if_pos hc] at h2
   cases h2
  obtain ⟨hi, hb, hret, h256, hkd, hcap⟩ := herE_0 hS h1
  have hg := ha.gro h
  have hgro := mulB hg.s0 hg.s1
  have hgr2 := mulB hg.cur hg.sec
  have hchg : 0 ≤ chgM a ∧ chgM a ≤ 2199023255552 := by unfold chgM; omega
  have hB := (thkB S hS a hg hi hb).2.1
  obtain ⟨hb1, hb2⟩ := hb
  unfold inP at hi
  obtain ⟨hi1, hi2⟩ := hi
  have hp : PlOK S a.plate.toNat (S.p a.plate) := hS.pl a.plate.toNat (by omega)
  have hk0 := hp.kd
  have har := hp.area
  have hg0 := hp.grown
  have hcl : capP S.r (S.p a.plate).kd ≤ 16 := by
   have := hS.r.mo
   have := hS.r.sp
   unfold capP
   split
   ·omega
   split
   ·omega
   split
   ·omega
   omega
  obtain ⟨q1, q2, q3, q4⟩ := hS.tk a.bath.toNat (by omega)
  have hlen : ((S.pl ++ [newP S a]).set a.plate.toNat (oldP (S.p a.plate))).length = S.pl.length + 1 := by simp
  rw [hs]
  refine ⟨hS.r, by dsimp only; rw [hlen]; simp [hnb], by dsimp only; rw [hlen]; omega, by dsimp only; rw [List.length_set]; exact hnt, hnf, hac, fun i hi => ?_, fun i hi => ?_, fun i hi => ?_⟩
  ·dsimp only at hi ⊢
   rw [hlen] at hi
   rw [getD_set]
   split
   ·rename_i hq
    obtain ⟨rfl, _⟩ := hq
    exact ⟨hp.kd, hp.pa, hp.area, by simp only [oldP]; omega, by simp only [oldP]; omega⟩
   rw [getD_app]
   split
   ·exact plS _ i ‹_›
   ·rw [if_pos (by omega)]
    exact ⟨by simp only [newP]; omega, by simp only [newP]; omega, har, by simp only [newP]; omega⟩
  ·dsimp only at hi ⊢
   rw [List.length_set] at hi
   rw [getD_set]
   split
   ·rename_i hq
    obtain ⟨rfl, _⟩ := hq
    have e : ((S.ac ++ [a]).length : Int) = (S.ac.length : Int) + 1 := by simp
    rw [e]
    have hst' : ¬ (S.tk.getD a.bath.toNat tk0).st < allM S a := hst
    refine ⟨⟨?_, ?_⟩, q2, ⟨?_, ?_⟩, ?_, ?_⟩ <;> simp only [newT, Sho.t] <;> omega
   ·exact tkS i hi
  ·dsimp only at hi ⊢
   simp only [List.length_append, List.length_singleton] at hi
   rw [getD_app]
   split
   ·exact hS.be i ‹_›
   ·rw [if_pos (by omega)]
    exact hS.be a.plate.toNat (by omega)
 all_goals
  have hi : inP S a.plate := by
   unfold actE at hE
   rw [if_neg (by omega), if_neg (by omega), if_neg (by omega)] at hE
   exact Classical.byContradiction fun hc => by rw [if_pos (.inl hc)] at hE; cases hE
  unfold inP at hi
 ·have hs : actS S a = { S with fl := S.fl ++ [(a.plate, a.place)], be := S.be.set a.plate.toNat (S.b a.plate ++ [(S.fl.length : Int)]) } := by unfold actS; rw [if_neg (by omega), if_neg (by omega), if_neg (by omega), if_pos h]
  have he : ¬ 64 ≤ S.fl.length := by
   unfold actE at hE
   rw [if_neg (by omega), if_neg (by omega), if_neg (by omega)] at hE
   split at hE
   ·cases hE
   split at hE
   ·cases hE
   intro hc
   rw [if_pos hc] at hE
   cases hE
  have hbe := hS.be a.plate.toNat (by omega)
  rw [hs]
  refine ⟨hS.r, by dsimp only; rw [List.length_set]; exact hnb, hnp, hnt, by simp; omega, hac, plS _, tkS, fun i hi => ?_⟩
  dsimp only at hi ⊢
  rw [List.length_set] at hi
  rw [getD_set, List.length_append, List.length_singleton]
  split
  ·rename_i hq
   obtain ⟨rfl, _⟩ := hq
   refine ⟨List.nodup_append.2 ⟨hbe.1, by simp, fun x hx y hy => ?_⟩, fun k hk => ?_⟩
   ·simp at hy
    have := (hbe.2 x hx).2
    omega
   ·rcases List.mem_append.1 hk with h' | h'
    ·have := hbe.2 k h'
     omega
    ·simp at h'
     omega
  ·refine ⟨(hS.be i hi).1, fun k hk => ?_⟩
   have := (hS.be i hi).2 k hk
   omega
 ·have hs : actS S a = { S with be := S.be.set a.plate.toNat ((S.b a.plate).filter fun x => decide (x ≠ a.flaw)) } := by unfold actS; rw [if_neg (by omega), if_neg (by omega), if_neg (by omega), if_neg (by omega), if_pos h]
  have hbe := hS.be a.plate.toNat (by omega)
  rw [hs]
  refine ⟨hS.r, by dsimp only; rw [List.length_set]; exact hnb, hnp, hnt, hnf, hac, plS _, tkS, fun i hi => ?_⟩
  dsimp only at hi ⊢
  rw [List.length_set] at hi
  rw [getD_set]
  split
  ·rename_i hq
   obtain ⟨rfl, _⟩ := hq
   exact ⟨hbe.1.sublist List.filter_sublist, fun k hk => hbe.2 k ((List.mem_filter.1 hk).1)⟩
  ·exact hS.be i hi
 ·have hs : actS S a = { S with pl := S.pl.set a.plate.toNat (retP (S.p a.plate)) } := by unfold actS; rw [if_neg (by omega), if_neg (by omega), if_neg (by omega), if_neg (by omega), if_neg (by omega)]
  rw [hs]
  refine ⟨hS.r, by dsimp only; rw [List.length_set]; exact hnb, by dsimp only; rw [List.length_set]; exact hnp, hnt, hnf, hac, fun i hi => ?_, tkS, hS.be⟩
  dsimp only at hi ⊢
  rw [List.length_set] at hi
  rw [getD_set]
  split
  ·rename_i hq
   obtain ⟨rfl, _⟩ := hq
   have hp := hS.pl a.plate.toNat hi
   exact ⟨hp.kd, hp.pa, hp.area, hp.grown⟩
  ·exact plS _ i hi
@[reducible] def shop0 (r : Rcp) : Sho := ⟨r, [], [], [], [], []⟩
theorem ShOK.new {r : Rcp} (h : RcpOK r) : ShOK (shop0 r) := ⟨h, rfl, Nat.zero_le _, Nat.zero_le _, Nat.zero_le _, Nat.zero_le _, fun i hi => by simp at hi, fun i hi => by simp at hi, fun i hi => by simp at hi⟩
theorem MsOK.new : MsOK [] [] := ⟨rfl, fun i hi => by simp at hi⟩
end Go.Sx.Pl

namespace Go.Sx.Pl
open Go Go.Proofs Go.Sx
set_option maxRecDepth 10000
set_option maxHeartbeats 8000000
theorem s20 (r : Rcp) (h : RcpOK r) : HSpec Tryz.prog 39 [r.x] [] (fun v m' => v = .tup [.one (.ptr 0 0), I 0] ∧ m' = shK (shop0 r) []) := by
 have c := s47 r
 unfold rcpE at c
 rw [if_pos h] at c
 refine spec_g (bodyOf Tryz.f39) [] pMix Tryz.func39 Tryz.ntmps39 [.tmp 2, .tmp 3] ?_
 repeat' ((conv => whnf); first | refine CallVC.pure rfl (c) ?_ | refine Br.f (fun h => ?_))
 conv => whnf
 refine EndVC.mk _ rfl _ _ (⟨rfl, rfl⟩) ?_
 exact Le.g [some 1, none, some 99, none, none, none]
end Go.Sx.Pl

namespace Go.Sx.Pl
open Go Go.Proofs Go.Sx
set_option maxRecDepth 10000
set_option maxHeartbeats 8000000
theorem e82 : EntersF Tryz.prog 82 := enters_of Tryz.func82 (c := bodyOf Tryz.f82) (by kernel_rfl) rfl
def up (l : List Pl) : Nat → Int → List Int
 | 0, _ => []
 | n + 1, i => if 0 ≤ i then i :: up l n (l.getD i.toNat p0).pa else []
def Sho.up (S : Sho) (i : Int) : List Int := Go.Sx.Pl.up S.pl (i + 1).toNat i
theorem up_mono {S : Sho} (hS : ShOK S) : ∀ (n m : Nat) (i : Int), i < S.pl.length → i + 1 ≤ n → i + 1 ≤ m → up S.pl n i = up S.pl m i
 | 0, m, i, _, h1, _ => by
  cases m with
  | zero => rfl
  | succ m => unfold up; rw [if_neg (by omega)]
 | n + 1, 0, i, _, _, h2 => by unfold up; rw [if_neg (by omega)]
 | n + 1, m + 1, i, hi, h1, h2 => by
  unfold up
  by_cases h : 0 ≤ i
  ·have := (hS.pl i.toNat (by omega)).pa
   rw [if_pos h, if_pos h, up_mono hS n m _ (by omega) (by omega) (by omega)]
  ·rw [if_neg h, if_neg h]
theorem up_step {S : Sho} (hS : ShOK S) {i : Int} (hi : i < S.pl.length) (h : 0 ≤ i) : S.up i = i :: S.up (S.p i).pa := by
 have := (hS.pl i.toNat (by omega)).pa
 unfold Sho.up
 rw [show (i + 1).toNat = i.toNat + 1 by omega]
 conv => lhs; unfold up
 rw [if_pos h]
 unfold Sho.p
 refine congrArg (i :: ·) (up_mono hS _ _ _ ?_ ?_ ?_) <;> omega
theorem up_neg {S : Sho} {i : Int} (h : ¬ 0 ≤ i) : S.up i = [] := by
 unfold Sho.up
 rw [show (i + 1).toNat = 0 by omega]; rfl
theorem s69 (S : Sho) (ms : List MS) (i : Int) : HSpec Tryz.prog 63 [.one (.ptr 0 0), I i] (shM S ms) (fun r m' => r = .x (.one (.fn 82 [(7, 0), (6, 0)])) ∧ m' = shK S ms ++ [some (.box 100 [.ptr 0 0]), some (.box 3 [.int .i64 i])]) := by
 refine spec_g (bodyOf Tryz.f63) [] pMix Tryz.func63 Tryz.ntmps63 [.tmp 4] ?_
 repeat' ((conv => whnf); first | refine Rng.g ?_ | fail)
 refine EndVC.mk _ rfl _ _ ⟨rfl, rfl⟩ ?_
 exact Le.g [some 0, some 1, some 2, some 3, some 4, some 5, some 6, some 7]
def cF : Code → Code
 | .seq a _ => a
 | c => c
def cS : Code → Code
 | .seq _ b => b
 | c => c
def cB : Code → Code
 | .block _ c => c
 | c => c
def cAs : Code → Code
 | .rangeFunc _ _ x _ => x
 | c => c
def cBo : Code → Code
 | .rangeFunc _ _ _ b => b
 | c => c
end Go.Sx.Pl

namespace Go.Sx.Pl
open Go Go.Proofs Go.Sx
set_option maxRecDepth 10000
set_option maxHeartbeats 8000000
end Go.Sx.Pl

namespace Go.Sx.Pl
open Go Go.Proofs Go.Sx
set_option maxRecDepth 10000
set_option maxHeartbeats 8000000
def lackI (a b c : Int) : Int := if a ≤ b then 0 else (a - b + c - 1) / c
theorem s71 (a b c : Int) (ha : 0 ≤ a ∧ a ≤ 1000000) (hb : 0 ≤ b ∧ b ≤ 1000000) (hc : 1 ≤ c ∧ c ≤ 16) : PSpec Tryz.prog 65 [I a, I b, I c] (.x (I (lackI a b c))) := by
 unfold lackI
 by_cases h : a ≤ b
 ·rw [if_pos h]
  refine spec_g (bodyOf Tryz.f65) [] pMix Tryz.func65 Tryz.ntmps65 [.tmp 6] ?_
  repeat' ((conv => whnf); refine Br.t (fun h => ?_))
  refine EndVC.mk _ rfl _ _ ⟨rfl, rfl⟩ ?_
  exact Le.g []
 ·rw [if_neg h]
  have hd := divB (a := a - b + c - 1) (d := c) (B := 2000000) (by omega) hc.1
  refine spec_g (bodyOf Tryz.f65) [] pMix Tryz.func65 Tryz.ntmps65 [.tmp 6] ?_
  repeat' ((conv => whnf); first | refine Rng.g ?_ | refine Ob.g ?_ | refine Val.d ?_ | refine Br.f (fun h => ?_))
  refine EndVC.mk _ rfl _ _ ⟨rfl, rfl⟩ ?_
  exact Le.g []
theorem lackI_B {a b c A : Int} (ha : 0 ≤ a ∧ a ≤ A) (hb : 0 ≤ b) (hc : 1 ≤ c) : 0 ≤ lackI a b c ∧ lackI a b c ≤ A := by
 unfold lackI
 split
 ·omega
 ·refine ⟨Int.ediv_nonneg (by omega) (by omega), ?_⟩
  refine Int.le_trans (Int.ediv_le_of_le_mul (by omega) (?_ : _ ≤ (a - b) * c)) (by omega)
  have := Int.mul_nonneg (show 0 ≤ a - b - 1 by omega) (show 0 ≤ c - 1 by omega)
  have e : (a - b - 1) * (c - 1) = (a - b) * c - (a - b) - c + 1 := by
   rw [Int.sub_mul, Int.mul_sub, Int.mul_one, Int.one_mul]; omega
  omega
theorem up_le {S : Sho} (hS : ShOK S) : ∀ (n : Nat) (i : Int), i < S.pl.length → (i + 1).toNat ≤ n → ∀ x ∈ S.up i, 0 ≤ x ∧ x ≤ i
 | 0, i, _, hn, x, hx => by rw [up_neg (by omega)] at hx; cases hx
 | n + 1, i, hi, hn, x, hx => by
  by_cases h : 0 ≤ i
  ·have hp := (hS.pl i.toNat (by omega)).pa
   rw [up_step hS hi h] at hx
   rcases List.mem_cons.1 hx with rfl | hx
   ·exact ⟨h, Int.le_refl _⟩
   ·have := up_le hS n (S.p i).pa (by unfold Sho.p; omega) (by unfold Sho.p; omega) x hx
    unfold Sho.p at this
    omega
  ·rw [up_neg h] at hx; cases hx
theorem up_nodup {S : Sho} (hS : ShOK S) : ∀ (n : Nat) (i : Int), i < S.pl.length → (i + 1).toNat ≤ n → (S.up i).Nodup
 | 0, i, _, hn => by rw [up_neg (by omega)]; exact List.nodup_nil
 | n + 1, i, hi, hn => by
  by_cases h : 0 ≤ i
  ·have hp := (hS.pl i.toNat (by omega)).pa
   rw [up_step hS hi h]
   refine List.nodup_cons.2 ⟨fun hc => ?_, up_nodup hS n _ (by unfold Sho.p; omega) (by unfold Sho.p; omega)⟩
   have := (up_le hS _ _ (by unfold Sho.p; omega) (Nat.le_refl _) i hc).2
   unfold Sho.p at this
   omega
  ·rw [up_neg h]; exact List.nodup_nil
def Sho.q (S : Sho) (k : Nat) : Pl := S.pl.getD k p0
def needR (S : Sho) (i c : Int) : Nat → Int
 | 0 => 0
 | k + 1 => needR S i c k + (if i ∈ S.up k ∧ (S.q k).kd = c then roomP S.r (S.q k) else 0)
def needL (S : Sho) (i : Int) : Nat → Int
 | 0 => 0
 | k + 1 => needL S i k + (if i ∈ S.up k ∧ (S.q k).kd = 3 ∧ (S.q k).ret = false then 1 else 0)
def need3 (S : Sho) (i n : Int) : Int := if 0 < n - needL S i S.pl.length then n - needL S i S.pl.length else 0
def need2 (S : Sho) (i n : Int) : Int := lackI (need3 S i n) (needR S i 2 S.pl.length) S.r.sp
def need1 (S : Sho) (i n : Int) : Int := lackI (need2 S i n) (needR S i 1 S.pl.length) S.r.mo
def needE (S : Sho) (i n : Int) : Int := if ¬ inP S i then 5 else if n < 0 ∨ 256 < n then 3 else if needR S i 0 S.pl.length < need1 S i n then 15 else 0
def needN (S : Sho) (i n : Int) : Int := if needE S i n = 0 then need3 S i n + need2 S i n + need1 S i n else 0
theorem room_B {S : Sho} (hS : ShOK S) {k : Nat} : 0 ≤ roomP S.r (S.q k) ∧ roomP S.r (S.q k) ≤ 16 := by
 by_cases hk : k < S.pl.length
 ·have hp : PlOK S k (S.q k) := hS.pl k hk
  have hg := hp.grown
  have hm := hS.r.mo
  have hs := hS.r.sp
  have : capP S.r (S.q k).kd ≤ 16 := by unfold capP; (repeat' split) <;> omega
  unfold roomP
  split <;> omega
 ·have e : S.q k = p0 := by unfold Sho.q; rw [List.getD_eq_getElem?_getD, List.getElem?_eq_none (by omega)]; rfl
  rw [e]
  have e2 : roomP S.r p0 = 1 := rfl
  rw [e2]
  exact ⟨by decide, by decide⟩
theorem needR_B {S : Sho} (hS : ShOK S) (i c : Int) : ∀ k, 0 ≤ needR S i c k ∧ needR S i c k ≤ 16 * k
 | 0 => ⟨Int.le_refl _, Int.le_refl _⟩
 | k + 1 => by
  have h1 := needR_B hS i c k
  have h2 := room_B hS (k := k)
  unfold needR
  split <;> omega
theorem needL_B (S : Sho) (i : Int) : ∀ k, 0 ≤ needL S i k ∧ needL S i k ≤ k
 | 0 => ⟨Int.le_refl _, Int.le_refl _⟩
 | k + 1 => by
  have h1 := needL_B S i k
  unfold needL
  split <;> omega
def partR (S : Sho) (i c : Int) (k : Nat) (xs : List Int) : Int := if i ∈ xs then needR S i c (k + 1) else needR S i c k
def partL (S : Sho) (i : Int) (k : Nat) (xs : List Int) : Int := if i ∈ xs then needL S i (k + 1) else needL S i k
theorem partR_skip (S : Sho) (i c : Int) (k : Nat) (xs : List Int) {j : Int} (h : ¬ j = i) : partR S i c k (xs ++ [j]) = partR S i c k xs := by
 unfold partR
 simp only [List.mem_append, List.mem_singleton]
 by_cases hx : i ∈ xs
 ·rw [if_pos (.inl hx), if_pos hx]
 ·rw [if_neg (by rintro (h' | h'); exact hx h'; exact h h'.symm), if_neg hx]
theorem partL_skip (S : Sho) (i : Int) (k : Nat) (xs : List Int) {j : Int} (h : ¬ j = i) : partL S i k (xs ++ [j]) = partL S i k xs := by
 unfold partL
 simp only [List.mem_append, List.mem_singleton]
 by_cases hx : i ∈ xs
 ·rw [if_pos (.inl hx), if_pos hx]
 ·rw [if_neg (by rintro (h' | h'); exact hx h'; exact h h'.symm), if_neg hx]
theorem partR_hit {S : Sho} {i c : Int} {k : Nat} {xs : List Int} (h : i ∉ xs) (hk : i ∈ S.up k) : partR S i c k (xs ++ [i]) = partR S i c k xs + (if (S.q k).kd = c then roomP S.r (S.q k) else 0) := by
 unfold partR
 rw [if_pos (by simp), if_neg h, needR]
 by_cases hc : (S.q k).kd = c
 ·rw [if_pos ⟨hk, hc⟩, if_pos hc]
 ·rw [if_neg (fun h => hc h.2), if_neg hc]
theorem partL_hit {S : Sho} {i : Int} {k : Nat} {xs : List Int} (h : i ∉ xs) (hk : i ∈ S.up k) : partL S i k (xs ++ [i]) = partL S i k xs + (if (S.q k).kd = 3 ∧ (S.q k).ret = false then 1 else 0) := by
 unfold partL
 rw [if_pos (by simp), if_neg h, needL]
 by_cases hc : (S.q k).kd = 3 ∧ (S.q k).ret = false
 ·rw [if_pos ⟨hk, hc⟩, if_pos hc]
 ·rw [if_neg (fun h => hc h.2), if_neg hc]
theorem partR_end (S : Sho) (i c : Int) (k : Nat) : partR S i c k (S.up k) = needR S i c (k + 1) := by
 unfold partR
 split
 ·rfl
 ·rw [needR, if_neg (fun h => absurd h.1 ‹_›), Int.add_zero]
theorem partL_end (S : Sho) (i : Int) (k : Nat) : partL S i k (S.up k) = needL S i (k + 1) := by
 unfold partL
 split
 ·rfl
 ·rw [needL, if_neg (fun h => absurd h.1 ‹_›), Int.add_zero]
def cL : Code → Code
 | .loop c => c
 | c => c
noncomputable def rf26 : Code := cB (cS (cS (cB (cF (cS (cS (cL (cB (cS (cF (cS (cS (cS (bodyOf Tryz.f41))))))))))))))
set_option maxHeartbeats 20000000 in
theorem s26_ok (S : Sho) (ms : List MS) (hS : ShOK S) (i n : Int) (hin : inP S i) (hn : 0 ≤ n ∧ n ≤ 256) : HSpec Tryz.prog 41 [.one (.ptr 0 0), I i, I n] (shM S ms) (fun r m' => r = .tup [I (needN S i n), I (needE S i n)] ∧ m' = shK S ms) := by
 have c53 := s53 S ms
 have c63 := s63 S ms i
 rw [getR, if_pos hin] at c63
 have hl := plA_len S.pl
 have hnp := hS.np
 refine spec_g (bodyOf Tryz.f41) ([(14, ([], ordDef 0 9 ++ [⟨9, [0, 1, 2, 3, 4, 5, 6], []⟩] ++ ordDef 10 3))]) pMix Tryz.func41 Tryz.ntmps41 [.tmp 6, .tmp 7] ?_
 repeat' ((conv => whnf); first | refine Rng.g ?_ | fail)
 conv => whnf
 refine CallVC.mk [0, 1, 2, 3, 4, 5] _ _ _ rfl rfl rfl (c53) (fun r m' h' => ?_)
 obtain ⟨rfl, rfl⟩ := h'
 conv => whnf
 repeat' ((conv => whnf); first | refine Rng.g ?_ | fail)
 conv => whnf
 refine CallVC.mk [0, 1, 2, 3, 4, 5] _ _ _ rfl rfl rfl (c63) (fun r m' h' => ?_)
 obtain ⟨rfl, rfl⟩ := h'
 conv => whnf
 repeat' ((conv => whnf); first | refine Br.f (fun h => ?_) | (refine Br.mk (fun h => ?_) (fun h => ?_) <;> first | (exfalso; omega; done) | (exfalso; simp at h; done) | skip))
 refine LoopVC.mk (fun m st => ∃ (k : Nat), k ≤ S.pl.length ∧ m = S.pl.length - k ∧ st = ⟨6, envA 105 [(3, .x (.one (.ptr 6 0))), (4, .x (.one (.ptr 7 0))), (5, .x (.one (.ptr 8 0))), (8, .x (.one (.ptr 9 0))), (33, .x (.one (.own 1))), (34, .int .i64 (S.pl.length : Int)), (35, .int .i64 (k : Int))], shK S ms ++ [some (.box 100 [.ptr 0 0]), some (.box 3 [.int .i64 i]), some (.box 3 [.int .i64 (n - needL S i k)]), some (.box 137 [.int .i64 (needR S i 0 k), .int .i64 (needR S i 1 k), .int .i64 (needR S i 2 k), .int .i64 (needR S i 3 k)])]⟩) _ _ ⟨0, Nat.zero_le _, rfl, rfl⟩ ?_ ?_
 ·refine ⟨[some 0, some 1, some 2, some 3, some 4, some 5, some 6, some 7, some 8, some 9], rfl, rfl, ?_, ?_⟩ <;> repeat' (first | exact trivial | exact rfl | apply And.intro)
  rw [needL, Int.sub_zero]
 rintro m _ ⟨k, hk, hm, rfl⟩
 by_cases h' : k < S.pl.length
 ·have c69 := s69 S ms (k : Int)
  have hq := needR_B hS i
  have q0 := needR_B hS i 0 k
  have q1 := needR_B hS i 1 k
  have q2 := needR_B hS i 2 k
  have q3 := needR_B hS i 3 k
  have qL := needL_B S i k
  repeat' ((conv => whnf); first | refine Ob.g ?_ | refine Br.t (fun h => ?_))
  conv => whnf
  refine CallVC.mk [0, 1, 2, 3, 4, 5] _ _ _ rfl rfl rfl (c69) (fun r m' h' => ?_)
  obtain ⟨rfl, rfl⟩ := h'
  conv => whnf
  repeat' ((conv => whnf); first | refine Rng.g ?_ | fail)
  change RangeVC _ _ _ _ _
  refine RangeVC.mk e82 (isem_of_awp pMix [] Tryz.func82 (c := bodyOf Tryz.f82) rfl (by kernel_rfl) Tryz.ntmps82 (by kernel_rfl) ?_)
  repeat' ((conv => whnf); first | refine Rng.g ?_ | fail)
  refine LoopVC.mk (fun m st => ∃ (j : Int) (xs : List Int), -1 ≤ j ∧ j < S.pl.length ∧ xs ++ S.up j = S.up k ∧ m = (j + 1).toNat ∧ st = ⟨14, envA 22 [(0, .x (.one (.yld 13))), (1, .x (.one (.ptr 12 0))), (2, .x (.one (.ptr 11 0)))], shK S ms ++ [some (.box 100 [.ptr 0 0]), some (.box 3 [.int .i64 i]), some (.box 3 [.int .i64 (n - partL S i k xs)]), some (.box 137 [.int .i64 (partR S i 0 k xs), .int .i64 (partR S i 1 k xs), .int .i64 (partR S i 2 k xs), .int .i64 (partR S i 3 k xs)]), some (.box 135 [.pel 2 k 0]), some (.box 100 [.ptr 0 0]), some (.box 3 [.int .i64 j]), some (.loop [43] (cAs rf26) (cBo rf26) (envA 105 [(3, .x (.one (.ptr 6 0))), (4, .x (.one (.ptr 7 0))), (5, .x (.one (.ptr 8 0))), (8, .x (.one (.ptr 9 0))), (10, .x (.one (.ptr 10 0))), (33, .x (.one (.own 1))), (34, .int .i64 (S.pl.length : Int)), (35, .int .i64 (k : Int))]) .ready)]⟩) _ _ ⟨(k : Int), [], by omega, by omega, rfl, rfl, rfl⟩ ?_ ?_
  ·exact Le.g [some 0, some 1, some 2, some 3, some 4, some 5, some 6, some 7, some 8, some 9, some 10, some 11, some 12, some 13]
   all_goals first
    | exact (partR_nil ..).symm
    | exact congrArg (n - ·) (partL_nil ..).symm
  rintro m _ ⟨j, xs, hj, hj', hx, hm, rfl⟩
  by_cases h0 : 0 ≤ j
  ·have hu := up_step hS hj' h0
   have hpa := (hS.pl j.toNat (by omega)).pa
   have g1 : rI (plA S.pl) j.toNat ((0 + 1)) = (S.p j).pa := pl_1 S.pl j.toNat
   have hnd := up_nodup hS (k + 1) (k : Int) (by omega) (by omega)
   rw [← hx, hu] at hnd
   have hjx : j ∉ xs := fun hc => (List.nodup_append.1 hnd).2.2 j hc j (.head _) rfl
   have hjk : j ∈ S.up k := by rw [← hx, hu]; exact List.mem_append_right _ (.head _)
   have hx' : (xs ++ [j]) ++ S.up (S.p j).pa = S.up k := by rw [← hx, hu, List.append_assoc]; rfl
   have hpa' : -1 ≤ (S.p j).pa ∧ (S.p j).pa < j := by unfold Sho.p; omega
   by_cases hji : j = i
   ·subst hji
    have hkd := (hS.pl k h').kd
    have c70 := s70 S ms hS k h'
    have hrb : 0 ≤ roomP S.r (S.pl.getD k p0) ∧ roomP S.r (S.pl.getD k p0) ≤ 16 := room_B hS
    have pB : ∀ c, 0 ≤ partR S j c k xs ∧ partR S j c k xs ≤ 5000 := fun c => by
     have := needR_B hS j c k
     have := needR_B hS j c (k + 1)
     unfold partR
     split <;> omega
    have pL : 0 ≤ partL S j k xs ∧ partL S j k xs ≤ 257 := by
     have := needL_B S j k
     have := needL_B S j (k + 1)
     unfold partL
     split <;> omega
    have b0 := pB 0
    have b1 := pB 1
    have b2 := pB 2
    have b3 := pB 3
    have hk4 : (S.q k).kd = 0 ∨ (S.q k).kd = 1 ∨ (S.q k).kd = 2 ∨ (S.q k).kd = 3 := by
     have : 0 ≤ (S.q k).kd ∧ (S.q k).kd ≤ 3 := hkd
     omega
    have g0 := pl_0 S.pl k
    rcases hk4 with hq | hq | hq | hq
    ·rw [show (S.pl.getD k p0).kd = 0 from hq] at g0
     have w0 : partR S j 0 k (xs ++ [j]) = partR S j 0 k xs + roomP S.r (S.pl.getD k p0) := (partR_hit hjx hjk).trans (by rw [if_pos hq]; rfl)
     have w1 : partR S j 1 k (xs ++ [j]) = partR S j 1 k xs := (partR_hit hjx hjk).trans (by rw [if_neg (by omega), Int.add_zero])
     have w2 : partR S j 2 k (xs ++ [j]) = partR S j 2 k xs := (partR_hit hjx hjk).trans (by rw [if_neg (by omega), Int.add_zero])
     have w3 : partR S j 3 k (xs ++ [j]) = partR S j 3 k xs := (partR_hit hjx hjk).trans (by rw [if_neg (by omega), Int.add_zero])
     have wL : partL S j k (xs ++ [j]) = partL S j k xs := (partL_hit hjx hjk).trans (by rw [if_neg (fun hc => by omega), Int.add_zero])
     repeat' ((conv => whnf); first | refine Ob.g ?_ | refine JoinVC.on ?_ | refine YieldVC.mk (rsem_of_awp pMix [(14, ([], ordDef 0 9 ++ [⟨9, [0, 1, 2, 3, 4, 5, 6], []⟩] ++ ordDef 10 3))] rfl (by kernel_rfl) ?_) | refine Br.t (fun h => ?_))
     rw [g0]
     repeat' ((conv => whnf); first | refine Rng.g ?_ | fail)
     conv => whnf
     refine CallVC0.same [0, 1, 2, 3, 4, 5] _ _ _ rfl rfl rfl rfl (c70) (fun r m' h' => (by obtain ⟨rfl, rfl⟩ := h'; rfl)) (fun r m' h' => ?_)
     obtain ⟨rfl, rfl⟩ := h'
     conv => whnf
     repeat' ((conv => whnf); first | refine Rng.g ?_ | refine Ob.g ?_ | refine JoinVC.on ?_ | refine Br.f (fun h => ?_))
     conv => whnf
     rw [g1]
     refine Back.mk ((S.p j).pa + 1).toNat _ (by omega) ⟨(S.p j).pa, xs ++ [j], hpa'.1, by omega, hx', rfl, rfl⟩ ?_
     rw [w0, w1, w2, w3, wL]
     exact Le.g [some 0, some 1, some 2, some 3, some 4, some 5, some 6, some 7, some 8, some 9, some 10, some 11, some 12, some 13]
    ·rw [show (S.pl.getD k p0).kd = 1 from hq] at g0
     have w0 : partR S j 0 k (xs ++ [j]) = partR S j 0 k xs := (partR_hit hjx hjk).trans (by rw [if_neg (by omega), Int.add_zero])
     have w1 : partR S j 1 k (xs ++ [j]) = partR S j 1 k xs + roomP S.r (S.pl.getD k p0) := (partR_hit hjx hjk).trans (by rw [if_pos hq]; rfl)
     have w2 : partR S j 2 k (xs ++ [j]) = partR S j 2 k xs := (partR_hit hjx hjk).trans (by rw [if_neg (by omega), Int.add_zero])
     have w3 : partR S j 3 k (xs ++ [j]) = partR S j 3 k xs := (partR_hit hjx hjk).trans (by rw [if_neg (by omega), Int.add_zero])
     have wL : partL S j k (xs ++ [j]) = partL S j k xs := (partL_hit hjx hjk).trans (by rw [if_neg (fun hc => by omega), Int.add_zero])
     repeat' ((conv => whnf); first | refine Ob.g ?_ | refine JoinVC.on ?_ | refine YieldVC.mk (rsem_of_awp pMix [(14, ([], ordDef 0 9 ++ [⟨9, [0, 1, 2, 3, 4, 5, 6], []⟩] ++ ordDef 10 3))] rfl (by kernel_rfl) ?_) | refine Br.t (fun h => ?_))
     rw [g0]
     repeat' ((conv => whnf); first | refine Rng.g ?_ | fail)
     conv => whnf
     refine CallVC0.same [0, 1, 2, 3, 4, 5] _ _ _ rfl rfl rfl rfl (c70) (fun r m' h' => (by obtain ⟨rfl, rfl⟩ := h'; rfl)) (fun r m' h' => ?_)
     obtain ⟨rfl, rfl⟩ := h'
     conv => whnf
     repeat' ((conv => whnf); first | refine Rng.g ?_ | refine Ob.g ?_ | refine JoinVC.on ?_ | refine Br.f (fun h => ?_))
     conv => whnf
     rw [g1]
     refine Back.mk ((S.p j).pa + 1).toNat _ (by omega) ⟨(S.p j).pa, xs ++ [j], hpa'.1, by omega, hx', rfl, rfl⟩ ?_
     rw [w0, w1, w2, w3, wL]
     exact Le.g [some 0, some 1, some 2, some 3, some 4, some 5, some 6, some 7, some 8, some 9, some 10, some 11, some 12, some 13]
    ·rw [show (S.pl.getD k p0).kd = 2 from hq] at g0
     have w0 : partR S j 0 k (xs ++ [j]) = partR S j 0 k xs := (partR_hit hjx hjk).trans (by rw [if_neg (by omega), Int.add_zero])
     have w1 : partR S j 1 k (xs ++ [j]) = partR S j 1 k xs := (partR_hit hjx hjk).trans (by rw [if_neg (by omega), Int.add_zero])
     have w2 : partR S j 2 k (xs ++ [j]) = partR S j 2 k xs + roomP S.r (S.pl.getD k p0) := (partR_hit hjx hjk).trans (by rw [if_pos hq]; rfl)
     have w3 : partR S j 3 k (xs ++ [j]) = partR S j 3 k xs := (partR_hit hjx hjk).trans (by rw [if_neg (by omega), Int.add_zero])
     have wL : partL S j k (xs ++ [j]) = partL S j k xs := (partL_hit hjx hjk).trans (by rw [if_neg (fun hc => by omega), Int.add_zero])
     repeat' ((conv => whnf); first | refine Ob.g ?_ | refine JoinVC.on ?_ | refine YieldVC.mk (rsem_of_awp pMix [(14, ([], ordDef 0 9 ++ [⟨9, [0, 1, 2, 3, 4, 5, 6], []⟩] ++ ordDef 10 3))] rfl (by kernel_rfl) ?_) | refine Br.t (fun h => ?_))
     rw [g0]
     repeat' ((conv => whnf); first | refine Rng.g ?_ | fail)
     conv => whnf
     refine CallVC0.same [0, 1, 2, 3, 4, 5] _ _ _ rfl rfl rfl rfl (c70) (fun r m' h' => (by obtain ⟨rfl, rfl⟩ := h'; rfl)) (fun r m' h' => ?_)
     obtain ⟨rfl, rfl⟩ := h'
     conv => whnf
     repeat' ((conv => whnf); first | refine Rng.g ?_ | refine Ob.g ?_ | refine JoinVC.on ?_ | refine Br.f (fun h => ?_))
     conv => whnf
     rw [g1]
     refine Back.mk ((S.p j).pa + 1).toNat _ (by omega) ⟨(S.p j).pa, xs ++ [j], hpa'.1, by omega, hx', rfl, rfl⟩ ?_
     rw [w0, w1, w2, w3, wL]
     exact Le.g [some 0, some 1, some 2, some 3, some 4, some 5, some 6, some 7, some 8, some 9, some 10, some 11, some 12, some 13]
    ·rw [show (S.pl.getD k p0).kd = 3 from hq] at g0
     have w0 : partR S j 0 k (xs ++ [j]) = partR S j 0 k xs := (partR_hit hjx hjk).trans (by rw [if_neg (by omega), Int.add_zero])
     have w1 : partR S j 1 k (xs ++ [j]) = partR S j 1 k xs := (partR_hit hjx hjk).trans (by rw [if_neg (by omega), Int.add_zero])
     have w2 : partR S j 2 k (xs ++ [j]) = partR S j 2 k xs := (partR_hit hjx hjk).trans (by rw [if_neg (by omega), Int.add_zero])
     have w3 : partR S j 3 k (xs ++ [j]) = partR S j 3 k xs + roomP S.r (S.pl.getD k p0) := (partR_hit hjx hjk).trans (by rw [if_pos hq]; rfl)
     have g6 := pl_6 S.pl k
     by_cases hret : (S.q k).ret = true
     ·rw [show (S.pl.getD k p0).ret = true from hret] at g6
      have wL : partL S j k (xs ++ [j]) = partL S j k xs := (partL_hit hjx hjk).trans (by rw [if_neg (fun hc => by rw [hret] at hc; cases hc.2), Int.add_zero])
      repeat' ((conv => whnf); first | refine Ob.g ?_ | refine JoinVC.on ?_ | refine YieldVC.mk (rsem_of_awp pMix [(14, ([], ordDef 0 9 ++ [⟨9, [0, 1, 2, 3, 4, 5, 6], []⟩] ++ ordDef 10 3))] rfl (by kernel_rfl) ?_) | refine Br.t (fun h => ?_))
      rw [g0]
      repeat' ((conv => whnf); first | refine Rng.g ?_ | fail)
      conv => whnf
      refine CallVC0.same [0, 1, 2, 3, 4, 5] _ _ _ rfl rfl rfl rfl (c70) (fun r m' h' => (by obtain ⟨rfl, rfl⟩ := h'; rfl)) (fun r m' h' => ?_)
      obtain ⟨rfl, rfl⟩ := h'
      conv => whnf
      repeat' ((conv => whnf); first | rw [g6] | refine Rng.g ?_ | refine Ob.g ?_ | refine JoinVC.on ?_ | refine Br.t (fun h => ?_) | (refine Br.mk (fun h => ?_) (fun h => ?_) <;> first | (exfalso; omega; done) | (exfalso; simp at h; done) | skip))
      conv => whnf
      rw [g1]
      refine Back.mk ((S.p j).pa + 1).toNat _ (by omega) ⟨(S.p j).pa, xs ++ [j], hpa'.1, by omega, hx', rfl, rfl⟩ ?_
      rw [w0, w1, w2, w3, wL]
      exact Le.g [some 0, some 1, some 2, some 3, some 4, some 5, some 6, some 7, some 8, some 9, some 10, some 11, some 12, some 13]
     ·have hret' : (S.q k).ret = false := Bool.eq_false_iff.2 hret
      rw [show (S.pl.getD k p0).ret = false from hret'] at g6
      have wL : partL S j k (xs ++ [j]) = partL S j k xs + 1 := (partL_hit hjx hjk).trans (by rw [if_pos ⟨hq, hret'⟩])
      repeat' ((conv => whnf); first | refine Ob.g ?_ | refine JoinVC.on ?_ | refine YieldVC.mk (rsem_of_awp pMix [(14, ([], ordDef 0 9 ++ [⟨9, [0, 1, 2, 3, 4, 5, 6], []⟩] ++ ordDef 10 3))] rfl (by kernel_rfl) ?_) | refine Br.t (fun h => ?_))
      rw [g0]
      repeat' ((conv => whnf); first | refine Rng.g ?_ | fail)
      conv => whnf
      refine CallVC0.same [0, 1, 2, 3, 4, 5] _ _ _ rfl rfl rfl rfl (c70) (fun r m' h' => (by obtain ⟨rfl, rfl⟩ := h'; rfl)) (fun r m' h' => ?_)
      obtain ⟨rfl, rfl⟩ := h'
      conv => whnf
      repeat' ((conv => whnf); first | rw [g6] | refine Rng.g ?_ | refine Ob.g ?_ | refine JoinVC.on ?_ | refine Br.t (fun h => ?_) | (refine Br.mk (fun h => ?_) (fun h => ?_) <;> first | (exfalso; omega; done) | (exfalso; simp at h; done) | skip))
      conv => whnf
      rw [g1]
      refine Back.mk ((S.p j).pa + 1).toNat _ (by omega) ⟨(S.p j).pa, xs ++ [j], hpa'.1, by omega, hx', rfl, rfl⟩ ?_
      rw [w0, w1, w2, w3, wL]
      refine ⟨[some 0, some 1, some 2, some 3, some 4, some 5, some 6, some 7, some 8, some 9, some 10, some 11, some 12, some 13], rfl, rfl, ?_, ?_⟩ <;> repeat' (first | exact trivial | exact rfl | apply And.intro)
      omega
   ·repeat' ((conv => whnf); first | rw [g1] | refine Ob.g ?_ | refine JoinVC.on ?_ | refine YieldVC.mk (rsem_of_awp pMix [(14, ([], ordDef 0 9 ++ [⟨9, [0, 1, 2, 3, 4, 5, 6], []⟩] ++ ordDef 10 3))] rfl (by kernel_rfl) ?_) | refine Br.t (fun h => ?_) | refine Br.f (fun h => ?_))
    refine Back.mk ((S.p j).pa + 1).toNat _ (by omega) ⟨(S.p j).pa, xs ++ [j], hpa'.1, by omega, hx', rfl, rfl⟩ ?_
    rw [partR_skip S i 0 k xs hji, partR_skip S i 1 k xs hji, partR_skip S i 2 k xs hji, partR_skip S i 3 k xs hji, partL_skip S i k xs hji]
    exact Le.g [some 0, some 1, some 2, some 3, some 4, some 5, some 6, some 7, some 8, some 9, some 10, some 11, some 12, some 13]
  ·rw [up_neg h0, List.append_nil] at hx
   subst hx
   repeat' ((conv => whnf); first | refine Rng.g ?_ | refine Br.f (fun h => ?_))
   refine Back.mk (S.pl.length - (k + 1)) _ (by omega) ⟨k + 1, by omega, rfl, rfl⟩ ?_
   rw [partR_end, partR_end, partR_end, partR_end, partL_end]
   exact Le.g [some 0, some 1, some 2, some 3, some 4, some 5, some 6, some 7, some 8, some 9]
 ·obtain rfl : k = S.pl.length := by omega
  have qr := needR_B hS i 0 S.pl.length
  have q1 := needR_B hS i 1 S.pl.length
  have q2 := needR_B hS i 2 S.pl.length
  have qL := needL_B S i S.pl.length
  have hmo := hS.r.mo
  have hsp := hS.r.sp
  have n3 : 0 ≤ need3 S i n ∧ need3 S i n ≤ 256 := by unfold need3; split <;> omega
  have n2 : 0 ≤ need2 S i n ∧ need2 S i n ≤ 256 := lackI_B n3 q2.1 hsp.1
  have n1 : 0 ≤ need1 S i n ∧ need1 S i n ≤ 256 := lackI_B n2 q1.1 hmo.1
  have c2 : PSpec Tryz.prog 65 [I (if 0 < n - needL S i S.pl.length then n - needL S i S.pl.length else 0), I (needR S i 2 S.pl.length), I S.r.sp] (.x (I (need2 S i n))) := s71 (need3 S i n) _ _ (by omega) (by omega) hsp
  have c1 : PSpec Tryz.prog 65 [I (need2 S i n), I (needR S i 1 S.pl.length), I S.r.mo] (.x (I (need1 S i n))) := s71 (need2 S i n) _ _ (by omega) (by omega) hmo
  have e3 : (if 0 < n - needL S i S.pl.length then n - needL S i S.pl.length else 0) = need3 S i n := rfl
  by_cases he : needR S i 0 S.pl.length < need1 S i n
  ·have hE : needE S i n = 15 := by unfold needE; rw [if_neg (fun hc => hc hin), if_neg (by omega), if_pos he]
   have hN : needN S i n = 0 := by unfold needN; rw [if_neg (by omega)]
   rw [hN, hE]
   repeat' ((conv => whnf); first | refine Ob.g ?_ | refine Mm.mk ?_ | refine CallVC.pure rfl (c2) ?_ | refine CallVC.pure rfl (c1) ?_ | refine Br.t (fun h => ?_) | refine Br.f (fun h => ?_))
   refine EndVC.mk _ rfl _ _ ⟨rfl, rfl⟩ ?_
   exact Le.g [some 0, some 1, some 2, some 3, some 4, some 5]
  ·have hE : needE S i n = 0 := by unfold needE; rw [if_neg (fun hc => hc hin), if_neg (by omega), if_neg he]
   have hN : needN S i n = need3 S i n + need2 S i n + need1 S i n := by unfold needN; rw [if_pos hE]
   rw [hN, hE]
   repeat' ((conv => whnf); first | rw [e3] | refine Rng.g ?_ | refine Ob.g ?_ | refine Mm.mk ?_ | refine CallVC.pure rfl (c2) ?_ | refine CallVC.pure rfl (c1) ?_ | refine Br.f (fun h => ?_))
   refine EndVC.mk _ rfl _ _ ⟨rfl, rfl⟩ ?_
   exact Le.g [some 0, some 1, some 2, some 3, some 4, some 5]
theorem s26_no (S : Sho) (ms : List MS) (i n : Int) (h : ¬ inP S i) : HSpec Tryz.prog 41 [.one (.ptr 0 0), I i, I n] (shM S ms) (fun r m' => r = .tup [I (needN S i n), I (needE S i n)] ∧ m' = shK S ms) := by
 have c53 := s53 S ms
 have c63 := s63 S ms i
 rw [getR, if_neg h] at c63
 have hE : needE S i n = 5 := by unfold needE; rw [if_pos h]
 have hN : needN S i n = 0 := by unfold needN; rw [if_neg (by omega)]
 rw [hN, hE]
 refine spec_g (bodyOf Tryz.f41) ([(14, ([], ordDef 0 9 ++ [⟨9, [0, 1, 2, 3, 4, 5, 6], []⟩] ++ ordDef 10 3))]) pMix Tryz.func41 Tryz.ntmps41 [.tmp 6, .tmp 7] ?_
 repeat' ((conv => whnf); first | refine Rng.g ?_ | fail)
 conv => whnf
 refine CallVC.mk [0, 1, 2, 3, 4, 5] _ _ _ rfl rfl rfl (c53) (fun r m' h' => ?_)
 obtain ⟨rfl, rfl⟩ := h'
 conv => whnf
 repeat' ((conv => whnf); first | refine Rng.g ?_ | fail)
 conv => whnf
 refine CallVC.mk [0, 1, 2, 3, 4, 5] _ _ _ rfl rfl rfl (c63) (fun r m' h' => ?_)
 obtain ⟨rfl, rfl⟩ := h'
 conv => whnf
 repeat' ((conv => whnf); first | (refine Br.mk (fun h => ?_) (fun h => ?_) <;> first | (exfalso; omega; done) | (exfalso; simp at h; done) | skip))
 refine EndVC.mk _ rfl _ _ ⟨rfl, rfl⟩ ?_
 exact Le.g [some 0, some 1, some 2, some 3, some 4, some 5]
theorem s26_far (S : Sho) (ms : List MS) (i n : Int) (h : inP S i) (hn : n < 0 ∨ 256 < n) : HSpec Tryz.prog 41 [.one (.ptr 0 0), I i, I n] (shM S ms) (fun r m' => r = .tup [I (needN S i n), I (needE S i n)] ∧ m' = shK S ms) := by
 have c53 := s53 S ms
 have c63 := s63 S ms i
 rw [getR, if_pos h] at c63
 have hE : needE S i n = 3 := by unfold needE; rw [if_neg (fun hc => hc h), if_pos hn]
 have hN : needN S i n = 0 := by unfold needN; rw [if_neg (by omega)]
 rw [hN, hE]
 refine spec_g (bodyOf Tryz.f41) ([(14, ([], ordDef 0 9 ++ [⟨9, [0, 1, 2, 3, 4, 5, 6], []⟩] ++ ordDef 10 3))]) pMix Tryz.func41 Tryz.ntmps41 [.tmp 6, .tmp 7] ?_
 repeat' ((conv => whnf); first | refine Rng.g ?_ | fail)
 conv => whnf
 refine CallVC.mk [0, 1, 2, 3, 4, 5] _ _ _ rfl rfl rfl (c53) (fun r m' h' => ?_)
 obtain ⟨rfl, rfl⟩ := h'
 conv => whnf
 repeat' ((conv => whnf); first | refine Rng.g ?_ | fail)
 conv => whnf
 refine CallVC.mk [0, 1, 2, 3, 4, 5] _ _ _ rfl rfl rfl (c63) (fun r m' h' => ?_)
 obtain ⟨rfl, rfl⟩ := h'
 conv => whnf
 repeat' ((conv => whnf); first | refine Br.t (fun h => ?_) | (refine Br.mk (fun h => ?_) (fun h => ?_) <;> first | (exfalso; omega; done) | (exfalso; simp at h; done) | skip))
 all_goals
  refine EndVC.mk _ rfl _ _ ⟨rfl, rfl⟩ ?_
  refine ⟨[some 0, some 1, some 2, some 3, some 4, some 5], rfl, rfl, ?_, ?_⟩ <;> repeat' (first | exact trivial | exact rfl | apply And.intro)
theorem s26 (S : Sho) (ms : List MS) (hS : ShOK S) (i n : Int) : HSpec Tryz.prog 41 [.one (.ptr 0 0), I i, I n] (shM S ms) (fun r m' => r = .tup [I (needN S i n), I (needE S i n)] ∧ m' = shK S ms) := by
 by_cases h : inP S i
 ·by_cases hn : n < 0 ∨ 256 < n
  ·exact s26_far S ms i n h hn
  ·exact s26_ok S ms hS i n h (by omega)
 ·exact s26_no S ms i n h
end Go.Sx.Pl

namespace Go.Sx.Pl
open Go Go.Proofs Go.Sx
set_option maxRecDepth 10000
set_option maxHeartbeats 8000000
def repS (S : Sho) (l : List Act2) : Nat → Sho
 | 0 => S
 | i + 1 => doS (repS S l i) (l.getD i ac0)
theorem ShOK.repS {S : Sho} (hS : ShOK S) (l : List Act2) : ∀ i, ShOK (Go.Sx.Pl.repS S l i)
 | 0 => hS
 | i + 1 => ShOK.doS (ShOK.repS hS l i) _
section
variable (l : List Act2) (i : Nat)
end
end Go.Sx.Pl

namespace Go.Sx.Pr
open Go Go.Proofs Go.Sx
theorem pMix : Tryz.prog.follows .mixedOrders = true := by kernel_rfl
abbrev I (n : Int) : XV := .one (.int .i64 n)
def setsE : List AV → List (Nat × AV) → List AV
 | l, [] => l
 | l, (n, v) :: r => setsE (l.set n v) r
def envA (n : Nat) (l : List (Nat × AV)) : List AV := setsE (anysA n) l
set_option maxRecDepth 10000
abbrev xP (p : Prop) [d : Decidable p] : AV := .x (.one (.prp p d))
theorem s56 (n lo hi : Int) : PSpec Tryz.prog 33 [I n, I lo, I hi] (xP (n < lo ∨ hi < n)) := by
 refine spec_g (bodyOf Tryz.f33) [] pMix Tryz.func33 Tryz.ntmps33 [.tmp 6] ?_
 refine Br.mk (fun h => ?_) (fun h => ?_)
 ·refine EndVC.mk _ rfl _ _ ⟨rfl, rfl⟩ ⟨[], rfl, rfl, ⟨?_, trivial⟩, trivial⟩
  exact Or.inl h
 ·refine EndVC.mk _ rfl _ _ ⟨rfl, rfl⟩ ⟨[], rfl, rfl, ⟨?_, trivial⟩, trivial⟩
  show _ ↔ _
  simp [h]
theorem s58 (n lo hi : Int) : PSpec Tryz.prog 15 [I n, I lo, I hi] (xP (lo ≤ n ∧ n ≤ hi)) := by
 refine spec_g (bodyOf Tryz.f15) [] pMix Tryz.func15 Tryz.ntmps15 [.tmp 6] ?_
 refine Br.mk (fun h => ?_) (fun h => ?_)
 ·refine EndVC.mk _ rfl _ _ ⟨rfl, rfl⟩ ⟨[], rfl, rfl, ⟨?_, trivial⟩, trivial⟩
  show _ ↔ _
  simp [h]
 ·refine EndVC.mk _ rfl _ _ ⟨rfl, rfl⟩ ⟨[], rfl, rfl, ⟨?_, trivial⟩, trivial⟩
  show ¬ _
  simp [h]
structure Mac where
 room : Int
 melt : Int
 cool : Int
 top : Int
 heat : Int
 chill : Int
 drift : Int
 hold : Int
 life : Int
@[reducible] def Mac.x (m : Mac) : XV := .agg [.int .i64 m.room, .int .i64 m.melt, .int .i64 m.cool, .int .i64 m.top, .int .i64 m.heat, .int .i64 m.chill, .int .i64 m.drift, .int .i64 m.hold, .int .i64 m.life]
def Mac.ok (m : Mac) : Prop := 0 ≤ m.room ∧ m.room ≤ m.cool ∧ m.cool < m.melt ∧ m.melt ≤ m.top ∧ m.top ≤ 400 ∧ 1 ≤ m.heat ∧ m.heat ≤ 400 ∧ 1 ≤ m.chill ∧ m.chill ≤ 400 ∧ 0 ≤ m.drift ∧ m.drift ≤ 400 ∧ 1 ≤ m.hold ∧ m.hold ≤ 64 ∧ 1 ≤ m.life ∧ m.life ≤ 65536
open Classical in
noncomputable def Mac.chk (m : Mac) : Int := if m.ok then 0 else 2
theorem Mac.chk0 {m : Mac} (h : m.ok) : m.chk = 0 := if_pos h
theorem Mac.chk2 {m : Mac} (h : ¬ m.ok) : m.chk = 2 := if_neg h
def tickF (m : Mac) (t v : Int) : Int := if v = 1 then (if t + m.heat < m.top then t + m.heat else m.top) else if v = 2 then (if m.room < t - m.chill then t - m.chill else m.room) else (if m.room < t - m.drift then t - m.drift else m.room)
theorem s57 (m : Mac) (T v : Int) (hm : m.ok) (h1 : m.room ≤ T) (h2 : T ≤ m.top) : PSpec Tryz.prog 34 [m.x, I T, I v] (.x (I (tickF m T v))) := by
 obtain ⟨m1, m2, m3, m4, m5, m6, m7, m8, m9, m10, m11, m12, m13, m14, m15⟩ := hm
 refine spec_g (bodyOf Tryz.f34) [] pMix Tryz.func34 Tryz.ntmps34 [.tmp 6] ?_
 refine Br.mk (fun h => ?_) (fun h => ?_)
 ·refine Rng.ok (by simp only [inR]; omega) ?_
  repeat refine Mm.mk ?_
  refine EndVC.mk _ rfl _ _ ⟨rfl, rfl⟩ ⟨[], rfl, rfl, ⟨⟨rfl, ?_⟩, trivial⟩, trivial⟩
  simp only [tickF, if_pos h]
 ·refine Br.mk (fun h' => ?_) (fun h' => ?_)
  ·refine Rng.ok (by simp only [inR]; omega) ?_
   repeat refine Mm.mk ?_
   refine EndVC.mk _ rfl _ _ ⟨rfl, rfl⟩ ⟨[], rfl, rfl, ⟨⟨rfl, ?_⟩, trivial⟩, trivial⟩
   simp only [tickF, if_neg h, if_pos h']
  ·refine Rng.ok (by simp only [inR]; omega) ?_
   repeat refine Mm.mk ?_
   refine EndVC.mk _ rfl _ _ ⟨rfl, rfl⟩ ⟨[], rfl, rfl, ⟨⟨rfl, ?_⟩, trivial⟩, trivial⟩
   simp only [tickF, if_neg h, if_neg h']
theorem s20 (m : Mac) : PSpec Tryz.prog 19 [m.x] (.x (I m.chk)) := by
 refine spec_g (bodyOf Tryz.f19) [] pMix Tryz.func19 Tryz.ntmps19 [.tmp 2] ?_
 have bad : ¬ m.ok → (2 : Int) = m.chk := fun h => (Mac.chk2 h).symm
 refine Br.mk (fun h1 => ?_) (fun h1 => ?_)
 ·refine EndVC.mk _ rfl _ _ ⟨rfl, rfl⟩ ⟨[], rfl, rfl, ⟨⟨rfl, ?_⟩, trivial⟩, trivial⟩
  exact bad (by simp only [Mac.ok]; omega)
 refine Br.mk (fun h2 => ?_) (fun h2 => ?_)
 ·refine EndVC.mk _ rfl _ _ ⟨rfl, rfl⟩ ⟨[], rfl, rfl, ⟨⟨rfl, ?_⟩, trivial⟩, trivial⟩
  exact bad (by simp only [Mac.ok]; omega)
 refine Br.mk (fun h3 => ?_) (fun h3 => ?_)
 ·refine EndVC.mk _ rfl _ _ ⟨rfl, rfl⟩ ⟨[], rfl, rfl, ⟨⟨rfl, ?_⟩, trivial⟩, trivial⟩
  exact bad (by simp only [Mac.ok]; omega)
 refine Br.mk (fun h4 => ?_) (fun h4 => ?_)
 ·refine EndVC.mk _ rfl _ _ ⟨rfl, rfl⟩ ⟨[], rfl, rfl, ⟨⟨rfl, ?_⟩, trivial⟩, trivial⟩
  exact bad (by simp only [Mac.ok]; omega)
 refine Br.mk (fun h5 => ?_) (fun h5 => ?_)
 ·refine EndVC.mk _ rfl _ _ ⟨rfl, rfl⟩ ⟨[], rfl, rfl, ⟨⟨rfl, ?_⟩, trivial⟩, trivial⟩
  exact bad (by simp only [Mac.ok]; omega)
 conv => whnf
 refine CallVC.pure rfl (s56 _ _ _) ?_
 refine Br.mk (fun h6 => ?_) (fun h6 => ?_)
 ·refine EndVC.mk _ rfl _ _ ⟨rfl, rfl⟩ ⟨[], rfl, rfl, ⟨⟨rfl, ?_⟩, trivial⟩, trivial⟩
  exact bad (by simp only [Mac.ok]; omega)
 conv => whnf
 refine CallVC.pure rfl (s56 _ _ _) ?_
 refine Br.mk (fun h7 => ?_) (fun h7 => ?_)
 ·refine EndVC.mk _ rfl _ _ ⟨rfl, rfl⟩ ⟨[], rfl, rfl, ⟨⟨rfl, ?_⟩, trivial⟩, trivial⟩
  exact bad (by simp only [Mac.ok]; omega)
 conv => whnf
 refine CallVC.pure rfl (s56 _ _ _) ?_
 refine Br.mk (fun h8 => ?_) (fun h8 => ?_)
 ·refine EndVC.mk _ rfl _ _ ⟨rfl, rfl⟩ ⟨[], rfl, rfl, ⟨⟨rfl, ?_⟩, trivial⟩, trivial⟩
  exact bad (by simp only [Mac.ok]; omega)
 conv => whnf
 refine CallVC.pure rfl (s56 _ _ _) ?_
 refine Br.mk (fun h9 => ?_) (fun h9 => ?_)
 ·refine EndVC.mk _ rfl _ _ ⟨rfl, rfl⟩ ⟨[], rfl, rfl, ⟨⟨rfl, ?_⟩, trivial⟩, trivial⟩
  exact bad (by simp only [Mac.ok]; omega)
 conv => whnf
 refine CallVC.pure rfl (s56 _ _ _) ?_
 refine Br.mk (fun h10 => ?_) (fun h10 => ?_)
 ·refine EndVC.mk _ rfl _ _ ⟨rfl, rfl⟩ ⟨[], rfl, rfl, ⟨⟨rfl, ?_⟩, trivial⟩, trivial⟩
  exact bad (by simp only [Mac.ok]; omega)
 refine EndVC.mk _ rfl _ _ ⟨rfl, rfl⟩ ⟨[], rfl, rfl, ⟨⟨rfl, ?_⟩, trivial⟩, trivial⟩
 exact (Mac.chk0 (by simp only [Mac.ok]; omega)).symm
theorem s21 (m : Mac) : PSpec Tryz.prog 4 [m.x] (.x (I m.chk)) := by
 refine spec_g (bodyOf Tryz.f4) [] pMix Tryz.func4 Tryz.ntmps4 [.tmp 2] ?_
 have bad : ¬ m.ok → (2 : Int) = m.chk := fun h => (Mac.chk2 h).symm
 refine Br.mk (fun h1 => ?_) (fun h1 => ?_)
 ·refine EndVC.mk _ rfl _ _ ⟨rfl, rfl⟩ ⟨[], rfl, rfl, ⟨⟨rfl, ?_⟩, trivial⟩, trivial⟩
  exact bad (by simp only [Mac.ok]; omega)
 refine Br.mk (fun h2 => ?_) (fun h2 => ?_)
 ·refine EndVC.mk _ rfl _ _ ⟨rfl, rfl⟩ ⟨[], rfl, rfl, ⟨⟨rfl, ?_⟩, trivial⟩, trivial⟩
  exact bad (by simp only [Mac.ok]; omega)
 refine Br.mk (fun h3 => ?_) (fun h3 => ?_)
 ·refine EndVC.mk _ rfl _ _ ⟨rfl, rfl⟩ ⟨[], rfl, rfl, ⟨⟨rfl, ?_⟩, trivial⟩, trivial⟩
  exact bad (by simp only [Mac.ok]; omega)
 refine Br.mk (fun h4 => ?_) (fun h4 => ?_)
 ·refine EndVC.mk _ rfl _ _ ⟨rfl, rfl⟩ ⟨[], rfl, rfl, ⟨⟨rfl, ?_⟩, trivial⟩, trivial⟩
  exact bad (by simp only [Mac.ok]; omega)
 refine Br.mk (fun h5 => ?_) (fun h5 => ?_)
 ·refine EndVC.mk _ rfl _ _ ⟨rfl, rfl⟩ ⟨[], rfl, rfl, ⟨⟨rfl, ?_⟩, trivial⟩, trivial⟩
  exact bad (by simp only [Mac.ok]; omega)
 conv => whnf
 refine CallVC.pure rfl (s58 _ _ _) ?_
 refine Br.mk (fun h6 => ?_) (fun h6 => ?_)
 ·refine EndVC.mk _ rfl _ _ ⟨rfl, rfl⟩ ⟨[], rfl, rfl, ⟨⟨rfl, ?_⟩, trivial⟩, trivial⟩
  exact bad (by simp only [Mac.ok]; omega)
 conv => whnf
 refine CallVC.pure rfl (s58 _ _ _) ?_
 refine Br.mk (fun h7 => ?_) (fun h7 => ?_)
 ·refine EndVC.mk _ rfl _ _ ⟨rfl, rfl⟩ ⟨[], rfl, rfl, ⟨⟨rfl, ?_⟩, trivial⟩, trivial⟩
  exact bad (by simp only [Mac.ok]; omega)
 conv => whnf
 refine CallVC.pure rfl (s58 _ _ _) ?_
 refine Br.mk (fun h8 => ?_) (fun h8 => ?_)
 ·refine EndVC.mk _ rfl _ _ ⟨rfl, rfl⟩ ⟨[], rfl, rfl, ⟨⟨rfl, ?_⟩, trivial⟩, trivial⟩
  exact bad (by simp only [Mac.ok]; omega)
 conv => whnf
 refine CallVC.pure rfl (s58 _ _ _) ?_
 refine Br.mk (fun h9 => ?_) (fun h9 => ?_)
 ·refine EndVC.mk _ rfl _ _ ⟨rfl, rfl⟩ ⟨[], rfl, rfl, ⟨⟨rfl, ?_⟩, trivial⟩, trivial⟩
  exact bad (by simp only [Mac.ok]; omega)
 conv => whnf
 refine CallVC.pure rfl (s58 _ _ _) ?_
 refine Br.mk (fun h10 => ?_) (fun h10 => ?_)
 ·refine EndVC.mk _ rfl _ _ ⟨rfl, rfl⟩ ⟨[], rfl, rfl, ⟨⟨rfl, ?_⟩, trivial⟩, trivial⟩
  exact bad (by simp only [Mac.ok]; omega)
 refine EndVC.mk _ rfl _ _ ⟨rfl, rfl⟩ ⟨[], rfl, rfl, ⟨⟨rfl, ?_⟩, trivial⟩, trivial⟩
 exact (Mac.chk0 (by simp only [Mac.ok]; omega)).symm
theorem Mac.chk_cases (m : Mac) : (m.ok ∧ m.chk = 0) ∨ (¬ m.ok ∧ m.chk = 2) := by
 by_cases h : m.ok
 ·exact .inl ⟨h, Mac.chk0 h⟩
 ·exact .inr ⟨h, Mac.chk2 h⟩
def inTick (m : Mac) (t v : Int) : Prop := m.room ≤ t ∧ t ≤ m.top ∧ 0 ≤ v ∧ v ≤ 2
instance (m : Mac) (t v : Int) : Decidable (inTick m t v) := by unfold inTick; exact inferInstance
noncomputable def Mac.tickV (m : Mac) (t v : Int) : Int := if m.chk = 0 then (if inTick m t v then tickF m t v else 0) else 0
noncomputable def Mac.tickE (m : Mac) (t v : Int) : Int := if m.chk = 0 then (if inTick m t v then 0 else 3) else m.chk
theorem tick_bad {m : Mac} {t v : Int} (h : ¬ m.chk = 0) : (0 : Int) = m.tickV t v ∧ m.chk = m.tickE t v := ⟨(if_neg h).symm, (if_neg h).symm⟩
theorem tick_out {m : Mac} {t v : Int} (h : ¬ ¬ m.chk = 0) (h1 : ¬ inTick m t v) : (0 : Int) = m.tickV t v ∧ (3 : Int) = m.tickE t v := by
 have h := Decidable.not_not.1 h
 exact ⟨by rw [Mac.tickV, if_pos h, if_neg h1], by rw [Mac.tickE, if_pos h, if_neg h1]⟩
theorem tick_in {m : Mac} {t v : Int} (h : ¬ ¬ m.chk = 0) (h1 : inTick m t v) : tickF m t v = m.tickV t v ∧ (0 : Int) = m.tickE t v := by
 have h := Decidable.not_not.1 h
 exact ⟨by rw [Mac.tickV, if_pos h, if_pos h1], by rw [Mac.tickE, if_pos h, if_pos h1]⟩
theorem s18 (m : Mac) (t v : Int) : PSpec Tryz.prog 16 [m.x, I t, I v] (.tup [I (m.tickV t v), I (m.tickE t v)]) := by
 refine spec_g (bodyOf Tryz.f16) [] pMix Tryz.func16 Tryz.ntmps16 [.tmp 6, .tmp 7] ?_
 conv => whnf
 refine CallVC.pure rfl (s20 m) ?_
 refine Br.mk (fun h => ?_) (fun h => ?_)
 ·refine EndVC.mk _ rfl _ _ ⟨rfl, rfl⟩ ⟨[], rfl, rfl, ⟨⟨⟨rfl, ?_⟩, ⟨rfl, ?_⟩, trivial⟩, trivial⟩, trivial⟩
  ·exact (tick_bad h).1
  ·exact (tick_bad h).2
 conv => whnf
 refine CallVC.pure rfl (s56 _ _ _) ?_
 refine Br.mk (fun h1 => ?_) (fun h1 => ?_)
 ·refine EndVC.mk _ rfl _ _ ⟨rfl, rfl⟩ ⟨[], rfl, rfl, ⟨⟨⟨rfl, ?_⟩, ⟨rfl, ?_⟩, trivial⟩, trivial⟩, trivial⟩
  ·exact (tick_out h (by unfold inTick; omega)).1
  ·exact (tick_out h (by unfold inTick; omega)).2
 conv => whnf
 refine CallVC.pure rfl (s56 _ _ _) ?_
 refine Br.mk (fun h2 => ?_) (fun h2 => ?_)
 ·refine EndVC.mk _ rfl _ _ ⟨rfl, rfl⟩ ⟨[], rfl, rfl, ⟨⟨⟨rfl, ?_⟩, ⟨rfl, ?_⟩, trivial⟩, trivial⟩, trivial⟩
  ·exact (tick_out h (by unfold inTick; omega)).1
  ·exact (tick_out h (by unfold inTick; omega)).2
 conv => whnf
 refine CallVC.pure rfl (s57 m t v (by rcases m.chk_cases with h3 | h3; exact h3.1; exact absurd (fun e => absurd (h3.2.symm.trans e) (by decide)) h) (by omega) (by omega)) ?_
 refine EndVC.mk _ rfl _ _ ⟨rfl, rfl⟩ ⟨[], rfl, rfl, ⟨⟨⟨rfl, ?_⟩, ⟨rfl, ?_⟩, trivial⟩, trivial⟩, trivial⟩
 ·exact (tick_in h (by unfold inTick; omega)).1
 ·exact (tick_in h (by unfold inTick; omega)).2
end Go.Sx.Pr

namespace Go.Sx.Pr
open Go Go.Proofs Go.Sx
set_option maxRecDepth 10000
end Go.Sx.Pr

namespace Go.Sx.Pr
open Go Go.Proofs Go.Sx
def i64s (xs : List Int) : Arr := xs.map fun x => [.int x]
theorem i64s_len (xs : List Int) : (i64s xs).length = xs.length := by simp [i64s]
set_option maxRecDepth 10000
end Go.Sx.Pr

namespace Go.Sx.Pr
open Go Go.Proofs Go.Sx
set_option maxRecDepth 10000
theorem eb : Tryz.t2.bytes = 8 := by kernel_rfl
end Go.Sx.Pr

namespace Go.Sx.Pr
open Go Go.Proofs Go.Sx
set_option maxRecDepth 10000
end Go.Sx.Pr

namespace Go.Sx.Pr
open Go Go.Proofs Go.Shelf
set_option maxRecDepth 10000
set_option maxHeartbeats 1000000
theorem e44 : EntersF Tryz.prog 44 := enters_of Tryz.func44 (c := bodyOf Tryz.f44) (by kernel_rfl) rfl
def cloneRen : Ren := ⟨fun n => if n = 5 then 44 else 69, fun n => if n = 4 then 4 else if n = 20 then 20 else if n = 23 then 59 else 2, fun n => n⟩
theorem cloneLays : SlLaysW.n5 Tryz.prog cloneRen where
 mixed := by kernel_rfl
 f5 := ⟨ "maps.Clone[map[int64]int64,int64,int64]", by decide, Tryz.func44⟩
 f7 := Tryz.func69
 t4 := Tryz.underlying4
 a4 := Tryz.isAgg4
 z4 := Tryz.sizeOf4
 v4 := Tryz.zeroValue4
 t20 := Tryz.underlying20
 a20 := Tryz.isAgg20
 z20 := Tryz.sizeOf20
 v20 := Tryz.zeroValue20
 t23 := Tryz.underlying59
 a23 := Tryz.isAgg59
 z23 := Tryz.sizeOf59
 v23 := Tryz.zeroValue59
theorem hspec_clone {P : Program} {f : FuncId} (he : EntersF P f) (hc : ∀ (b : Nat) (es : Array MapEntry) (clock : Nat) (w : World), w.heap[b]? = some (.map es clock) →
   Calls P f #[.map (some b)] w fun e w' => e = .returned (.map (some w.heap.size)) ∧ w' = w.alloc (.map es clock)) (ka va : Bool) (kk ks : List CK) (l : MapL) :
  HSpec P f [.one (.map 0)] [.mp ka va kk ks l none] (fun r m' => r = .x (.one (.map 1)) ∧ m' = [some (.mp ka va kk ks l none), some (.mp ka va kk ks l none)]) := by
 intro w R vs hargs hmem
 obtain ⟨v, hv0, hr⟩ := hargs.at 0 rfl
 have hvs : vs = #[v] := by
  have h1 : vs.size = 1 := hargs.1
  apply Array.ext (by simpa using h1)
  intro i h2 h3
  have : i = 0 := by omega
  subst this
  have := Array.getElem?_eq_getElem h2
  rw [hv0] at this
  exact (Option.some.inj this).symm
 subst hvs
 obtain ⟨hn, rfl⟩ := hr
 have hrep := hmem.rep 0 _ rfl
 obtain ⟨g, es, clock, hg, hb, hm, _⟩ := hrep
 have hfr : Fr w R [some (.mp ka va kk ks l none)] w R [some (.mp ka va kk ks l none)] := Fr.refl hmem
 have hC : Conc w R [some (.mp ka va kk ks l none)] ⟨1, [], [some (.mp ka va kk ks l none)]⟩ R ⟨#[], []⟩ w := ⟨hfr, rfl, fun i v h => by simp at h, Marks.nil .., rfl⟩
 have hG := World.grownBy_alloc w (.map es clock) none
 obtain ⟨s', hK, hC', _⟩ := hC.addBlk (K := fun id s' => s'.mem = [some (.mp ka va kk ks l none), some (.mp ka va kk ks l none)] ∧ id = 1) (b := .mp ka va kk ks l none) ⟨rfl, rfl⟩ hG (v := .map (some w.heap.size)) (fun g e => by cases e; exact Nat.le_refl _)
  ⟨w.heap.size, es, clock, Rp.add_new _ _, heap_alloc_new w _, hm, trivial⟩
 obtain ⟨hK1, hK2⟩ := hK
 refine .inl ⟨he _ _, ?_⟩
 rw [hg]
 refine (hc g es clock w hb).mono fun e w' h => ?_
 obtain ⟨rfl, rfl⟩ := h
 refine ⟨_, _, _, R.add (.map (some w.heap.size)), rfl, ⟨rfl, rfl⟩, ?_, ?_, ?_⟩
 ·rw [← hK1]; exact hC'.fr
 ·rw [← hK2]; exact Nat.lt_succ_self _
 ·rw [← hK2, Rp.add_new]
@[reducible] def mpU (l : MapL) : Blk := .mp false false [.int .i64] [.int .i64] l none
theorem s92 (l : MapL) : HSpec Tryz.prog 44 [.one (.map 0)] [mpU l] (fun r m' => r = .x (.one (.map 1)) ∧ m' = [some (mpU l), some (mpU l)]) :=
 hspec_clone e44 (fun b es clock w hb => AnyW.maps_Clone cloneLays b es clock w hb) _ _ _ _ _
end Go.Sx.Pr

namespace Go.Sx.Pr
open Go Go.Proofs Go.Sx
set_option maxRecDepth 10000
set_option maxHeartbeats 1000000
structure Pst where
 cl : Bool
 ld : Bool
 v : Int
 t : Int
 h : Int
 pk : Int
 tm : Int
 a : Int
 b : Int
structure Disc where
 ser : Int
 a : Int
 b : Int
 tm : Int
 h : Int
 pk : Int
 good : Bool
@[reducible] def Disc.x (d : Disc) : XV := .agg [.int .i64 d.ser, .int .i64 d.a, .int .i64 d.b, .int .i64 d.tm, .int .i64 d.h, .int .i64 d.pk, .bool d.good]
@[reducible] def d0 : Disc := ⟨0, 0, 0, 0, 0, 0, false⟩
@[reducible] def K7 : List CK := [.int .i64, .int .i64, .int .i64, .int .i64, .int .i64, .int .i64, .bool]
def discA (L : List Disc) : Arr := L.map fun d => [.int d.ser, .int d.a, .int d.b, .int d.tm, .int d.h, .int d.pk, .bool d.good]
theorem discA_len (L : List Disc) : (discA L).length = L.length := by simp [discA]
@[reducible] def dRow (L : List Disc) : Blk := .row 37 false K7 (discA L)
@[reducible] def bW (i j : Nat) (m : Mac) (p : Pst) : Blk := .box 63 [.bool p.cl, .bool p.ld, .int .i64 p.v, .int .i64 p.t, .int .i64 p.h, .int .i64 p.pk, .int .i64 p.tm, .int .i64 p.a, .int .i64 p.b,
 .int .i64 m.room, .int .i64 m.melt, .int .i64 m.cool, .int .i64 m.top, .int .i64 m.heat, .int .i64 m.chill, .int .i64 m.drift, .int .i64 m.hold, .int .i64 m.life, .own i, .map j]
def useC (L : List Disc) (k : Int) : Int := ((L.filter fun d => decide (d.a = k ∨ d.b = k)).length : Int)
theorem useC_bd (L : List Disc) (k : Int) : 0 ≤ useC L k ∧ useC L k ≤ L.length := by
 unfold useC
 have := List.length_filter_le (fun d : Disc => decide (d.a = k ∨ d.b = k)) L
 omega
def UsedOK (l : MapL) (L : List Disc) : Prop := ∀ k : Int, rI [mrow [.int .i64] (zeroRow [.int .i64]) l [.int k]] 0 0 = useC L k
theorem eb70 : Tryz.t37.bytes = 56 := by kernel_rfl
theorem s91 (m : Mac) (p : Pst) (L : List Disc) (l : MapL) (hl : UsedOK l L) (a b : Int) :
  HSpec Tryz.prog 43 [.one (.ptr 0 0), I a, I b] [bW 1 2 m p, dRow L, mpU l] (fun r m' => r = xP (m.life ≤ max (useC L a) (useC L b)) ∧ m' = [some (bW 1 2 m p), some (dRow L), some (mpU l)]) := by
 have h1 := hl a
 have h2 := hl b
 refine spec_g (bodyOf Tryz.f43) [] pMix Tryz.func43 Tryz.ntmps43 [.tmp 6] ?_
 repeat' ((conv => whnf); refine Mm.mk ?_)
 refine EndVC.mk _ rfl _ _ ⟨rfl, rfl⟩ ?_
 refine ⟨[some 0, some 1, some 2], rfl, rfl, ?_, ?_⟩ <;> repeat' (first | exact trivial | exact rfl | apply And.intro)
 rw [h1, h2]
 change _ ↔ _
 omega
theorem s89 (L : List Disc) (h : L.length ≤ 1000) : HSpec Tryz.prog 27 [.one (.lst true K7 (discA L))] [] (fun r m' => r = .x (.one (.own 0)) ∧ m' = [some (dRow L)]) := by
 have hl := discA_len L
 refine spec_g (bodyOf Tryz.f27) [] pMix Tryz.func27 Tryz.ntmps27 [.tmp 2] ?_
 repeat' ((conv => whnf); refine Nils.mk (fun h => ?_) ?_)
 ·refine EndVC.mk _ rfl _ _ ⟨rfl, rfl⟩ ?_
  refine ⟨[none], rfl, rfl, ?_, ?_⟩ <;> repeat' (first | exact trivial | exact rfl | apply And.intro)
  assumption
 ·refine Ob.mk (by simp only [eb70, List.length_nil]; omega) ?_
  refine EndVC.mk _ rfl _ _ ⟨rfl, rfl⟩ ?_
  refine ⟨[some 1], rfl, rfl, ?_, ?_⟩ <;> repeat' (first | exact trivial | exact rfl | apply And.intro)
theorem s86 (m : Mac) (p : Pst) (L : List Disc) (l : MapL) (h : L.length ≤ 1000) :
  HSpec Tryz.prog 26 [.one (.ptr 0 0)] [bW 1 2 m p, dRow L, mpU l] (fun r m' => r = .x (.one (.ptr 3 0)) ∧ m' = [some (bW 1 2 m p), some (dRow L), some (mpU l), some (bW 4 5 m p), some (dRow L), some (mpU l)]) := by
 refine spec_g (bodyOf Tryz.f26) ([(2, ([], ordDef 0 4 ++ ordDef 5 4 ++ [⟨4, [5, 6, 7, 8], []⟩] ++ ordDef 9 5))]) pMix Tryz.func26 Tryz.ntmps26 [.tmp 2] ?_
 repeat' ((conv => whnf); first | refine Rng.g ?_ | fail)
 conv => whnf
 refine CallVC0.mk _ _ rfl (s89 L h) (fun r m' h' => ?_)
 obtain ⟨rfl, rfl⟩ := h'
 conv => whnf
 repeat' ((conv => whnf); first | refine Rng.g ?_ | fail)
 conv => whnf
 refine CallVC.mk [2] _ _ _ rfl rfl rfl (s92 l) (fun r m' h' => ?_)
 obtain ⟨rfl, rfl⟩ := h'
 conv => whnf
 repeat' ((conv => whnf); first | refine Rng.g ?_ | fail)
 refine EndVC.mk _ rfl _ _ ⟨rfl, rfl⟩ ?_
 exact Le.g [some 0, some 1, some 2, some 3, some 4, some 5]
@[reducible] def oldP (m : Mac) (L : List Disc) (a b : Int) : Prop := m.life ≤ max (useC L a) (useC L b)
def outN (n : Int) : Prop := n < 1 ∨ 1073741824 < n
instance (n : Int) : Decidable (outN n) := by unfold outN; exact inferInstance
def errD (m : Mac) (p : Pst) (L : List Disc) (k a b : Int) : Int :=
 if k = 1 then (if outN a ∨ outN b then 3 else if a = b then 17 else if p.cl = true then 18 else if p.ld = true then 10 else if oldP m L a b then 13 else 0)
 else if k = 2 then (if p.cl = true then 18 else if p.ld = true ∨ p.a = 0 then 10 else if oldP m L p.a p.b then 13 else if L.length = 1000 then 11 else 0)
 else if k = 3 then (if p.cl = true ∨ ¬ p.ld = true then 10 else 0)
 else if k = 4 then (if a < 0 ∨ 2 < a then 3 else if a = 1 ∧ ¬ p.cl = true then 18 else 0)
 else if k = 5 then (if a < 1 ∨ 1000 < a then 3 else if 1073741824 < p.tm + a then 14 else 0)
 else if k = 6 then (if ¬ p.cl = true then 10 else if p.v = 1 ∨ m.cool < p.t then 18 else 0)
 else 2
section
variable (m : Mac) (p : Pst) (L : List Disc) (a b : Int)
theorem errD1 : errD m p L 1 a b = if outN a ∨ outN b then 3 else if a = b then 17 else if p.cl = true then 18 else if p.ld = true then 10 else if oldP m L a b then 13 else 0 := rfl
theorem errD2 : errD m p L 2 a b = if p.cl = true then 18 else if p.ld = true ∨ p.a = 0 then 10 else if oldP m L p.a p.b then 13 else if L.length = 1000 then 11 else 0 := rfl
theorem errD3 : errD m p L 3 a b = if p.cl = true ∨ ¬ p.ld = true then 10 else 0 := rfl
theorem errD4 : errD m p L 4 a b = if a < 0 ∨ 2 < a then 3 else if a = 1 ∧ ¬ p.cl = true then 18 else 0 := rfl
theorem errD5 : errD m p L 5 a b = if a < 1 ∨ 1000 < a then 3 else if 1073741824 < p.tm + a then 14 else 0 := rfl
theorem errD6 : errD m p L 6 a b = if ¬ p.cl = true then 10 else if p.v = 1 ∨ m.cool < p.t then 18 else 0 := rfl
end
def tickS (m : Mac) (p : Pst) : Pst :=
 let t := tickF m p.t p.v
 { p with t := t, pk := if p.cl = true then max p.pk t else p.pk, h := if p.cl = true ∧ m.melt ≤ t then p.h + 1 else p.h }
def waitS (m : Mac) : Nat → Pst → Pst
 | 0, p => p
 | n + 1, p => tickS m (waitS m n p)
def discD (m : Mac) (p : Pst) (L : List Disc) : Disc := ⟨(L.length : Int) + 1, p.a, p.b, p.tm, p.h, p.pk, decide (m.hold ≤ p.h)⟩
def nextP (m : Mac) (p : Pst) (k a b : Int) : Pst :=
 if k = 1 then { p with a := a, b := b }
 else if k = 2 then { p with ld := true }
 else if k = 3 then { p with cl := true, h := 0, pk := p.t }
 else if k = 4 then { p with v := a }
 else if k = 5 then waitS m a.toNat { p with tm := p.tm + a }
 else if k = 6 then { p with cl := false, ld := false }
 else p
def nextL (m : Mac) (p : Pst) (L : List Disc) (k : Int) : List Disc := if k = 6 then L ++ [discD m p L] else L
def outD (m : Mac) (p : Pst) (L : List Disc) (k : Int) : Disc := if k = 6 then discD m p L else d0
structure PInv (m : Mac) (p : Pst) (L : List Disc) : Prop where
 ok : m.ok
 t : m.room ≤ p.t ∧ p.t ≤ m.top
 ld : p.ld = true → 1 ≤ p.a ∧ 1 ≤ p.b ∧ p.a ≠ p.b
 cl : p.cl = true → p.ld = true
 len : L.length ≤ 1000
 lt : p.ld = true → L.length < 1000
 tm : 0 ≤ p.tm ∧ p.tm ≤ 1073741824
 h : 0 ≤ p.h ∧ p.h ≤ p.tm
 pk : 0 ≤ p.pk ∧ p.pk ≤ 400
 v : 0 ≤ p.v ∧ p.v ≤ 2
 steam : p.v = 1 → p.cl = true
 ab : 0 ≤ p.a ∧ p.a ≤ 1073741824 ∧ 0 ≤ p.b ∧ p.b ≤ 1073741824
 use : ∀ k, useC L k ≤ m.life
 ldu : p.ld = true → ¬ oldP m L p.a p.b
 mt : p.a ≠ 0 → 1 ≤ p.a ∧ 1 ≤ p.b ∧ p.a ≠ p.b
def MRs (m : Mac) (p : Pst) (L : List Disc) (k a b : Int) (r : AV) (m' : List (Option Blk)) : Prop :=
 ∃ p' L' l' d, r = .tup [d.x, I (errD m p L k a b)] ∧ (m' = [some (bW 1 2 m p'), some (dRow L'), some (mpU l')] ∨ m' = [some (bW 3 2 m p'), none, some (mpU l'), some (dRow L')]) ∧ (errD m p L k a b = 0 → p' = nextP m p k a b ∧ L' = nextL m p L k ∧ d = outD m p L k ∧ UsedOK l' L')
theorem MRs.err {m : Mac} {p : Pst} {L : List Disc} {k a b e : Int} (he : errD m p L k a b = e) (h0 : e ≠ 0) (p' : Pst) (L' : List Disc) (l' : MapL) (d : Disc) : MRs m p L k a b (.tup [d.x, I e]) [some (bW 1 2 m p'), some (dRow L'), some (mpU l')] :=
 ⟨p', L', l', d, by rw [he], .inl rfl, fun h => absurd (he.symm.trans h) h0⟩
theorem MRs.ok {m : Mac} {p : Pst} {L : List Disc} {k a b : Int} (he : errD m p L k a b = 0) {p' : Pst} {L' : List Disc} {l' : MapL} {d : Disc} (h1 : p' = nextP m p k a b) (h2 : L' = nextL m p L k) (h3 : d = outD m p L k) (h4 : UsedOK l' L') :
  MRs m p L k a b (.tup [d.x, I 0]) [some (bW 1 2 m p'), some (dRow L'), some (mpU l')] := ⟨p', L', l', d, by rw [he], .inl rfl, fun _ => ⟨h1, h2, h3, h4⟩⟩
theorem MRs.ok2 {m : Mac} {p : Pst} {L : List Disc} {k a b : Int} (he : errD m p L k a b = 0) {p' : Pst} {L' : List Disc} {l' : MapL} {d : Disc} (h1 : p' = nextP m p k a b) (h2 : L' = nextL m p L k) (h3 : d = outD m p L k) (h4 : UsedOK l' L') :
  MRs m p L k a b (.tup [d.x, I 0]) [some (bW 3 2 m p'), none, some (mpU l'), some (dRow L')] := ⟨p', L', l', d, by rw [he], .inr rfl, fun _ => ⟨h1, h2, h3, h4⟩⟩
theorem s80 (m : Mac) (p : Pst) (L : List Disc) (l : MapL) (hl : UsedOK l L) (k a b : Int) :
  HSpec Tryz.prog 20 [.one (.ptr 0 0), .agg [.int .i64 k, .int .i64 a, .int .i64 b]] [bW 1 2 m p, dRow L, mpU l] (MRs m p L 1 a b) := by
 have e1 : outN a ∨ outN b → errD m p L 1 a b = 3 := fun h => by rw [errD1, if_pos h]
 refine spec_g (bodyOf Tryz.f20) ([(11, ([], ordDef 0 9 ++ [⟨9, [1, 4, 5], []⟩] ++ ordDef 10 4))]) pMix Tryz.func20 Tryz.ntmps20 [.cell 4 37, .tmp 5] ?_
 repeat' ((conv => whnf); first | refine JoinVC.on ?_ | refine CallVC.pure rfl (s56 _ _ _) ?_ | refine Br.mk (fun h => ?_) fun h => ?_)
 ·conv => whnf
  refine EndVC.mk _ rfl _ _ (MRs.err (e1 (.inl (by assumption))) (by decide) { p with a := a, b := b } L l d0) ?_
  exact Le.g [some 0, some 1, some 2]
 ·conv => whnf
  refine EndVC.mk _ rfl _ _ (MRs.err (e1 (.inr (by assumption))) (by decide) { p with a := a, b := b } L l d0) ?_
  exact Le.g [some 0, some 1, some 2]
 all_goals
  have h1 : ¬ (outN a ∨ outN b) := by unfold outN; omega
  clear e1
 ·have e : errD m p L 1 a b = 17 := by rw [errD1, if_neg h1, if_pos (by assumption)]
  conv => whnf
  refine EndVC.mk _ rfl _ _ (MRs.err e (by decide) { p with a := a, b := b } L l d0) ?_
  exact Le.g [some 0, some 1, some 2]
 all_goals
  have h2 : ¬ a = b := by assumption
 ·have e : errD m p L 1 a b = 18 := by rw [errD1, if_neg h1, if_neg h2, if_pos (by assumption)]
  conv => whnf
  refine EndVC.mk _ rfl _ _ (MRs.err e (by decide) { p with a := a, b := b } L l d0) ?_
  exact Le.g [some 0, some 1, some 2]
 all_goals
  have h3 : ¬ p.cl = true := by assumption
 ·have e : errD m p L 1 a b = 10 := by rw [errD1, if_neg h1, if_neg h2, if_neg h3, if_pos (by assumption)]
  conv => whnf
  refine EndVC.mk _ rfl _ _ (MRs.err e (by decide) { p with a := a, b := b } L l d0) ?_
  exact Le.g [some 0, some 1, some 2]
 have h4 : ¬ p.ld = true := by assumption
 conv => whnf
 refine CallVC.mk [0, 1, 2] _ _ _ rfl rfl rfl (s91 m p L l hl a b) (fun r m' h' => ?_)
 obtain ⟨rfl, rfl⟩ := h'
 conv => whnf
 repeat' ((conv => whnf); first | refine JoinVC.on ?_ | refine Br.mk (fun h => ?_) fun h => ?_)
 ·have e : errD m p L 1 a b = 13 := by rw [errD1, if_neg h1, if_neg h2, if_neg h3, if_neg h4, if_pos (by assumption)]
  conv => whnf
  refine EndVC.mk _ rfl _ _ (MRs.err e (by decide) { p with a := a, b := b } L l d0) ?_
  exact Le.g [some 0, some 1, some 2]
 ·have e : errD m p L 1 a b = 0 := by rw [errD1, if_neg h1, if_neg h2, if_neg h3, if_neg h4, if_neg (by assumption)]
  conv => whnf
  refine EndVC.mk _ rfl _ _ (MRs.ok e (p' := { p with a := a, b := b }) (L' := L) (l' := l) (d := d0) rfl rfl rfl hl) ?_
  exact Le.g [some 0, some 1, some 2]
end Go.Sx.Pr

namespace Go.Sx.Pr
open Go Go.Proofs Go.Sx
set_option maxRecDepth 10000
set_option maxHeartbeats 1000000
theorem s81 (m : Mac) (p : Pst) (L : List Disc) (l : MapL) (hl : UsedOK l L) (k a b : Int) (a' b' : Int) :
  HSpec Tryz.prog 21 [.one (.ptr 0 0), .agg [.int .i64 k, .int .i64 a, .int .i64 b]] [bW 1 2 m p, dRow L, mpU l] (MRs m p L 2 a' b') := by
 have lL := discA_len L
 refine spec_g (bodyOf Tryz.f21) [] pMix Tryz.func21 Tryz.ntmps21 [.cell 4 37, .tmp 5] ?_
 repeat' ((conv => whnf); first | refine JoinVC.on ?_ | refine Br.mk (fun h => ?_) fun h => ?_)
 ·have e : errD m p L 2 a' b' = 18 := by rw [errD2, if_pos (by assumption)]
  conv => whnf
  refine EndVC.mk _ rfl _ _ (MRs.err e (by decide) { p with ld := true } L l d0) ?_
  exact Le.g [some 0, some 1, some 2]
 ·have e : errD m p L 2 a' b' = 10 := by rw [errD2, if_neg (by assumption), if_pos (.inl (by assumption))]
  conv => whnf
  refine EndVC.mk _ rfl _ _ (MRs.err e (by decide) { p with ld := true } L l d0) ?_
  exact Le.g [some 0, some 1, some 2]
 ·have e : errD m p L 2 a' b' = 10 := by rw [errD2, if_neg (by assumption), if_pos (.inr (by assumption))]
  conv => whnf
  refine EndVC.mk _ rfl _ _ (MRs.err e (by decide) { p with ld := true } L l d0) ?_
  exact Le.g [some 0, some 1, some 2]
 have h3 : ¬ p.cl = true := by assumption
 have h4 : ¬ (p.ld = true ∨ p.a = 0) := fun h => h.elim (by assumption) (by assumption)
 conv => whnf
 refine CallVC.mk [0, 1, 2] _ _ _ rfl rfl rfl (s91 m p L l hl p.a p.b) (fun r m' h' => ?_)
 obtain ⟨rfl, rfl⟩ := h'
 conv => whnf
 repeat' ((conv => whnf); first | refine JoinVC.on ?_ | refine Br.mk (fun h => ?_) fun h => ?_)
 ·have e : errD m p L 2 a' b' = 13 := by rw [errD2, if_neg h3, if_neg h4, if_pos (by assumption)]
  conv => whnf
  refine EndVC.mk _ rfl _ _ (MRs.err e (by decide) { p with ld := true } L l d0) ?_
  exact Le.g [some 0, some 1, some 2]
 ·have e : errD m p L 2 a' b' = 11 := by rw [errD2, if_neg h3, if_neg h4, if_neg (by assumption), if_pos (by omega)]
  conv => whnf
  refine EndVC.mk _ rfl _ _ (MRs.err e (by decide) { p with ld := true } L l d0) ?_
  exact Le.g [some 0, some 1, some 2]
 ·have e : errD m p L 2 a' b' = 0 := by rw [errD2, if_neg h3, if_neg h4, if_neg (by assumption), if_neg (by omega)]
  conv => whnf
  refine EndVC.mk _ rfl _ _ (MRs.ok e (p' := { p with ld := true }) (L' := L) (l' := l) (d := d0) rfl rfl rfl hl) ?_
  exact Le.g [some 0, some 1, some 2]
theorem s82 (m : Mac) (p : Pst) (L : List Disc) (l : MapL) (hl : UsedOK l L) (k a b : Int) (a' b' : Int) :
  HSpec Tryz.prog 22 [.one (.ptr 0 0), .agg [.int .i64 k, .int .i64 a, .int .i64 b]] [bW 1 2 m p, dRow L, mpU l] (MRs m p L 3 a' b') := by
 refine spec_g (bodyOf Tryz.f22) [] pMix Tryz.func22 Tryz.ntmps22 [.cell 4 37, .tmp 5] ?_
 repeat' ((conv => whnf); first | refine JoinVC.on ?_ | refine Br.mk (fun h => ?_) fun h => ?_)
 ·have e : errD m p L 3 a' b' = 10 := by rw [errD3, if_pos (.inl (by assumption))]
  conv => whnf
  refine EndVC.mk _ rfl _ _ (MRs.err e (by decide) { p with cl := true, h := 0, pk := p.t } L l d0) ?_
  exact Le.g [some 0, some 1, some 2]
 ·have e : errD m p L 3 a' b' = 10 := by rw [errD3, if_pos (.inr (by simpa using ‹(!p.ld) = true›))]
  conv => whnf
  refine EndVC.mk _ rfl _ _ (MRs.err e (by decide) { p with cl := true, h := 0, pk := p.t } L l d0) ?_
  exact Le.g [some 0, some 1, some 2]
 ·have e : errD m p L 3 a' b' = 0 := by rw [errD3, if_neg (fun h => h.elim (by assumption) (by simpa using ‹¬ (!p.ld) = true›))]
  conv => whnf
  refine EndVC.mk _ rfl _ _ (MRs.ok e (p' := { p with cl := true, h := 0, pk := p.t }) (L' := L) (l' := l) (d := d0) rfl rfl rfl hl) ?_
  exact Le.g [some 0, some 1, some 2]
theorem s83 (m : Mac) (p : Pst) (L : List Disc) (l : MapL) (hl : UsedOK l L) (k a b : Int) :
  HSpec Tryz.prog 23 [.one (.ptr 0 0), .agg [.int .i64 k, .int .i64 a, .int .i64 b]] [bW 1 2 m p, dRow L, mpU l] (MRs m p L 4 a b) := by
 refine spec_g (bodyOf Tryz.f23) [] pMix Tryz.func23 Tryz.ntmps23 [.cell 4 37, .tmp 5] ?_
 repeat' ((conv => whnf); first | refine JoinVC.on ?_ | refine CallVC.pure rfl (s56 _ _ _) ?_ | refine Br.mk (fun h => ?_) fun h => ?_)
 ·have e : errD m p L 4 a b = 3 := by rw [errD4, if_pos (by assumption)]
  conv => whnf
  refine EndVC.mk _ rfl _ _ (MRs.err e (by decide) { p with v := a } L l d0) ?_
  exact Le.g [some 0, some 1, some 2]
 ·have e : errD m p L 4 a b = 18 := by rw [errD4, if_neg (by assumption), if_pos ⟨by assumption, by simpa using ‹(!p.cl) = true›⟩]
  conv => whnf
  refine EndVC.mk _ rfl _ _ (MRs.err e (by decide) { p with v := a } L l d0) ?_
  exact Le.g [some 0, some 1, some 2]
 ·have e : errD m p L 4 a b = 0 := by rw [errD4, if_neg (by assumption), if_neg (fun h => h.2 (by simpa using ‹¬ (!p.cl) = true›))]
  conv => whnf
  refine EndVC.mk _ rfl _ _ (MRs.ok e (p' := { p with v := a }) (L' := L) (l' := l) (d := d0) rfl rfl rfl hl) ?_
  exact Le.g [some 0, some 1, some 2]
 ·have e : errD m p L 4 a b = 0 := by rw [errD4, if_neg (by assumption), if_neg (fun h => absurd h.1 (by assumption))]
  conv => whnf
  refine EndVC.mk _ rfl _ _ (MRs.ok e (p' := { p with v := a }) (L' := L) (l' := l) (d := d0) rfl rfl rfl hl) ?_
  exact Le.g [some 0, some 1, some 2]
structure WaitK (m : Mac) (p q : Pst) (n : Nat) : Prop where
 cl : q.cl = p.cl
 ld : q.ld = p.ld
 v : q.v = p.v
 tm : q.tm = p.tm
 a : q.a = p.a
 b : q.b = p.b
 t : m.room ≤ q.t ∧ q.t ≤ m.top
 h : p.h ≤ q.h ∧ q.h ≤ p.h + n
 pk : p.pk ≤ q.pk ∧ q.pk ≤ max p.pk m.top
theorem tickF_bd {m : Mac} (hm : m.ok) {t v : Int} (ht : m.room ≤ t ∧ t ≤ m.top) : m.room ≤ tickF m t v ∧ tickF m t v ≤ m.top := by
 obtain ⟨m1, m2, m3, m4, m5, m6, m7, m8, m9, m10, m11, m12, m13, m14, m15⟩ := hm
 unfold tickF
 split
 ·split <;> omega
 ·split <;> split <;> omega
theorem waitK {m : Mac} (hm : m.ok) {p : Pst} (ht : m.room ≤ p.t ∧ p.t ≤ m.top) : ∀ n, WaitK m p (waitS m n p) n
 | 0 => ⟨rfl, rfl, rfl, rfl, rfl, rfl, ht, by simp [waitS], by simp only [waitS]; omega⟩
 | n + 1 => by
  have h := waitK hm ht n
  have hb := tickF_bd hm (v := (waitS m n p).v) h.t
  have h1 := h.h
  have h2 := h.pk
  refine ⟨h.cl, h.ld, h.v, h.tm, h.a, h.b, hb, ?_, ?_⟩
  ·simp only [waitS, tickS]
   split <;> omega
  ·simp only [waitS, tickS]
   split <;> omega
theorem s84 (m : Mac) (p : Pst) (L : List Disc) (l : MapL) (hl : UsedOK l L) (k a b : Int) (hm : m.ok) (ht : m.room ≤ p.t ∧ p.t ≤ m.top) (hh : 0 ≤ p.h ∧ p.h ≤ 1073741824) (htm : 0 ≤ p.tm ∧ p.tm ≤ 1073741824) :
  HSpec Tryz.prog 24 [.one (.ptr 0 0), .agg [.int .i64 k, .int .i64 a, .int .i64 b]] [bW 1 2 m p, dRow L, mpU l] (MRs m p L 5 a b) := by
 refine spec_g (bodyOf Tryz.f24) ([(8, ([], ordDef 0 15 ++ [⟨15, [0], []⟩] ++ ordDef 16 4))]) pMix Tryz.func24 Tryz.ntmps24 [.cell 4 37, .tmp 5] ?_
 repeat' ((conv => whnf); first | refine Rng.g ?_ | refine CallVC.pure rfl (s56 _ _ _) ?_ | refine Br.mk (fun h => ?_) fun h => ?_)
 ·have e : errD m p L 5 a b = 3 := by rw [errD5, if_pos (by assumption)]
  conv => whnf
  refine EndVC.mk _ rfl _ _ (MRs.err e (by decide) p L l d0) ?_
  exact Le.g [some 0, some 1, some 2]
 ·have e : errD m p L 5 a b = 14 := by rw [errD5, if_neg (by assumption), if_pos (by omega)]
  conv => whnf
  refine EndVC.mk _ rfl _ _ (MRs.err e (by decide) p L l d0) ?_
  exact Le.g [some 0, some 1, some 2]
 have e : errD m p L 5 a b = 0 := by rw [errD5, if_neg (by assumption), if_neg (by omega)]
 refine LoopVC.mk (fun n st => ∃ i : Nat, (i : Int) ≤ a ∧ n = a.toNat - i ∧ st = ⟨3, envA 99 [(0, .x (.one (.ptr 0 0))), (4, .x (.one (.ptr 4 0))), (34, .int .i64 a), (35, .int .i64 (i : Int))], [some (bW 1 2 m (waitS m i { p with tm := p.tm + a })), some (dRow L), some (mpU l), none, some (.box 37 [.int .i64 0, .int .i64 0, .int .i64 0, .int .i64 0, .int .i64 0, .int .i64 0, .ff])]⟩) _ _ ⟨0, by omega, rfl, rfl⟩ ?_ ?_
 ·exact Le.g [some 0, some 1, some 2, none, some 4]
 rintro n _ ⟨i, hi, hn, rfl⟩
 have hW := waitK hm (p := { p with tm := p.tm + a }) ht i
 obtain ⟨w1, w2, w3, w4, w5, w6, w7, w8, w9⟩ := hW
 simp only at w1 w2 w3 w4 w5 w6 w7 w8 w9
 obtain ⟨q, hq⟩ : ∃ q, q = waitS m i { p with tm := p.tm + a } := ⟨_, rfl⟩
 rw [← hq] at w1 w2 w3 w4 w5 w6 w7 w8 w9 ⊢
 have hq1 : waitS m (i + 1) { p with tm := p.tm + a } = tickS m q := by rw [waitS, hq]
 have hb := tickF_bd hm (v := q.v) w7
 have b3 : 0 ≤ m.room ∧ m.top ≤ 400 := ⟨hm.1, hm.2.2.2.2.1⟩
 by_cases hi' : (i : Int) < a
 ·have hc : q.cl = true → (!q.cl) = false := fun h => by rw [h]; rfl
  have hc' : ¬ q.cl = true → (!q.cl) = true := fun h => by simpa using h
  by_cases c1 : q.cl = true
  all_goals by_cases c2 : m.melt ≤ tickF m q.t q.v
  all_goals
   repeat' ((conv => whnf); first | refine Rng.g ?_ | refine JoinVC.on ?_ | refine Mm.mk ?_ | refine CallVC.pure rfl (s57 m q.t q.v hm w7.1 w7.2) ?_ | refine Br.t (fun h => ?_) | refine Br.f (fun h => ?_) | refine Br.mk (fun h => ?_) fun h => ?_)
  all_goals
   refine Back.mk (a.toNat - (i + 1)) _ (by omega) ⟨i + 1, by omega, rfl, rfl⟩ ?_
   refine ⟨[some 0, some 1, some 2, none, some 4], rfl, rfl, ?_, ?_⟩ <;> repeat' (first | exact trivial | exact rfl | apply And.intro)
  all_goals
   rw [hq1]
  all_goals
   first
   | rfl
   | (simp only [tickS, c1, c2, if_true, if_false, and_true, and_false] <;> first | rfl | omega | (split <;> omega))
   | (have h8 := ‹(!q.cl) = true›; rw [c1] at h8; exact absurd h8 (by decide))
   | exact absurd (hc' c1) ‹¬ (!q.cl) = true›
   | exact absurd c2 ‹¬ m.melt ≤ tickF m q.t q.v›
   | exact absurd ‹m.melt ≤ tickF m q.t q.v› c2
 ·have hia : i = a.toNat := by omega
  repeat' ((conv => whnf); refine Br.f (fun h => ?_))
  conv => whnf
  refine EndVC.mk _ rfl _ _ (MRs.ok e (p' := q) (L' := L) (l' := l) (d := d0) (by rw [hq, hia]; rfl) rfl rfl hl) ?_
  exact Le.g [some 0, some 1, some 2]
theorem useC_snoc (L : List Disc) (d : Disc) (k : Int) : useC (L ++ [d]) k = useC L k + (if d.a = k ∨ d.b = k then 1 else 0) := by
 unfold useC
 rw [List.filter_append, List.length_append]
 by_cases h : d.a = k ∨ d.b = k
 ·rw [if_pos h]; simp [h]
 ·rw [if_neg h]; simp [h]
theorem keyEq1 (c : List Cell) (a : Int) : keyEq [.int .i64] c [.int a] = match c with | [] => false | x :: _ => decide (x.toInt = a) := by
 cases c with
 | nil => rfl
 | cons x c => simp [keyEq, cellEq]; rfl
theorem mfind_mput1 (a b : Int) (v : List Cell) : ∀ (l : MapL), mfind [.int .i64] (mput [.int .i64] l [.int a] v) [.int b] = if a = b then some v else mfind [.int .i64] l [.int b]
 | [] => by
  simp only [mput, mfind, keyEq1]
  by_cases h : a = b <;> simp [h, Cell.toInt]
 | p :: l => by
  have ih := mfind_mput1 a b v l
  simp only [mput]
  cases h1 : keyEq [.int .i64] p.1 [.int a] with
  | true =>
   simp only [mfind]
   by_cases h : a = b
   ·subst h; simp [keyEq1, Cell.toInt]
   ·rw [keyEq1] at h1
    have h2 : keyEq [.int .i64] p.1 [.int b] = false := by
     rw [keyEq1]
     cases hp : p.1 with
     | nil => rfl
     | cons x c => rw [hp] at h1; simp only [decide_eq_true_eq] at h1; simp; omega
    rw [h2]
    simp [keyEq1, Cell.toInt, h]
  | false =>
   simp only [mfind]
   cases h2 : keyEq [.int .i64] p.1 [.int b] with
   | true =>
    have : a ≠ b := fun h => by rw [h, h2] at h1; cases h1
    simp [this]
   | false => simpa using ih
theorem mrow_mput1 (a b : Int) (v z : List Cell) (l : MapL) : mrow [.int .i64] z (mput [.int .i64] l [.int a] v) [.int b] = if a = b then v else mrow [.int .i64] z l [.int b] := by
 unfold mrow
 rw [mfind_mput1]
 split <;> rfl
theorem rI1 (n : Int) : rI [[Cell.int n]] 0 0 = n := rfl
theorem s85 (m : Mac) (p : Pst) (L : List Disc) (l : MapL) (hl : UsedOK l L) (k a b : Int) (a' b' : Int) (hI : PInv m p L) :
  HSpec Tryz.prog 25 [.one (.ptr 0 0), .agg [.int .i64 k, .int .i64 a, .int .i64 b]] [bW 1 2 m p, dRow L, mpU l] (MRs m p L 6 a' b') := by
 refine spec_g (bodyOf Tryz.f25) ([(6, ([], ordDef 0 5 ++ [⟨5, [], [6]⟩, ⟨6, [], []⟩, ⟨7, [0], []⟩] ++ ordDef 8 3))]) pMix Tryz.func25 Tryz.ntmps25 [.cell 4 37, .tmp 5] ?_
 repeat' ((conv => whnf); first | (refine Br.mk (fun h => ?_) (fun h => ?_) <;> first | (exfalso; omega; done) | (exfalso; simp at h; done) | skip))
 ·have e : errD m p L 6 a' b' = 10 := by rw [errD6, if_pos (by simpa using ‹(!p.cl) = true›)]
  conv => whnf
  refine EndVC.mk _ rfl _ _ (MRs.err e (by decide) p L l d0) ?_
  exact Le.g [some 0, some 1, some 2]
 ·have e : errD m p L 6 a' b' = 18 := by rw [errD6, if_neg (by simpa using ‹¬ (!p.cl) = true›), if_pos (.inl (by assumption))]
  conv => whnf
  refine EndVC.mk _ rfl _ _ (MRs.err e (by decide) p L l d0) ?_
  exact Le.g [some 0, some 1, some 2]
 ·have e : errD m p L 6 a' b' = 18 := by rw [errD6, if_neg (by simpa using ‹¬ (!p.cl) = true›), if_pos (.inr (by assumption))]
  conv => whnf
  refine EndVC.mk _ rfl _ _ (MRs.err e (by decide) p L l d0) ?_
  exact Le.g [some 0, some 1, some 2]
 have hcl : p.cl = true := by simpa using ‹¬ (!p.cl) = true›
 have e : errD m p L 6 a' b' = 0 := by rw [errD6, if_neg (fun h => h hcl), if_neg (fun h => h.elim (by assumption) (by assumption))]
 have hld := hI.cl hcl
 have hlt := hI.lt hld
 have hab := hI.ld hld
 have hu1 := useC_bd L p.a
 have hu2 := useC_bd L p.b
 have lL := discA_len L
 have hA := hl p.a
 have hB := hl p.b
 repeat' ((conv => whnf); first | refine Rng.g ?_ | fail)
 refine Ob.mk (by simp only [lL, eb70, List.length_cons, List.length_nil]; omega) ?_
 conv => whnf
 rw [hA]
 repeat' ((conv => whnf); first | refine Rng.g ?_ | fail)
 conv => whnf
 rw [mrow_mput1, if_neg hab.2.2, hB]
 repeat' ((conv => whnf); first | refine Rng.g ?_ | fail)
 have hd : discA L ++ [[Cell.int (↑(List.length (discA L)) + 1), Cell.int p.a, Cell.int p.b, Cell.int p.tm, Cell.int p.h, Cell.int p.pk, Cell.bool (decide (m.hold ≤ p.h))]] = discA (L ++ [discD m p L]) := by
  rw [lL]; simp [discA, discD]
 rw [hd]
 have hU : UsedOK (mput [.int .i64] (mput [.int .i64] l [.int p.a] [.int (useC L p.a + 1)]) [.int p.b] [.int (useC L p.b + 1)]) (L ++ [discD m p L]) := fun k => by
  have hk := hl k
  have hs : useC (L ++ [discD m p L]) k = useC L k + (if p.a = k ∨ p.b = k then 1 else 0) := useC_snoc ..
  rw [mrow_mput1, mrow_mput1, hs]
  by_cases h2 : p.b = k
  ·rw [if_pos h2, if_pos (.inr h2), rI1, h2]
  ·rw [if_neg h2]
   by_cases h1 : p.a = k
   ·rw [if_pos h1, if_pos (.inl h1), rI1, h1]
   ·rw [if_neg h1, if_neg (fun h => h.elim h1 h2), hk]; omega
 conv => whnf
 refine EndVC.mk _ rfl _ _ (MRs.ok2 e (p' := { p with cl := false, ld := false }) (L' := L ++ [discD m p L]) (l' := mput [.int .i64] (mput [.int .i64] l [.int p.a] [.int (useC L p.a + 1)]) [.int p.b] [.int (useC L p.b + 1)]) (d := discD m p L) rfl rfl rfl hU) ?_
 refine ⟨[some 0, none, some 2, some 6], rfl, rfl, ?_, ?_⟩ <;> repeat' (first | exact trivial | exact rfl | apply And.intro)
 exact congrArg (· + 1) (congrArg Int.ofNat lL)
end Go.Sx.Pr

namespace Go.Sx.Pr
open Go Go.Proofs Go.Sx
set_option maxRecDepth 10000
set_option maxHeartbeats 1000000
@[reducible] def bP (i : Nat) : Blk := .box 65 [.ptr i 0]
def DRs (m : Mac) (p : Pst) (L : List Disc) (l : MapL) (k a b : Int) (r : AV) (m' : List (Option Blk)) : Prop :=
 (errD m p L k a b = 0 ∧ ∃ l', UsedOK l' (nextL m p L k) ∧ r = .tup [(outD m p L k).x, I 0] ∧ m' = [some (bP 4), none, none, none, some (bW 5 6 m (nextP m p k a b)), some (dRow (nextL m p L k)), some (mpU l')]) ∨
 (errD m p L k a b ≠ 0 ∧ r = .tup [d0.x, I (errD m p L k a b)] ∧ m' = [some (bP 1), some (bW 2 3 m p), some (dRow L), some (mpU l)])
theorem DRs.ok {m : Mac} {p : Pst} {L : List Disc} {l : MapL} {k a b : Int} (e : errD m p L k a b = 0) {p' : Pst} {L' : List Disc} {d : Disc} {l' : MapL} (h : p' = nextP m p k a b ∧ L' = nextL m p L k ∧ d = outD m p L k ∧ UsedOK l' L') :
  DRs m p L l k a b (.tup [d.x, I 0]) [some (bP 4), none, none, none, some (bW 5 6 m p'), some (dRow L'), some (mpU l')] := by
 obtain ⟨hp, hL, hd, hu⟩ := h
 exact .inl ⟨e, l', hL ▸ hu, by rw [hd], by rw [hp, hL]⟩
theorem DRs.err {m : Mac} {p : Pst} {L : List Disc} {l : MapL} {k a b : Int} (e : errD m p L k a b ≠ 0) :
  DRs m p L l k a b (.tup [d0.x, I (errD m p L k a b)]) [some (bP 1), some (bW 2 3 m p), some (dRow L), some (mpU l)] := .inr ⟨e, rfl, rfl⟩
theorem s41 (m : Mac) (p : Pst) (L : List Disc) (l : MapL) (hl : UsedOK l L) (hI : PInv m p L) (k a b : Int) :
  HSpec Tryz.prog 7 [.one (.ptr 0 0), .agg [.int .i64 k, .int .i64 a, .int .i64 b]] [bP 1, bW 2 3 m p, dRow L, mpU l] (DRs m p L l k a b) := by
 by_cases hk : k < 1 ∨ 6 < k
 ·have e : errD m p L k a b = 2 := by unfold errD; rw [if_neg (by omega), if_neg (by omega), if_neg (by omega), if_neg (by omega), if_neg (by omega), if_neg (by omega)]
  refine spec_g (bodyOf Tryz.f7) ([(7, ([10], ordDef 0 11 ++ [⟨11, [9], []⟩, ⟨12, [], []⟩]))]) pMix Tryz.func7 Tryz.ntmps7 [.cell 4 37, .tmp 5] ?_
  repeat' ((conv => whnf); first | refine Br.t (fun h => ?_) | refine Br.f (fun h => ?_) | (refine Br.mk (fun h => ?_) (fun h => ?_) <;> first | (exfalso; omega; done) | (exfalso; simp at h; done) | skip))
  all_goals
   conv => whnf
   refine EndVC.mk _ rfl _ _ (DRs.err (by rw [e]; decide)) ?_
   refine ⟨[some 0, some 1, some 2, some 3], rfl, rfl, ?_, ?_⟩ <;> repeat' (first | exact trivial | exact rfl | apply And.intro)
   exact e.symm
 have hk6 : k = 1 ∨ k = 2 ∨ k = 3 ∨ k = 4 ∨ k = 5 ∨ k = 6 := by omega
 clear hk
 rcases hk6 with rfl | rfl | rfl | rfl | rfl | rfl
 ·refine spec_g (bodyOf Tryz.f7) ([(7, ([10], ordDef 0 11 ++ [⟨11, [9], []⟩, ⟨12, [], []⟩]))]) pMix Tryz.func7 Tryz.ntmps7 [.cell 4 37, .tmp 5] ?_
  repeat' ((conv => whnf); first | refine Br.f (fun h => ?_) | (refine Br.mk (fun h => ?_) (fun h => ?_) <;> first | (exfalso; omega; done) | (exfalso; simp at h; done) | skip))
  conv => whnf
  refine CallVC.mk [1, 2, 3] _ _ _ rfl rfl rfl (s86 m p L l hI.len) (fun r m' h' => ?_)
  obtain ⟨rfl, rfl⟩ := h'
  conv => whnf
  repeat' ((conv => whnf); first | refine Ob.g ?_ | fail)
  conv => whnf
  refine CallVC.mk [7, 8, 9] _ _ _ rfl rfl rfl (s80 m p L l hl 1 a b) (fun r m' h' => ?_)
  obtain ⟨p', L', l', d, rfl, rfl | rfl, hx⟩ := h'
  ·by_cases e : errD m p L 1 a b = 0
   ·repeat' ((conv => whnf); refine Br.f (fun h => ?_))
    conv => whnf
    refine EndVC.mk _ rfl _ _ (DRs.ok e (hx e)) ?_
    exact Le.g [some 0, none, none, none, some 7, some 8, some 9]
   ·repeat' ((conv => whnf); refine Br.t (fun h => ?_))
    conv => whnf
    refine EndVC.mk _ rfl _ _ (DRs.err e) ?_
    exact Le.g [some 0, some 1, some 2, some 3]
  ·by_cases e : errD m p L 1 a b = 0
   ·repeat' ((conv => whnf); refine Br.f (fun h => ?_))
    conv => whnf
    refine EndVC.mk _ rfl _ _ (DRs.ok e (hx e)) ?_
    exact Le.g [some 0, none, none, none, some 7, some 10, some 9]
   ·repeat' ((conv => whnf); refine Br.t (fun h => ?_))
    conv => whnf
    refine EndVC.mk _ rfl _ _ (DRs.err e) ?_
    exact Le.g [some 0, some 1, some 2, some 3]
 ·refine spec_g (bodyOf Tryz.f7) ([(7, ([10], ordDef 0 11 ++ [⟨11, [9], []⟩, ⟨12, [], []⟩]))]) pMix Tryz.func7 Tryz.ntmps7 [.cell 4 37, .tmp 5] ?_
  repeat' ((conv => whnf); first | refine Br.f (fun h => ?_) | (refine Br.mk (fun h => ?_) (fun h => ?_) <;> first | (exfalso; omega; done) | (exfalso; simp at h; done) | skip))
  conv => whnf
  refine CallVC.mk [1, 2, 3] _ _ _ rfl rfl rfl (s86 m p L l hI.len) (fun r m' h' => ?_)
  obtain ⟨rfl, rfl⟩ := h'
  conv => whnf
  repeat' ((conv => whnf); first | refine Ob.g ?_ | fail)
  conv => whnf
  refine CallVC.mk [7, 8, 9] _ _ _ rfl rfl rfl (s81 m p L l hl 2 a b a b) (fun r m' h' => ?_)
  obtain ⟨p', L', l', d, rfl, rfl | rfl, hx⟩ := h'
  ·by_cases e : errD m p L 2 a b = 0
   ·repeat' ((conv => whnf); refine Br.f (fun h => ?_))
    conv => whnf
    refine EndVC.mk _ rfl _ _ (DRs.ok e (hx e)) ?_
    exact Le.g [some 0, none, none, none, some 7, some 8, some 9]
   ·repeat' ((conv => whnf); refine Br.t (fun h => ?_))
    conv => whnf
    refine EndVC.mk _ rfl _ _ (DRs.err e) ?_
    exact Le.g [some 0, some 1, some 2, some 3]
  ·by_cases e : errD m p L 2 a b = 0
   ·repeat' ((conv => whnf); refine Br.f (fun h => ?_))
    conv => whnf
    refine EndVC.mk _ rfl _ _ (DRs.ok e (hx e)) ?_
    exact Le.g [some 0, none, none, none, some 7, some 10, some 9]
   ·repeat' ((conv => whnf); refine Br.t (fun h => ?_))
    conv => whnf
    refine EndVC.mk _ rfl _ _ (DRs.err e) ?_
    exact Le.g [some 0, some 1, some 2, some 3]
 ·refine spec_g (bodyOf Tryz.f7) ([(7, ([10], ordDef 0 11 ++ [⟨11, [9], []⟩, ⟨12, [], []⟩]))]) pMix Tryz.func7 Tryz.ntmps7 [.cell 4 37, .tmp 5] ?_
  repeat' ((conv => whnf); first | refine Br.f (fun h => ?_) | (refine Br.mk (fun h => ?_) (fun h => ?_) <;> first | (exfalso; omega; done) | (exfalso; simp at h; done) | skip))
  conv => whnf
  refine CallVC.mk [1, 2, 3] _ _ _ rfl rfl rfl (s86 m p L l hI.len) (fun r m' h' => ?_)
  obtain ⟨rfl, rfl⟩ := h'
  conv => whnf
  repeat' ((conv => whnf); first | refine Ob.g ?_ | fail)
  conv => whnf
  refine CallVC.mk [7, 8, 9] _ _ _ rfl rfl rfl (s82 m p L l hl 3 a b a b) (fun r m' h' => ?_)
  obtain ⟨p', L', l', d, rfl, rfl | rfl, hx⟩ := h'
  ·by_cases e : errD m p L 3 a b = 0
   ·repeat' ((conv => whnf); refine Br.f (fun h => ?_))
    conv => whnf
    refine EndVC.mk _ rfl _ _ (DRs.ok e (hx e)) ?_
    exact Le.g [some 0, none, none, none, some 7, some 8, some 9]
   ·repeat' ((conv => whnf); refine Br.t (fun h => ?_))
    conv => whnf
    refine EndVC.mk _ rfl _ _ (DRs.err e) ?_
    exact Le.g [some 0, some 1, some 2, some 3]
  ·by_cases e : errD m p L 3 a b = 0
   ·repeat' ((conv => whnf); refine Br.f (fun h => ?_))
    conv => whnf
    refine EndVC.mk _ rfl _ _ (DRs.ok e (hx e)) ?_
    exact Le.g [some 0, none, none, none, some 7, some 10, some 9]
   ·repeat' ((conv => whnf); refine Br.t (fun h => ?_))
    conv => whnf
    refine EndVC.mk _ rfl _ _ (DRs.err e) ?_
    exact Le.g [some 0, some 1, some 2, some 3]
 ·refine spec_g (bodyOf Tryz.f7) ([(7, ([10], ordDef 0 11 ++ [⟨11, [9], []⟩, ⟨12, [], []⟩]))]) pMix Tryz.func7 Tryz.ntmps7 [.cell 4 37, .tmp 5] ?_
  repeat' ((conv => whnf); first | refine Br.f (fun h => ?_) | (refine Br.mk (fun h => ?_) (fun h => ?_) <;> first | (exfalso; omega; done) | (exfalso; simp at h; done) | skip))
  conv => whnf
  refine CallVC.mk [1, 2, 3] _ _ _ rfl rfl rfl (s86 m p L l hI.len) (fun r m' h' => ?_)
  obtain ⟨rfl, rfl⟩ := h'
  conv => whnf
  repeat' ((conv => whnf); first | refine Ob.g ?_ | fail)
  conv => whnf
  refine CallVC.mk [7, 8, 9] _ _ _ rfl rfl rfl (s83 m p L l hl 4 a b) (fun r m' h' => ?_)
  obtain ⟨p', L', l', d, rfl, rfl | rfl, hx⟩ := h'
  ·by_cases e : errD m p L 4 a b = 0
   ·repeat' ((conv => whnf); refine Br.f (fun h => ?_))
    conv => whnf
    refine EndVC.mk _ rfl _ _ (DRs.ok e (hx e)) ?_
    exact Le.g [some 0, none, none, none, some 7, some 8, some 9]
   ·repeat' ((conv => whnf); refine Br.t (fun h => ?_))
    conv => whnf
    refine EndVC.mk _ rfl _ _ (DRs.err e) ?_
    exact Le.g [some 0, some 1, some 2, some 3]
  ·by_cases e : errD m p L 4 a b = 0
   ·repeat' ((conv => whnf); refine Br.f (fun h => ?_))
    conv => whnf
    refine EndVC.mk _ rfl _ _ (DRs.ok e (hx e)) ?_
    exact Le.g [some 0, none, none, none, some 7, some 10, some 9]
   ·repeat' ((conv => whnf); refine Br.t (fun h => ?_))
    conv => whnf
    refine EndVC.mk _ rfl _ _ (DRs.err e) ?_
    exact Le.g [some 0, some 1, some 2, some 3]
 ·refine spec_g (bodyOf Tryz.f7) ([(7, ([10], ordDef 0 11 ++ [⟨11, [9], []⟩, ⟨12, [], []⟩]))]) pMix Tryz.func7 Tryz.ntmps7 [.cell 4 37, .tmp 5] ?_
  repeat' ((conv => whnf); first | refine Br.f (fun h => ?_) | (refine Br.mk (fun h => ?_) (fun h => ?_) <;> first | (exfalso; omega; done) | (exfalso; simp at h; done) | skip))
  conv => whnf
  refine CallVC.mk [1, 2, 3] _ _ _ rfl rfl rfl (s86 m p L l hI.len) (fun r m' h' => ?_)
  obtain ⟨rfl, rfl⟩ := h'
  conv => whnf
  repeat' ((conv => whnf); first | refine Ob.g ?_ | fail)
  conv => whnf
  refine CallVC.mk [7, 8, 9] _ _ _ rfl rfl rfl (s84 m p L l hl 5 a b hI.ok hI.t ⟨hI.h.1, by have := hI.h; have := hI.tm; omega⟩ hI.tm) (fun r m' h' => ?_)
  obtain ⟨p', L', l', d, rfl, rfl | rfl, hx⟩ := h'
  ·by_cases e : errD m p L 5 a b = 0
   ·repeat' ((conv => whnf); refine Br.f (fun h => ?_))
    conv => whnf
    refine EndVC.mk _ rfl _ _ (DRs.ok e (hx e)) ?_
    exact Le.g [some 0, none, none, none, some 7, some 8, some 9]
   ·repeat' ((conv => whnf); refine Br.t (fun h => ?_))
    conv => whnf
    refine EndVC.mk _ rfl _ _ (DRs.err e) ?_
    exact Le.g [some 0, some 1, some 2, some 3]
  ·by_cases e : errD m p L 5 a b = 0
   ·repeat' ((conv => whnf); refine Br.f (fun h => ?_))
    conv => whnf
    refine EndVC.mk _ rfl _ _ (DRs.ok e (hx e)) ?_
    exact Le.g [some 0, none, none, none, some 7, some 10, some 9]
   ·repeat' ((conv => whnf); refine Br.t (fun h => ?_))
    conv => whnf
    refine EndVC.mk _ rfl _ _ (DRs.err e) ?_
    exact Le.g [some 0, some 1, some 2, some 3]
 ·refine spec_g (bodyOf Tryz.f7) ([(7, ([10], ordDef 0 11 ++ [⟨11, [9], []⟩, ⟨12, [], []⟩]))]) pMix Tryz.func7 Tryz.ntmps7 [.cell 4 37, .tmp 5] ?_
  repeat' ((conv => whnf); first | refine Br.f (fun h => ?_) | (refine Br.mk (fun h => ?_) (fun h => ?_) <;> first | (exfalso; omega; done) | (exfalso; simp at h; done) | skip))
  conv => whnf
  refine CallVC.mk [1, 2, 3] _ _ _ rfl rfl rfl (s86 m p L l hI.len) (fun r m' h' => ?_)
  obtain ⟨rfl, rfl⟩ := h'
  conv => whnf
  repeat' ((conv => whnf); first | refine Ob.g ?_ | fail)
  conv => whnf
  refine CallVC.mk [7, 8, 9] _ _ _ rfl rfl rfl (s85 m p L l hl 6 a b a b hI) (fun r m' h' => ?_)
  obtain ⟨p', L', l', d, rfl, rfl | rfl, hx⟩ := h'
  ·by_cases e : errD m p L 6 a b = 0
   ·repeat' ((conv => whnf); refine Br.f (fun h => ?_))
    conv => whnf
    refine EndVC.mk _ rfl _ _ (DRs.ok e (hx e)) ?_
    exact Le.g [some 0, none, none, none, some 7, some 8, some 9]
   ·repeat' ((conv => whnf); refine Br.t (fun h => ?_))
    conv => whnf
    refine EndVC.mk _ rfl _ _ (DRs.err e) ?_
    exact Le.g [some 0, some 1, some 2, some 3]
  ·by_cases e : errD m p L 6 a b = 0
   ·repeat' ((conv => whnf); refine Br.f (fun h => ?_))
    conv => whnf
    refine EndVC.mk _ rfl _ _ (DRs.ok e (hx e)) ?_
    exact Le.g [some 0, none, none, none, some 7, some 10, some 9]
   ·repeat' ((conv => whnf); refine Br.t (fun h => ?_))
    conv => whnf
    refine EndVC.mk _ rfl _ _ (DRs.err e) ?_
    exact Le.g [some 0, some 1, some 2, some 3]
theorem s39 (m : Mac) : HSpec Tryz.prog 6 [m.x] [] (fun r m' => (¬ m.ok ∧ r = .tup [.one .nilp, I 2] ∧ m' = []) ∨ (m.ok ∧ r = .tup [.one (.ptr 0 0), I 0] ∧ m' = [some (bP 1), some (bW 2 3 m ⟨false, false, 0, m.room, 0, 0, 0, 0, 0⟩), some (dRow []), some (mpU [])])) := by
 by_cases hm : m.ok
 ·have hc := Mac.chk0 hm
  refine spec_g (bodyOf Tryz.f6) [] pMix Tryz.func6 Tryz.ntmps6 [.tmp 2, .tmp 3] ?_
  repeat' ((conv => whnf); first | refine CallVC.pure rfl (s20 m) ?_ | refine Br.f (fun h => ?_))
  conv => whnf
  refine EndVC.mk _ rfl _ _ (.inr ⟨hm, rfl, rfl⟩) ?_
  refine ⟨[some 3, some 2, none, some 1], rfl, rfl, ?_, ?_⟩ <;> repeat' (first | exact trivial | exact rfl | apply And.intro)
 ·have hc := Mac.chk2 hm
  refine spec_g (bodyOf Tryz.f6) [] pMix Tryz.func6 Tryz.ntmps6 [.tmp 2, .tmp 3] ?_
  repeat' ((conv => whnf); first | refine CallVC.pure rfl (s20 m) ?_ | refine Br.t (fun h => ?_))
  conv => whnf
  refine EndVC.mk _ rfl _ _ (.inl ⟨hm, rfl, rfl⟩) ?_
  refine ⟨[], rfl, rfl, ?_, ?_⟩ <;> repeat' (first | exact trivial | exact rfl | apply And.intro)
  exact hc
end Go.Sx.Pr

namespace Go.Sx.Pr
open Go Go.Proofs Go.Sx
set_option maxRecDepth 10000
set_option maxHeartbeats 1000000
@[reducible] def mP (m : Mac) (p : Pst) (L : List Disc) (l : MapL) : List Blk := [bP 1, bW 2 3 m p, dRow L, mpU l]
theorem s47 (m : Mac) (p : Pst) (L : List Disc) (l : MapL) (hlen : L.length ≤ 1000) : HSpec Tryz.prog 8 [.one (.ptr 0 0)] (mP m p L l) (fun r m' => r = .x (.one (.own 4)) ∧ m' = [some (bP 1), some (bW 2 3 m p), some (dRow L), some (mpU l), some (dRow L)]) := by
 refine spec_g (bodyOf Tryz.f8) [] pMix Tryz.func8 Tryz.ntmps8 [.tmp 2] ?_
 repeat' ((conv => whnf); first | refine Br.f (fun h => ?_) | (refine Br.mk (fun h => ?_) (fun h => ?_) <;> first | (exfalso; omega; done) | (exfalso; simp at h; done) | skip))
 conv => whnf
 refine CallVC.mk [] _ _ _ rfl rfl rfl (s89 L hlen) (fun r m' h' => ?_)
 obtain ⟨rfl, rfl⟩ := h'
 conv => whnf
 repeat' ((conv => whnf); first | refine Rng.g ?_ | fail)
 refine EndVC.mk _ rfl _ _ ⟨rfl, rfl⟩ ?_
 exact Le.g [some 0, some 1, some 2, some 3, some 4]
def ofL (L : List Disc) (k : Int) : List Int := (L.filter fun d => decide (d.a = k ∨ d.b = k)).map (·.ser)
theorem ofL_len (L : List Disc) (k : Int) : (ofL L k).length ≤ L.length := by
 unfold ofL; rw [List.length_map]; exact List.length_filter_le ..
theorem discA_get (L : List Disc) (j : Nat) {d : Disc} (h : L[j]? = some d) : rI (discA L) j 0 = d.ser ∧ rI (discA L) j 1 = d.a ∧ rI (discA L) j 2 = d.b ∧ rI (discA L) j 3 = d.tm ∧ rI (discA L) j 4 = d.h ∧ rI (discA L) j 5 = d.pk ∧ rB (discA L) j 6 = d.good := by
 have : (discA L).getD j [] = [.int d.ser, .int d.a, .int d.b, .int d.tm, .int d.h, .int d.pk, .bool d.good] := by simp [discA, List.getD_eq_getElem?_getD, h]
 simp only [rI, rB, cellAt, this]
 exact ⟨rfl, rfl, rfl, rfl, rfl, rfl, rfl⟩
theorem s49 (m : Mac) (p : Pst) (L : List Disc) (l : MapL) (hlen : L.length ≤ 1000) (k : Int) : HSpec Tryz.prog 14 [.one (.ptr 0 0), I k] (mP m p L l) (fun r m' => r = .x (.one (.own 4)) ∧ m' = [some (bP 1), some (bW 2 3 m p), some (dRow L), some (mpU l), some (.row 2 false [.int .i64] (i64s (ofL L k)))]) := by
 refine spec_g (bodyOf Tryz.f14) [] pMix Tryz.func14 Tryz.ntmps14 [.tmp 4] ?_
 repeat' ((conv => whnf); first | refine Rng.g ?_ | fail)
 conv => whnf
 refine CallVC.mk [0, 1, 2, 3] _ _ _ rfl rfl rfl (s47 m p L l hlen) (fun r m' h' => ?_)
 obtain ⟨rfl, rfl⟩ := h'
 conv => whnf
 repeat' ((conv => whnf); first | refine Rng.g ?_ | fail)
 have lL := discA_len L
 refine LoopVC.mk (fun n st => ∃ j : Nat, j ≤ L.length ∧ n = L.length - j ∧ st = ⟨4, envA 32 [(0, .x (.one (.ptr 0 0))), (1, .x (I k)), (5, .x (.one (.own 5))), (9, .x (.one (.own 4))), (10, .int .i64 (L.length : Int)), (11, .int .i64 (j : Int))], [some (bP 1), some (bW 2 3 m p), some (dRow L), some (mpU l), some (dRow L), some (.row 2 false [.int .i64] (i64s (ofL (L.take j) k)))]⟩) _ _ ⟨0, by omega, rfl, rfl⟩ ?_ ?_
 ·refine ⟨[some 0, some 1, some 2, some 3, some 4, none], rfl, rfl, ?_, ?_⟩ <;> repeat' (first | exact trivial | exact rfl | apply And.intro)
  exact congrArg Int.ofNat lL
 rintro n _ ⟨j, hj, hn, rfl⟩
 have lo := i64s_len (ofL (L.take j) k)
 have lo2 := ofL_len (L.take j) k
 have lo3 : (L.take j).length = j := by rw [List.length_take]; omega
 by_cases hj' : j < L.length
 ·obtain ⟨d, hd⟩ : ∃ d, L[j]? = some d := ⟨_, List.getElem?_eq_getElem hj'⟩
  have tk : L.take (j + 1) = L.take j ++ [d] := by rw [List.take_add_one, hd]; rfl
  have gd := discA_get L j hd
  have yes : d.a = k ∨ d.b = k → i64s (ofL (L.take (j + 1)) k) = i64s (ofL (L.take j) k) ++ [[.int d.ser]] := fun h => by
   rw [tk]; unfold ofL; rw [List.filter_append]; simp [h, i64s]
  have no : ¬ (d.a = k ∨ d.b = k) → i64s (ofL (L.take (j + 1)) k) = i64s (ofL (L.take j) k) := fun h => by
   rw [tk]; unfold ofL; rw [List.filter_append]; simp [h]
  have gd0 : rI (discA L) (j : Int).toNat 0 = d.ser := gd.1
  have gd1 : rI (discA L) (j : Int).toNat 1 = d.a := gd.2.1
  have gd2 : rI (discA L) (j : Int).toNat 2 = d.b := gd.2.2.1
  repeat' ((conv => whnf); first | refine Rng.g ?_ | refine Ob.g ?_ | refine JoinVC.on ?_ | refine Br.t (fun h => ?_) | (refine Br.mk (fun h => ?_) (fun h => ?_) <;> first | (exfalso; omega; done) | (exfalso; simp at h; done) | skip))
  ·have y := yes (.inl (by rw [← gd1]; assumption))
   refine Ob.mk (by simp only [lo, eb, List.length_cons, List.length_nil]; omega) ?_
   conv => whnf
   rw [gd0, ← y]
   repeat' ((conv => whnf); first | refine Rng.g ?_ | fail)
   refine Back.mk (L.length - (j + 1)) _ (by omega) ⟨j + 1, by omega, rfl, rfl⟩ ?_
   exact Le.g [some 0, some 1, some 2, some 3, some 4, some 8]
  ·have y := yes (.inr (by rw [← gd2]; assumption))
   refine Ob.mk (by simp only [lo, eb, List.length_cons, List.length_nil]; omega) ?_
   conv => whnf
   rw [gd0, ← y]
   repeat' ((conv => whnf); first | refine Rng.g ?_ | fail)
   refine Back.mk (L.length - (j + 1)) _ (by omega) ⟨j + 1, by omega, rfl, rfl⟩ ?_
   exact Le.g [some 0, some 1, some 2, some 3, some 4, some 8]
  ·have y := no (fun h => h.elim (by rw [← gd1]; assumption) (by rw [← gd2]; assumption))
   refine Back.mk (L.length - (j + 1)) _ (by omega) ⟨j + 1, by omega, rfl, rfl⟩ ?_
   refine ⟨[some 0, some 1, some 2, some 3, some 4, some 5], rfl, rfl, ?_, ?_⟩ <;> repeat' (first | exact trivial | exact rfl | apply And.intro)
   exact y.symm
 ·repeat' ((conv => whnf); refine Br.f (fun h => ?_))
  have e : L.take j = L := List.take_of_length_le (by omega)
  refine EndVC.mk _ rfl _ _ ⟨rfl, rfl⟩ ?_
  refine ⟨[some 0, some 1, some 2, some 3, some 5], rfl, rfl, ?_, ?_⟩ <;> repeat' (first | exact trivial | exact rfl | apply And.intro)
  rw [e]
end Go.Sx.Pr
