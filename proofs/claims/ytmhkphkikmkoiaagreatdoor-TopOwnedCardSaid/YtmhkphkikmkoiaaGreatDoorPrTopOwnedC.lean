import Derived.Test.YtmhkphkikmkoiaaGreatDoorPrTopOwnedA
import Derived.Test.YtmhkphkikmkoiaaGreatDoorPrTopOwnedB
namespace Go.Sx.Ls
open Go Go.Proofs Go.Sx
set_option maxRecDepth 10000
set_option maxHeartbeats 4000000
@[reducible] def exR : Pl.Rcp := ⟨0, 0, 0, 0, 0, 900, 900, 900, 0, 0, 0, 2, 3⟩
@[reducible] def exAc : Pl.Act2 := ⟨1, 7, 1000, 0, 0, 0, 0, 0, 0, 0, 0, 0, 0⟩
@[reducible] def exS1 : Pl.Sho := ⟨exR, [⟨0, -1, 7, 1000, 0, 0, false⟩], [[]], [], [], [exAc]⟩
theorem exE0 : Pl.doE (Pl.shop0 exR) exAc = 0 := by kernel_rfl
theorem exD0 : Pl.doS (Pl.shop0 exR) exAc = exS1 := by kernel_rfl
theorem exOK : Pl.RcpOK exR := ⟨by decide, by decide, by decide, by decide, by decide, by decide, by decide, by decide⟩
theorem exNe : Pl.needE exS1 0 4 = 0 := by kernel_rfl
theorem exNn : Pl.needN exS1 0 4 = 7 := by kernel_rfl
theorem s18w : PSpec Tryz.prog 18 [] (xP True) := by
 have hw := s55
 have e1 : rI (smpA (readF S6 p6)) (Int.toNat 1) 0 = -97 := (smpA_l _ 1).trans rfl
 have e2 : rI (smpA (readF S6 p6)) (Int.toNat 1) (0 + 1) = 90 := (smpA_r _ 1).trans rfl
 have lr : (smpA (readF S6 p6)).length = 3 := rfl
 have c20 := Pl.s20 exR exOK
 have c21 := Pl.s21 (Pl.shop0 exR) [] (Pl.ShOK.new exOK) Pl.MsOK.new exAc
 refine spec_g (bodyOf Tryz.f18) [] pMix Tryz.func18 Tryz.ntmps18 [.tmp 0] ?_
 repeat' ((conv => whnf); first | refine Rng.g ?_ | fail)
 conv => whnf
 refine CallVC.mk [] _ _ _ rfl rfl rfl (s80o S6 p6 S6_ok p6_ok) (fun r m' h' => ?_)
 obtain ⟨rfl, rfl⟩ := h'
 conv => whnf
 repeat' ((conv => whnf); first | refine Rng.g ?_ | fail)
 conv => whnf
 refine CallVC.mk [] _ _ _ rfl rfl rfl (c20) (fun r m' h' => ?_)
 obtain ⟨rfl, rfl⟩ := h'
 conv => whnf
 repeat' ((conv => whnf); first | rw [e1] | rw [e2] | rw [lr] | refine Ob.g ?_ | refine Ob.e ?_ | refine Br.f (fun h => ?_) | (refine Br.mk (fun h => ?_) (fun h => ?_) <;> first | (exfalso; omega; done) | (exfalso; simp at h; done) | skip))
 conv => whnf
 refine CallVC.mk [3, 4, 5, 6, 7, 8] _ _ _ rfl rfl rfl (c21) (fun r m' h' => ?_)
 obtain ⟨ms', hM', rfl, rfl⟩ := h'
 conv => whnf
 rw [exD0] at hM' ⊢
 have hS : Pl.ShOK exS1 := by have := Pl.ShOK.repS (Pl.ShOK.new exOK) [exAc] 1; rwa [show Pl.repS (Pl.shop0 exR) [exAc] 1 = exS1 from exD0] at this
 have c26 := Pl.s26 exS1 ms' hS 0 4
 rw [exNe, exNn] at c26
 have eE := exE0
 repeat' ((conv => whnf); rw [eE])
 conv => whnf
 refine CallVC.mk [3, 9, 5, 10, 11, 12] _ _ _ rfl rfl rfl (c26) (fun r m' h' => ?_)
 obtain ⟨rfl, rfl⟩ := h'
 conv => whnf
 repeat' ((conv => whnf); first | refine CallVC.pure rfl (hw) ?_ | refine Br.t (fun h => ?_))
 refine EndVC.mk _ rfl _ _ ⟨rfl, rfl⟩ ?_
 exact Le.g []
@[reducible] def exM : Pr.Mac := ⟨20, 120, 50, 200, 30, 25, 5, 3, 2⟩
theorem s5 : PSpec Tryz.prog 5 [] (xP True) := by
 have hw := s18w
 have c := Pr.s18 exM 190 1
 have h0 : ¬ ¬ exM.chk = 0 := Classical.not_not.2 (Pr.Mac.chk0 (by unfold Pr.Mac.ok; decide))
 have h1 := Pr.tick_in h0 (t := 190) (v := 1) (by unfold Pr.inTick; decide)
 rw [← h1.1, ← h1.2, show Pr.tickF exM 190 1 = 200 by decide] at c
 have c17 := s17
 refine spec_g (bodyOf Tryz.f5) [] pMix Tryz.func5 Tryz.ntmps5 [.tmp 0] ?_
 repeat' ((conv => whnf); refine CallVC.pure rfl (c) ?_)
 conv => whnf
 refine CallVC.mk [] _ _ _ rfl rfl rfl (c17) (fun r m' h' => ?_)
 obtain ⟨rfl, rfl⟩ := h'
 conv => whnf
 repeat' ((conv => whnf); first | refine CallVC.pure rfl (hw) ?_ | refine Br.t (fun h => ?_))
 refine EndVC.mk _ rfl _ _ ⟨rfl, rfl⟩ ?_
 exact Le.g []
end Go.Sx.Ls

namespace Go.Sx.Ls
open Go Go.Proofs Go.Sx
set_option maxRecDepth 10000
set_option maxHeartbeats 4000000
@[reducible] def st9 : Pl.Pl := ⟨3, 2, 0, 0, 0, 0, false⟩
def p9 : List Pl.Pl := [⟨0, -1, 0, 0, 0, 0, false⟩, ⟨1, 0, 0, 0, 0, 0, false⟩, ⟨2, 1, 0, 0, 0, 0, false⟩, st9, st9, st9, st9, st9, st9]
@[reducible] def lPt : XV := .one (.lst true Pl.KPl (Pl.plA p9))
theorem p9_len : (Pl.plA p9).length = 9 := rfl
theorem p9_ok : ∀ i : Fin 9, (i.val = 0 ∧ rI (Pl.plA p9) i.val 0 = 0 ∧ rI (Pl.plA p9) i.val (0 + 1) = -1) ∨ (1 ≤ i.val ∧ (1 ≤ rI (Pl.plA p9) i.val 0 ∧ rI (Pl.plA p9) i.val 0 ≤ 3) ∧ (0 ≤ rI (Pl.plA p9) i.val (0 + 1) ∧ rI (Pl.plA p9) i.val (0 + 1) ≤ (i.val : Int) - 1) ∧ rI (Pl.plA p9) (rI (Pl.plA p9) i.val (0 + 1)).toNat 0 + 1 = rI (Pl.plA p9) i.val 0) := by decide +kernel
theorem p9_st : ∀ i : Fin 9, 3 ≤ i.val → rI (Pl.plA p9) i.val 0 = 3 := by decide +kernel
theorem p9_at {i : Nat} (hi : i < 9) : (i = 0 ∧ rI (Pl.plA p9) (i : Int).toNat 0 = 0 ∧ rI (Pl.plA p9) (i : Int).toNat (0 + 1) = -1) ∨ (1 ≤ i ∧ (1 ≤ rI (Pl.plA p9) (i : Int).toNat 0 ∧ rI (Pl.plA p9) (i : Int).toNat 0 ≤ 3) ∧ (0 ≤ rI (Pl.plA p9) (i : Int).toNat (0 + 1) ∧ rI (Pl.plA p9) (i : Int).toNat (0 + 1) ≤ (i : Int) - 1) ∧ rI (Pl.plA p9) (rI (Pl.plA p9) (i : Int).toNat (0 + 1)).toNat (0 + 0) + 1 = rI (Pl.plA p9) (i : Int).toNat 0) := p9_ok ⟨i, hi⟩
theorem s28 : PSpec Tryz.prog 28 [lPt] (.x (I 0)) := by
 have lp := p9_len
 refine spec_g (bodyOf Tryz.f28) [] pMix Tryz.func28 Tryz.ntmps28 [.tmp 2] ?_
 repeat' ((conv => whnf); refine Br.f (fun h => ?_))
 all_goals first | (exfalso; omega) | skip
 refine LoopVC.mk (fun n st => ∃ (i : Nat), i ≤ 9 ∧ n = 9 - i ∧ st = ⟨0, envA 50 [(0, .x lPt), (8, .x lPt), (9, .int .i64 9), (10, .int .i64 (i : Int))], []⟩) _ _ ⟨0, by omega, rfl, rfl⟩ ?_ ?_
 ·exact Le.g []
 rintro n _ ⟨i, hi, hn, rfl⟩
 by_cases hi' : i < 9
 ·have h := p9_at hi'
  repeat' ((conv => whnf); first | refine Rng.g ?_ | refine Ob.g ?_ | refine JoinVC.on ?_ | refine CallVC.pure rfl (s45 _ _ _) ?_ | refine Br.t (fun h => ?_) | refine Br.f (fun h => ?_) | refine Br.mk (fun h => ?_) fun h => ?_)
  all_goals first | (exfalso; omega) | skip
  all_goals
   refine Back.mk (9 - (i + 1)) _ (by omega) ⟨i + 1, by omega, rfl, rfl⟩ ?_
   exact Le.g []
 ·obtain rfl : i = 9 := by omega
  repeat' ((conv => whnf); refine Br.f (fun h => ?_))
  refine EndVC.mk _ rfl _ _ ⟨rfl, rfl⟩ ?_
  exact Le.g []
structure DOK (L : List Pr.Disc) : Prop where
 len : L.length ≤ 40
 ser : ∀ i, i < L.length → (L.getD i Pr.d0).ser = (i : Int) + 1
 a : ∀ i, i < L.length → 4 ≤ (L.getD i Pr.d0).a ∧ (L.getD i Pr.d0).a ≤ 9
 b : ∀ i, i < L.length → 4 ≤ (L.getD i Pr.d0).b ∧ (L.getD i Pr.d0).b ≤ 9
@[reducible] def lDs (L : List Pr.Disc) : XV := .one (.lst true Pr.K7 (Pr.discA L))
theorem dis_len (L : List Pr.Disc) : (Pr.discA L).length = L.length := by simp [Pr.discA]
theorem dis_0 (L : List Pr.Disc) (i : Nat) : rI (Pr.discA L) (i : Int).toNat 0 = (L.getD i Pr.d0).ser := map_rI _ Pr.d0 L i 0 rfl
theorem dis_1 (L : List Pr.Disc) (i : Nat) : rI (Pr.discA L) (i : Int).toNat (0 + 1) = (L.getD i Pr.d0).a := map_rI _ Pr.d0 L i 1 rfl
theorem dis_2 (L : List Pr.Disc) (i : Nat) : rI (Pr.discA L) (i : Int).toNat (0 + 1 + 1) = (L.getD i Pr.d0).b := map_rI _ Pr.d0 L i 2 rfl
theorem s9 (L : List Pr.Disc) (hD : DOK L) : PSpec Tryz.prog 9 [lPt, lDs L] (.x (I 0)) := by
 have lp := p9_len
 have lL := dis_len L
 have hl := hD.len
 have c28 := s28
 refine spec_g (bodyOf Tryz.f9) [] pMix Tryz.func9 Tryz.ntmps9 [.tmp 4] ?_
 repeat' ((conv => whnf); first | refine CallVC.pure rfl (c28) ?_ | refine Br.f (fun h => ?_))
 all_goals first | (exfalso; omega) | skip
 refine LoopVC.mk (fun n st => ∃ (i : Nat), i ≤ L.length ∧ n = L.length - i ∧ st = ⟨0, envA 55 [(0, .x lPt), (1, .x (lDs L)), (6, .int .i64 (if i = 0 then -1 else (i : Int))), (19, .x (lDs L)), (20, .int .i64 (L.length : Int)), (21, .int .i64 (i : Int))], []⟩) _ _ ⟨0, Nat.zero_le _, rfl, rfl⟩ ?_ ?_
 ·refine ⟨[], rfl, rfl, ?_, ?_⟩ <;> repeat' (first | exact trivial | exact rfl | apply And.intro)
  exact congrArg Int.ofNat lL
 rintro n _ ⟨i, hi, hn, rfl⟩
 by_cases hi' : i < L.length
 ·have g0 := dis_0 L i
  have g1 := dis_1 L i
  have g2 := dis_2 L i
  have hs := hD.ser i hi'
  have ha := hD.a i hi'
  have hb := hD.b i hi'
  obtain ⟨ja, ea⟩ : ∃ ja : Nat, (L.getD i Pr.d0).a = (ja : Int) + 1 := ⟨((L.getD i Pr.d0).a - 1).toNat, by omega⟩
  obtain ⟨jb, eb⟩ : ∃ jb : Nat, (L.getD i Pr.d0).b = (jb : Int) + 1 := ⟨((L.getD i Pr.d0).b - 1).toNat, by omega⟩
  have ka : rI (Pl.plA p9) ((ja : Int) + 1 - 1).toNat (0 + 0) = 3 := by rw [show ((ja : Int) + 1 - 1).toNat = ja by omega]; exact p9_st ⟨ja, by omega⟩ (by show 3 ≤ ja; omega)
  have kb : rI (Pl.plA p9) ((jb : Int) + 1 - 1).toNat (0 + 0) = 3 := by rw [show ((jb : Int) + 1 - 1).toNat = jb by omega]; exact p9_st ⟨jb, by omega⟩ (by show 3 ≤ jb; omega)
  have hlast : (if i = 0 then (-1 : Int) else (i : Int)) < (i : Int) + 1 := by split <;> omega
  generalize (if i = 0 then (-1 : Int) else (i : Int)) = la at *
  rw [hs] at g0
  rw [ea] at g1
  rw [eb] at g2
  repeat' ((conv => whnf); first | rw [g0] | rw [g1] | rw [g2] | refine Ob.g ?_ | refine Br.t (fun h => ?_) | refine Br.f (fun h => ?_))
  all_goals first | (exfalso; omega) | skip
  refine LoopVC.un 3 ?_
  repeat' ((conv => whnf); first | rw [ka] | rw [kb] | refine Rng.g ?_ | refine Ob.g ?_ | refine CallVC.pure rfl (s29 _ _ _) ?_ | refine Br.t (fun h => ?_) | refine Br.f (fun h => ?_))
  all_goals first | (exfalso; omega) | skip
  refine Back.mk (L.length - (i + 1)) _ (by omega) ⟨i + 1, by omega, rfl, rfl⟩ ?_
  refine ⟨[], rfl, rfl, ?_, ?_⟩ <;> repeat' (first | exact trivial | exact rfl | apply And.intro)
 ·obtain rfl : i = L.length := by omega
  repeat' ((conv => whnf); refine Br.f (fun h => ?_))
  refine EndVC.mk _ rfl _ _ ⟨rfl, rfl⟩ ?_
  refine ⟨[], rfl, rfl, ?_, ?_⟩ <;> repeat' (first | exact trivial | exact rfl | apply And.intro)
end Go.Sx.Ls

namespace Go.Sx.Ls
open Go Go.Proofs Go.Sx
set_option maxRecDepth 10000
set_option maxHeartbeats 4000000
def ofD (d : Pr.Disc) (side : Int) : Int := if side = 0 then d.a - 1 else d.b - 1
theorem s10 (d : Pr.Disc) (side : Int) (ha : 0 ≤ d.a ∧ d.a ≤ 1073741824) (hb : 0 ≤ d.b ∧ d.b ≤ 1073741824) : PSpec Tryz.prog 10 [d.x, I side] (.x (I (ofD d side))) := by
 by_cases h0 : side = 0
 ·have e : ofD d side = d.a - 1 := if_pos h0
  rw [e]
  refine spec_g (bodyOf Tryz.f10) [] pMix Tryz.func10 Tryz.ntmps10 [.tmp 4] ?_
  repeat' ((conv => whnf); first | refine Rng.g ?_ | refine Br.t (fun h => ?_))
  refine EndVC.mk _ rfl _ _ ⟨rfl, rfl⟩ ?_
  exact Le.g []
 ·have e : ofD d side = d.b - 1 := if_neg h0
  rw [e]
  refine spec_g (bodyOf Tryz.f10) [] pMix Tryz.func10 Tryz.ntmps10 [.tmp 4] ?_
  repeat' ((conv => whnf); first | refine Rng.g ?_ | refine Br.f (fun h => ?_))
  refine EndVC.mk _ rfl _ _ ⟨rfl, rfl⟩ ?_
  exact Le.g []
theorem s12 (l : List Int) (x : Int) (hl : l.length ≤ 1000000) : PSpec Tryz.prog 12 [.one (.lst true [.int .i64] (i64s l)), I x] (xP (x ∈ l)) := by
 have ll := i64s_len l
 refine spec_g (bodyOf Tryz.f12) [] pMix Tryz.func12 Tryz.ntmps12 [.tmp 4] ?_
 repeat' ((conv => whnf); first | refine Rng.g ?_ | fail)
 refine LoopVC.mk (fun n st => ∃ (i : Nat), i ≤ l.length ∧ n = l.length - i ∧ (∀ j, j < i → ¬ l.getD j 0 = x) ∧ st = ⟨0, envA 18 [(0, .x (.one (.lst true [.int .i64] (i64s l)))), (1, .x (I x)), (5, .int .i64 (i : Int))], []⟩) _ _ ⟨0, Nat.zero_le _, rfl, fun j h => absurd h (Nat.not_lt_zero j), rfl⟩ ?_ ?_
 ·exact Le.g []
 rintro n _ ⟨i, hi, hn, hj, rfl⟩
 by_cases hi' : i < l.length
 ·have g : rI (i64s l) (i : Int).toNat 0 = l.getD i 0 := by rw [Int.toNat_natCast, i64s_get]
  repeat' ((conv => whnf); first | rw [g] | refine Rng.g ?_ | refine Ob.g ?_ | refine Br.t (fun h => ?_) | (refine Br.mk (fun h => ?_) (fun h => ?_) <;> first | (exfalso; omega; done) | (exfalso; simp at h; done) | skip))
  ·refine EndVC.mk _ rfl _ _ ⟨rfl, rfl⟩ ?_
   refine ⟨[], rfl, rfl, ?_, ?_⟩ <;> repeat' (first | exact trivial | apply And.intro)
   have he : l.getD i 0 = x := by assumption
   rw [← he, List.getD_eq_getElem?_getD, List.getElem?_eq_getElem hi']
   exact List.getElem_mem hi'
  ·refine Back.mk (l.length - (i + 1)) _ (by omega) ⟨i + 1, by omega, rfl, fun j h => ?_, rfl⟩ ?_
   ·rcases Nat.lt_succ_iff_lt_or_eq.1 h with h1 | rfl
    ·exact hj j h1
    ·assumption
   ·exact Le.g []
 ·obtain rfl : i = l.length := by omega
  repeat' ((conv => whnf); refine Br.f (fun h => ?_))
  refine EndVC.mk _ rfl _ _ ⟨rfl, rfl⟩ ?_
  refine ⟨[], rfl, rfl, ?_, ?_⟩ <;> repeat' (first | exact trivial | apply And.intro)
  exact fun hm => by
   obtain ⟨j, hj1, hj2⟩ := List.getElem_of_mem hm
   refine hj j hj1 ?_
   rw [List.getD_eq_getElem?_getD, List.getElem?_eq_getElem hj1]
   exact hj2
theorem s13 (a b : List Int) (hl : a.length ≤ 1000000) : PSpec Tryz.prog 13 [.one (.lst true [.int .i64] (i64s a)), .one (.lst true [.int .i64] (i64s b))] (xP (a = b)) := by
 have la := i64s_len a
 have lb := i64s_len b
 by_cases hab : a.length = b.length
 ·refine spec_g (bodyOf Tryz.f13) [] pMix Tryz.func13 Tryz.ntmps13 [.tmp 4] ?_
  repeat' ((conv => whnf); refine Br.f (fun h => ?_))
  all_goals first | (exfalso; omega) | skip
  refine LoopVC.mk (fun n st => ∃ (i : Nat), i ≤ a.length ∧ n = a.length - i ∧ (∀ j, j < i → a.getD j 0 = b.getD j 0) ∧ st = ⟨0, envA 26 [(0, .x (.one (.lst true [.int .i64] (i64s a)))), (1, .x (.one (.lst true [.int .i64] (i64s b)))), (5, .int .i64 (i : Int))], []⟩) _ _ ⟨0, Nat.zero_le _, rfl, fun j h => absurd h (Nat.not_lt_zero j), rfl⟩ ?_ ?_
  ·exact Le.g []
  rintro n _ ⟨i, hi, hn, hj, rfl⟩
  by_cases hi' : i < a.length
  ·have g : rI (i64s a) (i : Int).toNat 0 = a.getD i 0 := by rw [Int.toNat_natCast, i64s_get]
   have g2 : rI (i64s b) (i : Int).toNat 0 = b.getD i 0 := by rw [Int.toNat_natCast, i64s_get]
   repeat' ((conv => whnf); first | rw [g] | rw [g2] | refine Rng.g ?_ | refine Ob.g ?_ | refine Br.t (fun h => ?_) | (refine Br.mk (fun h => ?_) (fun h => ?_) <;> first | (exfalso; omega; done) | (exfalso; simp at h; done) | skip))
   ·refine EndVC.mk _ rfl _ _ ⟨rfl, rfl⟩ ?_
    refine ⟨[], rfl, rfl, ?_, ?_⟩ <;> repeat' (first | exact trivial | apply And.intro)
    exact fun he => by
     subst he
     exact absurd rfl (by assumption)
   ·refine Back.mk (a.length - (i + 1)) _ (by omega) ⟨i + 1, by omega, rfl, fun j h => ?_, rfl⟩ ?_
    ·rcases Nat.lt_succ_iff_lt_or_eq.1 h with h1 | rfl
     ·exact hj j h1
     ·omega
    ·exact Le.g []
  ·obtain rfl : i = a.length := by omega
   repeat' ((conv => whnf); refine Br.f (fun h => ?_))
   refine EndVC.mk _ rfl _ _ ⟨rfl, rfl⟩ ?_
   refine ⟨[], rfl, rfl, ?_, ?_⟩ <;> repeat' (first | exact trivial | apply And.intro)
   refine List.ext_getElem hab fun j h1 h2 => ?_
   have h3 := hj j h1
   rw [List.getD_eq_getElem?_getD, List.getD_eq_getElem?_getD, List.getElem?_eq_getElem h1, List.getElem?_eq_getElem h2] at h3
   exact h3
 ·refine spec_g (bodyOf Tryz.f13) [] pMix Tryz.func13 Tryz.ntmps13 [.tmp 4] ?_
  repeat' ((conv => whnf); refine Br.t (fun h => ?_))
  all_goals first | (exfalso; omega) | skip
  refine EndVC.mk _ rfl _ _ ⟨rfl, rfl⟩ ?_
  refine ⟨[], rfl, rfl, ?_, ?_⟩ <;> repeat' (first | exact trivial | apply And.intro)
  exact fun he => hab (congrArg List.length he)
end Go.Sx.Ls

namespace Go.Sx.Ls
open Go Go.Proofs Go.Sx
set_option maxRecDepth 10000
set_option maxHeartbeats 4000000
def sers (L : List Pr.Disc) (i : Nat) : List Int := (L.take i).map fun d => d.ser
def stas (L : List Pr.Disc) (side : Int) (i : Nat) : List Int := (L.take i).map fun d => ofD d side
@[reducible] def rooM (L : List Pr.Disc) (side : Int) (i : Nat) : List (Option Blk) := [some (.box 85 [.lst true Pl.KPl (Pl.plA p9), .own 1, .own 2]), some (.row 2 false [.int .i64] (i64s (sers L i))), some (.row 3 false [.int .i64] (i64s (stas L side i)))]
theorem map_take_succ {β : Type} (f : Pr.Disc → β) (L : List Pr.Disc) {i : Nat} (h : i < L.length) : (L.take (i + 1)).map f = (L.take i).map f ++ [f (L.getD i Pr.d0)] := by
 rw [List.take_succ_eq_append_getElem h, List.map_append, List.getD_eq_getElem?_getD, List.getElem?_eq_getElem h]
 rfl
theorem sers_succ (L : List Pr.Disc) {i : Nat} (h : i < L.length) : sers L (i + 1) = sers L i ++ [(L.getD i Pr.d0).ser] := map_take_succ _ L h
theorem stas_succ (L : List Pr.Disc) (side : Int) {i : Nat} (h : i < L.length) : stas L side (i + 1) = stas L side i ++ [ofD (L.getD i Pr.d0) side] := map_take_succ _ L h
theorem eb2' : Tryz.t2.bytes = 8 := by kernel_rfl
theorem eb3' : Tryz.t3.bytes = 8 := by kernel_rfl
theorem s30 (L : List Pr.Disc) (side : Int) (hD : DOK L) (hs : side = 0 ∨ side = 1) : HSpec Tryz.prog 30 [lPt, lDs L, I side] [] (fun r m' => r = .tup [.one (.ptr 0 0), I 0] ∧ m' = rooM L side L.length) := by
 have lL := dis_len L
 have hl := hD.len
 have c9 := s9 L hD
 refine spec_g (bodyOf Tryz.f30) ([(10, ([], ordDef 0 6 ++ [⟨6, [], [7]⟩, ⟨7, [], []⟩, ⟨8, [0], []⟩] ++ ordDef 9 3)), (11, ([], ordDef 0 12 ++ [⟨12, [], [13]⟩, ⟨13, [], []⟩, ⟨14, [0], []⟩] ++ ordDef 15 3))]) pMix Tryz.func30 Tryz.ntmps30 [.tmp 6, .tmp 7] ?_
 repeat' ((conv => whnf); first | refine CallVC.pure rfl (c9) ?_ | refine Br.f (fun h => ?_) | (refine Br.mk (fun h => ?_) (fun h => ?_) <;> first | (exfalso; omega; done) | (exfalso; simp at h; done) | skip))
 all_goals first | (exfalso; omega) | skip
 all_goals
  refine LoopVC.mk (fun n st => ∃ (i : Nat), i ≤ L.length ∧ n = L.length - i ∧ st = ⟨0, envA 63 [(1, .x (lDs L)), (2, .x (I side)), (9, .x (.one (.ptr 0 0))), (27, .x (lDs L)), (28, .int .i64 (L.length : Int)), (29, .int .i64 (i : Int))], rooM L side i⟩) _ _ ⟨0, Nat.zero_le _, rfl, rfl⟩ ?_ ?_
  ·refine ⟨[some 0, none, none], rfl, rfl, ?_, ?_⟩ <;> repeat' (first | exact trivial | exact rfl | apply And.intro)
   exact congrArg Int.ofNat lL
  rintro n _ ⟨i, hi, hn, rfl⟩
  by_cases hi' : i < L.length
  ·have g0 := dis_0 L i
   have g1 := dis_1 L i
   have g2 := dis_2 L i
   have ha := hD.a i hi'
   have hb := hD.b i hi'
   have ls : List.length (i64s (sers L i)) = i := by rw [i64s_len]; simp [sers]; omega
   have lt : List.length (i64s (stas L side i)) = i := by rw [i64s_len]; simp [stas]; omega
   repeat' ((conv => whnf); first | rw [g0] | rw [g1] | rw [g2] | refine Ob.g ?_ | refine Br.t (fun h => ?_))
   all_goals first | (exfalso; omega) | skip
   refine Ob.mk (by rw [ls]; simp only [eb2', List.length_cons, List.length_nil]; omega) ?_
   obtain ⟨se, hse⟩ : ∃ se : Int, se = if side = 0 then (L.getD i Pr.d0).a else (L.getD i Pr.d0).b := ⟨_, rfl⟩
   have gs : getL [SV.int .i64 (L.getD i Pr.d0).a, SV.int .i64 (L.getD i Pr.d0).b] (side.toNat * Tryz.t2.size) = some (SV.int .i64 se) := by
    rw [hse]
    rcases hs with rfl | rfl <;> rfl
   have hse2 : 4 ≤ se ∧ se ≤ 9 := by rw [hse]; split <;> omega
   have hof : ofD (L.getD i Pr.d0) side = se - 1 := by rw [hse]; unfold ofD; split <;> rfl
   repeat' ((conv => whnf); first | rw [gs] | refine Rng.g ?_ | refine Ob.g ?_ | fail)
   refine Ob.mk (by rw [lt]; simp only [eb3', List.length_cons, List.length_nil]; omega) ?_
   repeat' ((conv => whnf); first | refine Rng.g ?_ | fail)
   refine Back.mk (L.length - (i + 1)) _ (by omega) ⟨i + 1, by omega, rfl, rfl⟩ ?_
   refine ⟨[some 0, some 5, some 7], rfl, rfl, ?_, ?_⟩ <;> repeat' (first | exact trivial | exact rfl | apply And.intro)
   ·rw [sers_succ L hi', i64s_snoc]
   ·rw [stas_succ L side hi', i64s_snoc, hof]
  ·obtain rfl : i = L.length := by omega
   repeat' ((conv => whnf); refine Br.f (fun h => ?_))
   conv => whnf
   refine EndVC.mk _ rfl _ _ (⟨rfl, rfl⟩) ?_
   exact Le.g [some 0, some 1, some 2]
end Go.Sx.Ls

namespace Go.Sx.Ls
open Go Go.Proofs Go.Sx
set_option maxRecDepth 10000
set_option maxHeartbeats 4000000
def bls (b : List Bool) : Arr := b.map fun x => [.bool x]
theorem bls_len (b : List Bool) : (bls b).length = b.length := by simp [bls]
theorem bls_0 (b : List Bool) (i : Nat) : rB (bls b) (i : Int).toNat 0 = b.getD i false := by
 rw [Int.toNat_natCast]
 simp only [rB, cellAt, bls, List.getD_eq_getElem?_getD, List.getElem?_map]
 cases b[i]? with
 | none => rfl
 | some x => rfl
def selF (b : List Bool) (l : List Int) : Nat → List Int
 | 0 => []
 | i + 1 => if b.getD i false = true then selF b l i ++ [l.getD i 0] else selF b l i
theorem selF_len (b : List Bool) (l : List Int) : ∀ i, (selF b l i).length ≤ i
 | 0 => Nat.le_refl _
 | i + 1 => by
  have := selF_len b l i
  simp only [selF]
  split
  ·simp; omega
  ·omega
theorem s32 (b : List Bool) (l : List Int) (hbl : b.length = l.length) (hl : l.length ≤ 40) : HSpec Tryz.prog 32 [.one (.lst true [.bool] (bls b)), .one (.lst true [.int .i64] (i64s l))] [] (fun r m' => r = .x (.one (.own 0)) ∧ m' = [some (.row 2 false [.int .i64] (i64s (selF b l b.length)))]) := by
 have lb := bls_len b
 have ll := i64s_len l
 refine spec_g (bodyOf Tryz.f32) [] pMix Tryz.func32 Tryz.ntmps32 [.tmp 4] ?_
 repeat' ((conv => whnf); first | refine Rng.g ?_ | fail)
 refine LoopVC.mk (fun n st => ∃ (i : Nat), i ≤ b.length ∧ n = b.length - i ∧ st = ⟨0, envA 24 [(1, .x (.one (.lst true [.int .i64] (i64s l)))), (4, .x (.one (.own 0))), (7, .x (.one (.lst true [.bool] (bls b)))), (8, .int .i64 (b.length : Int)), (9, .int .i64 (i : Int))], [some (.row 2 false [.int .i64] (i64s (selF b l i)))]⟩) _ _ ⟨0, Nat.zero_le _, rfl, rfl⟩ ?_ ?_
 ·refine ⟨[none], rfl, rfl, ?_, ?_⟩ <;> repeat' (first | exact trivial | exact rfl | apply And.intro)
  exact congrArg Int.ofNat lb
 rintro n _ ⟨i, hi, hn, rfl⟩
 by_cases hi' : i < b.length
 ·have g0 := bls_0 b i
  have g1 : rI (i64s l) (i : Int).toNat 0 = l.getD i 0 := by rw [Int.toNat_natCast, i64s_get]
  have lsel := selF_len b l i
  have ls : List.length (i64s (selF b l i)) = (selF b l i).length := i64s_len _
  repeat' ((conv => whnf); first | rw [g0] | rw [g1] | refine Rng.g ?_ | refine Ob.g ?_ | refine JoinVC.on ?_ | refine Br.t (fun h => ?_) | (refine Br.mk (fun h => ?_) (fun h => ?_) <;> first | (exfalso; omega; done) | (exfalso; simp at h; done) | skip))
  ·refine Ob.mk (by rw [ls]; simp only [eb2', List.length_cons, List.length_nil]; omega) ?_
   repeat' ((conv => whnf); first | refine Rng.g ?_ | fail)
   refine Back.mk (b.length - (i + 1)) _ (by omega) ⟨i + 1, by omega, rfl, rfl⟩ ?_
   refine ⟨[some 2], rfl, rfl, ?_, ?_⟩ <;> repeat' (first | exact trivial | exact rfl | apply And.intro)
   have hb : b.getD i false = true := by assumption
   simp only [selF]
   rw [if_pos hb, i64s_snoc]
  ·refine Back.mk (b.length - (i + 1)) _ (by omega) ⟨i + 1, by omega, rfl, rfl⟩ ?_
   refine ⟨[some 0], rfl, rfl, ?_, ?_⟩ <;> repeat' (first | exact trivial | exact rfl | apply And.intro)
   have hb : ¬ b.getD i false = true := by assumption
   simp only [selF]
   rw [if_neg hb]
 ·obtain rfl : i = b.length := by omega
  repeat' ((conv => whnf); refine Br.f (fun h => ?_))
  conv => whnf
  refine EndVC.mk _ rfl _ _ (⟨rfl, rfl⟩) ?_
  exact Le.g [some 0]
end Go.Sx.Ls

namespace Go.Sx.Ls
open Go Go.Proofs Go.Sx
set_option maxRecDepth 10000
set_option maxHeartbeats 4000000
@[reducible] def rooB (L : List Pr.Disc) (side : Int) : List Blk := [.box 85 [.lst true Pl.KPl (Pl.plA p9), .own 1, .own 2], .row 2 false [.int .i64] (i64s (sers L L.length)), .row 3 false [.int .i64] (i64s (stas L side L.length))]
theorem p9_par : ∀ i : Fin 9, -1 ≤ rI (Pl.plA p9) i.val (0 + 1) ∧ rI (Pl.plA p9) i.val (0 + 1) < (i.val : Int) ∧ rI (Pl.plA p9) i.val (0 + 1) ≤ 2 := by decide +kernel
theorem eb4' : Tryz.t4.bytes = 1 := by kernel_rfl
theorem s47 (L : List Pr.Disc) (side pl fr : Int) (hD : DOK L) : HSpec Tryz.prog 47 [.one (.ptr 0 0), I pl, I fr] (rooB L side) (fun r m' => ∃ A : List Bool, A.length = L.length ∧ (3 ≤ pl → fr = 0 → ∀ i, i < L.length → A.getD i false = decide (ofD (L.getD i Pr.d0) side = pl)) ∧ r = .x (.one (.lst false [.bool] (bls A))) ∧ m' = rooM L side L.length) := by
 have hl := hD.len
 have ls : List.length (i64s (sers L L.length)) = L.length := by rw [i64s_len]; simp [sers]
 have lt : List.length (i64s (stas L side L.length)) = L.length := by rw [i64s_len]; simp [stas]
 refine spec_g (bodyOf Tryz.f47) [] pMix Tryz.func47 Tryz.ntmps47 [.tmp 6] ?_
 repeat' ((conv => whnf); first | refine Rng.g ?_ | fail)
 refine Ob.mk (by simp only [ls, eb4']; omega) ?_
 repeat' ((conv => whnf); first | refine Rng.g ?_ | fail)
 refine LoopVC.mk (fun n st => ∃ (i : Nat) (A : List Bool), i ≤ L.length ∧ n = L.length - i ∧ A.length = L.length ∧ (3 ≤ pl → fr = 0 → ∀ j, j < i → A.getD j false = decide (ofD (L.getD j Pr.d0) side = pl)) ∧ st = ⟨3, envA 61 [(0, .x (.one (.ptr 0 0))), (1, .x (I pl)), (2, .x (I fr)), (7, .x (.one (.own 3))), (20, .x (.one (.own 2))), (21, .int .i64 (L.length : Int)), (22, .int .i64 (i : Int))], rooM L side L.length ++ [some (.row 4 false [.bool] (bls A))]⟩) _ _ ⟨0, List.replicate L.length false, Nat.zero_le _, rfl, List.length_replicate, fun _ _ j h => absurd h (Nat.not_lt_zero j), rfl⟩ ?_ ?_
 ·refine ⟨[some 0, some 1, some 2, some 3], rfl, rfl, ?_, ?_⟩ <;> repeat' (first | exact trivial | exact rfl | apply And.intro)
  all_goals first | exact congrArg Int.ofNat lt | (rw [ls, Int.toNat_natCast]; exact (List.map_replicate (f := fun x => [Cell.bool x]) (a := false)).symm)
 rintro n _ ⟨i, A, hi, hn, hA, hAj, rfl⟩
 by_cases hi' : i < L.length
 ·have gst : rI (i64s (stas L side L.length)) (i : Int).toNat 0 = ofD (L.getD i Pr.d0) side := by
   rw [Int.toNat_natCast, i64s_get]
   simp [stas, List.getD_eq_getElem?_getD, hi']
  have hs0 : 3 ≤ ofD (L.getD i Pr.d0) side ∧ ofD (L.getD i Pr.d0) side ≤ 8 := by
   have ha := hD.a i hi'
   have hb := hD.b i hi'
   unfold ofD
   split <;> omega
  have lp := p9_len
  generalize hs0e : ofD (L.getD i Pr.d0) side = s0 at *
  repeat' ((conv => whnf); first | rw [gst] | refine Ob.g ?_ | refine Br.t (fun h => ?_))
  refine LoopVC.mk (fun m st => ∃ (s c : Int), (-1 ≤ s ∧ s ≤ 8) ∧ (0 ≤ c ∧ c ≤ 9) ∧ m = (s + 1).toNat ∧ (s = s0 ∨ (s ≤ 2 ∧ s0 ≠ pl)) ∧ st = ⟨3, envA 61 [(0, .x (.one (.ptr 0 0))), (1, .x (I pl)), (2, .x (I fr)), (7, .x (.one (.own 3))), (8, .int .i64 (i : Int)), (9, .int .i64 s), (10, .int .i64 c), (20, .x (.one (.own 2))), (21, .int .i64 (L.length : Int)), (22, .int .i64 (i : Int))], rooM L side L.length ++ [some (.row 4 false [.bool] (bls A))]⟩) _ _ ⟨s0, 9, by omega, by omega, rfl, .inl rfl, rfl⟩ ?_ ?_
  ·exact Le.g [some 0, some 1, some 2, some 3]
  rintro m _ ⟨s, c, hs, hc, hm, hor, rfl⟩
  by_cases hgo : s ≠ pl ∧ 0 ≤ s
  ·have hq := p9_par ⟨s.toNat, by omega⟩
   have hq' : (-1 ≤ rI (Pl.plA p9) s.toNat (0 + 1)) ∧ rI (Pl.plA p9) s.toNat (0 + 1) < s ∧ rI (Pl.plA p9) s.toNat (0 + 1) ≤ 2 := ⟨hq.1, by have := hq.2.1; simp only at this; omega, hq.2.2⟩
   repeat' ((conv => whnf); first | refine Ob.g ?_ | refine Br.t (fun h => ?_))
   all_goals first | (exfalso; omega) | skip
   refine Back.mk (rI (Pl.plA p9) s.toNat (0 + 1) + 1).toNat _ (by omega) ⟨rI (Pl.plA p9) s.toNat (0 + 1), s, by omega, by omega, rfl, ?_, rfl⟩ ?_
   ·rcases hor with h | h
    ·exact .inr ⟨hq'.2.2, by rw [← h]; exact hgo.1⟩
    ·exact .inr ⟨hq'.2.2, h.2⟩
   ·exact Le.g [some 0, some 1, some 2, some 3]
  ·have lA : List.length (bls A) = L.length := by rw [bls_len, hA]
   repeat' ((conv => whnf); first | refine Rng.g ?_ | refine Ob.g ?_ | refine Br.t (fun h => ?_) | refine Br.f (fun h => ?_) | (refine Br.mk (fun h => ?_) (fun h => ?_) <;> first | (exfalso; omega; done) | (exfalso; simp at h; done) | skip))
   all_goals first | (exfalso; omega) | skip
   all_goals
    refine Back.mk (L.length - (i + 1)) _ (by omega) ⟨i + 1, A.set i (decide (s = pl ∧ fr ≤ c)), by omega, rfl, by simp [hA], fun h3 h0 j hj => ?_, rfl⟩ ?_
    ·by_cases hji : j = i
     ·rw [hji, hs0e, List.getD_eq_getElem?_getD, List.getElem?_set_self (by omega)]
      refine decide_eq_decide.2 ⟨fun h => ?_, fun h => ?_⟩
      ·rcases hor with h4 | h4 <;> omega
      ·rcases hor with h4 | h4 <;> omega
     ·rw [List.getD_eq_getElem?_getD, List.getElem?_set_ne (by omega), ← List.getD_eq_getElem?_getD]
      exact hAj h3 h0 j (by omega)
    ·refine ⟨[some 0, some 1, some 2, some 3], rfl, rfl, ?_, ?_⟩ <;> repeat' (first | exact trivial | exact rfl | apply And.intro)
     rw [Int.toNat_natCast]
     first
      | exact (Pl.A_upd (fun x => [Cell.bool x]) A i false (by omega) (p := decide (s = pl ∧ fr ≤ c)) (by rw [decide_eq_false (fun h => by have := h.1; omega)]; rfl))
      | exact (Pl.A_upd (fun x => [Cell.bool x]) A i false (by omega) (p := decide (s = pl ∧ fr ≤ c)) (by rw [show decide (s = pl ∧ fr ≤ c) = decide (fr ≤ c) from decide_eq_decide.2 ⟨fun h => h.2, fun h => ⟨by omega, h⟩⟩]; rfl))
 ·obtain rfl : i = L.length := by omega
  repeat' ((conv => whnf); refine Br.f (fun h => ?_))
  conv => whnf
  refine EndVC.mk _ rfl _ _ (⟨A, hA, hAj, rfl, rfl⟩) ?_
  exact Le.g [some 0, some 1, some 2]
end Go.Sx.Ls

namespace Go.Sx.Ls
open Go Go.Proofs Go.Sx
set_option maxRecDepth 10000
set_option maxHeartbeats 4000000
theorem s70 (A : List Bool) (hA : A.length ≤ 40) : HSpec Tryz.prog 70 [.one (.lst true [.bool] (bls A))] [] (fun r m' => r = .x (.one (.own 0)) ∧ m' = [some (.row 4 false [.bool] (bls A))]) := by
 have lb := bls_len A
 refine spec_g (bodyOf Tryz.f70) [] pMix Tryz.func70 Tryz.ntmps70 [.tmp 2] ?_
 repeat' ((conv => whnf); refine Nils.mk (fun h => ?_) ?_)
 ·have e : bls A = [] := by first | assumption | simp_all
  rw [e]
  conv => whnf
  refine EndVC.mk _ rfl _ _ (⟨rfl, rfl⟩) ?_
  exact Le.g [none]
 ·refine Ob.mk (by rw [lb, eb4']; simp only [List.length_nil]; omega) ?_
  repeat' ((conv => whnf); first | refine Rng.g ?_ | fail)
  conv => whnf
  refine EndVC.mk _ rfl _ _ (⟨rfl, rfl⟩) ?_
  exact Le.g [some 1]
end Go.Sx.Ls

namespace Go.Sx.Ls
open Go Go.Proofs Go.Sx
set_option maxRecDepth 10000
set_option maxHeartbeats 4000000
def frm (A : List Bool) (k : Nat) : List Bool := List.replicate k false ++ A.drop k
theorem frm_len {A : List Bool} {k : Nat} (h : k ≤ A.length) : (frm A k).length = A.length := by
 unfold frm
 rw [List.length_append, List.length_replicate, List.length_drop]
 omega
theorem frm_get (A : List Bool) {k i : Nat} (h : k ≤ i) : (frm A k).getD i false = A.getD i false := by
 unfold frm
 rw [List.getD_eq_getElem?_getD, List.getElem?_append_right (by rw [List.length_replicate]; exact h), List.length_replicate, List.getElem?_drop, ← List.getD_eq_getElem?_getD, Nat.add_sub_cancel' h]
theorem frm_bls (A : List Bool) (k : Nat) : (bls A).take 0 ++ (List.replicate k (zeroRow [.bool]) ++ (bls A).drop (0 + k)) = bls (frm A k) := by
 unfold frm bls
 rw [List.map_append, List.map_replicate, List.map_drop, Nat.zero_add]
 rfl
theorem s48 (v : XV) (A : List Bool) (k : Nat) (hA : A.length ≤ 40) (hk : k ≤ A.length) : HSpec Tryz.prog 48 [v, .one (.lst true [.bool] (bls A)), I (k : Int)] [] (fun r m' => r = .x (.one (.lst false [.bool] (bls (frm A k)))) ∧ m' = []) := by
 have lA := bls_len A
 refine spec_g (bodyOf Tryz.f48) [] pMix Tryz.func48 Tryz.ntmps48 [.tmp 6] ?_
 repeat' ((conv => whnf); first | refine Rng.g ?_ | fail)
 conv => whnf
 refine CallVC.mk [] _ _ _ rfl rfl rfl (s70 A hA) (fun r m' h' => ?_)
 obtain ⟨rfl, rfl⟩ := h'
 conv => whnf
 repeat' ((conv => whnf); first | refine Ob.g ?_ | fail)
 conv => whnf
 refine EndVC.mk _ rfl _ _ (⟨rfl, rfl⟩) ?_
 refine ⟨[], rfl, rfl, ?_, ?_⟩ <;> repeat' (first | exact trivial | exact rfl | apply And.intro)
 exact frm_bls A k
end Go.Sx.Ls

namespace Go.Sx.Ls
open Go Go.Proofs Go.Sx
set_option maxRecDepth 10000
set_option maxHeartbeats 4000000
theorem e46 : EntersF Tryz.prog 46 := enters_of Tryz.func46 (c := bodyOf Tryz.f46) (by kernel_rfl) rfl
theorem s31 (L : List Pr.Disc) (side : Int) : HSpec Tryz.prog 31 [.one (.ptr 0 0)] (rooB L side) (fun r m' => r = .x (.one (.fn 46 [(3, 0)])) ∧ m' = rooM L side L.length ++ [some (.box 72 [.ptr 0 0])]) := by
 refine spec_g (bodyOf Tryz.f31) [] pMix Tryz.func31 Tryz.ntmps31 [.tmp 2] ?_
 repeat' ((conv => whnf); first | refine Rng.g ?_ | fail)
 conv => whnf
 refine EndVC.mk _ rfl _ _ (⟨rfl, rfl⟩) ?_
 exact Le.g [some 0, some 1, some 2, some 3]
noncomputable def rf11 : Code := cB (cS (cF (cS (cS (cS (bodyOf Tryz.f11))))))
@[reducible] noncomputable def lp11 (L : List Pr.Disc) (side x : Int) (f : Nat) (p : LP) : Blk := .loop [25] (cAs rf11) (cBo rf11) [.x lPt, .x (lDs L), .x (I side), .x (.agg [.int .i64 x, .int .i64 ((f : Int) + 1)]), .any, .any, .any, .x (.one (.ptr 0 0)), .x (.one (.ptr 1 0)), .x (.one (.ptr 2 0)), .x (.one (.ptr 6 0)), .x (.one (.int .i64 0)), .any, .tup [.one (.ptr 3 0), .one (.int .i64 0)], .x lPt, .x (lDs L), .x (.one (.int .i64 side)), .tup [.one (.ptr 3 0), .one (.int .i64 0)], .x (.one (.ptr 3 0)), .x (.one (.int .i64 0)), .x (.one (.int .i64 0)), .x (.one .ff), .any, .x (.one (.ptr 3 0)), .x (.one (.fn 46 [(7, 0)])), .any, .any, .any, .any, .any, .any, .any, .any, .any, .any, .any, .any] p
@[reducible] noncomputable def MR (L : List Pr.Disc) (side x : Int) (f : Nat) : List (Option Blk) := [some (.box 48 [.int .i64 x, .int .i64 ((f : Int) + 1)]), some (.box 43 [.nils]), some (.box 25 [.int .i64 0]), some (.box 85 [.lst true Pl.KPl (Pl.plA p9), .own 4, .own 5]), some (.row 2 false [.int .i64] (i64s (sers L L.length))), some (.row 3 false [.int .i64] (i64s (stas L side L.length))), some (.box 72 [.ptr 3 0]), some (.box 72 [.ptr 3 0]), some (lp11 L side x f .ready)]
@[reducible] noncomputable def ME (L : List Pr.Disc) (side x : Int) (f : Nat) (H : List Int) : List (Option Blk) := [some (.box 48 [.int .i64 x, .int .i64 ((f : Int) + 1)]), some (.box 43 [.own 9]), some (.box 25 [.int .i64 0]), some (.box 85 [.lst true Pl.KPl (Pl.plA p9), .own 4, .own 5]), some (.row 2 false [.int .i64] (i64s (sers L L.length))), some (.row 3 false [.int .i64] (i64s (stas L side L.length))), some (.box 72 [.ptr 3 0]), some (.box 72 [.ptr 3 0]), some (lp11 L side x f (.done .ret)), some (.row 2 false [.int .i64] (i64s H))]
theorem r11_no (L : List Pr.Disc) (side x : Int) (f : Nat) (pl fr : Int) (A : List Bool) (h : ¬ pl = x) : RSem Tryz.prog 8 [.agg [.int .i64 pl, .int .i64 fr, .lst false [.bool] (bls A)]] (MR L side x f) (fun bb m' => bb = true ∧ m' = MR L side x f) := by
 refine RSem.le (rsem_of_awp (Q := fun bb m' => ∃ m2, (bb = true ∧ m2 = MR L side x f) ∧ Le ⟨(MR L side x f).length, [], m'⟩ ⟨(MR L side x f).length, [], m2⟩) pMix ([]) rfl (by kernel_rfl) ?_) (fun bb m' h => by obtain ⟨m2, h1, h2⟩ := h; exact ⟨m2, h1, h2⟩)
 repeat' ((conv => whnf); first | refine Ob.e ?_ | refine Br.f (fun h => ?_))
 refine ⟨_, ⟨rfl, rfl⟩, [some 0, some 1, some 2, some 3, some 4, some 5, some 6, some 7, some 8], rfl, rfl, ?_, ?_⟩ <;> repeat' (first | exact trivial | exact rfl | apply And.intro)
theorem r11_yes (L : List Pr.Disc) (side x : Int) (f : Nat) (hL : L.length ≤ 40) (A : List Bool) (hA : A.length = L.length) : RSem Tryz.prog 8 [.agg [.int .i64 x, .int .i64 ((f : Int) + 1), .lst false [.bool] (bls A)]] (MR L side x f) (fun bb m' => bb = false ∧ m' = ME L side x f (selF A (sers L L.length) A.length)) := by
 refine RSem.le (rsem_of_awp (Q := fun bb m' => ∃ m2, (bb = false ∧ m2 = ME L side x f (selF A (sers L L.length) A.length)) ∧ Le ⟨(MR L side x f).length, [], m'⟩ ⟨(MR L side x f).length, [], m2⟩) pMix ([]) rfl (by kernel_rfl) ?_) (fun bb m' h => by obtain ⟨m2, h1, h2⟩ := h; exact ⟨m2, h1, h2⟩)
 repeat' ((conv => whnf); first | refine Ob.e ?_ | (refine Br.mk (fun h => ?_) (fun h => ?_) <;> first | (exfalso; omega; done) | (exfalso; simp at h; done) | skip))
 have ls : (sers L L.length).length = L.length := by simp [sers]
 conv => whnf
 refine CallVC.mk [] _ _ _ rfl rfl rfl (s32 A (sers L L.length) (hA.trans ls.symm) (by rw [ls]; exact hL)) (fun r m' h' => ?_)
 obtain ⟨rfl, rfl⟩ := h'
 conv => whnf
 repeat' ((conv => whnf); first | refine Rng.g ?_ | fail)
 refine ⟨_, ⟨rfl, rfl⟩, [some 0, some 1, some 2, some 3, some 4, some 5, some 6, some 7, some 8, some 10], rfl, rfl, ?_, ?_⟩ <;> repeat' (first | exact trivial | exact rfl | apply And.intro)
theorem YieldVC.off {P : Program} {id : Nat} {args : List XV} {s : St} {K : AV → St → Prop} {m2 : List (Option Blk)} (h : RSem P id args s.mem (fun b m' => b = false ∧ m' = m2)) (k : K (.x (.one .ff)) ⟨s.k, s.env, m2⟩) : YieldVC P id args s K :=
 .mk (h.mono fun b m' hh => by obtain ⟨rfl, rfl⟩ := hh; exact k)
theorem selF_mem {b : List Bool} {l : List Int} : ∀ {n i : Nat}, i < n → b.getD i false = true → l.getD i 0 ∈ selF b l n
 | 0, _, h, _ => absurd h (Nat.not_lt_zero _)
 | n + 1, i, h, hb => by
  simp only [selF]
  rcases Nat.lt_succ_iff_lt_or_eq.1 h with h1 | rfl
  ·have := selF_mem (l := l) h1 hb
   split
   ·exact List.mem_append_left _ this
   ·exact this
  ·rw [if_pos hb]
   exact List.mem_append_right _ (List.mem_singleton.2 rfl)
theorem sers_at {L : List Pr.Disc} (hD : DOK L) {k : Nat} (h : k < L.length) : (sers L L.length).getD k 0 = (k : Int) + 1 := by
 rw [← hD.ser k h]
 simp only [sers, List.take_length, List.getD_eq_getElem?_getD, List.getElem?_map, List.getElem?_eq_getElem h, Option.map_some, Option.getD_some]
theorem p9_lo : ∀ i : Fin 3, rI (Pl.plA p9) i.val 0 < 3 := by decide +kernel
theorem i46 (L : List Pr.Disc) (side x : Int) (f : Nat) (hD : DOK L) (hx : 3 ≤ x ∧ x ≤ 8) (hf : f < L.length) (hfx : ofD (L.getD f Pr.d0) side = x) (hmin : ∀ j, j < f → ¬ ofD (L.getD j Pr.d0) side = x) :
  ISem Tryz.prog 46 [.one (.yld 8), .one (.ptr 7 0)] (MR L side x f) (fun m' => ∃ H : List Int, (H.length ≤ 40 ∧ ∀ i, f ≤ i → i < L.length → ofD (L.getD i Pr.d0) side = x → (i : Int) + 1 ∈ H) ∧ m' = ME L side x f H) := by
 refine ISem.le (isem_of_awp (Q := fun m' => ∃ m2, (∃ H : List Int, (H.length ≤ 40 ∧ ∀ i, f ≤ i → i < L.length → ofD (L.getD i Pr.d0) side = x → (i : Int) + 1 ∈ H) ∧ m2 = ME L side x f H) ∧ Le ⟨(MR L side x f).length, [], m'⟩ ⟨(MR L side x f).length, [], m2⟩) pMix ([(8, ([], ordDef 0 15 ++ [⟨15, [2, 3, 4, 5, 6, 7, 8, 9, 10, 11], []⟩] ++ ordDef 16 4))]) Tryz.func46 (c := bodyOf Tryz.f46) rfl (by kernel_rfl) Tryz.ntmps46 (by kernel_rfl) ?_) (fun m' h => by obtain ⟨m2, h1, h2⟩ := h; exact ⟨m2, h1, h2⟩)
 repeat' ((conv => whnf); first | refine Rng.g ?_ | fail)
 refine LoopVC.mk (fun n st => ∃ (i : Nat), (i : Int) ≤ x ∧ n = 9 - i ∧ st = ⟨9, envA 118 [(0, .x (.one (.yld 8))), (1, .x (.one (.ptr 7 0))), (15, .x (.one (.lst true Pl.KPl (Pl.plA p9)))), (16, .int .i64 9), (17, .int .i64 (i : Int))], MR L side x f⟩) _ _ ⟨0, by omega, rfl, rfl⟩ ?_ ?_
 ·exact Le.g [some 0, some 1, some 2, some 3, some 4, some 5, some 6, some 7, some 8]
 rintro n _ ⟨i, hi, hn, rfl⟩
 have lp := p9_len
 have hl := hD.len
 by_cases h3 : i < 3
 ·have hk : rI (Pl.plA p9) (i : Int).toNat 0 < 3 := by rw [Int.toNat_natCast]; exact p9_lo ⟨i, h3⟩
  repeat' ((conv => whnf); first | refine Rng.g ?_ | refine Ob.g ?_ | refine Br.t (fun h => ?_) | refine Br.f (fun h => ?_))
  refine LoopVC.mk (fun n st => ∃ (k : Nat), k ≤ 9 ∧ n = 9 - k ∧ st = ⟨9, envA 118 [(0, .x (.one (.yld 8))), (1, .x (.one (.ptr 7 0))), (3, .int .i64 (i : Int)), (8, .int .i64 (k : Int)), (15, .x (.one (.lst true Pl.KPl (Pl.plA p9)))), (16, .int .i64 9), (17, .int .i64 (i : Int))], MR L side x f⟩) _ _ ⟨i + 1, by omega, rfl, rfl⟩ ?_ ?_
  ·exact Le.g [some 0, some 1, some 2, some 3, some 4, some 5, some 6, some 7, some 8]
  rintro n' _ ⟨k, hk9, hn', rfl⟩
  by_cases hk' : k < 9
  ·repeat' ((conv => whnf); first | refine Rng.g ?_ | refine Ob.g ?_ | refine Br.t (fun h => ?_) | (refine Br.mk (fun h => ?_) (fun h => ?_) <;> first | (exfalso; omega; done) | (exfalso; simp at h; done) | skip))
   ·conv => whnf
    refine CallVC.mk [3, 4, 5] _ _ _ rfl rfl rfl (s47 L side (i : Int) (k : Int) hD) (fun r m' h' => ?_)
    obtain ⟨A, hA, _, rfl, rfl⟩ := h'
    conv => whnf
    refine YieldVC.of (r11_no L side x f i k A (by omega)) ?_
    repeat' ((conv => whnf); first | refine Rng.g ?_ | fail)
    refine Back.mk (9 - (k + 1)) _ (by omega) ⟨k + 1, by omega, rfl, rfl⟩ ?_
    exact Le.g [some 0, some 1, some 2, some 3, some 4, some 5, some 6, some 7, some 8]
   ·refine Back.mk (9 - (k + 1)) _ (by omega) ⟨k + 1, by omega, rfl, rfl⟩ ?_
    exact Le.g [some 0, some 1, some 2, some 3, some 4, some 5, some 6, some 7, some 8]
  ·obtain rfl : k = 9 := by omega
   repeat' ((conv => whnf); first | refine Rng.g ?_ | refine Br.f (fun h => ?_))
   refine Back.mk (9 - (i + 1)) _ (by omega) ⟨i + 1, by omega, rfl, rfl⟩ ?_
   exact Le.g [some 0, some 1, some 2, some 3, some 4, some 5, some 6, some 7, some 8]
 ·have hk : rI (Pl.plA p9) (i : Int).toNat 0 = 3 := by rw [Int.toNat_natCast]; exact p9_st ⟨i, by omega⟩ (by show 3 ≤ i; omega)
  repeat' ((conv => whnf); first | rw [hk] | refine Ob.g ?_ | refine Br.t (fun h => ?_))
  conv => whnf
  refine CallVC.mk [3, 4, 5] _ _ _ rfl rfl rfl (s47 L side (i : Int) 0 hD) (fun r m' h' => ?_)
  obtain ⟨A, hA, hAi, rfl, rfl⟩ := h'
  conv => whnf
  have lA := bls_len A
  repeat' ((conv => whnf); first | refine Rng.g ?_ | fail)
  refine LoopVC.mk (fun n st => ∃ (k : Nat), k ≤ A.length ∧ ((i : Int) = x → k ≤ f) ∧ n = A.length - k ∧ st = ⟨9, envA 118 [(0, .x (.one (.yld 8))), (1, .x (.one (.ptr 7 0))), (3, .int .i64 (i : Int)), (5, .x (.one (.lst false [.bool] (bls A)))), (15, .x (.one (.lst true Pl.KPl (Pl.plA p9)))), (16, .int .i64 9), (17, .int .i64 (i : Int)), (28, .x (.one (.lst false [.bool] (bls A)))), (29, .int .i64 (A.length : Int)), (30, .int .i64 (k : Int))], MR L side x f⟩) _ _ ⟨0, Nat.zero_le _, fun _ => Nat.zero_le _, rfl, rfl⟩ ?_ ?_
  ·refine ⟨[some 0, some 1, some 2, some 3, some 4, some 5, some 6, some 7, some 8], rfl, rfl, ?_, ?_⟩ <;> repeat' (first | exact trivial | exact rfl | apply And.intro)
   exact congrArg Int.ofNat lA
  rintro n' _ ⟨k, hk9, hkf, hn', rfl⟩
  by_cases hk' : k < A.length
  ·have gA := bls_0 A k
   have ls : (i64s (sers L L.length)).length = L.length := by rw [i64s_len]; simp [sers]
   have hof := hAi (by omega) rfl k (by omega)
   have gS : rI (i64s (sers L L.length)) (k : Int).toNat 0 = (k : Int) + 1 := by
    rw [Int.toNat_natCast, i64s_get]
    exact sers_at hD (by omega)
   have c48 := fun v => s48 v A k (by omega) (by omega)
   have lF := frm_len (A := A) (k := k) (by omega)
   by_cases hix : (i : Int) = x
   ·subst hix
    repeat' ((conv => whnf); first | rw [gA] | refine Rng.g ?_ | refine Ob.g ?_ | refine Br.t (fun h => ?_) | (refine Br.mk (fun h => ?_) (fun h => ?_) <;> first | (exfalso; omega; done) | (exfalso; simp at h; done) | skip))
    ·conv => whnf
     refine CallVC0.mk _ _ rfl (c48 _) (fun r m' h' => ?_)
     obtain ⟨rfl, rfl⟩ := h'
     conv => whnf
     repeat' ((conv => whnf); rw [gS])
     have ht : A.getD k false = true := by assumption
     have hkf' : k = f := by
      rw [hof, decide_eq_true_eq] at ht
      rcases Nat.lt_or_ge k f with h1 | h1
      ·exact absurd ht (hmin k h1)
      ·exact Nat.le_antisymm (hkf rfl) h1
     subst hkf'
     refine YieldVC.off (r11_yes L side i k hl (frm A k) (lF.trans hA)) ?_
     repeat' ((conv => whnf); first | refine Rng.g ?_ | fail)
     refine ⟨_, ⟨_, ⟨Nat.le_trans (selF_len _ _ _) (by omega), fun j h1 h2 h3 => ?_⟩, rfl⟩, [some 0, some 1, some 2, some 3, some 4, some 5, some 6, some 7, some 8, some 9], rfl, rfl, ?_, ?_⟩
     ·rw [← sers_at hD h2]
      refine selF_mem (by omega) ?_
      rw [frm_get A h1, hAi (by omega) rfl j h2, h3]
      exact decide_eq_true rfl
     all_goals repeat' (first | exact trivial | exact rfl | apply And.intro)
    ·have ht : ¬ A.getD k false = true := by assumption
     have hkf' : k < f := by
      rw [hof, decide_eq_true_eq] at ht
      refine Nat.lt_of_le_of_ne (hkf rfl) fun e => ht (by rw [e]; exact hfx)
     refine Back.mk (A.length - (k + 1)) _ (by omega) ⟨k + 1, by omega, fun _ => by omega, rfl, rfl⟩ ?_
     exact Le.g [some 0, some 1, some 2, some 3, some 4, some 5, some 6, some 7, some 8]
   ·repeat' ((conv => whnf); first | rw [gA] | refine Rng.g ?_ | refine Ob.g ?_ | refine Br.t (fun h => ?_) | (refine Br.mk (fun h => ?_) (fun h => ?_) <;> first | (exfalso; omega; done) | (exfalso; simp at h; done) | skip))
    ·conv => whnf
     refine CallVC0.mk _ _ rfl (c48 _) (fun r m' h' => ?_)
     obtain ⟨rfl, rfl⟩ := h'
     conv => whnf
     repeat' ((conv => whnf); rw [gS])
     refine YieldVC.of (r11_no L side x f i ((k : Int) + 1) (frm A k) hix) ?_
     repeat' ((conv => whnf); first | refine Rng.g ?_ | fail)
     refine Back.mk (A.length - (k + 1)) _ (by omega) ⟨k + 1, by omega, fun h => absurd h hix, rfl, rfl⟩ ?_
     exact Le.g [some 0, some 1, some 2, some 3, some 4, some 5, some 6, some 7, some 8]
    ·refine Back.mk (A.length - (k + 1)) _ (by omega) ⟨k + 1, by omega, fun h => absurd h hix, rfl, rfl⟩ ?_
     exact Le.g [some 0, some 1, some 2, some 3, some 4, some 5, some 6, some 7, some 8]
  ·have hix : ¬ (i : Int) = x := fun h => by have := hkf h; omega
   repeat' ((conv => whnf); first | refine Rng.g ?_ | refine Br.f (fun h => ?_))
   refine Back.mk (9 - (i + 1)) _ (by omega) ⟨i + 1, by omega, rfl, rfl⟩ ?_
   exact Le.g [some 0, some 1, some 2, some 3, some 4, some 5, some 6, some 7, some 8]
end Go.Sx.Ls

namespace Go.Sx.Ls
open Go Go.Proofs Go.Sx
set_option maxRecDepth 10000
set_option maxHeartbeats 4000000
theorem s11 (L : List Pr.Disc) (side x : Int) (f : Nat) (hD : DOK L) (hs : side = 0 ∨ side = 1) (hx : 3 ≤ x ∧ x ≤ 8) (hf : f < L.length) (hfx : ofD (L.getD f Pr.d0) side = x) (hmin : ∀ j, j < f → ¬ ofD (L.getD j Pr.d0) side = x) :
  HSpec Tryz.prog 11 [lPt, lDs L, I side, .agg [.int .i64 x, .int .i64 ((f : Int) + 1)]] [] (fun r m' => ∃ H : List Int, H.length ≤ 40 ∧ (∀ i, f ≤ i → i < L.length → ofD (L.getD i Pr.d0) side = x → (i : Int) + 1 ∈ H) ∧ r = .tup [.one (.own 0), I 0] ∧ m' = [some (.row 2 false [.int .i64] (i64s H))]) := by
 refine spec_g (bodyOf Tryz.f11) [] pMix Tryz.func11 Tryz.ntmps11 [.cell 8 43, .cell 9 25] ?_
 repeat' ((conv => whnf); first | refine Rng.g ?_ | fail)
 conv => whnf
 refine CallVC.mk [] _ _ _ rfl rfl rfl (s30 L side hD hs) (fun r m' h' => ?_)
 obtain ⟨rfl, rfl⟩ := h'
 conv => whnf
 repeat' ((conv => whnf); refine Br.f (fun h => ?_))
 conv => whnf
 refine CallVC.mk [3, 4, 5] _ _ _ rfl rfl rfl (s31 L side) (fun r m' h' => ?_)
 obtain ⟨rfl, rfl⟩ := h'
 conv => whnf
 repeat' ((conv => whnf); first | refine Rng.g ?_ | fail)
 have h46 := i46 L side x f hD hx hf hfx hmin
 refine RangeVC.of e46 h46 (fun m' hm => ?_)
 obtain ⟨H, ⟨hH1, hH2⟩, rfl⟩ := hm
 repeat' ((conv => whnf); first | refine Rng.g ?_ | fail)
 conv => whnf
 refine EndVC.mk _ rfl _ _ (⟨H, hH1, hH2, rfl, rfl⟩) ?_
 exact Le.g [some 9]
end Go.Sx.Ls

namespace Go.Sx.Pr
open Go Go.Proofs Go.Sx
set_option maxRecDepth 10000
set_option maxHeartbeats 1000000
theorem pinv_new {m : Mac} (hm : m.ok) : PInv m ⟨false, false, 0, m.room, 0, 0, 0, 0, 0⟩ [] := by
 have hm' := hm
 obtain ⟨m1, m2, m3, m4, m5, m6, m7, m8, m9, m10, m11, m12, m13, m14, m15⟩ := hm'
 refine ⟨hm, by simp only; omega, by simp, by simp, by simp, by simp, by simp, by simp, by simp, by simp, by simp, by simp, fun k => ?_, by simp, by simp⟩
 simp [useC]; omega
theorem errD_kind {m : Mac} {p : Pst} {L : List Disc} {k a b : Int} (e : errD m p L k a b = 0) : k = 1 ∨ k = 2 ∨ k = 3 ∨ k = 4 ∨ k = 5 ∨ k = 6 := by
 unfold errD at e
 by_cases h : k = 1 ∨ k = 2 ∨ k = 3 ∨ k = 4 ∨ k = 5 ∨ k = 6
 ·exact h
 ·rw [if_neg (by omega), if_neg (by omega), if_neg (by omega), if_neg (by omega), if_neg (by omega), if_neg (by omega)] at e; cases e
section
variable {m : Mac} {p : Pst} {L : List Disc} {a b : Int}
theorem err1_inv (e : errD m p L 1 a b = 0) : ¬ (outN a ∨ outN b) ∧ a ≠ b ∧ p.cl = false ∧ p.ld = false ∧ ¬ oldP m L a b := by
 rw [errD1] at e
 split at e
 ·cases e
 split at e
 ·cases e
 split at e
 ·cases e
 split at e
 ·cases e
 split at e
 ·cases e
 rename_i h1 h2 h3 h4 h5
 exact ⟨h1, h2, by simpa using h3, by simpa using h4, h5⟩
theorem err2_inv (e : errD m p L 2 a b = 0) : p.cl = false ∧ p.ld = false ∧ p.a ≠ 0 ∧ ¬ oldP m L p.a p.b ∧ L.length ≠ 1000 := by
 rw [errD2] at e
 split at e
 ·cases e
 split at e
 ·cases e
 split at e
 ·cases e
 split at e
 ·cases e
 rename_i h1 h2 h3 h4
 exact ⟨by simpa using h1, by simpa using fun h => h2 (.inl h), fun h => h2 (.inr h), h3, h4⟩
theorem err3_inv (e : errD m p L 3 a b = 0) : p.cl = false ∧ p.ld = true := by
 rw [errD3] at e
 split at e
 ·cases e
 rename_i h1
 exact ⟨by simpa using fun h => h1 (.inl h), Decidable.byContradiction fun h => h1 (.inr h)⟩
theorem err4_inv (e : errD m p L 4 a b = 0) : 0 ≤ a ∧ a ≤ 2 ∧ (a = 1 → p.cl = true) := by
 rw [errD4] at e
 split at e
 ·cases e
 split at e
 ·cases e
 rename_i h1 h2
 exact ⟨by omega, by omega, fun h => Decidable.byContradiction fun h3 => h2 ⟨h, h3⟩⟩
theorem err5_inv (e : errD m p L 5 a b = 0) : 1 ≤ a ∧ a ≤ 1000 ∧ p.tm + a ≤ 1073741824 := by
 rw [errD5] at e
 split at e
 ·cases e
 split at e
 ·cases e
 omega
theorem err6_inv (e : errD m p L 6 a b = 0) : p.cl = true ∧ p.v ≠ 1 ∧ p.t ≤ m.cool := by
 rw [errD6] at e
 split at e
 ·cases e
 split at e
 ·cases e
 rename_i h1 h2
 exact ⟨Decidable.byContradiction h1, fun h => h2 (.inl h), by omega⟩
end
theorem pinv_next {m : Mac} {p : Pst} {L : List Disc} {k a b : Int} (h : PInv m p L) (e : errD m p L k a b = 0) : PInv m (nextP m p k a b) (nextL m p L k) := by
 have hk := errD_kind e
 rcases hk with rfl | rfl | rfl | rfl | rfl | rfl
 ·obtain ⟨h1, h2, h3, h4, h5⟩ := err1_inv e
  unfold outN at h1
  have hx : PInv m { p with a := a, b := b } L := { h with ld := fun q => (by rw [h4] at q; cases q), ldu := fun q => (by rw [h4] at q; cases q), ab := (by simp only; omega), mt := fun _ => ⟨(by simp only; omega), (by simp only; omega), h2⟩ }
  exact hx
 ·obtain ⟨h1, h2, h3, h4, h5⟩ := err2_inv e
  have hl := h.len
  have hx : PInv m { p with ld := true } L := { h with ld := fun _ => h.mt h3, cl := fun q => rfl, lt := fun _ => by omega, ldu := fun _ => h4 }
  exact hx
 ·obtain ⟨h1, h2⟩ := err3_inv e
  have ht := h.t
  have ho := h.ok
  have htm := h.tm
  have : 0 ≤ p.t ∧ p.t ≤ 400 := by
   obtain ⟨m1, m2, m3, m4, m5, m6⟩ := ho
   omega
  have hx : PInv m { p with cl := true, h := 0, pk := p.t } L := { h with cl := fun _ => h2, h := (by simp only; omega), pk := this, steam := fun _ => rfl }
  exact hx
 ·obtain ⟨h1, h2, h3⟩ := err4_inv e
  have hx : PInv m { p with v := a } L := { h with v := ⟨h1, h2⟩, steam := h3 }
  exact hx
 ·obtain ⟨h1, h2, h3⟩ := err5_inv e
  have w := waitK h.ok (p := { p with tm := p.tm + a }) h.t a.toNat
  have hx : PInv m (waitS m a.toNat { p with tm := p.tm + a }) L := by
   generalize waitS m a.toNat { p with tm := p.tm + a } = q at w ⊢
   obtain ⟨w1, w2, w3, w4, w5, w6, w7, w8, w9⟩ := w
   simp only at w1 w2 w3 w4 w5 w6 w7 w8 w9
   have htm := h.tm
   have hh := h.h
   have hpk := h.pk
   have htop := h.ok.2.2.2.2.1
   refine ⟨h.ok, w7, ?_, ?_, h.len, ?_, by omega, by omega, by omega, by rw [w3]; exact h.v, by rw [w3, w1]; exact h.steam, by rw [w5, w6]; exact h.ab, h.use, ?_, ?_⟩
   ·rw [w2, w5, w6]; exact h.ld
   ·rw [w1, w2]; exact h.cl
   ·rw [w2]; exact h.lt
   ·rw [w2, w5, w6]; exact h.ldu
   ·rw [w5, w6]; exact h.mt
  exact hx
 ·obtain ⟨h1, h2, h3⟩ := err6_inv e
  have hld := h.cl h1
  have hlt := h.lt hld
  have hu := h.ldu hld
  have hx : PInv m { p with cl := false, ld := false } (L ++ [discD m p L]) := by
   refine { h with ld := fun q => ?_, cl := fun q => ?_, len := ?_, lt := fun q => ?_, steam := fun q => absurd q h2, use := fun k => ?_, ldu := fun q => ?_ }
   ·cases q
   ·cases q
   ·simp; omega
   ·cases q
   ·have hs : useC (L ++ [discD m p L]) k = useC L k + (if p.a = k ∨ p.b = k then 1 else 0) := useC_snoc ..
    have := h.use k
    rw [hs]
    split
    ·rename_i hk
     rcases hk with rfl | rfl
     ·simp only [oldP] at hu; omega
     ·simp only [oldP] at hu; omega
    ·omega
   ·cases q
  exact hx
end Go.Sx.Pr

namespace Go.Sx.Ls
open Go Go.Proofs Go.Sx
structure OInv (m : Pr.Mac) (p : Pr.Pst) (L : List Pr.Disc) (i : Nat) : Prop where
 inv : Pr.PInv m p L
 len : L.length ≤ i
 ser : ∀ j, j < L.length → (L.getD j Pr.d0).ser = (j : Int) + 1
 a : ∀ j, j < L.length → 4 ≤ (L.getD j Pr.d0).a ∧ (L.getD j Pr.d0).a ≤ 9
 b : ∀ j, j < L.length → 4 ≤ (L.getD j Pr.d0).b ∧ (L.getD j Pr.d0).b ≤ 9
 ab : p.a ≠ 0 → (4 ≤ p.a ∧ p.a ≤ 9) ∧ (4 ≤ p.b ∧ p.b ≤ 9)
theorem OInv.new {m : Pr.Mac} (hm : m.ok) : OInv m ⟨false, false, 0, m.room, 0, 0, 0, 0, 0⟩ [] 0 :=
 ⟨Pr.pinv_new hm, Nat.le_refl _, fun j h => absurd h (Nat.not_lt_zero j), fun j h => absurd h (Nat.not_lt_zero j), fun j h => absurd h (Nat.not_lt_zero j), fun h => absurd rfl h⟩
theorem OInv.succ {m : Pr.Mac} {p : Pr.Pst} {L : List Pr.Disc} {i : Nat} (h : OInv m p L i) : OInv m p L (i + 1) := { h with len := Nat.le_succ_of_le h.len }
theorem getD_snoc {α : Type} (L : List α) (d x : α) (j : Nat) : (L ++ [d]).getD j x = if j < L.length then L.getD j x else if j = L.length then d else x := by
 rw [List.getD_eq_getElem?_getD]
 by_cases h : j < L.length
 ·rw [if_pos h, List.getElem?_append_left h, List.getD_eq_getElem?_getD]
 ·rw [if_neg h, List.getElem?_append_right (Nat.le_of_not_lt h)]
  by_cases h2 : j = L.length
  ·rw [if_pos h2, h2, Nat.sub_self]; rfl
  ·rw [if_neg h2, List.getElem?_eq_none (by rw [List.length_singleton]; omega)]; rfl
theorem OInv.next {m : Pr.Mac} {p : Pr.Pst} {L : List Pr.Disc} {i : Nat} {k a b : Int} (h : OInv m p L i) (e : Pr.errD m p L k a b = 0) (hk : k = 1 → (4 ≤ a ∧ a ≤ 9) ∧ (4 ≤ b ∧ b ≤ 9)) : OInv m (Pr.nextP m p k a b) (Pr.nextL m p L k) (i + 1) := by
 have hi := Pr.pinv_next h.inv e
 have hq := Pr.errD_kind e
 have hl := h.len
 rcases hq with rfl | rfl | rfl | rfl | rfl | rfl
 ·exact ⟨hi, Nat.le_succ_of_le hl, h.ser, h.a, h.b, fun _ => hk rfl⟩
 ·exact ⟨hi, Nat.le_succ_of_le hl, h.ser, h.a, h.b, h.ab⟩
 ·exact ⟨hi, Nat.le_succ_of_le hl, h.ser, h.a, h.b, h.ab⟩
 ·exact ⟨hi, Nat.le_succ_of_le hl, h.ser, h.a, h.b, h.ab⟩
 ·have w := Pr.waitK h.inv.ok (p := { p with tm := p.tm + a }) h.inv.t a.toNat
  refine ⟨hi, Nat.le_succ_of_le hl, h.ser, h.a, h.b, ?_⟩
  have e1 : (Pr.nextP m p 5 a b).a = p.a := w.a
  have e2 : (Pr.nextP m p 5 a b).b = p.b := w.b
  rw [e1, e2]
  exact h.ab
 ·obtain ⟨h1, h2, h3⟩ := Pr.err6_inv e
  have hld := h.inv.ld (h.inv.cl h1)
  have hab := h.ab (by omega)
  have key : ∀ j, j < (L ++ [Pr.discD m p L]).length → (j < L.length ∧ (L ++ [Pr.discD m p L]).getD j Pr.d0 = L.getD j Pr.d0) ∨ (j = L.length ∧ (L ++ [Pr.discD m p L]).getD j Pr.d0 = Pr.discD m p L) := fun j hj => by
   rw [List.length_append, List.length_singleton] at hj
   rw [getD_snoc]
   by_cases hj2 : j < L.length
   ·exact .inl ⟨hj2, if_pos hj2⟩
   ·exact .inr ⟨by omega, by rw [if_neg hj2, if_pos (by omega)]⟩
  refine ⟨hi, ?_, fun j hj => ?_, fun j hj => ?_, fun j hj => ?_, h.ab⟩
  ·show (L ++ [Pr.discD m p L]).length ≤ i + 1
   rw [List.length_append, List.length_singleton]
   omega
  ·show ((L ++ [Pr.discD m p L]).getD j Pr.d0).ser = _
   rcases key j hj with ⟨q1, q2⟩ | ⟨q1, q2⟩ <;> rw [q2]
   ·exact h.ser j q1
   ·rw [q1]; rfl
  ·show 4 ≤ ((L ++ [Pr.discD m p L]).getD j Pr.d0).a ∧ ((L ++ [Pr.discD m p L]).getD j Pr.d0).a ≤ 9
   rcases key j hj with ⟨q1, q2⟩ | ⟨q1, q2⟩ <;> rw [q2]
   ·exact h.a j q1
   ·exact hab.1
  ·show 4 ≤ ((L ++ [Pr.discD m p L]).getD j Pr.d0).b ∧ ((L ++ [Pr.discD m p L]).getD j Pr.d0).b ≤ 9
   rcases key j hj with ⟨q1, q2⟩ | ⟨q1, q2⟩ <;> rw [q2]
   ·exact h.b j q1
   ·exact hab.2
theorem OInv.dok {m : Pr.Mac} {p : Pr.Pst} {L : List Pr.Disc} {i : Nat} (h : OInv m p L i) (hi : i ≤ 40) : DOK L := ⟨Nat.le_trans h.len hi, h.ser, h.a, h.b⟩
def gotS (L : List Pr.Disc) (x : Int) (i s : Nat) : List Int := Pr.ofL (L.take i) (x + 1) ++ if (1 ≤ s ∧ ofD (L.getD i Pr.d0) 0 = x) ∨ (2 ≤ s ∧ ofD (L.getD i Pr.d0) 1 = x) then [(L.getD i Pr.d0).ser] else []
theorem gotS_0 (L : List Pr.Disc) (x : Int) (i : Nat) : gotS L x i 0 = Pr.ofL (L.take i) (x + 1) := by
 unfold gotS
 rw [if_neg (by omega), List.append_nil]
theorem gotS_2 (L : List Pr.Disc) (x : Int) {i : Nat} (h : i < L.length) : gotS L x i 2 = gotS L x (i + 1) 0 := by
 rw [gotS_0]
 unfold gotS Pr.ofL
 rw [List.take_succ_eq_append_getElem h, List.filter_append, List.map_append]
 congr 1
 have e : L.getD i Pr.d0 = L[i] := by rw [List.getD_eq_getElem?_getD, List.getElem?_eq_getElem h]; rfl
 rw [e]
 have e0 : ofD L[i] 0 = L[i].a - 1 := rfl
 have e1 : ofD L[i] 1 = L[i].b - 1 := rfl
 rw [e0, e1]
 by_cases hx : L[i].a = x + 1 ∨ L[i].b = x + 1
 ·rw [if_pos (by omega)]
  simp [hx]
 ·rw [if_neg (by omega)]
  simp [hx]
theorem gotS_len (L : List Pr.Disc) (x : Int) (i s : Nat) : (gotS L x i s).length ≤ i + 1 := by
 unfold gotS
 have := Pr.ofL_len (L.take i) (x + 1)
 rw [List.length_take] at this
 rw [List.length_append]
 split
 ·rw [List.length_singleton]; omega
 ·rw [List.length_nil]; omega
theorem gotS_not {L : List Pr.Disc} {x : Int} {i s : Nat} (hs : s < 2) (h : ¬ ofD (L.getD i Pr.d0) s = x) : gotS L x i (s + 1) = gotS L x i s := by
 unfold gotS
 congr 1
 have hs2 : s = 0 ∨ s = 1 := by omega
 rcases hs2 with rfl | rfl
 ·have h' : ¬ ofD (L.getD i Pr.d0) 0 = x := h
  rw [if_neg (by omega), if_neg (by omega)]
 ·have h' : ¬ ofD (L.getD i Pr.d0) 1 = x := h
  by_cases h0 : ofD (L.getD i Pr.d0) 0 = x
  ·rw [if_pos (.inl ⟨by omega, h0⟩), if_pos (.inl ⟨by omega, h0⟩)]
  ·rw [if_neg (by omega), if_neg (by omega)]
theorem gotS_new {L : List Pr.Disc} {x : Int} {i s : Nat} (hi : i < L.length) (hser : ∀ j, j < L.length → (L.getD j Pr.d0).ser = (j : Int) + 1) (hs : s < 2) (h : ofD (L.getD i Pr.d0) s = x) : gotS L x i (s + 1) = if (L.getD i Pr.d0).ser ∈ gotS L x i s then gotS L x i s else gotS L x i s ++ [(L.getD i Pr.d0).ser] := by
 have hno : ¬ (L.getD i Pr.d0).ser ∈ Pr.ofL (L.take i) (x + 1) := fun hm => by
  unfold Pr.ofL at hm
  obtain ⟨d, hd, he⟩ := List.mem_map.1 hm
  have hd2 := (List.mem_filter.1 hd).1
  obtain ⟨j, hj, hje⟩ := List.getElem_of_mem hd2
  rw [List.length_take] at hj
  rw [List.getElem_take] at hje
  have h1 := hser j (by omega)
  rw [List.getD_eq_getElem?_getD, List.getElem?_eq_getElem (by omega), Option.getD_some, hje, he, hser i hi] at h1
  omega
 have hs2 : s = 0 ∨ s = 1 := by omega
 rcases hs2 with rfl | rfl
 ·have h' : ofD (L.getD i Pr.d0) 0 = x := h
  have e0 := gotS_0 L x i
  rw [e0, if_neg hno]
  unfold gotS
  rw [if_pos (.inl ⟨Nat.le_refl _, h'⟩)]
 ·have h' : ofD (L.getD i Pr.d0) 1 = x := h
  by_cases h0 : ofD (L.getD i Pr.d0) 0 = x
  ·have e1 : gotS L x i 1 = Pr.ofL (L.take i) (x + 1) ++ [(L.getD i Pr.d0).ser] := by unfold gotS; rw [if_pos (.inl ⟨Nat.le_refl _, h0⟩)]
   have e2 : gotS L x i 2 = Pr.ofL (L.take i) (x + 1) ++ [(L.getD i Pr.d0).ser] := by unfold gotS; rw [if_pos (.inl ⟨by omega, h0⟩)]
   rw [e1, if_pos (by simp)]
   exact e2
  ·have e1 : gotS L x i 1 = Pr.ofL (L.take i) (x + 1) := by unfold gotS; rw [if_neg (by omega), List.append_nil]
   have e2 : gotS L x i 2 = Pr.ofL (L.take i) (x + 1) ++ [(L.getD i Pr.d0).ser] := by unfold gotS; rw [if_pos (.inr ⟨Nat.le_refl _, h'⟩)]
   rw [e1, if_neg hno]
   exact e2
theorem gotS_all (L : List Pr.Disc) (x : Int) : gotS L x L.length 0 = Pr.ofL L (x + 1) := by rw [gotS_0, List.take_length]
theorem and16 (x : Int) : 0 ≤ bits .and .i64 x 65535 ∧ bits .and .i64 x 65535 ≤ 65535 := by
 have h2 : (BitVec.ofInt 64 65535).toNat = 65535 := rfl
 have h4 : (BitVec.ofInt 64 x).toNat &&& 65535 ≤ 65535 := Nat.and_le_right
 have h3 : bits .and .i64 x 65535 = (((BitVec.ofInt 64 x).toNat &&& 65535 : Nat) : Int) := by
  show IntKind.i64.wrap ((BitVec.ofInt 64 x &&& BitVec.ofInt 64 65535).toNat : Int) = _
  rw [BitVec.toNat_and, h2, IntKind.wrap_i64]
  omega
 rw [h3]
 omega
end Go.Sx.Ls

namespace Go.Sx.Ls
open Go Go.Proofs Go.Sx
set_option maxRecDepth 10000
set_option maxHeartbeats 4000000
theorem e3 : EntersF Tryz.prog 3 := enters_of Tryz.func3 (c := bodyOf Tryz.f3) (by kernel_rfl) rfl
@[reducible] def bPl : Blk := .row 29 false Pl.KPl (Pl.plA p9)
@[reducible] def pM (m : Pr.Mac) (p : Pr.Pst) (L : List Pr.Disc) (l : MapL) : List (Option Blk) := [some bPl, some (Pr.bP 2), some (Pr.bW 3 4 m p), some (Pr.dRow L), some (Pr.mpU l)]
@[reducible] def gM (m : Pr.Mac) (p : Pr.Pst) (L : List Pr.Disc) (l : MapL) (x : Int) (i s : Nat) : List (Option Blk) := [some bPl, some (Pr.bP 2), some (Pr.bW 3 4 m p), some (Pr.dRow L), some (Pr.mpU l), some (Pr.dRow L), some (.row 2 false [.int .i64] (i64s (gotS L x i s)))]
theorem s10L (L : List Pr.Disc) (hD : DOK L) (j : Nat) (hj : j < L.length) (side : Int) : PSpec Tryz.prog 10 [.agg [.int .i64 (rI (Pr.discA L) (j : Int).toNat 0), .int .i64 (rI (Pr.discA L) (j : Int).toNat 1), .int .i64 (rI (Pr.discA L) (j : Int).toNat 2), .int .i64 (rI (Pr.discA L) (j : Int).toNat 3), .int .i64 (rI (Pr.discA L) (j : Int).toNat 4), .int .i64 (rI (Pr.discA L) (j : Int).toNat 5), .bool (rB (Pr.discA L) (j : Int).toNat 6)], I side] (.x (I (ofD (L.getD j Pr.d0) side))) := by
 have h := Pr.discA_get L j (d := L.getD j Pr.d0) (by rw [List.getD_eq_getElem?_getD, List.getElem?_eq_getElem hj]; rfl)
 rw [Int.toNat_natCast, h.1, h.2.1, h.2.2.1, h.2.2.2.1, h.2.2.2.2.1, h.2.2.2.2.2.1, h.2.2.2.2.2.2]
 have ha := hD.a j hj
 have hb := hD.b j hj
 exact s10 _ side (by omega) (by omega)
theorem s3 (m : Pr.Mac) (A : Arr) (w : Int) (hw : 0 ≤ w ∧ w ≤ 255) : PSpec Tryz.prog 3 [m.x, .one (.lst true [.int .i64, .int .i64, .int .i64] A), .one (.int .u8 w)] (xP True) := by
 have c4 := Pr.s21 m
 have c5 := s5
 by_cases hm : m.ok
 ·have hc := Pr.Mac.chk0 hm
  by_cases hA : A.length ≤ 40
  ·refine spec_g (bodyOf Tryz.f3) [] pMix Tryz.func3 Tryz.ntmps3 [.tmp 6] ?_
   repeat' ((conv => whnf); first | rw [hc] | refine CallVC.pure rfl (c4) ?_ | (refine Br.mk (fun h => ?_) (fun h => ?_) <;> first | (exfalso; omega; done) | (exfalso; simp at h; done) | skip))
   refine LoopVC.un 7 ?_
   repeat' ((conv => whnf); first | refine Rng.g ?_ | refine Ob.g ?_ | (refine Br.mk (fun h => ?_) (fun h => ?_) <;> first | (exfalso; omega; done) | (exfalso; simp at h; done) | skip))
   conv => whnf
   refine CallVC.mk [] _ _ _ rfl rfl rfl (Pr.s39 m) (fun r m' h' => ?_)
   obtain ⟨hm', _⟩ | ⟨-, rfl, rfl⟩ := h'
   ·exact absurd hm hm'
   repeat' ((conv => whnf); first | (refine Br.mk (fun h => ?_) (fun h => ?_) <;> first | (exfalso; omega; done) | (exfalso; simp at h; done) | skip))
   refine LoopVC.mk (fun n st => ∃ (i : Nat) (p : Pr.Pst) (L : List Pr.Disc) (l : MapL), i ≤ A.length ∧ n = A.length - i ∧ OInv m p L i ∧ Pr.UsedOK l L ∧ st = ⟨0, envA 185 [(1, .x (.one (.lst true [.int .i64, .int .i64, .int .i64] A))), (2, .x (.one (.int .u8 w))), (7, .x (.one (.own 0))), (9, .x (.one (.ptr 1 0))), (11, .int .i64 (i : Int))], pM m p L l⟩) _ _ ⟨0, _, [], [], Nat.zero_le _, rfl, OInv.new hm, fun k => rfl, rfl⟩ ?_ ?_
   ·exact Le.g [some 13, some 14, some 15, some 16, some 17]
   rintro n _ ⟨i, p, L, l, hi, hn, hI, hU, rfl⟩
   by_cases hi' : i < A.length
   ·have q1 := and16 (rI A (i : Int).toNat (0 + 1))
    have q2 := and16 (rI A (i : Int).toNat (0 + 1 + 1))
    repeat' ((conv => whnf); first | refine Ob.g ?_ | refine JoinVC.on ?_ | (refine Br.mk (fun h => ?_) (fun h => ?_) <;> first | (exfalso; omega; done) | (exfalso; simp at h; done) | skip))
    ·refine Val.nm (fun v1 hv1 => ?_)
     rw [← hv1] at q1
     repeat' ((conv => whnf); first | refine Rng.g ?_ | refine Ob.g ?_ | refine Val.t ?_ | fail)
     refine Val.nm (fun v2 hv2 => ?_)
     rw [← hv2] at q2
     repeat' ((conv => whnf); first | refine Rng.g ?_ | refine Ob.g ?_ | refine Val.t ?_ | fail)
     have r1 : 4 ≤ 4 + v1 % 6 ∧ 4 + v1 % 6 ≤ 9 := by omega
     have r2 : 4 ≤ 4 + v2 % 6 ∧ 4 + v2 % 6 ≤ 9 := by omega
     conv => whnf
     refine CallVC.mk [1, 2, 3, 4] _ _ _ rfl rfl rfl (Pr.s41 m p L l hU hI.inv (rI A (i : Int).toNat 0) (4 + v1 % 6) (4 + v2 % 6)) (fun r m' h' => ?_)
     obtain ⟨e, l', hu, rfl, rfl⟩ | ⟨e, rfl, rfl⟩ := h'
     ·have hI' := hI.next e fun _ => ⟨r1, r2⟩
      repeat' ((conv => whnf); first | refine Rng.g ?_ | fail)
      refine Back.mk (A.length - (i + 1)) _ (by omega) ⟨i + 1, _, _, l', by omega, rfl, hI', hu, rfl⟩ ?_
      exact Le.g [some 0, some 1, some 6, some 7, some 8]
     ·repeat' ((conv => whnf); first | refine Rng.g ?_ | fail)
      refine Back.mk (A.length - (i + 1)) _ (by omega) ⟨i + 1, p, L, l, by omega, rfl, hI.succ, hU, rfl⟩ ?_
      exact Le.g [some 0, some 1, some 2, some 3, some 4]
    ·conv => whnf
     refine CallVC.mk [1, 2, 3, 4] _ _ _ rfl rfl rfl (Pr.s41 m p L l hU hI.inv (rI A (i : Int).toNat 0) (rI A (i : Int).toNat 1) (rI A (i : Int).toNat 2)) (fun r m' h' => ?_)
     obtain ⟨e, l', hu, rfl, rfl⟩ | ⟨e, rfl, rfl⟩ := h'
     ·have hI' := hI.next e fun h => absurd h (by assumption)
      repeat' ((conv => whnf); first | refine Rng.g ?_ | fail)
      refine Back.mk (A.length - (i + 1)) _ (by omega) ⟨i + 1, _, _, l', by omega, rfl, hI', hu, rfl⟩ ?_
      exact Le.g [some 0, some 1, some 6, some 7, some 8]
     ·repeat' ((conv => whnf); first | refine Rng.g ?_ | fail)
      refine Back.mk (A.length - (i + 1)) _ (by omega) ⟨i + 1, p, L, l, by omega, rfl, hI.succ, hU, rfl⟩ ?_
      exact Le.g [some 0, some 1, some 2, some 3, some 4]
   ·obtain rfl : i = A.length := by omega
    have hD := hI.dok hA
    have hl := hD.len
    have c9 := s9 L hD
    have lL := dis_len L
    repeat' ((conv => whnf); first | (refine Br.mk (fun h => ?_) (fun h => ?_) <;> first | (exfalso; omega; done) | (exfalso; simp at h; done) | skip))
    conv => whnf
    refine CallVC.mk [1, 2, 3, 4] _ _ _ rfl rfl rfl (Pr.s47 m p L l (by omega)) (fun r m' h' => ?_)
    obtain ⟨rfl, rfl⟩ := h'
    conv => whnf
    repeat' ((conv => whnf); first | refine Rng.g ?_ | refine Ob.g ?_ | refine Val.t ?_ | refine CallVC.pure rfl (c9) ?_ | (refine Br.mk (fun h => ?_) (fun h => ?_) <;> first | (exfalso; omega; done) | (exfalso; simp at h; done) | skip))
    obtain ⟨x, hx⟩ : ∃ x, 3 + w % 6 = x := ⟨_, rfl⟩
    have hx3 : 3 ≤ x ∧ x ≤ 8 := by omega
    refine LoopVC.mk (fun n st => ∃ (i : Nat), i ≤ L.length ∧ n = L.length - i ∧ st = ⟨0, envA 185 [(7, .x (.one (.own 0))), (9, .x (.one (.ptr 1 0))), (13, .x (.one (.own 5))), (14, .int .i64 x), (15, .x (.one (.own 6))), (16, .int .i64 (i : Int))], gM m p L l x i 0⟩) _ _ ⟨0, Nat.zero_le _, rfl, rfl⟩ ?_ ?_
    ·refine ⟨[some 0, some 1, some 2, some 3, some 4, some 5, none], rfl, rfl, ?_, ?_⟩ <;> repeat' (first | exact trivial | exact rfl | apply And.intro)
     exact hx
    rintro n _ ⟨i, hi, hn, rfl⟩
    by_cases hi' : i < L.length
    ·repeat' ((conv => whnf); first | (refine Br.mk (fun h => ?_) (fun h => ?_) <;> first | (exfalso; omega; done) | (exfalso; simp at h; done) | skip))
     refine LoopVC.mk (fun n st => ∃ (s : Nat), s ≤ 2 ∧ n = 2 - s ∧ st = ⟨0, envA 185 [(7, .x (.one (.own 0))), (9, .x (.one (.ptr 1 0))), (13, .x (.one (.own 5))), (14, .int .i64 x), (15, .x (.one (.own 6))), (16, .int .i64 (i : Int)), (17, .int .i64 (s : Int))], gM m p L l x i s⟩) _ _ ⟨0, Nat.zero_le _, rfl, rfl⟩ ?_ ?_
     ·exact Le.g [some 0, some 1, some 2, some 3, some 4, some 5, some 6]
     rintro n' _ ⟨s, hs, hn', rfl⟩
     by_cases hs' : s < 2
     ·have c10 := fun j hj => s10L L hD j hj (s : Int)
      have hser := hD.ser i hi'
      have g0 : rI (Pr.discA L) (i : Int).toNat 0 = (i : Int) + 1 := by rw [dis_0, hser]
      have lg := gotS_len L x i s
      have lgi : List.length (i64s (gotS L x i s)) = (gotS L x i s).length := i64s_len _
      repeat' ((conv => whnf); first | refine Rng.g ?_ | refine Ob.g ?_ | refine CallVC.pure rfl (c10 i hi') ?_ | (refine Br.mk (fun h => ?_) (fun h => ?_) <;> first | (exfalso; omega; done) | (exfalso; simp at h; done) | skip))
      ·have hne : ¬ ofD (L.getD i Pr.d0) (s : Int) = x := by assumption
       refine Back.mk (2 - (s + 1)) _ (by omega) ⟨s + 1, by omega, rfl, rfl⟩ ?_
       refine ⟨[some 0, some 1, some 2, some 3, some 4, some 5, some 6], rfl, rfl, ?_, ?_⟩ <;> repeat' (first | exact trivial | exact rfl | apply And.intro)
       rw [gotS_not hs' hne]
      have heq : ofD (L.getD i Pr.d0) (s : Int) = x := Decidable.byContradiction fun h => by contradiction
      have hnew := gotS_new hi' hD.ser hs' heq
      rw [hser] at hnew
      refine LoopVC.mk (fun n st => ∃ (k : Int) (f : Nat), (-1 ≤ k ∧ k ≤ (i : Int)) ∧ f ≤ i ∧ n = (k + 1).toNat ∧ ofD (L.getD f Pr.d0) (s : Int) = x ∧ (∀ j : Nat, k < (j : Int) → j < f → ¬ ofD (L.getD j Pr.d0) (s : Int) = x) ∧ st = ⟨0, envA 185 [(7, .x (.one (.own 0))), (9, .x (.one (.ptr 1 0))), (13, .x (.one (.own 5))), (14, .int .i64 x), (15, .x (.one (.own 6))), (16, .int .i64 (i : Int)), (17, .int .i64 (s : Int)), (18, .int .i64 ((f : Int) + 1)), (19, .int .i64 k)], gM m p L l x i s⟩) _ _ ⟨(i : Int), i, by omega, Nat.le_refl _, rfl, heq, fun j h1 h2 => by omega, rfl⟩ ?_ ?_
      ·refine ⟨[some 0, some 1, some 2, some 3, some 4, some 5, some 6], rfl, rfl, ?_, ?_⟩ <;> repeat' (first | exact trivial | exact rfl | apply And.intro)
       exact g0
      rintro n2 _ ⟨k, f, hk, hf, hn2, hfx, hmin, rfl⟩
      by_cases hk0 : 0 ≤ k
      ·obtain ⟨j, rfl⟩ := Int.eq_ofNat_of_zero_le hk0
       have g0j : rI (Pr.discA L) (j : Int).toNat 0 = (j : Int) + 1 := by rw [dis_0, hD.ser j (by omega)]
       repeat' ((conv => whnf); first | refine Rng.g ?_ | refine Ob.g ?_ | refine JoinVC.on ?_ | refine CallVC.pure rfl (c10 j (by omega)) ?_ | (refine Br.mk (fun h => ?_) (fun h => ?_) <;> first | (exfalso; omega; done) | (exfalso; simp at h; done) | skip))
       ·have hjx : ofD (L.getD j Pr.d0) (s : Int) = x := by assumption
        refine Back.mk ((j : Int) - 1 + 1).toNat _ (by omega) ⟨(j : Int) - 1, j, by omega, by omega, rfl, hjx, fun j' h1 h2 => by omega, rfl⟩ ?_
        refine ⟨[some 0, some 1, some 2, some 3, some 4, some 5, some 6], rfl, rfl, ?_, ?_⟩ <;> repeat' (first | exact trivial | exact rfl | apply And.intro)
        exact g0j
       ·have hjx : ¬ ofD (L.getD j Pr.d0) (s : Int) = x := by assumption
        refine Back.mk ((j : Int) - 1 + 1).toNat _ (by omega) ⟨(j : Int) - 1, f, by omega, by omega, rfl, hfx, fun j' h1 h2 => ?_, rfl⟩ ?_
        ·by_cases hjj : j' = j
         ·rw [hjj]; exact hjx
         ·exact hmin j' (by omega) h2
        ·exact Le.g [some 0, some 1, some 2, some 3, some 4, some 5, some 6]
      have hmin' : ∀ j, j < f → ¬ ofD (L.getD j Pr.d0) (s : Int) = x := fun j h => hmin j (by omega) h
      repeat' ((conv => whnf); first | (refine Br.mk (fun h => ?_) (fun h => ?_) <;> first | (exfalso; omega; done) | (exfalso; simp at h; done) | skip))
      conv => whnf
      refine CallVC.mk [] _ _ _ rfl rfl rfl (s11 L (s : Int) x f hD (by omega) hx3 (by omega) hfx hmin') (fun r m' h' => ?_)
      obtain ⟨H, hH1, hH2, rfl, rfl⟩ := h'
      conv => whnf
      have hmem : (i : Int) + 1 ∈ H := hH2 i hf hi' heq
      repeat' ((conv => whnf); first | rw [g0] | refine Rng.g ?_ | refine Ob.g ?_ | refine JoinVC.on ?_ | refine CallVC.pure rfl (s12 H _ (by omega)) ?_ | refine CallVC.pure rfl (s12 (gotS L x i s) _ (by omega)) ?_ | (refine Br.mk (fun h => ?_) (fun h => ?_) <;> first | (exfalso; omega; done) | (exfalso; simp at h; done) | skip))
      all_goals first | exact absurd hmem (by assumption) | skip
      ·have hno : ¬ (i : Int) + 1 ∈ gotS L x i s := by assumption
       rw [if_neg hno] at hnew
       refine Ob.mk (by rw [lgi]; simp only [eb2', List.length_cons, List.length_nil]; omega) ?_
       repeat' ((conv => whnf); first | refine Rng.g ?_ | fail)
       refine Back.mk (2 - (s + 1)) _ (by omega) ⟨s + 1, by omega, rfl, rfl⟩ ?_
       refine ⟨[some 0, some 1, some 2, some 3, some 4, some 5, some 9], rfl, rfl, ?_, ?_⟩ <;> repeat' (first | exact trivial | exact rfl | apply And.intro)
       rw [hnew, i64s_snoc]
      ·have hin : (i : Int) + 1 ∈ gotS L x i s := Decidable.byContradiction fun h => by contradiction
       rw [if_pos hin] at hnew
       refine Back.mk (2 - (s + 1)) _ (by omega) ⟨s + 1, by omega, rfl, rfl⟩ ?_
       refine ⟨[some 0, some 1, some 2, some 3, some 4, some 5, some 6], rfl, rfl, ?_, ?_⟩ <;> repeat' (first | exact trivial | exact rfl | apply And.intro)
       rw [hnew]
     ·obtain rfl : s = 2 := by omega
      have e2 := gotS_2 L x hi'
      repeat' ((conv => whnf); first | refine Rng.g ?_ | (refine Br.mk (fun h => ?_) (fun h => ?_) <;> first | (exfalso; omega; done) | (exfalso; simp at h; done) | skip))
      refine Back.mk (L.length - (i + 1)) _ (by omega) ⟨i + 1, by omega, rfl, rfl⟩ ?_
      refine ⟨[some 0, some 1, some 2, some 3, some 4, some 5, some 6], rfl, rfl, ?_, ?_⟩ <;> repeat' (first | exact trivial | exact rfl | apply And.intro)
      rw [e2]
    ·obtain rfl : i = L.length := by omega
     have ea := gotS_all L x
     have la := gotS_len L x L.length 0
     repeat' ((conv => whnf); first | refine Rng.g ?_ | (refine Br.mk (fun h => ?_) (fun h => ?_) <;> first | (exfalso; omega; done) | (exfalso; simp at h; done) | skip))
     conv => whnf
     refine CallVC.mk [1, 2, 3, 4] _ _ _ rfl rfl rfl (Pr.s49 m p L l (by omega) (x + 1)) (fun r m' h' => ?_)
     obtain ⟨rfl, rfl⟩ := h'
     conv => whnf
     repeat' ((conv => whnf); first | refine CallVC.pure rfl (s13 (gotS L x L.length 0) (Pr.ofL L (x + 1)) (by omega)) ?_ | refine CallVC.pure rfl (c5) ?_ | (refine Br.mk (fun h => ?_) (fun h => ?_) <;> first | (exfalso; omega; done) | (exfalso; simp at h; done) | skip))
     ·refine EndVC.mk _ rfl _ _ ⟨rfl, rfl⟩ ?_
      exact Le.g []
     ·exact absurd ea (by assumption)
  ·refine spec_g (bodyOf Tryz.f3) [] pMix Tryz.func3 Tryz.ntmps3 [.tmp 6] ?_
   repeat' ((conv => whnf); first | rw [hc] | refine CallVC.pure rfl (c4) ?_ | refine CallVC.pure rfl (c5) ?_ | (refine Br.mk (fun h => ?_) (fun h => ?_) <;> first | (exfalso; omega; done) | (exfalso; simp at h; done) | skip))
   refine EndVC.mk _ rfl _ _ ⟨rfl, rfl⟩ ?_
   exact Le.g []
 ·have hc := Pr.Mac.chk2 hm
  refine spec_g (bodyOf Tryz.f3) [] pMix Tryz.func3 Tryz.ntmps3 [.tmp 6] ?_
  repeat' ((conv => whnf); first | rw [hc] | refine CallVC.pure rfl (c4) ?_ | refine CallVC.pure rfl (c5) ?_ | (refine Br.mk (fun h => ?_) (fun h => ?_) <;> first | (exfalso; omega; done) | (exfalso; simp at h; done) | skip))
  all_goals
   refine EndVC.mk _ rfl _ _ ⟨rfl, rfl⟩ ?_
   exact Le.g []
end Go.Sx.Ls
