import Derived.Test.YthggkanmgibldaaPrPlatingSecondsA
import Derived.Test.YthggkanmgibldaaXc
namespace Go.Sx
open Go Go.Proofs
set_option maxRecDepth 10000
set_option maxHeartbeats 8000000
/-! ### The example -/
@[reducible] def exR : Rcp := ⟨0, 100, 100, 200, 0, 900, 900, 900, 10, 50, 500, 2, 3⟩
@[reducible] def groA (i b : Int) : Act2 := ⟨3, 0, 0, 0, 0, i, b, 50, 1, 500, 1, 0, 0⟩
theorem s35 : PSpec Try.prog 35 [] (.x exR.x) := by
  refine spec_of pMix (O := []) Try.func35 (c := bodyOf Try.f35) rfl (by kernel_rfl) (by kernel_rfl) Try.ntmps35 (res := [.cell 0 24]) (by kernel_rfl) ?_
  repeat' ((conv => whnf); first | refine Rng.g ?_ | refine Ob.g ?_ | refine Ob.e ?_ | refine Ob.m ?_ | refine Ob.mk (Nat.le_of_ble_eq_true rfl) ?_ | refine JoinVC.on ?_ | refine Nils.mk (fun h => ?_) ?_ | refine Val.t ?_ | refine Val.d ?_ | refine Mm.mk ?_ | (refine Br.mk (fun h => ?_) (fun h => ?_) <;> first | (exfalso; omega; done) | (exfalso; simp at h; done) | skip))
  repeat refine Mm.mk ?_
  refine EndVC.mk _ rfl _ _ ⟨rfl, rfl⟩ ?_
  refine ⟨[], rfl, rfl, ?_, ?_⟩ <;> repeat' (first | exact trivial | exact rfl | exact Iff.rfl | apply And.intro)
theorem s37 (i b : Int) : PSpec Try.prog 37 [I i, I b] (.x (groA i b).x) := by
  refine spec_of pMix (O := []) Try.func37 (c := bodyOf Try.f37) rfl (by kernel_rfl) (by kernel_rfl) Try.ntmps37 (res := [.cell 4 43]) (by kernel_rfl) ?_
  repeat' ((conv => whnf); first | refine Rng.g ?_ | refine Ob.g ?_ | refine Ob.e ?_ | refine Ob.m ?_ | refine Ob.mk (Nat.le_of_ble_eq_true rfl) ?_ | refine JoinVC.on ?_ | refine Nils.mk (fun h => ?_) ?_ | refine Val.t ?_ | refine Val.d ?_ | refine Mm.mk ?_ | (refine Br.mk (fun h => ?_) (fun h => ?_) <;> first | (exfalso; omega; done) | (exfalso; simp at h; done) | skip))
  repeat refine Mm.mk ?_
  refine EndVC.mk _ rfl _ _ ⟨rfl, rfl⟩ ?_
  refine ⟨[], rfl, rfl, ?_, ?_⟩ <;> repeat' (first | exact trivial | exact rfl | exact Iff.rfl | apply And.intro)
@[reducible] def exA : List Act2 := [⟨1, 7, 1000, 0, 0, 0, 0, 0, 0, 0, 0, 0, 0⟩, ⟨2, 0, 0, 2000, 500, 0, 0, 0, 0, 0, 0, 0, 0⟩, groA 0 0, ⟨4, 0, 0, 0, 0, 1, 0, 0, 0, 0, 0, 9, 0⟩, groA 1 0, groA 2 0, ⟨5, 0, 0, 0, 0, 2, 0, 0, 0, 0, 0, 0, 0⟩, groA 2 0]
@[reducible] def exS0 : Sho := ⟨exR, [], [], [], [], []⟩
@[reducible] def exS1 : Sho := ⟨exR, [⟨0, -1, 7, 1000, 0, 0, false⟩], [[]], [], [], [⟨1, 7, 1000, 0, 0, 0, 0, 0, 0, 0, 0, 0, 0⟩]⟩
@[reducible] def exS2 : Sho := ⟨exR, [⟨0, -1, 7, 1000, 0, 0, false⟩], [[]], [⟨2000, 500, 0, 0⟩], [], [⟨1, 7, 1000, 0, 0, 0, 0, 0, 0, 0, 0, 0, 0⟩, ⟨2, 0, 0, 2000, 500, 0, 0, 0, 0, 0, 0, 0, 0⟩]⟩
@[reducible] def exS3 : Sho := ⟨exR, [⟨0, -1, 7, 1000, 0, 1, true⟩, ⟨1, 0, 7, 1000, 275, 0, false⟩], [[], []], [⟨1725, 500, 550, 275⟩], [], [⟨1, 7, 1000, 0, 0, 0, 0, 0, 0, 0, 0, 0, 0⟩, ⟨2, 0, 0, 2000, 500, 0, 0, 0, 0, 0, 0, 0, 0⟩, groA 0 0]⟩
@[reducible] def exS4 : Sho := ⟨exR, [⟨0, -1, 7, 1000, 0, 1, true⟩, ⟨1, 0, 7, 1000, 275, 0, false⟩], [[], [0]], [⟨1725, 500, 550, 275⟩], [(1, 9)], [⟨1, 7, 1000, 0, 0, 0, 0, 0, 0, 0, 0, 0, 0⟩, ⟨2, 0, 0, 2000, 500, 0, 0, 0, 0, 0, 0, 0, 0⟩, groA 0 0, ⟨4, 0, 0, 0, 0, 1, 0, 0, 0, 0, 0, 9, 0⟩]⟩
@[reducible] def exS5 : Sho := ⟨exR, [⟨0, -1, 7, 1000, 0, 1, true⟩, ⟨1, 0, 7, 1000, 275, 1, false⟩, ⟨2, 1, 7, 1000, 275, 0, false⟩], [[], [0], [0]], [⟨1450, 500, 1100, 550⟩], [(1, 9)], [⟨1, 7, 1000, 0, 0, 0, 0, 0, 0, 0, 0, 0, 0⟩, ⟨2, 0, 0, 2000, 500, 0, 0, 0, 0, 0, 0, 0, 0⟩, groA 0 0, ⟨4, 0, 0, 0, 0, 1, 0, 0, 0, 0, 0, 9, 0⟩, groA 1 0]⟩
@[reducible] def exS6 : Sho := ⟨exR, [⟨0, -1, 7, 1000, 0, 1, true⟩, ⟨1, 0, 7, 1000, 275, 1, false⟩, ⟨2, 1, 7, 1000, 275, 1, false⟩, ⟨3, 2, 7, 1000, 275, 0, false⟩], [[], [0], [0], [0]], [⟨1175, 500, 1650, 825⟩], [(1, 9)], [⟨1, 7, 1000, 0, 0, 0, 0, 0, 0, 0, 0, 0, 0⟩, ⟨2, 0, 0, 2000, 500, 0, 0, 0, 0, 0, 0, 0, 0⟩, groA 0 0, ⟨4, 0, 0, 0, 0, 1, 0, 0, 0, 0, 0, 9, 0⟩, groA 1 0, groA 2 0]⟩
@[reducible] def exS7 : Sho := ⟨exR, [⟨0, -1, 7, 1000, 0, 1, true⟩, ⟨1, 0, 7, 1000, 275, 1, false⟩, ⟨2, 1, 7, 1000, 275, 1, false⟩, ⟨3, 2, 7, 1000, 275, 0, false⟩], [[], [0], [], [0]], [⟨1175, 500, 1650, 825⟩], [(1, 9)], [⟨1, 7, 1000, 0, 0, 0, 0, 0, 0, 0, 0, 0, 0⟩, ⟨2, 0, 0, 2000, 500, 0, 0, 0, 0, 0, 0, 0, 0⟩, groA 0 0, ⟨4, 0, 0, 0, 0, 1, 0, 0, 0, 0, 0, 9, 0⟩, groA 1 0, groA 2 0, ⟨5, 0, 0, 0, 0, 2, 0, 0, 0, 0, 0, 0, 0⟩]⟩
@[reducible] def exS8 : Sho := ⟨exR, [⟨0, -1, 7, 1000, 0, 1, true⟩, ⟨1, 0, 7, 1000, 275, 1, false⟩, ⟨2, 1, 7, 1000, 275, 2, false⟩, ⟨3, 2, 7, 1000, 275, 0, false⟩, ⟨3, 2, 7, 1000, 275, 0, false⟩], [[], [0], [], [0], []], [⟨900, 500, 2200, 1100⟩], [(1, 9)], [⟨1, 7, 1000, 0, 0, 0, 0, 0, 0, 0, 0, 0, 0⟩, ⟨2, 0, 0, 2000, 500, 0, 0, 0, 0, 0, 0, 0, 0⟩, groA 0 0, ⟨4, 0, 0, 0, 0, 1, 0, 0, 0, 0, 0, 9, 0⟩, groA 1 0, groA 2 0, ⟨5, 0, 0, 0, 0, 2, 0, 0, 0, 0, 0, 0, 0⟩, groA 2 0]⟩
theorem exE0 : doE exS0 (exA.getD 0 ac0) = 0 := by kernel_rfl
theorem exD0 : doS exS0 (exA.getD 0 ac0) = exS1 := by kernel_rfl
theorem exE1 : doE exS1 (exA.getD 1 ac0) = 0 := by kernel_rfl
theorem exD1 : doS exS1 (exA.getD 1 ac0) = exS2 := by kernel_rfl
theorem exE2 : doE exS2 (exA.getD 2 ac0) = 0 := by kernel_rfl
theorem exD2 : doS exS2 (exA.getD 2 ac0) = exS3 := by kernel_rfl
theorem exE3 : doE exS3 (exA.getD 3 ac0) = 0 := by kernel_rfl
theorem exD3 : doS exS3 (exA.getD 3 ac0) = exS4 := by kernel_rfl
theorem exE4 : doE exS4 (exA.getD 4 ac0) = 0 := by kernel_rfl
theorem exD4 : doS exS4 (exA.getD 4 ac0) = exS5 := by kernel_rfl
theorem exE5 : doE exS5 (exA.getD 5 ac0) = 0 := by kernel_rfl
theorem exD5 : doS exS5 (exA.getD 5 ac0) = exS6 := by kernel_rfl
theorem exE6 : doE exS6 (exA.getD 6 ac0) = 0 := by kernel_rfl
theorem exD6 : doS exS6 (exA.getD 6 ac0) = exS7 := by kernel_rfl
theorem exE7 : doE exS7 (exA.getD 7 ac0) = 0 := by kernel_rfl
theorem exD7 : doS exS7 (exA.getD 7 ac0) = exS8 := by kernel_rfl
theorem exP0 : repS (shop0 exR) exA 0 = exS0 := rfl
theorem exP1 : repS (shop0 exR) exA 1 = exS1 := (congrArg (doS · (exA.getD 0 ac0)) exP0).trans exD0
theorem exP2 : repS (shop0 exR) exA 2 = exS2 := (congrArg (doS · (exA.getD 1 ac0)) exP1).trans exD1
theorem exP3 : repS (shop0 exR) exA 3 = exS3 := (congrArg (doS · (exA.getD 2 ac0)) exP2).trans exD2
theorem exP4 : repS (shop0 exR) exA 4 = exS4 := (congrArg (doS · (exA.getD 3 ac0)) exP3).trans exD3
theorem exP5 : repS (shop0 exR) exA 5 = exS5 := (congrArg (doS · (exA.getD 4 ac0)) exP4).trans exD4
theorem exP6 : repS (shop0 exR) exA 6 = exS6 := (congrArg (doS · (exA.getD 5 ac0)) exP5).trans exD5
theorem exP7 : repS (shop0 exR) exA 7 = exS7 := (congrArg (doS · (exA.getD 6 ac0)) exP6).trans exD6
theorem exP8 : repS (shop0 exR) exA 8 = exS8 := (congrArg (doS · (exA.getD 7 ac0)) exP7).trans exD7
theorem exG : goodTo (shop0 exR) exA 8 := fun j hj => by
  rcases (show j = 0 ∨ j = 1 ∨ j = 2 ∨ j = 3 ∨ j = 4 ∨ j = 5 ∨ j = 6 ∨ j = 7 by omega) with rfl | rfl | rfl | rfl | rfl | rfl | rfl | rfl
  · rw [exP0]; exact exE0
  · rw [exP1]; exact exE1
  · rw [exP2]; exact exE2
  · rw [exP3]; exact exE3
  · rw [exP4]; exact exE4
  · rw [exP5]; exact exE5
  · rw [exP6]; exact exE6
  · rw [exP7]; exact exE7
theorem exOK : RcpOK exR := ⟨by decide, by decide, by decide, by decide, by decide, by decide, by decide, by decide⟩
theorem exUp : exS8.up 4 = [4, 2, 1, 0] := by kernel_rfl
theorem exBe : bear exS8.be 0 5 = [1, 3] := by kernel_rfl
theorem exNe : needE exS8 0 6 = 0 := by kernel_rfl
theorem exNn : needN exS8 0 6 = 5 := by kernel_rfl
theorem s36 : HSpec Try.prog 36 [] [] (fun r m' => r = .x (.one (.lst false KAc (acA exA))) ∧ m' = []) := by
  have c0 := s37 0 0
  have c1 := s37 1 0
  have c2 := s37 2 0
  refine spec_of pMix (O := []) Try.func36 (c := bodyOf Try.f36) rfl (by kernel_rfl) (by kernel_rfl) Try.ntmps36 (res := [.tmp 0]) (by kernel_rfl) ?_
  repeat' ((conv => whnf); first | refine Rng.g ?_ | refine Ob.g ?_ | refine Ob.e ?_ | refine Ob.m ?_ | refine Ob.mk (Nat.le_of_ble_eq_true rfl) ?_ | refine JoinVC.on ?_ | refine Nils.mk (fun h => ?_) ?_ | refine Val.t ?_ | refine Val.d ?_ | refine Mm.mk ?_ | refine CallVC.pure rfl (c0) ?_ | refine CallVC.pure rfl (c1) ?_ | refine CallVC.pure rfl (c2) ?_ | refine CallVC0.pure rfl (c0) ?_ | refine CallVC0.pure rfl (c1) ?_ | refine CallVC0.pure rfl (c2) ?_ | (refine Br.mk (fun h => ?_) (fun h => ?_) <;> first | (exfalso; omega; done) | (exfalso; simp at h; done) | skip))
  repeat refine Mm.mk ?_
  refine EndVC.mk _ rfl _ _ ⟨rfl, rfl⟩ ?_
  refine ⟨[], rfl, rfl, ?_, ?_⟩ <;> repeat' (first | exact trivial | exact rfl | exact Iff.rfl | apply And.intro)
theorem s32 (xs ys : List Int) (hx : xs.length ≤ 1000000) : PSpec Try.prog 32 [.one (.lst true [.int .i64] (i64s xs)), .one (.lst true [.int .i64] (i64s ys))] (xP (xs = ys)) := by
  have lx := i64s_len xs
  have ly := i64s_len ys
  by_cases hl : xs.length = ys.length
  · refine spec_of pMix (O := []) Try.func32 (c := bodyOf Try.f32) rfl (by kernel_rfl) (by kernel_rfl) Try.ntmps32 (res := [.tmp 4]) (by kernel_rfl) ?_
    repeat' ((conv => whnf); first | refine Rng.g ?_ | refine Ob.g ?_ | refine Ob.e ?_ | refine Ob.m ?_ | refine Ob.mk (Nat.le_of_ble_eq_true rfl) ?_ | refine JoinVC.on ?_ | refine Nils.mk (fun h => ?_) ?_ | refine Val.t ?_ | refine Val.d ?_ | refine Mm.mk ?_ | (refine Br.mk (fun h => ?_) (fun h => ?_) <;> first | (exfalso; omega; done) | (exfalso; simp at h; done) | skip))
    refine LoopVC.mk (fun n st => ∃ (i : Nat), i ≤ xs.length ∧ n = xs.length - i ∧ (∀ j, j < i → xs.getD j 0 = ys.getD j 0) ∧ st = ⟨0, envA 26 [(0, .x (.one (.lst true [.int .i64] (i64s xs)))), (1, .x (.one (.lst true [.int .i64] (i64s ys)))), (5, .int .i64 (i : Int))], []⟩) _ _ ⟨0, Nat.zero_le _, rfl, fun j hj => absurd hj (Nat.not_lt_zero j), rfl⟩ ?_ ?_
    · refine ⟨[], rfl, rfl, ?_, ?_⟩ <;> repeat' (first | exact trivial | exact rfl | exact Iff.rfl | apply And.intro)
    rintro n _ ⟨i, hi, hn, hj, rfl⟩
    have g0 : rI (i64s xs) (i : Int).toNat 0 = xs.getD i 0 := by rw [Int.toNat_natCast, i64s_get]
    have g1 : rI (i64s ys) (i : Int).toNat 0 = ys.getD i 0 := by rw [Int.toNat_natCast, i64s_get]
    by_cases h' : i < xs.length
    · repeat' ((conv => whnf); first | rw [g0] | rw [g1] | refine Rng.g ?_ | refine Ob.g ?_ | refine Ob.e ?_ | refine Ob.m ?_ | refine Ob.mk (Nat.le_of_ble_eq_true rfl) ?_ | refine JoinVC.on ?_ | refine Nils.mk (fun h => ?_) ?_ | refine Val.t ?_ | refine Val.d ?_ | refine Mm.mk ?_ | (refine Br.mk (fun h => ?_) (fun h => ?_) <;> first | (exfalso; omega; done) | (exfalso; simp at h; done) | skip))
      · repeat refine Mm.mk ?_
        refine EndVC.mk _ rfl _ _ ⟨rfl, rfl⟩ ?_
        refine ⟨[], rfl, rfl, ?_, ?_⟩ <;> repeat' (first | exact trivial | exact rfl | exact Iff.rfl | apply And.intro)
        exact fun hc => h (by rw [hc])
      · refine Back.mk (xs.length - (i + 1)) _ (by omega) ⟨i + 1, by omega, rfl, fun j hj' => ?_, rfl⟩ ?_
        · rcases Nat.lt_succ_iff_lt_or_eq.1 hj' with h1 | rfl
          · exact hj j h1
          · exact Classical.not_not.1 h
        · refine ⟨[], rfl, rfl, ?_, ?_⟩ <;> repeat' (first | exact trivial | exact rfl | exact Iff.rfl | apply And.intro)
    · obtain rfl : i = xs.length := by omega
      repeat' ((conv => whnf); first | refine Rng.g ?_ | refine Ob.g ?_ | refine Ob.e ?_ | refine Ob.m ?_ | refine Ob.mk (Nat.le_of_ble_eq_true rfl) ?_ | refine JoinVC.on ?_ | refine Nils.mk (fun h => ?_) ?_ | refine Val.t ?_ | refine Val.d ?_ | refine Mm.mk ?_ | (refine Br.mk (fun h => ?_) (fun h => ?_) <;> first | (exfalso; omega; done) | (exfalso; simp at h; done) | skip))
      repeat refine Mm.mk ?_
      refine EndVC.mk _ rfl _ _ ⟨rfl, rfl⟩ ?_
      refine ⟨[], rfl, rfl, ?_, ?_⟩ <;> repeat' (first | exact trivial | exact rfl | exact Iff.rfl | apply And.intro)
      exact (List.ext_getElem hl fun k h1 h2 => by
        have := hj k h1
        rwa [List.getD_eq_getElem?_getD, List.getD_eq_getElem?_getD, List.getElem?_eq_getElem h1, List.getElem?_eq_getElem h2] at this)
  · refine spec_of pMix (O := []) Try.func32 (c := bodyOf Try.f32) rfl (by kernel_rfl) (by kernel_rfl) Try.ntmps32 (res := [.tmp 4]) (by kernel_rfl) ?_
    repeat' ((conv => whnf); first | refine Rng.g ?_ | refine Ob.g ?_ | refine Ob.e ?_ | refine Ob.m ?_ | refine Ob.mk (Nat.le_of_ble_eq_true rfl) ?_ | refine JoinVC.on ?_ | refine Nils.mk (fun h => ?_) ?_ | refine Val.t ?_ | refine Val.d ?_ | refine Mm.mk ?_ | (refine Br.mk (fun h => ?_) (fun h => ?_) <;> first | (exfalso; omega; done) | (exfalso; simp at h; done) | skip))
    repeat refine Mm.mk ?_
    refine EndVC.mk _ rfl _ _ ⟨rfl, rfl⟩ ?_
    refine ⟨[], rfl, rfl, ?_, ?_⟩ <;> repeat' (first | exact trivial | exact rfl | exact Iff.rfl | apply And.intro)
    exact fun h => hl (congrArg List.length h)
theorem PSpec.tt {P : Program} {f : FuncId} {args : List XV} {p : Prop} {d : Decidable p} (h : PSpec P f args (.x (.one (.prp p d)))) (hp : p) : PSpec P f args (.x (.one .tt)) := by
  intro w R vs h1 h2
  have key : ∀ (e : Ending) (w' : World), (∃ v r m' R', e = .returned v ∧ (r = .x (.one (.prp p d)) ∧ m' = []) ∧ Fr w R ([].map some) w' R' m' ∧ RepA w' R' r v) → ∃ v r m' R', e = .returned v ∧ (r = .x (.one .tt) ∧ m' = []) ∧ Fr w R ([].map some) w' R' m' ∧ RepA w' R' r v := by
    rintro e w' ⟨v, r, m', R', h3, ⟨rfl, rfl⟩, h5, h6⟩
    refine ⟨v, _, _, R', h3, ⟨rfl, rfl⟩, h5, ?_⟩
    have h6' : v = .bool (@decide p d) := h6
    exact h6'.trans (by rw [decide_eq_true hp])
  rcases h w R vs h1 h2 with ⟨h3, h4⟩ | ⟨v, w', h3, h4⟩
  · exact .inl ⟨h3, h4.mono key⟩
  · exact .inr ⟨v, w', h3, key _ _ h4⟩
theorem s17p : PSpec Try.prog 17 [] (xP ((5 : Int) = 5)) := by
  have c34 := s34 exR exA (by decide)
  have hS : ShOK exS8 := by have := ShOK.repS (ShOK.new exOK) exA 8; rwa [exP8] at this
  have lA : (acA exA).length = 8 := rfl
  have q1 := (s32 [4, 2, 1, 0].reverse [0, 1, 2, 4] (by decide)).tt rfl
  have q2 := (s32 [1, 3] [1, 3] (by decide)).tt rfl
  refine spec_of pMix (O := []) Try.func17 (c := bodyOf Try.f17) rfl (by kernel_rfl) (by kernel_rfl) Try.ntmps17 (res := [.tmp 0]) (by kernel_rfl) ?_
  repeat' ((conv => whnf); first | refine Rng.g ?_ | refine Ob.g ?_ | refine Ob.e ?_ | refine Ob.m ?_ | refine Ob.mk (Nat.le_of_ble_eq_true rfl) ?_ | refine JoinVC.on ?_ | refine Nils.mk (fun h => ?_) ?_ | refine Val.t ?_ | refine Val.d ?_ | refine Mm.mk ?_ | refine CallVC.pure rfl (s35) ?_ | refine CallVC0.pure rfl (s35) ?_ | (refine Br.mk (fun h => ?_) (fun h => ?_) <;> first | (exfalso; omega; done) | (exfalso; simp at h; done) | skip))
  conv => whnf
  refine CallVC.mk [] _ _ _ rfl rfl rfl (s36) (fun r m' h' => ?_)
  obtain ⟨rfl, rfl⟩ := h'
  conv => whnf
  repeat' ((conv => whnf); first | refine Rng.g ?_ | refine Ob.g ?_ | refine Ob.e ?_ | refine Ob.m ?_ | refine Ob.mk (Nat.le_of_ble_eq_true rfl) ?_ | refine JoinVC.on ?_ | refine Nils.mk (fun h => ?_) ?_ | refine Val.t ?_ | refine Val.d ?_ | refine Mm.mk ?_ | (refine Br.mk (fun h => ?_) (fun h => ?_) <;> first | (exfalso; omega; done) | (exfalso; simp at h; done) | skip))
  conv => whnf
  refine CallVC.mk [] _ _ _ rfl rfl rfl (c34) (fun r m' h' => ?_)
  cases h' with
  | bad h hv hm => exact absurd exOK h
  | err h i hi hg e he h0 hv hm => exact absurd (exG i hi) (by rw [he]; exact h0)
  | ok h hg ms hM hv hm =>
    have e8 : repS (shop0 exR) exA exA.length = exS8 := exP8
    rw [e8] at hm hM
    subst hv hm
    have c30 := s30_ok exS8 ms hS 4 (by decide)
    rw [exUp] at c30
    have c39 := s39_ok exS8 ms hS hM 0 (by decide)
    rw [show bear exS8.be 0 exS8.pl.length = [1, 3] from exBe] at c39
    have c26 := s26 exS8 ms hS 0 6
    rw [exNe, exNn] at c26
    repeat' ((conv => whnf); first | refine Rng.g ?_ | refine Ob.g ?_ | refine Ob.e ?_ | refine Ob.m ?_ | refine Ob.mk (Nat.le_of_ble_eq_true rfl) ?_ | refine JoinVC.on ?_ | refine Nils.mk (fun h => ?_) ?_ | refine Val.t ?_ | refine Val.d ?_ | refine Mm.mk ?_ | (refine Br.mk (fun h => ?_) (fun h => ?_) <;> first | (exfalso; omega; done) | (exfalso; simp at h; done) | skip))
    conv => whnf
    first | refine CallVC.mk [0, 1, 2, 3, 4, 5] _ _ _ rfl rfl rfl (c30) (fun r m' h' => ?_) | refine CallVC0.same [0, 1, 2, 3, 4, 5] _ _ _ rfl rfl rfl rfl (c30) (fun r m' h' => (by obtain ⟨rfl, rfl⟩ := h'; rfl)) (fun r m' h' => ?_) | refine CallVC0.rows [0, 1, 2, 3, 4, 5] _ _ _ rfl rfl rfl (by repeat' ((conv => whnf); first | exact trivial | exact rfl | exact Nat.le_refl _ | apply And.intro)) (c30) (fun r m' h' => (by obtain ⟨rfl, rfl⟩ := h'; rfl)) (fun r m' h' => ?_)
    obtain ⟨rfl, rfl⟩ := h'
    conv => whnf
    repeat' ((conv => whnf); first | refine Rng.g ?_ | refine Ob.g ?_ | refine Ob.e ?_ | refine Ob.m ?_ | refine Ob.mk (Nat.le_of_ble_eq_true rfl) ?_ | refine JoinVC.on ?_ | refine Nils.mk (fun h => ?_) ?_ | refine Val.t ?_ | refine Val.d ?_ | refine Mm.mk ?_ | (refine Br.mk (fun h => ?_) (fun h => ?_) <;> first | (exfalso; omega; done) | (exfalso; simp at h; done) | skip))
    conv => whnf
    first | refine CallVC.mk [0, 1, 2, 3, 4, 5] _ _ _ rfl rfl rfl (c39) (fun r m' h' => ?_) | refine CallVC0.same [0, 1, 2, 3, 4, 5] _ _ _ rfl rfl rfl rfl (c39) (fun r m' h' => (by obtain ⟨rfl, rfl⟩ := h'; rfl)) (fun r m' h' => ?_) | refine CallVC0.rows [0, 1, 2, 3, 4, 5] _ _ _ rfl rfl rfl (by repeat' ((conv => whnf); first | exact trivial | exact rfl | exact Nat.le_refl _ | apply And.intro)) (c39) (fun r m' h' => (by obtain ⟨rfl, rfl⟩ := h'; rfl)) (fun r m' h' => ?_)
    obtain ⟨rfl, rfl⟩ := h'
    conv => whnf
    repeat' ((conv => whnf); first | refine Rng.g ?_ | refine Ob.g ?_ | refine Ob.e ?_ | refine Ob.m ?_ | refine Ob.mk (Nat.le_of_ble_eq_true rfl) ?_ | refine JoinVC.on ?_ | refine Nils.mk (fun h => ?_) ?_ | refine Val.t ?_ | refine Val.d ?_ | refine Mm.mk ?_ | (refine Br.mk (fun h => ?_) (fun h => ?_) <;> first | (exfalso; omega; done) | (exfalso; simp at h; done) | skip))
    conv => whnf
    first | refine CallVC.mk [0, 1, 2, 3, 4, 5] _ _ _ rfl rfl rfl (c26) (fun r m' h' => ?_) | refine CallVC0.same [0, 1, 2, 3, 4, 5] _ _ _ rfl rfl rfl rfl (c26) (fun r m' h' => (by obtain ⟨rfl, rfl⟩ := h'; rfl)) (fun r m' h' => ?_) | refine CallVC0.rows [0, 1, 2, 3, 4, 5] _ _ _ rfl rfl rfl (by repeat' ((conv => whnf); first | exact trivial | exact rfl | exact Nat.le_refl _ | apply And.intro)) (c26) (fun r m' h' => (by obtain ⟨rfl, rfl⟩ := h'; rfl)) (fun r m' h' => ?_)
    obtain ⟨rfl, rfl⟩ := h'
    conv => whnf
    repeat' ((conv => whnf); first | refine Rng.g ?_ | refine Ob.g ?_ | refine Ob.e ?_ | refine Ob.m ?_ | refine Ob.mk (Nat.le_of_ble_eq_true rfl) ?_ | refine JoinVC.on ?_ | refine Nils.mk (fun h => ?_) ?_ | refine Val.t ?_ | refine Val.d ?_ | refine Mm.mk ?_ | refine CallVC.pure rfl (q1) ?_ | refine CallVC.pure rfl (q2) ?_ | refine CallVC0.pure rfl (q1) ?_ | refine CallVC0.pure rfl (q2) ?_ | (refine Br.mk (fun h => ?_) (fun h => ?_) <;> first | (exfalso; omega; done) | (exfalso; simp at h; done) | skip))
    repeat refine Mm.mk ?_
    refine EndVC.mk _ rfl _ _ ⟨rfl, rfl⟩ ?_
    refine ⟨[], rfl, rfl, ?_, ?_⟩ <;> repeat' (first | exact trivial | exact rfl | exact Iff.rfl | apply And.intro)
theorem s17 : PSpec Try.prog 17 [] (.x (.one .tt)) := s17p.tt rfl
/-! ### A shop after some acts -/
theorem doN_no {S : Sho} {a : Act2} (h : ¬ doE S a = 0) : doN S a = 0 := if_neg h
def aftS (r : Rcp) (l : List Act2) : Sho := repS (shop0 r) l l.length
theorem aft_ok {r : Rcp} (h : RcpOK r) (l : List Act2) : ShOK (aftS r l) := ShOK.repS (ShOK.new h) l _
theorem aft_hist (r : Rcp) (l : List Act2) : Hist (aftS r l) := Hist.repS (Hist.new r) l _
theorem s18 (r : Rcp) (l : List Act2) (hr : RcpOK r) (hl : l.length ≤ 1000000) : HSpec Try.prog 18 [r.x, .one (.lst true KAc (acA l))] [] (fun v m' => ∃ ms, MsOK ms (aftS r l).be ∧ v = .tup [.one (.ptr 0 0), .one .tt] ∧ m' = shK (aftS r l) ms) := by
  have c20 := s20 r hr
  have ll := acA_len l
  have hS := ShOK.repS (ShOK.new hr) l
  refine spec_of pMix (O := []) Try.func18 (c := bodyOf Try.f18) rfl (by kernel_rfl) (by kernel_rfl) Try.ntmps18 (res := [.tmp 4, .tmp 5]) (by kernel_rfl) ?_
  repeat' ((conv => whnf); first | refine Rng.g ?_ | refine Ob.g ?_ | refine Ob.e ?_ | refine Ob.m ?_ | refine Ob.mk (Nat.le_of_ble_eq_true rfl) ?_ | refine JoinVC.on ?_ | refine Nils.mk (fun h => ?_) ?_ | refine Val.t ?_ | refine Val.d ?_ | refine Mm.mk ?_ | (refine Br.mk (fun h => ?_) (fun h => ?_) <;> first | (exfalso; omega; done) | (exfalso; simp at h; done) | skip))
  conv => whnf
  first | refine CallVC.mk [] _ _ _ rfl rfl rfl (c20) (fun r m' h' => ?_) | refine CallVC0.same [] _ _ _ rfl rfl rfl rfl (c20) (fun r m' h' => (by obtain ⟨rfl, rfl⟩ := h'; rfl)) (fun r m' h' => ?_) | refine CallVC0.rows [] _ _ _ rfl rfl rfl (by repeat' ((conv => whnf); first | exact trivial | exact rfl | exact Nat.le_refl _ | apply And.intro)) (c20) (fun r m' h' => (by obtain ⟨rfl, rfl⟩ := h'; rfl)) (fun r m' h' => ?_)
  obtain ⟨rfl, rfl⟩ := h'
  conv => whnf
  repeat' ((conv => whnf); first | refine Rng.g ?_ | refine Ob.g ?_ | refine Ob.e ?_ | refine Ob.m ?_ | refine Ob.mk (Nat.le_of_ble_eq_true rfl) ?_ | refine JoinVC.on ?_ | refine Nils.mk (fun h => ?_) ?_ | refine Val.t ?_ | refine Val.d ?_ | refine Mm.mk ?_ | (refine Br.mk (fun h => ?_) (fun h => ?_) <;> first | (exfalso; omega; done) | (exfalso; simp at h; done) | skip))
  refine LoopVC.mk (fun n st => ∃ (i : Nat) (ms : List MS), i ≤ l.length ∧ MsOK ms (repS (shop0 r) l i).be ∧ n = l.length - i ∧ st = ⟨0, envA 45 [(1, .x (.one (.lst true KAc (acA l)))), (6, .x (.one (.ptr 0 0))), (8, .int .i64 (i : Int))], shK (repS (shop0 r) l i) ms⟩) _ _ ⟨0, [], Nat.zero_le _, MsOK.new, rfl, rfl⟩ ?_ ?_
  · refine ⟨[some 1, some 2, some 3, some 4, some 5, some 6], rfl, rfl, ?_, ?_⟩ <;> repeat' (first | exact trivial | exact rfl | exact Iff.rfl | apply And.intro)
  rintro n _ ⟨i, ms, hi, hM, hn, rfl⟩
  by_cases h' : i < l.length
  · have c21 : HSpec Try.prog 21 [.one (.ptr 0 0), acX (acA l) (i : Int).toNat] (shM (repS (shop0 r) l i) ms) (DoR (repS (shop0 r) l i) (l.getD i ac0)) := by
      rw [Int.toNat_natCast, acX_eq]
      exact s21 _ ms (hS i) hM _
    repeat' ((conv => whnf); first | refine Rng.g ?_ | refine Ob.g ?_ | refine Ob.e ?_ | refine Ob.m ?_ | refine Ob.mk (Nat.le_of_ble_eq_true rfl) ?_ | refine JoinVC.on ?_ | refine Nils.mk (fun h => ?_) ?_ | refine Val.t ?_ | refine Val.d ?_ | refine Mm.mk ?_ | (refine Br.mk (fun h => ?_) (fun h => ?_) <;> first | (exfalso; omega; done) | (exfalso; simp at h; done) | skip))
    conv => whnf
    first | refine CallVC.mk [0, 1, 2, 3, 4, 5] _ _ _ rfl rfl rfl (c21) (fun r m' h' => ?_) | refine CallVC0.same [0, 1, 2, 3, 4, 5] _ _ _ rfl rfl rfl rfl (c21) (fun r m' h' => (by obtain ⟨ms', hM', rfl, rfl⟩ := h'; rfl)) (fun r m' h' => ?_) | refine CallVC0.rows [0, 1, 2, 3, 4, 5] _ _ _ rfl rfl rfl (by repeat' ((conv => whnf); first | exact trivial | exact rfl | exact Nat.le_refl _ | apply And.intro)) (c21) (fun r m' h' => (by obtain ⟨ms', hM', rfl, rfl⟩ := h'; rfl)) (fun r m' h' => ?_)
    obtain ⟨ms', hM', rfl, rfl⟩ := h'
    conv => whnf
    repeat' ((conv => whnf); first | refine Rng.g ?_ | refine Ob.g ?_ | refine Ob.e ?_ | refine Ob.m ?_ | refine Ob.mk (Nat.le_of_ble_eq_true rfl) ?_ | refine JoinVC.on ?_ | refine Nils.mk (fun h => ?_) ?_ | refine Val.t ?_ | refine Val.d ?_ | refine Mm.mk ?_ | (refine Br.mk (fun h => ?_) (fun h => ?_) <;> first | (exfalso; omega; done) | (exfalso; simp at h; done) | skip))
    · exact absurd (doN_no ‹_›) ‹_›
    all_goals
      refine Back.mk (l.length - (i + 1)) _ (by omega) ⟨i + 1, ms', by omega, hM', rfl, rfl⟩ ?_
      refine ⟨[some 0, some 6, some 2, some 7, some 8, some 9], rfl, rfl, ?_, ?_⟩ <;> repeat' (first | exact trivial | exact rfl | exact Iff.rfl | apply And.intro)
  · obtain rfl : i = l.length := by omega
    repeat' ((conv => whnf); first | refine Rng.g ?_ | refine Ob.g ?_ | refine Ob.e ?_ | refine Ob.m ?_ | refine Ob.mk (Nat.le_of_ble_eq_true rfl) ?_ | refine JoinVC.on ?_ | refine Nils.mk (fun h => ?_) ?_ | refine Val.t ?_ | refine Val.d ?_ | refine Mm.mk ?_ | (refine Br.mk (fun h => ?_) (fun h => ?_) <;> first | (exfalso; omega; done) | (exfalso; simp at h; done) | skip))
    repeat refine Mm.mk ?_
    conv => whnf
    refine EndVC.mk _ rfl _ _ (⟨ms, hM, rfl, rfl⟩) ?_
    refine ⟨[some 0, some 1, some 2, some 3, some 4, some 5], rfl, rfl, ?_, ?_⟩ <;> repeat' (first | exact trivial | exact rfl | exact Iff.rfl | apply And.intro)
end Go.Sx

namespace Go.Sx
open Go Go.Proofs
set_option maxRecDepth 10000
set_option maxHeartbeats 8000000
theorem e8 : EntersF Try.prog 8 := enters_of Try.func8 (c := bodyOf Try.f8) (by kernel_rfl) rfl
/-! ### Seconds -/
@[reducible] def secA (a : Act2) (n : Int) : Act2 := ⟨a.kd, a.cut, a.area, a.stock, a.yd, a.plate, a.bath, a.s0, a.s1, a.cur, n, a.place, a.flaw⟩
def nedM (S : Sho) (a : Act2) : Int := (S.r.thin ((S.p a.plate).kd + 1) * (S.p a.plate).area + 999) / 1000 - fstM S a
def secX (S : Sho) (a : Act2) : Int := if 0 < nedM S a then ((1000 * nedM S a + (S.t a.bath).yd - 1) / (S.t a.bath).yd + a.cur - 1) / a.cur else 0
def secE (S : Sho) (a : Act2) : Int :=
  if a.kd ≠ 3 ∨ ¬ ActOK a then 2
  else if herE S a ≠ 0 then herE S a
  else if (0 < nedM S a ∧ a.cur = 0) ∨ 1048576 < secX S a ∨ layE S (secA a (secX S a)) ≠ 0 then 15
  else 0
def secN (S : Sho) (a : Act2) : Int := if secE S a = 0 then secX S a else 0
def secR (S : Sho) (ms : List MS) (a : Act2) (r : AV) (m' : List (Option Blk)) : Prop := r = .tup [I (secN S a), I (secE S a)] ∧ m' = shK S ms
theorem secR.err {S : Sho} {ms : List MS} {a : Act2} {e : Int} (h : secE S a = e) (h0 : e ≠ 0) : secR S ms a (.tup [I 0, I e]) (shK S ms) := by
  subst h
  exact ⟨by rw [secN, if_neg h0], rfl⟩
theorem secR.ok {S : Sho} {ms : List MS} {a : Act2} {n : Int} (h : secE S a = 0) (hn : secX S a = n) : secR S ms a (.tup [I n, I 0]) (shK S ms) := by
  subst hn
  exact ⟨by rw [secN, if_pos h, h], rfl⟩
theorem s24 (S : Sho) (ms : List MS) (hS : ShOK S) (a : Act2) : HSpec Try.prog 24 [.one (.ptr 0 0), a.x] (shM S ms) (secR S ms a) := by
  have c53 := s53 S ms
  have c54 := s54 a
  by_cases hv : a.kd ≠ 3 ∨ ¬ ActOK a
  · have hE : secE S a = 2 := by unfold secE; rw [if_pos hv]
    refine spec_of pMix (O := [(8, ([12], [⟨0, [], []⟩, ⟨1, [], []⟩, ⟨2, [], []⟩, ⟨4, [], []⟩, ⟨5, [], []⟩, ⟨6, [], []⟩, ⟨7, [], []⟩, ⟨8, [], []⟩, ⟨9, [], []⟩, ⟨10, [], []⟩, ⟨11, [], []⟩, ⟨3, [4, 5, 6, 7, 8, 9, 10, 11], []⟩, ⟨12, [], []⟩, ⟨13, [], []⟩, ⟨14, [], []⟩])), (10, ([], [⟨0, [], []⟩, ⟨1, [], []⟩, ⟨2, [], []⟩, ⟨3, [], []⟩, ⟨4, [], []⟩, ⟨5, [], []⟩, ⟨6, [], []⟩, ⟨7, [], []⟩, ⟨8, [], []⟩, ⟨9, [], []⟩, ⟨10, [], []⟩, ⟨11, [], []⟩, ⟨12, [], []⟩, ⟨13, [], []⟩, ⟨14, [], []⟩, ⟨15, [], []⟩, ⟨16, [], []⟩, ⟨17, [], []⟩, ⟨18, [], []⟩, ⟨19, [], []⟩, ⟨20, [], []⟩, ⟨21, [], []⟩, ⟨22, [0, 1, 2, 3, 4, 5, 6, 7, 8, 9, 10, 11, 12, 13, 14, 15, 16, 17, 18, 19], []⟩, ⟨23, [], []⟩, ⟨24, [], []⟩, ⟨25, [], []⟩]))]) Try.func24 (c := bodyOf Try.f24) rfl (by kernel_rfl) (by kernel_rfl) Try.ntmps24 (res := [.tmp 4, .tmp 5]) (by kernel_rfl) ?_
    repeat' ((conv => whnf); first | refine Rng.g ?_ | refine Ob.g ?_ | refine Ob.e ?_ | refine Ob.m ?_ | refine Ob.mk (Nat.le_of_ble_eq_true rfl) ?_ | refine JoinVC.on ?_ | refine Nils.mk (fun h => ?_) ?_ | refine Val.t ?_ | refine Val.d ?_ | refine Mm.mk ?_ | (refine Br.mk (fun h => ?_) (fun h => ?_) <;> first | (exfalso; omega; done) | (exfalso; simp at h; done) | skip))
    conv => whnf
    first | refine CallVC.mk [0, 1, 2, 3, 4, 5] _ _ _ rfl rfl rfl (c53) (fun r m' h' => ?_) | refine CallVC0.same [0, 1, 2, 3, 4, 5] _ _ _ rfl rfl rfl rfl (c53) (fun r m' h' => (by obtain ⟨rfl, rfl⟩ := h'; rfl)) (fun r m' h' => ?_) | (refine CallVC0.rows [0, 1, 2, 3, 4, 5] _ _ _ rfl rfl rfl ?_ (c53) (fun r m' h' => (by obtain ⟨rfl, rfl⟩ := h'; rfl)) (fun r m' h' => ?_); · (repeat' ((conv => whnf); first | exact trivial | exact rfl | exact Nat.le_refl _ | apply And.intro)))
    obtain ⟨rfl, rfl⟩ := h'
    conv => whnf
    repeat' ((conv => whnf); first | refine Rng.g ?_ | refine Ob.g ?_ | refine Ob.e ?_ | refine Ob.m ?_ | refine Ob.mk (Nat.le_of_ble_eq_true rfl) ?_ | refine JoinVC.on ?_ | refine Nils.mk (fun h => ?_) ?_ | refine Val.t ?_ | refine Val.d ?_ | refine Mm.mk ?_ | refine CallVC.pure rfl (c54) ?_ | refine CallVC0.pure rfl (c54) ?_ | (refine Br.mk (fun h => ?_) (fun h => ?_) <;> first | (exfalso; omega; done) | (exfalso; simp at h; done) | skip))
    all_goals first
      | (exfalso; rcases hv with h1 | h1 <;> contradiction; done)
      | skip
    all_goals
      repeat refine Mm.mk ?_
      conv => whnf
      refine EndVC.mk _ rfl _ _ (secR.err hE (by decide)) ?_
      refine ⟨[some 0, some 1, some 2, some 3, some 4, some 5], rfl, rfl, ?_, ?_⟩ <;> repeat' (first | exact trivial | exact rfl | exact Iff.rfl | apply And.intro)
  have hk : a.kd = 3 := by omega
  have ha : ActOK a := Classical.byContradiction fun hc => hv (.inr hc)
  have hg := ha.gro hk
  have c62 := s62 S ms hS a hg
  by_cases h1 : herE S a = 0
  rotate_left
  · have hE : secE S a = herE S a := by unfold secE; rw [if_neg hv, if_pos h1]
    refine spec_of pMix (O := [(8, ([12], [⟨0, [], []⟩, ⟨1, [], []⟩, ⟨2, [], []⟩, ⟨4, [], []⟩, ⟨5, [], []⟩, ⟨6, [], []⟩, ⟨7, [], []⟩, ⟨8, [], []⟩, ⟨9, [], []⟩, ⟨10, [], []⟩, ⟨11, [], []⟩, ⟨3, [4, 5, 6, 7, 8, 9, 10, 11], []⟩, ⟨12, [], []⟩, ⟨13, [], []⟩, ⟨14, [], []⟩])), (10, ([], [⟨0, [], []⟩, ⟨1, [], []⟩, ⟨2, [], []⟩, ⟨3, [], []⟩, ⟨4, [], []⟩, ⟨5, [], []⟩, ⟨6, [], []⟩, ⟨7, [], []⟩, ⟨8, [], []⟩, ⟨9, [], []⟩, ⟨10, [], []⟩, ⟨11, [], []⟩, ⟨12, [], []⟩, ⟨13, [], []⟩, ⟨14, [], []⟩, ⟨15, [], []⟩, ⟨16, [], []⟩, ⟨17, [], []⟩, ⟨18, [], []⟩, ⟨19, [], []⟩, ⟨20, [], []⟩, ⟨21, [], []⟩, ⟨22, [0, 1, 2, 3, 4, 5, 6, 7, 8, 9, 10, 11, 12, 13, 14, 15, 16, 17, 18, 19], []⟩, ⟨23, [], []⟩, ⟨24, [], []⟩, ⟨25, [], []⟩]))]) Try.func24 (c := bodyOf Try.f24) rfl (by kernel_rfl) (by kernel_rfl) Try.ntmps24 (res := [.tmp 4, .tmp 5]) (by kernel_rfl) ?_
    repeat' ((conv => whnf); first | refine Rng.g ?_ | refine Ob.g ?_ | refine Ob.e ?_ | refine Ob.m ?_ | refine Ob.mk (Nat.le_of_ble_eq_true rfl) ?_ | refine JoinVC.on ?_ | refine Nils.mk (fun h => ?_) ?_ | refine Val.t ?_ | refine Val.d ?_ | refine Mm.mk ?_ | (refine Br.mk (fun h => ?_) (fun h => ?_) <;> first | (exfalso; omega; done) | (exfalso; simp at h; done) | skip))
    conv => whnf
    first | refine CallVC.mk [0, 1, 2, 3, 4, 5] _ _ _ rfl rfl rfl (c53) (fun r m' h' => ?_) | refine CallVC0.same [0, 1, 2, 3, 4, 5] _ _ _ rfl rfl rfl rfl (c53) (fun r m' h' => (by obtain ⟨rfl, rfl⟩ := h'; rfl)) (fun r m' h' => ?_) | (refine CallVC0.rows [0, 1, 2, 3, 4, 5] _ _ _ rfl rfl rfl ?_ (c53) (fun r m' h' => (by obtain ⟨rfl, rfl⟩ := h'; rfl)) (fun r m' h' => ?_); · (repeat' ((conv => whnf); first | exact trivial | exact rfl | exact Nat.le_refl _ | apply And.intro)))
    obtain ⟨rfl, rfl⟩ := h'
    conv => whnf
    repeat' ((conv => whnf); first | refine Rng.g ?_ | refine Ob.g ?_ | refine Ob.e ?_ | refine Ob.m ?_ | refine Ob.mk (Nat.le_of_ble_eq_true rfl) ?_ | refine JoinVC.on ?_ | refine Nils.mk (fun h => ?_) ?_ | refine Val.t ?_ | refine Val.d ?_ | refine Mm.mk ?_ | refine CallVC.pure rfl (c54) ?_ | refine CallVC0.pure rfl (c54) ?_ | (refine Br.mk (fun h => ?_) (fun h => ?_) <;> first | (exfalso; omega; done) | (exfalso; simp at h; done) | (exfalso; simp [ha] at h; done) | skip))
    conv => whnf
    first | refine CallVC.mk [0, 1, 2, 3, 4, 5] _ _ _ rfl rfl rfl (c62) (fun r m' h' => ?_) | refine CallVC0.same [0, 1, 2, 3, 4, 5] _ _ _ rfl rfl rfl rfl (c62) (fun r m' h' => (by obtain ⟨rfl, rfl⟩ := h'; rfl)) (fun r m' h' => ?_) | (refine CallVC0.rows [0, 1, 2, 3, 4, 5] _ _ _ rfl rfl rfl ?_ (c62) (fun r m' h' => (by obtain ⟨rfl, rfl⟩ := h'; rfl)) (fun r m' h' => ?_); · (repeat' ((conv => whnf); first | exact trivial | exact rfl | exact Nat.le_refl _ | apply And.intro)))
    obtain ⟨rfl, rfl⟩ := h'
    conv => whnf
    repeat' ((conv => whnf); first | refine Rng.g ?_ | refine Ob.g ?_ | refine Ob.e ?_ | refine Ob.m ?_ | refine Ob.mk (Nat.le_of_ble_eq_true rfl) ?_ | refine JoinVC.on ?_ | refine Nils.mk (fun h => ?_) ?_ | refine Val.t ?_ | refine Val.d ?_ | refine Mm.mk ?_ | (refine Br.mk (fun h => ?_) (fun h => ?_) <;> first | (exfalso; omega; done) | (exfalso; simp at h; done) | skip))
    repeat refine Mm.mk ?_
    conv => whnf
    refine EndVC.mk _ rfl _ _ (secR.err hE h1) ?_
    refine ⟨[some 0, some 1, some 2, some 3, some 4, some 5], rfl, rfl, ?_, ?_⟩ <;> repeat' (first | exact trivial | exact rfl | exact Iff.rfl | apply And.intro)
  rw [h1] at c62
  obtain ⟨hi, hb, hret, h256, hkd, hcap⟩ := herE_0 hS h1
  have hg0 : GroOK (secA a 0) := ⟨hg.s0, hg.s1, hg.cur, by show (0 : Int) ≤ 0 ∧ (0 : Int) ≤ 1048576; omega⟩
  have c64 : HSpec Try.prog 64 [.one (.ptr 0 0), (secA a 0).x] (shM S ms) (fun r m' => r = .x (.agg [i6 (fstM S a), i6 (allM S (secA a 0)), i6 (chgM (secA a 0))]) ∧ m' = shK S ms) := s64 S ms hS (secA a 0) hg0 hb
  have c63 := s63 S ms a.plate
  rw [getR, if_pos hi] at c63
  have hB := thkB S hS a hg hi hb
  have hb' := hb
  have hi' := hi
  obtain ⟨hb1, hb2⟩ := hb'
  unfold inP at hi'
  obtain ⟨hi1, hi2⟩ := hi'
  have lt := tkA_len S.tk
  have hp := hS.pl a.plate.toNat (by omega)
  have hk0 : 0 ≤ (S.p a.plate).kd := hp.kd.1
  have har : 1 ≤ (S.p a.plate).area ∧ (S.p a.plate).area ≤ 1048576 := hp.area
  have hyd : 1 ≤ (S.t a.bath).yd ∧ (S.t a.bath).yd ≤ 1000 := (hS.tk a.bath.toNat (by omega)).2.1
  have g0 : rI (plA S.pl) a.plate.toNat 0 = (S.p a.plate).kd := pl_0 S.pl a.plate.toNat
  have g3 : rI (plA S.pl) a.plate.toNat ((0 + 1 + 1 + 1)) = (S.p a.plate).area := pl_3 S.pl a.plate.toNat
  have t1 : rI (tkA S.tk) a.bath.toNat ((0 + 1)) = (S.t a.bath).yd := tk_1 S.tk a.bath.toNat
  have hcur := hg.cur
  obtain ⟨hf, _⟩ := hB
  obtain ⟨th, hth⟩ : ∃ th, S.r.thin ((S.p a.plate).kd + 1) = th := ⟨_, rfl⟩
  have hned : nedM S a = (th * (S.p a.plate).area + 999) / 1000 - fstM S a := by unfold nedM; rw [hth]
  have hthB : 0 ≤ th ∧ th ≤ 1073741824 := by
    have := hS.r.a1
    have := hS.r.a2
    have := hS.r.a3
    rw [← hth]
    unfold Rcp.thin
    (repeat' split) <;> omega
  have hmB := mulB hthB (show 0 ≤ (S.p a.plate).area ∧ (S.p a.plate).area ≤ 1048576 by omega)
  have hk3 : ((S.p a.plate).kd = 0 ∧ S.r.n1 = th) ∨ ((S.p a.plate).kd = 1 ∧ S.r.n2 = th) ∨ ((S.p a.plate).kd = 2 ∧ S.r.n3 = th) := by
    rcases (show (S.p a.plate).kd = 0 ∨ (S.p a.plate).kd = 1 ∨ (S.p a.plate).kd = 2 by omega) with h | h | h
    · rw [h] at hth; exact .inl ⟨h, hth⟩
    · rw [h] at hth; exact .inr (.inl ⟨h, hth⟩)
    · rw [h] at hth; exact .inr (.inr ⟨h, hth⟩)
  have hh1 : ¬ herE S a ≠ 0 := by simpa using h1
  by_cases hn : 0 < nedM S a
  · have hdB := divB (a := 1000 * nedM S a + (S.t a.bath).yd - 1) (d := (S.t a.bath).yd) (B := 1125899906844672) ⟨by omega, by omega⟩ hyd.1
    by_cases hc : a.cur = 0
    · have hE : secE S a = 15 := by unfold secE; rw [if_neg hv, if_neg hh1, if_pos (.inl ⟨hn, hc⟩)]
      rw [hned] at hn hdB
      clear hth
      rcases hk3 with ⟨hk, ht⟩ | ⟨hk, ht⟩ | ⟨hk, ht⟩
      all_goals
        subst ht
        rw [hk] at g0
        refine spec_of pMix (O := [(8, ([12], [⟨0, [], []⟩, ⟨1, [], []⟩, ⟨2, [], []⟩, ⟨4, [], []⟩, ⟨5, [], []⟩, ⟨6, [], []⟩, ⟨7, [], []⟩, ⟨8, [], []⟩, ⟨9, [], []⟩, ⟨10, [], []⟩, ⟨11, [], []⟩, ⟨3, [4, 5, 6, 7, 8, 9, 10, 11], []⟩, ⟨12, [], []⟩, ⟨13, [], []⟩, ⟨14, [], []⟩])), (10, ([], [⟨0, [], []⟩, ⟨1, [], []⟩, ⟨2, [], []⟩, ⟨3, [], []⟩, ⟨4, [], []⟩, ⟨5, [], []⟩, ⟨6, [], []⟩, ⟨7, [], []⟩, ⟨8, [], []⟩, ⟨9, [], []⟩, ⟨10, [], []⟩, ⟨11, [], []⟩, ⟨12, [], []⟩, ⟨13, [], []⟩, ⟨14, [], []⟩, ⟨15, [], []⟩, ⟨16, [], []⟩, ⟨17, [], []⟩, ⟨18, [], []⟩, ⟨19, [], []⟩, ⟨20, [], []⟩, ⟨21, [], []⟩, ⟨22, [0, 1, 2, 3, 4, 5, 6, 7, 8, 9, 10, 11, 12, 13, 14, 15, 16, 17, 18, 19], []⟩, ⟨23, [], []⟩, ⟨24, [], []⟩, ⟨25, [], []⟩]))]) Try.func24 (c := bodyOf Try.f24) rfl (by kernel_rfl) (by kernel_rfl) Try.ntmps24 (res := [.tmp 4, .tmp 5]) (by kernel_rfl) ?_
        repeat' ((conv => whnf); first | refine Rng.g ?_ | refine Ob.g ?_ | refine Ob.e ?_ | refine Ob.m ?_ | refine Ob.mk (Nat.le_of_ble_eq_true rfl) ?_ | refine JoinVC.on ?_ | refine Nils.mk (fun h => ?_) ?_ | refine Val.t ?_ | refine Val.d ?_ | refine Mm.mk ?_ | (refine Br.mk (fun h => ?_) (fun h => ?_) <;> first | (exfalso; omega; done) | (exfalso; simp at h; done) | skip))
        conv => whnf
        first | refine CallVC.mk [0, 1, 2, 3, 4, 5] _ _ _ rfl rfl rfl (c53) (fun r m' h' => ?_) | refine CallVC0.same [0, 1, 2, 3, 4, 5] _ _ _ rfl rfl rfl rfl (c53) (fun r m' h' => (by obtain ⟨rfl, rfl⟩ := h'; rfl)) (fun r m' h' => ?_) | (refine CallVC0.rows [0, 1, 2, 3, 4, 5] _ _ _ rfl rfl rfl ?_ (c53) (fun r m' h' => (by obtain ⟨rfl, rfl⟩ := h'; rfl)) (fun r m' h' => ?_); · (repeat' ((conv => whnf); first | exact trivial | exact rfl | exact Nat.le_refl _ | apply And.intro)))
        obtain ⟨rfl, rfl⟩ := h'
        conv => whnf
        repeat' ((conv => whnf); first | refine Rng.g ?_ | refine Ob.g ?_ | refine Ob.e ?_ | refine Ob.m ?_ | refine Ob.mk (Nat.le_of_ble_eq_true rfl) ?_ | refine JoinVC.on ?_ | refine Nils.mk (fun h => ?_) ?_ | refine Val.t ?_ | refine Val.d ?_ | refine Mm.mk ?_ | refine CallVC.pure rfl (c54) ?_ | refine CallVC0.pure rfl (c54) ?_ | (refine Br.mk (fun h => ?_) (fun h => ?_) <;> first | (exfalso; omega; done) | (exfalso; simp at h; done) | (exfalso; simp [ha] at h; done) | skip))
        conv => whnf
        first | refine CallVC.mk [0, 1, 2, 3, 4, 5] _ _ _ rfl rfl rfl (c62) (fun r m' h' => ?_) | refine CallVC0.same [0, 1, 2, 3, 4, 5] _ _ _ rfl rfl rfl rfl (c62) (fun r m' h' => (by obtain ⟨rfl, rfl⟩ := h'; rfl)) (fun r m' h' => ?_) | (refine CallVC0.rows [0, 1, 2, 3, 4, 5] _ _ _ rfl rfl rfl ?_ (c62) (fun r m' h' => (by obtain ⟨rfl, rfl⟩ := h'; rfl)) (fun r m' h' => ?_); · (repeat' ((conv => whnf); first | exact trivial | exact rfl | exact Nat.le_refl _ | apply And.intro)))
        obtain ⟨rfl, rfl⟩ := h'
        conv => whnf
        repeat' ((conv => whnf); first | refine Rng.g ?_ | refine Ob.g ?_ | refine Ob.e ?_ | refine Ob.m ?_ | refine Ob.mk (Nat.le_of_ble_eq_true rfl) ?_ | refine JoinVC.on ?_ | refine Nils.mk (fun h => ?_) ?_ | refine Val.t ?_ | refine Val.d ?_ | refine Mm.mk ?_ | (refine Br.mk (fun h => ?_) (fun h => ?_) <;> first | (exfalso; omega; done) | (exfalso; simp at h; done) | skip))
        conv => whnf
        first | refine CallVC.mk [0, 1, 2, 3, 4, 5] _ _ _ rfl rfl rfl (c63) (fun r m' h' => ?_) | refine CallVC0.same [0, 1, 2, 3, 4, 5] _ _ _ rfl rfl rfl rfl (c63) (fun r m' h' => (by obtain ⟨rfl, rfl⟩ := h'; rfl)) (fun r m' h' => ?_) | (refine CallVC0.rows [0, 1, 2, 3, 4, 5] _ _ _ rfl rfl rfl ?_ (c63) (fun r m' h' => (by obtain ⟨rfl, rfl⟩ := h'; rfl)) (fun r m' h' => ?_); · (repeat' ((conv => whnf); first | exact trivial | exact rfl | exact Nat.le_refl _ | apply And.intro)))
        obtain ⟨rfl, rfl⟩ := h'
        conv => whnf
        repeat' ((conv => whnf); first | rw [g0] | rw [g3] | rw [t1] | refine Rng.g ?_ | refine Ob.g ?_ | refine Ob.e ?_ | refine Ob.m ?_ | refine Ob.mk (Nat.le_of_ble_eq_true rfl) ?_ | refine JoinVC.on ?_ | refine Nils.mk (fun h => ?_) ?_ | refine Val.t ?_ | refine Val.d ?_ | refine Mm.mk ?_ | (refine Br.mk (fun h => ?_) (fun h => ?_) <;> first | (exfalso; omega; done) | (exfalso; simp at h; done) | skip))
        conv => whnf
        first | refine CallVC.mk [0, 1, 2, 3, 4, 5] _ _ _ rfl rfl rfl (c64) (fun r m' h' => ?_) | refine CallVC0.same [0, 1, 2, 3, 4, 5] _ _ _ rfl rfl rfl rfl (c64) (fun r m' h' => (by obtain ⟨rfl, rfl⟩ := h'; rfl)) (fun r m' h' => ?_) | (refine CallVC0.rows [0, 1, 2, 3, 4, 5] _ _ _ rfl rfl rfl ?_ (c64) (fun r m' h' => (by obtain ⟨rfl, rfl⟩ := h'; rfl)) (fun r m' h' => ?_); · (repeat' ((conv => whnf); first | exact trivial | exact rfl | exact Nat.le_refl _ | apply And.intro)))
        obtain ⟨rfl, rfl⟩ := h'
        conv => whnf
        repeat' ((conv => whnf); first | rw [g0] | rw [g3] | rw [t1] | refine Rng.g ?_ | refine Ob.g ?_ | refine Ob.e ?_ | refine Ob.m ?_ | refine Ob.mk (Nat.le_of_ble_eq_true rfl) ?_ | refine JoinVC.on ?_ | refine Nils.mk (fun h => ?_) ?_ | refine Val.t ?_ | refine Val.d ?_ | refine Mm.mk ?_ | (refine Br.mk (fun h => ?_) (fun h => ?_) <;> first | (exfalso; omega; done) | (exfalso; simp at h; done) | skip))
        repeat refine Mm.mk ?_
        conv => whnf
        refine EndVC.mk _ rfl _ _ (secR.err hE (by decide)) ?_
        refine ⟨[some 0, some 1, some 2, some 3, some 4, some 5], rfl, rfl, ?_, ?_⟩ <;> repeat' (first | exact trivial | exact rfl | exact Iff.rfl | apply And.intro)
    · have hdC := divB (a := (1000 * nedM S a + (S.t a.bath).yd - 1) / (S.t a.bath).yd + a.cur - 1) (d := a.cur) (B := 1125899907893248) ⟨by omega, by omega⟩ (by omega)
      have hX : secX S a = ((1000 * nedM S a + (S.t a.bath).yd - 1) / (S.t a.bath).yd + a.cur - 1) / a.cur := by unfold secX; rw [if_pos hn]
      by_cases hbig : 1048576 < secX S a
      · have hE : secE S a = 15 := by unfold secE; rw [if_neg hv, if_neg hh1, if_pos (.inr (.inl hbig))]
        rw [hX] at hbig
        rw [hned] at hn hdB hdC hbig
        clear hth
        rcases hk3 with ⟨hk, ht⟩ | ⟨hk, ht⟩ | ⟨hk, ht⟩
        all_goals
          subst ht
          rw [hk] at g0
          refine spec_of pMix (O := [(8, ([12], [⟨0, [], []⟩, ⟨1, [], []⟩, ⟨2, [], []⟩, ⟨4, [], []⟩, ⟨5, [], []⟩, ⟨6, [], []⟩, ⟨7, [], []⟩, ⟨8, [], []⟩, ⟨9, [], []⟩, ⟨10, [], []⟩, ⟨11, [], []⟩, ⟨3, [4, 5, 6, 7, 8, 9, 10, 11], []⟩, ⟨12, [], []⟩, ⟨13, [], []⟩, ⟨14, [], []⟩])), (10, ([], [⟨0, [], []⟩, ⟨1, [], []⟩, ⟨2, [], []⟩, ⟨3, [], []⟩, ⟨4, [], []⟩, ⟨5, [], []⟩, ⟨6, [], []⟩, ⟨7, [], []⟩, ⟨8, [], []⟩, ⟨9, [], []⟩, ⟨10, [], []⟩, ⟨11, [], []⟩, ⟨12, [], []⟩, ⟨13, [], []⟩, ⟨14, [], []⟩, ⟨15, [], []⟩, ⟨16, [], []⟩, ⟨17, [], []⟩, ⟨18, [], []⟩, ⟨19, [], []⟩, ⟨20, [], []⟩, ⟨21, [], []⟩, ⟨22, [0, 1, 2, 3, 4, 5, 6, 7, 8, 9, 10, 11, 12, 13, 14, 15, 16, 17, 18, 19], []⟩, ⟨23, [], []⟩, ⟨24, [], []⟩, ⟨25, [], []⟩]))]) Try.func24 (c := bodyOf Try.f24) rfl (by kernel_rfl) (by kernel_rfl) Try.ntmps24 (res := [.tmp 4, .tmp 5]) (by kernel_rfl) ?_
          repeat' ((conv => whnf); first | refine Rng.g ?_ | refine Ob.g ?_ | refine Ob.e ?_ | refine Ob.m ?_ | refine Ob.mk (Nat.le_of_ble_eq_true rfl) ?_ | refine JoinVC.on ?_ | refine Nils.mk (fun h => ?_) ?_ | refine Val.t ?_ | refine Val.d ?_ | refine Mm.mk ?_ | (refine Br.mk (fun h => ?_) (fun h => ?_) <;> first | (exfalso; omega; done) | (exfalso; simp at h; done) | skip))
          conv => whnf
          first | refine CallVC.mk [0, 1, 2, 3, 4, 5] _ _ _ rfl rfl rfl (c53) (fun r m' h' => ?_) | refine CallVC0.same [0, 1, 2, 3, 4, 5] _ _ _ rfl rfl rfl rfl (c53) (fun r m' h' => (by obtain ⟨rfl, rfl⟩ := h'; rfl)) (fun r m' h' => ?_) | (refine CallVC0.rows [0, 1, 2, 3, 4, 5] _ _ _ rfl rfl rfl ?_ (c53) (fun r m' h' => (by obtain ⟨rfl, rfl⟩ := h'; rfl)) (fun r m' h' => ?_); · (repeat' ((conv => whnf); first | exact trivial | exact rfl | exact Nat.le_refl _ | apply And.intro)))
          obtain ⟨rfl, rfl⟩ := h'
          conv => whnf
          repeat' ((conv => whnf); first | refine Rng.g ?_ | refine Ob.g ?_ | refine Ob.e ?_ | refine Ob.m ?_ | refine Ob.mk (Nat.le_of_ble_eq_true rfl) ?_ | refine JoinVC.on ?_ | refine Nils.mk (fun h => ?_) ?_ | refine Val.t ?_ | refine Val.d ?_ | refine Mm.mk ?_ | refine CallVC.pure rfl (c54) ?_ | refine CallVC0.pure rfl (c54) ?_ | (refine Br.mk (fun h => ?_) (fun h => ?_) <;> first | (exfalso; omega; done) | (exfalso; simp at h; done) | (exfalso; simp [ha] at h; done) | skip))
          conv => whnf
          first | refine CallVC.mk [0, 1, 2, 3, 4, 5] _ _ _ rfl rfl rfl (c62) (fun r m' h' => ?_) | refine CallVC0.same [0, 1, 2, 3, 4, 5] _ _ _ rfl rfl rfl rfl (c62) (fun r m' h' => (by obtain ⟨rfl, rfl⟩ := h'; rfl)) (fun r m' h' => ?_) | (refine CallVC0.rows [0, 1, 2, 3, 4, 5] _ _ _ rfl rfl rfl ?_ (c62) (fun r m' h' => (by obtain ⟨rfl, rfl⟩ := h'; rfl)) (fun r m' h' => ?_); · (repeat' ((conv => whnf); first | exact trivial | exact rfl | exact Nat.le_refl _ | apply And.intro)))
          obtain ⟨rfl, rfl⟩ := h'
          conv => whnf
          repeat' ((conv => whnf); first | refine Rng.g ?_ | refine Ob.g ?_ | refine Ob.e ?_ | refine Ob.m ?_ | refine Ob.mk (Nat.le_of_ble_eq_true rfl) ?_ | refine JoinVC.on ?_ | refine Nils.mk (fun h => ?_) ?_ | refine Val.t ?_ | refine Val.d ?_ | refine Mm.mk ?_ | (refine Br.mk (fun h => ?_) (fun h => ?_) <;> first | (exfalso; omega; done) | (exfalso; simp at h; done) | skip))
          conv => whnf
          first | refine CallVC.mk [0, 1, 2, 3, 4, 5] _ _ _ rfl rfl rfl (c63) (fun r m' h' => ?_) | refine CallVC0.same [0, 1, 2, 3, 4, 5] _ _ _ rfl rfl rfl rfl (c63) (fun r m' h' => (by obtain ⟨rfl, rfl⟩ := h'; rfl)) (fun r m' h' => ?_) | (refine CallVC0.rows [0, 1, 2, 3, 4, 5] _ _ _ rfl rfl rfl ?_ (c63) (fun r m' h' => (by obtain ⟨rfl, rfl⟩ := h'; rfl)) (fun r m' h' => ?_); · (repeat' ((conv => whnf); first | exact trivial | exact rfl | exact Nat.le_refl _ | apply And.intro)))
          obtain ⟨rfl, rfl⟩ := h'
          conv => whnf
          repeat' ((conv => whnf); first | rw [g0] | rw [g3] | rw [t1] | refine Rng.g ?_ | refine Ob.g ?_ | refine Ob.e ?_ | refine Ob.m ?_ | refine Ob.mk (Nat.le_of_ble_eq_true rfl) ?_ | refine JoinVC.on ?_ | refine Nils.mk (fun h => ?_) ?_ | refine Val.t ?_ | refine Val.d ?_ | refine Mm.mk ?_ | (refine Br.mk (fun h => ?_) (fun h => ?_) <;> first | (exfalso; omega; done) | (exfalso; simp at h; done) | skip))
          conv => whnf
          first | refine CallVC.mk [0, 1, 2, 3, 4, 5] _ _ _ rfl rfl rfl (c64) (fun r m' h' => ?_) | refine CallVC0.same [0, 1, 2, 3, 4, 5] _ _ _ rfl rfl rfl rfl (c64) (fun r m' h' => (by obtain ⟨rfl, rfl⟩ := h'; rfl)) (fun r m' h' => ?_) | (refine CallVC0.rows [0, 1, 2, 3, 4, 5] _ _ _ rfl rfl rfl ?_ (c64) (fun r m' h' => (by obtain ⟨rfl, rfl⟩ := h'; rfl)) (fun r m' h' => ?_); · (repeat' ((conv => whnf); first | exact trivial | exact rfl | exact Nat.le_refl _ | apply And.intro)))
          obtain ⟨rfl, rfl⟩ := h'
          conv => whnf
          repeat' ((conv => whnf); first | rw [g0] | rw [g3] | rw [t1] | refine Rng.g ?_ | refine Ob.g ?_ | refine Ob.e ?_ | refine Ob.m ?_ | refine Ob.mk (Nat.le_of_ble_eq_true rfl) ?_ | refine JoinVC.on ?_ | refine Nils.mk (fun h => ?_) ?_ | refine Val.t ?_ | refine Val.d ?_ | refine Mm.mk ?_ | (refine Br.mk (fun h => ?_) (fun h => ?_) <;> first | (exfalso; omega; done) | (exfalso; simp at h; done) | skip))
          repeat refine Mm.mk ?_
          conv => whnf
          refine EndVC.mk _ rfl _ _ (secR.err hE (by decide)) ?_
          refine ⟨[some 0, some 1, some 2, some 3, some 4, some 5], rfl, rfl, ?_, ?_⟩ <;> repeat' (first | exact trivial | exact rfl | exact Iff.rfl | apply And.intro)
      · have c65 := s65 S ms hS (secA a (secX S a)) ⟨hg.s0, hg.s1, hg.cur, by show 0 ≤ secX S a ∧ secX S a ≤ 1048576; omega⟩ hi hb hkd
        by_cases hl : layE S (secA a (secX S a)) = 0
        · have hE : secE S a = 0 := by unfold secE; rw [if_neg hv, if_neg hh1, if_neg (by rintro (h | h | h); exact hc h.2; exact hbig h; exact h hl)]
          rw [hl, if_pos rfl] at c65
          generalize thkM S (secA a (secX S a)) = tk at c65
          rw [hX] at hbig c65
          rw [hned] at hn hdB hdC hbig hX c65
          clear hth
          rcases hk3 with ⟨hk, ht⟩ | ⟨hk, ht⟩ | ⟨hk, ht⟩
          all_goals
            subst ht
            rw [hk] at g0
            refine spec_of pMix (O := [(8, ([12], [⟨0, [], []⟩, ⟨1, [], []⟩, ⟨2, [], []⟩, ⟨4, [], []⟩, ⟨5, [], []⟩, ⟨6, [], []⟩, ⟨7, [], []⟩, ⟨8, [], []⟩, ⟨9, [], []⟩, ⟨10, [], []⟩, ⟨11, [], []⟩, ⟨3, [4, 5, 6, 7, 8, 9, 10, 11], []⟩, ⟨12, [], []⟩, ⟨13, [], []⟩, ⟨14, [], []⟩])), (10, ([], [⟨0, [], []⟩, ⟨1, [], []⟩, ⟨2, [], []⟩, ⟨3, [], []⟩, ⟨4, [], []⟩, ⟨5, [], []⟩, ⟨6, [], []⟩, ⟨7, [], []⟩, ⟨8, [], []⟩, ⟨9, [], []⟩, ⟨10, [], []⟩, ⟨11, [], []⟩, ⟨12, [], []⟩, ⟨13, [], []⟩, ⟨14, [], []⟩, ⟨15, [], []⟩, ⟨16, [], []⟩, ⟨17, [], []⟩, ⟨18, [], []⟩, ⟨19, [], []⟩, ⟨20, [], []⟩, ⟨21, [], []⟩, ⟨22, [0, 1, 2, 3, 4, 5, 6, 7, 8, 9, 10, 11, 12, 13, 14, 15, 16, 17, 18, 19], []⟩, ⟨23, [], []⟩, ⟨24, [], []⟩, ⟨25, [], []⟩]))]) Try.func24 (c := bodyOf Try.f24) rfl (by kernel_rfl) (by kernel_rfl) Try.ntmps24 (res := [.tmp 4, .tmp 5]) (by kernel_rfl) ?_
            repeat' ((conv => whnf); first | refine Rng.g ?_ | refine Ob.g ?_ | refine Ob.e ?_ | refine Ob.m ?_ | refine Ob.mk (Nat.le_of_ble_eq_true rfl) ?_ | refine JoinVC.on ?_ | refine Nils.mk (fun h => ?_) ?_ | refine Val.t ?_ | refine Val.d ?_ | refine Mm.mk ?_ | (refine Br.mk (fun h => ?_) (fun h => ?_) <;> first | (exfalso; omega; done) | (exfalso; simp at h; done) | skip))
            conv => whnf
            first | refine CallVC.mk [0, 1, 2, 3, 4, 5] _ _ _ rfl rfl rfl (c53) (fun r m' h' => ?_) | refine CallVC0.same [0, 1, 2, 3, 4, 5] _ _ _ rfl rfl rfl rfl (c53) (fun r m' h' => (by obtain ⟨rfl, rfl⟩ := h'; rfl)) (fun r m' h' => ?_) | (refine CallVC0.rows [0, 1, 2, 3, 4, 5] _ _ _ rfl rfl rfl ?_ (c53) (fun r m' h' => (by obtain ⟨rfl, rfl⟩ := h'; rfl)) (fun r m' h' => ?_); · (repeat' ((conv => whnf); first | exact trivial | exact rfl | exact Nat.le_refl _ | apply And.intro)))
            obtain ⟨rfl, rfl⟩ := h'
            conv => whnf
            repeat' ((conv => whnf); first | refine Rng.g ?_ | refine Ob.g ?_ | refine Ob.e ?_ | refine Ob.m ?_ | refine Ob.mk (Nat.le_of_ble_eq_true rfl) ?_ | refine JoinVC.on ?_ | refine Nils.mk (fun h => ?_) ?_ | refine Val.t ?_ | refine Val.d ?_ | refine Mm.mk ?_ | refine CallVC.pure rfl (c54) ?_ | refine CallVC0.pure rfl (c54) ?_ | (refine Br.mk (fun h => ?_) (fun h => ?_) <;> first | (exfalso; omega; done) | (exfalso; simp at h; done) | (exfalso; simp [ha] at h; done) | skip))
            conv => whnf
            first | refine CallVC.mk [0, 1, 2, 3, 4, 5] _ _ _ rfl rfl rfl (c62) (fun r m' h' => ?_) | refine CallVC0.same [0, 1, 2, 3, 4, 5] _ _ _ rfl rfl rfl rfl (c62) (fun r m' h' => (by obtain ⟨rfl, rfl⟩ := h'; rfl)) (fun r m' h' => ?_) | (refine CallVC0.rows [0, 1, 2, 3, 4, 5] _ _ _ rfl rfl rfl ?_ (c62) (fun r m' h' => (by obtain ⟨rfl, rfl⟩ := h'; rfl)) (fun r m' h' => ?_); · (repeat' ((conv => whnf); first | exact trivial | exact rfl | exact Nat.le_refl _ | apply And.intro)))
            obtain ⟨rfl, rfl⟩ := h'
            conv => whnf
            repeat' ((conv => whnf); first | refine Rng.g ?_ | refine Ob.g ?_ | refine Ob.e ?_ | refine Ob.m ?_ | refine Ob.mk (Nat.le_of_ble_eq_true rfl) ?_ | refine JoinVC.on ?_ | refine Nils.mk (fun h => ?_) ?_ | refine Val.t ?_ | refine Val.d ?_ | refine Mm.mk ?_ | (refine Br.mk (fun h => ?_) (fun h => ?_) <;> first | (exfalso; omega; done) | (exfalso; simp at h; done) | skip))
            conv => whnf
            first | refine CallVC.mk [0, 1, 2, 3, 4, 5] _ _ _ rfl rfl rfl (c63) (fun r m' h' => ?_) | refine CallVC0.same [0, 1, 2, 3, 4, 5] _ _ _ rfl rfl rfl rfl (c63) (fun r m' h' => (by obtain ⟨rfl, rfl⟩ := h'; rfl)) (fun r m' h' => ?_) | (refine CallVC0.rows [0, 1, 2, 3, 4, 5] _ _ _ rfl rfl rfl ?_ (c63) (fun r m' h' => (by obtain ⟨rfl, rfl⟩ := h'; rfl)) (fun r m' h' => ?_); · (repeat' ((conv => whnf); first | exact trivial | exact rfl | exact Nat.le_refl _ | apply And.intro)))
            obtain ⟨rfl, rfl⟩ := h'
            conv => whnf
            repeat' ((conv => whnf); first | rw [g0] | rw [g3] | rw [t1] | refine Rng.g ?_ | refine Ob.g ?_ | refine Ob.e ?_ | refine Ob.m ?_ | refine Ob.mk (Nat.le_of_ble_eq_true rfl) ?_ | refine JoinVC.on ?_ | refine Nils.mk (fun h => ?_) ?_ | refine Val.t ?_ | refine Val.d ?_ | refine Mm.mk ?_ | (refine Br.mk (fun h => ?_) (fun h => ?_) <;> first | (exfalso; omega; done) | (exfalso; simp at h; done) | skip))
            conv => whnf
            first | refine CallVC.mk [0, 1, 2, 3, 4, 5] _ _ _ rfl rfl rfl (c64) (fun r m' h' => ?_) | refine CallVC0.same [0, 1, 2, 3, 4, 5] _ _ _ rfl rfl rfl rfl (c64) (fun r m' h' => (by obtain ⟨rfl, rfl⟩ := h'; rfl)) (fun r m' h' => ?_) | (refine CallVC0.rows [0, 1, 2, 3, 4, 5] _ _ _ rfl rfl rfl ?_ (c64) (fun r m' h' => (by obtain ⟨rfl, rfl⟩ := h'; rfl)) (fun r m' h' => ?_); · (repeat' ((conv => whnf); first | exact trivial | exact rfl | exact Nat.le_refl _ | apply And.intro)))
            obtain ⟨rfl, rfl⟩ := h'
            conv => whnf
            repeat' ((conv => whnf); first | rw [g0] | rw [g3] | rw [t1] | refine Rng.g ?_ | refine Ob.g ?_ | refine Ob.e ?_ | refine Ob.m ?_ | refine Ob.mk (Nat.le_of_ble_eq_true rfl) ?_ | refine JoinVC.on ?_ | refine Nils.mk (fun h => ?_) ?_ | refine Val.t ?_ | refine Val.d ?_ | refine Mm.mk ?_ | (refine Br.mk (fun h => ?_) (fun h => ?_) <;> first | (exfalso; omega; done) | (exfalso; simp at h; done) | skip))
            conv => whnf
            first | refine CallVC.mk [0, 1, 2, 3, 4, 5] _ _ _ rfl rfl rfl (c65) (fun r m' h' => ?_) | refine CallVC0.same [0, 1, 2, 3, 4, 5] _ _ _ rfl rfl rfl rfl (c65) (fun r m' h' => (by obtain ⟨rfl, rfl⟩ := h'; rfl)) (fun r m' h' => ?_) | (refine CallVC0.rows [0, 1, 2, 3, 4, 5] _ _ _ rfl rfl rfl ?_ (c65) (fun r m' h' => (by obtain ⟨rfl, rfl⟩ := h'; rfl)) (fun r m' h' => ?_); · (repeat' ((conv => whnf); first | exact trivial | exact rfl | exact Nat.le_refl _ | apply And.intro)))
            obtain ⟨rfl, rfl⟩ := h'
            conv => whnf
            repeat' ((conv => whnf); first | refine Rng.g ?_ | refine Ob.g ?_ | refine Ob.e ?_ | refine Ob.m ?_ | refine Ob.mk (Nat.le_of_ble_eq_true rfl) ?_ | refine JoinVC.on ?_ | refine Nils.mk (fun h => ?_) ?_ | refine Val.t ?_ | refine Val.d ?_ | refine Mm.mk ?_ | (refine Br.mk (fun h => ?_) (fun h => ?_) <;> first | (exfalso; omega; done) | (exfalso; simp at h; done) | skip))
            repeat refine Mm.mk ?_
            conv => whnf
            refine EndVC.mk _ rfl _ _ (secR.ok hE hX) ?_
            refine ⟨[some 0, some 1, some 2, some 3, some 4, some 5], rfl, rfl, ?_, ?_⟩ <;> repeat' (first | exact trivial | exact rfl | exact Iff.rfl | apply And.intro)
        · have hE : secE S a = 15 := by unfold secE; rw [if_neg hv, if_neg hh1, if_pos (.inr (.inr hl))]
          rw [if_neg hl] at c65
          generalize layE S (secA a (secX S a)) = le at c65 hl
          rw [hX] at hbig c65
          rw [hned] at hn hdB hdC hbig c65
          clear hth
          rcases hk3 with ⟨hk, ht⟩ | ⟨hk, ht⟩ | ⟨hk, ht⟩
          all_goals
            subst ht
            rw [hk] at g0
            refine spec_of pMix (O := [(8, ([12], [⟨0, [], []⟩, ⟨1, [], []⟩, ⟨2, [], []⟩, ⟨4, [], []⟩, ⟨5, [], []⟩, ⟨6, [], []⟩, ⟨7, [], []⟩, ⟨8, [], []⟩, ⟨9, [], []⟩, ⟨10, [], []⟩, ⟨11, [], []⟩, ⟨3, [4, 5, 6, 7, 8, 9, 10, 11], []⟩, ⟨12, [], []⟩, ⟨13, [], []⟩, ⟨14, [], []⟩])), (10, ([], [⟨0, [], []⟩, ⟨1, [], []⟩, ⟨2, [], []⟩, ⟨3, [], []⟩, ⟨4, [], []⟩, ⟨5, [], []⟩, ⟨6, [], []⟩, ⟨7, [], []⟩, ⟨8, [], []⟩, ⟨9, [], []⟩, ⟨10, [], []⟩, ⟨11, [], []⟩, ⟨12, [], []⟩, ⟨13, [], []⟩, ⟨14, [], []⟩, ⟨15, [], []⟩, ⟨16, [], []⟩, ⟨17, [], []⟩, ⟨18, [], []⟩, ⟨19, [], []⟩, ⟨20, [], []⟩, ⟨21, [], []⟩, ⟨22, [0, 1, 2, 3, 4, 5, 6, 7, 8, 9, 10, 11, 12, 13, 14, 15, 16, 17, 18, 19], []⟩, ⟨23, [], []⟩, ⟨24, [], []⟩, ⟨25, [], []⟩]))]) Try.func24 (c := bodyOf Try.f24) rfl (by kernel_rfl) (by kernel_rfl) Try.ntmps24 (res := [.tmp 4, .tmp 5]) (by kernel_rfl) ?_
            repeat' ((conv => whnf); first | refine Rng.g ?_ | refine Ob.g ?_ | refine Ob.e ?_ | refine Ob.m ?_ | refine Ob.mk (Nat.le_of_ble_eq_true rfl) ?_ | refine JoinVC.on ?_ | refine Nils.mk (fun h => ?_) ?_ | refine Val.t ?_ | refine Val.d ?_ | refine Mm.mk ?_ | (refine Br.mk (fun h => ?_) (fun h => ?_) <;> first | (exfalso; omega; done) | (exfalso; simp at h; done) | skip))
            conv => whnf
            first | refine CallVC.mk [0, 1, 2, 3, 4, 5] _ _ _ rfl rfl rfl (c53) (fun r m' h' => ?_) | refine CallVC0.same [0, 1, 2, 3, 4, 5] _ _ _ rfl rfl rfl rfl (c53) (fun r m' h' => (by obtain ⟨rfl, rfl⟩ := h'; rfl)) (fun r m' h' => ?_) | (refine CallVC0.rows [0, 1, 2, 3, 4, 5] _ _ _ rfl rfl rfl ?_ (c53) (fun r m' h' => (by obtain ⟨rfl, rfl⟩ := h'; rfl)) (fun r m' h' => ?_); · (repeat' ((conv => whnf); first | exact trivial | exact rfl | exact Nat.le_refl _ | apply And.intro)))
            obtain ⟨rfl, rfl⟩ := h'
            conv => whnf
            repeat' ((conv => whnf); first | refine Rng.g ?_ | refine Ob.g ?_ | refine Ob.e ?_ | refine Ob.m ?_ | refine Ob.mk (Nat.le_of_ble_eq_true rfl) ?_ | refine JoinVC.on ?_ | refine Nils.mk (fun h => ?_) ?_ | refine Val.t ?_ | refine Val.d ?_ | refine Mm.mk ?_ | refine CallVC.pure rfl (c54) ?_ | refine CallVC0.pure rfl (c54) ?_ | (refine Br.mk (fun h => ?_) (fun h => ?_) <;> first | (exfalso; omega; done) | (exfalso; simp at h; done) | (exfalso; simp [ha] at h; done) | skip))
            conv => whnf
            first | refine CallVC.mk [0, 1, 2, 3, 4, 5] _ _ _ rfl rfl rfl (c62) (fun r m' h' => ?_) | refine CallVC0.same [0, 1, 2, 3, 4, 5] _ _ _ rfl rfl rfl rfl (c62) (fun r m' h' => (by obtain ⟨rfl, rfl⟩ := h'; rfl)) (fun r m' h' => ?_) | (refine CallVC0.rows [0, 1, 2, 3, 4, 5] _ _ _ rfl rfl rfl ?_ (c62) (fun r m' h' => (by obtain ⟨rfl, rfl⟩ := h'; rfl)) (fun r m' h' => ?_); · (repeat' ((conv => whnf); first | exact trivial | exact rfl | exact Nat.le_refl _ | apply And.intro)))
            obtain ⟨rfl, rfl⟩ := h'
            conv => whnf
            repeat' ((conv => whnf); first | refine Rng.g ?_ | refine Ob.g ?_ | refine Ob.e ?_ | refine Ob.m ?_ | refine Ob.mk (Nat.le_of_ble_eq_true rfl) ?_ | refine JoinVC.on ?_ | refine Nils.mk (fun h => ?_) ?_ | refine Val.t ?_ | refine Val.d ?_ | refine Mm.mk ?_ | (refine Br.mk (fun h => ?_) (fun h => ?_) <;> first | (exfalso; omega; done) | (exfalso; simp at h; done) | skip))
            conv => whnf
            first | refine CallVC.mk [0, 1, 2, 3, 4, 5] _ _ _ rfl rfl rfl (c63) (fun r m' h' => ?_) | refine CallVC0.same [0, 1, 2, 3, 4, 5] _ _ _ rfl rfl rfl rfl (c63) (fun r m' h' => (by obtain ⟨rfl, rfl⟩ := h'; rfl)) (fun r m' h' => ?_) | (refine CallVC0.rows [0, 1, 2, 3, 4, 5] _ _ _ rfl rfl rfl ?_ (c63) (fun r m' h' => (by obtain ⟨rfl, rfl⟩ := h'; rfl)) (fun r m' h' => ?_); · (repeat' ((conv => whnf); first | exact trivial | exact rfl | exact Nat.le_refl _ | apply And.intro)))
            obtain ⟨rfl, rfl⟩ := h'
            conv => whnf
            repeat' ((conv => whnf); first | rw [g0] | rw [g3] | rw [t1] | refine Rng.g ?_ | refine Ob.g ?_ | refine Ob.e ?_ | refine Ob.m ?_ | refine Ob.mk (Nat.le_of_ble_eq_true rfl) ?_ | refine JoinVC.on ?_ | refine Nils.mk (fun h => ?_) ?_ | refine Val.t ?_ | refine Val.d ?_ | refine Mm.mk ?_ | (refine Br.mk (fun h => ?_) (fun h => ?_) <;> first | (exfalso; omega; done) | (exfalso; simp at h; done) | skip))
            conv => whnf
            first | refine CallVC.mk [0, 1, 2, 3, 4, 5] _ _ _ rfl rfl rfl (c64) (fun r m' h' => ?_) | refine CallVC0.same [0, 1, 2, 3, 4, 5] _ _ _ rfl rfl rfl rfl (c64) (fun r m' h' => (by obtain ⟨rfl, rfl⟩ := h'; rfl)) (fun r m' h' => ?_) | (refine CallVC0.rows [0, 1, 2, 3, 4, 5] _ _ _ rfl rfl rfl ?_ (c64) (fun r m' h' => (by obtain ⟨rfl, rfl⟩ := h'; rfl)) (fun r m' h' => ?_); · (repeat' ((conv => whnf); first | exact trivial | exact rfl | exact Nat.le_refl _ | apply And.intro)))
            obtain ⟨rfl, rfl⟩ := h'
            conv => whnf
            repeat' ((conv => whnf); first | rw [g0] | rw [g3] | rw [t1] | refine Rng.g ?_ | refine Ob.g ?_ | refine Ob.e ?_ | refine Ob.m ?_ | refine Ob.mk (Nat.le_of_ble_eq_true rfl) ?_ | refine JoinVC.on ?_ | refine Nils.mk (fun h => ?_) ?_ | refine Val.t ?_ | refine Val.d ?_ | refine Mm.mk ?_ | (refine Br.mk (fun h => ?_) (fun h => ?_) <;> first | (exfalso; omega; done) | (exfalso; simp at h; done) | skip))
            conv => whnf
            first | refine CallVC.mk [0, 1, 2, 3, 4, 5] _ _ _ rfl rfl rfl (c65) (fun r m' h' => ?_) | refine CallVC0.same [0, 1, 2, 3, 4, 5] _ _ _ rfl rfl rfl rfl (c65) (fun r m' h' => (by obtain ⟨rfl, rfl⟩ := h'; rfl)) (fun r m' h' => ?_) | (refine CallVC0.rows [0, 1, 2, 3, 4, 5] _ _ _ rfl rfl rfl ?_ (c65) (fun r m' h' => (by obtain ⟨rfl, rfl⟩ := h'; rfl)) (fun r m' h' => ?_); · (repeat' ((conv => whnf); first | exact trivial | exact rfl | exact Nat.le_refl _ | apply And.intro)))
            obtain ⟨rfl, rfl⟩ := h'
            conv => whnf
            repeat' ((conv => whnf); first | refine Rng.g ?_ | refine Ob.g ?_ | refine Ob.e ?_ | refine Ob.m ?_ | refine Ob.mk (Nat.le_of_ble_eq_true rfl) ?_ | refine JoinVC.on ?_ | refine Nils.mk (fun h => ?_) ?_ | refine Val.t ?_ | refine Val.d ?_ | refine Mm.mk ?_ | (refine Br.mk (fun h => ?_) (fun h => ?_) <;> first | (exfalso; omega; done) | (exfalso; simp at h; done) | skip))
            repeat refine Mm.mk ?_
            conv => whnf
            refine EndVC.mk _ rfl _ _ (secR.err hE (by decide)) ?_
            refine ⟨[some 0, some 1, some 2, some 3, some 4, some 5], rfl, rfl, ?_, ?_⟩ <;> repeat' (first | exact trivial | exact rfl | exact Iff.rfl | apply And.intro)
  · have hX : secX S a = 0 := by unfold secX; rw [if_neg hn]
    have c65 := s65 S ms hS (secA a 0) hg0 hi hb hkd
    by_cases hl : layE S (secA a 0) = 0
    · have hE : secE S a = 0 := by unfold secE; rw [if_neg hv, if_neg hh1, if_neg (by rw [hX]; rintro (h | h | h); exact hn h.1; omega; exact h hl)]
      rw [hl, if_pos rfl] at c65
      generalize thkM S (secA a 0) = tk at c65
      rw [hned] at hn
      clear hth
      rcases hk3 with ⟨hk, ht⟩ | ⟨hk, ht⟩ | ⟨hk, ht⟩
      all_goals
        subst ht
        rw [hk] at g0
        refine spec_of pMix (O := [(8, ([12], [⟨0, [], []⟩, ⟨1, [], []⟩, ⟨2, [], []⟩, ⟨4, [], []⟩, ⟨5, [], []⟩, ⟨6, [], []⟩, ⟨7, [], []⟩, ⟨8, [], []⟩, ⟨9, [], []⟩, ⟨10, [], []⟩, ⟨11, [], []⟩, ⟨3, [4, 5, 6, 7, 8, 9, 10, 11], []⟩, ⟨12, [], []⟩, ⟨13, [], []⟩, ⟨14, [], []⟩])), (10, ([], [⟨0, [], []⟩, ⟨1, [], []⟩, ⟨2, [], []⟩, ⟨3, [], []⟩, ⟨4, [], []⟩, ⟨5, [], []⟩, ⟨6, [], []⟩, ⟨7, [], []⟩, ⟨8, [], []⟩, ⟨9, [], []⟩, ⟨10, [], []⟩, ⟨11, [], []⟩, ⟨12, [], []⟩, ⟨13, [], []⟩, ⟨14, [], []⟩, ⟨15, [], []⟩, ⟨16, [], []⟩, ⟨17, [], []⟩, ⟨18, [], []⟩, ⟨19, [], []⟩, ⟨20, [], []⟩, ⟨21, [], []⟩, ⟨22, [0, 1, 2, 3, 4, 5, 6, 7, 8, 9, 10, 11, 12, 13, 14, 15, 16, 17, 18, 19], []⟩, ⟨23, [], []⟩, ⟨24, [], []⟩, ⟨25, [], []⟩]))]) Try.func24 (c := bodyOf Try.f24) rfl (by kernel_rfl) (by kernel_rfl) Try.ntmps24 (res := [.tmp 4, .tmp 5]) (by kernel_rfl) ?_
        repeat' ((conv => whnf); first | refine Rng.g ?_ | refine Ob.g ?_ | refine Ob.e ?_ | refine Ob.m ?_ | refine Ob.mk (Nat.le_of_ble_eq_true rfl) ?_ | refine JoinVC.on ?_ | refine Nils.mk (fun h => ?_) ?_ | refine Val.t ?_ | refine Val.d ?_ | refine Mm.mk ?_ | (refine Br.mk (fun h => ?_) (fun h => ?_) <;> first | (exfalso; omega; done) | (exfalso; simp at h; done) | skip))
        conv => whnf
        first | refine CallVC.mk [0, 1, 2, 3, 4, 5] _ _ _ rfl rfl rfl (c53) (fun r m' h' => ?_) | refine CallVC0.same [0, 1, 2, 3, 4, 5] _ _ _ rfl rfl rfl rfl (c53) (fun r m' h' => (by obtain ⟨rfl, rfl⟩ := h'; rfl)) (fun r m' h' => ?_) | (refine CallVC0.rows [0, 1, 2, 3, 4, 5] _ _ _ rfl rfl rfl ?_ (c53) (fun r m' h' => (by obtain ⟨rfl, rfl⟩ := h'; rfl)) (fun r m' h' => ?_); · (repeat' ((conv => whnf); first | exact trivial | exact rfl | exact Nat.le_refl _ | apply And.intro)))
        obtain ⟨rfl, rfl⟩ := h'
        conv => whnf
        repeat' ((conv => whnf); first | refine Rng.g ?_ | refine Ob.g ?_ | refine Ob.e ?_ | refine Ob.m ?_ | refine Ob.mk (Nat.le_of_ble_eq_true rfl) ?_ | refine JoinVC.on ?_ | refine Nils.mk (fun h => ?_) ?_ | refine Val.t ?_ | refine Val.d ?_ | refine Mm.mk ?_ | refine CallVC.pure rfl (c54) ?_ | refine CallVC0.pure rfl (c54) ?_ | (refine Br.mk (fun h => ?_) (fun h => ?_) <;> first | (exfalso; omega; done) | (exfalso; simp at h; done) | (exfalso; simp [ha] at h; done) | skip))
        conv => whnf
        first | refine CallVC.mk [0, 1, 2, 3, 4, 5] _ _ _ rfl rfl rfl (c62) (fun r m' h' => ?_) | refine CallVC0.same [0, 1, 2, 3, 4, 5] _ _ _ rfl rfl rfl rfl (c62) (fun r m' h' => (by obtain ⟨rfl, rfl⟩ := h'; rfl)) (fun r m' h' => ?_) | (refine CallVC0.rows [0, 1, 2, 3, 4, 5] _ _ _ rfl rfl rfl ?_ (c62) (fun r m' h' => (by obtain ⟨rfl, rfl⟩ := h'; rfl)) (fun r m' h' => ?_); · (repeat' ((conv => whnf); first | exact trivial | exact rfl | exact Nat.le_refl _ | apply And.intro)))
        obtain ⟨rfl, rfl⟩ := h'
        conv => whnf
        repeat' ((conv => whnf); first | refine Rng.g ?_ | refine Ob.g ?_ | refine Ob.e ?_ | refine Ob.m ?_ | refine Ob.mk (Nat.le_of_ble_eq_true rfl) ?_ | refine JoinVC.on ?_ | refine Nils.mk (fun h => ?_) ?_ | refine Val.t ?_ | refine Val.d ?_ | refine Mm.mk ?_ | (refine Br.mk (fun h => ?_) (fun h => ?_) <;> first | (exfalso; omega; done) | (exfalso; simp at h; done) | skip))
        conv => whnf
        first | refine CallVC.mk [0, 1, 2, 3, 4, 5] _ _ _ rfl rfl rfl (c63) (fun r m' h' => ?_) | refine CallVC0.same [0, 1, 2, 3, 4, 5] _ _ _ rfl rfl rfl rfl (c63) (fun r m' h' => (by obtain ⟨rfl, rfl⟩ := h'; rfl)) (fun r m' h' => ?_) | (refine CallVC0.rows [0, 1, 2, 3, 4, 5] _ _ _ rfl rfl rfl ?_ (c63) (fun r m' h' => (by obtain ⟨rfl, rfl⟩ := h'; rfl)) (fun r m' h' => ?_); · (repeat' ((conv => whnf); first | exact trivial | exact rfl | exact Nat.le_refl _ | apply And.intro)))
        obtain ⟨rfl, rfl⟩ := h'
        conv => whnf
        repeat' ((conv => whnf); first | rw [g0] | rw [g3] | rw [t1] | refine Rng.g ?_ | refine Ob.g ?_ | refine Ob.e ?_ | refine Ob.m ?_ | refine Ob.mk (Nat.le_of_ble_eq_true rfl) ?_ | refine JoinVC.on ?_ | refine Nils.mk (fun h => ?_) ?_ | refine Val.t ?_ | refine Val.d ?_ | refine Mm.mk ?_ | (refine Br.mk (fun h => ?_) (fun h => ?_) <;> first | (exfalso; omega; done) | (exfalso; simp at h; done) | skip))
        conv => whnf
        first | refine CallVC.mk [0, 1, 2, 3, 4, 5] _ _ _ rfl rfl rfl (c64) (fun r m' h' => ?_) | refine CallVC0.same [0, 1, 2, 3, 4, 5] _ _ _ rfl rfl rfl rfl (c64) (fun r m' h' => (by obtain ⟨rfl, rfl⟩ := h'; rfl)) (fun r m' h' => ?_) | (refine CallVC0.rows [0, 1, 2, 3, 4, 5] _ _ _ rfl rfl rfl ?_ (c64) (fun r m' h' => (by obtain ⟨rfl, rfl⟩ := h'; rfl)) (fun r m' h' => ?_); · (repeat' ((conv => whnf); first | exact trivial | exact rfl | exact Nat.le_refl _ | apply And.intro)))
        obtain ⟨rfl, rfl⟩ := h'
        conv => whnf
        repeat' ((conv => whnf); first | rw [g0] | rw [g3] | rw [t1] | refine Rng.g ?_ | refine Ob.g ?_ | refine Ob.e ?_ | refine Ob.m ?_ | refine Ob.mk (Nat.le_of_ble_eq_true rfl) ?_ | refine JoinVC.on ?_ | refine Nils.mk (fun h => ?_) ?_ | refine Val.t ?_ | refine Val.d ?_ | refine Mm.mk ?_ | (refine Br.mk (fun h => ?_) (fun h => ?_) <;> first | (exfalso; omega; done) | (exfalso; simp at h; done) | skip))
        conv => whnf
        first | refine CallVC.mk [0, 1, 2, 3, 4, 5] _ _ _ rfl rfl rfl (c65) (fun r m' h' => ?_) | refine CallVC0.same [0, 1, 2, 3, 4, 5] _ _ _ rfl rfl rfl rfl (c65) (fun r m' h' => (by obtain ⟨rfl, rfl⟩ := h'; rfl)) (fun r m' h' => ?_) | (refine CallVC0.rows [0, 1, 2, 3, 4, 5] _ _ _ rfl rfl rfl ?_ (c65) (fun r m' h' => (by obtain ⟨rfl, rfl⟩ := h'; rfl)) (fun r m' h' => ?_); · (repeat' ((conv => whnf); first | exact trivial | exact rfl | exact Nat.le_refl _ | apply And.intro)))
        obtain ⟨rfl, rfl⟩ := h'
        conv => whnf
        repeat' ((conv => whnf); first | refine Rng.g ?_ | refine Ob.g ?_ | refine Ob.e ?_ | refine Ob.m ?_ | refine Ob.mk (Nat.le_of_ble_eq_true rfl) ?_ | refine JoinVC.on ?_ | refine Nils.mk (fun h => ?_) ?_ | refine Val.t ?_ | refine Val.d ?_ | refine Mm.mk ?_ | (refine Br.mk (fun h => ?_) (fun h => ?_) <;> first | (exfalso; omega; done) | (exfalso; simp at h; done) | skip))
        repeat refine Mm.mk ?_
        conv => whnf
        refine EndVC.mk _ rfl _ _ (secR.ok hE hX) ?_
        refine ⟨[some 0, some 1, some 2, some 3, some 4, some 5], rfl, rfl, ?_, ?_⟩ <;> repeat' (first | exact trivial | exact rfl | exact Iff.rfl | apply And.intro)
    · have hE : secE S a = 15 := by unfold secE; rw [if_neg hv, if_neg hh1, if_pos (.inr (.inr (by rw [hX]; exact hl)))]
      rw [if_neg hl] at c65
      generalize layE S (secA a 0) = le at c65 hl
      rw [hned] at hn
      clear hth
      rcases hk3 with ⟨hk, ht⟩ | ⟨hk, ht⟩ | ⟨hk, ht⟩
      all_goals
        subst ht
        rw [hk] at g0
        refine spec_of pMix (O := [(8, ([12], [⟨0, [], []⟩, ⟨1, [], []⟩, ⟨2, [], []⟩, ⟨4, [], []⟩, ⟨5, [], []⟩, ⟨6, [], []⟩, ⟨7, [], []⟩, ⟨8, [], []⟩, ⟨9, [], []⟩, ⟨10, [], []⟩, ⟨11, [], []⟩, ⟨3, [4, 5, 6, 7, 8, 9, 10, 11], []⟩, ⟨12, [], []⟩, ⟨13, [], []⟩, ⟨14, [], []⟩])), (10, ([], [⟨0, [], []⟩, ⟨1, [], []⟩, ⟨2, [], []⟩, ⟨3, [], []⟩, ⟨4, [], []⟩, ⟨5, [], []⟩, ⟨6, [], []⟩, ⟨7, [], []⟩, ⟨8, [], []⟩, ⟨9, [], []⟩, ⟨10, [], []⟩, ⟨11, [], []⟩, ⟨12, [], []⟩, ⟨13, [], []⟩, ⟨14, [], []⟩, ⟨15, [], []⟩, ⟨16, [], []⟩, ⟨17, [], []⟩, ⟨18, [], []⟩, ⟨19, [], []⟩, ⟨20, [], []⟩, ⟨21, [], []⟩, ⟨22, [0, 1, 2, 3, 4, 5, 6, 7, 8, 9, 10, 11, 12, 13, 14, 15, 16, 17, 18, 19], []⟩, ⟨23, [], []⟩, ⟨24, [], []⟩, ⟨25, [], []⟩]))]) Try.func24 (c := bodyOf Try.f24) rfl (by kernel_rfl) (by kernel_rfl) Try.ntmps24 (res := [.tmp 4, .tmp 5]) (by kernel_rfl) ?_
        repeat' ((conv => whnf); first | refine Rng.g ?_ | refine Ob.g ?_ | refine Ob.e ?_ | refine Ob.m ?_ | refine Ob.mk (Nat.le_of_ble_eq_true rfl) ?_ | refine JoinVC.on ?_ | refine Nils.mk (fun h => ?_) ?_ | refine Val.t ?_ | refine Val.d ?_ | refine Mm.mk ?_ | (refine Br.mk (fun h => ?_) (fun h => ?_) <;> first | (exfalso; omega; done) | (exfalso; simp at h; done) | skip))
        conv => whnf
        first | refine CallVC.mk [0, 1, 2, 3, 4, 5] _ _ _ rfl rfl rfl (c53) (fun r m' h' => ?_) | refine CallVC0.same [0, 1, 2, 3, 4, 5] _ _ _ rfl rfl rfl rfl (c53) (fun r m' h' => (by obtain ⟨rfl, rfl⟩ := h'; rfl)) (fun r m' h' => ?_) | (refine CallVC0.rows [0, 1, 2, 3, 4, 5] _ _ _ rfl rfl rfl ?_ (c53) (fun r m' h' => (by obtain ⟨rfl, rfl⟩ := h'; rfl)) (fun r m' h' => ?_); · (repeat' ((conv => whnf); first | exact trivial | exact rfl | exact Nat.le_refl _ | apply And.intro)))
        obtain ⟨rfl, rfl⟩ := h'
        conv => whnf
        repeat' ((conv => whnf); first | refine Rng.g ?_ | refine Ob.g ?_ | refine Ob.e ?_ | refine Ob.m ?_ | refine Ob.mk (Nat.le_of_ble_eq_true rfl) ?_ | refine JoinVC.on ?_ | refine Nils.mk (fun h => ?_) ?_ | refine Val.t ?_ | refine Val.d ?_ | refine Mm.mk ?_ | refine CallVC.pure rfl (c54) ?_ | refine CallVC0.pure rfl (c54) ?_ | (refine Br.mk (fun h => ?_) (fun h => ?_) <;> first | (exfalso; omega; done) | (exfalso; simp at h; done) | (exfalso; simp [ha] at h; done) | skip))
        conv => whnf
        first | refine CallVC.mk [0, 1, 2, 3, 4, 5] _ _ _ rfl rfl rfl (c62) (fun r m' h' => ?_) | refine CallVC0.same [0, 1, 2, 3, 4, 5] _ _ _ rfl rfl rfl rfl (c62) (fun r m' h' => (by obtain ⟨rfl, rfl⟩ := h'; rfl)) (fun r m' h' => ?_) | (refine CallVC0.rows [0, 1, 2, 3, 4, 5] _ _ _ rfl rfl rfl ?_ (c62) (fun r m' h' => (by obtain ⟨rfl, rfl⟩ := h'; rfl)) (fun r m' h' => ?_); · (repeat' ((conv => whnf); first | exact trivial | exact rfl | exact Nat.le_refl _ | apply And.intro)))
        obtain ⟨rfl, rfl⟩ := h'
        conv => whnf
        repeat' ((conv => whnf); first | refine Rng.g ?_ | refine Ob.g ?_ | refine Ob.e ?_ | refine Ob.m ?_ | refine Ob.mk (Nat.le_of_ble_eq_true rfl) ?_ | refine JoinVC.on ?_ | refine Nils.mk (fun h => ?_) ?_ | refine Val.t ?_ | refine Val.d ?_ | refine Mm.mk ?_ | (refine Br.mk (fun h => ?_) (fun h => ?_) <;> first | (exfalso; omega; done) | (exfalso; simp at h; done) | skip))
        conv => whnf
        first | refine CallVC.mk [0, 1, 2, 3, 4, 5] _ _ _ rfl rfl rfl (c63) (fun r m' h' => ?_) | refine CallVC0.same [0, 1, 2, 3, 4, 5] _ _ _ rfl rfl rfl rfl (c63) (fun r m' h' => (by obtain ⟨rfl, rfl⟩ := h'; rfl)) (fun r m' h' => ?_) | (refine CallVC0.rows [0, 1, 2, 3, 4, 5] _ _ _ rfl rfl rfl ?_ (c63) (fun r m' h' => (by obtain ⟨rfl, rfl⟩ := h'; rfl)) (fun r m' h' => ?_); · (repeat' ((conv => whnf); first | exact trivial | exact rfl | exact Nat.le_refl _ | apply And.intro)))
        obtain ⟨rfl, rfl⟩ := h'
        conv => whnf
        repeat' ((conv => whnf); first | rw [g0] | rw [g3] | rw [t1] | refine Rng.g ?_ | refine Ob.g ?_ | refine Ob.e ?_ | refine Ob.m ?_ | refine Ob.mk (Nat.le_of_ble_eq_true rfl) ?_ | refine JoinVC.on ?_ | refine Nils.mk (fun h => ?_) ?_ | refine Val.t ?_ | refine Val.d ?_ | refine Mm.mk ?_ | (refine Br.mk (fun h => ?_) (fun h => ?_) <;> first | (exfalso; omega; done) | (exfalso; simp at h; done) | skip))
        conv => whnf
        first | refine CallVC.mk [0, 1, 2, 3, 4, 5] _ _ _ rfl rfl rfl (c64) (fun r m' h' => ?_) | refine CallVC0.same [0, 1, 2, 3, 4, 5] _ _ _ rfl rfl rfl rfl (c64) (fun r m' h' => (by obtain ⟨rfl, rfl⟩ := h'; rfl)) (fun r m' h' => ?_) | (refine CallVC0.rows [0, 1, 2, 3, 4, 5] _ _ _ rfl rfl rfl ?_ (c64) (fun r m' h' => (by obtain ⟨rfl, rfl⟩ := h'; rfl)) (fun r m' h' => ?_); · (repeat' ((conv => whnf); first | exact trivial | exact rfl | exact Nat.le_refl _ | apply And.intro)))
        obtain ⟨rfl, rfl⟩ := h'
        conv => whnf
        repeat' ((conv => whnf); first | rw [g0] | rw [g3] | rw [t1] | refine Rng.g ?_ | refine Ob.g ?_ | refine Ob.e ?_ | refine Ob.m ?_ | refine Ob.mk (Nat.le_of_ble_eq_true rfl) ?_ | refine JoinVC.on ?_ | refine Nils.mk (fun h => ?_) ?_ | refine Val.t ?_ | refine Val.d ?_ | refine Mm.mk ?_ | (refine Br.mk (fun h => ?_) (fun h => ?_) <;> first | (exfalso; omega; done) | (exfalso; simp at h; done) | skip))
        conv => whnf
        first | refine CallVC.mk [0, 1, 2, 3, 4, 5] _ _ _ rfl rfl rfl (c65) (fun r m' h' => ?_) | refine CallVC0.same [0, 1, 2, 3, 4, 5] _ _ _ rfl rfl rfl rfl (c65) (fun r m' h' => (by obtain ⟨rfl, rfl⟩ := h'; rfl)) (fun r m' h' => ?_) | (refine CallVC0.rows [0, 1, 2, 3, 4, 5] _ _ _ rfl rfl rfl ?_ (c65) (fun r m' h' => (by obtain ⟨rfl, rfl⟩ := h'; rfl)) (fun r m' h' => ?_); · (repeat' ((conv => whnf); first | exact trivial | exact rfl | exact Nat.le_refl _ | apply And.intro)))
        obtain ⟨rfl, rfl⟩ := h'
        conv => whnf
        repeat' ((conv => whnf); first | refine Rng.g ?_ | refine Ob.g ?_ | refine Ob.e ?_ | refine Ob.m ?_ | refine Ob.mk (Nat.le_of_ble_eq_true rfl) ?_ | refine JoinVC.on ?_ | refine Nils.mk (fun h => ?_) ?_ | refine Val.t ?_ | refine Val.d ?_ | refine Mm.mk ?_ | (refine Br.mk (fun h => ?_) (fun h => ?_) <;> first | (exfalso; omega; done) | (exfalso; simp at h; done) | skip))
        repeat refine Mm.mk ?_
        conv => whnf
        refine EndVC.mk _ rfl _ _ (secR.err hE (by decide)) ?_
        refine ⟨[some 0, some 1, some 2, some 3, some 4, some 5], rfl, rfl, ?_, ?_⟩ <;> repeat' (first | exact trivial | exact rfl | exact Iff.rfl | apply And.intro)
end Go.Sx

namespace Go.Sx
open Go Go.Proofs
set_option maxRecDepth 10000
set_option maxHeartbeats 4000000
/-! ### Seconds: what they are good for -/
theorem ceil_lt {P N d : Int} (hd : 0 < d) : P < (N + d - 1) / d ↔ P * d < N := by
  have h : P + 1 ≤ (N + d - 1) / d ↔ (P + 1) * d ≤ N + d - 1 := Int.le_ediv_iff_mul_le hd
  rw [Int.add_mul, Int.one_mul] at h
  omega
theorem allM_sec (S : Sho) (a : Act2) (x : Int) : allM S (secA a x) = fstM S a + a.cur * x * (S.t a.bath).yd / 1000 := rfl
theorem thkM_sec (S : Sho) (a : Act2) (x : Int) : thkM S (secA a x) = 1000 * (fstM S a + a.cur * x * (S.t a.bath).yd / 1000) / (S.p a.plate).area := rfl
theorem thin_iff {S : Sho} {a : Act2} (ha : 1 ≤ (S.p a.plate).area) (hy : 1 ≤ (S.t a.bath).yd) (hc : 0 ≤ a.cur) {x : Int} (hx : 0 ≤ x) :
    (thkM S (secA a x) < S.r.thin ((S.p a.plate).kd + 1) ↔ (0 < nedM S a ∧ (a.cur = 0 ∨ x < secX S a))) := by
  have h1 : thkM S (secA a x) < S.r.thin ((S.p a.plate).kd + 1) ↔ 1000 * (fstM S a + a.cur * x * (S.t a.bath).yd / 1000) < S.r.thin ((S.p a.plate).kd + 1) * (S.p a.plate).area := by
    rw [thkM_sec]
    exact Int.ediv_lt_iff_lt_mul (by omega)
  rw [h1]
  have hP : 0 ≤ a.cur * x * (S.t a.bath).yd := Int.mul_nonneg (Int.mul_nonneg hc hx) (by omega)
  have h2 : (1000 * (fstM S a + a.cur * x * (S.t a.bath).yd / 1000) < S.r.thin ((S.p a.plate).kd + 1) * (S.p a.plate).area) ↔ a.cur * x * (S.t a.bath).yd < 1000 * nedM S a := by
    unfold nedM
    omega
  rw [h2]
  by_cases hn : 0 < nedM S a
  · have e1 := ceil_lt (P := a.cur * x) (N := 1000 * nedM S a) (d := (S.t a.bath).yd) (by omega)
    rw [← e1]
    by_cases hc0 : a.cur = 0
    · have hv : 0 < (1000 * nedM S a + (S.t a.bath).yd - 1) / (S.t a.bath).yd := (ceil_lt (by omega)).2 (by omega)
      rw [hc0, Int.zero_mul]
      exact ⟨fun _ => ⟨hn, .inl rfl⟩, fun _ => hv⟩
    · have e : secX S a = ((1000 * nedM S a + (S.t a.bath).yd - 1) / (S.t a.bath).yd + a.cur - 1) / a.cur := by unfold secX; rw [if_pos hn]
      have e2 := ceil_lt (P := x) (N := (1000 * nedM S a + (S.t a.bath).yd - 1) / (S.t a.bath).yd) (d := a.cur) (by omega)
      rw [Int.mul_comm x a.cur] at e2
      rw [e, e2]
      exact ⟨fun h => ⟨hn, .inr h⟩, fun h => h.2.resolve_left hc0⟩
  · exact ⟨fun h => by omega, fun h => absurd h.1 hn⟩
theorem secX_nn {S : Sho} {a : Act2} (hy : 1 ≤ (S.t a.bath).yd) (hc : 0 ≤ a.cur) : 0 ≤ secX S a := by
  unfold secX
  split
  · refine Int.ediv_nonneg ?_ hc
    have : 0 < (1000 * nedM S a + (S.t a.bath).yd - 1) / (S.t a.bath).yd := (ceil_lt (by omega)).2 (by omega)
    omega
  · exact Int.le_refl _
theorem sec_mono {S : Sho} {a : Act2} (ha : 1 ≤ (S.p a.plate).area) (hy : 1 ≤ (S.t a.bath).yd) (hc : 0 ≤ a.cur) {x y : Int} (hxy : x ≤ y) : allM S (secA a x) ≤ allM S (secA a y) ∧ thkM S (secA a x) ≤ thkM S (secA a y) := by
  rw [allM_sec, allM_sec, thkM_sec, thkM_sec]
  have h : a.cur * x * (S.t a.bath).yd ≤ a.cur * y * (S.t a.bath).yd := Int.mul_le_mul_of_nonneg_right (Int.mul_le_mul_of_nonneg_left hxy hc) (by omega)
  have h2 : a.cur * x * (S.t a.bath).yd / 1000 ≤ a.cur * y * (S.t a.bath).yd / 1000 := Int.ediv_le_ediv (by decide) h
  exact ⟨by omega, Int.ediv_le_ediv (by omega) (by omega)⟩
/-- What a growth of x seconds says. -/
theorem doE_sec {S : Sho} {a : Act2} (hn : S.ac.length < 1000) (hk : a.kd = 3) (ha : ActOK a) {x : Int} (hx : 0 ≤ x ∧ x ≤ 1048576) : doE S (secA a x) = if herE S a ≠ 0 then herE S a else layE S (secA a x) := by
  have hg := ha.gro hk
  have hok : ActOK (secA a x) := .inr (.inr (.inl ⟨hk, hg.s0, hg.s1, hg.cur, hx⟩))
  unfold doE
  rw [if_neg (by omega), if_pos hok]
  unfold actE
  rw [if_neg (by show ¬ a.kd = 1; omega), if_neg (by show ¬ a.kd = 2; omega), if_pos hk]
  rfl
theorem sec_law {S : Sho} (hS : ShOK S) {a : Act2} (hn : S.ac.length < 1000) (hk : a.kd = 3) (ha : ActOK a) :
    (secE S a ≠ 0 → ∀ x, 0 ≤ x ∧ x ≤ 1048576 → doE S (secA a x) ≠ 0) ∧
    (secE S a = 0 → (0 ≤ secX S a ∧ secX S a ≤ 1048576) ∧ doE S (secA a (secX S a)) = 0 ∧ (∀ x, 0 ≤ x ∧ x ≤ 1048576 → doE S (secA a x) = 0 → secX S a ≤ x) ∧ (0 < secX S a → doE S (secA a (secX S a - 1)) = 20)) := by
  have hg := ha.gro hk
  have hv : ¬ (a.kd ≠ 3 ∨ ¬ ActOK a) := by rintro (h | h); exact h hk; exact h ha
  by_cases h1 : herE S a = 0
  rotate_left
  · have hE : secE S a = herE S a := by unfold secE; rw [if_neg hv, if_pos h1]
    refine ⟨fun _ x hx => ?_, fun h => absurd (hE ▸ h) h1⟩
    rw [doE_sec hn hk ha hx, if_pos h1]
    exact h1
  obtain ⟨hi, hb, _, _, hkd, _⟩ := herE_0 hS h1
  unfold inP at hi
  unfold inT at hb
  have har : 1 ≤ (S.p a.plate).area := (hS.pl a.plate.toNat (by omega)).area.1
  have hyd : 1 ≤ (S.t a.bath).yd := (hS.tk a.bath.toNat (by omega)).2.1.1
  have hcur := hg.cur.1
  have hdo : ∀ x, 0 ≤ x ∧ x ≤ 1048576 → doE S (secA a x) = layE S (secA a x) := fun x hx => by rw [doE_sec hn hk ha hx, if_neg (by simpa using h1)]
  have hX0 := secX_nn hyd hcur (S := S) (a := a)
  -- too thin
  have thin : ∀ x, 0 ≤ x → 0 < nedM S a ∧ (a.cur = 0 ∨ x < secX S a) → layE S (secA a x) = 20 := fun x hx h => by
    unfold layE
    rw [if_pos (.inr (.inl ((thin_iff har hyd hcur hx).2 h)))]
  have hXn : 0 < secX S a → 0 < nedM S a := fun h => by
    refine Classical.byContradiction fun hc => ?_
    have : secX S a = 0 := by unfold secX; rw [if_neg hc]
    omega
  have lower : ∀ x, 0 ≤ x → x < secX S a → layE S (secA a x) = 20 := fun x hx h => thin x hx ⟨hXn (by omega), .inr h⟩
  refine ⟨fun hE x hx => ?_, fun hE => ?_⟩
  · rw [hdo x hx]
    by_cases h2 : 0 < nedM S a ∧ a.cur = 0
    · rw [thin x hx.1 ⟨h2.1, .inl h2.2⟩]; decide
    by_cases h3 : x < secX S a
    · rw [lower x hx.1 h3]; decide
    · have h4 : layE S (secA a (secX S a)) ≠ 0 := by
        intro hc
        apply hE
        unfold secE
        rw [if_neg hv, if_neg (by simpa using h1), if_neg]
        rintro (h | h | h)
        · exact h2 h
        · omega
        · exact h hc
      obtain ⟨m1, m2⟩ := sec_mono har hyd hcur (S := S) (a := a) (show secX S a ≤ x by omega)
      have hth : ¬ thkM S (secA a (secX S a)) < S.r.thin ((S.p a.plate).kd + 1) := fun hc => by
        have := (thin_iff har hyd hcur hX0).1 hc
        rcases this.2 with h | h
        · exact h2 ⟨this.1, h⟩
        · omega
      intro hc
      apply h4
      unfold layE at hc ⊢
      split at hc
      · cases hc
      rename_i q1
      split at hc
      · cases hc
      rename_i q2
      have q1' : ¬ (1000 * fstM S a / (S.p a.plate).area < S.r.seed ∨ thkM S (secA a x) < S.r.thin ((S.p a.plate).kd + 1) ∨ S.r.thk ((S.p a.plate).kd + 1) < thkM S (secA a x)) := q1
      have q2' : ¬ (S.t a.bath).st < allM S (secA a x) := q2
      rw [if_neg, if_neg]
      · show ¬ (S.t a.bath).st < allM S (secA a (secX S a))
        omega
      · show ¬ (1000 * fstM S a / (S.p a.plate).area < S.r.seed ∨ thkM S (secA a (secX S a)) < S.r.thin ((S.p a.plate).kd + 1) ∨ S.r.thk ((S.p a.plate).kd + 1) < thkM S (secA a (secX S a)))
        omega
  · unfold secE at hE
    rw [if_neg hv, if_neg (by simpa using h1)] at hE
    split at hE
    · cases hE
    rename_i q
    have h2 : ¬ (0 < nedM S a ∧ a.cur = 0) := fun h => q (.inl h)
    have h3 : ¬ 1048576 < secX S a := fun h => q (.inr (.inl h))
    have h4 : layE S (secA a (secX S a)) = 0 := Classical.byContradiction fun h => q (.inr (.inr h))
    refine ⟨⟨hX0, by omega⟩, (hdo _ ⟨hX0, by omega⟩).trans h4, fun x hx hd => ?_, fun hp => ?_⟩
    · rw [hdo x hx] at hd
      refine Classical.byContradiction fun hc => ?_
      rw [lower x hx.1 (by omega)] at hd
      cases hd
    · rw [hdo _ ⟨by omega, by omega⟩]
      exact lower _ (by omega) (by omega)
end Go.Sx

namespace Go.Sx
open Go Go.Proofs
set_option maxRecDepth 10000
set_option maxHeartbeats 8000000
/-! ### Seconds: the law -/
@[reducible] def groA3 (a : Act2) : Act2 := ⟨3, a.cut, a.area, a.stock, a.yd, a.plate, a.bath, a.s0, a.s1, a.cur, a.sec, a.place, a.flaw⟩
theorem doS_ac (S : Sho) (a : Act2) : (doS S a).ac.length ≤ S.ac.length + 1 := by
  unfold doS
  split
  · simp
  · omega
theorem repS_ac (S : Sho) (l : List Act2) : ∀ i, (repS S l i).ac.length ≤ S.ac.length + i
  | 0 => Nat.le_refl _
  | i + 1 => by
    have := doS_ac (repS S l i) (l.getD i ac0)
    have := repS_ac S l i
    unfold repS
    omega
theorem aft_ac (r : Rcp) (l : List Act2) : (aftS r l).ac.length ≤ l.length := by
  have := repS_ac (shop0 r) l l.length
  simpa [aftS] using this
theorem s21e (S : Sho) (ms : List MS) (hS : ShOK S) (hM : MsOK ms S.be) (a : Act2) {e : Int} (he : doE S a = e) : HSpec Try.prog 21 [.one (.ptr 0 0), a.x] (shM S ms) (fun r m' => ∃ ms', MsOK ms' (doS S a).be ∧ r = .tup [I (doN S a), I e] ∧ m' = shO (doS S a) ms') := by
  subst he
  exact s21 S ms hS hM a
theorem s8_any (r : Rcp) (l : List Act2) (a : Act2) (u : Int) (h : 60 < l.length ∨ ¬ RcpOK r ∨ ¬ ActOK (groA3 a)) : PSpec Try.prog 8 [r.x, .one (.lst true KAc (acA l)), a.x, .one (.int .u32 u)] (xP True) := by
  have ll := acA_len l
  have c16 := s16 r
  have c17 := s17
  have c33 := s33 (groA3 a)
  by_cases hl : 60 < l.length
  · refine spec_of pMix (O := [(9, ([], [⟨0, [], []⟩, ⟨2, [], []⟩, ⟨1, [2], []⟩, ⟨3, [], []⟩, ⟨4, [], []⟩, ⟨5, [], []⟩, ⟨6, [], []⟩, ⟨7, [], []⟩, ⟨8, [], []⟩])), (15, ([], [⟨0, [], []⟩, ⟨2, [], []⟩, ⟨1, [2], []⟩, ⟨3, [], []⟩, ⟨4, [], []⟩, ⟨5, [], []⟩, ⟨6, [], []⟩, ⟨7, [], []⟩])), (20, ([], [⟨0, [], []⟩, ⟨2, [], []⟩, ⟨1, [2], []⟩, ⟨3, [], []⟩, ⟨4, [], []⟩, ⟨5, [], []⟩, ⟨6, [], []⟩, ⟨7, [], []⟩]))]) Try.func8 (c := bodyOf Try.f8) rfl (by kernel_rfl) (by kernel_rfl) Try.ntmps8 (res := [.tmp 8]) (by kernel_rfl) ?_
    repeat' ((conv => whnf); first | refine Rng.g ?_ | refine Ob.g ?_ | refine Ob.e ?_ | refine Ob.m ?_ | refine Ob.mk (Nat.le_of_ble_eq_true rfl) ?_ | refine JoinVC.on ?_ | refine Nils.mk (fun h => ?_) ?_ | refine Val.t ?_ | refine Val.d ?_ | refine Mm.mk ?_ | refine CallVC.pure rfl (c17) ?_ | refine CallVC.pure rfl (c16) ?_ | refine CallVC.pure rfl (c33) ?_ | refine CallVC0.pure rfl (c17) ?_ | refine CallVC0.pure rfl (c16) ?_ | refine CallVC0.pure rfl (c33) ?_ | (refine Br.mk (fun h => ?_) (fun h => ?_) <;> first | (exfalso; omega; done) | (exfalso; simp at h; done) | skip))
    all_goals
      repeat refine Mm.mk ?_
      refine EndVC.mk _ rfl _ _ ⟨rfl, rfl⟩ ?_
      refine ⟨[], rfl, rfl, ?_, ?_⟩ <;> repeat' (first | exact trivial | exact rfl | exact Iff.rfl | apply And.intro)
  by_cases hr : RcpOK r
  · have ha : ¬ ActOK (groA3 a) := (h.resolve_left hl).resolve_left (by simpa using hr)
    unfold rcpE at c16
    rw [if_pos hr] at c16
    refine spec_of pMix (O := [(9, ([], [⟨0, [], []⟩, ⟨2, [], []⟩, ⟨1, [2], []⟩, ⟨3, [], []⟩, ⟨4, [], []⟩, ⟨5, [], []⟩, ⟨6, [], []⟩, ⟨7, [], []⟩, ⟨8, [], []⟩])), (15, ([], [⟨0, [], []⟩, ⟨2, [], []⟩, ⟨1, [2], []⟩, ⟨3, [], []⟩, ⟨4, [], []⟩, ⟨5, [], []⟩, ⟨6, [], []⟩, ⟨7, [], []⟩])), (20, ([], [⟨0, [], []⟩, ⟨2, [], []⟩, ⟨1, [2], []⟩, ⟨3, [], []⟩, ⟨4, [], []⟩, ⟨5, [], []⟩, ⟨6, [], []⟩, ⟨7, [], []⟩]))]) Try.func8 (c := bodyOf Try.f8) rfl (by kernel_rfl) (by kernel_rfl) Try.ntmps8 (res := [.tmp 8]) (by kernel_rfl) ?_
    repeat' ((conv => whnf); first | refine Rng.g ?_ | refine Ob.g ?_ | refine Ob.e ?_ | refine Ob.m ?_ | refine Ob.mk (Nat.le_of_ble_eq_true rfl) ?_ | refine JoinVC.on ?_ | refine Nils.mk (fun h => ?_) ?_ | refine Val.t ?_ | refine Val.d ?_ | refine Mm.mk ?_ | refine CallVC.pure rfl (c17) ?_ | refine CallVC.pure rfl (c16) ?_ | refine CallVC.pure rfl (c33) ?_ | refine CallVC0.pure rfl (c17) ?_ | refine CallVC0.pure rfl (c16) ?_ | refine CallVC0.pure rfl (c33) ?_ | (refine Br.mk (fun h => ?_) (fun h => ?_) <;> first | (exfalso; omega; done) | (exfalso; simp at h; done) | (exfalso; simp [ha] at h; done) | skip))
    all_goals
      repeat refine Mm.mk ?_
      refine EndVC.mk _ rfl _ _ ⟨rfl, rfl⟩ ?_
      refine ⟨[], rfl, rfl, ?_, ?_⟩ <;> repeat' (first | exact trivial | exact rfl | exact Iff.rfl | apply And.intro)
  · unfold rcpE at c16
    rw [if_neg hr] at c16
    refine spec_of pMix (O := [(9, ([], [⟨0, [], []⟩, ⟨2, [], []⟩, ⟨1, [2], []⟩, ⟨3, [], []⟩, ⟨4, [], []⟩, ⟨5, [], []⟩, ⟨6, [], []⟩, ⟨7, [], []⟩, ⟨8, [], []⟩])), (15, ([], [⟨0, [], []⟩, ⟨2, [], []⟩, ⟨1, [2], []⟩, ⟨3, [], []⟩, ⟨4, [], []⟩, ⟨5, [], []⟩, ⟨6, [], []⟩, ⟨7, [], []⟩])), (20, ([], [⟨0, [], []⟩, ⟨2, [], []⟩, ⟨1, [2], []⟩, ⟨3, [], []⟩, ⟨4, [], []⟩, ⟨5, [], []⟩, ⟨6, [], []⟩, ⟨7, [], []⟩]))]) Try.func8 (c := bodyOf Try.f8) rfl (by kernel_rfl) (by kernel_rfl) Try.ntmps8 (res := [.tmp 8]) (by kernel_rfl) ?_
    repeat' ((conv => whnf); first | refine Rng.g ?_ | refine Ob.g ?_ | refine Ob.e ?_ | refine Ob.m ?_ | refine Ob.mk (Nat.le_of_ble_eq_true rfl) ?_ | refine JoinVC.on ?_ | refine Nils.mk (fun h => ?_) ?_ | refine Val.t ?_ | refine Val.d ?_ | refine Mm.mk ?_ | refine CallVC.pure rfl (c17) ?_ | refine CallVC.pure rfl (c16) ?_ | refine CallVC.pure rfl (c33) ?_ | refine CallVC0.pure rfl (c17) ?_ | refine CallVC0.pure rfl (c16) ?_ | refine CallVC0.pure rfl (c33) ?_ | (refine Br.mk (fun h => ?_) (fun h => ?_) <;> first | (exfalso; omega; done) | (exfalso; simp at h; done) | skip))
    all_goals
      repeat refine Mm.mk ?_
      refine EndVC.mk _ rfl _ _ ⟨rfl, rfl⟩ ?_
      refine ⟨[], rfl, rfl, ?_, ?_⟩ <;> repeat' (first | exact trivial | exact rfl | exact Iff.rfl | apply And.intro)
theorem s8_ok (r : Rcp) (l : List Act2) (a : Act2) (u : Int) (hu : 0 ≤ u ∧ u ≤ 4294967295) (hl : l.length ≤ 60) (hr : RcpOK r) (ha : ActOK (groA3 a)) : PSpec Try.prog 8 [r.x, .one (.lst true KAc (acA l)), a.x, .one (.int .u32 u)] (xP True) := by
  have ll := acA_len l
  have c16 := s16 r
  have c17 := s17
  have c33 := s33 (groA3 a)
  unfold rcpE at c16
  rw [if_pos hr] at c16
  have c18 := s18 r l hr (by omega)
  have hS := aft_ok hr l
  have hH := aft_hist r l
  have hac := aft_ac r l
  have law := sec_law hS (a := groA3 a) (by omega) rfl ha
  generalize aftS r l = S at *
  refine spec_of pMix (O := [(9, ([], [⟨0, [], []⟩, ⟨2, [], []⟩, ⟨1, [2], []⟩, ⟨3, [], []⟩, ⟨4, [], []⟩, ⟨5, [], []⟩, ⟨6, [], []⟩, ⟨7, [], []⟩, ⟨8, [], []⟩])), (15, ([], [⟨0, [], []⟩, ⟨2, [], []⟩, ⟨1, [2], []⟩, ⟨3, [], []⟩, ⟨4, [], []⟩, ⟨5, [], []⟩, ⟨6, [], []⟩, ⟨7, [], []⟩])), (20, ([], [⟨0, [], []⟩, ⟨2, [], []⟩, ⟨1, [2], []⟩, ⟨3, [], []⟩, ⟨4, [], []⟩, ⟨5, [], []⟩, ⟨6, [], []⟩, ⟨7, [], []⟩]))]) Try.func8 (c := bodyOf Try.f8) rfl (by kernel_rfl) (by kernel_rfl) Try.ntmps8 (res := [.tmp 8]) (by kernel_rfl) ?_
  repeat' ((conv => whnf); first | refine Rng.g ?_ | refine Ob.g ?_ | refine Ob.e ?_ | refine Ob.m ?_ | refine Ob.mk (Nat.le_of_ble_eq_true rfl) ?_ | refine JoinVC.on ?_ | refine Nils.mk (fun h => ?_) ?_ | refine Val.t ?_ | refine Val.d ?_ | refine Mm.mk ?_ | refine CallVC.pure rfl (c16) ?_ | refine CallVC.pure rfl (c33) ?_ | refine CallVC0.pure rfl (c16) ?_ | refine CallVC0.pure rfl (c33) ?_ | (refine Br.mk (fun h => ?_) (fun h => ?_) <;> first | (exfalso; omega; done) | (exfalso; simp at h; done) | (exfalso; simp [ha] at h; done) | skip))
  conv => whnf
  first | refine CallVC.mk [] _ _ _ rfl rfl rfl (c18) (fun r m' h' => ?_) | refine CallVC0.same [] _ _ _ rfl rfl rfl rfl (c18) (fun r m' h' => (by obtain ⟨ms, hM, rfl, rfl⟩ := h'; rfl)) (fun r m' h' => ?_) | (refine CallVC0.rows [] _ _ _ rfl rfl rfl ?_ (c18) (fun r m' h' => (by obtain ⟨ms, hM, rfl, rfl⟩ := h'; rfl)) (fun r m' h' => ?_); · (repeat' ((conv => whnf); first | exact trivial | exact rfl | exact Nat.le_refl _ | apply And.intro)))
  obtain ⟨ms, hM, rfl, rfl⟩ := h'
  conv => whnf
  have c24 := s24 S ms hS (groA3 a)
  have c29 := s29 S ms hS hH
  repeat' ((conv => whnf); first | refine Rng.g ?_ | refine Ob.g ?_ | refine Ob.e ?_ | refine Ob.m ?_ | refine Ob.mk (Nat.le_of_ble_eq_true rfl) ?_ | refine JoinVC.on ?_ | refine Nils.mk (fun h => ?_) ?_ | refine Val.t ?_ | refine Val.d ?_ | refine Mm.mk ?_ | (refine Br.mk (fun h => ?_) (fun h => ?_) <;> first | (exfalso; omega; done) | (exfalso; simp at h; done) | skip))
  have hum : 0 ≤ u % 1048577 ∧ u % 1048577 ≤ 1048576 := by omega
  by_cases hE : secE S (groA3 a) = 0
  · obtain ⟨hx, h0, hmin, h20⟩ := law.2 hE
    unfold secR at c24
    rw [secN, if_pos hE, hE] at c24
    generalize secX S (groA3 a) = n at *
    conv => whnf
    first | refine CallVC.mk [2, 3, 4, 5, 6, 7] _ _ _ rfl rfl rfl (c24) (fun r m' h' => ?_) | refine CallVC0.same [2, 3, 4, 5, 6, 7] _ _ _ rfl rfl rfl rfl (c24) (fun r m' h' => (by obtain ⟨rfl, rfl⟩ := h'; rfl)) (fun r m' h' => ?_) | (refine CallVC0.rows [2, 3, 4, 5, 6, 7] _ _ _ rfl rfl rfl ?_ (c24) (fun r m' h' => (by obtain ⟨rfl, rfl⟩ := h'; rfl)) (fun r m' h' => ?_); · (repeat' ((conv => whnf); first | exact trivial | exact rfl | exact Nat.le_refl _ | apply And.intro)))
    obtain ⟨rfl, rfl⟩ := h'
    conv => whnf
    repeat' ((conv => whnf); first | refine Rng.g ?_ | refine Ob.g ?_ | refine Ob.e ?_ | refine Ob.m ?_ | refine Ob.mk (Nat.le_of_ble_eq_true rfl) ?_ | refine JoinVC.on ?_ | refine Nils.mk (fun h => ?_) ?_ | refine Val.t ?_ | refine Val.d ?_ | refine Mm.mk ?_ | (refine Br.mk (fun h => ?_) (fun h => ?_) <;> first | (exfalso; omega; done) | (exfalso; simp at h; done) | skip))
    conv => whnf
    refine CallVC0.on [2, 3, 4, 5, 6, 7] _ _ _ rfl rfl rfl rfl (c29) (fun r m' h' => ?_)
    obtain ⟨ms2, hM2, rfl, rfl⟩ := h'
    conv => whnf
    have c21 := s21 S ms2 hS hM2 (secA (groA3 a) (u % 1048577))
    have hmin := hmin _ hum
    repeat' ((conv => whnf); first | refine Rng.g ?_ | refine Ob.g ?_ | refine Ob.e ?_ | refine Ob.m ?_ | refine Ob.mk (Nat.le_of_ble_eq_true rfl) ?_ | refine JoinVC.on ?_ | refine Nils.mk (fun h => ?_) ?_ | refine Val.t ?_ | refine Val.d ?_ | refine Mm.mk ?_ | (refine Br.mk (fun h => ?_) (fun h => ?_) <;> first | (exfalso; omega; done) | (exfalso; simp at h; done) | skip))
    conv => whnf
    refine CallVC.mk [8, 9, 10, 11, 12, 13] _ _ _ rfl rfl rfl (c21) (fun r m' h' => ?_)
    obtain ⟨ms3, hM3, rfl, rfl⟩ := h'
    conv => whnf
    generalize doE S (secA (groA3 a) (u % 1048577)) = D at *
    repeat' ((conv => whnf); first | refine Rng.g ?_ | refine Ob.g ?_ | refine Ob.e ?_ | refine Ob.m ?_ | refine Ob.mk (Nat.le_of_ble_eq_true rfl) ?_ | refine JoinVC.on ?_ | refine Nils.mk (fun h => ?_) ?_ | refine Val.t ?_ | refine Val.d ?_ | refine Mm.mk ?_ | (refine Br.mk (fun h => ?_) (fun h => ?_) <;> first | (exfalso; omega; done) | (exfalso; simp at h; done) | skip))
    all_goals
      conv => whnf
      refine CallVC0.on [2, 3, 4, 5, 6, 7] _ _ _ rfl rfl rfl rfl (c29) (fun r m' h' => ?_)
      obtain ⟨ms4, hM4, rfl, rfl⟩ := h'
      conv => whnf
      repeat' ((conv => whnf); first | refine Rng.g ?_ | refine Ob.g ?_ | refine Ob.e ?_ | refine Ob.m ?_ | refine Ob.mk (Nat.le_of_ble_eq_true rfl) ?_ | refine JoinVC.on ?_ | refine Nils.mk (fun h => ?_) ?_ | refine Val.t ?_ | refine Val.d ?_ | refine Mm.mk ?_ | (refine Br.mk (fun h => ?_) (fun h => ?_) <;> first | (exfalso; omega; done) | (exfalso; simp at h; done) | skip))
      conv => whnf
      refine CallVC.mk [18, 19, 20, 21, 22, 23] _ _ _ rfl rfl rfl (s21e S ms4 hS hM4 (secA (groA3 a) n) h0) (fun r m' h' => ?_)
      obtain ⟨ms5, hM5, rfl, rfl⟩ := h'
      conv => whnf
      by_cases hp : 0 < n
      · repeat' ((conv => whnf); first | refine Rng.g ?_ | refine Ob.g ?_ | refine Ob.e ?_ | refine Ob.m ?_ | refine Ob.mk (Nat.le_of_ble_eq_true rfl) ?_ | refine JoinVC.on ?_ | refine Nils.mk (fun h => ?_) ?_ | refine Val.t ?_ | refine Val.d ?_ | refine Mm.mk ?_ | (refine Br.mk (fun h => ?_) (fun h => ?_) <;> first | (exfalso; omega; done) | (exfalso; simp at h; done) | skip))
        conv => whnf
        refine CallVC0.on [2, 3, 4, 5, 6, 7] _ _ _ rfl rfl rfl rfl (c29) (fun r m' h' => ?_)
        obtain ⟨ms6, hM6, rfl, rfl⟩ := h'
        conv => whnf
        repeat' ((conv => whnf); first | refine Rng.g ?_ | refine Ob.g ?_ | refine Ob.e ?_ | refine Ob.m ?_ | refine Ob.mk (Nat.le_of_ble_eq_true rfl) ?_ | refine JoinVC.on ?_ | refine Nils.mk (fun h => ?_) ?_ | refine Val.t ?_ | refine Val.d ?_ | refine Mm.mk ?_ | (refine Br.mk (fun h => ?_) (fun h => ?_) <;> first | (exfalso; omega; done) | (exfalso; simp at h; done) | skip))
        conv => whnf
        refine CallVC.mk [28, 29, 30, 31, 32, 33] _ _ _ rfl rfl rfl (s21e S ms6 hS hM6 (secA (groA3 a) (n - 1)) (h20 hp)) (fun r m' h' => ?_)
        obtain ⟨ms7, hM7, rfl, rfl⟩ := h'
        conv => whnf
        repeat' ((conv => whnf); first | refine Rng.g ?_ | refine Ob.g ?_ | refine Ob.e ?_ | refine Ob.m ?_ | refine Ob.mk (Nat.le_of_ble_eq_true rfl) ?_ | refine JoinVC.on ?_ | refine Nils.mk (fun h => ?_) ?_ | refine Val.t ?_ | refine Val.d ?_ | refine Mm.mk ?_ | refine CallVC.pure rfl (c17) ?_ | refine CallVC0.pure rfl (c17) ?_ | (refine Br.mk (fun h => ?_) (fun h => ?_) <;> first | (exfalso; omega; done) | (exfalso; simp at h; done) | skip))
        repeat refine Mm.mk ?_
        refine EndVC.mk _ rfl _ _ ⟨rfl, rfl⟩ ?_
        refine ⟨[], rfl, rfl, ?_, ?_⟩ <;> repeat' (first | exact trivial | exact rfl | exact Iff.rfl | apply And.intro)
      · repeat' ((conv => whnf); first | refine Rng.g ?_ | refine Ob.g ?_ | refine Ob.e ?_ | refine Ob.m ?_ | refine Ob.mk (Nat.le_of_ble_eq_true rfl) ?_ | refine JoinVC.on ?_ | refine Nils.mk (fun h => ?_) ?_ | refine Val.t ?_ | refine Val.d ?_ | refine Mm.mk ?_ | refine CallVC.pure rfl (c17) ?_ | refine CallVC0.pure rfl (c17) ?_ | (refine Br.mk (fun h => ?_) (fun h => ?_) <;> first | (exfalso; omega; done) | (exfalso; simp at h; done) | skip))
        repeat refine Mm.mk ?_
        refine EndVC.mk _ rfl _ _ ⟨rfl, rfl⟩ ?_
        refine ⟨[], rfl, rfl, ?_, ?_⟩ <;> repeat' (first | exact trivial | exact rfl | exact Iff.rfl | apply And.intro)
  · have hD := law.1 hE _ hum
    unfold secR at c24
    rw [secN, if_neg hE] at c24
    generalize secE S (groA3 a) = e at *
    conv => whnf
    first | refine CallVC.mk [2, 3, 4, 5, 6, 7] _ _ _ rfl rfl rfl (c24) (fun r m' h' => ?_) | refine CallVC0.same [2, 3, 4, 5, 6, 7] _ _ _ rfl rfl rfl rfl (c24) (fun r m' h' => (by obtain ⟨rfl, rfl⟩ := h'; rfl)) (fun r m' h' => ?_) | (refine CallVC0.rows [2, 3, 4, 5, 6, 7] _ _ _ rfl rfl rfl ?_ (c24) (fun r m' h' => (by obtain ⟨rfl, rfl⟩ := h'; rfl)) (fun r m' h' => ?_); · (repeat' ((conv => whnf); first | exact trivial | exact rfl | exact Nat.le_refl _ | apply And.intro)))
    obtain ⟨rfl, rfl⟩ := h'
    conv => whnf
    repeat' ((conv => whnf); first | refine Rng.g ?_ | refine Ob.g ?_ | refine Ob.e ?_ | refine Ob.m ?_ | refine Ob.mk (Nat.le_of_ble_eq_true rfl) ?_ | refine JoinVC.on ?_ | refine Nils.mk (fun h => ?_) ?_ | refine Val.t ?_ | refine Val.d ?_ | refine Mm.mk ?_ | (refine Br.mk (fun h => ?_) (fun h => ?_) <;> first | (exfalso; omega; done) | (exfalso; simp at h; done) | skip))
    conv => whnf
    refine CallVC0.on [2, 3, 4, 5, 6, 7] _ _ _ rfl rfl rfl rfl (c29) (fun r m' h' => ?_)
    obtain ⟨ms2, hM2, rfl, rfl⟩ := h'
    conv => whnf
    have c21 := s21 S ms2 hS hM2 (secA (groA3 a) (u % 1048577))
    repeat' ((conv => whnf); first | refine Rng.g ?_ | refine Ob.g ?_ | refine Ob.e ?_ | refine Ob.m ?_ | refine Ob.mk (Nat.le_of_ble_eq_true rfl) ?_ | refine JoinVC.on ?_ | refine Nils.mk (fun h => ?_) ?_ | refine Val.t ?_ | refine Val.d ?_ | refine Mm.mk ?_ | (refine Br.mk (fun h => ?_) (fun h => ?_) <;> first | (exfalso; omega; done) | (exfalso; simp at h; done) | skip))
    conv => whnf
    refine CallVC.mk [8, 9, 10, 11, 12, 13] _ _ _ rfl rfl rfl (c21) (fun r m' h' => ?_)
    obtain ⟨ms3, hM3, rfl, rfl⟩ := h'
    conv => whnf
    repeat' ((conv => whnf); first | refine Rng.g ?_ | refine Ob.g ?_ | refine Ob.e ?_ | refine Ob.m ?_ | refine Ob.mk (Nat.le_of_ble_eq_true rfl) ?_ | refine JoinVC.on ?_ | refine Nils.mk (fun h => ?_) ?_ | refine Val.t ?_ | refine Val.d ?_ | refine Mm.mk ?_ | refine CallVC.pure rfl (c17) ?_ | refine CallVC0.pure rfl (c17) ?_ | (refine Br.mk (fun h => ?_) (fun h => ?_) <;> first | (exfalso; omega; done) | (exfalso; simp at h; done) | skip))
    all_goals
      repeat refine Mm.mk ?_
      refine EndVC.mk _ rfl _ _ ⟨rfl, rfl⟩ ?_
      refine ⟨[], rfl, rfl, ?_, ?_⟩ <;> repeat' (first | exact trivial | exact rfl | exact Iff.rfl | apply And.intro)
theorem s8 (r : Rcp) (l : List Act2) (a : Act2) (u : Int) (hu : inR .u32 u) : PSpec Try.prog 8 [r.x, .one (.lst true KAc (acA l)), a.x, .one (.int .u32 u)] (xP True) := by
  by_cases h : 60 < l.length ∨ ¬ RcpOK r ∨ ¬ ActOK (groA3 a)
  · exact s8_any r l a u h
  · exact s8_ok r l a u (by simp only [inR] at hu; omega) (by omega) (Classical.byContradiction fun hc => h (.inr (.inl hc))) (Classical.byContradiction fun hc => h (.inr (.inr hc)))
end Go.Sx

namespace Go.Sx
open Go Go.Proofs
set_option maxRecDepth 10000
/-! ### Rows read as acts -/
theorem wfr_of : ∀ {ks : List CK} {r : List Cell}, r.length = ks.length → (∀ (j : Nat) k c, ks[j]? = some k → r[j]? = some c → Wf k c) → WfR ks r
  | [], [], _, _ => .nil
  | [], _ :: _, h, _ => by simp at h
  | _ :: _, [], h, _ => by simp at h
  | k :: ks, c :: cs, h, hw => .cons (hw 0 k c rfl rfl) (wfr_of (by simpa using h) fun j k' c' h1 h2 => hw (j + 1) k' c' (by simpa using h1) (by simpa using h2))
theorem wf_map {α : Type} {ks : List CK} {row : α → List Cell} {p : α → Prop} (hrow : ∀ r, WfR ks r → ∃ x, r = row x ∧ p x) {a : Arr} (h : Wf (.sl ks) (.sl a)) : ∃ l : List α, a = l.map row ∧ ∀ x ∈ l, p x := by
  cases h with
  | sl hl hr hw =>
    clear hl
    induction a with
    | nil => exact ⟨[], rfl, fun x hx => by simp at hx⟩
    | cons r a ih =>
      obtain ⟨l, rfl, h2⟩ := ih (fun r h => hr r (List.mem_cons_of_mem _ h)) (fun r h => hw r (List.mem_cons_of_mem _ h))
      obtain ⟨x, rfl, h3⟩ := hrow r (wfr_of (hr r (List.mem_cons_self ..)) (hw r (List.mem_cons_self ..)))
      exact ⟨x :: l, rfl, fun y hy => by rcases List.mem_cons.1 hy with rfl | hy; (· exact h3); exact h2 y hy⟩
theorem wf_acts {a : Arr} (h : Wf (.sl KAc) (.sl a)) : ∃ l : List Act2, a = acA l := by
  obtain ⟨l, h1, _⟩ := wf_map (row := acC) (p := fun _ => True) (fun r hr => by
    obtain ⟨c0, _, rfl, g0, h1⟩ := hr.inv
    obtain ⟨n0, rfl, _⟩ := g0.int_inv
    obtain ⟨c1, _, rfl, g1, h2⟩ := h1.inv
    obtain ⟨n1, rfl, _⟩ := g1.int_inv
    obtain ⟨c2, _, rfl, g2, h3⟩ := h2.inv
    obtain ⟨n2, rfl, _⟩ := g2.int_inv
    obtain ⟨c3, _, rfl, g3, h4⟩ := h3.inv
    obtain ⟨n3, rfl, _⟩ := g3.int_inv
    obtain ⟨c4, _, rfl, g4, h5⟩ := h4.inv
    obtain ⟨n4, rfl, _⟩ := g4.int_inv
    obtain ⟨c5, _, rfl, g5, h6⟩ := h5.inv
    obtain ⟨n5, rfl, _⟩ := g5.int_inv
    obtain ⟨c6, _, rfl, g6, h7⟩ := h6.inv
    obtain ⟨n6, rfl, _⟩ := g6.int_inv
    obtain ⟨c7, _, rfl, g7, h8⟩ := h7.inv
    obtain ⟨n7, rfl, _⟩ := g7.int_inv
    obtain ⟨c8, _, rfl, g8, h9⟩ := h8.inv
    obtain ⟨n8, rfl, _⟩ := g8.int_inv
    obtain ⟨c9, _, rfl, g9, h10⟩ := h9.inv
    obtain ⟨n9, rfl, _⟩ := g9.int_inv
    obtain ⟨c10, _, rfl, g10, h11⟩ := h10.inv
    obtain ⟨n10, rfl, _⟩ := g10.int_inv
    obtain ⟨c11, _, rfl, g11, h12⟩ := h11.inv
    obtain ⟨n11, rfl, _⟩ := g11.int_inv
    obtain ⟨c12, _, rfl, g12, h13⟩ := h12.inv
    obtain ⟨n12, rfl, _⟩ := g12.int_inv
    cases h13.nil_inv
    exact ⟨⟨n0, n1, n2, n3, n4, n5, n6, n7, n8, n9, n10, n11, n12⟩, rfl, trivial⟩) h
  exact ⟨l, h1⟩
end Go.Sx
