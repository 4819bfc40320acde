import Derived.Test.YthggkanmgibldaaPrPlatingMetalA
import Derived.Test.YthggkanmgibldaaXc
namespace Go.Sx
open Go Go.Proofs
set_option maxRecDepth 10000
set_option maxHeartbeats 8000000
/-! ### The example -/
@[reducible] def exR : Rcp := ⟨0, 100, 100, 200, 0, 900, 900, 900, 10, 50, 500, 2, 3⟩
@[reducible] def groA (i b : Int) : Act2 := ⟨3, 0, 0, 0, 0, i, b, 50, 1, 500, 1, 0, 0⟩
theorem s35 : PSpec Try.prog 35 [] (.x exR.x) := by
  refine spec_of pMix (O := []) Try.func35 (c := bodyOf Try.f35) rfl (by kernel_rfl) (by kernel_rfl) Try.ntmps35 (res := [.cell 0 24]) (by kernel_rfl) ?_
  repeat' ((conv => whnf); first | refine Rng.g ?_ | refine Ob.g ?_ | refine Ob.e ?_ | refine Ob.m ?_ | refine Ob.mk (Nat.le_of_ble_eq_true rfl) ?_ | refine JoinVC.on ?_ | refine Nils.mk (fun h => ?_) ?_ | refine Val.t ?_ | refine Val.d ?_ | refine Mm.mk ?_ | (refine Br.mk (fun h => ?_) (fun h => ?_) <;> first | (exfalso; omega; done) | (exfalso; simp at h; done) | skip))
  repeat refine Mm.mk ?_
  refine EndVC.mk _ rfl _ _ ⟨rfl, rfl⟩ ?_
  refine ⟨[], rfl, rfl, ?_, ?_⟩ <;> repeat' (first | exact trivial | exact rfl | exact Iff.rfl | apply And.intro)
theorem s37 (i b : Int) : PSpec Try.prog 37 [I i, I b] (.x (groA i b).x) := by
  refine spec_of pMix (O := []) Try.func37 (c := bodyOf Try.f37) rfl (by kernel_rfl) (by kernel_rfl) Try.ntmps37 (res := [.cell 4 43]) (by kernel_rfl) ?_
  repeat' ((conv => whnf); first | refine Rng.g ?_ | refine Ob.g ?_ | refine Ob.e ?_ | refine Ob.m ?_ | refine Ob.mk (Nat.le_of_ble_eq_true rfl) ?_ | refine JoinVC.on ?_ | refine Nils.mk (fun h => ?_) ?_ | refine Val.t ?_ | refine Val.d ?_ | refine Mm.mk ?_ | (refine Br.mk (fun h => ?_) (fun h => ?_) <;> first | (exfalso; omega; done) | (exfalso; simp at h; done) | skip))
  repeat refine Mm.mk ?_
  refine EndVC.mk _ rfl _ _ ⟨rfl, rfl⟩ ?_
  refine ⟨[], rfl, rfl, ?_, ?_⟩ <;> repeat' (first | exact trivial | exact rfl | exact Iff.rfl | apply And.intro)
@[reducible] def exA : List Act2 := [⟨1, 7, 1000, 0, 0, 0, 0, 0, 0, 0, 0, 0, 0⟩, ⟨2, 0, 0, 2000, 500, 0, 0, 0, 0, 0, 0, 0, 0⟩, groA 0 0, ⟨4, 0, 0, 0, 0, 1, 0, 0, 0, 0, 0, 9, 0⟩, groA 1 0, groA 2 0, ⟨5, 0, 0, 0, 0, 2, 0, 0, 0, 0, 0, 0, 0⟩, groA 2 0]
@[reducible] def exS0 : Sho := ⟨exR, [], [], [], [], []⟩
@[reducible] def exS1 : Sho := ⟨exR, [⟨0, -1, 7, 1000, 0, 0, false⟩], [[]], [], [], [⟨1, 7, 1000, 0, 0, 0, 0, 0, 0, 0, 0, 0, 0⟩]⟩
@[reducible] def exS2 : Sho := ⟨exR, [⟨0, -1, 7, 1000, 0, 0, false⟩], [[]], [⟨2000, 500, 0, 0⟩], [], [⟨1, 7, 1000, 0, 0, 0, 0, 0, 0, 0, 0, 0, 0⟩, ⟨2, 0, 0, 2000, 500, 0, 0, 0, 0, 0, 0, 0, 0⟩]⟩
@[reducible] def exS3 : Sho := ⟨exR, [⟨0, -1, 7, 1000, 0, 1, true⟩, ⟨1, 0, 7, 1000, 275, 0, false⟩], [[], []], [⟨1725, 500, 550, 275⟩], [], [⟨1, 7, 1000, 0, 0, 0, 0, 0, 0, 0, 0, 0, 0⟩, ⟨2, 0, 0, 2000, 500, 0, 0, 0, 0, 0, 0, 0, 0⟩, groA 0 0]⟩
@[reducible] def exS4 : Sho := ⟨exR, [⟨0, -1, 7, 1000, 0, 1, true⟩, ⟨1, 0, 7, 1000, 275, 0, false⟩], [[], [0]], [⟨1725, 500, 550, 275⟩], [(1, 9)], [⟨1, 7, 1000, 0, 0, 0, 0, 0, 0, 0, 0, 0, 0⟩, ⟨2, 0, 0, 2000, 500, 0, 0, 0, 0, 0, 0, 0, 0⟩, groA 0 0, ⟨4, 0, 0, 0, 0, 1, 0, 0, 0, 0, 0, 9, 0⟩]⟩
@[reducible] def exS5 : Sho := ⟨exR, [⟨0, -1, 7, 1000, 0, 1, true⟩, ⟨1, 0, 7, 1000, 275, 1, false⟩, ⟨2, 1, 7, 1000, 275, 0, false⟩], [[], [0], [0]], [⟨1450, 500, 1100, 550⟩], [(1, 9)], [⟨1, 7, 1000, 0, 0, 0, 0, 0, 0, 0, 0, 0, 0⟩, ⟨2, 0, 0, 2000, 500, 0, 0, 0, 0, 0, 0, 0, 0⟩, groA 0 0, ⟨4, 0, 0, 0, 0, 1, 0, 0, 0, 0, 0, 9, 0⟩, groA 1 0]⟩
@[reducible] def exS6 : Sho := ⟨exR, [⟨0, -1, 7, 1000, 0, 1, true⟩, ⟨1, 0, 7, 1000, 275, 1, false⟩, ⟨2, 1, 7, 1000, 275, 1, false⟩, ⟨3, 2, 7, 1000, 275, 0, false⟩], [[], [0], [0], [0]], [⟨1175, 500, 1650, 825⟩], [(1, 9)], [⟨1, 7, 1000, 0, 0, 0, 0, 0, 0, 0, 0, 0, 0⟩, ⟨2, 0, 0, 2000, 500, 0, 0, 0, 0, 0, 0, 0, 0⟩, groA 0 0, ⟨4, 0, 0, 0, 0, 1, 0, 0, 0, 0, 0, 9, 0⟩, groA 1 0, groA 2 0]⟩
@[reducible] def exS7 : Sho := ⟨exR, [⟨0, -1, 7, 1000, 0, 1, true⟩, ⟨1, 0, 7, 1000, 275, 1, false⟩, ⟨2, 1, 7, 1000, 275, 1, false⟩, ⟨3, 2, 7, 1000, 275, 0, false⟩], [[], [0], [], [0]], [⟨1175, 500, 1650, 825⟩], [(1, 9)], [⟨1, 7, 1000, 0, 0, 0, 0, 0, 0, 0, 0, 0, 0⟩, ⟨2, 0, 0, 2000, 500, 0, 0, 0, 0, 0, 0, 0, 0⟩, groA 0 0, ⟨4, 0, 0, 0, 0, 1, 0, 0, 0, 0, 0, 9, 0⟩, groA 1 0, groA 2 0, ⟨5, 0, 0, 0, 0, 2, 0, 0, 0, 0, 0, 0, 0⟩]⟩
@[reducible] def exS8 : Sho := ⟨exR, [⟨0, -1, 7, 1000, 0, 1, true⟩, ⟨1, 0, 7, 1000, 275, 1, false⟩, ⟨2, 1, 7, 1000, 275, 2, false⟩, ⟨3, 2, 7, 1000, 275, 0, false⟩, ⟨3, 2, 7, 1000, 275, 0, false⟩], [[], [0], [], [0], []], [⟨900, 500, 2200, 1100⟩], [(1, 9)], [⟨1, 7, 1000, 0, 0, 0, 0, 0, 0, 0, 0, 0, 0⟩, ⟨2, 0, 0, 2000, 500, 0, 0, 0, 0, 0, 0, 0, 0⟩, groA 0 0, ⟨4, 0, 0, 0, 0, 1, 0, 0, 0, 0, 0, 9, 0⟩, groA 1 0, groA 2 0, ⟨5, 0, 0, 0, 0, 2, 0, 0, 0, 0, 0, 0, 0⟩, groA 2 0]⟩
theorem exE0 : doE exS0 (exA.getD 0 ac0) = 0 := by kernel_rfl
theorem exD0 : doS exS0 (exA.getD 0 ac0) = exS1 := by kernel_rfl
theorem exE1 : doE exS1 (exA.getD 1 ac0) = 0 := by kernel_rfl
theorem exD1 : doS exS1 (exA.getD 1 ac0) = exS2 := by kernel_rfl
theorem exE2 : doE exS2 (exA.getD 2 ac0) = 0 := by kernel_rfl
theorem exD2 : doS exS2 (exA.getD 2 ac0) = exS3 := by kernel_rfl
theorem exE3 : doE exS3 (exA.getD 3 ac0) = 0 := by kernel_rfl
theorem exD3 : doS exS3 (exA.getD 3 ac0) = exS4 := by kernel_rfl
theorem exE4 : doE exS4 (exA.getD 4 ac0) = 0 := by kernel_rfl
theorem exD4 : doS exS4 (exA.getD 4 ac0) = exS5 := by kernel_rfl
theorem exE5 : doE exS5 (exA.getD 5 ac0) = 0 := by kernel_rfl
theorem exD5 : doS exS5 (exA.getD 5 ac0) = exS6 := by kernel_rfl
theorem exE6 : doE exS6 (exA.getD 6 ac0) = 0 := by kernel_rfl
theorem exD6 : doS exS6 (exA.getD 6 ac0) = exS7 := by kernel_rfl
theorem exE7 : doE exS7 (exA.getD 7 ac0) = 0 := by kernel_rfl
theorem exD7 : doS exS7 (exA.getD 7 ac0) = exS8 := by kernel_rfl
theorem exP0 : repS (shop0 exR) exA 0 = exS0 := rfl
theorem exP1 : repS (shop0 exR) exA 1 = exS1 := (congrArg (doS · (exA.getD 0 ac0)) exP0).trans exD0
theorem exP2 : repS (shop0 exR) exA 2 = exS2 := (congrArg (doS · (exA.getD 1 ac0)) exP1).trans exD1
theorem exP3 : repS (shop0 exR) exA 3 = exS3 := (congrArg (doS · (exA.getD 2 ac0)) exP2).trans exD2
theorem exP4 : repS (shop0 exR) exA 4 = exS4 := (congrArg (doS · (exA.getD 3 ac0)) exP3).trans exD3
theorem exP5 : repS (shop0 exR) exA 5 = exS5 := (congrArg (doS · (exA.getD 4 ac0)) exP4).trans exD4
theorem exP6 : repS (shop0 exR) exA 6 = exS6 := (congrArg (doS · (exA.getD 5 ac0)) exP5).trans exD5
theorem exP7 : repS (shop0 exR) exA 7 = exS7 := (congrArg (doS · (exA.getD 6 ac0)) exP6).trans exD6
theorem exP8 : repS (shop0 exR) exA 8 = exS8 := (congrArg (doS · (exA.getD 7 ac0)) exP7).trans exD7
theorem exG : goodTo (shop0 exR) exA 8 := fun j hj => by
  rcases (show j = 0 ∨ j = 1 ∨ j = 2 ∨ j = 3 ∨ j = 4 ∨ j = 5 ∨ j = 6 ∨ j = 7 by omega) with rfl | rfl | rfl | rfl | rfl | rfl | rfl | rfl
  · rw [exP0]; exact exE0
  · rw [exP1]; exact exE1
  · rw [exP2]; exact exE2
  · rw [exP3]; exact exE3
  · rw [exP4]; exact exE4
  · rw [exP5]; exact exE5
  · rw [exP6]; exact exE6
  · rw [exP7]; exact exE7
theorem exOK : RcpOK exR := ⟨by decide, by decide, by decide, by decide, by decide, by decide, by decide, by decide⟩
theorem exUp : exS8.up 4 = [4, 2, 1, 0] := by kernel_rfl
theorem exBe : bear exS8.be 0 5 = [1, 3] := by kernel_rfl
theorem exNe : needE exS8 0 6 = 0 := by kernel_rfl
theorem exNn : needN exS8 0 6 = 5 := by kernel_rfl
theorem s36 : HSpec Try.prog 36 [] [] (fun r m' => r = .x (.one (.lst false KAc (acA exA))) ∧ m' = []) := by
  have c0 := s37 0 0
  have c1 := s37 1 0
  have c2 := s37 2 0
  refine spec_of pMix (O := []) Try.func36 (c := bodyOf Try.f36) rfl (by kernel_rfl) (by kernel_rfl) Try.ntmps36 (res := [.tmp 0]) (by kernel_rfl) ?_
  repeat' ((conv => whnf); first | refine Rng.g ?_ | refine Ob.g ?_ | refine Ob.e ?_ | refine Ob.m ?_ | refine Ob.mk (Nat.le_of_ble_eq_true rfl) ?_ | refine JoinVC.on ?_ | refine Nils.mk (fun h => ?_) ?_ | refine Val.t ?_ | refine Val.d ?_ | refine Mm.mk ?_ | refine CallVC.pure rfl (c0) ?_ | refine CallVC.pure rfl (c1) ?_ | refine CallVC.pure rfl (c2) ?_ | refine CallVC0.pure rfl (c0) ?_ | refine CallVC0.pure rfl (c1) ?_ | refine CallVC0.pure rfl (c2) ?_ | (refine Br.mk (fun h => ?_) (fun h => ?_) <;> first | (exfalso; omega; done) | (exfalso; simp at h; done) | skip))
  repeat refine Mm.mk ?_
  refine EndVC.mk _ rfl _ _ ⟨rfl, rfl⟩ ?_
  refine ⟨[], rfl, rfl, ?_, ?_⟩ <;> repeat' (first | exact trivial | exact rfl | exact Iff.rfl | apply And.intro)
theorem s32 (xs ys : List Int) (hx : xs.length ≤ 1000000) : PSpec Try.prog 32 [.one (.lst true [.int .i64] (i64s xs)), .one (.lst true [.int .i64] (i64s ys))] (xP (xs = ys)) := by
  have lx := i64s_len xs
  have ly := i64s_len ys
  by_cases hl : xs.length = ys.length
  · refine spec_of pMix (O := []) Try.func32 (c := bodyOf Try.f32) rfl (by kernel_rfl) (by kernel_rfl) Try.ntmps32 (res := [.tmp 4]) (by kernel_rfl) ?_
    repeat' ((conv => whnf); first | refine Rng.g ?_ | refine Ob.g ?_ | refine Ob.e ?_ | refine Ob.m ?_ | refine Ob.mk (Nat.le_of_ble_eq_true rfl) ?_ | refine JoinVC.on ?_ | refine Nils.mk (fun h => ?_) ?_ | refine Val.t ?_ | refine Val.d ?_ | refine Mm.mk ?_ | (refine Br.mk (fun h => ?_) (fun h => ?_) <;> first | (exfalso; omega; done) | (exfalso; simp at h; done) | skip))
    refine LoopVC.mk (fun n st => ∃ (i : Nat), i ≤ xs.length ∧ n = xs.length - i ∧ (∀ j, j < i → xs.getD j 0 = ys.getD j 0) ∧ st = ⟨0, envA 26 [(0, .x (.one (.lst true [.int .i64] (i64s xs)))), (1, .x (.one (.lst true [.int .i64] (i64s ys)))), (5, .int .i64 (i : Int))], []⟩) _ _ ⟨0, Nat.zero_le _, rfl, fun j hj => absurd hj (Nat.not_lt_zero j), rfl⟩ ?_ ?_
    · refine ⟨[], rfl, rfl, ?_, ?_⟩ <;> repeat' (first | exact trivial | exact rfl | exact Iff.rfl | apply And.intro)
    rintro n _ ⟨i, hi, hn, hj, rfl⟩
    have g0 : rI (i64s xs) (i : Int).toNat 0 = xs.getD i 0 := by rw [Int.toNat_natCast, i64s_get]
    have g1 : rI (i64s ys) (i : Int).toNat 0 = ys.getD i 0 := by rw [Int.toNat_natCast, i64s_get]
    by_cases h' : i < xs.length
    · repeat' ((conv => whnf); first | rw [g0] | rw [g1] | refine Rng.g ?_ | refine Ob.g ?_ | refine Ob.e ?_ | refine Ob.m ?_ | refine Ob.mk (Nat.le_of_ble_eq_true rfl) ?_ | refine JoinVC.on ?_ | refine Nils.mk (fun h => ?_) ?_ | refine Val.t ?_ | refine Val.d ?_ | refine Mm.mk ?_ | (refine Br.mk (fun h => ?_) (fun h => ?_) <;> first | (exfalso; omega; done) | (exfalso; simp at h; done) | skip))
      · repeat refine Mm.mk ?_
        refine EndVC.mk _ rfl _ _ ⟨rfl, rfl⟩ ?_
        refine ⟨[], rfl, rfl, ?_, ?_⟩ <;> repeat' (first | exact trivial | exact rfl | exact Iff.rfl | apply And.intro)
        exact fun hc => h (by rw [hc])
      · refine Back.mk (xs.length - (i + 1)) _ (by omega) ⟨i + 1, by omega, rfl, fun j hj' => ?_, rfl⟩ ?_
        · rcases Nat.lt_succ_iff_lt_or_eq.1 hj' with h1 | rfl
          · exact hj j h1
          · exact Classical.not_not.1 h
        · refine ⟨[], rfl, rfl, ?_, ?_⟩ <;> repeat' (first | exact trivial | exact rfl | exact Iff.rfl | apply And.intro)
    · obtain rfl : i = xs.length := by omega
      repeat' ((conv => whnf); first | refine Rng.g ?_ | refine Ob.g ?_ | refine Ob.e ?_ | refine Ob.m ?_ | refine Ob.mk (Nat.le_of_ble_eq_true rfl) ?_ | refine JoinVC.on ?_ | refine Nils.mk (fun h => ?_) ?_ | refine Val.t ?_ | refine Val.d ?_ | refine Mm.mk ?_ | (refine Br.mk (fun h => ?_) (fun h => ?_) <;> first | (exfalso; omega; done) | (exfalso; simp at h; done) | skip))
      repeat refine Mm.mk ?_
      refine EndVC.mk _ rfl _ _ ⟨rfl, rfl⟩ ?_
      refine ⟨[], rfl, rfl, ?_, ?_⟩ <;> repeat' (first | exact trivial | exact rfl | exact Iff.rfl | apply And.intro)
      exact (List.ext_getElem hl fun k h1 h2 => by
        have := hj k h1
        rwa [List.getD_eq_getElem?_getD, List.getD_eq_getElem?_getD, List.getElem?_eq_getElem h1, List.getElem?_eq_getElem h2] at this)
  · refine spec_of pMix (O := []) Try.func32 (c := bodyOf Try.f32) rfl (by kernel_rfl) (by kernel_rfl) Try.ntmps32 (res := [.tmp 4]) (by kernel_rfl) ?_
    repeat' ((conv => whnf); first | refine Rng.g ?_ | refine Ob.g ?_ | refine Ob.e ?_ | refine Ob.m ?_ | refine Ob.mk (Nat.le_of_ble_eq_true rfl) ?_ | refine JoinVC.on ?_ | refine Nils.mk (fun h => ?_) ?_ | refine Val.t ?_ | refine Val.d ?_ | refine Mm.mk ?_ | (refine Br.mk (fun h => ?_) (fun h => ?_) <;> first | (exfalso; omega; done) | (exfalso; simp at h; done) | skip))
    repeat refine Mm.mk ?_
    refine EndVC.mk _ rfl _ _ ⟨rfl, rfl⟩ ?_
    refine ⟨[], rfl, rfl, ?_, ?_⟩ <;> repeat' (first | exact trivial | exact rfl | exact Iff.rfl | apply And.intro)
    exact fun h => hl (congrArg List.length h)
theorem PSpec.tt {P : Program} {f : FuncId} {args : List XV} {p : Prop} {d : Decidable p} (h : PSpec P f args (.x (.one (.prp p d)))) (hp : p) : PSpec P f args (.x (.one .tt)) := by
  intro w R vs h1 h2
  have key : ∀ (e : Ending) (w' : World), (∃ v r m' R', e = .returned v ∧ (r = .x (.one (.prp p d)) ∧ m' = []) ∧ Fr w R ([].map some) w' R' m' ∧ RepA w' R' r v) → ∃ v r m' R', e = .returned v ∧ (r = .x (.one .tt) ∧ m' = []) ∧ Fr w R ([].map some) w' R' m' ∧ RepA w' R' r v := by
    rintro e w' ⟨v, r, m', R', h3, ⟨rfl, rfl⟩, h5, h6⟩
    refine ⟨v, _, _, R', h3, ⟨rfl, rfl⟩, h5, ?_⟩
    have h6' : v = .bool (@decide p d) := h6
    exact h6'.trans (by rw [decide_eq_true hp])
  rcases h w R vs h1 h2 with ⟨h3, h4⟩ | ⟨v, w', h3, h4⟩
  · exact .inl ⟨h3, h4.mono key⟩
  · exact .inr ⟨v, w', h3, key _ _ h4⟩
theorem s17p : PSpec Try.prog 17 [] (xP ((5 : Int) = 5)) := by
  have c34 := s34 exR exA (by decide)
  have hS : ShOK exS8 := by have := ShOK.repS (ShOK.new exOK) exA 8; rwa [exP8] at this
  have lA : (acA exA).length = 8 := rfl
  have q1 := (s32 [4, 2, 1, 0].reverse [0, 1, 2, 4] (by decide)).tt rfl
  have q2 := (s32 [1, 3] [1, 3] (by decide)).tt rfl
  refine spec_of pMix (O := []) Try.func17 (c := bodyOf Try.f17) rfl (by kernel_rfl) (by kernel_rfl) Try.ntmps17 (res := [.tmp 0]) (by kernel_rfl) ?_
  repeat' ((conv => whnf); first | refine Rng.g ?_ | refine Ob.g ?_ | refine Ob.e ?_ | refine Ob.m ?_ | refine Ob.mk (Nat.le_of_ble_eq_true rfl) ?_ | refine JoinVC.on ?_ | refine Nils.mk (fun h => ?_) ?_ | refine Val.t ?_ | refine Val.d ?_ | refine Mm.mk ?_ | refine CallVC.pure rfl (s35) ?_ | refine CallVC0.pure rfl (s35) ?_ | (refine Br.mk (fun h => ?_) (fun h => ?_) <;> first | (exfalso; omega; done) | (exfalso; simp at h; done) | skip))
  conv => whnf
  refine CallVC.mk [] _ _ _ rfl rfl rfl (s36) (fun r m' h' => ?_)
  obtain ⟨rfl, rfl⟩ := h'
  conv => whnf
  repeat' ((conv => whnf); first | refine Rng.g ?_ | refine Ob.g ?_ | refine Ob.e ?_ | refine Ob.m ?_ | refine Ob.mk (Nat.le_of_ble_eq_true rfl) ?_ | refine JoinVC.on ?_ | refine Nils.mk (fun h => ?_) ?_ | refine Val.t ?_ | refine Val.d ?_ | refine Mm.mk ?_ | (refine Br.mk (fun h => ?_) (fun h => ?_) <;> first | (exfalso; omega; done) | (exfalso; simp at h; done) | skip))
  conv => whnf
  refine CallVC.mk [] _ _ _ rfl rfl rfl (c34) (fun r m' h' => ?_)
  cases h' with
  | bad h hv hm => exact absurd exOK h
  | err h i hi hg e he h0 hv hm => exact absurd (exG i hi) (by rw [he]; exact h0)
  | ok h hg ms hM hv hm =>
    have e8 : repS (shop0 exR) exA exA.length = exS8 := exP8
    rw [e8] at hm hM
    subst hv hm
    have c30 := s30_ok exS8 ms hS 4 (by decide)
    rw [exUp] at c30
    have c39 := s39_ok exS8 ms hS hM 0 (by decide)
    rw [show bear exS8.be 0 exS8.pl.length = [1, 3] from exBe] at c39
    have c26 := s26 exS8 ms hS 0 6
    rw [exNe, exNn] at c26
    repeat' ((conv => whnf); first | refine Rng.g ?_ | refine Ob.g ?_ | refine Ob.e ?_ | refine Ob.m ?_ | refine Ob.mk (Nat.le_of_ble_eq_true rfl) ?_ | refine JoinVC.on ?_ | refine Nils.mk (fun h => ?_) ?_ | refine Val.t ?_ | refine Val.d ?_ | refine Mm.mk ?_ | (refine Br.mk (fun h => ?_) (fun h => ?_) <;> first | (exfalso; omega; done) | (exfalso; simp at h; done) | skip))
    conv => whnf
    first | refine CallVC.mk [0, 1, 2, 3, 4, 5] _ _ _ rfl rfl rfl (c30) (fun r m' h' => ?_) | refine CallVC0.same [0, 1, 2, 3, 4, 5] _ _ _ rfl rfl rfl rfl (c30) (fun r m' h' => (by obtain ⟨rfl, rfl⟩ := h'; rfl)) (fun r m' h' => ?_)
    obtain ⟨rfl, rfl⟩ := h'
    conv => whnf
    repeat' ((conv => whnf); first | refine Rng.g ?_ | refine Ob.g ?_ | refine Ob.e ?_ | refine Ob.m ?_ | refine Ob.mk (Nat.le_of_ble_eq_true rfl) ?_ | refine JoinVC.on ?_ | refine Nils.mk (fun h => ?_) ?_ | refine Val.t ?_ | refine Val.d ?_ | refine Mm.mk ?_ | (refine Br.mk (fun h => ?_) (fun h => ?_) <;> first | (exfalso; omega; done) | (exfalso; simp at h; done) | skip))
    conv => whnf
    first | refine CallVC.mk [0, 1, 2, 3, 4, 5] _ _ _ rfl rfl rfl (c39) (fun r m' h' => ?_) | refine CallVC0.same [0, 1, 2, 3, 4, 5] _ _ _ rfl rfl rfl rfl (c39) (fun r m' h' => (by obtain ⟨rfl, rfl⟩ := h'; rfl)) (fun r m' h' => ?_)
    obtain ⟨rfl, rfl⟩ := h'
    conv => whnf
    repeat' ((conv => whnf); first | refine Rng.g ?_ | refine Ob.g ?_ | refine Ob.e ?_ | refine Ob.m ?_ | refine Ob.mk (Nat.le_of_ble_eq_true rfl) ?_ | refine JoinVC.on ?_ | refine Nils.mk (fun h => ?_) ?_ | refine Val.t ?_ | refine Val.d ?_ | refine Mm.mk ?_ | (refine Br.mk (fun h => ?_) (fun h => ?_) <;> first | (exfalso; omega; done) | (exfalso; simp at h; done) | skip))
    conv => whnf
    first | refine CallVC.mk [0, 1, 2, 3, 4, 5] _ _ _ rfl rfl rfl (c26) (fun r m' h' => ?_) | refine CallVC0.same [0, 1, 2, 3, 4, 5] _ _ _ rfl rfl rfl rfl (c26) (fun r m' h' => (by obtain ⟨rfl, rfl⟩ := h'; rfl)) (fun r m' h' => ?_)
    obtain ⟨rfl, rfl⟩ := h'
    conv => whnf
    repeat' ((conv => whnf); first | refine Rng.g ?_ | refine Ob.g ?_ | refine Ob.e ?_ | refine Ob.m ?_ | refine Ob.mk (Nat.le_of_ble_eq_true rfl) ?_ | refine JoinVC.on ?_ | refine Nils.mk (fun h => ?_) ?_ | refine Val.t ?_ | refine Val.d ?_ | refine Mm.mk ?_ | refine CallVC.pure rfl (q1) ?_ | refine CallVC.pure rfl (q2) ?_ | refine CallVC0.pure rfl (q1) ?_ | refine CallVC0.pure rfl (q2) ?_ | (refine Br.mk (fun h => ?_) (fun h => ?_) <;> first | (exfalso; omega; done) | (exfalso; simp at h; done) | skip))
    repeat refine Mm.mk ?_
    refine EndVC.mk _ rfl _ _ ⟨rfl, rfl⟩ ?_
    refine ⟨[], rfl, rfl, ?_, ?_⟩ <;> repeat' (first | exact trivial | exact rfl | exact Iff.rfl | apply And.intro)
theorem s17 : PSpec Try.prog 17 [] (.x (.one .tt)) := s17p.tt rfl
/-! ### A shop after some acts -/
end Go.Sx

namespace Go.Sx
open Go Go.Proofs
set_option maxRecDepth 10000
set_option maxHeartbeats 4000000
/-! ### What holds of the plates -/
theorem getD_last {α : Type} (l : List α) (q d : α) : (l ++ [q]).getD l.length d = q := by rw [getD_app, if_neg (Nat.lt_irrefl _), if_pos rfl]
def kids (l : List Pl) (i : Int) : Nat → Int
  | 0 => 0
  | k + 1 => kids l i k + (if (l.getD k p0).pa = i then 1 else 0)
theorem kids_congr {l m : List Pl} {i : Int} : ∀ {k : Nat}, (∀ j, j < k → (m.getD j p0).pa = (l.getD j p0).pa) → kids m i k = kids l i k
  | 0, _ => rfl
  | k + 1, h => by unfold kids; rw [kids_congr (fun j hj => h j (by omega)), h k (by omega)]
theorem kids_zero {l : List Pl} {i : Int} : ∀ {k : Nat}, (∀ j, j < k → (l.getD j p0).pa ≠ i) → kids l i k = 0
  | 0, _ => rfl
  | k + 1, h => by unfold kids; rw [kids_zero (fun j hj => h j (by omega)), if_neg (h k (by omega))]; rfl
/-- What a plate is to the others. -/
structure TreeP (r : Rcp) (l : List Pl) (i : Nat) (p : Pl) : Prop where
  root : p.kd = 0 → p.pa = -1 ∧ p.thick = 0
  sub : p.kd ≠ 0 → 0 ≤ p.pa ∧ (l.getD p.pa.toNat p0).kd + 1 = p.kd ∧ (l.getD p.pa.toNat p0).cut = p.cut ∧ (l.getD p.pa.toNat p0).area = p.area ∧ r.thin p.kd ≤ p.thick ∧ p.thick ≤ r.thk p.kd
  kids : p.grown = kids l i l.length
  cap : p.grown ≤ capP r p.kd
  lacq : p.kd = 0 → 0 < p.grown → p.ret = true
def Tree (S : Sho) : Prop := ∀ i, i < S.pl.length → TreeP S.r S.pl i (S.pl.getD i p0)
theorem Tree.new (r : Rcp) : Tree (shop0 r) := fun i hi => by simp at hi
/-- Plates that are changed where the others do not look. -/
theorem TreeP.same {r : Rcp} {l m : List Pl} {i : Nat} {p : Pl} (h : TreeP r l i p) (hl : m.length = l.length) (hs : ∀ j, (m.getD j p0).kd = (l.getD j p0).kd ∧ (m.getD j p0).pa = (l.getD j p0).pa ∧ (m.getD j p0).cut = (l.getD j p0).cut ∧ (m.getD j p0).area = (l.getD j p0).area) : TreeP r m i p := by
  refine ⟨h.root, fun hk => ?_, ?_, h.cap, h.lacq⟩
  · obtain ⟨q1, q2, q3, q4, q5⟩ := h.sub hk
    obtain ⟨s1, s2, s3, s4⟩ := hs p.pa.toNat
    rw [s1, s3, s4]
    exact ⟨q1, q2, q3, q4, q5⟩
  · rw [h.kids, hl]
    exact (kids_congr fun j _ => (hs j).2.1).symm
/-- A plate more. -/
theorem TreeP.more {r : Rcp} {l : List Pl} {i : Nat} {p q : Pl} (h : TreeP r l i p) (hi : i < l.length) (hpa : p.pa < i) (hq : q.pa ≠ i) : TreeP r (l ++ [q]) i p := by
  refine ⟨h.root, fun hk => ?_, ?_, h.cap, h.lacq⟩
  · obtain ⟨q1, q2, q3, q4, q5⟩ := h.sub hk
    rw [getD_app, if_pos (by omega)]
    exact ⟨q1, q2, q3, q4, q5⟩
  · rw [h.kids, List.length_append, List.length_singleton]
    conv => rhs; unfold Go.Sx.kids
    rw [getD_last, if_neg hq, Int.add_zero]
    exact (kids_congr fun j hj => by rw [getD_app, if_pos hj]).symm
theorem Tree.doS {S : Sho} (hS : ShOK S) (hT : Tree S) (a : Act2) : Tree (doS S a) := by
  unfold Go.Sx.doS
  split
  case isFalse => exact hT
  rename_i hE
  unfold doE at hE
  split at hE
  · cases hE
  split at hE
  case isFalse => cases hE
  rename_i ha
  have hk := ha.kd
  have hpa : ∀ j, j < S.pl.length → -1 ≤ (S.pl.getD j p0).pa ∧ (S.pl.getD j p0).pa < j := fun j hj => (hS.pl j hj).pa
  rcases (show a.kd = 1 ∨ a.kd = 2 ∨ a.kd = 3 ∨ a.kd = 4 ∨ a.kd = 5 ∨ a.kd = 6 by omega) with h | h | h | h | h | h
  · have hs : actS S a = { S with pl := S.pl ++ [⟨0, -1, a.cut, a.area, 0, 0, false⟩], be := S.be ++ [[]] } := by unfold actS; rw [if_pos h]
    rw [hs]
    intro i hi
    dsimp only at hi ⊢
    simp only [List.length_append, List.length_singleton] at hi
    rw [getD_app]
    split
    · exact (hT i ‹_›).more ‹_› (hpa i ‹_›).2 (by simp only []; omega)
    · have e : i = S.pl.length := by omega
      subst e
      rw [if_pos rfl]
      refine ⟨fun _ => ⟨rfl, rfl⟩, fun hc => absurd rfl hc, ?_, ?_, fun _ hc => absurd hc (by simp)⟩
      · refine (kids_zero fun j hj => ?_).symm
        simp only [List.length_append, List.length_singleton] at hj
        rw [getD_app]
        split
        · have := hpa j ‹_›
          omega
        · rw [if_pos (by omega)]; simp only []; omega
      · simp only [capP, if_true]; omega
  · have hs : actS S a = { S with tk := S.tk ++ [⟨a.stock, a.yd, 0, 0⟩] } := by unfold actS; rw [if_neg (by omega), if_pos h]
    rw [hs]
    exact hT
  · have hs : actS S a = { S with pl := (S.pl ++ [newP S a]).set a.plate.toNat (oldP (S.p a.plate)), be := S.be ++ [S.b a.plate], tk := S.tk.set a.bath.toNat (newT S a) } := by unfold actS; rw [if_neg (by omega), if_neg (by omega), if_pos h]
    have hG : groE S a = 0 := by unfold actE at hE; rwa [if_neg (by omega), if_neg (by omega), if_pos h] at hE
    have h1 : herE S a = 0 := by
      unfold groE at hG
      split at hG
      · exact hG
      · exact Classical.byContradiction ‹_›
    have h2 : layE S a = 0 := by unfold groE at hG; rwa [if_neg (by omega)] at hG
    have hth : S.r.thin ((S.p a.plate).kd + 1) ≤ thkM S a ∧ thkM S a ≤ S.r.thk ((S.p a.plate).kd + 1) := by
      unfold layE at h2
      split at h2
      · cases h2
      · omega
    obtain ⟨hi, hb, hret, h256, hkd, hcap⟩ := herE_0 hS h1
    unfold inP at hi
    obtain ⟨hi1, hi2⟩ := hi
    have hpo := hS.pl a.plate.toNat (by omega)
    have hk0 : 0 ≤ (S.p a.plate).kd := hpo.kd.1
    have hg0 : 0 ≤ (S.p a.plate).grown := hpo.grown.1
    rw [hs]
    intro i hi
    dsimp only at hi ⊢
    simp only [List.length_set, List.length_append, List.length_singleton] at hi
    have hsame : ∀ j, (((S.pl ++ [newP S a]).set a.plate.toNat (oldP (S.p a.plate))).getD j p0).kd = ((S.pl ++ [newP S a]).getD j p0).kd ∧ (((S.pl ++ [newP S a]).set a.plate.toNat (oldP (S.p a.plate))).getD j p0).pa = ((S.pl ++ [newP S a]).getD j p0).pa ∧ (((S.pl ++ [newP S a]).set a.plate.toNat (oldP (S.p a.plate))).getD j p0).cut = ((S.pl ++ [newP S a]).getD j p0).cut ∧ (((S.pl ++ [newP S a]).set a.plate.toNat (oldP (S.p a.plate))).getD j p0).area = ((S.pl ++ [newP S a]).getD j p0).area := fun j => by
      rw [getD_set]
      split
      · rename_i hq
        obtain ⟨rfl, _⟩ := hq
        rw [getD_app, if_pos (by omega)]
        exact ⟨rfl, rfl, rfl, rfl⟩
      · exact ⟨rfl, rfl, rfl, rfl⟩
    refine TreeP.same (l := S.pl ++ [newP S a]) ?_ (List.length_set ..) hsame
    rw [getD_set]
    split
    · rename_i hq
      obtain ⟨rfl, _⟩ := hq
      have ht := hT a.plate.toNat (by omega)
      have hq : TreeP S.r S.pl a.plate.toNat (S.p a.plate) := ht
      refine ⟨hq.root, fun hk' => ?_, ?_, ?_, fun hk' _ => ?_⟩
      · obtain ⟨q1, q2, q3, q4, q5⟩ := hq.sub hk'
        have := hpo.pa
        have hpl : (S.p a.plate).pa < a.plate.toNat := this.2
        simp only [oldP] at *
        rw [getD_app, if_pos (by omega)]
        exact ⟨q1, q2, q3, q4, q5⟩
      · have e1 : (newP S a).pa = ((a.plate.toNat : Nat) : Int) := by simp only [newP]; omega
        rw [List.length_append, List.length_singleton]
        unfold Go.Sx.kids
        rw [getD_last, if_pos e1]
        have hk2 := hq.kids
        simp only [oldP]
        rw [hk2]
        congr 1
        exact (kids_congr fun j hj => by rw [getD_app, if_pos hj]).symm
      · simp only [oldP]; omega
      · simp only [oldP] at hk' ⊢
        exact decide_eq_true hk'
    · rename_i hne
      rw [getD_app]
      split
      · rename_i hil
        refine (hT i hil).more hil (hpa i hil).2 ?_
        simp only [newP]
        rintro hc
        exact hne ⟨by omega, by simp; omega⟩
      · have e : i = S.pl.length := by omega
        subst e
        rw [if_pos rfl]
        refine ⟨fun hc => ?_, fun _ => ?_, ?_, ?_, fun _ hc => absurd hc (by simp [newP])⟩
        · simp only [newP] at hc; omega
        · simp only [newP]
          rw [getD_app, if_pos (by omega)]
          exact ⟨hi1, rfl, rfl, rfl, hth⟩
        · refine (kids_zero fun j hj => ?_).symm
          simp only [List.length_append, List.length_singleton] at hj
          rw [getD_app]
          split
          · have := hpa j ‹_›
            omega
          · rw [if_pos (by omega)]; simp only [newP]; omega
        · have hmo := hS.r.mo
          have hsp := hS.r.sp
          simp only [newP]
          unfold capP
          (repeat' split) <;> omega
  · have hs : actS S a = { S with fl := S.fl ++ [(a.plate, a.place)], be := S.be.set a.plate.toNat (S.b a.plate ++ [(S.fl.length : Int)]) } := by unfold actS; rw [if_neg (by omega), if_neg (by omega), if_neg (by omega), if_pos h]
    rw [hs]
    exact hT
  · have hs : actS S a = { S with be := S.be.set a.plate.toNat ((S.b a.plate).filter fun x => decide (x ≠ a.flaw)) } := by unfold actS; rw [if_neg (by omega), if_neg (by omega), if_neg (by omega), if_neg (by omega), if_pos h]
    rw [hs]
    exact hT
  · have hs : actS S a = { S with pl := S.pl.set a.plate.toNat (retP (S.p a.plate)) } := by unfold actS; rw [if_neg (by omega), if_neg (by omega), if_neg (by omega), if_neg (by omega), if_neg (by omega)]
    rw [hs]
    intro i hi
    dsimp only at hi ⊢
    rw [List.length_set] at hi
    have hsame : ∀ j, ((S.pl.set a.plate.toNat (retP (S.p a.plate))).getD j p0).kd = (S.pl.getD j p0).kd ∧ ((S.pl.set a.plate.toNat (retP (S.p a.plate))).getD j p0).pa = (S.pl.getD j p0).pa ∧ ((S.pl.set a.plate.toNat (retP (S.p a.plate))).getD j p0).cut = (S.pl.getD j p0).cut ∧ ((S.pl.set a.plate.toNat (retP (S.p a.plate))).getD j p0).area = (S.pl.getD j p0).area := fun j => by
      rw [getD_set]
      split
      · rename_i hq
        obtain ⟨rfl, _⟩ := hq
        exact ⟨rfl, rfl, rfl, rfl⟩
      · exact ⟨rfl, rfl, rfl, rfl⟩
    refine TreeP.same (l := S.pl) ?_ (List.length_set ..) hsame
    rw [getD_set]
    split
    · rename_i hq
      obtain ⟨rfl, hq2⟩ := hq
      have ht : TreeP S.r S.pl a.plate.toNat (S.p a.plate) := hT a.plate.toNat hq2
      exact ⟨ht.root, ht.sub, ht.kids, ht.cap, fun _ _ => rfl⟩
    · exact hT i hi
theorem Tree.repS {S : Sho} (hS : ShOK S) (hT : Tree S) (l : List Act2) : ∀ i, Tree (Go.Sx.repS S l i)
  | 0 => hT
  | i + 1 => Tree.doS (ShOK.repS hS l i) (Tree.repS hS hT l i) _
end Go.Sx

namespace Go.Sx
open Go Go.Proofs
set_option maxRecDepth 10000
set_option maxHeartbeats 8000000
theorem e4 : EntersF Try.prog 4 := enters_of Try.func4 (c := bodyOf Try.f4) (by kernel_rfl) rfl
/-! ### Metal -/
structure TkI (S : Sho) (A B : List Int) : Prop where
  la : A.length = S.tk.length
  lb : B.length = S.tk.length
  h : ∀ i, i < S.tk.length → (S.tk.getD i tk0).st + (S.tk.getD i tk0).ld = A.getD i 0 ∧ 1000 * (S.tk.getD i tk0).ld ≤ (S.tk.getD i tk0).ch * (S.tk.getD i tk0).yd ∧ 0 ≤ B.getD i 0 ∧ B.getD i 0 ≤ (S.tk.getD i tk0).ld
theorem TkI.new (r : Rcp) : TkI (shop0 r) [] [] := ⟨rfl, rfl, fun i hi => by simp at hi⟩
theorem doS_ok {S : Sho} {a : Act2} (h : doE S a = 0) : ActOK a ∧ actE S a = 0 ∧ doS S a = { actS S a with ac := S.ac ++ [a] } := by
  have h2 : doS S a = { actS S a with ac := S.ac ++ [a] } := if_pos h
  unfold doE at h
  split at h
  · cases h
  split at h
  · exact ⟨‹_›, h, h2⟩
  · cases h
theorem doS_tk {S : Sho} {a : Act2} (h : doE S a = 0) (h2 : a.kd ≠ 2) (h3 : a.kd ≠ 3) : (doS S a).tk = S.tk := by
  obtain ⟨_, _, e⟩ := doS_ok h
  rw [e]
  show (actS S a).tk = S.tk
  unfold actS
  (repeat' split) <;> first | rfl | omega
theorem TkI.other {S : Sho} {A B : List Int} (hI : TkI S A B) {a : Act2} (h : doE S a = 0) (h2 : a.kd ≠ 2) (h3 : a.kd ≠ 3) : TkI (doS S a) A B := by
  have e := doS_tk h h2 h3
  exact ⟨by rw [e]; exact hI.la, by rw [e]; exact hI.lb, by rw [e]; exact hI.h⟩
theorem doS_bath {S : Sho} {a : Act2} (h : doE S a = 0) (h2 : a.kd = 2) : (doS S a).tk = S.tk ++ [⟨a.stock, a.yd, 0, 0⟩] := by
  obtain ⟨_, _, e⟩ := doS_ok h
  rw [e]
  show (actS S a).tk = _
  unfold actS
  rw [if_neg (by omega), if_pos h2]
theorem TkI.bath {S : Sho} {A B : List Int} (hI : TkI S A B) {a : Act2} (h : doE S a = 0) (h2 : a.kd = 2) : TkI (doS S a) (A ++ [a.stock]) (B ++ [0]) := by
  have e := doS_bath h h2
  have la := hI.la
  have lb := hI.lb
  refine ⟨by rw [e]; simp [la], by rw [e]; simp [lb], fun i hi => ?_⟩
  rw [e] at hi ⊢
  simp only [List.length_append, List.length_singleton] at hi
  rw [getD_app, getD_app, getD_app, la, lb]
  split
  · exact hI.h i ‹_›
  · rw [if_pos (by omega), if_pos (by omega), if_pos (by omega)]
    simp
theorem doS_grow {S : Sho} {a : Act2} (h : doE S a = 0) (h3 : a.kd = 3) : herE S a = 0 ∧ layE S a = 0 ∧ (doS S a).tk = S.tk.set a.bath.toNat (newT S a) ∧ (doS S a).pl = (S.pl ++ [newP S a]).set a.plate.toNat (oldP (S.p a.plate)) ∧ doN S a = S.pl.length := by
  obtain ⟨_, hE, e⟩ := doS_ok h
  have hs : actS S a = { S with pl := (S.pl ++ [newP S a]).set a.plate.toNat (oldP (S.p a.plate)), be := S.be ++ [S.b a.plate], tk := S.tk.set a.bath.toNat (newT S a) } := by unfold actS; rw [if_neg (by omega), if_neg (by omega), if_pos h3]
  have hG : groE S a = 0 := by unfold actE at hE; rwa [if_neg (by omega), if_neg (by omega), if_pos h3] at hE
  have h1 : herE S a = 0 := by
    unfold groE at hG
    split at hG
    · exact hG
    · exact Classical.byContradiction ‹_›
  have h2 : layE S a = 0 := by unfold groE at hG; rwa [if_neg (by omega)] at hG
  refine ⟨h1, h2, by rw [e, hs], by rw [e, hs], ?_⟩
  unfold doN actN
  rw [if_pos h, if_pos (.inr h3)]
/-- What a plate weighs, rounded up. -/
def wgt (S : Sho) (a : Act2) : Int := (thkM S a * (S.p a.plate).area + 999) / 1000
theorem grow_facts {S : Sho} (hS : ShOK S) {a : Act2} (h : doE S a = 0) (h3 : a.kd = 3) : (0 ≤ a.bath ∧ a.bath < S.tk.length) ∧ (0 ≤ a.plate ∧ a.plate < S.pl.length) ∧ (0 ≤ allM S a ∧ allM S a ≤ 2199023255552) ∧ (0 ≤ thkM S a * (S.p a.plate).area ∧ thkM S a * (S.p a.plate).area ≤ 1000 * allM S a) ∧ 1000 * allM S a ≤ chgM a * (S.t a.bath).yd ∧ 0 ≤ wgt S a ∧ wgt S a ≤ allM S a := by
  obtain ⟨h1, h2, _⟩ := doS_grow h h3
  obtain ⟨ha, _, _⟩ := doS_ok h
  obtain ⟨hi, hb, _⟩ := herE_0 hS h1
  have hg := ha.gro h3
  obtain ⟨b1, b2, b3, b4⟩ := thkB S hS a hg hi hb
  unfold inP at hi
  obtain ⟨hi1, hi2⟩ := hi
  have hp : PlOK S a.plate.toNat (S.p a.plate) := hS.pl a.plate.toNat (by omega)
  have har := hp.area
  have e1 : thkM S a * (S.p a.plate).area ≤ 1000 * allM S a := by
    unfold thkM
    exact Int.ediv_mul_le _ (by omega)
  have e0 : 0 ≤ thkM S a * (S.p a.plate).area := Int.mul_nonneg b4.1 (by omega)
  have e2 : 1000 * allM S a ≤ chgM a * (S.t a.bath).yd := by
    unfold allM fstM chgM
    have q1 := Int.ediv_mul_le (a.s0 * a.s1 * (S.t a.bath).yd) (show (1000 : Int) ≠ 0 by decide)
    have q2 := Int.ediv_mul_le (a.cur * a.sec * (S.t a.bath).yd) (show (1000 : Int) ≠ 0 by decide)
    rw [Int.add_mul]
    omega
  refine ⟨hb, ⟨hi1, hi2⟩, b2, ⟨e0, e1⟩, e2, ?_, ?_⟩
  · unfold wgt; omega
  · unfold wgt; omega
theorem TkI.grow {S : Sho} (hS : ShOK S) {A B : List Int} (hI : TkI S A B) {a : Act2} (h : doE S a = 0) (h3 : a.kd = 3) : TkI (doS S a) A (B.set a.bath.toNat (B.getD a.bath.toNat 0 + wgt S a)) := by
  obtain ⟨hb, hp, hall, hth, hch, hw⟩ := grow_facts hS h h3
  obtain ⟨_, _, e, _⟩ := doS_grow h h3
  have la := hI.la
  have lb := hI.lb
  refine ⟨by rw [e, List.length_set]; exact la, by rw [e, List.length_set, List.length_set]; exact lb, fun i hi => ?_⟩
  rw [e] at hi ⊢
  rw [List.length_set] at hi
  have hi0 := hI.h i hi
  rw [getD_set, getD_set]
  by_cases hq : a.bath.toNat = i
  · subst hq
    rw [if_pos ⟨rfl, hi⟩, if_pos ⟨rfl, by omega⟩]
    obtain ⟨q1, q2, q3, q4⟩ := hi0
    simp only [newT, Sho.t] at *
    refine ⟨by omega, ?_, by omega, by omega⟩
    rw [Int.mul_add, Int.add_mul]
    omega
  · rw [if_neg (fun hc => hq hc.1), if_neg (fun hc => hq hc.1)]
    exact hi0

@[reducible] def rw2 (xs : List Int) : Blk := .row 2 false [.int .i64] (i64s xs)
theorem eb2 : Try.t2.bytes = 8 := by kernel_rfl
theorem s4_any (r : Rcp) (l : List Act2) (h : 60 < l.length ∨ ¬ RcpOK r) : PSpec Try.prog 4 [r.x, .one (.lst true KAc (acA l))] (xP True) := by
  have ll := acA_len l
  have c16 := s16 r
  have c17 := s17
  by_cases hl : 60 < l.length
  · refine spec_of pMix (O := []) Try.func4 (c := bodyOf Try.f4) rfl (by kernel_rfl) (by kernel_rfl) Try.ntmps4 (res := [.tmp 4]) (by kernel_rfl) ?_
    repeat' ((conv => whnf); first | refine Rng.g ?_ | refine Ob.g ?_ | refine Ob.e ?_ | refine Ob.m ?_ | refine Ob.mk (Nat.le_of_ble_eq_true rfl) ?_ | refine JoinVC.on ?_ | refine Nils.mk (fun h => ?_) ?_ | refine Val.t ?_ | refine Val.d ?_ | refine Mm.mk ?_ | refine CallVC.pure rfl (c17) ?_ | refine CallVC0.pure rfl (c17) ?_ | (refine Br.mk (fun h => ?_) (fun h => ?_) <;> first | (exfalso; omega; done) | (exfalso; simp at h; done) | skip))
    repeat refine Mm.mk ?_
    refine EndVC.mk _ rfl _ _ ⟨rfl, rfl⟩ ?_
    refine ⟨[], rfl, rfl, ?_, ?_⟩ <;> repeat' (first | exact trivial | exact rfl | exact Iff.rfl | apply And.intro)
  · have hr : ¬ RcpOK r := h.resolve_left hl
    unfold rcpE at c16
    rw [if_neg hr] at c16
    refine spec_of pMix (O := []) Try.func4 (c := bodyOf Try.f4) rfl (by kernel_rfl) (by kernel_rfl) Try.ntmps4 (res := [.tmp 4]) (by kernel_rfl) ?_
    repeat' ((conv => whnf); first | refine Rng.g ?_ | refine Ob.g ?_ | refine Ob.e ?_ | refine Ob.m ?_ | refine Ob.mk (Nat.le_of_ble_eq_true rfl) ?_ | refine JoinVC.on ?_ | refine Nils.mk (fun h => ?_) ?_ | refine Val.t ?_ | refine Val.d ?_ | refine Mm.mk ?_ | refine CallVC.pure rfl (c16) ?_ | refine CallVC.pure rfl (c17) ?_ | refine CallVC0.pure rfl (c16) ?_ | refine CallVC0.pure rfl (c17) ?_ | (refine Br.mk (fun h => ?_) (fun h => ?_) <;> first | (exfalso; omega; done) | (exfalso; simp at h; done) | skip))
    repeat refine Mm.mk ?_
    refine EndVC.mk _ rfl _ _ ⟨rfl, rfl⟩ ?_
    refine ⟨[], rfl, rfl, ?_, ?_⟩ <;> repeat' (first | exact trivial | exact rfl | exact Iff.rfl | apply And.intro)
theorem s4_ok (r : Rcp) (l : List Act2) (hl : l.length ≤ 60) (hr : RcpOK r) : PSpec Try.prog 4 [r.x, .one (.lst true KAc (acA l))] (xP True) := by
  have ll := acA_len l
  have c16 := s16 r
  have c17 := s17
  have c20 := s20 r hr
  unfold rcpE at c16
  rw [if_pos hr] at c16
  refine spec_of pMix (O := []) Try.func4 (c := bodyOf Try.f4) rfl (by kernel_rfl) (by kernel_rfl) Try.ntmps4 (res := [.tmp 4]) (by kernel_rfl) ?_
  repeat' ((conv => whnf); first | refine Rng.g ?_ | refine Ob.g ?_ | refine Ob.e ?_ | refine Ob.m ?_ | refine Ob.mk (Nat.le_of_ble_eq_true rfl) ?_ | refine JoinVC.on ?_ | refine Nils.mk (fun h => ?_) ?_ | refine Val.t ?_ | refine Val.d ?_ | refine Mm.mk ?_ | refine CallVC.pure rfl (c16) ?_ | refine CallVC0.pure rfl (c16) ?_ | (refine Br.mk (fun h => ?_) (fun h => ?_) <;> first | (exfalso; omega; done) | (exfalso; simp at h; done) | skip))
  conv => whnf
  first | refine CallVC.mk [] _ _ _ rfl rfl rfl (c20) (fun r m' h' => ?_) | refine CallVC0.same [] _ _ _ rfl rfl rfl rfl (c20) (fun r m' h' => (by obtain ⟨rfl, rfl⟩ := h'; rfl)) (fun r m' h' => ?_)
  obtain ⟨rfl, rfl⟩ := h'
  conv => whnf
  repeat' ((conv => whnf); first | refine Rng.g ?_ | refine Ob.g ?_ | refine Ob.e ?_ | refine Ob.m ?_ | refine Ob.mk (Nat.le_of_ble_eq_true rfl) ?_ | refine JoinVC.on ?_ | refine Nils.mk (fun h => ?_) ?_ | refine Val.t ?_ | refine Val.d ?_ | refine Mm.mk ?_ | (refine Br.mk (fun h => ?_) (fun h => ?_) <;> first | (exfalso; omega; done) | (exfalso; simp at h; done) | skip))
  refine LoopVC.mk (fun m st => ∃ (k : Nat) (S : Sho) (ms : List MS) (A B : List Int), k ≤ l.length ∧ ShOK S ∧ MsOK ms S.be ∧ TkI S A B ∧ m = l.length - k ∧ st = ⟨0, envA 180 [(1, .x (.one (.lst true KAc (acA l)))), (5, .x (.one (.ptr 0 0))), (7, .x (.one (.own 6))), (8, .x (.one (.own 7))), (9, .int .i64 (k : Int))], shK S ms ++ [some (rw2 A), some (rw2 B)]⟩) _ _ ⟨0, shop0 r, [], [], [], Nat.zero_le _, ShOK.new hr, MsOK.new, TkI.new r, rfl, rfl⟩ ?_ ?_
  · refine ⟨[some 1, some 2, some 3, some 4, some 5, some 6, none, none], rfl, rfl, ?_, ?_⟩ <;> repeat' (first | exact trivial | exact rfl | exact Iff.rfl | apply And.intro)
  rintro m _ ⟨k, S, ms, A, B, hk, hS, hM, hI, hm, rfl⟩
  by_cases h' : k < l.length
  · have g0 : rI (acA l) (k : Int).toNat 0 = (l.getD k ac0).kd := by rw [Int.toNat_natCast]; exact ac_0 l k
    have g3 : rI (acA l) (k : Int).toNat ((0 + 1 + 1 + 1)) = (l.getD k ac0).stock := by rw [Int.toNat_natCast]; exact ac_3 l k
    have g6 : rI (acA l) (k : Int).toNat ((0 + 1 + 1 + 1 + 1 + 1 + 1)) = (l.getD k ac0).bath := by rw [Int.toNat_natCast]; exact ac_6 l k
    have c21 : HSpec Try.prog 21 [.one (.ptr 0 0), acX (acA l) (k : Int).toNat] (shM S ms) (fun r m' => ∃ ms', MsOK ms' (doS S (l.getD k ac0)).be ∧ r = .tup [I (doN S (l.getD k ac0)), I (doE S (l.getD k ac0))] ∧ m' = shO (doS S (l.getD k ac0)) ms') := by
      rw [Int.toNat_natCast, acX_eq]
      exact s21 _ ms hS hM _
    generalize l.getD k ac0 = a at *
    have hS' := hS.doS a
    by_cases he : doE S a = 0
    rotate_left
    · repeat' ((conv => whnf); first | refine Rng.g ?_ | refine Ob.g ?_ | refine Ob.e ?_ | refine Ob.m ?_ | refine Ob.mk (Nat.le_of_ble_eq_true rfl) ?_ | refine JoinVC.on ?_ | refine Nils.mk (fun h => ?_) ?_ | refine Val.t ?_ | refine Val.d ?_ | refine Mm.mk ?_ | (refine Br.mk (fun h => ?_) (fun h => ?_) <;> first | (exfalso; omega; done) | (exfalso; simp at h; done) | skip))
      conv => whnf
      first | refine CallVC.mk [0, 1, 2, 3, 4, 5] _ _ _ rfl rfl rfl (c21) (fun r m' h' => ?_) | refine CallVC0.same [0, 1, 2, 3, 4, 5] _ _ _ rfl rfl rfl rfl (c21) (fun r m' h' => (by obtain ⟨ms', hM', rfl, rfl⟩ := h'; rfl)) (fun r m' h' => ?_)
      obtain ⟨ms', hM', rfl, rfl⟩ := h'
      conv => whnf
      repeat' ((conv => whnf); first | refine Rng.g ?_ | refine Ob.g ?_ | refine Ob.e ?_ | refine Ob.m ?_ | refine Ob.mk (Nat.le_of_ble_eq_true rfl) ?_ | refine JoinVC.on ?_ | refine Nils.mk (fun h => ?_) ?_ | refine Val.t ?_ | refine Val.d ?_ | refine Mm.mk ?_ | (refine Br.mk (fun h => ?_) (fun h => ?_) <;> first | (exfalso; omega; done) | (exfalso; simp at h; done) | skip))
      refine Back.mk (l.length - (k + 1)) _ (by omega) ⟨k + 1, doS S a, ms', A, B, by omega, hS', hM', ?_, rfl, rfl⟩ ?_
      · have e : doS S a = S := if_neg he
        rw [e]; exact hI
      · refine ⟨[some 0, some 9, some 2, some 10, some 11, some 12, some 6, some 7], rfl, rfl, ?_, ?_⟩ <;> repeat' (first | exact trivial | exact rfl | exact Iff.rfl | apply And.intro)

    have lt := tkA_len (doS S a).tk
    obtain ⟨N, hNd⟩ : ∃ N, doN S a = N := ⟨_, rfl⟩
    rw [he, hNd] at c21
    repeat' ((conv => whnf); first | refine Rng.g ?_ | refine Ob.g ?_ | refine Ob.e ?_ | refine Ob.m ?_ | refine Ob.mk (Nat.le_of_ble_eq_true rfl) ?_ | refine JoinVC.on ?_ | refine Nils.mk (fun h => ?_) ?_ | refine Val.t ?_ | refine Val.d ?_ | refine Mm.mk ?_ | (refine Br.mk (fun h => ?_) (fun h => ?_) <;> first | (exfalso; omega; done) | (exfalso; simp at h; done) | skip))
    conv => whnf
    first | refine CallVC.mk [0, 1, 2, 3, 4, 5] _ _ _ rfl rfl rfl (c21) (fun r m' h' => ?_) | refine CallVC0.same [0, 1, 2, 3, 4, 5] _ _ _ rfl rfl rfl rfl (c21) (fun r m' h' => (by obtain ⟨ms', hM', rfl, rfl⟩ := h'; rfl)) (fun r m' h' => ?_)
    obtain ⟨ms', hM', rfl, rfl⟩ := h'
    conv => whnf
    repeat' ((conv => whnf); first | refine Rng.g ?_ | refine Ob.g ?_ | refine Ob.e ?_ | refine Ob.m ?_ | refine Ob.mk (Nat.le_of_ble_eq_true rfl) ?_ | refine Nils.mk (fun h => ?_) ?_ | refine Val.t ?_ | refine Val.d ?_ | refine Mm.mk ?_ | (refine Br.mk (fun h => ?_) (fun h => ?_) <;> first | (exfalso; omega; done) | (exfalso; simp at h; done) | skip))
    refine JoinVC.cut (fun st => ∃ (A1 B1 : List Int), (a.kd = 2 → A1 = A ++ [a.stock] ∧ B1 = B ++ [0]) ∧ (a.kd ≠ 2 → A1 = A ∧ B1 = B) ∧ st = ⟨0, envA 180 [(1, .x (.one (.lst true KAc (acA l)))), (5, .x (.one (.ptr 0 0))), (7, .x (.one (.own 6))), (8, .x (.one (.own 7))), (9, .int .i64 (k : Int)), (10, .x (.one (.ptr 8 0))), (11, .x (I N))], shK (doS S a) ms' ++ [some (rw2 A1), some (rw2 B1), some (.box 43 [i6 (rI (acA l) (k : Int).toNat 0), i6 (rI (acA l) (k : Int).toNat ((0 + 1))), i6 (rI (acA l) (k : Int).toNat ((0 + 1 + 1))), i6 (rI (acA l) (k : Int).toNat ((0 + 1 + 1 + 1))), i6 (rI (acA l) (k : Int).toNat ((0 + 1 + 1 + 1 + 1))), i6 (rI (acA l) (k : Int).toNat ((0 + 1 + 1 + 1 + 1 + 1))), i6 (rI (acA l) (k : Int).toNat ((0 + 1 + 1 + 1 + 1 + 1 + 1))), i6 (rI (acA l) (k : Int).toNat ((0 + 1 + 1 + 1 + 1 + 1 + 1 + 1))), i6 (rI (acA l) (k : Int).toNat ((0 + 1 + 1 + 1 + 1 + 1 + 1 + 1 + 1))), i6 (rI (acA l) (k : Int).toNat ((0 + 1 + 1 + 1 + 1 + 1 + 1 + 1 + 1 + 1))), i6 (rI (acA l) (k : Int).toNat ((0 + 1 + 1 + 1 + 1 + 1 + 1 + 1 + 1 + 1 + 1))), i6 (rI (acA l) (k : Int).toNat ((0 + 1 + 1 + 1 + 1 + 1 + 1 + 1 + 1 + 1 + 1 + 1))), i6 (rI (acA l) (k : Int).toNat ((0 + 1 + 1 + 1 + 1 + 1 + 1 + 1 + 1 + 1 + 1 + 1 + 1)))])]⟩) ?_ ?_
    · by_cases hk2 : a.kd = 2
      · have lA' := i64s_len A
        have lB' := i64s_len B
        have la' := hI.la
        have lb' := hI.lb
        have hn8 := hS.nt
        have snA := i64s_snoc A a.stock
        have snB := i64s_snoc B 0
        repeat' ((conv => whnf); first | refine Rng.g ?_ | refine Ob.g ?_ | refine Ob.e ?_ | refine Ob.m ?_ | refine Ob.mk (Nat.le_of_ble_eq_true rfl) ?_ | refine JoinVC.on ?_ | refine Nils.mk (fun h => ?_) ?_ | refine Val.t ?_ | refine Val.d ?_ | refine Mm.mk ?_ | (refine Br.mk (fun h => ?_) (fun h => ?_) <;> first | (exfalso; omega; done) | (exfalso; simp at h; done) | skip))
        repeat refine Mm.mk ?_
        refine Ob.mk (by rw [eb2]; simp only [List.length_cons, List.length_nil]; omega) ?_
        repeat' ((conv => whnf); first | refine Rng.g ?_ | refine Ob.g ?_ | refine Ob.e ?_ | refine Ob.m ?_ | refine Ob.mk (Nat.le_of_ble_eq_true rfl) ?_ | refine JoinVC.on ?_ | refine Nils.mk (fun h => ?_) ?_ | refine Val.t ?_ | refine Val.d ?_ | refine Mm.mk ?_ | (refine Br.mk (fun h => ?_) (fun h => ?_) <;> first | (exfalso; omega; done) | (exfalso; simp at h; done) | skip))
        repeat refine Mm.mk ?_
        refine Ob.mk (by rw [eb2]; simp only [List.length_cons, List.length_nil]; omega) ?_
        repeat' ((conv => whnf); first | refine Rng.g ?_ | refine Ob.g ?_ | refine Ob.e ?_ | refine Ob.m ?_ | refine Ob.mk (Nat.le_of_ble_eq_true rfl) ?_ | refine JoinVC.on ?_ | refine Nils.mk (fun h => ?_) ?_ | refine Val.t ?_ | refine Val.d ?_ | refine Mm.mk ?_ | (refine Br.mk (fun h => ?_) (fun h => ?_) <;> first | (exfalso; omega; done) | (exfalso; simp at h; done) | skip))
        refine Meet.mk _ ⟨A ++ [a.stock], B ++ [0], fun _ => ⟨rfl, rfl⟩, fun hc => absurd hk2 hc, rfl⟩ ?_
        rw [g3, ← snA, ← snB]
        refine ⟨[some 0, some 9, some 2, some 10, some 11, some 12, some 14, some 16, some 8], rfl, rfl, ?_, ?_⟩ <;> repeat' (first | exact trivial | exact rfl | exact Iff.rfl | apply And.intro)
      · repeat' ((conv => whnf); first | refine Rng.g ?_ | refine Ob.g ?_ | refine Ob.e ?_ | refine Ob.m ?_ | refine Ob.mk (Nat.le_of_ble_eq_true rfl) ?_ | refine JoinVC.on ?_ | refine Nils.mk (fun h => ?_) ?_ | refine Val.t ?_ | refine Val.d ?_ | refine Mm.mk ?_ | (refine Br.mk (fun h => ?_) (fun h => ?_) <;> first | (exfalso; omega; done) | (exfalso; simp at h; done) | skip))
        refine Meet.mk _ ⟨A, B, fun hc => absurd hc hk2, fun _ => ⟨rfl, rfl⟩, rfl⟩ ?_
        refine ⟨[some 0, some 9, some 2, some 10, some 11, some 12, some 6, some 7, some 8], rfl, rfl, ?_, ?_⟩ <;> repeat' (first | exact trivial | exact rfl | exact Iff.rfl | apply And.intro)
    rintro _ ⟨A1, B1, h2, hn2, rfl⟩
    repeat' ((conv => whnf); first | refine Rng.g ?_ | refine Ob.g ?_ | refine Ob.e ?_ | refine Ob.m ?_ | refine Ob.mk (Nat.le_of_ble_eq_true rfl) ?_ | refine Nils.mk (fun h => ?_) ?_ | refine Val.t ?_ | refine Val.d ?_ | refine Mm.mk ?_ | (refine Br.mk (fun h => ?_) (fun h => ?_) <;> first | (exfalso; omega; done) | (exfalso; simp at h; done) | skip))
    refine JoinVC.cut (fun st => ∃ (A2 B2 : List Int), TkI (doS S a) A2 B2 ∧ st = ⟨0, envA 180 [(1, .x (.one (.lst true KAc (acA l)))), (5, .x (.one (.ptr 0 0))), (7, .x (.one (.own 6))), (8, .x (.one (.own 7))), (9, .int .i64 (k : Int))], shK (doS S a) ms' ++ [some (rw2 A2), some (rw2 B2)]⟩) ?_ ?_
    · by_cases hk3 : a.kd = 3
      · obtain ⟨rfl, rfl⟩ := hn2 (by omega)
        have hI' := hI.grow hS he hk3
        obtain ⟨hb, hp, hall, hth, hch, hw⟩ := grow_facts hS he hk3
        obtain ⟨_, _, etk, epl, hN⟩ := doS_grow he hk3
        have c19 := fun ms' => s19 (doS S a) ms' hS'
        have lp := plA_len (doS S a).pl
        have lp2 : (doS S a).pl.length = S.pl.length + 1 := by rw [epl]; simp
        have lB' := i64s_len B1
        have lb' := hI.lb
        have hnp := hS.np
        have hga : (doS S a).pl.getD S.pl.length p0 = newP S a := by
          rw [epl, getD_set, if_neg (by omega)]
          exact getD_last ..
        have v4 : rI (plA (doS S a).pl) (S.pl.length : Int).toNat ((0 + 1 + 1 + 1 + 1)) = thkM S a := by rw [Int.toNat_natCast, pl_4, hga]; rfl
        have v3 : rI (plA (doS S a).pl) (S.pl.length : Int).toNat ((0 + 1 + 1 + 1)) = (S.p a.plate).area := by rw [Int.toNat_natCast, pl_3, hga]; rfl
        have gB0 : rI (i64s B1) a.bath.toNat 0 = B1.getD a.bath.toNat 0 := i64s_get _ _
        have hB0 := (hI.h a.bath.toNat (by omega)).2.2
        have hT0 := (hS.tk a.bath.toNat (by omega)).2.2.1
        have hT1 := (hS.tk a.bath.toNat (by omega)).1
        have hu : updRow (i64s B1) a.bath.toNat 0 [.int (B1.getD a.bath.toNat 0 + wgt S a)] = i64s (B1.set a.bath.toNat (B1.getD a.bath.toNat 0 + wgt S a)) := i64s_upd' _ _ _ (by omega)
        have ew : (thkM S a * (S.p a.plate).area + 999) / 1000 = wgt S a := rfl
        have hNN : N = (S.pl.length : Int) := hNd.symm.trans hN
        rw [← hNN] at v3 v4
        repeat' ((conv => whnf); first | refine Rng.g ?_ | refine Ob.g ?_ | refine Ob.e ?_ | refine Ob.m ?_ | refine Ob.mk (Nat.le_of_ble_eq_true rfl) ?_ | refine JoinVC.on ?_ | refine Nils.mk (fun h => ?_) ?_ | refine Val.t ?_ | refine Val.d ?_ | refine Mm.mk ?_ | (refine Br.mk (fun h => ?_) (fun h => ?_) <;> first | (exfalso; omega; done) | (exfalso; simp at h; done) | skip))
        conv => whnf
        first | refine CallVC.mk [0, 1, 2, 3, 4, 5] _ _ _ rfl rfl rfl (c19 ms') (fun r m' h' => ?_) | refine CallVC0.same [0, 1, 2, 3, 4, 5] _ _ _ rfl rfl rfl rfl (c19 ms') (fun r m' h' => (by obtain ⟨rfl, rfl⟩ := h'; rfl)) (fun r m' h' => ?_)
        obtain ⟨rfl, rfl⟩ := h'
        conv => whnf
        repeat' ((conv => whnf); first | rw [g6] | rw [v4] | rw [v3] | rw [ew] | rw [gB0] | rw [hu] | refine Rng.g ?_ | refine Ob.g ?_ | refine Ob.e ?_ | refine Ob.m ?_ | refine Ob.mk (Nat.le_of_ble_eq_true rfl) ?_ | refine JoinVC.on ?_ | refine Nils.mk (fun h => ?_) ?_ | refine Val.t ?_ | refine Val.d ?_ | refine Mm.mk ?_ | (refine Br.mk (fun h => ?_) (fun h => ?_) <;> first | (exfalso; omega; done) | (exfalso; simp at h; done) | skip))
        refine Meet.mk _ ⟨A1, B1.set a.bath.toNat (B1.getD a.bath.toNat 0 + wgt S a), hI', rfl⟩ ?_
        refine ⟨[some 0, some 1, some 2, some 3, some 4, some 5, some 6, some 7], rfl, rfl, ?_, ?_⟩ <;> repeat' (first | exact trivial | exact rfl | exact Iff.rfl | apply And.intro)
      · have hI' : TkI (doS S a) A1 B1 := by
          by_cases hk2 : a.kd = 2
          · obtain ⟨rfl, rfl⟩ := h2 hk2
            exact hI.bath he hk2
          · obtain ⟨rfl, rfl⟩ := hn2 hk2
            exact hI.other he hk2 hk3
        repeat' ((conv => whnf); first | refine Rng.g ?_ | refine Ob.g ?_ | refine Ob.e ?_ | refine Ob.m ?_ | refine Ob.mk (Nat.le_of_ble_eq_true rfl) ?_ | refine JoinVC.on ?_ | refine Nils.mk (fun h => ?_) ?_ | refine Val.t ?_ | refine Val.d ?_ | refine Mm.mk ?_ | (refine Br.mk (fun h => ?_) (fun h => ?_) <;> first | (exfalso; omega; done) | (exfalso; simp at h; done) | skip))
        refine Meet.mk _ ⟨A1, B1, hI', rfl⟩ ?_
        refine ⟨[some 0, some 1, some 2, some 3, some 4, some 5, some 6, some 7], rfl, rfl, ?_, ?_⟩ <;> repeat' (first | exact trivial | exact rfl | exact Iff.rfl | apply And.intro)
    rintro _ ⟨A2, B2, hI2, rfl⟩
    clear h2 hn2
    have lt := tkA_len (doS S a).tk
    have hnt' := hS'.nt
    have hna' := hS'.na
    have lA2 := i64s_len A2
    have lB2 := i64s_len B2
    have la2 := hI2.la
    have lb2 := hI2.lb
    have c22 := s22 (doS S a) ms' hS'
    repeat' ((conv => whnf); first | refine Rng.g ?_ | refine Ob.g ?_ | refine Ob.e ?_ | refine Ob.m ?_ | refine Ob.mk (Nat.le_of_ble_eq_true rfl) ?_ | refine JoinVC.on ?_ | refine Nils.mk (fun h => ?_) ?_ | refine Val.t ?_ | refine Val.d ?_ | refine Mm.mk ?_ | (refine Br.mk (fun h => ?_) (fun h => ?_) <;> first | (exfalso; omega; done) | (exfalso; simp at h; done) | skip))
    conv => whnf
    first | refine CallVC.mk [0, 1, 2, 3, 4, 5] _ _ _ rfl rfl rfl (c22) (fun r m' h' => ?_) | refine CallVC0.same [0, 1, 2, 3, 4, 5] _ _ _ rfl rfl rfl rfl (c22) (fun r m' h' => (by obtain ⟨rfl, rfl⟩ := h'; rfl)) (fun r m' h' => ?_)
    obtain ⟨rfl, rfl⟩ := h'
    conv => whnf
    repeat' ((conv => whnf); first | refine Rng.g ?_ | refine Ob.g ?_ | refine Ob.e ?_ | refine Ob.m ?_ | refine Ob.mk (Nat.le_of_ble_eq_true rfl) ?_ | refine JoinVC.on ?_ | refine Nils.mk (fun h => ?_) ?_ | refine Val.t ?_ | refine Val.d ?_ | refine Mm.mk ?_ | (refine Br.mk (fun h => ?_) (fun h => ?_) <;> first | (exfalso; omega; done) | (exfalso; simp at h; done) | skip))
    refine LoopVC.mk (fun m st => ∃ (j : Nat), j ≤ (doS S a).tk.length ∧ m = (doS S a).tk.length - j ∧ st = ⟨0, envA 180 [(1, .x (.one (.lst true KAc (acA l)))), (5, .x (.one (.ptr 0 0))), (7, .x (.one (.own 6))), (8, .x (.one (.own 7))), (9, .int .i64 (k : Int)), (14, .x (.one (.lst false KTk (tkA (doS S a).tk)))), (15, .int .i64 (j : Int))], shK (doS S a) ms' ++ [some (rw2 A2), some (rw2 B2)]⟩) _ _ ⟨0, Nat.zero_le _, rfl, rfl⟩ ?_ ?_
    · refine ⟨[some 0, some 1, some 2, some 3, some 4, some 5, some 6, some 7], rfl, rfl, ?_, ?_⟩ <;> repeat' (first | exact trivial | exact rfl | exact Iff.rfl | apply And.intro)
    rintro m2 _ ⟨j, hj, hm2, rfl⟩
    by_cases hjl : j < (doS S a).tk.length
    · have t0 : rI (tkA (doS S a).tk) (j : Int).toNat 0 = ((doS S a).tk.getD j tk0).st := by rw [Int.toNat_natCast]; exact tk_0 _ j
      have t1 : rI (tkA (doS S a).tk) (j : Int).toNat ((0 + 1)) = ((doS S a).tk.getD j tk0).yd := by rw [Int.toNat_natCast]; exact tk_1 _ j
      have t2 : rI (tkA (doS S a).tk) (j : Int).toNat ((0 + 1 + 1)) = ((doS S a).tk.getD j tk0).ch := by rw [Int.toNat_natCast]; exact tk_2 _ j
      have t3 : rI (tkA (doS S a).tk) (j : Int).toNat ((0 + 1 + 1 + 1)) = ((doS S a).tk.getD j tk0).ld := by rw [Int.toNat_natCast]; exact tk_3 _ j
      obtain ⟨q1, q2, q3, q4⟩ := hI2.h j hjl
      obtain ⟨o1, o2, o3, o4⟩ := hS'.tk j hjl
      have hpr := mulB (a := ((doS S a).tk.getD j tk0).ch) (b := ((doS S a).tk.getD j tk0).yd) (A := 2199023255552000) (B := 1000) (by omega) (by omega)
      have gA : rI (i64s A2) (j : Int).toNat 0 = A2.getD j 0 := by rw [Int.toNat_natCast, i64s_get]
      have gB : rI (i64s B2) (j : Int).toNat 0 = B2.getD j 0 := by rw [Int.toNat_natCast, i64s_get]
      repeat' ((conv => whnf); first | rw [t0] | rw [t1] | rw [t2] | rw [t3] | rw [gA] | rw [gB] | refine Rng.g ?_ | refine Ob.g ?_ | refine Ob.e ?_ | refine Ob.m ?_ | refine Ob.mk (Nat.le_of_ble_eq_true rfl) ?_ | refine JoinVC.on ?_ | refine Nils.mk (fun h => ?_) ?_ | refine Val.t ?_ | refine Val.d ?_ | refine Mm.mk ?_ | (refine Br.mk (fun h => ?_) (fun h => ?_) <;> first | (exfalso; omega; done) | (exfalso; simp at h; done) | skip))
      refine Back.mk ((doS S a).tk.length - (j + 1)) _ (by omega) ⟨j + 1, by omega, rfl, rfl⟩ ?_
      refine ⟨[some 0, some 1, some 2, some 3, some 4, some 5, some 6, some 7], rfl, rfl, ?_, ?_⟩ <;> repeat' (first | exact trivial | exact rfl | exact Iff.rfl | apply And.intro)
    · repeat' ((conv => whnf); first | refine Rng.g ?_ | refine Ob.g ?_ | refine Ob.e ?_ | refine Ob.m ?_ | refine Ob.mk (Nat.le_of_ble_eq_true rfl) ?_ | refine JoinVC.on ?_ | refine Nils.mk (fun h => ?_) ?_ | refine Val.t ?_ | refine Val.d ?_ | refine Mm.mk ?_ | (refine Br.mk (fun h => ?_) (fun h => ?_) <;> first | (exfalso; omega; done) | (exfalso; simp at h; done) | skip))
      refine Back.mk (l.length - (k + 1)) _ (by omega) ⟨k + 1, doS S a, ms', A2, B2, by omega, hS', hM', hI2, rfl, rfl⟩ ?_
      refine ⟨[some 0, some 1, some 2, some 3, some 4, some 5, some 6, some 7], rfl, rfl, ?_, ?_⟩ <;> repeat' (first | exact trivial | exact rfl | exact Iff.rfl | apply And.intro)
  · obtain rfl : k = l.length := by omega
    repeat' ((conv => whnf); first | refine Rng.g ?_ | refine Ob.g ?_ | refine Ob.e ?_ | refine Ob.m ?_ | refine Ob.mk (Nat.le_of_ble_eq_true rfl) ?_ | refine JoinVC.on ?_ | refine Nils.mk (fun h => ?_) ?_ | refine Val.t ?_ | refine Val.d ?_ | refine Mm.mk ?_ | refine CallVC.pure rfl (c17) ?_ | refine CallVC0.pure rfl (c17) ?_ | (refine Br.mk (fun h => ?_) (fun h => ?_) <;> first | (exfalso; omega; done) | (exfalso; simp at h; done) | skip))
    repeat refine Mm.mk ?_
    refine EndVC.mk _ rfl _ _ ⟨rfl, rfl⟩ ?_
    refine ⟨[], rfl, rfl, ?_, ?_⟩ <;> repeat' (first | exact trivial | exact rfl | exact Iff.rfl | apply And.intro)
theorem s4 (r : Rcp) (l : List Act2) : PSpec Try.prog 4 [r.x, .one (.lst true KAc (acA l))] (xP True) := by
  by_cases h : 60 < l.length ∨ ¬ RcpOK r
  · exact s4_any r l h
  · exact s4_ok r l (by omega) (Classical.byContradiction fun hc => h (.inr hc))
end Go.Sx

namespace Go.Sx
open Go Go.Proofs
set_option maxRecDepth 10000
/-! ### Rows read as acts -/
theorem wfr_of : ∀ {ks : List CK} {r : List Cell}, r.length = ks.length → (∀ (j : Nat) k c, ks[j]? = some k → r[j]? = some c → Wf k c) → WfR ks r
  | [], [], _, _ => .nil
  | [], _ :: _, h, _ => by simp at h
  | _ :: _, [], h, _ => by simp at h
  | k :: ks, c :: cs, h, hw => .cons (hw 0 k c rfl rfl) (wfr_of (by simpa using h) fun j k' c' h1 h2 => hw (j + 1) k' c' (by simpa using h1) (by simpa using h2))
theorem wf_map {α : Type} {ks : List CK} {row : α → List Cell} {p : α → Prop} (hrow : ∀ r, WfR ks r → ∃ x, r = row x ∧ p x) {a : Arr} (h : Wf (.sl ks) (.sl a)) : ∃ l : List α, a = l.map row ∧ ∀ x ∈ l, p x := by
  cases h with
  | sl hl hr hw =>
    clear hl
    induction a with
    | nil => exact ⟨[], rfl, fun x hx => by simp at hx⟩
    | cons r a ih =>
      obtain ⟨l, rfl, h2⟩ := ih (fun r h => hr r (List.mem_cons_of_mem _ h)) (fun r h => hw r (List.mem_cons_of_mem _ h))
      obtain ⟨x, rfl, h3⟩ := hrow r (wfr_of (hr r (List.mem_cons_self ..)) (hw r (List.mem_cons_self ..)))
      exact ⟨x :: l, rfl, fun y hy => by rcases List.mem_cons.1 hy with rfl | hy; (· exact h3); exact h2 y hy⟩
theorem wf_acts {a : Arr} (h : Wf (.sl KAc) (.sl a)) : ∃ l : List Act2, a = acA l := by
  obtain ⟨l, h1, _⟩ := wf_map (row := acC) (p := fun _ => True) (fun r hr => by
    obtain ⟨c0, _, rfl, g0, h1⟩ := hr.inv
    obtain ⟨n0, rfl, _⟩ := g0.int_inv
    obtain ⟨c1, _, rfl, g1, h2⟩ := h1.inv
    obtain ⟨n1, rfl, _⟩ := g1.int_inv
    obtain ⟨c2, _, rfl, g2, h3⟩ := h2.inv
    obtain ⟨n2, rfl, _⟩ := g2.int_inv
    obtain ⟨c3, _, rfl, g3, h4⟩ := h3.inv
    obtain ⟨n3, rfl, _⟩ := g3.int_inv
    obtain ⟨c4, _, rfl, g4, h5⟩ := h4.inv
    obtain ⟨n4, rfl, _⟩ := g4.int_inv
    obtain ⟨c5, _, rfl, g5, h6⟩ := h5.inv
    obtain ⟨n5, rfl, _⟩ := g5.int_inv
    obtain ⟨c6, _, rfl, g6, h7⟩ := h6.inv
    obtain ⟨n6, rfl, _⟩ := g6.int_inv
    obtain ⟨c7, _, rfl, g7, h8⟩ := h7.inv
    obtain ⟨n7, rfl, _⟩ := g7.int_inv
    obtain ⟨c8, _, rfl, g8, h9⟩ := h8.inv
    obtain ⟨n8, rfl, _⟩ := g8.int_inv
    obtain ⟨c9, _, rfl, g9, h10⟩ := h9.inv
    obtain ⟨n9, rfl, _⟩ := g9.int_inv
    obtain ⟨c10, _, rfl, g10, h11⟩ := h10.inv
    obtain ⟨n10, rfl, _⟩ := g10.int_inv
    obtain ⟨c11, _, rfl, g11, h12⟩ := h11.inv
    obtain ⟨n11, rfl, _⟩ := g11.int_inv
    obtain ⟨c12, _, rfl, g12, h13⟩ := h12.inv
    obtain ⟨n12, rfl, _⟩ := g12.int_inv
    cases h13.nil_inv
    exact ⟨⟨n0, n1, n2, n3, n4, n5, n6, n7, n8, n9, n10, n11, n12⟩, rfl, trivial⟩) h
  exact ⟨l, h1⟩
end Go.Sx
