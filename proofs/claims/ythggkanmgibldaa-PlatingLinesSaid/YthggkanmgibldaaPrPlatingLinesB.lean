import Derived.Test.YthggkanmgibldaaPrPlatingLinesA
import Derived.Test.YthggkanmgibldaaXc
namespace Go.Sx
open Go Go.Proofs
set_option maxRecDepth 10000
set_option maxHeartbeats 8000000
/-! ### The example -/
@[reducible] def exR : Rcp := ⟨0, 100, 100, 200, 0, 900, 900, 900, 10, 50, 500, 2, 3⟩
@[reducible] def groA (i b : Int) : Act2 := ⟨3, 0, 0, 0, 0, i, b, 50, 1, 500, 1, 0, 0⟩
theorem s35 : PSpec Try.prog 35 [] (.x exR.x) := by
  refine spec_of pMix (O := []) Try.func35 (c := bodyOf Try.f35) rfl (by kernel_rfl) (by kernel_rfl) Try.ntmps35 (res := [.cell 0 24]) (by kernel_rfl) ?_
  repeat' ((conv => whnf); first | refine Rng.g ?_ | refine Ob.g ?_ | refine Ob.e ?_ | refine Ob.m ?_ | refine Ob.mk (Nat.le_of_ble_eq_true rfl) ?_ | refine JoinVC.on ?_ | refine Nils.mk (fun h => ?_) ?_ | refine Val.t ?_ | refine Val.d ?_ | refine Mm.mk ?_ | (refine Br.mk (fun h => ?_) (fun h => ?_) <;> first | (exfalso; omega; done) | (exfalso; simp at h; done) | skip))
  repeat refine Mm.mk ?_
  refine EndVC.mk _ rfl _ _ ⟨rfl, rfl⟩ ?_
  refine ⟨[], rfl, rfl, ?_, ?_⟩ <;> repeat' (first | exact trivial | exact rfl | exact Iff.rfl | apply And.intro)
theorem s37 (i b : Int) : PSpec Try.prog 37 [I i, I b] (.x (groA i b).x) := by
  refine spec_of pMix (O := []) Try.func37 (c := bodyOf Try.f37) rfl (by kernel_rfl) (by kernel_rfl) Try.ntmps37 (res := [.cell 4 43]) (by kernel_rfl) ?_
  repeat' ((conv => whnf); first | refine Rng.g ?_ | refine Ob.g ?_ | refine Ob.e ?_ | refine Ob.m ?_ | refine Ob.mk (Nat.le_of_ble_eq_true rfl) ?_ | refine JoinVC.on ?_ | refine Nils.mk (fun h => ?_) ?_ | refine Val.t ?_ | refine Val.d ?_ | refine Mm.mk ?_ | (refine Br.mk (fun h => ?_) (fun h => ?_) <;> first | (exfalso; omega; done) | (exfalso; simp at h; done) | skip))
  repeat refine Mm.mk ?_
  refine EndVC.mk _ rfl _ _ ⟨rfl, rfl⟩ ?_
  refine ⟨[], rfl, rfl, ?_, ?_⟩ <;> repeat' (first | exact trivial | exact rfl | exact Iff.rfl | apply And.intro)
@[reducible] def exA : List Act2 := [⟨1, 7, 1000, 0, 0, 0, 0, 0, 0, 0, 0, 0, 0⟩, ⟨2, 0, 0, 2000, 500, 0, 0, 0, 0, 0, 0, 0, 0⟩, groA 0 0, ⟨4, 0, 0, 0, 0, 1, 0, 0, 0, 0, 0, 9, 0⟩, groA 1 0, groA 2 0, ⟨5, 0, 0, 0, 0, 2, 0, 0, 0, 0, 0, 0, 0⟩, groA 2 0]
@[reducible] def exS0 : Sho := ⟨exR, [], [], [], [], []⟩
@[reducible] def exS1 : Sho := ⟨exR, [⟨0, -1, 7, 1000, 0, 0, false⟩], [[]], [], [], [⟨1, 7, 1000, 0, 0, 0, 0, 0, 0, 0, 0, 0, 0⟩]⟩
@[reducible] def exS2 : Sho := ⟨exR, [⟨0, -1, 7, 1000, 0, 0, false⟩], [[]], [⟨2000, 500, 0, 0⟩], [], [⟨1, 7, 1000, 0, 0, 0, 0, 0, 0, 0, 0, 0, 0⟩, ⟨2, 0, 0, 2000, 500, 0, 0, 0, 0, 0, 0, 0, 0⟩]⟩
@[reducible] def exS3 : Sho := ⟨exR, [⟨0, -1, 7, 1000, 0, 1, true⟩, ⟨1, 0, 7, 1000, 275, 0, false⟩], [[], []], [⟨1725, 500, 550, 275⟩], [], [⟨1, 7, 1000, 0, 0, 0, 0, 0, 0, 0, 0, 0, 0⟩, ⟨2, 0, 0, 2000, 500, 0, 0, 0, 0, 0, 0, 0, 0⟩, groA 0 0]⟩
@[reducible] def exS4 : Sho := ⟨exR, [⟨0, -1, 7, 1000, 0, 1, true⟩, ⟨1, 0, 7, 1000, 275, 0, false⟩], [[], [0]], [⟨1725, 500, 550, 275⟩], [(1, 9)], [⟨1, 7, 1000, 0, 0, 0, 0, 0, 0, 0, 0, 0, 0⟩, ⟨2, 0, 0, 2000, 500, 0, 0, 0, 0, 0, 0, 0, 0⟩, groA 0 0, ⟨4, 0, 0, 0, 0, 1, 0, 0, 0, 0, 0, 9, 0⟩]⟩
@[reducible] def exS5 : Sho := ⟨exR, [⟨0, -1, 7, 1000, 0, 1, true⟩, ⟨1, 0, 7, 1000, 275, 1, false⟩, ⟨2, 1, 7, 1000, 275, 0, false⟩], [[], [0], [0]], [⟨1450, 500, 1100, 550⟩], [(1, 9)], [⟨1, 7, 1000, 0, 0, 0, 0, 0, 0, 0, 0, 0, 0⟩, ⟨2, 0, 0, 2000, 500, 0, 0, 0, 0, 0, 0, 0, 0⟩, groA 0 0, ⟨4, 0, 0, 0, 0, 1, 0, 0, 0, 0, 0, 9, 0⟩, groA 1 0]⟩
@[reducible] def exS6 : Sho := ⟨exR, [⟨0, -1, 7, 1000, 0, 1, true⟩, ⟨1, 0, 7, 1000, 275, 1, false⟩, ⟨2, 1, 7, 1000, 275, 1, false⟩, ⟨3, 2, 7, 1000, 275, 0, false⟩], [[], [0], [0], [0]], [⟨1175, 500, 1650, 825⟩], [(1, 9)], [⟨1, 7, 1000, 0, 0, 0, 0, 0, 0, 0, 0, 0, 0⟩, ⟨2, 0, 0, 2000, 500, 0, 0, 0, 0, 0, 0, 0, 0⟩, groA 0 0, ⟨4, 0, 0, 0, 0, 1, 0, 0, 0, 0, 0, 9, 0⟩, groA 1 0, groA 2 0]⟩
@[reducible] def exS7 : Sho := ⟨exR, [⟨0, -1, 7, 1000, 0, 1, true⟩, ⟨1, 0, 7, 1000, 275, 1, false⟩, ⟨2, 1, 7, 1000, 275, 1, false⟩, ⟨3, 2, 7, 1000, 275, 0, false⟩], [[], [0], [], [0]], [⟨1175, 500, 1650, 825⟩], [(1, 9)], [⟨1, 7, 1000, 0, 0, 0, 0, 0, 0, 0, 0, 0, 0⟩, ⟨2, 0, 0, 2000, 500, 0, 0, 0, 0, 0, 0, 0, 0⟩, groA 0 0, ⟨4, 0, 0, 0, 0, 1, 0, 0, 0, 0, 0, 9, 0⟩, groA 1 0, groA 2 0, ⟨5, 0, 0, 0, 0, 2, 0, 0, 0, 0, 0, 0, 0⟩]⟩
@[reducible] def exS8 : Sho := ⟨exR, [⟨0, -1, 7, 1000, 0, 1, true⟩, ⟨1, 0, 7, 1000, 275, 1, false⟩, ⟨2, 1, 7, 1000, 275, 2, false⟩, ⟨3, 2, 7, 1000, 275, 0, false⟩, ⟨3, 2, 7, 1000, 275, 0, false⟩], [[], [0], [], [0], []], [⟨900, 500, 2200, 1100⟩], [(1, 9)], [⟨1, 7, 1000, 0, 0, 0, 0, 0, 0, 0, 0, 0, 0⟩, ⟨2, 0, 0, 2000, 500, 0, 0, 0, 0, 0, 0, 0, 0⟩, groA 0 0, ⟨4, 0, 0, 0, 0, 1, 0, 0, 0, 0, 0, 9, 0⟩, groA 1 0, groA 2 0, ⟨5, 0, 0, 0, 0, 2, 0, 0, 0, 0, 0, 0, 0⟩, groA 2 0]⟩
theorem exE0 : doE exS0 (exA.getD 0 ac0) = 0 := by kernel_rfl
theorem exD0 : doS exS0 (exA.getD 0 ac0) = exS1 := by kernel_rfl
theorem exE1 : doE exS1 (exA.getD 1 ac0) = 0 := by kernel_rfl
theorem exD1 : doS exS1 (exA.getD 1 ac0) = exS2 := by kernel_rfl
theorem exE2 : doE exS2 (exA.getD 2 ac0) = 0 := by kernel_rfl
theorem exD2 : doS exS2 (exA.getD 2 ac0) = exS3 := by kernel_rfl
theorem exE3 : doE exS3 (exA.getD 3 ac0) = 0 := by kernel_rfl
theorem exD3 : doS exS3 (exA.getD 3 ac0) = exS4 := by kernel_rfl
theorem exE4 : doE exS4 (exA.getD 4 ac0) = 0 := by kernel_rfl
theorem exD4 : doS exS4 (exA.getD 4 ac0) = exS5 := by kernel_rfl
theorem exE5 : doE exS5 (exA.getD 5 ac0) = 0 := by kernel_rfl
theorem exD5 : doS exS5 (exA.getD 5 ac0) = exS6 := by kernel_rfl
theorem exE6 : doE exS6 (exA.getD 6 ac0) = 0 := by kernel_rfl
theorem exD6 : doS exS6 (exA.getD 6 ac0) = exS7 := by kernel_rfl
theorem exE7 : doE exS7 (exA.getD 7 ac0) = 0 := by kernel_rfl
theorem exD7 : doS exS7 (exA.getD 7 ac0) = exS8 := by kernel_rfl
theorem exP0 : repS (shop0 exR) exA 0 = exS0 := rfl
theorem exP1 : repS (shop0 exR) exA 1 = exS1 := (congrArg (doS · (exA.getD 0 ac0)) exP0).trans exD0
theorem exP2 : repS (shop0 exR) exA 2 = exS2 := (congrArg (doS · (exA.getD 1 ac0)) exP1).trans exD1
theorem exP3 : repS (shop0 exR) exA 3 = exS3 := (congrArg (doS · (exA.getD 2 ac0)) exP2).trans exD2
theorem exP4 : repS (shop0 exR) exA 4 = exS4 := (congrArg (doS · (exA.getD 3 ac0)) exP3).trans exD3
theorem exP5 : repS (shop0 exR) exA 5 = exS5 := (congrArg (doS · (exA.getD 4 ac0)) exP4).trans exD4
theorem exP6 : repS (shop0 exR) exA 6 = exS6 := (congrArg (doS · (exA.getD 5 ac0)) exP5).trans exD5
theorem exP7 : repS (shop0 exR) exA 7 = exS7 := (congrArg (doS · (exA.getD 6 ac0)) exP6).trans exD6
theorem exP8 : repS (shop0 exR) exA 8 = exS8 := (congrArg (doS · (exA.getD 7 ac0)) exP7).trans exD7
theorem exG : goodTo (shop0 exR) exA 8 := fun j hj => by
  rcases (show j = 0 ∨ j = 1 ∨ j = 2 ∨ j = 3 ∨ j = 4 ∨ j = 5 ∨ j = 6 ∨ j = 7 by omega) with rfl | rfl | rfl | rfl | rfl | rfl | rfl | rfl
  · rw [exP0]; exact exE0
  · rw [exP1]; exact exE1
  · rw [exP2]; exact exE2
  · rw [exP3]; exact exE3
  · rw [exP4]; exact exE4
  · rw [exP5]; exact exE5
  · rw [exP6]; exact exE6
  · rw [exP7]; exact exE7
theorem exOK : RcpOK exR := ⟨by decide, by decide, by decide, by decide, by decide, by decide, by decide, by decide⟩
theorem exUp : exS8.up 4 = [4, 2, 1, 0] := by kernel_rfl
theorem exBe : bear exS8.be 0 5 = [1, 3] := by kernel_rfl
theorem exNe : needE exS8 0 6 = 0 := by kernel_rfl
theorem exNn : needN exS8 0 6 = 5 := by kernel_rfl
theorem s36 : HSpec Try.prog 36 [] [] (fun r m' => r = .x (.one (.lst false KAc (acA exA))) ∧ m' = []) := by
  have c0 := s37 0 0
  have c1 := s37 1 0
  have c2 := s37 2 0
  refine spec_of pMix (O := []) Try.func36 (c := bodyOf Try.f36) rfl (by kernel_rfl) (by kernel_rfl) Try.ntmps36 (res := [.tmp 0]) (by kernel_rfl) ?_
  repeat' ((conv => whnf); first | refine Rng.g ?_ | refine Ob.g ?_ | refine Ob.e ?_ | refine Ob.m ?_ | refine Ob.mk (Nat.le_of_ble_eq_true rfl) ?_ | refine JoinVC.on ?_ | refine Nils.mk (fun h => ?_) ?_ | refine Val.t ?_ | refine Val.d ?_ | refine Mm.mk ?_ | refine CallVC.pure rfl (c0) ?_ | refine CallVC.pure rfl (c1) ?_ | refine CallVC.pure rfl (c2) ?_ | refine CallVC0.pure rfl (c0) ?_ | refine CallVC0.pure rfl (c1) ?_ | refine CallVC0.pure rfl (c2) ?_ | (refine Br.mk (fun h => ?_) (fun h => ?_) <;> first | (exfalso; omega; done) | (exfalso; simp at h; done) | skip))
  repeat refine Mm.mk ?_
  refine EndVC.mk _ rfl _ _ ⟨rfl, rfl⟩ ?_
  refine ⟨[], rfl, rfl, ?_, ?_⟩ <;> repeat' (first | exact trivial | exact rfl | exact Iff.rfl | apply And.intro)
theorem s32 (xs ys : List Int) (hx : xs.length ≤ 1000000) : PSpec Try.prog 32 [.one (.lst true [.int .i64] (i64s xs)), .one (.lst true [.int .i64] (i64s ys))] (xP (xs = ys)) := by
  have lx := i64s_len xs
  have ly := i64s_len ys
  by_cases hl : xs.length = ys.length
  · refine spec_of pMix (O := []) Try.func32 (c := bodyOf Try.f32) rfl (by kernel_rfl) (by kernel_rfl) Try.ntmps32 (res := [.tmp 4]) (by kernel_rfl) ?_
    repeat' ((conv => whnf); first | refine Rng.g ?_ | refine Ob.g ?_ | refine Ob.e ?_ | refine Ob.m ?_ | refine Ob.mk (Nat.le_of_ble_eq_true rfl) ?_ | refine JoinVC.on ?_ | refine Nils.mk (fun h => ?_) ?_ | refine Val.t ?_ | refine Val.d ?_ | refine Mm.mk ?_ | (refine Br.mk (fun h => ?_) (fun h => ?_) <;> first | (exfalso; omega; done) | (exfalso; simp at h; done) | skip))
    refine LoopVC.mk (fun n st => ∃ (i : Nat), i ≤ xs.length ∧ n = xs.length - i ∧ (∀ j, j < i → xs.getD j 0 = ys.getD j 0) ∧ st = ⟨0, envA 26 [(0, .x (.one (.lst true [.int .i64] (i64s xs)))), (1, .x (.one (.lst true [.int .i64] (i64s ys)))), (5, .int .i64 (i : Int))], []⟩) _ _ ⟨0, Nat.zero_le _, rfl, fun j hj => absurd hj (Nat.not_lt_zero j), rfl⟩ ?_ ?_
    · refine ⟨[], rfl, rfl, ?_, ?_⟩ <;> repeat' (first | exact trivial | exact rfl | exact Iff.rfl | apply And.intro)
    rintro n _ ⟨i, hi, hn, hj, rfl⟩
    have g0 : rI (i64s xs) (i : Int).toNat 0 = xs.getD i 0 := by rw [Int.toNat_natCast, i64s_get]
    have g1 : rI (i64s ys) (i : Int).toNat 0 = ys.getD i 0 := by rw [Int.toNat_natCast, i64s_get]
    by_cases h' : i < xs.length
    · repeat' ((conv => whnf); first | rw [g0] | rw [g1] | refine Rng.g ?_ | refine Ob.g ?_ | refine Ob.e ?_ | refine Ob.m ?_ | refine Ob.mk (Nat.le_of_ble_eq_true rfl) ?_ | refine JoinVC.on ?_ | refine Nils.mk (fun h => ?_) ?_ | refine Val.t ?_ | refine Val.d ?_ | refine Mm.mk ?_ | (refine Br.mk (fun h => ?_) (fun h => ?_) <;> first | (exfalso; omega; done) | (exfalso; simp at h; done) | skip))
      · repeat refine Mm.mk ?_
        refine EndVC.mk _ rfl _ _ ⟨rfl, rfl⟩ ?_
        refine ⟨[], rfl, rfl, ?_, ?_⟩ <;> repeat' (first | exact trivial | exact rfl | exact Iff.rfl | apply And.intro)
        exact fun hc => h (by rw [hc])
      · refine Back.mk (xs.length - (i + 1)) _ (by omega) ⟨i + 1, by omega, rfl, fun j hj' => ?_, rfl⟩ ?_
        · rcases Nat.lt_succ_iff_lt_or_eq.1 hj' with h1 | rfl
          · exact hj j h1
          · exact Classical.not_not.1 h
        · refine ⟨[], rfl, rfl, ?_, ?_⟩ <;> repeat' (first | exact trivial | exact rfl | exact Iff.rfl | apply And.intro)
    · obtain rfl : i = xs.length := by omega
      repeat' ((conv => whnf); first | refine Rng.g ?_ | refine Ob.g ?_ | refine Ob.e ?_ | refine Ob.m ?_ | refine Ob.mk (Nat.le_of_ble_eq_true rfl) ?_ | refine JoinVC.on ?_ | refine Nils.mk (fun h => ?_) ?_ | refine Val.t ?_ | refine Val.d ?_ | refine Mm.mk ?_ | (refine Br.mk (fun h => ?_) (fun h => ?_) <;> first | (exfalso; omega; done) | (exfalso; simp at h; done) | skip))
      repeat refine Mm.mk ?_
      refine EndVC.mk _ rfl _ _ ⟨rfl, rfl⟩ ?_
      refine ⟨[], rfl, rfl, ?_, ?_⟩ <;> repeat' (first | exact trivial | exact rfl | exact Iff.rfl | apply And.intro)
      exact (List.ext_getElem hl fun k h1 h2 => by
        have := hj k h1
        rwa [List.getD_eq_getElem?_getD, List.getD_eq_getElem?_getD, List.getElem?_eq_getElem h1, List.getElem?_eq_getElem h2] at this)
  · refine spec_of pMix (O := []) Try.func32 (c := bodyOf Try.f32) rfl (by kernel_rfl) (by kernel_rfl) Try.ntmps32 (res := [.tmp 4]) (by kernel_rfl) ?_
    repeat' ((conv => whnf); first | refine Rng.g ?_ | refine Ob.g ?_ | refine Ob.e ?_ | refine Ob.m ?_ | refine Ob.mk (Nat.le_of_ble_eq_true rfl) ?_ | refine JoinVC.on ?_ | refine Nils.mk (fun h => ?_) ?_ | refine Val.t ?_ | refine Val.d ?_ | refine Mm.mk ?_ | (refine Br.mk (fun h => ?_) (fun h => ?_) <;> first | (exfalso; omega; done) | (exfalso; simp at h; done) | skip))
    repeat refine Mm.mk ?_
    refine EndVC.mk _ rfl _ _ ⟨rfl, rfl⟩ ?_
    refine ⟨[], rfl, rfl, ?_, ?_⟩ <;> repeat' (first | exact trivial | exact rfl | exact Iff.rfl | apply And.intro)
    exact fun h => hl (congrArg List.length h)
theorem PSpec.tt {P : Program} {f : FuncId} {args : List XV} {p : Prop} {d : Decidable p} (h : PSpec P f args (.x (.one (.prp p d)))) (hp : p) : PSpec P f args (.x (.one .tt)) := by
  intro w R vs h1 h2
  have key : ∀ (e : Ending) (w' : World), (∃ v r m' R', e = .returned v ∧ (r = .x (.one (.prp p d)) ∧ m' = []) ∧ Fr w R ([].map some) w' R' m' ∧ RepA w' R' r v) → ∃ v r m' R', e = .returned v ∧ (r = .x (.one .tt) ∧ m' = []) ∧ Fr w R ([].map some) w' R' m' ∧ RepA w' R' r v := by
    rintro e w' ⟨v, r, m', R', h3, ⟨rfl, rfl⟩, h5, h6⟩
    refine ⟨v, _, _, R', h3, ⟨rfl, rfl⟩, h5, ?_⟩
    have h6' : v = .bool (@decide p d) := h6
    exact h6'.trans (by rw [decide_eq_true hp])
  rcases h w R vs h1 h2 with ⟨h3, h4⟩ | ⟨v, w', h3, h4⟩
  · exact .inl ⟨h3, h4.mono key⟩
  · exact .inr ⟨v, w', h3, key _ _ h4⟩
theorem s17p : PSpec Try.prog 17 [] (xP ((5 : Int) = 5)) := by
  have c34 := s34 exR exA (by decide)
  have hS : ShOK exS8 := by have := ShOK.repS (ShOK.new exOK) exA 8; rwa [exP8] at this
  have lA : (acA exA).length = 8 := rfl
  have q1 := (s32 [4, 2, 1, 0].reverse [0, 1, 2, 4] (by decide)).tt rfl
  have q2 := (s32 [1, 3] [1, 3] (by decide)).tt rfl
  refine spec_of pMix (O := []) Try.func17 (c := bodyOf Try.f17) rfl (by kernel_rfl) (by kernel_rfl) Try.ntmps17 (res := [.tmp 0]) (by kernel_rfl) ?_
  repeat' ((conv => whnf); first | refine Rng.g ?_ | refine Ob.g ?_ | refine Ob.e ?_ | refine Ob.m ?_ | refine Ob.mk (Nat.le_of_ble_eq_true rfl) ?_ | refine JoinVC.on ?_ | refine Nils.mk (fun h => ?_) ?_ | refine Val.t ?_ | refine Val.d ?_ | refine Mm.mk ?_ | refine CallVC.pure rfl (s35) ?_ | refine CallVC0.pure rfl (s35) ?_ | (refine Br.mk (fun h => ?_) (fun h => ?_) <;> first | (exfalso; omega; done) | (exfalso; simp at h; done) | skip))
  conv => whnf
  refine CallVC.mk [] _ _ _ rfl rfl rfl (s36) (fun r m' h' => ?_)
  obtain ⟨rfl, rfl⟩ := h'
  conv => whnf
  repeat' ((conv => whnf); first | refine Rng.g ?_ | refine Ob.g ?_ | refine Ob.e ?_ | refine Ob.m ?_ | refine Ob.mk (Nat.le_of_ble_eq_true rfl) ?_ | refine JoinVC.on ?_ | refine Nils.mk (fun h => ?_) ?_ | refine Val.t ?_ | refine Val.d ?_ | refine Mm.mk ?_ | (refine Br.mk (fun h => ?_) (fun h => ?_) <;> first | (exfalso; omega; done) | (exfalso; simp at h; done) | skip))
  conv => whnf
  refine CallVC.mk [] _ _ _ rfl rfl rfl (c34) (fun r m' h' => ?_)
  cases h' with
  | bad h hv hm => exact absurd exOK h
  | err h i hi hg e he h0 hv hm => exact absurd (exG i hi) (by rw [he]; exact h0)
  | ok h hg ms hM hv hm =>
    have e8 : repS (shop0 exR) exA exA.length = exS8 := exP8
    rw [e8] at hm hM
    subst hv hm
    have c30 := s30_ok exS8 ms hS 4 (by decide)
    rw [exUp] at c30
    have c39 := s39_ok exS8 ms hS hM 0 (by decide)
    rw [show bear exS8.be 0 exS8.pl.length = [1, 3] from exBe] at c39
    have c26 := s26 exS8 ms hS 0 6
    rw [exNe, exNn] at c26
    repeat' ((conv => whnf); first | refine Rng.g ?_ | refine Ob.g ?_ | refine Ob.e ?_ | refine Ob.m ?_ | refine Ob.mk (Nat.le_of_ble_eq_true rfl) ?_ | refine JoinVC.on ?_ | refine Nils.mk (fun h => ?_) ?_ | refine Val.t ?_ | refine Val.d ?_ | refine Mm.mk ?_ | (refine Br.mk (fun h => ?_) (fun h => ?_) <;> first | (exfalso; omega; done) | (exfalso; simp at h; done) | skip))
    conv => whnf
    first | refine CallVC.mk [0, 1, 2, 3, 4, 5] _ _ _ rfl rfl rfl (c30) (fun r m' h' => ?_) | refine CallVC0.same [0, 1, 2, 3, 4, 5] _ _ _ rfl rfl rfl rfl (c30) (fun r m' h' => (by obtain ⟨rfl, rfl⟩ := h'; rfl)) (fun r m' h' => ?_)
    obtain ⟨rfl, rfl⟩ := h'
    conv => whnf
    repeat' ((conv => whnf); first | refine Rng.g ?_ | refine Ob.g ?_ | refine Ob.e ?_ | refine Ob.m ?_ | refine Ob.mk (Nat.le_of_ble_eq_true rfl) ?_ | refine JoinVC.on ?_ | refine Nils.mk (fun h => ?_) ?_ | refine Val.t ?_ | refine Val.d ?_ | refine Mm.mk ?_ | (refine Br.mk (fun h => ?_) (fun h => ?_) <;> first | (exfalso; omega; done) | (exfalso; simp at h; done) | skip))
    conv => whnf
    first | refine CallVC.mk [0, 1, 2, 3, 4, 5] _ _ _ rfl rfl rfl (c39) (fun r m' h' => ?_) | refine CallVC0.same [0, 1, 2, 3, 4, 5] _ _ _ rfl rfl rfl rfl (c39) (fun r m' h' => (by obtain ⟨rfl, rfl⟩ := h'; rfl)) (fun r m' h' => ?_)
    obtain ⟨rfl, rfl⟩ := h'
    conv => whnf
    repeat' ((conv => whnf); first | refine Rng.g ?_ | refine Ob.g ?_ | refine Ob.e ?_ | refine Ob.m ?_ | refine Ob.mk (Nat.le_of_ble_eq_true rfl) ?_ | refine JoinVC.on ?_ | refine Nils.mk (fun h => ?_) ?_ | refine Val.t ?_ | refine Val.d ?_ | refine Mm.mk ?_ | (refine Br.mk (fun h => ?_) (fun h => ?_) <;> first | (exfalso; omega; done) | (exfalso; simp at h; done) | skip))
    conv => whnf
    first | refine CallVC.mk [0, 1, 2, 3, 4, 5] _ _ _ rfl rfl rfl (c26) (fun r m' h' => ?_) | refine CallVC0.same [0, 1, 2, 3, 4, 5] _ _ _ rfl rfl rfl rfl (c26) (fun r m' h' => (by obtain ⟨rfl, rfl⟩ := h'; rfl)) (fun r m' h' => ?_)
    obtain ⟨rfl, rfl⟩ := h'
    conv => whnf
    repeat' ((conv => whnf); first | refine Rng.g ?_ | refine Ob.g ?_ | refine Ob.e ?_ | refine Ob.m ?_ | refine Ob.mk (Nat.le_of_ble_eq_true rfl) ?_ | refine JoinVC.on ?_ | refine Nils.mk (fun h => ?_) ?_ | refine Val.t ?_ | refine Val.d ?_ | refine Mm.mk ?_ | refine CallVC.pure rfl (q1) ?_ | refine CallVC.pure rfl (q2) ?_ | refine CallVC0.pure rfl (q1) ?_ | refine CallVC0.pure rfl (q2) ?_ | (refine Br.mk (fun h => ?_) (fun h => ?_) <;> first | (exfalso; omega; done) | (exfalso; simp at h; done) | skip))
    repeat refine Mm.mk ?_
    refine EndVC.mk _ rfl _ _ ⟨rfl, rfl⟩ ?_
    refine ⟨[], rfl, rfl, ?_, ?_⟩ <;> repeat' (first | exact trivial | exact rfl | exact Iff.rfl | apply And.intro)
theorem s17 : PSpec Try.prog 17 [] (.x (.one .tt)) := s17p.tt rfl
/-! ### A shop after some acts -/
theorem doN_no {S : Sho} {a : Act2} (h : ¬ doE S a = 0) : doN S a = 0 := if_neg h
def aftS (r : Rcp) (l : List Act2) : Sho := repS (shop0 r) l l.length
theorem aft_ok {r : Rcp} (h : RcpOK r) (l : List Act2) : ShOK (aftS r l) := ShOK.repS (ShOK.new h) l _
theorem s18 (r : Rcp) (l : List Act2) (hr : RcpOK r) (hl : l.length ≤ 1000000) : HSpec Try.prog 18 [r.x, .one (.lst true KAc (acA l))] [] (fun v m' => ∃ ms, MsOK ms (aftS r l).be ∧ v = .tup [.one (.ptr 0 0), .one .tt] ∧ m' = shK (aftS r l) ms) := by
  have c20 := s20 r hr
  have ll := acA_len l
  have hS := ShOK.repS (ShOK.new hr) l
  refine spec_of pMix (O := []) Try.func18 (c := bodyOf Try.f18) rfl (by kernel_rfl) (by kernel_rfl) Try.ntmps18 (res := [.tmp 4, .tmp 5]) (by kernel_rfl) ?_
  repeat' ((conv => whnf); first | refine Rng.g ?_ | refine Ob.g ?_ | refine Ob.e ?_ | refine Ob.m ?_ | refine Ob.mk (Nat.le_of_ble_eq_true rfl) ?_ | refine JoinVC.on ?_ | refine Nils.mk (fun h => ?_) ?_ | refine Val.t ?_ | refine Val.d ?_ | refine Mm.mk ?_ | (refine Br.mk (fun h => ?_) (fun h => ?_) <;> first | (exfalso; omega; done) | (exfalso; simp at h; done) | skip))
  conv => whnf
  first | refine CallVC.mk [] _ _ _ rfl rfl rfl (c20) (fun r m' h' => ?_) | refine CallVC0.same [] _ _ _ rfl rfl rfl rfl (c20) (fun r m' h' => (by obtain ⟨rfl, rfl⟩ := h'; rfl)) (fun r m' h' => ?_)
  obtain ⟨rfl, rfl⟩ := h'
  conv => whnf
  repeat' ((conv => whnf); first | refine Rng.g ?_ | refine Ob.g ?_ | refine Ob.e ?_ | refine Ob.m ?_ | refine Ob.mk (Nat.le_of_ble_eq_true rfl) ?_ | refine JoinVC.on ?_ | refine Nils.mk (fun h => ?_) ?_ | refine Val.t ?_ | refine Val.d ?_ | refine Mm.mk ?_ | (refine Br.mk (fun h => ?_) (fun h => ?_) <;> first | (exfalso; omega; done) | (exfalso; simp at h; done) | skip))
  refine LoopVC.mk (fun n st => ∃ (i : Nat) (ms : List MS), i ≤ l.length ∧ MsOK ms (repS (shop0 r) l i).be ∧ n = l.length - i ∧ st = ⟨0, envA 45 [(1, .x (.one (.lst true KAc (acA l)))), (6, .x (.one (.ptr 0 0))), (8, .int .i64 (i : Int))], shK (repS (shop0 r) l i) ms⟩) _ _ ⟨0, [], Nat.zero_le _, MsOK.new, rfl, rfl⟩ ?_ ?_
  · refine ⟨[some 1, some 2, some 3, some 4, some 5, some 6], rfl, rfl, ?_, ?_⟩ <;> repeat' (first | exact trivial | exact rfl | exact Iff.rfl | apply And.intro)
  rintro n _ ⟨i, ms, hi, hM, hn, rfl⟩
  by_cases h' : i < l.length
  · have c21 : HSpec Try.prog 21 [.one (.ptr 0 0), acX (acA l) (i : Int).toNat] (shM (repS (shop0 r) l i) ms) (DoR (repS (shop0 r) l i) (l.getD i ac0)) := by
      rw [Int.toNat_natCast, acX_eq]
      exact s21 _ ms (hS i) hM _
    repeat' ((conv => whnf); first | refine Rng.g ?_ | refine Ob.g ?_ | refine Ob.e ?_ | refine Ob.m ?_ | refine Ob.mk (Nat.le_of_ble_eq_true rfl) ?_ | refine JoinVC.on ?_ | refine Nils.mk (fun h => ?_) ?_ | refine Val.t ?_ | refine Val.d ?_ | refine Mm.mk ?_ | (refine Br.mk (fun h => ?_) (fun h => ?_) <;> first | (exfalso; omega; done) | (exfalso; simp at h; done) | skip))
    conv => whnf
    first | refine CallVC.mk [0, 1, 2, 3, 4, 5] _ _ _ rfl rfl rfl (c21) (fun r m' h' => ?_) | refine CallVC0.same [0, 1, 2, 3, 4, 5] _ _ _ rfl rfl rfl rfl (c21) (fun r m' h' => (by obtain ⟨ms', hM', rfl, rfl⟩ := h'; rfl)) (fun r m' h' => ?_)
    obtain ⟨ms', hM', rfl, rfl⟩ := h'
    conv => whnf
    repeat' ((conv => whnf); first | refine Rng.g ?_ | refine Ob.g ?_ | refine Ob.e ?_ | refine Ob.m ?_ | refine Ob.mk (Nat.le_of_ble_eq_true rfl) ?_ | refine JoinVC.on ?_ | refine Nils.mk (fun h => ?_) ?_ | refine Val.t ?_ | refine Val.d ?_ | refine Mm.mk ?_ | (refine Br.mk (fun h => ?_) (fun h => ?_) <;> first | (exfalso; omega; done) | (exfalso; simp at h; done) | skip))
    · exact absurd (doN_no ‹_›) ‹_›
    all_goals
      refine Back.mk (l.length - (i + 1)) _ (by omega) ⟨i + 1, ms', by omega, hM', rfl, rfl⟩ ?_
      refine ⟨[some 0, some 6, some 2, some 7, some 8, some 9], rfl, rfl, ?_, ?_⟩ <;> repeat' (first | exact trivial | exact rfl | exact Iff.rfl | apply And.intro)
  · obtain rfl : i = l.length := by omega
    repeat' ((conv => whnf); first | refine Rng.g ?_ | refine Ob.g ?_ | refine Ob.e ?_ | refine Ob.m ?_ | refine Ob.mk (Nat.le_of_ble_eq_true rfl) ?_ | refine JoinVC.on ?_ | refine Nils.mk (fun h => ?_) ?_ | refine Val.t ?_ | refine Val.d ?_ | refine Mm.mk ?_ | (refine Br.mk (fun h => ?_) (fun h => ?_) <;> first | (exfalso; omega; done) | (exfalso; simp at h; done) | skip))
    repeat refine Mm.mk ?_
    conv => whnf
    refine EndVC.mk _ rfl _ _ (⟨ms, hM, rfl, rfl⟩) ?_
    refine ⟨[some 0, some 1, some 2, some 3, some 4, some 5], rfl, rfl, ?_, ?_⟩ <;> repeat' (first | exact trivial | exact rfl | exact Iff.rfl | apply And.intro)
end Go.Sx

namespace Go.Sx
open Go Go.Proofs
set_option maxRecDepth 10000
set_option maxHeartbeats 8000000
/-! ### Which lists are lines -/
theorem s77 (xs ys : List Int) (hx : xs.length ≤ 1000000) : PSpec Try.prog 77 [.one (.lst true [.int .i64] (i64s xs)), .one (.lst true [.int .i64] (i64s ys))] (xP (xs = ys)) := by
  have lx := i64s_len xs
  have ly := i64s_len ys
  by_cases hl : xs.length = ys.length
  · refine spec_of pMix (O := []) Try.func77 (c := bodyOf Try.f77) rfl (by kernel_rfl) (by kernel_rfl) Try.ntmps77 (res := [.tmp 4]) (by kernel_rfl) ?_
    repeat' ((conv => whnf); first | refine Rng.g ?_ | refine Ob.g ?_ | refine Ob.e ?_ | refine Ob.m ?_ | refine Ob.mk (Nat.le_of_ble_eq_true rfl) ?_ | refine JoinVC.on ?_ | refine Nils.mk (fun h => ?_) ?_ | refine Val.t ?_ | refine Val.d ?_ | refine Mm.mk ?_ | (refine Br.mk (fun h => ?_) (fun h => ?_) <;> first | (exfalso; omega; done) | (exfalso; simp at h; done) | skip))
    refine LoopVC.mk (fun n st => ∃ (i : Nat), i ≤ xs.length ∧ n = xs.length - i ∧ (∀ j, j < i → xs.getD j 0 = ys.getD j 0) ∧ st = ⟨0, envA 26 [(0, .x (.one (.lst true [.int .i64] (i64s xs)))), (1, .x (.one (.lst true [.int .i64] (i64s ys)))), (12, .int .i64 (xs.length : Int)), (13, .int .i64 (i : Int))], []⟩) _ _ ⟨0, Nat.zero_le _, rfl, fun j hj => absurd hj (Nat.not_lt_zero j), rfl⟩ ?_ ?_
    · refine ⟨[], rfl, rfl, ?_, ?_⟩ <;> repeat' (first | exact trivial | exact rfl | exact Iff.rfl | apply And.intro)
      exact congrArg Int.ofNat lx
    rintro n _ ⟨i, hi, hn, hj, rfl⟩
    have g0 : rI (i64s xs) (i : Int).toNat 0 = xs.getD i 0 := by rw [Int.toNat_natCast, i64s_get]
    have g1 : rI (i64s ys) (i : Int).toNat 0 = ys.getD i 0 := by rw [Int.toNat_natCast, i64s_get]
    by_cases h' : i < xs.length
    · repeat' ((conv => whnf); first | rw [g0] | rw [g1] | refine Rng.g ?_ | refine Ob.g ?_ | refine Ob.e ?_ | refine Ob.m ?_ | refine Ob.mk (Nat.le_of_ble_eq_true rfl) ?_ | refine JoinVC.on ?_ | refine Nils.mk (fun h => ?_) ?_ | refine Val.t ?_ | refine Val.d ?_ | refine Mm.mk ?_ | (refine Br.mk (fun h => ?_) (fun h => ?_) <;> first | (exfalso; omega; done) | (exfalso; simp at h; done) | skip))
      · repeat refine Mm.mk ?_
        refine EndVC.mk _ rfl _ _ ⟨rfl, rfl⟩ ?_
        refine ⟨[], rfl, rfl, ?_, ?_⟩ <;> repeat' (first | exact trivial | exact rfl | exact Iff.rfl | apply And.intro)
        exact fun hc => h (by rw [hc])
      · refine Back.mk (xs.length - (i + 1)) _ (by omega) ⟨i + 1, by omega, rfl, fun j hj' => ?_, rfl⟩ ?_
        · rcases Nat.lt_succ_iff_lt_or_eq.1 hj' with h1 | rfl
          · exact hj j h1
          · exact Classical.not_not.1 h
        · refine ⟨[], rfl, rfl, ?_, ?_⟩ <;> repeat' (first | exact trivial | exact rfl | exact Iff.rfl | apply And.intro)
    · obtain rfl : i = xs.length := by omega
      repeat' ((conv => whnf); first | refine Rng.g ?_ | refine Ob.g ?_ | refine Ob.e ?_ | refine Ob.m ?_ | refine Ob.mk (Nat.le_of_ble_eq_true rfl) ?_ | refine JoinVC.on ?_ | refine Nils.mk (fun h => ?_) ?_ | refine Val.t ?_ | refine Val.d ?_ | refine Mm.mk ?_ | (refine Br.mk (fun h => ?_) (fun h => ?_) <;> first | (exfalso; omega; done) | (exfalso; simp at h; done) | skip))
      repeat refine Mm.mk ?_
      refine EndVC.mk _ rfl _ _ ⟨rfl, rfl⟩ ?_
      refine ⟨[], rfl, rfl, ?_, ?_⟩ <;> repeat' (first | exact trivial | exact rfl | exact Iff.rfl | apply And.intro)
      exact (List.ext_getElem hl fun k h1 h2 => by
        have := hj k h1
        rwa [List.getD_eq_getElem?_getD, List.getD_eq_getElem?_getD, List.getElem?_eq_getElem h1, List.getElem?_eq_getElem h2] at this)
  · refine spec_of pMix (O := []) Try.func77 (c := bodyOf Try.f77) rfl (by kernel_rfl) (by kernel_rfl) Try.ntmps77 (res := [.tmp 4]) (by kernel_rfl) ?_
    repeat' ((conv => whnf); first | refine Rng.g ?_ | refine Ob.g ?_ | refine Ob.e ?_ | refine Ob.m ?_ | refine Ob.mk (Nat.le_of_ble_eq_true rfl) ?_ | refine JoinVC.on ?_ | refine Nils.mk (fun h => ?_) ?_ | refine Val.t ?_ | refine Val.d ?_ | refine Mm.mk ?_ | (refine Br.mk (fun h => ?_) (fun h => ?_) <;> first | (exfalso; omega; done) | (exfalso; simp at h; done) | skip))
    repeat refine Mm.mk ?_
    refine EndVC.mk _ rfl _ _ ⟨rfl, rfl⟩ ?_
    refine ⟨[], rfl, rfl, ?_, ?_⟩ <;> repeat' (first | exact trivial | exact rfl | exact Iff.rfl | apply And.intro)
    exact fun h => hl (congrArg List.length h)
/-- What CheckLine says of a list. -/
def chkE (S : Sho) (xs : List Int) : Int := if ∃ j, j < xs.length ∧ ¬ inP S (xs.getD j 0) then 5 else if xs = [] ∨ xs ≠ (S.up (xs.getD (xs.length - 1) 0)).reverse then 16 else 0
theorem s31_in (S : Sho) (ms : List MS) (hS : ShOK S) (xs : List Int) (hl : xs.length ≤ 1000000) : HSpec Try.prog 31 [.one (.ptr 0 0), .one (.lst true [.int .i64] (i64s xs))] (shM S ms) (fun r m' => r = .x (I (chkE S xs)) ∧ m' = shK S ms) := by
  have lx := i64s_len xs
  have c53 := s53 S ms
  refine spec_of pMix (O := []) Try.func31 (c := bodyOf Try.f31) rfl (by kernel_rfl) (by kernel_rfl) Try.ntmps31 (res := [.tmp 4]) (by kernel_rfl) ?_
  repeat' ((conv => whnf); first | refine Rng.g ?_ | refine Ob.g ?_ | refine Ob.e ?_ | refine Ob.m ?_ | refine Ob.mk (Nat.le_of_ble_eq_true rfl) ?_ | refine JoinVC.on ?_ | refine Nils.mk (fun h => ?_) ?_ | refine Val.t ?_ | refine Val.d ?_ | refine Mm.mk ?_ | (refine Br.mk (fun h => ?_) (fun h => ?_) <;> first | (exfalso; omega; done) | (exfalso; simp at h; done) | skip))
  conv => whnf
  first | refine CallVC.mk [0, 1, 2, 3, 4, 5] _ _ _ rfl rfl rfl (c53) (fun r m' h' => ?_) | refine CallVC0.same [0, 1, 2, 3, 4, 5] _ _ _ rfl rfl rfl rfl (c53) (fun r m' h' => (by obtain ⟨rfl, rfl⟩ := h'; rfl)) (fun r m' h' => ?_)
  obtain ⟨rfl, rfl⟩ := h'
  conv => whnf
  repeat' ((conv => whnf); first | refine Rng.g ?_ | refine Ob.g ?_ | refine Ob.e ?_ | refine Ob.m ?_ | refine Ob.mk (Nat.le_of_ble_eq_true rfl) ?_ | refine JoinVC.on ?_ | refine Nils.mk (fun h => ?_) ?_ | refine Val.t ?_ | refine Val.d ?_ | refine Mm.mk ?_ | (refine Br.mk (fun h => ?_) (fun h => ?_) <;> first | (exfalso; omega; done) | (exfalso; simp at h; done) | skip))
  refine LoopVC.mk (fun n st => ∃ (i : Nat), i ≤ xs.length ∧ n = xs.length - i ∧ (∀ j, j < i → inP S (xs.getD j 0)) ∧ st = ⟨6, envA 36 [(0, .x (.one (.ptr 0 0))), (1, .x (.one (.lst true [.int .i64] (i64s xs)))), (9, .x (.one (.lst true [.int .i64] (i64s xs)))), (10, .int .i64 (xs.length : Int)), (11, .int .i64 (i : Int))], shK S ms⟩) _ _ ⟨0, Nat.zero_le _, rfl, fun j hj => absurd hj (Nat.not_lt_zero j), rfl⟩ ?_ ?_
  · refine ⟨[some 0, some 1, some 2, some 3, some 4, some 5], rfl, rfl, ?_, ?_⟩ <;> repeat' (first | exact trivial | exact rfl | exact Iff.rfl | apply And.intro)
    exact congrArg Int.ofNat lx
  rintro n _ ⟨i, hi, hn, hj, rfl⟩
  have g0 : rI (i64s xs) (i : Int).toNat 0 = xs.getD i 0 := by rw [Int.toNat_natCast, i64s_get]
  by_cases h' : i < xs.length
  · have c63 := s63 S ms (xs.getD i 0)
    by_cases hin : inP S (xs.getD i 0)
    · rw [getR, if_pos hin] at c63
      repeat' ((conv => whnf); first | rw [g0] | refine Rng.g ?_ | refine Ob.g ?_ | refine Ob.e ?_ | refine Ob.m ?_ | refine Ob.mk (Nat.le_of_ble_eq_true rfl) ?_ | refine JoinVC.on ?_ | refine Nils.mk (fun h => ?_) ?_ | refine Val.t ?_ | refine Val.d ?_ | refine Mm.mk ?_ | (refine Br.mk (fun h => ?_) (fun h => ?_) <;> first | (exfalso; omega; done) | (exfalso; simp at h; done) | skip))
      conv => whnf
      first | refine CallVC.mk [0, 1, 2, 3, 4, 5] _ _ _ rfl rfl rfl (c63) (fun r m' h' => ?_) | refine CallVC0.same [0, 1, 2, 3, 4, 5] _ _ _ rfl rfl rfl rfl (c63) (fun r m' h' => (by obtain ⟨rfl, rfl⟩ := h'; rfl)) (fun r m' h' => ?_)
      obtain ⟨rfl, rfl⟩ := h'
      conv => whnf
      repeat' ((conv => whnf); first | refine Rng.g ?_ | refine Ob.g ?_ | refine Ob.e ?_ | refine Ob.m ?_ | refine Ob.mk (Nat.le_of_ble_eq_true rfl) ?_ | refine JoinVC.on ?_ | refine Nils.mk (fun h => ?_) ?_ | refine Val.t ?_ | refine Val.d ?_ | refine Mm.mk ?_ | (refine Br.mk (fun h => ?_) (fun h => ?_) <;> first | (exfalso; omega; done) | (exfalso; simp at h; done) | skip))
      refine Back.mk (xs.length - (i + 1)) _ (by omega) ⟨i + 1, by omega, rfl, fun j hj' => ?_, rfl⟩ ?_
      · rcases Nat.lt_succ_iff_lt_or_eq.1 hj' with h1 | rfl
        · exact hj j h1
        · exact hin
      · refine ⟨[some 0, some 1, some 2, some 3, some 4, some 5], rfl, rfl, ?_, ?_⟩ <;> repeat' (first | exact trivial | exact rfl | exact Iff.rfl | apply And.intro)
    · rw [getR, if_neg hin] at c63
      have hE : chkE S xs = 5 := by unfold chkE; rw [if_pos ⟨i, h', hin⟩]
      rw [hE]
      repeat' ((conv => whnf); first | rw [g0] | refine Rng.g ?_ | refine Ob.g ?_ | refine Ob.e ?_ | refine Ob.m ?_ | refine Ob.mk (Nat.le_of_ble_eq_true rfl) ?_ | refine JoinVC.on ?_ | refine Nils.mk (fun h => ?_) ?_ | refine Val.t ?_ | refine Val.d ?_ | refine Mm.mk ?_ | (refine Br.mk (fun h => ?_) (fun h => ?_) <;> first | (exfalso; omega; done) | (exfalso; simp at h; done) | skip))
      conv => whnf
      first | refine CallVC.mk [0, 1, 2, 3, 4, 5] _ _ _ rfl rfl rfl (c63) (fun r m' h' => ?_) | refine CallVC0.same [0, 1, 2, 3, 4, 5] _ _ _ rfl rfl rfl rfl (c63) (fun r m' h' => (by obtain ⟨rfl, rfl⟩ := h'; rfl)) (fun r m' h' => ?_)
      obtain ⟨rfl, rfl⟩ := h'
      conv => whnf
      repeat' ((conv => whnf); first | refine Rng.g ?_ | refine Ob.g ?_ | refine Ob.e ?_ | refine Ob.m ?_ | refine Ob.mk (Nat.le_of_ble_eq_true rfl) ?_ | refine JoinVC.on ?_ | refine Nils.mk (fun h => ?_) ?_ | refine Val.t ?_ | refine Val.d ?_ | refine Mm.mk ?_ | (refine Br.mk (fun h => ?_) (fun h => ?_) <;> first | (exfalso; omega; done) | (exfalso; simp at h; done) | skip))
      repeat refine Mm.mk ?_
      refine EndVC.mk _ rfl _ _ ⟨rfl, rfl⟩ ?_
      refine ⟨[some 0, some 1, some 2, some 3, some 4, some 5], rfl, rfl, ?_, ?_⟩ <;> repeat' (first | exact trivial | exact rfl | exact Iff.rfl | apply And.intro)
  · obtain rfl : i = xs.length := by omega
    have hne : ¬ ∃ j, j < xs.length ∧ ¬ inP S (xs.getD j 0) := fun ⟨j, h1, h2⟩ => h2 (hj j h1)
    by_cases h0 : xs = []
    · have hE : chkE S xs = 16 := by unfold chkE; rw [if_neg hne, if_pos (.inl h0)]
      have hl0 : xs.length = 0 := by rw [h0]; rfl
      rw [hE]
      repeat' ((conv => whnf); first | refine Rng.g ?_ | refine Ob.g ?_ | refine Ob.e ?_ | refine Ob.m ?_ | refine Ob.mk (Nat.le_of_ble_eq_true rfl) ?_ | refine JoinVC.on ?_ | refine Nils.mk (fun h => ?_) ?_ | refine Val.t ?_ | refine Val.d ?_ | refine Mm.mk ?_ | (refine Br.mk (fun h => ?_) (fun h => ?_) <;> first | (exfalso; omega; done) | (exfalso; simp at h; done) | skip))
      repeat refine Mm.mk ?_
      refine EndVC.mk _ rfl _ _ ⟨rfl, rfl⟩ ?_
      refine ⟨[some 0, some 1, some 2, some 3, some 4, some 5], rfl, rfl, ?_, ?_⟩ <;> repeat' (first | exact trivial | exact rfl | exact Iff.rfl | apply And.intro)
    · have hl1 : 0 < xs.length := List.length_pos_iff.2 h0
      have hlast := hj (xs.length - 1) (by omega)
      have gl : rI (i64s xs) (((i64s xs).length : Int) - 1).toNat 0 = xs.getD (xs.length - 1) 0 := by rw [show (((i64s xs).length : Int) - 1).toNat = xs.length - 1 by omega, i64s_get]
      unfold inP at hlast
      have c76 := s76 S ms hS _ hlast.1 hlast.2
      have c77 := s77 xs (S.up (xs.getD (xs.length - 1) 0)).reverse hl
      by_cases hq : xs = (S.up (xs.getD (xs.length - 1) 0)).reverse
      · have hE : chkE S xs = 0 := by unfold chkE; rw [if_neg hne, if_neg (by rintro (h | h); exact h0 h; exact h hq)]
        rw [hE]
        repeat' ((conv => whnf); first | rw [gl] | refine Rng.g ?_ | refine Ob.g ?_ | refine Ob.e ?_ | refine Ob.m ?_ | refine Ob.mk (Nat.le_of_ble_eq_true rfl) ?_ | refine JoinVC.on ?_ | refine Nils.mk (fun h => ?_) ?_ | refine Val.t ?_ | refine Val.d ?_ | refine Mm.mk ?_ | (refine Br.mk (fun h => ?_) (fun h => ?_) <;> first | (exfalso; omega; done) | (exfalso; simp at h; done) | skip))
        conv => whnf
        first | refine CallVC.mk [0, 1, 2, 3, 4, 5] _ _ _ rfl rfl rfl (c76) (fun r m' h' => ?_) | refine CallVC0.same [0, 1, 2, 3, 4, 5] _ _ _ rfl rfl rfl rfl (c76) (fun r m' h' => (by obtain ⟨rfl, rfl⟩ := h'; rfl)) (fun r m' h' => ?_)
        obtain ⟨rfl, rfl⟩ := h'
        conv => whnf
        repeat' ((conv => whnf); first | refine Rng.g ?_ | refine Ob.g ?_ | refine Ob.e ?_ | refine Ob.m ?_ | refine Ob.mk (Nat.le_of_ble_eq_true rfl) ?_ | refine JoinVC.on ?_ | refine Nils.mk (fun h => ?_) ?_ | refine Val.t ?_ | refine Val.d ?_ | refine Mm.mk ?_ | refine CallVC.pure rfl (c77) ?_ | refine CallVC0.pure rfl (c77) ?_ | (refine Br.mk (fun h => ?_) (fun h => ?_) <;> first | (exfalso; omega; done) | (exfalso; simp at h; done) | skip))
        all_goals first
          | exact absurd hq ‹_›
          | exact absurd ‹_› hq
          | skip
        repeat refine Mm.mk ?_
        refine EndVC.mk _ rfl _ _ ⟨rfl, rfl⟩ ?_
        refine ⟨[some 0, some 1, some 2, some 3, some 4, some 5], rfl, rfl, ?_, ?_⟩ <;> repeat' (first | exact trivial | exact rfl | exact Iff.rfl | apply And.intro)
      · have hE : chkE S xs = 16 := by unfold chkE; rw [if_neg hne, if_pos (.inr hq)]
        rw [hE]
        repeat' ((conv => whnf); first | rw [gl] | refine Rng.g ?_ | refine Ob.g ?_ | refine Ob.e ?_ | refine Ob.m ?_ | refine Ob.mk (Nat.le_of_ble_eq_true rfl) ?_ | refine JoinVC.on ?_ | refine Nils.mk (fun h => ?_) ?_ | refine Val.t ?_ | refine Val.d ?_ | refine Mm.mk ?_ | (refine Br.mk (fun h => ?_) (fun h => ?_) <;> first | (exfalso; omega; done) | (exfalso; simp at h; done) | skip))
        conv => whnf
        first | refine CallVC.mk [0, 1, 2, 3, 4, 5] _ _ _ rfl rfl rfl (c76) (fun r m' h' => ?_) | refine CallVC0.same [0, 1, 2, 3, 4, 5] _ _ _ rfl rfl rfl rfl (c76) (fun r m' h' => (by obtain ⟨rfl, rfl⟩ := h'; rfl)) (fun r m' h' => ?_)
        obtain ⟨rfl, rfl⟩ := h'
        conv => whnf
        repeat' ((conv => whnf); first | refine Rng.g ?_ | refine Ob.g ?_ | refine Ob.e ?_ | refine Ob.m ?_ | refine Ob.mk (Nat.le_of_ble_eq_true rfl) ?_ | refine JoinVC.on ?_ | refine Nils.mk (fun h => ?_) ?_ | refine Val.t ?_ | refine Val.d ?_ | refine Mm.mk ?_ | refine CallVC.pure rfl (c77) ?_ | refine CallVC0.pure rfl (c77) ?_ | (refine Br.mk (fun h => ?_) (fun h => ?_) <;> first | (exfalso; omega; done) | (exfalso; simp at h; done) | skip))
        all_goals first
          | exact absurd hq ‹_›
          | exact absurd ‹_› hq
          | skip
        repeat refine Mm.mk ?_
        refine EndVC.mk _ rfl _ _ ⟨rfl, rfl⟩ ?_
        refine ⟨[some 0, some 1, some 2, some 3, some 4, some 5], rfl, rfl, ?_, ?_⟩ <;> repeat' (first | exact trivial | exact rfl | exact Iff.rfl | apply And.intro)
end Go.Sx

namespace Go.Sx
open Go Go.Proofs
set_option maxRecDepth 10000
set_option maxHeartbeats 4000000
/-! ### What holds of the plates -/
theorem getD_last {α : Type} (l : List α) (q d : α) : (l ++ [q]).getD l.length d = q := by rw [getD_app, if_neg (Nat.lt_irrefl _), if_pos rfl]
def kids (l : List Pl) (i : Int) : Nat → Int
  | 0 => 0
  | k + 1 => kids l i k + (if (l.getD k p0).pa = i then 1 else 0)
theorem kids_congr {l m : List Pl} {i : Int} : ∀ {k : Nat}, (∀ j, j < k → (m.getD j p0).pa = (l.getD j p0).pa) → kids m i k = kids l i k
  | 0, _ => rfl
  | k + 1, h => by unfold kids; rw [kids_congr (fun j hj => h j (by omega)), h k (by omega)]
theorem kids_zero {l : List Pl} {i : Int} : ∀ {k : Nat}, (∀ j, j < k → (l.getD j p0).pa ≠ i) → kids l i k = 0
  | 0, _ => rfl
  | k + 1, h => by unfold kids; rw [kids_zero (fun j hj => h j (by omega)), if_neg (h k (by omega))]; rfl
/-- What a plate is to the others. -/
structure TreeP (r : Rcp) (l : List Pl) (i : Nat) (p : Pl) : Prop where
  root : p.kd = 0 → p.pa = -1 ∧ p.thick = 0
  sub : p.kd ≠ 0 → 0 ≤ p.pa ∧ (l.getD p.pa.toNat p0).kd + 1 = p.kd ∧ (l.getD p.pa.toNat p0).cut = p.cut ∧ (l.getD p.pa.toNat p0).area = p.area ∧ r.thin p.kd ≤ p.thick ∧ p.thick ≤ r.thk p.kd
  kids : p.grown = kids l i l.length
  cap : p.grown ≤ capP r p.kd
  lacq : p.kd = 0 → 0 < p.grown → p.ret = true
def Tree (S : Sho) : Prop := ∀ i, i < S.pl.length → TreeP S.r S.pl i (S.pl.getD i p0)
theorem Tree.new (r : Rcp) : Tree (shop0 r) := fun i hi => by simp at hi
/-- Plates that are changed where the others do not look. -/
theorem TreeP.same {r : Rcp} {l m : List Pl} {i : Nat} {p : Pl} (h : TreeP r l i p) (hl : m.length = l.length) (hs : ∀ j, (m.getD j p0).kd = (l.getD j p0).kd ∧ (m.getD j p0).pa = (l.getD j p0).pa ∧ (m.getD j p0).cut = (l.getD j p0).cut ∧ (m.getD j p0).area = (l.getD j p0).area) : TreeP r m i p := by
  refine ⟨h.root, fun hk => ?_, ?_, h.cap, h.lacq⟩
  · obtain ⟨q1, q2, q3, q4, q5⟩ := h.sub hk
    obtain ⟨s1, s2, s3, s4⟩ := hs p.pa.toNat
    rw [s1, s3, s4]
    exact ⟨q1, q2, q3, q4, q5⟩
  · rw [h.kids, hl]
    exact (kids_congr fun j _ => (hs j).2.1).symm
/-- A plate more. -/
theorem TreeP.more {r : Rcp} {l : List Pl} {i : Nat} {p q : Pl} (h : TreeP r l i p) (hi : i < l.length) (hpa : p.pa < i) (hq : q.pa ≠ i) : TreeP r (l ++ [q]) i p := by
  refine ⟨h.root, fun hk => ?_, ?_, h.cap, h.lacq⟩
  · obtain ⟨q1, q2, q3, q4, q5⟩ := h.sub hk
    rw [getD_app, if_pos (by omega)]
    exact ⟨q1, q2, q3, q4, q5⟩
  · rw [h.kids, List.length_append, List.length_singleton]
    conv => rhs; unfold Go.Sx.kids
    rw [getD_last, if_neg hq, Int.add_zero]
    exact (kids_congr fun j hj => by rw [getD_app, if_pos hj]).symm
theorem Tree.doS {S : Sho} (hS : ShOK S) (hT : Tree S) (a : Act2) : Tree (doS S a) := by
  unfold Go.Sx.doS
  split
  case isFalse => exact hT
  rename_i hE
  unfold doE at hE
  split at hE
  · cases hE
  split at hE
  case isFalse => cases hE
  rename_i ha
  have hk := ha.kd
  have hpa : ∀ j, j < S.pl.length → -1 ≤ (S.pl.getD j p0).pa ∧ (S.pl.getD j p0).pa < j := fun j hj => (hS.pl j hj).pa
  rcases (show a.kd = 1 ∨ a.kd = 2 ∨ a.kd = 3 ∨ a.kd = 4 ∨ a.kd = 5 ∨ a.kd = 6 by omega) with h | h | h | h | h | h
  · have hs : actS S a = { S with pl := S.pl ++ [⟨0, -1, a.cut, a.area, 0, 0, false⟩], be := S.be ++ [[]] } := by unfold actS; rw [if_pos h]
    rw [hs]
    intro i hi
    dsimp only at hi ⊢
    simp only [List.length_append, List.length_singleton] at hi
    rw [getD_app]
    split
    · exact (hT i ‹_›).more ‹_› (hpa i ‹_›).2 (by simp only []; omega)
    · have e : i = S.pl.length := by omega
      subst e
      rw [if_pos rfl]
      refine ⟨fun _ => ⟨rfl, rfl⟩, fun hc => absurd rfl hc, ?_, ?_, fun _ hc => absurd hc (by simp)⟩
      · refine (kids_zero fun j hj => ?_).symm
        simp only [List.length_append, List.length_singleton] at hj
        rw [getD_app]
        split
        · have := hpa j ‹_›
          omega
        · rw [if_pos (by omega)]; simp only []; omega
      · simp only [capP, if_true]; omega
  · have hs : actS S a = { S with tk := S.tk ++ [⟨a.stock, a.yd, 0, 0⟩] } := by unfold actS; rw [if_neg (by omega), if_pos h]
    rw [hs]
    exact hT
  · have hs : actS S a = { S with pl := (S.pl ++ [newP S a]).set a.plate.toNat (oldP (S.p a.plate)), be := S.be ++ [S.b a.plate], tk := S.tk.set a.bath.toNat (newT S a) } := by unfold actS; rw [if_neg (by omega), if_neg (by omega), if_pos h]
    have hG : groE S a = 0 := by unfold actE at hE; rwa [if_neg (by omega), if_neg (by omega), if_pos h] at hE
    have h1 : herE S a = 0 := by
      unfold groE at hG
      split at hG
      · exact hG
      · exact Classical.byContradiction ‹_›
    have h2 : layE S a = 0 := by unfold groE at hG; rwa [if_neg (by omega)] at hG
    have hth : S.r.thin ((S.p a.plate).kd + 1) ≤ thkM S a ∧ thkM S a ≤ S.r.thk ((S.p a.plate).kd + 1) := by
      unfold layE at h2
      split at h2
      · cases h2
      · omega
    obtain ⟨hi, hb, hret, h256, hkd, hcap⟩ := herE_0 hS h1
    unfold inP at hi
    obtain ⟨hi1, hi2⟩ := hi
    have hpo := hS.pl a.plate.toNat (by omega)
    have hk0 : 0 ≤ (S.p a.plate).kd := hpo.kd.1
    have hg0 : 0 ≤ (S.p a.plate).grown := hpo.grown.1
    rw [hs]
    intro i hi
    dsimp only at hi ⊢
    simp only [List.length_set, List.length_append, List.length_singleton] at hi
    have hsame : ∀ j, (((S.pl ++ [newP S a]).set a.plate.toNat (oldP (S.p a.plate))).getD j p0).kd = ((S.pl ++ [newP S a]).getD j p0).kd ∧ (((S.pl ++ [newP S a]).set a.plate.toNat (oldP (S.p a.plate))).getD j p0).pa = ((S.pl ++ [newP S a]).getD j p0).pa ∧ (((S.pl ++ [newP S a]).set a.plate.toNat (oldP (S.p a.plate))).getD j p0).cut = ((S.pl ++ [newP S a]).getD j p0).cut ∧ (((S.pl ++ [newP S a]).set a.plate.toNat (oldP (S.p a.plate))).getD j p0).area = ((S.pl ++ [newP S a]).getD j p0).area := fun j => by
      rw [getD_set]
      split
      · rename_i hq
        obtain ⟨rfl, _⟩ := hq
        rw [getD_app, if_pos (by omega)]
        exact ⟨rfl, rfl, rfl, rfl⟩
      · exact ⟨rfl, rfl, rfl, rfl⟩
    refine TreeP.same (l := S.pl ++ [newP S a]) ?_ (List.length_set ..) hsame
    rw [getD_set]
    split
    · rename_i hq
      obtain ⟨rfl, _⟩ := hq
      have ht := hT a.plate.toNat (by omega)
      have hq : TreeP S.r S.pl a.plate.toNat (S.p a.plate) := ht
      refine ⟨hq.root, fun hk' => ?_, ?_, ?_, fun hk' _ => ?_⟩
      · obtain ⟨q1, q2, q3, q4, q5⟩ := hq.sub hk'
        have := hpo.pa
        have hpl : (S.p a.plate).pa < a.plate.toNat := this.2
        simp only [oldP] at *
        rw [getD_app, if_pos (by omega)]
        exact ⟨q1, q2, q3, q4, q5⟩
      · have e1 : (newP S a).pa = ((a.plate.toNat : Nat) : Int) := by simp only [newP]; omega
        rw [List.length_append, List.length_singleton]
        unfold Go.Sx.kids
        rw [getD_last, if_pos e1]
        have hk2 := hq.kids
        simp only [oldP]
        rw [hk2]
        congr 1
        exact (kids_congr fun j hj => by rw [getD_app, if_pos hj]).symm
      · simp only [oldP]; omega
      · simp only [oldP] at hk' ⊢
        exact decide_eq_true hk'
    · rename_i hne
      rw [getD_app]
      split
      · rename_i hil
        refine (hT i hil).more hil (hpa i hil).2 ?_
        simp only [newP]
        rintro hc
        exact hne ⟨by omega, by simp; omega⟩
      · have e : i = S.pl.length := by omega
        subst e
        rw [if_pos rfl]
        refine ⟨fun hc => ?_, fun _ => ?_, ?_, ?_, fun _ hc => absurd hc (by simp [newP])⟩
        · simp only [newP] at hc; omega
        · simp only [newP]
          rw [getD_app, if_pos (by omega)]
          exact ⟨hi1, rfl, rfl, rfl, hth⟩
        · refine (kids_zero fun j hj => ?_).symm
          simp only [List.length_append, List.length_singleton] at hj
          rw [getD_app]
          split
          · have := hpa j ‹_›
            omega
          · rw [if_pos (by omega)]; simp only [newP]; omega
        · have hmo := hS.r.mo
          have hsp := hS.r.sp
          simp only [newP]
          unfold capP
          (repeat' split) <;> omega
  · have hs : actS S a = { S with fl := S.fl ++ [(a.plate, a.place)], be := S.be.set a.plate.toNat (S.b a.plate ++ [(S.fl.length : Int)]) } := by unfold actS; rw [if_neg (by omega), if_neg (by omega), if_neg (by omega), if_pos h]
    rw [hs]
    exact hT
  · have hs : actS S a = { S with be := S.be.set a.plate.toNat ((S.b a.plate).filter fun x => decide (x ≠ a.flaw)) } := by unfold actS; rw [if_neg (by omega), if_neg (by omega), if_neg (by omega), if_neg (by omega), if_pos h]
    rw [hs]
    exact hT
  · have hs : actS S a = { S with pl := S.pl.set a.plate.toNat (retP (S.p a.plate)) } := by unfold actS; rw [if_neg (by omega), if_neg (by omega), if_neg (by omega), if_neg (by omega), if_neg (by omega)]
    rw [hs]
    intro i hi
    dsimp only at hi ⊢
    rw [List.length_set] at hi
    have hsame : ∀ j, ((S.pl.set a.plate.toNat (retP (S.p a.plate))).getD j p0).kd = (S.pl.getD j p0).kd ∧ ((S.pl.set a.plate.toNat (retP (S.p a.plate))).getD j p0).pa = (S.pl.getD j p0).pa ∧ ((S.pl.set a.plate.toNat (retP (S.p a.plate))).getD j p0).cut = (S.pl.getD j p0).cut ∧ ((S.pl.set a.plate.toNat (retP (S.p a.plate))).getD j p0).area = (S.pl.getD j p0).area := fun j => by
      rw [getD_set]
      split
      · rename_i hq
        obtain ⟨rfl, _⟩ := hq
        exact ⟨rfl, rfl, rfl, rfl⟩
      · exact ⟨rfl, rfl, rfl, rfl⟩
    refine TreeP.same (l := S.pl) ?_ (List.length_set ..) hsame
    rw [getD_set]
    split
    · rename_i hq
      obtain ⟨rfl, hq2⟩ := hq
      have ht : TreeP S.r S.pl a.plate.toNat (S.p a.plate) := hT a.plate.toNat hq2
      exact ⟨ht.root, ht.sub, ht.kids, ht.cap, fun _ _ => rfl⟩
    · exact hT i hi
theorem Tree.repS {S : Sho} (hS : ShOK S) (hT : Tree S) (l : List Act2) : ∀ i, Tree (Go.Sx.repS S l i)
  | 0 => hT
  | i + 1 => Tree.doS (ShOK.repS hS l i) (Tree.repS hS hT l i) _
theorem aft_tree {r : Rcp} (h : RcpOK r) (l : List Act2) : Tree (aftS r l) := Tree.repS (ShOK.new h) (Tree.new r) l _
end Go.Sx

namespace Go.Sx
open Go Go.Proofs
set_option maxRecDepth 10000
set_option maxHeartbeats 8000000
theorem e7 : EntersF Try.prog 7 := enters_of Try.func7 (c := bodyOf Try.f7) (by kernel_rfl) rfl
/-! ### Lines -/
/-- The line of a plate: from the plate up. -/
theorem up_cons {S : Sho} (hS : ShOK S) {i : Nat} (hi : i < S.pl.length) : S.up i = (i : Int) :: S.up (S.q i).pa := by
  have := up_step hS (i := (i : Int)) (by omega) (by omega)
  rw [this]
  show _ :: S.up (S.pl.getD (i : Int).toNat p0).pa = _
  rw [Int.toNat_natCast]; rfl
structure LineP (S : Sho) (i : Nat) (L : List Int) : Prop where
  len : (L.length : Int) = (S.q i).kd + 1
  last : L.getD (L.length - 1) 0 = (i : Int)
  pos : ∀ j, j < L.length → 0 ≤ L.getD j 0 ∧ L.getD j 0 < S.pl.length
  at' : ∀ j, j < L.length → (S.q (L.getD j 0).toNat).kd = (j : Int) ∧ (S.q (L.getD j 0).toNat).cut = (S.q i).cut ∧ (S.q (L.getD j 0).toNat).area = (S.q i).area
  root : (S.q (L.getD 0 0).toNat).pa = -1
  sub : ∀ j, j + 1 < L.length → (S.q (L.getD (j + 1) 0).toNat).pa = L.getD j 0 ∧ L.getD j 0 < L.getD (j + 1) 0
theorem line_ok {S : Sho} (hS : ShOK S) (hT : Tree S) : ∀ (n i : Nat), i < n → i < S.pl.length → LineP S i (S.up i).reverse
  | 0, _, h, _ => absurd h (Nat.not_lt_zero _)
  | n + 1, i, hn, hi => by
    have hp : PlOK S i (S.q i) := hS.pl i hi
    have ht : TreeP S.r S.pl i (S.q i) := hT i hi
    have hpa := hp.pa
    rw [up_cons hS hi, List.reverse_cons]
    by_cases hk : (S.q i).kd = 0
    · have e := (ht.root hk).1
      rw [up_neg (by omega)]
      have eq0 : ((i : Int)).toNat = i := Int.toNat_natCast i
      refine ⟨by rw [hk]; rfl, rfl, fun j hj => ?_, fun j hj => ?_, ?_, fun j hj => by simp at hj⟩
      · obtain rfl : j = 0 := by simpa using hj
        simp
        omega
      · obtain rfl : j = 0 := by simpa using hj
        simp [hk]
      · simp [e]
    · obtain ⟨q1, q2, q3, q4, _⟩ := ht.sub hk
      obtain ⟨p, hpN⟩ : ∃ p : Nat, (S.q i).pa = (p : Int) := ⟨(S.q i).pa.toNat, by omega⟩
      rw [hpN] at q2 q3 q4 hpa ⊢
      rw [Int.toNat_natCast] at q2 q3 q4
      have ih := line_ok hS hT n p (by omega) (by omega)
      have qe : S.pl.getD p p0 = S.q p := rfl
      rw [qe] at q2 q3 q4
      generalize (S.up (p : Int)).reverse = L at *
      have hlen := ih.len
      have hl0 : 0 < L.length := by have := (hS.pl p (by omega)).kd.1; have e : 0 ≤ (S.q p).kd := this; omega
      refine ⟨?_, ?_, fun j hj => ?_, fun j hj => ?_, ?_, fun j hj => ?_⟩
      · rw [List.length_append, List.length_singleton]; omega
      · rw [List.length_append, List.length_singleton, Nat.add_sub_cancel]; exact getD_last ..
      · rw [List.length_append, List.length_singleton] at hj
        rw [getD_app]
        split
        · exact ih.pos j ‹_›
        · rw [if_pos (by omega)]; omega
      · rw [List.length_append, List.length_singleton] at hj
        rw [getD_app]
        split
        · obtain ⟨a1, a2, a3⟩ := ih.at' j ‹_›
          exact ⟨a1, a2.trans q3, a3.trans q4⟩
        · rw [if_pos (by omega), Int.toNat_natCast]
          exact ⟨by omega, rfl, rfl⟩
      · rw [getD_app, if_pos hl0]; exact ih.root
      · rw [List.length_append, List.length_singleton] at hj
        rw [getD_app, getD_app, if_pos (show j < L.length by omega)]
        split
        · exact ih.sub j ‹_›
        · rw [if_pos (by omega), Int.toNat_natCast, hpN]
          have hl := ih.last
          rw [show L.length - 1 = j by omega] at hl
          exact ⟨hl.symm, by omega⟩
theorem chk_line {S : Sho} (hS : ShOK S) (hT : Tree S) {i : Nat} (hi : i < S.pl.length) : chkE S (S.up i).reverse = 0 := by
  have h := line_ok hS hT (i + 1) i (Nat.lt_succ_self _) hi
  unfold chkE
  rw [if_neg (fun ⟨j, h1, h2⟩ => h2 (h.pos j h1)), if_neg]
  rintro (h1 | h1)
  · have hlen := h.len
    rw [h1] at hlen
    have : 0 ≤ (S.q i).kd := (hS.pl i hi).kd.1
    simp at hlen
    omega
  · exact h1 (by rw [h.last])
theorem chk_last {S : Sho} {xs : List Int} {i : Int} (h : chkE S (xs ++ [i]) = 0) : xs ++ [i] = (S.up i).reverse := by
  unfold chkE at h
  split at h
  · cases h
  split at h
  · cases h
  · rename_i h2
    have e : (xs ++ [i]).getD ((xs ++ [i]).length - 1) 0 = i := by rw [List.length_append, List.length_singleton, Nat.add_sub_cancel]; exact getD_last ..
    rw [e] at h2
    exact Classical.byContradiction fun hc => h2 (.inr hc)
theorem doS_pl (S : Sho) (a : Act2) : (doS S a).pl.length ≤ S.pl.length + 1 := by
  unfold doS
  split
  · show (actS S a).pl.length ≤ _
    unfold actS
    (repeat' split) <;> simp
  · omega
theorem repS_pl (S : Sho) (l : List Act2) : ∀ i, (repS S l i).pl.length ≤ S.pl.length + i
  | 0 => Nat.le_refl _
  | i + 1 => by
    have := doS_pl (repS S l i) (l.getD i ac0)
    have := repS_pl S l i
    unfold repS
    omega
theorem aft_pl (r : Rcp) (l : List Act2) : (aftS r l).pl.length ≤ l.length := by
  have := repS_pl (shop0 r) l l.length
  simpa [aftS] using this
theorem s31_nil (S : Sho) (ms : List MS) : HSpec Try.prog 31 [.one (.ptr 0 0), .one .nils] (shM S ms) (fun r m' => r = .x (I 16) ∧ m' = shK S ms) := by
  have c53 := s53 S ms
  refine spec_of pMix (O := []) Try.func31 (c := bodyOf Try.f31) rfl (by kernel_rfl) (by kernel_rfl) Try.ntmps31 (res := [.tmp 4]) (by kernel_rfl) ?_
  repeat' ((conv => whnf); first | refine Rng.g ?_ | refine Ob.g ?_ | refine Ob.e ?_ | refine Ob.m ?_ | refine Ob.mk (Nat.le_of_ble_eq_true rfl) ?_ | refine JoinVC.on ?_ | refine Nils.mk (fun h => ?_) ?_ | refine Val.t ?_ | refine Val.d ?_ | refine Mm.mk ?_ | (refine Br.mk (fun h => ?_) (fun h => ?_) <;> first | (exfalso; omega; done) | (exfalso; simp at h; done) | skip))
  conv => whnf
  first | refine CallVC.mk [0, 1, 2, 3, 4, 5] _ _ _ rfl rfl rfl (c53) (fun r m' h' => ?_) | refine CallVC0.same [0, 1, 2, 3, 4, 5] _ _ _ rfl rfl rfl rfl (c53) (fun r m' h' => (by obtain ⟨rfl, rfl⟩ := h'; rfl)) (fun r m' h' => ?_)
  obtain ⟨rfl, rfl⟩ := h'
  conv => whnf
  repeat' ((conv => whnf); first | refine Rng.g ?_ | refine Ob.g ?_ | refine Ob.e ?_ | refine Ob.m ?_ | refine Ob.mk (Nat.le_of_ble_eq_true rfl) ?_ | refine JoinVC.on ?_ | refine Nils.mk (fun h => ?_) ?_ | refine Val.t ?_ | refine Val.d ?_ | refine Mm.mk ?_ | (refine Br.mk (fun h => ?_) (fun h => ?_) <;> first | (exfalso; omega; done) | (exfalso; simp at h; done) | skip))
  refine LoopVC.mk (fun n st => n = 0 ∧ st = ⟨6, envA 36 [(0, .x (.one (.ptr 0 0))), (1, .x (.one .nils)), (9, .x (.one .nils)), (10, .int .i64 0), (11, .int .i64 0)], shK S ms⟩) _ _ ⟨rfl, rfl⟩ ?_ ?_
  · refine ⟨[some 0, some 1, some 2, some 3, some 4, some 5], rfl, rfl, ?_, ?_⟩ <;> repeat' (first | exact trivial | exact rfl | exact Iff.rfl | apply And.intro)
  rintro n _ ⟨hn, rfl⟩
  repeat' ((conv => whnf); first | refine Rng.g ?_ | refine Ob.g ?_ | refine Ob.e ?_ | refine Ob.m ?_ | refine Ob.mk (Nat.le_of_ble_eq_true rfl) ?_ | refine JoinVC.on ?_ | refine Nils.mk (fun h => ?_) ?_ | refine Val.t ?_ | refine Val.d ?_ | refine Mm.mk ?_ | (refine Br.mk (fun h => ?_) (fun h => ?_) <;> first | (exfalso; omega; done) | (exfalso; simp at h; done) | skip))
  repeat refine Mm.mk ?_
  refine EndVC.mk _ rfl _ _ ⟨rfl, rfl⟩ ?_
  refine ⟨[some 0, some 1, some 2, some 3, some 4, some 5], rfl, rfl, ?_, ?_⟩ <;> repeat' (first | exact trivial | exact rfl | exact Iff.rfl | apply And.intro)
theorem s7_any (r : Rcp) (l : List Act2) (zs : List Int) (h : 60 < l.length ∨ 10 < zs.length ∨ ¬ RcpOK r) : PSpec Try.prog 7 [r.x, .one (.lst true KAc (acA l)), .one (.lst true [.int .i64] (i64s zs))] (xP True) := by
  have ll := acA_len l
  have lz := i64s_len zs
  have c16 := s16 r
  have c17 := s17
  by_cases hl : 60 < l.length
  · refine spec_of pMix (O := []) Try.func7 (c := bodyOf Try.f7) rfl (by kernel_rfl) (by kernel_rfl) Try.ntmps7 (res := [.tmp 6]) (by kernel_rfl) ?_
    repeat' ((conv => whnf); first | refine Rng.g ?_ | refine Ob.g ?_ | refine Ob.e ?_ | refine Ob.m ?_ | refine Ob.mk (Nat.le_of_ble_eq_true rfl) ?_ | refine JoinVC.on ?_ | refine Nils.mk (fun h => ?_) ?_ | refine Val.t ?_ | refine Val.d ?_ | refine Mm.mk ?_ | refine CallVC.pure rfl (c17) ?_ | refine CallVC0.pure rfl (c17) ?_ | (refine Br.mk (fun h => ?_) (fun h => ?_) <;> first | (exfalso; omega; done) | (exfalso; simp at h; done) | skip))
    repeat refine Mm.mk ?_
    refine EndVC.mk _ rfl _ _ ⟨rfl, rfl⟩ ?_
    refine ⟨[], rfl, rfl, ?_, ?_⟩ <;> repeat' (first | exact trivial | exact rfl | exact Iff.rfl | apply And.intro)
  by_cases hz : 10 < zs.length
  · refine spec_of pMix (O := []) Try.func7 (c := bodyOf Try.f7) rfl (by kernel_rfl) (by kernel_rfl) Try.ntmps7 (res := [.tmp 6]) (by kernel_rfl) ?_
    repeat' ((conv => whnf); first | refine Rng.g ?_ | refine Ob.g ?_ | refine Ob.e ?_ | refine Ob.m ?_ | refine Ob.mk (Nat.le_of_ble_eq_true rfl) ?_ | refine JoinVC.on ?_ | refine Nils.mk (fun h => ?_) ?_ | refine Val.t ?_ | refine Val.d ?_ | refine Mm.mk ?_ | refine CallVC.pure rfl (c17) ?_ | refine CallVC0.pure rfl (c17) ?_ | (refine Br.mk (fun h => ?_) (fun h => ?_) <;> first | (exfalso; omega; done) | (exfalso; simp at h; done) | skip))
    repeat refine Mm.mk ?_
    refine EndVC.mk _ rfl _ _ ⟨rfl, rfl⟩ ?_
    refine ⟨[], rfl, rfl, ?_, ?_⟩ <;> repeat' (first | exact trivial | exact rfl | exact Iff.rfl | apply And.intro)
  · have hr : ¬ RcpOK r := (h.resolve_left hl).resolve_left hz
    unfold rcpE at c16
    rw [if_neg hr] at c16
    refine spec_of pMix (O := []) Try.func7 (c := bodyOf Try.f7) rfl (by kernel_rfl) (by kernel_rfl) Try.ntmps7 (res := [.tmp 6]) (by kernel_rfl) ?_
    repeat' ((conv => whnf); first | refine Rng.g ?_ | refine Ob.g ?_ | refine Ob.e ?_ | refine Ob.m ?_ | refine Ob.mk (Nat.le_of_ble_eq_true rfl) ?_ | refine JoinVC.on ?_ | refine Nils.mk (fun h => ?_) ?_ | refine Val.t ?_ | refine Val.d ?_ | refine Mm.mk ?_ | refine CallVC.pure rfl (c16) ?_ | refine CallVC.pure rfl (c17) ?_ | refine CallVC0.pure rfl (c16) ?_ | refine CallVC0.pure rfl (c17) ?_ | (refine Br.mk (fun h => ?_) (fun h => ?_) <;> first | (exfalso; omega; done) | (exfalso; simp at h; done) | skip))
    repeat refine Mm.mk ?_
    refine EndVC.mk _ rfl _ _ ⟨rfl, rfl⟩ ?_
    refine ⟨[], rfl, rfl, ?_, ?_⟩ <;> repeat' (first | exact trivial | exact rfl | exact Iff.rfl | apply And.intro)
theorem s7_ok (r : Rcp) (l : List Act2) (zs : List Int) (hl : l.length ≤ 60) (hz : zs.length ≤ 10) (hr : RcpOK r) : PSpec Try.prog 7 [r.x, .one (.lst true KAc (acA l)), .one (.lst true [.int .i64] (i64s zs))] (xP True) := by
  have ll := acA_len l
  have lz := i64s_len zs
  have c16 := s16 r
  have c17 := s17
  unfold rcpE at c16
  rw [if_pos hr] at c16
  have c18 := s18 r l hr (by omega)
  have hS := aft_ok hr l
  have hT := aft_tree hr l
  have hn60 := aft_pl r l
  generalize aftS r l = S at *
  have hpl := plA_len S.pl
  refine spec_of pMix (O := []) Try.func7 (c := bodyOf Try.f7) rfl (by kernel_rfl) (by kernel_rfl) Try.ntmps7 (res := [.tmp 6]) (by kernel_rfl) ?_
  repeat' ((conv => whnf); first | refine Rng.g ?_ | refine Ob.g ?_ | refine Ob.e ?_ | refine Ob.m ?_ | refine Ob.mk (Nat.le_of_ble_eq_true rfl) ?_ | refine JoinVC.on ?_ | refine Nils.mk (fun h => ?_) ?_ | refine Val.t ?_ | refine Val.d ?_ | refine Mm.mk ?_ | refine CallVC.pure rfl (c16) ?_ | refine CallVC0.pure rfl (c16) ?_ | (refine Br.mk (fun h => ?_) (fun h => ?_) <;> first | (exfalso; omega; done) | (exfalso; simp at h; done) | skip))
  conv => whnf
  first | refine CallVC.mk [] _ _ _ rfl rfl rfl (c18) (fun r m' h' => ?_) | refine CallVC0.same [] _ _ _ rfl rfl rfl rfl (c18) (fun r m' h' => (by obtain ⟨ms, hM, rfl, rfl⟩ := h'; rfl)) (fun r m' h' => ?_)
  obtain ⟨ms, hM, rfl, rfl⟩ := h'
  conv => whnf
  have c19 := s19 S ms hS
  repeat' ((conv => whnf); first | refine Rng.g ?_ | refine Ob.g ?_ | refine Ob.e ?_ | refine Ob.m ?_ | refine Ob.mk (Nat.le_of_ble_eq_true rfl) ?_ | refine JoinVC.on ?_ | refine Nils.mk (fun h => ?_) ?_ | refine Val.t ?_ | refine Val.d ?_ | refine Mm.mk ?_ | (refine Br.mk (fun h => ?_) (fun h => ?_) <;> first | (exfalso; omega; done) | (exfalso; simp at h; done) | skip))
  conv => whnf
  first | refine CallVC.mk [1, 2, 3, 4, 5, 6] _ _ _ rfl rfl rfl (c19) (fun r m' h' => ?_) | refine CallVC0.same [1, 2, 3, 4, 5, 6] _ _ _ rfl rfl rfl rfl (c19) (fun r m' h' => (by obtain ⟨rfl, rfl⟩ := h'; rfl)) (fun r m' h' => ?_)
  obtain ⟨rfl, rfl⟩ := h'
  conv => whnf
  repeat' ((conv => whnf); first | refine Rng.g ?_ | refine Ob.g ?_ | refine Ob.e ?_ | refine Ob.m ?_ | refine Ob.mk (Nat.le_of_ble_eq_true rfl) ?_ | refine JoinVC.on ?_ | refine Nils.mk (fun h => ?_) ?_ | refine Val.t ?_ | refine Val.d ?_ | refine Mm.mk ?_ | (refine Br.mk (fun h => ?_) (fun h => ?_) <;> first | (exfalso; omega; done) | (exfalso; simp at h; done) | skip))
  refine LoopVC.mk (fun m st => ∃ (i : Nat), i ≤ S.pl.length ∧ m = S.pl.length - i ∧ st = ⟨0, envA 200 [(2, .x (.one (.lst true [.int .i64] (i64s zs)))), (7, .x (.one (.ptr 0 0))), (9, .x (.one (.lst false KPl (plA S.pl)))), (10, .int .i64 (i : Int))], shK S ms⟩) _ _ ⟨0, Nat.zero_le _, rfl, rfl⟩ ?_ ?_
  · refine ⟨[some 1, some 2, some 3, some 4, some 5, some 6], rfl, rfl, ?_, ?_⟩ <;> repeat' (first | exact trivial | exact rfl | exact Iff.rfl | apply And.intro)
  rintro m _ ⟨i, hi, hm, rfl⟩
  by_cases h' : i < S.pl.length
  · have hL := line_ok hS hT (i + 1) i (Nat.lt_succ_self _) h'
    have c30 := s30_ok S ms hS (i : Int) ⟨by omega, by omega⟩
    have hck := chk_line hS hT h'
    have hk0 := (hS.pl i h').kd
    have hk : 0 ≤ (S.q i).kd ∧ (S.q i).kd ≤ 3 := hk0
    obtain ⟨L, hLd⟩ : ∃ L, (S.up i).reverse = L := ⟨_, rfl⟩
    rw [hLd] at c30 hck hL
    have lL := i64s_len L
    have hlen := hL.len
    have c31 := s31_in S ms hS L (by omega)
    rw [hck] at c31
    have g0 : rI (plA S.pl) (i : Int).toNat 0 = (S.q i).kd := by rw [Int.toNat_natCast]; exact pl_0 S.pl i
    have gl : rI (i64s L) (((i64s L).length : Int) - 1).toNat 0 = (i : Int) := by rw [show (((i64s L).length : Int) - 1).toNat = L.length - 1 by omega, i64s_get]; exact hL.last
    repeat' ((conv => whnf); first | refine Rng.g ?_ | refine Ob.g ?_ | refine Ob.e ?_ | refine Ob.m ?_ | refine Ob.mk (Nat.le_of_ble_eq_true rfl) ?_ | refine JoinVC.on ?_ | refine Nils.mk (fun h => ?_) ?_ | refine Val.t ?_ | refine Val.d ?_ | refine Mm.mk ?_ | (refine Br.mk (fun h => ?_) (fun h => ?_) <;> first | (exfalso; omega; done) | (exfalso; simp at h; done) | skip))
    conv => whnf
    first | refine CallVC.mk [0, 1, 2, 3, 4, 5] _ _ _ rfl rfl rfl (c30) (fun r m' h' => ?_) | refine CallVC0.same [0, 1, 2, 3, 4, 5] _ _ _ rfl rfl rfl rfl (c30) (fun r m' h' => (by obtain ⟨rfl, rfl⟩ := h'; rfl)) (fun r m' h' => ?_)
    obtain ⟨rfl, rfl⟩ := h'
    conv => whnf
    repeat' ((conv => whnf); first | rw [g0] | rw [gl] | refine Rng.g ?_ | refine Ob.g ?_ | refine Ob.e ?_ | refine Ob.m ?_ | refine Ob.mk (Nat.le_of_ble_eq_true rfl) ?_ | refine JoinVC.on ?_ | refine Nils.mk (fun h => ?_) ?_ | refine Val.t ?_ | refine Val.d ?_ | refine Mm.mk ?_ | (refine Br.mk (fun h => ?_) (fun h => ?_) <;> first | (exfalso; omega; done) | (exfalso; simp at h; done) | skip))
    conv => whnf
    first | refine CallVC.mk [0, 1, 2, 3, 4, 5] _ _ _ rfl rfl rfl (c31) (fun r m' h' => ?_) | refine CallVC0.same [0, 1, 2, 3, 4, 5] _ _ _ rfl rfl rfl rfl (c31) (fun r m' h' => (by obtain ⟨rfl, rfl⟩ := h'; rfl)) (fun r m' h' => ?_)
    obtain ⟨rfl, rfl⟩ := h'
    conv => whnf
    repeat' ((conv => whnf); first | refine Rng.g ?_ | refine Ob.g ?_ | refine Ob.e ?_ | refine Ob.m ?_ | refine Ob.mk (Nat.le_of_ble_eq_true rfl) ?_ | refine JoinVC.on ?_ | refine Nils.mk (fun h => ?_) ?_ | refine Val.t ?_ | refine Val.d ?_ | refine Mm.mk ?_ | (refine Br.mk (fun h => ?_) (fun h => ?_) <;> first | (exfalso; omega; done) | (exfalso; simp at h; done) | skip))
    refine LoopVC.mk (fun m st => ∃ (j : Nat), j ≤ L.length ∧ m = L.length - j ∧ st = ⟨0, envA 200 [(2, .x (.one (.lst true [.int .i64] (i64s zs)))), (7, .x (.one (.ptr 0 0))), (9, .x (.one (.lst false KPl (plA S.pl)))), (10, .int .i64 (i : Int)), (11, .x (.one (.lst false [.int .i64] (i64s L)))), (13, .int .i64 (j : Int))], shK S ms⟩) _ _ ⟨0, Nat.zero_le _, rfl, rfl⟩ ?_ ?_
    · refine ⟨[some 0, some 1, some 2, some 3, some 4, some 5], rfl, rfl, ?_, ?_⟩ <;> repeat' (first | exact trivial | exact rfl | exact Iff.rfl | apply And.intro)
    rintro m2 _ ⟨j, hj, hm2, rfl⟩
    by_cases hjl : j < L.length
    · have hpos := hL.pos j hjl
      obtain ⟨a1, a2, a3⟩ := hL.at' j hjl
      obtain ⟨x, hx⟩ : ∃ x : Nat, L.getD j 0 = (x : Int) := ⟨(L.getD j 0).toNat, by omega⟩
      have gj : rI (i64s L) (j : Int).toNat 0 = (x : Int) := by rw [Int.toNat_natCast, i64s_get, hx]
      rw [hx, Int.toNat_natCast] at a1 a2 a3
      rw [hx] at hpos
      have p0' : rI (plA S.pl) (x : Int).toNat 0 = (j : Int) := by rw [Int.toNat_natCast, ← a1]; exact pl_0 S.pl x
      have p1' : rI (plA S.pl) (x : Int).toNat ((0 + 1)) = (S.q x).pa := by rw [Int.toNat_natCast]; exact pl_1 S.pl x
      have p2' : rI (plA S.pl) (x : Int).toNat ((0 + 1 + 1)) = (S.q i).cut := by rw [Int.toNat_natCast, ← a2]; exact pl_2 S.pl x
      have p3' : rI (plA S.pl) (x : Int).toNat ((0 + 1 + 1 + 1)) = (S.q i).area := by rw [Int.toNat_natCast, ← a3]; exact pl_3 S.pl x
      have g2 : rI (plA S.pl) (i : Int).toNat ((0 + 1 + 1)) = (S.q i).cut := by rw [Int.toNat_natCast]; exact pl_2 S.pl i
      have g3 : rI (plA S.pl) (i : Int).toNat ((0 + 1 + 1 + 1)) = (S.q i).area := by rw [Int.toNat_natCast]; exact pl_3 S.pl i
      by_cases hj0 : j = 0
      · subst hj0
        have hrt := hL.root
        rw [hx, Int.toNat_natCast] at hrt
        repeat' ((conv => whnf); first | rw [gj] | rw [p0'] | rw [p1'] | rw [p2'] | rw [p3'] | rw [g2] | rw [g3] | refine Rng.g ?_ | refine Ob.g ?_ | refine Ob.e ?_ | refine Ob.m ?_ | refine Ob.mk (Nat.le_of_ble_eq_true rfl) ?_ | refine JoinVC.on ?_ | refine Nils.mk (fun h => ?_) ?_ | refine Val.t ?_ | refine Val.d ?_ | refine Mm.mk ?_ | (refine Br.mk (fun h => ?_) (fun h => ?_) <;> first | (exfalso; omega; done) | (exfalso; simp at h; done) | skip))
        refine Back.mk (L.length - (0 + 1)) _ (by omega) ⟨0 + 1, by omega, rfl, rfl⟩ ?_
        refine ⟨[some 0, some 1, some 2, some 3, some 4, some 5], rfl, rfl, ?_, ?_⟩ <;> repeat' (first | exact trivial | exact rfl | exact Iff.rfl | apply And.intro)
      · obtain ⟨j', rfl⟩ : ∃ j', j = j' + 1 := ⟨j - 1, by omega⟩
        have hsb := hL.sub j' (by omega)
        rw [hx, Int.toNat_natCast] at hsb
        have gk : rI (i64s L) (((j' + 1 : Nat) : Int) - 1).toNat 0 = L.getD j' 0 := by rw [show (((j' + 1 : Nat) : Int) - 1).toNat = j' by omega, i64s_get]
        repeat' ((conv => whnf); first | rw [gj] | rw [p0'] | rw [p1'] | rw [p2'] | rw [p3'] | rw [g2] | rw [g3] | rw [gk] | refine Rng.g ?_ | refine Ob.g ?_ | refine Ob.e ?_ | refine Ob.m ?_ | refine Ob.mk (Nat.le_of_ble_eq_true rfl) ?_ | refine JoinVC.on ?_ | refine Nils.mk (fun h => ?_) ?_ | refine Val.t ?_ | refine Val.d ?_ | refine Mm.mk ?_ | (refine Br.mk (fun h => ?_) (fun h => ?_) <;> first | (exfalso; omega; done) | (exfalso; simp at h; done) | skip))
        refine Back.mk (L.length - (j' + 1 + 1)) _ (by omega) ⟨j' + 1 + 1, by omega, rfl, rfl⟩ ?_
        refine ⟨[some 0, some 1, some 2, some 3, some 4, some 5], rfl, rfl, ?_, ?_⟩ <;> repeat' (first | exact trivial | exact rfl | exact Iff.rfl | apply And.intro)
    · have c31b := s31_in S ms hS (zs ++ [(i : Int)]) (by rw [List.length_append, List.length_singleton]; omega)
      rw [i64s_snoc] at c31b
      have c32 := s32 (zs ++ [(i : Int)]) L (by rw [List.length_append, List.length_singleton]; omega)
      rw [i64s_snoc] at c32
      repeat' ((conv => whnf); first | rw [eb3] | refine Rng.g ?_ | refine Ob.g ?_ | refine Ob.e ?_ | refine Ob.m ?_ | refine Ob.mk (Nat.le_of_ble_eq_true rfl) ?_ | refine JoinVC.on ?_ | refine Nils.mk (fun h => ?_) ?_ | refine Val.t ?_ | refine Val.d ?_ | refine Mm.mk ?_ | (refine Br.mk (fun h => ?_) (fun h => ?_) <;> first | (exfalso; omega; done) | (exfalso; simp at h; done) | skip))
      by_cases hc : chkE S (zs ++ [(i : Int)]) = 0
      · have hl2 : zs ++ [(i : Int)] = L := by rw [← hLd]; exact chk_last hc
        rw [hc] at c31b
        conv => whnf
        first | refine CallVC.mk [0, 1, 2, 3, 4, 5] _ _ _ rfl rfl rfl (c31b) (fun r m' h' => ?_) | refine CallVC0.same [0, 1, 2, 3, 4, 5] _ _ _ rfl rfl rfl rfl (c31b) (fun r m' h' => (by obtain ⟨rfl, rfl⟩ := h'; rfl)) (fun r m' h' => ?_)
        obtain ⟨rfl, rfl⟩ := h'
        conv => whnf
        repeat' ((conv => whnf); first | rw [eb3] | refine Rng.g ?_ | refine Ob.g ?_ | refine Ob.e ?_ | refine Ob.m ?_ | refine Ob.mk (Nat.le_of_ble_eq_true rfl) ?_ | refine JoinVC.on ?_ | refine Nils.mk (fun h => ?_) ?_ | refine Val.t ?_ | refine Val.d ?_ | refine Mm.mk ?_ | refine CallVC.pure rfl (c32) ?_ | refine CallVC0.pure rfl (c32) ?_ | (refine Br.mk (fun h => ?_) (fun h => ?_) <;> first | (exfalso; omega; done) | (exfalso; simp at h; done) | skip))
        all_goals first
          | exact absurd hl2 ‹_›
          | skip
        refine Back.mk (S.pl.length - (i + 1)) _ (by omega) ⟨i + 1, by omega, rfl, rfl⟩ ?_
        refine ⟨[some 0, some 1, some 2, some 3, some 4, some 5], rfl, rfl, ?_, ?_⟩ <;> repeat' (first | exact trivial | exact rfl | exact Iff.rfl | apply And.intro)
      · conv => whnf
        first | refine CallVC.mk [0, 1, 2, 3, 4, 5] _ _ _ rfl rfl rfl (c31b) (fun r m' h' => ?_) | refine CallVC0.same [0, 1, 2, 3, 4, 5] _ _ _ rfl rfl rfl rfl (c31b) (fun r m' h' => (by obtain ⟨rfl, rfl⟩ := h'; rfl)) (fun r m' h' => ?_)
        obtain ⟨rfl, rfl⟩ := h'
        conv => whnf
        repeat' ((conv => whnf); first | rw [eb3] | refine Rng.g ?_ | refine Ob.g ?_ | refine Ob.e ?_ | refine Ob.m ?_ | refine Ob.mk (Nat.le_of_ble_eq_true rfl) ?_ | refine JoinVC.on ?_ | refine Nils.mk (fun h => ?_) ?_ | refine Val.t ?_ | refine Val.d ?_ | refine Mm.mk ?_ | refine CallVC.pure rfl (c32) ?_ | refine CallVC0.pure rfl (c32) ?_ | (refine Br.mk (fun h => ?_) (fun h => ?_) <;> first | (exfalso; omega; done) | (exfalso; simp at h; done) | skip))
        refine Back.mk (S.pl.length - (i + 1)) _ (by omega) ⟨i + 1, by omega, rfl, rfl⟩ ?_
        refine ⟨[some 0, some 1, some 2, some 3, some 4, some 5], rfl, rfl, ?_, ?_⟩ <;> repeat' (first | exact trivial | exact rfl | exact Iff.rfl | apply And.intro)
  · obtain rfl : i = S.pl.length := by omega
    have c31 := s31_nil S ms
    repeat' ((conv => whnf); first | refine Rng.g ?_ | refine Ob.g ?_ | refine Ob.e ?_ | refine Ob.m ?_ | refine Ob.mk (Nat.le_of_ble_eq_true rfl) ?_ | refine JoinVC.on ?_ | refine Nils.mk (fun h => ?_) ?_ | refine Val.t ?_ | refine Val.d ?_ | refine Mm.mk ?_ | (refine Br.mk (fun h => ?_) (fun h => ?_) <;> first | (exfalso; omega; done) | (exfalso; simp at h; done) | skip))
    conv => whnf
    first | refine CallVC.mk [0, 1, 2, 3, 4, 5] _ _ _ rfl rfl rfl (c31) (fun r m' h' => ?_) | refine CallVC0.same [0, 1, 2, 3, 4, 5] _ _ _ rfl rfl rfl rfl (c31) (fun r m' h' => (by obtain ⟨rfl, rfl⟩ := h'; rfl)) (fun r m' h' => ?_)
    obtain ⟨rfl, rfl⟩ := h'
    conv => whnf
    repeat' ((conv => whnf); first | refine Rng.g ?_ | refine Ob.g ?_ | refine Ob.e ?_ | refine Ob.m ?_ | refine Ob.mk (Nat.le_of_ble_eq_true rfl) ?_ | refine JoinVC.on ?_ | refine Nils.mk (fun h => ?_) ?_ | refine Val.t ?_ | refine Val.d ?_ | refine Mm.mk ?_ | refine CallVC.pure rfl (c17) ?_ | refine CallVC0.pure rfl (c17) ?_ | (refine Br.mk (fun h => ?_) (fun h => ?_) <;> first | (exfalso; omega; done) | (exfalso; simp at h; done) | skip))
    repeat refine Mm.mk ?_
    refine EndVC.mk _ rfl _ _ ⟨rfl, rfl⟩ ?_
    refine ⟨[], rfl, rfl, ?_, ?_⟩ <;> repeat' (first | exact trivial | exact rfl | exact Iff.rfl | apply And.intro)
theorem s7 (r : Rcp) (l : List Act2) (zs : List Int) : PSpec Try.prog 7 [r.x, .one (.lst true KAc (acA l)), .one (.lst true [.int .i64] (i64s zs))] (xP True) := by
  by_cases h : 60 < l.length ∨ 10 < zs.length ∨ ¬ RcpOK r
  · exact s7_any r l zs h
  · exact s7_ok r l zs (by omega) (by omega) (Classical.byContradiction fun hc => h (.inr (.inr hc)))
end Go.Sx

namespace Go.Sx
open Go Go.Proofs
set_option maxRecDepth 10000
/-! ### Rows read as acts -/
theorem wfr_of : ∀ {ks : List CK} {r : List Cell}, r.length = ks.length → (∀ (j : Nat) k c, ks[j]? = some k → r[j]? = some c → Wf k c) → WfR ks r
  | [], [], _, _ => .nil
  | [], _ :: _, h, _ => by simp at h
  | _ :: _, [], h, _ => by simp at h
  | k :: ks, c :: cs, h, hw => .cons (hw 0 k c rfl rfl) (wfr_of (by simpa using h) fun j k' c' h1 h2 => hw (j + 1) k' c' (by simpa using h1) (by simpa using h2))
theorem wf_map {α : Type} {ks : List CK} {row : α → List Cell} {p : α → Prop} (hrow : ∀ r, WfR ks r → ∃ x, r = row x ∧ p x) {a : Arr} (h : Wf (.sl ks) (.sl a)) : ∃ l : List α, a = l.map row ∧ ∀ x ∈ l, p x := by
  cases h with
  | sl hl hr hw =>
    clear hl
    induction a with
    | nil => exact ⟨[], rfl, fun x hx => by simp at hx⟩
    | cons r a ih =>
      obtain ⟨l, rfl, h2⟩ := ih (fun r h => hr r (List.mem_cons_of_mem _ h)) (fun r h => hw r (List.mem_cons_of_mem _ h))
      obtain ⟨x, rfl, h3⟩ := hrow r (wfr_of (hr r (List.mem_cons_self ..)) (hw r (List.mem_cons_self ..)))
      exact ⟨x :: l, rfl, fun y hy => by rcases List.mem_cons.1 hy with rfl | hy; (· exact h3); exact h2 y hy⟩
theorem wf_acts {a : Arr} (h : Wf (.sl KAc) (.sl a)) : ∃ l : List Act2, a = acA l := by
  obtain ⟨l, h1, _⟩ := wf_map (row := acC) (p := fun _ => True) (fun r hr => by
    obtain ⟨c0, _, rfl, g0, h1⟩ := hr.inv
    obtain ⟨n0, rfl, _⟩ := g0.int_inv
    obtain ⟨c1, _, rfl, g1, h2⟩ := h1.inv
    obtain ⟨n1, rfl, _⟩ := g1.int_inv
    obtain ⟨c2, _, rfl, g2, h3⟩ := h2.inv
    obtain ⟨n2, rfl, _⟩ := g2.int_inv
    obtain ⟨c3, _, rfl, g3, h4⟩ := h3.inv
    obtain ⟨n3, rfl, _⟩ := g3.int_inv
    obtain ⟨c4, _, rfl, g4, h5⟩ := h4.inv
    obtain ⟨n4, rfl, _⟩ := g4.int_inv
    obtain ⟨c5, _, rfl, g5, h6⟩ := h5.inv
    obtain ⟨n5, rfl, _⟩ := g5.int_inv
    obtain ⟨c6, _, rfl, g6, h7⟩ := h6.inv
    obtain ⟨n6, rfl, _⟩ := g6.int_inv
    obtain ⟨c7, _, rfl, g7, h8⟩ := h7.inv
    obtain ⟨n7, rfl, _⟩ := g7.int_inv
    obtain ⟨c8, _, rfl, g8, h9⟩ := h8.inv
    obtain ⟨n8, rfl, _⟩ := g8.int_inv
    obtain ⟨c9, _, rfl, g9, h10⟩ := h9.inv
    obtain ⟨n9, rfl, _⟩ := g9.int_inv
    obtain ⟨c10, _, rfl, g10, h11⟩ := h10.inv
    obtain ⟨n10, rfl, _⟩ := g10.int_inv
    obtain ⟨c11, _, rfl, g11, h12⟩ := h11.inv
    obtain ⟨n11, rfl, _⟩ := g11.int_inv
    obtain ⟨c12, _, rfl, g12, h13⟩ := h12.inv
    obtain ⟨n12, rfl, _⟩ := g12.int_inv
    cases h13.nil_inv
    exact ⟨⟨n0, n1, n2, n3, n4, n5, n6, n7, n8, n9, n10, n11, n12⟩, rfl, trivial⟩) h
  exact ⟨l, h1⟩
end Go.Sx
