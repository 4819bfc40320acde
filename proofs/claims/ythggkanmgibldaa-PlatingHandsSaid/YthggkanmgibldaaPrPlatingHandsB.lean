import Derived.Test.YthggkanmgibldaaPrPlatingHandsA
import Derived.Test.YthggkanmgibldaaXa
import Derived.Test.YthggkanmgibldaaXc
import Derived.Shelf.Slices.In.SortNone
import Derived.Shelf.Slices.In.SortAlone
namespace Go.Sx
open Go Go.Proofs
set_option maxRecDepth 10000
set_option maxHeartbeats 8000000
/-! ### The example -/
@[reducible] def exR : Rcp := ⟨0, 100, 100, 200, 0, 900, 900, 900, 10, 50, 500, 2, 3⟩
@[reducible] def groA (i b : Int) : Act2 := ⟨3, 0, 0, 0, 0, i, b, 50, 1, 500, 1, 0, 0⟩
theorem s35 : PSpec Try.prog 35 [] (.x exR.x) := by
  refine spec_of pMix (O := []) Try.func35 (c := bodyOf Try.f35) rfl (by kernel_rfl) (by kernel_rfl) Try.ntmps35 (res := [.cell 0 24]) (by kernel_rfl) ?_
  repeat' ((conv => whnf); first | refine Rng.g ?_ | refine Ob.g ?_ | refine Ob.e ?_ | refine Ob.m ?_ | refine Ob.mk (Nat.le_of_ble_eq_true rfl) ?_ | refine JoinVC.on ?_ | refine Nils.mk (fun h => ?_) ?_ | refine Val.t ?_ | refine Val.d ?_ | refine Mm.mk ?_ | (refine Br.mk (fun h => ?_) (fun h => ?_) <;> first | (exfalso; omega; done) | (exfalso; simp at h; done) | skip))
  repeat refine Mm.mk ?_
  refine EndVC.mk _ rfl _ _ ⟨rfl, rfl⟩ ?_
  refine ⟨[], rfl, rfl, ?_, ?_⟩ <;> repeat' (first | exact trivial | exact rfl | exact Iff.rfl | apply And.intro)
theorem s37 (i b : Int) : PSpec Try.prog 37 [I i, I b] (.x (groA i b).x) := by
  refine spec_of pMix (O := []) Try.func37 (c := bodyOf Try.f37) rfl (by kernel_rfl) (by kernel_rfl) Try.ntmps37 (res := [.cell 4 43]) (by kernel_rfl) ?_
  repeat' ((conv => whnf); first | refine Rng.g ?_ | refine Ob.g ?_ | refine Ob.e ?_ | refine Ob.m ?_ | refine Ob.mk (Nat.le_of_ble_eq_true rfl) ?_ | refine JoinVC.on ?_ | refine Nils.mk (fun h => ?_) ?_ | refine Val.t ?_ | refine Val.d ?_ | refine Mm.mk ?_ | (refine Br.mk (fun h => ?_) (fun h => ?_) <;> first | (exfalso; omega; done) | (exfalso; simp at h; done) | skip))
  repeat refine Mm.mk ?_
  refine EndVC.mk _ rfl _ _ ⟨rfl, rfl⟩ ?_
  refine ⟨[], rfl, rfl, ?_, ?_⟩ <;> repeat' (first | exact trivial | exact rfl | exact Iff.rfl | apply And.intro)
@[reducible] def exA : List Act2 := [⟨1, 7, 1000, 0, 0, 0, 0, 0, 0, 0, 0, 0, 0⟩, ⟨2, 0, 0, 2000, 500, 0, 0, 0, 0, 0, 0, 0, 0⟩, groA 0 0, ⟨4, 0, 0, 0, 0, 1, 0, 0, 0, 0, 0, 9, 0⟩, groA 1 0, groA 2 0, ⟨5, 0, 0, 0, 0, 2, 0, 0, 0, 0, 0, 0, 0⟩, groA 2 0]
@[reducible] def exS0 : Sho := ⟨exR, [], [], [], [], []⟩
@[reducible] def exS1 : Sho := ⟨exR, [⟨0, -1, 7, 1000, 0, 0, false⟩], [[]], [], [], [⟨1, 7, 1000, 0, 0, 0, 0, 0, 0, 0, 0, 0, 0⟩]⟩
@[reducible] def exS2 : Sho := ⟨exR, [⟨0, -1, 7, 1000, 0, 0, false⟩], [[]], [⟨2000, 500, 0, 0⟩], [], [⟨1, 7, 1000, 0, 0, 0, 0, 0, 0, 0, 0, 0, 0⟩, ⟨2, 0, 0, 2000, 500, 0, 0, 0, 0, 0, 0, 0, 0⟩]⟩
@[reducible] def exS3 : Sho := ⟨exR, [⟨0, -1, 7, 1000, 0, 1, true⟩, ⟨1, 0, 7, 1000, 275, 0, false⟩], [[], []], [⟨1725, 500, 550, 275⟩], [], [⟨1, 7, 1000, 0, 0, 0, 0, 0, 0, 0, 0, 0, 0⟩, ⟨2, 0, 0, 2000, 500, 0, 0, 0, 0, 0, 0, 0, 0⟩, groA 0 0]⟩
@[reducible] def exS4 : Sho := ⟨exR, [⟨0, -1, 7, 1000, 0, 1, true⟩, ⟨1, 0, 7, 1000, 275, 0, false⟩], [[], [0]], [⟨1725, 500, 550, 275⟩], [(1, 9)], [⟨1, 7, 1000, 0, 0, 0, 0, 0, 0, 0, 0, 0, 0⟩, ⟨2, 0, 0, 2000, 500, 0, 0, 0, 0, 0, 0, 0, 0⟩, groA 0 0, ⟨4, 0, 0, 0, 0, 1, 0, 0, 0, 0, 0, 9, 0⟩]⟩
@[reducible] def exS5 : Sho := ⟨exR, [⟨0, -1, 7, 1000, 0, 1, true⟩, ⟨1, 0, 7, 1000, 275, 1, false⟩, ⟨2, 1, 7, 1000, 275, 0, false⟩], [[], [0], [0]], [⟨1450, 500, 1100, 550⟩], [(1, 9)], [⟨1, 7, 1000, 0, 0, 0, 0, 0, 0, 0, 0, 0, 0⟩, ⟨2, 0, 0, 2000, 500, 0, 0, 0, 0, 0, 0, 0, 0⟩, groA 0 0, ⟨4, 0, 0, 0, 0, 1, 0, 0, 0, 0, 0, 9, 0⟩, groA 1 0]⟩
@[reducible] def exS6 : Sho := ⟨exR, [⟨0, -1, 7, 1000, 0, 1, true⟩, ⟨1, 0, 7, 1000, 275, 1, false⟩, ⟨2, 1, 7, 1000, 275, 1, false⟩, ⟨3, 2, 7, 1000, 275, 0, false⟩], [[], [0], [0], [0]], [⟨1175, 500, 1650, 825⟩], [(1, 9)], [⟨1, 7, 1000, 0, 0, 0, 0, 0, 0, 0, 0, 0, 0⟩, ⟨2, 0, 0, 2000, 500, 0, 0, 0, 0, 0, 0, 0, 0⟩, groA 0 0, ⟨4, 0, 0, 0, 0, 1, 0, 0, 0, 0, 0, 9, 0⟩, groA 1 0, groA 2 0]⟩
@[reducible] def exS7 : Sho := ⟨exR, [⟨0, -1, 7, 1000, 0, 1, true⟩, ⟨1, 0, 7, 1000, 275, 1, false⟩, ⟨2, 1, 7, 1000, 275, 1, false⟩, ⟨3, 2, 7, 1000, 275, 0, false⟩], [[], [0], [], [0]], [⟨1175, 500, 1650, 825⟩], [(1, 9)], [⟨1, 7, 1000, 0, 0, 0, 0, 0, 0, 0, 0, 0, 0⟩, ⟨2, 0, 0, 2000, 500, 0, 0, 0, 0, 0, 0, 0, 0⟩, groA 0 0, ⟨4, 0, 0, 0, 0, 1, 0, 0, 0, 0, 0, 9, 0⟩, groA 1 0, groA 2 0, ⟨5, 0, 0, 0, 0, 2, 0, 0, 0, 0, 0, 0, 0⟩]⟩
@[reducible] def exS8 : Sho := ⟨exR, [⟨0, -1, 7, 1000, 0, 1, true⟩, ⟨1, 0, 7, 1000, 275, 1, false⟩, ⟨2, 1, 7, 1000, 275, 2, false⟩, ⟨3, 2, 7, 1000, 275, 0, false⟩, ⟨3, 2, 7, 1000, 275, 0, false⟩], [[], [0], [], [0], []], [⟨900, 500, 2200, 1100⟩], [(1, 9)], [⟨1, 7, 1000, 0, 0, 0, 0, 0, 0, 0, 0, 0, 0⟩, ⟨2, 0, 0, 2000, 500, 0, 0, 0, 0, 0, 0, 0, 0⟩, groA 0 0, ⟨4, 0, 0, 0, 0, 1, 0, 0, 0, 0, 0, 9, 0⟩, groA 1 0, groA 2 0, ⟨5, 0, 0, 0, 0, 2, 0, 0, 0, 0, 0, 0, 0⟩, groA 2 0]⟩
theorem exE0 : doE exS0 (exA.getD 0 ac0) = 0 := by kernel_rfl
theorem exD0 : doS exS0 (exA.getD 0 ac0) = exS1 := by kernel_rfl
theorem exE1 : doE exS1 (exA.getD 1 ac0) = 0 := by kernel_rfl
theorem exD1 : doS exS1 (exA.getD 1 ac0) = exS2 := by kernel_rfl
theorem exE2 : doE exS2 (exA.getD 2 ac0) = 0 := by kernel_rfl
theorem exD2 : doS exS2 (exA.getD 2 ac0) = exS3 := by kernel_rfl
theorem exE3 : doE exS3 (exA.getD 3 ac0) = 0 := by kernel_rfl
theorem exD3 : doS exS3 (exA.getD 3 ac0) = exS4 := by kernel_rfl
theorem exE4 : doE exS4 (exA.getD 4 ac0) = 0 := by kernel_rfl
theorem exD4 : doS exS4 (exA.getD 4 ac0) = exS5 := by kernel_rfl
theorem exE5 : doE exS5 (exA.getD 5 ac0) = 0 := by kernel_rfl
theorem exD5 : doS exS5 (exA.getD 5 ac0) = exS6 := by kernel_rfl
theorem exE6 : doE exS6 (exA.getD 6 ac0) = 0 := by kernel_rfl
theorem exD6 : doS exS6 (exA.getD 6 ac0) = exS7 := by kernel_rfl
theorem exE7 : doE exS7 (exA.getD 7 ac0) = 0 := by kernel_rfl
theorem exD7 : doS exS7 (exA.getD 7 ac0) = exS8 := by kernel_rfl
theorem exP0 : repS (shop0 exR) exA 0 = exS0 := rfl
theorem exP1 : repS (shop0 exR) exA 1 = exS1 := (congrArg (doS · (exA.getD 0 ac0)) exP0).trans exD0
theorem exP2 : repS (shop0 exR) exA 2 = exS2 := (congrArg (doS · (exA.getD 1 ac0)) exP1).trans exD1
theorem exP3 : repS (shop0 exR) exA 3 = exS3 := (congrArg (doS · (exA.getD 2 ac0)) exP2).trans exD2
theorem exP4 : repS (shop0 exR) exA 4 = exS4 := (congrArg (doS · (exA.getD 3 ac0)) exP3).trans exD3
theorem exP5 : repS (shop0 exR) exA 5 = exS5 := (congrArg (doS · (exA.getD 4 ac0)) exP4).trans exD4
theorem exP6 : repS (shop0 exR) exA 6 = exS6 := (congrArg (doS · (exA.getD 5 ac0)) exP5).trans exD5
theorem exP7 : repS (shop0 exR) exA 7 = exS7 := (congrArg (doS · (exA.getD 6 ac0)) exP6).trans exD6
theorem exP8 : repS (shop0 exR) exA 8 = exS8 := (congrArg (doS · (exA.getD 7 ac0)) exP7).trans exD7
theorem exG : goodTo (shop0 exR) exA 8 := fun j hj => by
  rcases (show j = 0 ∨ j = 1 ∨ j = 2 ∨ j = 3 ∨ j = 4 ∨ j = 5 ∨ j = 6 ∨ j = 7 by omega) with rfl | rfl | rfl | rfl | rfl | rfl | rfl | rfl
  · rw [exP0]; exact exE0
  · rw [exP1]; exact exE1
  · rw [exP2]; exact exE2
  · rw [exP3]; exact exE3
  · rw [exP4]; exact exE4
  · rw [exP5]; exact exE5
  · rw [exP6]; exact exE6
  · rw [exP7]; exact exE7
theorem exOK : RcpOK exR := ⟨by decide, by decide, by decide, by decide, by decide, by decide, by decide, by decide⟩
theorem exUp : exS8.up 4 = [4, 2, 1, 0] := by kernel_rfl
theorem exBe : bear exS8.be 0 5 = [1, 3] := by kernel_rfl
theorem exNe : needE exS8 0 6 = 0 := by kernel_rfl
theorem exNn : needN exS8 0 6 = 5 := by kernel_rfl
theorem s36 : HSpec Try.prog 36 [] [] (fun r m' => r = .x (.one (.lst false KAc (acA exA))) ∧ m' = []) := by
  have c0 := s37 0 0
  have c1 := s37 1 0
  have c2 := s37 2 0
  refine spec_of pMix (O := []) Try.func36 (c := bodyOf Try.f36) rfl (by kernel_rfl) (by kernel_rfl) Try.ntmps36 (res := [.tmp 0]) (by kernel_rfl) ?_
  repeat' ((conv => whnf); first | refine Rng.g ?_ | refine Ob.g ?_ | refine Ob.e ?_ | refine Ob.m ?_ | refine Ob.mk (Nat.le_of_ble_eq_true rfl) ?_ | refine JoinVC.on ?_ | refine Nils.mk (fun h => ?_) ?_ | refine Val.t ?_ | refine Val.d ?_ | refine Mm.mk ?_ | refine CallVC.pure rfl (c0) ?_ | refine CallVC.pure rfl (c1) ?_ | refine CallVC.pure rfl (c2) ?_ | refine CallVC0.pure rfl (c0) ?_ | refine CallVC0.pure rfl (c1) ?_ | refine CallVC0.pure rfl (c2) ?_ | (refine Br.mk (fun h => ?_) (fun h => ?_) <;> first | (exfalso; omega; done) | (exfalso; simp at h; done) | skip))
  repeat refine Mm.mk ?_
  refine EndVC.mk _ rfl _ _ ⟨rfl, rfl⟩ ?_
  refine ⟨[], rfl, rfl, ?_, ?_⟩ <;> repeat' (first | exact trivial | exact rfl | exact Iff.rfl | apply And.intro)
theorem s32 (xs ys : List Int) (hx : xs.length ≤ 1000000) : PSpec Try.prog 32 [.one (.lst true [.int .i64] (i64s xs)), .one (.lst true [.int .i64] (i64s ys))] (xP (xs = ys)) := by
  have lx := i64s_len xs
  have ly := i64s_len ys
  by_cases hl : xs.length = ys.length
  · refine spec_of pMix (O := []) Try.func32 (c := bodyOf Try.f32) rfl (by kernel_rfl) (by kernel_rfl) Try.ntmps32 (res := [.tmp 4]) (by kernel_rfl) ?_
    repeat' ((conv => whnf); first | refine Rng.g ?_ | refine Ob.g ?_ | refine Ob.e ?_ | refine Ob.m ?_ | refine Ob.mk (Nat.le_of_ble_eq_true rfl) ?_ | refine JoinVC.on ?_ | refine Nils.mk (fun h => ?_) ?_ | refine Val.t ?_ | refine Val.d ?_ | refine Mm.mk ?_ | (refine Br.mk (fun h => ?_) (fun h => ?_) <;> first | (exfalso; omega; done) | (exfalso; simp at h; done) | skip))
    refine LoopVC.mk (fun n st => ∃ (i : Nat), i ≤ xs.length ∧ n = xs.length - i ∧ (∀ j, j < i → xs.getD j 0 = ys.getD j 0) ∧ st = ⟨0, envA 26 [(0, .x (.one (.lst true [.int .i64] (i64s xs)))), (1, .x (.one (.lst true [.int .i64] (i64s ys)))), (5, .int .i64 (i : Int))], []⟩) _ _ ⟨0, Nat.zero_le _, rfl, fun j hj => absurd hj (Nat.not_lt_zero j), rfl⟩ ?_ ?_
    · refine ⟨[], rfl, rfl, ?_, ?_⟩ <;> repeat' (first | exact trivial | exact rfl | exact Iff.rfl | apply And.intro)
    rintro n _ ⟨i, hi, hn, hj, rfl⟩
    have g0 : rI (i64s xs) (i : Int).toNat 0 = xs.getD i 0 := by rw [Int.toNat_natCast, i64s_get]
    have g1 : rI (i64s ys) (i : Int).toNat 0 = ys.getD i 0 := by rw [Int.toNat_natCast, i64s_get]
    by_cases h' : i < xs.length
    · repeat' ((conv => whnf); first | rw [g0] | rw [g1] | refine Rng.g ?_ | refine Ob.g ?_ | refine Ob.e ?_ | refine Ob.m ?_ | refine Ob.mk (Nat.le_of_ble_eq_true rfl) ?_ | refine JoinVC.on ?_ | refine Nils.mk (fun h => ?_) ?_ | refine Val.t ?_ | refine Val.d ?_ | refine Mm.mk ?_ | (refine Br.mk (fun h => ?_) (fun h => ?_) <;> first | (exfalso; omega; done) | (exfalso; simp at h; done) | skip))
      · repeat refine Mm.mk ?_
        refine EndVC.mk _ rfl _ _ ⟨rfl, rfl⟩ ?_
        refine ⟨[], rfl, rfl, ?_, ?_⟩ <;> repeat' (first | exact trivial | exact rfl | exact Iff.rfl | apply And.intro)
        exact fun hc => h (by rw [hc])
      · refine Back.mk (xs.length - (i + 1)) _ (by omega) ⟨i + 1, by omega, rfl, fun j hj' => ?_, rfl⟩ ?_
        · rcases Nat.lt_succ_iff_lt_or_eq.1 hj' with h1 | rfl
          · exact hj j h1
          · exact Classical.not_not.1 h
        · refine ⟨[], rfl, rfl, ?_, ?_⟩ <;> repeat' (first | exact trivial | exact rfl | exact Iff.rfl | apply And.intro)
    · obtain rfl : i = xs.length := by omega
      repeat' ((conv => whnf); first | refine Rng.g ?_ | refine Ob.g ?_ | refine Ob.e ?_ | refine Ob.m ?_ | refine Ob.mk (Nat.le_of_ble_eq_true rfl) ?_ | refine JoinVC.on ?_ | refine Nils.mk (fun h => ?_) ?_ | refine Val.t ?_ | refine Val.d ?_ | refine Mm.mk ?_ | (refine Br.mk (fun h => ?_) (fun h => ?_) <;> first | (exfalso; omega; done) | (exfalso; simp at h; done) | skip))
      repeat refine Mm.mk ?_
      refine EndVC.mk _ rfl _ _ ⟨rfl, rfl⟩ ?_
      refine ⟨[], rfl, rfl, ?_, ?_⟩ <;> repeat' (first | exact trivial | exact rfl | exact Iff.rfl | apply And.intro)
      exact (List.ext_getElem hl fun k h1 h2 => by
        have := hj k h1
        rwa [List.getD_eq_getElem?_getD, List.getD_eq_getElem?_getD, List.getElem?_eq_getElem h1, List.getElem?_eq_getElem h2] at this)
  · refine spec_of pMix (O := []) Try.func32 (c := bodyOf Try.f32) rfl (by kernel_rfl) (by kernel_rfl) Try.ntmps32 (res := [.tmp 4]) (by kernel_rfl) ?_
    repeat' ((conv => whnf); first | refine Rng.g ?_ | refine Ob.g ?_ | refine Ob.e ?_ | refine Ob.m ?_ | refine Ob.mk (Nat.le_of_ble_eq_true rfl) ?_ | refine JoinVC.on ?_ | refine Nils.mk (fun h => ?_) ?_ | refine Val.t ?_ | refine Val.d ?_ | refine Mm.mk ?_ | (refine Br.mk (fun h => ?_) (fun h => ?_) <;> first | (exfalso; omega; done) | (exfalso; simp at h; done) | skip))
    repeat refine Mm.mk ?_
    refine EndVC.mk _ rfl _ _ ⟨rfl, rfl⟩ ?_
    refine ⟨[], rfl, rfl, ?_, ?_⟩ <;> repeat' (first | exact trivial | exact rfl | exact Iff.rfl | apply And.intro)
    exact fun h => hl (congrArg List.length h)
theorem PSpec.tt {P : Program} {f : FuncId} {args : List XV} {p : Prop} {d : Decidable p} (h : PSpec P f args (.x (.one (.prp p d)))) (hp : p) : PSpec P f args (.x (.one .tt)) := by
  intro w R vs h1 h2
  have key : ∀ (e : Ending) (w' : World), (∃ v r m' R', e = .returned v ∧ (r = .x (.one (.prp p d)) ∧ m' = []) ∧ Fr w R ([].map some) w' R' m' ∧ RepA w' R' r v) → ∃ v r m' R', e = .returned v ∧ (r = .x (.one .tt) ∧ m' = []) ∧ Fr w R ([].map some) w' R' m' ∧ RepA w' R' r v := by
    rintro e w' ⟨v, r, m', R', h3, ⟨rfl, rfl⟩, h5, h6⟩
    refine ⟨v, _, _, R', h3, ⟨rfl, rfl⟩, h5, ?_⟩
    have h6' : v = .bool (@decide p d) := h6
    exact h6'.trans (by rw [decide_eq_true hp])
  rcases h w R vs h1 h2 with ⟨h3, h4⟩ | ⟨v, w', h3, h4⟩
  · exact .inl ⟨h3, h4.mono key⟩
  · exact .inr ⟨v, w', h3, key _ _ h4⟩
theorem s17p : PSpec Try.prog 17 [] (xP ((5 : Int) = 5)) := by
  have c34 := s34 exR exA (by decide)
  have hS : ShOK exS8 := by have := ShOK.repS (ShOK.new exOK) exA 8; rwa [exP8] at this
  have lA : (acA exA).length = 8 := rfl
  have q1 := (s32 [4, 2, 1, 0].reverse [0, 1, 2, 4] (by decide)).tt rfl
  have q2 := (s32 [1, 3] [1, 3] (by decide)).tt rfl
  refine spec_of pMix (O := []) Try.func17 (c := bodyOf Try.f17) rfl (by kernel_rfl) (by kernel_rfl) Try.ntmps17 (res := [.tmp 0]) (by kernel_rfl) ?_
  repeat' ((conv => whnf); first | refine Rng.g ?_ | refine Ob.g ?_ | refine Ob.e ?_ | refine Ob.m ?_ | refine Ob.mk (Nat.le_of_ble_eq_true rfl) ?_ | refine JoinVC.on ?_ | refine Nils.mk (fun h => ?_) ?_ | refine Val.t ?_ | refine Val.d ?_ | refine Mm.mk ?_ | refine CallVC.pure rfl (s35) ?_ | refine CallVC0.pure rfl (s35) ?_ | (refine Br.mk (fun h => ?_) (fun h => ?_) <;> first | (exfalso; omega; done) | (exfalso; simp at h; done) | skip))
  conv => whnf
  refine CallVC.mk [] _ _ _ rfl rfl rfl (s36) (fun r m' h' => ?_)
  obtain ⟨rfl, rfl⟩ := h'
  conv => whnf
  repeat' ((conv => whnf); first | refine Rng.g ?_ | refine Ob.g ?_ | refine Ob.e ?_ | refine Ob.m ?_ | refine Ob.mk (Nat.le_of_ble_eq_true rfl) ?_ | refine JoinVC.on ?_ | refine Nils.mk (fun h => ?_) ?_ | refine Val.t ?_ | refine Val.d ?_ | refine Mm.mk ?_ | (refine Br.mk (fun h => ?_) (fun h => ?_) <;> first | (exfalso; omega; done) | (exfalso; simp at h; done) | skip))
  conv => whnf
  refine CallVC.mk [] _ _ _ rfl rfl rfl (c34) (fun r m' h' => ?_)
  cases h' with
  | bad h hv hm => exact absurd exOK h
  | err h i hi hg e he h0 hv hm => exact absurd (exG i hi) (by rw [he]; exact h0)
  | ok h hg ms hM hv hm =>
    have e8 : repS (shop0 exR) exA exA.length = exS8 := exP8
    rw [e8] at hm hM
    subst hv hm
    have c30 := s30_ok exS8 ms hS 4 (by decide)
    rw [exUp] at c30
    have c39 := s39_ok exS8 ms hS hM 0 (by decide)
    rw [show bear exS8.be 0 exS8.pl.length = [1, 3] from exBe] at c39
    have c26 := s26 exS8 ms hS 0 6
    rw [exNe, exNn] at c26
    repeat' ((conv => whnf); first | refine Rng.g ?_ | refine Ob.g ?_ | refine Ob.e ?_ | refine Ob.m ?_ | refine Ob.mk (Nat.le_of_ble_eq_true rfl) ?_ | refine JoinVC.on ?_ | refine Nils.mk (fun h => ?_) ?_ | refine Val.t ?_ | refine Val.d ?_ | refine Mm.mk ?_ | (refine Br.mk (fun h => ?_) (fun h => ?_) <;> first | (exfalso; omega; done) | (exfalso; simp at h; done) | skip))
    conv => whnf
    first | refine CallVC.mk [0, 1, 2, 3, 4, 5] _ _ _ rfl rfl rfl (c30) (fun r m' h' => ?_) | refine CallVC0.same [0, 1, 2, 3, 4, 5] _ _ _ rfl rfl rfl rfl (c30) (fun r m' h' => (by obtain ⟨rfl, rfl⟩ := h'; rfl)) (fun r m' h' => ?_) | (refine CallVC0.rows [0, 1, 2, 3, 4, 5] _ _ _ rfl rfl rfl ?_ (c30) (fun r m' h' => (by obtain ⟨rfl, rfl⟩ := h'; rfl)) (fun r m' h' => ?_); · (repeat' ((conv => whnf); first | exact trivial | exact rfl | exact Nat.le_refl _ | apply And.intro)))
    obtain ⟨rfl, rfl⟩ := h'
    conv => whnf
    repeat' ((conv => whnf); first | refine Rng.g ?_ | refine Ob.g ?_ | refine Ob.e ?_ | refine Ob.m ?_ | refine Ob.mk (Nat.le_of_ble_eq_true rfl) ?_ | refine JoinVC.on ?_ | refine Nils.mk (fun h => ?_) ?_ | refine Val.t ?_ | refine Val.d ?_ | refine Mm.mk ?_ | (refine Br.mk (fun h => ?_) (fun h => ?_) <;> first | (exfalso; omega; done) | (exfalso; simp at h; done) | skip))
    conv => whnf
    first | refine CallVC.mk [0, 1, 2, 3, 4, 5] _ _ _ rfl rfl rfl (c39) (fun r m' h' => ?_) | refine CallVC0.same [0, 1, 2, 3, 4, 5] _ _ _ rfl rfl rfl rfl (c39) (fun r m' h' => (by obtain ⟨rfl, rfl⟩ := h'; rfl)) (fun r m' h' => ?_) | (refine CallVC0.rows [0, 1, 2, 3, 4, 5] _ _ _ rfl rfl rfl ?_ (c39) (fun r m' h' => (by obtain ⟨rfl, rfl⟩ := h'; rfl)) (fun r m' h' => ?_); · (repeat' ((conv => whnf); first | exact trivial | exact rfl | exact Nat.le_refl _ | apply And.intro)))
    obtain ⟨rfl, rfl⟩ := h'
    conv => whnf
    repeat' ((conv => whnf); first | refine Rng.g ?_ | refine Ob.g ?_ | refine Ob.e ?_ | refine Ob.m ?_ | refine Ob.mk (Nat.le_of_ble_eq_true rfl) ?_ | refine JoinVC.on ?_ | refine Nils.mk (fun h => ?_) ?_ | refine Val.t ?_ | refine Val.d ?_ | refine Mm.mk ?_ | (refine Br.mk (fun h => ?_) (fun h => ?_) <;> first | (exfalso; omega; done) | (exfalso; simp at h; done) | skip))
    conv => whnf
    first | refine CallVC.mk [0, 1, 2, 3, 4, 5] _ _ _ rfl rfl rfl (c26) (fun r m' h' => ?_) | refine CallVC0.same [0, 1, 2, 3, 4, 5] _ _ _ rfl rfl rfl rfl (c26) (fun r m' h' => (by obtain ⟨rfl, rfl⟩ := h'; rfl)) (fun r m' h' => ?_) | (refine CallVC0.rows [0, 1, 2, 3, 4, 5] _ _ _ rfl rfl rfl ?_ (c26) (fun r m' h' => (by obtain ⟨rfl, rfl⟩ := h'; rfl)) (fun r m' h' => ?_); · (repeat' ((conv => whnf); first | exact trivial | exact rfl | exact Nat.le_refl _ | apply And.intro)))
    obtain ⟨rfl, rfl⟩ := h'
    conv => whnf
    repeat' ((conv => whnf); first | refine Rng.g ?_ | refine Ob.g ?_ | refine Ob.e ?_ | refine Ob.m ?_ | refine Ob.mk (Nat.le_of_ble_eq_true rfl) ?_ | refine JoinVC.on ?_ | refine Nils.mk (fun h => ?_) ?_ | refine Val.t ?_ | refine Val.d ?_ | refine Mm.mk ?_ | refine CallVC.pure rfl (q1) ?_ | refine CallVC.pure rfl (q2) ?_ | refine CallVC0.pure rfl (q1) ?_ | refine CallVC0.pure rfl (q2) ?_ | (refine Br.mk (fun h => ?_) (fun h => ?_) <;> first | (exfalso; omega; done) | (exfalso; simp at h; done) | skip))
    repeat refine Mm.mk ?_
    refine EndVC.mk _ rfl _ _ ⟨rfl, rfl⟩ ?_
    refine ⟨[], rfl, rfl, ?_, ?_⟩ <;> repeat' (first | exact trivial | exact rfl | exact Iff.rfl | apply And.intro)
theorem s17 : PSpec Try.prog 17 [] (.x (.one .tt)) := s17p.tt rfl
/-! ### A shop after some acts -/
def aftS (r : Rcp) (l : List Act2) : Sho := repS (shop0 r) l l.length
theorem aft_ok {r : Rcp} (h : RcpOK r) (l : List Act2) : ShOK (aftS r l) := ShOK.repS (ShOK.new h) l _
end Go.Sx

/- for looks only (px '@dbgl'): never in a final text -/
namespace Go.Sx
open Go
end Go.Sx

namespace Go.Sx
open Go Go.Proofs
set_option maxRecDepth 10000
set_option maxHeartbeats 8000000
/-! ### The reference's shop -/
@[reducible] def bRf (i1 i2 i3 i4 i5 : Nat) (r : Rcp) : Blk := .box 105 [i6 r.n0, i6 r.n1, i6 r.n2, i6 r.n3, i6 r.k0, i6 r.k1, i6 r.k2, i6 r.k3, i6 r.seed, i6 r.soft, i6 r.hard, i6 r.mo, i6 r.sp, .own i1, .own i2, .own i3, .own i4, .own i5]
@[reducible] def KBe : List CK := [.sl [.int .i64]]
@[reducible] def bBe (l : List (List Int)) : Blk := .row 34 true KBe (beA l)
@[reducible] def bFr (l : List (Int × Int)) : Blk := .row 125 false KFl (flA l)
@[reducible] def rfO (S : Sho) : List (Option Blk) := [some (bRf 6 7 8 9 10 S.r), none, none, none, none, none, some (bPs S.pl), some (bBe S.be), some (bTk S.tk), some (bFr S.fl), some (bAc S.ac)]
end Go.Sx

namespace Go.Sx
open Go Go.Proofs
set_option maxRecDepth 10000
set_option maxHeartbeats 8000000
/-! ### Is a growth possible, and what does it lay? (the reference) -/
def lyE (S : Sho) (a : Act2) (r : AV) : Prop := r = .tup [I (if groE S a = 0 then allM S a else 0), I (if groE S a = 0 then thkM S a else 0), I (groE S a)]
theorem lyE.err {S : Sho} {a : Act2} {e : Int} (h : groE S a = e) (h0 : e ≠ 0) : lyE S a (.tup [I 0, I 0, I e]) := by
  subst h
  unfold lyE
  rw [if_neg h0, if_neg h0]
theorem lyE.ok {S : Sho} {a : Act2} (h : groE S a = 0) {x y : Int} (hx : x = allM S a) (hy : y = thkM S a) : lyE S a (.tup [I x, I y, I 0]) := by
  subst hx hy
  unfold lyE
  rw [if_pos h, if_pos h, h]
theorem lyE.mk {S : Sho} {a : Act2} {e x y : Int} (h : groE S a = e) (h1 : e = 0 → x = allM S a ∧ y = thkM S a) (h2 : e ≠ 0 → x = 0 ∧ y = 0) : lyE S a (.tup [I x, I y, I e]) := by
  by_cases h0 : e = 0
  · obtain ⟨rfl, rfl⟩ := h1 h0
    subst h0
    exact lyE.ok h rfl rfl
  · obtain ⟨rfl, rfl⟩ := h2 h0
    exact lyE.err h h0
end Go.Sx

namespace Go.Sx
open Go Go.Proofs
set_option maxRecDepth 10000
set_option maxHeartbeats 8000000
/-! ### The reference's growth -/
def RAc (S : Sho) (a : Act2) (r : AV) (m' : List (Option Blk)) : Prop := r = .tup [I (if actE S a = 0 then actN S a else 0), I (actE S a)] ∧ m' = rfO (actT S a)
theorem RAc.err {S : Sho} {a : Act2} {e : Int} (he : actE S a = e) (h0 : e ≠ 0) : RAc S a (.tup [I 0, I e]) (rfO S) := by
  subst he
  exact ⟨by rw [if_neg h0], by rw [show actT S a = S from if_neg h0]⟩
theorem RAc.ok {S : Sho} {a : Act2} (he : actE S a = 0) {S' : Sho} (hS : actS S a = S') {n : Int} (hn : actN S a = n) : RAc S a (.tup [I n, I 0]) (rfO S') := by
  have h1 : actT S a = S' := (if_pos he).trans hS
  exact ⟨by rw [if_pos he, he, hn], by rw [h1]⟩
theorem be_le {S : Sho} (hS : ShOK S) (i : Nat) : (S.be.getD i []).length ≤ 64 := by
  by_cases hi : i < S.be.length
  · have hbe := hS.be i hi
    have h2 := nodup_le ((S.be.getD i []).map Int.toNat) (List.range S.fl.length) (by
      refine List.pairwise_map.2 (List.Pairwise.imp_of_mem ?_ hbe.1)
      intro a b ha hb hne hc
      have := hbe.2 a ha
      have := hbe.2 b hb
      exact hne (by omega)) (fun x hx => by
      obtain ⟨y, hy, rfl⟩ := List.mem_map.1 hx
      have := hbe.2 y hy
      exact List.mem_range.2 (by omega))
    rw [List.length_map, List.length_range] at h2
    have := hS.nf
    omega
  · rw [List.getD_eq_getElem?_getD, List.getElem?_eq_none (by omega)]
    exact Nat.zero_le _
end Go.Sx

namespace Go.Sx
open Go Go.Proofs
set_option maxRecDepth 10000
set_option maxHeartbeats 8000000
/-! ### The reference's acts -/
/-- What is known of an act on a plate. -/
theorem act_in {S : Sho} {a : Act2} (hk : a.kd = 4 ∨ a.kd = 5 ∨ a.kd = 6) : actE S a = if ¬ inP S a.plate ∨ (a.kd = 5 ∧ (a.flaw < 0 ∨ (S.fl.length : Int) ≤ a.flaw)) then 5 else if (S.p a.plate).ret = true then 10 else if a.kd = 4 then (if 64 ≤ S.fl.length then 11 else 0) else if a.kd = 5 then (if a.flaw ∈ S.b a.plate then 0 else 19) else 0 := by
  unfold actE
  rw [if_neg (by omega), if_neg (by omega), if_neg (by omega)]
end Go.Sx

namespace Go.Proofs
open Go.Shelf
def Try.laysSort_ren : Go.Shelf.Ren := ⟨fun | 189 => 78 | 125 => 92 | 257 => 91 | 128 => 105 | 129 => 106 | 294 => 96 | 295 => 97 | 296 => 98 | 297 => 99 | 298 => 100 | 299 => 101 | 216 => 102 | 300 => 103 | 301 => 104 | 328 => 107 | 329 => 108 | 330 => 109 | 331 => 110 | 332 => 111 | 215 => 112 | 343 => 113 | n => n, fun | 28 => 34 | 3 => 3 | 46 => 134 | 0 => 0 | 51 => 65 | 53 => 149 | 4 => 4 | 183 => 140 | 182 => 139 | 131 => 145 | 5 => 5 | 9 => 9 | 218 => 150 | 222 => 154 | 228 => 156 | 229 => 157 | n => n, fun | n => n⟩
theorem Try.laysSort : Go.Proofs.Lays.n189 Try.prog Try.laysSort_ren := {
  mixed := by kernel_rfl
  f125 := Try.func92.trans (congrArg some (by kernel_rfl))
  f128 := Try.func105.trans (congrArg some (by kernel_rfl))
  f129 := Try.func106.trans (congrArg some (by kernel_rfl))
  f189 := Try.func78.trans (congrArg some (by kernel_rfl))
  f215 := Try.func112.trans (congrArg some (by kernel_rfl))
  f216 := Try.func102.trans (congrArg some (by kernel_rfl))
  f257 := Try.func91.trans (congrArg some (by kernel_rfl))
  f294 := Try.func96.trans (congrArg some (by kernel_rfl))
  f295 := Try.func97.trans (congrArg some (by kernel_rfl))
  f296 := Try.func98.trans (congrArg some (by kernel_rfl))
  f297 := Try.func99.trans (congrArg some (by kernel_rfl))
  f298 := Try.func100.trans (congrArg some (by kernel_rfl))
  f299 := Try.func101.trans (congrArg some (by kernel_rfl))
  f300 := Try.func103.trans (congrArg some (by kernel_rfl))
  f301 := Try.func104.trans (congrArg some (by kernel_rfl))
  f328 := Try.func107.trans (congrArg some (by kernel_rfl))
  f329 := Try.func108.trans (congrArg some (by kernel_rfl))
  f330 := Try.func109.trans (congrArg some (by kernel_rfl))
  f331 := Try.func110.trans (congrArg some (by kernel_rfl))
  f332 := Try.func111.trans (congrArg some (by kernel_rfl))
  f343 := Try.func113.trans (congrArg some (by kernel_rfl))
  t0 := Try.underlying0
  a0 := Try.isAgg0
  z0 := Try.sizeOf0
  v0 := Try.zeroValue0
  t3 := Try.underlying3
  a3 := Try.isAgg3
  z3 := Try.sizeOf3
  v3 := Try.zeroValue3
  t4 := Try.underlying4
  a4 := Try.isAgg4
  z4 := Try.sizeOf4
  v4 := Try.zeroValue4
  t5 := Try.underlying5
  a5 := Try.isAgg5
  z5 := Try.sizeOf5
  v5 := Try.zeroValue5
  t9 := Try.underlying9
  a9 := Try.isAgg9
  z9 := Try.sizeOf9
  v9 := Try.zeroValue9
  t28 := Try.underlying34
  a28 := Try.isAgg34
  z28 := Try.sizeOf34
  v28 := Try.zeroValue34
  t46 := Try.underlying134
  a46 := Try.isAgg134
  z46 := Try.sizeOf134
  v46 := Try.zeroValue134
  t51 := Try.underlying65
  a51 := Try.isAgg65
  z51 := Try.sizeOf65
  v51 := Try.zeroValue65
  t53 := Try.underlying149
  a53 := Try.isAgg149
  z53 := Try.sizeOf149
  v53 := Try.zeroValue149
  t131 := Try.underlying145
  a131 := Try.isAgg145
  z131 := Try.sizeOf145
  v131 := Try.zeroValue145
  t182 := Try.underlying139
  a182 := Try.isAgg139
  z182 := Try.sizeOf139
  v182 := Try.zeroValue139
  t183 := Try.underlying140
  a183 := Try.isAgg140
  z183 := Try.sizeOf140
  v183 := Try.zeroValue140
  t218 := Try.underlying150
  a218 := Try.isAgg150
  z218 := Try.sizeOf150
  v218 := Try.zeroValue150
  t222 := Try.underlying154
  a222 := Try.isAgg154
  z222 := Try.sizeOf154
  v222 := Try.zeroValue154
  t228 := Try.underlying156
  a228 := Try.isAgg156
  z228 := Try.sizeOf156
  v228 := Try.zeroValue156
  t229 := Try.underlying157
  a229 := Try.isAgg157
  z229 := Try.sizeOf157
  v229 := Try.zeroValue157 }
end Go.Proofs
namespace Go.Sx
open Go Go.Proofs
set_option maxRecDepth 10000
set_option maxHeartbeats 8000000
theorem e78 : EntersF Try.prog 78 := enters_of Try.func78 (c := bodyOf Try.f78) (by kernel_rfl) rfl
/-! ### The library's sort, over a row -/
@[reducible] def srt (l : List Int) : List Int := l.mergeSort fun x y => decide (x ≤ y)
theorem srt_len (l : List Int) : (srt l).length = l.length := List.length_mergeSort _
@[reducible] def rowI (l : List Int) : Blk := .row 3 false [.int .i64] (i64s l)
theorem sort_calls (g cap : Nat) (zs : List Int) (w : World) (hH : Go.Sort.Holds (Value.int .i64) w g 0 zs.toArray) (hg : g < w.heap.size) (hz : zs.length < 4611686018427387904) :
    Calls Try.prog 78 #[.slice (some ⟨g, 0, none⟩) zs.length cap] w fun e w' => e = .returned (.tuple #[]) ∧ ∃ n os, w' = Go.Sort.grow (Go.Sort.putRow (Value.int .i64) (Go.Sort.ahead w n) g 0 (srt zs).toArray) os :=
  calls_of_every_depth fun D => AnyS.slices_Sort_int_alone Try.laysSort D g 0 cap zs w hH hg hz
theorem sort_calls0 (cap : Nat) (w : World) : Calls Try.prog 78 #[.slice none 0 cap] w fun e w' => e = .returned (.tuple #[]) ∧ w' = w :=
  Any.slices_Sort_int_none Try.laysSort none cap w
theorem heap_sorted (w : World) (g n : Nat) (ys : List Int) (os : Array Obj) {b : Nat} (hb : b < w.heap.size) (hne : b ≠ g) : (Go.Sort.grow (Go.Sort.putRow (Value.int .i64) (Go.Sort.ahead w n) g 0 ys.toArray) os).heap[b]? = w.heap[b]? := by
  have hs : (Go.Sort.putRow (Value.int .i64) (Go.Sort.ahead w n) g 0 ys.toArray).heap.size = w.heap.size := by simp [Go.Sort.putRow, Go.Sort.mapBlock, Go.Sort.ahead]
  rw [Go.Sort.heap_grow_old _ _ (by omega)]
  show (w.heap.modify g _)[b]? = _
  rw [Array.getElem?_modify, if_neg (fun e => hne e.symm)]
theorem heap_sorted0 (w : World) (g n : Nat) (ys : List Int) (os : Array Obj) {cur : Array Value} {e : TypeId} {z : Nat × Nat} (hh : w.heap[g]? = some (.cells cur e z)) : (Go.Sort.grow (Go.Sort.putRow (Value.int .i64) (Go.Sort.ahead w n) g 0 ys.toArray) os).heap[g]? = some (.cells (Go.Sort.putCells (Value.int .i64) 0 ys.toArray cur) e z) := by
  have hb : g < w.heap.size := (Array.getElem?_eq_some_iff.1 hh).1
  have hs : (Go.Sort.putRow (Value.int .i64) (Go.Sort.ahead w n) g 0 ys.toArray).heap.size = w.heap.size := by simp [Go.Sort.putRow, Go.Sort.mapBlock, Go.Sort.ahead]
  rw [Go.Sort.heap_grow_old _ _ (by omega)]
  show (w.heap.modify g _)[g]? = _
  rw [Array.getElem?_modify, if_pos rfl, hh]
  rfl
theorem s78 (l : List Int) (hl : l.length < 4611686018427387904) : HSpec Try.prog 78 [.one (.own 0)] [rowI l] (fun r m' => r = .tup [] ∧ m' = [some (rowI (srt l))]) := by
  intro w R vs hvs hM
  obtain ⟨hsz, hv⟩ := hvs
  obtain ⟨h0l, h0⟩ : 0 < R.n ∧ vs.getD 0 undef = R.ν 0 := hv 0 _ rfl
  have hvs : vs = #[R.ν 0] := by
    rw [← h0]
    refine Array.ext (by simpa using hsz) fun j h1 h2 => ?_
    have : j = 0 := by simp at hsz; omega
    subst this
    simp [Array.getD, h1]
  have hrow : RepB w R 0 (rowI l) := hM.rep 0 _ rfl
  unfold RepB at hrow
  obtain ⟨xs, ho, _, hc⟩ := hrow
  have ho : w.ownsRow 0 3 1 (R.ν 0) (i64s l).length xs := ho
  rw [i64s_len] at ho
  have hx : ∀ i, i < l.length → xs[i]? = some (.int .i64 (l.getD i 0)) := fun i hi => by
    obtain ⟨v, h1, h2⟩ := hc i [.int (l.getD i 0)] 0 _ _ (by simp [i64s, hi]) rfl rfl
    cases h2
    simpa using h1
  have hxl : xs.length = l.length := by have := ho.1; omega
  refine .inl ⟨e78 vs w, ?_⟩
  rw [hvs]
  rcases ho.2 with ⟨hn, hz⟩ | ⟨g, cap, cur, hn, hbase, hh, hcap, hcl, hcs, hct⟩
  · have hM' := hM
    rw [hn]
    refine (sort_calls0 0 w).mono ?_
    rintro e w' ⟨rfl, rfl⟩
    have : l = [] := List.length_eq_zero_iff.1 hz
    subst this
    refine ⟨_, _, _, R, rfl, ⟨rfl, rfl⟩, ?_, ⟨_, rfl, rfl, fun j x hx => by simp at hx⟩⟩
    rw [show srt [] = [] from List.mergeSort_nil]
    exact Fr.refl hM
  · rw [hn]
    have hgs : g < w.heap.size := (Array.getElem?_eq_some_iff.1 hh).1
    have hcl' : l.length ≤ cur.size := by omega
    have hcur : ∀ i, i < l.length → cur[i]? = some (.int .i64 (l.getD i 0)) := fun i hi => by
      have h1 := hx i hi
      rw [← hct, List.getElem?_take, if_pos (by omega), Array.getElem?_toList] at h1
      exact h1
    have hH : Go.Sort.Holds (Value.int .i64) w g 0 l.toArray := fun j hj => by
      have hj' : j < l.length := by simpa using hj
      refine ⟨?_, ?_⟩
      · unfold World.cell?
        rw [hh]
        simp only [Nat.zero_add]
        rw [show (none : Option Nat).isSome = false from rfl, if_neg (by simp), hcur j hj']
        simp [List.getD_eq_getElem?_getD, hj']
      · unfold World.frozen?
        rw [hh]
        simp
    refine (sort_calls g cap l w hH hgs hl).mono ?_
    rintro e w' ⟨rfl, n, os, rfl⟩
    refine ⟨_, _, _, R, rfl, ⟨rfl, rfl⟩, ?_, ⟨_, rfl, rfl, fun j x hx => by simp at hx⟩⟩
    have hfr : ∀ b, b < w.heap.size → b ≠ g → (Go.Sort.grow (Go.Sort.putRow (Value.int .i64) (Go.Sort.ahead w n) g 0 (srt l).toArray) os).heap[b]? = w.heap[b]? := fun b hb hne => heap_sorted w g n _ os hb hne
    have hg' := heap_sorted0 w g n (srt l) os hh
    have hsz' : w.heap.size ≤ (Go.Sort.grow (Go.Sort.putRow (Value.int .i64) (Go.Sort.ahead w n) g 0 (srt l).toArray) os).heap.size := by simp [Go.Sort.grow, Go.Sort.putRow, Go.Sort.mapBlock, Go.Sort.ahead]
    have hos : (Go.Sort.grow (Go.Sort.putRow (Value.int .i64) (Go.Sort.ahead w n) g 0 (srt l).toArray) os).os = w.os := rfl
    have htp : (Go.Sort.grow (Go.Sort.putRow (Value.int .i64) (Go.Sort.ahead w n) g 0 (srt l).toArray) os).tape = w.tape := rfl
    have hou : (Go.Sort.grow (Go.Sort.putRow (Value.int .i64) (Go.Sort.ahead w n) g 0 (srt l).toArray) os).output = w.output := rfl
    generalize Go.Sort.grow (Go.Sort.putRow (Value.int .i64) (Go.Sort.ahead w n) g 0 (srt l).toArray) os = w' at *
    have hown : ∀ b, R.own 0 b ↔ b = g := fun b => by
      unfold Rp.own
      rw [hn]
      constructor
      · rintro (h | ⟨h, _⟩)
        · cases h; rfl
        · cases h
      · rintro rfl; exact .inl rfl
    have hlv : ∀ (B : Blk) id, live [some B] id ↔ id = 0 := fun B id => by
      unfold live
      constructor
      · rintro ⟨b, h⟩
        cases id with
        | zero => rfl
        | succ id => simp at h
      · rintro rfl; exact ⟨_, rfl⟩
    have hlv0 : ∀ id, live (List.map some [rowI l]) id ↔ id = 0 := hlv _
    refine ⟨hos, htp, hou, hsz', fun b hb hnb => hfr b hb fun e => hnb ⟨0, (hlv0 0).2 rfl, (hown b).2 e⟩, ⟨hM.n, fun id b hb => ?_, fun id id' g' h1 h2 _ _ => ?_, fun id g' h1 h2 => ?_, fun b hb => Nat.lt_of_lt_of_le (hM.lt b hb) hsz', hM.cell⟩, by rw [hM.n]; exact Nat.le_refl _, fun _ _ => rfl, fun _ => Iff.rfl, fun b hb => .inl hb, fun id g' h1 h2 => ?_, fun id hid => Fam.Le.refl _⟩
    · have hid : id = 0 := (hlv _ id).1 ⟨b, hb⟩
      subst hid
      cases hb
      unfold RepB
      refine ⟨(srt l).map (Value.int .i64), ⟨by rw [List.length_map, i64s_len]; show _ = _ * 1; omega, .inr ⟨g, cap, _, ?_, Nat.zero_le _, hg', ?_, hcl, ?_, ?_⟩⟩, fun r hr => ?_, fun i r f c k h1 h2 h3 => ?_⟩
      · rw [i64s_len, srt_len]; exact hn
      · rw [i64s_len, srt_len]; exact hcap
      · simp [Go.Sort.putCells]; omega
      · refine List.ext_getElem? fun i => ?_
        rw [List.getElem?_take, List.getElem?_map, i64s_len, srt_len, Array.getElem?_toList, show l.length * [CK.int IntKind.i64].length = l.length from Nat.mul_one _]
        by_cases hi : i < l.length
        · have hci := hcur i hi
          have hlt : i < (srt l).length := by rw [srt_len]; exact hi
          rw [if_pos (by omega)]
          simp only [Go.Sort.putCells, Array.getElem?_mapIdx, hci, Option.map_some, List.size_toArray]
          rw [if_pos ⟨Nat.zero_le _, by omega⟩, List.getElem?_eq_getElem hlt]
          rw [getElem!_pos _ _ (by simpa using hlt)]
          simp
        · rw [if_neg (by omega), List.getElem?_eq_none (by rw [srt_len]; omega)]
          rfl
      · obtain ⟨x, _, rfl⟩ := List.mem_map.1 hr; rfl
      · have hi := (List.getElem?_eq_some_iff.1 h1).1
        rw [i64s_len] at hi
        have hs : (srt l)[i]? = some ((srt l).getD i 0) := by rw [List.getD_eq_getElem?_getD, List.getElem?_eq_getElem hi]; rfl
        have e1 : r = [.int ((srt l).getD i 0)] := by
          have : (i64s (srt l))[i]? = some [.int ((srt l).getD i 0)] := by unfold i64s; rw [List.getElem?_map, hs]; rfl
          rw [this] at h1
          exact (Option.some.inj h1).symm
        subst e1
        have hf : f = 0 := by have := (List.getElem?_eq_some_iff.1 h2).1; simpa using this
        subst hf
        cases h2
        cases h3
        refine ⟨_, ?_, .int _ _⟩
        show ((srt l).map (Value.int .i64))[i * 1 + 0]? = _
        rw [Nat.mul_one, Nat.add_zero, List.getElem?_map, hs]
        rfl
    · rw [(hlv _ _).1 h1, (hlv _ _).1 h2]
    · exact hM.ij id g' ((hlv0 id).2 ((hlv _ _).1 h1)) h2
    · exact .inr ⟨id, (hlv0 id).2 ((hlv _ _).1 h1), h2⟩
end Go.Sx

namespace Go.Sx
open Go Go.Proofs
set_option maxRecDepth 10000
set_option maxHeartbeats 8000000
/-! ### Flaws -/
theorem srt_perm (l : List Int) : (srt l).Perm l := List.mergeSort_perm _ _
theorem srt_pw (l : List Int) : (srt l).Pairwise (fun x y => x ≤ y) := by
  have := List.pairwise_mergeSort (le := fun x y : Int => decide (x ≤ y)) (fun a b c h1 h2 => by simp at *; omega) (fun a b => by simp; omega) l
  exact this.imp fun h => by simpa using h
theorem srt_eq {l m : List Int} (h : l.Perm m) : srt l = srt m :=
  List.Perm.eq_of_pairwise (le := fun x y => x ≤ y) (fun a b _ _ h1 h2 => by omega) (srt_pw l) (srt_pw m) ((srt_perm l).trans (h.trans (srt_perm m).symm))
/-- Keys that were read from a set. -/
structure KeyI (m : MS) (seen : List Nat) (ks : List Int) : Prop where
  sub : ∀ b ∈ seen, ∃ k, (k, b) ∈ m.es
  nds : seen.Nodup
  mem : ∀ k, k ∈ ks ↔ ∃ b ∈ seen, (k, b) ∈ m.es
  nd : ks.Nodup
  len : ks.length = seen.length
theorem KeyI.nil (m : MS) : KeyI m [] [] := ⟨fun b hb => by simp at hb, by simp, fun k => by simp, by simp, rfl⟩
theorem KeyI.le {m : MS} {seen : List Nat} {ks : List Int} (h : KeyI m seen ks) : seen.length ≤ m.es.length := by
  have := nodup_le seen (m.es.map (·.2)) h.nds (fun b hb => by
    obtain ⟨k, hk⟩ := h.sub b hb
    exact List.mem_map.2 ⟨_, hk, rfl⟩)
  simpa using this
theorem KeyI.step {m : MS} {seen : List Nat} {ks : List Int} (h : KeyI m seen ks) (hn : m.ks.Nodup) (hs : (m.es.map (·.2)).Nodup) {k : Int} {b : Nat} (hk : (k, b) ∈ m.es) (hb : b ∉ seen) : KeyI m (seen ++ [b]) (ks ++ [k]) := by
  have hkn : k ∉ ks := fun hc => by
    obtain ⟨b', h1, h2⟩ := (h.mem k).1 hc
    exact hb (es_uniq hn hk h2 ▸ h1)
  refine ⟨fun b' hb' => ?_, ?_, fun k' => ?_, ?_, by simp [h.len]⟩
  · rcases List.mem_append.1 hb' with h1 | h1
    · exact h.sub b' h1
    · rw [List.mem_singleton.1 h1]; exact ⟨k, hk⟩
  · exact List.nodup_append.2 ⟨h.nds, by simp, fun x hx y hy => by simp at hy; subst hy; rintro rfl; exact hb hx⟩
  · rw [List.mem_append, List.mem_singleton, h.mem]
    constructor
    · rintro (⟨b', h1, h2⟩ | rfl)
      · exact ⟨b', List.mem_append_left _ h1, h2⟩
      · exact ⟨b, by simp, hk⟩
    · rintro ⟨b', h1, h2⟩
      rcases List.mem_append.1 h1 with h1 | h1
      · exact .inl ⟨b', h1, h2⟩
      · obtain rfl := List.mem_singleton.1 h1
        exact .inr (es_uniq2 hs h2 hk)
  · exact List.nodup_append.2 ⟨h.nd, by simp, fun x hx y hy => by simp at hy; subst hy; rintro rfl; exact hkn hx⟩
theorem KeyI.done {m : MS} {seen : List Nat} {ks : List Int} {l : List Int} (h : KeyI m seen ks) (hm : SetOK m l) (hl : l.Nodup) (ho : ∀ e ∈ m.es, e.2 ∈ seen) : srt ks = srt l := by
  refine srt_eq ((List.perm_ext_iff_of_nodup h.nd hl).2 fun k => ?_)
  rw [h.mem, ← hm.mem]
  constructor
  · rintro ⟨b, _, h2⟩
    exact List.mem_map.2 ⟨_, h2, rfl⟩
  · intro hk
    obtain ⟨e, he, rfl⟩ := List.mem_map.1 hk
    exact ⟨e.2, ho e he, he⟩
theorem s40_ok (S : Sho) (ms : List MS) (hS : ShOK S) (hM : MsOK ms S.be) (i : Int) (hi : inP S i) : HSpec Try.prog 40 [.one (.ptr 0 0), I i] (shM S ms) (fun r m' => r = .tup [.one (.lst false [.int .i64] (i64s (srt (S.b i)))), I 0] ∧ m' = shK S ms) := by
  have c53 := s53 S ms
  have c63 := s63 S ms i
  rw [getR, if_pos hi] at c63
  unfold inP at hi
  obtain ⟨hi1, hi2⟩ := hi
  have hpl := plA_len S.pl
  refine spec_of pMix (O := []) Try.func40 (c := bodyOf Try.f40) rfl (by kernel_rfl) (by kernel_rfl) Try.ntmps40 (res := [.tmp 4, .tmp 5]) (by kernel_rfl) ?_
  repeat' ((conv => whnf); first | refine Rng.g ?_ | refine Ob.g ?_ | refine Ob.e ?_ | refine Ob.m ?_ | refine Ob.mk (Nat.le_of_ble_eq_true rfl) ?_ | refine JoinVC.on ?_ | refine Nils.mk (fun h => ?_) ?_ | refine Val.t ?_ | refine Val.d ?_ | refine Mm.mk ?_ | (refine Br.mk (fun h => ?_) (fun h => ?_) <;> first | (exfalso; omega; done) | (exfalso; simp at h; done) | skip))
  conv => whnf
  first | refine CallVC.mk [0, 1, 2, 3, 4, 5] _ _ _ rfl rfl rfl (c53) (fun r m' h' => ?_) | refine CallVC0.same [0, 1, 2, 3, 4, 5] _ _ _ rfl rfl rfl rfl (c53) (fun r m' h' => (by obtain ⟨rfl, rfl⟩ := h'; rfl)) (fun r m' h' => ?_) | (refine CallVC0.rows [0, 1, 2, 3, 4, 5] _ _ _ rfl rfl rfl ?_ (c53) (fun r m' h' => (by obtain ⟨rfl, rfl⟩ := h'; rfl)) (fun r m' h' => ?_); · (repeat' ((conv => whnf); first | exact trivial | exact rfl | exact Nat.le_refl _ | apply And.intro)))
  obtain ⟨rfl, rfl⟩ := h'
  conv => whnf
  repeat' ((conv => whnf); first | refine Rng.g ?_ | refine Ob.g ?_ | refine Ob.e ?_ | refine Ob.m ?_ | refine Ob.mk (Nat.le_of_ble_eq_true rfl) ?_ | refine JoinVC.on ?_ | refine Nils.mk (fun h => ?_) ?_ | refine Val.t ?_ | refine Val.d ?_ | refine Mm.mk ?_ | (refine Br.mk (fun h => ?_) (fun h => ?_) <;> first | (exfalso; omega; done) | (exfalso; simp at h; done) | skip))
  conv => whnf
  first | refine CallVC.mk [0, 1, 2, 3, 4, 5] _ _ _ rfl rfl rfl (c63) (fun r m' h' => ?_) | refine CallVC0.same [0, 1, 2, 3, 4, 5] _ _ _ rfl rfl rfl rfl (c63) (fun r m' h' => (by obtain ⟨rfl, rfl⟩ := h'; rfl)) (fun r m' h' => ?_) | (refine CallVC0.rows [0, 1, 2, 3, 4, 5] _ _ _ rfl rfl rfl ?_ (c63) (fun r m' h' => (by obtain ⟨rfl, rfl⟩ := h'; rfl)) (fun r m' h' => ?_); · (repeat' ((conv => whnf); first | exact trivial | exact rfl | exact Nat.le_refl _ | apply And.intro)))
  obtain ⟨rfl, rfl⟩ := h'
  conv => whnf
  repeat' ((conv => whnf); first | refine Rng.g ?_ | refine Ob.g ?_ | refine Ob.e ?_ | refine Ob.m ?_ | refine Ob.mk (Nat.le_of_ble_eq_true rfl) ?_ | refine JoinVC.on ?_ | refine Nils.mk (fun h => ?_) ?_ | refine Val.t ?_ | refine Val.d ?_ | refine Mm.mk ?_ | (refine Br.mk (fun h => ?_) (fun h => ?_) <;> first | (exfalso; omega; done) | (exfalso; simp at h; done) | skip))
  obtain ⟨m, hmm⟩ : ∃ m, ms.getD i.toNat ms0 = m := ⟨_, rfl⟩
  have hm := hM.2 i.toNat (by rw [hS.nb]; omega)
  rw [hmm] at hm
  have hnk : m.ks.Nodup := hm.nd
  have hbe := hS.be i.toNat (by rw [hS.nb]; omega)
  have hml : m.es.length ≤ 1000 := by
    have h1 := nodup_le m.ks (S.be.getD i.toNat []) hnk (fun k hk => (hm.mem k).1 hk)
    have h2 := nodup_le ((S.be.getD i.toNat []).map Int.toNat) (List.range S.fl.length) (by
      refine List.pairwise_map.2 (List.Pairwise.imp_of_mem ?_ hbe.1)
      intro a b ha hb hne hc
      have := hbe.2 a ha
      have := hbe.2 b hb
      exact hne (by omega)) (fun x hx => by
      obtain ⟨y, hy, rfl⟩ := List.mem_map.1 hx
      have := hbe.2 y hy
      exact List.mem_range.2 (by omega))
    rw [List.length_map, List.length_range] at h2
    have h3 : m.ks.length = m.es.length := List.length_map _
    have := hS.nf
    omega
  refine LoopVC.mk (fun n st => ∃ (seen : List Nat) (ks : List Int) (cur : Option (Int × Nat × Nat)), KeyI m seen ks ∧ n = m.es.length - seen.length ∧ st = ⟨6, envA 32 [(0, .x (.one (.ptr 0 0))), (1, .x (I i)), (6, .x (.one (.pel 2 i.toNat 0))), (7, .x (.one (.own 7))), (20, .x (.one (.ptr 6 0)))], shK S ms ++ [some (.mit 2 i.toNat m.c seen cur), some (rowI ks)]⟩) _ _ ⟨[], [], none, KeyI.nil m, rfl, rfl⟩ ?_ ?_
  · refine ⟨[some 0, some 1, some 2, some 3, some 4, some 5, some 6, none], rfl, rfl, ?_, ?_⟩ <;> repeat' (first | exact trivial | exact rfl | exact Iff.rfl | apply And.intro)
    exact congrArg MS.c hmm
  rintro n _ ⟨seen, ks, cur, hI, hn, rfl⟩
  have lk := i64s_len ks
  have hkl := hI.len
  have hle := hI.le
  repeat' ((conv => whnf); first | rw [hmm] | refine Rng.g ?_ | refine Ob.g ?_ | refine Ob.e ?_ | refine Ob.m ?_ | refine Ob.mk (Nat.le_of_ble_eq_true rfl) ?_ | refine JoinVC.on ?_ | refine Nils.mk (fun h => ?_) ?_ | refine Val.t ?_ | refine Val.d ?_ | refine Mm.mk ?_ | (refine Br.mk (fun h => ?_) (fun h => ?_) <;> first | (exfalso; omega; done) | (exfalso; simp at h; done) | skip))
  refine NextVC.mk ⟨hm.st, Nat.le_refl _⟩ (fun ho => ?_) (fun hs k b hkb hbs => ?_)
  · have c78 := s78 ks (by omega)
    have he := hI.done hm hbe.1 ho
    have he : srt ks = srt (S.b i) := he
    rw [← he]
    repeat' ((conv => whnf); first | refine Rng.g ?_ | refine Ob.g ?_ | refine Ob.e ?_ | refine Ob.m ?_ | refine Ob.mk (Nat.le_of_ble_eq_true rfl) ?_ | refine JoinVC.on ?_ | refine Nils.mk (fun h => ?_) ?_ | refine Val.t ?_ | refine Val.d ?_ | refine Mm.mk ?_ | (refine Br.mk (fun h => ?_) (fun h => ?_) <;> first | (exfalso; omega; done) | (exfalso; simp at h; done) | skip))
    conv => whnf
    refine CallVC.mk [7] _ _ _ rfl rfl rfl (c78) (fun r m' h' => ?_)
    obtain ⟨rfl, rfl⟩ := h'
    conv => whnf
    repeat' ((conv => whnf); first | refine Rng.g ?_ | refine Ob.g ?_ | refine Ob.e ?_ | refine Ob.m ?_ | refine Ob.mk (Nat.le_of_ble_eq_true rfl) ?_ | refine JoinVC.on ?_ | refine Nils.mk (fun h => ?_) ?_ | refine Val.t ?_ | refine Val.d ?_ | refine Mm.mk ?_ | (refine Br.mk (fun h => ?_) (fun h => ?_) <;> first | (exfalso; omega; done) | (exfalso; simp at h; done) | skip))
    repeat refine Mm.mk ?_
    refine EndVC.mk _ rfl _ _ ⟨rfl, rfl⟩ ?_
    refine ⟨[some 0, some 1, some 2, some 3, some 4, some 5], rfl, rfl, ?_, ?_⟩ <;> repeat' (first | exact trivial | exact rfl | exact Iff.rfl | apply And.intro)
  · have hI' := hI.step hnk hs hkb hbs
    have sn := i64s_snoc ks k
    have hle' := hI'.le
    rw [List.length_append, List.length_singleton] at hle'
    repeat' ((conv => whnf); first | refine Rng.g ?_ | refine Ob.g ?_ | refine Ob.e ?_ | refine Ob.m ?_ | refine Ob.mk (Nat.le_of_ble_eq_true rfl) ?_ | refine JoinVC.on ?_ | refine Nils.mk (fun h => ?_) ?_ | refine Val.t ?_ | refine Val.d ?_ | refine Mm.mk ?_ | (refine Br.mk (fun h => ?_) (fun h => ?_) <;> first | (exfalso; omega; done) | (exfalso; simp at h; done) | skip))
    repeat refine Mm.mk ?_
    refine Ob.mk (by exact ⟨congrArg MS.c hmm, by rw [hmm]; exact hkb⟩) ?_
    repeat' ((conv => whnf); first | rw [eb3] | refine Rng.g ?_ | refine Ob.g ?_ | refine Ob.e ?_ | refine Ob.m ?_ | refine Ob.mk (Nat.le_of_ble_eq_true rfl) ?_ | refine JoinVC.on ?_ | refine Nils.mk (fun h => ?_) ?_ | refine Val.t ?_ | refine Val.d ?_ | refine Mm.mk ?_ | (refine Br.mk (fun h => ?_) (fun h => ?_) <;> first | (exfalso; omega; done) | (exfalso; simp at h; done) | skip))
    refine Back.mk (m.es.length - (seen ++ [b]).length) _ (by simp; omega) ⟨seen ++ [b], ks ++ [k], some (k, b, m.c), hI', rfl, rfl⟩ ?_
    refine ⟨[some 0, some 1, some 2, some 3, some 4, some 5, some 6, some 9], rfl, rfl, ?_, ?_⟩ <;> repeat' (first | exact trivial | exact rfl | exact Iff.rfl | apply And.intro)
    exact sn.symm
end Go.Sx

namespace Go.Sx
open Go Go.Proofs
set_option maxRecDepth 10000
set_option maxHeartbeats 4000000
/-! ### What holds of the plates -/
theorem getD_last {α : Type} (l : List α) (q d : α) : (l ++ [q]).getD l.length d = q := by rw [getD_app, if_neg (Nat.lt_irrefl _), if_pos rfl]
def kids (l : List Pl) (i : Int) : Nat → Int
  | 0 => 0
  | k + 1 => kids l i k + (if (l.getD k p0).pa = i then 1 else 0)
theorem kids_congr {l m : List Pl} {i : Int} : ∀ {k : Nat}, (∀ j, j < k → (m.getD j p0).pa = (l.getD j p0).pa) → kids m i k = kids l i k
  | 0, _ => rfl
  | k + 1, h => by unfold kids; rw [kids_congr (fun j hj => h j (by omega)), h k (by omega)]
theorem kids_zero {l : List Pl} {i : Int} : ∀ {k : Nat}, (∀ j, j < k → (l.getD j p0).pa ≠ i) → kids l i k = 0
  | 0, _ => rfl
  | k + 1, h => by unfold kids; rw [kids_zero (fun j hj => h j (by omega)), if_neg (h k (by omega))]; rfl
/-- What a plate is to the others. -/
structure TreeP (r : Rcp) (l : List Pl) (i : Nat) (p : Pl) : Prop where
  root : p.kd = 0 → p.pa = -1 ∧ p.thick = 0
  sub : p.kd ≠ 0 → 0 ≤ p.pa ∧ (l.getD p.pa.toNat p0).kd + 1 = p.kd ∧ (l.getD p.pa.toNat p0).cut = p.cut ∧ (l.getD p.pa.toNat p0).area = p.area ∧ r.thin p.kd ≤ p.thick ∧ p.thick ≤ r.thk p.kd
  kids : p.grown = kids l i l.length
  cap : p.grown ≤ capP r p.kd
  lacq : p.kd = 0 → 0 < p.grown → p.ret = true
def Tree (S : Sho) : Prop := ∀ i, i < S.pl.length → TreeP S.r S.pl i (S.pl.getD i p0)
theorem Tree.new (r : Rcp) : Tree (shop0 r) := fun i hi => by simp at hi
/-- Plates that are changed where the others do not look. -/
theorem TreeP.same {r : Rcp} {l m : List Pl} {i : Nat} {p : Pl} (h : TreeP r l i p) (hl : m.length = l.length) (hs : ∀ j, (m.getD j p0).kd = (l.getD j p0).kd ∧ (m.getD j p0).pa = (l.getD j p0).pa ∧ (m.getD j p0).cut = (l.getD j p0).cut ∧ (m.getD j p0).area = (l.getD j p0).area) : TreeP r m i p := by
  refine ⟨h.root, fun hk => ?_, ?_, h.cap, h.lacq⟩
  · obtain ⟨q1, q2, q3, q4, q5⟩ := h.sub hk
    obtain ⟨s1, s2, s3, s4⟩ := hs p.pa.toNat
    rw [s1, s3, s4]
    exact ⟨q1, q2, q3, q4, q5⟩
  · rw [h.kids, hl]
    exact (kids_congr fun j _ => (hs j).2.1).symm
/-- A plate more. -/
theorem TreeP.more {r : Rcp} {l : List Pl} {i : Nat} {p q : Pl} (h : TreeP r l i p) (hi : i < l.length) (hpa : p.pa < i) (hq : q.pa ≠ i) : TreeP r (l ++ [q]) i p := by
  refine ⟨h.root, fun hk => ?_, ?_, h.cap, h.lacq⟩
  · obtain ⟨q1, q2, q3, q4, q5⟩ := h.sub hk
    rw [getD_app, if_pos (by omega)]
    exact ⟨q1, q2, q3, q4, q5⟩
  · rw [h.kids, List.length_append, List.length_singleton]
    conv => rhs; unfold Go.Sx.kids
    rw [getD_last, if_neg hq, Int.add_zero]
    exact (kids_congr fun j hj => by rw [getD_app, if_pos hj]).symm
theorem Tree.doS {S : Sho} (hS : ShOK S) (hT : Tree S) (a : Act2) : Tree (doS S a) := by
  unfold Go.Sx.doS
  split
  case isFalse => exact hT
  rename_i hE
  unfold doE at hE
  split at hE
  · cases hE
  split at hE
  case isFalse => cases hE
  rename_i ha
  have hk := ha.kd
  have hpa : ∀ j, j < S.pl.length → -1 ≤ (S.pl.getD j p0).pa ∧ (S.pl.getD j p0).pa < j := fun j hj => (hS.pl j hj).pa
  rcases (show a.kd = 1 ∨ a.kd = 2 ∨ a.kd = 3 ∨ a.kd = 4 ∨ a.kd = 5 ∨ a.kd = 6 by omega) with h | h | h | h | h | h
  · have hs : actS S a = { S with pl := S.pl ++ [⟨0, -1, a.cut, a.area, 0, 0, false⟩], be := S.be ++ [[]] } := by unfold actS; rw [if_pos h]
    rw [hs]
    intro i hi
    dsimp only at hi ⊢
    simp only [List.length_append, List.length_singleton] at hi
    rw [getD_app]
    split
    · exact (hT i ‹_›).more ‹_› (hpa i ‹_›).2 (by simp only []; omega)
    · have e : i = S.pl.length := by omega
      subst e
      rw [if_pos rfl]
      refine ⟨fun _ => ⟨rfl, rfl⟩, fun hc => absurd rfl hc, ?_, ?_, fun _ hc => absurd hc (by simp)⟩
      · refine (kids_zero fun j hj => ?_).symm
        simp only [List.length_append, List.length_singleton] at hj
        rw [getD_app]
        split
        · have := hpa j ‹_›
          omega
        · rw [if_pos (by omega)]; simp only []; omega
      · simp only [capP, if_true]; omega
  · have hs : actS S a = { S with tk := S.tk ++ [⟨a.stock, a.yd, 0, 0⟩] } := by unfold actS; rw [if_neg (by omega), if_pos h]
    rw [hs]
    exact hT
  · have hs : actS S a = { S with pl := (S.pl ++ [newP S a]).set a.plate.toNat (oldP (S.p a.plate)), be := S.be ++ [S.b a.plate], tk := S.tk.set a.bath.toNat (newT S a) } := by unfold actS; rw [if_neg (by omega), if_neg (by omega), if_pos h]
    have hG : groE S a = 0 := by unfold actE at hE; rwa [if_neg (by omega), if_neg (by omega), if_pos h] at hE
    have h1 : herE S a = 0 := by
      unfold groE at hG
      split at hG
      · exact hG
      · exact Classical.byContradiction ‹_›
    have h2 : layE S a = 0 := by unfold groE at hG; rwa [if_neg (by omega)] at hG
    have hth : S.r.thin ((S.p a.plate).kd + 1) ≤ thkM S a ∧ thkM S a ≤ S.r.thk ((S.p a.plate).kd + 1) := by
      unfold layE at h2
      split at h2
      · cases h2
      · omega
    obtain ⟨hi, hb, hret, h256, hkd, hcap⟩ := herE_0 hS h1
    unfold inP at hi
    obtain ⟨hi1, hi2⟩ := hi
    have hpo := hS.pl a.plate.toNat (by omega)
    have hk0 : 0 ≤ (S.p a.plate).kd := hpo.kd.1
    have hg0 : 0 ≤ (S.p a.plate).grown := hpo.grown.1
    rw [hs]
    intro i hi
    dsimp only at hi ⊢
    simp only [List.length_set, List.length_append, List.length_singleton] at hi
    have hsame : ∀ j, (((S.pl ++ [newP S a]).set a.plate.toNat (oldP (S.p a.plate))).getD j p0).kd = ((S.pl ++ [newP S a]).getD j p0).kd ∧ (((S.pl ++ [newP S a]).set a.plate.toNat (oldP (S.p a.plate))).getD j p0).pa = ((S.pl ++ [newP S a]).getD j p0).pa ∧ (((S.pl ++ [newP S a]).set a.plate.toNat (oldP (S.p a.plate))).getD j p0).cut = ((S.pl ++ [newP S a]).getD j p0).cut ∧ (((S.pl ++ [newP S a]).set a.plate.toNat (oldP (S.p a.plate))).getD j p0).area = ((S.pl ++ [newP S a]).getD j p0).area := fun j => by
      rw [getD_set]
      split
      · rename_i hq
        obtain ⟨rfl, _⟩ := hq
        rw [getD_app, if_pos (by omega)]
        exact ⟨rfl, rfl, rfl, rfl⟩
      · exact ⟨rfl, rfl, rfl, rfl⟩
    refine TreeP.same (l := S.pl ++ [newP S a]) ?_ (List.length_set ..) hsame
    rw [getD_set]
    split
    · rename_i hq
      obtain ⟨rfl, _⟩ := hq
      have ht := hT a.plate.toNat (by omega)
      have hq : TreeP S.r S.pl a.plate.toNat (S.p a.plate) := ht
      refine ⟨hq.root, fun hk' => ?_, ?_, ?_, fun hk' _ => ?_⟩
      · obtain ⟨q1, q2, q3, q4, q5⟩ := hq.sub hk'
        have := hpo.pa
        have hpl : (S.p a.plate).pa < a.plate.toNat := this.2
        simp only [oldP] at *
        rw [getD_app, if_pos (by omega)]
        exact ⟨q1, q2, q3, q4, q5⟩
      · have e1 : (newP S a).pa = ((a.plate.toNat : Nat) : Int) := by simp only [newP]; omega
        rw [List.length_append, List.length_singleton]
        unfold Go.Sx.kids
        rw [getD_last, if_pos e1]
        have hk2 := hq.kids
        simp only [oldP]
        rw [hk2]
        congr 1
        exact (kids_congr fun j hj => by rw [getD_app, if_pos hj]).symm
      · simp only [oldP]; omega
      · simp only [oldP] at hk' ⊢
        exact decide_eq_true hk'
    · rename_i hne
      rw [getD_app]
      split
      · rename_i hil
        refine (hT i hil).more hil (hpa i hil).2 ?_
        simp only [newP]
        rintro hc
        exact hne ⟨by omega, by simp; omega⟩
      · have e : i = S.pl.length := by omega
        subst e
        rw [if_pos rfl]
        refine ⟨fun hc => ?_, fun _ => ?_, ?_, ?_, fun _ hc => absurd hc (by simp [newP])⟩
        · simp only [newP] at hc; omega
        · simp only [newP]
          rw [getD_app, if_pos (by omega)]
          exact ⟨hi1, rfl, rfl, rfl, hth⟩
        · refine (kids_zero fun j hj => ?_).symm
          simp only [List.length_append, List.length_singleton] at hj
          rw [getD_app]
          split
          · have := hpa j ‹_›
            omega
          · rw [if_pos (by omega)]; simp only [newP]; omega
        · have hmo := hS.r.mo
          have hsp := hS.r.sp
          simp only [newP]
          unfold capP
          (repeat' split) <;> omega
  · have hs : actS S a = { S with fl := S.fl ++ [(a.plate, a.place)], be := S.be.set a.plate.toNat (S.b a.plate ++ [(S.fl.length : Int)]) } := by unfold actS; rw [if_neg (by omega), if_neg (by omega), if_neg (by omega), if_pos h]
    rw [hs]
    exact hT
  · have hs : actS S a = { S with be := S.be.set a.plate.toNat ((S.b a.plate).filter fun x => decide (x ≠ a.flaw)) } := by unfold actS; rw [if_neg (by omega), if_neg (by omega), if_neg (by omega), if_neg (by omega), if_pos h]
    rw [hs]
    exact hT
  · have hs : actS S a = { S with pl := S.pl.set a.plate.toNat (retP (S.p a.plate)) } := by unfold actS; rw [if_neg (by omega), if_neg (by omega), if_neg (by omega), if_neg (by omega), if_neg (by omega)]
    rw [hs]
    intro i hi
    dsimp only at hi ⊢
    rw [List.length_set] at hi
    have hsame : ∀ j, ((S.pl.set a.plate.toNat (retP (S.p a.plate))).getD j p0).kd = (S.pl.getD j p0).kd ∧ ((S.pl.set a.plate.toNat (retP (S.p a.plate))).getD j p0).pa = (S.pl.getD j p0).pa ∧ ((S.pl.set a.plate.toNat (retP (S.p a.plate))).getD j p0).cut = (S.pl.getD j p0).cut ∧ ((S.pl.set a.plate.toNat (retP (S.p a.plate))).getD j p0).area = (S.pl.getD j p0).area := fun j => by
      rw [getD_set]
      split
      · rename_i hq
        obtain ⟨rfl, _⟩ := hq
        exact ⟨rfl, rfl, rfl, rfl⟩
      · exact ⟨rfl, rfl, rfl, rfl⟩
    refine TreeP.same (l := S.pl) ?_ (List.length_set ..) hsame
    rw [getD_set]
    split
    · rename_i hq
      obtain ⟨rfl, hq2⟩ := hq
      have ht : TreeP S.r S.pl a.plate.toNat (S.p a.plate) := hT a.plate.toNat hq2
      exact ⟨ht.root, ht.sub, ht.kids, ht.cap, fun _ _ => rfl⟩
    · exact hT i hi
theorem Tree.repS {S : Sho} (hS : ShOK S) (hT : Tree S) (l : List Act2) : ∀ i, Tree (Go.Sx.repS S l i)
  | 0 => hT
  | i + 1 => Tree.doS (ShOK.repS hS l i) (Tree.repS hS hT l i) _
end Go.Sx

namespace Go.Sx
open Go Go.Proofs
set_option maxRecDepth 10000
set_option maxHeartbeats 4000000
/-! ### Hands: from which plate a flaw comes -/
def fromT (o c : Int) : Int → List Int → Bool
  | _, [] => false
  | p, y :: ys => if y = o then decide (c ≤ p) else fromT o c y ys
def fromU (o c : Int) : List Int → Bool
  | [] => false
  | x :: xs => if x = o then true else fromT o c x xs
/-- What the loop over a line says behind k of its plates. -/
def frK (L : List Int) (o c : Int) : Nat → Bool
  | 0 => false
  | k + 1 => if L.getD k 0 = o then (decide (k + 1 = L.length) || decide (c ≤ L.getD (k + 1) 0)) else frK L o c k
theorem getD_mid (xs : List Int) (x : Int) (t : List Int) : (xs ++ x :: t).getD xs.length 0 = x := by simp
theorem frK_T (o c : Int) : ∀ (xs : List Int) (x : Int) (t : List Int), frK (xs.reverse ++ x :: t) o c xs.length = fromT o c x xs
  | [], x, t => rfl
  | y :: ys, x, t => by
    have ih := frK_T o c ys y (x :: t)
    have e : (y :: ys).reverse ++ x :: t = ys.reverse ++ y :: (x :: t) := by simp
    rw [e, List.length_cons, frK, fromT]
    have g1 : (ys.reverse ++ y :: (x :: t)).getD ys.length 0 = y := by
      have := getD_mid ys.reverse y (x :: t)
      rwa [List.length_reverse] at this
    have g2 : (ys.reverse ++ y :: (x :: t)).getD (ys.length + 1) 0 = x := by
      have := getD_mid (ys.reverse ++ [y]) x t
      rw [List.length_append, List.length_reverse, List.length_singleton, List.append_assoc] at this
      exact this
    rw [g1, g2]
    split
    · rw [decide_eq_false (by simp only [List.length_append, List.length_reverse, List.length_cons]; omega), Bool.false_or]
    · exact ih
theorem frK_U (o c : Int) (u : List Int) : frK u.reverse o c u.length = fromU o c u := by
  cases u with
  | nil => rfl
  | cons x xs =>
    rw [List.reverse_cons, List.length_cons, frK, fromU]
    have g1 : (xs.reverse ++ [x]).getD xs.length 0 = x := by
      have := getD_mid xs.reverse x []
      rwa [List.length_reverse] at this
    rw [g1]
    split
    · rw [decide_eq_true (by simp), Bool.true_or]
    · exact frK_T o c xs x []
theorem fromT_lt {o c : Int} : ∀ {xs : List Int} {p : Int}, p < c → (∀ x ∈ xs, x < c) → fromT o c p xs = false
  | [], _, _, _ => rfl
  | y :: ys, p, hp, h => by
    rw [fromT]
    split
    · exact decide_eq_false (by omega)
    · exact fromT_lt (h y (.head _)) fun x hx => h x (.tail _ hx)
theorem fromU_cons {o c x : Int} {u : List Int} (hx : x ≠ o) (hc : c ≤ x) (hu : u ≠ []) : fromU o c (x :: u) = fromU o c u := by
  cases u with
  | nil => exact absurd rfl hu
  | cons y ys =>
    rw [fromU, if_neg hx, fromT, fromU]
    split
    · exact decide_eq_true hc
    · rfl
theorem up_same {S S' : Sho} (hS : ShOK S) (hS' : ShOK S') (hle : S.pl.length ≤ S'.pl.length) (h : ∀ j, j < S.pl.length → (S'.q j).pa = (S.q j).pa) : ∀ (n i : Nat), i < n → i < S.pl.length → S'.up i = S.up i
  | 0, _, h, _ => absurd h (Nat.not_lt_zero _)
  | n + 1, i, hn, hi => by
    have e : (S'.p (i : Int)).pa = (S.p (i : Int)).pa := by
      have := h i hi
      unfold Sho.q at this
      unfold Sho.p
      rwa [Int.toNat_natCast]
    have hp := (hS.pl i hi).pa
    have hp' : -1 ≤ (S.p (i : Int)).pa ∧ (S.p (i : Int)).pa < (i : Int) := by unfold Sho.p; rwa [Int.toNat_natCast]
    rw [up_step hS' (i := (i : Int)) (by omega) (by omega), up_step hS (i := (i : Int)) (by omega) (by omega), e]
    by_cases h0 : 0 ≤ (S.p (i : Int)).pa
    · have := up_same hS hS' hle h n ((S.p (i : Int)).pa.toNat) (by omega) (by omega)
      rw [show (((S.p (i : Int)).pa.toNat : Nat) : Int) = (S.p (i : Int)).pa by omega] at this
      rw [this]
    · rw [up_neg h0, up_neg h0]
structure HandI (S : Sho) (N : List Int) (M : List Bool) : Prop where
  ln : N.length = S.fl.length
  lm : M.length = S.fl.length
  org : ∀ f, f < S.fl.length → 0 ≤ (S.fl.getD f (0, 0)).1 ∧ (S.fl.getD f (0, 0)).1 < N.getD f 0 ∧ N.getD f 0 ≤ S.pl.length
  h1 : ∀ f p, f < S.fl.length → p < S.pl.length → (f : Int) ∈ S.be.getD p [] → fromU (S.fl.getD f (0, 0)).1 (N.getD f 0) (S.up p) = true
  h2 : ∀ f p, f < S.fl.length → p < S.pl.length → M.getD f true = false → fromU (S.fl.getD f (0, 0)).1 (N.getD f 0) (S.up p) = true → (f : Int) ∈ S.be.getD p []
theorem HandI.new (r : Rcp) : HandI (shop0 r) [] [] := ⟨rfl, rfl, fun f hf => absurd hf (Nat.not_lt_zero f), fun f _ hf => absurd hf (Nat.not_lt_zero f), fun f _ hf => absurd hf (Nat.not_lt_zero f)⟩
def nxN (S : Sho) (a : Act2) (N : List Int) : List Int := if a.kd = 4 then N ++ [(S.pl.length : Int)] else N
def nxM (a : Act2) (M : List Bool) : List Bool := if a.kd = 4 then M ++ [false] else if a.kd = 5 then M.set a.flaw.toNat true else M
/-- What a step needs: plates and flaws as they were, or more. -/
theorem HandI.more {S S' : Sho} {N : List Int} {M M' : List Bool} (h : HandI S N M) (hS : ShOK S) (hS' : ShOK S') (hfl : S'.fl = S.fl) (hm : M'.length = M.length) (hmm : ∀ f, f < S.fl.length → M'.getD f true = false → M.getD f true = false)
    (hle : S.pl.length ≤ S'.pl.length) (hpa : ∀ j, j < S.pl.length → (S'.q j).pa = (S.q j).pa)
    (hb1 : ∀ f p, f < S.fl.length → p < S.pl.length → (f : Int) ∈ S'.be.getD p [] → (f : Int) ∈ S.be.getD p [])
    (hb2 : ∀ f p, f < S.fl.length → p < S.pl.length → M'.getD f true = false → (f : Int) ∈ S.be.getD p [] → (f : Int) ∈ S'.be.getD p [])
    (hn1 : ∀ f p, f < S.fl.length → S.pl.length ≤ p → p < S'.pl.length → (f : Int) ∈ S'.be.getD p [] → fromU (S.fl.getD f (0, 0)).1 (N.getD f 0) (S'.up p) = true)
    (hn2 : ∀ f p, f < S.fl.length → S.pl.length ≤ p → p < S'.pl.length → M'.getD f true = false → fromU (S.fl.getD f (0, 0)).1 (N.getD f 0) (S'.up p) = true → (f : Int) ∈ S'.be.getD p []) : HandI S' N M' := by
  have hup := fun i hi => up_same hS hS' hle hpa (i + 1) i (Nat.lt_succ_self i) hi
  refine ⟨by rw [hfl]; exact h.ln, by rw [hfl, hm]; exact h.lm, fun f hf => ?_, fun f p hf hp hb => ?_, fun f p hf hp hmf hu => ?_⟩
  · rw [hfl] at hf ⊢
    have := h.org f hf
    omega
  · rw [hfl] at hf ⊢
    by_cases hp' : p < S.pl.length
    · rw [hup p hp']
      exact h.h1 f p hf hp' (hb1 f p hf hp' hb)
    · exact hn1 f p hf (by omega) hp hb
  · rw [hfl] at hf hu
    by_cases hp' : p < S.pl.length
    · rw [hup p hp'] at hu
      exact hb2 f p hf hp' hmf (h.h2 f p hf hp' (hmm f hf hmf) hu)
    · exact hn2 f p hf (by omega) hp hmf hu
theorem getD_setD {α : Type} (l : List α) (i j : Nat) (a d : α) (h : i ≠ j) : (l.set i a).getD j d = l.getD j d := by rw [getD_set, if_neg (fun hc => h hc.1)]
theorem HandI.next {S : Sho} {N : List Int} {M : List Bool} (h : HandI S N M) (hS : ShOK S) {a : Act2} (hE : doE S a = 0) : HandI (doS S a) (nxN S a N) (nxM a M) := by
  have hS' := hS.doS a
  have hD : doS S a = { actS S a with ac := S.ac ++ [a] } := if_pos hE
  have hE' := hE
  unfold doE at hE
  split at hE
  · cases hE
  split at hE
  case isFalse => cases hE
  rename_i ha
  have hk := ha.kd
  have hnb := hS.nb
  rcases (show a.kd = 1 ∨ a.kd = 2 ∨ a.kd = 3 ∨ a.kd = 4 ∨ a.kd = 5 ∨ a.kd = 6 by omega) with hk | hk | hk | hk | hk | hk
  · have hs : actS S a = { S with pl := S.pl ++ [⟨0, -1, a.cut, a.area, 0, 0, false⟩], be := S.be ++ [[]] } := by unfold actS; rw [if_pos hk]
    rw [hs] at hD
    have eN : nxN S a N = N := by unfold nxN; rw [if_neg (by omega)]
    have eM : nxM a M = M := by unfold nxM; rw [if_neg (by omega), if_neg (by omega)]
    rw [eN, eM]
    have hpl : (doS S a).pl = S.pl ++ [⟨0, -1, a.cut, a.area, 0, 0, false⟩] := by rw [hD]
    have hbe : (doS S a).be = S.be ++ [[]] := by rw [hD]
    refine h.more hS hS' (by rw [hD]) rfl (fun f hf hm => hm) (by rw [hpl]; simp) (fun j hj => ?_) (fun f p hf hp hb => ?_) (fun f p hf hp hm hb => ?_) (fun f p hf hp hp' hb => ?_) (fun f p hf hp hp' hm hu => ?_)
    · unfold Sho.q; rw [hpl, getD_app, if_pos hj]
    · rw [hbe, getD_app, if_pos (by omega)] at hb; exact hb
    · rw [hbe, getD_app, if_pos (by omega)]; exact hb
    · rw [hpl, List.length_append, List.length_singleton] at hp'
      rw [hbe, getD_app, if_neg (by omega), if_pos (by omega)] at hb
      cases hb
    · exfalso
      have hp'' := hp'
      rw [hpl, List.length_append, List.length_singleton] at hp''
      obtain rfl : p = S.pl.length := by omega
      have e : ((doS S a).p (S.pl.length : Int)).pa = -1 := by
        unfold Sho.p
        rw [Int.toNat_natCast, hpl, getD_app, if_neg (by omega), if_pos rfl]
      rw [up_step hS' (i := (S.pl.length : Int)) (by omega) (by omega), e, up_neg (by decide), fromU] at hu
      have := h.org f hf
      rw [if_neg (by omega)] at hu
      cases hu
  · have hs : actS S a = { S with tk := S.tk ++ [⟨a.stock, a.yd, 0, 0⟩] } := by unfold actS; rw [if_neg (by omega), if_pos hk]
    rw [hs] at hD
    have eN : nxN S a N = N := by unfold nxN; rw [if_neg (by omega)]
    have eM : nxM a M = M := by unfold nxM; rw [if_neg (by omega), if_neg (by omega)]
    rw [eN, eM]
    have hpl : (doS S a).pl = S.pl := by rw [hD]
    have hbe : (doS S a).be = S.be := by rw [hD]
    refine h.more hS hS' (by rw [hD]) rfl (fun f hf hm => hm) (by rw [hpl]; exact Nat.le_refl _) (fun j hj => by unfold Sho.q; rw [hpl]) (fun f p hf hp hb => by rwa [hbe] at hb) (fun f p hf hp hm hb => by rwa [hbe]) (fun f p hf hp hp' hb => by rw [hpl] at hp'; omega) (fun f p hf hp hp' hm hu => by rw [hpl] at hp'; omega)
  · have hs : actS S a = { S with pl := (S.pl ++ [newP S a]).set a.plate.toNat (oldP (S.p a.plate)), be := S.be ++ [S.b a.plate], tk := S.tk.set a.bath.toNat (newT S a) } := by unfold actS; rw [if_neg (by omega), if_neg (by omega), if_pos hk]
    rw [hs] at hD
    have eN : nxN S a N = N := by unfold nxN; rw [if_neg (by omega)]
    have eM : nxM a M = M := by unfold nxM; rw [if_neg (by omega), if_neg (by omega)]
    rw [eN, eM]
    have hG : groE S a = 0 := by unfold actE at hE; rwa [if_neg (by omega), if_neg (by omega), if_pos hk] at hE
    have hh1 : herE S a = 0 := by
      unfold groE at hG
      split at hG
      · exact hG
      · exact Classical.byContradiction ‹_›
    obtain ⟨hi, _⟩ := herE_0 hS hh1
    unfold inP at hi
    obtain ⟨hi1, hi2⟩ := hi
    have hpl : (doS S a).pl = (S.pl ++ [newP S a]).set a.plate.toNat (oldP (S.p a.plate)) := by rw [hD]
    have hbe : (doS S a).be = S.be ++ [S.b a.plate] := by rw [hD]
    have hlen : (doS S a).pl.length = S.pl.length + 1 := by rw [hpl]; simp
    have hpa : ∀ j, j < S.pl.length → ((doS S a).q j).pa = (S.q j).pa := fun j hj => by
      unfold Sho.q
      rw [hpl, getD_set]
      split
      · rename_i hq
        obtain ⟨rfl, _⟩ := hq
        rfl
      · rw [getD_app, if_pos hj]
    have hup := fun i hi => up_same hS hS' (by omega) hpa (i + 1) i (Nat.lt_succ_self i) hi
    have hbl : (S.be ++ [S.b a.plate]).getD S.pl.length [] = S.be.getD a.plate.toNat [] := by rw [getD_app, if_neg (by omega), if_pos (by omega)]; rfl
    have hupn : (doS S a).up (S.pl.length : Int) = (S.pl.length : Int) :: S.up a.plate := by
      have e : ((doS S a).p (S.pl.length : Int)).pa = a.plate := by
        unfold Sho.p
        rw [Int.toNat_natCast, hpl, getD_setD _ _ _ _ _ (by omega), getD_app, if_neg (by omega), if_pos rfl]
        rfl
      rw [up_step hS' (i := (S.pl.length : Int)) (by omega) (by omega), e]
      have := hup a.plate.toNat (by omega)
      rw [show ((a.plate.toNat : Nat) : Int) = a.plate by omega] at this
      rw [this]
    have hne : S.up a.plate ≠ [] := by rw [up_step hS hi2 hi1]; simp
    have hfr : ∀ f, f < S.fl.length → fromU (S.fl.getD f (0, 0)).1 (N.getD f 0) ((doS S a).up (S.pl.length : Int)) = fromU (S.fl.getD f (0, 0)).1 (N.getD f 0) (S.up ((a.plate.toNat : Nat) : Int)) := fun f hf => by
      have := h.org f hf
      rw [hupn, fromU_cons (by omega) (by omega) hne, show ((a.plate.toNat : Nat) : Int) = a.plate by omega]
    refine h.more hS hS' (by rw [hD]) rfl (fun f hf hm => hm) (by omega) hpa (fun f p hf hp hb => ?_) (fun f p hf hp hm hb => ?_) (fun f p hf hp hp' hb => ?_) (fun f p hf hp hp' hm hu => ?_)
    · rw [hbe, getD_app, if_pos (by omega)] at hb; exact hb
    · rw [hbe, getD_app, if_pos (by omega)]; exact hb
    · obtain rfl : p = S.pl.length := by omega
      rw [hbe, hbl] at hb
      rw [hfr f hf]
      exact h.h1 f a.plate.toNat hf (by omega) hb
    · obtain rfl : p = S.pl.length := by omega
      rw [hfr f hf] at hu
      rw [hbe, hbl]
      exact h.h2 f a.plate.toNat hf (by omega) hm hu
  · have hs : actS S a = { S with fl := S.fl ++ [(a.plate, a.place)], be := S.be.set a.plate.toNat (S.b a.plate ++ [(S.fl.length : Int)]) } := by unfold actS; rw [if_neg (by omega), if_neg (by omega), if_neg (by omega), if_pos hk]
    rw [hs] at hD
    have hA := act_in (S := S) (a := a) (.inl hk)
    rw [hE] at hA
    have hi : inP S a.plate := by
      refine Classical.byContradiction fun hc => ?_
      rw [if_pos (.inl hc)] at hA
      cases hA
    unfold inP at hi
    obtain ⟨hi1, hi2⟩ := hi
    have eN : nxN S a N = N ++ [(S.pl.length : Int)] := by unfold nxN; rw [if_pos hk]
    have eM : nxM a M = M ++ [false] := by unfold nxM; rw [if_pos hk]
    rw [eN, eM]
    have hpl : (doS S a).pl = S.pl := by rw [hD]
    have hfl : (doS S a).fl = S.fl ++ [(a.plate, a.place)] := by rw [hD]
    have hbe : (doS S a).be = S.be.set a.plate.toNat (S.b a.plate ++ [(S.fl.length : Int)]) := by rw [hD]
    have hup := fun i hi => up_same hS hS' (by rw [hpl]; exact Nat.le_refl _) (fun j hj => by unfold Sho.q; rw [hpl]) (i + 1) i (Nat.lt_succ_self i) hi
    have hln := h.ln
    have hlm := h.lm
    have hmem : ∀ f p, f < S.fl.length → p < S.pl.length → ((f : Int) ∈ (doS S a).be.getD p [] ↔ (f : Int) ∈ S.be.getD p []) := fun f p hf hp => by
      rw [hbe, getD_set]
      split
      · rename_i hq
        obtain ⟨rfl, _⟩ := hq
        rw [List.mem_append, List.mem_singleton]
        exact ⟨fun q => q.resolve_right (by omega), .inl⟩
      · exact Iff.rfl
    have hmem2 : ∀ p, p < S.pl.length → (((S.fl.length : Nat) : Int) ∈ (doS S a).be.getD p [] ↔ p = a.plate.toNat) := fun p hp => by
      have hnot : ¬ ((S.fl.length : Nat) : Int) ∈ S.be.getD p [] := fun hc => by
        have := (hS.be p (by omega)).2 _ hc
        omega
      rw [hbe, getD_set]
      split
      · rename_i hq
        exact ⟨fun _ => hq.1.symm, fun _ => List.mem_append_right _ (List.mem_singleton.2 rfl)⟩
      · rename_i hq
        exact ⟨fun q => absurd q hnot, fun q => absurd ⟨q.symm, by omega⟩ hq⟩
    have hfr : ∀ p, p < S.pl.length → (fromU a.plate (S.pl.length : Int) (S.up (p : Int)) = true ↔ p = a.plate.toNat) := fun p hp => by
      rw [up_step hS (i := (p : Int)) (by omega) (by omega), fromU]
      by_cases hc : (p : Int) = a.plate
      · rw [if_pos hc]; exact ⟨fun _ => by omega, fun _ => rfl⟩
      · rw [if_neg hc, fromT_lt (by omega) (fun x hx => ?_)]
        · exact ⟨fun q => (by cases q), fun q => absurd (by omega) hc⟩
        · have hpp := (hS.pl p hp).pa
          have hpp' : (S.p (p : Int)).pa < (p : Int) := by unfold Sho.p; rw [Int.toNat_natCast]; exact hpp.2
          have := (up_le hS _ (S.p (p : Int)).pa (by omega) (Nat.le_refl _) x hx).2
          omega
    have hf1 : ∀ f, f < S.fl.length → (S.fl ++ [(a.plate, a.place)]).getD f (0, 0) = S.fl.getD f (0, 0) ∧ (N ++ [(S.pl.length : Int)]).getD f 0 = N.getD f 0 ∧ (M ++ [false]).getD f true = M.getD f true := fun f hf => by
      rw [getD_app, getD_app, getD_app, if_pos hf, if_pos (by omega), if_pos (by omega)]
      exact ⟨rfl, rfl, rfl⟩
    have hf2 : (S.fl ++ [(a.plate, a.place)]).getD S.fl.length (0, 0) = (a.plate, a.place) ∧ (N ++ [(S.pl.length : Int)]).getD S.fl.length 0 = S.pl.length := by
      rw [getD_app, getD_app, if_neg (by omega), if_pos rfl, if_neg (by omega), if_pos (by omega)]
      exact ⟨rfl, rfl⟩
    refine ⟨by rw [hfl]; simp [hln], by rw [hfl]; simp [hlm], fun f hf => ?_, fun f p hf hp hb => ?_, fun f p hf hp hm hu => ?_⟩
    · rw [hfl, List.length_append, List.length_singleton] at hf
      rw [hfl, hpl]
      by_cases hf' : f < S.fl.length
      · rw [(hf1 f hf').1, (hf1 f hf').2.1]
        exact h.org f hf'
      · obtain rfl : f = S.fl.length := by omega
        rw [hf2.1, hf2.2]
        exact ⟨hi1, hi2, Int.le_refl _⟩
    · rw [hfl, List.length_append, List.length_singleton] at hf
      rw [hpl] at hp
      rw [hfl, hup p hp]
      by_cases hf' : f < S.fl.length
      · rw [(hf1 f hf').1, (hf1 f hf').2.1]
        exact h.h1 f p hf' hp ((hmem f p hf' hp).1 hb)
      · obtain rfl : f = S.fl.length := by omega
        rw [hf2.1, hf2.2]
        exact (hfr p hp).2 ((hmem2 p hp).1 hb)
    · rw [hfl, List.length_append, List.length_singleton] at hf
      rw [hpl] at hp
      rw [hfl, hup p hp] at hu
      by_cases hf' : f < S.fl.length
      · rw [(hf1 f hf').1, (hf1 f hf').2.1] at hu
        rw [(hf1 f hf').2.2] at hm
        exact (hmem f p hf' hp).2 (h.h2 f p hf' hp hm hu)
      · obtain rfl : f = S.fl.length := by omega
        rw [hf2.1, hf2.2] at hu
        exact (hmem2 p hp).2 ((hfr p hp).1 hu)
  · have hs : actS S a = { S with be := S.be.set a.plate.toNat ((S.b a.plate).filter fun x => decide (x ≠ a.flaw)) } := by unfold actS; rw [if_neg (by omega), if_neg (by omega), if_neg (by omega), if_neg (by omega), if_pos hk]
    rw [hs] at hD
    have hA := act_in (S := S) (a := a) (.inr (.inl hk))
    rw [hE] at hA
    have hfw : ¬ (a.flaw < 0 ∨ (S.fl.length : Int) ≤ a.flaw) := fun hc => by
      rw [if_pos (.inr ⟨hk, hc⟩)] at hA
      cases hA
    have eN : nxN S a N = N := by unfold nxN; rw [if_neg (by omega)]
    have eM : nxM a M = M.set a.flaw.toNat true := by unfold nxM; rw [if_neg (by omega), if_pos hk]
    rw [eN, eM]
    have hpl : (doS S a).pl = S.pl := by rw [hD]
    have hbe : (doS S a).be = S.be.set a.plate.toNat ((S.b a.plate).filter fun x => decide (x ≠ a.flaw)) := by rw [hD]
    have hlm := h.lm
    have hmf : ∀ f, f < S.fl.length → (M.set a.flaw.toNat true).getD f true = false → f ≠ a.flaw.toNat ∧ M.getD f true = false := fun f hf hm => by
      rw [getD_set] at hm
      split at hm
      · cases hm
      · rename_i hq
        exact ⟨fun e => hq ⟨e.symm, by omega⟩, hm⟩
    refine h.more hS hS' (by rw [hD]) (List.length_set ..) (fun f hf hm => (hmf f hf hm).2) (by rw [hpl]; exact Nat.le_refl _) (fun j hj => by unfold Sho.q; rw [hpl]) (fun f p hf hp hb => ?_) (fun f p hf hp hm hb => ?_) (fun f p hf hp hp' hb => by rw [hpl] at hp'; omega) (fun f p hf hp hp' hm hu => by rw [hpl] at hp'; omega)
    · rw [hbe, getD_set] at hb
      split at hb
      · rename_i hq
        obtain ⟨rfl, _⟩ := hq
        exact (List.mem_filter.1 hb).1
      · exact hb
    · have := (hmf f hf hm).1
      rw [hbe, getD_set]
      split
      · rename_i hq
        obtain ⟨rfl, _⟩ := hq
        exact List.mem_filter.2 ⟨hb, decide_eq_true (by omega)⟩
      · exact hb
  · have hs : actS S a = { S with pl := S.pl.set a.plate.toNat (retP (S.p a.plate)) } := by unfold actS; rw [if_neg (by omega), if_neg (by omega), if_neg (by omega), if_neg (by omega), if_neg (by omega)]
    rw [hs] at hD
    have eN : nxN S a N = N := by unfold nxN; rw [if_neg (by omega)]
    have eM : nxM a M = M := by unfold nxM; rw [if_neg (by omega), if_neg (by omega)]
    rw [eN, eM]
    have hpl : (doS S a).pl = S.pl.set a.plate.toNat (retP (S.p a.plate)) := by rw [hD]
    have hbe : (doS S a).be = S.be := by rw [hD]
    have hlen : (doS S a).pl.length = S.pl.length := by rw [hpl, List.length_set]
    refine h.more hS hS' (by rw [hD]) rfl (fun f hf hm => hm) (by omega) (fun j hj => ?_) (fun f p hf hp hb => by rwa [hbe] at hb) (fun f p hf hp hm hb => by rwa [hbe]) (fun f p hf hp hp' hb => by omega) (fun f p hf hp hp' hm hu => by omega)
    unfold Sho.q
    rw [hpl, getD_set]
    split
    · rename_i hq
      obtain ⟨rfl, _⟩ := hq
      rfl
    · rfl
/-! ### Bearers, one after another -/
theorem bear_pre (be : List (List Int)) (f : Int) (k : Nat) : ∀ n, k ≤ n → ∃ t, bear be f n = bear be f k ++ t
  | 0, h => ⟨[], by obtain rfl : k = 0 := by omega
                    simp⟩
  | n + 1, h => by
    by_cases e : k = n + 1
    · exact ⟨[], by rw [e, List.append_nil]⟩
    · obtain ⟨t, ht⟩ := bear_pre be f k n (by omega)
      exact ⟨_, by rw [bear, ht, List.append_assoc]⟩
theorem bear_at {be : List (List Int)} {f : Int} {k n : Nat} (hk : k < n) (h : f ∈ be.getD k []) : (bear be f k).length < (bear be f n).length ∧ (bear be f n).getD (bear be f k).length 0 = (k : Int) := by
  obtain ⟨t, ht⟩ := bear_pre be f (k + 1) n hk
  rw [bear, if_pos h, List.append_assoc] at ht
  rw [ht]
  exact ⟨by simp only [List.length_append, List.length_cons, List.length_nil]; omega, getD_mid _ _ _⟩
theorem bear_not {be : List (List Int)} {f : Int} {k n : Nat} (hk : k < n) (h : ¬ f ∈ be.getD k []) : ¬ ((bear be f k).length < (bear be f n).length ∧ (bear be f n).getD (bear be f k).length 0 = (k : Int)) := by
  rintro ⟨h1, h2⟩
  obtain ⟨t, ht⟩ := bear_pre be f k n (by omega)
  have hmem : (k : Int) ∈ t := by
    rw [ht] at h2 h1
    rw [List.length_append] at h1
    cases t with
    | nil => simp at h1
    | cons y ys =>
      rw [getD_mid] at h2
      rw [h2]
      exact .head _
  have hkb : (k : Int) ∈ bear be f n := by rw [ht]; exact List.mem_append_right _ hmem
  have key : ∀ n, (k : Int) ∈ bear be f n → f ∈ be.getD k [] := by
    intro n
    induction n with
    | zero => intro h; cases h
    | succ n ih =>
      intro hm
      rw [bear] at hm
      rcases List.mem_append.1 hm with hm | hm
      · exact ih hm
      · split at hm
        · rename_i hf
          have := List.mem_singleton.1 hm
          rwa [show k = n by omega]
        · cases hm
  exact h (key n hkb)
end Go.Sx

namespace Go.Sx
open Go Go.Proofs
set_option maxRecDepth 10000
set_option maxHeartbeats 8000000
/-! ### Which lists are lines -/
end Go.Sx

namespace Go.Sx
open Go Go.Proofs
set_option maxRecDepth 10000
set_option maxHeartbeats 8000000
/-! ### Lines -/
theorem doS_pl (S : Sho) (a : Act2) : (doS S a).pl.length ≤ S.pl.length + 1 := by
  unfold doS
  split
  · show (actS S a).pl.length ≤ _
    unfold actS
    (repeat' split) <;> simp
  · omega
theorem repS_pl (S : Sho) (l : List Act2) : ∀ i, (repS S l i).pl.length ≤ S.pl.length + i
  | 0 => Nat.le_refl _
  | i + 1 => by
    have := doS_pl (repS S l i) (l.getD i ac0)
    have := repS_pl S l i
    unfold repS
    omega
theorem aft_pl (r : Rcp) (l : List Act2) : (aftS r l).pl.length ≤ l.length := by
  have := repS_pl (shop0 r) l l.length
  simpa [aftS] using this
end Go.Sx

namespace Go.Sx
open Go Go.Proofs
set_option maxRecDepth 10000
set_option maxHeartbeats 16000000
theorem e10 : EntersF Try.prog 10 := enters_of Try.func10 (c := bodyOf Try.f10) (by kernel_rfl) rfl
/-! ### Hands: the law -/
def boA (M : List Bool) : Arr := M.map fun b => [.bool b]
theorem boA_len (M : List Bool) : (boA M).length = M.length := List.length_map _
theorem boA_snoc (M : List Bool) (b : Bool) : boA M ++ [[.bool b]] = boA (M ++ [b]) := by simp [boA]
theorem boA_get (M : List Bool) (i : Nat) (h : i < M.length) : rB (boA M) i 0 = M.getD i true := by
  simp [rB, cellAt, boA, h]
  rfl
theorem eb4 : Try.t4.bytes = 1 := by kernel_rfl
@[reducible] def rowB (M : List Bool) : Blk := .row 4 false [.bool] (boA M)
def hasK (F : List Int) (f : Int) : Nat → Bool
  | 0 => false
  | k + 1 => hasK F f k || decide (F.getD k 0 = f)
theorem hasK_iff (F : List Int) (f : Int) : ∀ n, n ≤ F.length → (hasK F f n = true ↔ ∃ j, j < n ∧ F.getD j 0 = f)
  | 0, _ => ⟨fun h => (by cases h), fun ⟨j, h, _⟩ => absurd h (Nat.not_lt_zero j)⟩
  | n + 1, h => by
    rw [hasK, Bool.or_eq_true, hasK_iff F f n (by omega), decide_eq_true_eq]
    constructor
    · rintro (⟨j, h1, h2⟩ | h1)
      · exact ⟨j, by omega, h2⟩
      · exact ⟨n, by omega, h1⟩
    · rintro ⟨j, h1, h2⟩
      by_cases e : j = n
      · subst e; exact .inr h2
      · exact .inl ⟨j, by omega, h2⟩
theorem hasK_mem (F : List Int) (f : Int) : hasK F f F.length = decide (f ∈ F) := by
  rw [Bool.eq_iff_iff, hasK_iff F f _ (Nat.le_refl _), decide_eq_true_eq]
  constructor
  · rintro ⟨j, h1, h2⟩
    rw [← h2, List.getD_eq_getElem?_getD, List.getElem?_eq_getElem h1]
    exact List.getElem_mem h1
  · intro h
    obtain ⟨j, h1, h2⟩ := List.getElem_of_mem h
    exact ⟨j, h1, by rw [List.getD_eq_getElem?_getD, List.getElem?_eq_getElem h1]; exact h2⟩
theorem s10_any (r : Rcp) (l : List Act2) (h : 60 < l.length ∨ ¬ RcpOK r) : PSpec Try.prog 10 [r.x, .one (.lst true KAc (acA l))] (xP True) := by
  have ll := acA_len l
  have c16 := s16 r
  have c17 := s17
  by_cases hl : 60 < l.length
  · refine spec_of pMix (O := []) Try.func10 (c := bodyOf Try.f10) rfl (by kernel_rfl) (by kernel_rfl) Try.ntmps10 (res := [.tmp 4]) (by kernel_rfl) ?_
    repeat' ((conv => whnf); first | refine Rng.g ?_ | refine Ob.g ?_ | refine Ob.e ?_ | refine Ob.m ?_ | refine Ob.mk (Nat.le_of_ble_eq_true rfl) ?_ | refine JoinVC.on ?_ | refine Nils.mk (fun h => ?_) ?_ | refine Val.t ?_ | refine Val.d ?_ | refine Mm.mk ?_ | refine CallVC.pure rfl (c16) ?_ | refine CallVC.pure rfl (c17) ?_ | refine CallVC0.pure rfl (c16) ?_ | refine CallVC0.pure rfl (c17) ?_ | (refine Br.mk (fun h => ?_) (fun h => ?_) <;> first | (exfalso; omega; done) | (exfalso; simp at h; done) | skip))
    all_goals
      repeat refine Mm.mk ?_
      refine EndVC.mk _ rfl _ _ ⟨rfl, rfl⟩ ?_
      refine ⟨[], rfl, rfl, ?_, ?_⟩ <;> repeat' (first | exact trivial | exact rfl | exact Iff.rfl | apply And.intro)
  · have hr := h.resolve_left hl
    unfold rcpE at c16
    rw [if_neg hr] at c16
    refine spec_of pMix (O := []) Try.func10 (c := bodyOf Try.f10) rfl (by kernel_rfl) (by kernel_rfl) Try.ntmps10 (res := [.tmp 4]) (by kernel_rfl) ?_
    repeat' ((conv => whnf); first | refine Rng.g ?_ | refine Ob.g ?_ | refine Ob.e ?_ | refine Ob.m ?_ | refine Ob.mk (Nat.le_of_ble_eq_true rfl) ?_ | refine JoinVC.on ?_ | refine Nils.mk (fun h => ?_) ?_ | refine Val.t ?_ | refine Val.d ?_ | refine Mm.mk ?_ | refine CallVC.pure rfl (c16) ?_ | refine CallVC.pure rfl (c17) ?_ | refine CallVC0.pure rfl (c16) ?_ | refine CallVC0.pure rfl (c17) ?_ | (refine Br.mk (fun h => ?_) (fun h => ?_) <;> first | (exfalso; omega; done) | (exfalso; simp at h; done) | skip))
    all_goals
      repeat refine Mm.mk ?_
      refine EndVC.mk _ rfl _ _ ⟨rfl, rfl⟩ ?_
      refine ⟨[], rfl, rfl, ?_, ?_⟩ <;> repeat' (first | exact trivial | exact rfl | exact Iff.rfl | apply And.intro)
theorem s10_ok (r : Rcp) (l : List Act2) (hl : l.length ≤ 60) (hr : RcpOK r) : PSpec Try.prog 10 [r.x, .one (.lst true KAc (acA l))] (xP True) := by
  have ll := acA_len l
  have c16 := s16 r
  have c17 := s17
  have c20 := s20 r hr
  unfold rcpE at c16
  rw [if_pos hr] at c16
  have hS := ShOK.repS (ShOK.new hr) l
  refine spec_of pMix (O := []) Try.func10 (c := bodyOf Try.f10) rfl (by kernel_rfl) (by kernel_rfl) Try.ntmps10 (res := [.tmp 4]) (by kernel_rfl) ?_
  repeat' ((conv => whnf); first | refine Rng.g ?_ | refine Ob.g ?_ | refine Ob.e ?_ | refine Ob.m ?_ | refine Ob.mk (Nat.le_of_ble_eq_true rfl) ?_ | refine JoinVC.on ?_ | refine Nils.mk (fun h => ?_) ?_ | refine Val.t ?_ | refine Val.d ?_ | refine Mm.mk ?_ | refine CallVC.pure rfl (c16) ?_ | refine CallVC0.pure rfl (c16) ?_ | (refine Br.mk (fun h => ?_) (fun h => ?_) <;> first | (exfalso; omega; done) | (exfalso; simp at h; done) | skip))
  conv => whnf
  refine CallVC.mk [] _ _ _ rfl rfl rfl (c20) (fun r m' h' => ?_)
  obtain ⟨rfl, rfl⟩ := h'
  conv => whnf
  repeat' ((conv => whnf); first | refine Rng.g ?_ | refine Ob.g ?_ | refine Ob.e ?_ | refine Ob.m ?_ | refine Ob.mk (Nat.le_of_ble_eq_true rfl) ?_ | refine JoinVC.on ?_ | refine Nils.mk (fun h => ?_) ?_ | refine Val.t ?_ | refine Val.d ?_ | refine Mm.mk ?_ | (refine Br.mk (fun h => ?_) (fun h => ?_) <;> first | (exfalso; omega; done) | (exfalso; simp at h; done) | skip))
  refine LoopVC.cut (fun n st => ∃ (i : Nat) (ms : List MS) (N : List Int) (M : List Bool), i ≤ l.length ∧ MsOK ms (repS (shop0 r) l i).be ∧ HandI (repS (shop0 r) l i) N M ∧ n = l.length - i ∧ st = ⟨0, envA 256 [(1, .x (.one (.lst true KAc (acA l)))), (5, .x (.one (.ptr 0 0))), (7, .x (.one (.own 6))), (8, .x (.one (.own 7))), (9, .int .i64 (i : Int))], shK (repS (shop0 r) l i) ms ++ [some (rowI N), some (rowB M)]⟩) _ _ (fun e st => e = .exit 0 ∧ ∃ (ms : List MS) (N : List Int) (M : List Bool), MsOK ms (aftS r l).be ∧ HandI (aftS r l) N M ∧ st = ⟨0, envA 256 [(5, .x (.one (.ptr 0 0))), (7, .x (.one (.own 6))), (8, .x (.one (.own 7)))], shK (aftS r l) ms ++ [some (rowI N), some (rowB M)]⟩) ⟨0, [], [], [], Nat.zero_le _, MsOK.new, HandI.new r, rfl, rfl⟩ ?_ ?_ ?_
  · refine ⟨[some 1, some 2, some 3, some 4, some 5, some 6, none, none], rfl, rfl, ?_, ?_⟩ <;> repeat' (first | exact trivial | exact rfl | exact Iff.rfl | apply And.intro)
  · rintro n _ ⟨i, ms, N, M, hi, hM, hI, hn, rfl⟩
    by_cases h' : i < l.length
    · have c21 : HSpec Try.prog 21 [.one (.ptr 0 0), acX (acA l) (i : Int).toNat] (shM (repS (shop0 r) l i) ms) (DoR (repS (shop0 r) l i) (l.getD i ac0)) := by
        rw [Int.toNat_natCast, acX_eq]
        exact s21 _ ms (hS i) hM _
      have hSi := hS i
      have hSn := hS (i + 1)
      have a0 : rI (acA l) (i : Int).toNat 0 = (l.getD i ac0).kd := by rw [Int.toNat_natCast]; exact ac_0 l i
      have a12 : rI (acA l) (i : Int).toNat ((0 + 1 + 1 + 1 + 1 + 1 + 1 + 1 + 1 + 1 + 1 + 1 + 1)) = (l.getD i ac0).flaw := by rw [Int.toNat_natCast]; exact ac_12 l i
      have eS : repS (shop0 r) l (i + 1) = doS (repS (shop0 r) l i) (l.getD i ac0) := rfl
      rw [eS] at hSn
      unfold DoR at c21
      by_cases hE : doE (repS (shop0 r) l i) (l.getD i ac0) = 0
      · have hI' := hI.next hSi hE
        rw [hE] at c21
        have hln := hI.ln
        have hlm := hI.lm
        have hnf := hSi.nf
        have lN := i64s_len N
        have lM := boA_len M
        generalize repS (shop0 r) l i = S at *
        generalize l.getD i ac0 = a at *
        by_cases hk4 : a.kd = 4
        · have hdn : doN S a = (N.length : Int) := by unfold doN; rw [if_pos hE]; unfold actN; rw [if_neg (by omega), if_neg (by omega), if_pos hk4, hln]
          have eP : (doS S a).pl = S.pl := by unfold doS; rw [if_pos hE]; show (actS S a).pl = _; unfold actS; rw [if_neg (by omega), if_neg (by omega), if_neg (by omega), if_pos hk4]
          have lP : List.length (plA (doS S a).pl) = S.pl.length := (plA_len _).trans (by rw [eP])
          have hnp := hSi.np
          rw [hdn] at c21
          rw [hk4] at a0
          have eN : nxN S a N = N ++ [(S.pl.length : Int)] := by unfold nxN; rw [if_pos hk4]
          have eM : nxM a M = M ++ [false] := by unfold nxM; rw [if_pos hk4]
          rw [eN, eM] at hI'
          repeat' ((conv => whnf); first | refine Rng.g ?_ | refine Ob.g ?_ | refine Ob.e ?_ | refine Ob.m ?_ | refine Ob.mk (Nat.le_of_ble_eq_true rfl) ?_ | refine JoinVC.on ?_ | refine Nils.mk (fun h => ?_) ?_ | refine Val.t ?_ | refine Val.d ?_ | refine Mm.mk ?_ | (refine Br.mk (fun h => ?_) (fun h => ?_) <;> first | (exfalso; omega; done) | (exfalso; simp at h; done) | skip))
          conv => whnf
          first | refine CallVC.mk [0, 1, 2, 3, 4, 5] _ _ _ rfl rfl rfl (c21) (fun r m' h' => ?_) | refine CallVC0.same [0, 1, 2, 3, 4, 5] _ _ _ rfl rfl rfl rfl (c21) (fun r m' h' => (by obtain ⟨ms', hM', rfl, rfl⟩ := h'; rfl)) (fun r m' h' => ?_) | (refine CallVC0.rows [0, 1, 2, 3, 4, 5] _ _ _ rfl rfl rfl ?_ (c21) (fun r m' h' => (by obtain ⟨ms', hM', rfl, rfl⟩ := h'; rfl)) (fun r m' h' => ?_); · (repeat' ((conv => whnf); first | exact trivial | exact rfl | exact Nat.le_refl _ | apply And.intro)))
          obtain ⟨ms', hM', rfl, rfl⟩ := h'
          conv => whnf
          have c19' := s19 (doS S a) ms' hSn
          repeat' ((conv => whnf); first | rw [a0] | refine Rng.g ?_ | refine Ob.g ?_ | refine Ob.e ?_ | refine Ob.m ?_ | refine Ob.mk (Nat.le_of_ble_eq_true rfl) ?_ | refine JoinVC.on ?_ | refine Nils.mk (fun h => ?_) ?_ | refine Val.t ?_ | refine Val.d ?_ | refine Mm.mk ?_ | (refine Br.mk (fun h => ?_) (fun h => ?_) <;> first | (exfalso; omega; done) | (exfalso; simp at h; done) | skip))
          conv => whnf
          first | refine CallVC.mk [0, 8, 2, 9, 10, 11] _ _ _ rfl rfl rfl (c19') (fun r m' h' => ?_) | refine CallVC0.same [0, 8, 2, 9, 10, 11] _ _ _ rfl rfl rfl rfl (c19') (fun r m' h' => (by obtain ⟨rfl, rfl⟩ := h'; rfl)) (fun r m' h' => ?_) | (refine CallVC0.rows [0, 8, 2, 9, 10, 11] _ _ _ rfl rfl rfl ?_ (c19') (fun r m' h' => (by obtain ⟨rfl, rfl⟩ := h'; rfl)) (fun r m' h' => ?_); · (repeat' ((conv => whnf); first | exact trivial | exact rfl | exact Nat.le_refl _ | apply And.intro)))
          obtain ⟨rfl, rfl⟩ := h'
          conv => whnf
          repeat' ((conv => whnf); first | rw [eb3] | rw [eb4] | rw [a0] | refine Rng.g ?_ | refine Ob.g ?_ | refine Ob.e ?_ | refine Ob.m ?_ | refine Ob.mk (Nat.le_of_ble_eq_true rfl) ?_ | refine JoinVC.on ?_ | refine Nils.mk (fun h => ?_) ?_ | refine Val.t ?_ | refine Val.d ?_ | refine Mm.mk ?_ | (refine Br.mk (fun h => ?_) (fun h => ?_) <;> first | (exfalso; omega; done) | (exfalso; simp at h; done) | skip))
          refine Back.mk (l.length - (i + 1)) _ (by omega) ⟨i + 1, ms', N ++ [(S.pl.length : Int)], M ++ [false], by omega, by rw [eS]; exact hM', by rw [eS]; exact hI', rfl, by rw [eS]⟩ ?_
          refine ⟨[some 0, some 8, some 2, some 9, some 10, some 11, some 13, some 15], rfl, rfl, ?_, ?_⟩ <;> repeat' (first | exact trivial | exact rfl | exact Iff.rfl | apply And.intro)
          · rw [i64s_snoc, lP]
          · exact boA_snoc M false
        by_cases hk5 : a.kd = 5
        · have hfw : 0 ≤ a.flaw ∧ a.flaw < (S.fl.length : Int) := by
            have hA := act_in (S := S) (a := a) (.inr (.inl hk5))
            have hE' := hE
            unfold doE at hE'
            split at hE'
            · cases hE'
            split at hE'
            case isFalse => cases hE'
            rw [hE'] at hA
            refine Classical.byContradiction fun hc => ?_
            rw [if_pos (.inr ⟨hk5, by omega⟩)] at hA
            cases hA
          rw [hk5] at a0
          have eN : nxN S a N = N := by unfold nxN; rw [if_neg hk4]
          have eM : nxM a M = M.set a.flaw.toNat true := by unfold nxM; rw [if_neg hk4, if_pos hk5]
          rw [eN, eM] at hI'
          have uM : updRow (boA M) a.flaw.toNat 0 [.bool true] = boA (M.set a.flaw.toNat true) := A_upd (fun b => [.bool b]) M a.flaw.toNat true (by omega) rfl
          repeat' ((conv => whnf); first | refine Rng.g ?_ | refine Ob.g ?_ | refine Ob.e ?_ | refine Ob.m ?_ | refine Ob.mk (Nat.le_of_ble_eq_true rfl) ?_ | refine JoinVC.on ?_ | refine Nils.mk (fun h => ?_) ?_ | refine Val.t ?_ | refine Val.d ?_ | refine Mm.mk ?_ | (refine Br.mk (fun h => ?_) (fun h => ?_) <;> first | (exfalso; omega; done) | (exfalso; simp at h; done) | skip))
          conv => whnf
          first | refine CallVC.mk [0, 1, 2, 3, 4, 5] _ _ _ rfl rfl rfl (c21) (fun r m' h' => ?_) | refine CallVC0.same [0, 1, 2, 3, 4, 5] _ _ _ rfl rfl rfl rfl (c21) (fun r m' h' => (by obtain ⟨ms', hM', rfl, rfl⟩ := h'; rfl)) (fun r m' h' => ?_) | (refine CallVC0.rows [0, 1, 2, 3, 4, 5] _ _ _ rfl rfl rfl ?_ (c21) (fun r m' h' => (by obtain ⟨ms', hM', rfl, rfl⟩ := h'; rfl)) (fun r m' h' => ?_); · (repeat' ((conv => whnf); first | exact trivial | exact rfl | exact Nat.le_refl _ | apply And.intro)))
          obtain ⟨ms', hM', rfl, rfl⟩ := h'
          conv => whnf
          repeat' ((conv => whnf); first | rw [a0] | rw [a12] | refine Rng.g ?_ | refine Ob.g ?_ | refine Ob.e ?_ | refine Ob.m ?_ | refine Ob.mk (Nat.le_of_ble_eq_true rfl) ?_ | refine JoinVC.on ?_ | refine Nils.mk (fun h => ?_) ?_ | refine Val.t ?_ | refine Val.d ?_ | refine Mm.mk ?_ | (refine Br.mk (fun h => ?_) (fun h => ?_) <;> first | (exfalso; omega; done) | (exfalso; simp at h; done) | skip))
          refine Back.mk (l.length - (i + 1)) _ (by omega) ⟨i + 1, ms', N, M.set a.flaw.toNat true, by omega, by rw [eS]; exact hM', by rw [eS]; exact hI', rfl, by rw [eS]⟩ ?_
          refine ⟨[some 0, some 8, some 2, some 9, some 10, some 11, some 6, some 7], rfl, rfl, ?_, ?_⟩ <;> repeat' (first | exact trivial | exact rfl | exact Iff.rfl | apply And.intro)
          exact uM
        · have eN : nxN S a N = N := by unfold nxN; rw [if_neg hk4]
          have eM : nxM a M = M := by unfold nxM; rw [if_neg hk4, if_neg hk5]
          rw [eN, eM] at hI'
          repeat' ((conv => whnf); first | refine Rng.g ?_ | refine Ob.g ?_ | refine Ob.e ?_ | refine Ob.m ?_ | refine Ob.mk (Nat.le_of_ble_eq_true rfl) ?_ | refine JoinVC.on ?_ | refine Nils.mk (fun h => ?_) ?_ | refine Val.t ?_ | refine Val.d ?_ | refine Mm.mk ?_ | (refine Br.mk (fun h => ?_) (fun h => ?_) <;> first | (exfalso; omega; done) | (exfalso; simp at h; done) | skip))
          conv => whnf
          first | refine CallVC.mk [0, 1, 2, 3, 4, 5] _ _ _ rfl rfl rfl (c21) (fun r m' h' => ?_) | refine CallVC0.same [0, 1, 2, 3, 4, 5] _ _ _ rfl rfl rfl rfl (c21) (fun r m' h' => (by obtain ⟨ms', hM', rfl, rfl⟩ := h'; rfl)) (fun r m' h' => ?_) | (refine CallVC0.rows [0, 1, 2, 3, 4, 5] _ _ _ rfl rfl rfl ?_ (c21) (fun r m' h' => (by obtain ⟨ms', hM', rfl, rfl⟩ := h'; rfl)) (fun r m' h' => ?_); · (repeat' ((conv => whnf); first | exact trivial | exact rfl | exact Nat.le_refl _ | apply And.intro)))
          obtain ⟨ms', hM', rfl, rfl⟩ := h'
          conv => whnf
          repeat' ((conv => whnf); first | rw [a0] | refine Rng.g ?_ | refine Ob.g ?_ | refine Ob.e ?_ | refine Ob.m ?_ | refine Ob.mk (Nat.le_of_ble_eq_true rfl) ?_ | refine JoinVC.on ?_ | refine Nils.mk (fun h => ?_) ?_ | refine Val.t ?_ | refine Val.d ?_ | refine Mm.mk ?_ | (refine Br.mk (fun h => ?_) (fun h => ?_) <;> first | (exfalso; omega; done) | (exfalso; simp at h; done) | skip))
          refine Back.mk (l.length - (i + 1)) _ (by omega) ⟨i + 1, ms', N, M, by omega, by rw [eS]; exact hM', by rw [eS]; exact hI', rfl, by rw [eS]⟩ ?_
          refine ⟨[some 0, some 8, some 2, some 9, some 10, some 11, some 6, some 7], rfl, rfl, ?_, ?_⟩ <;> repeat' (first | exact trivial | exact rfl | exact Iff.rfl | apply And.intro)
      · have hD : doS (repS (shop0 r) l i) (l.getD i ac0) = repS (shop0 r) l i := if_neg hE
        have hI' : HandI (doS (repS (shop0 r) l i) (l.getD i ac0)) N M := by rw [hD]; exact hI
        repeat' ((conv => whnf); first | refine Rng.g ?_ | refine Ob.g ?_ | refine Ob.e ?_ | refine Ob.m ?_ | refine Ob.mk (Nat.le_of_ble_eq_true rfl) ?_ | refine JoinVC.on ?_ | refine Nils.mk (fun h => ?_) ?_ | refine Val.t ?_ | refine Val.d ?_ | refine Mm.mk ?_ | (refine Br.mk (fun h => ?_) (fun h => ?_) <;> first | (exfalso; omega; done) | (exfalso; simp at h; done) | skip))
        conv => whnf
        first | refine CallVC.mk [0, 1, 2, 3, 4, 5] _ _ _ rfl rfl rfl (c21) (fun r m' h' => ?_) | refine CallVC0.same [0, 1, 2, 3, 4, 5] _ _ _ rfl rfl rfl rfl (c21) (fun r m' h' => (by obtain ⟨ms', hM', rfl, rfl⟩ := h'; rfl)) (fun r m' h' => ?_) | (refine CallVC0.rows [0, 1, 2, 3, 4, 5] _ _ _ rfl rfl rfl ?_ (c21) (fun r m' h' => (by obtain ⟨ms', hM', rfl, rfl⟩ := h'; rfl)) (fun r m' h' => ?_); · (repeat' ((conv => whnf); first | exact trivial | exact rfl | exact Nat.le_refl _ | apply And.intro)))
        obtain ⟨ms', hM', rfl, rfl⟩ := h'
        conv => whnf
        repeat' ((conv => whnf); first | refine Rng.g ?_ | refine Ob.g ?_ | refine Ob.e ?_ | refine Ob.m ?_ | refine Ob.mk (Nat.le_of_ble_eq_true rfl) ?_ | refine JoinVC.on ?_ | refine Nils.mk (fun h => ?_) ?_ | refine Val.t ?_ | refine Val.d ?_ | refine Mm.mk ?_ | (refine Br.mk (fun h => ?_) (fun h => ?_) <;> first | (exfalso; omega; done) | (exfalso; simp at h; done) | skip))
        refine Back.mk (l.length - (i + 1)) _ (by omega) ⟨i + 1, ms', N, M, by omega, hM', hI', rfl, rfl⟩ ?_
        refine ⟨[some 0, some 8, some 2, some 9, some 10, some 11, some 6, some 7], rfl, rfl, ?_, ?_⟩ <;> repeat' (first | exact trivial | exact rfl | exact Iff.rfl | apply And.intro)
    · obtain rfl : i = l.length := by omega
      repeat' ((conv => whnf); first | refine Rng.g ?_ | refine Ob.g ?_ | refine Ob.e ?_ | refine Ob.m ?_ | refine Ob.mk (Nat.le_of_ble_eq_true rfl) ?_ | refine JoinVC.on ?_ | refine Nils.mk (fun h => ?_) ?_ | refine Val.t ?_ | refine Val.d ?_ | refine Mm.mk ?_ | (refine Br.mk (fun h => ?_) (fun h => ?_) <;> first | (exfalso; omega; done) | (exfalso; simp at h; done) | skip))
      refine Meet.mk _ ⟨rfl, ms, N, M, hM, hI, rfl⟩ ?_
      refine ⟨[some 0, some 1, some 2, some 3, some 4, some 5, some 6, some 7], rfl, rfl, ?_, ?_⟩ <;> repeat' (first | exact trivial | exact rfl | exact Iff.rfl | apply And.intro)
  rintro _ _ ⟨rfl, ms, N, M, hM, hI, rfl⟩
  have hS := aft_ok hr l
  have hn60 := aft_pl r l
  generalize aftS r l = S at *
  have lp := plA_len S.pl
  have c19 := s19 S ms hS
  repeat' ((conv => whnf); first | refine Rng.g ?_ | refine Ob.g ?_ | refine Ob.e ?_ | refine Ob.m ?_ | refine Ob.mk (Nat.le_of_ble_eq_true rfl) ?_ | refine JoinVC.on ?_ | refine Nils.mk (fun h => ?_) ?_ | refine Val.t ?_ | refine Val.d ?_ | refine Mm.mk ?_ | (refine Br.mk (fun h => ?_) (fun h => ?_) <;> first | (exfalso; omega; done) | (exfalso; simp at h; done) | skip))
  conv => whnf
  first | refine CallVC.mk [0, 1, 2, 3, 4, 5] _ _ _ rfl rfl rfl (c19) (fun r m' h' => ?_) | refine CallVC0.same [0, 1, 2, 3, 4, 5] _ _ _ rfl rfl rfl rfl (c19) (fun r m' h' => (by obtain ⟨rfl, rfl⟩ := h'; rfl)) (fun r m' h' => ?_) | (refine CallVC0.rows [0, 1, 2, 3, 4, 5] _ _ _ rfl rfl rfl ?_ (c19) (fun r m' h' => (by obtain ⟨rfl, rfl⟩ := h'; rfl)) (fun r m' h' => ?_); · (repeat' ((conv => whnf); first | exact trivial | exact rfl | exact Nat.le_refl _ | apply And.intro)))
  obtain ⟨rfl, rfl⟩ := h'
  conv => whnf
  repeat' ((conv => whnf); first | refine Rng.g ?_ | refine Ob.g ?_ | refine Ob.e ?_ | refine Ob.m ?_ | refine Ob.mk (Nat.le_of_ble_eq_true rfl) ?_ | refine JoinVC.on ?_ | refine Nils.mk (fun h => ?_) ?_ | refine Val.t ?_ | refine Val.d ?_ | refine Mm.mk ?_ | (refine Br.mk (fun h => ?_) (fun h => ?_) <;> first | (exfalso; omega; done) | (exfalso; simp at h; done) | skip))
  have hln := hI.ln
  have hlm := hI.lm
  have hnf := hS.nf
  have lN := i64s_len N
  have lM := boA_len M
  have hnp := hS.np
  refine LoopVC.mk (fun n st => ∃ (f : Nat), f ≤ N.length ∧ n = N.length - f ∧ st = ⟨0, envA 256 [(5, .x (.one (.ptr 0 0))), (7, .x (.one (.own 6))), (8, .x (.one (.own 7))), (12, .int .i64 (S.pl.length : Int)), (13, .int .i64 (f : Int))], shK S ms ++ [some (rowI N), some (rowB M)]⟩) _ _ ⟨0, Nat.zero_le _, rfl, rfl⟩ ?_ ?_
  · refine ⟨[some 0, some 1, some 2, some 3, some 4, some 5, some 6, some 7], rfl, rfl, ?_, ?_⟩ <;> repeat' (first | exact trivial | exact rfl | exact Iff.rfl | apply And.intro)
    exact congrArg Int.ofNat lp
  rintro n _ ⟨f, hf, hn, rfl⟩
  by_cases hfl : f < N.length
  · have hin : inF S (f : Int) := ⟨by omega, by omega⟩
    have c38 := s38 S ms (f : Int)
    rw [if_pos hin] at c38
    have c39 := s39_ok S ms hS hM (f : Int) hin
    have hbl := bear_len S.be (f : Int) S.pl.length
    have lB := i64s_len (bear S.be (f : Int) S.pl.length)
    have horg := hI.org f (by omega)
    have hF : (S.f (f : Int)).1 = (S.fl.getD f (0, 0)).1 := by unfold Sho.f; rw [Int.toNat_natCast]
    rw [hF] at c38
    repeat' ((conv => whnf); first | refine Rng.g ?_ | refine Ob.g ?_ | refine Ob.e ?_ | refine Ob.m ?_ | refine Ob.mk (Nat.le_of_ble_eq_true rfl) ?_ | refine JoinVC.on ?_ | refine Nils.mk (fun h => ?_) ?_ | refine Val.t ?_ | refine Val.d ?_ | refine Mm.mk ?_ | (refine Br.mk (fun h => ?_) (fun h => ?_) <;> first | (exfalso; omega; done) | (exfalso; simp at h; done) | skip))
    conv => whnf
    first | refine CallVC.mk [0, 1, 2, 3, 4, 5] _ _ _ rfl rfl rfl (c38) (fun r m' h' => ?_) | refine CallVC0.same [0, 1, 2, 3, 4, 5] _ _ _ rfl rfl rfl rfl (c38) (fun r m' h' => (by obtain ⟨rfl, rfl⟩ := h'; rfl)) (fun r m' h' => ?_) | (refine CallVC0.rows [0, 1, 2, 3, 4, 5] _ _ _ rfl rfl rfl ?_ (c38) (fun r m' h' => (by obtain ⟨rfl, rfl⟩ := h'; rfl)) (fun r m' h' => ?_); · (repeat' ((conv => whnf); first | exact trivial | exact rfl | exact Nat.le_refl _ | apply And.intro)))
    obtain ⟨rfl, rfl⟩ := h'
    conv => whnf
    repeat' ((conv => whnf); first | refine Rng.g ?_ | refine Ob.g ?_ | refine Ob.e ?_ | refine Ob.m ?_ | refine Ob.mk (Nat.le_of_ble_eq_true rfl) ?_ | refine JoinVC.on ?_ | refine Nils.mk (fun h => ?_) ?_ | refine Val.t ?_ | refine Val.d ?_ | refine Mm.mk ?_ | (refine Br.mk (fun h => ?_) (fun h => ?_) <;> first | (exfalso; omega; done) | (exfalso; simp at h; done) | skip))
    conv => whnf
    first | refine CallVC.mk [0, 1, 2, 3, 4, 5] _ _ _ rfl rfl rfl (c39) (fun r m' h' => ?_) | refine CallVC0.same [0, 1, 2, 3, 4, 5] _ _ _ rfl rfl rfl rfl (c39) (fun r m' h' => (by obtain ⟨rfl, rfl⟩ := h'; rfl)) (fun r m' h' => ?_) | (refine CallVC0.rows [0, 1, 2, 3, 4, 5] _ _ _ rfl rfl rfl ?_ (c39) (fun r m' h' => (by obtain ⟨rfl, rfl⟩ := h'; rfl)) (fun r m' h' => ?_); · (repeat' ((conv => whnf); first | exact trivial | exact rfl | exact Nat.le_refl _ | apply And.intro)))
    obtain ⟨rfl, rfl⟩ := h'
    conv => whnf
    repeat' ((conv => whnf); first | refine Rng.g ?_ | refine Ob.g ?_ | refine Ob.e ?_ | refine Ob.m ?_ | refine Ob.mk (Nat.le_of_ble_eq_true rfl) ?_ | refine JoinVC.on ?_ | refine Nils.mk (fun h => ?_) ?_ | refine Val.t ?_ | refine Val.d ?_ | refine Mm.mk ?_ | (refine Br.mk (fun h => ?_) (fun h => ?_) <;> first | (exfalso; omega; done) | (exfalso; simp at h; done) | skip))
    obtain ⟨o, ho⟩ : ∃ o, (S.fl.getD f (0, 0)).1 = o := ⟨_, rfl⟩
    obtain ⟨c, hc⟩ : ∃ c, N.getD f 0 = c := ⟨_, rfl⟩
    have H1 := fun k => hI.h1 f k (by omega)
    have H2 := fun k => hI.h2 f k (by omega)
    rw [ho, hc] at H1 H2
    rw [ho] at *
    refine LoopVC.cut (fun n st => ∃ (k : Nat), k ≤ S.pl.length ∧ n = S.pl.length - k ∧ st = ⟨0, envA 256 [(5, .x (.one (.ptr 0 0))), (7, .x (.one (.own 6))), (8, .x (.one (.own 7))), (12, .int .i64 (S.pl.length : Int)), (13, .int .i64 (f : Int)), (14, .x (I o)), (17, .x (.one (.lst false [.int .i64] (i64s (bear S.be (f : Int) S.pl.length))))), (19, .int .i64 ((bear S.be (f : Int) k).length : Int)), (20, .int .i64 (k : Int))], shK S ms ++ [some (rowI N), some (rowB M)]⟩) _ _ (fun e st => e = .exit 4 ∧ st = ⟨0, envA 256 [(5, .x (.one (.ptr 0 0))), (7, .x (.one (.own 6))), (8, .x (.one (.own 7))), (12, .int .i64 (S.pl.length : Int)), (13, .int .i64 (f : Int)), (17, .x (.one (.lst false [.int .i64] (i64s (bear S.be (f : Int) S.pl.length))))), (19, .int .i64 ((bear S.be (f : Int) S.pl.length).length : Int))], shK S ms ++ [some (rowI N), some (rowB M)]⟩) ⟨0, Nat.zero_le _, rfl, rfl⟩ ?_ ?_ ?_
    · refine ⟨[some 0, some 1, some 2, some 3, some 4, some 5, some 6, some 7], rfl, rfl, ?_, ?_⟩ <;> repeat' (first | exact trivial | exact rfl | exact Iff.rfl | apply And.intro)
    · rintro n2 _ ⟨k, hk, hn2, rfl⟩
      by_cases hkl : k < S.pl.length
      · have hkin : inP S (k : Int) := ⟨by omega, by omega⟩
        have c30 := s30_ok S ms hS (k : Int) hkin
        have c40 := s40_ok S ms hS hM (k : Int) hkin
        have hup := up_len S (k : Int)
        have hU := frK_U o c (S.up (k : Int))
        have lL := i64s_len (S.up (k : Int)).reverse
        have hLl : (S.up (k : Int)).reverse.length ≤ 256 := by rw [List.length_reverse]; omega
        rw [← List.length_reverse] at hU
        have H1k := H1 k hkl
        have H2k := H2 k hkl
        generalize fromU o c (S.up (k : Int)) = B at *
        generalize (S.up (k : Int)).reverse = L at *
        have hFm : decide ((f : Int) ∈ srt (S.b (k : Int))) = decide ((f : Int) ∈ S.be.getD k []) := by
          have e : S.b (k : Int) = S.be.getD k [] := by unfold Sho.b; rw [Int.toNat_natCast]
          rw [e]
          exact decide_eq_decide.2 (srt_perm _).mem_iff
        have lF := i64s_len (srt (S.b (k : Int)))
        have hbk : (S.b (k : Int)).length ≤ 64 := be_le hS _
        have hFl : (srt (S.b (k : Int))).length ≤ 64 := by rw [srt_len]; exact hbk
        have hHM := hasK_mem (srt (S.b (k : Int))) (f : Int)
        rw [hFm] at hHM
        generalize srt (S.b (k : Int)) = F at *
        repeat' ((conv => whnf); first | refine Rng.g ?_ | refine Ob.g ?_ | refine Ob.e ?_ | refine Ob.m ?_ | refine Ob.mk (Nat.le_of_ble_eq_true rfl) ?_ | refine JoinVC.on ?_ | refine Nils.mk (fun h => ?_) ?_ | refine Val.t ?_ | refine Val.d ?_ | refine Mm.mk ?_ | (refine Br.mk (fun h => ?_) (fun h => ?_) <;> first | (exfalso; omega; done) | (exfalso; simp at h; done) | skip))
        conv => whnf
        first | refine CallVC.mk [0, 1, 2, 3, 4, 5] _ _ _ rfl rfl rfl (c30) (fun r m' h' => ?_) | refine CallVC0.same [0, 1, 2, 3, 4, 5] _ _ _ rfl rfl rfl rfl (c30) (fun r m' h' => (by obtain ⟨rfl, rfl⟩ := h'; rfl)) (fun r m' h' => ?_) | (refine CallVC0.rows [0, 1, 2, 3, 4, 5] _ _ _ rfl rfl rfl ?_ (c30) (fun r m' h' => (by obtain ⟨rfl, rfl⟩ := h'; rfl)) (fun r m' h' => ?_); · (repeat' ((conv => whnf); first | exact trivial | exact rfl | exact Nat.le_refl _ | apply And.intro)))
        obtain ⟨rfl, rfl⟩ := h'
        conv => whnf
        repeat' ((conv => whnf); first | refine Rng.g ?_ | refine Ob.g ?_ | refine Ob.e ?_ | refine Ob.m ?_ | refine Ob.mk (Nat.le_of_ble_eq_true rfl) ?_ | refine JoinVC.on ?_ | refine Nils.mk (fun h => ?_) ?_ | refine Val.t ?_ | refine Val.d ?_ | refine Mm.mk ?_ | (refine Br.mk (fun h => ?_) (fun h => ?_) <;> first | (exfalso; omega; done) | (exfalso; simp at h; done) | skip))
        conv => whnf
        first | refine CallVC.mk [0, 1, 2, 3, 4, 5] _ _ _ rfl rfl rfl (c40) (fun r m' h' => ?_) | refine CallVC0.same [0, 1, 2, 3, 4, 5] _ _ _ rfl rfl rfl rfl (c40) (fun r m' h' => (by obtain ⟨rfl, rfl⟩ := h'; rfl)) (fun r m' h' => ?_) | (refine CallVC0.rows [0, 1, 2, 3, 4, 5] _ _ _ rfl rfl rfl ?_ (c40) (fun r m' h' => (by obtain ⟨rfl, rfl⟩ := h'; rfl)) (fun r m' h' => ?_); · (repeat' ((conv => whnf); first | exact trivial | exact rfl | exact Nat.le_refl _ | apply And.intro)))
        obtain ⟨rfl, rfl⟩ := h'
        conv => whnf
        repeat' ((conv => whnf); first | refine Rng.g ?_ | refine Ob.g ?_ | refine Ob.e ?_ | refine Ob.m ?_ | refine Ob.mk (Nat.le_of_ble_eq_true rfl) ?_ | refine JoinVC.on ?_ | refine Nils.mk (fun h => ?_) ?_ | refine Val.t ?_ | refine Val.d ?_ | refine Mm.mk ?_ | (refine Br.mk (fun h => ?_) (fun h => ?_) <;> first | (exfalso; omega; done) | (exfalso; simp at h; done) | skip))
        refine LoopVC.cut (fun n st => ∃ (j : Nat), j ≤ L.length ∧ n = L.length - j ∧ st = ⟨0, envA 256 [(5, .x (.one (.ptr 0 0))), (7, .x (.one (.own 6))), (8, .x (.one (.own 7))), (12, .int .i64 (S.pl.length : Int)), (13, .int .i64 (f : Int)), (14, .x (I o)), (17, .x (.one (.lst false [.int .i64] (i64s (bear S.be (f : Int) S.pl.length))))), (19, .int .i64 ((bear S.be (f : Int) k).length : Int)), (20, .int .i64 (k : Int)), (21, .x (.one (.lst false [.int .i64] (i64s L)))), (23, .x (.one (.lst false [.int .i64] (i64s F)))), (25, .x (.one (.bool (frK L o c j)))), (26, .int .i64 (j : Int))], shK S ms ++ [some (rowI N), some (rowB M)]⟩) _ _ (fun e st => e = .exit 6 ∧ st = ⟨0, envA 256 [(5, .x (.one (.ptr 0 0))), (7, .x (.one (.own 6))), (8, .x (.one (.own 7))), (12, .int .i64 (S.pl.length : Int)), (13, .int .i64 (f : Int)), (14, .x (I o)), (17, .x (.one (.lst false [.int .i64] (i64s (bear S.be (f : Int) S.pl.length))))), (19, .int .i64 ((bear S.be (f : Int) k).length : Int)), (20, .int .i64 (k : Int)), (23, .x (.one (.lst false [.int .i64] (i64s F)))), (25, .x (.one (.bool B)))], shK S ms ++ [some (rowI N), some (rowB M)]⟩) ⟨0, Nat.zero_le _, rfl, rfl⟩ ?_ ?_ ?_
        · refine ⟨[some 0, some 1, some 2, some 3, some 4, some 5, some 6, some 7], rfl, rfl, ?_, ?_⟩ <;> repeat' (first | exact trivial | exact rfl | exact Iff.rfl | apply And.intro)
        · rintro n3 _ ⟨j, hj, hn3, rfl⟩
          by_cases hjl : j < L.length
          · have gj : rI (i64s L) (j : Int).toNat 0 = L.getD j 0 := by rw [Int.toNat_natCast, i64s_get]
            have gj1 : rI (i64s L) ((j : Int) + 1).toNat 0 = L.getD (j + 1) 0 := by rw [show ((j : Int) + 1).toNat = j + 1 by omega, i64s_get]
            have gN : rI (i64s N) (f : Int).toNat 0 = c := by rw [Int.toNat_natCast, i64s_get, hc]
            by_cases h1 : L.getD j 0 = o
            · by_cases h2 : j + 1 = L.length
              · have e : frK L o c (j + 1) = true := by rw [frK, if_pos h1, decide_eq_true h2, Bool.true_or]
                repeat' ((conv => whnf); first | rw [gj] | rw [gj1] | rw [gN] | refine Rng.g ?_ | refine Ob.g ?_ | refine Ob.e ?_ | refine Ob.m ?_ | refine Ob.mk (Nat.le_of_ble_eq_true rfl) ?_ | refine JoinVC.on ?_ | refine Nils.mk (fun h => ?_) ?_ | refine Val.t ?_ | refine Val.d ?_ | refine Mm.mk ?_ | (refine Br.mk (fun h => ?_) (fun h => ?_) <;> first | (exfalso; omega; done) | (exfalso; simp at h; done) | skip))
                refine Back.mk (L.length - (j + 1)) _ (by omega) ⟨j + 1, by omega, rfl, rfl⟩ ?_
                rw [e]
                refine ⟨[some 0, some 1, some 2, some 3, some 4, some 5, some 6, some 7], rfl, rfl, ?_, ?_⟩ <;> repeat' (first | exact trivial | exact rfl | exact Iff.rfl | apply And.intro)
              · have e : frK L o c (j + 1) = decide (c ≤ L.getD (j + 1) 0) := by rw [frK, if_pos h1, decide_eq_false h2, Bool.false_or]
                repeat' ((conv => whnf); first | rw [gj] | rw [gj1] | rw [gN] | refine Rng.g ?_ | refine Ob.g ?_ | refine Ob.e ?_ | refine Ob.m ?_ | refine Ob.mk (Nat.le_of_ble_eq_true rfl) ?_ | refine JoinVC.on ?_ | refine Nils.mk (fun h => ?_) ?_ | refine Val.t ?_ | refine Val.d ?_ | refine Mm.mk ?_ | (refine Br.mk (fun h => ?_) (fun h => ?_) <;> first | (exfalso; omega; done) | (exfalso; simp at h; done) | skip))
                refine Back.mk (L.length - (j + 1)) _ (by omega) ⟨j + 1, by omega, rfl, rfl⟩ ?_
                rw [e]
                refine ⟨[some 0, some 1, some 2, some 3, some 4, some 5, some 6, some 7], rfl, rfl, ?_, ?_⟩ <;> repeat' (first | exact trivial | exact rfl | exact Iff.rfl | apply And.intro)
            · have e : frK L o c (j + 1) = frK L o c j := by rw [frK, if_neg h1]
              repeat' ((conv => whnf); first | rw [gj] | refine Rng.g ?_ | refine Ob.g ?_ | refine Ob.e ?_ | refine Ob.m ?_ | refine Ob.mk (Nat.le_of_ble_eq_true rfl) ?_ | refine JoinVC.on ?_ | refine Nils.mk (fun h => ?_) ?_ | refine Val.t ?_ | refine Val.d ?_ | refine Mm.mk ?_ | (refine Br.mk (fun h => ?_) (fun h => ?_) <;> first | (exfalso; omega; done) | (exfalso; simp at h; done) | skip))
              refine Back.mk (L.length - (j + 1)) _ (by omega) ⟨j + 1, by omega, rfl, rfl⟩ ?_
              rw [e]
              refine ⟨[some 0, some 1, some 2, some 3, some 4, some 5, some 6, some 7], rfl, rfl, ?_, ?_⟩ <;> repeat' (first | exact trivial | exact rfl | exact Iff.rfl | apply And.intro)
          · obtain rfl : j = L.length := by omega
            repeat' ((conv => whnf); first | refine Rng.g ?_ | refine Ob.g ?_ | refine Ob.e ?_ | refine Ob.m ?_ | refine Ob.mk (Nat.le_of_ble_eq_true rfl) ?_ | refine JoinVC.on ?_ | refine Nils.mk (fun h => ?_) ?_ | refine Val.t ?_ | refine Val.d ?_ | refine Mm.mk ?_ | (refine Br.mk (fun h => ?_) (fun h => ?_) <;> first | (exfalso; omega; done) | (exfalso; simp at h; done) | skip))
            refine Meet.mk _ ⟨rfl, rfl⟩ ?_
            rw [hU]
            refine ⟨[some 0, some 1, some 2, some 3, some 4, some 5, some 6, some 7], rfl, rfl, ?_, ?_⟩ <;> repeat' (first | exact trivial | exact rfl | exact Iff.rfl | apply And.intro)
        rintro _ _ ⟨rfl, rfl⟩
        by_cases hb : (f : Int) ∈ S.be.getD k []
        · obtain ⟨q1, q2⟩ := bear_at hkl hb
          have hB : B = true := H1k hb
          subst hB
          have gB : rI (i64s (bear S.be (f : Int) S.pl.length)) ((bear S.be (f : Int) k).length : Int).toNat 0 = (k : Int) := by rw [Int.toNat_natCast, i64s_get, q2]
          have eb : bear S.be (f : Int) (k + 1) = bear S.be (f : Int) k ++ [(k : Int)] := by rw [bear, if_pos hb]
          have hHM' : hasK F (f : Int) F.length = true := by rw [hHM, decide_eq_true hb]
          have hbk2 := bear_len S.be (f : Int) k
          repeat' ((conv => whnf); first | rw [gB] | refine Rng.g ?_ | refine Ob.g ?_ | refine Ob.e ?_ | refine Ob.m ?_ | refine Ob.mk (Nat.le_of_ble_eq_true rfl) ?_ | refine JoinVC.on ?_ | refine Nils.mk (fun h => ?_) ?_ | refine Val.t ?_ | refine Val.d ?_ | refine Mm.mk ?_ | (refine Br.mk (fun h => ?_) (fun h => ?_) <;> first | (exfalso; omega; done) | (exfalso; simp at h; done) | skip))
          refine LoopVC.cut (fun n st => ∃ (j : Nat), j ≤ F.length ∧ n = F.length - j ∧ st = ⟨0, envA 256 [(5, .x (.one (.ptr 0 0))), (7, .x (.one (.own 6))), (8, .x (.one (.own 7))), (12, .int .i64 (S.pl.length : Int)), (13, .int .i64 (f : Int)), (14, .x (I o)), (17, .x (.one (.lst false [.int .i64] (i64s (bear S.be (f : Int) S.pl.length))))), (19, .int .i64 (((bear S.be (f : Int) k).length : Int) + 1)), (20, .int .i64 (k : Int)), (23, .x (.one (.lst false [.int .i64] (i64s F)))), (25, .x (.one (.bool true))), (27, .x (.one (.bool true))), (28, .x (.one (.bool (hasK F (f : Int) j)))), (29, .int .i64 (j : Int))], shK S ms ++ [some (rowI N), some (rowB M)]⟩) _ _ (fun e st => e = .exit 8 ∧ st = ⟨0, envA 256 [(5, .x (.one (.ptr 0 0))), (7, .x (.one (.own 6))), (8, .x (.one (.own 7))), (12, .int .i64 (S.pl.length : Int)), (13, .int .i64 (f : Int)), (14, .x (I o)), (17, .x (.one (.lst false [.int .i64] (i64s (bear S.be (f : Int) S.pl.length))))), (19, .int .i64 (((bear S.be (f : Int) k).length : Int) + 1)), (20, .int .i64 (k : Int)), (25, .x (.one (.bool true))), (27, .x (.one (.bool true))), (28, .x (.one (.bool true)))], shK S ms ++ [some (rowI N), some (rowB M)]⟩) ⟨0, Nat.zero_le _, rfl, rfl⟩ ?_ ?_ ?_
          · refine ⟨[some 0, some 1, some 2, some 3, some 4, some 5, some 6, some 7], rfl, rfl, ?_, ?_⟩ <;> repeat' (first | exact trivial | exact rfl | exact Iff.rfl | apply And.intro)
            all_goals first | exact decide_eq_true rfl | exact (decide_eq_true rfl).symm
          · rintro n3 _ ⟨j, hj, hn3, rfl⟩
            by_cases hjl : j < F.length
            · have gF : rI (i64s F) (j : Int).toNat 0 = F.getD j 0 := by rw [Int.toNat_natCast, i64s_get]
              have e : hasK F (f : Int) (j + 1) = (hasK F (f : Int) j || decide (F.getD j 0 = (f : Int))) := rfl
              cases hh : hasK F (f : Int) j
              · rw [hh, Bool.false_or] at e
                repeat' ((conv => whnf); first | rw [gF] | refine Rng.g ?_ | refine Ob.g ?_ | refine Ob.e ?_ | refine Ob.m ?_ | refine Ob.mk (Nat.le_of_ble_eq_true rfl) ?_ | refine JoinVC.on ?_ | refine Nils.mk (fun h => ?_) ?_ | refine Val.t ?_ | refine Val.d ?_ | refine Mm.mk ?_ | (refine Br.mk (fun h => ?_) (fun h => ?_) <;> first | (exfalso; omega; done) | (exfalso; simp at h; done) | skip))
                refine Back.mk (F.length - (j + 1)) _ (by omega) ⟨j + 1, by omega, rfl, rfl⟩ ?_
                rw [e]
                refine ⟨[some 0, some 1, some 2, some 3, some 4, some 5, some 6, some 7], rfl, rfl, ?_, ?_⟩ <;> repeat' (first | exact trivial | exact rfl | exact Iff.rfl | apply And.intro)
              · rw [hh, Bool.true_or] at e
                repeat' ((conv => whnf); first | rw [gF] | refine Rng.g ?_ | refine Ob.g ?_ | refine Ob.e ?_ | refine Ob.m ?_ | refine Ob.mk (Nat.le_of_ble_eq_true rfl) ?_ | refine JoinVC.on ?_ | refine Nils.mk (fun h => ?_) ?_ | refine Val.t ?_ | refine Val.d ?_ | refine Mm.mk ?_ | (refine Br.mk (fun h => ?_) (fun h => ?_) <;> first | (exfalso; omega; done) | (exfalso; simp at h; done) | skip))
                refine Back.mk (F.length - (j + 1)) _ (by omega) ⟨j + 1, by omega, rfl, rfl⟩ ?_
                rw [e]
                refine ⟨[some 0, some 1, some 2, some 3, some 4, some 5, some 6, some 7], rfl, rfl, ?_, ?_⟩ <;> repeat' (first | exact trivial | exact rfl | exact Iff.rfl | apply And.intro)
            · obtain rfl : j = F.length := by omega
              repeat' ((conv => whnf); first | refine Rng.g ?_ | refine Ob.g ?_ | refine Ob.e ?_ | refine Ob.m ?_ | refine Ob.mk (Nat.le_of_ble_eq_true rfl) ?_ | refine JoinVC.on ?_ | refine Nils.mk (fun h => ?_) ?_ | refine Val.t ?_ | refine Val.d ?_ | refine Mm.mk ?_ | (refine Br.mk (fun h => ?_) (fun h => ?_) <;> first | (exfalso; omega; done) | (exfalso; simp at h; done) | skip))
              refine Meet.mk _ ⟨rfl, rfl⟩ ?_
              rw [hHM']
              refine ⟨[some 0, some 1, some 2, some 3, some 4, some 5, some 6, some 7], rfl, rfl, ?_, ?_⟩ <;> repeat' (first | exact trivial | exact rfl | exact Iff.rfl | apply And.intro)
          rintro _ _ ⟨rfl, rfl⟩
          have gM : rB (boA M) (f : Int).toNat 0 = M.getD f true := by rw [Int.toNat_natCast]; exact boA_get M f (by omega)
          cases hMf : M.getD f true
          all_goals
            rw [hMf] at gM
            repeat' ((conv => whnf); first | rw [gM] | refine Rng.g ?_ | refine Ob.g ?_ | refine Ob.e ?_ | refine Ob.m ?_ | refine Ob.mk (Nat.le_of_ble_eq_true rfl) ?_ | refine JoinVC.on ?_ | refine Nils.mk (fun h => ?_) ?_ | refine Val.t ?_ | refine Val.d ?_ | refine Mm.mk ?_ | (refine Br.mk (fun h => ?_) (fun h => ?_) <;> first | (exfalso; omega; done) | (exfalso; simp at h; done) | skip))
            refine Back.mk (S.pl.length - (k + 1)) _ (by omega) ⟨k + 1, by omega, rfl, rfl⟩ ?_
            rw [eb, List.length_append, List.length_singleton]
            refine ⟨[some 0, some 1, some 2, some 3, some 4, some 5, some 6, some 7], rfl, rfl, ?_, ?_⟩ <;> repeat' (first | exact trivial | exact rfl | exact Iff.rfl | apply And.intro)
        · have q := bear_not hkl hb
          have gB : rI (i64s (bear S.be (f : Int) S.pl.length)) ((bear S.be (f : Int) k).length : Int).toNat 0 = (bear S.be (f : Int) S.pl.length).getD (bear S.be (f : Int) k).length 0 := by rw [Int.toNat_natCast, i64s_get]
          have eb : bear S.be (f : Int) (k + 1) = bear S.be (f : Int) k := by rw [bear, if_neg hb, List.append_nil]
          have hHM' : hasK F (f : Int) F.length = false := by rw [hHM, decide_eq_false hb]
          have hbk2 := bear_len S.be (f : Int) k
          generalize (bear S.be (f : Int) S.pl.length).getD (bear S.be (f : Int) k).length 0 = bv at *
          repeat' ((conv => whnf); first | rw [gB] | refine Rng.g ?_ | refine Ob.g ?_ | refine Ob.e ?_ | refine Ob.m ?_ | refine Ob.mk (Nat.le_of_ble_eq_true rfl) ?_ | refine JoinVC.on ?_ | refine Nils.mk (fun h => ?_) ?_ | refine Val.t ?_ | refine Val.d ?_ | refine Mm.mk ?_ | (refine Br.mk (fun h => ?_) (fun h => ?_) <;> first | (exfalso; omega; done) | (exfalso; simp at h; done) | skip))
          all_goals
            refine LoopVC.cut (fun n st => ∃ (j : Nat), j ≤ F.length ∧ n = F.length - j ∧ st = ⟨0, envA 256 [(5, .x (.one (.ptr 0 0))), (7, .x (.one (.own 6))), (8, .x (.one (.own 7))), (12, .int .i64 (S.pl.length : Int)), (13, .int .i64 (f : Int)), (14, .x (I o)), (17, .x (.one (.lst false [.int .i64] (i64s (bear S.be (f : Int) S.pl.length))))), (19, .int .i64 (((bear S.be (f : Int) k).length : Int))), (20, .int .i64 (k : Int)), (23, .x (.one (.lst false [.int .i64] (i64s F)))), (25, .x (.one (.bool B))), (27, .x (.one (.bool false))), (28, .x (.one (.bool (hasK F (f : Int) j)))), (29, .int .i64 (j : Int))], shK S ms ++ [some (rowI N), some (rowB M)]⟩) _ _ (fun e st => e = .exit 8 ∧ st = ⟨0, envA 256 [(5, .x (.one (.ptr 0 0))), (7, .x (.one (.own 6))), (8, .x (.one (.own 7))), (12, .int .i64 (S.pl.length : Int)), (13, .int .i64 (f : Int)), (14, .x (I o)), (17, .x (.one (.lst false [.int .i64] (i64s (bear S.be (f : Int) S.pl.length))))), (19, .int .i64 (((bear S.be (f : Int) k).length : Int))), (20, .int .i64 (k : Int)), (25, .x (.one (.bool B))), (27, .x (.one (.bool false))), (28, .x (.one (.bool false)))], shK S ms ++ [some (rowI N), some (rowB M)]⟩) ⟨0, Nat.zero_le _, rfl, rfl⟩ ?_ ?_ ?_
            · refine ⟨[some 0, some 1, some 2, some 3, some 4, some 5, some 6, some 7], rfl, rfl, ?_, ?_⟩ <;> repeat' (first | exact trivial | exact rfl | exact Iff.rfl | apply And.intro)
              all_goals first | exact decide_eq_false ‹¬bv = (k : Int)› | exact (decide_eq_false ‹¬bv = (k : Int)›).symm | exact rfl
            · rintro n3 _ ⟨j, hj, hn3, rfl⟩
              by_cases hjl : j < F.length
              · have gF : rI (i64s F) (j : Int).toNat 0 = F.getD j 0 := by rw [Int.toNat_natCast, i64s_get]
                have e : hasK F (f : Int) (j + 1) = (hasK F (f : Int) j || decide (F.getD j 0 = (f : Int))) := rfl
                cases hh : hasK F (f : Int) j
                · rw [hh, Bool.false_or] at e
                  repeat' ((conv => whnf); first | rw [gF] | refine Rng.g ?_ | refine Ob.g ?_ | refine Ob.e ?_ | refine Ob.m ?_ | refine Ob.mk (Nat.le_of_ble_eq_true rfl) ?_ | refine JoinVC.on ?_ | refine Nils.mk (fun h => ?_) ?_ | refine Val.t ?_ | refine Val.d ?_ | refine Mm.mk ?_ | (refine Br.mk (fun h => ?_) (fun h => ?_) <;> first | (exfalso; omega; done) | (exfalso; simp at h; done) | skip))
                  refine Back.mk (F.length - (j + 1)) _ (by omega) ⟨j + 1, by omega, rfl, rfl⟩ ?_
                  rw [e]
                  refine ⟨[some 0, some 1, some 2, some 3, some 4, some 5, some 6, some 7], rfl, rfl, ?_, ?_⟩ <;> repeat' (first | exact trivial | exact rfl | exact Iff.rfl | apply And.intro)
                · rw [hh, Bool.true_or] at e
                  repeat' ((conv => whnf); first | rw [gF] | refine Rng.g ?_ | refine Ob.g ?_ | refine Ob.e ?_ | refine Ob.m ?_ | refine Ob.mk (Nat.le_of_ble_eq_true rfl) ?_ | refine JoinVC.on ?_ | refine Nils.mk (fun h => ?_) ?_ | refine Val.t ?_ | refine Val.d ?_ | refine Mm.mk ?_ | (refine Br.mk (fun h => ?_) (fun h => ?_) <;> first | (exfalso; omega; done) | (exfalso; simp at h; done) | skip))
                  refine Back.mk (F.length - (j + 1)) _ (by omega) ⟨j + 1, by omega, rfl, rfl⟩ ?_
                  rw [e]
                  refine ⟨[some 0, some 1, some 2, some 3, some 4, some 5, some 6, some 7], rfl, rfl, ?_, ?_⟩ <;> repeat' (first | exact trivial | exact rfl | exact Iff.rfl | apply And.intro)
              · obtain rfl : j = F.length := by omega
                repeat' ((conv => whnf); first | refine Rng.g ?_ | refine Ob.g ?_ | refine Ob.e ?_ | refine Ob.m ?_ | refine Ob.mk (Nat.le_of_ble_eq_true rfl) ?_ | refine JoinVC.on ?_ | refine Nils.mk (fun h => ?_) ?_ | refine Val.t ?_ | refine Val.d ?_ | refine Mm.mk ?_ | (refine Br.mk (fun h => ?_) (fun h => ?_) <;> first | (exfalso; omega; done) | (exfalso; simp at h; done) | skip))
                refine Meet.mk _ ⟨rfl, rfl⟩ ?_
                rw [hHM']
                refine ⟨[some 0, some 1, some 2, some 3, some 4, some 5, some 6, some 7], rfl, rfl, ?_, ?_⟩ <;> repeat' (first | exact trivial | exact rfl | exact Iff.rfl | apply And.intro)
            rintro _ _ ⟨rfl, rfl⟩
            have gM : rB (boA M) (f : Int).toNat 0 = M.getD f true := by rw [Int.toNat_natCast]; exact boA_get M f (by omega)
            cases hMf : M.getD f true
            all_goals
              rw [hMf] at gM
              cases B
              all_goals
                first
                  | exact absurd (H2k hMf rfl) hb
                  | skip
              all_goals
                repeat' ((conv => whnf); first | rw [gM] | refine Rng.g ?_ | refine Ob.g ?_ | refine Ob.e ?_ | refine Ob.m ?_ | refine Ob.mk (Nat.le_of_ble_eq_true rfl) ?_ | refine JoinVC.on ?_ | refine Nils.mk (fun h => ?_) ?_ | refine Val.t ?_ | refine Val.d ?_ | refine Mm.mk ?_ | (refine Br.mk (fun h => ?_) (fun h => ?_) <;> first | (exfalso; omega; done) | (exfalso; simp at h; done) | skip))
                refine Back.mk (S.pl.length - (k + 1)) _ (by omega) ⟨k + 1, by omega, rfl, rfl⟩ ?_
                rw [eb]
                refine ⟨[some 0, some 1, some 2, some 3, some 4, some 5, some 6, some 7], rfl, rfl, ?_, ?_⟩ <;> repeat' (first | exact trivial | exact rfl | exact Iff.rfl | apply And.intro)
      · obtain rfl : k = S.pl.length := by omega
        repeat' ((conv => whnf); first | refine Rng.g ?_ | refine Ob.g ?_ | refine Ob.e ?_ | refine Ob.m ?_ | refine Ob.mk (Nat.le_of_ble_eq_true rfl) ?_ | refine JoinVC.on ?_ | refine Nils.mk (fun h => ?_) ?_ | refine Val.t ?_ | refine Val.d ?_ | refine Mm.mk ?_ | (refine Br.mk (fun h => ?_) (fun h => ?_) <;> first | (exfalso; omega; done) | (exfalso; simp at h; done) | skip))
        refine Meet.mk _ ⟨rfl, rfl⟩ ?_
        refine ⟨[some 0, some 1, some 2, some 3, some 4, some 5, some 6, some 7], rfl, rfl, ?_, ?_⟩ <;> repeat' (first | exact trivial | exact rfl | exact Iff.rfl | apply And.intro)
    rintro _ _ ⟨rfl, rfl⟩
    repeat' ((conv => whnf); first | refine Rng.g ?_ | refine Ob.g ?_ | refine Ob.e ?_ | refine Ob.m ?_ | refine Ob.mk (Nat.le_of_ble_eq_true rfl) ?_ | refine JoinVC.on ?_ | refine Nils.mk (fun h => ?_) ?_ | refine Val.t ?_ | refine Val.d ?_ | refine Mm.mk ?_ | (refine Br.mk (fun h => ?_) (fun h => ?_) <;> first | (exfalso; omega; done) | (exfalso; simp at h; done) | skip))
    refine Back.mk (N.length - (f + 1)) _ (by omega) ⟨f + 1, by omega, rfl, rfl⟩ ?_
    refine ⟨[some 0, some 1, some 2, some 3, some 4, some 5, some 6, some 7], rfl, rfl, ?_, ?_⟩ <;> repeat' (first | exact trivial | exact rfl | exact Iff.rfl | apply And.intro)
  · repeat' ((conv => whnf); first | refine Rng.g ?_ | refine Ob.g ?_ | refine Ob.e ?_ | refine Ob.m ?_ | refine Ob.mk (Nat.le_of_ble_eq_true rfl) ?_ | refine JoinVC.on ?_ | refine Nils.mk (fun h => ?_) ?_ | refine Val.t ?_ | refine Val.d ?_ | refine Mm.mk ?_ | refine CallVC.pure rfl (c17) ?_ | refine CallVC0.pure rfl (c17) ?_ | (refine Br.mk (fun h => ?_) (fun h => ?_) <;> first | (exfalso; omega; done) | (exfalso; simp at h; done) | skip))
    repeat refine Mm.mk ?_
    refine EndVC.mk _ rfl _ _ ⟨rfl, rfl⟩ ?_
    refine ⟨[], rfl, rfl, ?_, ?_⟩ <;> repeat' (first | exact trivial | exact rfl | exact Iff.rfl | apply And.intro)
end Go.Sx

namespace Go.Sx
open Go Go.Proofs
theorem s10 (r : Rcp) (l : List Act2) : PSpec Try.prog 10 [r.x, .one (.lst true KAc (acA l))] (xP True) := by
  by_cases h : 60 < l.length ∨ ¬ RcpOK r
  · exact s10_any r l h
  · exact s10_ok r l (by omega) (Classical.byContradiction fun hc => h (.inr hc))
end Go.Sx

namespace Go.Sx
open Go Go.Proofs
set_option maxRecDepth 10000
/-! ### Rows read as acts -/
theorem wfr_of : ∀ {ks : List CK} {r : List Cell}, r.length = ks.length → (∀ (j : Nat) k c, ks[j]? = some k → r[j]? = some c → Wf k c) → WfR ks r
  | [], [], _, _ => .nil
  | [], _ :: _, h, _ => by simp at h
  | _ :: _, [], h, _ => by simp at h
  | k :: ks, c :: cs, h, hw => .cons (hw 0 k c rfl rfl) (wfr_of (by simpa using h) fun j k' c' h1 h2 => hw (j + 1) k' c' (by simpa using h1) (by simpa using h2))
theorem wf_map {α : Type} {ks : List CK} {row : α → List Cell} {p : α → Prop} (hrow : ∀ r, WfR ks r → ∃ x, r = row x ∧ p x) {a : Arr} (h : Wf (.sl ks) (.sl a)) : ∃ l : List α, a = l.map row ∧ ∀ x ∈ l, p x := by
  cases h with
  | sl hl hr hw =>
    clear hl
    induction a with
    | nil => exact ⟨[], rfl, fun x hx => by simp at hx⟩
    | cons r a ih =>
      obtain ⟨l, rfl, h2⟩ := ih (fun r h => hr r (List.mem_cons_of_mem _ h)) (fun r h => hw r (List.mem_cons_of_mem _ h))
      obtain ⟨x, rfl, h3⟩ := hrow r (wfr_of (hr r (List.mem_cons_self ..)) (hw r (List.mem_cons_self ..)))
      exact ⟨x :: l, rfl, fun y hy => by rcases List.mem_cons.1 hy with rfl | hy; (· exact h3); exact h2 y hy⟩
theorem wf_acts {a : Arr} (h : Wf (.sl KAc) (.sl a)) : ∃ l : List Act2, a = acA l := by
  obtain ⟨l, h1, _⟩ := wf_map (row := acC) (p := fun _ => True) (fun r hr => by
    obtain ⟨c0, _, rfl, g0, h1⟩ := hr.inv
    obtain ⟨n0, rfl, _⟩ := g0.int_inv
    obtain ⟨c1, _, rfl, g1, h2⟩ := h1.inv
    obtain ⟨n1, rfl, _⟩ := g1.int_inv
    obtain ⟨c2, _, rfl, g2, h3⟩ := h2.inv
    obtain ⟨n2, rfl, _⟩ := g2.int_inv
    obtain ⟨c3, _, rfl, g3, h4⟩ := h3.inv
    obtain ⟨n3, rfl, _⟩ := g3.int_inv
    obtain ⟨c4, _, rfl, g4, h5⟩ := h4.inv
    obtain ⟨n4, rfl, _⟩ := g4.int_inv
    obtain ⟨c5, _, rfl, g5, h6⟩ := h5.inv
    obtain ⟨n5, rfl, _⟩ := g5.int_inv
    obtain ⟨c6, _, rfl, g6, h7⟩ := h6.inv
    obtain ⟨n6, rfl, _⟩ := g6.int_inv
    obtain ⟨c7, _, rfl, g7, h8⟩ := h7.inv
    obtain ⟨n7, rfl, _⟩ := g7.int_inv
    obtain ⟨c8, _, rfl, g8, h9⟩ := h8.inv
    obtain ⟨n8, rfl, _⟩ := g8.int_inv
    obtain ⟨c9, _, rfl, g9, h10⟩ := h9.inv
    obtain ⟨n9, rfl, _⟩ := g9.int_inv
    obtain ⟨c10, _, rfl, g10, h11⟩ := h10.inv
    obtain ⟨n10, rfl, _⟩ := g10.int_inv
    obtain ⟨c11, _, rfl, g11, h12⟩ := h11.inv
    obtain ⟨n11, rfl, _⟩ := g11.int_inv
    obtain ⟨c12, _, rfl, g12, h13⟩ := h12.inv
    obtain ⟨n12, rfl, _⟩ := g12.int_inv
    cases h13.nil_inv
    exact ⟨⟨n0, n1, n2, n3, n4, n5, n6, n7, n8, n9, n10, n11, n12⟩, rfl, trivial⟩) h
  exact ⟨l, h1⟩
end Go.Sx
