import Derived.Test.YthggkanmgibldaaPrPlatingPlansA
import Derived.Test.YthggkanmgibldaaXa
import Derived.Test.YthggkanmgibldaaXc
import Derived.Shelf.Slices.In.SortNone
import Derived.Shelf.Slices.In.SortAlone
namespace Go.Sx
open Go Go.Proofs
set_option maxRecDepth 10000
set_option maxHeartbeats 8000000
/-! ### The example -/
@[reducible] def exR : Rcp := ⟨0, 100, 100, 200, 0, 900, 900, 900, 10, 50, 500, 2, 3⟩
@[reducible] def groA (i b : Int) : Act2 := ⟨3, 0, 0, 0, 0, i, b, 50, 1, 500, 1, 0, 0⟩
theorem s35 : PSpec Try.prog 35 [] (.x exR.x) := by
  refine spec_of pMix (O := []) Try.func35 (c := bodyOf Try.f35) rfl (by kernel_rfl) (by kernel_rfl) Try.ntmps35 (res := [.cell 0 24]) (by kernel_rfl) ?_
  repeat' ((conv => whnf); first | refine Rng.g ?_ | refine Ob.g ?_ | refine Ob.e ?_ | refine Ob.m ?_ | refine Ob.mk (Nat.le_of_ble_eq_true rfl) ?_ | refine JoinVC.on ?_ | refine Nils.mk (fun h => ?_) ?_ | refine Val.t ?_ | refine Val.d ?_ | refine Mm.mk ?_ | (refine Br.mk (fun h => ?_) (fun h => ?_) <;> first | (exfalso; omega; done) | (exfalso; simp at h; done) | skip))
  repeat refine Mm.mk ?_
  refine EndVC.mk _ rfl _ _ ⟨rfl, rfl⟩ ?_
  refine ⟨[], rfl, rfl, ?_, ?_⟩ <;> repeat' (first | exact trivial | exact rfl | exact Iff.rfl | apply And.intro)
theorem s37 (i b : Int) : PSpec Try.prog 37 [I i, I b] (.x (groA i b).x) := by
  refine spec_of pMix (O := []) Try.func37 (c := bodyOf Try.f37) rfl (by kernel_rfl) (by kernel_rfl) Try.ntmps37 (res := [.cell 4 43]) (by kernel_rfl) ?_
  repeat' ((conv => whnf); first | refine Rng.g ?_ | refine Ob.g ?_ | refine Ob.e ?_ | refine Ob.m ?_ | refine Ob.mk (Nat.le_of_ble_eq_true rfl) ?_ | refine JoinVC.on ?_ | refine Nils.mk (fun h => ?_) ?_ | refine Val.t ?_ | refine Val.d ?_ | refine Mm.mk ?_ | (refine Br.mk (fun h => ?_) (fun h => ?_) <;> first | (exfalso; omega; done) | (exfalso; simp at h; done) | skip))
  repeat refine Mm.mk ?_
  refine EndVC.mk _ rfl _ _ ⟨rfl, rfl⟩ ?_
  refine ⟨[], rfl, rfl, ?_, ?_⟩ <;> repeat' (first | exact trivial | exact rfl | exact Iff.rfl | apply And.intro)
@[reducible] def exA : List Act2 := [⟨1, 7, 1000, 0, 0, 0, 0, 0, 0, 0, 0, 0, 0⟩, ⟨2, 0, 0, 2000, 500, 0, 0, 0, 0, 0, 0, 0, 0⟩, groA 0 0, ⟨4, 0, 0, 0, 0, 1, 0, 0, 0, 0, 0, 9, 0⟩, groA 1 0, groA 2 0, ⟨5, 0, 0, 0, 0, 2, 0, 0, 0, 0, 0, 0, 0⟩, groA 2 0]
@[reducible] def exS0 : Sho := ⟨exR, [], [], [], [], []⟩
@[reducible] def exS1 : Sho := ⟨exR, [⟨0, -1, 7, 1000, 0, 0, false⟩], [[]], [], [], [⟨1, 7, 1000, 0, 0, 0, 0, 0, 0, 0, 0, 0, 0⟩]⟩
@[reducible] def exS2 : Sho := ⟨exR, [⟨0, -1, 7, 1000, 0, 0, false⟩], [[]], [⟨2000, 500, 0, 0⟩], [], [⟨1, 7, 1000, 0, 0, 0, 0, 0, 0, 0, 0, 0, 0⟩, ⟨2, 0, 0, 2000, 500, 0, 0, 0, 0, 0, 0, 0, 0⟩]⟩
@[reducible] def exS3 : Sho := ⟨exR, [⟨0, -1, 7, 1000, 0, 1, true⟩, ⟨1, 0, 7, 1000, 275, 0, false⟩], [[], []], [⟨1725, 500, 550, 275⟩], [], [⟨1, 7, 1000, 0, 0, 0, 0, 0, 0, 0, 0, 0, 0⟩, ⟨2, 0, 0, 2000, 500, 0, 0, 0, 0, 0, 0, 0, 0⟩, groA 0 0]⟩
@[reducible] def exS4 : Sho := ⟨exR, [⟨0, -1, 7, 1000, 0, 1, true⟩, ⟨1, 0, 7, 1000, 275, 0, false⟩], [[], [0]], [⟨1725, 500, 550, 275⟩], [(1, 9)], [⟨1, 7, 1000, 0, 0, 0, 0, 0, 0, 0, 0, 0, 0⟩, ⟨2, 0, 0, 2000, 500, 0, 0, 0, 0, 0, 0, 0, 0⟩, groA 0 0, ⟨4, 0, 0, 0, 0, 1, 0, 0, 0, 0, 0, 9, 0⟩]⟩
@[reducible] def exS5 : Sho := ⟨exR, [⟨0, -1, 7, 1000, 0, 1, true⟩, ⟨1, 0, 7, 1000, 275, 1, false⟩, ⟨2, 1, 7, 1000, 275, 0, false⟩], [[], [0], [0]], [⟨1450, 500, 1100, 550⟩], [(1, 9)], [⟨1, 7, 1000, 0, 0, 0, 0, 0, 0, 0, 0, 0, 0⟩, ⟨2, 0, 0, 2000, 500, 0, 0, 0, 0, 0, 0, 0, 0⟩, groA 0 0, ⟨4, 0, 0, 0, 0, 1, 0, 0, 0, 0, 0, 9, 0⟩, groA 1 0]⟩
@[reducible] def exS6 : Sho := ⟨exR, [⟨0, -1, 7, 1000, 0, 1, true⟩, ⟨1, 0, 7, 1000, 275, 1, false⟩, ⟨2, 1, 7, 1000, 275, 1, false⟩, ⟨3, 2, 7, 1000, 275, 0, false⟩], [[], [0], [0], [0]], [⟨1175, 500, 1650, 825⟩], [(1, 9)], [⟨1, 7, 1000, 0, 0, 0, 0, 0, 0, 0, 0, 0, 0⟩, ⟨2, 0, 0, 2000, 500, 0, 0, 0, 0, 0, 0, 0, 0⟩, groA 0 0, ⟨4, 0, 0, 0, 0, 1, 0, 0, 0, 0, 0, 9, 0⟩, groA 1 0, groA 2 0]⟩
@[reducible] def exS7 : Sho := ⟨exR, [⟨0, -1, 7, 1000, 0, 1, true⟩, ⟨1, 0, 7, 1000, 275, 1, false⟩, ⟨2, 1, 7, 1000, 275, 1, false⟩, ⟨3, 2, 7, 1000, 275, 0, false⟩], [[], [0], [], [0]], [⟨1175, 500, 1650, 825⟩], [(1, 9)], [⟨1, 7, 1000, 0, 0, 0, 0, 0, 0, 0, 0, 0, 0⟩, ⟨2, 0, 0, 2000, 500, 0, 0, 0, 0, 0, 0, 0, 0⟩, groA 0 0, ⟨4, 0, 0, 0, 0, 1, 0, 0, 0, 0, 0, 9, 0⟩, groA 1 0, groA 2 0, ⟨5, 0, 0, 0, 0, 2, 0, 0, 0, 0, 0, 0, 0⟩]⟩
@[reducible] def exS8 : Sho := ⟨exR, [⟨0, -1, 7, 1000, 0, 1, true⟩, ⟨1, 0, 7, 1000, 275, 1, false⟩, ⟨2, 1, 7, 1000, 275, 2, false⟩, ⟨3, 2, 7, 1000, 275, 0, false⟩, ⟨3, 2, 7, 1000, 275, 0, false⟩], [[], [0], [], [0], []], [⟨900, 500, 2200, 1100⟩], [(1, 9)], [⟨1, 7, 1000, 0, 0, 0, 0, 0, 0, 0, 0, 0, 0⟩, ⟨2, 0, 0, 2000, 500, 0, 0, 0, 0, 0, 0, 0, 0⟩, groA 0 0, ⟨4, 0, 0, 0, 0, 1, 0, 0, 0, 0, 0, 9, 0⟩, groA 1 0, groA 2 0, ⟨5, 0, 0, 0, 0, 2, 0, 0, 0, 0, 0, 0, 0⟩, groA 2 0]⟩
theorem exE0 : doE exS0 (exA.getD 0 ac0) = 0 := by kernel_rfl
theorem exD0 : doS exS0 (exA.getD 0 ac0) = exS1 := by kernel_rfl
theorem exE1 : doE exS1 (exA.getD 1 ac0) = 0 := by kernel_rfl
theorem exD1 : doS exS1 (exA.getD 1 ac0) = exS2 := by kernel_rfl
theorem exE2 : doE exS2 (exA.getD 2 ac0) = 0 := by kernel_rfl
theorem exD2 : doS exS2 (exA.getD 2 ac0) = exS3 := by kernel_rfl
theorem exE3 : doE exS3 (exA.getD 3 ac0) = 0 := by kernel_rfl
theorem exD3 : doS exS3 (exA.getD 3 ac0) = exS4 := by kernel_rfl
theorem exE4 : doE exS4 (exA.getD 4 ac0) = 0 := by kernel_rfl
theorem exD4 : doS exS4 (exA.getD 4 ac0) = exS5 := by kernel_rfl
theorem exE5 : doE exS5 (exA.getD 5 ac0) = 0 := by kernel_rfl
theorem exD5 : doS exS5 (exA.getD 5 ac0) = exS6 := by kernel_rfl
theorem exE6 : doE exS6 (exA.getD 6 ac0) = 0 := by kernel_rfl
theorem exD6 : doS exS6 (exA.getD 6 ac0) = exS7 := by kernel_rfl
theorem exE7 : doE exS7 (exA.getD 7 ac0) = 0 := by kernel_rfl
theorem exD7 : doS exS7 (exA.getD 7 ac0) = exS8 := by kernel_rfl
theorem exP0 : repS (shop0 exR) exA 0 = exS0 := rfl
theorem exP1 : repS (shop0 exR) exA 1 = exS1 := (congrArg (doS · (exA.getD 0 ac0)) exP0).trans exD0
theorem exP2 : repS (shop0 exR) exA 2 = exS2 := (congrArg (doS · (exA.getD 1 ac0)) exP1).trans exD1
theorem exP3 : repS (shop0 exR) exA 3 = exS3 := (congrArg (doS · (exA.getD 2 ac0)) exP2).trans exD2
theorem exP4 : repS (shop0 exR) exA 4 = exS4 := (congrArg (doS · (exA.getD 3 ac0)) exP3).trans exD3
theorem exP5 : repS (shop0 exR) exA 5 = exS5 := (congrArg (doS · (exA.getD 4 ac0)) exP4).trans exD4
theorem exP6 : repS (shop0 exR) exA 6 = exS6 := (congrArg (doS · (exA.getD 5 ac0)) exP5).trans exD5
theorem exP7 : repS (shop0 exR) exA 7 = exS7 := (congrArg (doS · (exA.getD 6 ac0)) exP6).trans exD6
theorem exP8 : repS (shop0 exR) exA 8 = exS8 := (congrArg (doS · (exA.getD 7 ac0)) exP7).trans exD7
theorem exG : goodTo (shop0 exR) exA 8 := fun j hj => by
  rcases (show j = 0 ∨ j = 1 ∨ j = 2 ∨ j = 3 ∨ j = 4 ∨ j = 5 ∨ j = 6 ∨ j = 7 by omega) with rfl | rfl | rfl | rfl | rfl | rfl | rfl | rfl
  · rw [exP0]; exact exE0
  · rw [exP1]; exact exE1
  · rw [exP2]; exact exE2
  · rw [exP3]; exact exE3
  · rw [exP4]; exact exE4
  · rw [exP5]; exact exE5
  · rw [exP6]; exact exE6
  · rw [exP7]; exact exE7
theorem exOK : RcpOK exR := ⟨by decide, by decide, by decide, by decide, by decide, by decide, by decide, by decide⟩
theorem exUp : exS8.up 4 = [4, 2, 1, 0] := by kernel_rfl
theorem exBe : bear exS8.be 0 5 = [1, 3] := by kernel_rfl
theorem exNe : needE exS8 0 6 = 0 := by kernel_rfl
theorem exNn : needN exS8 0 6 = 5 := by kernel_rfl
theorem s36 : HSpec Try.prog 36 [] [] (fun r m' => r = .x (.one (.lst false KAc (acA exA))) ∧ m' = []) := by
  have c0 := s37 0 0
  have c1 := s37 1 0
  have c2 := s37 2 0
  refine spec_of pMix (O := []) Try.func36 (c := bodyOf Try.f36) rfl (by kernel_rfl) (by kernel_rfl) Try.ntmps36 (res := [.tmp 0]) (by kernel_rfl) ?_
  repeat' ((conv => whnf); first | refine Rng.g ?_ | refine Ob.g ?_ | refine Ob.e ?_ | refine Ob.m ?_ | refine Ob.mk (Nat.le_of_ble_eq_true rfl) ?_ | refine JoinVC.on ?_ | refine Nils.mk (fun h => ?_) ?_ | refine Val.t ?_ | refine Val.d ?_ | refine Mm.mk ?_ | refine CallVC.pure rfl (c0) ?_ | refine CallVC.pure rfl (c1) ?_ | refine CallVC.pure rfl (c2) ?_ | refine CallVC0.pure rfl (c0) ?_ | refine CallVC0.pure rfl (c1) ?_ | refine CallVC0.pure rfl (c2) ?_ | (refine Br.mk (fun h => ?_) (fun h => ?_) <;> first | (exfalso; omega; done) | (exfalso; simp at h; done) | skip))
  repeat refine Mm.mk ?_
  refine EndVC.mk _ rfl _ _ ⟨rfl, rfl⟩ ?_
  refine ⟨[], rfl, rfl, ?_, ?_⟩ <;> repeat' (first | exact trivial | exact rfl | exact Iff.rfl | apply And.intro)
theorem s32 (xs ys : List Int) (hx : xs.length ≤ 1000000) : PSpec Try.prog 32 [.one (.lst true [.int .i64] (i64s xs)), .one (.lst true [.int .i64] (i64s ys))] (xP (xs = ys)) := by
  have lx := i64s_len xs
  have ly := i64s_len ys
  by_cases hl : xs.length = ys.length
  · refine spec_of pMix (O := []) Try.func32 (c := bodyOf Try.f32) rfl (by kernel_rfl) (by kernel_rfl) Try.ntmps32 (res := [.tmp 4]) (by kernel_rfl) ?_
    repeat' ((conv => whnf); first | refine Rng.g ?_ | refine Ob.g ?_ | refine Ob.e ?_ | refine Ob.m ?_ | refine Ob.mk (Nat.le_of_ble_eq_true rfl) ?_ | refine JoinVC.on ?_ | refine Nils.mk (fun h => ?_) ?_ | refine Val.t ?_ | refine Val.d ?_ | refine Mm.mk ?_ | (refine Br.mk (fun h => ?_) (fun h => ?_) <;> first | (exfalso; omega; done) | (exfalso; simp at h; done) | skip))
    refine LoopVC.mk (fun n st => ∃ (i : Nat), i ≤ xs.length ∧ n = xs.length - i ∧ (∀ j, j < i → xs.getD j 0 = ys.getD j 0) ∧ st = ⟨0, envA 26 [(0, .x (.one (.lst true [.int .i64] (i64s xs)))), (1, .x (.one (.lst true [.int .i64] (i64s ys)))), (5, .int .i64 (i : Int))], []⟩) _ _ ⟨0, Nat.zero_le _, rfl, fun j hj => absurd hj (Nat.not_lt_zero j), rfl⟩ ?_ ?_
    · refine ⟨[], rfl, rfl, ?_, ?_⟩ <;> repeat' (first | exact trivial | exact rfl | exact Iff.rfl | apply And.intro)
    rintro n _ ⟨i, hi, hn, hj, rfl⟩
    have g0 : rI (i64s xs) (i : Int).toNat 0 = xs.getD i 0 := by rw [Int.toNat_natCast, i64s_get]
    have g1 : rI (i64s ys) (i : Int).toNat 0 = ys.getD i 0 := by rw [Int.toNat_natCast, i64s_get]
    by_cases h' : i < xs.length
    · repeat' ((conv => whnf); first | rw [g0] | rw [g1] | refine Rng.g ?_ | refine Ob.g ?_ | refine Ob.e ?_ | refine Ob.m ?_ | refine Ob.mk (Nat.le_of_ble_eq_true rfl) ?_ | refine JoinVC.on ?_ | refine Nils.mk (fun h => ?_) ?_ | refine Val.t ?_ | refine Val.d ?_ | refine Mm.mk ?_ | (refine Br.mk (fun h => ?_) (fun h => ?_) <;> first | (exfalso; omega; done) | (exfalso; simp at h; done) | skip))
      · repeat refine Mm.mk ?_
        refine EndVC.mk _ rfl _ _ ⟨rfl, rfl⟩ ?_
        refine ⟨[], rfl, rfl, ?_, ?_⟩ <;> repeat' (first | exact trivial | exact rfl | exact Iff.rfl | apply And.intro)
        exact fun hc => h (by rw [hc])
      · refine Back.mk (xs.length - (i + 1)) _ (by omega) ⟨i + 1, by omega, rfl, fun j hj' => ?_, rfl⟩ ?_
        · rcases Nat.lt_succ_iff_lt_or_eq.1 hj' with h1 | rfl
          · exact hj j h1
          · exact Classical.not_not.1 h
        · refine ⟨[], rfl, rfl, ?_, ?_⟩ <;> repeat' (first | exact trivial | exact rfl | exact Iff.rfl | apply And.intro)
    · obtain rfl : i = xs.length := by omega
      repeat' ((conv => whnf); first | refine Rng.g ?_ | refine Ob.g ?_ | refine Ob.e ?_ | refine Ob.m ?_ | refine Ob.mk (Nat.le_of_ble_eq_true rfl) ?_ | refine JoinVC.on ?_ | refine Nils.mk (fun h => ?_) ?_ | refine Val.t ?_ | refine Val.d ?_ | refine Mm.mk ?_ | (refine Br.mk (fun h => ?_) (fun h => ?_) <;> first | (exfalso; omega; done) | (exfalso; simp at h; done) | skip))
      repeat refine Mm.mk ?_
      refine EndVC.mk _ rfl _ _ ⟨rfl, rfl⟩ ?_
      refine ⟨[], rfl, rfl, ?_, ?_⟩ <;> repeat' (first | exact trivial | exact rfl | exact Iff.rfl | apply And.intro)
      exact (List.ext_getElem hl fun k h1 h2 => by
        have := hj k h1
        rwa [List.getD_eq_getElem?_getD, List.getD_eq_getElem?_getD, List.getElem?_eq_getElem h1, List.getElem?_eq_getElem h2] at this)
  · refine spec_of pMix (O := []) Try.func32 (c := bodyOf Try.f32) rfl (by kernel_rfl) (by kernel_rfl) Try.ntmps32 (res := [.tmp 4]) (by kernel_rfl) ?_
    repeat' ((conv => whnf); first | refine Rng.g ?_ | refine Ob.g ?_ | refine Ob.e ?_ | refine Ob.m ?_ | refine Ob.mk (Nat.le_of_ble_eq_true rfl) ?_ | refine JoinVC.on ?_ | refine Nils.mk (fun h => ?_) ?_ | refine Val.t ?_ | refine Val.d ?_ | refine Mm.mk ?_ | (refine Br.mk (fun h => ?_) (fun h => ?_) <;> first | (exfalso; omega; done) | (exfalso; simp at h; done) | skip))
    repeat refine Mm.mk ?_
    refine EndVC.mk _ rfl _ _ ⟨rfl, rfl⟩ ?_
    refine ⟨[], rfl, rfl, ?_, ?_⟩ <;> repeat' (first | exact trivial | exact rfl | exact Iff.rfl | apply And.intro)
    exact fun h => hl (congrArg List.length h)
theorem PSpec.tt {P : Program} {f : FuncId} {args : List XV} {p : Prop} {d : Decidable p} (h : PSpec P f args (.x (.one (.prp p d)))) (hp : p) : PSpec P f args (.x (.one .tt)) := by
  intro w R vs h1 h2
  have key : ∀ (e : Ending) (w' : World), (∃ v r m' R', e = .returned v ∧ (r = .x (.one (.prp p d)) ∧ m' = []) ∧ Fr w R ([].map some) w' R' m' ∧ RepA w' R' r v) → ∃ v r m' R', e = .returned v ∧ (r = .x (.one .tt) ∧ m' = []) ∧ Fr w R ([].map some) w' R' m' ∧ RepA w' R' r v := by
    rintro e w' ⟨v, r, m', R', h3, ⟨rfl, rfl⟩, h5, h6⟩
    refine ⟨v, _, _, R', h3, ⟨rfl, rfl⟩, h5, ?_⟩
    have h6' : v = .bool (@decide p d) := h6
    exact h6'.trans (by rw [decide_eq_true hp])
  rcases h w R vs h1 h2 with ⟨h3, h4⟩ | ⟨v, w', h3, h4⟩
  · exact .inl ⟨h3, h4.mono key⟩
  · exact .inr ⟨v, w', h3, key _ _ h4⟩
theorem s17p : PSpec Try.prog 17 [] (xP ((5 : Int) = 5)) := by
  have c34 := s34 exR exA (by decide)
  have hS : ShOK exS8 := by have := ShOK.repS (ShOK.new exOK) exA 8; rwa [exP8] at this
  have lA : (acA exA).length = 8 := rfl
  have q1 := (s32 [4, 2, 1, 0].reverse [0, 1, 2, 4] (by decide)).tt rfl
  have q2 := (s32 [1, 3] [1, 3] (by decide)).tt rfl
  refine spec_of pMix (O := []) Try.func17 (c := bodyOf Try.f17) rfl (by kernel_rfl) (by kernel_rfl) Try.ntmps17 (res := [.tmp 0]) (by kernel_rfl) ?_
  repeat' ((conv => whnf); first | refine Rng.g ?_ | refine Ob.g ?_ | refine Ob.e ?_ | refine Ob.m ?_ | refine Ob.mk (Nat.le_of_ble_eq_true rfl) ?_ | refine JoinVC.on ?_ | refine Nils.mk (fun h => ?_) ?_ | refine Val.t ?_ | refine Val.d ?_ | refine Mm.mk ?_ | refine CallVC.pure rfl (s35) ?_ | refine CallVC0.pure rfl (s35) ?_ | (refine Br.mk (fun h => ?_) (fun h => ?_) <;> first | (exfalso; omega; done) | (exfalso; simp at h; done) | skip))
  conv => whnf
  refine CallVC.mk [] _ _ _ rfl rfl rfl (s36) (fun r m' h' => ?_)
  obtain ⟨rfl, rfl⟩ := h'
  conv => whnf
  repeat' ((conv => whnf); first | refine Rng.g ?_ | refine Ob.g ?_ | refine Ob.e ?_ | refine Ob.m ?_ | refine Ob.mk (Nat.le_of_ble_eq_true rfl) ?_ | refine JoinVC.on ?_ | refine Nils.mk (fun h => ?_) ?_ | refine Val.t ?_ | refine Val.d ?_ | refine Mm.mk ?_ | (refine Br.mk (fun h => ?_) (fun h => ?_) <;> first | (exfalso; omega; done) | (exfalso; simp at h; done) | skip))
  conv => whnf
  refine CallVC.mk [] _ _ _ rfl rfl rfl (c34) (fun r m' h' => ?_)
  cases h' with
  | bad h hv hm => exact absurd exOK h
  | err h i hi hg e he h0 hv hm => exact absurd (exG i hi) (by rw [he]; exact h0)
  | ok h hg ms hM hv hm =>
    have e8 : repS (shop0 exR) exA exA.length = exS8 := exP8
    rw [e8] at hm hM
    subst hv hm
    have c30 := s30_ok exS8 ms hS 4 (by decide)
    rw [exUp] at c30
    have c39 := s39_ok exS8 ms hS hM 0 (by decide)
    rw [show bear exS8.be 0 exS8.pl.length = [1, 3] from exBe] at c39
    have c26 := s26 exS8 ms hS 0 6
    rw [exNe, exNn] at c26
    repeat' ((conv => whnf); first | refine Rng.g ?_ | refine Ob.g ?_ | refine Ob.e ?_ | refine Ob.m ?_ | refine Ob.mk (Nat.le_of_ble_eq_true rfl) ?_ | refine JoinVC.on ?_ | refine Nils.mk (fun h => ?_) ?_ | refine Val.t ?_ | refine Val.d ?_ | refine Mm.mk ?_ | (refine Br.mk (fun h => ?_) (fun h => ?_) <;> first | (exfalso; omega; done) | (exfalso; simp at h; done) | skip))
    conv => whnf
    first | refine CallVC.mk [0, 1, 2, 3, 4, 5] _ _ _ rfl rfl rfl (c30) (fun r m' h' => ?_) | refine CallVC0.same [0, 1, 2, 3, 4, 5] _ _ _ rfl rfl rfl rfl (c30) (fun r m' h' => (by obtain ⟨rfl, rfl⟩ := h'; rfl)) (fun r m' h' => ?_) | (refine CallVC0.rows [0, 1, 2, 3, 4, 5] _ _ _ rfl rfl rfl ?_ (c30) (fun r m' h' => (by obtain ⟨rfl, rfl⟩ := h'; rfl)) (fun r m' h' => ?_); · (repeat' ((conv => whnf); first | exact trivial | exact rfl | exact Nat.le_refl _ | apply And.intro)))
    obtain ⟨rfl, rfl⟩ := h'
    conv => whnf
    repeat' ((conv => whnf); first | refine Rng.g ?_ | refine Ob.g ?_ | refine Ob.e ?_ | refine Ob.m ?_ | refine Ob.mk (Nat.le_of_ble_eq_true rfl) ?_ | refine JoinVC.on ?_ | refine Nils.mk (fun h => ?_) ?_ | refine Val.t ?_ | refine Val.d ?_ | refine Mm.mk ?_ | (refine Br.mk (fun h => ?_) (fun h => ?_) <;> first | (exfalso; omega; done) | (exfalso; simp at h; done) | skip))
    conv => whnf
    first | refine CallVC.mk [0, 1, 2, 3, 4, 5] _ _ _ rfl rfl rfl (c39) (fun r m' h' => ?_) | refine CallVC0.same [0, 1, 2, 3, 4, 5] _ _ _ rfl rfl rfl rfl (c39) (fun r m' h' => (by obtain ⟨rfl, rfl⟩ := h'; rfl)) (fun r m' h' => ?_) | (refine CallVC0.rows [0, 1, 2, 3, 4, 5] _ _ _ rfl rfl rfl ?_ (c39) (fun r m' h' => (by obtain ⟨rfl, rfl⟩ := h'; rfl)) (fun r m' h' => ?_); · (repeat' ((conv => whnf); first | exact trivial | exact rfl | exact Nat.le_refl _ | apply And.intro)))
    obtain ⟨rfl, rfl⟩ := h'
    conv => whnf
    repeat' ((conv => whnf); first | refine Rng.g ?_ | refine Ob.g ?_ | refine Ob.e ?_ | refine Ob.m ?_ | refine Ob.mk (Nat.le_of_ble_eq_true rfl) ?_ | refine JoinVC.on ?_ | refine Nils.mk (fun h => ?_) ?_ | refine Val.t ?_ | refine Val.d ?_ | refine Mm.mk ?_ | (refine Br.mk (fun h => ?_) (fun h => ?_) <;> first | (exfalso; omega; done) | (exfalso; simp at h; done) | skip))
    conv => whnf
    first | refine CallVC.mk [0, 1, 2, 3, 4, 5] _ _ _ rfl rfl rfl (c26) (fun r m' h' => ?_) | refine CallVC0.same [0, 1, 2, 3, 4, 5] _ _ _ rfl rfl rfl rfl (c26) (fun r m' h' => (by obtain ⟨rfl, rfl⟩ := h'; rfl)) (fun r m' h' => ?_) | (refine CallVC0.rows [0, 1, 2, 3, 4, 5] _ _ _ rfl rfl rfl ?_ (c26) (fun r m' h' => (by obtain ⟨rfl, rfl⟩ := h'; rfl)) (fun r m' h' => ?_); · (repeat' ((conv => whnf); first | exact trivial | exact rfl | exact Nat.le_refl _ | apply And.intro)))
    obtain ⟨rfl, rfl⟩ := h'
    conv => whnf
    repeat' ((conv => whnf); first | refine Rng.g ?_ | refine Ob.g ?_ | refine Ob.e ?_ | refine Ob.m ?_ | refine Ob.mk (Nat.le_of_ble_eq_true rfl) ?_ | refine JoinVC.on ?_ | refine Nils.mk (fun h => ?_) ?_ | refine Val.t ?_ | refine Val.d ?_ | refine Mm.mk ?_ | refine CallVC.pure rfl (q1) ?_ | refine CallVC.pure rfl (q2) ?_ | refine CallVC0.pure rfl (q1) ?_ | refine CallVC0.pure rfl (q2) ?_ | (refine Br.mk (fun h => ?_) (fun h => ?_) <;> first | (exfalso; omega; done) | (exfalso; simp at h; done) | skip))
    repeat refine Mm.mk ?_
    refine EndVC.mk _ rfl _ _ ⟨rfl, rfl⟩ ?_
    refine ⟨[], rfl, rfl, ?_, ?_⟩ <;> repeat' (first | exact trivial | exact rfl | exact Iff.rfl | apply And.intro)
theorem s17 : PSpec Try.prog 17 [] (.x (.one .tt)) := s17p.tt rfl
/-! ### A shop after some acts -/
def aftS (r : Rcp) (l : List Act2) : Sho := repS (shop0 r) l l.length
theorem aft_ok {r : Rcp} (h : RcpOK r) (l : List Act2) : ShOK (aftS r l) := ShOK.repS (ShOK.new h) l _
end Go.Sx

/- for looks only (px '@dbgl'): never in a final text -/
namespace Go.Sx
open Go
end Go.Sx

namespace Go.Sx
open Go Go.Proofs
set_option maxRecDepth 10000
set_option maxHeartbeats 8000000
/-! ### The reference's shop -/
@[reducible] def bRf (i1 i2 i3 i4 i5 : Nat) (r : Rcp) : Blk := .box 105 [i6 r.n0, i6 r.n1, i6 r.n2, i6 r.n3, i6 r.k0, i6 r.k1, i6 r.k2, i6 r.k3, i6 r.seed, i6 r.soft, i6 r.hard, i6 r.mo, i6 r.sp, .own i1, .own i2, .own i3, .own i4, .own i5]
@[reducible] def KBe : List CK := [.sl [.int .i64]]
@[reducible] def bBe (l : List (List Int)) : Blk := .row 34 true KBe (beA l)
@[reducible] def bFr (l : List (Int × Int)) : Blk := .row 125 false KFl (flA l)
@[reducible] def rfM (S : Sho) : List Blk := [bRf 1 2 3 4 5 S.r, bPs S.pl, bBe S.be, bTk S.tk, bFr S.fl, bAc S.ac]
@[reducible] def rfK (S : Sho) : List (Option Blk) := [some (bRf 1 2 3 4 5 S.r), some (bPs S.pl), some (bBe S.be), some (bTk S.tk), some (bFr S.fl), some (bAc S.ac)]
@[reducible] def rfO (S : Sho) : List (Option Blk) := [some (bRf 6 7 8 9 10 S.r), none, none, none, none, none, some (bPs S.pl), some (bBe S.be), some (bTk S.tk), some (bFr S.fl), some (bAc S.ac)]
theorem s72 (S : Sho) (i : Int) : HSpec Try.prog 72 [.one (.ptr 0 0), I i] (rfM S) (fun r m' => r = xP (inP S i) ∧ m' = rfK S) := by
  have hl := plA_len S.pl
  unfold inP
  refine spec_of pMix (O := []) Try.func72 (c := bodyOf Try.f72) rfl (by kernel_rfl) (by kernel_rfl) Try.ntmps72 (res := [.tmp 4]) (by kernel_rfl) ?_
  repeat' ((conv => whnf); first | refine Rng.g ?_ | refine Ob.g ?_ | refine Ob.e ?_ | refine Ob.m ?_ | refine Ob.mk (Nat.le_of_ble_eq_true rfl) ?_ | refine JoinVC.on ?_ | refine Nils.mk (fun h => ?_) ?_ | refine Val.t ?_ | refine Val.d ?_ | refine Mm.mk ?_ | (refine Br.mk (fun h => ?_) (fun h => ?_) <;> first | (exfalso; omega; done) | (exfalso; simp at h; done) | skip))
  · repeat refine Mm.mk ?_
    refine EndVC.mk _ rfl _ _ ⟨rfl, rfl⟩ ?_
    refine ⟨[some 0, some 1, some 2, some 3, some 4, some 5], rfl, rfl, ?_, ?_⟩ <;> repeat' (first | exact trivial | exact rfl | exact Iff.rfl | apply And.intro)
    exact ⟨fun h2 => ⟨h, by omega⟩, fun h2 => by omega⟩
  · repeat refine Mm.mk ?_
    refine EndVC.mk _ rfl _ _ ⟨rfl, rfl⟩ ?_
    refine ⟨[some 0, some 1, some 2, some 3, some 4, some 5], rfl, rfl, ?_, ?_⟩ <;> repeat' (first | exact trivial | exact rfl | exact Iff.rfl | apply And.intro)
    exact fun h2 => h h2.1
theorem s73 (l : List Int) (hl : l.length ≤ 1000000) (x : Int) : PSpec Try.prog 73 [.one (.lst true [.int .i64] (i64s l)), I x] (xP (x ∈ l)) := by
  have ll := i64s_len l
  refine spec_of pMix (O := []) Try.func73 (c := bodyOf Try.f73) rfl (by kernel_rfl) (by kernel_rfl) Try.ntmps73 (res := [.tmp 4]) (by kernel_rfl) ?_
  repeat' ((conv => whnf); first | refine Rng.g ?_ | refine Ob.g ?_ | refine Ob.e ?_ | refine Ob.m ?_ | refine Ob.mk (Nat.le_of_ble_eq_true rfl) ?_ | refine JoinVC.on ?_ | refine Nils.mk (fun h => ?_) ?_ | refine Val.t ?_ | refine Val.d ?_ | refine Mm.mk ?_ | (refine Br.mk (fun h => ?_) (fun h => ?_) <;> first | (exfalso; omega; done) | (exfalso; simp at h; done) | skip))
  refine LoopVC.mk (fun n st => ∃ (i : Nat), i ≤ l.length ∧ n = l.length - i ∧ (∀ j, j < i → l.getD j 0 ≠ x) ∧ st = ⟨0, envA 18 [(0, .x (.one (.lst true [.int .i64] (i64s l)))), (1, .x (I x)), (5, .int .i64 (i : Int))], []⟩) _ _ ⟨0, Nat.zero_le _, rfl, fun j hj => absurd hj (Nat.not_lt_zero j), rfl⟩ ?_ ?_
  · refine ⟨[], rfl, rfl, ?_, ?_⟩ <;> repeat' (first | exact trivial | exact rfl | exact Iff.rfl | apply And.intro)
  rintro n _ ⟨i, hi, hn, hj, rfl⟩
  have g0 : rI (i64s l) (i : Int).toNat 0 = l.getD i 0 := by rw [Int.toNat_natCast, i64s_get]
  by_cases h' : i < l.length
  · have hmem : l.getD i 0 ∈ l := by rw [List.getD_eq_getElem?_getD, List.getElem?_eq_getElem h']; exact List.getElem_mem h'
    repeat' ((conv => whnf); first | rw [g0] | refine Rng.g ?_ | refine Ob.g ?_ | refine Ob.e ?_ | refine Ob.m ?_ | refine Ob.mk (Nat.le_of_ble_eq_true rfl) ?_ | refine JoinVC.on ?_ | refine Nils.mk (fun h => ?_) ?_ | refine Val.t ?_ | refine Val.d ?_ | refine Mm.mk ?_ | (refine Br.mk (fun h => ?_) (fun h => ?_) <;> first | (exfalso; omega; done) | (exfalso; simp at h; done) | skip))
    · repeat refine Mm.mk ?_
      refine EndVC.mk _ rfl _ _ ⟨rfl, rfl⟩ ?_
      refine ⟨[], rfl, rfl, ?_, ?_⟩ <;> repeat' (first | exact trivial | exact rfl | exact Iff.rfl | apply And.intro)
      exact h ▸ hmem
    · refine Back.mk (l.length - (i + 1)) _ (by omega) ⟨i + 1, by omega, rfl, fun j hj' => ?_, rfl⟩ ?_
      · rcases Nat.lt_succ_iff_lt_or_eq.1 hj' with h1 | rfl
        · exact hj j h1
        · exact h
      · refine ⟨[], rfl, rfl, ?_, ?_⟩ <;> repeat' (first | exact trivial | exact rfl | exact Iff.rfl | apply And.intro)
  · obtain rfl : i = l.length := by omega
    repeat' ((conv => whnf); first | refine Rng.g ?_ | refine Ob.g ?_ | refine Ob.e ?_ | refine Ob.m ?_ | refine Ob.mk (Nat.le_of_ble_eq_true rfl) ?_ | refine JoinVC.on ?_ | refine Nils.mk (fun h => ?_) ?_ | refine Val.t ?_ | refine Val.d ?_ | refine Mm.mk ?_ | (refine Br.mk (fun h => ?_) (fun h => ?_) <;> first | (exfalso; omega; done) | (exfalso; simp at h; done) | skip))
    repeat refine Mm.mk ?_
    refine EndVC.mk _ rfl _ _ ⟨rfl, rfl⟩ ?_
    refine ⟨[], rfl, rfl, ?_, ?_⟩ <;> repeat' (first | exact trivial | exact rfl | exact Iff.rfl | apply And.intro)
    intro hc
    obtain ⟨j, hj1, hj2⟩ := List.getElem_of_mem hc
    exact hj j hj1 (by rw [List.getD_eq_getElem?_getD, List.getElem?_eq_getElem hj1]; exact hj2)
theorem s94 (l : List Int) (hl : l.length ≤ 1000000) (x : Int) : HSpec Try.prog 94 [.one (.lst true [.int .i64] (i64s l)), I x] [] (fun r m' => r = .x (.one (.lst false [.int .i64] (i64s (l.filter fun y => decide (y ≠ x))))) ∧ m' = []) := by
  have ll := i64s_len l
  refine spec_of pMix (O := []) Try.func94 (c := bodyOf Try.f94) rfl (by kernel_rfl) (by kernel_rfl) Try.ntmps94 (res := [.tmp 4]) (by kernel_rfl) ?_
  repeat' ((conv => whnf); first | refine Rng.g ?_ | refine Ob.g ?_ | refine Ob.e ?_ | refine Ob.m ?_ | refine Ob.mk (Nat.le_of_ble_eq_true rfl) ?_ | refine JoinVC.on ?_ | refine Nils.mk (fun h => ?_) ?_ | refine Val.t ?_ | refine Val.d ?_ | refine Mm.mk ?_ | (refine Br.mk (fun h => ?_) (fun h => ?_) <;> first | (exfalso; omega; done) | (exfalso; simp at h; done) | skip))
  refine LoopVC.mk (fun n st => ∃ (i : Nat), i ≤ l.length ∧ n = l.length - i ∧ st = ⟨0, envA 27 [(0, .x (.one (.lst true [.int .i64] (i64s l)))), (1, .x (I x)), (5, .x (.one (.own 0))), (6, .int .i64 (i : Int))], [some (rw ((l.take i).filter fun y => decide (y ≠ x)))]⟩) _ _ ⟨0, Nat.zero_le _, rfl, rfl⟩ ?_ ?_
  · refine ⟨[none], rfl, rfl, ?_, ?_⟩ <;> repeat' (first | exact trivial | exact rfl | exact Iff.rfl | apply And.intro)
  rintro n _ ⟨i, hi, hn, rfl⟩
  have g0 : rI (i64s l) (i : Int).toNat 0 = l.getD i 0 := by rw [Int.toNat_natCast, i64s_get]
  by_cases h' : i < l.length
  · have et : l.take (i + 1) = l.take i ++ [l.getD i 0] := by rw [List.take_add_one, List.getElem?_eq_getElem h', List.getD_eq_getElem?_getD, List.getElem?_eq_getElem h']; rfl
    have sn := i64s_snoc ((l.take i).filter fun y => decide (y ≠ x)) (l.getD i 0)
    have lf := i64s_len ((l.take i).filter fun y => decide (y ≠ x))
    have lf2 : ((l.take i).filter fun y => decide (y ≠ x)).length ≤ 1000000 := Nat.le_trans (List.length_filter_le _ _) (by simp; omega)
    by_cases hx : l.getD i 0 = x
    · have ef : (l.take (i + 1)).filter (fun y => decide (y ≠ x)) = (l.take i).filter fun y => decide (y ≠ x) := by
        rw [et, List.filter_append, List.filter_cons_of_neg (by rw [hx]; simp), List.filter_nil, List.append_nil]
      repeat' ((conv => whnf); first | rw [g0] | refine Rng.g ?_ | refine Ob.g ?_ | refine Ob.e ?_ | refine Ob.m ?_ | refine Ob.mk (Nat.le_of_ble_eq_true rfl) ?_ | refine JoinVC.on ?_ | refine Nils.mk (fun h => ?_) ?_ | refine Val.t ?_ | refine Val.d ?_ | refine Mm.mk ?_ | (refine Br.mk (fun h => ?_) (fun h => ?_) <;> first | (exfalso; omega; done) | (exfalso; simp at h; done) | skip))
      refine Back.mk (l.length - (i + 1)) _ (by omega) ⟨i + 1, by omega, rfl, rfl⟩ ?_
      refine ⟨[some 0], rfl, rfl, ?_, ?_⟩ <;> repeat' (first | exact trivial | exact rfl | exact Iff.rfl | apply And.intro)
      rw [ef]
    · have ef : (l.take (i + 1)).filter (fun y => decide (y ≠ x)) = ((l.take i).filter fun y => decide (y ≠ x)) ++ [l.getD i 0] := by
        rw [et, List.filter_append, List.filter_cons_of_pos (p := fun y => decide (y ≠ x)) (decide_eq_true hx), List.filter_nil]
      repeat' ((conv => whnf); first | rw [g0] | refine Rng.g ?_ | refine Ob.g ?_ | refine Ob.e ?_ | refine Ob.m ?_ | refine Ob.mk (Nat.le_of_ble_eq_true rfl) ?_ | refine JoinVC.on ?_ | refine Nils.mk (fun h => ?_) ?_ | refine Val.t ?_ | refine Val.d ?_ | refine Mm.mk ?_ | (refine Br.mk (fun h => ?_) (fun h => ?_) <;> first | (exfalso; omega; done) | (exfalso; simp at h; done) | skip))
      repeat refine Mm.mk ?_
      refine Ob.mk (by rw [eb3]; simp only [List.length_cons, List.length_nil]; omega) ?_
      repeat' ((conv => whnf); first | refine Rng.g ?_ | refine Ob.g ?_ | refine Ob.e ?_ | refine Ob.m ?_ | refine Ob.mk (Nat.le_of_ble_eq_true rfl) ?_ | refine JoinVC.on ?_ | refine Nils.mk (fun h => ?_) ?_ | refine Val.t ?_ | refine Val.d ?_ | refine Mm.mk ?_ | (refine Br.mk (fun h => ?_) (fun h => ?_) <;> first | (exfalso; omega; done) | (exfalso; simp at h; done) | skip))
      refine Back.mk (l.length - (i + 1)) _ (by omega) ⟨i + 1, by omega, rfl, rfl⟩ ?_
      refine ⟨[some 2], rfl, rfl, ?_, ?_⟩ <;> repeat' (first | exact trivial | exact rfl | exact Iff.rfl | apply And.intro)
      rw [ef]
      exact sn.symm
  · obtain rfl : i = l.length := by omega
    repeat' ((conv => whnf); first | refine Rng.g ?_ | refine Ob.g ?_ | refine Ob.e ?_ | refine Ob.m ?_ | refine Ob.mk (Nat.le_of_ble_eq_true rfl) ?_ | refine JoinVC.on ?_ | refine Nils.mk (fun h => ?_) ?_ | refine Val.t ?_ | refine Val.d ?_ | refine Mm.mk ?_ | (refine Br.mk (fun h => ?_) (fun h => ?_) <;> first | (exfalso; omega; done) | (exfalso; simp at h; done) | skip))
    rw [List.take_length]
    repeat refine Mm.mk ?_
    refine EndVC.mk _ rfl _ _ ⟨rfl, rfl⟩ ?_
    refine ⟨[], rfl, rfl, ?_, ?_⟩ <;> repeat' (first | exact trivial | exact rfl | exact Iff.rfl | apply And.intro)
theorem s75 (S : Sho) (hS : ShOK S) (i : Int) (hi : inP S i) : HSpec Try.prog 75 [.one (.ptr 0 0), I i] (rfM S) (fun r m' => r = .x (I (roomP S.r (S.p i))) ∧ m' = rfK S) := by
  have hl := plA_len S.pl
  unfold inP at hi
  have hp := hS.pl i.toNat (by omega)
  have hmo := hS.r.mo
  have hsp := hS.r.sp
  have hgr := hp.grown
  have g0 : rI (plA S.pl) i.toNat 0 = (S.p i).kd := pl_0 S.pl i.toNat
  have g5 : rI (plA S.pl) i.toNat ((0 + 1 + 1 + 1 + 1 + 1)) = (S.p i).grown := pl_5 S.pl i.toNat
  have g6 : rB (plA S.pl) i.toNat ((0 + 1 + 1 + 1 + 1 + 1 + 1)) = (S.p i).ret := pl_6 S.pl i.toNat
  have hg : 0 ≤ (S.p i).grown ∧ (S.p i).grown ≤ 16 := hgr
  obtain ⟨h1, h2⟩ : 0 ≤ (S.p i).kd ∧ (S.p i).kd ≤ 3 := hp.kd
  unfold roomP
  by_cases hret : (S.p i).ret = true
  · rw [if_pos hret]
    rw [hret] at g6
    refine spec_of pMix (O := []) Try.func75 (c := bodyOf Try.f75) rfl (by kernel_rfl) (by kernel_rfl) Try.ntmps75 (res := [.tmp 4]) (by kernel_rfl) ?_
    repeat' ((conv => whnf); first | rw [g0] | rw [g5] | rw [g6] | refine Rng.g ?_ | refine Ob.g ?_ | refine Ob.e ?_ | refine Ob.m ?_ | refine Ob.mk (Nat.le_of_ble_eq_true rfl) ?_ | refine JoinVC.on ?_ | refine Nils.mk (fun h => ?_) ?_ | refine Val.t ?_ | refine Val.d ?_ | refine Mm.mk ?_ | (refine Br.mk (fun h => ?_) (fun h => ?_) <;> first | (exfalso; omega; done) | (exfalso; simp at h; done) | skip))
    all_goals
      repeat refine Mm.mk ?_
      refine EndVC.mk _ rfl _ _ ⟨rfl, rfl⟩ ?_
      refine ⟨[some 0, some 1, some 2, some 3, some 4, some 5], rfl, rfl, ?_, ?_⟩ <;> repeat' (first | exact trivial | exact rfl | exact Iff.rfl | apply And.intro)
  · rw [if_neg hret]
    rw [show (S.p i).ret = false by simpa using hret] at g6
    unfold capP
    have hk : (S.p i).kd = 0 ∨ (S.p i).kd = 1 ∨ (S.p i).kd = 2 ∨ (S.p i).kd = 3 := by omega
    rcases hk with hk | hk | hk | hk
    all_goals
      rw [hk] at g0 ⊢
      refine spec_of pMix (O := []) Try.func75 (c := bodyOf Try.f75) rfl (by kernel_rfl) (by kernel_rfl) Try.ntmps75 (res := [.tmp 4]) (by kernel_rfl) ?_
      repeat' ((conv => whnf); first | rw [g0] | rw [g5] | rw [g6] | refine Rng.g ?_ | refine Ob.g ?_ | refine Ob.e ?_ | refine Ob.m ?_ | refine Ob.mk (Nat.le_of_ble_eq_true rfl) ?_ | refine JoinVC.on ?_ | refine Nils.mk (fun h => ?_) ?_ | refine Val.t ?_ | refine Val.d ?_ | refine Mm.mk ?_ | (refine Br.mk (fun h => ?_) (fun h => ?_) <;> first | (exfalso; omega; done) | (exfalso; simp at h; done) | skip))
      repeat refine Mm.mk ?_
      refine EndVC.mk _ rfl _ _ ⟨rfl, rfl⟩ ?_
      refine ⟨[some 0, some 1, some 2, some 3, some 4, some 5], rfl, rfl, ?_, ?_⟩ <;> repeat' (first | exact trivial | exact rfl | exact Iff.rfl | apply And.intro)
      simp
      omega
theorem s67 (x y z : Int) (h1 : 0 ≤ x ∧ x ≤ 1048576) (h2 : 0 ≤ y ∧ y ≤ 1048576) (h3 : 0 ≤ z ∧ z ≤ 1000) : PSpec Try.prog 67 [I x, I y, I z] (.x (I (x * y * z / 1000))) := by
  have e1 := mulB h1 h2
  have e2 := mulB e1 h3
  refine spec_of pMix (O := []) Try.func67 (c := bodyOf Try.f67) rfl (by kernel_rfl) (by kernel_rfl) Try.ntmps67 (res := [.tmp 6]) (by kernel_rfl) ?_
  repeat' ((conv => whnf); first | refine Rng.g ?_ | refine Ob.g ?_ | refine Ob.e ?_ | refine Ob.m ?_ | refine Ob.mk (Nat.le_of_ble_eq_true rfl) ?_ | refine JoinVC.on ?_ | refine Nils.mk (fun h => ?_) ?_ | refine Val.t ?_ | refine Val.d ?_ | refine Mm.mk ?_ | (refine Br.mk (fun h => ?_) (fun h => ?_) <;> first | (exfalso; omega; done) | (exfalso; simp at h; done) | skip))
  repeat refine Mm.mk ?_
  refine EndVC.mk _ rfl _ _ ⟨rfl, rfl⟩ ?_
  refine ⟨[], rfl, rfl, ?_, ?_⟩ <;> repeat' (first | exact trivial | exact rfl | exact Iff.rfl | apply And.intro)
end Go.Sx

namespace Go.Sx
open Go Go.Proofs
set_option maxRecDepth 10000
set_option maxHeartbeats 8000000
/-! ### Is a growth possible, and what does it lay? (the reference) -/
theorem s66 (S : Sho) (hS : ShOK S) (a : Act2) (ha : GroOK a) : HSpec Try.prog 66 [.one (.ptr 0 0), a.x] (rfM S) (fun r m' => r = .x (I (herE S a)) ∧ m' = rfK S) := by
  have c72 := s72 S a.plate
  have lt := tkA_len S.tk
  have lp := plA_len S.pl
  have hr := hS.r
  have hsoft := hr.soft
  have hhard := hr.hard
  have hs0 := ha.s0
  have hcur := ha.cur
  unfold herE
  by_cases hi : inP S a.plate
  · have hi' := hi
    unfold inP at hi'
    obtain ⟨hi1, hi2⟩ := hi'
    have hp := hS.pl a.plate.toNat (by omega)
    have har := hp.area
    have g3 := pl_3 S.pl a.plate.toNat
    have g6 := pl_6 S.pl a.plate.toNat
    have c75 := s75 S hS a.plate hi
    have e1 := mulB hsoft (show 0 ≤ (S.pl.getD a.plate.toNat p0).area ∧ (S.pl.getD a.plate.toNat p0).area ≤ 1048576 by omega)
    have e2 := mulB hhard (show 0 ≤ (S.pl.getD a.plate.toNat p0).area ∧ (S.pl.getD a.plate.toNat p0).area ≤ 1048576 by omega)
    by_cases hb : a.bath < 0 ∨ (S.tk.length : Int) ≤ a.bath
    · rw [if_pos (.inr hb)]
      refine spec_of pMix (O := [(3, ([8], [⟨0, [], []⟩, ⟨1, [], []⟩, ⟨2, [], []⟩, ⟨3, [], []⟩, ⟨4, [], []⟩, ⟨5, [], []⟩, ⟨6, [], []⟩, ⟨7, [], []⟩, ⟨8, [], []⟩, ⟨9, [], []⟩]))]) Try.func66 (c := bodyOf Try.f66) rfl (by kernel_rfl) (by kernel_rfl) Try.ntmps66 (res := [.tmp 4]) (by kernel_rfl) ?_
      repeat' ((conv => whnf); first | refine Rng.g ?_ | refine Ob.g ?_ | refine Ob.e ?_ | refine Ob.m ?_ | refine Ob.mk (Nat.le_of_ble_eq_true rfl) ?_ | refine JoinVC.on ?_ | refine Nils.mk (fun h => ?_) ?_ | refine Val.t ?_ | refine Val.d ?_ | refine Mm.mk ?_ | (refine Br.mk (fun h => ?_) (fun h => ?_) <;> first | (exfalso; omega; done) | (exfalso; simp at h; done) | skip))
      conv => whnf
      first | refine CallVC.mk [0, 1, 2, 3, 4, 5] _ _ _ rfl rfl rfl (c72) (fun r m' h' => ?_) | refine CallVC0.same [0, 1, 2, 3, 4, 5] _ _ _ rfl rfl rfl rfl (c72) (fun r m' h' => (by obtain ⟨rfl, rfl⟩ := h'; rfl)) (fun r m' h' => ?_) | (refine CallVC0.rows [0, 1, 2, 3, 4, 5] _ _ _ rfl rfl rfl ?_ (c72) (fun r m' h' => (by obtain ⟨rfl, rfl⟩ := h'; rfl)) (fun r m' h' => ?_); · (repeat' ((conv => whnf); first | exact trivial | exact rfl | exact Nat.le_refl _ | apply And.intro)))
      obtain ⟨rfl, rfl⟩ := h'
      conv => whnf
      repeat' ((conv => whnf); first | refine Rng.g ?_ | refine Ob.g ?_ | refine Ob.e ?_ | refine Ob.m ?_ | refine Ob.mk (Nat.le_of_ble_eq_true rfl) ?_ | refine JoinVC.on ?_ | refine Nils.mk (fun h => ?_) ?_ | refine Val.t ?_ | refine Val.d ?_ | refine Mm.mk ?_ | (refine Br.mk (fun h => ?_) (fun h => ?_) <;> first | (exfalso; omega; done) | (exfalso; simp at h; done) | (exfalso; simp [hi] at h; done) | skip))
      all_goals
        repeat refine Mm.mk ?_
        refine EndVC.mk _ rfl _ _ ⟨rfl, rfl⟩ ?_
        refine ⟨[some 0, some 1, some 2, some 3, some 4, some 5], rfl, rfl, ?_, ?_⟩ <;> repeat' (first | exact trivial | exact rfl | exact Iff.rfl | apply And.intro)
    · rw [if_neg (by rintro (h | h); exact h hi; exact hb h)]
      unfold Sho.p at *
      by_cases hret : (S.pl.getD a.plate.toNat p0).ret = true
      · rw [if_pos hret]
        rw [hret] at g6
        refine spec_of pMix (O := [(3, ([8], [⟨0, [], []⟩, ⟨1, [], []⟩, ⟨2, [], []⟩, ⟨3, [], []⟩, ⟨4, [], []⟩, ⟨5, [], []⟩, ⟨6, [], []⟩, ⟨7, [], []⟩, ⟨8, [], []⟩, ⟨9, [], []⟩]))]) Try.func66 (c := bodyOf Try.f66) rfl (by kernel_rfl) (by kernel_rfl) Try.ntmps66 (res := [.tmp 4]) (by kernel_rfl) ?_
        repeat' ((conv => whnf); first | refine Rng.g ?_ | refine Ob.g ?_ | refine Ob.e ?_ | refine Ob.m ?_ | refine Ob.mk (Nat.le_of_ble_eq_true rfl) ?_ | refine JoinVC.on ?_ | refine Nils.mk (fun h => ?_) ?_ | refine Val.t ?_ | refine Val.d ?_ | refine Mm.mk ?_ | (refine Br.mk (fun h => ?_) (fun h => ?_) <;> first | (exfalso; omega; done) | (exfalso; simp at h; done) | skip))
        conv => whnf
        first | refine CallVC.mk [0, 1, 2, 3, 4, 5] _ _ _ rfl rfl rfl (c72) (fun r m' h' => ?_) | refine CallVC0.same [0, 1, 2, 3, 4, 5] _ _ _ rfl rfl rfl rfl (c72) (fun r m' h' => (by obtain ⟨rfl, rfl⟩ := h'; rfl)) (fun r m' h' => ?_) | (refine CallVC0.rows [0, 1, 2, 3, 4, 5] _ _ _ rfl rfl rfl ?_ (c72) (fun r m' h' => (by obtain ⟨rfl, rfl⟩ := h'; rfl)) (fun r m' h' => ?_); · (repeat' ((conv => whnf); first | exact trivial | exact rfl | exact Nat.le_refl _ | apply And.intro)))
        obtain ⟨rfl, rfl⟩ := h'
        conv => whnf
        repeat' ((conv => whnf); first | rw [g6] | refine Rng.g ?_ | refine Ob.g ?_ | refine Ob.e ?_ | refine Ob.m ?_ | refine Ob.mk (Nat.le_of_ble_eq_true rfl) ?_ | refine JoinVC.on ?_ | refine Nils.mk (fun h => ?_) ?_ | refine Val.t ?_ | refine Val.d ?_ | refine Mm.mk ?_ | (refine Br.mk (fun h => ?_) (fun h => ?_) <;> first | (exfalso; omega; done) | (exfalso; simp at h; done) | (exfalso; simp [hi] at h; done) | skip))
        repeat refine Mm.mk ?_
        refine EndVC.mk _ rfl _ _ ⟨rfl, rfl⟩ ?_
        refine ⟨[some 0, some 1, some 2, some 3, some 4, some 5], rfl, rfl, ?_, ?_⟩ <;> repeat' (first | exact trivial | exact rfl | exact Iff.rfl | apply And.intro)
      · rw [if_neg hret]
        rw [show (S.pl.getD a.plate.toNat p0).ret = false by simpa using hret] at g6
        refine spec_of pMix (O := [(3, ([8], [⟨0, [], []⟩, ⟨1, [], []⟩, ⟨2, [], []⟩, ⟨3, [], []⟩, ⟨4, [], []⟩, ⟨5, [], []⟩, ⟨6, [], []⟩, ⟨7, [], []⟩, ⟨8, [], []⟩, ⟨9, [], []⟩]))]) Try.func66 (c := bodyOf Try.f66) rfl (by kernel_rfl) (by kernel_rfl) Try.ntmps66 (res := [.tmp 4]) (by kernel_rfl) ?_
        repeat' ((conv => whnf); first | refine Rng.g ?_ | refine Ob.g ?_ | refine Ob.e ?_ | refine Ob.m ?_ | refine Ob.mk (Nat.le_of_ble_eq_true rfl) ?_ | refine JoinVC.on ?_ | refine Nils.mk (fun h => ?_) ?_ | refine Val.t ?_ | refine Val.d ?_ | refine Mm.mk ?_ | (refine Br.mk (fun h => ?_) (fun h => ?_) <;> first | (exfalso; omega; done) | (exfalso; simp at h; done) | skip))
        conv => whnf
        first | refine CallVC.mk [0, 1, 2, 3, 4, 5] _ _ _ rfl rfl rfl (c72) (fun r m' h' => ?_) | refine CallVC0.same [0, 1, 2, 3, 4, 5] _ _ _ rfl rfl rfl rfl (c72) (fun r m' h' => (by obtain ⟨rfl, rfl⟩ := h'; rfl)) (fun r m' h' => ?_) | (refine CallVC0.rows [0, 1, 2, 3, 4, 5] _ _ _ rfl rfl rfl ?_ (c72) (fun r m' h' => (by obtain ⟨rfl, rfl⟩ := h'; rfl)) (fun r m' h' => ?_); · (repeat' ((conv => whnf); first | exact trivial | exact rfl | exact Nat.le_refl _ | apply And.intro)))
        obtain ⟨rfl, rfl⟩ := h'
        conv => whnf
        repeat' ((conv => whnf); first | rw [g6] | rw [g3] | refine Rng.g ?_ | refine Ob.g ?_ | refine Ob.e ?_ | refine Ob.m ?_ | refine Ob.mk (Nat.le_of_ble_eq_true rfl) ?_ | refine JoinVC.on ?_ | refine Nils.mk (fun h => ?_) ?_ | refine Val.t ?_ | refine Val.d ?_ | refine Mm.mk ?_ | (refine Br.mk (fun h => ?_) (fun h => ?_) <;> first | (exfalso; omega; done) | (exfalso; simp at h; done) | (exfalso; simp [hi] at h; done) | skip))
        conv => whnf
        first | refine CallVC.mk [0, 1, 2, 3, 4, 5] _ _ _ rfl rfl rfl (c75) (fun r m' h' => ?_) | refine CallVC0.same [0, 1, 2, 3, 4, 5] _ _ _ rfl rfl rfl rfl (c75) (fun r m' h' => (by obtain ⟨rfl, rfl⟩ := h'; rfl)) (fun r m' h' => ?_) | (refine CallVC0.rows [0, 1, 2, 3, 4, 5] _ _ _ rfl rfl rfl ?_ (c75) (fun r m' h' => (by obtain ⟨rfl, rfl⟩ := h'; rfl)) (fun r m' h' => ?_); · (repeat' ((conv => whnf); first | exact trivial | exact rfl | exact Nat.le_refl _ | apply And.intro)))
        obtain ⟨rfl, rfl⟩ := h'
        conv => whnf
        repeat' ((conv => whnf); first | rw [g3] | refine Rng.g ?_ | refine Ob.g ?_ | refine Ob.e ?_ | refine Ob.m ?_ | refine Ob.mk (Nat.le_of_ble_eq_true rfl) ?_ | refine JoinVC.on ?_ | refine Nils.mk (fun h => ?_) ?_ | refine Val.t ?_ | refine Val.d ?_ | refine Mm.mk ?_ | (refine Br.mk (fun h => ?_) (fun h => ?_) <;> first | (exfalso; omega; done) | (exfalso; simp at h; done) | skip))
        all_goals
          repeat refine Mm.mk ?_
          refine EndVC.mk _ rfl _ _ ⟨rfl, rfl⟩ ?_
          refine ⟨[some 0, some 1, some 2, some 3, some 4, some 5], rfl, rfl, ?_, ?_⟩ <;> repeat' (first | exact trivial | exact rfl | exact Iff.rfl | apply And.intro)
          (repeat' split) <;> first | rfl | (exfalso; omega)
  · rw [if_pos (.inl hi)]
    refine spec_of pMix (O := [(3, ([8], [⟨0, [], []⟩, ⟨1, [], []⟩, ⟨2, [], []⟩, ⟨3, [], []⟩, ⟨4, [], []⟩, ⟨5, [], []⟩, ⟨6, [], []⟩, ⟨7, [], []⟩, ⟨8, [], []⟩, ⟨9, [], []⟩]))]) Try.func66 (c := bodyOf Try.f66) rfl (by kernel_rfl) (by kernel_rfl) Try.ntmps66 (res := [.tmp 4]) (by kernel_rfl) ?_
    repeat' ((conv => whnf); first | refine Rng.g ?_ | refine Ob.g ?_ | refine Ob.e ?_ | refine Ob.m ?_ | refine Ob.mk (Nat.le_of_ble_eq_true rfl) ?_ | refine JoinVC.on ?_ | refine Nils.mk (fun h => ?_) ?_ | refine Val.t ?_ | refine Val.d ?_ | refine Mm.mk ?_ | (refine Br.mk (fun h => ?_) (fun h => ?_) <;> first | (exfalso; omega; done) | (exfalso; simp at h; done) | skip))
    conv => whnf
    first | refine CallVC.mk [0, 1, 2, 3, 4, 5] _ _ _ rfl rfl rfl (c72) (fun r m' h' => ?_) | refine CallVC0.same [0, 1, 2, 3, 4, 5] _ _ _ rfl rfl rfl rfl (c72) (fun r m' h' => (by obtain ⟨rfl, rfl⟩ := h'; rfl)) (fun r m' h' => ?_) | (refine CallVC0.rows [0, 1, 2, 3, 4, 5] _ _ _ rfl rfl rfl ?_ (c72) (fun r m' h' => (by obtain ⟨rfl, rfl⟩ := h'; rfl)) (fun r m' h' => ?_); · (repeat' ((conv => whnf); first | exact trivial | exact rfl | exact Nat.le_refl _ | apply And.intro)))
    obtain ⟨rfl, rfl⟩ := h'
    conv => whnf
    repeat' ((conv => whnf); first | refine Rng.g ?_ | refine Ob.g ?_ | refine Ob.e ?_ | refine Ob.m ?_ | refine Ob.mk (Nat.le_of_ble_eq_true rfl) ?_ | refine JoinVC.on ?_ | refine Nils.mk (fun h => ?_) ?_ | refine Val.t ?_ | refine Val.d ?_ | refine Mm.mk ?_ | (refine Br.mk (fun h => ?_) (fun h => ?_) <;> first | (exfalso; omega; done) | (exfalso; simp at h; done) | (exfalso; simp [hi] at h; done) | skip))
    repeat refine Mm.mk ?_
    refine EndVC.mk _ rfl _ _ ⟨rfl, rfl⟩ ?_
    refine ⟨[some 0, some 1, some 2, some 3, some 4, some 5], rfl, rfl, ?_, ?_⟩ <;> repeat' (first | exact trivial | exact rfl | exact Iff.rfl | apply And.intro)
def lyE (S : Sho) (a : Act2) (r : AV) : Prop := r = .tup [I (if groE S a = 0 then allM S a else 0), I (if groE S a = 0 then thkM S a else 0), I (groE S a)]
theorem lyE.err {S : Sho} {a : Act2} {e : Int} (h : groE S a = e) (h0 : e ≠ 0) : lyE S a (.tup [I 0, I 0, I e]) := by
  subst h
  unfold lyE
  rw [if_neg h0, if_neg h0]
theorem lyE.ok {S : Sho} {a : Act2} (h : groE S a = 0) {x y : Int} (hx : x = allM S a) (hy : y = thkM S a) : lyE S a (.tup [I x, I y, I 0]) := by
  subst hx hy
  unfold lyE
  rw [if_pos h, if_pos h, h]
theorem lyE.mk {S : Sho} {a : Act2} {e x y : Int} (h : groE S a = e) (h1 : e = 0 → x = allM S a ∧ y = thkM S a) (h2 : e ≠ 0 → x = 0 ∧ y = 0) : lyE S a (.tup [I x, I y, I e]) := by
  by_cases h0 : e = 0
  · obtain ⟨rfl, rfl⟩ := h1 h0
    subst h0
    exact lyE.ok h rfl rfl
  · obtain ⟨rfl, rfl⟩ := h2 h0
    exact lyE.err h h0
theorem s68 (S : Sho) (hS : ShOK S) (a : Act2) (ha : GroOK a) : HSpec Try.prog 68 [.one (.ptr 0 0), a.x] (rfM S) (fun r m' => lyE S a r ∧ m' = rfK S) := by
  have c66 := s66 S hS a ha
  by_cases h1 : herE S a = 0
  rotate_left
  · have hE : groE S a = herE S a := by unfold groE; rw [if_pos h1]
    refine spec_of pMix (O := [(4, ([16, 17], [⟨0, [], []⟩, ⟨1, [], []⟩, ⟨2, [], []⟩, ⟨3, [], []⟩, ⟨4, [], []⟩, ⟨5, [], []⟩, ⟨6, [], []⟩, ⟨7, [], []⟩, ⟨8, [], []⟩, ⟨9, [], []⟩, ⟨10, [], []⟩, ⟨11, [], []⟩, ⟨12, [], []⟩, ⟨13, [], []⟩, ⟨14, [], []⟩, ⟨15, [], []⟩, ⟨17, [], []⟩, ⟨16, [], []⟩, ⟨18, [8, 9, 10, 11, 12, 13, 14, 15], []⟩, ⟨19, [], []⟩]))]) Try.func68 (c := bodyOf Try.f68) rfl (by kernel_rfl) (by kernel_rfl) Try.ntmps68 (res := [.tmp 4, .tmp 5, .tmp 6]) (by kernel_rfl) ?_
    repeat' ((conv => whnf); first | refine Rng.g ?_ | refine Ob.g ?_ | refine Ob.e ?_ | refine Ob.m ?_ | refine Ob.mk (Nat.le_of_ble_eq_true rfl) ?_ | refine JoinVC.on ?_ | refine Nils.mk (fun h => ?_) ?_ | refine Val.t ?_ | refine Val.d ?_ | refine Mm.mk ?_ | (refine Br.mk (fun h => ?_) (fun h => ?_) <;> first | (exfalso; omega; done) | (exfalso; simp at h; done) | skip))
    conv => whnf
    first | refine CallVC.mk [0, 1, 2, 3, 4, 5] _ _ _ rfl rfl rfl (c66) (fun r m' h' => ?_) | refine CallVC0.same [0, 1, 2, 3, 4, 5] _ _ _ rfl rfl rfl rfl (c66) (fun r m' h' => (by obtain ⟨rfl, rfl⟩ := h'; rfl)) (fun r m' h' => ?_) | (refine CallVC0.rows [0, 1, 2, 3, 4, 5] _ _ _ rfl rfl rfl ?_ (c66) (fun r m' h' => (by obtain ⟨rfl, rfl⟩ := h'; rfl)) (fun r m' h' => ?_); · (repeat' ((conv => whnf); first | exact trivial | exact rfl | exact Nat.le_refl _ | apply And.intro)))
    obtain ⟨rfl, rfl⟩ := h'
    conv => whnf
    repeat' ((conv => whnf); first | refine Rng.g ?_ | refine Ob.g ?_ | refine Ob.e ?_ | refine Ob.m ?_ | refine Ob.mk (Nat.le_of_ble_eq_true rfl) ?_ | refine JoinVC.on ?_ | refine Nils.mk (fun h => ?_) ?_ | refine Val.t ?_ | refine Val.d ?_ | refine Mm.mk ?_ | (refine Br.mk (fun h => ?_) (fun h => ?_) <;> first | (exfalso; omega; done) | (exfalso; simp at h; done) | skip))
    repeat refine Mm.mk ?_
    conv => whnf
    refine EndVC.mk _ rfl _ _ (⟨lyE.err hE h1, rfl⟩) ?_
    refine ⟨[some 0, some 1, some 2, some 3, some 4, some 5], rfl, rfl, ?_, ?_⟩ <;> repeat' (first | exact trivial | exact rfl | exact Iff.rfl | apply And.intro)
  obtain ⟨hi, hb, _, _, hkd, _⟩ := herE_0 hS h1
  have hE : groE S a = layE S a := by unfold groE; rw [if_neg (by simpa using h1)]
  rw [h1] at c66
  have hB := thkB S hS a ha hi hb
  obtain ⟨hb1, hb2⟩ := hb
  unfold inP at hi
  obtain ⟨hi1, hi2⟩ := hi
  have lt := tkA_len S.tk
  have lp := plA_len S.pl
  have hp := hS.pl a.plate.toNat (by omega)
  have htk := hS.tk a.bath.toNat (by omega)
  have hyd : 1 ≤ (S.t a.bath).yd ∧ (S.t a.bath).yd ≤ 1000 := htk.2.1
  have har : 1 ≤ (S.p a.plate).area ∧ (S.p a.plate).area ≤ 1048576 := hp.area
  have g0 : rI (plA S.pl) a.plate.toNat 0 = (S.p a.plate).kd := pl_0 S.pl a.plate.toNat
  have g3 : rI (plA S.pl) a.plate.toNat ((0 + 1 + 1 + 1)) = (S.p a.plate).area := pl_3 S.pl a.plate.toNat
  have t0 : rI (tkA S.tk) a.bath.toNat 0 = (S.t a.bath).st := tk_0 S.tk a.bath.toNat
  have t1 : rI (tkA S.tk) a.bath.toNat ((0 + 1)) = (S.t a.bath).yd := tk_1 S.tk a.bath.toNat
  obtain ⟨b1, b2, b3, b4⟩ := hB
  have k0 : 0 ≤ (S.p a.plate).kd := hp.kd.1
  have c67a := s67 a.s0 a.s1 (S.t a.bath).yd ha.s0 ha.s1 ⟨by omega, hyd.2⟩
  have c67b := s67 a.cur a.sec (S.t a.bath).yd ha.cur ha.sec ⟨by omega, hyd.2⟩
  have ef : a.s0 * a.s1 * (S.t a.bath).yd / 1000 = fstM S a := rfl
  have ea : fstM S a + a.cur * a.sec * (S.t a.bath).yd / 1000 = allM S a := rfl
  have et : 1000 * allM S a / (S.p a.plate).area = thkM S a := rfl
  rw [ef] at c67a
  have c52 := s52 (thkM S a) (S.r.thin ((S.p a.plate).kd + 1)) (S.r.thk ((S.p a.plate).kd + 1))
  unfold layE at hE
  obtain ⟨lo, hlo⟩ : ∃ lo, S.r.thin ((S.p a.plate).kd + 1) = lo := ⟨_, rfl⟩
  obtain ⟨hg, hhg⟩ : ∃ hg, S.r.thk ((S.p a.plate).kd + 1) = hg := ⟨_, rfl⟩
  rw [hlo, hhg] at hE c52
  have hk3 : ((S.p a.plate).kd = 0 ∧ S.r.n1 = lo ∧ S.r.k1 = hg) ∨ ((S.p a.plate).kd = 1 ∧ S.r.n2 = lo ∧ S.r.k2 = hg) ∨ ((S.p a.plate).kd = 2 ∧ S.r.n3 = lo ∧ S.r.k3 = hg) := by
    rcases (show (S.p a.plate).kd = 0 ∨ (S.p a.plate).kd = 1 ∨ (S.p a.plate).kd = 2 by omega) with h | h | h
    · rw [h] at hlo hhg; exact .inl ⟨h, hlo, hhg⟩
    · rw [h] at hlo hhg; exact .inr (.inl ⟨h, hlo, hhg⟩)
    · rw [h] at hlo hhg; exact .inr (.inr ⟨h, hlo, hhg⟩)
  clear hlo hhg
  rcases hk3 with ⟨hk, rfl, rfl⟩ | ⟨hk, rfl, rfl⟩ | ⟨hk, rfl, rfl⟩
  all_goals
    rw [hk] at g0
    refine spec_of pMix (O := [(4, ([16, 17], [⟨0, [], []⟩, ⟨1, [], []⟩, ⟨2, [], []⟩, ⟨3, [], []⟩, ⟨4, [], []⟩, ⟨5, [], []⟩, ⟨6, [], []⟩, ⟨7, [], []⟩, ⟨8, [], []⟩, ⟨9, [], []⟩, ⟨10, [], []⟩, ⟨11, [], []⟩, ⟨12, [], []⟩, ⟨13, [], []⟩, ⟨14, [], []⟩, ⟨15, [], []⟩, ⟨17, [], []⟩, ⟨16, [], []⟩, ⟨18, [8, 9, 10, 11, 12, 13, 14, 15], []⟩, ⟨19, [], []⟩]))]) Try.func68 (c := bodyOf Try.f68) rfl (by kernel_rfl) (by kernel_rfl) Try.ntmps68 (res := [.tmp 4, .tmp 5, .tmp 6]) (by kernel_rfl) ?_
    repeat' ((conv => whnf); first | refine Rng.g ?_ | refine Ob.g ?_ | refine Ob.e ?_ | refine Ob.m ?_ | refine Ob.mk (Nat.le_of_ble_eq_true rfl) ?_ | refine JoinVC.on ?_ | refine Nils.mk (fun h => ?_) ?_ | refine Val.t ?_ | refine Val.d ?_ | refine Mm.mk ?_ | (refine Br.mk (fun h => ?_) (fun h => ?_) <;> first | (exfalso; omega; done) | (exfalso; simp at h; done) | skip))
    conv => whnf
    first | refine CallVC.mk [0, 1, 2, 3, 4, 5] _ _ _ rfl rfl rfl (c66) (fun r m' h' => ?_) | refine CallVC0.same [0, 1, 2, 3, 4, 5] _ _ _ rfl rfl rfl rfl (c66) (fun r m' h' => (by obtain ⟨rfl, rfl⟩ := h'; rfl)) (fun r m' h' => ?_) | (refine CallVC0.rows [0, 1, 2, 3, 4, 5] _ _ _ rfl rfl rfl ?_ (c66) (fun r m' h' => (by obtain ⟨rfl, rfl⟩ := h'; rfl)) (fun r m' h' => ?_); · (repeat' ((conv => whnf); first | exact trivial | exact rfl | exact Nat.le_refl _ | apply And.intro)))
    obtain ⟨rfl, rfl⟩ := h'
    conv => whnf
    repeat' ((conv => whnf); first | rw [g0] | rw [g3] | rw [t0] | rw [t1] | rw [ea] | rw [et] | refine Rng.g ?_ | refine Ob.g ?_ | refine Ob.e ?_ | refine Ob.m ?_ | refine Ob.mk (Nat.le_of_ble_eq_true rfl) ?_ | refine JoinVC.on ?_ | refine Nils.mk (fun h => ?_) ?_ | refine Val.t ?_ | refine Val.d ?_ | refine Mm.mk ?_ | refine CallVC.pure rfl (c67a) ?_ | refine CallVC.pure rfl (c67b) ?_ | refine CallVC.pure rfl (c52) ?_ | refine CallVC0.pure rfl (c67a) ?_ | refine CallVC0.pure rfl (c67b) ?_ | refine CallVC0.pure rfl (c52) ?_ | (refine Br.mk (fun h => ?_) (fun h => ?_) <;> first | (exfalso; omega; done) | (exfalso; simp at h; done) | skip))
    all_goals
      conv => whnf
      refine' EndVC.mk _ rfl (.tup [I _, I _, I _]) (rfK S) ⟨?h, rfl⟩ ?g
      case g => refine ⟨[some 0, some 1, some 2, some 3, some 4, some 5], rfl, rfl, ?_, ?_⟩ <;> repeat' (first | exact trivial | exact rfl | exact Iff.rfl | apply And.intro)
      case h =>
        refine lyE.mk ?_ ?_ ?_
        · rw [hE]; (repeat' split) <;> first | rfl | (exfalso; omega)
        · intro q; first | exact ⟨rfl, rfl⟩ | cases q
        · intro q; first | exact ⟨rfl, rfl⟩ | exact absurd rfl q
end Go.Sx

namespace Go.Sx
open Go Go.Proofs
set_option maxRecDepth 10000
set_option maxHeartbeats 8000000
/-! ### The reference's growth -/
def RAc (S : Sho) (a : Act2) (r : AV) (m' : List (Option Blk)) : Prop := r = .tup [I (if actE S a = 0 then actN S a else 0), I (actE S a)] ∧ m' = rfO (actT S a)
theorem RAc.err {S : Sho} {a : Act2} {e : Int} (he : actE S a = e) (h0 : e ≠ 0) : RAc S a (.tup [I 0, I e]) (rfO S) := by
  subst he
  exact ⟨by rw [if_neg h0], by rw [show actT S a = S from if_neg h0]⟩
theorem RAc.ok {S : Sho} {a : Act2} (he : actE S a = 0) {S' : Sho} (hS : actS S a = S') {n : Int} (hn : actN S a = n) : RAc S a (.tup [I n, I 0]) (rfO S') := by
  have h1 : actT S a = S' := (if_pos he).trans hS
  exact ⟨by rw [if_pos he, he, hn], by rw [h1]⟩
theorem be_le {S : Sho} (hS : ShOK S) (i : Nat) : (S.be.getD i []).length ≤ 64 := by
  by_cases hi : i < S.be.length
  · have hbe := hS.be i hi
    have h2 := nodup_le ((S.be.getD i []).map Int.toNat) (List.range S.fl.length) (by
      refine List.pairwise_map.2 (List.Pairwise.imp_of_mem ?_ hbe.1)
      intro a b ha hb hne hc
      have := hbe.2 a ha
      have := hbe.2 b hb
      exact hne (by omega)) (fun x hx => by
      obtain ⟨y, hy, rfl⟩ := List.mem_map.1 hx
      have := hbe.2 y hy
      exact List.mem_range.2 (by omega))
    rw [List.length_map, List.length_range] at h2
    have := hS.nf
    omega
  · rw [List.getD_eq_getElem?_getD, List.getElem?_eq_none (by omega)]
    exact Nat.zero_le _
theorem s93 (S : Sho) (hS : ShOK S) (a : Act2) (ha : GroOK a) (hk : a.kd = 3) : HSpec Try.prog 93 [.one (.ptr 0 0), a.x] (rfM S) (RAc S a) := by
  have c68 := s68 S hS a ha
  have hA : actE S a = groE S a := by unfold actE; rw [if_neg (by omega), if_neg (by omega), if_pos hk]
  by_cases h1 : groE S a = 0
  rotate_left
  · unfold lyE at c68
    rw [if_neg h1, if_neg h1] at c68
    rw [← hA] at h1
    rw [← hA] at c68
    refine spec_of pMix (O := [(4, ([8], [⟨0, [], []⟩, ⟨1, [], []⟩, ⟨2, [], []⟩, ⟨3, [], []⟩, ⟨4, [], []⟩, ⟨5, [], []⟩, ⟨6, [], []⟩, ⟨7, [], []⟩, ⟨8, [], []⟩, ⟨9, [], []⟩])), (5, ([8], [⟨0, [], []⟩, ⟨1, [], []⟩, ⟨2, [], []⟩, ⟨3, [], []⟩, ⟨4, [], []⟩, ⟨5, [], []⟩, ⟨6, [], []⟩, ⟨7, [], []⟩, ⟨8, [], []⟩, ⟨9, [], []⟩])), (10, ([], [⟨0, [], []⟩, ⟨1, [], []⟩, ⟨2, [], []⟩, ⟨3, [], []⟩, ⟨4, [], []⟩, ⟨5, [], []⟩, ⟨6, [], []⟩, ⟨7, [], []⟩, ⟨8, [], []⟩, ⟨9, [], []⟩, ⟨10, [], []⟩, ⟨11, [], []⟩, ⟨12, [], []⟩, ⟨13, [], []⟩, ⟨14, [], []⟩, ⟨15, [], [16]⟩, ⟨16, [], []⟩, ⟨17, [0], []⟩, ⟨18, [], []⟩, ⟨19, [], []⟩, ⟨20, [], []⟩])), (11, ([5], [⟨0, [], []⟩, ⟨1, [], []⟩, ⟨2, [], []⟩, ⟨3, [], []⟩, ⟨4, [], []⟩, ⟨6, [], []⟩, ⟨7, [], []⟩, ⟨8, [], []⟩, ⟨9, [], []⟩, ⟨10, [], []⟩, ⟨11, [], []⟩, ⟨12, [], []⟩, ⟨13, [], []⟩, ⟨5, [], []⟩, ⟨14, [0, 1, 2, 3, 4], [15]⟩, ⟨15, [], []⟩, ⟨16, [0], []⟩, ⟨17, [], []⟩, ⟨18, [], []⟩, ⟨19, [], []⟩]))]) Try.func93 (c := bodyOf Try.f93) rfl (by kernel_rfl) (by kernel_rfl) Try.ntmps93 (res := [.tmp 4, .tmp 5]) (by kernel_rfl) ?_
    repeat' ((conv => whnf); first | refine Rng.g ?_ | refine Ob.g ?_ | refine Ob.e ?_ | refine Ob.m ?_ | refine Ob.mk (Nat.le_of_ble_eq_true rfl) ?_ | refine JoinVC.on ?_ | refine Nils.mk (fun h => ?_) ?_ | refine Val.t ?_ | refine Val.d ?_ | refine Mm.mk ?_ | (refine Br.mk (fun h => ?_) (fun h => ?_) <;> first | (exfalso; omega; done) | (exfalso; simp at h; done) | skip))
    conv => whnf
    first | refine CallVC.mk [0, 1, 2, 3, 4, 5] _ _ _ rfl rfl rfl (c68) (fun r m' h' => ?_) | refine CallVC0.same [0, 1, 2, 3, 4, 5] _ _ _ rfl rfl rfl rfl (c68) (fun r m' h' => (by obtain ⟨rfl, rfl⟩ := h'; rfl)) (fun r m' h' => ?_) | (refine CallVC0.rows [0, 1, 2, 3, 4, 5] _ _ _ rfl rfl rfl ?_ (c68) (fun r m' h' => (by obtain ⟨rfl, rfl⟩ := h'; rfl)) (fun r m' h' => ?_); · (repeat' ((conv => whnf); first | exact trivial | exact rfl | exact Nat.le_refl _ | apply And.intro)))
    obtain ⟨rfl, rfl⟩ := h'
    conv => whnf
    repeat' ((conv => whnf); first | refine Rng.g ?_ | refine Ob.g ?_ | refine Ob.e ?_ | refine Ob.m ?_ | refine Ob.mk (Nat.le_of_ble_eq_true rfl) ?_ | refine JoinVC.on ?_ | refine Nils.mk (fun h => ?_) ?_ | refine Val.t ?_ | refine Val.d ?_ | refine Mm.mk ?_ | (refine Br.mk (fun h => ?_) (fun h => ?_) <;> first | (exfalso; omega; done) | (exfalso; simp at h; done) | skip))
    repeat refine Mm.mk ?_
    conv => whnf
    refine EndVC.mk _ rfl _ _ (RAc.err rfl h1) ?_
    refine ⟨[some 0, none, none, none, none, none, some 1, some 2, some 3, some 4, some 5], rfl, rfl, ?_, ?_⟩ <;> repeat' (first | exact trivial | exact rfl | exact Iff.rfl | apply And.intro)
  unfold lyE at c68
  rw [if_pos h1, if_pos h1, h1] at c68
  have he : actE S a = 0 := hA.trans h1
  have hh : herE S a = 0 := by
    unfold groE at h1
    split at h1
    · exact h1
    · exact Classical.byContradiction ‹_›
  have hly : layE S a = 0 := by unfold groE at h1; rwa [if_neg (by omega)] at h1
  have hst' : ¬ (S.t a.bath).st < allM S a := by
    unfold layE at hly
    split at hly
    · cases hly
    intro hc
    rw [if_pos hc] at hly
    cases hly
  obtain ⟨hi, hb, hret, h256, hkd, hcap⟩ := herE_0 hS hh
  have hB := thkB S hS a ha hi hb
  obtain ⟨b1, b2, b3, b4⟩ := hB
  obtain ⟨hb1, hb2⟩ := hb
  unfold inP at hi
  obtain ⟨hi1, hi2⟩ := hi
  have lt := tkA_len S.tk
  have lp := plA_len S.pl
  have lb := beA_len S.be
  have hnb := hS.nb
  have hp := hS.pl a.plate.toNat (by omega)
  have htk := hS.tk a.bath.toNat (by omega)
  have hkd0 : 0 ≤ (S.p a.plate).kd := hp.kd.1
  have hst : 0 ≤ (S.t a.bath).st ∧ (S.t a.bath).st ≤ 1099511627776 := htk.1
  have hld : 0 ≤ (S.t a.bath).ld ∧ (S.t a.bath).ld + (S.t a.bath).st ≤ 1099511627776 := htk.2.2.1
  have hch : 0 ≤ (S.t a.bath).ch ∧ (S.t a.bath).ch ≤ 2199023255552 * (S.ac.length : Int) := htk.2.2.2
  have hac := hS.na
  have hg1 := mulB ha.s0 ha.s1
  have hg2 := mulB ha.cur ha.sec
  have hgb : 0 ≤ (S.p a.plate).grown ∧ (S.p a.plate).grown ≤ 16 := hp.grown
  have t0 : rI (tkA S.tk) a.bath.toNat 0 = (S.t a.bath).st := tk_0 S.tk a.bath.toNat
  have t1 : rI (tkA S.tk) a.bath.toNat ((0 + 1)) = (S.t a.bath).yd := tk_1 S.tk a.bath.toNat
  have t2 : rI (tkA S.tk) a.bath.toNat ((0 + 1 + 1)) = (S.t a.bath).ch := tk_2 S.tk a.bath.toNat
  have t3 : rI (tkA S.tk) a.bath.toNat ((0 + 1 + 1 + 1)) = (S.t a.bath).ld := tk_3 S.tk a.bath.toNat
  have g0 : rI (plA S.pl) a.plate.toNat 0 = (S.p a.plate).kd := pl_0 S.pl a.plate.toNat
  have g1 : rI (plA S.pl) a.plate.toNat ((0 + 1)) = (S.p a.plate).pa := pl_1 S.pl a.plate.toNat
  have g2 : rI (plA S.pl) a.plate.toNat ((0 + 1 + 1)) = (S.p a.plate).cut := pl_2 S.pl a.plate.toNat
  have g3 : rI (plA S.pl) a.plate.toNat ((0 + 1 + 1 + 1)) = (S.p a.plate).area := pl_3 S.pl a.plate.toNat
  have g4 : rI (plA S.pl) a.plate.toNat ((0 + 1 + 1 + 1 + 1)) = (S.p a.plate).thick := pl_4 S.pl a.plate.toNat
  have g5 : rI (plA S.pl) a.plate.toNat ((0 + 1 + 1 + 1 + 1 + 1)) = (S.p a.plate).grown := pl_5 S.pl a.plate.toNat
  have gb : rA (beA S.be) a.plate.toNat 0 = i64s (S.b a.plate) := be_0 S.be a.plate.toNat
  refine spec_of pMix (O := [(4, ([8], [⟨0, [], []⟩, ⟨1, [], []⟩, ⟨2, [], []⟩, ⟨3, [], []⟩, ⟨4, [], []⟩, ⟨5, [], []⟩, ⟨6, [], []⟩, ⟨7, [], []⟩, ⟨8, [], []⟩, ⟨9, [], []⟩])), (5, ([8], [⟨0, [], []⟩, ⟨1, [], []⟩, ⟨2, [], []⟩, ⟨3, [], []⟩, ⟨4, [], []⟩, ⟨5, [], []⟩, ⟨6, [], []⟩, ⟨7, [], []⟩, ⟨8, [], []⟩, ⟨9, [], []⟩])), (10, ([], [⟨0, [], []⟩, ⟨1, [], []⟩, ⟨2, [], []⟩, ⟨3, [], []⟩, ⟨4, [], []⟩, ⟨5, [], []⟩, ⟨6, [], []⟩, ⟨7, [], []⟩, ⟨8, [], []⟩, ⟨9, [], []⟩, ⟨10, [], []⟩, ⟨11, [], []⟩, ⟨12, [], []⟩, ⟨13, [], []⟩, ⟨14, [], []⟩, ⟨15, [], [16]⟩, ⟨16, [], []⟩, ⟨17, [0], []⟩, ⟨18, [], []⟩, ⟨19, [], []⟩, ⟨20, [], []⟩])), (11, ([5], [⟨0, [], []⟩, ⟨1, [], []⟩, ⟨2, [], []⟩, ⟨3, [], []⟩, ⟨4, [], []⟩, ⟨6, [], []⟩, ⟨7, [], []⟩, ⟨8, [], []⟩, ⟨9, [], []⟩, ⟨10, [], []⟩, ⟨11, [], []⟩, ⟨12, [], []⟩, ⟨13, [], []⟩, ⟨5, [], []⟩, ⟨14, [0, 1, 2, 3, 4], [15]⟩, ⟨15, [], []⟩, ⟨16, [0], []⟩, ⟨17, [], []⟩, ⟨18, [], []⟩, ⟨19, [], []⟩]))]) Try.func93 (c := bodyOf Try.f93) rfl (by kernel_rfl) (by kernel_rfl) Try.ntmps93 (res := [.tmp 4, .tmp 5]) (by kernel_rfl) ?_
  repeat' ((conv => whnf); first | refine Rng.g ?_ | refine Ob.g ?_ | refine Ob.e ?_ | refine Ob.m ?_ | refine Ob.mk (Nat.le_of_ble_eq_true rfl) ?_ | refine JoinVC.on ?_ | refine Nils.mk (fun h => ?_) ?_ | refine Val.t ?_ | refine Val.d ?_ | refine Mm.mk ?_ | (refine Br.mk (fun h => ?_) (fun h => ?_) <;> first | (exfalso; omega; done) | (exfalso; simp at h; done) | skip))
  conv => whnf
  first | refine CallVC.mk [0, 1, 2, 3, 4, 5] _ _ _ rfl rfl rfl (c68) (fun r m' h' => ?_) | refine CallVC0.same [0, 1, 2, 3, 4, 5] _ _ _ rfl rfl rfl rfl (c68) (fun r m' h' => (by obtain ⟨rfl, rfl⟩ := h'; rfl)) (fun r m' h' => ?_) | (refine CallVC0.rows [0, 1, 2, 3, 4, 5] _ _ _ rfl rfl rfl ?_ (c68) (fun r m' h' => (by obtain ⟨rfl, rfl⟩ := h'; rfl)) (fun r m' h' => ?_); · (repeat' ((conv => whnf); first | exact trivial | exact rfl | exact Nat.le_refl _ | apply And.intro)))
  obtain ⟨rfl, rfl⟩ := h'
  conv => whnf
  repeat' ((conv => whnf); first | rw [t0] | rw [t1] | rw [t2] | rw [t3] | rw [g0] | rw [g1] | rw [g2] | rw [g3] | rw [g4] | rw [g5] | rw [gb] | rw [eb36] | rw [eb3] | rw [eb34] | refine Rng.g ?_ | refine Ob.g ?_ | refine Ob.e ?_ | refine Ob.m ?_ | refine Ob.mk (Nat.le_of_ble_eq_true rfl) ?_ | refine JoinVC.on ?_ | refine Nils.mk (fun h => ?_) ?_ | refine Val.t ?_ | refine Val.d ?_ | refine Mm.mk ?_ | (refine Br.mk (fun h => ?_) (fun h => ?_) <;> first | (exfalso; omega; done) | (exfalso; simp at h; done) | skip))
  have lbe : (i64s (S.b a.plate)).length ≤ 64 := by rw [i64s_len]; exact be_le hS _
  repeat refine Mm.mk ?_
  refine Ob.mk (by simp only [List.length_nil]; omega) ?_
  have hbl : a.bath.toNat < S.tk.length := by omega
  have u0 : updRow (tkA S.tk) a.bath.toNat 0 [.int ((S.t a.bath).st - allM S a), .int (S.t a.bath).yd, .int ((S.t a.bath).ch + (a.s0 * a.s1 + a.cur * a.sec)), .int ((S.t a.bath).ld + allM S a)] = tkA (S.tk.set a.bath.toNat (newT S a)) := A_upd tkC S.tk a.bath.toNat tk0 hbl (p := newT S a) rfl
  have hsp := plA_snoc S.pl (newP S a)
  repeat' ((conv => whnf); first | rw [u0] | refine Rng.g ?_ | refine Ob.g ?_ | refine Ob.e ?_ | refine Ob.m ?_ | refine Ob.mk (Nat.le_of_ble_eq_true rfl) ?_ | refine JoinVC.on ?_ | refine Nils.mk (fun h => ?_) ?_ | refine Val.t ?_ | refine Val.d ?_ | refine Mm.mk ?_ | (refine Br.mk (fun h => ?_) (fun h => ?_) <;> first | (exfalso; omega; done) | (exfalso; simp at h; done) | skip))
  repeat refine Mm.mk ?_
  refine Ob.mk (by rw [eb34]; simp only [List.length_cons, List.length_nil]; omega) ?_
  have hpl : a.plate.toNat < (S.pl ++ [newP S a]).length := by simp; omega
  have hG : (S.pl ++ [newP S a]).getD a.plate.toNat p0 = S.p a.plate := by rw [getD_app, if_pos (by omega)]; rfl
  have w0 : updRow (plA (S.pl ++ [newP S a])) a.plate.toNat 0 [.int (S.p a.plate).kd, .int (S.p a.plate).pa, .int (S.p a.plate).cut, .int (S.p a.plate).area, .int (S.p a.plate).thick, .int ((S.p a.plate).grown + 1), .bool (decide ((S.p a.plate).kd = 0))] = plA ((S.pl ++ [newP S a]).set a.plate.toNat (oldP (S.p a.plate))) := A_upd plC _ a.plate.toNat p0 hpl (p := oldP (S.p a.plate)) (by rw [hG]; rfl)
  have hsp' : plA S.pl ++ [[.int ((S.p a.plate).kd + 1), .int a.plate, .int (S.p a.plate).cut, .int (S.p a.plate).area, .int (thkM S a), .int 0, .bool false]] = plA (S.pl ++ [newP S a]) := hsp
  rw [← hsp'] at w0
  have lw := plA_len ((S.pl ++ [newP S a]).set a.plate.toNat (oldP (S.p a.plate)))
  rw [List.length_set, List.length_append, List.length_singleton] at lw
  repeat' ((conv => whnf); first | rw [w0] | refine Rng.g ?_ | refine Ob.g ?_ | refine Ob.e ?_ | refine Ob.m ?_ | refine Ob.mk (Nat.le_of_ble_eq_true rfl) ?_ | refine JoinVC.on ?_ | refine Nils.mk (fun h => ?_) ?_ | refine Val.t ?_ | refine Val.d ?_ | refine Mm.mk ?_ | (refine Br.mk (fun h => ?_) (fun h => ?_) <;> first | (exfalso; omega; done) | (exfalso; simp at h; done) | skip))
  have hs : actS S a = { S with pl := (S.pl ++ [newP S a]).set a.plate.toNat (oldP (S.p a.plate)), be := S.be ++ [S.b a.plate], tk := S.tk.set a.bath.toNat (newT S a) } := by unfold actS; rw [if_neg (by omega), if_neg (by omega), if_pos hk]
  have hn : actN S a = (List.length (plA ((S.pl ++ [newP S a]).set a.plate.toNat (oldP (S.p a.plate)))) : Int) - 1 := by unfold actN; rw [if_pos (.inr hk), lw]; omega
  repeat refine Mm.mk ?_
  conv => whnf
  refine EndVC.mk _ rfl _ _ (RAc.ok he hs hn) ?_
  refine ⟨[some 0, none, none, none, none, none, some 10, some 14, some 3, some 4, some 5], rfl, rfl, ?_, ?_⟩ <;> repeat' (first | exact trivial | exact rfl | exact Iff.rfl | apply And.intro)
  exact beA_snoc S.be (S.b a.plate)
end Go.Sx

namespace Go.Sx
open Go Go.Proofs
set_option maxRecDepth 10000
set_option maxHeartbeats 8000000
/-! ### The reference's acts -/
theorem s81_1 (S : Sho) (hS : ShOK S) (a : Act2) (hk : a.kd = 1) : HSpec Try.prog 81 [.one (.ptr 0 0), a.x] (rfM S) (RAc S a) := by
  have lp := plA_len S.pl
  have lb := beA_len S.be
  have hnb := hS.nb
  by_cases h : 256 ≤ S.pl.length
  · have he : actE S a = 11 := by unfold actE; rw [if_pos hk, if_pos h]
    refine spec_of pMix (O := [(5, ([], [⟨0, [], []⟩, ⟨1, [], []⟩, ⟨2, [], []⟩, ⟨3, [], []⟩, ⟨4, [], []⟩, ⟨5, [], []⟩, ⟨6, [], []⟩, ⟨7, [], []⟩, ⟨8, [], []⟩, ⟨9, [], [10]⟩, ⟨10, [], []⟩, ⟨11, [0], []⟩, ⟨12, [], []⟩, ⟨13, [], []⟩, ⟨14, [], []⟩])), (11, ([], [⟨0, [], []⟩, ⟨1, [], []⟩, ⟨2, [], []⟩, ⟨3, [], []⟩, ⟨4, [], []⟩, ⟨5, [], []⟩, ⟨6, [], []⟩, ⟨7, [], []⟩, ⟨8, [], []⟩, ⟨9, [], [10]⟩, ⟨10, [], []⟩, ⟨11, [0], []⟩, ⟨12, [], []⟩, ⟨13, [], []⟩, ⟨14, [], []⟩])), (24, ([], [⟨0, [], []⟩, ⟨1, [], []⟩, ⟨2, [], []⟩, ⟨3, [], []⟩, ⟨4, [], []⟩, ⟨5, [], []⟩, ⟨6, [], []⟩, ⟨7, [], []⟩, ⟨8, [], []⟩, ⟨9, [], [10]⟩, ⟨10, [], []⟩, ⟨11, [0], []⟩, ⟨12, [], []⟩, ⟨13, [], []⟩, ⟨14, [], []⟩])), (25, ([6], [⟨0, [], []⟩, ⟨1, [], []⟩, ⟨2, [], []⟩, ⟨3, [], []⟩, ⟨4, [], []⟩, ⟨5, [], []⟩, ⟨7, [], []⟩, ⟨8, [], []⟩, ⟨9, [], []⟩, ⟨10, [], []⟩, ⟨11, [], []⟩, ⟨12, [], []⟩, ⟨13, [], []⟩, ⟨14, [], []⟩, ⟨16, [], []⟩, ⟨17, [], []⟩, ⟨18, [], []⟩, ⟨19, [], []⟩, ⟨20, [], []⟩, ⟨21, [], [22]⟩, ⟨6, [], []⟩, ⟨15, [0, 1, 2, 3, 4, 5, 16, 17, 18, 19, 20, 21], []⟩, ⟨22, [], []⟩, ⟨23, [0, 1, 2, 3, 4, 5], []⟩, ⟨24, [], []⟩, ⟨25, [], []⟩])), (30, ([], [⟨0, [], []⟩, ⟨1, [], []⟩, ⟨2, [], []⟩, ⟨3, [], []⟩, ⟨4, [], []⟩, ⟨5, [], []⟩, ⟨6, [], []⟩, ⟨7, [], []⟩, ⟨8, [], []⟩, ⟨9, [], []⟩, ⟨10, [], []⟩, ⟨11, [], []⟩, ⟨12, [], []⟩, ⟨13, [], []⟩, ⟨14, [], []⟩, ⟨15, [], []⟩, ⟨16, [0, 1, 2, 3, 4, 5], []⟩, ⟨17, [], []⟩, ⟨18, [], []⟩]))]) Try.func81 (c := bodyOf Try.f81) rfl (by kernel_rfl) (by kernel_rfl) Try.ntmps81 (res := [.tmp 4, .tmp 5]) (by kernel_rfl) ?_
    repeat' ((conv => whnf); first | refine Rng.g ?_ | refine Ob.g ?_ | refine Ob.e ?_ | refine Ob.m ?_ | refine Ob.mk (Nat.le_of_ble_eq_true rfl) ?_ | refine JoinVC.on ?_ | refine Nils.mk (fun h => ?_) ?_ | refine Val.t ?_ | refine Val.d ?_ | refine Mm.mk ?_ | (refine Br.mk (fun h => ?_) (fun h => ?_) <;> first | (exfalso; omega; done) | (exfalso; simp at h; done) | skip))
    repeat refine Mm.mk ?_
    conv => whnf
    refine EndVC.mk _ rfl _ _ (RAc.err he (by decide)) ?_
    refine ⟨[some 0, none, none, none, none, none, some 1, some 2, some 3, some 4, some 5], rfl, rfl, ?_, ?_⟩ <;> repeat' (first | exact trivial | exact rfl | exact Iff.rfl | apply And.intro)
  · have he : actE S a = 0 := by unfold actE; rw [if_pos hk, if_neg h]
    have hs : actS S a = { S with pl := S.pl ++ [⟨0, -1, a.cut, a.area, 0, 0, false⟩], be := S.be ++ [[]] } := by unfold actS; rw [if_pos hk]
    have hsp := plA_snoc S.pl ⟨0, -1, a.cut, a.area, 0, 0, false⟩
    have hsb := beA_snoc S.be []
    have lw := plA_len (S.pl ++ [⟨0, -1, a.cut, a.area, 0, 0, false⟩])
    rw [List.length_append, List.length_singleton] at lw
    have hn : actN S a = (List.length (plA (S.pl ++ [⟨0, -1, a.cut, a.area, 0, 0, false⟩])) : Int) - 1 := by unfold actN; rw [if_pos (.inl hk), lw]; omega
    refine spec_of pMix (O := [(5, ([], [⟨0, [], []⟩, ⟨1, [], []⟩, ⟨2, [], []⟩, ⟨3, [], []⟩, ⟨4, [], []⟩, ⟨5, [], []⟩, ⟨6, [], []⟩, ⟨7, [], []⟩, ⟨8, [], []⟩, ⟨9, [], [10]⟩, ⟨10, [], []⟩, ⟨11, [0], []⟩, ⟨12, [], []⟩, ⟨13, [], []⟩, ⟨14, [], []⟩])), (11, ([], [⟨0, [], []⟩, ⟨1, [], []⟩, ⟨2, [], []⟩, ⟨3, [], []⟩, ⟨4, [], []⟩, ⟨5, [], []⟩, ⟨6, [], []⟩, ⟨7, [], []⟩, ⟨8, [], []⟩, ⟨9, [], [10]⟩, ⟨10, [], []⟩, ⟨11, [0], []⟩, ⟨12, [], []⟩, ⟨13, [], []⟩, ⟨14, [], []⟩])), (24, ([], [⟨0, [], []⟩, ⟨1, [], []⟩, ⟨2, [], []⟩, ⟨3, [], []⟩, ⟨4, [], []⟩, ⟨5, [], []⟩, ⟨6, [], []⟩, ⟨7, [], []⟩, ⟨8, [], []⟩, ⟨9, [], [10]⟩, ⟨10, [], []⟩, ⟨11, [0], []⟩, ⟨12, [], []⟩, ⟨13, [], []⟩, ⟨14, [], []⟩])), (25, ([6], [⟨0, [], []⟩, ⟨1, [], []⟩, ⟨2, [], []⟩, ⟨3, [], []⟩, ⟨4, [], []⟩, ⟨5, [], []⟩, ⟨7, [], []⟩, ⟨8, [], []⟩, ⟨9, [], []⟩, ⟨10, [], []⟩, ⟨11, [], []⟩, ⟨12, [], []⟩, ⟨13, [], []⟩, ⟨14, [], []⟩, ⟨16, [], []⟩, ⟨17, [], []⟩, ⟨18, [], []⟩, ⟨19, [], []⟩, ⟨20, [], []⟩, ⟨21, [], [22]⟩, ⟨6, [], []⟩, ⟨15, [0, 1, 2, 3, 4, 5, 16, 17, 18, 19, 20, 21], []⟩, ⟨22, [], []⟩, ⟨23, [0, 1, 2, 3, 4, 5], []⟩, ⟨24, [], []⟩, ⟨25, [], []⟩])), (30, ([], [⟨0, [], []⟩, ⟨1, [], []⟩, ⟨2, [], []⟩, ⟨3, [], []⟩, ⟨4, [], []⟩, ⟨5, [], []⟩, ⟨6, [], []⟩, ⟨7, [], []⟩, ⟨8, [], []⟩, ⟨9, [], []⟩, ⟨10, [], []⟩, ⟨11, [], []⟩, ⟨12, [], []⟩, ⟨13, [], []⟩, ⟨14, [], []⟩, ⟨15, [], []⟩, ⟨16, [0, 1, 2, 3, 4, 5], []⟩, ⟨17, [], []⟩, ⟨18, [], []⟩]))]) Try.func81 (c := bodyOf Try.f81) rfl (by kernel_rfl) (by kernel_rfl) Try.ntmps81 (res := [.tmp 4, .tmp 5]) (by kernel_rfl) ?_
    repeat' ((conv => whnf); first | refine Rng.g ?_ | refine Ob.g ?_ | refine Ob.e ?_ | refine Ob.m ?_ | refine Ob.mk (Nat.le_of_ble_eq_true rfl) ?_ | refine JoinVC.on ?_ | refine Nils.mk (fun h => ?_) ?_ | refine Val.t ?_ | refine Val.d ?_ | refine Mm.mk ?_ | (refine Br.mk (fun h => ?_) (fun h => ?_) <;> first | (exfalso; omega; done) | (exfalso; simp at h; done) | skip))
    repeat refine Mm.mk ?_
    refine Ob.mk (by rw [eb36]; simp only [List.length_cons, List.length_nil]; omega) ?_
    repeat' ((conv => whnf); first | refine Rng.g ?_ | refine Ob.g ?_ | refine Ob.e ?_ | refine Ob.m ?_ | refine Ob.mk (Nat.le_of_ble_eq_true rfl) ?_ | refine JoinVC.on ?_ | refine Nils.mk (fun h => ?_) ?_ | refine Val.t ?_ | refine Val.d ?_ | refine Mm.mk ?_ | (refine Br.mk (fun h => ?_) (fun h => ?_) <;> first | (exfalso; omega; done) | (exfalso; simp at h; done) | skip))
    repeat refine Mm.mk ?_
    refine Ob.mk (by rw [eb34]; simp only [List.length_cons, List.length_nil]; omega) ?_
    repeat' ((conv => whnf); first | rw [hsp] | refine Rng.g ?_ | refine Ob.g ?_ | refine Ob.e ?_ | refine Ob.m ?_ | refine Ob.mk (Nat.le_of_ble_eq_true rfl) ?_ | refine JoinVC.on ?_ | refine Nils.mk (fun h => ?_) ?_ | refine Val.t ?_ | refine Val.d ?_ | refine Mm.mk ?_ | (refine Br.mk (fun h => ?_) (fun h => ?_) <;> first | (exfalso; omega; done) | (exfalso; simp at h; done) | skip))
    repeat refine Mm.mk ?_
    conv => whnf
    refine EndVC.mk _ rfl _ _ (RAc.ok he hs hn) ?_
    refine ⟨[some 0, none, none, none, none, none, some 8, some 10, some 3, some 4, some 5], rfl, rfl, ?_, ?_⟩ <;> repeat' (first | exact trivial | exact rfl | exact Iff.rfl | apply And.intro)
    exact hsb
theorem s81_2 (S : Sho) (hS : ShOK S) (a : Act2) (hk : a.kd = 2) : HSpec Try.prog 81 [.one (.ptr 0 0), a.x] (rfM S) (RAc S a) := by
  have lt := tkA_len S.tk
  by_cases h : 8 ≤ S.tk.length
  · have he : actE S a = 11 := by unfold actE; rw [if_neg (by omega), if_pos hk, if_pos h]
    refine spec_of pMix (O := [(5, ([], [⟨0, [], []⟩, ⟨1, [], []⟩, ⟨2, [], []⟩, ⟨3, [], []⟩, ⟨4, [], []⟩, ⟨5, [], []⟩, ⟨6, [], []⟩, ⟨7, [], []⟩, ⟨8, [], []⟩, ⟨9, [], [10]⟩, ⟨10, [], []⟩, ⟨11, [0], []⟩, ⟨12, [], []⟩, ⟨13, [], []⟩, ⟨14, [], []⟩])), (11, ([], [⟨0, [], []⟩, ⟨1, [], []⟩, ⟨2, [], []⟩, ⟨3, [], []⟩, ⟨4, [], []⟩, ⟨5, [], []⟩, ⟨6, [], []⟩, ⟨7, [], []⟩, ⟨8, [], []⟩, ⟨9, [], [10]⟩, ⟨10, [], []⟩, ⟨11, [0], []⟩, ⟨12, [], []⟩, ⟨13, [], []⟩, ⟨14, [], []⟩])), (24, ([], [⟨0, [], []⟩, ⟨1, [], []⟩, ⟨2, [], []⟩, ⟨3, [], []⟩, ⟨4, [], []⟩, ⟨5, [], []⟩, ⟨6, [], []⟩, ⟨7, [], []⟩, ⟨8, [], []⟩, ⟨9, [], [10]⟩, ⟨10, [], []⟩, ⟨11, [0], []⟩, ⟨12, [], []⟩, ⟨13, [], []⟩, ⟨14, [], []⟩])), (25, ([6], [⟨0, [], []⟩, ⟨1, [], []⟩, ⟨2, [], []⟩, ⟨3, [], []⟩, ⟨4, [], []⟩, ⟨5, [], []⟩, ⟨7, [], []⟩, ⟨8, [], []⟩, ⟨9, [], []⟩, ⟨10, [], []⟩, ⟨11, [], []⟩, ⟨12, [], []⟩, ⟨13, [], []⟩, ⟨14, [], []⟩, ⟨16, [], []⟩, ⟨17, [], []⟩, ⟨18, [], []⟩, ⟨19, [], []⟩, ⟨20, [], []⟩, ⟨21, [], [22]⟩, ⟨6, [], []⟩, ⟨15, [0, 1, 2, 3, 4, 5, 16, 17, 18, 19, 20, 21], []⟩, ⟨22, [], []⟩, ⟨23, [0, 1, 2, 3, 4, 5], []⟩, ⟨24, [], []⟩, ⟨25, [], []⟩])), (30, ([], [⟨0, [], []⟩, ⟨1, [], []⟩, ⟨2, [], []⟩, ⟨3, [], []⟩, ⟨4, [], []⟩, ⟨5, [], []⟩, ⟨6, [], []⟩, ⟨7, [], []⟩, ⟨8, [], []⟩, ⟨9, [], []⟩, ⟨10, [], []⟩, ⟨11, [], []⟩, ⟨12, [], []⟩, ⟨13, [], []⟩, ⟨14, [], []⟩, ⟨15, [], []⟩, ⟨16, [0, 1, 2, 3, 4, 5], []⟩, ⟨17, [], []⟩, ⟨18, [], []⟩]))]) Try.func81 (c := bodyOf Try.f81) rfl (by kernel_rfl) (by kernel_rfl) Try.ntmps81 (res := [.tmp 4, .tmp 5]) (by kernel_rfl) ?_
    repeat' ((conv => whnf); first | refine Rng.g ?_ | refine Ob.g ?_ | refine Ob.e ?_ | refine Ob.m ?_ | refine Ob.mk (Nat.le_of_ble_eq_true rfl) ?_ | refine JoinVC.on ?_ | refine Nils.mk (fun h => ?_) ?_ | refine Val.t ?_ | refine Val.d ?_ | refine Mm.mk ?_ | (refine Br.mk (fun h => ?_) (fun h => ?_) <;> first | (exfalso; omega; done) | (exfalso; simp at h; done) | skip))
    repeat refine Mm.mk ?_
    conv => whnf
    refine EndVC.mk _ rfl _ _ (RAc.err he (by decide)) ?_
    refine ⟨[some 0, none, none, none, none, none, some 1, some 2, some 3, some 4, some 5], rfl, rfl, ?_, ?_⟩ <;> repeat' (first | exact trivial | exact rfl | exact Iff.rfl | apply And.intro)
  · have he : actE S a = 0 := by unfold actE; rw [if_neg (by omega), if_pos hk, if_neg h]
    have hs : actS S a = { S with tk := S.tk ++ [⟨a.stock, a.yd, 0, 0⟩] } := by unfold actS; rw [if_neg (by omega), if_pos hk]
    have hst := tkA_snoc S.tk ⟨a.stock, a.yd, 0, 0⟩
    have lw := tkA_len (S.tk ++ [⟨a.stock, a.yd, 0, 0⟩])
    rw [List.length_append, List.length_singleton] at lw
    have hn : actN S a = (List.length (tkA (S.tk ++ [⟨a.stock, a.yd, 0, 0⟩])) : Int) - 1 := by unfold actN; rw [if_neg (by omega), if_pos hk, lw]; omega
    refine spec_of pMix (O := [(5, ([], [⟨0, [], []⟩, ⟨1, [], []⟩, ⟨2, [], []⟩, ⟨3, [], []⟩, ⟨4, [], []⟩, ⟨5, [], []⟩, ⟨6, [], []⟩, ⟨7, [], []⟩, ⟨8, [], []⟩, ⟨9, [], [10]⟩, ⟨10, [], []⟩, ⟨11, [0], []⟩, ⟨12, [], []⟩, ⟨13, [], []⟩, ⟨14, [], []⟩])), (11, ([], [⟨0, [], []⟩, ⟨1, [], []⟩, ⟨2, [], []⟩, ⟨3, [], []⟩, ⟨4, [], []⟩, ⟨5, [], []⟩, ⟨6, [], []⟩, ⟨7, [], []⟩, ⟨8, [], []⟩, ⟨9, [], [10]⟩, ⟨10, [], []⟩, ⟨11, [0], []⟩, ⟨12, [], []⟩, ⟨13, [], []⟩, ⟨14, [], []⟩])), (24, ([], [⟨0, [], []⟩, ⟨1, [], []⟩, ⟨2, [], []⟩, ⟨3, [], []⟩, ⟨4, [], []⟩, ⟨5, [], []⟩, ⟨6, [], []⟩, ⟨7, [], []⟩, ⟨8, [], []⟩, ⟨9, [], [10]⟩, ⟨10, [], []⟩, ⟨11, [0], []⟩, ⟨12, [], []⟩, ⟨13, [], []⟩, ⟨14, [], []⟩])), (25, ([6], [⟨0, [], []⟩, ⟨1, [], []⟩, ⟨2, [], []⟩, ⟨3, [], []⟩, ⟨4, [], []⟩, ⟨5, [], []⟩, ⟨7, [], []⟩, ⟨8, [], []⟩, ⟨9, [], []⟩, ⟨10, [], []⟩, ⟨11, [], []⟩, ⟨12, [], []⟩, ⟨13, [], []⟩, ⟨14, [], []⟩, ⟨16, [], []⟩, ⟨17, [], []⟩, ⟨18, [], []⟩, ⟨19, [], []⟩, ⟨20, [], []⟩, ⟨21, [], [22]⟩, ⟨6, [], []⟩, ⟨15, [0, 1, 2, 3, 4, 5, 16, 17, 18, 19, 20, 21], []⟩, ⟨22, [], []⟩, ⟨23, [0, 1, 2, 3, 4, 5], []⟩, ⟨24, [], []⟩, ⟨25, [], []⟩])), (30, ([], [⟨0, [], []⟩, ⟨1, [], []⟩, ⟨2, [], []⟩, ⟨3, [], []⟩, ⟨4, [], []⟩, ⟨5, [], []⟩, ⟨6, [], []⟩, ⟨7, [], []⟩, ⟨8, [], []⟩, ⟨9, [], []⟩, ⟨10, [], []⟩, ⟨11, [], []⟩, ⟨12, [], []⟩, ⟨13, [], []⟩, ⟨14, [], []⟩, ⟨15, [], []⟩, ⟨16, [0, 1, 2, 3, 4, 5], []⟩, ⟨17, [], []⟩, ⟨18, [], []⟩]))]) Try.func81 (c := bodyOf Try.f81) rfl (by kernel_rfl) (by kernel_rfl) Try.ntmps81 (res := [.tmp 4, .tmp 5]) (by kernel_rfl) ?_
    repeat' ((conv => whnf); first | refine Rng.g ?_ | refine Ob.g ?_ | refine Ob.e ?_ | refine Ob.m ?_ | refine Ob.mk (Nat.le_of_ble_eq_true rfl) ?_ | refine JoinVC.on ?_ | refine Nils.mk (fun h => ?_) ?_ | refine Val.t ?_ | refine Val.d ?_ | refine Mm.mk ?_ | (refine Br.mk (fun h => ?_) (fun h => ?_) <;> first | (exfalso; omega; done) | (exfalso; simp at h; done) | skip))
    repeat refine Mm.mk ?_
    refine Ob.mk (by rw [eb49]; simp only [List.length_cons, List.length_nil]; omega) ?_
    repeat' ((conv => whnf); first | rw [hst] | refine Rng.g ?_ | refine Ob.g ?_ | refine Ob.e ?_ | refine Ob.m ?_ | refine Ob.mk (Nat.le_of_ble_eq_true rfl) ?_ | refine JoinVC.on ?_ | refine Nils.mk (fun h => ?_) ?_ | refine Val.t ?_ | refine Val.d ?_ | refine Mm.mk ?_ | (refine Br.mk (fun h => ?_) (fun h => ?_) <;> first | (exfalso; omega; done) | (exfalso; simp at h; done) | skip))
    repeat refine Mm.mk ?_
    conv => whnf
    refine EndVC.mk _ rfl _ _ (RAc.ok he hs hn) ?_
    refine ⟨[some 0, none, none, none, none, none, some 1, some 2, some 8, some 4, some 5], rfl, rfl, ?_, ?_⟩ <;> repeat' (first | exact trivial | exact rfl | exact Iff.rfl | apply And.intro)
theorem s81_3 (S : Sho) (hS : ShOK S) (a : Act2) (ha : GroOK a) (hk : a.kd = 3) : HSpec Try.prog 81 [.one (.ptr 0 0), a.x] (rfM S) (RAc S a) := by
  have c93 := s93 S hS a ha hk
  refine spec_of pMix (O := [(5, ([], [⟨0, [], []⟩, ⟨1, [], []⟩, ⟨2, [], []⟩, ⟨3, [], []⟩, ⟨4, [], []⟩, ⟨5, [], []⟩, ⟨6, [], []⟩, ⟨7, [], []⟩, ⟨8, [], []⟩, ⟨9, [], [10]⟩, ⟨10, [], []⟩, ⟨11, [0], []⟩, ⟨12, [], []⟩, ⟨13, [], []⟩, ⟨14, [], []⟩])), (11, ([], [⟨0, [], []⟩, ⟨1, [], []⟩, ⟨2, [], []⟩, ⟨3, [], []⟩, ⟨4, [], []⟩, ⟨5, [], []⟩, ⟨6, [], []⟩, ⟨7, [], []⟩, ⟨8, [], []⟩, ⟨9, [], [10]⟩, ⟨10, [], []⟩, ⟨11, [0], []⟩, ⟨12, [], []⟩, ⟨13, [], []⟩, ⟨14, [], []⟩])), (24, ([], [⟨0, [], []⟩, ⟨1, [], []⟩, ⟨2, [], []⟩, ⟨3, [], []⟩, ⟨4, [], []⟩, ⟨5, [], []⟩, ⟨6, [], []⟩, ⟨7, [], []⟩, ⟨8, [], []⟩, ⟨9, [], [10]⟩, ⟨10, [], []⟩, ⟨11, [0], []⟩, ⟨12, [], []⟩, ⟨13, [], []⟩, ⟨14, [], []⟩])), (25, ([6], [⟨0, [], []⟩, ⟨1, [], []⟩, ⟨2, [], []⟩, ⟨3, [], []⟩, ⟨4, [], []⟩, ⟨5, [], []⟩, ⟨7, [], []⟩, ⟨8, [], []⟩, ⟨9, [], []⟩, ⟨10, [], []⟩, ⟨11, [], []⟩, ⟨12, [], []⟩, ⟨13, [], []⟩, ⟨14, [], []⟩, ⟨16, [], []⟩, ⟨17, [], []⟩, ⟨18, [], []⟩, ⟨19, [], []⟩, ⟨20, [], []⟩, ⟨21, [], [22]⟩, ⟨6, [], []⟩, ⟨15, [0, 1, 2, 3, 4, 5, 16, 17, 18, 19, 20, 21], []⟩, ⟨22, [], []⟩, ⟨23, [0, 1, 2, 3, 4, 5], []⟩, ⟨24, [], []⟩, ⟨25, [], []⟩])), (30, ([], [⟨0, [], []⟩, ⟨1, [], []⟩, ⟨2, [], []⟩, ⟨3, [], []⟩, ⟨4, [], []⟩, ⟨5, [], []⟩, ⟨6, [], []⟩, ⟨7, [], []⟩, ⟨8, [], []⟩, ⟨9, [], []⟩, ⟨10, [], []⟩, ⟨11, [], []⟩, ⟨12, [], []⟩, ⟨13, [], []⟩, ⟨14, [], []⟩, ⟨15, [], []⟩, ⟨16, [0, 1, 2, 3, 4, 5], []⟩, ⟨17, [], []⟩, ⟨18, [], []⟩]))]) Try.func81 (c := bodyOf Try.f81) rfl (by kernel_rfl) (by kernel_rfl) Try.ntmps81 (res := [.tmp 4, .tmp 5]) (by kernel_rfl) ?_
  repeat' ((conv => whnf); first | refine Rng.g ?_ | refine Ob.g ?_ | refine Ob.e ?_ | refine Ob.m ?_ | refine Ob.mk (Nat.le_of_ble_eq_true rfl) ?_ | refine JoinVC.on ?_ | refine Nils.mk (fun h => ?_) ?_ | refine Val.t ?_ | refine Val.d ?_ | refine Mm.mk ?_ | (refine Br.mk (fun h => ?_) (fun h => ?_) <;> first | (exfalso; omega; done) | (exfalso; simp at h; done) | skip))
  conv => whnf
  refine CallVC.mk [0, 1, 2, 3, 4, 5] _ _ _ rfl rfl rfl (c93) (fun r m' h' => ?_)
  obtain ⟨rfl, rfl⟩ := h'
  conv => whnf
  repeat' ((conv => whnf); first | refine Rng.g ?_ | refine Ob.g ?_ | refine Ob.e ?_ | refine Ob.m ?_ | refine Ob.mk (Nat.le_of_ble_eq_true rfl) ?_ | refine JoinVC.on ?_ | refine Nils.mk (fun h => ?_) ?_ | refine Val.t ?_ | refine Val.d ?_ | refine Mm.mk ?_ | (refine Br.mk (fun h => ?_) (fun h => ?_) <;> first | (exfalso; omega; done) | (exfalso; simp at h; done) | skip))
  repeat refine Mm.mk ?_
  conv => whnf
  refine EndVC.mk _ rfl _ _ (⟨rfl, rfl⟩) ?_
  refine ⟨[some 0, none, none, none, none, none, some 7, some 8, some 9, some 10, some 11], rfl, rfl, ?_, ?_⟩ <;> repeat' (first | exact trivial | exact rfl | exact Iff.rfl | apply And.intro)
/-- What is known of an act on a plate. -/
theorem act_in {S : Sho} {a : Act2} (hk : a.kd = 4 ∨ a.kd = 5 ∨ a.kd = 6) : actE S a = if ¬ inP S a.plate ∨ (a.kd = 5 ∧ (a.flaw < 0 ∨ (S.fl.length : Int) ≤ a.flaw)) then 5 else if (S.p a.plate).ret = true then 10 else if a.kd = 4 then (if 64 ≤ S.fl.length then 11 else 0) else if a.kd = 5 then (if a.flaw ∈ S.b a.plate then 0 else 19) else 0 := by
  unfold actE
  rw [if_neg (by omega), if_neg (by omega), if_neg (by omega)]
theorem s81_x (S : Sho) (a : Act2) (hk : a.kd = 4 ∨ a.kd = 5 ∨ a.kd = 6) (h : (¬ inP S a.plate ∨ (a.kd = 5 ∧ (a.flaw < 0 ∨ (S.fl.length : Int) ≤ a.flaw))) ∨ (S.p a.plate).ret = true) : HSpec Try.prog 81 [.one (.ptr 0 0), a.x] (rfM S) (RAc S a) := by
  have hA := act_in (S := S) hk
  have c72 := s72 S a.plate
  have lf := flA_len S.fl
  have lp := plA_len S.pl
  by_cases hi : inP S a.plate
  · by_cases hf : a.kd = 5 ∧ (a.flaw < 0 ∨ (S.fl.length : Int) ≤ a.flaw)
    · rw [if_pos (.inr hf)] at hA
      refine spec_of pMix (O := [(5, ([], [⟨0, [], []⟩, ⟨1, [], []⟩, ⟨2, [], []⟩, ⟨3, [], []⟩, ⟨4, [], []⟩, ⟨5, [], []⟩, ⟨6, [], []⟩, ⟨7, [], []⟩, ⟨8, [], []⟩, ⟨9, [], [10]⟩, ⟨10, [], []⟩, ⟨11, [0], []⟩, ⟨12, [], []⟩, ⟨13, [], []⟩, ⟨14, [], []⟩])), (11, ([], [⟨0, [], []⟩, ⟨1, [], []⟩, ⟨2, [], []⟩, ⟨3, [], []⟩, ⟨4, [], []⟩, ⟨5, [], []⟩, ⟨6, [], []⟩, ⟨7, [], []⟩, ⟨8, [], []⟩, ⟨9, [], [10]⟩, ⟨10, [], []⟩, ⟨11, [0], []⟩, ⟨12, [], []⟩, ⟨13, [], []⟩, ⟨14, [], []⟩])), (24, ([], [⟨0, [], []⟩, ⟨1, [], []⟩, ⟨2, [], []⟩, ⟨3, [], []⟩, ⟨4, [], []⟩, ⟨5, [], []⟩, ⟨6, [], []⟩, ⟨7, [], []⟩, ⟨8, [], []⟩, ⟨9, [], [10]⟩, ⟨10, [], []⟩, ⟨11, [0], []⟩, ⟨12, [], []⟩, ⟨13, [], []⟩, ⟨14, [], []⟩])), (25, ([6], [⟨0, [], []⟩, ⟨1, [], []⟩, ⟨2, [], []⟩, ⟨3, [], []⟩, ⟨4, [], []⟩, ⟨5, [], []⟩, ⟨7, [], []⟩, ⟨8, [], []⟩, ⟨9, [], []⟩, ⟨10, [], []⟩, ⟨11, [], []⟩, ⟨12, [], []⟩, ⟨13, [], []⟩, ⟨14, [], []⟩, ⟨16, [], []⟩, ⟨17, [], []⟩, ⟨18, [], []⟩, ⟨19, [], []⟩, ⟨20, [], []⟩, ⟨21, [], [22]⟩, ⟨6, [], []⟩, ⟨15, [0, 1, 2, 3, 4, 5, 16, 17, 18, 19, 20, 21], []⟩, ⟨22, [], []⟩, ⟨23, [0, 1, 2, 3, 4, 5], []⟩, ⟨24, [], []⟩, ⟨25, [], []⟩])), (30, ([], [⟨0, [], []⟩, ⟨1, [], []⟩, ⟨2, [], []⟩, ⟨3, [], []⟩, ⟨4, [], []⟩, ⟨5, [], []⟩, ⟨6, [], []⟩, ⟨7, [], []⟩, ⟨8, [], []⟩, ⟨9, [], []⟩, ⟨10, [], []⟩, ⟨11, [], []⟩, ⟨12, [], []⟩, ⟨13, [], []⟩, ⟨14, [], []⟩, ⟨15, [], []⟩, ⟨16, [0, 1, 2, 3, 4, 5], []⟩, ⟨17, [], []⟩, ⟨18, [], []⟩]))]) Try.func81 (c := bodyOf Try.f81) rfl (by kernel_rfl) (by kernel_rfl) Try.ntmps81 (res := [.tmp 4, .tmp 5]) (by kernel_rfl) ?_
      repeat' ((conv => whnf); first | refine Rng.g ?_ | refine Ob.g ?_ | refine Ob.e ?_ | refine Ob.m ?_ | refine Ob.mk (Nat.le_of_ble_eq_true rfl) ?_ | refine JoinVC.on ?_ | refine Nils.mk (fun h => ?_) ?_ | refine Val.t ?_ | refine Val.d ?_ | refine Mm.mk ?_ | (refine Br.mk (fun h => ?_) (fun h => ?_) <;> first | (exfalso; omega; done) | (exfalso; simp at h; done) | skip))
      conv => whnf
      first | refine CallVC.mk [0, 1, 2, 3, 4, 5] _ _ _ rfl rfl rfl (c72) (fun r m' h' => ?_) | refine CallVC0.same [0, 1, 2, 3, 4, 5] _ _ _ rfl rfl rfl rfl (c72) (fun r m' h' => (by obtain ⟨rfl, rfl⟩ := h'; rfl)) (fun r m' h' => ?_) | (refine CallVC0.rows [0, 1, 2, 3, 4, 5] _ _ _ rfl rfl rfl ?_ (c72) (fun r m' h' => (by obtain ⟨rfl, rfl⟩ := h'; rfl)) (fun r m' h' => ?_); · (repeat' ((conv => whnf); first | exact trivial | exact rfl | exact Nat.le_refl _ | apply And.intro)))
      obtain ⟨rfl, rfl⟩ := h'
      conv => whnf
      repeat' ((conv => whnf); first | refine Rng.g ?_ | refine Ob.g ?_ | refine Ob.e ?_ | refine Ob.m ?_ | refine Ob.mk (Nat.le_of_ble_eq_true rfl) ?_ | refine JoinVC.on ?_ | refine Nils.mk (fun h => ?_) ?_ | refine Val.t ?_ | refine Val.d ?_ | refine Mm.mk ?_ | (refine Br.mk (fun h => ?_) (fun h => ?_) <;> first | (exfalso; omega; done) | (exfalso; simp at h; done) | (exfalso; simp [hi] at h; done) | skip))
      all_goals
        repeat refine Mm.mk ?_
        conv => whnf
        refine EndVC.mk _ rfl _ _ (RAc.err hA (by decide)) ?_
        refine ⟨[some 0, none, none, none, none, none, some 1, some 2, some 3, some 4, some 5], rfl, rfl, ?_, ?_⟩ <;> repeat' (first | exact trivial | exact rfl | exact Iff.rfl | apply And.intro)
    · have hret : (S.p a.plate).ret = true := h.resolve_left (by rintro (h | h); exact h hi; exact hf h)
      rw [if_neg (by rintro (h | h); exact h hi; exact hf h), if_pos hret] at hA
      have g6 : rB (plA S.pl) a.plate.toNat ((0 + 1 + 1 + 1 + 1 + 1 + 1)) = (S.p a.plate).ret := pl_6 S.pl a.plate.toNat
      rw [hret] at g6
      unfold inP at hi
      have hi' : inP S a.plate := hi
      obtain ⟨hi1, hi2⟩ := hi
      refine spec_of pMix (O := [(5, ([], [⟨0, [], []⟩, ⟨1, [], []⟩, ⟨2, [], []⟩, ⟨3, [], []⟩, ⟨4, [], []⟩, ⟨5, [], []⟩, ⟨6, [], []⟩, ⟨7, [], []⟩, ⟨8, [], []⟩, ⟨9, [], [10]⟩, ⟨10, [], []⟩, ⟨11, [0], []⟩, ⟨12, [], []⟩, ⟨13, [], []⟩, ⟨14, [], []⟩])), (11, ([], [⟨0, [], []⟩, ⟨1, [], []⟩, ⟨2, [], []⟩, ⟨3, [], []⟩, ⟨4, [], []⟩, ⟨5, [], []⟩, ⟨6, [], []⟩, ⟨7, [], []⟩, ⟨8, [], []⟩, ⟨9, [], [10]⟩, ⟨10, [], []⟩, ⟨11, [0], []⟩, ⟨12, [], []⟩, ⟨13, [], []⟩, ⟨14, [], []⟩])), (24, ([], [⟨0, [], []⟩, ⟨1, [], []⟩, ⟨2, [], []⟩, ⟨3, [], []⟩, ⟨4, [], []⟩, ⟨5, [], []⟩, ⟨6, [], []⟩, ⟨7, [], []⟩, ⟨8, [], []⟩, ⟨9, [], [10]⟩, ⟨10, [], []⟩, ⟨11, [0], []⟩, ⟨12, [], []⟩, ⟨13, [], []⟩, ⟨14, [], []⟩])), (25, ([6], [⟨0, [], []⟩, ⟨1, [], []⟩, ⟨2, [], []⟩, ⟨3, [], []⟩, ⟨4, [], []⟩, ⟨5, [], []⟩, ⟨7, [], []⟩, ⟨8, [], []⟩, ⟨9, [], []⟩, ⟨10, [], []⟩, ⟨11, [], []⟩, ⟨12, [], []⟩, ⟨13, [], []⟩, ⟨14, [], []⟩, ⟨16, [], []⟩, ⟨17, [], []⟩, ⟨18, [], []⟩, ⟨19, [], []⟩, ⟨20, [], []⟩, ⟨21, [], [22]⟩, ⟨6, [], []⟩, ⟨15, [0, 1, 2, 3, 4, 5, 16, 17, 18, 19, 20, 21], []⟩, ⟨22, [], []⟩, ⟨23, [0, 1, 2, 3, 4, 5], []⟩, ⟨24, [], []⟩, ⟨25, [], []⟩])), (30, ([], [⟨0, [], []⟩, ⟨1, [], []⟩, ⟨2, [], []⟩, ⟨3, [], []⟩, ⟨4, [], []⟩, ⟨5, [], []⟩, ⟨6, [], []⟩, ⟨7, [], []⟩, ⟨8, [], []⟩, ⟨9, [], []⟩, ⟨10, [], []⟩, ⟨11, [], []⟩, ⟨12, [], []⟩, ⟨13, [], []⟩, ⟨14, [], []⟩, ⟨15, [], []⟩, ⟨16, [0, 1, 2, 3, 4, 5], []⟩, ⟨17, [], []⟩, ⟨18, [], []⟩]))]) Try.func81 (c := bodyOf Try.f81) rfl (by kernel_rfl) (by kernel_rfl) Try.ntmps81 (res := [.tmp 4, .tmp 5]) (by kernel_rfl) ?_
      repeat' ((conv => whnf); first | refine Rng.g ?_ | refine Ob.g ?_ | refine Ob.e ?_ | refine Ob.m ?_ | refine Ob.mk (Nat.le_of_ble_eq_true rfl) ?_ | refine JoinVC.on ?_ | refine Nils.mk (fun h => ?_) ?_ | refine Val.t ?_ | refine Val.d ?_ | refine Mm.mk ?_ | (refine Br.mk (fun h => ?_) (fun h => ?_) <;> first | (exfalso; omega; done) | (exfalso; simp at h; done) | skip))
      conv => whnf
      first | refine CallVC.mk [0, 1, 2, 3, 4, 5] _ _ _ rfl rfl rfl (c72) (fun r m' h' => ?_) | refine CallVC0.same [0, 1, 2, 3, 4, 5] _ _ _ rfl rfl rfl rfl (c72) (fun r m' h' => (by obtain ⟨rfl, rfl⟩ := h'; rfl)) (fun r m' h' => ?_) | (refine CallVC0.rows [0, 1, 2, 3, 4, 5] _ _ _ rfl rfl rfl ?_ (c72) (fun r m' h' => (by obtain ⟨rfl, rfl⟩ := h'; rfl)) (fun r m' h' => ?_); · (repeat' ((conv => whnf); first | exact trivial | exact rfl | exact Nat.le_refl _ | apply And.intro)))
      obtain ⟨rfl, rfl⟩ := h'
      conv => whnf
      repeat' ((conv => whnf); first | rw [g6] | refine Rng.g ?_ | refine Ob.g ?_ | refine Ob.e ?_ | refine Ob.m ?_ | refine Ob.mk (Nat.le_of_ble_eq_true rfl) ?_ | refine JoinVC.on ?_ | refine Nils.mk (fun h => ?_) ?_ | refine Val.t ?_ | refine Val.d ?_ | refine Mm.mk ?_ | (refine Br.mk (fun h => ?_) (fun h => ?_) <;> first | (exfalso; omega; done) | (exfalso; simp at h; done) | (exfalso; simp [hi'] at h; done) | skip))
      all_goals
        repeat refine Mm.mk ?_
        conv => whnf
        refine EndVC.mk _ rfl _ _ (RAc.err hA (by decide)) ?_
        refine ⟨[some 0, none, none, none, none, none, some 1, some 2, some 3, some 4, some 5], rfl, rfl, ?_, ?_⟩ <;> repeat' (first | exact trivial | exact rfl | exact Iff.rfl | apply And.intro)
  · rw [if_pos (.inl hi)] at hA
    refine spec_of pMix (O := [(5, ([], [⟨0, [], []⟩, ⟨1, [], []⟩, ⟨2, [], []⟩, ⟨3, [], []⟩, ⟨4, [], []⟩, ⟨5, [], []⟩, ⟨6, [], []⟩, ⟨7, [], []⟩, ⟨8, [], []⟩, ⟨9, [], [10]⟩, ⟨10, [], []⟩, ⟨11, [0], []⟩, ⟨12, [], []⟩, ⟨13, [], []⟩, ⟨14, [], []⟩])), (11, ([], [⟨0, [], []⟩, ⟨1, [], []⟩, ⟨2, [], []⟩, ⟨3, [], []⟩, ⟨4, [], []⟩, ⟨5, [], []⟩, ⟨6, [], []⟩, ⟨7, [], []⟩, ⟨8, [], []⟩, ⟨9, [], [10]⟩, ⟨10, [], []⟩, ⟨11, [0], []⟩, ⟨12, [], []⟩, ⟨13, [], []⟩, ⟨14, [], []⟩])), (24, ([], [⟨0, [], []⟩, ⟨1, [], []⟩, ⟨2, [], []⟩, ⟨3, [], []⟩, ⟨4, [], []⟩, ⟨5, [], []⟩, ⟨6, [], []⟩, ⟨7, [], []⟩, ⟨8, [], []⟩, ⟨9, [], [10]⟩, ⟨10, [], []⟩, ⟨11, [0], []⟩, ⟨12, [], []⟩, ⟨13, [], []⟩, ⟨14, [], []⟩])), (25, ([6], [⟨0, [], []⟩, ⟨1, [], []⟩, ⟨2, [], []⟩, ⟨3, [], []⟩, ⟨4, [], []⟩, ⟨5, [], []⟩, ⟨7, [], []⟩, ⟨8, [], []⟩, ⟨9, [], []⟩, ⟨10, [], []⟩, ⟨11, [], []⟩, ⟨12, [], []⟩, ⟨13, [], []⟩, ⟨14, [], []⟩, ⟨16, [], []⟩, ⟨17, [], []⟩, ⟨18, [], []⟩, ⟨19, [], []⟩, ⟨20, [], []⟩, ⟨21, [], [22]⟩, ⟨6, [], []⟩, ⟨15, [0, 1, 2, 3, 4, 5, 16, 17, 18, 19, 20, 21], []⟩, ⟨22, [], []⟩, ⟨23, [0, 1, 2, 3, 4, 5], []⟩, ⟨24, [], []⟩, ⟨25, [], []⟩])), (30, ([], [⟨0, [], []⟩, ⟨1, [], []⟩, ⟨2, [], []⟩, ⟨3, [], []⟩, ⟨4, [], []⟩, ⟨5, [], []⟩, ⟨6, [], []⟩, ⟨7, [], []⟩, ⟨8, [], []⟩, ⟨9, [], []⟩, ⟨10, [], []⟩, ⟨11, [], []⟩, ⟨12, [], []⟩, ⟨13, [], []⟩, ⟨14, [], []⟩, ⟨15, [], []⟩, ⟨16, [0, 1, 2, 3, 4, 5], []⟩, ⟨17, [], []⟩, ⟨18, [], []⟩]))]) Try.func81 (c := bodyOf Try.f81) rfl (by kernel_rfl) (by kernel_rfl) Try.ntmps81 (res := [.tmp 4, .tmp 5]) (by kernel_rfl) ?_
    repeat' ((conv => whnf); first | refine Rng.g ?_ | refine Ob.g ?_ | refine Ob.e ?_ | refine Ob.m ?_ | refine Ob.mk (Nat.le_of_ble_eq_true rfl) ?_ | refine JoinVC.on ?_ | refine Nils.mk (fun h => ?_) ?_ | refine Val.t ?_ | refine Val.d ?_ | refine Mm.mk ?_ | (refine Br.mk (fun h => ?_) (fun h => ?_) <;> first | (exfalso; omega; done) | (exfalso; simp at h; done) | skip))
    conv => whnf
    first | refine CallVC.mk [0, 1, 2, 3, 4, 5] _ _ _ rfl rfl rfl (c72) (fun r m' h' => ?_) | refine CallVC0.same [0, 1, 2, 3, 4, 5] _ _ _ rfl rfl rfl rfl (c72) (fun r m' h' => (by obtain ⟨rfl, rfl⟩ := h'; rfl)) (fun r m' h' => ?_) | (refine CallVC0.rows [0, 1, 2, 3, 4, 5] _ _ _ rfl rfl rfl ?_ (c72) (fun r m' h' => (by obtain ⟨rfl, rfl⟩ := h'; rfl)) (fun r m' h' => ?_); · (repeat' ((conv => whnf); first | exact trivial | exact rfl | exact Nat.le_refl _ | apply And.intro)))
    obtain ⟨rfl, rfl⟩ := h'
    conv => whnf
    repeat' ((conv => whnf); first | refine Rng.g ?_ | refine Ob.g ?_ | refine Ob.e ?_ | refine Ob.m ?_ | refine Ob.mk (Nat.le_of_ble_eq_true rfl) ?_ | refine JoinVC.on ?_ | refine Nils.mk (fun h => ?_) ?_ | refine Val.t ?_ | refine Val.d ?_ | refine Mm.mk ?_ | (refine Br.mk (fun h => ?_) (fun h => ?_) <;> first | (exfalso; omega; done) | (exfalso; simp at h; done) | (exfalso; simp [hi] at h; done) | skip))
    all_goals
      repeat refine Mm.mk ?_
      conv => whnf
      refine EndVC.mk _ rfl _ _ (RAc.err hA (by decide)) ?_
      refine ⟨[some 0, none, none, none, none, none, some 1, some 2, some 3, some 4, some 5], rfl, rfl, ?_, ?_⟩ <;> repeat' (first | exact trivial | exact rfl | exact Iff.rfl | apply And.intro)
theorem s81_6 (S : Sho) (a : Act2) (hk : a.kd = 6) (hi : inP S a.plate) (hret : ¬ (S.p a.plate).ret = true) : HSpec Try.prog 81 [.one (.ptr 0 0), a.x] (rfM S) (RAc S a) := by
  have hA := act_in (S := S) (a := a) (.inr (.inr hk))
  rw [if_neg (by rintro (h | h); exact h hi; omega), if_neg hret, if_neg (by omega), if_neg (by omega)] at hA
  have c72 := s72 S a.plate
  have lf := flA_len S.fl
  have lp := plA_len S.pl
  have g6 : rB (plA S.pl) a.plate.toNat ((0 + 1 + 1 + 1 + 1 + 1 + 1)) = (S.p a.plate).ret := pl_6 S.pl a.plate.toNat
  rw [show (S.p a.plate).ret = false by simpa using hret] at g6
  have hi' := hi
  unfold inP at hi
  obtain ⟨hi1, hi2⟩ := hi
  have u6 : updRow (plA S.pl) a.plate.toNat ((0 + 1 + 1 + 1 + 1 + 1 + 1)) [.bool true] = plA (S.pl.set a.plate.toNat (retP (S.p a.plate))) := A_upd plC S.pl a.plate.toNat p0 (by omega) (p := retP (S.p a.plate)) rfl
  have hs : actS S a = { S with pl := S.pl.set a.plate.toNat (retP (S.p a.plate)) } := by unfold actS; rw [if_neg (by omega), if_neg (by omega), if_neg (by omega), if_neg (by omega), if_neg (by omega)]
  have hn : actN S a = 0 := by unfold actN; rw [if_neg (by omega), if_neg (by omega), if_neg (by omega)]
  refine spec_of pMix (O := [(5, ([], [⟨0, [], []⟩, ⟨1, [], []⟩, ⟨2, [], []⟩, ⟨3, [], []⟩, ⟨4, [], []⟩, ⟨5, [], []⟩, ⟨6, [], []⟩, ⟨7, [], []⟩, ⟨8, [], []⟩, ⟨9, [], [10]⟩, ⟨10, [], []⟩, ⟨11, [0], []⟩, ⟨12, [], []⟩, ⟨13, [], []⟩, ⟨14, [], []⟩])), (11, ([], [⟨0, [], []⟩, ⟨1, [], []⟩, ⟨2, [], []⟩, ⟨3, [], []⟩, ⟨4, [], []⟩, ⟨5, [], []⟩, ⟨6, [], []⟩, ⟨7, [], []⟩, ⟨8, [], []⟩, ⟨9, [], [10]⟩, ⟨10, [], []⟩, ⟨11, [0], []⟩, ⟨12, [], []⟩, ⟨13, [], []⟩, ⟨14, [], []⟩])), (24, ([], [⟨0, [], []⟩, ⟨1, [], []⟩, ⟨2, [], []⟩, ⟨3, [], []⟩, ⟨4, [], []⟩, ⟨5, [], []⟩, ⟨6, [], []⟩, ⟨7, [], []⟩, ⟨8, [], []⟩, ⟨9, [], [10]⟩, ⟨10, [], []⟩, ⟨11, [0], []⟩, ⟨12, [], []⟩, ⟨13, [], []⟩, ⟨14, [], []⟩])), (25, ([6], [⟨0, [], []⟩, ⟨1, [], []⟩, ⟨2, [], []⟩, ⟨3, [], []⟩, ⟨4, [], []⟩, ⟨5, [], []⟩, ⟨7, [], []⟩, ⟨8, [], []⟩, ⟨9, [], []⟩, ⟨10, [], []⟩, ⟨11, [], []⟩, ⟨12, [], []⟩, ⟨13, [], []⟩, ⟨14, [], []⟩, ⟨16, [], []⟩, ⟨17, [], []⟩, ⟨18, [], []⟩, ⟨19, [], []⟩, ⟨20, [], []⟩, ⟨21, [], [22]⟩, ⟨6, [], []⟩, ⟨15, [0, 1, 2, 3, 4, 5, 16, 17, 18, 19, 20, 21], []⟩, ⟨22, [], []⟩, ⟨23, [0, 1, 2, 3, 4, 5], []⟩, ⟨24, [], []⟩, ⟨25, [], []⟩])), (30, ([], [⟨0, [], []⟩, ⟨1, [], []⟩, ⟨2, [], []⟩, ⟨3, [], []⟩, ⟨4, [], []⟩, ⟨5, [], []⟩, ⟨6, [], []⟩, ⟨7, [], []⟩, ⟨8, [], []⟩, ⟨9, [], []⟩, ⟨10, [], []⟩, ⟨11, [], []⟩, ⟨12, [], []⟩, ⟨13, [], []⟩, ⟨14, [], []⟩, ⟨15, [], []⟩, ⟨16, [0, 1, 2, 3, 4, 5], []⟩, ⟨17, [], []⟩, ⟨18, [], []⟩]))]) Try.func81 (c := bodyOf Try.f81) rfl (by kernel_rfl) (by kernel_rfl) Try.ntmps81 (res := [.tmp 4, .tmp 5]) (by kernel_rfl) ?_
  repeat' ((conv => whnf); first | refine Rng.g ?_ | refine Ob.g ?_ | refine Ob.e ?_ | refine Ob.m ?_ | refine Ob.mk (Nat.le_of_ble_eq_true rfl) ?_ | refine JoinVC.on ?_ | refine Nils.mk (fun h => ?_) ?_ | refine Val.t ?_ | refine Val.d ?_ | refine Mm.mk ?_ | (refine Br.mk (fun h => ?_) (fun h => ?_) <;> first | (exfalso; omega; done) | (exfalso; simp at h; done) | skip))
  conv => whnf
  first | refine CallVC.mk [0, 1, 2, 3, 4, 5] _ _ _ rfl rfl rfl (c72) (fun r m' h' => ?_) | refine CallVC0.same [0, 1, 2, 3, 4, 5] _ _ _ rfl rfl rfl rfl (c72) (fun r m' h' => (by obtain ⟨rfl, rfl⟩ := h'; rfl)) (fun r m' h' => ?_) | (refine CallVC0.rows [0, 1, 2, 3, 4, 5] _ _ _ rfl rfl rfl ?_ (c72) (fun r m' h' => (by obtain ⟨rfl, rfl⟩ := h'; rfl)) (fun r m' h' => ?_); · (repeat' ((conv => whnf); first | exact trivial | exact rfl | exact Nat.le_refl _ | apply And.intro)))
  obtain ⟨rfl, rfl⟩ := h'
  conv => whnf
  repeat' ((conv => whnf); first | rw [g6] | refine Rng.g ?_ | refine Ob.g ?_ | refine Ob.e ?_ | refine Ob.m ?_ | refine Ob.mk (Nat.le_of_ble_eq_true rfl) ?_ | refine JoinVC.on ?_ | refine Nils.mk (fun h => ?_) ?_ | refine Val.t ?_ | refine Val.d ?_ | refine Mm.mk ?_ | (refine Br.mk (fun h => ?_) (fun h => ?_) <;> first | (exfalso; omega; done) | (exfalso; simp at h; done) | (exfalso; simp [hi'] at h; done) | skip))
  repeat refine Mm.mk ?_
  conv => whnf
  refine EndVC.mk _ rfl _ _ (RAc.ok hA hs hn) ?_
  refine ⟨[some 0, none, none, none, none, none, some 1, some 2, some 3, some 4, some 5], rfl, rfl, ?_, ?_⟩ <;> repeat' (first | exact trivial | exact rfl | exact Iff.rfl | apply And.intro)
  exact u6
theorem s81_4 (S : Sho) (hS : ShOK S) (a : Act2) (hk : a.kd = 4) (hi : inP S a.plate) (hret : ¬ (S.p a.plate).ret = true) : HSpec Try.prog 81 [.one (.ptr 0 0), a.x] (rfM S) (RAc S a) := by
  have hA := act_in (S := S) (a := a) (.inl hk)
  rw [if_neg (by rintro (h | h); exact h hi; omega), if_neg hret, if_pos hk] at hA
  have c72 := s72 S a.plate
  have lf := flA_len S.fl
  have lp := plA_len S.pl
  have lb := beA_len S.be
  have hnb := hS.nb
  have g6 : rB (plA S.pl) a.plate.toNat ((0 + 1 + 1 + 1 + 1 + 1 + 1)) = (S.p a.plate).ret := pl_6 S.pl a.plate.toNat
  rw [show (S.p a.plate).ret = false by simpa using hret] at g6
  have gb : rA (beA S.be) a.plate.toNat 0 = i64s (S.b a.plate) := be_0 S.be a.plate.toNat
  have lbe : (i64s (S.b a.plate)).length ≤ 64 := by rw [i64s_len]; exact be_le hS _
  have hi' := hi
  unfold inP at hi
  obtain ⟨hi1, hi2⟩ := hi
  by_cases h64 : 64 ≤ S.fl.length
  · rw [if_pos h64] at hA
    refine spec_of pMix (O := [(5, ([], [⟨0, [], []⟩, ⟨1, [], []⟩, ⟨2, [], []⟩, ⟨3, [], []⟩, ⟨4, [], []⟩, ⟨5, [], []⟩, ⟨6, [], []⟩, ⟨7, [], []⟩, ⟨8, [], []⟩, ⟨9, [], [10]⟩, ⟨10, [], []⟩, ⟨11, [0], []⟩, ⟨12, [], []⟩, ⟨13, [], []⟩, ⟨14, [], []⟩])), (11, ([], [⟨0, [], []⟩, ⟨1, [], []⟩, ⟨2, [], []⟩, ⟨3, [], []⟩, ⟨4, [], []⟩, ⟨5, [], []⟩, ⟨6, [], []⟩, ⟨7, [], []⟩, ⟨8, [], []⟩, ⟨9, [], [10]⟩, ⟨10, [], []⟩, ⟨11, [0], []⟩, ⟨12, [], []⟩, ⟨13, [], []⟩, ⟨14, [], []⟩])), (24, ([], [⟨0, [], []⟩, ⟨1, [], []⟩, ⟨2, [], []⟩, ⟨3, [], []⟩, ⟨4, [], []⟩, ⟨5, [], []⟩, ⟨6, [], []⟩, ⟨7, [], []⟩, ⟨8, [], []⟩, ⟨9, [], [10]⟩, ⟨10, [], []⟩, ⟨11, [0], []⟩, ⟨12, [], []⟩, ⟨13, [], []⟩, ⟨14, [], []⟩])), (25, ([6], [⟨0, [], []⟩, ⟨1, [], []⟩, ⟨2, [], []⟩, ⟨3, [], []⟩, ⟨4, [], []⟩, ⟨5, [], []⟩, ⟨7, [], []⟩, ⟨8, [], []⟩, ⟨9, [], []⟩, ⟨10, [], []⟩, ⟨11, [], []⟩, ⟨12, [], []⟩, ⟨13, [], []⟩, ⟨14, [], []⟩, ⟨16, [], []⟩, ⟨17, [], []⟩, ⟨18, [], []⟩, ⟨19, [], []⟩, ⟨20, [], []⟩, ⟨21, [], [22]⟩, ⟨6, [], []⟩, ⟨15, [0, 1, 2, 3, 4, 5, 16, 17, 18, 19, 20, 21], []⟩, ⟨22, [], []⟩, ⟨23, [0, 1, 2, 3, 4, 5], []⟩, ⟨24, [], []⟩, ⟨25, [], []⟩])), (30, ([], [⟨0, [], []⟩, ⟨1, [], []⟩, ⟨2, [], []⟩, ⟨3, [], []⟩, ⟨4, [], []⟩, ⟨5, [], []⟩, ⟨6, [], []⟩, ⟨7, [], []⟩, ⟨8, [], []⟩, ⟨9, [], []⟩, ⟨10, [], []⟩, ⟨11, [], []⟩, ⟨12, [], []⟩, ⟨13, [], []⟩, ⟨14, [], []⟩, ⟨15, [], []⟩, ⟨16, [0, 1, 2, 3, 4, 5], []⟩, ⟨17, [], []⟩, ⟨18, [], []⟩]))]) Try.func81 (c := bodyOf Try.f81) rfl (by kernel_rfl) (by kernel_rfl) Try.ntmps81 (res := [.tmp 4, .tmp 5]) (by kernel_rfl) ?_
    repeat' ((conv => whnf); first | refine Rng.g ?_ | refine Ob.g ?_ | refine Ob.e ?_ | refine Ob.m ?_ | refine Ob.mk (Nat.le_of_ble_eq_true rfl) ?_ | refine JoinVC.on ?_ | refine Nils.mk (fun h => ?_) ?_ | refine Val.t ?_ | refine Val.d ?_ | refine Mm.mk ?_ | (refine Br.mk (fun h => ?_) (fun h => ?_) <;> first | (exfalso; omega; done) | (exfalso; simp at h; done) | skip))
    conv => whnf
    first | refine CallVC.mk [0, 1, 2, 3, 4, 5] _ _ _ rfl rfl rfl (c72) (fun r m' h' => ?_) | refine CallVC0.same [0, 1, 2, 3, 4, 5] _ _ _ rfl rfl rfl rfl (c72) (fun r m' h' => (by obtain ⟨rfl, rfl⟩ := h'; rfl)) (fun r m' h' => ?_) | (refine CallVC0.rows [0, 1, 2, 3, 4, 5] _ _ _ rfl rfl rfl ?_ (c72) (fun r m' h' => (by obtain ⟨rfl, rfl⟩ := h'; rfl)) (fun r m' h' => ?_); · (repeat' ((conv => whnf); first | exact trivial | exact rfl | exact Nat.le_refl _ | apply And.intro)))
    obtain ⟨rfl, rfl⟩ := h'
    conv => whnf
    repeat' ((conv => whnf); first | rw [g6] | refine Rng.g ?_ | refine Ob.g ?_ | refine Ob.e ?_ | refine Ob.m ?_ | refine Ob.mk (Nat.le_of_ble_eq_true rfl) ?_ | refine JoinVC.on ?_ | refine Nils.mk (fun h => ?_) ?_ | refine Val.t ?_ | refine Val.d ?_ | refine Mm.mk ?_ | (refine Br.mk (fun h => ?_) (fun h => ?_) <;> first | (exfalso; omega; done) | (exfalso; simp at h; done) | (exfalso; simp [hi'] at h; done) | skip))
    repeat refine Mm.mk ?_
    conv => whnf
    refine EndVC.mk _ rfl _ _ (RAc.err hA (by decide)) ?_
    refine ⟨[some 0, none, none, none, none, none, some 1, some 2, some 3, some 4, some 5], rfl, rfl, ?_, ?_⟩ <;> repeat' (first | exact trivial | exact rfl | exact Iff.rfl | apply And.intro)
  · rw [if_neg h64] at hA
    have hs : actS S a = { S with fl := S.fl ++ [(a.plate, a.place)], be := S.be.set a.plate.toNat (S.b a.plate ++ [(S.fl.length : Int)]) } := by unfold actS; rw [if_neg (by omega), if_neg (by omega), if_neg (by omega), if_pos hk]
    have hn : actN S a = (S.fl.length : Int) := by unfold actN; rw [if_neg (by omega), if_neg (by omega), if_pos hk]
    refine spec_of pMix (O := [(5, ([], [⟨0, [], []⟩, ⟨1, [], []⟩, ⟨2, [], []⟩, ⟨3, [], []⟩, ⟨4, [], []⟩, ⟨5, [], []⟩, ⟨6, [], []⟩, ⟨7, [], []⟩, ⟨8, [], []⟩, ⟨9, [], [10]⟩, ⟨10, [], []⟩, ⟨11, [0], []⟩, ⟨12, [], []⟩, ⟨13, [], []⟩, ⟨14, [], []⟩])), (11, ([], [⟨0, [], []⟩, ⟨1, [], []⟩, ⟨2, [], []⟩, ⟨3, [], []⟩, ⟨4, [], []⟩, ⟨5, [], []⟩, ⟨6, [], []⟩, ⟨7, [], []⟩, ⟨8, [], []⟩, ⟨9, [], [10]⟩, ⟨10, [], []⟩, ⟨11, [0], []⟩, ⟨12, [], []⟩, ⟨13, [], []⟩, ⟨14, [], []⟩])), (24, ([], [⟨0, [], []⟩, ⟨1, [], []⟩, ⟨2, [], []⟩, ⟨3, [], []⟩, ⟨4, [], []⟩, ⟨5, [], []⟩, ⟨6, [], []⟩, ⟨7, [], []⟩, ⟨8, [], []⟩, ⟨9, [], [10]⟩, ⟨10, [], []⟩, ⟨11, [0], []⟩, ⟨12, [], []⟩, ⟨13, [], []⟩, ⟨14, [], []⟩])), (25, ([6], [⟨0, [], []⟩, ⟨1, [], []⟩, ⟨2, [], []⟩, ⟨3, [], []⟩, ⟨4, [], []⟩, ⟨5, [], []⟩, ⟨7, [], []⟩, ⟨8, [], []⟩, ⟨9, [], []⟩, ⟨10, [], []⟩, ⟨11, [], []⟩, ⟨12, [], []⟩, ⟨13, [], []⟩, ⟨14, [], []⟩, ⟨16, [], []⟩, ⟨17, [], []⟩, ⟨18, [], []⟩, ⟨19, [], []⟩, ⟨20, [], []⟩, ⟨21, [], [22]⟩, ⟨6, [], []⟩, ⟨15, [0, 1, 2, 3, 4, 5, 16, 17, 18, 19, 20, 21], []⟩, ⟨22, [], []⟩, ⟨23, [0, 1, 2, 3, 4, 5], []⟩, ⟨24, [], []⟩, ⟨25, [], []⟩])), (30, ([], [⟨0, [], []⟩, ⟨1, [], []⟩, ⟨2, [], []⟩, ⟨3, [], []⟩, ⟨4, [], []⟩, ⟨5, [], []⟩, ⟨6, [], []⟩, ⟨7, [], []⟩, ⟨8, [], []⟩, ⟨9, [], []⟩, ⟨10, [], []⟩, ⟨11, [], []⟩, ⟨12, [], []⟩, ⟨13, [], []⟩, ⟨14, [], []⟩, ⟨15, [], []⟩, ⟨16, [0, 1, 2, 3, 4, 5], []⟩, ⟨17, [], []⟩, ⟨18, [], []⟩]))]) Try.func81 (c := bodyOf Try.f81) rfl (by kernel_rfl) (by kernel_rfl) Try.ntmps81 (res := [.tmp 4, .tmp 5]) (by kernel_rfl) ?_
    repeat' ((conv => whnf); first | refine Rng.g ?_ | refine Ob.g ?_ | refine Ob.e ?_ | refine Ob.m ?_ | refine Ob.mk (Nat.le_of_ble_eq_true rfl) ?_ | refine JoinVC.on ?_ | refine Nils.mk (fun h => ?_) ?_ | refine Val.t ?_ | refine Val.d ?_ | refine Mm.mk ?_ | (refine Br.mk (fun h => ?_) (fun h => ?_) <;> first | (exfalso; omega; done) | (exfalso; simp at h; done) | skip))
    conv => whnf
    first | refine CallVC.mk [0, 1, 2, 3, 4, 5] _ _ _ rfl rfl rfl (c72) (fun r m' h' => ?_) | refine CallVC0.same [0, 1, 2, 3, 4, 5] _ _ _ rfl rfl rfl rfl (c72) (fun r m' h' => (by obtain ⟨rfl, rfl⟩ := h'; rfl)) (fun r m' h' => ?_) | (refine CallVC0.rows [0, 1, 2, 3, 4, 5] _ _ _ rfl rfl rfl ?_ (c72) (fun r m' h' => (by obtain ⟨rfl, rfl⟩ := h'; rfl)) (fun r m' h' => ?_); · (repeat' ((conv => whnf); first | exact trivial | exact rfl | exact Nat.le_refl _ | apply And.intro)))
    obtain ⟨rfl, rfl⟩ := h'
    conv => whnf
    repeat' ((conv => whnf); first | rw [g6] | rw [gb] | refine Rng.g ?_ | refine Ob.g ?_ | refine Ob.e ?_ | refine Ob.m ?_ | refine Ob.mk (Nat.le_of_ble_eq_true rfl) ?_ | refine JoinVC.on ?_ | refine Nils.mk (fun h => ?_) ?_ | refine Val.t ?_ | refine Val.d ?_ | refine Mm.mk ?_ | (refine Br.mk (fun h => ?_) (fun h => ?_) <;> first | (exfalso; omega; done) | (exfalso; simp at h; done) | (exfalso; simp [hi'] at h; done) | skip))
    repeat refine Mm.mk ?_
    refine Ob.mk (by rw [eb125]; simp only [List.length_cons, List.length_nil]; omega) ?_
    have hfs := flA_snoc S.fl a.plate a.place
    have lw := flA_len (S.fl ++ [(a.plate, a.place)])
    rw [List.length_append, List.length_singleton] at lw
    repeat' ((conv => whnf); first | rw [gb] | rw [eb3] | rw [hfs] | refine Rng.g ?_ | refine Ob.g ?_ | refine Ob.e ?_ | refine Ob.m ?_ | refine Ob.mk (Nat.le_of_ble_eq_true rfl) ?_ | refine JoinVC.on ?_ | refine Nils.mk (fun h => ?_) ?_ | refine Val.t ?_ | refine Val.d ?_ | refine Mm.mk ?_ | (refine Br.mk (fun h => ?_) (fun h => ?_) <;> first | (exfalso; omega; done) | (exfalso; simp at h; done) | skip))
    have hv : (List.length (flA (S.fl ++ [(a.plate, a.place)])) : Int) - 1 = (S.fl.length : Int) := by rw [lw]; omega
    repeat refine Mm.mk ?_
    conv => whnf
    refine EndVC.mk _ rfl _ _ (RAc.ok hA hs (hn.trans hv.symm)) ?_
    refine ⟨[some 0, none, none, none, none, none, some 1, some 2, some 3, some 8, some 5], rfl, rfl, ?_, ?_⟩ <;> repeat' (first | exact trivial | exact rfl | exact Iff.rfl | apply And.intro)
    show updRow (beA S.be) a.plate.toNat 0 [.sl (i64s (S.b a.plate) ++ [[.int ((List.length (flA (S.fl ++ [(a.plate, a.place)])) : Int) - 1)]])] = _
    rw [hv, ← i64s_snoc]
    exact A_upd (fun b => [.sl (i64s b)]) S.be a.plate.toNat [] (by omega) rfl
theorem s81_5 (S : Sho) (hS : ShOK S) (a : Act2) (hk : a.kd = 5) (hi : inP S a.plate) (hf : ¬ (a.flaw < 0 ∨ (S.fl.length : Int) ≤ a.flaw)) (hret : ¬ (S.p a.plate).ret = true) : HSpec Try.prog 81 [.one (.ptr 0 0), a.x] (rfM S) (RAc S a) := by
  have hA := act_in (S := S) (a := a) (.inr (.inl hk))
  rw [if_neg (by rintro (h | h); exact h hi; exact hf h.2), if_neg hret, if_neg (by omega), if_pos hk] at hA
  have c72 := s72 S a.plate
  have lf := flA_len S.fl
  have lp := plA_len S.pl
  have lb := beA_len S.be
  have hnb := hS.nb
  have g6 : rB (plA S.pl) a.plate.toNat ((0 + 1 + 1 + 1 + 1 + 1 + 1)) = (S.p a.plate).ret := pl_6 S.pl a.plate.toNat
  rw [show (S.p a.plate).ret = false by simpa using hret] at g6
  have gb : rA (beA S.be) a.plate.toNat 0 = i64s (S.b a.plate) := be_0 S.be a.plate.toNat
  have lbe : (S.b a.plate).length ≤ 64 := be_le hS _
  have hi' := hi
  unfold inP at hi
  obtain ⟨hi1, hi2⟩ := hi
  have c73 := s73 (S.b a.plate) (by omega) a.flaw
  have c94 := s94 (S.b a.plate) (by omega) a.flaw
  have hs : actS S a = { S with be := S.be.set a.plate.toNat ((S.b a.plate).filter fun x => decide (x ≠ a.flaw)) } := by unfold actS; rw [if_neg (by omega), if_neg (by omega), if_neg (by omega), if_neg (by omega), if_pos hk]
  have hn : actN S a = 0 := by unfold actN; rw [if_neg (by omega), if_neg (by omega), if_neg (by omega)]
  by_cases hm : a.flaw ∈ S.b a.plate
  · rw [if_pos hm] at hA
    refine spec_of pMix (O := [(5, ([], [⟨0, [], []⟩, ⟨1, [], []⟩, ⟨2, [], []⟩, ⟨3, [], []⟩, ⟨4, [], []⟩, ⟨5, [], []⟩, ⟨6, [], []⟩, ⟨7, [], []⟩, ⟨8, [], []⟩, ⟨9, [], [10]⟩, ⟨10, [], []⟩, ⟨11, [0], []⟩, ⟨12, [], []⟩, ⟨13, [], []⟩, ⟨14, [], []⟩])), (11, ([], [⟨0, [], []⟩, ⟨1, [], []⟩, ⟨2, [], []⟩, ⟨3, [], []⟩, ⟨4, [], []⟩, ⟨5, [], []⟩, ⟨6, [], []⟩, ⟨7, [], []⟩, ⟨8, [], []⟩, ⟨9, [], [10]⟩, ⟨10, [], []⟩, ⟨11, [0], []⟩, ⟨12, [], []⟩, ⟨13, [], []⟩, ⟨14, [], []⟩])), (24, ([], [⟨0, [], []⟩, ⟨1, [], []⟩, ⟨2, [], []⟩, ⟨3, [], []⟩, ⟨4, [], []⟩, ⟨5, [], []⟩, ⟨6, [], []⟩, ⟨7, [], []⟩, ⟨8, [], []⟩, ⟨9, [], [10]⟩, ⟨10, [], []⟩, ⟨11, [0], []⟩, ⟨12, [], []⟩, ⟨13, [], []⟩, ⟨14, [], []⟩])), (25, ([6], [⟨0, [], []⟩, ⟨1, [], []⟩, ⟨2, [], []⟩, ⟨3, [], []⟩, ⟨4, [], []⟩, ⟨5, [], []⟩, ⟨7, [], []⟩, ⟨8, [], []⟩, ⟨9, [], []⟩, ⟨10, [], []⟩, ⟨11, [], []⟩, ⟨12, [], []⟩, ⟨13, [], []⟩, ⟨14, [], []⟩, ⟨16, [], []⟩, ⟨17, [], []⟩, ⟨18, [], []⟩, ⟨19, [], []⟩, ⟨20, [], []⟩, ⟨21, [], [22]⟩, ⟨6, [], []⟩, ⟨15, [0, 1, 2, 3, 4, 5, 16, 17, 18, 19, 20, 21], []⟩, ⟨22, [], []⟩, ⟨23, [0, 1, 2, 3, 4, 5], []⟩, ⟨24, [], []⟩, ⟨25, [], []⟩])), (30, ([], [⟨0, [], []⟩, ⟨1, [], []⟩, ⟨2, [], []⟩, ⟨3, [], []⟩, ⟨4, [], []⟩, ⟨5, [], []⟩, ⟨6, [], []⟩, ⟨7, [], []⟩, ⟨8, [], []⟩, ⟨9, [], []⟩, ⟨10, [], []⟩, ⟨11, [], []⟩, ⟨12, [], []⟩, ⟨13, [], []⟩, ⟨14, [], []⟩, ⟨15, [], []⟩, ⟨16, [0, 1, 2, 3, 4, 5], []⟩, ⟨17, [], []⟩, ⟨18, [], []⟩]))]) Try.func81 (c := bodyOf Try.f81) rfl (by kernel_rfl) (by kernel_rfl) Try.ntmps81 (res := [.tmp 4, .tmp 5]) (by kernel_rfl) ?_
    repeat' ((conv => whnf); first | refine Rng.g ?_ | refine Ob.g ?_ | refine Ob.e ?_ | refine Ob.m ?_ | refine Ob.mk (Nat.le_of_ble_eq_true rfl) ?_ | refine JoinVC.on ?_ | refine Nils.mk (fun h => ?_) ?_ | refine Val.t ?_ | refine Val.d ?_ | refine Mm.mk ?_ | (refine Br.mk (fun h => ?_) (fun h => ?_) <;> first | (exfalso; omega; done) | (exfalso; simp at h; done) | skip))
    conv => whnf
    first | refine CallVC.mk [0, 1, 2, 3, 4, 5] _ _ _ rfl rfl rfl (c72) (fun r m' h' => ?_) | refine CallVC0.same [0, 1, 2, 3, 4, 5] _ _ _ rfl rfl rfl rfl (c72) (fun r m' h' => (by obtain ⟨rfl, rfl⟩ := h'; rfl)) (fun r m' h' => ?_) | (refine CallVC0.rows [0, 1, 2, 3, 4, 5] _ _ _ rfl rfl rfl ?_ (c72) (fun r m' h' => (by obtain ⟨rfl, rfl⟩ := h'; rfl)) (fun r m' h' => ?_); · (repeat' ((conv => whnf); first | exact trivial | exact rfl | exact Nat.le_refl _ | apply And.intro)))
    obtain ⟨rfl, rfl⟩ := h'
    conv => whnf
    repeat' ((conv => whnf); first | rw [g6] | rw [gb] | refine Rng.g ?_ | refine Ob.g ?_ | refine Ob.e ?_ | refine Ob.m ?_ | refine Ob.mk (Nat.le_of_ble_eq_true rfl) ?_ | refine JoinVC.on ?_ | refine Nils.mk (fun h => ?_) ?_ | refine Val.t ?_ | refine Val.d ?_ | refine Mm.mk ?_ | refine CallVC.pure rfl (c73) ?_ | refine CallVC0.pure rfl (c73) ?_ | (refine Br.mk (fun h => ?_) (fun h => ?_) <;> first | (exfalso; omega; done) | (exfalso; simp at h; done) | (exfalso; simp [hi'] at h; done) | (exfalso; simp [hm] at h; done) | skip))
    conv => whnf
    refine CallVC0.mk _ _ rfl (c94) (fun r m' h' => ?_)
    obtain ⟨rfl, rfl⟩ := h'
    conv => whnf
    repeat' ((conv => whnf); first | refine Rng.g ?_ | refine Ob.g ?_ | refine Ob.e ?_ | refine Ob.m ?_ | refine Ob.mk (Nat.le_of_ble_eq_true rfl) ?_ | refine JoinVC.on ?_ | refine Nils.mk (fun h => ?_) ?_ | refine Val.t ?_ | refine Val.d ?_ | refine Mm.mk ?_ | (refine Br.mk (fun h => ?_) (fun h => ?_) <;> first | (exfalso; omega; done) | (exfalso; simp at h; done) | skip))
    repeat refine Mm.mk ?_
    conv => whnf
    refine EndVC.mk _ rfl _ _ (RAc.ok hA hs hn) ?_
    refine ⟨[some 0, none, none, none, none, none, some 1, some 2, some 3, some 4, some 5], rfl, rfl, ?_, ?_⟩ <;> repeat' (first | exact trivial | exact rfl | exact Iff.rfl | apply And.intro)
    exact A_upd (fun b => [.sl (i64s b)]) S.be a.plate.toNat [] (by omega) rfl
  · rw [if_neg hm] at hA
    refine spec_of pMix (O := [(5, ([], [⟨0, [], []⟩, ⟨1, [], []⟩, ⟨2, [], []⟩, ⟨3, [], []⟩, ⟨4, [], []⟩, ⟨5, [], []⟩, ⟨6, [], []⟩, ⟨7, [], []⟩, ⟨8, [], []⟩, ⟨9, [], [10]⟩, ⟨10, [], []⟩, ⟨11, [0], []⟩, ⟨12, [], []⟩, ⟨13, [], []⟩, ⟨14, [], []⟩])), (11, ([], [⟨0, [], []⟩, ⟨1, [], []⟩, ⟨2, [], []⟩, ⟨3, [], []⟩, ⟨4, [], []⟩, ⟨5, [], []⟩, ⟨6, [], []⟩, ⟨7, [], []⟩, ⟨8, [], []⟩, ⟨9, [], [10]⟩, ⟨10, [], []⟩, ⟨11, [0], []⟩, ⟨12, [], []⟩, ⟨13, [], []⟩, ⟨14, [], []⟩])), (24, ([], [⟨0, [], []⟩, ⟨1, [], []⟩, ⟨2, [], []⟩, ⟨3, [], []⟩, ⟨4, [], []⟩, ⟨5, [], []⟩, ⟨6, [], []⟩, ⟨7, [], []⟩, ⟨8, [], []⟩, ⟨9, [], [10]⟩, ⟨10, [], []⟩, ⟨11, [0], []⟩, ⟨12, [], []⟩, ⟨13, [], []⟩, ⟨14, [], []⟩])), (25, ([6], [⟨0, [], []⟩, ⟨1, [], []⟩, ⟨2, [], []⟩, ⟨3, [], []⟩, ⟨4, [], []⟩, ⟨5, [], []⟩, ⟨7, [], []⟩, ⟨8, [], []⟩, ⟨9, [], []⟩, ⟨10, [], []⟩, ⟨11, [], []⟩, ⟨12, [], []⟩, ⟨13, [], []⟩, ⟨14, [], []⟩, ⟨16, [], []⟩, ⟨17, [], []⟩, ⟨18, [], []⟩, ⟨19, [], []⟩, ⟨20, [], []⟩, ⟨21, [], [22]⟩, ⟨6, [], []⟩, ⟨15, [0, 1, 2, 3, 4, 5, 16, 17, 18, 19, 20, 21], []⟩, ⟨22, [], []⟩, ⟨23, [0, 1, 2, 3, 4, 5], []⟩, ⟨24, [], []⟩, ⟨25, [], []⟩])), (30, ([], [⟨0, [], []⟩, ⟨1, [], []⟩, ⟨2, [], []⟩, ⟨3, [], []⟩, ⟨4, [], []⟩, ⟨5, [], []⟩, ⟨6, [], []⟩, ⟨7, [], []⟩, ⟨8, [], []⟩, ⟨9, [], []⟩, ⟨10, [], []⟩, ⟨11, [], []⟩, ⟨12, [], []⟩, ⟨13, [], []⟩, ⟨14, [], []⟩, ⟨15, [], []⟩, ⟨16, [0, 1, 2, 3, 4, 5], []⟩, ⟨17, [], []⟩, ⟨18, [], []⟩]))]) Try.func81 (c := bodyOf Try.f81) rfl (by kernel_rfl) (by kernel_rfl) Try.ntmps81 (res := [.tmp 4, .tmp 5]) (by kernel_rfl) ?_
    repeat' ((conv => whnf); first | refine Rng.g ?_ | refine Ob.g ?_ | refine Ob.e ?_ | refine Ob.m ?_ | refine Ob.mk (Nat.le_of_ble_eq_true rfl) ?_ | refine JoinVC.on ?_ | refine Nils.mk (fun h => ?_) ?_ | refine Val.t ?_ | refine Val.d ?_ | refine Mm.mk ?_ | (refine Br.mk (fun h => ?_) (fun h => ?_) <;> first | (exfalso; omega; done) | (exfalso; simp at h; done) | skip))
    conv => whnf
    first | refine CallVC.mk [0, 1, 2, 3, 4, 5] _ _ _ rfl rfl rfl (c72) (fun r m' h' => ?_) | refine CallVC0.same [0, 1, 2, 3, 4, 5] _ _ _ rfl rfl rfl rfl (c72) (fun r m' h' => (by obtain ⟨rfl, rfl⟩ := h'; rfl)) (fun r m' h' => ?_) | (refine CallVC0.rows [0, 1, 2, 3, 4, 5] _ _ _ rfl rfl rfl ?_ (c72) (fun r m' h' => (by obtain ⟨rfl, rfl⟩ := h'; rfl)) (fun r m' h' => ?_); · (repeat' ((conv => whnf); first | exact trivial | exact rfl | exact Nat.le_refl _ | apply And.intro)))
    obtain ⟨rfl, rfl⟩ := h'
    conv => whnf
    repeat' ((conv => whnf); first | rw [g6] | rw [gb] | refine Rng.g ?_ | refine Ob.g ?_ | refine Ob.e ?_ | refine Ob.m ?_ | refine Ob.mk (Nat.le_of_ble_eq_true rfl) ?_ | refine JoinVC.on ?_ | refine Nils.mk (fun h => ?_) ?_ | refine Val.t ?_ | refine Val.d ?_ | refine Mm.mk ?_ | refine CallVC.pure rfl (c73) ?_ | refine CallVC0.pure rfl (c73) ?_ | (refine Br.mk (fun h => ?_) (fun h => ?_) <;> first | (exfalso; omega; done) | (exfalso; simp at h; done) | (exfalso; simp [hi'] at h; done) | (exfalso; simp [hm] at h; done) | skip))
    repeat refine Mm.mk ?_
    conv => whnf
    refine EndVC.mk _ rfl _ _ (RAc.err hA (by decide)) ?_
    refine ⟨[some 0, none, none, none, none, none, some 1, some 2, some 3, some 4, some 5], rfl, rfl, ?_, ?_⟩ <;> repeat' (first | exact trivial | exact rfl | exact Iff.rfl | apply And.intro)
theorem s81 (S : Sho) (hS : ShOK S) (a : Act2) (ha : ActOK a) : HSpec Try.prog 81 [.one (.ptr 0 0), a.x] (rfM S) (RAc S a) := by
  have hk := ha.kd
  rcases (show a.kd = 1 ∨ a.kd = 2 ∨ a.kd = 3 ∨ a.kd = 4 ∨ a.kd = 5 ∨ a.kd = 6 by omega) with h | h | h | h
  · exact s81_1 S hS a h
  · exact s81_2 S hS a h
  · exact s81_3 S hS a (ha.gro h) h
  by_cases hx : (¬ inP S a.plate ∨ (a.kd = 5 ∧ (a.flaw < 0 ∨ (S.fl.length : Int) ≤ a.flaw))) ∨ (S.p a.plate).ret = true
  · exact s81_x S a h hx
  have hi : inP S a.plate := Classical.byContradiction fun hc => hx (.inl (.inl hc))
  have hret : ¬ (S.p a.plate).ret = true := fun hc => hx (.inr hc)
  rcases h with h | h | h
  · exact s81_4 S hS a h hi hret
  · exact s81_5 S hS a h hi (fun hc => hx (.inl (.inr ⟨h, hc⟩))) hret
  · exact s81_6 S a h hi hret
end Go.Sx

namespace Go.Proofs
open Go.Shelf
end Go.Proofs
namespace Go.Sx
open Go Go.Proofs
set_option maxRecDepth 10000
set_option maxHeartbeats 8000000
/-! ### The library's sort, over a row -/
@[reducible] def srt (l : List Int) : List Int := l.mergeSort fun x y => decide (x ≤ y)
@[reducible] def rowI (l : List Int) : Blk := .row 3 false [.int .i64] (i64s l)
end Go.Sx

namespace Go.Sx
open Go Go.Proofs
set_option maxRecDepth 10000
set_option maxHeartbeats 8000000
/-! ### Flaws -/
theorem srt_perm (l : List Int) : (srt l).Perm l := List.mergeSort_perm _ _
theorem srt_pw (l : List Int) : (srt l).Pairwise (fun x y => x ≤ y) := by
  have := List.pairwise_mergeSort (le := fun x y : Int => decide (x ≤ y)) (fun a b c h1 h2 => by simp at *; omega) (fun a b => by simp; omega) l
  exact this.imp fun h => by simpa using h
theorem srt_eq {l m : List Int} (h : l.Perm m) : srt l = srt m :=
  List.Perm.eq_of_pairwise (le := fun x y => x ≤ y) (fun a b _ _ h1 h2 => by omega) (srt_pw l) (srt_pw m) ((srt_perm l).trans (h.trans (srt_perm m).symm))
/-- Keys that were read from a set. -/
structure KeyI (m : MS) (seen : List Nat) (ks : List Int) : Prop where
  sub : ∀ b ∈ seen, ∃ k, (k, b) ∈ m.es
  nds : seen.Nodup
  mem : ∀ k, k ∈ ks ↔ ∃ b ∈ seen, (k, b) ∈ m.es
  nd : ks.Nodup
  len : ks.length = seen.length
theorem KeyI.nil (m : MS) : KeyI m [] [] := ⟨fun b hb => by simp at hb, by simp, fun k => by simp, by simp, rfl⟩
theorem KeyI.le {m : MS} {seen : List Nat} {ks : List Int} (h : KeyI m seen ks) : seen.length ≤ m.es.length := by
  have := nodup_le seen (m.es.map (·.2)) h.nds (fun b hb => by
    obtain ⟨k, hk⟩ := h.sub b hb
    exact List.mem_map.2 ⟨_, hk, rfl⟩)
  simpa using this
theorem KeyI.step {m : MS} {seen : List Nat} {ks : List Int} (h : KeyI m seen ks) (hn : m.ks.Nodup) (hs : (m.es.map (·.2)).Nodup) {k : Int} {b : Nat} (hk : (k, b) ∈ m.es) (hb : b ∉ seen) : KeyI m (seen ++ [b]) (ks ++ [k]) := by
  have hkn : k ∉ ks := fun hc => by
    obtain ⟨b', h1, h2⟩ := (h.mem k).1 hc
    exact hb (es_uniq hn hk h2 ▸ h1)
  refine ⟨fun b' hb' => ?_, ?_, fun k' => ?_, ?_, by simp [h.len]⟩
  · rcases List.mem_append.1 hb' with h1 | h1
    · exact h.sub b' h1
    · rw [List.mem_singleton.1 h1]; exact ⟨k, hk⟩
  · exact List.nodup_append.2 ⟨h.nds, by simp, fun x hx y hy => by simp at hy; subst hy; rintro rfl; exact hb hx⟩
  · rw [List.mem_append, List.mem_singleton, h.mem]
    constructor
    · rintro (⟨b', h1, h2⟩ | rfl)
      · exact ⟨b', List.mem_append_left _ h1, h2⟩
      · exact ⟨b, by simp, hk⟩
    · rintro ⟨b', h1, h2⟩
      rcases List.mem_append.1 h1 with h1 | h1
      · exact .inl ⟨b', h1, h2⟩
      · obtain rfl := List.mem_singleton.1 h1
        exact .inr (es_uniq2 hs h2 hk)
  · exact List.nodup_append.2 ⟨h.nd, by simp, fun x hx y hy => by simp at hy; subst hy; rintro rfl; exact hkn hx⟩
theorem KeyI.done {m : MS} {seen : List Nat} {ks : List Int} {l : List Int} (h : KeyI m seen ks) (hm : SetOK m l) (hl : l.Nodup) (ho : ∀ e ∈ m.es, e.2 ∈ seen) : srt ks = srt l := by
  refine srt_eq ((List.perm_ext_iff_of_nodup h.nd hl).2 fun k => ?_)
  rw [h.mem, ← hm.mem]
  constructor
  · rintro ⟨b, _, h2⟩
    exact List.mem_map.2 ⟨_, h2, rfl⟩
  · intro hk
    obtain ⟨e, he, rfl⟩ := List.mem_map.1 hk
    exact ⟨e.2, ho e he, he⟩
end Go.Sx

namespace Go.Sx
open Go Go.Proofs
set_option maxRecDepth 10000
set_option maxHeartbeats 8000000
/-! ### The reference's Do -/
def RDo (S : Sho) (a : Act2) (r : AV) (m' : List (Option Blk)) : Prop := r = .tup [I (doN S a), I (doE S a)] ∧ m' = rfO (doS S a)
theorem RDo.no {S : Sho} {a : Act2} {e : Int} (hE : doE S a = e) (h0 : e ≠ 0) : RDo S a (.tup [I 0, I e]) (rfO S) := by
  subst hE
  exact ⟨by rw [doN, if_neg h0], by rw [show doS S a = S from if_neg h0]⟩
theorem RDo.ok {S : Sho} {a : Act2} (hE : doE S a = 0) {S' : Sho} (hD : doS S a = S') {n : Int} (hN : doN S a = n) : RDo S a (.tup [I n, I 0]) (rfO S') := by
  subst hD hN
  exact ⟨by rw [hE], rfl⟩
theorem s48 (S : Sho) (hS : ShOK S) (a : Act2) : HSpec Try.prog 48 [.one (.ptr 0 0), a.x] (rfM S) (RDo S a) := by
  have hl := acA_len S.ac
  have c33 := s33 a
  by_cases hn : 1000 ≤ S.ac.length
  · have hE : doE S a = 6 := by unfold doE; rw [if_pos hn]
    refine spec_of pMix (O := [(9, ([], [⟨0, [], []⟩, ⟨1, [], []⟩, ⟨2, [], []⟩, ⟨3, [], []⟩, ⟨4, [], []⟩, ⟨5, [], [6]⟩, ⟨6, [], []⟩, ⟨7, [0], []⟩, ⟨8, [], []⟩, ⟨9, [], []⟩, ⟨10, [], []⟩]))]) Try.func48 (c := bodyOf Try.f48) rfl (by kernel_rfl) (by kernel_rfl) Try.ntmps48 (res := [.tmp 4, .tmp 5]) (by kernel_rfl) ?_
    repeat' ((conv => whnf); first | refine Rng.g ?_ | refine Ob.g ?_ | refine Ob.e ?_ | refine Ob.m ?_ | refine Ob.mk (Nat.le_of_ble_eq_true rfl) ?_ | refine JoinVC.on ?_ | refine Nils.mk (fun h => ?_) ?_ | refine Val.t ?_ | refine Val.d ?_ | refine Mm.mk ?_ | (refine Br.mk (fun h => ?_) (fun h => ?_) <;> first | (exfalso; omega; done) | (exfalso; simp at h; done) | skip))
    repeat refine Mm.mk ?_
    conv => whnf
    refine EndVC.mk _ rfl _ _ (RDo.no hE (by decide)) ?_
    refine ⟨[some 0, none, none, none, none, none, some 1, some 2, some 3, some 4, some 5], rfl, rfl, ?_, ?_⟩ <;> repeat' (first | exact trivial | exact rfl | exact Iff.rfl | apply And.intro)
  by_cases ha : ActOK a
  · have c81 := s81 S hS a ha
    have hE : doE S a = actE S a := by unfold doE; rw [if_neg hn, if_pos ha]
    unfold RAc at c81
    by_cases h0 : actE S a = 0
    · have hT : actT S a = actS S a := if_pos h0
      have hr : (actS S a).r = S.r := by unfold actS; (repeat' split) <;> rfl
      have hac : (actS S a).ac = S.ac := by unfold actS; (repeat' split) <;> rfl
      have hD : doS S a = { actS S a with ac := S.ac ++ [a] } := by unfold doS; rw [if_pos (hE.trans h0)]
      have hN : doN S a = actN S a := by unfold doN; rw [if_pos (hE.trans h0)]
      rw [if_pos h0, h0, hT] at c81
      have hsn := acA_snoc S.ac a
      have hl2 := hl
      have hn2 := hn
      rw [← hac] at hl2 hsn hn2
      refine spec_of pMix (O := [(9, ([], [⟨0, [], []⟩, ⟨1, [], []⟩, ⟨2, [], []⟩, ⟨3, [], []⟩, ⟨4, [], []⟩, ⟨5, [], [6]⟩, ⟨6, [], []⟩, ⟨7, [0], []⟩, ⟨8, [], []⟩, ⟨9, [], []⟩, ⟨10, [], []⟩]))]) Try.func48 (c := bodyOf Try.f48) rfl (by kernel_rfl) (by kernel_rfl) Try.ntmps48 (res := [.tmp 4, .tmp 5]) (by kernel_rfl) ?_
      repeat' ((conv => whnf); first | refine Rng.g ?_ | refine Ob.g ?_ | refine Ob.e ?_ | refine Ob.m ?_ | refine Ob.mk (Nat.le_of_ble_eq_true rfl) ?_ | refine JoinVC.on ?_ | refine Nils.mk (fun h => ?_) ?_ | refine Val.t ?_ | refine Val.d ?_ | refine Mm.mk ?_ | refine CallVC.pure rfl (c33) ?_ | refine CallVC0.pure rfl (c33) ?_ | (refine Br.mk (fun h => ?_) (fun h => ?_) <;> first | (exfalso; omega; done) | (exfalso; simp at h; done) | (exfalso; simp [ha] at h; done) | skip))
      conv => whnf
      refine CallVC.mk [0, 1, 2, 3, 4, 5] _ _ _ rfl rfl rfl (c81) (fun r m' h' => ?_)
      obtain ⟨rfl, rfl⟩ := h'
      conv => whnf
      repeat' ((conv => whnf); first | refine Rng.g ?_ | refine Ob.g ?_ | refine Ob.e ?_ | refine Ob.m ?_ | refine Ob.mk (Nat.le_of_ble_eq_true rfl) ?_ | refine JoinVC.on ?_ | refine Nils.mk (fun h => ?_) ?_ | refine Val.t ?_ | refine Val.d ?_ | refine Mm.mk ?_ | (refine Br.mk (fun h => ?_) (fun h => ?_) <;> first | (exfalso; omega; done) | (exfalso; simp at h; done) | skip))
      repeat refine Mm.mk ?_
      refine Ob.mk (by rw [eb43]; simp only [List.length_cons, List.length_nil]; omega) ?_
      repeat' ((conv => whnf); first | refine Rng.g ?_ | refine Ob.g ?_ | refine Ob.e ?_ | refine Ob.m ?_ | refine Ob.mk (Nat.le_of_ble_eq_true rfl) ?_ | refine JoinVC.on ?_ | refine Nils.mk (fun h => ?_) ?_ | refine Val.t ?_ | refine Val.d ?_ | refine Mm.mk ?_ | (refine Br.mk (fun h => ?_) (fun h => ?_) <;> first | (exfalso; omega; done) | (exfalso; simp at h; done) | skip))
      repeat refine Mm.mk ?_
      conv => whnf
      refine EndVC.mk _ rfl _ _ (RDo.ok (hE.trans h0) hD hN) ?_
      refine ⟨[some 0, none, none, none, none, none, some 7, some 8, some 9, some 10, some 13], rfl, rfl, ?_, ?_⟩ <;> repeat' (first | exact trivial | exact rfl | exact Iff.rfl | apply And.intro)
      exact hsn.trans (by rw [hac])
    · have hD : doS S a = S := by unfold doS; rw [if_neg (by rw [hE]; exact h0)]
      have hT : actT S a = S := if_neg h0
      rw [if_neg h0, hT] at c81
      refine spec_of pMix (O := [(9, ([], [⟨0, [], []⟩, ⟨1, [], []⟩, ⟨2, [], []⟩, ⟨3, [], []⟩, ⟨4, [], []⟩, ⟨5, [], [6]⟩, ⟨6, [], []⟩, ⟨7, [0], []⟩, ⟨8, [], []⟩, ⟨9, [], []⟩, ⟨10, [], []⟩]))]) Try.func48 (c := bodyOf Try.f48) rfl (by kernel_rfl) (by kernel_rfl) Try.ntmps48 (res := [.tmp 4, .tmp 5]) (by kernel_rfl) ?_
      repeat' ((conv => whnf); first | refine Rng.g ?_ | refine Ob.g ?_ | refine Ob.e ?_ | refine Ob.m ?_ | refine Ob.mk (Nat.le_of_ble_eq_true rfl) ?_ | refine JoinVC.on ?_ | refine Nils.mk (fun h => ?_) ?_ | refine Val.t ?_ | refine Val.d ?_ | refine Mm.mk ?_ | refine CallVC.pure rfl (c33) ?_ | refine CallVC0.pure rfl (c33) ?_ | (refine Br.mk (fun h => ?_) (fun h => ?_) <;> first | (exfalso; omega; done) | (exfalso; simp at h; done) | (exfalso; simp [ha] at h; done) | skip))
      conv => whnf
      refine CallVC.mk [0, 1, 2, 3, 4, 5] _ _ _ rfl rfl rfl (c81) (fun r m' h' => ?_)
      obtain ⟨rfl, rfl⟩ := h'
      conv => whnf
      repeat' ((conv => whnf); first | refine Rng.g ?_ | refine Ob.g ?_ | refine Ob.e ?_ | refine Ob.m ?_ | refine Ob.mk (Nat.le_of_ble_eq_true rfl) ?_ | refine JoinVC.on ?_ | refine Nils.mk (fun h => ?_) ?_ | refine Val.t ?_ | refine Val.d ?_ | refine Mm.mk ?_ | (refine Br.mk (fun h => ?_) (fun h => ?_) <;> first | (exfalso; omega; done) | (exfalso; simp at h; done) | skip))
      repeat refine Mm.mk ?_
      conv => whnf
      refine EndVC.mk _ rfl _ _ (RDo.no hE h0) ?_
      refine ⟨[some 0, none, none, none, none, none, some 7, some 8, some 9, some 10, some 11], rfl, rfl, ?_, ?_⟩ <;> repeat' (first | exact trivial | exact rfl | exact Iff.rfl | apply And.intro)
  · have hE : doE S a = 2 := by unfold doE; rw [if_neg hn, if_neg ha]
    refine spec_of pMix (O := [(9, ([], [⟨0, [], []⟩, ⟨1, [], []⟩, ⟨2, [], []⟩, ⟨3, [], []⟩, ⟨4, [], []⟩, ⟨5, [], [6]⟩, ⟨6, [], []⟩, ⟨7, [0], []⟩, ⟨8, [], []⟩, ⟨9, [], []⟩, ⟨10, [], []⟩]))]) Try.func48 (c := bodyOf Try.f48) rfl (by kernel_rfl) (by kernel_rfl) Try.ntmps48 (res := [.tmp 4, .tmp 5]) (by kernel_rfl) ?_
    repeat' ((conv => whnf); first | refine Rng.g ?_ | refine Ob.g ?_ | refine Ob.e ?_ | refine Ob.m ?_ | refine Ob.mk (Nat.le_of_ble_eq_true rfl) ?_ | refine JoinVC.on ?_ | refine Nils.mk (fun h => ?_) ?_ | refine Val.t ?_ | refine Val.d ?_ | refine Mm.mk ?_ | refine CallVC.pure rfl (c33) ?_ | refine CallVC0.pure rfl (c33) ?_ | (refine Br.mk (fun h => ?_) (fun h => ?_) <;> first | (exfalso; omega; done) | (exfalso; simp at h; done) | (exfalso; simp [ha] at h; done) | skip))
    repeat refine Mm.mk ?_
    conv => whnf
    refine EndVC.mk _ rfl _ _ (RDo.no hE (by decide)) ?_
    refine ⟨[some 0, none, none, none, none, none, some 1, some 2, some 3, some 4, some 5], rfl, rfl, ?_, ?_⟩ <;> repeat' (first | exact trivial | exact rfl | exact Iff.rfl | apply And.intro)
/-! ### The reference's New, its copies of slices -/
theorem s46 (r : Rcp) (h : RcpOK r) : HSpec Try.prog 46 [r.x] [] (fun v m' => v = .tup [.one (.ptr 0 0), I 0] ∧ m' = rfK (shop0 r)) := by
  have c := s16 r
  unfold rcpE at c
  rw [if_pos h] at c
  refine spec_of pMix (O := []) Try.func46 (c := bodyOf Try.f46) rfl (by kernel_rfl) (by kernel_rfl) Try.ntmps46 (res := [.tmp 2, .tmp 3]) (by kernel_rfl) ?_
  repeat' ((conv => whnf); first | refine Rng.g ?_ | refine Ob.g ?_ | refine Ob.e ?_ | refine Ob.m ?_ | refine Ob.mk (Nat.le_of_ble_eq_true rfl) ?_ | refine JoinVC.on ?_ | refine Nils.mk (fun h => ?_) ?_ | refine Val.t ?_ | refine Val.d ?_ | refine Mm.mk ?_ | refine CallVC.pure rfl (c) ?_ | refine CallVC0.pure rfl (c) ?_ | (refine Br.mk (fun h => ?_) (fun h => ?_) <;> first | (exfalso; omega; done) | (exfalso; simp at h; done) | skip))
  repeat refine Mm.mk ?_
  conv => whnf
  refine EndVC.mk _ rfl _ _ (⟨rfl, rfl⟩) ?_
  refine ⟨[some 1, none, none, none, none, none], rfl, rfl, ?_, ?_⟩ <;> repeat' (first | exact trivial | exact rfl | exact Iff.rfl | apply And.intro)
/-! ### The reference's Flaws -/
end Go.Sx

namespace Go.Sx
open Go Go.Proofs
set_option maxRecDepth 10000
set_option maxHeartbeats 8000000
theorem e8 : EntersF Try.prog 8 := enters_of Try.func8 (c := bodyOf Try.f8) (by kernel_rfl) rfl
/-! ### Seconds -/
@[reducible] def secA (a : Act2) (n : Int) : Act2 := ⟨a.kd, a.cut, a.area, a.stock, a.yd, a.plate, a.bath, a.s0, a.s1, a.cur, n, a.place, a.flaw⟩
def nedM (S : Sho) (a : Act2) : Int := (S.r.thin ((S.p a.plate).kd + 1) * (S.p a.plate).area + 999) / 1000 - fstM S a
def secX (S : Sho) (a : Act2) : Int := if 0 < nedM S a then ((1000 * nedM S a + (S.t a.bath).yd - 1) / (S.t a.bath).yd + a.cur - 1) / a.cur else 0
def secE (S : Sho) (a : Act2) : Int :=
  if a.kd ≠ 3 ∨ ¬ ActOK a then 2
  else if herE S a ≠ 0 then herE S a
  else if (0 < nedM S a ∧ a.cur = 0) ∨ 1048576 < secX S a ∨ layE S (secA a (secX S a)) ≠ 0 then 15
  else 0
def secN (S : Sho) (a : Act2) : Int := if secE S a = 0 then secX S a else 0
def secR (S : Sho) (ms : List MS) (a : Act2) (r : AV) (m' : List (Option Blk)) : Prop := r = .tup [I (secN S a), I (secE S a)] ∧ m' = shK S ms
theorem secR.err {S : Sho} {ms : List MS} {a : Act2} {e : Int} (h : secE S a = e) (h0 : e ≠ 0) : secR S ms a (.tup [I 0, I e]) (shK S ms) := by
  subst h
  exact ⟨by rw [secN, if_neg h0], rfl⟩
theorem secR.ok {S : Sho} {ms : List MS} {a : Act2} {n : Int} (h : secE S a = 0) (hn : secX S a = n) : secR S ms a (.tup [I n, I 0]) (shK S ms) := by
  subst hn
  exact ⟨by rw [secN, if_pos h, h], rfl⟩
theorem s24 (S : Sho) (ms : List MS) (hS : ShOK S) (a : Act2) : HSpec Try.prog 24 [.one (.ptr 0 0), a.x] (shM S ms) (secR S ms a) := by
  have c53 := s53 S ms
  have c54 := s54 a
  by_cases hv : a.kd ≠ 3 ∨ ¬ ActOK a
  · have hE : secE S a = 2 := by unfold secE; rw [if_pos hv]
    refine spec_of pMix (O := [(8, ([12], [⟨0, [], []⟩, ⟨1, [], []⟩, ⟨2, [], []⟩, ⟨4, [], []⟩, ⟨5, [], []⟩, ⟨6, [], []⟩, ⟨7, [], []⟩, ⟨8, [], []⟩, ⟨9, [], []⟩, ⟨10, [], []⟩, ⟨11, [], []⟩, ⟨3, [4, 5, 6, 7, 8, 9, 10, 11], []⟩, ⟨12, [], []⟩, ⟨13, [], []⟩, ⟨14, [], []⟩])), (10, ([], [⟨0, [], []⟩, ⟨1, [], []⟩, ⟨2, [], []⟩, ⟨3, [], []⟩, ⟨4, [], []⟩, ⟨5, [], []⟩, ⟨6, [], []⟩, ⟨7, [], []⟩, ⟨8, [], []⟩, ⟨9, [], []⟩, ⟨10, [], []⟩, ⟨11, [], []⟩, ⟨12, [], []⟩, ⟨13, [], []⟩, ⟨14, [], []⟩, ⟨15, [], []⟩, ⟨16, [], []⟩, ⟨17, [], []⟩, ⟨18, [], []⟩, ⟨19, [], []⟩, ⟨20, [], []⟩, ⟨21, [], []⟩, ⟨22, [0, 1, 2, 3, 4, 5, 6, 7, 8, 9, 10, 11, 12, 13, 14, 15, 16, 17, 18, 19], []⟩, ⟨23, [], []⟩, ⟨24, [], []⟩, ⟨25, [], []⟩]))]) Try.func24 (c := bodyOf Try.f24) rfl (by kernel_rfl) (by kernel_rfl) Try.ntmps24 (res := [.tmp 4, .tmp 5]) (by kernel_rfl) ?_
    repeat' ((conv => whnf); first | refine Rng.g ?_ | refine Ob.g ?_ | refine Ob.e ?_ | refine Ob.m ?_ | refine Ob.mk (Nat.le_of_ble_eq_true rfl) ?_ | refine JoinVC.on ?_ | refine Nils.mk (fun h => ?_) ?_ | refine Val.t ?_ | refine Val.d ?_ | refine Mm.mk ?_ | (refine Br.mk (fun h => ?_) (fun h => ?_) <;> first | (exfalso; omega; done) | (exfalso; simp at h; done) | skip))
    conv => whnf
    first | refine CallVC.mk [0, 1, 2, 3, 4, 5] _ _ _ rfl rfl rfl (c53) (fun r m' h' => ?_) | refine CallVC0.same [0, 1, 2, 3, 4, 5] _ _ _ rfl rfl rfl rfl (c53) (fun r m' h' => (by obtain ⟨rfl, rfl⟩ := h'; rfl)) (fun r m' h' => ?_) | (refine CallVC0.rows [0, 1, 2, 3, 4, 5] _ _ _ rfl rfl rfl ?_ (c53) (fun r m' h' => (by obtain ⟨rfl, rfl⟩ := h'; rfl)) (fun r m' h' => ?_); · (repeat' ((conv => whnf); first | exact trivial | exact rfl | exact Nat.le_refl _ | apply And.intro)))
    obtain ⟨rfl, rfl⟩ := h'
    conv => whnf
    repeat' ((conv => whnf); first | refine Rng.g ?_ | refine Ob.g ?_ | refine Ob.e ?_ | refine Ob.m ?_ | refine Ob.mk (Nat.le_of_ble_eq_true rfl) ?_ | refine JoinVC.on ?_ | refine Nils.mk (fun h => ?_) ?_ | refine Val.t ?_ | refine Val.d ?_ | refine Mm.mk ?_ | refine CallVC.pure rfl (c54) ?_ | refine CallVC0.pure rfl (c54) ?_ | (refine Br.mk (fun h => ?_) (fun h => ?_) <;> first | (exfalso; omega; done) | (exfalso; simp at h; done) | skip))
    all_goals first
      | (exfalso; rcases hv with h1 | h1 <;> contradiction; done)
      | skip
    all_goals
      repeat refine Mm.mk ?_
      conv => whnf
      refine EndVC.mk _ rfl _ _ (secR.err hE (by decide)) ?_
      refine ⟨[some 0, some 1, some 2, some 3, some 4, some 5], rfl, rfl, ?_, ?_⟩ <;> repeat' (first | exact trivial | exact rfl | exact Iff.rfl | apply And.intro)
  have hk : a.kd = 3 := by omega
  have ha : ActOK a := Classical.byContradiction fun hc => hv (.inr hc)
  have hg := ha.gro hk
  have c62 := s62 S ms hS a hg
  by_cases h1 : herE S a = 0
  rotate_left
  · have hE : secE S a = herE S a := by unfold secE; rw [if_neg hv, if_pos h1]
    refine spec_of pMix (O := [(8, ([12], [⟨0, [], []⟩, ⟨1, [], []⟩, ⟨2, [], []⟩, ⟨4, [], []⟩, ⟨5, [], []⟩, ⟨6, [], []⟩, ⟨7, [], []⟩, ⟨8, [], []⟩, ⟨9, [], []⟩, ⟨10, [], []⟩, ⟨11, [], []⟩, ⟨3, [4, 5, 6, 7, 8, 9, 10, 11], []⟩, ⟨12, [], []⟩, ⟨13, [], []⟩, ⟨14, [], []⟩])), (10, ([], [⟨0, [], []⟩, ⟨1, [], []⟩, ⟨2, [], []⟩, ⟨3, [], []⟩, ⟨4, [], []⟩, ⟨5, [], []⟩, ⟨6, [], []⟩, ⟨7, [], []⟩, ⟨8, [], []⟩, ⟨9, [], []⟩, ⟨10, [], []⟩, ⟨11, [], []⟩, ⟨12, [], []⟩, ⟨13, [], []⟩, ⟨14, [], []⟩, ⟨15, [], []⟩, ⟨16, [], []⟩, ⟨17, [], []⟩, ⟨18, [], []⟩, ⟨19, [], []⟩, ⟨20, [], []⟩, ⟨21, [], []⟩, ⟨22, [0, 1, 2, 3, 4, 5, 6, 7, 8, 9, 10, 11, 12, 13, 14, 15, 16, 17, 18, 19], []⟩, ⟨23, [], []⟩, ⟨24, [], []⟩, ⟨25, [], []⟩]))]) Try.func24 (c := bodyOf Try.f24) rfl (by kernel_rfl) (by kernel_rfl) Try.ntmps24 (res := [.tmp 4, .tmp 5]) (by kernel_rfl) ?_
    repeat' ((conv => whnf); first | refine Rng.g ?_ | refine Ob.g ?_ | refine Ob.e ?_ | refine Ob.m ?_ | refine Ob.mk (Nat.le_of_ble_eq_true rfl) ?_ | refine JoinVC.on ?_ | refine Nils.mk (fun h => ?_) ?_ | refine Val.t ?_ | refine Val.d ?_ | refine Mm.mk ?_ | (refine Br.mk (fun h => ?_) (fun h => ?_) <;> first | (exfalso; omega; done) | (exfalso; simp at h; done) | skip))
    conv => whnf
    first | refine CallVC.mk [0, 1, 2, 3, 4, 5] _ _ _ rfl rfl rfl (c53) (fun r m' h' => ?_) | refine CallVC0.same [0, 1, 2, 3, 4, 5] _ _ _ rfl rfl rfl rfl (c53) (fun r m' h' => (by obtain ⟨rfl, rfl⟩ := h'; rfl)) (fun r m' h' => ?_) | (refine CallVC0.rows [0, 1, 2, 3, 4, 5] _ _ _ rfl rfl rfl ?_ (c53) (fun r m' h' => (by obtain ⟨rfl, rfl⟩ := h'; rfl)) (fun r m' h' => ?_); · (repeat' ((conv => whnf); first | exact trivial | exact rfl | exact Nat.le_refl _ | apply And.intro)))
    obtain ⟨rfl, rfl⟩ := h'
    conv => whnf
    repeat' ((conv => whnf); first | refine Rng.g ?_ | refine Ob.g ?_ | refine Ob.e ?_ | refine Ob.m ?_ | refine Ob.mk (Nat.le_of_ble_eq_true rfl) ?_ | refine JoinVC.on ?_ | refine Nils.mk (fun h => ?_) ?_ | refine Val.t ?_ | refine Val.d ?_ | refine Mm.mk ?_ | refine CallVC.pure rfl (c54) ?_ | refine CallVC0.pure rfl (c54) ?_ | (refine Br.mk (fun h => ?_) (fun h => ?_) <;> first | (exfalso; omega; done) | (exfalso; simp at h; done) | (exfalso; simp [ha] at h; done) | skip))
    conv => whnf
    first | refine CallVC.mk [0, 1, 2, 3, 4, 5] _ _ _ rfl rfl rfl (c62) (fun r m' h' => ?_) | refine CallVC0.same [0, 1, 2, 3, 4, 5] _ _ _ rfl rfl rfl rfl (c62) (fun r m' h' => (by obtain ⟨rfl, rfl⟩ := h'; rfl)) (fun r m' h' => ?_) | (refine CallVC0.rows [0, 1, 2, 3, 4, 5] _ _ _ rfl rfl rfl ?_ (c62) (fun r m' h' => (by obtain ⟨rfl, rfl⟩ := h'; rfl)) (fun r m' h' => ?_); · (repeat' ((conv => whnf); first | exact trivial | exact rfl | exact Nat.le_refl _ | apply And.intro)))
    obtain ⟨rfl, rfl⟩ := h'
    conv => whnf
    repeat' ((conv => whnf); first | refine Rng.g ?_ | refine Ob.g ?_ | refine Ob.e ?_ | refine Ob.m ?_ | refine Ob.mk (Nat.le_of_ble_eq_true rfl) ?_ | refine JoinVC.on ?_ | refine Nils.mk (fun h => ?_) ?_ | refine Val.t ?_ | refine Val.d ?_ | refine Mm.mk ?_ | (refine Br.mk (fun h => ?_) (fun h => ?_) <;> first | (exfalso; omega; done) | (exfalso; simp at h; done) | skip))
    repeat refine Mm.mk ?_
    conv => whnf
    refine EndVC.mk _ rfl _ _ (secR.err hE h1) ?_
    refine ⟨[some 0, some 1, some 2, some 3, some 4, some 5], rfl, rfl, ?_, ?_⟩ <;> repeat' (first | exact trivial | exact rfl | exact Iff.rfl | apply And.intro)
  rw [h1] at c62
  obtain ⟨hi, hb, hret, h256, hkd, hcap⟩ := herE_0 hS h1
  have hg0 : GroOK (secA a 0) := ⟨hg.s0, hg.s1, hg.cur, by show (0 : Int) ≤ 0 ∧ (0 : Int) ≤ 1048576; omega⟩
  have c64 : HSpec Try.prog 64 [.one (.ptr 0 0), (secA a 0).x] (shM S ms) (fun r m' => r = .x (.agg [i6 (fstM S a), i6 (allM S (secA a 0)), i6 (chgM (secA a 0))]) ∧ m' = shK S ms) := s64 S ms hS (secA a 0) hg0 hb
  have c63 := s63 S ms a.plate
  rw [getR, if_pos hi] at c63
  have hB := thkB S hS a hg hi hb
  have hb' := hb
  have hi' := hi
  obtain ⟨hb1, hb2⟩ := hb'
  unfold inP at hi'
  obtain ⟨hi1, hi2⟩ := hi'
  have lt := tkA_len S.tk
  have hp := hS.pl a.plate.toNat (by omega)
  have hk0 : 0 ≤ (S.p a.plate).kd := hp.kd.1
  have har : 1 ≤ (S.p a.plate).area ∧ (S.p a.plate).area ≤ 1048576 := hp.area
  have hyd : 1 ≤ (S.t a.bath).yd ∧ (S.t a.bath).yd ≤ 1000 := (hS.tk a.bath.toNat (by omega)).2.1
  have g0 : rI (plA S.pl) a.plate.toNat 0 = (S.p a.plate).kd := pl_0 S.pl a.plate.toNat
  have g3 : rI (plA S.pl) a.plate.toNat ((0 + 1 + 1 + 1)) = (S.p a.plate).area := pl_3 S.pl a.plate.toNat
  have t1 : rI (tkA S.tk) a.bath.toNat ((0 + 1)) = (S.t a.bath).yd := tk_1 S.tk a.bath.toNat
  have hcur := hg.cur
  obtain ⟨hf, _⟩ := hB
  obtain ⟨th, hth⟩ : ∃ th, S.r.thin ((S.p a.plate).kd + 1) = th := ⟨_, rfl⟩
  have hned : nedM S a = (th * (S.p a.plate).area + 999) / 1000 - fstM S a := by unfold nedM; rw [hth]
  have hthB : 0 ≤ th ∧ th ≤ 1073741824 := by
    have := hS.r.a1
    have := hS.r.a2
    have := hS.r.a3
    rw [← hth]
    unfold Rcp.thin
    (repeat' split) <;> omega
  have hmB := mulB hthB (show 0 ≤ (S.p a.plate).area ∧ (S.p a.plate).area ≤ 1048576 by omega)
  have hk3 : ((S.p a.plate).kd = 0 ∧ S.r.n1 = th) ∨ ((S.p a.plate).kd = 1 ∧ S.r.n2 = th) ∨ ((S.p a.plate).kd = 2 ∧ S.r.n3 = th) := by
    rcases (show (S.p a.plate).kd = 0 ∨ (S.p a.plate).kd = 1 ∨ (S.p a.plate).kd = 2 by omega) with h | h | h
    · rw [h] at hth; exact .inl ⟨h, hth⟩
    · rw [h] at hth; exact .inr (.inl ⟨h, hth⟩)
    · rw [h] at hth; exact .inr (.inr ⟨h, hth⟩)
  have hh1 : ¬ herE S a ≠ 0 := by simpa using h1
  by_cases hn : 0 < nedM S a
  · have hdB := divB (a := 1000 * nedM S a + (S.t a.bath).yd - 1) (d := (S.t a.bath).yd) (B := 1125899906844672) ⟨by omega, by omega⟩ hyd.1
    by_cases hc : a.cur = 0
    · have hE : secE S a = 15 := by unfold secE; rw [if_neg hv, if_neg hh1, if_pos (.inl ⟨hn, hc⟩)]
      rw [hned] at hn hdB
      clear hth
      rcases hk3 with ⟨hk, ht⟩ | ⟨hk, ht⟩ | ⟨hk, ht⟩
      all_goals
        subst ht
        rw [hk] at g0
        refine spec_of pMix (O := [(8, ([12], [⟨0, [], []⟩, ⟨1, [], []⟩, ⟨2, [], []⟩, ⟨4, [], []⟩, ⟨5, [], []⟩, ⟨6, [], []⟩, ⟨7, [], []⟩, ⟨8, [], []⟩, ⟨9, [], []⟩, ⟨10, [], []⟩, ⟨11, [], []⟩, ⟨3, [4, 5, 6, 7, 8, 9, 10, 11], []⟩, ⟨12, [], []⟩, ⟨13, [], []⟩, ⟨14, [], []⟩])), (10, ([], [⟨0, [], []⟩, ⟨1, [], []⟩, ⟨2, [], []⟩, ⟨3, [], []⟩, ⟨4, [], []⟩, ⟨5, [], []⟩, ⟨6, [], []⟩, ⟨7, [], []⟩, ⟨8, [], []⟩, ⟨9, [], []⟩, ⟨10, [], []⟩, ⟨11, [], []⟩, ⟨12, [], []⟩, ⟨13, [], []⟩, ⟨14, [], []⟩, ⟨15, [], []⟩, ⟨16, [], []⟩, ⟨17, [], []⟩, ⟨18, [], []⟩, ⟨19, [], []⟩, ⟨20, [], []⟩, ⟨21, [], []⟩, ⟨22, [0, 1, 2, 3, 4, 5, 6, 7, 8, 9, 10, 11, 12, 13, 14, 15, 16, 17, 18, 19], []⟩, ⟨23, [], []⟩, ⟨24, [], []⟩, ⟨25, [], []⟩]))]) Try.func24 (c := bodyOf Try.f24) rfl (by kernel_rfl) (by kernel_rfl) Try.ntmps24 (res := [.tmp 4, .tmp 5]) (by kernel_rfl) ?_
        repeat' ((conv => whnf); first | refine Rng.g ?_ | refine Ob.g ?_ | refine Ob.e ?_ | refine Ob.m ?_ | refine Ob.mk (Nat.le_of_ble_eq_true rfl) ?_ | refine JoinVC.on ?_ | refine Nils.mk (fun h => ?_) ?_ | refine Val.t ?_ | refine Val.d ?_ | refine Mm.mk ?_ | (refine Br.mk (fun h => ?_) (fun h => ?_) <;> first | (exfalso; omega; done) | (exfalso; simp at h; done) | skip))
        conv => whnf
        first | refine CallVC.mk [0, 1, 2, 3, 4, 5] _ _ _ rfl rfl rfl (c53) (fun r m' h' => ?_) | refine CallVC0.same [0, 1, 2, 3, 4, 5] _ _ _ rfl rfl rfl rfl (c53) (fun r m' h' => (by obtain ⟨rfl, rfl⟩ := h'; rfl)) (fun r m' h' => ?_) | (refine CallVC0.rows [0, 1, 2, 3, 4, 5] _ _ _ rfl rfl rfl ?_ (c53) (fun r m' h' => (by obtain ⟨rfl, rfl⟩ := h'; rfl)) (fun r m' h' => ?_); · (repeat' ((conv => whnf); first | exact trivial | exact rfl | exact Nat.le_refl _ | apply And.intro)))
        obtain ⟨rfl, rfl⟩ := h'
        conv => whnf
        repeat' ((conv => whnf); first | refine Rng.g ?_ | refine Ob.g ?_ | refine Ob.e ?_ | refine Ob.m ?_ | refine Ob.mk (Nat.le_of_ble_eq_true rfl) ?_ | refine JoinVC.on ?_ | refine Nils.mk (fun h => ?_) ?_ | refine Val.t ?_ | refine Val.d ?_ | refine Mm.mk ?_ | refine CallVC.pure rfl (c54) ?_ | refine CallVC0.pure rfl (c54) ?_ | (refine Br.mk (fun h => ?_) (fun h => ?_) <;> first | (exfalso; omega; done) | (exfalso; simp at h; done) | (exfalso; simp [ha] at h; done) | skip))
        conv => whnf
        first | refine CallVC.mk [0, 1, 2, 3, 4, 5] _ _ _ rfl rfl rfl (c62) (fun r m' h' => ?_) | refine CallVC0.same [0, 1, 2, 3, 4, 5] _ _ _ rfl rfl rfl rfl (c62) (fun r m' h' => (by obtain ⟨rfl, rfl⟩ := h'; rfl)) (fun r m' h' => ?_) | (refine CallVC0.rows [0, 1, 2, 3, 4, 5] _ _ _ rfl rfl rfl ?_ (c62) (fun r m' h' => (by obtain ⟨rfl, rfl⟩ := h'; rfl)) (fun r m' h' => ?_); · (repeat' ((conv => whnf); first | exact trivial | exact rfl | exact Nat.le_refl _ | apply And.intro)))
        obtain ⟨rfl, rfl⟩ := h'
        conv => whnf
        repeat' ((conv => whnf); first | refine Rng.g ?_ | refine Ob.g ?_ | refine Ob.e ?_ | refine Ob.m ?_ | refine Ob.mk (Nat.le_of_ble_eq_true rfl) ?_ | refine JoinVC.on ?_ | refine Nils.mk (fun h => ?_) ?_ | refine Val.t ?_ | refine Val.d ?_ | refine Mm.mk ?_ | (refine Br.mk (fun h => ?_) (fun h => ?_) <;> first | (exfalso; omega; done) | (exfalso; simp at h; done) | skip))
        conv => whnf
        first | refine CallVC.mk [0, 1, 2, 3, 4, 5] _ _ _ rfl rfl rfl (c63) (fun r m' h' => ?_) | refine CallVC0.same [0, 1, 2, 3, 4, 5] _ _ _ rfl rfl rfl rfl (c63) (fun r m' h' => (by obtain ⟨rfl, rfl⟩ := h'; rfl)) (fun r m' h' => ?_) | (refine CallVC0.rows [0, 1, 2, 3, 4, 5] _ _ _ rfl rfl rfl ?_ (c63) (fun r m' h' => (by obtain ⟨rfl, rfl⟩ := h'; rfl)) (fun r m' h' => ?_); · (repeat' ((conv => whnf); first | exact trivial | exact rfl | exact Nat.le_refl _ | apply And.intro)))
        obtain ⟨rfl, rfl⟩ := h'
        conv => whnf
        repeat' ((conv => whnf); first | rw [g0] | rw [g3] | rw [t1] | refine Rng.g ?_ | refine Ob.g ?_ | refine Ob.e ?_ | refine Ob.m ?_ | refine Ob.mk (Nat.le_of_ble_eq_true rfl) ?_ | refine JoinVC.on ?_ | refine Nils.mk (fun h => ?_) ?_ | refine Val.t ?_ | refine Val.d ?_ | refine Mm.mk ?_ | (refine Br.mk (fun h => ?_) (fun h => ?_) <;> first | (exfalso; omega; done) | (exfalso; simp at h; done) | skip))
        conv => whnf
        first | refine CallVC.mk [0, 1, 2, 3, 4, 5] _ _ _ rfl rfl rfl (c64) (fun r m' h' => ?_) | refine CallVC0.same [0, 1, 2, 3, 4, 5] _ _ _ rfl rfl rfl rfl (c64) (fun r m' h' => (by obtain ⟨rfl, rfl⟩ := h'; rfl)) (fun r m' h' => ?_) | (refine CallVC0.rows [0, 1, 2, 3, 4, 5] _ _ _ rfl rfl rfl ?_ (c64) (fun r m' h' => (by obtain ⟨rfl, rfl⟩ := h'; rfl)) (fun r m' h' => ?_); · (repeat' ((conv => whnf); first | exact trivial | exact rfl | exact Nat.le_refl _ | apply And.intro)))
        obtain ⟨rfl, rfl⟩ := h'
        conv => whnf
        repeat' ((conv => whnf); first | rw [g0] | rw [g3] | rw [t1] | refine Rng.g ?_ | refine Ob.g ?_ | refine Ob.e ?_ | refine Ob.m ?_ | refine Ob.mk (Nat.le_of_ble_eq_true rfl) ?_ | refine JoinVC.on ?_ | refine Nils.mk (fun h => ?_) ?_ | refine Val.t ?_ | refine Val.d ?_ | refine Mm.mk ?_ | (refine Br.mk (fun h => ?_) (fun h => ?_) <;> first | (exfalso; omega; done) | (exfalso; simp at h; done) | skip))
        repeat refine Mm.mk ?_
        conv => whnf
        refine EndVC.mk _ rfl _ _ (secR.err hE (by decide)) ?_
        refine ⟨[some 0, some 1, some 2, some 3, some 4, some 5], rfl, rfl, ?_, ?_⟩ <;> repeat' (first | exact trivial | exact rfl | exact Iff.rfl | apply And.intro)
    · have hdC := divB (a := (1000 * nedM S a + (S.t a.bath).yd - 1) / (S.t a.bath).yd + a.cur - 1) (d := a.cur) (B := 1125899907893248) ⟨by omega, by omega⟩ (by omega)
      have hX : secX S a = ((1000 * nedM S a + (S.t a.bath).yd - 1) / (S.t a.bath).yd + a.cur - 1) / a.cur := by unfold secX; rw [if_pos hn]
      by_cases hbig : 1048576 < secX S a
      · have hE : secE S a = 15 := by unfold secE; rw [if_neg hv, if_neg hh1, if_pos (.inr (.inl hbig))]
        rw [hX] at hbig
        rw [hned] at hn hdB hdC hbig
        clear hth
        rcases hk3 with ⟨hk, ht⟩ | ⟨hk, ht⟩ | ⟨hk, ht⟩
        all_goals
          subst ht
          rw [hk] at g0
          refine spec_of pMix (O := [(8, ([12], [⟨0, [], []⟩, ⟨1, [], []⟩, ⟨2, [], []⟩, ⟨4, [], []⟩, ⟨5, [], []⟩, ⟨6, [], []⟩, ⟨7, [], []⟩, ⟨8, [], []⟩, ⟨9, [], []⟩, ⟨10, [], []⟩, ⟨11, [], []⟩, ⟨3, [4, 5, 6, 7, 8, 9, 10, 11], []⟩, ⟨12, [], []⟩, ⟨13, [], []⟩, ⟨14, [], []⟩])), (10, ([], [⟨0, [], []⟩, ⟨1, [], []⟩, ⟨2, [], []⟩, ⟨3, [], []⟩, ⟨4, [], []⟩, ⟨5, [], []⟩, ⟨6, [], []⟩, ⟨7, [], []⟩, ⟨8, [], []⟩, ⟨9, [], []⟩, ⟨10, [], []⟩, ⟨11, [], []⟩, ⟨12, [], []⟩, ⟨13, [], []⟩, ⟨14, [], []⟩, ⟨15, [], []⟩, ⟨16, [], []⟩, ⟨17, [], []⟩, ⟨18, [], []⟩, ⟨19, [], []⟩, ⟨20, [], []⟩, ⟨21, [], []⟩, ⟨22, [0, 1, 2, 3, 4, 5, 6, 7, 8, 9, 10, 11, 12, 13, 14, 15, 16, 17, 18, 19], []⟩, ⟨23, [], []⟩, ⟨24, [], []⟩, ⟨25, [], []⟩]))]) Try.func24 (c := bodyOf Try.f24) rfl (by kernel_rfl) (by kernel_rfl) Try.ntmps24 (res := [.tmp 4, .tmp 5]) (by kernel_rfl) ?_
          repeat' ((conv => whnf); first | refine Rng.g ?_ | refine Ob.g ?_ | refine Ob.e ?_ | refine Ob.m ?_ | refine Ob.mk (Nat.le_of_ble_eq_true rfl) ?_ | refine JoinVC.on ?_ | refine Nils.mk (fun h => ?_) ?_ | refine Val.t ?_ | refine Val.d ?_ | refine Mm.mk ?_ | (refine Br.mk (fun h => ?_) (fun h => ?_) <;> first | (exfalso; omega; done) | (exfalso; simp at h; done) | skip))
          conv => whnf
          first | refine CallVC.mk [0, 1, 2, 3, 4, 5] _ _ _ rfl rfl rfl (c53) (fun r m' h' => ?_) | refine CallVC0.same [0, 1, 2, 3, 4, 5] _ _ _ rfl rfl rfl rfl (c53) (fun r m' h' => (by obtain ⟨rfl, rfl⟩ := h'; rfl)) (fun r m' h' => ?_) | (refine CallVC0.rows [0, 1, 2, 3, 4, 5] _ _ _ rfl rfl rfl ?_ (c53) (fun r m' h' => (by obtain ⟨rfl, rfl⟩ := h'; rfl)) (fun r m' h' => ?_); · (repeat' ((conv => whnf); first | exact trivial | exact rfl | exact Nat.le_refl _ | apply And.intro)))
          obtain ⟨rfl, rfl⟩ := h'
          conv => whnf
          repeat' ((conv => whnf); first | refine Rng.g ?_ | refine Ob.g ?_ | refine Ob.e ?_ | refine Ob.m ?_ | refine Ob.mk (Nat.le_of_ble_eq_true rfl) ?_ | refine JoinVC.on ?_ | refine Nils.mk (fun h => ?_) ?_ | refine Val.t ?_ | refine Val.d ?_ | refine Mm.mk ?_ | refine CallVC.pure rfl (c54) ?_ | refine CallVC0.pure rfl (c54) ?_ | (refine Br.mk (fun h => ?_) (fun h => ?_) <;> first | (exfalso; omega; done) | (exfalso; simp at h; done) | (exfalso; simp [ha] at h; done) | skip))
          conv => whnf
          first | refine CallVC.mk [0, 1, 2, 3, 4, 5] _ _ _ rfl rfl rfl (c62) (fun r m' h' => ?_) | refine CallVC0.same [0, 1, 2, 3, 4, 5] _ _ _ rfl rfl rfl rfl (c62) (fun r m' h' => (by obtain ⟨rfl, rfl⟩ := h'; rfl)) (fun r m' h' => ?_) | (refine CallVC0.rows [0, 1, 2, 3, 4, 5] _ _ _ rfl rfl rfl ?_ (c62) (fun r m' h' => (by obtain ⟨rfl, rfl⟩ := h'; rfl)) (fun r m' h' => ?_); · (repeat' ((conv => whnf); first | exact trivial | exact rfl | exact Nat.le_refl _ | apply And.intro)))
          obtain ⟨rfl, rfl⟩ := h'
          conv => whnf
          repeat' ((conv => whnf); first | refine Rng.g ?_ | refine Ob.g ?_ | refine Ob.e ?_ | refine Ob.m ?_ | refine Ob.mk (Nat.le_of_ble_eq_true rfl) ?_ | refine JoinVC.on ?_ | refine Nils.mk (fun h => ?_) ?_ | refine Val.t ?_ | refine Val.d ?_ | refine Mm.mk ?_ | (refine Br.mk (fun h => ?_) (fun h => ?_) <;> first | (exfalso; omega; done) | (exfalso; simp at h; done) | skip))
          conv => whnf
          first | refine CallVC.mk [0, 1, 2, 3, 4, 5] _ _ _ rfl rfl rfl (c63) (fun r m' h' => ?_) | refine CallVC0.same [0, 1, 2, 3, 4, 5] _ _ _ rfl rfl rfl rfl (c63) (fun r m' h' => (by obtain ⟨rfl, rfl⟩ := h'; rfl)) (fun r m' h' => ?_) | (refine CallVC0.rows [0, 1, 2, 3, 4, 5] _ _ _ rfl rfl rfl ?_ (c63) (fun r m' h' => (by obtain ⟨rfl, rfl⟩ := h'; rfl)) (fun r m' h' => ?_); · (repeat' ((conv => whnf); first | exact trivial | exact rfl | exact Nat.le_refl _ | apply And.intro)))
          obtain ⟨rfl, rfl⟩ := h'
          conv => whnf
          repeat' ((conv => whnf); first | rw [g0] | rw [g3] | rw [t1] | refine Rng.g ?_ | refine Ob.g ?_ | refine Ob.e ?_ | refine Ob.m ?_ | refine Ob.mk (Nat.le_of_ble_eq_true rfl) ?_ | refine JoinVC.on ?_ | refine Nils.mk (fun h => ?_) ?_ | refine Val.t ?_ | refine Val.d ?_ | refine Mm.mk ?_ | (refine Br.mk (fun h => ?_) (fun h => ?_) <;> first | (exfalso; omega; done) | (exfalso; simp at h; done) | skip))
          conv => whnf
          first | refine CallVC.mk [0, 1, 2, 3, 4, 5] _ _ _ rfl rfl rfl (c64) (fun r m' h' => ?_) | refine CallVC0.same [0, 1, 2, 3, 4, 5] _ _ _ rfl rfl rfl rfl (c64) (fun r m' h' => (by obtain ⟨rfl, rfl⟩ := h'; rfl)) (fun r m' h' => ?_) | (refine CallVC0.rows [0, 1, 2, 3, 4, 5] _ _ _ rfl rfl rfl ?_ (c64) (fun r m' h' => (by obtain ⟨rfl, rfl⟩ := h'; rfl)) (fun r m' h' => ?_); · (repeat' ((conv => whnf); first | exact trivial | exact rfl | exact Nat.le_refl _ | apply And.intro)))
          obtain ⟨rfl, rfl⟩ := h'
          conv => whnf
          repeat' ((conv => whnf); first | rw [g0] | rw [g3] | rw [t1] | refine Rng.g ?_ | refine Ob.g ?_ | refine Ob.e ?_ | refine Ob.m ?_ | refine Ob.mk (Nat.le_of_ble_eq_true rfl) ?_ | refine JoinVC.on ?_ | refine Nils.mk (fun h => ?_) ?_ | refine Val.t ?_ | refine Val.d ?_ | refine Mm.mk ?_ | (refine Br.mk (fun h => ?_) (fun h => ?_) <;> first | (exfalso; omega; done) | (exfalso; simp at h; done) | skip))
          repeat refine Mm.mk ?_
          conv => whnf
          refine EndVC.mk _ rfl _ _ (secR.err hE (by decide)) ?_
          refine ⟨[some 0, some 1, some 2, some 3, some 4, some 5], rfl, rfl, ?_, ?_⟩ <;> repeat' (first | exact trivial | exact rfl | exact Iff.rfl | apply And.intro)
      · have c65 := s65 S ms hS (secA a (secX S a)) ⟨hg.s0, hg.s1, hg.cur, by show 0 ≤ secX S a ∧ secX S a ≤ 1048576; omega⟩ hi hb hkd
        by_cases hl : layE S (secA a (secX S a)) = 0
        · have hE : secE S a = 0 := by unfold secE; rw [if_neg hv, if_neg hh1, if_neg (by rintro (h | h | h); exact hc h.2; exact hbig h; exact h hl)]
          rw [hl, if_pos rfl] at c65
          generalize thkM S (secA a (secX S a)) = tk at c65
          rw [hX] at hbig c65
          rw [hned] at hn hdB hdC hbig hX c65
          clear hth
          rcases hk3 with ⟨hk, ht⟩ | ⟨hk, ht⟩ | ⟨hk, ht⟩
          all_goals
            subst ht
            rw [hk] at g0
            refine spec_of pMix (O := [(8, ([12], [⟨0, [], []⟩, ⟨1, [], []⟩, ⟨2, [], []⟩, ⟨4, [], []⟩, ⟨5, [], []⟩, ⟨6, [], []⟩, ⟨7, [], []⟩, ⟨8, [], []⟩, ⟨9, [], []⟩, ⟨10, [], []⟩, ⟨11, [], []⟩, ⟨3, [4, 5, 6, 7, 8, 9, 10, 11], []⟩, ⟨12, [], []⟩, ⟨13, [], []⟩, ⟨14, [], []⟩])), (10, ([], [⟨0, [], []⟩, ⟨1, [], []⟩, ⟨2, [], []⟩, ⟨3, [], []⟩, ⟨4, [], []⟩, ⟨5, [], []⟩, ⟨6, [], []⟩, ⟨7, [], []⟩, ⟨8, [], []⟩, ⟨9, [], []⟩, ⟨10, [], []⟩, ⟨11, [], []⟩, ⟨12, [], []⟩, ⟨13, [], []⟩, ⟨14, [], []⟩, ⟨15, [], []⟩, ⟨16, [], []⟩, ⟨17, [], []⟩, ⟨18, [], []⟩, ⟨19, [], []⟩, ⟨20, [], []⟩, ⟨21, [], []⟩, ⟨22, [0, 1, 2, 3, 4, 5, 6, 7, 8, 9, 10, 11, 12, 13, 14, 15, 16, 17, 18, 19], []⟩, ⟨23, [], []⟩, ⟨24, [], []⟩, ⟨25, [], []⟩]))]) Try.func24 (c := bodyOf Try.f24) rfl (by kernel_rfl) (by kernel_rfl) Try.ntmps24 (res := [.tmp 4, .tmp 5]) (by kernel_rfl) ?_
            repeat' ((conv => whnf); first | refine Rng.g ?_ | refine Ob.g ?_ | refine Ob.e ?_ | refine Ob.m ?_ | refine Ob.mk (Nat.le_of_ble_eq_true rfl) ?_ | refine JoinVC.on ?_ | refine Nils.mk (fun h => ?_) ?_ | refine Val.t ?_ | refine Val.d ?_ | refine Mm.mk ?_ | (refine Br.mk (fun h => ?_) (fun h => ?_) <;> first | (exfalso; omega; done) | (exfalso; simp at h; done) | skip))
            conv => whnf
            first | refine CallVC.mk [0, 1, 2, 3, 4, 5] _ _ _ rfl rfl rfl (c53) (fun r m' h' => ?_) | refine CallVC0.same [0, 1, 2, 3, 4, 5] _ _ _ rfl rfl rfl rfl (c53) (fun r m' h' => (by obtain ⟨rfl, rfl⟩ := h'; rfl)) (fun r m' h' => ?_) | (refine CallVC0.rows [0, 1, 2, 3, 4, 5] _ _ _ rfl rfl rfl ?_ (c53) (fun r m' h' => (by obtain ⟨rfl, rfl⟩ := h'; rfl)) (fun r m' h' => ?_); · (repeat' ((conv => whnf); first | exact trivial | exact rfl | exact Nat.le_refl _ | apply And.intro)))
            obtain ⟨rfl, rfl⟩ := h'
            conv => whnf
            repeat' ((conv => whnf); first | refine Rng.g ?_ | refine Ob.g ?_ | refine Ob.e ?_ | refine Ob.m ?_ | refine Ob.mk (Nat.le_of_ble_eq_true rfl) ?_ | refine JoinVC.on ?_ | refine Nils.mk (fun h => ?_) ?_ | refine Val.t ?_ | refine Val.d ?_ | refine Mm.mk ?_ | refine CallVC.pure rfl (c54) ?_ | refine CallVC0.pure rfl (c54) ?_ | (refine Br.mk (fun h => ?_) (fun h => ?_) <;> first | (exfalso; omega; done) | (exfalso; simp at h; done) | (exfalso; simp [ha] at h; done) | skip))
            conv => whnf
            first | refine CallVC.mk [0, 1, 2, 3, 4, 5] _ _ _ rfl rfl rfl (c62) (fun r m' h' => ?_) | refine CallVC0.same [0, 1, 2, 3, 4, 5] _ _ _ rfl rfl rfl rfl (c62) (fun r m' h' => (by obtain ⟨rfl, rfl⟩ := h'; rfl)) (fun r m' h' => ?_) | (refine CallVC0.rows [0, 1, 2, 3, 4, 5] _ _ _ rfl rfl rfl ?_ (c62) (fun r m' h' => (by obtain ⟨rfl, rfl⟩ := h'; rfl)) (fun r m' h' => ?_); · (repeat' ((conv => whnf); first | exact trivial | exact rfl | exact Nat.le_refl _ | apply And.intro)))
            obtain ⟨rfl, rfl⟩ := h'
            conv => whnf
            repeat' ((conv => whnf); first | refine Rng.g ?_ | refine Ob.g ?_ | refine Ob.e ?_ | refine Ob.m ?_ | refine Ob.mk (Nat.le_of_ble_eq_true rfl) ?_ | refine JoinVC.on ?_ | refine Nils.mk (fun h => ?_) ?_ | refine Val.t ?_ | refine Val.d ?_ | refine Mm.mk ?_ | (refine Br.mk (fun h => ?_) (fun h => ?_) <;> first | (exfalso; omega; done) | (exfalso; simp at h; done) | skip))
            conv => whnf
            first | refine CallVC.mk [0, 1, 2, 3, 4, 5] _ _ _ rfl rfl rfl (c63) (fun r m' h' => ?_) | refine CallVC0.same [0, 1, 2, 3, 4, 5] _ _ _ rfl rfl rfl rfl (c63) (fun r m' h' => (by obtain ⟨rfl, rfl⟩ := h'; rfl)) (fun r m' h' => ?_) | (refine CallVC0.rows [0, 1, 2, 3, 4, 5] _ _ _ rfl rfl rfl ?_ (c63) (fun r m' h' => (by obtain ⟨rfl, rfl⟩ := h'; rfl)) (fun r m' h' => ?_); · (repeat' ((conv => whnf); first | exact trivial | exact rfl | exact Nat.le_refl _ | apply And.intro)))
            obtain ⟨rfl, rfl⟩ := h'
            conv => whnf
            repeat' ((conv => whnf); first | rw [g0] | rw [g3] | rw [t1] | refine Rng.g ?_ | refine Ob.g ?_ | refine Ob.e ?_ | refine Ob.m ?_ | refine Ob.mk (Nat.le_of_ble_eq_true rfl) ?_ | refine JoinVC.on ?_ | refine Nils.mk (fun h => ?_) ?_ | refine Val.t ?_ | refine Val.d ?_ | refine Mm.mk ?_ | (refine Br.mk (fun h => ?_) (fun h => ?_) <;> first | (exfalso; omega; done) | (exfalso; simp at h; done) | skip))
            conv => whnf
            first | refine CallVC.mk [0, 1, 2, 3, 4, 5] _ _ _ rfl rfl rfl (c64) (fun r m' h' => ?_) | refine CallVC0.same [0, 1, 2, 3, 4, 5] _ _ _ rfl rfl rfl rfl (c64) (fun r m' h' => (by obtain ⟨rfl, rfl⟩ := h'; rfl)) (fun r m' h' => ?_) | (refine CallVC0.rows [0, 1, 2, 3, 4, 5] _ _ _ rfl rfl rfl ?_ (c64) (fun r m' h' => (by obtain ⟨rfl, rfl⟩ := h'; rfl)) (fun r m' h' => ?_); · (repeat' ((conv => whnf); first | exact trivial | exact rfl | exact Nat.le_refl _ | apply And.intro)))
            obtain ⟨rfl, rfl⟩ := h'
            conv => whnf
            repeat' ((conv => whnf); first | rw [g0] | rw [g3] | rw [t1] | refine Rng.g ?_ | refine Ob.g ?_ | refine Ob.e ?_ | refine Ob.m ?_ | refine Ob.mk (Nat.le_of_ble_eq_true rfl) ?_ | refine JoinVC.on ?_ | refine Nils.mk (fun h => ?_) ?_ | refine Val.t ?_ | refine Val.d ?_ | refine Mm.mk ?_ | (refine Br.mk (fun h => ?_) (fun h => ?_) <;> first | (exfalso; omega; done) | (exfalso; simp at h; done) | skip))
            conv => whnf
            first | refine CallVC.mk [0, 1, 2, 3, 4, 5] _ _ _ rfl rfl rfl (c65) (fun r m' h' => ?_) | refine CallVC0.same [0, 1, 2, 3, 4, 5] _ _ _ rfl rfl rfl rfl (c65) (fun r m' h' => (by obtain ⟨rfl, rfl⟩ := h'; rfl)) (fun r m' h' => ?_) | (refine CallVC0.rows [0, 1, 2, 3, 4, 5] _ _ _ rfl rfl rfl ?_ (c65) (fun r m' h' => (by obtain ⟨rfl, rfl⟩ := h'; rfl)) (fun r m' h' => ?_); · (repeat' ((conv => whnf); first | exact trivial | exact rfl | exact Nat.le_refl _ | apply And.intro)))
            obtain ⟨rfl, rfl⟩ := h'
            conv => whnf
            repeat' ((conv => whnf); first | refine Rng.g ?_ | refine Ob.g ?_ | refine Ob.e ?_ | refine Ob.m ?_ | refine Ob.mk (Nat.le_of_ble_eq_true rfl) ?_ | refine JoinVC.on ?_ | refine Nils.mk (fun h => ?_) ?_ | refine Val.t ?_ | refine Val.d ?_ | refine Mm.mk ?_ | (refine Br.mk (fun h => ?_) (fun h => ?_) <;> first | (exfalso; omega; done) | (exfalso; simp at h; done) | skip))
            repeat refine Mm.mk ?_
            conv => whnf
            refine EndVC.mk _ rfl _ _ (secR.ok hE hX) ?_
            refine ⟨[some 0, some 1, some 2, some 3, some 4, some 5], rfl, rfl, ?_, ?_⟩ <;> repeat' (first | exact trivial | exact rfl | exact Iff.rfl | apply And.intro)
        · have hE : secE S a = 15 := by unfold secE; rw [if_neg hv, if_neg hh1, if_pos (.inr (.inr hl))]
          rw [if_neg hl] at c65
          generalize layE S (secA a (secX S a)) = le at c65 hl
          rw [hX] at hbig c65
          rw [hned] at hn hdB hdC hbig c65
          clear hth
          rcases hk3 with ⟨hk, ht⟩ | ⟨hk, ht⟩ | ⟨hk, ht⟩
          all_goals
            subst ht
            rw [hk] at g0
            refine spec_of pMix (O := [(8, ([12], [⟨0, [], []⟩, ⟨1, [], []⟩, ⟨2, [], []⟩, ⟨4, [], []⟩, ⟨5, [], []⟩, ⟨6, [], []⟩, ⟨7, [], []⟩, ⟨8, [], []⟩, ⟨9, [], []⟩, ⟨10, [], []⟩, ⟨11, [], []⟩, ⟨3, [4, 5, 6, 7, 8, 9, 10, 11], []⟩, ⟨12, [], []⟩, ⟨13, [], []⟩, ⟨14, [], []⟩])), (10, ([], [⟨0, [], []⟩, ⟨1, [], []⟩, ⟨2, [], []⟩, ⟨3, [], []⟩, ⟨4, [], []⟩, ⟨5, [], []⟩, ⟨6, [], []⟩, ⟨7, [], []⟩, ⟨8, [], []⟩, ⟨9, [], []⟩, ⟨10, [], []⟩, ⟨11, [], []⟩, ⟨12, [], []⟩, ⟨13, [], []⟩, ⟨14, [], []⟩, ⟨15, [], []⟩, ⟨16, [], []⟩, ⟨17, [], []⟩, ⟨18, [], []⟩, ⟨19, [], []⟩, ⟨20, [], []⟩, ⟨21, [], []⟩, ⟨22, [0, 1, 2, 3, 4, 5, 6, 7, 8, 9, 10, 11, 12, 13, 14, 15, 16, 17, 18, 19], []⟩, ⟨23, [], []⟩, ⟨24, [], []⟩, ⟨25, [], []⟩]))]) Try.func24 (c := bodyOf Try.f24) rfl (by kernel_rfl) (by kernel_rfl) Try.ntmps24 (res := [.tmp 4, .tmp 5]) (by kernel_rfl) ?_
            repeat' ((conv => whnf); first | refine Rng.g ?_ | refine Ob.g ?_ | refine Ob.e ?_ | refine Ob.m ?_ | refine Ob.mk (Nat.le_of_ble_eq_true rfl) ?_ | refine JoinVC.on ?_ | refine Nils.mk (fun h => ?_) ?_ | refine Val.t ?_ | refine Val.d ?_ | refine Mm.mk ?_ | (refine Br.mk (fun h => ?_) (fun h => ?_) <;> first | (exfalso; omega; done) | (exfalso; simp at h; done) | skip))
            conv => whnf
            first | refine CallVC.mk [0, 1, 2, 3, 4, 5] _ _ _ rfl rfl rfl (c53) (fun r m' h' => ?_) | refine CallVC0.same [0, 1, 2, 3, 4, 5] _ _ _ rfl rfl rfl rfl (c53) (fun r m' h' => (by obtain ⟨rfl, rfl⟩ := h'; rfl)) (fun r m' h' => ?_) | (refine CallVC0.rows [0, 1, 2, 3, 4, 5] _ _ _ rfl rfl rfl ?_ (c53) (fun r m' h' => (by obtain ⟨rfl, rfl⟩ := h'; rfl)) (fun r m' h' => ?_); · (repeat' ((conv => whnf); first | exact trivial | exact rfl | exact Nat.le_refl _ | apply And.intro)))
            obtain ⟨rfl, rfl⟩ := h'
            conv => whnf
            repeat' ((conv => whnf); first | refine Rng.g ?_ | refine Ob.g ?_ | refine Ob.e ?_ | refine Ob.m ?_ | refine Ob.mk (Nat.le_of_ble_eq_true rfl) ?_ | refine JoinVC.on ?_ | refine Nils.mk (fun h => ?_) ?_ | refine Val.t ?_ | refine Val.d ?_ | refine Mm.mk ?_ | refine CallVC.pure rfl (c54) ?_ | refine CallVC0.pure rfl (c54) ?_ | (refine Br.mk (fun h => ?_) (fun h => ?_) <;> first | (exfalso; omega; done) | (exfalso; simp at h; done) | (exfalso; simp [ha] at h; done) | skip))
            conv => whnf
            first | refine CallVC.mk [0, 1, 2, 3, 4, 5] _ _ _ rfl rfl rfl (c62) (fun r m' h' => ?_) | refine CallVC0.same [0, 1, 2, 3, 4, 5] _ _ _ rfl rfl rfl rfl (c62) (fun r m' h' => (by obtain ⟨rfl, rfl⟩ := h'; rfl)) (fun r m' h' => ?_) | (refine CallVC0.rows [0, 1, 2, 3, 4, 5] _ _ _ rfl rfl rfl ?_ (c62) (fun r m' h' => (by obtain ⟨rfl, rfl⟩ := h'; rfl)) (fun r m' h' => ?_); · (repeat' ((conv => whnf); first | exact trivial | exact rfl | exact Nat.le_refl _ | apply And.intro)))
            obtain ⟨rfl, rfl⟩ := h'
            conv => whnf
            repeat' ((conv => whnf); first | refine Rng.g ?_ | refine Ob.g ?_ | refine Ob.e ?_ | refine Ob.m ?_ | refine Ob.mk (Nat.le_of_ble_eq_true rfl) ?_ | refine JoinVC.on ?_ | refine Nils.mk (fun h => ?_) ?_ | refine Val.t ?_ | refine Val.d ?_ | refine Mm.mk ?_ | (refine Br.mk (fun h => ?_) (fun h => ?_) <;> first | (exfalso; omega; done) | (exfalso; simp at h; done) | skip))
            conv => whnf
            first | refine CallVC.mk [0, 1, 2, 3, 4, 5] _ _ _ rfl rfl rfl (c63) (fun r m' h' => ?_) | refine CallVC0.same [0, 1, 2, 3, 4, 5] _ _ _ rfl rfl rfl rfl (c63) (fun r m' h' => (by obtain ⟨rfl, rfl⟩ := h'; rfl)) (fun r m' h' => ?_) | (refine CallVC0.rows [0, 1, 2, 3, 4, 5] _ _ _ rfl rfl rfl ?_ (c63) (fun r m' h' => (by obtain ⟨rfl, rfl⟩ := h'; rfl)) (fun r m' h' => ?_); · (repeat' ((conv => whnf); first | exact trivial | exact rfl | exact Nat.le_refl _ | apply And.intro)))
            obtain ⟨rfl, rfl⟩ := h'
            conv => whnf
            repeat' ((conv => whnf); first | rw [g0] | rw [g3] | rw [t1] | refine Rng.g ?_ | refine Ob.g ?_ | refine Ob.e ?_ | refine Ob.m ?_ | refine Ob.mk (Nat.le_of_ble_eq_true rfl) ?_ | refine JoinVC.on ?_ | refine Nils.mk (fun h => ?_) ?_ | refine Val.t ?_ | refine Val.d ?_ | refine Mm.mk ?_ | (refine Br.mk (fun h => ?_) (fun h => ?_) <;> first | (exfalso; omega; done) | (exfalso; simp at h; done) | skip))
            conv => whnf
            first | refine CallVC.mk [0, 1, 2, 3, 4, 5] _ _ _ rfl rfl rfl (c64) (fun r m' h' => ?_) | refine CallVC0.same [0, 1, 2, 3, 4, 5] _ _ _ rfl rfl rfl rfl (c64) (fun r m' h' => (by obtain ⟨rfl, rfl⟩ := h'; rfl)) (fun r m' h' => ?_) | (refine CallVC0.rows [0, 1, 2, 3, 4, 5] _ _ _ rfl rfl rfl ?_ (c64) (fun r m' h' => (by obtain ⟨rfl, rfl⟩ := h'; rfl)) (fun r m' h' => ?_); · (repeat' ((conv => whnf); first | exact trivial | exact rfl | exact Nat.le_refl _ | apply And.intro)))
            obtain ⟨rfl, rfl⟩ := h'
            conv => whnf
            repeat' ((conv => whnf); first | rw [g0] | rw [g3] | rw [t1] | refine Rng.g ?_ | refine Ob.g ?_ | refine Ob.e ?_ | refine Ob.m ?_ | refine Ob.mk (Nat.le_of_ble_eq_true rfl) ?_ | refine JoinVC.on ?_ | refine Nils.mk (fun h => ?_) ?_ | refine Val.t ?_ | refine Val.d ?_ | refine Mm.mk ?_ | (refine Br.mk (fun h => ?_) (fun h => ?_) <;> first | (exfalso; omega; done) | (exfalso; simp at h; done) | skip))
            conv => whnf
            first | refine CallVC.mk [0, 1, 2, 3, 4, 5] _ _ _ rfl rfl rfl (c65) (fun r m' h' => ?_) | refine CallVC0.same [0, 1, 2, 3, 4, 5] _ _ _ rfl rfl rfl rfl (c65) (fun r m' h' => (by obtain ⟨rfl, rfl⟩ := h'; rfl)) (fun r m' h' => ?_) | (refine CallVC0.rows [0, 1, 2, 3, 4, 5] _ _ _ rfl rfl rfl ?_ (c65) (fun r m' h' => (by obtain ⟨rfl, rfl⟩ := h'; rfl)) (fun r m' h' => ?_); · (repeat' ((conv => whnf); first | exact trivial | exact rfl | exact Nat.le_refl _ | apply And.intro)))
            obtain ⟨rfl, rfl⟩ := h'
            conv => whnf
            repeat' ((conv => whnf); first | refine Rng.g ?_ | refine Ob.g ?_ | refine Ob.e ?_ | refine Ob.m ?_ | refine Ob.mk (Nat.le_of_ble_eq_true rfl) ?_ | refine JoinVC.on ?_ | refine Nils.mk (fun h => ?_) ?_ | refine Val.t ?_ | refine Val.d ?_ | refine Mm.mk ?_ | (refine Br.mk (fun h => ?_) (fun h => ?_) <;> first | (exfalso; omega; done) | (exfalso; simp at h; done) | skip))
            repeat refine Mm.mk ?_
            conv => whnf
            refine EndVC.mk _ rfl _ _ (secR.err hE (by decide)) ?_
            refine ⟨[some 0, some 1, some 2, some 3, some 4, some 5], rfl, rfl, ?_, ?_⟩ <;> repeat' (first | exact trivial | exact rfl | exact Iff.rfl | apply And.intro)
  · have hX : secX S a = 0 := by unfold secX; rw [if_neg hn]
    have c65 := s65 S ms hS (secA a 0) hg0 hi hb hkd
    by_cases hl : layE S (secA a 0) = 0
    · have hE : secE S a = 0 := by unfold secE; rw [if_neg hv, if_neg hh1, if_neg (by rw [hX]; rintro (h | h | h); exact hn h.1; omega; exact h hl)]
      rw [hl, if_pos rfl] at c65
      generalize thkM S (secA a 0) = tk at c65
      rw [hned] at hn
      clear hth
      rcases hk3 with ⟨hk, ht⟩ | ⟨hk, ht⟩ | ⟨hk, ht⟩
      all_goals
        subst ht
        rw [hk] at g0
        refine spec_of pMix (O := [(8, ([12], [⟨0, [], []⟩, ⟨1, [], []⟩, ⟨2, [], []⟩, ⟨4, [], []⟩, ⟨5, [], []⟩, ⟨6, [], []⟩, ⟨7, [], []⟩, ⟨8, [], []⟩, ⟨9, [], []⟩, ⟨10, [], []⟩, ⟨11, [], []⟩, ⟨3, [4, 5, 6, 7, 8, 9, 10, 11], []⟩, ⟨12, [], []⟩, ⟨13, [], []⟩, ⟨14, [], []⟩])), (10, ([], [⟨0, [], []⟩, ⟨1, [], []⟩, ⟨2, [], []⟩, ⟨3, [], []⟩, ⟨4, [], []⟩, ⟨5, [], []⟩, ⟨6, [], []⟩, ⟨7, [], []⟩, ⟨8, [], []⟩, ⟨9, [], []⟩, ⟨10, [], []⟩, ⟨11, [], []⟩, ⟨12, [], []⟩, ⟨13, [], []⟩, ⟨14, [], []⟩, ⟨15, [], []⟩, ⟨16, [], []⟩, ⟨17, [], []⟩, ⟨18, [], []⟩, ⟨19, [], []⟩, ⟨20, [], []⟩, ⟨21, [], []⟩, ⟨22, [0, 1, 2, 3, 4, 5, 6, 7, 8, 9, 10, 11, 12, 13, 14, 15, 16, 17, 18, 19], []⟩, ⟨23, [], []⟩, ⟨24, [], []⟩, ⟨25, [], []⟩]))]) Try.func24 (c := bodyOf Try.f24) rfl (by kernel_rfl) (by kernel_rfl) Try.ntmps24 (res := [.tmp 4, .tmp 5]) (by kernel_rfl) ?_
        repeat' ((conv => whnf); first | refine Rng.g ?_ | refine Ob.g ?_ | refine Ob.e ?_ | refine Ob.m ?_ | refine Ob.mk (Nat.le_of_ble_eq_true rfl) ?_ | refine JoinVC.on ?_ | refine Nils.mk (fun h => ?_) ?_ | refine Val.t ?_ | refine Val.d ?_ | refine Mm.mk ?_ | (refine Br.mk (fun h => ?_) (fun h => ?_) <;> first | (exfalso; omega; done) | (exfalso; simp at h; done) | skip))
        conv => whnf
        first | refine CallVC.mk [0, 1, 2, 3, 4, 5] _ _ _ rfl rfl rfl (c53) (fun r m' h' => ?_) | refine CallVC0.same [0, 1, 2, 3, 4, 5] _ _ _ rfl rfl rfl rfl (c53) (fun r m' h' => (by obtain ⟨rfl, rfl⟩ := h'; rfl)) (fun r m' h' => ?_) | (refine CallVC0.rows [0, 1, 2, 3, 4, 5] _ _ _ rfl rfl rfl ?_ (c53) (fun r m' h' => (by obtain ⟨rfl, rfl⟩ := h'; rfl)) (fun r m' h' => ?_); · (repeat' ((conv => whnf); first | exact trivial | exact rfl | exact Nat.le_refl _ | apply And.intro)))
        obtain ⟨rfl, rfl⟩ := h'
        conv => whnf
        repeat' ((conv => whnf); first | refine Rng.g ?_ | refine Ob.g ?_ | refine Ob.e ?_ | refine Ob.m ?_ | refine Ob.mk (Nat.le_of_ble_eq_true rfl) ?_ | refine JoinVC.on ?_ | refine Nils.mk (fun h => ?_) ?_ | refine Val.t ?_ | refine Val.d ?_ | refine Mm.mk ?_ | refine CallVC.pure rfl (c54) ?_ | refine CallVC0.pure rfl (c54) ?_ | (refine Br.mk (fun h => ?_) (fun h => ?_) <;> first | (exfalso; omega; done) | (exfalso; simp at h; done) | (exfalso; simp [ha] at h; done) | skip))
        conv => whnf
        first | refine CallVC.mk [0, 1, 2, 3, 4, 5] _ _ _ rfl rfl rfl (c62) (fun r m' h' => ?_) | refine CallVC0.same [0, 1, 2, 3, 4, 5] _ _ _ rfl rfl rfl rfl (c62) (fun r m' h' => (by obtain ⟨rfl, rfl⟩ := h'; rfl)) (fun r m' h' => ?_) | (refine CallVC0.rows [0, 1, 2, 3, 4, 5] _ _ _ rfl rfl rfl ?_ (c62) (fun r m' h' => (by obtain ⟨rfl, rfl⟩ := h'; rfl)) (fun r m' h' => ?_); · (repeat' ((conv => whnf); first | exact trivial | exact rfl | exact Nat.le_refl _ | apply And.intro)))
        obtain ⟨rfl, rfl⟩ := h'
        conv => whnf
        repeat' ((conv => whnf); first | refine Rng.g ?_ | refine Ob.g ?_ | refine Ob.e ?_ | refine Ob.m ?_ | refine Ob.mk (Nat.le_of_ble_eq_true rfl) ?_ | refine JoinVC.on ?_ | refine Nils.mk (fun h => ?_) ?_ | refine Val.t ?_ | refine Val.d ?_ | refine Mm.mk ?_ | (refine Br.mk (fun h => ?_) (fun h => ?_) <;> first | (exfalso; omega; done) | (exfalso; simp at h; done) | skip))
        conv => whnf
        first | refine CallVC.mk [0, 1, 2, 3, 4, 5] _ _ _ rfl rfl rfl (c63) (fun r m' h' => ?_) | refine CallVC0.same [0, 1, 2, 3, 4, 5] _ _ _ rfl rfl rfl rfl (c63) (fun r m' h' => (by obtain ⟨rfl, rfl⟩ := h'; rfl)) (fun r m' h' => ?_) | (refine CallVC0.rows [0, 1, 2, 3, 4, 5] _ _ _ rfl rfl rfl ?_ (c63) (fun r m' h' => (by obtain ⟨rfl, rfl⟩ := h'; rfl)) (fun r m' h' => ?_); · (repeat' ((conv => whnf); first | exact trivial | exact rfl | exact Nat.le_refl _ | apply And.intro)))
        obtain ⟨rfl, rfl⟩ := h'
        conv => whnf
        repeat' ((conv => whnf); first | rw [g0] | rw [g3] | rw [t1] | refine Rng.g ?_ | refine Ob.g ?_ | refine Ob.e ?_ | refine Ob.m ?_ | refine Ob.mk (Nat.le_of_ble_eq_true rfl) ?_ | refine JoinVC.on ?_ | refine Nils.mk (fun h => ?_) ?_ | refine Val.t ?_ | refine Val.d ?_ | refine Mm.mk ?_ | (refine Br.mk (fun h => ?_) (fun h => ?_) <;> first | (exfalso; omega; done) | (exfalso; simp at h; done) | skip))
        conv => whnf
        first | refine CallVC.mk [0, 1, 2, 3, 4, 5] _ _ _ rfl rfl rfl (c64) (fun r m' h' => ?_) | refine CallVC0.same [0, 1, 2, 3, 4, 5] _ _ _ rfl rfl rfl rfl (c64) (fun r m' h' => (by obtain ⟨rfl, rfl⟩ := h'; rfl)) (fun r m' h' => ?_) | (refine CallVC0.rows [0, 1, 2, 3, 4, 5] _ _ _ rfl rfl rfl ?_ (c64) (fun r m' h' => (by obtain ⟨rfl, rfl⟩ := h'; rfl)) (fun r m' h' => ?_); · (repeat' ((conv => whnf); first | exact trivial | exact rfl | exact Nat.le_refl _ | apply And.intro)))
        obtain ⟨rfl, rfl⟩ := h'
        conv => whnf
        repeat' ((conv => whnf); first | rw [g0] | rw [g3] | rw [t1] | refine Rng.g ?_ | refine Ob.g ?_ | refine Ob.e ?_ | refine Ob.m ?_ | refine Ob.mk (Nat.le_of_ble_eq_true rfl) ?_ | refine JoinVC.on ?_ | refine Nils.mk (fun h => ?_) ?_ | refine Val.t ?_ | refine Val.d ?_ | refine Mm.mk ?_ | (refine Br.mk (fun h => ?_) (fun h => ?_) <;> first | (exfalso; omega; done) | (exfalso; simp at h; done) | skip))
        conv => whnf
        first | refine CallVC.mk [0, 1, 2, 3, 4, 5] _ _ _ rfl rfl rfl (c65) (fun r m' h' => ?_) | refine CallVC0.same [0, 1, 2, 3, 4, 5] _ _ _ rfl rfl rfl rfl (c65) (fun r m' h' => (by obtain ⟨rfl, rfl⟩ := h'; rfl)) (fun r m' h' => ?_) | (refine CallVC0.rows [0, 1, 2, 3, 4, 5] _ _ _ rfl rfl rfl ?_ (c65) (fun r m' h' => (by obtain ⟨rfl, rfl⟩ := h'; rfl)) (fun r m' h' => ?_); · (repeat' ((conv => whnf); first | exact trivial | exact rfl | exact Nat.le_refl _ | apply And.intro)))
        obtain ⟨rfl, rfl⟩ := h'
        conv => whnf
        repeat' ((conv => whnf); first | refine Rng.g ?_ | refine Ob.g ?_ | refine Ob.e ?_ | refine Ob.m ?_ | refine Ob.mk (Nat.le_of_ble_eq_true rfl) ?_ | refine JoinVC.on ?_ | refine Nils.mk (fun h => ?_) ?_ | refine Val.t ?_ | refine Val.d ?_ | refine Mm.mk ?_ | (refine Br.mk (fun h => ?_) (fun h => ?_) <;> first | (exfalso; omega; done) | (exfalso; simp at h; done) | skip))
        repeat refine Mm.mk ?_
        conv => whnf
        refine EndVC.mk _ rfl _ _ (secR.ok hE hX) ?_
        refine ⟨[some 0, some 1, some 2, some 3, some 4, some 5], rfl, rfl, ?_, ?_⟩ <;> repeat' (first | exact trivial | exact rfl | exact Iff.rfl | apply And.intro)
    · have hE : secE S a = 15 := by unfold secE; rw [if_neg hv, if_neg hh1, if_pos (.inr (.inr (by rw [hX]; exact hl)))]
      rw [if_neg hl] at c65
      generalize layE S (secA a 0) = le at c65 hl
      rw [hned] at hn
      clear hth
      rcases hk3 with ⟨hk, ht⟩ | ⟨hk, ht⟩ | ⟨hk, ht⟩
      all_goals
        subst ht
        rw [hk] at g0
        refine spec_of pMix (O := [(8, ([12], [⟨0, [], []⟩, ⟨1, [], []⟩, ⟨2, [], []⟩, ⟨4, [], []⟩, ⟨5, [], []⟩, ⟨6, [], []⟩, ⟨7, [], []⟩, ⟨8, [], []⟩, ⟨9, [], []⟩, ⟨10, [], []⟩, ⟨11, [], []⟩, ⟨3, [4, 5, 6, 7, 8, 9, 10, 11], []⟩, ⟨12, [], []⟩, ⟨13, [], []⟩, ⟨14, [], []⟩])), (10, ([], [⟨0, [], []⟩, ⟨1, [], []⟩, ⟨2, [], []⟩, ⟨3, [], []⟩, ⟨4, [], []⟩, ⟨5, [], []⟩, ⟨6, [], []⟩, ⟨7, [], []⟩, ⟨8, [], []⟩, ⟨9, [], []⟩, ⟨10, [], []⟩, ⟨11, [], []⟩, ⟨12, [], []⟩, ⟨13, [], []⟩, ⟨14, [], []⟩, ⟨15, [], []⟩, ⟨16, [], []⟩, ⟨17, [], []⟩, ⟨18, [], []⟩, ⟨19, [], []⟩, ⟨20, [], []⟩, ⟨21, [], []⟩, ⟨22, [0, 1, 2, 3, 4, 5, 6, 7, 8, 9, 10, 11, 12, 13, 14, 15, 16, 17, 18, 19], []⟩, ⟨23, [], []⟩, ⟨24, [], []⟩, ⟨25, [], []⟩]))]) Try.func24 (c := bodyOf Try.f24) rfl (by kernel_rfl) (by kernel_rfl) Try.ntmps24 (res := [.tmp 4, .tmp 5]) (by kernel_rfl) ?_
        repeat' ((conv => whnf); first | refine Rng.g ?_ | refine Ob.g ?_ | refine Ob.e ?_ | refine Ob.m ?_ | refine Ob.mk (Nat.le_of_ble_eq_true rfl) ?_ | refine JoinVC.on ?_ | refine Nils.mk (fun h => ?_) ?_ | refine Val.t ?_ | refine Val.d ?_ | refine Mm.mk ?_ | (refine Br.mk (fun h => ?_) (fun h => ?_) <;> first | (exfalso; omega; done) | (exfalso; simp at h; done) | skip))
        conv => whnf
        first | refine CallVC.mk [0, 1, 2, 3, 4, 5] _ _ _ rfl rfl rfl (c53) (fun r m' h' => ?_) | refine CallVC0.same [0, 1, 2, 3, 4, 5] _ _ _ rfl rfl rfl rfl (c53) (fun r m' h' => (by obtain ⟨rfl, rfl⟩ := h'; rfl)) (fun r m' h' => ?_) | (refine CallVC0.rows [0, 1, 2, 3, 4, 5] _ _ _ rfl rfl rfl ?_ (c53) (fun r m' h' => (by obtain ⟨rfl, rfl⟩ := h'; rfl)) (fun r m' h' => ?_); · (repeat' ((conv => whnf); first | exact trivial | exact rfl | exact Nat.le_refl _ | apply And.intro)))
        obtain ⟨rfl, rfl⟩ := h'
        conv => whnf
        repeat' ((conv => whnf); first | refine Rng.g ?_ | refine Ob.g ?_ | refine Ob.e ?_ | refine Ob.m ?_ | refine Ob.mk (Nat.le_of_ble_eq_true rfl) ?_ | refine JoinVC.on ?_ | refine Nils.mk (fun h => ?_) ?_ | refine Val.t ?_ | refine Val.d ?_ | refine Mm.mk ?_ | refine CallVC.pure rfl (c54) ?_ | refine CallVC0.pure rfl (c54) ?_ | (refine Br.mk (fun h => ?_) (fun h => ?_) <;> first | (exfalso; omega; done) | (exfalso; simp at h; done) | (exfalso; simp [ha] at h; done) | skip))
        conv => whnf
        first | refine CallVC.mk [0, 1, 2, 3, 4, 5] _ _ _ rfl rfl rfl (c62) (fun r m' h' => ?_) | refine CallVC0.same [0, 1, 2, 3, 4, 5] _ _ _ rfl rfl rfl rfl (c62) (fun r m' h' => (by obtain ⟨rfl, rfl⟩ := h'; rfl)) (fun r m' h' => ?_) | (refine CallVC0.rows [0, 1, 2, 3, 4, 5] _ _ _ rfl rfl rfl ?_ (c62) (fun r m' h' => (by obtain ⟨rfl, rfl⟩ := h'; rfl)) (fun r m' h' => ?_); · (repeat' ((conv => whnf); first | exact trivial | exact rfl | exact Nat.le_refl _ | apply And.intro)))
        obtain ⟨rfl, rfl⟩ := h'
        conv => whnf
        repeat' ((conv => whnf); first | refine Rng.g ?_ | refine Ob.g ?_ | refine Ob.e ?_ | refine Ob.m ?_ | refine Ob.mk (Nat.le_of_ble_eq_true rfl) ?_ | refine JoinVC.on ?_ | refine Nils.mk (fun h => ?_) ?_ | refine Val.t ?_ | refine Val.d ?_ | refine Mm.mk ?_ | (refine Br.mk (fun h => ?_) (fun h => ?_) <;> first | (exfalso; omega; done) | (exfalso; simp at h; done) | skip))
        conv => whnf
        first | refine CallVC.mk [0, 1, 2, 3, 4, 5] _ _ _ rfl rfl rfl (c63) (fun r m' h' => ?_) | refine CallVC0.same [0, 1, 2, 3, 4, 5] _ _ _ rfl rfl rfl rfl (c63) (fun r m' h' => (by obtain ⟨rfl, rfl⟩ := h'; rfl)) (fun r m' h' => ?_) | (refine CallVC0.rows [0, 1, 2, 3, 4, 5] _ _ _ rfl rfl rfl ?_ (c63) (fun r m' h' => (by obtain ⟨rfl, rfl⟩ := h'; rfl)) (fun r m' h' => ?_); · (repeat' ((conv => whnf); first | exact trivial | exact rfl | exact Nat.le_refl _ | apply And.intro)))
        obtain ⟨rfl, rfl⟩ := h'
        conv => whnf
        repeat' ((conv => whnf); first | rw [g0] | rw [g3] | rw [t1] | refine Rng.g ?_ | refine Ob.g ?_ | refine Ob.e ?_ | refine Ob.m ?_ | refine Ob.mk (Nat.le_of_ble_eq_true rfl) ?_ | refine JoinVC.on ?_ | refine Nils.mk (fun h => ?_) ?_ | refine Val.t ?_ | refine Val.d ?_ | refine Mm.mk ?_ | (refine Br.mk (fun h => ?_) (fun h => ?_) <;> first | (exfalso; omega; done) | (exfalso; simp at h; done) | skip))
        conv => whnf
        first | refine CallVC.mk [0, 1, 2, 3, 4, 5] _ _ _ rfl rfl rfl (c64) (fun r m' h' => ?_) | refine CallVC0.same [0, 1, 2, 3, 4, 5] _ _ _ rfl rfl rfl rfl (c64) (fun r m' h' => (by obtain ⟨rfl, rfl⟩ := h'; rfl)) (fun r m' h' => ?_) | (refine CallVC0.rows [0, 1, 2, 3, 4, 5] _ _ _ rfl rfl rfl ?_ (c64) (fun r m' h' => (by obtain ⟨rfl, rfl⟩ := h'; rfl)) (fun r m' h' => ?_); · (repeat' ((conv => whnf); first | exact trivial | exact rfl | exact Nat.le_refl _ | apply And.intro)))
        obtain ⟨rfl, rfl⟩ := h'
        conv => whnf
        repeat' ((conv => whnf); first | rw [g0] | rw [g3] | rw [t1] | refine Rng.g ?_ | refine Ob.g ?_ | refine Ob.e ?_ | refine Ob.m ?_ | refine Ob.mk (Nat.le_of_ble_eq_true rfl) ?_ | refine JoinVC.on ?_ | refine Nils.mk (fun h => ?_) ?_ | refine Val.t ?_ | refine Val.d ?_ | refine Mm.mk ?_ | (refine Br.mk (fun h => ?_) (fun h => ?_) <;> first | (exfalso; omega; done) | (exfalso; simp at h; done) | skip))
        conv => whnf
        first | refine CallVC.mk [0, 1, 2, 3, 4, 5] _ _ _ rfl rfl rfl (c65) (fun r m' h' => ?_) | refine CallVC0.same [0, 1, 2, 3, 4, 5] _ _ _ rfl rfl rfl rfl (c65) (fun r m' h' => (by obtain ⟨rfl, rfl⟩ := h'; rfl)) (fun r m' h' => ?_) | (refine CallVC0.rows [0, 1, 2, 3, 4, 5] _ _ _ rfl rfl rfl ?_ (c65) (fun r m' h' => (by obtain ⟨rfl, rfl⟩ := h'; rfl)) (fun r m' h' => ?_); · (repeat' ((conv => whnf); first | exact trivial | exact rfl | exact Nat.le_refl _ | apply And.intro)))
        obtain ⟨rfl, rfl⟩ := h'
        conv => whnf
        repeat' ((conv => whnf); first | refine Rng.g ?_ | refine Ob.g ?_ | refine Ob.e ?_ | refine Ob.m ?_ | refine Ob.mk (Nat.le_of_ble_eq_true rfl) ?_ | refine JoinVC.on ?_ | refine Nils.mk (fun h => ?_) ?_ | refine Val.t ?_ | refine Val.d ?_ | refine Mm.mk ?_ | (refine Br.mk (fun h => ?_) (fun h => ?_) <;> first | (exfalso; omega; done) | (exfalso; simp at h; done) | skip))
        repeat refine Mm.mk ?_
        conv => whnf
        refine EndVC.mk _ rfl _ _ (secR.err hE (by decide)) ?_
        refine ⟨[some 0, some 1, some 2, some 3, some 4, some 5], rfl, rfl, ?_, ?_⟩ <;> repeat' (first | exact trivial | exact rfl | exact Iff.rfl | apply And.intro)
end Go.Sx

namespace Go.Sx
open Go Go.Proofs
set_option maxRecDepth 10000
set_option maxHeartbeats 4000000
/-! ### Seconds: what they are good for -/
theorem ceil_lt {P N d : Int} (hd : 0 < d) : P < (N + d - 1) / d ↔ P * d < N := by
  have h : P + 1 ≤ (N + d - 1) / d ↔ (P + 1) * d ≤ N + d - 1 := Int.le_ediv_iff_mul_le hd
  rw [Int.add_mul, Int.one_mul] at h
  omega
theorem thkM_sec (S : Sho) (a : Act2) (x : Int) : thkM S (secA a x) = 1000 * (fstM S a + a.cur * x * (S.t a.bath).yd / 1000) / (S.p a.plate).area := rfl
theorem thin_iff {S : Sho} {a : Act2} (ha : 1 ≤ (S.p a.plate).area) (hy : 1 ≤ (S.t a.bath).yd) (hc : 0 ≤ a.cur) {x : Int} (hx : 0 ≤ x) :
    (thkM S (secA a x) < S.r.thin ((S.p a.plate).kd + 1) ↔ (0 < nedM S a ∧ (a.cur = 0 ∨ x < secX S a))) := by
  have h1 : thkM S (secA a x) < S.r.thin ((S.p a.plate).kd + 1) ↔ 1000 * (fstM S a + a.cur * x * (S.t a.bath).yd / 1000) < S.r.thin ((S.p a.plate).kd + 1) * (S.p a.plate).area := by
    rw [thkM_sec]
    exact Int.ediv_lt_iff_lt_mul (by omega)
  rw [h1]
  have hP : 0 ≤ a.cur * x * (S.t a.bath).yd := Int.mul_nonneg (Int.mul_nonneg hc hx) (by omega)
  have h2 : (1000 * (fstM S a + a.cur * x * (S.t a.bath).yd / 1000) < S.r.thin ((S.p a.plate).kd + 1) * (S.p a.plate).area) ↔ a.cur * x * (S.t a.bath).yd < 1000 * nedM S a := by
    unfold nedM
    omega
  rw [h2]
  by_cases hn : 0 < nedM S a
  · have e1 := ceil_lt (P := a.cur * x) (N := 1000 * nedM S a) (d := (S.t a.bath).yd) (by omega)
    rw [← e1]
    by_cases hc0 : a.cur = 0
    · have hv : 0 < (1000 * nedM S a + (S.t a.bath).yd - 1) / (S.t a.bath).yd := (ceil_lt (by omega)).2 (by omega)
      rw [hc0, Int.zero_mul]
      exact ⟨fun _ => ⟨hn, .inl rfl⟩, fun _ => hv⟩
    · have e : secX S a = ((1000 * nedM S a + (S.t a.bath).yd - 1) / (S.t a.bath).yd + a.cur - 1) / a.cur := by unfold secX; rw [if_pos hn]
      have e2 := ceil_lt (P := x) (N := (1000 * nedM S a + (S.t a.bath).yd - 1) / (S.t a.bath).yd) (d := a.cur) (by omega)
      rw [Int.mul_comm x a.cur] at e2
      rw [e, e2]
      exact ⟨fun h => ⟨hn, .inr h⟩, fun h => h.2.resolve_left hc0⟩
  · exact ⟨fun h => by omega, fun h => absurd h.1 hn⟩
theorem secX_nn {S : Sho} {a : Act2} (hy : 1 ≤ (S.t a.bath).yd) (hc : 0 ≤ a.cur) : 0 ≤ secX S a := by
  unfold secX
  split
  · refine Int.ediv_nonneg ?_ hc
    have : 0 < (1000 * nedM S a + (S.t a.bath).yd - 1) / (S.t a.bath).yd := (ceil_lt (by omega)).2 (by omega)
    omega
  · exact Int.le_refl _
end Go.Sx

namespace Go.Sx
open Go Go.Proofs
set_option maxRecDepth 10000
set_option maxHeartbeats 8000000
/-! ### The reference's lay, also for a second too many -/
structure GroX (a : Act2) : Prop where
  s0 : 0 ≤ a.s0 ∧ a.s0 ≤ 1048576
  s1 : 0 ≤ a.s1 ∧ a.s1 ≤ 1048576
  cur : 0 ≤ a.cur ∧ a.cur ≤ 1048576
  sec : 0 ≤ a.sec ∧ a.sec ≤ 1048577
theorem s67x (x y z : Int) (h1 : 0 ≤ x ∧ x ≤ 1048576) (h2 : 0 ≤ y ∧ y ≤ 1048577) (h3 : 0 ≤ z ∧ z ≤ 1000) : PSpec Try.prog 67 [I x, I y, I z] (.x (I (x * y * z / 1000))) := by
  have e1 := mulB h1 h2
  have e2 := mulB e1 h3
  refine spec_of pMix (O := []) Try.func67 (c := bodyOf Try.f67) rfl (by kernel_rfl) (by kernel_rfl) Try.ntmps67 (res := [.tmp 6]) (by kernel_rfl) ?_
  repeat' ((conv => whnf); first | refine Rng.g ?_ | refine Ob.g ?_ | refine Ob.e ?_ | refine Ob.m ?_ | refine Ob.mk (Nat.le_of_ble_eq_true rfl) ?_ | refine JoinVC.on ?_ | refine Nils.mk (fun h => ?_) ?_ | refine Val.t ?_ | refine Val.d ?_ | refine Mm.mk ?_ | (refine Br.mk (fun h => ?_) (fun h => ?_) <;> first | (exfalso; omega; done) | (exfalso; simp at h; done) | skip))
  repeat refine Mm.mk ?_
  refine EndVC.mk _ rfl _ _ ⟨rfl, rfl⟩ ?_
  refine ⟨[], rfl, rfl, ?_, ?_⟩ <;> repeat' (first | exact trivial | exact rfl | exact Iff.rfl | apply And.intro)
theorem thkX (S : Sho) (hS : ShOK S) (a : Act2) (ha : GroX a) (hi : inP S a.plate) (hb : inT S a.bath) : (0 ≤ fstM S a ∧ fstM S a ≤ 1099511627776) ∧ (0 ≤ allM S a ∧ allM S a ≤ 2199024304128) ∧ (0 ≤ 1000 * fstM S a / (S.p a.plate).area ∧ 1000 * fstM S a / (S.p a.plate).area ≤ 1099511627776000) ∧ 0 ≤ thkM S a ∧ thkM S a ≤ 2199024304128000 := by
  obtain ⟨hb1, hb2⟩ := hb
  obtain ⟨hi1, hi2⟩ := hi
  have ht : 1 ≤ (S.t a.bath).yd ∧ (S.t a.bath).yd ≤ 1000 := (hS.tk a.bath.toNat (by omega)).2.1
  have hp : 1 ≤ (S.p a.plate).area ∧ (S.p a.plate).area ≤ 1048576 := (hS.pl a.plate.toNat (by omega)).area
  have h1 := mulB ha.s0 ha.s1
  have h2 := mulB ha.cur ha.sec
  have h3 := mulB h1 (show 0 ≤ (S.t a.bath).yd ∧ (S.t a.bath).yd ≤ 1000 by omega)
  have h4 := mulB h2 (show 0 ≤ (S.t a.bath).yd ∧ (S.t a.bath).yd ≤ 1000 by omega)
  have e1 : 0 ≤ fstM S a ∧ fstM S a ≤ 1099511627776 := by unfold fstM; omega
  have e2 : 0 ≤ allM S a ∧ allM S a ≤ 2199024304128 := by unfold allM fstM; omega
  exact ⟨e1, e2, divB ⟨by omega, by omega⟩ hp.1, divB ⟨by omega, by omega⟩ hp.1⟩
theorem s66x (S : Sho) (hS : ShOK S) (a : Act2) (ha : GroX a) : HSpec Try.prog 66 [.one (.ptr 0 0), a.x] (rfM S) (fun r m' => r = .x (I (herE S a)) ∧ m' = rfK S) := by
  have c72 := s72 S a.plate
  have lt := tkA_len S.tk
  have lp := plA_len S.pl
  have hr := hS.r
  have hsoft := hr.soft
  have hhard := hr.hard
  have hs0 := ha.s0
  have hcur := ha.cur
  unfold herE
  by_cases hi : inP S a.plate
  · have hi' := hi
    unfold inP at hi'
    obtain ⟨hi1, hi2⟩ := hi'
    have hp := hS.pl a.plate.toNat (by omega)
    have har := hp.area
    have g3 := pl_3 S.pl a.plate.toNat
    have g6 := pl_6 S.pl a.plate.toNat
    have c75 := s75 S hS a.plate hi
    have e1 := mulB hsoft (show 0 ≤ (S.pl.getD a.plate.toNat p0).area ∧ (S.pl.getD a.plate.toNat p0).area ≤ 1048576 by omega)
    have e2 := mulB hhard (show 0 ≤ (S.pl.getD a.plate.toNat p0).area ∧ (S.pl.getD a.plate.toNat p0).area ≤ 1048576 by omega)
    by_cases hb : a.bath < 0 ∨ (S.tk.length : Int) ≤ a.bath
    · rw [if_pos (.inr hb)]
      refine spec_of pMix (O := [(3, ([8], [⟨0, [], []⟩, ⟨1, [], []⟩, ⟨2, [], []⟩, ⟨3, [], []⟩, ⟨4, [], []⟩, ⟨5, [], []⟩, ⟨6, [], []⟩, ⟨7, [], []⟩, ⟨8, [], []⟩, ⟨9, [], []⟩]))]) Try.func66 (c := bodyOf Try.f66) rfl (by kernel_rfl) (by kernel_rfl) Try.ntmps66 (res := [.tmp 4]) (by kernel_rfl) ?_
      repeat' ((conv => whnf); first | refine Rng.g ?_ | refine Ob.g ?_ | refine Ob.e ?_ | refine Ob.m ?_ | refine Ob.mk (Nat.le_of_ble_eq_true rfl) ?_ | refine JoinVC.on ?_ | refine Nils.mk (fun h => ?_) ?_ | refine Val.t ?_ | refine Val.d ?_ | refine Mm.mk ?_ | (refine Br.mk (fun h => ?_) (fun h => ?_) <;> first | (exfalso; omega; done) | (exfalso; simp at h; done) | skip))
      conv => whnf
      first | refine CallVC.mk [0, 1, 2, 3, 4, 5] _ _ _ rfl rfl rfl (c72) (fun r m' h' => ?_) | refine CallVC0.same [0, 1, 2, 3, 4, 5] _ _ _ rfl rfl rfl rfl (c72) (fun r m' h' => (by obtain ⟨rfl, rfl⟩ := h'; rfl)) (fun r m' h' => ?_) | (refine CallVC0.rows [0, 1, 2, 3, 4, 5] _ _ _ rfl rfl rfl ?_ (c72) (fun r m' h' => (by obtain ⟨rfl, rfl⟩ := h'; rfl)) (fun r m' h' => ?_); · (repeat' ((conv => whnf); first | exact trivial | exact rfl | exact Nat.le_refl _ | apply And.intro)))
      obtain ⟨rfl, rfl⟩ := h'
      conv => whnf
      repeat' ((conv => whnf); first | refine Rng.g ?_ | refine Ob.g ?_ | refine Ob.e ?_ | refine Ob.m ?_ | refine Ob.mk (Nat.le_of_ble_eq_true rfl) ?_ | refine JoinVC.on ?_ | refine Nils.mk (fun h => ?_) ?_ | refine Val.t ?_ | refine Val.d ?_ | refine Mm.mk ?_ | (refine Br.mk (fun h => ?_) (fun h => ?_) <;> first | (exfalso; omega; done) | (exfalso; simp at h; done) | (exfalso; simp [hi] at h; done) | skip))
      all_goals
        repeat refine Mm.mk ?_
        refine EndVC.mk _ rfl _ _ ⟨rfl, rfl⟩ ?_
        refine ⟨[some 0, some 1, some 2, some 3, some 4, some 5], rfl, rfl, ?_, ?_⟩ <;> repeat' (first | exact trivial | exact rfl | exact Iff.rfl | apply And.intro)
    · rw [if_neg (by rintro (h | h); exact h hi; exact hb h)]
      unfold Sho.p at *
      by_cases hret : (S.pl.getD a.plate.toNat p0).ret = true
      · rw [if_pos hret]
        rw [hret] at g6
        refine spec_of pMix (O := [(3, ([8], [⟨0, [], []⟩, ⟨1, [], []⟩, ⟨2, [], []⟩, ⟨3, [], []⟩, ⟨4, [], []⟩, ⟨5, [], []⟩, ⟨6, [], []⟩, ⟨7, [], []⟩, ⟨8, [], []⟩, ⟨9, [], []⟩]))]) Try.func66 (c := bodyOf Try.f66) rfl (by kernel_rfl) (by kernel_rfl) Try.ntmps66 (res := [.tmp 4]) (by kernel_rfl) ?_
        repeat' ((conv => whnf); first | refine Rng.g ?_ | refine Ob.g ?_ | refine Ob.e ?_ | refine Ob.m ?_ | refine Ob.mk (Nat.le_of_ble_eq_true rfl) ?_ | refine JoinVC.on ?_ | refine Nils.mk (fun h => ?_) ?_ | refine Val.t ?_ | refine Val.d ?_ | refine Mm.mk ?_ | (refine Br.mk (fun h => ?_) (fun h => ?_) <;> first | (exfalso; omega; done) | (exfalso; simp at h; done) | skip))
        conv => whnf
        first | refine CallVC.mk [0, 1, 2, 3, 4, 5] _ _ _ rfl rfl rfl (c72) (fun r m' h' => ?_) | refine CallVC0.same [0, 1, 2, 3, 4, 5] _ _ _ rfl rfl rfl rfl (c72) (fun r m' h' => (by obtain ⟨rfl, rfl⟩ := h'; rfl)) (fun r m' h' => ?_) | (refine CallVC0.rows [0, 1, 2, 3, 4, 5] _ _ _ rfl rfl rfl ?_ (c72) (fun r m' h' => (by obtain ⟨rfl, rfl⟩ := h'; rfl)) (fun r m' h' => ?_); · (repeat' ((conv => whnf); first | exact trivial | exact rfl | exact Nat.le_refl _ | apply And.intro)))
        obtain ⟨rfl, rfl⟩ := h'
        conv => whnf
        repeat' ((conv => whnf); first | rw [g6] | refine Rng.g ?_ | refine Ob.g ?_ | refine Ob.e ?_ | refine Ob.m ?_ | refine Ob.mk (Nat.le_of_ble_eq_true rfl) ?_ | refine JoinVC.on ?_ | refine Nils.mk (fun h => ?_) ?_ | refine Val.t ?_ | refine Val.d ?_ | refine Mm.mk ?_ | (refine Br.mk (fun h => ?_) (fun h => ?_) <;> first | (exfalso; omega; done) | (exfalso; simp at h; done) | (exfalso; simp [hi] at h; done) | skip))
        repeat refine Mm.mk ?_
        refine EndVC.mk _ rfl _ _ ⟨rfl, rfl⟩ ?_
        refine ⟨[some 0, some 1, some 2, some 3, some 4, some 5], rfl, rfl, ?_, ?_⟩ <;> repeat' (first | exact trivial | exact rfl | exact Iff.rfl | apply And.intro)
      · rw [if_neg hret]
        rw [show (S.pl.getD a.plate.toNat p0).ret = false by simpa using hret] at g6
        refine spec_of pMix (O := [(3, ([8], [⟨0, [], []⟩, ⟨1, [], []⟩, ⟨2, [], []⟩, ⟨3, [], []⟩, ⟨4, [], []⟩, ⟨5, [], []⟩, ⟨6, [], []⟩, ⟨7, [], []⟩, ⟨8, [], []⟩, ⟨9, [], []⟩]))]) Try.func66 (c := bodyOf Try.f66) rfl (by kernel_rfl) (by kernel_rfl) Try.ntmps66 (res := [.tmp 4]) (by kernel_rfl) ?_
        repeat' ((conv => whnf); first | refine Rng.g ?_ | refine Ob.g ?_ | refine Ob.e ?_ | refine Ob.m ?_ | refine Ob.mk (Nat.le_of_ble_eq_true rfl) ?_ | refine JoinVC.on ?_ | refine Nils.mk (fun h => ?_) ?_ | refine Val.t ?_ | refine Val.d ?_ | refine Mm.mk ?_ | (refine Br.mk (fun h => ?_) (fun h => ?_) <;> first | (exfalso; omega; done) | (exfalso; simp at h; done) | skip))
        conv => whnf
        first | refine CallVC.mk [0, 1, 2, 3, 4, 5] _ _ _ rfl rfl rfl (c72) (fun r m' h' => ?_) | refine CallVC0.same [0, 1, 2, 3, 4, 5] _ _ _ rfl rfl rfl rfl (c72) (fun r m' h' => (by obtain ⟨rfl, rfl⟩ := h'; rfl)) (fun r m' h' => ?_) | (refine CallVC0.rows [0, 1, 2, 3, 4, 5] _ _ _ rfl rfl rfl ?_ (c72) (fun r m' h' => (by obtain ⟨rfl, rfl⟩ := h'; rfl)) (fun r m' h' => ?_); · (repeat' ((conv => whnf); first | exact trivial | exact rfl | exact Nat.le_refl _ | apply And.intro)))
        obtain ⟨rfl, rfl⟩ := h'
        conv => whnf
        repeat' ((conv => whnf); first | rw [g6] | rw [g3] | refine Rng.g ?_ | refine Ob.g ?_ | refine Ob.e ?_ | refine Ob.m ?_ | refine Ob.mk (Nat.le_of_ble_eq_true rfl) ?_ | refine JoinVC.on ?_ | refine Nils.mk (fun h => ?_) ?_ | refine Val.t ?_ | refine Val.d ?_ | refine Mm.mk ?_ | (refine Br.mk (fun h => ?_) (fun h => ?_) <;> first | (exfalso; omega; done) | (exfalso; simp at h; done) | (exfalso; simp [hi] at h; done) | skip))
        conv => whnf
        first | refine CallVC.mk [0, 1, 2, 3, 4, 5] _ _ _ rfl rfl rfl (c75) (fun r m' h' => ?_) | refine CallVC0.same [0, 1, 2, 3, 4, 5] _ _ _ rfl rfl rfl rfl (c75) (fun r m' h' => (by obtain ⟨rfl, rfl⟩ := h'; rfl)) (fun r m' h' => ?_) | (refine CallVC0.rows [0, 1, 2, 3, 4, 5] _ _ _ rfl rfl rfl ?_ (c75) (fun r m' h' => (by obtain ⟨rfl, rfl⟩ := h'; rfl)) (fun r m' h' => ?_); · (repeat' ((conv => whnf); first | exact trivial | exact rfl | exact Nat.le_refl _ | apply And.intro)))
        obtain ⟨rfl, rfl⟩ := h'
        conv => whnf
        repeat' ((conv => whnf); first | rw [g3] | refine Rng.g ?_ | refine Ob.g ?_ | refine Ob.e ?_ | refine Ob.m ?_ | refine Ob.mk (Nat.le_of_ble_eq_true rfl) ?_ | refine JoinVC.on ?_ | refine Nils.mk (fun h => ?_) ?_ | refine Val.t ?_ | refine Val.d ?_ | refine Mm.mk ?_ | (refine Br.mk (fun h => ?_) (fun h => ?_) <;> first | (exfalso; omega; done) | (exfalso; simp at h; done) | skip))
        all_goals
          repeat refine Mm.mk ?_
          refine EndVC.mk _ rfl _ _ ⟨rfl, rfl⟩ ?_
          refine ⟨[some 0, some 1, some 2, some 3, some 4, some 5], rfl, rfl, ?_, ?_⟩ <;> repeat' (first | exact trivial | exact rfl | exact Iff.rfl | apply And.intro)
          (repeat' split) <;> first | rfl | (exfalso; omega)
  · rw [if_pos (.inl hi)]
    refine spec_of pMix (O := [(3, ([8], [⟨0, [], []⟩, ⟨1, [], []⟩, ⟨2, [], []⟩, ⟨3, [], []⟩, ⟨4, [], []⟩, ⟨5, [], []⟩, ⟨6, [], []⟩, ⟨7, [], []⟩, ⟨8, [], []⟩, ⟨9, [], []⟩]))]) Try.func66 (c := bodyOf Try.f66) rfl (by kernel_rfl) (by kernel_rfl) Try.ntmps66 (res := [.tmp 4]) (by kernel_rfl) ?_
    repeat' ((conv => whnf); first | refine Rng.g ?_ | refine Ob.g ?_ | refine Ob.e ?_ | refine Ob.m ?_ | refine Ob.mk (Nat.le_of_ble_eq_true rfl) ?_ | refine JoinVC.on ?_ | refine Nils.mk (fun h => ?_) ?_ | refine Val.t ?_ | refine Val.d ?_ | refine Mm.mk ?_ | (refine Br.mk (fun h => ?_) (fun h => ?_) <;> first | (exfalso; omega; done) | (exfalso; simp at h; done) | skip))
    conv => whnf
    first | refine CallVC.mk [0, 1, 2, 3, 4, 5] _ _ _ rfl rfl rfl (c72) (fun r m' h' => ?_) | refine CallVC0.same [0, 1, 2, 3, 4, 5] _ _ _ rfl rfl rfl rfl (c72) (fun r m' h' => (by obtain ⟨rfl, rfl⟩ := h'; rfl)) (fun r m' h' => ?_) | (refine CallVC0.rows [0, 1, 2, 3, 4, 5] _ _ _ rfl rfl rfl ?_ (c72) (fun r m' h' => (by obtain ⟨rfl, rfl⟩ := h'; rfl)) (fun r m' h' => ?_); · (repeat' ((conv => whnf); first | exact trivial | exact rfl | exact Nat.le_refl _ | apply And.intro)))
    obtain ⟨rfl, rfl⟩ := h'
    conv => whnf
    repeat' ((conv => whnf); first | refine Rng.g ?_ | refine Ob.g ?_ | refine Ob.e ?_ | refine Ob.m ?_ | refine Ob.mk (Nat.le_of_ble_eq_true rfl) ?_ | refine JoinVC.on ?_ | refine Nils.mk (fun h => ?_) ?_ | refine Val.t ?_ | refine Val.d ?_ | refine Mm.mk ?_ | (refine Br.mk (fun h => ?_) (fun h => ?_) <;> first | (exfalso; omega; done) | (exfalso; simp at h; done) | (exfalso; simp [hi] at h; done) | skip))
    repeat refine Mm.mk ?_
    refine EndVC.mk _ rfl _ _ ⟨rfl, rfl⟩ ?_
    refine ⟨[some 0, some 1, some 2, some 3, some 4, some 5], rfl, rfl, ?_, ?_⟩ <;> repeat' (first | exact trivial | exact rfl | exact Iff.rfl | apply And.intro)
theorem s68x (S : Sho) (hS : ShOK S) (a : Act2) (ha : GroX a) : HSpec Try.prog 68 [.one (.ptr 0 0), a.x] (rfM S) (fun r m' => lyE S a r ∧ m' = rfK S) := by
  have c66 := s66x S hS a ha
  by_cases h1 : herE S a = 0
  rotate_left
  · have hE : groE S a = herE S a := by unfold groE; rw [if_pos h1]
    refine spec_of pMix (O := [(4, ([16, 17], [⟨0, [], []⟩, ⟨1, [], []⟩, ⟨2, [], []⟩, ⟨3, [], []⟩, ⟨4, [], []⟩, ⟨5, [], []⟩, ⟨6, [], []⟩, ⟨7, [], []⟩, ⟨8, [], []⟩, ⟨9, [], []⟩, ⟨10, [], []⟩, ⟨11, [], []⟩, ⟨12, [], []⟩, ⟨13, [], []⟩, ⟨14, [], []⟩, ⟨15, [], []⟩, ⟨17, [], []⟩, ⟨16, [], []⟩, ⟨18, [8, 9, 10, 11, 12, 13, 14, 15], []⟩, ⟨19, [], []⟩]))]) Try.func68 (c := bodyOf Try.f68) rfl (by kernel_rfl) (by kernel_rfl) Try.ntmps68 (res := [.tmp 4, .tmp 5, .tmp 6]) (by kernel_rfl) ?_
    repeat' ((conv => whnf); first | refine Rng.g ?_ | refine Ob.g ?_ | refine Ob.e ?_ | refine Ob.m ?_ | refine Ob.mk (Nat.le_of_ble_eq_true rfl) ?_ | refine JoinVC.on ?_ | refine Nils.mk (fun h => ?_) ?_ | refine Val.t ?_ | refine Val.d ?_ | refine Mm.mk ?_ | (refine Br.mk (fun h => ?_) (fun h => ?_) <;> first | (exfalso; omega; done) | (exfalso; simp at h; done) | skip))
    conv => whnf
    first | refine CallVC.mk [0, 1, 2, 3, 4, 5] _ _ _ rfl rfl rfl (c66) (fun r m' h' => ?_) | refine CallVC0.same [0, 1, 2, 3, 4, 5] _ _ _ rfl rfl rfl rfl (c66) (fun r m' h' => (by obtain ⟨rfl, rfl⟩ := h'; rfl)) (fun r m' h' => ?_) | (refine CallVC0.rows [0, 1, 2, 3, 4, 5] _ _ _ rfl rfl rfl ?_ (c66) (fun r m' h' => (by obtain ⟨rfl, rfl⟩ := h'; rfl)) (fun r m' h' => ?_); · (repeat' ((conv => whnf); first | exact trivial | exact rfl | exact Nat.le_refl _ | apply And.intro)))
    obtain ⟨rfl, rfl⟩ := h'
    conv => whnf
    repeat' ((conv => whnf); first | refine Rng.g ?_ | refine Ob.g ?_ | refine Ob.e ?_ | refine Ob.m ?_ | refine Ob.mk (Nat.le_of_ble_eq_true rfl) ?_ | refine JoinVC.on ?_ | refine Nils.mk (fun h => ?_) ?_ | refine Val.t ?_ | refine Val.d ?_ | refine Mm.mk ?_ | (refine Br.mk (fun h => ?_) (fun h => ?_) <;> first | (exfalso; omega; done) | (exfalso; simp at h; done) | skip))
    repeat refine Mm.mk ?_
    conv => whnf
    refine EndVC.mk _ rfl _ _ (⟨lyE.err hE h1, rfl⟩) ?_
    refine ⟨[some 0, some 1, some 2, some 3, some 4, some 5], rfl, rfl, ?_, ?_⟩ <;> repeat' (first | exact trivial | exact rfl | exact Iff.rfl | apply And.intro)
  obtain ⟨hi, hb, _, _, hkd, _⟩ := herE_0 hS h1
  have hE : groE S a = layE S a := by unfold groE; rw [if_neg (by simpa using h1)]
  rw [h1] at c66
  have hB := thkX S hS a ha hi hb
  obtain ⟨hb1, hb2⟩ := hb
  unfold inP at hi
  obtain ⟨hi1, hi2⟩ := hi
  have lt := tkA_len S.tk
  have lp := plA_len S.pl
  have hp := hS.pl a.plate.toNat (by omega)
  have htk := hS.tk a.bath.toNat (by omega)
  have hyd : 1 ≤ (S.t a.bath).yd ∧ (S.t a.bath).yd ≤ 1000 := htk.2.1
  have har : 1 ≤ (S.p a.plate).area ∧ (S.p a.plate).area ≤ 1048576 := hp.area
  have g0 : rI (plA S.pl) a.plate.toNat 0 = (S.p a.plate).kd := pl_0 S.pl a.plate.toNat
  have g3 : rI (plA S.pl) a.plate.toNat ((0 + 1 + 1 + 1)) = (S.p a.plate).area := pl_3 S.pl a.plate.toNat
  have t0 : rI (tkA S.tk) a.bath.toNat 0 = (S.t a.bath).st := tk_0 S.tk a.bath.toNat
  have t1 : rI (tkA S.tk) a.bath.toNat ((0 + 1)) = (S.t a.bath).yd := tk_1 S.tk a.bath.toNat
  obtain ⟨b1, b2, b3, b4⟩ := hB
  have k0 : 0 ≤ (S.p a.plate).kd := hp.kd.1
  have c67a := s67x a.s0 a.s1 (S.t a.bath).yd ha.s0 ⟨ha.s1.1, by have := ha.s1.2; omega⟩ ⟨by omega, hyd.2⟩
  have c67b := s67x a.cur a.sec (S.t a.bath).yd ha.cur ha.sec ⟨by omega, hyd.2⟩
  have ef : a.s0 * a.s1 * (S.t a.bath).yd / 1000 = fstM S a := rfl
  have ea : fstM S a + a.cur * a.sec * (S.t a.bath).yd / 1000 = allM S a := rfl
  have et : 1000 * allM S a / (S.p a.plate).area = thkM S a := rfl
  rw [ef] at c67a
  have c52 := s52 (thkM S a) (S.r.thin ((S.p a.plate).kd + 1)) (S.r.thk ((S.p a.plate).kd + 1))
  unfold layE at hE
  obtain ⟨lo, hlo⟩ : ∃ lo, S.r.thin ((S.p a.plate).kd + 1) = lo := ⟨_, rfl⟩
  obtain ⟨hg, hhg⟩ : ∃ hg, S.r.thk ((S.p a.plate).kd + 1) = hg := ⟨_, rfl⟩
  rw [hlo, hhg] at hE c52
  have hk3 : ((S.p a.plate).kd = 0 ∧ S.r.n1 = lo ∧ S.r.k1 = hg) ∨ ((S.p a.plate).kd = 1 ∧ S.r.n2 = lo ∧ S.r.k2 = hg) ∨ ((S.p a.plate).kd = 2 ∧ S.r.n3 = lo ∧ S.r.k3 = hg) := by
    rcases (show (S.p a.plate).kd = 0 ∨ (S.p a.plate).kd = 1 ∨ (S.p a.plate).kd = 2 by omega) with h | h | h
    · rw [h] at hlo hhg; exact .inl ⟨h, hlo, hhg⟩
    · rw [h] at hlo hhg; exact .inr (.inl ⟨h, hlo, hhg⟩)
    · rw [h] at hlo hhg; exact .inr (.inr ⟨h, hlo, hhg⟩)
  clear hlo hhg
  rcases hk3 with ⟨hk, rfl, rfl⟩ | ⟨hk, rfl, rfl⟩ | ⟨hk, rfl, rfl⟩
  all_goals
    rw [hk] at g0
    refine spec_of pMix (O := [(4, ([16, 17], [⟨0, [], []⟩, ⟨1, [], []⟩, ⟨2, [], []⟩, ⟨3, [], []⟩, ⟨4, [], []⟩, ⟨5, [], []⟩, ⟨6, [], []⟩, ⟨7, [], []⟩, ⟨8, [], []⟩, ⟨9, [], []⟩, ⟨10, [], []⟩, ⟨11, [], []⟩, ⟨12, [], []⟩, ⟨13, [], []⟩, ⟨14, [], []⟩, ⟨15, [], []⟩, ⟨17, [], []⟩, ⟨16, [], []⟩, ⟨18, [8, 9, 10, 11, 12, 13, 14, 15], []⟩, ⟨19, [], []⟩]))]) Try.func68 (c := bodyOf Try.f68) rfl (by kernel_rfl) (by kernel_rfl) Try.ntmps68 (res := [.tmp 4, .tmp 5, .tmp 6]) (by kernel_rfl) ?_
    repeat' ((conv => whnf); first | refine Rng.g ?_ | refine Ob.g ?_ | refine Ob.e ?_ | refine Ob.m ?_ | refine Ob.mk (Nat.le_of_ble_eq_true rfl) ?_ | refine JoinVC.on ?_ | refine Nils.mk (fun h => ?_) ?_ | refine Val.t ?_ | refine Val.d ?_ | refine Mm.mk ?_ | (refine Br.mk (fun h => ?_) (fun h => ?_) <;> first | (exfalso; omega; done) | (exfalso; simp at h; done) | skip))
    conv => whnf
    first | refine CallVC.mk [0, 1, 2, 3, 4, 5] _ _ _ rfl rfl rfl (c66) (fun r m' h' => ?_) | refine CallVC0.same [0, 1, 2, 3, 4, 5] _ _ _ rfl rfl rfl rfl (c66) (fun r m' h' => (by obtain ⟨rfl, rfl⟩ := h'; rfl)) (fun r m' h' => ?_) | (refine CallVC0.rows [0, 1, 2, 3, 4, 5] _ _ _ rfl rfl rfl ?_ (c66) (fun r m' h' => (by obtain ⟨rfl, rfl⟩ := h'; rfl)) (fun r m' h' => ?_); · (repeat' ((conv => whnf); first | exact trivial | exact rfl | exact Nat.le_refl _ | apply And.intro)))
    obtain ⟨rfl, rfl⟩ := h'
    conv => whnf
    repeat' ((conv => whnf); first | rw [g0] | rw [g3] | rw [t0] | rw [t1] | rw [ea] | rw [et] | refine Rng.g ?_ | refine Ob.g ?_ | refine Ob.e ?_ | refine Ob.m ?_ | refine Ob.mk (Nat.le_of_ble_eq_true rfl) ?_ | refine JoinVC.on ?_ | refine Nils.mk (fun h => ?_) ?_ | refine Val.t ?_ | refine Val.d ?_ | refine Mm.mk ?_ | refine CallVC.pure rfl (c67a) ?_ | refine CallVC.pure rfl (c67b) ?_ | refine CallVC.pure rfl (c52) ?_ | refine CallVC0.pure rfl (c67a) ?_ | refine CallVC0.pure rfl (c67b) ?_ | refine CallVC0.pure rfl (c52) ?_ | (refine Br.mk (fun h => ?_) (fun h => ?_) <;> first | (exfalso; omega; done) | (exfalso; simp at h; done) | skip))
    all_goals
      conv => whnf
      refine' EndVC.mk _ rfl (.tup [I _, I _, I _]) (rfK S) ⟨?h, rfl⟩ ?g
      case g => refine ⟨[some 0, some 1, some 2, some 3, some 4, some 5], rfl, rfl, ?_, ?_⟩ <;> repeat' (first | exact trivial | exact rfl | exact Iff.rfl | apply And.intro)
      case h =>
        refine lyE.mk ?_ ?_ ?_
        · rw [hE]; (repeat' split) <;> first | rfl | (exfalso; omega)
        · intro q; first | exact ⟨rfl, rfl⟩ | cases q
        · intro q; first | exact ⟨rfl, rfl⟩ | exact absurd rfl q
end Go.Sx

namespace Go.Sx
open Go Go.Proofs
set_option maxRecDepth 10000
set_option maxHeartbeats 8000000
/-! ### The reference's Seconds -/
/-- Where the search ends. -/
def secT (S : Sho) (a : Act2) : Int := if 0 < nedM S a ∧ a.cur = 0 then 1048577 else if 1048577 < secX S a then 1048577 else secX S a
theorem secT_B {S : Sho} {a : Act2} (hy : 1 ≤ (S.t a.bath).yd) (hc : 0 ≤ a.cur) : 0 ≤ secT S a ∧ secT S a ≤ 1048577 := by
  have := secX_nn hy hc (S := S) (a := a)
  unfold secT
  (repeat' split) <;> omega
theorem secT_iff {S : Sho} {a : Act2} (ha : 1 ≤ (S.p a.plate).area) (hy : 1 ≤ (S.t a.bath).yd) (hc : 0 ≤ a.cur) {x : Int} (hx : 0 ≤ x ∧ x ≤ 1048576) :
    S.r.thin ((S.p a.plate).kd + 1) ≤ thkM S (secA a x) ↔ secT S a ≤ x := by
  have h := thin_iff ha hy hc hx.1 (S := S) (a := a)
  have hn : 0 < secX S a → 0 < nedM S a := fun h => by
    refine Classical.byContradiction fun hc => ?_
    have : secX S a = 0 := by unfold secX; rw [if_neg hc]
    omega
  unfold secT
  by_cases h1 : 0 < nedM S a ∧ a.cur = 0
  · rw [if_pos h1]
    have := h.2 ⟨h1.1, .inl h1.2⟩
    omega
  · rw [if_neg h1]
    by_cases h2 : x < secX S a
    · have := h.2 ⟨hn (by omega), .inr h2⟩
      split <;> omega
    · have : ¬ thkM S (secA a x) < S.r.thin ((S.p a.plate).kd + 1) := fun hc => by
        have := h.1 hc
        rcases this.2 with q | q
        · exact h1 ⟨this.1, q⟩
        · exact h2 q
      split <;> omega
def RSe (S : Sho) (a : Act2) (r : AV) (m' : List (Option Blk)) : Prop := r = .tup [I (secN S a), I (secE S a)] ∧ m' = rfK S
theorem RSe.err {S : Sho} {a : Act2} {e : Int} (h : secE S a = e) (h0 : e ≠ 0) : RSe S a (.tup [I 0, I e]) (rfK S) := by
  subst h
  exact ⟨by rw [secN, if_neg h0], rfl⟩
theorem RSe.ok {S : Sho} {a : Act2} {n : Int} (h : secE S a = 0) (hn : secX S a = n) : RSe S a (.tup [I n, I 0]) (rfK S) := by
  subst hn
  exact ⟨by rw [secN, if_pos h, h], rfl⟩
theorem s25 (S : Sho) (hS : ShOK S) (a : Act2) : HSpec Try.prog 25 [.one (.ptr 0 0), a.x] (rfM S) (RSe S a) := by
  have c33 := s33 a
  by_cases hv : a.kd ≠ 3 ∨ ¬ ActOK a
  · have hE : secE S a = 2 := by unfold secE; rw [if_pos hv]
    refine spec_of pMix (O := [(8, ([16, 17], [⟨0, [], []⟩, ⟨1, [], []⟩, ⟨2, [], []⟩, ⟨3, [], []⟩, ⟨4, [], []⟩, ⟨5, [], []⟩, ⟨6, [], []⟩, ⟨7, [], []⟩, ⟨8, [], []⟩, ⟨9, [], []⟩, ⟨10, [], []⟩, ⟨11, [], []⟩, ⟨12, [], []⟩, ⟨13, [], []⟩, ⟨14, [], []⟩, ⟨15, [], []⟩, ⟨17, [], []⟩, ⟨16, [], []⟩, ⟨18, [8, 9, 10, 11, 12, 13, 14, 15], []⟩, ⟨19, [], []⟩])), (12, ([], [⟨0, [], []⟩, ⟨1, [], []⟩, ⟨2, [], []⟩, ⟨3, [], []⟩, ⟨4, [], []⟩, ⟨5, [], []⟩, ⟨6, [], []⟩, ⟨7, [], []⟩, ⟨9, [], []⟩, ⟨10, [], []⟩, ⟨11, [], []⟩, ⟨12, [], []⟩, ⟨13, [], []⟩, ⟨17, [], []⟩, ⟨18, [], []⟩, ⟨20, [], []⟩, ⟨21, [], []⟩, ⟨22, [], []⟩, ⟨23, [], []⟩, ⟨24, [], []⟩, ⟨25, [], []⟩, ⟨26, [], []⟩, ⟨27, [], []⟩, ⟨28, [], []⟩, ⟨8, [9, 10, 11, 12, 13, 17, 18, 20, 21, 22, 23, 24, 25, 26, 27, 28], []⟩, ⟨14, [17, 18, 20, 21, 22, 23, 24, 25, 26, 27, 28], []⟩, ⟨15, [], []⟩, ⟨16, [], []⟩, ⟨19, [], []⟩, ⟨29, [], []⟩]))]) Try.func25 (c := bodyOf Try.f25) rfl (by kernel_rfl) (by kernel_rfl) Try.ntmps25 (res := [.tmp 4, .tmp 5]) (by kernel_rfl) ?_
    repeat' ((conv => whnf); first | refine Rng.g ?_ | refine Ob.g ?_ | refine Ob.e ?_ | refine Ob.m ?_ | refine Ob.mk (Nat.le_of_ble_eq_true rfl) ?_ | refine JoinVC.on ?_ | refine Nils.mk (fun h => ?_) ?_ | refine Val.t ?_ | refine Val.d ?_ | refine Mm.mk ?_ | refine CallVC.pure rfl (c33) ?_ | refine CallVC0.pure rfl (c33) ?_ | (refine Br.mk (fun h => ?_) (fun h => ?_) <;> first | (exfalso; omega; done) | (exfalso; simp at h; done) | skip))
    all_goals first
      | (exfalso; rcases hv with h1 | h1 <;> contradiction; done)
      | skip
    all_goals
      repeat refine Mm.mk ?_
      conv => whnf
      refine EndVC.mk _ rfl _ _ (RSe.err hE (by decide)) ?_
      refine ⟨[some 0, some 1, some 2, some 3, some 4, some 5], rfl, rfl, ?_, ?_⟩ <;> repeat' (first | exact trivial | exact rfl | exact Iff.rfl | apply And.intro)
  have hk : a.kd = 3 := by omega
  have ha : ActOK a := Classical.byContradiction fun hc => hv (.inr hc)
  have hg := ha.gro hk
  have c66 := s66 S hS a hg
  by_cases h1 : herE S a = 0
  rotate_left
  · have hE : secE S a = herE S a := by unfold secE; rw [if_neg hv, if_pos h1]
    refine spec_of pMix (O := [(8, ([16, 17], [⟨0, [], []⟩, ⟨1, [], []⟩, ⟨2, [], []⟩, ⟨3, [], []⟩, ⟨4, [], []⟩, ⟨5, [], []⟩, ⟨6, [], []⟩, ⟨7, [], []⟩, ⟨8, [], []⟩, ⟨9, [], []⟩, ⟨10, [], []⟩, ⟨11, [], []⟩, ⟨12, [], []⟩, ⟨13, [], []⟩, ⟨14, [], []⟩, ⟨15, [], []⟩, ⟨17, [], []⟩, ⟨16, [], []⟩, ⟨18, [8, 9, 10, 11, 12, 13, 14, 15], []⟩, ⟨19, [], []⟩])), (12, ([], [⟨0, [], []⟩, ⟨1, [], []⟩, ⟨2, [], []⟩, ⟨3, [], []⟩, ⟨4, [], []⟩, ⟨5, [], []⟩, ⟨6, [], []⟩, ⟨7, [], []⟩, ⟨9, [], []⟩, ⟨10, [], []⟩, ⟨11, [], []⟩, ⟨12, [], []⟩, ⟨13, [], []⟩, ⟨17, [], []⟩, ⟨18, [], []⟩, ⟨20, [], []⟩, ⟨21, [], []⟩, ⟨22, [], []⟩, ⟨23, [], []⟩, ⟨24, [], []⟩, ⟨25, [], []⟩, ⟨26, [], []⟩, ⟨27, [], []⟩, ⟨28, [], []⟩, ⟨8, [9, 10, 11, 12, 13, 17, 18, 20, 21, 22, 23, 24, 25, 26, 27, 28], []⟩, ⟨14, [17, 18, 20, 21, 22, 23, 24, 25, 26, 27, 28], []⟩, ⟨15, [], []⟩, ⟨16, [], []⟩, ⟨19, [], []⟩, ⟨29, [], []⟩]))]) Try.func25 (c := bodyOf Try.f25) rfl (by kernel_rfl) (by kernel_rfl) Try.ntmps25 (res := [.tmp 4, .tmp 5]) (by kernel_rfl) ?_
    repeat' ((conv => whnf); first | refine Rng.g ?_ | refine Ob.g ?_ | refine Ob.e ?_ | refine Ob.m ?_ | refine Ob.mk (Nat.le_of_ble_eq_true rfl) ?_ | refine JoinVC.on ?_ | refine Nils.mk (fun h => ?_) ?_ | refine Val.t ?_ | refine Val.d ?_ | refine Mm.mk ?_ | refine CallVC.pure rfl (c33) ?_ | refine CallVC0.pure rfl (c33) ?_ | (refine Br.mk (fun h => ?_) (fun h => ?_) <;> first | (exfalso; omega; done) | (exfalso; simp at h; done) | (exfalso; simp [ha] at h; done) | skip))
    conv => whnf
    first | refine CallVC.mk [0, 1, 2, 3, 4, 5] _ _ _ rfl rfl rfl (c66) (fun r m' h' => ?_) | refine CallVC0.same [0, 1, 2, 3, 4, 5] _ _ _ rfl rfl rfl rfl (c66) (fun r m' h' => (by obtain ⟨rfl, rfl⟩ := h'; rfl)) (fun r m' h' => ?_) | (refine CallVC0.rows [0, 1, 2, 3, 4, 5] _ _ _ rfl rfl rfl ?_ (c66) (fun r m' h' => (by obtain ⟨rfl, rfl⟩ := h'; rfl)) (fun r m' h' => ?_); · (repeat' ((conv => whnf); first | exact trivial | exact rfl | exact Nat.le_refl _ | apply And.intro)))
    obtain ⟨rfl, rfl⟩ := h'
    conv => whnf
    repeat' ((conv => whnf); first | refine Rng.g ?_ | refine Ob.g ?_ | refine Ob.e ?_ | refine Ob.m ?_ | refine Ob.mk (Nat.le_of_ble_eq_true rfl) ?_ | refine JoinVC.on ?_ | refine Nils.mk (fun h => ?_) ?_ | refine Val.t ?_ | refine Val.d ?_ | refine Mm.mk ?_ | (refine Br.mk (fun h => ?_) (fun h => ?_) <;> first | (exfalso; omega; done) | (exfalso; simp at h; done) | skip))
    repeat refine Mm.mk ?_
    conv => whnf
    refine EndVC.mk _ rfl _ _ (RSe.err hE h1) ?_
    refine ⟨[some 0, some 1, some 2, some 3, some 4, some 5], rfl, rfl, ?_, ?_⟩ <;> repeat' (first | exact trivial | exact rfl | exact Iff.rfl | apply And.intro)
  rw [h1] at c66
  obtain ⟨hi, hb, hret, h256, hkd, hcap⟩ := herE_0 hS h1
  have hb' := hb
  have hi' := hi
  obtain ⟨hb1, hb2⟩ := hb'
  unfold inP at hi'
  obtain ⟨hi1, hi2⟩ := hi'
  have lt := tkA_len S.tk
  have lp := plA_len S.pl
  have hp := hS.pl a.plate.toNat (by omega)
  have hk0 : 0 ≤ (S.p a.plate).kd := hp.kd.1
  have har : 1 ≤ (S.p a.plate).area ∧ (S.p a.plate).area ≤ 1048576 := hp.area
  have hyd : 1 ≤ (S.t a.bath).yd ∧ (S.t a.bath).yd ≤ 1000 := (hS.tk a.bath.toNat (by omega)).2.1
  have g0 : rI (plA S.pl) a.plate.toNat 0 = (S.p a.plate).kd := pl_0 S.pl a.plate.toNat
  have g3 : rI (plA S.pl) a.plate.toNat ((0 + 1 + 1 + 1)) = (S.p a.plate).area := pl_3 S.pl a.plate.toNat
  have t1 : rI (tkA S.tk) a.bath.toNat ((0 + 1)) = (S.t a.bath).yd := tk_1 S.tk a.bath.toNat
  have hT := secT_B (S := S) (a := a) hyd.1 hg.cur.1
  obtain ⟨th, hth⟩ : ∃ th, S.r.thin ((S.p a.plate).kd + 1) = th := ⟨_, rfl⟩
  have hk3 : ((S.p a.plate).kd = 0 ∧ S.r.n1 = th) ∨ ((S.p a.plate).kd = 1 ∧ S.r.n2 = th) ∨ ((S.p a.plate).kd = 2 ∧ S.r.n3 = th) := by
    rcases (show (S.p a.plate).kd = 0 ∨ (S.p a.plate).kd = 1 ∨ (S.p a.plate).kd = 2 by omega) with h | h | h
    · rw [h] at hth; exact .inl ⟨h, hth⟩
    · rw [h] at hth; exact .inr (.inl ⟨h, hth⟩)
    · rw [h] at hth; exact .inr (.inr ⟨h, hth⟩)
  refine spec_of pMix (O := [(8, ([16, 17], [⟨0, [], []⟩, ⟨1, [], []⟩, ⟨2, [], []⟩, ⟨3, [], []⟩, ⟨4, [], []⟩, ⟨5, [], []⟩, ⟨6, [], []⟩, ⟨7, [], []⟩, ⟨8, [], []⟩, ⟨9, [], []⟩, ⟨10, [], []⟩, ⟨11, [], []⟩, ⟨12, [], []⟩, ⟨13, [], []⟩, ⟨14, [], []⟩, ⟨15, [], []⟩, ⟨17, [], []⟩, ⟨16, [], []⟩, ⟨18, [8, 9, 10, 11, 12, 13, 14, 15], []⟩, ⟨19, [], []⟩])), (12, ([], [⟨0, [], []⟩, ⟨1, [], []⟩, ⟨2, [], []⟩, ⟨3, [], []⟩, ⟨4, [], []⟩, ⟨5, [], []⟩, ⟨6, [], []⟩, ⟨7, [], []⟩, ⟨9, [], []⟩, ⟨10, [], []⟩, ⟨11, [], []⟩, ⟨12, [], []⟩, ⟨13, [], []⟩, ⟨17, [], []⟩, ⟨18, [], []⟩, ⟨20, [], []⟩, ⟨21, [], []⟩, ⟨22, [], []⟩, ⟨23, [], []⟩, ⟨24, [], []⟩, ⟨25, [], []⟩, ⟨26, [], []⟩, ⟨27, [], []⟩, ⟨28, [], []⟩, ⟨8, [9, 10, 11, 12, 13, 17, 18, 20, 21, 22, 23, 24, 25, 26, 27, 28], []⟩, ⟨14, [17, 18, 20, 21, 22, 23, 24, 25, 26, 27, 28], []⟩, ⟨15, [], []⟩, ⟨16, [], []⟩, ⟨19, [], []⟩, ⟨29, [], []⟩]))]) Try.func25 (c := bodyOf Try.f25) rfl (by kernel_rfl) (by kernel_rfl) Try.ntmps25 (res := [.tmp 4, .tmp 5]) (by kernel_rfl) ?_
  repeat' ((conv => whnf); first | refine Rng.g ?_ | refine Ob.g ?_ | refine Ob.e ?_ | refine Ob.m ?_ | refine Ob.mk (Nat.le_of_ble_eq_true rfl) ?_ | refine JoinVC.on ?_ | refine Nils.mk (fun h => ?_) ?_ | refine Val.t ?_ | refine Val.d ?_ | refine Mm.mk ?_ | refine CallVC.pure rfl (c33) ?_ | refine CallVC0.pure rfl (c33) ?_ | (refine Br.mk (fun h => ?_) (fun h => ?_) <;> first | (exfalso; omega; done) | (exfalso; simp at h; done) | (exfalso; simp [ha] at h; done) | skip))
  conv => whnf
  first | refine CallVC.mk [0, 1, 2, 3, 4, 5] _ _ _ rfl rfl rfl (c66) (fun r m' h' => ?_) | refine CallVC0.same [0, 1, 2, 3, 4, 5] _ _ _ rfl rfl rfl rfl (c66) (fun r m' h' => (by obtain ⟨rfl, rfl⟩ := h'; rfl)) (fun r m' h' => ?_) | (refine CallVC0.rows [0, 1, 2, 3, 4, 5] _ _ _ rfl rfl rfl ?_ (c66) (fun r m' h' => (by obtain ⟨rfl, rfl⟩ := h'; rfl)) (fun r m' h' => ?_); · (repeat' ((conv => whnf); first | exact trivial | exact rfl | exact Nat.le_refl _ | apply And.intro)))
  obtain ⟨rfl, rfl⟩ := h'
  conv => whnf
  repeat' ((conv => whnf); first | rw [g0] | rw [g3] | rw [t1] | refine Rng.g ?_ | refine Ob.g ?_ | refine Ob.e ?_ | refine Ob.m ?_ | refine Ob.mk (Nat.le_of_ble_eq_true rfl) ?_ | refine JoinVC.on ?_ | refine Nils.mk (fun h => ?_) ?_ | refine Val.t ?_ | refine Val.d ?_ | refine Mm.mk ?_ | (refine Br.mk (fun h => ?_) (fun h => ?_) <;> first | (exfalso; omega; done) | (exfalso; simp at h; done) | skip))
  refine LoopVC.cut (fun n st => ∃ (lo hi : Int), 0 ≤ lo ∧ lo ≤ secT S a ∧ secT S a ≤ hi ∧ hi ≤ 1048577 ∧ n = (hi - lo).toNat ∧ st = ⟨6, envA 100 [(0, .x (.one (.ptr 0 0))), (3, .x (.one (.ptr 6 0))), (7, .x (.one (.ptr 8 0))), (8, .x (.one (.ptr 7 0))), (9, .x (I lo)), (10, .x (I hi))], rfK S ++ [some (.box 43 [i6 a.kd, i6 a.cut, i6 a.area, i6 a.stock, i6 a.yd, i6 a.plate, i6 a.bath, i6 a.s0, i6 a.s1, i6 a.cur, i6 a.sec, i6 a.place, i6 a.flaw]), some (.box 49 [i6 (rI (tkA S.tk) a.bath.toNat 0), i6 (S.t a.bath).yd, i6 (rI (tkA S.tk) a.bath.toNat ((0 + 1 + 1))), i6 (rI (tkA S.tk) a.bath.toNat ((0 + 1 + 1 + 1)))]), some (.box 36 [i6 (S.p a.plate).kd, i6 (rI (plA S.pl) a.plate.toNat ((0 + 1))), i6 (rI (plA S.pl) a.plate.toNat ((0 + 1 + 1))), i6 (S.p a.plate).area, i6 (rI (plA S.pl) a.plate.toNat ((0 + 1 + 1 + 1 + 1))), i6 (rI (plA S.pl) a.plate.toNat ((0 + 1 + 1 + 1 + 1 + 1))), .bool (rB (plA S.pl) a.plate.toNat ((0 + 1 + 1 + 1 + 1 + 1 + 1)))])]⟩) _ _ (fun e st => e = .exit 0 ∧ st = ⟨6, envA 100 [(0, .x (.one (.ptr 0 0))), (3, .x (.one (.ptr 6 0))), (9, .x (I (secT S a)))], rfK S ++ [some (.box 43 [i6 a.kd, i6 a.cut, i6 a.area, i6 a.stock, i6 a.yd, i6 a.plate, i6 a.bath, i6 a.s0, i6 a.s1, i6 a.cur, i6 a.sec, i6 a.place, i6 a.flaw]), some (.box 49 [i6 (rI (tkA S.tk) a.bath.toNat 0), i6 (S.t a.bath).yd, i6 (rI (tkA S.tk) a.bath.toNat ((0 + 1 + 1))), i6 (rI (tkA S.tk) a.bath.toNat ((0 + 1 + 1 + 1)))]), some (.box 36 [i6 (S.p a.plate).kd, i6 (rI (plA S.pl) a.plate.toNat ((0 + 1))), i6 (rI (plA S.pl) a.plate.toNat ((0 + 1 + 1))), i6 (S.p a.plate).area, i6 (rI (plA S.pl) a.plate.toNat ((0 + 1 + 1 + 1 + 1))), i6 (rI (plA S.pl) a.plate.toNat ((0 + 1 + 1 + 1 + 1 + 1))), .bool (rB (plA S.pl) a.plate.toNat ((0 + 1 + 1 + 1 + 1 + 1 + 1)))])]⟩) ⟨0, 1048577, by omega, hT.1, hT.2, by omega, rfl, rfl⟩ ?_ ?_ ?_
  · refine ⟨[some 0, some 1, some 2, some 3, some 4, some 5, some 6, some 7, some 8], rfl, rfl, ?_, ?_⟩ <;> repeat' (first | exact trivial | exact rfl | exact Iff.rfl | apply And.intro)
  · rintro n _ ⟨lo, hi, h0, hlo, hhi, h9, hn, rfl⟩
    by_cases hlt : lo < hi
    · have c67a : PSpec Try.prog 67 [I a.s0, I a.s1, I (S.t a.bath).yd] (.x (I (fstM S a))) := s67 a.s0 a.s1 (S.t a.bath).yd hg.s0 hg.s1 ⟨by omega, hyd.2⟩
      have c67b := s67 a.cur ((lo + hi) / 2) (S.t a.bath).yd hg.cur ⟨by omega, by omega⟩ ⟨by omega, hyd.2⟩
      have hB := thkX S hS (secA a ((lo + hi) / 2)) ⟨hg.s0, hg.s1, hg.cur, by show 0 ≤ (lo + hi) / 2 ∧ (lo + hi) / 2 ≤ 1048577; omega⟩ ‹inP S a.plate› hb
      have hf : 0 ≤ fstM S a ∧ fstM S a ≤ 1099511627776 := hB.1
      have ht : 0 ≤ thkM S (secA a ((lo + hi) / 2)) ∧ thkM S (secA a ((lo + hi) / 2)) ≤ 2199024304128000 := hB.2.2.2
      have hal : 0 ≤ fstM S a + a.cur * ((lo + hi) / 2) * (S.t a.bath).yd / 1000 ∧ fstM S a + a.cur * ((lo + hi) / 2) * (S.t a.bath).yd / 1000 ≤ 2199024304128 := hB.2.1
      have hmb := mulB (mulB hg.cur (show 0 ≤ (lo + hi) / 2 ∧ (lo + hi) / 2 ≤ 1048576 by omega)) (show 0 ≤ (S.t a.bath).yd ∧ (S.t a.bath).yd ≤ 1000 by omega)
      have et : 1000 * (fstM S a + a.cur * ((lo + hi) / 2) * (S.t a.bath).yd / 1000) / (S.p a.plate).area = thkM S (secA a ((lo + hi) / 2)) := rfl
      have hiff := secT_iff har.1 hyd.1 hg.cur.1 (S := S) (a := a) (x := (lo + hi) / 2) ⟨by omega, by omega⟩
      rw [hth] at hiff
      by_cases hm : secT S a ≤ (lo + hi) / 2
      · have hthk := hiff.2 hm
        clear hiff hth
        rcases hk3 with ⟨hk, rfl⟩ | ⟨hk, rfl⟩ | ⟨hk, rfl⟩
        all_goals
          rw [hk]
          repeat' ((conv => whnf); first | rw [et] | refine Rng.g ?_ | refine Ob.g ?_ | refine Ob.e ?_ | refine Ob.m ?_ | refine Ob.mk (Nat.le_of_ble_eq_true rfl) ?_ | refine JoinVC.on ?_ | refine Nils.mk (fun h => ?_) ?_ | refine Val.t ?_ | refine Val.d ?_ | refine Mm.mk ?_ | refine CallVC.pure rfl (c67a) ?_ | refine CallVC.pure rfl (c67b) ?_ | refine CallVC0.pure rfl (c67a) ?_ | refine CallVC0.pure rfl (c67b) ?_ | (refine Br.mk (fun h => ?_) (fun h => ?_) <;> first | (exfalso; omega; done) | (exfalso; simp at h; done) | skip))
          refine Back.mk ((lo + hi) / 2 - lo).toNat _ (by omega) ⟨lo, (lo + hi) / 2, h0, hlo, hm, by omega, rfl, rfl⟩ ?_
          refine ⟨[some 0, some 1, some 2, some 3, some 4, some 5, some 6, some 7, some 8], rfl, rfl, ?_, ?_⟩ <;> repeat' (first | exact trivial | exact rfl | exact Iff.rfl | apply And.intro)
      · have hthk : ¬ th ≤ thkM S (secA a ((lo + hi) / 2)) := fun h => hm (hiff.1 h)
        clear hiff hth
        rcases hk3 with ⟨hk, rfl⟩ | ⟨hk, rfl⟩ | ⟨hk, rfl⟩
        all_goals
          rw [hk]
          repeat' ((conv => whnf); first | rw [et] | refine Rng.g ?_ | refine Ob.g ?_ | refine Ob.e ?_ | refine Ob.m ?_ | refine Ob.mk (Nat.le_of_ble_eq_true rfl) ?_ | refine JoinVC.on ?_ | refine Nils.mk (fun h => ?_) ?_ | refine Val.t ?_ | refine Val.d ?_ | refine Mm.mk ?_ | refine CallVC.pure rfl (c67a) ?_ | refine CallVC.pure rfl (c67b) ?_ | refine CallVC0.pure rfl (c67a) ?_ | refine CallVC0.pure rfl (c67b) ?_ | (refine Br.mk (fun h => ?_) (fun h => ?_) <;> first | (exfalso; omega; done) | (exfalso; simp at h; done) | skip))
          refine Back.mk (hi - ((lo + hi) / 2 + 1)).toNat _ (by omega) ⟨(lo + hi) / 2 + 1, hi, by omega, by omega, hhi, h9, rfl, rfl⟩ ?_
          refine ⟨[some 0, some 1, some 2, some 3, some 4, some 5, some 6, some 7, some 8], rfl, rfl, ?_, ?_⟩ <;> repeat' (first | exact trivial | exact rfl | exact Iff.rfl | apply And.intro)
    · obtain rfl : lo = secT S a := by omega
      repeat' ((conv => whnf); first | refine Rng.g ?_ | refine Ob.g ?_ | refine Ob.e ?_ | refine Ob.m ?_ | refine Ob.mk (Nat.le_of_ble_eq_true rfl) ?_ | refine JoinVC.on ?_ | refine Nils.mk (fun h => ?_) ?_ | refine Val.t ?_ | refine Val.d ?_ | refine Mm.mk ?_ | (refine Br.mk (fun h => ?_) (fun h => ?_) <;> first | (exfalso; omega; done) | (exfalso; simp at h; done) | skip))
      refine Meet.mk _ ⟨rfl, rfl⟩ ?_
      refine ⟨[some 0, some 1, some 2, some 3, some 4, some 5, some 6, some 7, some 8], rfl, rfl, ?_, ?_⟩ <;> repeat' (first | exact trivial | exact rfl | exact Iff.rfl | apply And.intro)
  rintro _ _ ⟨rfl, rfl⟩
  have c68 := s68x S hS (secA a (secT S a)) ⟨hg.s0, hg.s1, hg.cur, hT⟩
  have hG : groE S (secA a (secT S a)) = layE S (secA a (secT S a)) := by unfold groE; rw [if_neg (fun h => h h1)]
  unfold lyE at c68
  rw [hG] at c68
  have hh1 : ¬ herE S a ≠ 0 := by simpa using h1
  have hX0 := secX_nn hyd.1 hg.cur.1 (S := S) (a := a)
  by_cases hbig : 1048576 < secT S a
  · have hE : secE S a = 15 := by
      unfold secE
      rw [if_neg hv, if_neg hh1, if_pos]
      unfold secT at hbig
      split at hbig
      · exact .inl ‹_›
      · split at hbig
        · exact .inr (.inl (by omega))
        · exact .inr (.inl (by omega))
    repeat' ((conv => whnf); first | refine Rng.g ?_ | refine Ob.g ?_ | refine Ob.e ?_ | refine Ob.m ?_ | refine Ob.mk (Nat.le_of_ble_eq_true rfl) ?_ | refine JoinVC.on ?_ | refine Nils.mk (fun h => ?_) ?_ | refine Val.t ?_ | refine Val.d ?_ | refine Mm.mk ?_ | (refine Br.mk (fun h => ?_) (fun h => ?_) <;> first | (exfalso; omega; done) | (exfalso; simp at h; done) | skip))
    conv => whnf
    first | refine CallVC.mk [0, 1, 2, 3, 4, 5] _ _ _ rfl rfl rfl (c68) (fun r m' h' => ?_) | refine CallVC0.same [0, 1, 2, 3, 4, 5] _ _ _ rfl rfl rfl rfl (c68) (fun r m' h' => (by obtain ⟨rfl, rfl⟩ := h'; rfl)) (fun r m' h' => ?_) | (refine CallVC0.rows [0, 1, 2, 3, 4, 5] _ _ _ rfl rfl rfl ?_ (c68) (fun r m' h' => (by obtain ⟨rfl, rfl⟩ := h'; rfl)) (fun r m' h' => ?_); · (repeat' ((conv => whnf); first | exact trivial | exact rfl | exact Nat.le_refl _ | apply And.intro)))
    obtain ⟨rfl, rfl⟩ := h'
    conv => whnf
    repeat' ((conv => whnf); first | refine Rng.g ?_ | refine Ob.g ?_ | refine Ob.e ?_ | refine Ob.m ?_ | refine Ob.mk (Nat.le_of_ble_eq_true rfl) ?_ | refine JoinVC.on ?_ | refine Nils.mk (fun h => ?_) ?_ | refine Val.t ?_ | refine Val.d ?_ | refine Mm.mk ?_ | (refine Br.mk (fun h => ?_) (fun h => ?_) <;> first | (exfalso; omega; done) | (exfalso; simp at h; done) | skip))
    all_goals
      repeat refine Mm.mk ?_
      conv => whnf
      refine EndVC.mk _ rfl _ _ (RSe.err hE (by decide)) ?_
      refine ⟨[some 0, some 1, some 2, some 3, some 4, some 5], rfl, rfl, ?_, ?_⟩ <;> repeat' (first | exact trivial | exact rfl | exact Iff.rfl | apply And.intro)
  · have hX : secT S a = secX S a ∧ ¬ (0 < nedM S a ∧ a.cur = 0) := by
      unfold secT at hbig ⊢
      split at hbig
      · omega
      · rename_i q
        rw [if_neg q]
        split at hbig
        · omega
        · rw [if_neg ‹_›]; exact ⟨rfl, q⟩
    by_cases hl : layE S (secA a (secT S a)) = 0
    · have hE : secE S a = 0 := by
        unfold secE
        rw [if_neg hv, if_neg hh1, if_neg]
        rw [← hX.1]
        rintro (q | q | q)
        · exact hX.2 q
        · exact hbig q
        · exact q hl
      rw [if_pos hl, if_pos hl, hl] at c68
      repeat' ((conv => whnf); first | refine Rng.g ?_ | refine Ob.g ?_ | refine Ob.e ?_ | refine Ob.m ?_ | refine Ob.mk (Nat.le_of_ble_eq_true rfl) ?_ | refine JoinVC.on ?_ | refine Nils.mk (fun h => ?_) ?_ | refine Val.t ?_ | refine Val.d ?_ | refine Mm.mk ?_ | (refine Br.mk (fun h => ?_) (fun h => ?_) <;> first | (exfalso; omega; done) | (exfalso; simp at h; done) | skip))
      conv => whnf
      first | refine CallVC.mk [0, 1, 2, 3, 4, 5] _ _ _ rfl rfl rfl (c68) (fun r m' h' => ?_) | refine CallVC0.same [0, 1, 2, 3, 4, 5] _ _ _ rfl rfl rfl rfl (c68) (fun r m' h' => (by obtain ⟨rfl, rfl⟩ := h'; rfl)) (fun r m' h' => ?_) | (refine CallVC0.rows [0, 1, 2, 3, 4, 5] _ _ _ rfl rfl rfl ?_ (c68) (fun r m' h' => (by obtain ⟨rfl, rfl⟩ := h'; rfl)) (fun r m' h' => ?_); · (repeat' ((conv => whnf); first | exact trivial | exact rfl | exact Nat.le_refl _ | apply And.intro)))
      obtain ⟨rfl, rfl⟩ := h'
      conv => whnf
      repeat' ((conv => whnf); first | refine Rng.g ?_ | refine Ob.g ?_ | refine Ob.e ?_ | refine Ob.m ?_ | refine Ob.mk (Nat.le_of_ble_eq_true rfl) ?_ | refine JoinVC.on ?_ | refine Nils.mk (fun h => ?_) ?_ | refine Val.t ?_ | refine Val.d ?_ | refine Mm.mk ?_ | (refine Br.mk (fun h => ?_) (fun h => ?_) <;> first | (exfalso; omega; done) | (exfalso; simp at h; done) | skip))
      repeat refine Mm.mk ?_
      conv => whnf
      refine EndVC.mk _ rfl _ _ (RSe.ok hE hX.1.symm) ?_
      refine ⟨[some 0, some 1, some 2, some 3, some 4, some 5], rfl, rfl, ?_, ?_⟩ <;> repeat' (first | exact trivial | exact rfl | exact Iff.rfl | apply And.intro)
    · have hE : secE S a = 15 := by
        unfold secE
        rw [if_neg hv, if_neg hh1, if_pos]
        rw [← hX.1]
        exact .inr (.inr hl)
      rw [if_neg hl, if_neg hl] at c68
      repeat' ((conv => whnf); first | refine Rng.g ?_ | refine Ob.g ?_ | refine Ob.e ?_ | refine Ob.m ?_ | refine Ob.mk (Nat.le_of_ble_eq_true rfl) ?_ | refine JoinVC.on ?_ | refine Nils.mk (fun h => ?_) ?_ | refine Val.t ?_ | refine Val.d ?_ | refine Mm.mk ?_ | (refine Br.mk (fun h => ?_) (fun h => ?_) <;> first | (exfalso; omega; done) | (exfalso; simp at h; done) | skip))
      conv => whnf
      first | refine CallVC.mk [0, 1, 2, 3, 4, 5] _ _ _ rfl rfl rfl (c68) (fun r m' h' => ?_) | refine CallVC0.same [0, 1, 2, 3, 4, 5] _ _ _ rfl rfl rfl rfl (c68) (fun r m' h' => (by obtain ⟨rfl, rfl⟩ := h'; rfl)) (fun r m' h' => ?_) | (refine CallVC0.rows [0, 1, 2, 3, 4, 5] _ _ _ rfl rfl rfl ?_ (c68) (fun r m' h' => (by obtain ⟨rfl, rfl⟩ := h'; rfl)) (fun r m' h' => ?_); · (repeat' ((conv => whnf); first | exact trivial | exact rfl | exact Nat.le_refl _ | apply And.intro)))
      obtain ⟨rfl, rfl⟩ := h'
      conv => whnf
      repeat' ((conv => whnf); first | refine Rng.g ?_ | refine Ob.g ?_ | refine Ob.e ?_ | refine Ob.m ?_ | refine Ob.mk (Nat.le_of_ble_eq_true rfl) ?_ | refine JoinVC.on ?_ | refine Nils.mk (fun h => ?_) ?_ | refine Val.t ?_ | refine Val.d ?_ | refine Mm.mk ?_ | (refine Br.mk (fun h => ?_) (fun h => ?_) <;> first | (exfalso; omega; done) | (exfalso; simp at h; done) | skip))
      repeat refine Mm.mk ?_
      conv => whnf
      refine EndVC.mk _ rfl _ _ (RSe.err hE (by decide)) ?_
      refine ⟨[some 0, some 1, some 2, some 3, some 4, some 5], rfl, rfl, ?_, ?_⟩ <;> repeat' (first | exact trivial | exact rfl | exact Iff.rfl | apply And.intro)
end Go.Sx

namespace Go.Sx
open Go Go.Proofs
set_option maxRecDepth 10000
set_option maxHeartbeats 8000000
/-! ### Which lists are lines -/
end Go.Sx

namespace Go.Sx
open Go Go.Proofs
set_option maxRecDepth 10000
set_option maxHeartbeats 8000000
/-! ### The reference's lines -/
theorem s74 (S : Sho) (hS : ShOK S) (i : Int) (h0 : 0 ≤ i) (hi : i < S.pl.length) : HSpec Try.prog 74 [.one (.ptr 0 0), I i] (rfM S) (fun r m' => r = .x (.one (.lst false [.int .i64] (i64s (S.up i).reverse))) ∧ m' = rfK S) := by
  have lp := plA_len S.pl
  have hnp := hS.np
  refine spec_of pMix (O := []) Try.func74 (c := bodyOf Try.f74) rfl (by kernel_rfl) (by kernel_rfl) Try.ntmps74 (res := [.tmp 4]) (by kernel_rfl) ?_
  repeat' ((conv => whnf); first | refine Rng.g ?_ | refine Ob.g ?_ | refine Ob.e ?_ | refine Ob.m ?_ | refine Ob.mk (Nat.le_of_ble_eq_true rfl) ?_ | refine JoinVC.on ?_ | refine Nils.mk (fun h => ?_) ?_ | refine Val.t ?_ | refine Val.d ?_ | refine Mm.mk ?_ | (refine Br.mk (fun h => ?_) (fun h => ?_) <;> first | (exfalso; omega; done) | (exfalso; simp at h; done) | skip))
  refine LoopVC.mk (fun n st => ∃ (j : Int) (xs : List Int), 0 ≤ j ∧ j < S.pl.length ∧ (S.up i).reverse = (S.up (S.p j).pa).reverse ++ xs ∧ n = j.toNat ∧ st = ⟨6, envA 30 [(0, .x (.one (.ptr 0 0))), (1, .x (I j)), (5, .x (.one (.own 6)))], rfK S ++ [some (rowI xs)]⟩) _ _ ⟨i, [i], h0, hi, by rw [up_step hS hi h0, List.reverse_cons], rfl, rfl⟩ ?_ ?_
  · refine ⟨[some 0, some 1, some 2, some 3, some 4, some 5, some 6], rfl, rfl, ?_, ?_⟩ <;> repeat' (first | exact trivial | exact rfl | exact Iff.rfl | apply And.intro)
  rintro n _ ⟨j, xs, hj, hj', hx, hn, rfl⟩
  have hpa := (hS.pl j.toNat (by omega)).pa
  have hpa : -1 ≤ (S.p j).pa ∧ (S.p j).pa < ((j.toNat : Nat) : Int) := hpa
  have g1 : rI (plA S.pl) j.toNat ((0 + 1)) = (S.p j).pa := pl_1 S.pl j.toNat
  have lx := i64s_len xs
  have hxl : xs.length ≤ 256 := by
    have := congrArg List.length hx
    rw [List.length_append, List.length_reverse] at this
    have := up_len S i
    omega
  by_cases hp : 0 ≤ (S.p j).pa
  · have hu := up_step hS (i := (S.p j).pa) (by omega) hp
    repeat' ((conv => whnf); first | rw [g1] | refine Rng.g ?_ | refine Ob.g ?_ | refine Ob.e ?_ | refine Ob.m ?_ | refine Ob.mk (Nat.le_of_ble_eq_true rfl) ?_ | refine JoinVC.on ?_ | refine Nils.mk (fun h => ?_) ?_ | refine Val.t ?_ | refine Val.d ?_ | refine Mm.mk ?_ | (refine Br.mk (fun h => ?_) (fun h => ?_) <;> first | (exfalso; omega; done) | (exfalso; simp at h; done) | skip))
    repeat refine Mm.mk ?_
    refine Ob.mk (by rw [eb3]; simp only [List.length_cons, List.length_nil]; omega) ?_
    repeat' ((conv => whnf); first | rw [g1] | refine Rng.g ?_ | refine Ob.g ?_ | refine Ob.e ?_ | refine Ob.m ?_ | refine Ob.mk (Nat.le_of_ble_eq_true rfl) ?_ | refine JoinVC.on ?_ | refine Nils.mk (fun h => ?_) ?_ | refine Val.t ?_ | refine Val.d ?_ | refine Mm.mk ?_ | (refine Br.mk (fun h => ?_) (fun h => ?_) <;> first | (exfalso; omega; done) | (exfalso; simp at h; done) | skip))
    refine Back.mk ((S.p j).pa).toNat _ (by omega) ⟨(S.p j).pa, (S.p j).pa :: xs, hp, by omega, by rw [hx, hu, List.reverse_cons, List.append_assoc]; rfl, rfl, rfl⟩ ?_
    refine ⟨[some 0, some 1, some 2, some 3, some 4, some 5, some 8], rfl, rfl, ?_, ?_⟩ <;> repeat' (first | exact trivial | exact rfl | exact Iff.rfl | apply And.intro)
  · rw [up_neg hp] at hx
    have hx : (S.up i).reverse = xs := hx
    repeat' ((conv => whnf); first | rw [g1] | refine Rng.g ?_ | refine Ob.g ?_ | refine Ob.e ?_ | refine Ob.m ?_ | refine Ob.mk (Nat.le_of_ble_eq_true rfl) ?_ | refine JoinVC.on ?_ | refine Nils.mk (fun h => ?_) ?_ | refine Val.t ?_ | refine Val.d ?_ | refine Mm.mk ?_ | (refine Br.mk (fun h => ?_) (fun h => ?_) <;> first | (exfalso; omega; done) | (exfalso; simp at h; done) | skip))
    rw [hx]
    repeat refine Mm.mk ?_
    refine EndVC.mk _ rfl _ _ ⟨rfl, rfl⟩ ?_
    refine ⟨[some 0, some 1, some 2, some 3, some 4, some 5], rfl, rfl, ?_, ?_⟩ <;> repeat' (first | exact trivial | exact rfl | exact Iff.rfl | apply And.intro)
/-! ### The reference's origins and bearers -/
/-! ### The reference's CheckLine -/
end Go.Sx

namespace Go.Sx
open Go Go.Proofs
set_option maxRecDepth 10000
set_option maxHeartbeats 8000000
/-! ### The reference's Needs -/
@[reducible] def bN4 (S : Sho) (i : Int) (k : Nat) : Blk := .box 109 [i6 (needR S i 0 k), i6 (needR S i 1 k), i6 (needR S i 2 k), i6 (needR S i 3 k)]
theorem s27_out (S : Sho) (i n : Int) (h : ¬ inP S i ∨ n < 0 ∨ 256 < n) : HSpec Try.prog 27 [.one (.ptr 0 0), I i, I n] (rfM S) (fun r m' => r = .tup [I (needN S i n), I (needE S i n)] ∧ m' = rfK S) := by
  have c72 := s72 S i
  by_cases hi : inP S i
  · have hE : needE S i n = 3 := by unfold needE; rw [if_neg (by simpa using hi), if_pos (h.resolve_left (by simpa using hi))]
    have hN : needN S i n = 0 := by unfold needN; rw [hE, if_neg (by decide)]
    rw [hE, hN]
    have hn := h.resolve_left (by simpa using hi)
    refine spec_of pMix (O := [(15, ([], [⟨0, [], []⟩, ⟨1, [], []⟩, ⟨2, [], []⟩, ⟨3, [], []⟩, ⟨4, [], []⟩, ⟨5, [], []⟩, ⟨6, [], []⟩, ⟨7, [], []⟩, ⟨8, [], []⟩, ⟨9, [], []⟩, ⟨10, [], []⟩, ⟨11, [], []⟩, ⟨12, [0, 1, 2, 3, 4, 5, 6, 7, 8, 9], []⟩, ⟨13, [], []⟩, ⟨14, [], []⟩, ⟨15, [], []⟩]))]) Try.func27 (c := bodyOf Try.f27) rfl (by kernel_rfl) (by kernel_rfl) Try.ntmps27 (res := [.tmp 6, .tmp 7]) (by kernel_rfl) ?_
    repeat' ((conv => whnf); first | refine Rng.g ?_ | refine Ob.g ?_ | refine Ob.e ?_ | refine Ob.m ?_ | refine Ob.mk (Nat.le_of_ble_eq_true rfl) ?_ | refine JoinVC.on ?_ | refine Nils.mk (fun h => ?_) ?_ | refine Val.t ?_ | refine Val.d ?_ | refine Mm.mk ?_ | (refine Br.mk (fun h => ?_) (fun h => ?_) <;> first | (exfalso; omega; done) | (exfalso; simp at h; done) | skip))
    conv => whnf
    first | refine CallVC.mk [0, 1, 2, 3, 4, 5] _ _ _ rfl rfl rfl (c72) (fun r m' h' => ?_) | refine CallVC0.same [0, 1, 2, 3, 4, 5] _ _ _ rfl rfl rfl rfl (c72) (fun r m' h' => (by obtain ⟨rfl, rfl⟩ := h'; rfl)) (fun r m' h' => ?_) | (refine CallVC0.rows [0, 1, 2, 3, 4, 5] _ _ _ rfl rfl rfl ?_ (c72) (fun r m' h' => (by obtain ⟨rfl, rfl⟩ := h'; rfl)) (fun r m' h' => ?_); · (repeat' ((conv => whnf); first | exact trivial | exact rfl | exact Nat.le_refl _ | apply And.intro)))
    obtain ⟨rfl, rfl⟩ := h'
    conv => whnf
    repeat' ((conv => whnf); first | refine Rng.g ?_ | refine Ob.g ?_ | refine Ob.e ?_ | refine Ob.m ?_ | refine Ob.mk (Nat.le_of_ble_eq_true rfl) ?_ | refine JoinVC.on ?_ | refine Nils.mk (fun h => ?_) ?_ | refine Val.t ?_ | refine Val.d ?_ | refine Mm.mk ?_ | (refine Br.mk (fun h => ?_) (fun h => ?_) <;> first | (exfalso; omega; done) | (exfalso; simp at h; done) | (exfalso; simp [hi] at h; done) | skip))
    all_goals
      repeat refine Mm.mk ?_
      refine EndVC.mk _ rfl _ _ ⟨rfl, rfl⟩ ?_
      refine ⟨[some 0, some 1, some 2, some 3, some 4, some 5], rfl, rfl, ?_, ?_⟩ <;> repeat' (first | exact trivial | exact rfl | exact Iff.rfl | apply And.intro)
  · have hE : needE S i n = 5 := by unfold needE; rw [if_pos hi]
    have hN : needN S i n = 0 := by unfold needN; rw [hE, if_neg (by decide)]
    rw [hE, hN]
    refine spec_of pMix (O := [(15, ([], [⟨0, [], []⟩, ⟨1, [], []⟩, ⟨2, [], []⟩, ⟨3, [], []⟩, ⟨4, [], []⟩, ⟨5, [], []⟩, ⟨6, [], []⟩, ⟨7, [], []⟩, ⟨8, [], []⟩, ⟨9, [], []⟩, ⟨10, [], []⟩, ⟨11, [], []⟩, ⟨12, [0, 1, 2, 3, 4, 5, 6, 7, 8, 9], []⟩, ⟨13, [], []⟩, ⟨14, [], []⟩, ⟨15, [], []⟩]))]) Try.func27 (c := bodyOf Try.f27) rfl (by kernel_rfl) (by kernel_rfl) Try.ntmps27 (res := [.tmp 6, .tmp 7]) (by kernel_rfl) ?_
    repeat' ((conv => whnf); first | refine Rng.g ?_ | refine Ob.g ?_ | refine Ob.e ?_ | refine Ob.m ?_ | refine Ob.mk (Nat.le_of_ble_eq_true rfl) ?_ | refine JoinVC.on ?_ | refine Nils.mk (fun h => ?_) ?_ | refine Val.t ?_ | refine Val.d ?_ | refine Mm.mk ?_ | (refine Br.mk (fun h => ?_) (fun h => ?_) <;> first | (exfalso; omega; done) | (exfalso; simp at h; done) | skip))
    conv => whnf
    first | refine CallVC.mk [0, 1, 2, 3, 4, 5] _ _ _ rfl rfl rfl (c72) (fun r m' h' => ?_) | refine CallVC0.same [0, 1, 2, 3, 4, 5] _ _ _ rfl rfl rfl rfl (c72) (fun r m' h' => (by obtain ⟨rfl, rfl⟩ := h'; rfl)) (fun r m' h' => ?_) | (refine CallVC0.rows [0, 1, 2, 3, 4, 5] _ _ _ rfl rfl rfl ?_ (c72) (fun r m' h' => (by obtain ⟨rfl, rfl⟩ := h'; rfl)) (fun r m' h' => ?_); · (repeat' ((conv => whnf); first | exact trivial | exact rfl | exact Nat.le_refl _ | apply And.intro)))
    obtain ⟨rfl, rfl⟩ := h'
    conv => whnf
    repeat' ((conv => whnf); first | refine Rng.g ?_ | refine Ob.g ?_ | refine Ob.e ?_ | refine Ob.m ?_ | refine Ob.mk (Nat.le_of_ble_eq_true rfl) ?_ | refine JoinVC.on ?_ | refine Nils.mk (fun h => ?_) ?_ | refine Val.t ?_ | refine Val.d ?_ | refine Mm.mk ?_ | (refine Br.mk (fun h => ?_) (fun h => ?_) <;> first | (exfalso; omega; done) | (exfalso; simp at h; done) | (exfalso; simp [hi] at h; done) | skip))
    repeat refine Mm.mk ?_
    refine EndVC.mk _ rfl _ _ ⟨rfl, rfl⟩ ?_
    refine ⟨[some 0, some 1, some 2, some 3, some 4, some 5], rfl, rfl, ?_, ?_⟩ <;> repeat' (first | exact trivial | exact rfl | exact Iff.rfl | apply And.intro)
theorem tdivB {a d q : Int} (h : q = a.tdiv d) {B : Int} (ha : -B ≤ a ∧ a ≤ B) : -B ≤ q ∧ q ≤ B := by
  have h1 : (a.tdiv d).natAbs ≤ a.natAbs := Int.natAbs_tdiv_le_natAbs a d
  rw [← h] at h1
  omega
theorem s27_ok (S : Sho) (hS : ShOK S) (i n : Int) (hi : inP S i) (hn : 0 ≤ n ∧ n ≤ 256) : HSpec Try.prog 27 [.one (.ptr 0 0), I i, I n] (rfM S) (fun r m' => r = .tup [I (needN S i n), I (needE S i n)] ∧ m' = rfK S) := by
  have c72 := s72 S i
  have lp := plA_len S.pl
  have hnp := hS.np
  refine spec_of pMix (O := [(15, ([], [⟨0, [], []⟩, ⟨1, [], []⟩, ⟨2, [], []⟩, ⟨3, [], []⟩, ⟨4, [], []⟩, ⟨5, [], []⟩, ⟨6, [], []⟩, ⟨7, [], []⟩, ⟨8, [], []⟩, ⟨9, [], []⟩, ⟨10, [], []⟩, ⟨11, [], []⟩, ⟨12, [0, 1, 2, 3, 4, 5, 6, 7, 8, 9], []⟩, ⟨13, [], []⟩, ⟨14, [], []⟩, ⟨15, [], []⟩]))]) Try.func27 (c := bodyOf Try.f27) rfl (by kernel_rfl) (by kernel_rfl) Try.ntmps27 (res := [.tmp 6, .tmp 7]) (by kernel_rfl) ?_
  repeat' ((conv => whnf); first | refine Rng.g ?_ | refine Ob.g ?_ | refine Ob.e ?_ | refine Ob.m ?_ | refine Ob.mk (Nat.le_of_ble_eq_true rfl) ?_ | refine JoinVC.on ?_ | refine Nils.mk (fun h => ?_) ?_ | refine Val.t ?_ | refine Val.d ?_ | refine Mm.mk ?_ | (refine Br.mk (fun h => ?_) (fun h => ?_) <;> first | (exfalso; omega; done) | (exfalso; simp at h; done) | skip))
  conv => whnf
  first | refine CallVC.mk [0, 1, 2, 3, 4, 5] _ _ _ rfl rfl rfl (c72) (fun r m' h' => ?_) | refine CallVC0.same [0, 1, 2, 3, 4, 5] _ _ _ rfl rfl rfl rfl (c72) (fun r m' h' => (by obtain ⟨rfl, rfl⟩ := h'; rfl)) (fun r m' h' => ?_) | (refine CallVC0.rows [0, 1, 2, 3, 4, 5] _ _ _ rfl rfl rfl ?_ (c72) (fun r m' h' => (by obtain ⟨rfl, rfl⟩ := h'; rfl)) (fun r m' h' => ?_); · (repeat' ((conv => whnf); first | exact trivial | exact rfl | exact Nat.le_refl _ | apply And.intro)))
  obtain ⟨rfl, rfl⟩ := h'
  conv => whnf
  repeat' ((conv => whnf); first | refine Rng.g ?_ | refine Ob.g ?_ | refine Ob.e ?_ | refine Ob.m ?_ | refine Ob.mk (Nat.le_of_ble_eq_true rfl) ?_ | refine JoinVC.on ?_ | refine Nils.mk (fun h => ?_) ?_ | refine Val.t ?_ | refine Val.d ?_ | refine Mm.mk ?_ | (refine Br.mk (fun h => ?_) (fun h => ?_) <;> first | (exfalso; omega; done) | (exfalso; simp at h; done) | (exfalso; simp [hi] at h; done) | skip))
  refine LoopVC.cut (fun m st => ∃ (k : Nat), k ≤ S.pl.length ∧ m = S.pl.length - k ∧ st = ⟨6, envA 135 [(0, .x (.one (.ptr 0 0))), (1, .x (I i)), (2, .x (I n)), (8, .int .i64 (needL S i k)), (9, .x (.one (.ptr 6 0))), (10, .int .i64 (k : Int))], rfK S ++ [some (bN4 S i k)]⟩) _ _ (fun e st => e = .exit 0 ∧ st = ⟨6, envA 135 [(0, .x (.one (.ptr 0 0))), (1, .x (I i)), (2, .x (I n)), (8, .int .i64 (needL S i S.pl.length)), (9, .x (.one (.ptr 6 0)))], rfK S ++ [some (bN4 S i S.pl.length)]⟩) ⟨0, Nat.zero_le _, rfl, rfl⟩ ?_ ?_ ?_
  · refine ⟨[some 0, some 1, some 2, some 3, some 4, some 5, some 6], rfl, rfl, ?_, ?_⟩ <;> repeat' (first | exact trivial | exact rfl | exact Iff.rfl | apply And.intro)
  · rintro m _ ⟨k, hk, hm, rfl⟩
    by_cases h' : k < S.pl.length
    · have hp : PlOK S k (S.q k) := hS.pl k h'
      obtain ⟨k0, k3⟩ := hp.kd
      have c74 := s74 S hS (k : Int) (by omega) (by omega)
      have hup := up_len S (k : Int)
      have c73 := s73 (S.up (k : Int)).reverse (by rw [List.length_reverse]; omega) i
      have c75 : HSpec Try.prog 75 [.one (.ptr 0 0), I (k : Int)] (rfM S) (fun r m' => r = .x (I (roomP S.r (S.q k))) ∧ m' = rfK S) := s75 S hS (k : Int) ⟨by omega, by omega⟩
      have hrB := room_B hS (k := k)
      have b0 := needR_B hS i 0 k
      have b1 := needR_B hS i 1 k
      have b2 := needR_B hS i 2 k
      have b3 := needR_B hS i 3 k
      have bL := needL_B S i k
      have g0 : rI (plA S.pl) (k : Int).toNat 0 = (S.q k).kd := by rw [Int.toNat_natCast]; exact pl_0 S.pl k
      have g6 : rB (plA S.pl) (k : Int).toNat ((0 + 1 + 1 + 1 + 1 + 1 + 1)) = (S.q k).ret := by rw [Int.toNat_natCast]; exact pl_6 S.pl k
      by_cases hin : i ∈ S.up (k : Int)
      · have hin' : i ∈ (S.up (k : Int)).reverse := List.mem_reverse.2 hin
        have er : ∀ c, needR S i c (k + 1) = needR S i c k + (if (S.q k).kd = c then roomP S.r (S.q k) else 0) := fun c => by
          rw [needR]
          by_cases hc : (S.q k).kd = c
          · rw [if_pos ⟨hin, hc⟩, if_pos hc]
          · rw [if_neg (fun h => hc h.2), if_neg hc]
        have el : needL S i (k + 1) = needL S i k + (if (S.q k).kd = 3 ∧ (S.q k).ret = false then 1 else 0) := by
          rw [needL]
          by_cases hc : (S.q k).kd = 3 ∧ (S.q k).ret = false
          · rw [if_pos ⟨hin, hc⟩, if_pos hc]
          · rw [if_neg (fun h => hc h.2), if_neg hc]
        have e0 := er 0
        have e1 := er 1
        have e2 := er 2
        have e3 := er 3
        clear er
        rcases (show (S.q k).kd = 0 ∨ (S.q k).kd = 1 ∨ (S.q k).kd = 2 ∨ (S.q k).kd = 3 by omega) with hc | hc | hc | hc
        all_goals
          rw [hc] at g0 e0 e1 e2 e3 el
          by_cases hret : (S.q k).ret = true
          all_goals
            first
              | rw [hret] at g6
              | rw [show (S.q k).ret = false by simpa using hret] at g6
            simp [hret] at el
            simp at e0 e1 e2 e3
            repeat' ((conv => whnf); first | refine Rng.g ?_ | refine Ob.g ?_ | refine Ob.e ?_ | refine Ob.m ?_ | refine Ob.mk (Nat.le_of_ble_eq_true rfl) ?_ | refine JoinVC.on ?_ | refine Nils.mk (fun h => ?_) ?_ | refine Val.t ?_ | refine Val.d ?_ | refine Mm.mk ?_ | (refine Br.mk (fun h => ?_) (fun h => ?_) <;> first | (exfalso; omega; done) | (exfalso; simp at h; done) | skip))
            conv => whnf
            first | refine CallVC.mk [0, 1, 2, 3, 4, 5] _ _ _ rfl rfl rfl (c74) (fun r m' h' => ?_) | refine CallVC0.same [0, 1, 2, 3, 4, 5] _ _ _ rfl rfl rfl rfl (c74) (fun r m' h' => (by obtain ⟨rfl, rfl⟩ := h'; rfl)) (fun r m' h' => ?_) | (refine CallVC0.rows [0, 1, 2, 3, 4, 5] _ _ _ rfl rfl rfl ?_ (c74) (fun r m' h' => (by obtain ⟨rfl, rfl⟩ := h'; rfl)) (fun r m' h' => ?_); · (repeat' ((conv => whnf); first | exact trivial | exact rfl | exact Nat.le_refl _ | apply And.intro)))
            obtain ⟨rfl, rfl⟩ := h'
            conv => whnf
            repeat' ((conv => whnf); first | rw [g0] | rw [g6] | refine Rng.g ?_ | refine Ob.g ?_ | refine Ob.e ?_ | refine Ob.m ?_ | refine Ob.mk (Nat.le_of_ble_eq_true rfl) ?_ | refine JoinVC.on ?_ | refine Nils.mk (fun h => ?_) ?_ | refine Val.t ?_ | refine Val.d ?_ | refine Mm.mk ?_ | refine CallVC.pure rfl (c73) ?_ | refine CallVC0.pure rfl (c73) ?_ | (refine Br.mk (fun h => ?_) (fun h => ?_) <;> first | (exfalso; omega; done) | (exfalso; simp at h; done) | (exfalso; simp [hin'] at h; done) | skip))
            conv => whnf
            first | refine CallVC.mk [0, 1, 2, 3, 4, 5] _ _ _ rfl rfl rfl (c75) (fun r m' h' => ?_) | refine CallVC0.same [0, 1, 2, 3, 4, 5] _ _ _ rfl rfl rfl rfl (c75) (fun r m' h' => (by obtain ⟨rfl, rfl⟩ := h'; rfl)) (fun r m' h' => ?_) | (refine CallVC0.rows [0, 1, 2, 3, 4, 5] _ _ _ rfl rfl rfl ?_ (c75) (fun r m' h' => (by obtain ⟨rfl, rfl⟩ := h'; rfl)) (fun r m' h' => ?_); · (repeat' ((conv => whnf); first | exact trivial | exact rfl | exact Nat.le_refl _ | apply And.intro)))
            obtain ⟨rfl, rfl⟩ := h'
            conv => whnf
            repeat' ((conv => whnf); first | rw [g0] | rw [g6] | refine Rng.g ?_ | refine Ob.g ?_ | refine Ob.e ?_ | refine Ob.m ?_ | refine Ob.mk (Nat.le_of_ble_eq_true rfl) ?_ | refine JoinVC.on ?_ | refine Nils.mk (fun h => ?_) ?_ | refine Val.t ?_ | refine Val.d ?_ | refine Mm.mk ?_ | (refine Br.mk (fun h => ?_) (fun h => ?_) <;> first | (exfalso; omega; done) | (exfalso; simp at h; done) | skip))
            refine Back.mk (S.pl.length - (k + 1)) _ (by omega) ⟨k + 1, by omega, rfl, rfl⟩ ?_
            rw [el]
            unfold bN4
            rw [e0, e1, e2, e3]
            refine ⟨[some 0, some 1, some 2, some 3, some 4, some 5, some 6], rfl, rfl, ?_, ?_⟩ <;> repeat' (first | exact trivial | exact rfl | exact Iff.rfl | apply And.intro)
      · have hin' : ¬ i ∈ (S.up (k : Int)).reverse := fun hc => hin (List.mem_reverse.1 hc)
        have e : ∀ c, needR S i c (k + 1) = needR S i c k := fun c => by rw [needR, if_neg (fun h => hin h.1), Int.add_zero]
        have eL : needL S i (k + 1) = needL S i k := by rw [needL, if_neg (fun h => hin h.1), Int.add_zero]
        repeat' ((conv => whnf); first | refine Rng.g ?_ | refine Ob.g ?_ | refine Ob.e ?_ | refine Ob.m ?_ | refine Ob.mk (Nat.le_of_ble_eq_true rfl) ?_ | refine JoinVC.on ?_ | refine Nils.mk (fun h => ?_) ?_ | refine Val.t ?_ | refine Val.d ?_ | refine Mm.mk ?_ | (refine Br.mk (fun h => ?_) (fun h => ?_) <;> first | (exfalso; omega; done) | (exfalso; simp at h; done) | skip))
        conv => whnf
        first | refine CallVC.mk [0, 1, 2, 3, 4, 5] _ _ _ rfl rfl rfl (c74) (fun r m' h' => ?_) | refine CallVC0.same [0, 1, 2, 3, 4, 5] _ _ _ rfl rfl rfl rfl (c74) (fun r m' h' => (by obtain ⟨rfl, rfl⟩ := h'; rfl)) (fun r m' h' => ?_) | (refine CallVC0.rows [0, 1, 2, 3, 4, 5] _ _ _ rfl rfl rfl ?_ (c74) (fun r m' h' => (by obtain ⟨rfl, rfl⟩ := h'; rfl)) (fun r m' h' => ?_); · (repeat' ((conv => whnf); first | exact trivial | exact rfl | exact Nat.le_refl _ | apply And.intro)))
        obtain ⟨rfl, rfl⟩ := h'
        conv => whnf
        repeat' ((conv => whnf); first | refine Rng.g ?_ | refine Ob.g ?_ | refine Ob.e ?_ | refine Ob.m ?_ | refine Ob.mk (Nat.le_of_ble_eq_true rfl) ?_ | refine JoinVC.on ?_ | refine Nils.mk (fun h => ?_) ?_ | refine Val.t ?_ | refine Val.d ?_ | refine Mm.mk ?_ | refine CallVC.pure rfl (c73) ?_ | refine CallVC0.pure rfl (c73) ?_ | (refine Br.mk (fun h => ?_) (fun h => ?_) <;> first | (exfalso; omega; done) | (exfalso; simp at h; done) | (exfalso; simp [hin'] at h; done) | skip))
        refine Back.mk (S.pl.length - (k + 1)) _ (by omega) ⟨k + 1, by omega, rfl, rfl⟩ ?_
        rw [eL]
        unfold bN4
        rw [e, e, e, e]
        refine ⟨[some 0, some 1, some 2, some 3, some 4, some 5, some 6], rfl, rfl, ?_, ?_⟩ <;> repeat' (first | exact trivial | exact rfl | exact Iff.rfl | apply And.intro)
    · obtain rfl : k = S.pl.length := by omega
      repeat' ((conv => whnf); first | refine Rng.g ?_ | refine Ob.g ?_ | refine Ob.e ?_ | refine Ob.m ?_ | refine Ob.mk (Nat.le_of_ble_eq_true rfl) ?_ | refine JoinVC.on ?_ | refine Nils.mk (fun h => ?_) ?_ | refine Val.t ?_ | refine Val.d ?_ | refine Mm.mk ?_ | (refine Br.mk (fun h => ?_) (fun h => ?_) <;> first | (exfalso; omega; done) | (exfalso; simp at h; done) | skip))
      refine Meet.mk _ ⟨rfl, rfl⟩ ?_
      refine ⟨[some 0, some 1, some 2, some 3, some 4, some 5, some 6], rfl, rfl, ?_, ?_⟩ <;> repeat' (first | exact trivial | exact rfl | exact Iff.rfl | apply And.intro)
  rintro _ _ ⟨rfl, rfl⟩
  have bL := needL_B S i S.pl.length
  have b0 := needR_B hS i 0 S.pl.length
  have b1 := needR_B hS i 1 S.pl.length
  have b2 := needR_B hS i 2 S.pl.length
  have hmo := hS.r.mo
  have hsp := hS.r.sp
  have f3 : (if 0 < n - needL S i S.pl.length then n - needL S i S.pl.length else 0) = need3 S i n := rfl
  have h3 : 0 ≤ need3 S i n ∧ need3 S i n ≤ 256 := by rw [← f3]; split <;> omega
  by_cases h2 : need3 S i n ≤ needR S i 2 S.pl.length
  · skip
    have z2 : need2 S i n = 0 := by unfold need2 lackI; rw [if_pos h2]
    repeat' ((conv => whnf); first | rw [f3] | refine Rng.g ?_ | refine Ob.g ?_ | refine Ob.e ?_ | refine Ob.m ?_ | refine Ob.mk (Nat.le_of_ble_eq_true rfl) ?_ | refine JoinVC.on ?_ | refine Nils.mk (fun h => ?_) ?_ | refine Val.t ?_ | refine Val.d ?_ | refine Mm.mk ?_ | (refine Br.mk (fun h => ?_) (fun h => ?_) <;> first | (exfalso; omega; done) | (exfalso; simp at h; done) | skip))
    refine Val.nm (fun q hq => ?_)
    have hqB := tdivB hq (B := 10000) (by omega)
    have z1 : need1 S i n = 0 := by unfold need1 lackI; rw [if_pos (by omega)]
    repeat' ((conv => whnf); first | rw [f3] | refine Rng.g ?_ | refine Ob.g ?_ | refine Ob.e ?_ | refine Ob.m ?_ | refine Ob.mk (Nat.le_of_ble_eq_true rfl) ?_ | refine JoinVC.on ?_ | refine Nils.mk (fun h => ?_) ?_ | refine Val.t ?_ | refine Val.d ?_ | refine Mm.mk ?_ | (refine Br.mk (fun h => ?_) (fun h => ?_) <;> first | (exfalso; omega; done) | (exfalso; simp at h; done) | skip))
    refine Val.nm (fun q hq => ?_)
    have hqB := tdivB hq (B := 10000) (by omega)
    by_cases hE : needR S i 0 S.pl.length < need1 S i n
    · have eE : needE S i n = 15 := by unfold needE; rw [if_neg (by simpa using hi), if_neg (by omega), if_pos hE]
      have eN : needN S i n = 0 := by unfold needN; rw [eE, if_neg (by decide)]
      rw [eE, eN]
      repeat' ((conv => whnf); first | rw [f3] | refine Rng.g ?_ | refine Ob.g ?_ | refine Ob.e ?_ | refine Ob.m ?_ | refine Ob.mk (Nat.le_of_ble_eq_true rfl) ?_ | refine JoinVC.on ?_ | refine Nils.mk (fun h => ?_) ?_ | refine Val.t ?_ | refine Val.d ?_ | refine Mm.mk ?_ | (refine Br.mk (fun h => ?_) (fun h => ?_) <;> first | (exfalso; omega; done) | (exfalso; simp at h; done) | skip))
      all_goals
        repeat refine Mm.mk ?_
        refine EndVC.mk _ rfl _ _ ⟨rfl, rfl⟩ ?_
        refine ⟨[some 0, some 1, some 2, some 3, some 4, some 5], rfl, rfl, ?_, ?_⟩ <;> repeat' (first | exact trivial | exact rfl | exact Iff.rfl | apply And.intro)
    · have eE : needE S i n = 0 := by unfold needE; rw [if_neg (by simpa using hi), if_neg (by omega), if_neg hE]
      have eN : needN S i n = need3 S i n + need2 S i n + need1 S i n := by unfold needN; rw [if_pos eE]
      rw [z2, z1] at eN
      rw [eE, eN]
      repeat' ((conv => whnf); first | rw [f3] | refine Rng.g ?_ | refine Ob.g ?_ | refine Ob.e ?_ | refine Ob.m ?_ | refine Ob.mk (Nat.le_of_ble_eq_true rfl) ?_ | refine JoinVC.on ?_ | refine Nils.mk (fun h => ?_) ?_ | refine Val.t ?_ | refine Val.d ?_ | refine Mm.mk ?_ | (refine Br.mk (fun h => ?_) (fun h => ?_) <;> first | (exfalso; omega; done) | (exfalso; simp at h; done) | skip))
      all_goals
        repeat refine Mm.mk ?_
        refine EndVC.mk _ rfl _ _ ⟨rfl, rfl⟩ ?_
        refine ⟨[some 0, some 1, some 2, some 3, some 4, some 5], rfl, rfl, ?_, ?_⟩ <;> repeat' (first | exact trivial | exact rfl | exact Iff.rfl | apply And.intro)
  · skip
    have f2 : (need3 S i n - needR S i 2 S.pl.length + S.r.sp - 1) / S.r.sp = need2 S i n := by unfold need2 lackI; rw [if_neg h2]
    have n2 : 0 ≤ need2 S i n ∧ need2 S i n ≤ 256 := lackI_B h3 b2.1 hsp.1
    have g2 : (if 0 < need2 S i n then need2 S i n else 0) = need2 S i n := by split <;> omega
    by_cases h1 : need2 S i n ≤ needR S i 1 S.pl.length
    · have z1 : need1 S i n = 0 := by unfold need1 lackI; rw [if_pos h1]
      repeat' ((conv => whnf); first | rw [f3] | rw [f2] | rw [g2] | refine Rng.g ?_ | refine Ob.g ?_ | refine Ob.e ?_ | refine Ob.m ?_ | refine Ob.mk (Nat.le_of_ble_eq_true rfl) ?_ | refine JoinVC.on ?_ | refine Nils.mk (fun h => ?_) ?_ | refine Val.t ?_ | refine Val.d ?_ | refine Mm.mk ?_ | (refine Br.mk (fun h => ?_) (fun h => ?_) <;> first | (exfalso; omega; done) | (exfalso; simp at h; done) | skip))
      refine Val.nm (fun q hq => ?_)
      have hqB := tdivB hq (B := 10000) (by omega)
      by_cases hE : needR S i 0 S.pl.length < need1 S i n
      · have eE : needE S i n = 15 := by unfold needE; rw [if_neg (by simpa using hi), if_neg (by omega), if_pos hE]
        have eN : needN S i n = 0 := by unfold needN; rw [eE, if_neg (by decide)]
        rw [eE, eN]
        repeat' ((conv => whnf); first | rw [f3] | rw [f2] | rw [g2] | refine Rng.g ?_ | refine Ob.g ?_ | refine Ob.e ?_ | refine Ob.m ?_ | refine Ob.mk (Nat.le_of_ble_eq_true rfl) ?_ | refine JoinVC.on ?_ | refine Nils.mk (fun h => ?_) ?_ | refine Val.t ?_ | refine Val.d ?_ | refine Mm.mk ?_ | (refine Br.mk (fun h => ?_) (fun h => ?_) <;> first | (exfalso; omega; done) | (exfalso; simp at h; done) | skip))
        all_goals
          repeat refine Mm.mk ?_
          refine EndVC.mk _ rfl _ _ ⟨rfl, rfl⟩ ?_
          refine ⟨[some 0, some 1, some 2, some 3, some 4, some 5], rfl, rfl, ?_, ?_⟩ <;> repeat' (first | exact trivial | exact rfl | exact Iff.rfl | apply And.intro)
      · have eE : needE S i n = 0 := by unfold needE; rw [if_neg (by simpa using hi), if_neg (by omega), if_neg hE]
        have eN : needN S i n = need3 S i n + need2 S i n + need1 S i n := by unfold needN; rw [if_pos eE]
        rw [z1] at eN
        rw [eE, eN]
        repeat' ((conv => whnf); first | rw [f3] | rw [f2] | rw [g2] | refine Rng.g ?_ | refine Ob.g ?_ | refine Ob.e ?_ | refine Ob.m ?_ | refine Ob.mk (Nat.le_of_ble_eq_true rfl) ?_ | refine JoinVC.on ?_ | refine Nils.mk (fun h => ?_) ?_ | refine Val.t ?_ | refine Val.d ?_ | refine Mm.mk ?_ | (refine Br.mk (fun h => ?_) (fun h => ?_) <;> first | (exfalso; omega; done) | (exfalso; simp at h; done) | skip))
        all_goals
          repeat refine Mm.mk ?_
          refine EndVC.mk _ rfl _ _ ⟨rfl, rfl⟩ ?_
          refine ⟨[some 0, some 1, some 2, some 3, some 4, some 5], rfl, rfl, ?_, ?_⟩ <;> repeat' (first | exact trivial | exact rfl | exact Iff.rfl | apply And.intro)
    · have f1 : (need2 S i n - needR S i 1 S.pl.length + S.r.mo - 1) / S.r.mo = need1 S i n := by unfold need1 lackI; rw [if_neg h1]
      have n1 : 0 ≤ need1 S i n ∧ need1 S i n ≤ 256 := lackI_B n2 b1.1 hmo.1
      have g1 : (if 0 < need1 S i n then need1 S i n else 0) = need1 S i n := by split <;> omega
      by_cases hE : needR S i 0 S.pl.length < need1 S i n
      · have eE : needE S i n = 15 := by unfold needE; rw [if_neg (by simpa using hi), if_neg (by omega), if_pos hE]
        have eN : needN S i n = 0 := by unfold needN; rw [eE, if_neg (by decide)]
        rw [eE, eN]
        repeat' ((conv => whnf); first | rw [f3] | rw [f2] | rw [g2] | rw [f1] | rw [g1] | refine Rng.g ?_ | refine Ob.g ?_ | refine Ob.e ?_ | refine Ob.m ?_ | refine Ob.mk (Nat.le_of_ble_eq_true rfl) ?_ | refine JoinVC.on ?_ | refine Nils.mk (fun h => ?_) ?_ | refine Val.t ?_ | refine Val.d ?_ | refine Mm.mk ?_ | (refine Br.mk (fun h => ?_) (fun h => ?_) <;> first | (exfalso; omega; done) | (exfalso; simp at h; done) | skip))
        all_goals
          repeat refine Mm.mk ?_
          refine EndVC.mk _ rfl _ _ ⟨rfl, rfl⟩ ?_
          refine ⟨[some 0, some 1, some 2, some 3, some 4, some 5], rfl, rfl, ?_, ?_⟩ <;> repeat' (first | exact trivial | exact rfl | exact Iff.rfl | apply And.intro)
      · have eE : needE S i n = 0 := by unfold needE; rw [if_neg (by simpa using hi), if_neg (by omega), if_neg hE]
        have eN : needN S i n = need3 S i n + need2 S i n + need1 S i n := by unfold needN; rw [if_pos eE]
        rw [eE, eN]
        repeat' ((conv => whnf); first | rw [f3] | rw [f2] | rw [g2] | rw [f1] | rw [g1] | refine Rng.g ?_ | refine Ob.g ?_ | refine Ob.e ?_ | refine Ob.m ?_ | refine Ob.mk (Nat.le_of_ble_eq_true rfl) ?_ | refine JoinVC.on ?_ | refine Nils.mk (fun h => ?_) ?_ | refine Val.t ?_ | refine Val.d ?_ | refine Mm.mk ?_ | (refine Br.mk (fun h => ?_) (fun h => ?_) <;> first | (exfalso; omega; done) | (exfalso; simp at h; done) | skip))
        all_goals
          repeat refine Mm.mk ?_
          refine EndVC.mk _ rfl _ _ ⟨rfl, rfl⟩ ?_
          refine ⟨[some 0, some 1, some 2, some 3, some 4, some 5], rfl, rfl, ?_, ?_⟩ <;> repeat' (first | exact trivial | exact rfl | exact Iff.rfl | apply And.intro)
theorem s27 (S : Sho) (hS : ShOK S) (i n : Int) : HSpec Try.prog 27 [.one (.ptr 0 0), I i, I n] (rfM S) (fun r m' => r = .tup [I (needN S i n), I (needE S i n)] ∧ m' = rfK S) := by
  by_cases h : ¬ inP S i ∨ n < 0 ∨ 256 < n
  · exact s27_out S i n h
  · exact s27_ok S hS i n (Classical.byContradiction fun hc => h (.inl hc)) (by omega)
end Go.Sx

namespace Go.Sx
open Go Go.Proofs
set_option maxRecDepth 10000
set_option maxHeartbeats 8000000
/-! ### A shop and the reference's -/
@[reducible] def rf6K (S : Sho) : List (Option Blk) := [some (bRf 7 8 9 10 11 S.r), some (bPs S.pl), some (bBe S.be), some (bTk S.tk), some (bFr S.fl), some (bAc S.ac)]
/-! ### Both -/
theorem s23 (r : Rcp) (l : List Act2) (hr : RcpOK r) (hl : l.length ≤ 1000000) : HSpec Try.prog 23 [r.x, .one (.lst true KAc (acA l))] [] (fun v m' => ∃ ms, MsOK ms (aftS r l).be ∧ v = .tup [.one (.ptr 0 0), .one (.ptr 6 0), .one .tt] ∧ m' = shK (aftS r l) ms ++ rf6K (aftS r l)) := by
  have c20 := s20 r hr
  have c46 := s46 r hr
  have ll := acA_len l
  have hS := ShOK.repS (ShOK.new hr) l
  refine spec_of pMix (O := []) Try.func23 (c := bodyOf Try.f23) rfl (by kernel_rfl) (by kernel_rfl) Try.ntmps23 (res := [.tmp 4, .tmp 5, .tmp 6]) (by kernel_rfl) ?_
  repeat' ((conv => whnf); first | refine Rng.g ?_ | refine Ob.g ?_ | refine Ob.e ?_ | refine Ob.m ?_ | refine Ob.mk (Nat.le_of_ble_eq_true rfl) ?_ | refine JoinVC.on ?_ | refine Nils.mk (fun h => ?_) ?_ | refine Val.t ?_ | refine Val.d ?_ | refine Mm.mk ?_ | (refine Br.mk (fun h => ?_) (fun h => ?_) <;> first | (exfalso; omega; done) | (exfalso; simp at h; done) | skip))
  conv => whnf
  refine CallVC.mk [] _ _ _ rfl rfl rfl (c20) (fun r m' h' => ?_)
  obtain ⟨rfl, rfl⟩ := h'
  conv => whnf
  repeat' ((conv => whnf); first | refine Rng.g ?_ | refine Ob.g ?_ | refine Ob.e ?_ | refine Ob.m ?_ | refine Ob.mk (Nat.le_of_ble_eq_true rfl) ?_ | refine JoinVC.on ?_ | refine Nils.mk (fun h => ?_) ?_ | refine Val.t ?_ | refine Val.d ?_ | refine Mm.mk ?_ | (refine Br.mk (fun h => ?_) (fun h => ?_) <;> first | (exfalso; omega; done) | (exfalso; simp at h; done) | skip))
  conv => whnf
  refine CallVC.mk [] _ _ _ rfl rfl rfl (c46) (fun r m' h' => ?_)
  obtain ⟨rfl, rfl⟩ := h'
  conv => whnf
  repeat' ((conv => whnf); first | refine Rng.g ?_ | refine Ob.g ?_ | refine Ob.e ?_ | refine Ob.m ?_ | refine Ob.mk (Nat.le_of_ble_eq_true rfl) ?_ | refine JoinVC.on ?_ | refine Nils.mk (fun h => ?_) ?_ | refine Val.t ?_ | refine Val.d ?_ | refine Mm.mk ?_ | (refine Br.mk (fun h => ?_) (fun h => ?_) <;> first | (exfalso; omega; done) | (exfalso; simp at h; done) | skip))
  refine LoopVC.mk (fun n st => ∃ (i : Nat) (ms : List MS), i ≤ l.length ∧ MsOK ms (repS (shop0 r) l i).be ∧ n = l.length - i ∧ st = ⟨0, envA 74 [(1, .x (.one (.lst true KAc (acA l)))), (7, .x (.one (.ptr 0 0))), (9, .x (.one (.ptr 6 0))), (11, .int .i64 (i : Int))], shK (repS (shop0 r) l i) ms ++ rf6K (repS (shop0 r) l i)⟩) _ _ ⟨0, [], Nat.zero_le _, MsOK.new, rfl, rfl⟩ ?_ ?_
  · refine ⟨[some 1, some 2, some 3, some 4, some 5, some 6, some 7, some 8, some 9, some 10, some 11, some 12], rfl, rfl, ?_, ?_⟩ <;> repeat' (first | exact trivial | exact rfl | exact Iff.rfl | apply And.intro)
  rintro n _ ⟨i, ms, hi, hM, hn, rfl⟩
  by_cases h' : i < l.length
  · have c21 : HSpec Try.prog 21 [.one (.ptr 0 0), acX (acA l) (i : Int).toNat] (shM (repS (shop0 r) l i) ms) (DoR (repS (shop0 r) l i) (l.getD i ac0)) := by
      rw [Int.toNat_natCast, acX_eq]
      exact s21 _ ms (hS i) hM _
    have c48 : HSpec Try.prog 48 [.one (.ptr 0 0), acX (acA l) (i : Int).toNat] (rfM (repS (shop0 r) l i)) (RDo (repS (shop0 r) l i) (l.getD i ac0)) := by
      rw [Int.toNat_natCast, acX_eq]
      exact s48 _ (hS i) _
    repeat' ((conv => whnf); first | refine Rng.g ?_ | refine Ob.g ?_ | refine Ob.e ?_ | refine Ob.m ?_ | refine Ob.mk (Nat.le_of_ble_eq_true rfl) ?_ | refine JoinVC.on ?_ | refine Nils.mk (fun h => ?_) ?_ | refine Val.t ?_ | refine Val.d ?_ | refine Mm.mk ?_ | (refine Br.mk (fun h => ?_) (fun h => ?_) <;> first | (exfalso; omega; done) | (exfalso; simp at h; done) | skip))
    conv => whnf
    first | refine CallVC.mk [0, 1, 2, 3, 4, 5] _ _ _ rfl rfl rfl (c21) (fun r m' h' => ?_) | refine CallVC0.same [0, 1, 2, 3, 4, 5] _ _ _ rfl rfl rfl rfl (c21) (fun r m' h' => (by obtain ⟨ms', hM', rfl, rfl⟩ := h'; rfl)) (fun r m' h' => ?_) | (refine CallVC0.rows [0, 1, 2, 3, 4, 5] _ _ _ rfl rfl rfl ?_ (c21) (fun r m' h' => (by obtain ⟨ms', hM', rfl, rfl⟩ := h'; rfl)) (fun r m' h' => ?_); · (repeat' ((conv => whnf); first | exact trivial | exact rfl | exact Nat.le_refl _ | apply And.intro)))
    obtain ⟨ms', hM', rfl, rfl⟩ := h'
    conv => whnf
    repeat' ((conv => whnf); first | refine Rng.g ?_ | refine Ob.g ?_ | refine Ob.e ?_ | refine Ob.m ?_ | refine Ob.mk (Nat.le_of_ble_eq_true rfl) ?_ | refine JoinVC.on ?_ | refine Nils.mk (fun h => ?_) ?_ | refine Val.t ?_ | refine Val.d ?_ | refine Mm.mk ?_ | (refine Br.mk (fun h => ?_) (fun h => ?_) <;> first | (exfalso; omega; done) | (exfalso; simp at h; done) | skip))
    conv => whnf
    first | refine CallVC.mk [6, 7, 8, 9, 10, 11] _ _ _ rfl rfl rfl (c48) (fun r m' h' => ?_) | refine CallVC0.same [6, 7, 8, 9, 10, 11] _ _ _ rfl rfl rfl rfl (c48) (fun r m' h' => (by obtain ⟨rfl, rfl⟩ := h'; rfl)) (fun r m' h' => ?_) | (refine CallVC0.rows [6, 7, 8, 9, 10, 11] _ _ _ rfl rfl rfl ?_ (c48) (fun r m' h' => (by obtain ⟨rfl, rfl⟩ := h'; rfl)) (fun r m' h' => ?_); · (repeat' ((conv => whnf); first | exact trivial | exact rfl | exact Nat.le_refl _ | apply And.intro)))
    obtain ⟨rfl, rfl⟩ := h'
    conv => whnf
    repeat' ((conv => whnf); first | refine Rng.g ?_ | refine Ob.g ?_ | refine Ob.e ?_ | refine Ob.m ?_ | refine Ob.mk (Nat.le_of_ble_eq_true rfl) ?_ | refine JoinVC.on ?_ | refine Nils.mk (fun h => ?_) ?_ | refine Val.t ?_ | refine Val.d ?_ | refine Mm.mk ?_ | (refine Br.mk (fun h => ?_) (fun h => ?_) <;> first | (exfalso; omega; done) | (exfalso; simp at h; done) | skip))
    refine Back.mk (l.length - (i + 1)) _ (by omega) ⟨i + 1, ms', by omega, hM', rfl, rfl⟩ ?_
    refine ⟨[some 0, some 12, some 2, some 13, some 14, some 15, some 6, some 16, some 17, some 18, some 19, some 20], rfl, rfl, ?_, ?_⟩ <;> repeat' (first | exact trivial | exact rfl | exact Iff.rfl | apply And.intro)
  · obtain rfl : i = l.length := by omega
    repeat' ((conv => whnf); first | refine Rng.g ?_ | refine Ob.g ?_ | refine Ob.e ?_ | refine Ob.m ?_ | refine Ob.mk (Nat.le_of_ble_eq_true rfl) ?_ | refine JoinVC.on ?_ | refine Nils.mk (fun h => ?_) ?_ | refine Val.t ?_ | refine Val.d ?_ | refine Mm.mk ?_ | (refine Br.mk (fun h => ?_) (fun h => ?_) <;> first | (exfalso; omega; done) | (exfalso; simp at h; done) | skip))
    repeat refine Mm.mk ?_
    conv => whnf
    refine EndVC.mk _ rfl _ _ (⟨ms, hM, rfl, rfl⟩) ?_
    refine ⟨[some 0, some 1, some 2, some 3, some 4, some 5, some 6, some 7, some 8, some 9, some 10, some 11], rfl, rfl, ?_, ?_⟩ <;> repeat' (first | exact trivial | exact rfl | exact Iff.rfl | apply And.intro)
end Go.Sx

namespace Go.Sx
open Go Go.Proofs
set_option maxRecDepth 10000
set_option maxHeartbeats 8000000
theorem e5 : EntersF Try.prog 5 := enters_of Try.func5 (c := bodyOf Try.f5) (by kernel_rfl) rfl
/-! ### Plans -/
theorem s5_any (r : Rcp) (l : List Act2) (a : Act2) (i n : Int) (h : 60 < l.length ∨ ¬ RcpOK r) : PSpec Try.prog 5 [r.x, .one (.lst true KAc (acA l)), a.x, I i, I n] (xP True) := by
  have ll := acA_len l
  have c16 := s16 r
  have c17 := s17
  by_cases hl : 60 < l.length
  · refine spec_of pMix (O := []) Try.func5 (c := bodyOf Try.f5) rfl (by kernel_rfl) (by kernel_rfl) Try.ntmps5 (res := [.tmp 10]) (by kernel_rfl) ?_
    repeat' ((conv => whnf); first | refine Rng.g ?_ | refine Ob.g ?_ | refine Ob.e ?_ | refine Ob.m ?_ | refine Ob.mk (Nat.le_of_ble_eq_true rfl) ?_ | refine JoinVC.on ?_ | refine Nils.mk (fun h => ?_) ?_ | refine Val.t ?_ | refine Val.d ?_ | refine Mm.mk ?_ | refine CallVC.pure rfl (c16) ?_ | refine CallVC.pure rfl (c17) ?_ | refine CallVC0.pure rfl (c16) ?_ | refine CallVC0.pure rfl (c17) ?_ | (refine Br.mk (fun h => ?_) (fun h => ?_) <;> first | (exfalso; omega; done) | (exfalso; simp at h; done) | skip))
    all_goals
      repeat refine Mm.mk ?_
      refine EndVC.mk _ rfl _ _ ⟨rfl, rfl⟩ ?_
      refine ⟨[], rfl, rfl, ?_, ?_⟩ <;> repeat' (first | exact trivial | exact rfl | exact Iff.rfl | apply And.intro)
  · have hr := h.resolve_left hl
    unfold rcpE at c16
    rw [if_neg hr] at c16
    refine spec_of pMix (O := []) Try.func5 (c := bodyOf Try.f5) rfl (by kernel_rfl) (by kernel_rfl) Try.ntmps5 (res := [.tmp 10]) (by kernel_rfl) ?_
    repeat' ((conv => whnf); first | refine Rng.g ?_ | refine Ob.g ?_ | refine Ob.e ?_ | refine Ob.m ?_ | refine Ob.mk (Nat.le_of_ble_eq_true rfl) ?_ | refine JoinVC.on ?_ | refine Nils.mk (fun h => ?_) ?_ | refine Val.t ?_ | refine Val.d ?_ | refine Mm.mk ?_ | refine CallVC.pure rfl (c16) ?_ | refine CallVC.pure rfl (c17) ?_ | refine CallVC0.pure rfl (c16) ?_ | refine CallVC0.pure rfl (c17) ?_ | (refine Br.mk (fun h => ?_) (fun h => ?_) <;> first | (exfalso; omega; done) | (exfalso; simp at h; done) | skip))
    all_goals
      repeat refine Mm.mk ?_
      refine EndVC.mk _ rfl _ _ ⟨rfl, rfl⟩ ?_
      refine ⟨[], rfl, rfl, ?_, ?_⟩ <;> repeat' (first | exact trivial | exact rfl | exact Iff.rfl | apply And.intro)
theorem s5_ok (r : Rcp) (l : List Act2) (a : Act2) (i n : Int) (hl : l.length ≤ 60) (hr : RcpOK r) : PSpec Try.prog 5 [r.x, .one (.lst true KAc (acA l)), a.x, I i, I n] (xP True) := by
  have ll := acA_len l
  have c16 := s16 r
  have c17 := s17
  unfold rcpE at c16
  rw [if_pos hr] at c16
  have c23 := s23 r l hr (by omega)
  have hS := aft_ok hr l
  generalize aftS r l = S at *
  refine spec_of pMix (O := []) Try.func5 (c := bodyOf Try.f5) rfl (by kernel_rfl) (by kernel_rfl) Try.ntmps5 (res := [.tmp 10]) (by kernel_rfl) ?_
  repeat' ((conv => whnf); first | refine Rng.g ?_ | refine Ob.g ?_ | refine Ob.e ?_ | refine Ob.m ?_ | refine Ob.mk (Nat.le_of_ble_eq_true rfl) ?_ | refine JoinVC.on ?_ | refine Nils.mk (fun h => ?_) ?_ | refine Val.t ?_ | refine Val.d ?_ | refine Mm.mk ?_ | refine CallVC.pure rfl (c16) ?_ | refine CallVC0.pure rfl (c16) ?_ | (refine Br.mk (fun h => ?_) (fun h => ?_) <;> first | (exfalso; omega; done) | (exfalso; simp at h; done) | skip))
  conv => whnf
  refine CallVC.mk [] _ _ _ rfl rfl rfl (c23) (fun r m' h' => ?_)
  obtain ⟨ms, hM, rfl, rfl⟩ := h'
  conv => whnf
  have c24 := s24 S ms hS a
  have c25 := s25 S hS a
  have c26 := s26 S ms hS i n
  have c27 := s27 S hS i n
  repeat' ((conv => whnf); first | refine Rng.g ?_ | refine Ob.g ?_ | refine Ob.e ?_ | refine Ob.m ?_ | refine Ob.mk (Nat.le_of_ble_eq_true rfl) ?_ | refine JoinVC.on ?_ | refine Nils.mk (fun h => ?_) ?_ | refine Val.t ?_ | refine Val.d ?_ | refine Mm.mk ?_ | (refine Br.mk (fun h => ?_) (fun h => ?_) <;> first | (exfalso; omega; done) | (exfalso; simp at h; done) | skip))
  conv => whnf
  first | refine CallVC.mk [2, 3, 4, 5, 6, 7] _ _ _ rfl rfl rfl (c24) (fun r m' h' => ?_) | refine CallVC0.same [2, 3, 4, 5, 6, 7] _ _ _ rfl rfl rfl rfl (c24) (fun r m' h' => (by obtain ⟨rfl, rfl⟩ := h'; rfl)) (fun r m' h' => ?_) | (refine CallVC0.rows [2, 3, 4, 5, 6, 7] _ _ _ rfl rfl rfl ?_ (c24) (fun r m' h' => (by obtain ⟨rfl, rfl⟩ := h'; rfl)) (fun r m' h' => ?_); · (repeat' ((conv => whnf); first | exact trivial | exact rfl | exact Nat.le_refl _ | apply And.intro)))
  obtain ⟨rfl, rfl⟩ := h'
  conv => whnf
  repeat' ((conv => whnf); first | refine Rng.g ?_ | refine Ob.g ?_ | refine Ob.e ?_ | refine Ob.m ?_ | refine Ob.mk (Nat.le_of_ble_eq_true rfl) ?_ | refine JoinVC.on ?_ | refine Nils.mk (fun h => ?_) ?_ | refine Val.t ?_ | refine Val.d ?_ | refine Mm.mk ?_ | (refine Br.mk (fun h => ?_) (fun h => ?_) <;> first | (exfalso; omega; done) | (exfalso; simp at h; done) | skip))
  conv => whnf
  first | refine CallVC.mk [8, 9, 10, 11, 12, 13] _ _ _ rfl rfl rfl (c25) (fun r m' h' => ?_) | refine CallVC0.same [8, 9, 10, 11, 12, 13] _ _ _ rfl rfl rfl rfl (c25) (fun r m' h' => (by obtain ⟨rfl, rfl⟩ := h'; rfl)) (fun r m' h' => ?_) | (refine CallVC0.rows [8, 9, 10, 11, 12, 13] _ _ _ rfl rfl rfl ?_ (c25) (fun r m' h' => (by obtain ⟨rfl, rfl⟩ := h'; rfl)) (fun r m' h' => ?_); · (repeat' ((conv => whnf); first | exact trivial | exact rfl | exact Nat.le_refl _ | apply And.intro)))
  obtain ⟨rfl, rfl⟩ := h'
  conv => whnf
  repeat' ((conv => whnf); first | refine Rng.g ?_ | refine Ob.g ?_ | refine Ob.e ?_ | refine Ob.m ?_ | refine Ob.mk (Nat.le_of_ble_eq_true rfl) ?_ | refine JoinVC.on ?_ | refine Nils.mk (fun h => ?_) ?_ | refine Val.t ?_ | refine Val.d ?_ | refine Mm.mk ?_ | (refine Br.mk (fun h => ?_) (fun h => ?_) <;> first | (exfalso; omega; done) | (exfalso; simp at h; done) | skip))
  conv => whnf
  first | refine CallVC.mk [2, 3, 4, 5, 6, 7] _ _ _ rfl rfl rfl (c26) (fun r m' h' => ?_) | refine CallVC0.same [2, 3, 4, 5, 6, 7] _ _ _ rfl rfl rfl rfl (c26) (fun r m' h' => (by obtain ⟨rfl, rfl⟩ := h'; rfl)) (fun r m' h' => ?_) | (refine CallVC0.rows [2, 3, 4, 5, 6, 7] _ _ _ rfl rfl rfl ?_ (c26) (fun r m' h' => (by obtain ⟨rfl, rfl⟩ := h'; rfl)) (fun r m' h' => ?_); · (repeat' ((conv => whnf); first | exact trivial | exact rfl | exact Nat.le_refl _ | apply And.intro)))
  obtain ⟨rfl, rfl⟩ := h'
  conv => whnf
  repeat' ((conv => whnf); first | refine Rng.g ?_ | refine Ob.g ?_ | refine Ob.e ?_ | refine Ob.m ?_ | refine Ob.mk (Nat.le_of_ble_eq_true rfl) ?_ | refine JoinVC.on ?_ | refine Nils.mk (fun h => ?_) ?_ | refine Val.t ?_ | refine Val.d ?_ | refine Mm.mk ?_ | (refine Br.mk (fun h => ?_) (fun h => ?_) <;> first | (exfalso; omega; done) | (exfalso; simp at h; done) | skip))
  conv => whnf
  first | refine CallVC.mk [8, 9, 10, 11, 12, 13] _ _ _ rfl rfl rfl (c27) (fun r m' h' => ?_) | refine CallVC0.same [8, 9, 10, 11, 12, 13] _ _ _ rfl rfl rfl rfl (c27) (fun r m' h' => (by obtain ⟨rfl, rfl⟩ := h'; rfl)) (fun r m' h' => ?_) | (refine CallVC0.rows [8, 9, 10, 11, 12, 13] _ _ _ rfl rfl rfl ?_ (c27) (fun r m' h' => (by obtain ⟨rfl, rfl⟩ := h'; rfl)) (fun r m' h' => ?_); · (repeat' ((conv => whnf); first | exact trivial | exact rfl | exact Nat.le_refl _ | apply And.intro)))
  obtain ⟨rfl, rfl⟩ := h'
  conv => whnf
  repeat' ((conv => whnf); first | refine Rng.g ?_ | refine Ob.g ?_ | refine Ob.e ?_ | refine Ob.m ?_ | refine Ob.mk (Nat.le_of_ble_eq_true rfl) ?_ | refine JoinVC.on ?_ | refine Nils.mk (fun h => ?_) ?_ | refine Val.t ?_ | refine Val.d ?_ | refine Mm.mk ?_ | refine CallVC.pure rfl (c17) ?_ | refine CallVC0.pure rfl (c17) ?_ | (refine Br.mk (fun h => ?_) (fun h => ?_) <;> first | (exfalso; omega; done) | (exfalso; simp at h; done) | skip))
  repeat refine Mm.mk ?_
  refine EndVC.mk _ rfl _ _ ⟨rfl, rfl⟩ ?_
  refine ⟨[], rfl, rfl, ?_, ?_⟩ <;> repeat' (first | exact trivial | exact rfl | exact Iff.rfl | apply And.intro)
theorem s5 (r : Rcp) (l : List Act2) (a : Act2) (i n : Int) : PSpec Try.prog 5 [r.x, .one (.lst true KAc (acA l)), a.x, I i, I n] (xP True) := by
  by_cases h : 60 < l.length ∨ ¬ RcpOK r
  · exact s5_any r l a i n h
  · exact s5_ok r l a i n (by omega) (Classical.byContradiction fun hc => h (.inr hc))
end Go.Sx

namespace Go.Sx
open Go Go.Proofs
set_option maxRecDepth 10000
/-! ### Rows read as acts -/
theorem wfr_of : ∀ {ks : List CK} {r : List Cell}, r.length = ks.length → (∀ (j : Nat) k c, ks[j]? = some k → r[j]? = some c → Wf k c) → WfR ks r
  | [], [], _, _ => .nil
  | [], _ :: _, h, _ => by simp at h
  | _ :: _, [], h, _ => by simp at h
  | k :: ks, c :: cs, h, hw => .cons (hw 0 k c rfl rfl) (wfr_of (by simpa using h) fun j k' c' h1 h2 => hw (j + 1) k' c' (by simpa using h1) (by simpa using h2))
theorem wf_map {α : Type} {ks : List CK} {row : α → List Cell} {p : α → Prop} (hrow : ∀ r, WfR ks r → ∃ x, r = row x ∧ p x) {a : Arr} (h : Wf (.sl ks) (.sl a)) : ∃ l : List α, a = l.map row ∧ ∀ x ∈ l, p x := by
  cases h with
  | sl hl hr hw =>
    clear hl
    induction a with
    | nil => exact ⟨[], rfl, fun x hx => by simp at hx⟩
    | cons r a ih =>
      obtain ⟨l, rfl, h2⟩ := ih (fun r h => hr r (List.mem_cons_of_mem _ h)) (fun r h => hw r (List.mem_cons_of_mem _ h))
      obtain ⟨x, rfl, h3⟩ := hrow r (wfr_of (hr r (List.mem_cons_self ..)) (hw r (List.mem_cons_self ..)))
      exact ⟨x :: l, rfl, fun y hy => by rcases List.mem_cons.1 hy with rfl | hy; (· exact h3); exact h2 y hy⟩
theorem wf_acts {a : Arr} (h : Wf (.sl KAc) (.sl a)) : ∃ l : List Act2, a = acA l := by
  obtain ⟨l, h1, _⟩ := wf_map (row := acC) (p := fun _ => True) (fun r hr => by
    obtain ⟨c0, _, rfl, g0, h1⟩ := hr.inv
    obtain ⟨n0, rfl, _⟩ := g0.int_inv
    obtain ⟨c1, _, rfl, g1, h2⟩ := h1.inv
    obtain ⟨n1, rfl, _⟩ := g1.int_inv
    obtain ⟨c2, _, rfl, g2, h3⟩ := h2.inv
    obtain ⟨n2, rfl, _⟩ := g2.int_inv
    obtain ⟨c3, _, rfl, g3, h4⟩ := h3.inv
    obtain ⟨n3, rfl, _⟩ := g3.int_inv
    obtain ⟨c4, _, rfl, g4, h5⟩ := h4.inv
    obtain ⟨n4, rfl, _⟩ := g4.int_inv
    obtain ⟨c5, _, rfl, g5, h6⟩ := h5.inv
    obtain ⟨n5, rfl, _⟩ := g5.int_inv
    obtain ⟨c6, _, rfl, g6, h7⟩ := h6.inv
    obtain ⟨n6, rfl, _⟩ := g6.int_inv
    obtain ⟨c7, _, rfl, g7, h8⟩ := h7.inv
    obtain ⟨n7, rfl, _⟩ := g7.int_inv
    obtain ⟨c8, _, rfl, g8, h9⟩ := h8.inv
    obtain ⟨n8, rfl, _⟩ := g8.int_inv
    obtain ⟨c9, _, rfl, g9, h10⟩ := h9.inv
    obtain ⟨n9, rfl, _⟩ := g9.int_inv
    obtain ⟨c10, _, rfl, g10, h11⟩ := h10.inv
    obtain ⟨n10, rfl, _⟩ := g10.int_inv
    obtain ⟨c11, _, rfl, g11, h12⟩ := h11.inv
    obtain ⟨n11, rfl, _⟩ := g11.int_inv
    obtain ⟨c12, _, rfl, g12, h13⟩ := h12.inv
    obtain ⟨n12, rfl, _⟩ := g12.int_inv
    cases h13.nil_inv
    exact ⟨⟨n0, n1, n2, n3, n4, n5, n6, n7, n8, n9, n10, n11, n12⟩, rfl, trivial⟩) h
  exact ⟨l, h1⟩
end Go.Sx
