import Derived.Test.YthlebjnhcinheaaGreatDoorPrTopCentredB
import Derived.Test.YthlebjnhcinheaaGreatDoorPrTopCentredA
import Derived.Test.YthlebjnhcinheaaGreatDoorXc
namespace Go.Sx
open Go Go.Proofs
set_option maxRecDepth 10000
set_option maxHeartbeats 8000000
def exMac : Mac := ⟨20, 120, 50, 200, 30, 25, 5, 3, 2⟩
theorem exMac_chk : exMac.chk = 0 := Mac.chk0 (by simp [Mac.ok, exMac])
theorem s83 : PSpec Tryz.prog 83 [] (xP True) := by
  have hw := s68
  have v1 : exMac.tickV 190 1 = 200 := by
    rw [Mac.tickV, if_pos exMac_chk]; decide
  have v2 : exMac.tickE 190 1 = 0 := by
    rw [Mac.tickE, if_pos exMac_chk]; decide
  have v3 : boilE 2 1 3 4 4 = 0 := by decide
  have v4 : stRes 2 1 3 4 4 = [0, 3, 7, 10] := by decide
  have c1 := ps18 exMac 190 1
  have c2 := ps23 2 1 3 4 4
  rw [v1, v2] at c1
  rw [v3, v4] at c2
  have g3 : rI (i64s [0, 3, 7, 10]) (Int.toNat 3) 0 = 10 := rfl
  have l4 : (i64s [0, 3, 7, 10]).length = 4 := rfl
  refine spec_of pMix (O := []) Tryz.func83 (c := bodyOf Tryz.f83) rfl (by kernel_rfl) (by kernel_rfl) Tryz.ntmps83 (res := [.tmp 0]) (by kernel_rfl) ?_
  repeat' ((conv => whnf); first | rw [g3] | rw [l4] | refine Rng.g ?_ | refine Ob.g ?_ | refine Ob.e ?_ | refine Ob.m ?_ | refine Ob.mk (Nat.le_of_ble_eq_true rfl) ?_ | refine JoinVC.on ?_ | refine Nils.mk (fun h => ?_) ?_ | refine Val.t ?_ | refine Val.d ?_ | refine Mm.mk ?_ | refine CallVC.pure rfl (c1) ?_ | refine CallVC.pure rfl (c2) ?_ | refine CallVC.pure rfl (hw) ?_ | refine CallVC0.pure rfl (c1) ?_ | refine CallVC0.pure rfl (c2) ?_ | refine CallVC0.pure rfl (hw) ?_ | (refine Br.mk (fun h => ?_) (fun h => ?_) <;> first | (exfalso; omega; done) | (exfalso; simp at h; done) | skip))
  repeat refine Mm.mk ?_
  refine EndVC.mk _ rfl _ _ ⟨rfl, rfl⟩ ?_
  refine ⟨[], rfl, rfl, ?_, ?_⟩ <;> repeat' (first | exact trivial | exact rfl | exact Iff.rfl | apply And.intro)
/-! ### The wow of a disc -/
theorem s85 (o r per : Int) (ho : 0 ≤ o ∧ o ≤ 4194304) (hr : 1 ≤ r ∧ r ≤ 4194304) (hp : 1 ≤ per ∧ per ≤ 65536) : PSpec Tryz.prog 85 [I o, I r, I per] (.tup [I (if 256 < wowF o r per then 0 else wowF o r per), I (if 256 < wowF o r per then 14 else 0)]) := by
  have h1 := mul_rng (a := o * 113) (b := per) (A := 473956352) (B := 65536) (by omega) (by omega)
  have h2 : 0 ≤ o * 113 * per := Int.mul_nonneg (by omega) (by omega)
  have h3 : 0 ≤ (o * 113 * per + 710 * r - 1) / (710 * r) := Int.ediv_nonneg (by omega) (by omega)
  have h4 : (o * 113 * per + 710 * r - 1) / (710 * r) ≤ o * 113 * per + 710 * r - 1 := Int.ediv_le_self _ (by omega)
  unfold wowF
  by_cases h : 256 < (o * 113 * per + 710 * r - 1) / (710 * r)
  · rw [if_pos h, if_pos h]
    refine spec_of pMix (O := []) Tryz.func85 (c := bodyOf Tryz.f85) rfl (by kernel_rfl) (by kernel_rfl) Tryz.ntmps85 (res := [.tmp 6, .tmp 7]) (by kernel_rfl) ?_
    repeat' ((conv => whnf); first | refine Rng.g ?_ | refine Ob.g ?_ | refine Ob.e ?_ | refine Ob.m ?_ | refine Ob.mk (Nat.le_of_ble_eq_true rfl) ?_ | refine JoinVC.on ?_ | refine Nils.mk (fun h => ?_) ?_ | refine Val.t ?_ | refine Val.d ?_ | refine Mm.mk ?_ | (refine Br.mk (fun h => ?_) (fun h => ?_) <;> first | (exfalso; omega; done) | (exfalso; simp at h; done) | skip))
    repeat refine Mm.mk ?_
    refine EndVC.mk _ rfl _ _ ⟨rfl, rfl⟩ ?_
    refine ⟨[], rfl, rfl, ?_, ?_⟩ <;> repeat' (first | exact trivial | exact rfl | exact Iff.rfl | apply And.intro)
  · rw [if_neg h, if_neg h]
    refine spec_of pMix (O := []) Tryz.func85 (c := bodyOf Tryz.f85) rfl (by kernel_rfl) (by kernel_rfl) Tryz.ntmps85 (res := [.tmp 6, .tmp 7]) (by kernel_rfl) ?_
    repeat' ((conv => whnf); first | refine Rng.g ?_ | refine Ob.g ?_ | refine Ob.e ?_ | refine Ob.m ?_ | refine Ob.mk (Nat.le_of_ble_eq_true rfl) ?_ | refine JoinVC.on ?_ | refine Nils.mk (fun h => ?_) ?_ | refine Val.t ?_ | refine Val.d ?_ | refine Mm.mk ?_ | (refine Br.mk (fun h => ?_) (fun h => ?_) <;> first | (exfalso; omega; done) | (exfalso; simp at h; done) | skip))
    repeat refine Mm.mk ?_
    refine EndVC.mk _ rfl _ _ ⟨rfl, rfl⟩ ?_
    refine ⟨[], rfl, rfl, ?_, ?_⟩ <;> repeat' (first | exact trivial | exact rfl | exact Iff.rfl | apply And.intro)
/-! ### No tip is sharper than itself -/
theorem s176 (S : List Int) (hl : S.length ≤ 64) : PSpec Tryz.prog 176 [tipX S, tipX S] (xP True) := by
  have lS := i64s_len S
  refine spec_of pMix (O := []) Tryz.func176 (c := bodyOf Tryz.f176) rfl (by kernel_rfl) (by kernel_rfl) Tryz.ntmps176 (res := [.tmp 4]) (by kernel_rfl) ?_
  repeat' ((conv => whnf); first | refine Rng.g ?_ | refine Ob.g ?_ | refine Ob.e ?_ | refine Ob.m ?_ | refine Ob.mk (Nat.le_of_ble_eq_true rfl) ?_ | refine JoinVC.on ?_ | refine Nils.mk (fun h => ?_) ?_ | refine Val.t ?_ | refine Val.d ?_ | refine Mm.mk ?_ | (refine Br.mk (fun h => ?_) (fun h => ?_) <;> first | (exfalso; omega; done) | (exfalso; simp at h; done) | skip))
  refine LoopVC.mk (fun n st => ∃ (i : Nat), i ≤ S.length ∧ n = S.length - i ∧ st = ⟨0, envA 30 [(2, .x (.one (.ptr 0 0))), (15, .x (lL S)), (16, .int .i64 (S.length : Int)), (17, .int .i64 (i : Int))], [some (bTip S)]⟩) _ _ ⟨0, Nat.zero_le _, rfl, rfl⟩ ?_ ?_
  · refine ⟨[some 0], rfl, rfl, ?_, ?_⟩ <;> repeat' (first | exact trivial | exact rfl | exact Iff.rfl | apply And.intro)
    all_goals exact congrArg Int.ofNat lS
  rintro n _ ⟨i, hi, hn, rfl⟩
  by_cases hi' : i < S.length
  · repeat' ((conv => whnf); first | refine Rng.g ?_ | refine Ob.g ?_ | refine Ob.e ?_ | refine Ob.m ?_ | refine Ob.mk (Nat.le_of_ble_eq_true rfl) ?_ | refine JoinVC.on ?_ | refine Nils.mk (fun h => ?_) ?_ | refine Val.t ?_ | refine Val.d ?_ | refine Mm.mk ?_ | (refine Br.mk (fun h => ?_) (fun h => ?_) <;> first | (exfalso; omega; done) | (exfalso; simp at h; done) | skip))
    refine Back.mk (S.length - (i + 1)) _ (by omega) ⟨i + 1, by omega, rfl, rfl⟩ ?_
    refine ⟨[some 0], rfl, rfl, ?_, ?_⟩ <;> repeat' (first | exact trivial | exact rfl | exact Iff.rfl | apply And.intro)
  · repeat' ((conv => whnf); first | refine Rng.g ?_ | refine Ob.g ?_ | refine Ob.e ?_ | refine Ob.m ?_ | refine Ob.mk (Nat.le_of_ble_eq_true rfl) ?_ | refine JoinVC.on ?_ | refine Nils.mk (fun h => ?_) ?_ | refine Val.t ?_ | refine Val.d ?_ | refine Mm.mk ?_ | (refine Br.mk (fun h => ?_) (fun h => ?_) <;> first | (exfalso; omega; done) | (exfalso; simp at h; done) | skip))
    repeat refine Mm.mk ?_
    refine EndVC.mk _ rfl _ _ ⟨rfl, rfl⟩ ?_
    refine ⟨[], rfl, rfl, ?_, ?_⟩ <;> repeat' (first | exact trivial | exact rfl | exact Iff.rfl | apply And.intro)
end Go.Sx

namespace Go.Sx
open Go Go.Proofs
set_option maxRecDepth 10000
set_option maxHeartbeats 16000000
/-! ### Where a tip misses -/
end Go.Sx

namespace Go.Sx
open Go Go.Proofs
set_option maxRecDepth 10000
set_option maxHeartbeats 16000000
@[reducible] def KH : List CK := [.int .i64, .int .i64, .int .i64, .int .i64]
def hrdA (l : List Hrd) : Arr := l.map fun h => [.int h.a, .int h.b, .int h.c, .int h.d]
theorem hrdA_len (l : List Hrd) : (hrdA l).length = l.length := by simp [hrdA]
theorem hrdA_snoc (l : List Hrd) (h : Hrd) : hrdA (l ++ [h]) = hrdA l ++ [[.int h.a, .int h.b, .int h.c, .int h.d]] := by simp [hrdA]
@[reducible] def rowH (l : List Hrd) : Blk := .row 167 false KH (hrdA l)
@[reducible] def bHr (h : Hrd) : Blk := .box 167 [.int .i64 h.a, .int .i64 h.b, .int .i64 h.c, .int .i64 h.d]
theorem hrK_succ {q : List Smp} {w i k : Nat} (h : i < k + (w + 1) ∧ k < i + (w + 1)) : hrK q w i (k + 1) = ⟨if (q.getD k s0).l < (hrK q w i k).a then (q.getD k s0).l else (hrK q w i k).a, if (hrK q w i k).b < (q.getD k s0).l then (q.getD k s0).l else (hrK q w i k).b, if (q.getD k s0).r < (hrK q w i k).c then (q.getD k s0).r else (hrK q w i k).c, if (hrK q w i k).d < (q.getD k s0).r then (q.getD k s0).r else (hrK q w i k).d⟩ := by
  unfold hrK wnd mnL mxL'
  rw [win_succ, if_pos h]
  simp only [List.map_append, List.map_cons, List.map_nil, List.foldl_append, List.foldl_cons, List.foldl_nil]
theorem hrK_lo {q : List Smp} {w i k : Nat} (h : k ≤ lo0 i (w + 1)) : hrK q w i k = ⟨(q.getD i s0).l, (q.getD i s0).l, (q.getD i s0).r, (q.getD i s0).r⟩ := by
  unfold hrK wnd
  rw [win_lo _ _ _ h]
  rfl
theorem hrK_hi {q : List Smp} {w i k : Nat} (hk : k ≤ q.length) (h : ¬ (k < q.length ∧ k < i + (w + 1))) : hrK q w i k = hrF q w i := by
  have hw : winL i k (w + 1) = winL i q.length (w + 1) := by
    rcases Nat.lt_or_ge k q.length with h1 | h1
    · have h2 := win_hi i (w + 1) k (by omega) (q.length - k)
      rw [show k + (q.length - k) = q.length by omega] at h2
      exact h2.symm
    · rw [show k = q.length by omega]
  unfold hrF hrK wnd
  rw [hw]
noncomputable def rf86 : Code := cB (cS (cF (cS (cS (cB (cF (cS (cS (cL (cB (cS (cF (cS (cS (cS (cS (cS (cS (cS (bodyOf Tryz.f86))))))))))))))))))))
theorem eb167 : Tryz.t167.bytes = 32 := by kernel_rfl
def stepH (z : Hrd) (s : Smp) : Hrd := ⟨if s.l < z.a then s.l else z.a, if z.b < s.l then s.l else z.b, if s.r < z.c then s.r else z.c, if z.d < s.r then s.r else z.d⟩
@[reducible] noncomputable def MH (S : List Int) (p q : List Smp) (w i : Nat) (z : Hrd) : List (Option Blk) := [some (bTip S), some (bTip S), some (rowP q), some (rowP q), some (.box 42 [.own 3]), some (.box 42 [.own 2]), some (rowH (hrL q w i)), some (bHr z), some (.box 3 [.int .i64 (i : Int)]), some (.box 3 [.int .i64 (p.length : Int)]), some (.box 3 [.int .i64 ((w + 1 : Nat) : Int)]), some (.loop [79, 80] (cAs rf86) (cBo rf86) (envA 131 [(2, .x (lS p)), (3, .x (I (w : Int))), (12, .x (.one (.ptr 5 0))), (13, .x (.one (.ptr 4 0))), (14, .x (.one (.own 6))), (16, .x (.one (.ptr 7 0))), (45, .x (lS p)), (46, .int .i64 (p.length : Int)), (47, .int .i64 (i : Int))]) .ready)]
theorem rnd86 (S : List Int) (p q : List Smp) (w i : Nat) (z : Hrd) (k : Nat) (d : Int) (hk : k < q.length) : RSem Tryz.prog 11 [I (k : Int), I d] (MH S p q w i z) (fun bb m' => bb = true ∧ m' = MH S p q w i (stepH z (q.getD k s0))) := by
  have lq := smpA_len q
  have k0 : rI (smpA q) (k : Int).toNat 0 = (q.getD k s0).l := by rw [Int.toNat_natCast]; exact smpA_l q k
  have k1 : rI (smpA q) (k : Int).toNat (0 + 1) = (q.getD k s0).r := by rw [Int.toNat_natCast]; exact smpA_r q k
  refine RSem.le (rsem_of_awp (Q := fun bb m' => ∃ m2, (bb = true ∧ m2 = MH S p q w i (stepH z (q.getD k s0))) ∧ Le ⟨(MH S p q w i z).length, [], m'⟩ ⟨(MH S p q w i z).length, [], m2⟩) pMix ([(11, ([6, 7], [⟨0, [], []⟩, ⟨1, [], []⟩, ⟨3, [], []⟩, ⟨4, [], []⟩, ⟨2, [3, 4], []⟩, ⟨5, [], []⟩, ⟨7, [], []⟩, ⟨6, [], []⟩, ⟨8, [], []⟩, ⟨9, [], []⟩])), (16, ([23], [⟨0, [], []⟩, ⟨1, [], []⟩, ⟨2, [], []⟩, ⟨3, [], []⟩, ⟨4, [], []⟩, ⟨5, [], []⟩, ⟨6, [], []⟩, ⟨7, [], []⟩, ⟨8, [], []⟩, ⟨9, [], []⟩, ⟨10, [], []⟩, ⟨11, [], []⟩, ⟨12, [], []⟩, ⟨13, [], []⟩, ⟨14, [], []⟩, ⟨15, [], []⟩, ⟨16, [], []⟩, ⟨17, [], []⟩, ⟨18, [], []⟩, ⟨19, [], []⟩, ⟨20, [], []⟩, ⟨21, [], []⟩, ⟨22, [], []⟩, ⟨23, [], []⟩, ⟨24, [], []⟩])), (19, ([], [⟨0, [], []⟩, ⟨1, [], []⟩, ⟨2, [], []⟩, ⟨3, [], []⟩, ⟨4, [], []⟩, ⟨5, [], []⟩, ⟨6, [], []⟩, ⟨7, [], []⟩, ⟨8, [], []⟩, ⟨9, [], []⟩, ⟨10, [], []⟩, ⟨11, [], []⟩, ⟨12, [], []⟩, ⟨13, [], []⟩, ⟨14, [], []⟩, ⟨15, [], []⟩, ⟨16, [], []⟩, ⟨17, [], []⟩, ⟨18, [], []⟩, ⟨19, [], []⟩, ⟨20, [12, 13, 14, 15, 16, 17], []⟩, ⟨21, [], []⟩, ⟨22, [], []⟩, ⟨23, [], []⟩])), (20, ([], [⟨0, [], []⟩, ⟨1, [], []⟩, ⟨2, [], []⟩, ⟨3, [], []⟩, ⟨4, [], []⟩, ⟨5, [], []⟩, ⟨6, [], []⟩, ⟨7, [], []⟩, ⟨8, [], []⟩, ⟨9, [], []⟩, ⟨10, [], []⟩, ⟨11, [], []⟩, ⟨12, [], []⟩, ⟨13, [], []⟩, ⟨14, [], []⟩, ⟨15, [], []⟩, ⟨16, [], []⟩, ⟨17, [], []⟩, ⟨18, [], []⟩, ⟨19, [], []⟩, ⟨20, [12, 13, 14, 15, 16, 17], []⟩, ⟨21, [], []⟩, ⟨22, [], []⟩, ⟨23, [], []⟩]))]) rfl (by kernel_rfl) ?_) (fun bb m' h => by obtain ⟨m2, h1, h2⟩ := h; exact ⟨m2, h1, h2⟩)
  unfold stepH
  generalize (q.getD k s0).l = x0 at *
  generalize (q.getD k s0).r = x1 at *
  repeat' ((conv => whnf); first | rw [k0] | rw [k1] | refine Rng.g ?_ | refine Ob.g ?_ | refine Ob.e ?_ | refine Ob.m ?_ | refine Ob.mk (Nat.le_of_ble_eq_true rfl) ?_ | refine JoinVC.on ?_ | refine Nils.mk (fun h => ?_) ?_ | refine Val.t ?_ | refine Val.d ?_ | (refine Br.mk (fun h => ?_) (fun h => ?_) <;> first | (exfalso; omega; done) | (exfalso; simp at h; done) | skip))
  conv => whnf
  refine Mm.nm (fun v1 h1 => ?_)
  rw [← h1]
  clear h1
  repeat' ((conv => whnf); first | rw [k0] | rw [k1] | refine Rng.g ?_ | refine Ob.g ?_ | refine Ob.e ?_ | refine Ob.m ?_ | refine Ob.mk (Nat.le_of_ble_eq_true rfl) ?_ | refine JoinVC.on ?_ | refine Nils.mk (fun h => ?_) ?_ | refine Val.t ?_ | refine Val.d ?_ | (refine Br.mk (fun h => ?_) (fun h => ?_) <;> first | (exfalso; omega; done) | (exfalso; simp at h; done) | skip))
  conv => whnf
  refine Mm.nm (fun v2 h2 => ?_)
  rw [← h2]
  clear h2
  repeat' ((conv => whnf); first | rw [k0] | rw [k1] | refine Rng.g ?_ | refine Ob.g ?_ | refine Ob.e ?_ | refine Ob.m ?_ | refine Ob.mk (Nat.le_of_ble_eq_true rfl) ?_ | refine JoinVC.on ?_ | refine Nils.mk (fun h => ?_) ?_ | refine Val.t ?_ | refine Val.d ?_ | (refine Br.mk (fun h => ?_) (fun h => ?_) <;> first | (exfalso; omega; done) | (exfalso; simp at h; done) | skip))
  conv => whnf
  refine Mm.nm (fun v3 h3 => ?_)
  rw [← h3]
  clear h3
  repeat' ((conv => whnf); first | rw [k0] | rw [k1] | refine Rng.g ?_ | refine Ob.g ?_ | refine Ob.e ?_ | refine Ob.m ?_ | refine Ob.mk (Nat.le_of_ble_eq_true rfl) ?_ | refine JoinVC.on ?_ | refine Nils.mk (fun h => ?_) ?_ | refine Val.t ?_ | refine Val.d ?_ | (refine Br.mk (fun h => ?_) (fun h => ?_) <;> first | (exfalso; omega; done) | (exfalso; simp at h; done) | skip))
  conv => whnf
  refine Mm.nm (fun v4 h4 => ?_)
  rw [← h4]
  clear h4
  repeat' ((conv => whnf); first | refine Rng.g ?_ | refine Ob.g ?_ | refine Ob.e ?_ | refine Ob.m ?_ | refine Ob.mk (Nat.le_of_ble_eq_true rfl) ?_ | refine JoinVC.on ?_ | refine Nils.mk (fun h => ?_) ?_ | refine Val.t ?_ | refine Val.d ?_ | refine Mm.mk ?_ | (refine Br.mk (fun h => ?_) (fun h => ?_) <;> first | (exfalso; omega; done) | (exfalso; simp at h; done) | skip))
  refine ⟨_, ⟨rfl, rfl⟩, [some 0, some 1, some 2, some 3, some 4, some 5, some 6, some 7, some 8, some 9, some 10, some 11], rfl, rfl, ?_, ?_⟩ <;> repeat' (first | exact trivial | exact rfl | exact Iff.rfl | apply And.intro)
theorem s86 (S : List Int) (p : List Smp) (w : Nat) (hS : TipOK S) (hp : PtsOK p) (hw : w ≤ 256) : HSpec Tryz.prog 86 [tipX S, tipX S, lS p, I (w : Int)] [] (fun r m' => r = .tup [.one (.lst true KH (hrdA (hrL (readF S p) w p.length))), I 0] ∧ m' = []) := by
  have lp := smpA_len p
  have hl := hp.len
  have hS6 := hS.len
  have k1 := s176 S (by omega)
  have Q := read_ok hS hp
  have lQ : (readF S p).length = p.length := wallF_len _ _ _
  obtain ⟨q, hq⟩ : ∃ q, q = readF S p := ⟨_, rfl⟩
  have c1 := s166 S p hS hp
  rw [← hq] at c1 Q lQ
  have lq := smpA_len q
  refine spec_of pMix (O := [(11, ([6, 7], [⟨0, [], []⟩, ⟨1, [], []⟩, ⟨3, [], []⟩, ⟨4, [], []⟩, ⟨2, [3, 4], []⟩, ⟨5, [], []⟩, ⟨7, [], []⟩, ⟨6, [], []⟩, ⟨8, [], []⟩, ⟨9, [], []⟩])), (16, ([23], [⟨0, [], []⟩, ⟨1, [], []⟩, ⟨2, [], []⟩, ⟨3, [], []⟩, ⟨4, [], []⟩, ⟨5, [], []⟩, ⟨6, [], []⟩, ⟨7, [], []⟩, ⟨8, [], []⟩, ⟨9, [], []⟩, ⟨10, [], []⟩, ⟨11, [], []⟩, ⟨12, [], []⟩, ⟨13, [], []⟩, ⟨14, [], []⟩, ⟨15, [], []⟩, ⟨16, [], []⟩, ⟨17, [], []⟩, ⟨18, [], []⟩, ⟨19, [], []⟩, ⟨20, [], []⟩, ⟨21, [], []⟩, ⟨22, [], []⟩, ⟨23, [], []⟩, ⟨24, [], []⟩])), (19, ([], [⟨0, [], []⟩, ⟨1, [], []⟩, ⟨2, [], []⟩, ⟨3, [], []⟩, ⟨4, [], []⟩, ⟨5, [], []⟩, ⟨6, [], []⟩, ⟨7, [], []⟩, ⟨8, [], []⟩, ⟨9, [], []⟩, ⟨10, [], []⟩, ⟨11, [], []⟩, ⟨12, [], []⟩, ⟨13, [], []⟩, ⟨14, [], []⟩, ⟨15, [], []⟩, ⟨16, [], []⟩, ⟨17, [], []⟩, ⟨18, [], []⟩, ⟨19, [], []⟩, ⟨20, [12, 13, 14, 15, 16, 17], []⟩, ⟨21, [], []⟩, ⟨22, [], []⟩, ⟨23, [], []⟩])), (20, ([], [⟨0, [], []⟩, ⟨1, [], []⟩, ⟨2, [], []⟩, ⟨3, [], []⟩, ⟨4, [], []⟩, ⟨5, [], []⟩, ⟨6, [], []⟩, ⟨7, [], []⟩, ⟨8, [], []⟩, ⟨9, [], []⟩, ⟨10, [], []⟩, ⟨11, [], []⟩, ⟨12, [], []⟩, ⟨13, [], []⟩, ⟨14, [], []⟩, ⟨15, [], []⟩, ⟨16, [], []⟩, ⟨17, [], []⟩, ⟨18, [], []⟩, ⟨19, [], []⟩, ⟨20, [12, 13, 14, 15, 16, 17], []⟩, ⟨21, [], []⟩, ⟨22, [], []⟩, ⟨23, [], []⟩]))]) Tryz.func86 (c := bodyOf Tryz.f86) rfl (by kernel_rfl) (by kernel_rfl) Tryz.ntmps86 (res := [.tmp 8, .tmp 9]) (by kernel_rfl) ?_
  repeat' ((conv => whnf); first | refine Rng.g ?_ | refine Ob.g ?_ | refine Ob.e ?_ | refine Ob.m ?_ | refine Ob.mk (Nat.le_of_ble_eq_true rfl) ?_ | refine JoinVC.on ?_ | refine Nils.mk (fun h => ?_) ?_ | refine Val.t ?_ | refine Val.d ?_ | refine Mm.mk ?_ | (refine Br.mk (fun h => ?_) (fun h => ?_) <;> first | (exfalso; omega; done) | (exfalso; simp at h; done) | skip))
  conv => whnf
  refine CallVC.mk [] _ _ _ rfl rfl rfl (s175 S) (fun r m' h' => ?_)
  obtain ⟨e, rfl, rfl, he⟩ := h'
  conv => whnf
  cases he.2 hS
  repeat' ((conv => whnf); first | refine Rng.g ?_ | refine Ob.g ?_ | refine Ob.e ?_ | refine Ob.m ?_ | refine Ob.mk (Nat.le_of_ble_eq_true rfl) ?_ | refine JoinVC.on ?_ | refine Nils.mk (fun h => ?_) ?_ | refine Val.t ?_ | refine Val.d ?_ | refine Mm.mk ?_ | (refine Br.mk (fun h => ?_) (fun h => ?_) <;> first | (exfalso; omega; done) | (exfalso; simp at h; done) | skip))
  conv => whnf
  refine CallVC.mk [] _ _ _ rfl rfl rfl (s158 S p) (fun r m' h' => ?_)
  obtain ⟨e, rfl, rfl, he⟩ := h'
  conv => whnf
  cases he.2 ⟨hS, hp⟩
  repeat' ((conv => whnf); first | refine Rng.g ?_ | refine Ob.g ?_ | refine Ob.e ?_ | refine Ob.m ?_ | refine Ob.mk (Nat.le_of_ble_eq_true rfl) ?_ | refine JoinVC.on ?_ | refine Nils.mk (fun h => ?_) ?_ | refine Val.t ?_ | refine Val.d ?_ | refine Mm.mk ?_ | refine CallVC.pure rfl (k1) ?_ | refine CallVC0.pure rfl (k1) ?_ | (refine Br.mk (fun h => ?_) (fun h => ?_) <;> first | (exfalso; omega; done) | (exfalso; simp at h; done) | skip))
  conv => whnf
  refine CallVC0.mk _ _ rfl (c1) (fun r m' h' => ?_)
  obtain ⟨rfl, rfl⟩ := h'
  conv => whnf
  repeat' ((conv => whnf); first | refine Rng.g ?_ | refine Ob.g ?_ | refine Ob.e ?_ | refine Ob.m ?_ | refine Ob.mk (Nat.le_of_ble_eq_true rfl) ?_ | refine JoinVC.on ?_ | refine Nils.mk (fun h => ?_) ?_ | refine Val.t ?_ | refine Val.d ?_ | refine Mm.mk ?_ | (refine Br.mk (fun h => ?_) (fun h => ?_) <;> first | (exfalso; omega; done) | (exfalso; simp at h; done) | skip))
  conv => whnf
  refine CallVC.mk [] _ _ _ rfl rfl rfl (c1) (fun r m' h' => ?_)
  obtain ⟨rfl, rfl⟩ := h'
  conv => whnf
  repeat' ((conv => whnf); first | refine Rng.g ?_ | refine Ob.g ?_ | refine Ob.e ?_ | refine Ob.m ?_ | refine Ob.mk (Nat.le_of_ble_eq_true rfl) ?_ | refine JoinVC.on ?_ | refine Nils.mk (fun h => ?_) ?_ | refine Val.t ?_ | refine Val.d ?_ | refine Mm.mk ?_ | (refine Br.mk (fun h => ?_) (fun h => ?_) <;> first | (exfalso; omega; done) | (exfalso; simp at h; done) | skip))
  refine LoopVC.mk (fun n st => ∃ (i : Nat), i ≤ p.length ∧ n = p.length - i ∧ st = ⟨0, envA 131 [(2, .x (lS p)), (3, .x (I (w : Int))), (12, .x (.one (.ptr 5 0))), (13, .x (.one (.ptr 4 0))), (14, .x (.one (.own 6))), (45, .x (lS p)), (46, .int .i64 (p.length : Int)), (47, .int .i64 (i : Int))], [some (bTip S), some (bTip S), some (rowP q), some (rowP q), some (.box 42 [.own 3]), some (.box 42 [.own 2]), some (rowH (hrL q w i))]⟩) _ _ ⟨0, Nat.zero_le _, rfl, rfl⟩ ?_ ?_
  · refine ⟨[some 0, some 1, some 2, some 3, some 4, some 5, none], rfl, rfl, ?_, ?_⟩ <;> repeat' (first | exact trivial | exact rfl | exact Iff.rfl | apply And.intro)
    all_goals exact congrArg Int.ofNat lp
  rintro n _ ⟨i, hi, hn, rfl⟩
  have lr : (hrdA (hrL q w i)).length = i := by rw [hrdA_len, hrL_len]
  by_cases hi' : i < p.length
  · have qi := Q.each i (by omega)
    unfold edgeP at qi
    have i0 : rI (smpA q) (i : Int).toNat 0 = (q.getD i s0).l := by rw [Int.toNat_natCast]; exact smpA_l q i
    have i1 : rI (smpA q) (i : Int).toNat (0 + 1) = (q.getD i s0).r := by rw [Int.toNat_natCast]; exact smpA_r q i
    have eW : (w : Int) + 1 = ((w + 1 : Nat) : Int) := by omega
    repeat' ((conv => whnf); first | rw [lp] | rw [i0] | rw [i1] | rw [eW] | refine Rng.g ?_ | refine Ob.g ?_ | refine Ob.e ?_ | refine Ob.m ?_ | refine Ob.mk (Nat.le_of_ble_eq_true rfl) ?_ | refine JoinVC.on ?_ | refine Nils.mk (fun h => ?_) ?_ | refine Val.t ?_ | refine Val.d ?_ | refine Mm.mk ?_ | (refine Br.mk (fun h => ?_) (fun h => ?_) <;> first | (exfalso; omega; done) | (exfalso; simp at h; done) | skip))
    conv => whnf
    refine CallVC.mk [] _ _ _ rfl rfl rfl (s177 i p.length (w + 1 : Nat)) (fun r m' h' => ?_)
    obtain ⟨rfl, rfl⟩ := h'
    conv => whnf
    repeat' ((conv => whnf); first | refine Rng.g ?_ | refine Ob.g ?_ | refine Ob.e ?_ | refine Ob.m ?_ | refine Ob.mk (Nat.le_of_ble_eq_true rfl) ?_ | refine JoinVC.on ?_ | refine Nils.mk (fun h => ?_) ?_ | refine Val.t ?_ | refine Val.d ?_ | refine Mm.mk ?_ | (refine Br.mk (fun h => ?_) (fun h => ?_) <;> first | (exfalso; omega; done) | (exfalso; simp at h; done) | skip))
    change RangeVC _ _ _ _ _
    refine RangeVC.mk e260 (isem_of_awp pMix [] Tryz.func260 (c := bodyOf Tryz.f260) rfl (by kernel_rfl) Tryz.ntmps260 (by kernel_rfl) ?_)
    repeat' ((conv => whnf); first | refine Rng.g ?_ | refine Ob.g ?_ | refine Ob.e ?_ | refine Ob.m ?_ | refine Ob.mk (Nat.le_of_ble_eq_true rfl) ?_ | refine JoinVC.on ?_ | refine Nils.mk (fun h => ?_) ?_ | refine Val.t ?_ | refine Val.d ?_ | (refine Br.mk (fun h => ?_) (fun h => ?_) <;> first | (exfalso; omega; done) | (exfalso; simp at h; done) | skip))
    conv => whnf
    refine Mm.nm (fun st hst => ?_)
    have hst2 : st = ((lo0 i (w + 1) : Nat) : Int) := by rw [hst]; unfold lo0; split <;> omega
    clear hst
    subst hst2
    repeat' ((conv => whnf); first | refine Rng.g ?_ | refine Ob.g ?_ | refine Ob.e ?_ | refine Ob.m ?_ | refine Ob.mk (Nat.le_of_ble_eq_true rfl) ?_ | refine JoinVC.on ?_ | refine Nils.mk (fun h => ?_) ?_ | refine Val.t ?_ | refine Val.d ?_ | refine Mm.mk ?_ | (refine Br.mk (fun h => ?_) (fun h => ?_) <;> first | (exfalso; omega; done) | (exfalso; simp at h; done) | skip))
    have h0 := hrK_lo (q := q) (Nat.le_refl (lo0 i (w + 1)))
    refine LoopVC.mk (fun n st => ∃ (k : Nat) (z : Hrd), lo0 i (w + 1) ≤ k ∧ k ≤ p.length ∧ k ≤ i + (w + 1) ∧ n = p.length - k ∧ z = hrK q w i k ∧ st = ⟨12, envA 31 [(0, .x (.one (.yld 11))), (1, .x (.one (.ptr 8 0))), (2, .x (.one (.ptr 10 0))), (3, .x (.one (.ptr 9 0))), (5, .int .i64 (k : Int))], MH S p q w i z⟩) _ _ ⟨lo0 i (w + 1), _, Nat.le_refl _, by unfold lo0; omega, by unfold lo0; omega, rfl, h0.symm, rfl⟩ ?_ ?_
    · refine ⟨[some 0, some 1, some 2, some 3, some 4, some 5, some 6, some 7, some 8, some 9, some 10, some 11], rfl, rfl, ?_, ?_⟩ <;> repeat' (first | exact trivial | exact rfl | exact Iff.rfl | apply And.intro)
    rintro n' _ ⟨k, z, hk1, hk2, hk3, hn', hz, rfl⟩
    unfold lo0 at hk1
    by_cases hk : k < p.length ∧ k < i + (w + 1)
    · repeat' ((conv => whnf); first | refine Rng.g ?_ | refine Ob.g ?_ | refine Ob.e ?_ | refine Ob.m ?_ | refine Ob.mk (Nat.le_of_ble_eq_true rfl) ?_ | refine JoinVC.on ?_ | refine Nils.mk (fun h => ?_) ?_ | refine Val.t ?_ | refine Val.d ?_ | (refine Br.mk (fun h => ?_) (fun h => ?_) <;> first | (exfalso; omega; done) | (exfalso; simp at h; done) | skip))
      conv => whnf
      refine Mm.nm (fun e0 he0 => ?_)
      have he3 : (k : Int) < e0 := by rw [he0]; split <;> omega
      clear he0
      repeat' ((conv => whnf); first | refine Rng.g ?_ | refine Ob.g ?_ | refine Ob.e ?_ | refine Ob.m ?_ | refine Ob.mk (Nat.le_of_ble_eq_true rfl) ?_ | refine JoinVC.on ?_ | refine Nils.mk (fun h => ?_) ?_ | refine Val.t ?_ | refine Val.d ?_ | (refine Br.mk (fun h => ?_) (fun h => ?_) <;> first | (exfalso; omega; done) | (exfalso; simp at h; done) | skip))
      conv => whnf
      refine Mm.nm (fun e1 he1 => ?_)
      clear he1
      have hs := hrK_succ (q := q) (w := w) (i := i) (k := k) (by omega)
      rw [← hz] at hs
      repeat' ((conv => whnf); first | refine Rng.g ?_ | refine Ob.g ?_ | refine Ob.e ?_ | refine Ob.m ?_ | refine Ob.mk (Nat.le_of_ble_eq_true rfl) ?_ | refine JoinVC.on ?_ | refine Nils.mk (fun h => ?_) ?_ | refine Val.t ?_ | refine Val.d ?_ | refine Mm.mk ?_ | (refine Br.mk (fun h => ?_) (fun h => ?_) <;> first | (exfalso; omega; done) | (exfalso; simp at h; done) | skip))
      refine YieldVC.of (rnd86 S p q w i z k e1 (by omega)) ?_
      repeat' ((conv => whnf); first | refine Rng.g ?_ | refine Ob.g ?_ | refine Ob.e ?_ | refine Ob.m ?_ | refine Ob.mk (Nat.le_of_ble_eq_true rfl) ?_ | refine JoinVC.on ?_ | refine Nils.mk (fun h => ?_) ?_ | refine Val.t ?_ | refine Val.d ?_ | refine Mm.mk ?_ | (refine Br.mk (fun h => ?_) (fun h => ?_) <;> first | (exfalso; omega; done) | (exfalso; simp at h; done) | skip))
      refine Back.mk (p.length - (k + 1)) _ (by omega) ⟨k + 1, stepH z (q.getD k s0), by unfold lo0; omega, by omega, by omega, rfl, hs.symm, rfl⟩ ?_
      refine ⟨[some 0, some 1, some 2, some 3, some 4, some 5, some 6, some 7, some 8, some 9, some 10, some 11], rfl, rfl, ?_, ?_⟩ <;> repeat' (first | exact trivial | exact rfl | exact Iff.rfl | apply And.intro)
    · repeat' ((conv => whnf); first | refine Rng.g ?_ | refine Ob.g ?_ | refine Ob.e ?_ | refine Ob.m ?_ | refine Ob.mk (Nat.le_of_ble_eq_true rfl) ?_ | refine JoinVC.on ?_ | refine Nils.mk (fun h => ?_) ?_ | refine Val.t ?_ | refine Val.d ?_ | (refine Br.mk (fun h => ?_) (fun h => ?_) <;> first | (exfalso; omega; done) | (exfalso; simp at h; done) | skip))
      conv => whnf
      refine Mm.nm (fun e0 he0 => ?_)
      have he3 : ¬ (k : Int) < e0 := by rw [he0]; split <;> omega
      clear he0
      have hf := hrK_hi (q := q) (w := w) (i := i) (k := k) (by omega) (by omega)
      rw [← hz] at hf
      have u1 := hrdA_snoc (hrL q w i) (hrF q w i)
      rw [← hrL_succ] at u1
      rw [hf]
      repeat' ((conv => whnf); first | refine Rng.g ?_ | refine Ob.g ?_ | refine Ob.e ?_ | refine Ob.m ?_ | refine Ob.mk (Nat.le_of_ble_eq_true rfl) ?_ | refine JoinVC.on ?_ | refine Nils.mk (fun h => ?_) ?_ | refine Val.t ?_ | refine Val.d ?_ | refine Mm.mk ?_ | (refine Br.mk (fun h => ?_) (fun h => ?_) <;> first | (exfalso; omega; done) | (exfalso; simp at h; done) | skip))
      repeat refine Mm.mk ?_
      refine Ob.mk (by simp only [eb167, lr, List.length_cons, List.length_nil]; omega) ?_
      repeat' ((conv => whnf); first | rw [← u1] | refine Rng.g ?_ | refine Ob.g ?_ | refine Ob.e ?_ | refine Ob.m ?_ | refine Ob.mk (Nat.le_of_ble_eq_true rfl) ?_ | refine JoinVC.on ?_ | refine Nils.mk (fun h => ?_) ?_ | refine Val.t ?_ | refine Val.d ?_ | refine Mm.mk ?_ | (refine Br.mk (fun h => ?_) (fun h => ?_) <;> first | (exfalso; omega; done) | (exfalso; simp at h; done) | skip))
      refine Back.mk (p.length - (i + 1)) _ (by omega) ⟨i + 1, by omega, rfl, rfl⟩ ?_
      refine ⟨[some 0, some 1, some 2, some 3, some 4, some 5, some 13], rfl, rfl, ?_, ?_⟩ <;> repeat' (first | exact trivial | exact rfl | exact Iff.rfl | apply And.intro)
  · have ei : i = p.length := by omega
    subst ei
    rw [hq]
    repeat' ((conv => whnf); first | refine Rng.g ?_ | refine Ob.g ?_ | refine Ob.e ?_ | refine Ob.m ?_ | refine Ob.mk (Nat.le_of_ble_eq_true rfl) ?_ | refine JoinVC.on ?_ | refine Nils.mk (fun h => ?_) ?_ | refine Val.t ?_ | refine Val.d ?_ | refine Mm.mk ?_ | (refine Br.mk (fun h => ?_) (fun h => ?_) <;> first | (exfalso; omega; done) | (exfalso; simp at h; done) | skip))
    repeat refine Mm.mk ?_
    conv => whnf
    refine EndVC.mk _ rfl _ _ (⟨rfl, rfl⟩) ?_
    refine ⟨[], rfl, rfl, ?_, ?_⟩ <;> repeat' (first | exact trivial | exact rfl | exact Iff.rfl | apply And.intro)
end Go.Sx

namespace Go.Sx
open Go Go.Proofs
set_option maxRecDepth 10000
set_option maxHeartbeats 8000000
theorem s78 (S : List Int) : HSpec Tryz.prog 78 [tipX S] [] (fun r m' => ∃ e, r = .x (I e) ∧ m' = [] ∧ (e = 0 ↔ TipOK S)) := by
  have ls := i64s_len S
  have hT := tipOK_iff S
  by_cases hl : S.length = 0 ∨ 64 < S.length
  · refine spec_of pMix (O := []) Tryz.func78 (c := bodyOf Tryz.f78) rfl (by kernel_rfl) (by kernel_rfl) Tryz.ntmps78 (res := [.tmp 2]) (by kernel_rfl) ?_
    repeat' ((conv => whnf); first | refine Rng.g ?_ | refine Ob.g ?_ | refine Ob.e ?_ | refine Ob.m ?_ | refine Ob.mk (Nat.le_of_ble_eq_true rfl) ?_ | refine JoinVC.on ?_ | refine Nils.mk (fun h => ?_) ?_ | refine Val.t ?_ | refine Val.d ?_ | refine Mm.mk ?_ | (refine Br.mk (fun h => ?_) (fun h => ?_) <;> first | (exfalso; omega; done) | (exfalso; simp at h; done) | skip))
    all_goals
      repeat refine Mm.mk ?_
      conv => whnf
      refine EndVC.mk _ rfl _ _ (⟨6, rfl, rfl, ⟨fun h => (by cases h), fun hC => (by have := hC.len; omega)⟩⟩) ?_
      refine ⟨[], rfl, rfl, ?_, ?_⟩ <;> repeat' (first | exact trivial | exact rfl | exact Iff.rfl | apply And.intro)
  refine spec_of pMix (O := []) Tryz.func78 (c := bodyOf Tryz.f78) rfl (by kernel_rfl) (by kernel_rfl) Tryz.ntmps78 (res := [.tmp 2]) (by kernel_rfl) ?_
  repeat' ((conv => whnf); first | refine Rng.g ?_ | refine Ob.g ?_ | refine Ob.e ?_ | refine Ob.m ?_ | refine Ob.mk (Nat.le_of_ble_eq_true rfl) ?_ | refine JoinVC.on ?_ | refine Nils.mk (fun h => ?_) ?_ | refine Val.t ?_ | refine Val.d ?_ | refine Mm.mk ?_ | (refine Br.mk (fun h => ?_) (fun h => ?_) <;> first | (exfalso; omega; done) | (exfalso; simp at h; done) | skip))
  refine LoopVC.mk (fun n st => ∃ (i : Nat), i ≤ S.length ∧ n = S.length - i ∧ tipN S i ∧ st = ⟨0, envA 54 [(1, .x (.one (.ptr 0 0))), (3, .int .i64 (S.length : Int)), (4, .int .i64 (i : Int))], [some (bTip S)]⟩) _ _ ⟨0, Nat.zero_le _, rfl, fun j hj => absurd hj (Nat.not_lt_zero j), rfl⟩ ?_ ?_
  · refine ⟨[some 0], rfl, rfl, ?_, ?_⟩ <;> repeat' (first | exact trivial | exact rfl | exact Iff.rfl | apply And.intro)
    all_goals exact congrArg Int.ofNat ls
  rintro n _ ⟨i, hi, hn, ht, rfl⟩
  have gx : rI (i64s S) (i : Int).toNat 0 = S.getD i 0 := by rw [Int.toNat_natCast, i64s_get]
  have t1 : ((i : Int) - 1).toNat = i - 1 := by omega
  have gy : rI (i64s S) ((i : Int) - 1).toNat 0 = S.getD (i - 1) 0 := by rw [t1, i64s_get]
  have gz : rI (i64s S) (Int.toNat 0) 0 = S.getD 0 0 := i64s_get S 0
  by_cases hi' : i < S.length
  · have hbad : (S.getD i 0 < 0 ∨ (0 < i ∧ S.getD i 0 < S.getD (i - 1) 0) ∨ 4194304 < S.getD i 0 ∨ (i = 0 ∧ S.getD 0 0 ≠ 0)) → ¬ TipOK S := fun hb hC => by
      have h1 := (hT.1 hC).2 i hi'
      rcases hb with hb | hb | hb | hb
      · omega
      · have := h1.2.2 hb.1
        omega
      · omega
      · obtain ⟨rfl, hb⟩ := hb
        exact hb (h1.2.1 rfl)
    have hgood : ¬ ((0 < i ∧ S.getD i 0 < S.getD (i - 1) 0) ∨ 4194304 < S.getD i 0 ∨ (i = 0 ∧ S.getD 0 0 ≠ 0)) → tipN S (i + 1) := fun hb j hj => by
      rcases Nat.lt_succ_iff_lt_or_eq.1 hj with h' | rfl
      · exact ht j h'
      · rcases Nat.eq_zero_or_pos j with h0 | h0
        · subst h0
          have : S.getD 0 0 = 0 := Classical.byContradiction fun hc => hb (.inr (.inr ⟨rfl, hc⟩))
          refine ⟨by omega, fun _ => this, fun h => absurd h (Nat.lt_irrefl 0)⟩
        · have h2 := (ht (j - 1) (by omega)).1
          have h3 : ¬ S.getD j 0 < S.getD (j - 1) 0 := fun hc => hb (.inl ⟨h0, hc⟩)
          have h4 : ¬ 4194304 < S.getD j 0 := fun hc => hb (.inr (.inl hc))
          exact ⟨by omega, fun h => by omega, fun _ => by omega⟩
    by_cases hb : (0 < i ∧ S.getD i 0 < S.getD (i - 1) 0) ∨ 4194304 < S.getD i 0 ∨ (i = 0 ∧ S.getD 0 0 ≠ 0)
    · have hN := hbad (.inr hb)
      repeat' ((conv => whnf); first | rw [gx] | rw [gy] | rw [gz] | refine Rng.g ?_ | refine Ob.g ?_ | refine Ob.e ?_ | refine Ob.m ?_ | refine Ob.mk (Nat.le_of_ble_eq_true rfl) ?_ | refine JoinVC.on ?_ | refine Nils.mk (fun h => ?_) ?_ | refine Val.t ?_ | refine Val.d ?_ | refine Mm.mk ?_ | (refine Br.mk (fun h => ?_) (fun h => ?_) <;> first | (exfalso; omega; done) | (exfalso; simp at h; done) | skip))
      all_goals
        repeat refine Mm.mk ?_
        conv => whnf
        refine EndVC.mk _ rfl _ _ (⟨2, rfl, rfl, ⟨fun h => (by cases h), fun hC => absurd hC hN⟩⟩) ?_
        refine ⟨[], rfl, rfl, ?_, ?_⟩ <;> repeat' (first | exact trivial | exact rfl | exact Iff.rfl | apply And.intro)
    · have hG := hgood hb
      repeat' ((conv => whnf); first | rw [gx] | rw [gy] | rw [gz] | refine Rng.g ?_ | refine Ob.g ?_ | refine Ob.e ?_ | refine Ob.m ?_ | refine Ob.mk (Nat.le_of_ble_eq_true rfl) ?_ | refine JoinVC.on ?_ | refine Nils.mk (fun h => ?_) ?_ | refine Val.t ?_ | refine Val.d ?_ | refine Mm.mk ?_ | (refine Br.mk (fun h => ?_) (fun h => ?_) <;> first | (exfalso; omega; done) | (exfalso; simp at h; done) | skip))
      all_goals
        refine Back.mk (S.length - (i + 1)) _ (by omega) ⟨i + 1, by omega, rfl, hG, rfl⟩ ?_
        refine ⟨[some 0], rfl, rfl, ?_, ?_⟩ <;> repeat' (first | exact trivial | exact rfl | exact Iff.rfl | apply And.intro)
  · have ei : i = S.length := by omega
    subst ei
    repeat' ((conv => whnf); first | refine Rng.g ?_ | refine Ob.g ?_ | refine Ob.e ?_ | refine Ob.m ?_ | refine Ob.mk (Nat.le_of_ble_eq_true rfl) ?_ | refine JoinVC.on ?_ | refine Nils.mk (fun h => ?_) ?_ | refine Val.t ?_ | refine Val.d ?_ | refine Mm.mk ?_ | (refine Br.mk (fun h => ?_) (fun h => ?_) <;> first | (exfalso; omega; done) | (exfalso; simp at h; done) | skip))
    repeat refine Mm.mk ?_
    conv => whnf
    refine EndVC.mk _ rfl _ _ (⟨0, rfl, rfl, ⟨fun _ => hT.2 ⟨by omega, ht⟩, fun _ => rfl⟩⟩) ?_
    refine ⟨[], rfl, rfl, ?_, ?_⟩ <;> repeat' (first | exact trivial | exact rfl | exact Iff.rfl | apply And.intro)
end Go.Sx

namespace Go.Sx
open Go Go.Proofs
set_option maxRecDepth 10000
set_option maxHeartbeats 8000000
/-! ### A tip like a cone -/
/-! ### The points of a groove, as the document tells them -/
theorem s157 (s : Smp) : PSpec Tryz.prog 157 [s.x] (xP (edgeP s)) := by
  unfold edgeP
  refine spec_of pMix (O := []) Tryz.func157 (c := bodyOf Tryz.f157) rfl (by kernel_rfl) (by kernel_rfl) Tryz.ntmps157 (res := [.tmp 2]) (by kernel_rfl) ?_
  repeat' ((conv => whnf); first | refine Rng.g ?_ | refine Ob.g ?_ | refine Ob.e ?_ | refine Ob.m ?_ | refine Ob.mk (Nat.le_of_ble_eq_true rfl) ?_ | refine JoinVC.on ?_ | refine Nils.mk (fun h => ?_) ?_ | refine Val.t ?_ | refine Val.d ?_ | refine Mm.mk ?_ | refine CallVC.pure rfl (s99 s.l (-4194304) 4194304) ?_ | refine CallVC.pure rfl (s99 s.r (-4194304) 4194304) ?_ | refine CallVC0.pure rfl (s99 s.l (-4194304) 4194304) ?_ | refine CallVC0.pure rfl (s99 s.r (-4194304) 4194304) ?_ | (refine Br.mk (fun h => ?_) (fun h => ?_) <;> first | (exfalso; omega; done) | (exfalso; simp at h; done) | skip))
  · repeat refine Mm.mk ?_
    refine EndVC.mk _ rfl _ _ ⟨rfl, rfl⟩ ?_
    refine ⟨[], rfl, rfl, ?_, ?_⟩ <;> repeat' (first | exact trivial | exact rfl | exact Iff.rfl | apply And.intro)
    exact ⟨fun h2 => ⟨h, h2⟩, fun h2 => h2.2⟩
  · repeat refine Mm.mk ?_
    refine EndVC.mk _ rfl _ _ ⟨rfl, rfl⟩ ?_
    refine ⟨[], rfl, rfl, ?_, ?_⟩ <;> repeat' (first | exact trivial | exact rfl | exact Iff.rfl | apply And.intro)
    exact fun h2 => h h2.1
theorem s71 (l : List Smp) : HSpec Tryz.prog 71 [lS l] [] (fun r m' => ∃ e, r = .x (I e) ∧ m' = [] ∧ (e = 0 ↔ PtsOK l)) := by
  have ll := smpA_len l
  by_cases hl : 4096 < l.length
  · refine spec_of pMix (O := []) Tryz.func71 (c := bodyOf Tryz.f71) rfl (by kernel_rfl) (by kernel_rfl) Tryz.ntmps71 (res := [.tmp 2]) (by kernel_rfl) ?_
    repeat' ((conv => whnf); first | refine Rng.g ?_ | refine Ob.g ?_ | refine Ob.e ?_ | refine Ob.m ?_ | refine Ob.mk (Nat.le_of_ble_eq_true rfl) ?_ | refine JoinVC.on ?_ | refine Nils.mk (fun h => ?_) ?_ | refine Val.t ?_ | refine Val.d ?_ | refine Mm.mk ?_ | (refine Br.mk (fun h => ?_) (fun h => ?_) <;> first | (exfalso; omega; done) | (exfalso; simp at h; done) | skip))
    repeat refine Mm.mk ?_
    conv => whnf
    refine EndVC.mk _ rfl _ _ (⟨6, rfl, rfl, ⟨fun h => (by cases h), fun hC => (by have := hC.len; omega)⟩⟩) ?_
    refine ⟨[], rfl, rfl, ?_, ?_⟩ <;> repeat' (first | exact trivial | exact rfl | exact Iff.rfl | apply And.intro)
  refine spec_of pMix (O := []) Tryz.func71 (c := bodyOf Tryz.f71) rfl (by kernel_rfl) (by kernel_rfl) Tryz.ntmps71 (res := [.tmp 2]) (by kernel_rfl) ?_
  repeat' ((conv => whnf); first | refine Rng.g ?_ | refine Ob.g ?_ | refine Ob.e ?_ | refine Ob.m ?_ | refine Ob.mk (Nat.le_of_ble_eq_true rfl) ?_ | refine JoinVC.on ?_ | refine Nils.mk (fun h => ?_) ?_ | refine Val.t ?_ | refine Val.d ?_ | refine Mm.mk ?_ | (refine Br.mk (fun h => ?_) (fun h => ?_) <;> first | (exfalso; omega; done) | (exfalso; simp at h; done) | skip))
  refine LoopVC.mk (fun n st => ∃ (i : Nat), i ≤ l.length ∧ n = l.length - i ∧ (∀ j, j < i → edgeP (l.getD j s0)) ∧ st = ⟨0, envA 19 [(0, .x (lS l)), (3, .int .i64 (i : Int))], []⟩) _ _ ⟨0, Nat.zero_le _, rfl, fun j hj => absurd hj (Nat.not_lt_zero j), rfl⟩ ?_ ?_
  · refine ⟨[], rfl, rfl, ?_, ?_⟩ <;> repeat' (first | exact trivial | exact rfl | exact Iff.rfl | apply And.intro)
  rintro n _ ⟨i, hi, hn, hj, rfl⟩
  by_cases hi' : i < l.length
  · have c1 : PSpec Tryz.prog 157 [smpX l i] (xP (edgeP (l.getD i s0))) := smpX_eq l i ▸ s157 _
    repeat' ((conv => whnf); first | refine Rng.g ?_ | refine Ob.g ?_ | refine Ob.e ?_ | refine Ob.m ?_ | refine Ob.mk (Nat.le_of_ble_eq_true rfl) ?_ | refine JoinVC.on ?_ | refine Nils.mk (fun h => ?_) ?_ | refine Val.t ?_ | refine Val.d ?_ | refine Mm.mk ?_ | refine CallVC.pure rfl (c1) ?_ | refine CallVC0.pure rfl (c1) ?_ | (refine Br.mk (fun h => ?_) (fun h => ?_) <;> first | (exfalso; omega; done) | (exfalso; simp at h; done) | skip))
    · repeat refine Mm.mk ?_
      conv => whnf
      refine EndVC.mk _ rfl _ _ (⟨2, rfl, rfl, ⟨fun h => (by cases h), fun hC => absurd (hC.each i hi') h⟩⟩) ?_
      refine ⟨[], rfl, rfl, ?_, ?_⟩ <;> repeat' (first | exact trivial | exact rfl | exact Iff.rfl | apply And.intro)
    · refine Back.mk (l.length - (i + 1)) _ (by omega) ⟨i + 1, by omega, rfl, fun j hj' => ?_, rfl⟩ ?_
      · rcases Nat.lt_succ_iff_lt_or_eq.1 hj' with h' | rfl
        · exact hj j h'
        · exact Classical.not_not.1 h
      · refine ⟨[], rfl, rfl, ?_, ?_⟩ <;> repeat' (first | exact trivial | exact rfl | exact Iff.rfl | apply And.intro)
  · repeat' ((conv => whnf); first | refine Rng.g ?_ | refine Ob.g ?_ | refine Ob.e ?_ | refine Ob.m ?_ | refine Ob.mk (Nat.le_of_ble_eq_true rfl) ?_ | refine JoinVC.on ?_ | refine Nils.mk (fun h => ?_) ?_ | refine Val.t ?_ | refine Val.d ?_ | refine Mm.mk ?_ | (refine Br.mk (fun h => ?_) (fun h => ?_) <;> first | (exfalso; omega; done) | (exfalso; simp at h; done) | skip))
    repeat refine Mm.mk ?_
    conv => whnf
    refine EndVC.mk _ rfl _ _ (⟨0, rfl, rfl, ⟨fun _ => ⟨by omega, fun j hj' => hj j (by omega)⟩, fun _ => rfl⟩⟩) ?_
    refine ⟨[], rfl, rfl, ?_, ?_⟩ <;> repeat' (first | exact trivial | exact rfl | exact Iff.rfl | apply And.intro)
def gnt (p : List Smp) (b : Int) (k : Nat) : Prop := ∀ j, 1 ≤ j → j < k → gntl p b j
noncomputable instance (p : List Smp) (b : Int) (k : Nat) : Decidable (gnt p b k) := Classical.propDecidable _
end Go.Sx

namespace Go.Sx
open Go Go.Proofs
set_option maxRecDepth 60000
set_option maxHeartbeats 16000000
theorem e20 : EntersF Tryz.prog 20 := enters_of Tryz.func20 (c := bodyOf Tryz.f20) (by kernel_rfl) rfl
/-! ### The least limit within which a centre is -/
theorem cen_mono {a b c : Spot} {l m : Int} (h : cenB a b c l) (hl : 0 ≤ l) (hm : l ≤ m) (hm2 : m ≤ 262144) : cenB a b c m := by
  have h1 := h.e
  have h2 := h.le
  have hd := (ctr_bd a b c).2.2.1
  have hE : ctrE a b c = 0 := by
    unfold cenE at h1
    split at h1
    · assumption
    · exact h1
  refine ⟨by unfold cenE; rw [if_pos hE, if_pos (by omega)], Int.le_trans h2 ?_⟩
  have h3 : l * ctrD a b c ≤ m * ctrD a b c := Int.mul_le_mul_of_nonneg_right hm hd
  have h4 : 0 ≤ l * ctrD a b c := Int.mul_nonneg hl hd
  exact Int.mul_le_mul h3 h3 h4 (by omega)
theorem cen_e {a b c : Spot} (ha : a.ok) (hb : b.ok) (hc : c.ok) {l : Int} (hl : 0 ≤ l ∧ l ≤ 262144) : cenE a b c l = ctrE a b c ∧ (ctrE a b c = 0 ∨ ctrE a b c = 9) := by
  have h : ctrE a b c = 0 ∨ ctrE a b c = 9 := by
    unfold ctrE
    rw [if_pos ⟨ha, hb, hc⟩]
    split
    · exact .inr rfl
    · exact .inl rfl
  refine ⟨?_, h⟩
  unfold cenE
  by_cases h0 : ctrE a b c = 0
  · rw [if_pos h0, if_pos hl, h0]
  · rw [if_neg h0]
@[reducible] def bAr (a : Spot) : Blk := .box 155 [.int .i16 a.x, .int .i16 a.y]
@[reducible] def bSp (a : Spot) : Blk := .box 157 [.int .i64 a.x, .int .i64 a.y]
@[reducible] def arX (a : Spot) : XV := .agg [.int .i16 a.x, .int .i16 a.y]
def i16 (a : Spot) : Prop := (-32768 ≤ a.x ∧ a.x ≤ 32767) ∧ (-32768 ≤ a.y ∧ a.y ≤ 32767)
theorem i16.ok {a : Spot} (h : i16 a) : a.ok := by
  unfold i16 at h
  unfold Spot.ok
  omega
theorem s20 (a b c : Spot) (L : Int) (p : List Smp) (S : List Int) (rd per : Int) (ha : i16 a) (hb : i16 b) (hc : i16 c) (hL : 0 ≤ L ∧ L ≤ 65535) : PSpec Tryz.prog 20 [arX a, arX b, arX c, .one (.int .u16 L), lS p, tipX S, I rd, I per] (xP True) := by
  have hw := s83
  have lp := smpA_len p
  by_cases hV : ¬ (p.length ≤ 30 ∧ PtsOK p ∧ TipOK S ∧ (1 ≤ rd ∧ rd ≤ 4194304) ∧ (1 ≤ per ∧ per ≤ 65536))
  · by_cases h40 : 30 < p.length
    · refine spec_of pMix (O := [(3, ([21, 22, 23], [⟨0, [], []⟩, ⟨1, [], []⟩, ⟨2, [], []⟩, ⟨3, [], []⟩, ⟨4, [], []⟩, ⟨5, [], []⟩, ⟨6, [], []⟩, ⟨7, [], []⟩, ⟨8, [], []⟩, ⟨9, [], []⟩, ⟨10, [], []⟩, ⟨11, [], []⟩, ⟨12, [], []⟩, ⟨13, [], []⟩, ⟨14, [], []⟩, ⟨15, [], []⟩, ⟨16, [], []⟩, ⟨17, [], []⟩, ⟨18, [], []⟩, ⟨19, [], []⟩, ⟨20, [], []⟩, ⟨23, [], []⟩, ⟨22, [], []⟩, ⟨21, [], []⟩, ⟨24, [7, 8, 9, 10, 11, 12, 13, 14, 15, 16, 17, 18, 19, 20], []⟩, ⟨25, [14, 15, 16, 17, 18, 19, 20], []⟩, ⟨26, [], []⟩]))]) Tryz.func20 (c := bodyOf Tryz.f20) rfl (by kernel_rfl) (by kernel_rfl) Tryz.ntmps20 (res := [.tmp 16]) (by kernel_rfl) ?_
      repeat' ((conv => whnf); first | refine Rng.g ?_ | refine Ob.g ?_ | refine Ob.e ?_ | refine Ob.m ?_ | refine Ob.mk (Nat.le_of_ble_eq_true rfl) ?_ | refine JoinVC.on ?_ | refine Nils.mk (fun h => ?_) ?_ | refine Val.t ?_ | refine Val.d ?_ | refine Mm.mk ?_ | refine CallVC.pure rfl (hw) ?_ | refine CallVC0.pure rfl (hw) ?_ | (refine Br.mk (fun h => ?_) (fun h => ?_) <;> first | (exfalso; omega; done) | (exfalso; simp at h; done) | skip))
      all_goals
        repeat refine Mm.mk ?_
        refine EndVC.mk _ rfl _ _ ⟨rfl, rfl⟩ ?_
        refine ⟨[], rfl, rfl, ?_, ?_⟩ <;> repeat' (first | exact trivial | exact rfl | exact Iff.rfl | apply And.intro)
    refine spec_of pMix (O := [(3, ([21, 22, 23], [⟨0, [], []⟩, ⟨1, [], []⟩, ⟨2, [], []⟩, ⟨3, [], []⟩, ⟨4, [], []⟩, ⟨5, [], []⟩, ⟨6, [], []⟩, ⟨7, [], []⟩, ⟨8, [], []⟩, ⟨9, [], []⟩, ⟨10, [], []⟩, ⟨11, [], []⟩, ⟨12, [], []⟩, ⟨13, [], []⟩, ⟨14, [], []⟩, ⟨15, [], []⟩, ⟨16, [], []⟩, ⟨17, [], []⟩, ⟨18, [], []⟩, ⟨19, [], []⟩, ⟨20, [], []⟩, ⟨23, [], []⟩, ⟨22, [], []⟩, ⟨21, [], []⟩, ⟨24, [7, 8, 9, 10, 11, 12, 13, 14, 15, 16, 17, 18, 19, 20], []⟩, ⟨25, [14, 15, 16, 17, 18, 19, 20], []⟩, ⟨26, [], []⟩]))]) Tryz.func20 (c := bodyOf Tryz.f20) rfl (by kernel_rfl) (by kernel_rfl) Tryz.ntmps20 (res := [.tmp 16]) (by kernel_rfl) ?_
    repeat' ((conv => whnf); first | refine Rng.g ?_ | refine Ob.g ?_ | refine Ob.e ?_ | refine Ob.m ?_ | refine Ob.mk (Nat.le_of_ble_eq_true rfl) ?_ | refine JoinVC.on ?_ | refine Nils.mk (fun h => ?_) ?_ | refine Val.t ?_ | refine Val.d ?_ | refine Mm.mk ?_ | (refine Br.mk (fun h => ?_) (fun h => ?_) <;> first | (exfalso; omega; done) | (exfalso; simp at h; done) | skip))
    conv => whnf
    refine CallVC.mk [] _ _ _ rfl rfl rfl (s71 p) (fun r m' h' => ?_)
    obtain ⟨e2, rfl, rfl, he2⟩ := h'
    conv => whnf
    by_cases h2 : e2 = 0
    rotate_left
    · repeat' ((conv => whnf); first | refine Rng.g ?_ | refine Ob.g ?_ | refine Ob.e ?_ | refine Ob.m ?_ | refine Ob.mk (Nat.le_of_ble_eq_true rfl) ?_ | refine JoinVC.on ?_ | refine Nils.mk (fun h => ?_) ?_ | refine Val.t ?_ | refine Val.d ?_ | refine Mm.mk ?_ | refine CallVC.pure rfl (hw) ?_ | refine CallVC0.pure rfl (hw) ?_ | (refine Br.mk (fun h => ?_) (fun h => ?_) <;> first | (exfalso; omega; done) | (exfalso; simp at h; done) | skip))
      all_goals
        repeat refine Mm.mk ?_
        refine EndVC.mk _ rfl _ _ ⟨rfl, rfl⟩ ?_
        refine ⟨[], rfl, rfl, ?_, ?_⟩ <;> repeat' (first | exact trivial | exact rfl | exact Iff.rfl | apply And.intro)
    repeat' ((conv => whnf); first | refine Rng.g ?_ | refine Ob.g ?_ | refine Ob.e ?_ | refine Ob.m ?_ | refine Ob.mk (Nat.le_of_ble_eq_true rfl) ?_ | refine JoinVC.on ?_ | refine Nils.mk (fun h => ?_) ?_ | refine Val.t ?_ | refine Val.d ?_ | refine Mm.mk ?_ | (refine Br.mk (fun h => ?_) (fun h => ?_) <;> first | (exfalso; omega; done) | (exfalso; simp at h; done) | skip))
    conv => whnf
    refine CallVC.mk [] _ _ _ rfl rfl rfl (s78 S) (fun r m' h' => ?_)
    obtain ⟨e3, rfl, rfl, he3⟩ := h'
    conv => whnf
    by_cases h3 : e3 = 0
    rotate_left
    · repeat' ((conv => whnf); first | refine Rng.g ?_ | refine Ob.g ?_ | refine Ob.e ?_ | refine Ob.m ?_ | refine Ob.mk (Nat.le_of_ble_eq_true rfl) ?_ | refine JoinVC.on ?_ | refine Nils.mk (fun h => ?_) ?_ | refine Val.t ?_ | refine Val.d ?_ | refine Mm.mk ?_ | refine CallVC.pure rfl (hw) ?_ | refine CallVC0.pure rfl (hw) ?_ | (refine Br.mk (fun h => ?_) (fun h => ?_) <;> first | (exfalso; omega; done) | (exfalso; simp at h; done) | skip))
      all_goals
        repeat refine Mm.mk ?_
        refine EndVC.mk _ rfl _ _ ⟨rfl, rfl⟩ ?_
        refine ⟨[], rfl, rfl, ?_, ?_⟩ <;> repeat' (first | exact trivial | exact rfl | exact Iff.rfl | apply And.intro)
    have hV' : ¬ ((1 ≤ rd ∧ rd ≤ 4194304) ∧ (1 ≤ per ∧ per ≤ 65536)) := fun h => hV ⟨by omega, he2.1 h2, he3.1 h3, h⟩
    repeat' ((conv => whnf); first | refine Rng.g ?_ | refine Ob.g ?_ | refine Ob.e ?_ | refine Ob.m ?_ | refine Ob.mk (Nat.le_of_ble_eq_true rfl) ?_ | refine JoinVC.on ?_ | refine Nils.mk (fun h => ?_) ?_ | refine Val.t ?_ | refine Val.d ?_ | refine Mm.mk ?_ | refine CallVC.pure rfl (hw) ?_ | refine CallVC0.pure rfl (hw) ?_ | (refine Br.mk (fun h => ?_) (fun h => ?_) <;> first | (exfalso; omega; done) | (exfalso; simp at h; done) | skip))
    all_goals first | (exfalso; omega) | skip
    all_goals
      repeat refine Mm.mk ?_
      refine EndVC.mk _ rfl _ _ ⟨rfl, rfl⟩ ?_
      refine ⟨[], rfl, rfl, ?_, ?_⟩ <;> repeat' (first | exact trivial | exact rfl | exact Iff.rfl | apply And.intro)
  replace hV := Classical.not_not.1 hV
  obtain ⟨h40, hP, hS, hr, hp⟩ := hV
  have hE : ∀ l, 0 ≤ l ∧ l ≤ 262144 → cenE a b c l = ctrE a b c ∧ (ctrE a b c = 0 ∨ ctrE a b c = 9) := fun l hl => cen_e ha.ok hb.ok hc.ok hl
  have ha' := ha
  have hb' := hb
  have hc' := hc
  unfold i16 at ha' hb' hc'
  have cL := ps33 a b c L
  rw [(hE L (by omega)).1] at cL
  refine spec_of pMix (O := [(3, ([21, 22, 23], [⟨0, [], []⟩, ⟨1, [], []⟩, ⟨2, [], []⟩, ⟨3, [], []⟩, ⟨4, [], []⟩, ⟨5, [], []⟩, ⟨6, [], []⟩, ⟨7, [], []⟩, ⟨8, [], []⟩, ⟨9, [], []⟩, ⟨10, [], []⟩, ⟨11, [], []⟩, ⟨12, [], []⟩, ⟨13, [], []⟩, ⟨14, [], []⟩, ⟨15, [], []⟩, ⟨16, [], []⟩, ⟨17, [], []⟩, ⟨18, [], []⟩, ⟨19, [], []⟩, ⟨20, [], []⟩, ⟨23, [], []⟩, ⟨22, [], []⟩, ⟨21, [], []⟩, ⟨24, [7, 8, 9, 10, 11, 12, 13, 14, 15, 16, 17, 18, 19, 20], []⟩, ⟨25, [14, 15, 16, 17, 18, 19, 20], []⟩, ⟨26, [], []⟩]))]) Tryz.func20 (c := bodyOf Tryz.f20) rfl (by kernel_rfl) (by kernel_rfl) Tryz.ntmps20 (res := [.tmp 16]) (by kernel_rfl) ?_
  repeat' ((conv => whnf); first | refine Rng.g ?_ | refine Ob.g ?_ | refine Ob.e ?_ | refine Ob.m ?_ | refine Ob.mk (Nat.le_of_ble_eq_true rfl) ?_ | refine JoinVC.on ?_ | refine Nils.mk (fun h => ?_) ?_ | refine Val.t ?_ | refine Val.d ?_ | refine Mm.mk ?_ | (refine Br.mk (fun h => ?_) (fun h => ?_) <;> first | (exfalso; omega; done) | (exfalso; simp at h; done) | skip))
  conv => whnf
  refine CallVC.mk [] _ _ _ rfl rfl rfl (s71 p) (fun r m' h' => ?_)
  obtain ⟨e2, rfl, rfl, he2⟩ := h'
  conv => whnf
  cases he2.2 hP
  repeat' ((conv => whnf); first | refine Rng.g ?_ | refine Ob.g ?_ | refine Ob.e ?_ | refine Ob.m ?_ | refine Ob.mk (Nat.le_of_ble_eq_true rfl) ?_ | refine JoinVC.on ?_ | refine Nils.mk (fun h => ?_) ?_ | refine Val.t ?_ | refine Val.d ?_ | refine Mm.mk ?_ | (refine Br.mk (fun h => ?_) (fun h => ?_) <;> first | (exfalso; omega; done) | (exfalso; simp at h; done) | skip))
  conv => whnf
  refine CallVC.mk [] _ _ _ rfl rfl rfl (s78 S) (fun r m' h' => ?_)
  obtain ⟨e3, rfl, rfl, he3⟩ := h'
  conv => whnf
  cases he3.2 hS
  rcases (hE L (by omega)).2 with h9 | h9
  rotate_left
  · rw [h9] at cL
    repeat' ((conv => whnf); first | refine Rng.g ?_ | refine Ob.g ?_ | refine Ob.e ?_ | refine Ob.m ?_ | refine Ob.mk (Nat.le_of_ble_eq_true rfl) ?_ | refine JoinVC.on ?_ | refine Nils.mk (fun h => ?_) ?_ | refine Val.t ?_ | refine Val.d ?_ | refine Mm.mk ?_ | refine CallVC.pure rfl (cL) ?_ | refine CallVC.pure rfl (hw) ?_ | refine CallVC0.pure rfl (cL) ?_ | refine CallVC0.pure rfl (hw) ?_ | (refine Br.mk (fun h => ?_) (fun h => ?_) <;> first | (exfalso; omega; done) | (exfalso; simp at h; done) | skip))
    all_goals
      repeat refine Mm.mk ?_
      refine EndVC.mk _ rfl _ _ ⟨rfl, rfl⟩ ?_
      refine ⟨[], rfl, rfl, ?_, ?_⟩ <;> repeat' (first | exact trivial | exact rfl | exact Iff.rfl | apply And.intro)
  rw [h9] at cL
  repeat' ((conv => whnf); first | refine Rng.g ?_ | refine Ob.g ?_ | refine Ob.e ?_ | refine Ob.m ?_ | refine Ob.mk (Nat.le_of_ble_eq_true rfl) ?_ | refine JoinVC.on ?_ | refine Nils.mk (fun h => ?_) ?_ | refine Val.t ?_ | refine Val.d ?_ | refine Mm.mk ?_ | refine CallVC.pure rfl (cL) ?_ | refine CallVC0.pure rfl (cL) ?_ | (refine Br.mk (fun h => ?_) (fun h => ?_) <;> first | (exfalso; omega; done) | (exfalso; simp at h; done) | skip))
  refine LoopVC.mk (fun n st => ∃ lo hi : Int, (0 ≤ lo ∧ lo ≤ hi ∧ hi ≤ L + 1) ∧ n = (hi - lo).toNat ∧ (∀ m, 0 ≤ m → m < lo → ¬ cenB a b c m) ∧ (hi ≤ L → cenB a b c hi) ∧ st = ⟨0, envA 273 [(3, .x (.one (.int .u16 L))), (4, .x (lS p)), (6, .x (I rd)), (7, .x (I per)), (13, .x (.one (.ptr 3 0))), (17, .x (.one (.ptr 6 0))), (18, .x (.one (.ptr 5 0))), (19, .x (.one (.ptr 4 0))), (20, xP (cenB a b c L)), (22, .x (I lo)), (23, .x (I hi))], [some (bAr a), some (bAr b), some (bAr c), some (bTip S), some (bSp c), some (bSp b), some (bSp a)]⟩) _ _ ⟨0, L + 1, by omega, rfl, fun m h1 h2 => by omega, fun h => by omega, rfl⟩ ?_ ?_
  · refine ⟨[some 0, some 1, some 2, some 3, some 4, some 5, some 6], rfl, rfl, ?_, ?_⟩ <;> repeat' (first | exact trivial | exact rfl | exact Iff.rfl | apply And.intro)
  rintro n _ ⟨lo, hi, hlh, hn, hno, hyes, rfl⟩
  by_cases hlt : lo < hi
  · obtain ⟨m, hm⟩ : ∃ m, m = (lo + hi) / 2 := ⟨_, rfl⟩
    have hm1 : lo ≤ m ∧ m < hi := by omega
    have c1 := ps33 a b c m
    rw [(hE m (by omega)).1, h9] at c1
    by_cases hB : cenB a b c m
    · repeat' ((conv => whnf); first | rw [← hm] | refine Rng.g ?_ | refine Ob.g ?_ | refine Ob.e ?_ | refine Ob.m ?_ | refine Ob.mk (Nat.le_of_ble_eq_true rfl) ?_ | refine JoinVC.on ?_ | refine Nils.mk (fun h => ?_) ?_ | refine Val.t ?_ | refine Val.d ?_ | refine Mm.mk ?_ | refine CallVC.pure rfl (c1) ?_ | refine CallVC0.pure rfl (c1) ?_ | (refine Br.mk (fun h => ?_) (fun h => ?_) <;> first | (exfalso; omega; done) | (exfalso; simp at h; done) | (exfalso; simp [hB] at h; done) | skip))
      refine Back.mk (m - lo).toNat _ (by omega) ⟨lo, m, by omega, rfl, hno, fun _ => hB, rfl⟩ ?_
      refine ⟨[some 0, some 1, some 2, some 3, some 4, some 5, some 6], rfl, rfl, ?_, ?_⟩ <;> repeat' (first | exact trivial | exact rfl | exact Iff.rfl | apply And.intro)
    · repeat' ((conv => whnf); first | rw [← hm] | refine Rng.g ?_ | refine Ob.g ?_ | refine Ob.e ?_ | refine Ob.m ?_ | refine Ob.mk (Nat.le_of_ble_eq_true rfl) ?_ | refine JoinVC.on ?_ | refine Nils.mk (fun h => ?_) ?_ | refine Val.t ?_ | refine Val.d ?_ | refine Mm.mk ?_ | refine CallVC.pure rfl (c1) ?_ | refine CallVC0.pure rfl (c1) ?_ | (refine Br.mk (fun h => ?_) (fun h => ?_) <;> first | (exfalso; omega; done) | (exfalso; simp at h; done) | (exfalso; simp [hB] at h; done) | skip))
      refine Back.mk (hi - (m + 1)).toNat _ (by omega) ⟨m + 1, hi, by omega, rfl, fun j h1 h2 h3 => hB (cen_mono h3 h1 (by omega) (by omega)), hyes, rfl⟩ ?_
      refine ⟨[some 0, some 1, some 2, some 3, some 4, some 5, some 6], rfl, rfl, ?_, ?_⟩ <;> repeat' (first | exact trivial | exact rfl | exact Iff.rfl | apply And.intro)
  have elh : lo = hi := by omega
  subst elh
  have hN : cenB a b c L ↔ lo ≤ L := ⟨fun h => Classical.byContradiction fun hc => hno L hL.1 (by omega) h, fun h => cen_mono (hyes h) hlh.1 h (by omega)⟩
  by_cases hB : cenB a b c L
  rotate_left
  · repeat' ((conv => whnf); first | refine Rng.g ?_ | refine Ob.g ?_ | refine Ob.e ?_ | refine Ob.m ?_ | refine Ob.mk (Nat.le_of_ble_eq_true rfl) ?_ | refine JoinVC.on ?_ | refine Nils.mk (fun h => ?_) ?_ | refine Val.t ?_ | refine Val.d ?_ | refine Mm.mk ?_ | refine CallVC.pure rfl (hw) ?_ | refine CallVC0.pure rfl (hw) ?_ | (refine Br.mk (fun h => ?_) (fun h => ?_) <;> first | (exfalso; omega; done) | (exfalso; simp at h; done) | (exfalso; simp [hB] at h; done) | skip))
    all_goals first | (exfalso; exact h (by show decide _ = decide _; exact decide_eq_decide.2 hN)) | skip
    all_goals
      repeat refine Mm.mk ?_
      refine EndVC.mk _ rfl _ _ ⟨rfl, rfl⟩ ?_
      refine ⟨[], rfl, rfl, ?_, ?_⟩ <;> repeat' (first | exact trivial | exact rfl | exact Iff.rfl | apply And.intro)
  have hlo := hN.1 hB
  have w1 := wow_nn (o := 16 * lo) hr.1 hp.1 (by omega)
  have w2 := wow_mono (o := 16 * lo) (o' := 16 * L) hr.1 hp.1 (by omega)
  have c1 := s85 (16 * lo) rd per (by omega) hr hp
  have c2 := s85 (16 * L) rd per (by omega) hr hp
  by_cases h256 : 256 < wowF (16 * L) rd per
  · rw [if_pos h256, if_pos h256] at c2
    by_cases h257 : 256 < wowF (16 * lo) rd per
    · rw [if_pos h257, if_pos h257] at c1
      repeat' ((conv => whnf); first | refine Rng.g ?_ | refine Ob.g ?_ | refine Ob.e ?_ | refine Ob.m ?_ | refine Ob.mk (Nat.le_of_ble_eq_true rfl) ?_ | refine JoinVC.on ?_ | refine Nils.mk (fun h => ?_) ?_ | refine Val.t ?_ | refine Val.d ?_ | refine Mm.mk ?_ | refine CallVC.pure rfl (hw) ?_ | refine CallVC.pure rfl (c1) ?_ | refine CallVC.pure rfl (c2) ?_ | refine CallVC0.pure rfl (hw) ?_ | refine CallVC0.pure rfl (c1) ?_ | refine CallVC0.pure rfl (c2) ?_ | (refine Br.mk (fun h => ?_) (fun h => ?_) <;> first | (exfalso; omega; done) | (exfalso; simp at h; done) | (exfalso; simp [hB] at h; done) | skip))
      all_goals first | (exfalso; exact h (by show decide _ = decide _; exact decide_eq_decide.2 hN)) | skip
      all_goals
        repeat refine Mm.mk ?_
        refine EndVC.mk _ rfl _ _ ⟨rfl, rfl⟩ ?_
        refine ⟨[], rfl, rfl, ?_, ?_⟩ <;> repeat' (first | exact trivial | exact rfl | exact Iff.rfl | apply And.intro)
    · rw [if_neg h257, if_neg h257] at c1
      repeat' ((conv => whnf); first | refine Rng.g ?_ | refine Ob.g ?_ | refine Ob.e ?_ | refine Ob.m ?_ | refine Ob.mk (Nat.le_of_ble_eq_true rfl) ?_ | refine JoinVC.on ?_ | refine Nils.mk (fun h => ?_) ?_ | refine Val.t ?_ | refine Val.d ?_ | refine Mm.mk ?_ | refine CallVC.pure rfl (hw) ?_ | refine CallVC.pure rfl (c1) ?_ | refine CallVC.pure rfl (c2) ?_ | refine CallVC0.pure rfl (hw) ?_ | refine CallVC0.pure rfl (c1) ?_ | refine CallVC0.pure rfl (c2) ?_ | (refine Br.mk (fun h => ?_) (fun h => ?_) <;> first | (exfalso; omega; done) | (exfalso; simp at h; done) | (exfalso; simp [hB] at h; done) | skip))
      all_goals first | (exfalso; exact h (by show decide _ = decide _; exact decide_eq_decide.2 hN)) | skip
      all_goals
        repeat refine Mm.mk ?_
        refine EndVC.mk _ rfl _ _ ⟨rfl, rfl⟩ ?_
        refine ⟨[], rfl, rfl, ?_, ?_⟩ <;> repeat' (first | exact trivial | exact rfl | exact Iff.rfl | apply And.intro)
  rw [if_neg h256, if_neg h256] at c2
  rw [if_neg (by omega), if_neg (by omega)] at c1
  obtain ⟨u, hu⟩ : ∃ u : Nat, wowF (16 * lo) rd per = (u : Int) := ⟨(wowF (16 * lo) rd per).toNat, by omega⟩
  obtain ⟨v, hv⟩ : ∃ v : Nat, wowF (16 * L) rd per = (v : Int) := ⟨(wowF (16 * L) rd per).toNat, by omega⟩
  rw [hu] at c1 w1 w2
  rw [hv] at c2 w2 h256
  repeat' ((conv => whnf); first | refine Rng.g ?_ | refine Ob.g ?_ | refine Ob.e ?_ | refine Ob.m ?_ | refine Ob.mk (Nat.le_of_ble_eq_true rfl) ?_ | refine JoinVC.on ?_ | refine Nils.mk (fun h => ?_) ?_ | refine Val.t ?_ | refine Val.d ?_ | refine Mm.mk ?_ | refine CallVC.pure rfl (c1) ?_ | refine CallVC.pure rfl (c2) ?_ | refine CallVC0.pure rfl (c1) ?_ | refine CallVC0.pure rfl (c2) ?_ | (refine Br.mk (fun h => ?_) (fun h => ?_) <;> first | (exfalso; omega; done) | (exfalso; simp at h; done) | (exfalso; simp [hB] at h; done) | skip))
  all_goals first | (exfalso; exact h (by show decide _ = decide _; exact decide_eq_decide.2 hN)) | skip
  conv => whnf
  refine CallVC.mk [] _ _ _ rfl rfl rfl (s86 S p u hS hP (by omega)) (fun r m' h' => ?_)
  obtain ⟨rfl, rfl⟩ := h'
  conv => whnf
  obtain ⟨q, hq⟩ : ∃ q, q = readF S p := ⟨_, rfl⟩
  rw [← hq]
  obtain ⟨U, hU⟩ : ∃ U, U = hrdA (hrL q u p.length) := ⟨_, rfl⟩
  obtain ⟨V, hV⟩ : ∃ V, V = hrdA (hrL q v p.length) := ⟨_, rfl⟩
  rw [← hU]
  have lu : U.length = p.length := by rw [hU, hrdA_len, hrL_len]
  have lv : V.length = p.length := by rw [hV, hrdA_len, hrL_len]
  repeat' ((conv => whnf); first | refine Rng.g ?_ | refine Ob.g ?_ | refine Ob.e ?_ | refine Ob.m ?_ | refine Ob.mk (Nat.le_of_ble_eq_true rfl) ?_ | refine JoinVC.on ?_ | refine Nils.mk (fun h => ?_) ?_ | refine Val.t ?_ | refine Val.d ?_ | refine Mm.mk ?_ | (refine Br.mk (fun h => ?_) (fun h => ?_) <;> first | (exfalso; omega; done) | (exfalso; simp at h; done) | skip))
  conv => whnf
  refine CallVC.mk [] _ _ _ rfl rfl rfl (s86 S p v hS hP (by omega)) (fun r m' h' => ?_)
  obtain ⟨rfl, rfl⟩ := h'
  conv => whnf
  rw [← hq, ← hV]
  repeat' ((conv => whnf); first | refine Rng.g ?_ | refine Ob.g ?_ | refine Ob.e ?_ | refine Ob.m ?_ | refine Ob.mk (Nat.le_of_ble_eq_true rfl) ?_ | refine JoinVC.on ?_ | refine Nils.mk (fun h => ?_) ?_ | refine Val.t ?_ | refine Val.d ?_ | refine Mm.mk ?_ | (refine Br.mk (fun h => ?_) (fun h => ?_) <;> first | (exfalso; omega; done) | (exfalso; simp at h; done) | skip))
  refine LoopVC.mk (fun n st => ∃ (i : Nat), i ≤ p.length ∧ n = p.length - i ∧ st = ⟨0, envA 273 [(4, .x (lS p)), (30, .x (.one (.lst true KH U))), (31, .x (.one (.lst true KH V))), (32, .int .i64 (i : Int))], []⟩) _ _ ⟨0, Nat.zero_le _, rfl, rfl⟩ ?_ ?_
  · refine ⟨[], rfl, rfl, ?_, ?_⟩ <;> repeat' (first | exact trivial | exact rfl | exact Iff.rfl | apply And.intro)
  rintro n _ ⟨i, hi, hn, rfl⟩
  by_cases hi' : i < p.length
  · have g : ∀ w, rI (hrdA (hrL q w p.length)) (i : Int).toNat (0 + 0 + 0) = (hrF q w i).a ∧ rI (hrdA (hrL q w p.length)) (i : Int).toNat (0 + 0 + (0 + 1)) = (hrF q w i).b ∧ rI (hrdA (hrL q w p.length)) (i : Int).toNat (0 + (0 + 1 + 1) + 0) = (hrF q w i).c ∧ rI (hrdA (hrL q w p.length)) (i : Int).toNat (0 + (0 + 1 + 1) + (0 + 1)) = (hrF q w i).d := fun w => by
      rw [Int.toNat_natCast]
      have h1 : (hrdA (hrL q w p.length))[i]? = some [.int (hrF q w i).a, .int (hrF q w i).b, .int (hrF q w i).c, .int (hrF q w i).d] := by
        simp [hrdA, hrL, List.getElem?_range hi']
      simp [rI, cellAt, h1, Cell.toInt]
    have gu := g u
    have gv := g v
    rw [← hU] at gu
    rw [← hV] at gv
    have hm := hr_mono (q := q) (i := i) (show u ≤ v by omega)
    generalize hrF q u i = x at *
    generalize hrF q v i = y at *
    clear g
    clear hU hV hq
    repeat' ((conv => whnf); first | refine Rng.g ?_ | refine Ob.g ?_ | refine Ob.e ?_ | refine Ob.m ?_ | refine Ob.mk (Nat.le_of_ble_eq_true rfl) ?_ | refine JoinVC.on ?_ | refine Nils.mk (fun h => ?_) ?_ | refine Val.t ?_ | refine Val.d ?_ | refine Mm.mk ?_ | (refine Br.mk (fun h => ?_) (fun h => ?_) <;> first | (exfalso; omega; done) | (exfalso; simp at h; done) | skip))
    all_goals first | (exfalso; omega) | skip
    refine Back.mk (p.length - (i + 1)) _ (by omega) ⟨i + 1, by omega, rfl, rfl⟩ ?_
    refine ⟨[], rfl, rfl, ?_, ?_⟩ <;> repeat' (first | exact trivial | exact rfl | exact Iff.rfl | apply And.intro)
  · repeat' ((conv => whnf); first | refine Rng.g ?_ | refine Ob.g ?_ | refine Ob.e ?_ | refine Ob.m ?_ | refine Ob.mk (Nat.le_of_ble_eq_true rfl) ?_ | refine JoinVC.on ?_ | refine Nils.mk (fun h => ?_) ?_ | refine Val.t ?_ | refine Val.d ?_ | refine Mm.mk ?_ | refine CallVC.pure rfl (hw) ?_ | refine CallVC0.pure rfl (hw) ?_ | (refine Br.mk (fun h => ?_) (fun h => ?_) <;> first | (exfalso; omega; done) | (exfalso; simp at h; done) | skip))
    repeat refine Mm.mk ?_
    refine EndVC.mk _ rfl _ _ ⟨rfl, rfl⟩ ?_
    refine ⟨[], rfl, rfl, ?_, ?_⟩ <;> repeat' (first | exact trivial | exact rfl | exact Iff.rfl | apply And.intro)
end Go.Sx

namespace Go.Sx
open Go Go.Proofs
set_option maxRecDepth 10000
/-! ### Rows read as takes, parts, curves, samples -/
theorem wfr_of : ∀ {ks : List CK} {r : List Cell}, r.length = ks.length → (∀ (j : Nat) k c, ks[j]? = some k → r[j]? = some c → Wf k c) → WfR ks r
  | [], [], _, _ => .nil
  | [], _ :: _, h, _ => by simp at h
  | _ :: _, [], h, _ => by simp at h
  | k :: ks, c :: cs, h, hw => .cons (hw 0 k c rfl rfl) (wfr_of (by simpa using h) fun j k' c' h1 h2 => hw (j + 1) k' c' (by simpa using h1) (by simpa using h2))
theorem wf_map {α : Type} {ks : List CK} {row : α → List Cell} {p : α → Prop} (hrow : ∀ r, WfR ks r → ∃ x, r = row x ∧ p x) {a : Arr} (h : Wf (.sl ks) (.sl a)) : ∃ l : List α, a = l.map row ∧ ∀ x ∈ l, p x := by
  cases h with
  | sl hl hr hw =>
    clear hl
    induction a with
    | nil => exact ⟨[], rfl, fun x hx => by simp at hx⟩
    | cons r a ih =>
      obtain ⟨l, rfl, h2⟩ := ih (fun r h => hr r (List.mem_cons_of_mem _ h)) (fun r h => hw r (List.mem_cons_of_mem _ h))
      obtain ⟨x, rfl, h3⟩ := hrow r (wfr_of (hr r (List.mem_cons_self ..)) (hw r (List.mem_cons_self ..)))
      exact ⟨x :: l, rfl, fun y hy => by rcases List.mem_cons.1 hy with rfl | hy; (· exact h3); exact h2 y hy⟩
theorem mem_getD {α : Type} {p : α → Prop} {l : List α} {d : α} (h : ∀ x ∈ l, p x) (hd : p d) (j : Nat) : p (l.getD j d) := by
  rw [List.getD_eq_getElem?_getD]
  cases hx : l[j]? with
  | none => exact hd
  | some x => exact h x (List.mem_of_getElem? hx)
theorem inI_0 : inI 0 := by unfold inI; omega
theorem wf_smps {a : Arr} (h : Wf (.sl KS) (.sl a)) : ∃ l : List Smp, a = smpA l ∧ SmpI l := by
  obtain ⟨l, h1, h2⟩ := wf_map (row := fun s : Smp => [.int s.l, .int s.r]) (p := fun s => inI s.l ∧ inI s.r) (fun r hr => by
    obtain ⟨c0, _, rfl, g0, h1⟩ := hr.inv
    obtain ⟨n0, rfl, i0⟩ := g0.int_inv
    obtain ⟨c1, _, rfl, g1, h2⟩ := h1.inv
    obtain ⟨n1, rfl, i1⟩ := g1.int_inv
    cases h2.nil_inv
    exact ⟨⟨n0, n1⟩, rfl, by simpa [inR, inI] using i0, by simpa [inR, inI] using i1⟩) h
  exact ⟨l, h1, mem_getD h2 ⟨inI_0, inI_0⟩⟩
end Go.Sx
