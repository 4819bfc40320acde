import Derived.Test.YthlebjnhcinheaaGreatDoorPrTopCentredA
import Derived.Laws.Bits64b
import Derived.Test.YthlebjnhcinheaaGreatDoorXc
namespace Go.Sx
open Go Go.Proofs
set_option maxRecDepth 10000
set_option maxHeartbeats 4000000
/-! ### Formats and tracks -/
@[reducible] def Fmt.x (f : Fmt) : XV := .agg [.str f.nm, .int .i64 f.outer, .int .i64 f.inner, .int .i64 f.per, .int .i64 f.lead, .int .i64 f.gap, .int .i64 f.tail, .int .i64 f.cost]
@[reducible] def Sng.x (g : Sng) : XV := .agg [.int .i64 g.long, .int .i64 g.pitch, .int .i64 g.least]
def sngA (l : List Sng) : Arr := l.map fun g => [.int g.long, .int g.pitch, .int g.least]
theorem sngA_len (l : List Sng) : (sngA l).length = l.length := by simp [sngA]
theorem sngA_0 (l : List Sng) (i : Nat) : rI (sngA l) i 0 = (l.getD i g0).long := map_rI _ g0 l i 0 rfl
theorem sngA_1 (l : List Sng) (i : Nat) : rI (sngA l) i (0 + 1) = (l.getD i g0).pitch := map_rI _ g0 l i 1 rfl
theorem sngA_2 (l : List Sng) (i : Nat) : rI (sngA l) i (0 + 1 + 1) = (l.getD i g0).least := map_rI _ g0 l i 2 rfl
@[reducible] def KSng : List CK := [.int .i64, .int .i64, .int .i64]
@[reducible] def lSng (l : List Sng) : XV := .one (.lst true KSng (sngA l))
theorem s295 (n lo hi : Int) : PSpec Tryz.prog 295 [I n, I lo, I hi] (xP (n < lo ∨ n > hi)) := by
  refine spec_of pMix (O := []) Tryz.func295 (c := bodyOf Tryz.f295) rfl (by kernel_rfl) (by kernel_rfl) Tryz.ntmps295 (res := [.tmp 6]) (by kernel_rfl) ?_
  repeat' ((conv => whnf); first | refine Rng.g ?_ | refine Ob.g ?_ | refine Ob.e ?_ | refine Ob.m ?_ | refine Ob.mk (Nat.le_of_ble_eq_true rfl) ?_ | refine JoinVC.on ?_ | refine Nils.mk (fun h => ?_) ?_ | refine Val.t ?_ | refine Val.d ?_ | refine Mm.mk ?_ | (refine Br.mk (fun h => ?_) (fun h => ?_) <;> first | (exfalso; omega; done) | (exfalso; simp at h; done) | skip))
  · repeat refine Mm.mk ?_
    refine EndVC.mk _ rfl _ _ ⟨rfl, rfl⟩ ?_
    refine ⟨[], rfl, rfl, ?_, ?_⟩ <;> repeat' (first | exact trivial | exact rfl | exact Iff.rfl | apply And.intro)
    exact .inl h
  · repeat refine Mm.mk ?_
    refine EndVC.mk _ rfl _ _ ⟨rfl, rfl⟩ ?_
    refine ⟨[], rfl, rfl, ?_, ?_⟩ <;> repeat' (first | exact trivial | exact rfl | exact Iff.rfl | apply And.intro)
    exact ⟨fun h2 => .inr h2, fun h2 => h2.elim (fun h3 => absurd h3 h) id⟩
theorem bytA_get (b : ByteArray) (i : Nat) : rI (bytA b) i 0 = chr b i := map_rI _ (0 : UInt8) b.data.toList i 0 rfl
theorem bytA_len (b : ByteArray) : (bytA b).length = b.size := by
  show (b.data.toList.map _).length = b.data.size
  rw [List.length_map, Array.length_toList]
open Classical in
theorem s294 (s : ByteArray) (hs : s.size ≤ 140737488355328) : PSpec Tryz.prog 294 [.one (.str s)] (xP (nameOK s)) := by
  have lb := bytA_len s
  refine spec_of pMix (O := []) Tryz.func294 (c := bodyOf Tryz.f294) rfl (by kernel_rfl) (by kernel_rfl) Tryz.ntmps294 (res := [.tmp 2]) (by kernel_rfl) ?_
  repeat' ((conv => whnf); first | refine Rng.g ?_ | refine Ob.g ?_ | refine Ob.e ?_ | refine Ob.m ?_ | refine Ob.mk (Nat.le_of_ble_eq_true rfl) ?_ | refine JoinVC.on ?_ | refine Nils.mk (fun h => ?_) ?_ | refine Val.t ?_ | refine Val.d ?_ | refine Mm.mk ?_ | (refine Br.mk (fun h => ?_) (fun h => ?_) <;> first | (exfalso; omega; done) | (exfalso; simp at h; done) | skip))
  refine LoopVC.mk (fun n st => ∃ (i : Nat), i ≤ s.size ∧ n = s.size - i ∧ (∀ j, j < i → okC (chr s j)) ∧ st = ⟨0, envA 34 [(0, .x (.one (.str s))), (6, .x (.one (.lst false [.int .u8] (bytA s)))), (7, .int .i64 (s.size : Int)), (8, .int .i64 (i : Int))], []⟩) _ _ ⟨0, Nat.zero_le _, rfl, fun j hj => absurd hj (Nat.not_lt_zero j), rfl⟩ ?_ ?_
  · refine ⟨[], rfl, rfl, ?_, ?_⟩ <;> repeat' (first | exact trivial | exact rfl | exact Iff.rfl | apply And.intro)
    exact congrArg Int.ofNat lb
  rintro n _ ⟨i, hi, hn, hj, rfl⟩
  have gc : rI (bytA s) (i : Int).toNat 0 = chr s i := by rw [Int.toNat_natCast, bytA_get]
  by_cases hi' : i < s.size
  · by_cases hc : okC (chr s i)
    · have hc' := hc
      unfold okC at hc'
      repeat' ((conv => whnf); first | rw [gc] | refine Rng.g ?_ | refine Ob.g ?_ | refine Ob.e ?_ | refine Ob.m ?_ | refine Ob.mk (Nat.le_of_ble_eq_true rfl) ?_ | refine JoinVC.on ?_ | refine Nils.mk (fun h => ?_) ?_ | refine Val.t ?_ | refine Val.d ?_ | refine Mm.mk ?_ | (refine Br.mk (fun h => ?_) (fun h => ?_) <;> first | (exfalso; omega; done) | (exfalso; simp at h; done) | skip))
      all_goals
        refine Back.mk (s.size - (i + 1)) _ (by omega) ⟨i + 1, by omega, rfl, fun j hj' => ?_, rfl⟩ ?_
        · rcases Nat.lt_succ_iff_lt_or_eq.1 hj' with h' | rfl
          · exact hj j h'
          · exact hc
        · refine ⟨[], rfl, rfl, ?_, ?_⟩ <;> repeat' (first | exact trivial | exact rfl | exact Iff.rfl | apply And.intro)
    · have hc' := hc
      unfold okC at hc'
      repeat' ((conv => whnf); first | rw [gc] | refine Rng.g ?_ | refine Ob.g ?_ | refine Ob.e ?_ | refine Ob.m ?_ | refine Ob.mk (Nat.le_of_ble_eq_true rfl) ?_ | refine JoinVC.on ?_ | refine Nils.mk (fun h => ?_) ?_ | refine Val.t ?_ | refine Val.d ?_ | refine Mm.mk ?_ | (refine Br.mk (fun h => ?_) (fun h => ?_) <;> first | (exfalso; omega; done) | (exfalso; simp at h; done) | skip))
      all_goals
        repeat refine Mm.mk ?_
        refine EndVC.mk _ rfl _ _ ⟨rfl, rfl⟩ ?_
        refine ⟨[], rfl, rfl, ?_, ?_⟩ <;> repeat' (first | exact trivial | exact rfl | exact Iff.rfl | apply And.intro)
        exact fun hn => hc (hn.2.2 i hi')
  · have h0 : s.size = 0 ↔ s = ⟨#[]⟩ := ⟨fun h => ByteArray.ext (Array.eq_empty_of_size_eq_zero h), fun h => by rw [h]; rfl⟩
    repeat' ((conv => whnf); first | refine Rng.g ?_ | refine Ob.g ?_ | refine Ob.e ?_ | refine Ob.m ?_ | refine Ob.mk (Nat.le_of_ble_eq_true rfl) ?_ | refine JoinVC.on ?_ | refine Nils.mk (fun h => ?_) ?_ | refine Val.t ?_ | refine Val.d ?_ | refine Mm.mk ?_ | (refine Br.mk (fun h => ?_) (fun h => ?_) <;> first | (exfalso; omega; done) | (exfalso; simp at h; done) | skip))
    · have h1 : ¬ s.size = 0 := fun e => h (h0.1 e)
      repeat refine Mm.mk ?_
      refine EndVC.mk _ rfl _ _ ⟨rfl, rfl⟩ ?_
      refine ⟨[], rfl, rfl, ?_, ?_⟩ <;> repeat' (first | exact trivial | exact rfl | exact Iff.rfl | apply And.intro)
      exact ⟨fun h2 => ⟨by omega, by omega, fun j hj' => hj j (by omega)⟩, fun hn => (by have := hn.2.1; omega)⟩
    · have h1 : s.size = 0 := h0.2 (Classical.not_not.1 h)
      repeat refine Mm.mk ?_
      refine EndVC.mk _ rfl _ _ ⟨rfl, rfl⟩ ?_
      refine ⟨[], rfl, rfl, ?_, ?_⟩ <;> repeat' (first | exact trivial | exact rfl | exact Iff.rfl | apply And.intro)
      exact fun hn => (by have := hn.1; omega)
/-! ### Which formats and tracks are valid -/
theorem s227 (f : Fmt) (hI : f.nm.size ≤ 140737488355328) : HSpec Tryz.prog 227 [f.x] [] (fun r m' => ∃ e, r = .x (I e) ∧ m' = [] ∧ (e = 0 ↔ FmtOK f)) := by
  have k0 := s295 f.lead 0 4194304
  have k1 := s295 f.gap 0 4194304
  have k2 := s295 f.tail 0 4194304
  refine spec_of pMix (O := []) Tryz.func227 (c := bodyOf Tryz.f227) rfl (by kernel_rfl) (by kernel_rfl) Tryz.ntmps227 (res := [.tmp 2]) (by kernel_rfl) ?_
  repeat' ((conv => whnf); first | refine Rng.g ?_ | refine Ob.g ?_ | refine Ob.e ?_ | refine Ob.m ?_ | refine Ob.mk (Nat.le_of_ble_eq_true rfl) ?_ | refine JoinVC.on ?_ | refine Nils.mk (fun h => ?_) ?_ | refine Val.t ?_ | refine Val.d ?_ | refine Mm.mk ?_ | refine CallVC.pure rfl (s294 f.nm hI) ?_ | refine CallVC.pure rfl (s295 f.outer 1 4194304) ?_ | refine CallVC.pure rfl (s295 f.inner 0 (f.outer - 1)) ?_ | refine CallVC.pure rfl (s295 f.per 1 65536) ?_ | refine CallVC.pure rfl (s295 f.cost 0 1048576) ?_ | refine CallVC0.pure rfl (s294 f.nm hI) ?_ | refine CallVC0.pure rfl (s295 f.outer 1 4194304) ?_ | refine CallVC0.pure rfl (s295 f.inner 0 (f.outer - 1)) ?_ | refine CallVC0.pure rfl (s295 f.per 1 65536) ?_ | refine CallVC0.pure rfl (s295 f.cost 0 1048576) ?_ | (refine Br.mk (fun h => ?_) (fun h => ?_) <;> first | (exfalso; omega; done) | (exfalso; simp at h; done) | skip))
  all_goals
    refine LoopVC.un 4 ?_
    repeat' ((conv => whnf); first | refine Rng.g ?_ | refine Ob.g ?_ | refine Ob.e ?_ | refine Ob.m ?_ | refine Ob.mk (Nat.le_of_ble_eq_true rfl) ?_ | refine JoinVC.on ?_ | refine Nils.mk (fun h => ?_) ?_ | refine Val.t ?_ | refine Val.d ?_ | refine Mm.mk ?_ | refine CallVC.pure rfl (k0) ?_ | refine CallVC.pure rfl (k1) ?_ | refine CallVC.pure rfl (k2) ?_ | refine CallVC0.pure rfl (k0) ?_ | refine CallVC0.pure rfl (k1) ?_ | refine CallVC0.pure rfl (k2) ?_ | (refine Br.mk (fun h => ?_) (fun h => ?_) <;> first | (exfalso; omega; done) | (exfalso; simp at h; done) | skip))
  rotate_right
  · repeat refine Mm.mk ?_
    conv => whnf
    refine EndVC.mk _ rfl _ _ (⟨0, rfl, rfl, ⟨fun _ => ⟨Classical.not_not.1 (by assumption), by omega, by omega, by omega, by omega, by omega, by omega, by omega⟩, fun _ => rfl⟩⟩) ?_
    refine ⟨[], rfl, rfl, ?_, ?_⟩ <;> repeat' (first | exact trivial | exact rfl | exact Iff.rfl | apply And.intro)
  all_goals
    repeat refine Mm.mk ?_
    conv => whnf
    refine EndVC.mk _ rfl _ _ (⟨2, rfl, rfl, ⟨fun h => (by cases h), fun hC => (by obtain ⟨h0, h1, h2, h3, h4, h5, h6, h7⟩ := hC; first | contradiction | omega)⟩⟩) ?_
    refine ⟨[], rfl, rfl, ?_, ?_⟩ <;> repeat' (first | exact trivial | exact rfl | exact Iff.rfl | apply And.intro)
end Go.Sx

namespace Go.Sx
open Go Go.Proofs
set_option maxRecDepth 10000
set_option maxHeartbeats 4000000
theorem s228 (l : List Sng) : HSpec Tryz.prog 228 [lSng l] [] (fun r m' => ∃ e, r = .x (I e) ∧ m' = [] ∧ (e = 0 ↔ SngsOK l)) := by
  have lp := sngA_len l
  by_cases h24 : 24 < l.length
  · refine spec_of pMix (O := []) Tryz.func228 (c := bodyOf Tryz.f228) rfl (by kernel_rfl) (by kernel_rfl) Tryz.ntmps228 (res := [.tmp 2]) (by kernel_rfl) ?_
    repeat' ((conv => whnf); first | refine Rng.g ?_ | refine Ob.g ?_ | refine Ob.e ?_ | refine Ob.m ?_ | refine Ob.mk (Nat.le_of_ble_eq_true rfl) ?_ | refine JoinVC.on ?_ | refine Nils.mk (fun h => ?_) ?_ | refine Val.t ?_ | refine Val.d ?_ | refine Mm.mk ?_ | (refine Br.mk (fun h => ?_) (fun h => ?_) <;> first | (exfalso; omega; done) | (exfalso; simp at h; done) | skip))
    repeat refine Mm.mk ?_
    conv => whnf
    refine EndVC.mk _ rfl _ _ (⟨6, rfl, rfl, ⟨fun h => (by cases h), fun h => (by have := h.len; omega)⟩⟩) ?_
    refine ⟨[], rfl, rfl, ?_, ?_⟩ <;> repeat' (first | exact trivial | exact rfl | exact Iff.rfl | apply And.intro)
  refine spec_of pMix (O := []) Tryz.func228 (c := bodyOf Tryz.f228) rfl (by kernel_rfl) (by kernel_rfl) Tryz.ntmps228 (res := [.tmp 2]) (by kernel_rfl) ?_
  repeat' ((conv => whnf); first | refine Rng.g ?_ | refine Ob.g ?_ | refine Ob.e ?_ | refine Ob.m ?_ | refine Ob.mk (Nat.le_of_ble_eq_true rfl) ?_ | refine JoinVC.on ?_ | refine Nils.mk (fun h => ?_) ?_ | refine Val.t ?_ | refine Val.d ?_ | refine Mm.mk ?_ | (refine Br.mk (fun h => ?_) (fun h => ?_) <;> first | (exfalso; omega; done) | (exfalso; simp at h; done) | skip))
  refine LoopVC.mk (fun n st => ∃ (i : Nat), i ≤ l.length ∧ n = l.length - i ∧ (∀ j, j < i → (l.getD j g0).ok) ∧ st = ⟨0, envA 28 [(8, .x (lSng l)), (9, .int .i64 (l.length : Int)), (10, .int .i64 (i : Int))], []⟩) _ _ ⟨0, Nat.zero_le _, rfl, fun j hj => absurd hj (Nat.not_lt_zero j), rfl⟩ ?_ ?_
  · refine ⟨[], rfl, rfl, ?_, ?_⟩ <;> repeat' (first | exact trivial | exact rfl | exact Iff.rfl | apply And.intro)
    all_goals exact congrArg Int.ofNat lp
  rintro n _ ⟨i, hi, hn, hj, rfl⟩
  have c0 : rI (sngA l) (i : Int).toNat 0 = (l.getD i g0).long := by rw [Int.toNat_natCast, sngA_0]
  have c1 : rI (sngA l) (i : Int).toNat (0 + 1) = (l.getD i g0).pitch := by rw [Int.toNat_natCast, sngA_1]
  have c2 : rI (sngA l) (i : Int).toNat (0 + 1 + 1) = (l.getD i g0).least := by rw [Int.toNat_natCast, sngA_2]
  have k0 := s295 (l.getD i g0).long 1 16777216
  have k1 := s295 (l.getD i g0).pitch 1 4096
  have k2 := s295 (l.getD i g0).least 0 4194304
  by_cases hi' : i < l.length
  · by_cases hg : (l.getD i g0).ok
    · have hg' := hg
      unfold Sng.ok at hg'
      repeat' ((conv => whnf); first | rw [c0] | rw [c1] | rw [c2] | refine Rng.g ?_ | refine Ob.g ?_ | refine Ob.e ?_ | refine Ob.m ?_ | refine Ob.mk (Nat.le_of_ble_eq_true rfl) ?_ | refine JoinVC.on ?_ | refine Nils.mk (fun h => ?_) ?_ | refine Val.t ?_ | refine Val.d ?_ | refine Mm.mk ?_ | refine CallVC.pure rfl (k0) ?_ | refine CallVC.pure rfl (k1) ?_ | refine CallVC.pure rfl (k2) ?_ | refine CallVC0.pure rfl (k0) ?_ | refine CallVC0.pure rfl (k1) ?_ | refine CallVC0.pure rfl (k2) ?_ | (refine Br.mk (fun h => ?_) (fun h => ?_) <;> first | (exfalso; omega; done) | (exfalso; simp at h; done) | skip))
      refine Back.mk (l.length - (i + 1)) _ (by omega) ⟨i + 1, by omega, rfl, fun j hj' => ?_, rfl⟩ ?_
      · rcases Nat.lt_succ_iff_lt_or_eq.1 hj' with h' | rfl
        · exact hj j h'
        · exact hg
      · refine ⟨[], rfl, rfl, ?_, ?_⟩ <;> repeat' (first | exact trivial | exact rfl | exact Iff.rfl | apply And.intro)
    · have hg' := hg
      unfold Sng.ok at hg'
      repeat' ((conv => whnf); first | rw [c0] | rw [c1] | rw [c2] | refine Rng.g ?_ | refine Ob.g ?_ | refine Ob.e ?_ | refine Ob.m ?_ | refine Ob.mk (Nat.le_of_ble_eq_true rfl) ?_ | refine JoinVC.on ?_ | refine Nils.mk (fun h => ?_) ?_ | refine Val.t ?_ | refine Val.d ?_ | refine Mm.mk ?_ | refine CallVC.pure rfl (k0) ?_ | refine CallVC.pure rfl (k1) ?_ | refine CallVC.pure rfl (k2) ?_ | refine CallVC0.pure rfl (k0) ?_ | refine CallVC0.pure rfl (k1) ?_ | refine CallVC0.pure rfl (k2) ?_ | (refine Br.mk (fun h => ?_) (fun h => ?_) <;> first | (exfalso; omega; done) | (exfalso; simp at h; done) | skip))
      all_goals
        repeat refine Mm.mk ?_
        conv => whnf
        refine EndVC.mk _ rfl _ _ (⟨2, rfl, rfl, ⟨fun h => (by cases h), fun h => absurd (h.each i hi') hg⟩⟩) ?_
        refine ⟨[], rfl, rfl, ?_, ?_⟩ <;> repeat' (first | exact trivial | exact rfl | exact Iff.rfl | apply And.intro)
  · repeat' ((conv => whnf); first | refine Rng.g ?_ | refine Ob.g ?_ | refine Ob.e ?_ | refine Ob.m ?_ | refine Ob.mk (Nat.le_of_ble_eq_true rfl) ?_ | refine JoinVC.on ?_ | refine Nils.mk (fun h => ?_) ?_ | refine Val.t ?_ | refine Val.d ?_ | refine Mm.mk ?_ | (refine Br.mk (fun h => ?_) (fun h => ?_) <;> first | (exfalso; omega; done) | (exfalso; simp at h; done) | skip))
    repeat refine Mm.mk ?_
    conv => whnf
    refine EndVC.mk _ rfl _ _ (⟨0, rfl, rfl, ⟨fun _ => ⟨by omega, fun j hj' => hj j (by omega)⟩, fun _ => rfl⟩⟩) ?_
    refine ⟨[], rfl, rfl, ?_, ?_⟩ <;> repeat' (first | exact trivial | exact rfl | exact Iff.rfl | apply And.intro)
@[reducible] def bPl (f : Fmt) (l : List Sng) : Blk := .box 351 [.str f.nm, .int .i64 f.outer, .int .i64 f.inner, .int .i64 f.per, .int .i64 f.lead, .int .i64 f.gap, .int .i64 f.tail, .int .i64 f.cost, .lst true KSng (sngA l)]
theorem s138 (f : Fmt) (l : List Sng) (hI : f.nm.size ≤ 140737488355328) : HSpec Tryz.prog 138 [f.x, lSng l] [] (fun r m' => (∃ e, ¬ (FmtOK f ∧ SngsOK l) ∧ e ≠ 0 ∧ r = .tup [.one .nilp, I e] ∧ m' = []) ∨ (FmtOK f ∧ SngsOK l ∧ r = .tup [.one (.ptr 0 0), I 0] ∧ m' = [some (bPl f l)])) := by
  have v1 := s227 f hI
  have v2 := s228 l
  by_cases hC : ¬ FmtOK f
  · refine spec_of pMix (O := []) Tryz.func138 (c := bodyOf Tryz.f138) rfl (by kernel_rfl) (by kernel_rfl) Tryz.ntmps138 (res := [.tmp 4, .tmp 5]) (by kernel_rfl) ?_
    repeat' ((conv => whnf); first | refine Rng.g ?_ | refine Ob.g ?_ | refine Ob.e ?_ | refine Ob.m ?_ | refine Ob.mk (Nat.le_of_ble_eq_true rfl) ?_ | refine JoinVC.on ?_ | refine Nils.mk (fun h => ?_) ?_ | refine Val.t ?_ | refine Val.d ?_ | refine Mm.mk ?_ | (refine Br.mk (fun h => ?_) (fun h => ?_) <;> first | (exfalso; omega; done) | (exfalso; simp at h; done) | skip))
    conv => whnf
    refine CallVC.mk [] _ _ _ rfl rfl rfl (v1) (fun r m' h' => ?_)
    obtain ⟨e, rfl, rfl, he⟩ := h'
    conv => whnf
    have he0 : e ≠ 0 := fun h0 => hC (he.1 h0)
    repeat' ((conv => whnf); first | refine Rng.g ?_ | refine Ob.g ?_ | refine Ob.e ?_ | refine Ob.m ?_ | refine Ob.mk (Nat.le_of_ble_eq_true rfl) ?_ | refine JoinVC.on ?_ | refine Nils.mk (fun h => ?_) ?_ | refine Val.t ?_ | refine Val.d ?_ | refine Mm.mk ?_ | (refine Br.mk (fun h => ?_) (fun h => ?_) <;> first | (exfalso; omega; done) | (exfalso; simp at h; done) | skip))
    repeat refine Mm.mk ?_
    conv => whnf
    refine EndVC.mk _ rfl _ _ (.inl ⟨e, fun h => hC h.1, he0, rfl, rfl⟩) ?_
    refine ⟨[], rfl, rfl, ?_, ?_⟩ <;> repeat' (first | exact trivial | exact rfl | exact Iff.rfl | apply And.intro)
  replace hC := Classical.not_not.1 hC
  by_cases hP : ¬ SngsOK l
  · refine spec_of pMix (O := []) Tryz.func138 (c := bodyOf Tryz.f138) rfl (by kernel_rfl) (by kernel_rfl) Tryz.ntmps138 (res := [.tmp 4, .tmp 5]) (by kernel_rfl) ?_
    repeat' ((conv => whnf); first | refine Rng.g ?_ | refine Ob.g ?_ | refine Ob.e ?_ | refine Ob.m ?_ | refine Ob.mk (Nat.le_of_ble_eq_true rfl) ?_ | refine JoinVC.on ?_ | refine Nils.mk (fun h => ?_) ?_ | refine Val.t ?_ | refine Val.d ?_ | refine Mm.mk ?_ | (refine Br.mk (fun h => ?_) (fun h => ?_) <;> first | (exfalso; omega; done) | (exfalso; simp at h; done) | skip))
    conv => whnf
    refine CallVC.mk [] _ _ _ rfl rfl rfl (v1) (fun r m' h' => ?_)
    obtain ⟨e, rfl, rfl, he⟩ := h'
    conv => whnf
    cases he.2 hC
    repeat' ((conv => whnf); first | refine Rng.g ?_ | refine Ob.g ?_ | refine Ob.e ?_ | refine Ob.m ?_ | refine Ob.mk (Nat.le_of_ble_eq_true rfl) ?_ | refine JoinVC.on ?_ | refine Nils.mk (fun h => ?_) ?_ | refine Val.t ?_ | refine Val.d ?_ | refine Mm.mk ?_ | (refine Br.mk (fun h => ?_) (fun h => ?_) <;> first | (exfalso; omega; done) | (exfalso; simp at h; done) | skip))
    conv => whnf
    refine CallVC.mk [] _ _ _ rfl rfl rfl (v2) (fun r m' h' => ?_)
    obtain ⟨e, rfl, rfl, he'⟩ := h'
    conv => whnf
    have he0 : e ≠ 0 := fun h0 => hP (he'.1 h0)
    repeat' ((conv => whnf); first | refine Rng.g ?_ | refine Ob.g ?_ | refine Ob.e ?_ | refine Ob.m ?_ | refine Ob.mk (Nat.le_of_ble_eq_true rfl) ?_ | refine JoinVC.on ?_ | refine Nils.mk (fun h => ?_) ?_ | refine Val.t ?_ | refine Val.d ?_ | refine Mm.mk ?_ | (refine Br.mk (fun h => ?_) (fun h => ?_) <;> first | (exfalso; omega; done) | (exfalso; simp at h; done) | skip))
    repeat refine Mm.mk ?_
    conv => whnf
    refine EndVC.mk _ rfl _ _ (.inl ⟨e, fun h => hP h.2, he0, rfl, rfl⟩) ?_
    refine ⟨[], rfl, rfl, ?_, ?_⟩ <;> repeat' (first | exact trivial | exact rfl | exact Iff.rfl | apply And.intro)
  replace hP := Classical.not_not.1 hP
  refine spec_of pMix (O := []) Tryz.func138 (c := bodyOf Tryz.f138) rfl (by kernel_rfl) (by kernel_rfl) Tryz.ntmps138 (res := [.tmp 4, .tmp 5]) (by kernel_rfl) ?_
  repeat' ((conv => whnf); first | refine Rng.g ?_ | refine Ob.g ?_ | refine Ob.e ?_ | refine Ob.m ?_ | refine Ob.mk (Nat.le_of_ble_eq_true rfl) ?_ | refine JoinVC.on ?_ | refine Nils.mk (fun h => ?_) ?_ | refine Val.t ?_ | refine Val.d ?_ | refine Mm.mk ?_ | (refine Br.mk (fun h => ?_) (fun h => ?_) <;> first | (exfalso; omega; done) | (exfalso; simp at h; done) | skip))
  conv => whnf
  refine CallVC.mk [] _ _ _ rfl rfl rfl (v1) (fun r m' h' => ?_)
  obtain ⟨e, rfl, rfl, he⟩ := h'
  conv => whnf
  cases he.2 hC
  repeat' ((conv => whnf); first | refine Rng.g ?_ | refine Ob.g ?_ | refine Ob.e ?_ | refine Ob.m ?_ | refine Ob.mk (Nat.le_of_ble_eq_true rfl) ?_ | refine JoinVC.on ?_ | refine Nils.mk (fun h => ?_) ?_ | refine Val.t ?_ | refine Val.d ?_ | refine Mm.mk ?_ | (refine Br.mk (fun h => ?_) (fun h => ?_) <;> first | (exfalso; omega; done) | (exfalso; simp at h; done) | skip))
  conv => whnf
  refine CallVC.mk [] _ _ _ rfl rfl rfl (v2) (fun r m' h' => ?_)
  obtain ⟨e, rfl, rfl, he'⟩ := h'
  conv => whnf
  cases he'.2 hP
  repeat' ((conv => whnf); first | refine Rng.g ?_ | refine Ob.g ?_ | refine Ob.e ?_ | refine Ob.m ?_ | refine Ob.mk (Nat.le_of_ble_eq_true rfl) ?_ | refine JoinVC.on ?_ | refine Nils.mk (fun h => ?_) ?_ | refine Val.t ?_ | refine Val.d ?_ | refine Mm.mk ?_ | (refine Br.mk (fun h => ?_) (fun h => ?_) <;> first | (exfalso; omega; done) | (exfalso; simp at h; done) | skip))
  repeat refine Mm.mk ?_
  conv => whnf
  refine EndVC.mk _ rfl _ _ (.inr ⟨hC, hP, rfl, rfl⟩) ?_
  refine ⟨[some 1], rfl, rfl, ?_, ?_⟩ <;> repeat' (first | exact trivial | exact rfl | exact Iff.rfl | apply And.intro)
@[reducible] def pvT : Option (List Sng) → SV
  | some l => .lst true KSng (sngA l)
  | none => .any
@[reducible] def bPv (f : Fmt) (v : Option (List Sng)) : Blk := .box 351 [.str f.nm, .int .i64 f.outer, .int .i64 f.inner, .int .i64 f.per, .int .i64 f.lead, .int .i64 f.gap, .int .i64 f.tail, .int .i64 f.cost, pvT v]
theorem s139 (f : Fmt) (v : Option (List Sng)) (g : Sng) (hf : FmtOK f) (hg : g.ok) : HSpec Tryz.prog 139 [.one (.ptr 0 0), g.x] [bPv f v] (fun r m' => r = .x (I (widF f g)) ∧ m' = [some (bPv f v)]) := by
  obtain ⟨w1, w2⟩ := wid_bd hf.per.1 hg
  have hp := hf.per
  have hg1 := hg.1
  have hg2 := hg.2.1
  unfold widF at w2
  cases v
  all_goals
    refine spec_of pMix (O := []) Tryz.func139 (c := bodyOf Tryz.f139) rfl (by kernel_rfl) (by kernel_rfl) Tryz.ntmps139 (res := [.tmp 4]) (by kernel_rfl) ?_
    repeat' ((conv => whnf); first | refine Rng.g ?_ | refine Ob.g ?_ | refine Ob.e ?_ | refine Ob.m ?_ | refine Ob.mk (Nat.le_of_ble_eq_true rfl) ?_ | refine JoinVC.on ?_ | refine Nils.mk (fun h => ?_) ?_ | refine Val.t ?_ | refine Val.d ?_ | refine Mm.mk ?_ | (refine Br.mk (fun h => ?_) (fun h => ?_) <;> first | (exfalso; omega; done) | (exfalso; simp at h; done) | skip))
    repeat refine Mm.mk ?_
    refine EndVC.mk _ rfl _ _ ⟨rfl, rfl⟩ ?_
    refine ⟨[some 0], rfl, rfl, ?_, ?_⟩ <;> repeat' (first | exact trivial | exact rfl | exact Iff.rfl | apply And.intro)
inductive WdRs (f : Fmt) (g : Sng) (r : AV) (m' : List (Option Blk)) : Prop
  | bad (e : Int) (h : ¬ (FmtOK f ∧ g.ok)) (he : e ≠ 0) (hr : r = .tup [I 0, I e]) (hm : m' = [])
  | ok (hf : FmtOK f) (hg : g.ok) (hr : r = .tup [I (widF f g), I 0]) (hm : m' = [])
theorem sngs1 (g : Sng) : SngsOK [g] ↔ g.ok := ⟨fun h => h.each 0 (by simp), fun h => ⟨by simp, fun j hj => (by rw [show j = 0 by simp at hj; omega]; exact h)⟩⟩
theorem s54 (f : Fmt) (g : Sng) (hI : f.nm.size ≤ 140737488355328) : HSpec Tryz.prog 54 [f.x, g.x] [] (WdRs f g) := by
  refine spec_of pMix (O := []) Tryz.func54 (c := bodyOf Tryz.f54) rfl (by kernel_rfl) (by kernel_rfl) Tryz.ntmps54 (res := [.tmp 4, .tmp 5]) (by kernel_rfl) ?_
  repeat' ((conv => whnf); first | refine Rng.g ?_ | refine Ob.g ?_ | refine Ob.e ?_ | refine Ob.m ?_ | refine Ob.mk (Nat.le_of_ble_eq_true rfl) ?_ | refine JoinVC.on ?_ | refine Nils.mk (fun h => ?_) ?_ | refine Val.t ?_ | refine Val.d ?_ | refine Mm.mk ?_ | (refine Br.mk (fun h => ?_) (fun h => ?_) <;> first | (exfalso; omega; done) | (exfalso; simp at h; done) | skip))
  conv => whnf
  refine CallVC.mk [] _ _ _ rfl rfl rfl (s138 f [g] hI) (fun r m' h' => ?_)
  rcases h' with ⟨e, hn, he, rfl, rfl⟩ | ⟨hf, hg, rfl, rfl⟩
  · repeat' ((conv => whnf); first | refine Rng.g ?_ | refine Ob.g ?_ | refine Ob.e ?_ | refine Ob.m ?_ | refine Ob.mk (Nat.le_of_ble_eq_true rfl) ?_ | refine JoinVC.on ?_ | refine Nils.mk (fun h => ?_) ?_ | refine Val.t ?_ | refine Val.d ?_ | refine Mm.mk ?_ | (refine Br.mk (fun h => ?_) (fun h => ?_) <;> first | (exfalso; omega; done) | (exfalso; simp at h; done) | skip))
    repeat refine Mm.mk ?_
    conv => whnf
    refine EndVC.mk _ rfl _ _ (.bad e (fun hh => hn ⟨hh.1, (sngs1 g).2 hh.2⟩) he rfl rfl) ?_
    refine ⟨[], rfl, rfl, ?_, ?_⟩ <;> repeat' (first | exact trivial | exact rfl | exact Iff.rfl | apply And.intro)
  · have hg' := (sngs1 g).1 hg
    repeat' ((conv => whnf); first | refine Rng.g ?_ | refine Ob.g ?_ | refine Ob.e ?_ | refine Ob.m ?_ | refine Ob.mk (Nat.le_of_ble_eq_true rfl) ?_ | refine JoinVC.on ?_ | refine Nils.mk (fun h => ?_) ?_ | refine Val.t ?_ | refine Val.d ?_ | refine Mm.mk ?_ | (refine Br.mk (fun h => ?_) (fun h => ?_) <;> first | (exfalso; omega; done) | (exfalso; simp at h; done) | skip))
    conv => whnf
    refine CallVC.mk [3] _ _ _ rfl rfl rfl (s139 f none g hf hg') (fun r m' h' => ?_)
    obtain ⟨rfl, rfl⟩ := h'
    conv => whnf
    repeat' ((conv => whnf); first | refine Rng.g ?_ | refine Ob.g ?_ | refine Ob.e ?_ | refine Ob.m ?_ | refine Ob.mk (Nat.le_of_ble_eq_true rfl) ?_ | refine JoinVC.on ?_ | refine Nils.mk (fun h => ?_) ?_ | refine Val.t ?_ | refine Val.d ?_ | refine Mm.mk ?_ | (refine Br.mk (fun h => ?_) (fun h => ?_) <;> first | (exfalso; omega; done) | (exfalso; simp at h; done) | skip))
    repeat refine Mm.mk ?_
    conv => whnf
    refine EndVC.mk _ rfl _ _ (.ok hf hg' rfl rfl) ?_
    refine ⟨[], rfl, rfl, ?_, ?_⟩ <;> repeat' (first | exact trivial | exact rfl | exact Iff.rfl | apply And.intro)
end Go.Sx

namespace Go.Sx
open Go Go.Proofs
set_option maxRecDepth 10000
set_option maxHeartbeats 8000000
/-! ### The usual order -/
theorem s352 (x : Int) : PSpec Tryz.prog 352 [I x] (xP (x ≠ x)) := by
  refine spec_of pMix (O := []) Tryz.func352 (c := bodyOf Tryz.f352) rfl (by kernel_rfl) (by kernel_rfl) Tryz.ntmps352 (res := [.tmp 2]) (by kernel_rfl) ?_
  repeat' ((conv => whnf); first | refine Rng.g ?_ | refine Ob.g ?_ | refine Ob.e ?_ | refine Ob.m ?_ | refine Ob.mk (Nat.le_of_ble_eq_true rfl) ?_ | refine JoinVC.on ?_ | refine Nils.mk (fun h => ?_) ?_ | refine Val.t ?_ | refine Val.d ?_ | refine Mm.mk ?_ | (refine Br.mk (fun h => ?_) (fun h => ?_) <;> first | (exfalso; omega; done) | (exfalso; simp at h; done) | skip))
  repeat refine Mm.mk ?_
  refine EndVC.mk _ rfl _ _ ⟨rfl, rfl⟩ ?_
  refine ⟨[], rfl, rfl, ?_, ?_⟩ <;> repeat' (first | exact trivial | exact rfl | exact Iff.rfl | apply And.intro)
theorem s353 (x : Int) : PSpec Tryz.prog 353 [I x] (xP (x ≠ x)) := by
  refine spec_of pMix (O := []) Tryz.func353 (c := bodyOf Tryz.f353) rfl (by kernel_rfl) (by kernel_rfl) Tryz.ntmps353 (res := [.tmp 2]) (by kernel_rfl) ?_
  repeat' ((conv => whnf); first | refine Rng.g ?_ | refine Ob.g ?_ | refine Ob.e ?_ | refine Ob.m ?_ | refine Ob.mk (Nat.le_of_ble_eq_true rfl) ?_ | refine JoinVC.on ?_ | refine Nils.mk (fun h => ?_) ?_ | refine Val.t ?_ | refine Val.d ?_ | refine Mm.mk ?_ | (refine Br.mk (fun h => ?_) (fun h => ?_) <;> first | (exfalso; omega; done) | (exfalso; simp at h; done) | skip))
  repeat refine Mm.mk ?_
  refine EndVC.mk _ rfl _ _ ⟨rfl, rfl⟩ ?_
  refine ⟨[], rfl, rfl, ?_, ?_⟩ <;> repeat' (first | exact trivial | exact rfl | exact Iff.rfl | apply And.intro)
theorem s331 (x y : Int) : PSpec Tryz.prog 331 [I x, I y] (.x (I (cmpI x y))) := by
  by_cases h1 : x < y
  · have e : cmpI x y = -1 := if_pos h1
    rw [e]
    refine spec_of pMix (O := []) Tryz.func331 (c := bodyOf Tryz.f331) rfl (by kernel_rfl) (by kernel_rfl) Tryz.ntmps331 (res := [.tmp 4]) (by kernel_rfl) ?_
    repeat' ((conv => whnf); first | refine Rng.g ?_ | refine Ob.g ?_ | refine Ob.e ?_ | refine Ob.m ?_ | refine Ob.mk (Nat.le_of_ble_eq_true rfl) ?_ | refine JoinVC.on ?_ | refine Nils.mk (fun h => ?_) ?_ | refine Val.t ?_ | refine Val.d ?_ | refine Mm.mk ?_ | refine CallVC.pure rfl (s352 x) ?_ | refine CallVC.pure rfl (s352 y) ?_ | refine CallVC0.pure rfl (s352 x) ?_ | refine CallVC0.pure rfl (s352 y) ?_ | (refine Br.mk (fun h => ?_) (fun h => ?_) <;> first | (exfalso; omega; done) | (exfalso; simp at h; done) | skip))
    all_goals
      repeat refine Mm.mk ?_
      refine EndVC.mk _ rfl _ _ ⟨rfl, rfl⟩ ?_
      refine ⟨[], rfl, rfl, ?_, ?_⟩ <;> repeat' (first | exact trivial | exact rfl | exact Iff.rfl | apply And.intro)
  · by_cases h2 : y < x
    · have e : cmpI x y = 1 := (if_neg h1).trans (if_pos h2)
      rw [e]
      refine spec_of pMix (O := []) Tryz.func331 (c := bodyOf Tryz.f331) rfl (by kernel_rfl) (by kernel_rfl) Tryz.ntmps331 (res := [.tmp 4]) (by kernel_rfl) ?_
      repeat' ((conv => whnf); first | refine Rng.g ?_ | refine Ob.g ?_ | refine Ob.e ?_ | refine Ob.m ?_ | refine Ob.mk (Nat.le_of_ble_eq_true rfl) ?_ | refine JoinVC.on ?_ | refine Nils.mk (fun h => ?_) ?_ | refine Val.t ?_ | refine Val.d ?_ | refine Mm.mk ?_ | refine CallVC.pure rfl (s352 x) ?_ | refine CallVC.pure rfl (s352 y) ?_ | refine CallVC0.pure rfl (s352 x) ?_ | refine CallVC0.pure rfl (s352 y) ?_ | (refine Br.mk (fun h => ?_) (fun h => ?_) <;> first | (exfalso; omega; done) | (exfalso; simp at h; done) | skip))
      all_goals
        repeat refine Mm.mk ?_
        refine EndVC.mk _ rfl _ _ ⟨rfl, rfl⟩ ?_
        refine ⟨[], rfl, rfl, ?_, ?_⟩ <;> repeat' (first | exact trivial | exact rfl | exact Iff.rfl | apply And.intro)
    · have e : cmpI x y = 0 := (if_neg h1).trans (if_neg h2)
      rw [e]
      refine spec_of pMix (O := []) Tryz.func331 (c := bodyOf Tryz.f331) rfl (by kernel_rfl) (by kernel_rfl) Tryz.ntmps331 (res := [.tmp 4]) (by kernel_rfl) ?_
      repeat' ((conv => whnf); first | refine Rng.g ?_ | refine Ob.g ?_ | refine Ob.e ?_ | refine Ob.m ?_ | refine Ob.mk (Nat.le_of_ble_eq_true rfl) ?_ | refine JoinVC.on ?_ | refine Nils.mk (fun h => ?_) ?_ | refine Val.t ?_ | refine Val.d ?_ | refine Mm.mk ?_ | refine CallVC.pure rfl (s352 x) ?_ | refine CallVC.pure rfl (s352 y) ?_ | refine CallVC0.pure rfl (s352 x) ?_ | refine CallVC0.pure rfl (s352 y) ?_ | (refine Br.mk (fun h => ?_) (fun h => ?_) <;> first | (exfalso; omega; done) | (exfalso; simp at h; done) | skip))
      all_goals
        repeat refine Mm.mk ?_
        refine EndVC.mk _ rfl _ _ ⟨rfl, rfl⟩ ?_
        refine ⟨[], rfl, rfl, ?_, ?_⟩ <;> repeat' (first | exact trivial | exact rfl | exact Iff.rfl | apply And.intro)
theorem s332 (x y : Int) : PSpec Tryz.prog 332 [I x, I y] (.x (I (cmpI x y))) := by
  by_cases h1 : x < y
  · have e : cmpI x y = -1 := if_pos h1
    rw [e]
    refine spec_of pMix (O := []) Tryz.func332 (c := bodyOf Tryz.f332) rfl (by kernel_rfl) (by kernel_rfl) Tryz.ntmps332 (res := [.tmp 4]) (by kernel_rfl) ?_
    repeat' ((conv => whnf); first | refine Rng.g ?_ | refine Ob.g ?_ | refine Ob.e ?_ | refine Ob.m ?_ | refine Ob.mk (Nat.le_of_ble_eq_true rfl) ?_ | refine JoinVC.on ?_ | refine Nils.mk (fun h => ?_) ?_ | refine Val.t ?_ | refine Val.d ?_ | refine Mm.mk ?_ | refine CallVC.pure rfl (s353 x) ?_ | refine CallVC.pure rfl (s353 y) ?_ | refine CallVC0.pure rfl (s353 x) ?_ | refine CallVC0.pure rfl (s353 y) ?_ | (refine Br.mk (fun h => ?_) (fun h => ?_) <;> first | (exfalso; omega; done) | (exfalso; simp at h; done) | skip))
    all_goals
      repeat refine Mm.mk ?_
      refine EndVC.mk _ rfl _ _ ⟨rfl, rfl⟩ ?_
      refine ⟨[], rfl, rfl, ?_, ?_⟩ <;> repeat' (first | exact trivial | exact rfl | exact Iff.rfl | apply And.intro)
  · by_cases h2 : y < x
    · have e : cmpI x y = 1 := (if_neg h1).trans (if_pos h2)
      rw [e]
      refine spec_of pMix (O := []) Tryz.func332 (c := bodyOf Tryz.f332) rfl (by kernel_rfl) (by kernel_rfl) Tryz.ntmps332 (res := [.tmp 4]) (by kernel_rfl) ?_
      repeat' ((conv => whnf); first | refine Rng.g ?_ | refine Ob.g ?_ | refine Ob.e ?_ | refine Ob.m ?_ | refine Ob.mk (Nat.le_of_ble_eq_true rfl) ?_ | refine JoinVC.on ?_ | refine Nils.mk (fun h => ?_) ?_ | refine Val.t ?_ | refine Val.d ?_ | refine Mm.mk ?_ | refine CallVC.pure rfl (s353 x) ?_ | refine CallVC.pure rfl (s353 y) ?_ | refine CallVC0.pure rfl (s353 x) ?_ | refine CallVC0.pure rfl (s353 y) ?_ | (refine Br.mk (fun h => ?_) (fun h => ?_) <;> first | (exfalso; omega; done) | (exfalso; simp at h; done) | skip))
      all_goals
        repeat refine Mm.mk ?_
        refine EndVC.mk _ rfl _ _ ⟨rfl, rfl⟩ ?_
        refine ⟨[], rfl, rfl, ?_, ?_⟩ <;> repeat' (first | exact trivial | exact rfl | exact Iff.rfl | apply And.intro)
    · have e : cmpI x y = 0 := (if_neg h1).trans (if_neg h2)
      rw [e]
      refine spec_of pMix (O := []) Tryz.func332 (c := bodyOf Tryz.f332) rfl (by kernel_rfl) (by kernel_rfl) Tryz.ntmps332 (res := [.tmp 4]) (by kernel_rfl) ?_
      repeat' ((conv => whnf); first | refine Rng.g ?_ | refine Ob.g ?_ | refine Ob.e ?_ | refine Ob.m ?_ | refine Ob.mk (Nat.le_of_ble_eq_true rfl) ?_ | refine JoinVC.on ?_ | refine Nils.mk (fun h => ?_) ?_ | refine Val.t ?_ | refine Val.d ?_ | refine Mm.mk ?_ | refine CallVC.pure rfl (s353 x) ?_ | refine CallVC.pure rfl (s353 y) ?_ | refine CallVC0.pure rfl (s353 x) ?_ | refine CallVC0.pure rfl (s353 y) ?_ | (refine Br.mk (fun h => ?_) (fun h => ?_) <;> first | (exfalso; omega; done) | (exfalso; simp at h; done) | skip))
      all_goals
        repeat refine Mm.mk ?_
        refine EndVC.mk _ rfl _ _ ⟨rfl, rfl⟩ ?_
        refine ⟨[], rfl, rfl, ?_, ?_⟩ <;> repeat' (first | exact trivial | exact rfl | exact Iff.rfl | apply And.intro)
theorem s330 (a b : Int) : PSpec Tryz.prog 330 [.one (.lst true [.int .i64] [[.int a], [.int b]])] (.x (I (if a ≠ 0 then a else b))) := by
  have g0 : rI [[Cell.int a], [Cell.int b]] (Int.toNat 0) 0 = a := rfl
  have g1 : rI [[Cell.int a], [Cell.int b]] (Int.toNat (0 + 1)) 0 = b := rfl
  by_cases h1 : a = 0
  · rw [if_neg (fun h => h h1)]
    refine spec_of pMix (O := []) Tryz.func330 (c := bodyOf Tryz.f330) rfl (by kernel_rfl) (by kernel_rfl) Tryz.ntmps330 (res := [.tmp 2]) (by kernel_rfl) ?_
    repeat' ((conv => whnf); first | refine Rng.g ?_ | refine Ob.g ?_ | refine Ob.e ?_ | refine Ob.m ?_ | refine Ob.mk (Nat.le_of_ble_eq_true rfl) ?_ | refine JoinVC.on ?_ | refine Nils.mk (fun h => ?_) ?_ | refine Val.t ?_ | refine Val.d ?_ | refine Mm.mk ?_ | (refine Br.mk (fun h => ?_) (fun h => ?_) <;> first | (exfalso; omega; done) | (exfalso; simp at h; done) | skip))
    refine LoopVC.un 4 ?_
    repeat' ((conv => whnf); first | rw [g0] | rw [g1] | refine Rng.g ?_ | refine Ob.g ?_ | refine Ob.e ?_ | refine Ob.m ?_ | refine Ob.mk (Nat.le_of_ble_eq_true rfl) ?_ | refine JoinVC.on ?_ | refine Nils.mk (fun h => ?_) ?_ | refine Val.t ?_ | refine Val.d ?_ | refine Mm.mk ?_ | (refine Br.mk (fun h => ?_) (fun h => ?_) <;> first | (exfalso; omega; done) | (exfalso; simp at h; done) | skip))
    all_goals
      repeat refine Mm.mk ?_
      refine EndVC.mk _ rfl _ _ ⟨rfl, rfl⟩ ?_
      refine ⟨[], rfl, rfl, ?_, ?_⟩ <;> repeat' (first | exact trivial | exact rfl | exact Iff.rfl | apply And.intro)
    all_goals omega
  · rw [if_pos h1]
    refine spec_of pMix (O := []) Tryz.func330 (c := bodyOf Tryz.f330) rfl (by kernel_rfl) (by kernel_rfl) Tryz.ntmps330 (res := [.tmp 2]) (by kernel_rfl) ?_
    repeat' ((conv => whnf); first | refine Rng.g ?_ | refine Ob.g ?_ | refine Ob.e ?_ | refine Ob.m ?_ | refine Ob.mk (Nat.le_of_ble_eq_true rfl) ?_ | refine JoinVC.on ?_ | refine Nils.mk (fun h => ?_) ?_ | refine Val.t ?_ | refine Val.d ?_ | refine Mm.mk ?_ | (refine Br.mk (fun h => ?_) (fun h => ?_) <;> first | (exfalso; omega; done) | (exfalso; simp at h; done) | skip))
    refine LoopVC.un 4 ?_
    repeat' ((conv => whnf); first | rw [g0] | rw [g1] | refine Rng.g ?_ | refine Ob.g ?_ | refine Ob.e ?_ | refine Ob.m ?_ | refine Ob.mk (Nat.le_of_ble_eq_true rfl) ?_ | refine JoinVC.on ?_ | refine Nils.mk (fun h => ?_) ?_ | refine Val.t ?_ | refine Val.d ?_ | refine Mm.mk ?_ | (refine Br.mk (fun h => ?_) (fun h => ?_) <;> first | (exfalso; omega; done) | (exfalso; simp at h; done) | skip))
    all_goals
      repeat refine Mm.mk ?_
      refine EndVC.mk _ rfl _ _ ⟨rfl, rfl⟩ ?_
      refine ⟨[], rfl, rfl, ?_, ?_⟩ <;> repeat' (first | exact trivial | exact rfl | exact Iff.rfl | apply And.intro)
theorem s298 (f : Fmt) (l : List Sng) (a b : Int) (ha : 0 ≤ a ∧ a < l.length) (hb : 0 ≤ b ∧ b < l.length) : HSpec Tryz.prog 298 [.one (.ptr 0 0), I a, I b] [bPl f l] (fun r m' => r = .x (I (usF l a b)) ∧ m' = [some (bPl f l)]) := by
  have lp := sngA_len l
  have c1 : rI (sngA l) a.toNat (0 + (0 + 1 + 1)) = (l.getD a.toNat g0).least := sngA_2 l _
  have c2 : rI (sngA l) b.toNat (0 + (0 + 1 + 1)) = (l.getD b.toNat g0).least := sngA_2 l _
  have k1 := s331 (l.getD b.toNat g0).least (l.getD a.toNat g0).least
  have k2 := s332 a b
  have k3 := s330 (cmpI (l.getD b.toNat g0).least (l.getD a.toNat g0).least) (cmpI a b)
  refine spec_of pMix (O := [(1, ([], [⟨0, [], []⟩, ⟨1, [], []⟩, ⟨2, [], []⟩, ⟨3, [], []⟩, ⟨4, [], []⟩, ⟨5, [], []⟩, ⟨6, [], []⟩, ⟨7, [], []⟩, ⟨8, [], []⟩, ⟨9, [], []⟩, ⟨10, [], []⟩, ⟨11, [], []⟩, ⟨12, [], []⟩, ⟨13, [], []⟩, ⟨14, [], []⟩, ⟨15, [], []⟩, ⟨17, [], []⟩, ⟨18, [], []⟩, ⟨16, [17, 18], []⟩, ⟨19, [], [20]⟩, ⟨20, [], []⟩, ⟨21, [], []⟩, ⟨22, [], []⟩]))]) Tryz.func298 (c := bodyOf Tryz.f298) rfl (by kernel_rfl) (by kernel_rfl) Tryz.ntmps298 (res := [.tmp 6]) (by kernel_rfl) ?_
  repeat' ((conv => whnf); first | rw [c1] | rw [c2] | refine Rng.g ?_ | refine Ob.g ?_ | refine Ob.e ?_ | refine Ob.m ?_ | refine Ob.mk (Nat.le_of_ble_eq_true rfl) ?_ | refine JoinVC.on ?_ | refine Nils.mk (fun h => ?_) ?_ | refine Val.t ?_ | refine Val.d ?_ | refine Mm.mk ?_ | refine CallVC.pure rfl (k1) ?_ | refine CallVC.pure rfl (k2) ?_ | refine CallVC.pure rfl (k3) ?_ | refine CallVC0.pure rfl (k1) ?_ | refine CallVC0.pure rfl (k2) ?_ | refine CallVC0.pure rfl (k3) ?_ | (refine Br.mk (fun h => ?_) (fun h => ?_) <;> first | (exfalso; omega; done) | (exfalso; simp at h; done) | skip))
  repeat refine Mm.mk ?_
  refine EndVC.mk _ rfl _ _ ⟨rfl, rfl⟩ ?_
  refine ⟨[some 0], rfl, rfl, ?_, ?_⟩ <;> repeat' (first | exact trivial | exact rfl | exact Iff.rfl | apply And.intro)
@[reducible] def rowOd (O : List Int) : Blk := .row 3 false [.int .i64] (i64s O)
theorem i64s_upd' (xs : List Int) (i : Nat) (v : Int) (h : i < xs.length) : updRow (i64s xs) i 0 [.int v] = i64s (xs.set i v) := by
  unfold updRow i64s
  rw [List.map_set]
  congr 1
  simp [List.getD_eq_getElem?_getD, h, setAll]
/-- All of them are numbers of tracks. -/
def InR (O : List Int) (m : Nat) : Prop := ∀ i, i < O.length → 0 ≤ O.getD i 0 ∧ O.getD i 0 < m
theorem InR.swp {O : List Int} {m : Nat} (h : InR O m) {j : Nat} (hj : j + 1 < O.length) : InR (Go.Sx.swp O j) m := fun i hi => by
  rw [swp_len] at hi
  rw [swp_get O hj]
  exact h _ (sg_lt hj hi)
theorem InR.ins {lt : Int → Int → Bool} {m : Nat} : ∀ (j : Nat) {O : List Int}, InR O m → j < O.length → InR (Go.Sx.ins lt O j) m
  | 0, O, h, _ => h
  | j + 1, O, h, hj => by
    unfold Go.Sx.ins
    split
    · exact InR.ins j (h.swp hj) (by rw [swp_len]; omega)
    · exact h
theorem InR.isr {lt : Int → Int → Bool} {m : Nat} {O : List Int} (h : InR O m) : ∀ k, k < O.length ∨ k = 0 → InR (Go.Sx.isr lt O k) m
  | 0, _ => h
  | k + 1, hk => by
    unfold Go.Sx.isr
    exact InR.ins (k + 1) (h.isr k (by omega)) (by rw [isr_len]; omega)
theorem s342 (f : Fmt) (l : List Sng) (O : List Int) (hO : InR O l.length) (hl : O.length ≤ 1000000) : HSpec Tryz.prog 342 [.one (.own 0), I 0, I (O.length : Int), .one (.bnd 298 false [.ptr 1 0])] [rowOd O, bPl f l] (fun r m' => r = .tup [] ∧ m' = [some (rowOd (isr (usB l) O (O.length - 1))), some (bPl f l)]) := by
  have lo := i64s_len O
  refine spec_of pMix (O := [(6, ([], [⟨0, [], []⟩, ⟨1, [], []⟩, ⟨2, [], []⟩, ⟨3, [], []⟩, ⟨4, [], []⟩, ⟨5, [], []⟩, ⟨6, [], []⟩, ⟨7, [], []⟩, ⟨8, [], []⟩, ⟨9, [], []⟩, ⟨10, [], []⟩, ⟨11, [], []⟩, ⟨12, [], []⟩, ⟨13, [], []⟩, ⟨14, [], []⟩, ⟨15, [2, 3, 4], []⟩, ⟨16, [], []⟩, ⟨17, [], []⟩]))]) Tryz.func342 (c := bodyOf Tryz.f342) rfl (by kernel_rfl) (by kernel_rfl) Tryz.ntmps342 (res := []) (by kernel_rfl) ?_
  repeat' ((conv => whnf); first | refine Rng.g ?_ | refine Ob.g ?_ | refine Ob.e ?_ | refine Ob.m ?_ | refine Ob.mk (Nat.le_of_ble_eq_true rfl) ?_ | refine JoinVC.on ?_ | refine Nils.mk (fun h => ?_) ?_ | refine Val.t ?_ | refine Val.d ?_ | refine Mm.mk ?_ | (refine Br.mk (fun h => ?_) (fun h => ?_) <;> first | (exfalso; omega; done) | (exfalso; simp at h; done) | skip))
  refine LoopVC.mk (fun n st => ∃ (k : Nat), (k < O.length ∨ k = 0) ∧ n = O.length - k ∧ st = ⟨2, envA 53 [(0, .x (.one (.own 0))), (1, .x (I 0)), (2, .x (I (O.length : Int))), (3, .x (.one (.bnd 298 false [.ptr 1 0]))), (8, .int .i64 ((k : Int) + 1))], [some (rowOd (isr (usB l) O k)), some (bPl f l)]⟩) _ _ ⟨0, .inr rfl, rfl, rfl⟩ ?_ ?_
  · refine ⟨[some 0, some 1], rfl, rfl, ?_, ?_⟩ <;> repeat' (first | exact trivial | exact rfl | exact Iff.rfl | apply And.intro)
  rintro n _ ⟨k, hk, hn, rfl⟩
  by_cases hk' : k + 1 < O.length
  · obtain ⟨Z, hZ⟩ : ∃ Z, isr (usB l) O (k + 1) = Z := ⟨_, rfl⟩
    have hZ' : ins (usB l) (isr (usB l) O k) (k + 1) = Z := hZ
    repeat' ((conv => whnf); first | refine Rng.g ?_ | refine Ob.g ?_ | refine Ob.e ?_ | refine Ob.m ?_ | refine Ob.mk (Nat.le_of_ble_eq_true rfl) ?_ | refine JoinVC.on ?_ | refine Nils.mk (fun h => ?_) ?_ | refine Val.t ?_ | refine Val.d ?_ | refine Mm.mk ?_ | (refine Br.mk (fun h => ?_) (fun h => ?_) <;> first | (exfalso; omega; done) | (exfalso; simp at h; done) | skip))
    refine LoopVC.mk (fun n st => ∃ (j : Nat) (V : List Int), j ≤ k + 1 ∧ n = j ∧ V.length = O.length ∧ InR V l.length ∧ ins (usB l) V j = Z ∧ st = ⟨2, envA 53 [(0, .x (.one (.own 0))), (1, .x (I 0)), (2, .x (I (O.length : Int))), (3, .x (.one (.bnd 298 false [.ptr 1 0]))), (8, .int .i64 ((k : Int) + 1)), (9, .int .i64 (j : Int))], [some (rowOd V), some (bPl f l)]⟩) _ _ ⟨k + 1, isr (usB l) O k, Nat.le_refl _, rfl, isr_len _ _ _, hO.isr k hk, hZ', rfl⟩ ?_ ?_
    · refine ⟨[some 0, some 1], rfl, rfl, ?_, ?_⟩ <;> repeat' (first | exact trivial | exact rfl | exact Iff.rfl | apply And.intro)
    rintro n _ ⟨j, V, hj, hn, lV, hV, hi, rfl⟩
    have lv := i64s_len V
    cases j with
    | zero =>
      have e : V = Z := hi
      repeat' ((conv => whnf); first | refine Rng.g ?_ | refine Ob.g ?_ | refine Ob.e ?_ | refine Ob.m ?_ | refine Ob.mk (Nat.le_of_ble_eq_true rfl) ?_ | refine JoinVC.on ?_ | refine Nils.mk (fun h => ?_) ?_ | refine Val.t ?_ | refine Val.d ?_ | refine Mm.mk ?_ | (refine Br.mk (fun h => ?_) (fun h => ?_) <;> first | (exfalso; omega; done) | (exfalso; simp at h; done) | skip))
      refine Back.mk (O.length - (k + 1)) _ (by omega) ⟨k + 1, .inl hk', rfl, rfl⟩ ?_
      rw [hZ, ← e]
      refine ⟨[some 0, some 1], rfl, rfl, ?_, ?_⟩ <;> repeat' (first | exact trivial | exact rfl | exact Iff.rfl | apply And.intro)
    | succ j =>
      have g1 : rI (i64s V) ((j + 1 : Nat) : Int).toNat 0 = V.getD (j + 1) 0 := by rw [Int.toNat_natCast]; exact i64s_get V _
      have g2 : rI (i64s V) (((j + 1 : Nat) : Int) - 1).toNat 0 = V.getD j 0 := by rw [show (((j + 1 : Nat) : Int) - 1).toNat = j by omega]; exact i64s_get V _
      have h1 := hV (j + 1) (by omega)
      have h2 := hV j (by omega)
      have u1 : updRow (i64s V) ((j + 1 : Nat) : Int).toNat 0 [Cell.int (V.getD j 0)] = i64s (V.set (j + 1) (V.getD j 0)) := by rw [Int.toNat_natCast]; exact i64s_upd' _ _ _ (by omega)
      have u2 : updRow (i64s (V.set (j + 1) (V.getD j 0))) (((j + 1 : Nat) : Int) - 1).toNat 0 [Cell.int (V.getD (j + 1) 0)] = i64s (swp V j) := by
        rw [show (((j + 1 : Nat) : Int) - 1).toNat = j by omega]
        exact i64s_upd' _ _ _ (by rw [List.length_set]; omega)
      have lv2 : (i64s (V.set (j + 1) (V.getD j 0))).length = V.length := by rw [i64s_len, List.length_set]
      unfold ins at hi
      repeat' ((conv => whnf); first | rw [g1] | rw [g2] | refine Rng.g ?_ | refine Ob.g ?_ | refine Ob.e ?_ | refine Ob.m ?_ | refine Ob.mk (Nat.le_of_ble_eq_true rfl) ?_ | refine JoinVC.on ?_ | refine Nils.mk (fun h => ?_) ?_ | refine Val.t ?_ | refine Val.d ?_ | refine Mm.mk ?_ | (refine Br.mk (fun h => ?_) (fun h => ?_) <;> first | (exfalso; omega; done) | (exfalso; simp at h; done) | skip))
      conv => whnf
      refine CallVC.mk [1] _ _ _ rfl rfl rfl (s298 f l (V.getD (j + 1) 0) (V.getD j 0) h1 h2) (fun r m' h' => ?_)
      obtain ⟨rfl, rfl⟩ := h'
      conv => whnf
      by_cases hlt : usF l (V.getD (j + 1) 0) (V.getD j 0) < 0
      · rw [if_pos (show usB l (V.getD (j + 1) 0) (V.getD j 0) = true from decide_eq_true hlt)] at hi
        repeat' ((conv => whnf); first | rw [g1] | rw [g2] | rw [u1] | rw [u2] | refine Rng.g ?_ | refine Ob.g ?_ | refine Ob.e ?_ | refine Ob.m ?_ | refine Ob.mk (Nat.le_of_ble_eq_true rfl) ?_ | refine JoinVC.on ?_ | refine Nils.mk (fun h => ?_) ?_ | refine Val.t ?_ | refine Val.d ?_ | refine Mm.mk ?_ | (refine Br.mk (fun h => ?_) (fun h => ?_) <;> first | (exfalso; omega; done) | (exfalso; simp at h; done) | skip))
        refine Back.mk j _ (by omega) ⟨j, swp V j, by omega, rfl, by rw [swp_len]; exact lV, hV.swp (by omega), hi, rfl⟩ ?_
        refine ⟨[some 0, some 1], rfl, rfl, ?_, ?_⟩ <;> repeat' (first | exact trivial | exact rfl | exact Iff.rfl | apply And.intro)
        all_goals omega
      · rw [if_neg (show ¬ usB l (V.getD (j + 1) 0) (V.getD j 0) = true from fun h => hlt (of_decide_eq_true h))] at hi
        repeat' ((conv => whnf); first | rw [g1] | rw [g2] | refine Rng.g ?_ | refine Ob.g ?_ | refine Ob.e ?_ | refine Ob.m ?_ | refine Ob.mk (Nat.le_of_ble_eq_true rfl) ?_ | refine JoinVC.on ?_ | refine Nils.mk (fun h => ?_) ?_ | refine Val.t ?_ | refine Val.d ?_ | refine Mm.mk ?_ | (refine Br.mk (fun h => ?_) (fun h => ?_) <;> first | (exfalso; omega; done) | (exfalso; simp at h; done) | skip))
        refine Back.mk (O.length - (k + 1)) _ (by omega) ⟨k + 1, .inl hk', rfl, rfl⟩ ?_
        rw [hZ, ← hi]
        refine ⟨[some 0, some 1], rfl, rfl, ?_, ?_⟩ <;> repeat' (first | exact trivial | exact rfl | exact Iff.rfl | apply And.intro)
  · have ek : k = O.length - 1 := by omega
    subst ek
    repeat' ((conv => whnf); first | refine Rng.g ?_ | refine Ob.g ?_ | refine Ob.e ?_ | refine Ob.m ?_ | refine Ob.mk (Nat.le_of_ble_eq_true rfl) ?_ | refine JoinVC.on ?_ | refine Nils.mk (fun h => ?_) ?_ | refine Val.t ?_ | refine Val.d ?_ | refine Mm.mk ?_ | (refine Br.mk (fun h => ?_) (fun h => ?_) <;> first | (exfalso; omega; done) | (exfalso; simp at h; done) | skip))
    repeat refine Mm.mk ?_
    refine EndVC.mk _ rfl _ _ ⟨rfl, rfl⟩ ?_
    refine ⟨[some 0, some 1], rfl, rfl, ?_, ?_⟩ <;> repeat' (first | exact trivial | exact rfl | exact Iff.rfl | apply And.intro)
theorem rngU8 (x : UInt8) : inR .i64 (x.toNat : Int) := by
  have := x.toNat_lt
  simp only [inR]
  omega
theorem rngU8' (x : UInt8) : inR .i64 (0 + (x.toNat : Int)) := by
  have := x.toNat_lt
  simp only [inR]
  omega
/-- The number of bits is a number. -/
theorem s351 (n : Int) (hn : 0 ≤ n ∧ n ≤ 12) : HSpec Tryz.prog 351 [.one (.int .u64 n)] [] (fun r m' => ∃ v, r = .x (I v) ∧ m' = []) := by
  have hc : n = 0 ∨ n = 1 ∨ n = 2 ∨ n = 3 ∨ n = 4 ∨ n = 5 ∨ n = 6 ∨ n = 7 ∨ n = 8 ∨ n = 9 ∨ n = 10 ∨ n = 11 ∨ n = 12 := by omega
  rcases hc with rfl | rfl | rfl | rfl | rfl | rfl | rfl | rfl | rfl | rfl | rfl | rfl | rfl
  all_goals
    refine spec_of pMix (O := []) Tryz.func351 (c := bodyOf Tryz.f351) rfl (by kernel_rfl) (by kernel_rfl) Tryz.ntmps351 (res := [.tmp 2]) (by kernel_rfl) ?_
    repeat' ((conv => whnf); first | refine Rng.g ?_ | refine Ob.g ?_ | refine Ob.e ?_ | refine Ob.m ?_ | refine Ob.mk (Nat.le_of_ble_eq_true rfl) ?_ | refine JoinVC.on ?_ | refine Nils.mk (fun h => ?_) ?_ | refine Val.t ?_ | refine Val.d ?_ | refine Mm.mk ?_ | (refine Br.mk (fun h => ?_) (fun h => ?_) <;> first | (exfalso; omega; done) | (exfalso; simp at h; done) | skip))
    refine Rng.ok (rngU8 _) ?_
    repeat' ((conv => whnf); first | refine Rng.g ?_ | refine Ob.g ?_ | refine Ob.e ?_ | refine Ob.m ?_ | refine Ob.mk (Nat.le_of_ble_eq_true rfl) ?_ | refine JoinVC.on ?_ | refine Nils.mk (fun h => ?_) ?_ | refine Val.t ?_ | refine Val.d ?_ | refine Mm.mk ?_ | (refine Br.mk (fun h => ?_) (fun h => ?_) <;> first | (exfalso; omega; done) | (exfalso; simp at h; done) | skip))
    refine Rng.ok (rngU8' _) ?_
    repeat' ((conv => whnf); first | refine Rng.g ?_ | refine Ob.g ?_ | refine Ob.e ?_ | refine Ob.m ?_ | refine Ob.mk (Nat.le_of_ble_eq_true rfl) ?_ | refine JoinVC.on ?_ | refine Nils.mk (fun h => ?_) ?_ | refine Val.t ?_ | refine Val.d ?_ | refine Mm.mk ?_ | (refine Br.mk (fun h => ?_) (fun h => ?_) <;> first | (exfalso; omega; done) | (exfalso; simp at h; done) | skip))
    conv => whnf
    exact EndVC.run _ rfl ⟨_, rfl, rfl⟩
theorem s329 (n : Int) (hn : 0 ≤ n ∧ n ≤ 12) : HSpec Tryz.prog 329 [.one (.int .u64 n)] [] (fun r m' => ∃ v, r = .x (I v) ∧ m' = []) := by
  refine spec_of pMix (O := []) Tryz.func329 (c := bodyOf Tryz.f329) rfl (by kernel_rfl) (by kernel_rfl) Tryz.ntmps329 (res := [.tmp 2]) (by kernel_rfl) ?_
  repeat' ((conv => whnf); first | refine Rng.g ?_ | refine Ob.g ?_ | refine Ob.e ?_ | refine Ob.m ?_ | refine Ob.mk (Nat.le_of_ble_eq_true rfl) ?_ | refine JoinVC.on ?_ | refine Nils.mk (fun h => ?_) ?_ | refine Val.t ?_ | refine Val.d ?_ | refine Mm.mk ?_ | (refine Br.mk (fun h => ?_) (fun h => ?_) <;> first | (exfalso; omega; done) | (exfalso; simp at h; done) | skip))
  conv => whnf
  refine CallVC.mk [] _ _ _ rfl rfl rfl (s351 n hn) (fun r m' h' => ?_)
  obtain ⟨v, rfl, rfl⟩ := h'
  conv => whnf
  repeat' ((conv => whnf); first | refine Rng.g ?_ | refine Ob.g ?_ | refine Ob.e ?_ | refine Ob.m ?_ | refine Ob.mk (Nat.le_of_ble_eq_true rfl) ?_ | refine JoinVC.on ?_ | refine Nils.mk (fun h => ?_) ?_ | refine Val.t ?_ | refine Val.d ?_ | refine Mm.mk ?_ | (refine Br.mk (fun h => ?_) (fun h => ?_) <;> first | (exfalso; omega; done) | (exfalso; simp at h; done) | skip))
  repeat refine Mm.mk ?_
  conv => whnf
  refine EndVC.mk _ rfl _ _ (⟨v, rfl, rfl⟩) ?_
  refine ⟨[], rfl, rfl, ?_, ?_⟩ <;> repeat' (first | exact trivial | exact rfl | exact Iff.rfl | apply And.intro)
theorem s328 (f : Fmt) (l : List Sng) (O : List Int) (v : Int) (hO : InR O l.length) (hl : O.length ≤ 12) : HSpec Tryz.prog 328 [.one (.own 0), I 0, I (O.length : Int), I v, .one (.bnd 298 false [.ptr 1 0])] [rowOd O, bPl f l] (fun r m' => r = .tup [] ∧ m' = [some (rowOd (isr (usB l) O (O.length - 1))), some (bPl f l)]) := by
  have lo := i64s_len O
  refine spec_of pMix (O := []) Tryz.func328 (c := bodyOf Tryz.f328) rfl (by kernel_rfl) (by kernel_rfl) Tryz.ntmps328 (res := []) (by kernel_rfl) ?_
  repeat' ((conv => whnf); first | refine Rng.g ?_ | refine Ob.g ?_ | refine Ob.e ?_ | refine Ob.m ?_ | refine Ob.mk (Nat.le_of_ble_eq_true rfl) ?_ | refine JoinVC.on ?_ | refine Nils.mk (fun h => ?_) ?_ | refine Val.t ?_ | refine Val.d ?_ | refine Mm.mk ?_ | (refine Br.mk (fun h => ?_) (fun h => ?_) <;> first | (exfalso; omega; done) | (exfalso; simp at h; done) | skip))
  refine LoopVC.un 1 ?_
  repeat' ((conv => whnf); first | refine Rng.g ?_ | refine Ob.g ?_ | refine Ob.e ?_ | refine Ob.m ?_ | refine Ob.mk (Nat.le_of_ble_eq_true rfl) ?_ | refine JoinVC.on ?_ | refine Nils.mk (fun h => ?_) ?_ | refine Val.t ?_ | refine Val.d ?_ | refine Mm.mk ?_ | (refine Br.mk (fun h => ?_) (fun h => ?_) <;> first | (exfalso; omega; done) | (exfalso; simp at h; done) | skip))
  conv => whnf
  refine CallVC.mk [0, 1] _ _ _ rfl rfl rfl (s342 f l O hO (by omega)) (fun r m' h' => ?_)
  obtain ⟨rfl, rfl⟩ := h'
  conv => whnf
  repeat' ((conv => whnf); first | refine Rng.g ?_ | refine Ob.g ?_ | refine Ob.e ?_ | refine Ob.m ?_ | refine Ob.mk (Nat.le_of_ble_eq_true rfl) ?_ | refine JoinVC.on ?_ | refine Nils.mk (fun h => ?_) ?_ | refine Val.t ?_ | refine Val.d ?_ | refine Mm.mk ?_ | (refine Br.mk (fun h => ?_) (fun h => ?_) <;> first | (exfalso; omega; done) | (exfalso; simp at h; done) | skip))
  repeat refine Mm.mk ?_
  refine EndVC.mk _ rfl _ _ ⟨rfl, rfl⟩ ?_
  refine ⟨[some 0, some 1], rfl, rfl, ?_, ?_⟩ <;> repeat' (first | exact trivial | exact rfl | exact Iff.rfl | apply And.intro)
theorem s297 (f : Fmt) (l : List Sng) (O : List Int) (hO : InR O l.length) (hl : O.length ≤ 12) : HSpec Tryz.prog 297 [.one (.own 0), .one (.bnd 298 false [.ptr 1 0])] [rowOd O, bPl f l] (fun r m' => r = .tup [] ∧ m' = [some (rowOd (isr (usB l) O (O.length - 1))), some (bPl f l)]) := by
  have lo := i64s_len O
  refine spec_of pMix (O := []) Tryz.func297 (c := bodyOf Tryz.f297) rfl (by kernel_rfl) (by kernel_rfl) Tryz.ntmps297 (res := []) (by kernel_rfl) ?_
  repeat' ((conv => whnf); first | rw [lo] | refine Rng.g ?_ | refine Ob.g ?_ | refine Ob.e ?_ | refine Ob.m ?_ | refine Ob.mk (Nat.le_of_ble_eq_true rfl) ?_ | refine JoinVC.on ?_ | refine Nils.mk (fun h => ?_) ?_ | refine Val.t ?_ | refine Val.d ?_ | refine Mm.mk ?_ | (refine Br.mk (fun h => ?_) (fun h => ?_) <;> first | (exfalso; omega; done) | (exfalso; simp at h; done) | skip))
  conv => whnf
  refine CallVC.mk [] _ _ _ rfl rfl rfl (s329 (O.length : Int) (by omega)) (fun r m' h' => ?_)
  obtain ⟨v, rfl, rfl⟩ := h'
  conv => whnf
  repeat' ((conv => whnf); first | refine Rng.g ?_ | refine Ob.g ?_ | refine Ob.e ?_ | refine Ob.m ?_ | refine Ob.mk (Nat.le_of_ble_eq_true rfl) ?_ | refine JoinVC.on ?_ | refine Nils.mk (fun h => ?_) ?_ | refine Val.t ?_ | refine Val.d ?_ | refine Mm.mk ?_ | (refine Br.mk (fun h => ?_) (fun h => ?_) <;> first | (exfalso; omega; done) | (exfalso; simp at h; done) | skip))
  conv => whnf
  refine CallVC.mk [0, 1] _ _ _ rfl rfl rfl (s328 f l O v hO hl) (fun r m' h' => ?_)
  obtain ⟨rfl, rfl⟩ := h'
  conv => whnf
  repeat' ((conv => whnf); first | refine Rng.g ?_ | refine Ob.g ?_ | refine Ob.e ?_ | refine Ob.m ?_ | refine Ob.mk (Nat.le_of_ble_eq_true rfl) ?_ | refine JoinVC.on ?_ | refine Nils.mk (fun h => ?_) ?_ | refine Val.t ?_ | refine Val.d ?_ | refine Mm.mk ?_ | (refine Br.mk (fun h => ?_) (fun h => ?_) <;> first | (exfalso; omega; done) | (exfalso; simp at h; done) | skip))
  repeat refine Mm.mk ?_
  refine EndVC.mk _ rfl _ _ ⟨rfl, rfl⟩ ?_
  refine ⟨[some 0, some 1], rfl, rfl, ?_, ?_⟩ <;> repeat' (first | exact trivial | exact rfl | exact Iff.rfl | apply And.intro)
theorem s296 (xs : List Int) (hl : xs.length ≤ 1000000) : HSpec Tryz.prog 296 [.one (.lst true [.int .i64] (i64s xs))] [] (fun r m' => r = .x (.one (.own 0)) ∧ m' = [some (rowOd xs)]) := by
  have lo := i64s_len xs
  refine spec_of pMix (O := []) Tryz.func296 (c := bodyOf Tryz.f296) rfl (by kernel_rfl) (by kernel_rfl) Tryz.ntmps296 (res := [.tmp 2]) (by kernel_rfl) ?_
  repeat' ((conv => whnf); first | refine Rng.g ?_ | refine Ob.g ?_ | refine Ob.e ?_ | refine Ob.m ?_ | refine Ob.mk (Nat.le_of_ble_eq_true rfl) ?_ | refine JoinVC.on ?_ | refine Nils.mk (fun h => ?_) ?_ | refine Val.t ?_ | refine Val.d ?_ | refine Mm.mk ?_ | (refine Br.mk (fun h => ?_) (fun h => ?_) <;> first | (exfalso; omega; done) | (exfalso; simp at h; done) | skip))
  · repeat refine Mm.mk ?_
    refine EndVC.mk _ rfl _ _ ⟨rfl, rfl⟩ ?_
    refine ⟨[none], rfl, rfl, ?_, ?_⟩ <;> repeat' (first | exact trivial | exact rfl | exact Iff.rfl | apply And.intro)
    exact h
  · repeat refine Mm.mk ?_
    refine Ob.mk (by simp only [eb3, List.length_nil]; omega) ?_
    repeat' ((conv => whnf); first | refine Rng.g ?_ | refine Ob.g ?_ | refine Ob.e ?_ | refine Ob.m ?_ | refine Ob.mk (Nat.le_of_ble_eq_true rfl) ?_ | refine JoinVC.on ?_ | refine Nils.mk (fun h => ?_) ?_ | refine Val.t ?_ | refine Val.d ?_ | refine Mm.mk ?_ | (refine Br.mk (fun h => ?_) (fun h => ?_) <;> first | (exfalso; omega; done) | (exfalso; simp at h; done) | skip))
    repeat refine Mm.mk ?_
    refine EndVC.mk _ rfl _ _ ⟨rfl, rfl⟩ ?_
    refine ⟨[some 1], rfl, rfl, ?_, ?_⟩ <;> repeat' (first | exact trivial | exact rfl | exact Iff.rfl | apply And.intro)
theorem spanL_nn (n : Nat) : InR (spanL 0 n) n := fun i hi => (span_idx n).rng i (by rw [spanL_len] at hi; exact hi)
theorem s231 (n : Nat) (hn : n ≤ 100000) : HSpec Tryz.prog 231 [I 0, I (n : Int)] [] (fun r m' => r = .x (.one (.own 0)) ∧ m' = [some (rowOd (spanL 0 n))]) := by
  refine spec_of pMix (O := []) Tryz.func231 (c := bodyOf Tryz.f231) rfl (by kernel_rfl) (by kernel_rfl) Tryz.ntmps231 (res := [.tmp 4]) (by kernel_rfl) ?_
  repeat' ((conv => whnf); first | refine Rng.g ?_ | refine Ob.g ?_ | refine Ob.e ?_ | refine Ob.m ?_ | refine Ob.mk (Nat.le_of_ble_eq_true rfl) ?_ | refine JoinVC.on ?_ | refine Nils.mk (fun h => ?_) ?_ | refine Val.t ?_ | refine Val.d ?_ | refine Mm.mk ?_ | (refine Br.mk (fun h => ?_) (fun h => ?_) <;> first | (exfalso; omega; done) | (exfalso; simp at h; done) | skip))
  refine LoopVC.mk (fun m st => ∃ (i : Nat), i ≤ n ∧ m = n - i ∧ st = ⟨0, envA 16 [(0, .int .i64 (i : Int)), (1, .x (I (n : Int))), (5, .x (.one (.own 0)))], [some (rowOd (spanL 0 i))]⟩) _ _ ⟨0, Nat.zero_le _, rfl, rfl⟩ ?_ ?_
  · refine ⟨[none], rfl, rfl, ?_, ?_⟩ <;> repeat' (first | exact trivial | exact rfl | exact Iff.rfl | apply And.intro)
  rintro m _ ⟨i, hi, hm, rfl⟩
  have ls : (i64s (spanL 0 i)).length = i := by rw [i64s_len, spanL_len]
  by_cases hi' : i < n
  · repeat' ((conv => whnf); first | refine Rng.g ?_ | refine Ob.g ?_ | refine Ob.e ?_ | refine Ob.m ?_ | refine Ob.mk (Nat.le_of_ble_eq_true rfl) ?_ | refine JoinVC.on ?_ | refine Nils.mk (fun h => ?_) ?_ | refine Val.t ?_ | refine Val.d ?_ | refine Mm.mk ?_ | (refine Br.mk (fun h => ?_) (fun h => ?_) <;> first | (exfalso; omega; done) | (exfalso; simp at h; done) | skip))
    repeat refine Mm.mk ?_
    refine Ob.mk (by rw [eb3]; simp only [List.length_cons, List.length_nil]; omega) ?_
    repeat' ((conv => whnf); first | refine Rng.g ?_ | refine Ob.g ?_ | refine Ob.e ?_ | refine Ob.m ?_ | refine Ob.mk (Nat.le_of_ble_eq_true rfl) ?_ | refine JoinVC.on ?_ | refine Nils.mk (fun h => ?_) ?_ | refine Val.t ?_ | refine Val.d ?_ | refine Mm.mk ?_ | (refine Br.mk (fun h => ?_) (fun h => ?_) <;> first | (exfalso; omega; done) | (exfalso; simp at h; done) | skip))
    refine Back.mk (n - (i + 1)) _ (by omega) ⟨i + 1, by omega, rfl, rfl⟩ ?_
    rw [spanL_succ]
    refine ⟨[some 2], rfl, rfl, ?_, ?_⟩ <;> repeat' (first | exact trivial | exact rfl | exact Iff.rfl | apply And.intro)
    rw [i64s_snoc, Nat.zero_add]
  · have ei : i = n := by omega
    subst ei
    repeat' ((conv => whnf); first | refine Rng.g ?_ | refine Ob.g ?_ | refine Ob.e ?_ | refine Ob.m ?_ | refine Ob.mk (Nat.le_of_ble_eq_true rfl) ?_ | refine JoinVC.on ?_ | refine Nils.mk (fun h => ?_) ?_ | refine Val.t ?_ | refine Val.d ?_ | refine Mm.mk ?_ | (refine Br.mk (fun h => ?_) (fun h => ?_) <;> first | (exfalso; omega; done) | (exfalso; simp at h; done) | skip))
    repeat refine Mm.mk ?_
    refine EndVC.mk _ rfl _ _ ⟨rfl, rfl⟩ ?_
    refine ⟨[some 0], rfl, rfl, ?_, ?_⟩ <;> repeat' (first | exact trivial | exact rfl | exact Iff.rfl | apply And.intro)
theorem s230 (f : Fmt) (l : List Sng) (O : List Int) (hO : InR O l.length) (hl : O.length ≤ 12) : HSpec Tryz.prog 230 [.one (.ptr 0 0), .one (.own 1)] [bPl f l, rowOd O] (fun r m' => r = .x (.one (.own 2)) ∧ m' = [some (bPl f l), some (rowOd O), some (rowOd (isr (usB l) O (O.length - 1)))]) := by
  refine spec_of pMix (O := []) Tryz.func230 (c := bodyOf Tryz.f230) rfl (by kernel_rfl) (by kernel_rfl) Tryz.ntmps230 (res := [.tmp 4]) (by kernel_rfl) ?_
  repeat' ((conv => whnf); first | refine Rng.g ?_ | refine Ob.g ?_ | refine Ob.e ?_ | refine Ob.m ?_ | refine Ob.mk (Nat.le_of_ble_eq_true rfl) ?_ | refine JoinVC.on ?_ | refine Nils.mk (fun h => ?_) ?_ | refine Val.t ?_ | refine Val.d ?_ | refine Mm.mk ?_ | (refine Br.mk (fun h => ?_) (fun h => ?_) <;> first | (exfalso; omega; done) | (exfalso; simp at h; done) | skip))
  conv => whnf
  refine CallVC.mk [] _ _ _ rfl rfl rfl (s296 O (by omega)) (fun r m' h' => ?_)
  obtain ⟨rfl, rfl⟩ := h'
  conv => whnf
  repeat' ((conv => whnf); first | refine Rng.g ?_ | refine Ob.g ?_ | refine Ob.e ?_ | refine Ob.m ?_ | refine Ob.mk (Nat.le_of_ble_eq_true rfl) ?_ | refine JoinVC.on ?_ | refine Nils.mk (fun h => ?_) ?_ | refine Val.t ?_ | refine Val.d ?_ | refine Mm.mk ?_ | (refine Br.mk (fun h => ?_) (fun h => ?_) <;> first | (exfalso; omega; done) | (exfalso; simp at h; done) | skip))
  conv => whnf
  refine CallVC.mk [2, 0] _ _ _ rfl rfl rfl (s297 f l O hO hl) (fun r m' h' => ?_)
  obtain ⟨rfl, rfl⟩ := h'
  conv => whnf
  repeat' ((conv => whnf); first | refine Rng.g ?_ | refine Ob.g ?_ | refine Ob.e ?_ | refine Ob.m ?_ | refine Ob.mk (Nat.le_of_ble_eq_true rfl) ?_ | refine JoinVC.on ?_ | refine Nils.mk (fun h => ?_) ?_ | refine Val.t ?_ | refine Val.d ?_ | refine Mm.mk ?_ | (refine Br.mk (fun h => ?_) (fun h => ?_) <;> first | (exfalso; omega; done) | (exfalso; simp at h; done) | skip))
  repeat refine Mm.mk ?_
  refine EndVC.mk _ rfl _ _ ⟨rfl, rfl⟩ ?_
  refine ⟨[some 0, some 1, some 2], rfl, rfl, ?_, ?_⟩ <;> repeat' (first | exact trivial | exact rfl | exact Iff.rfl | apply And.intro)
theorem s143 (f : Fmt) (l : List Sng) (hl : l.length ≤ 12) : HSpec Tryz.prog 143 [.one (.ptr 0 0)] [bPl f l] (fun r m' => r = .x (.one (.own 1)) ∧ m' = [some (bPl f l), some (rowOd (allO l))]) := by
  have lp := sngA_len l
  have c := s230 f l (spanL 0 l.length) (spanL_nn _) (by rw [spanL_len]; exact hl)
  rw [spanL_len] at c
  refine spec_of pMix (O := []) Tryz.func143 (c := bodyOf Tryz.f143) rfl (by kernel_rfl) (by kernel_rfl) Tryz.ntmps143 (res := [.tmp 2]) (by kernel_rfl) ?_
  repeat' ((conv => whnf); first | rw [lp] | refine Rng.g ?_ | refine Ob.g ?_ | refine Ob.e ?_ | refine Ob.m ?_ | refine Ob.mk (Nat.le_of_ble_eq_true rfl) ?_ | refine JoinVC.on ?_ | refine Nils.mk (fun h => ?_) ?_ | refine Val.t ?_ | refine Val.d ?_ | refine Mm.mk ?_ | (refine Br.mk (fun h => ?_) (fun h => ?_) <;> first | (exfalso; omega; done) | (exfalso; simp at h; done) | skip))
  conv => whnf
  refine CallVC.mk [] _ _ _ rfl rfl rfl (s231 l.length (by omega)) (fun r m' h' => ?_)
  obtain ⟨rfl, rfl⟩ := h'
  conv => whnf
  repeat' ((conv => whnf); first | refine Rng.g ?_ | refine Ob.g ?_ | refine Ob.e ?_ | refine Ob.m ?_ | refine Ob.mk (Nat.le_of_ble_eq_true rfl) ?_ | refine JoinVC.on ?_ | refine Nils.mk (fun h => ?_) ?_ | refine Val.t ?_ | refine Val.d ?_ | refine Mm.mk ?_ | (refine Br.mk (fun h => ?_) (fun h => ?_) <;> first | (exfalso; omega; done) | (exfalso; simp at h; done) | skip))
  conv => whnf
  refine CallVC.mk [0, 1] _ _ _ rfl rfl rfl (c) (fun r m' h' => ?_)
  obtain ⟨rfl, rfl⟩ := h'
  conv => whnf
  repeat' ((conv => whnf); first | refine Rng.g ?_ | refine Ob.g ?_ | refine Ob.e ?_ | refine Ob.m ?_ | refine Ob.mk (Nat.le_of_ble_eq_true rfl) ?_ | refine JoinVC.on ?_ | refine Nils.mk (fun h => ?_) ?_ | refine Val.t ?_ | refine Val.d ?_ | refine Mm.mk ?_ | (refine Br.mk (fun h => ?_) (fun h => ?_) <;> first | (exfalso; omega; done) | (exfalso; simp at h; done) | skip))
  repeat refine Mm.mk ?_
  refine EndVC.mk _ rfl _ _ ⟨rfl, rfl⟩ ?_
  refine ⟨[some 0, some 2], rfl, rfl, ?_, ?_⟩ <;> repeat' (first | exact trivial | exact rfl | exact Iff.rfl | apply And.intro)
/-! ### The bands -/
@[reducible] def rowB (A : Arr) : Blk := .row 116 false [.int .i64, .int .i64, .int .i64] A
theorem eb116 : Tryz.t116.bytes = 24 := by kernel_rfl
inductive LyRs (f : Fmt) (l : List Sng) (O : List Int) (r : AV) (m' : List (Option Blk)) : Prop
  | rule (i : Nat) (hi : i < O.length) (h : ∀ j, j < i → okAt f l O j) (hn : ¬ okAt f l O i) (hr : r = .tup [.one .nils, I (i : Int), I 20]) (hm : m' = [some (bPl f l)])
  | limit (h : ∀ j, j < O.length → okAt f l O j) (hn : ¬ LayOK f l O) (hr : r = .tup [.one .nils, I (O.length : Int), I 14]) (hm : m' = [some (bPl f l)])
  | ok (h : LayOK f l O) (hr : r = .tup [.one (.own 1), I (O.length : Int), I 0]) (hm : m' = [some (bPl f l), some (rowB (bndA f l O O.length))])
theorem s146 (f : Fmt) (l : List Sng) (O : List Int) (hf : FmtOK f) (hg : SngsOK l) (hO : InR O l.length) (hl : O.length ≤ 100) : HSpec Tryz.prog 146 [.one (.ptr 0 0), .one (.lst true [.int .i64] (i64s O))] [bPl f l] (LyRs f l O) := by
  have lo := i64s_len O
  have lg := sngA_len l
  have hbd := atF_bd hf hg hO
  have hf1 := hf.outer
  have hf2 := hf.lead
  have hf3 := hf.gap
  have hf4 := hf.tail
  have hf5 := hf.inner
  refine spec_of pMix (O := []) Tryz.func146 (c := bodyOf Tryz.f146) rfl (by kernel_rfl) (by kernel_rfl) Tryz.ntmps146 (res := [.tmp 4, .tmp 5, .tmp 6]) (by kernel_rfl) ?_
  repeat' ((conv => whnf); first | refine Rng.g ?_ | refine Ob.g ?_ | refine Ob.e ?_ | refine Ob.m ?_ | refine Ob.mk (Nat.le_of_ble_eq_true rfl) ?_ | refine JoinVC.on ?_ | refine Nils.mk (fun h => ?_) ?_ | refine Val.t ?_ | refine Val.d ?_ | refine Mm.mk ?_ | (refine Br.mk (fun h => ?_) (fun h => ?_) <;> first | (exfalso; omega; done) | (exfalso; simp at h; done) | skip))
  refine LoopVC.mk (fun n st => ∃ (i : Nat), i ≤ O.length ∧ n = O.length - i ∧ (∀ j, j < i → okAt f l O j) ∧ st = ⟨1, envA 89 [(0, .x (.one (.ptr 0 0))), (1, .x (.one (.lst true [.int .i64] (i64s O)))), (7, .x (.one (.own 1))), (8, .int .i64 (atF f l O i)), (23, .x (.one (.lst true [.int .i64] (i64s O)))), (24, .int .i64 (O.length : Int)), (25, .int .i64 (i : Int))], [some (bPl f l), some (rowB (bndA f l O i))]⟩) _ _ ⟨0, Nat.zero_le _, rfl, fun j hj => absurd hj (Nat.not_lt_zero j), rfl⟩ ?_ ?_
  · refine ⟨[some 0, none], rfl, rfl, ?_, ?_⟩ <;> repeat' (first | exact trivial | exact rfl | exact Iff.rfl | apply And.intro)
    exact congrArg Int.ofNat lo
  rintro n _ ⟨i, hi, hn, hj, rfl⟩
  have lb := bndA_len f l O i
  have gi : rI (i64s O) (i : Int).toNat 0 = O.getD i 0 := by rw [Int.toNat_natCast]; exact i64s_get O i
  have hbi := hbd i hi
  by_cases hi' : i < O.length
  · have hr := hO i hi'
    obtain ⟨q, hq⟩ : ∃ q, O.getD i 0 = q := ⟨_, rfl⟩
    have c0 : rI (sngA l) q.toNat 0 = (l.getD q.toNat g0).long := sngA_0 l _
    have c1 : rI (sngA l) q.toNat (0 + 1) = (l.getD q.toNat g0).pitch := sngA_1 l _
    have c2 : rI (sngA l) q.toNat (0 + 1 + 1) = (l.getD q.toNat g0).least := sngA_2 l _
    have c3 : rI (sngA l) q.toNat (0 + (0 + 1 + 1)) = (l.getD q.toNat g0).least := sngA_2 l _
    rw [hq] at gi hr
    have hgk := hg.each q.toNat (by omega)
    have hw := (wid_bd hf.per.1 hgk).2
    have k1 := s139 f (some l) (l.getD q.toNat g0) hf hgk
    have ea : atF f l O (i + 1) = atF f l O i - (if 0 < i then f.gap else 0) - widF f (l.getD (O.getD i 0).toNat g0) := rfl
    rw [hq] at ea
    have eo : okAt f l O i ↔ (l.getD q.toNat g0).least ≤ atF f l O (i + 1) := by unfold okAt; rw [hq]
    by_cases h0 : 0 < i
    · have e1 : (if 0 < i then f.gap else 0) = f.gap := if_pos h0
      have e2 : (atF f l O i - f.gap) - widF f (l.getD q.toNat g0) = atF f l O (i + 1) := by rw [ea, e1]
      have hbj := hbd (i + 1) hi'
      have e3 : bndR f l O i = [Cell.int q, Cell.int (atF f l O i - f.gap), Cell.int (atF f l O (i + 1))] := by unfold bndR; rw [hq, e1]
      repeat' ((conv => whnf); first | rw [gi] | rw [c0] | rw [c1] | rw [c2] | refine Rng.g ?_ | refine Ob.g ?_ | refine Ob.e ?_ | refine Ob.m ?_ | refine Ob.mk (Nat.le_of_ble_eq_true rfl) ?_ | refine JoinVC.on ?_ | refine Nils.mk (fun h => ?_) ?_ | refine Val.t ?_ | refine Val.d ?_ | refine Mm.mk ?_ | (refine Br.mk (fun h => ?_) (fun h => ?_) <;> first | (exfalso; omega; done) | (exfalso; simp at h; done) | skip))
      conv => whnf
      refine CallVC.mk [0] _ _ _ rfl rfl rfl (k1) (fun r m' h' => ?_)
      obtain ⟨rfl, rfl⟩ := h'
      conv => whnf
      repeat' ((conv => whnf); first | rw [e2] | rw [c3] | refine Rng.g ?_ | refine Ob.g ?_ | refine Ob.e ?_ | refine Ob.m ?_ | refine Ob.mk (Nat.le_of_ble_eq_true rfl) ?_ | refine JoinVC.on ?_ | refine Nils.mk (fun h => ?_) ?_ | refine Val.t ?_ | refine Val.d ?_ | refine Mm.mk ?_ | (refine Br.mk (fun h => ?_) (fun h => ?_) <;> first | (exfalso; omega; done) | (exfalso; simp at h; done) | skip))
      · have hno : ¬ okAt f l O i := fun hk => by have := eo.1 hk; omega
        repeat refine Mm.mk ?_
        conv => whnf
        refine EndVC.mk _ rfl _ _ (.rule i hi' hj hno rfl rfl) ?_
        refine ⟨[some 0], rfl, rfl, ?_, ?_⟩ <;> repeat' (first | exact trivial | exact rfl | exact Iff.rfl | apply And.intro)
      · repeat refine Mm.mk ?_
        refine Ob.mk (by rw [eb116]; simp only [List.length_cons, List.length_nil]; omega) ?_
        repeat' ((conv => whnf); first | rw [e2] | rw [c3] | refine Rng.g ?_ | refine Ob.g ?_ | refine Ob.e ?_ | refine Ob.m ?_ | refine Ob.mk (Nat.le_of_ble_eq_true rfl) ?_ | refine JoinVC.on ?_ | refine Nils.mk (fun h => ?_) ?_ | refine Val.t ?_ | refine Val.d ?_ | refine Mm.mk ?_ | (refine Br.mk (fun h => ?_) (fun h => ?_) <;> first | (exfalso; omega; done) | (exfalso; simp at h; done) | skip))
        refine Back.mk (O.length - (i + 1)) _ (by omega) ⟨i + 1, by omega, rfl, fun j hj' => ?_, rfl⟩ ?_
        · rcases Nat.lt_succ_iff_lt_or_eq.1 hj' with h' | rfl
          · exact hj j h'
          · exact eo.2 (by omega)
        · rw [bndA_succ, e3]
          refine ⟨[some 0, some 4], rfl, rfl, ?_, ?_⟩ <;> repeat' (first | exact trivial | exact rfl | exact Iff.rfl | apply And.intro)
    · have e1 : (if 0 < i then f.gap else 0) = 0 := if_neg h0
      have e2 : (atF f l O i) - widF f (l.getD q.toNat g0) = atF f l O (i + 1) := by rw [ea, e1]; omega
      have hbj := hbd (i + 1) hi'
      have e3 : bndR f l O i = [Cell.int q, Cell.int (atF f l O i), Cell.int (atF f l O (i + 1))] := by unfold bndR; rw [hq, e1]; simp only [Int.sub_zero]
      repeat' ((conv => whnf); first | rw [gi] | rw [c0] | rw [c1] | rw [c2] | refine Rng.g ?_ | refine Ob.g ?_ | refine Ob.e ?_ | refine Ob.m ?_ | refine Ob.mk (Nat.le_of_ble_eq_true rfl) ?_ | refine JoinVC.on ?_ | refine Nils.mk (fun h => ?_) ?_ | refine Val.t ?_ | refine Val.d ?_ | refine Mm.mk ?_ | (refine Br.mk (fun h => ?_) (fun h => ?_) <;> first | (exfalso; omega; done) | (exfalso; simp at h; done) | skip))
      conv => whnf
      refine CallVC.mk [0] _ _ _ rfl rfl rfl (k1) (fun r m' h' => ?_)
      obtain ⟨rfl, rfl⟩ := h'
      conv => whnf
      repeat' ((conv => whnf); first | rw [e2] | rw [c3] | refine Rng.g ?_ | refine Ob.g ?_ | refine Ob.e ?_ | refine Ob.m ?_ | refine Ob.mk (Nat.le_of_ble_eq_true rfl) ?_ | refine JoinVC.on ?_ | refine Nils.mk (fun h => ?_) ?_ | refine Val.t ?_ | refine Val.d ?_ | refine Mm.mk ?_ | (refine Br.mk (fun h => ?_) (fun h => ?_) <;> first | (exfalso; omega; done) | (exfalso; simp at h; done) | skip))
      · have hno : ¬ okAt f l O i := fun hk => by have := eo.1 hk; omega
        repeat refine Mm.mk ?_
        conv => whnf
        refine EndVC.mk _ rfl _ _ (.rule i hi' hj hno rfl rfl) ?_
        refine ⟨[some 0], rfl, rfl, ?_, ?_⟩ <;> repeat' (first | exact trivial | exact rfl | exact Iff.rfl | apply And.intro)
      · repeat refine Mm.mk ?_
        refine Ob.mk (by rw [eb116]; simp only [List.length_cons, List.length_nil]; omega) ?_
        repeat' ((conv => whnf); first | rw [e2] | rw [c3] | refine Rng.g ?_ | refine Ob.g ?_ | refine Ob.e ?_ | refine Ob.m ?_ | refine Ob.mk (Nat.le_of_ble_eq_true rfl) ?_ | refine JoinVC.on ?_ | refine Nils.mk (fun h => ?_) ?_ | refine Val.t ?_ | refine Val.d ?_ | refine Mm.mk ?_ | (refine Br.mk (fun h => ?_) (fun h => ?_) <;> first | (exfalso; omega; done) | (exfalso; simp at h; done) | skip))
        refine Back.mk (O.length - (i + 1)) _ (by omega) ⟨i + 1, by omega, rfl, fun j hj' => ?_, rfl⟩ ?_
        · rcases Nat.lt_succ_iff_lt_or_eq.1 hj' with h' | rfl
          · exact hj j h'
          · exact eo.2 (by omega)
        · rw [bndA_succ, e3]
          refine ⟨[some 0, some 4], rfl, rfl, ?_, ?_⟩ <;> repeat' (first | exact trivial | exact rfl | exact Iff.rfl | apply And.intro)
  · have ei : i = O.length := by omega
    subst ei
    repeat' ((conv => whnf); first | rw [lo] | refine Rng.g ?_ | refine Ob.g ?_ | refine Ob.e ?_ | refine Ob.m ?_ | refine Ob.mk (Nat.le_of_ble_eq_true rfl) ?_ | refine JoinVC.on ?_ | refine Nils.mk (fun h => ?_) ?_ | refine Val.t ?_ | refine Val.d ?_ | refine Mm.mk ?_ | (refine Br.mk (fun h => ?_) (fun h => ?_) <;> first | (exfalso; omega; done) | (exfalso; simp at h; done) | skip))
    · repeat refine Mm.mk ?_
      conv => whnf
      refine EndVC.mk _ rfl _ _ (.limit hj (fun hL => (by have := hL.2; omega)) rfl rfl) ?_
      refine ⟨[some 0], rfl, rfl, ?_, ?_⟩ <;> repeat' (first | exact trivial | exact rfl | exact Iff.rfl | apply And.intro)
    · repeat refine Mm.mk ?_
      conv => whnf
      refine EndVC.mk _ rfl _ _ (.ok ⟨hj, by omega⟩ rfl rfl) ?_
      refine ⟨[some 0, some 1], rfl, rfl, ?_, ?_⟩ <;> repeat' (first | exact trivial | exact rfl | exact Iff.rfl | apply And.intro)
end Go.Sx

namespace Go.Sx
open Go Go.Proofs
set_option maxRecDepth 10000
set_option maxHeartbeats 4000000
theorem s206L (t : Trk) (r0 r : Int) (ht : TrkOK (t.at r)) : HSpec Tryz.prog 206 [I r, .one (.ptr 0 0)] [.box 213 [.fn 207 [(1, 0), (2, 0)]], .box 214 [.ptr 3 0], .box 33 [.fn 115 [(4, 0)]], bTk (t.at r0), .box 214 [.ptr 3 0]] (fun x m' => x = xP (pL t r) ∧ m' = [some (.box 213 [.fn 207 [(1, 0), (2, 0)]]), some (.box 214 [.ptr 3 0]), some (.box 33 [.fn 115 [(4, 0)]]), some (bTk (t.at r)), some (.box 214 [.ptr 3 0])]) := by
  refine spec_of pMix (O := []) Tryz.func206 (c := bodyOf Tryz.f206) rfl (by kernel_rfl) (by kernel_rfl) Tryz.ntmps206 (res := [.tmp 3]) (by kernel_rfl) ?_
  repeat' ((conv => whnf); first | refine Rng.g ?_ | refine Ob.g ?_ | refine Ob.e ?_ | refine Ob.m ?_ | refine Ob.mk (Nat.le_of_ble_eq_true rfl) ?_ | refine JoinVC.on ?_ | refine Nils.mk (fun h => ?_) ?_ | refine Val.t ?_ | refine Val.d ?_ | refine Mm.mk ?_ | (refine Br.mk (fun h => ?_) (fun h => ?_) <;> first | (exfalso; omega; done) | (exfalso; simp at h; done) | skip))
  conv => whnf
  refine CallVC.mk [1, 2, 3, 4] _ _ _ rfl rfl rfl (s207 (t.at r0) r ht) (fun r m' h' => ?_)
  obtain ⟨rfl, rfl⟩ := h'
  conv => whnf
  repeat' ((conv => whnf); first | refine Rng.g ?_ | refine Ob.g ?_ | refine Ob.e ?_ | refine Ob.m ?_ | refine Ob.mk (Nat.le_of_ble_eq_true rfl) ?_ | refine JoinVC.on ?_ | refine Nils.mk (fun h => ?_) ?_ | refine Val.t ?_ | refine Val.d ?_ | refine Mm.mk ?_ | (refine Br.mk (fun h => ?_) (fun h => ?_) <;> first | (exfalso; omega; done) | (exfalso; simp at h; done) | skip))
  repeat refine Mm.mk ?_
  refine EndVC.mk _ rfl _ _ ⟨rfl, rfl⟩ ?_
  refine ⟨[some 0, some 1, some 2, some 3, some 4], rfl, rfl, ?_, ?_⟩ <;> repeat' (first | exact trivial | exact rfl | exact Iff.rfl | apply And.intro)
theorem s136L (t : Trk) (r0 : Int) (ht : ∀ r, 0 ≤ r → r ≤ 4194304 → TrkOK (t.at r)) : HSpec Tryz.prog 136 [I 4194305, .one (.fn 206 [(0, 0)])] [.box 213 [.fn 207 [(1, 0), (2, 0)]], .box 214 [.ptr 3 0], .box 33 [.fn 115 [(4, 0)]], bTk (t.at r0), .box 214 [.ptr 3 0]] (fun x m' => ∃ k r', Least (pL t) 4194305 k ∧ x = .x (I k) ∧ m' = [some (.box 213 [.fn 207 [(1, 0), (2, 0)]]), some (.box 214 [.ptr 3 0]), some (.box 33 [.fn 115 [(4, 0)]]), some (bTk (t.at r')), some (.box 214 [.ptr 3 0])]) := by
  have hc : CutOK t.c := (ht 0 (by decide) (by decide)).c
  have hp : 1 ≤ t.per := (ht 0 (by decide) (by decide)).per.1
  refine spec_of pMix (O := []) Tryz.func136 (c := bodyOf Tryz.f136) rfl (by kernel_rfl) (by kernel_rfl) Tryz.ntmps136 (res := [.tmp 4]) (by kernel_rfl) ?_
  repeat' ((conv => whnf); first | refine Rng.g ?_ | refine Ob.g ?_ | refine Ob.e ?_ | refine Ob.m ?_ | refine Ob.mk (Nat.le_of_ble_eq_true rfl) ?_ | refine JoinVC.on ?_ | refine Nils.mk (fun h => ?_) ?_ | refine Val.t ?_ | refine Val.d ?_ | refine Mm.mk ?_ | (refine Br.mk (fun h => ?_) (fun h => ?_) <;> first | (exfalso; omega; done) | (exfalso; simp at h; done) | skip))
  refine LoopVC.mk (fun n st => ∃ (i' j r1 : Int), (0 ≤ i' ∧ i' ≤ j ∧ j ≤ 4194305) ∧ n = (j - i').toNat ∧ (∀ q, 0 ≤ q → q < i' → ¬ pL t q) ∧ (j < 4194305 → pL t j) ∧ st = ⟨5, envA 26 [(1, .x (.one (.fn 206 [(0, 0)]))), (5, .int .i64 i'), (6, .int .i64 j)], [some (.box 213 [.fn 207 [(1, 0), (2, 0)]]), some (.box 214 [.ptr 3 0]), some (.box 33 [.fn 115 [(4, 0)]]), some (bTk (t.at r1)), some (.box 214 [.ptr 3 0])]⟩) _ _ ⟨0, 4194305, r0, by omega, rfl, fun q h1 h2 => by omega, fun h1 => by omega, rfl⟩ ?_ ?_
  · refine ⟨[some 0, some 1, some 2, some 3, some 4], rfl, rfl, ?_, ?_⟩ <;> repeat' (first | exact trivial | exact rfl | exact Iff.rfl | apply And.intro)
  rintro n _ ⟨i', j, r1, hij, hn, hno, hyes, rfl⟩
  by_cases hlt : i' < j
  · obtain ⟨g, hg⟩ : ∃ g, g = (i' + j) / 2 := ⟨_, rfl⟩
    have h1 : i' ≤ g ∧ g < j := by omega
    repeat' ((conv => whnf); first | refine Rng.g ?_ | refine Ob.g ?_ | refine Ob.e ?_ | refine Ob.m ?_ | refine Ob.mk (Nat.le_of_ble_eq_true rfl) ?_ | refine JoinVC.on ?_ | refine Nils.mk (fun h => ?_) ?_ | refine Val.t ?_ | refine Val.d ?_ | refine Mm.mk ?_ | (refine Br.mk (fun h => ?_) (fun h => ?_) <;> first | (exfalso; omega; done) | (exfalso; simp at h; done) | skip))
    refine Val.mk g (by rw [hg]; rfl) ?_
    repeat' ((conv => whnf); first | refine Rng.g ?_ | refine Ob.g ?_ | refine Ob.e ?_ | refine Ob.m ?_ | refine Ob.mk (Nat.le_of_ble_eq_true rfl) ?_ | refine JoinVC.on ?_ | refine Nils.mk (fun h => ?_) ?_ | refine Val.t ?_ | refine Val.d ?_ | refine Mm.mk ?_ | (refine Br.mk (fun h => ?_) (fun h => ?_) <;> first | (exfalso; omega; done) | (exfalso; simp at h; done) | skip))
    conv => whnf
    refine CallVC.mk [0, 1, 2, 3, 4] _ _ _ rfl rfl rfl (s206L t r1 g (ht g (by omega) (by omega))) (fun r m' h' => ?_)
    obtain ⟨rfl, rfl⟩ := h'
    conv => whnf
    repeat' ((conv => whnf); first | refine Rng.g ?_ | refine Ob.g ?_ | refine Ob.e ?_ | refine Ob.m ?_ | refine Ob.mk (Nat.le_of_ble_eq_true rfl) ?_ | refine JoinVC.on ?_ | refine Nils.mk (fun h => ?_) ?_ | refine Val.t ?_ | refine Val.d ?_ | refine Mm.mk ?_ | (refine Br.mk (fun h => ?_) (fun h => ?_) <;> first | (exfalso; omega; done) | (exfalso; simp at h; done) | skip))
    · refine Back.mk (j - (g + 1)).toNat _ (by omega) ⟨g + 1, j, g, by omega, rfl, fun q h2 h3 h4 => h (h4.mono hc hp h2 (by omega)), hyes, rfl⟩ ?_
      refine ⟨[some 0, some 1, some 2, some 3, some 4], rfl, rfl, ?_, ?_⟩ <;> repeat' (first | exact trivial | exact rfl | exact Iff.rfl | apply And.intro)
    · refine Back.mk (g - i').toNat _ (by omega) ⟨i', g, g, by omega, rfl, hno, fun _ => Classical.not_not.1 h, rfl⟩ ?_
      refine ⟨[some 0, some 1, some 2, some 3, some 4], rfl, rfl, ?_, ?_⟩ <;> repeat' (first | exact trivial | exact rfl | exact Iff.rfl | apply And.intro)
  · repeat' ((conv => whnf); first | refine Rng.g ?_ | refine Ob.g ?_ | refine Ob.e ?_ | refine Ob.m ?_ | refine Ob.mk (Nat.le_of_ble_eq_true rfl) ?_ | refine JoinVC.on ?_ | refine Nils.mk (fun h => ?_) ?_ | refine Val.t ?_ | refine Val.d ?_ | refine Mm.mk ?_ | (refine Br.mk (fun h => ?_) (fun h => ?_) <;> first | (exfalso; omega; done) | (exfalso; simp at h; done) | skip))
    have e : i' = j := by omega
    subst e
    repeat refine Mm.mk ?_
    conv => whnf
    refine EndVC.mk _ rfl _ _ (⟨i', r1, ⟨by omega, hno, hyes⟩, rfl, rfl⟩) ?_
    refine ⟨[some 0, some 1, some 2, some 3, some 4], rfl, rfl, ?_, ?_⟩ <;> repeat' (first | exact trivial | exact rfl | exact Iff.rfl | apply And.intro)
theorem s109L (t : Trk) (r0 : Int) (ht : ∀ r, 0 ≤ r → r ≤ 4194304 → TrkOK (t.at r)) : HSpec Tryz.prog 109 [I 4194304, .one (.fn 207 [(0, 0), (1, 0)])] [.box 214 [.ptr 2 0], .box 33 [.fn 115 [(3, 0)]], bTk (t.at r0), .box 214 [.ptr 2 0]] (fun x m' => ∃ k r', Least (pL t) 4194305 k ∧ x = .x (I k) ∧ m' = [some (.box 214 [.ptr 2 0]), some (.box 33 [.fn 115 [(3, 0)]]), some (bTk (t.at r')), some (.box 214 [.ptr 2 0])]) := by
  refine spec_of pMix (O := []) Tryz.func109 (c := bodyOf Tryz.f109) rfl (by kernel_rfl) (by kernel_rfl) Tryz.ntmps109 (res := [.tmp 4]) (by kernel_rfl) ?_
  repeat' ((conv => whnf); first | refine Rng.g ?_ | refine Ob.g ?_ | refine Ob.e ?_ | refine Ob.m ?_ | refine Ob.mk (Nat.le_of_ble_eq_true rfl) ?_ | refine JoinVC.on ?_ | refine Nils.mk (fun h => ?_) ?_ | refine Val.t ?_ | refine Val.d ?_ | refine Mm.mk ?_ | (refine Br.mk (fun h => ?_) (fun h => ?_) <;> first | (exfalso; omega; done) | (exfalso; simp at h; done) | skip))
  conv => whnf
  refine CallVC.mk [4, 0, 1, 2, 3] _ _ _ rfl rfl rfl (s136L t r0 ht) (fun r m' h' => ?_)
  obtain ⟨k, r', hk, rfl, rfl⟩ := h'
  conv => whnf
  have hk1 := hk.rng
  repeat' ((conv => whnf); first | refine Rng.g ?_ | refine Ob.g ?_ | refine Ob.e ?_ | refine Ob.m ?_ | refine Ob.mk (Nat.le_of_ble_eq_true rfl) ?_ | refine JoinVC.on ?_ | refine Nils.mk (fun h => ?_) ?_ | refine Val.t ?_ | refine Val.d ?_ | refine Mm.mk ?_ | (refine Br.mk (fun h => ?_) (fun h => ?_) <;> first | (exfalso; omega; done) | (exfalso; simp at h; done) | skip))
  repeat refine Mm.mk ?_
  conv => whnf
  refine EndVC.mk _ rfl _ _ (⟨k, r', hk, rfl, rfl⟩) ?_
  refine ⟨[some 0, some 1, some 2, some 3], rfl, rfl, ?_, ?_⟩ <;> repeat' (first | exact trivial | exact rfl | exact Iff.rfl | apply And.intro)
theorem s114L (t : Trk) (per0 : Int) (ht : ∀ r, 0 ≤ r → r ≤ 4194304 → TrkOK (t.at r)) : HSpec Tryz.prog 114 [.one (.ptr 0 0), I t.per, .one (.fn 115 [(1, 0)])] [bTk ⟨t.c, t.p, t.r, per0⟩, .box 214 [.ptr 0 0]] (fun x m' => ∃ k r', Least (pL t) 4194305 k ∧ ((4194304 < k ∧ x = .tup [I 0, I 14]) ∨ (k ≤ 4194304 ∧ x = .tup [I k, I 0])) ∧ m' = [some (bTk (t.at r')), some (.box 214 [.ptr 0 0])]) := by
  refine spec_of pMix (O := []) Tryz.func114 (c := bodyOf Tryz.f114) rfl (by kernel_rfl) (by kernel_rfl) Tryz.ntmps114 (res := [.tmp 6, .tmp 7]) (by kernel_rfl) ?_
  repeat' ((conv => whnf); first | refine Rng.g ?_ | refine Ob.g ?_ | refine Ob.e ?_ | refine Ob.m ?_ | refine Ob.mk (Nat.le_of_ble_eq_true rfl) ?_ | refine JoinVC.on ?_ | refine Nils.mk (fun h => ?_) ?_ | refine Val.t ?_ | refine Val.d ?_ | refine Mm.mk ?_ | (refine Br.mk (fun h => ?_) (fun h => ?_) <;> first | (exfalso; omega; done) | (exfalso; simp at h; done) | skip))
  conv => whnf
  refine CallVC.mk [2, 3, 0, 1] _ _ _ rfl rfl rfl (s109L t t.r ht) (fun r m' h' => ?_)
  obtain ⟨k, r', hk, rfl, rfl⟩ := h'
  conv => whnf
  have hk1 := hk.rng
  repeat' ((conv => whnf); first | refine Rng.g ?_ | refine Ob.g ?_ | refine Ob.e ?_ | refine Ob.m ?_ | refine Ob.mk (Nat.le_of_ble_eq_true rfl) ?_ | refine JoinVC.on ?_ | refine Nils.mk (fun h => ?_) ?_ | refine Val.t ?_ | refine Val.d ?_ | refine Mm.mk ?_ | (refine Br.mk (fun h => ?_) (fun h => ?_) <;> first | (exfalso; omega; done) | (exfalso; simp at h; done) | skip))
  · repeat refine Mm.mk ?_
    conv => whnf
    refine EndVC.mk _ rfl _ _ (⟨k, r', hk, .inl ⟨by omega, rfl⟩, rfl⟩) ?_
    refine ⟨[some 0, some 1], rfl, rfl, ?_, ?_⟩ <;> repeat' (first | exact trivial | exact rfl | exact Iff.rfl | apply And.intro)
  · repeat refine Mm.mk ?_
    conv => whnf
    refine EndVC.mk _ rfl _ _ (⟨k, r', hk, .inr ⟨by omega, rfl⟩, rfl⟩) ?_
    refine ⟨[some 0, some 1], rfl, rfl, ?_, ?_⟩ <;> repeat' (first | exact trivial | exact rfl | exact Iff.rfl | apply And.intro)
end Go.Sx

namespace Go.Sx
open Go Go.Proofs
set_option maxRecDepth 10000
set_option maxHeartbeats 4000000
/-- The least radius of a groove. -/
inductive LsRs (c : Cut) (l : List Smp) (per : Int) (r : AV) (m' : List (Option Blk)) : Prop
  | bad (e : Int) (h : ¬ (CutOK c ∧ PtsOK l ∧ 1 ≤ per ∧ per ≤ 65536)) (he : e ≠ 0) (hr : r = .tup [I 0, I e]) (hm : m' = [])
  | none (ht : ∀ r, 0 ≤ r → r ≤ 4194304 → TrkOK (Trk.at ⟨c, l, 0, per⟩ r)) (h : ¬ pL ⟨c, l, 0, per⟩ 4194304) (hr : r = .tup [I 0, I 14]) (hm : m' = [])
  | ok (ht : ∀ r, 0 ≤ r → r ≤ 4194304 → TrkOK (Trk.at ⟨c, l, 0, per⟩ r)) (k : Int) (hk : Least (pL ⟨c, l, 0, per⟩) 4194305 k) (hk' : k ≤ 4194304) (hr : r = .tup [I k, I 0]) (hm : m' = [])
theorem s35 (c : Cut) (l : List Smp) (per : Int) : HSpec Tryz.prog 35 [c.x, lS l, I per] [] (LsRs c l per) := by
  by_cases hb : ¬ (CutOK c ∧ PtsOK l)
  · refine spec_of pMix (O := []) Tryz.func35 (c := bodyOf Tryz.f35) rfl (by kernel_rfl) (by kernel_rfl) Tryz.ntmps35 (res := [.tmp 6, .tmp 7]) (by kernel_rfl) ?_
    repeat' ((conv => whnf); first | refine Rng.g ?_ | refine Ob.g ?_ | refine Ob.e ?_ | refine Ob.m ?_ | refine Ob.mk (Nat.le_of_ble_eq_true rfl) ?_ | refine JoinVC.on ?_ | refine Nils.mk (fun h => ?_) ?_ | refine Val.t ?_ | refine Val.d ?_ | refine Mm.mk ?_ | (refine Br.mk (fun h => ?_) (fun h => ?_) <;> first | (exfalso; omega; done) | (exfalso; simp at h; done) | skip))
    conv => whnf
    refine CallVC.mk [] _ _ _ rfl rfl rfl (s112 c l) (fun r m' h' => ?_)
    rcases h' with ⟨e, he, he0, rfl, rfl⟩ | ⟨h1, h2, rfl, rfl⟩
    · repeat' ((conv => whnf); first | refine Rng.g ?_ | refine Ob.g ?_ | refine Ob.e ?_ | refine Ob.m ?_ | refine Ob.mk (Nat.le_of_ble_eq_true rfl) ?_ | refine JoinVC.on ?_ | refine Nils.mk (fun h => ?_) ?_ | refine Val.t ?_ | refine Val.d ?_ | refine Mm.mk ?_ | (refine Br.mk (fun h => ?_) (fun h => ?_) <;> first | (exfalso; omega; done) | (exfalso; simp at h; done) | skip))
      repeat refine Mm.mk ?_
      conv => whnf
      refine EndVC.mk _ rfl _ _ (.bad e (fun h => he ⟨h.1, h.2.1⟩) he0 rfl rfl) ?_
      refine ⟨[], rfl, rfl, ?_, ?_⟩ <;> repeat' (first | exact trivial | exact rfl | exact Iff.rfl | apply And.intro)
    · exact absurd ⟨h1, h2⟩ hb
  replace hb := Classical.not_not.1 hb
  by_cases hp : 1 ≤ per ∧ per ≤ 65536
  · have c1 := s113 0 per
    rw [if_pos ⟨by decide, hp⟩] at c1
    have ht : ∀ r, 0 ≤ r → r ≤ 4194304 → TrkOK (Trk.at ⟨c, l, 0, per⟩ r) := fun r h1 h2 => ⟨hb.1, hb.2, ⟨h1, h2⟩, hp⟩
    refine spec_of pMix (O := []) Tryz.func35 (c := bodyOf Tryz.f35) rfl (by kernel_rfl) (by kernel_rfl) Tryz.ntmps35 (res := [.tmp 6, .tmp 7]) (by kernel_rfl) ?_
    repeat' ((conv => whnf); first | refine Rng.g ?_ | refine Ob.g ?_ | refine Ob.e ?_ | refine Ob.m ?_ | refine Ob.mk (Nat.le_of_ble_eq_true rfl) ?_ | refine JoinVC.on ?_ | refine Nils.mk (fun h => ?_) ?_ | refine Val.t ?_ | refine Val.d ?_ | refine Mm.mk ?_ | (refine Br.mk (fun h => ?_) (fun h => ?_) <;> first | (exfalso; omega; done) | (exfalso; simp at h; done) | skip))
    conv => whnf
    refine CallVC.mk [] _ _ _ rfl rfl rfl (s112 c l) (fun r m' h' => ?_)
    rcases h' with ⟨e, he, he0, rfl, rfl⟩ | ⟨h1, h2, rfl, rfl⟩
    · exact absurd hb he
    repeat' ((conv => whnf); first | refine Rng.g ?_ | refine Ob.g ?_ | refine Ob.e ?_ | refine Ob.m ?_ | refine Ob.mk (Nat.le_of_ble_eq_true rfl) ?_ | refine JoinVC.on ?_ | refine Nils.mk (fun h => ?_) ?_ | refine Val.t ?_ | refine Val.d ?_ | refine Mm.mk ?_ | refine CallVC.pure rfl (c1) ?_ | refine CallVC0.pure rfl (c1) ?_ | (refine Br.mk (fun h => ?_) (fun h => ?_) <;> first | (exfalso; omega; done) | (exfalso; simp at h; done) | skip))
    conv => whnf
    refine CallVC.mk [1, 2] _ _ _ rfl rfl rfl (s114L ⟨c, l, 0, per⟩ 0 ht) (fun r m' h' => ?_)
    obtain ⟨k, r', hk, hk2, rfl⟩ := h'
    rcases hk2 with ⟨hk3, rfl⟩ | ⟨hk3, rfl⟩
    · repeat' ((conv => whnf); first | refine Rng.g ?_ | refine Ob.g ?_ | refine Ob.e ?_ | refine Ob.m ?_ | refine Ob.mk (Nat.le_of_ble_eq_true rfl) ?_ | refine JoinVC.on ?_ | refine Nils.mk (fun h => ?_) ?_ | refine Val.t ?_ | refine Val.d ?_ | refine Mm.mk ?_ | (refine Br.mk (fun h => ?_) (fun h => ?_) <;> first | (exfalso; omega; done) | (exfalso; simp at h; done) | skip))
      repeat refine Mm.mk ?_
      conv => whnf
      refine EndVC.mk _ rfl _ _ (.none ht (hk.no 4194304 (by decide) hk3) rfl rfl) ?_
      refine ⟨[], rfl, rfl, ?_, ?_⟩ <;> repeat' (first | exact trivial | exact rfl | exact Iff.rfl | apply And.intro)
    · repeat' ((conv => whnf); first | refine Rng.g ?_ | refine Ob.g ?_ | refine Ob.e ?_ | refine Ob.m ?_ | refine Ob.mk (Nat.le_of_ble_eq_true rfl) ?_ | refine JoinVC.on ?_ | refine Nils.mk (fun h => ?_) ?_ | refine Val.t ?_ | refine Val.d ?_ | refine Mm.mk ?_ | (refine Br.mk (fun h => ?_) (fun h => ?_) <;> first | (exfalso; omega; done) | (exfalso; simp at h; done) | skip))
      repeat refine Mm.mk ?_
      conv => whnf
      refine EndVC.mk _ rfl _ _ (.ok ht k hk hk3 rfl rfl) ?_
      refine ⟨[], rfl, rfl, ?_, ?_⟩ <;> repeat' (first | exact trivial | exact rfl | exact Iff.rfl | apply And.intro)
  · have c1 := s113 0 per
    rw [if_neg (fun h => hp h.2)] at c1
    refine spec_of pMix (O := []) Tryz.func35 (c := bodyOf Tryz.f35) rfl (by kernel_rfl) (by kernel_rfl) Tryz.ntmps35 (res := [.tmp 6, .tmp 7]) (by kernel_rfl) ?_
    repeat' ((conv => whnf); first | refine Rng.g ?_ | refine Ob.g ?_ | refine Ob.e ?_ | refine Ob.m ?_ | refine Ob.mk (Nat.le_of_ble_eq_true rfl) ?_ | refine JoinVC.on ?_ | refine Nils.mk (fun h => ?_) ?_ | refine Val.t ?_ | refine Val.d ?_ | refine Mm.mk ?_ | (refine Br.mk (fun h => ?_) (fun h => ?_) <;> first | (exfalso; omega; done) | (exfalso; simp at h; done) | skip))
    conv => whnf
    refine CallVC.mk [] _ _ _ rfl rfl rfl (s112 c l) (fun r m' h' => ?_)
    rcases h' with ⟨e, he, he0, rfl, rfl⟩ | ⟨h1, h2, rfl, rfl⟩
    · exact absurd hb he
    repeat' ((conv => whnf); first | refine Rng.g ?_ | refine Ob.g ?_ | refine Ob.e ?_ | refine Ob.m ?_ | refine Ob.mk (Nat.le_of_ble_eq_true rfl) ?_ | refine JoinVC.on ?_ | refine Nils.mk (fun h => ?_) ?_ | refine Val.t ?_ | refine Val.d ?_ | refine Mm.mk ?_ | refine CallVC.pure rfl (c1) ?_ | refine CallVC0.pure rfl (c1) ?_ | (refine Br.mk (fun h => ?_) (fun h => ?_) <;> first | (exfalso; omega; done) | (exfalso; simp at h; done) | skip))
    repeat refine Mm.mk ?_
    conv => whnf
    refine EndVC.mk _ rfl _ _ (.bad 3 (fun h => hp h.2.2) (by decide) rfl rfl) ?_
    refine ⟨[], rfl, rfl, ?_, ?_⟩ <;> repeat' (first | exact trivial | exact rfl | exact Iff.rfl | apply And.intro)
end Go.Sx

namespace Go.Sx
open Go Go.Proofs
set_option maxRecDepth 10000
set_option maxHeartbeats 4000000
theorem e3 : EntersF Tryz.prog 3 := enters_of Tryz.func3 (c := bodyOf Tryz.f3) (by kernel_rfl) rfl
noncomputable instance (a b : List Smp) : Decidable (a = b) := Classical.propDecidable _
end Go.Sx

namespace Go.Sx
open Go Go.Proofs
set_option maxRecDepth 10000
set_option maxHeartbeats 4000000
end Go.Sx

namespace Go.Sx
open Go Go.Proofs
set_option maxRecDepth 10000
set_option maxHeartbeats 4000000
def c3 : Cut := ⟨400, 2000, 200, 2000, 1000, 1000, 100⟩
def l3 : List Smp := [⟨0, 0⟩, ⟨100, 100⟩, ⟨0, 0⟩]
theorem c3_ok : CutOK c3 := by constructor <;> decide
theorem all_lt {p : Nat → Prop} (n : Nat) [DecidablePred p] (h : ((List.range n).all fun j => decide (p j)) = true) : ∀ j, j < n → p j := fun j hj => of_decide_eq_true (List.all_eq_true.1 h j (List.mem_range.2 hj))
instance (s : Smp) : Decidable (s.ok) := by unfold Smp.ok; exact inferInstance
theorem l3_ok : SmpsOK l3 := ⟨by decide, all_lt 3 (by decide)⟩
theorem g3_ok : PtsOK (cutF c3 l3) := ⟨by decide, all_lt 3 (by decide)⟩
def t3 : Trk := ⟨c3, cutF c3 l3, 0, 1000⟩
theorem t3_yes : pL t3 31831 := all_lt 3 (by decide +kernel)
theorem t3_no : ¬ pN t3 0 31830 ∨ ¬ pN t3 1 31830 ∨ ¬ pN t3 2 31830 := by decide +kernel
theorem t3_least {k : Int} (hk : Least (pL t3) 4194305 k) : k = 31831 := by
  have h1 : ¬ 31831 < k := fun h => hk.no 31831 (by decide) h t3_yes
  have h2 : ¬ k ≤ 31830 := fun h => by
    have h3 := (hk.yes (by omega)).mono (t := t3) c3_ok (by decide) hk.rng.1 h
    rcases t3_no with h4 | h4 | h4
    · exact h4 (h3 0 (by decide))
    · exact h4 (h3 1 (by decide))
    · exact h4 (h3 2 (by decide))
  omega
/-! ### The curve of the example -/
def v3 : Crv := ⟨[64], [128], 256⟩
def x3 : List Int := [100, 0, 0, -3]
theorem v3_ok : CrvOK v3 := by
  refine ⟨⟨by decide, fun j => ?_⟩, ⟨by decide, fun j => ?_⟩, by decide⟩
  · match j with
    | 0 => decide
    | j + 1 => show -4096 ≤ (0 : Int) ∧ (0 : Int) ≤ 4096; decide
  · match j with
    | 0 => decide
    | j + 1 => show -4096 ≤ (0 : Int) ∧ (0 : Int) ≤ 4096; decide
theorem x3_ok : SigOK x3 := by
  refine ⟨by decide, fun j => ?_⟩
  match j with
  | 0 => decide
  | 1 => decide
  | 2 => decide
  | 3 => decide
  | j + 4 => show -32767 ≤ (0 : Int) ∧ (0 : Int) ≤ 32767; decide
theorem nextY_take (u : Bool) (c : Crv) (xs zs : List Int) (n i : Nat) (h : i ≤ n) : nextY u c xs (zs.take n) i = nextY u c xs zs i := by
  unfold nextY hiF hoF
  rw [List.take_take, Nat.min_eq_left h]
theorem Filt.uniq {u : Bool} {c : Crv} {most : Int} {xs ys zs : List Int} (hy : Filt u c most xs ys) (hz : Filt u c most xs zs) (hl : ys.length ≤ zs.length) : ys = zs.take ys.length := by
  have key : ∀ n, n ≤ ys.length → ys.take n = zs.take n := by
    intro n
    induction n with
    | zero => intro _; rfl
    | succ n ih =>
      intro hn
      rw [take_snoc ys n 0 (by omega), take_snoc zs n 0 (by omega), ih (by omega), (hy.each n (by omega)).1, (hz.each n (by omega)).1, ← nextY_take u c xs ys n n (Nat.le_refl _), ih (by omega), nextY_take u c xs zs n n (Nat.le_refl _)]
  have := key ys.length (Nat.le_refl _)
  rwa [List.take_length] at this
theorem Filt.same {u : Bool} {c : Crv} {most : Int} {xs ys zs : List Int} (hy : Filt u c most xs ys) (hz : Filt u c most xs zs) (h1 : ys.length = xs.length) (h2 : zs.length = xs.length) : ys = zs := by
  have := hy.uniq hz (by omega)
  rwa [List.take_of_length_le (by omega)] at this
theorem Filt.no_far {u : Bool} {c : Crv} {most : Int} {xs ys zs : List Int} (hy : Filt u c most xs ys) (h1 : ys.length < xs.length) (hb : bey (nextY u c xs ys ys.length) most) (hz : Filt u c most xs zs) (h2 : zs.length = xs.length) : False := by
  have e := hy.uniq hz (by omega)
  have h3 := hz.each ys.length (by omega)
  rw [e, List.length_take, Nat.min_eq_left (by omega), nextY_take _ _ _ _ _ _ (Nat.le_refl _), ← h3.1] at hb
  exact h3.2 hb
def y3 : List Int := [nextY false v3 x3 [] 0, nextY false v3 x3 [100] 1, nextY false v3 x3 [100, 75] 2, nextY false v3 x3 [100, 75, 37] 3]
instance (n m : Int) : Decidable (bey n m) := by unfold bey; exact inferInstance
theorem y3_filt : Filt false v3 32767 x3 y3 := ⟨by decide, all_lt 4 (by decide)⟩
/-! ### The programme of the example -/
def T3 : List Tak := [⟨⟨#[97]⟩, [⟨10, -10⟩, ⟨5, 0⟩]⟩]
def p3 : List Prt := [⟨0, 0, 2, 0, 0, 0, 500⟩]
theorem T3_name : nameOK ⟨#[97]⟩ := ⟨by decide, by decide, fun j hj => by
  have : j = 0 := by
    have : j < 1 := hj
    omega
  subst this
  exact .inl (by decide)⟩
theorem T3_ok : TaksOK T3 := by
  refine ⟨by decide, fun j hj => ?_, fun i j hi hj => ?_⟩
  · have : j = 0 := by
      have : j < 1 := hj
      omega
    subst this
    exact ⟨T3_name, by decide, by decide, by decide⟩
  · have : i < 1 := hi
    omega
theorem p3_ok : ProgOK T3 p3 := by
  refine ⟨T3_ok, by decide, fun j hj => ?_, ⟨fun _ => by decide, fun i h1 h2 => ?_, fun i h1 h2 => ?_, by decide⟩⟩
  · have : j = 0 := by
      have : j < 1 := hj
      omega
    subst this
    decide
  · have : i < 1 := h2
    omega
  · have : i < 1 := h2
    omega
theorem r3_ok : smpE (rend T3 p3) = 0 := (smpE_iff _).2 ⟨by decide, all_lt 2 (by decide +kernel)⟩
theorem s25 : PSpec Tryz.prog 25 [] (xP True) := by
  refine spec_of pMix (O := []) Tryz.func25 (c := bodyOf Tryz.f25) rfl (by kernel_rfl) (by kernel_rfl) Tryz.ntmps25 (res := [.tmp 0]) (by kernel_rfl) ?_
  repeat' ((conv => whnf); first | refine Rng.g ?_ | refine Ob.g ?_ | refine Ob.e ?_ | refine Ob.m ?_ | refine Ob.mk (Nat.le_of_ble_eq_true rfl) ?_ | refine JoinVC.on ?_ | refine Nils.mk (fun h => ?_) ?_ | refine Val.t ?_ | refine Val.d ?_ | refine Mm.mk ?_ | (refine Br.mk (fun h => ?_) (fun h => ?_) <;> first | (exfalso; omega; done) | (exfalso; simp at h; done) | skip))
  conv => whnf
  refine CallVC.mk [] _ _ _ rfl rfl rfl (s30 c3 l3) (fun r m' h' => ?_)
  cases h' with
  | bad e h he hr hm => exact absurd ⟨c3_ok, l3_ok⟩ h
  | ok hC hl hr hm =>
    subst hr hm
    repeat' ((conv => whnf); first | refine Rng.g ?_ | refine Ob.g ?_ | refine Ob.e ?_ | refine Ob.m ?_ | refine Ob.mk (Nat.le_of_ble_eq_true rfl) ?_ | refine JoinVC.on ?_ | refine Nils.mk (fun h => ?_) ?_ | refine Val.t ?_ | refine Val.d ?_ | refine Mm.mk ?_ | (refine Br.mk (fun h => ?_) (fun h => ?_) <;> first | (exfalso; omega; done) | (exfalso; simp at h; done) | skip))
    conv => whnf
    refine CallVC.mk [] _ _ _ rfl rfl rfl (s35 c3 (cutF c3 l3) 1000) (fun r m' h' => ?_)
    cases h' with
    | bad e h he hr hm => exact absurd ⟨c3_ok, g3_ok, by decide⟩ h
    | none ht h hr hm => exact absurd (t3_yes.mono (t := t3) c3_ok (by decide) (by decide) (by decide)) h
    | ok ht k hk hk' hr hm =>
      have hk3 := t3_least hk
      subst hk3 hr hm
      repeat' ((conv => whnf); first | refine Rng.g ?_ | refine Ob.g ?_ | refine Ob.e ?_ | refine Ob.m ?_ | refine Ob.mk (Nat.le_of_ble_eq_true rfl) ?_ | refine JoinVC.on ?_ | refine Nils.mk (fun h => ?_) ?_ | refine Val.t ?_ | refine Val.d ?_ | refine Mm.mk ?_ | (refine Br.mk (fun h => ?_) (fun h => ?_) <;> first | (exfalso; omega; done) | (exfalso; simp at h; done) | skip))
      conv => whnf
      refine CallVC.mk [] _ _ _ rfl rfl rfl (s49 v3 x3) (fun r m' h' => ?_)
      cases h' with
      | bad e h he hr hm => exact absurd ⟨v3_ok, x3_ok⟩ h
      | far hl hx ys h hs hb hr hm => exact (h.no_far hs hb y3_filt rfl).elim
      | ok hl hx ys h hs hr hm =>
        have hy := h.same y3_filt hs rfl
        subst hy hr hm
        repeat' ((conv => whnf); first | refine Rng.g ?_ | refine Ob.g ?_ | refine Ob.e ?_ | refine Ob.m ?_ | refine Ob.mk (Nat.le_of_ble_eq_true rfl) ?_ | refine JoinVC.on ?_ | refine Nils.mk (fun h => ?_) ?_ | refine Val.t ?_ | refine Val.d ?_ | refine Mm.mk ?_ | (refine Br.mk (fun h => ?_) (fun h => ?_) <;> first | (exfalso; omega; done) | (exfalso; simp at h; done) | skip))
        conv => whnf
        refine CallVC.mk [] _ _ _ rfl rfl rfl (s26 T3 p3 p3_ok) (fun r m' h' => ?_)
        rcases h' with ⟨h1, rfl, rfl⟩ | ⟨h1, rfl, rfl⟩
        · have q1 : (List.length (smpA (cutF c3 l3)) : Int) = 3 := by decide
          have q2 : rI (smpA (cutF c3 l3)) (Int.toNat 1) 0 = -200 := by decide
          have q3 : rI (smpA (cutF c3 l3)) (Int.toNat 1) (0 + 1) = 600 := by decide
          have q4 : (List.length (i64s y3) : Int) = 4 := by decide
          have q5 : rI (i64s y3) (Int.toNat 1) 0 = 75 := by decide
          have q6 : (List.length (smpA (rend T3 p3)) : Int) = 2 := by decide
          have q7 : rI (smpA (rend T3 p3)) (Int.toNat 0) 0 = 5 := by decide +kernel
          have q8 : rI (smpA (rend T3 p3)) (Int.toNat 0) (0 + 1) = -5 := by decide +kernel
          repeat' ((conv => whnf); first | refine Rng.g ?_ | refine Ob.g ?_ | refine Ob.e ?_ | refine Ob.m ?_ | refine Ob.mk (Nat.le_of_ble_eq_true rfl) ?_ | refine JoinVC.on ?_ | refine Nils.mk (fun h => ?_) ?_ | refine Val.t ?_ | refine Val.d ?_ | refine Mm.mk ?_ | (refine Br.mk (fun h => ?_) (fun h => ?_) <;> first | (exfalso; omega; done) | (exfalso; simp at h; done) | skip))
          all_goals first
            | exact absurd ⟨q2, q3, trivial⟩ h
            | exact absurd ⟨q7, q8, trivial⟩ h
            | skip
          repeat refine Mm.mk ?_
          refine EndVC.mk _ rfl _ _ ⟨rfl, rfl⟩ ?_
          refine ⟨[], rfl, rfl, ?_, ?_⟩ <;> repeat' (first | exact trivial | exact rfl | exact Iff.rfl | apply And.intro)
          exact ⟨fun _ => trivial, fun _ => ⟨q7, q8, trivial⟩⟩
        · exact absurd r3_ok h1
end Go.Sx

namespace Go.Sx
open Go Go.Proofs
set_option maxRecDepth 10000
set_option maxHeartbeats 8000000
open Classical in
theorem s144 (f : Fmt) (l : List Sng) (O : List Int) (hf : FmtOK f) (hg : SngsOK l) (hO : InR O l.length) (hl : O.length ≤ 100) : HSpec Tryz.prog 144 [.one (.ptr 0 0), .one (.lst true [.int .i64] (i64s O))] [bPl f l] (fun r m' => r = xP (LayOK f l O) ∧ m' = [some (bPl f l)]) := by
  refine spec_of pMix (O := []) Tryz.func144 (c := bodyOf Tryz.f144) rfl (by kernel_rfl) (by kernel_rfl) Tryz.ntmps144 (res := [.tmp 4]) (by kernel_rfl) ?_
  repeat' ((conv => whnf); first | refine Rng.g ?_ | refine Ob.g ?_ | refine Ob.e ?_ | refine Ob.m ?_ | refine Ob.mk (Nat.le_of_ble_eq_true rfl) ?_ | refine JoinVC.on ?_ | refine Nils.mk (fun h => ?_) ?_ | refine Val.t ?_ | refine Val.d ?_ | refine Mm.mk ?_ | (refine Br.mk (fun h => ?_) (fun h => ?_) <;> first | (exfalso; omega; done) | (exfalso; simp at h; done) | skip))
  conv => whnf
  refine CallVC.mk [0] _ _ _ rfl rfl rfl (s146 f l O hf hg hO hl) (fun r m' h' => ?_)
  cases h' with
  | rule i hi h hn hr hm =>
    subst hr hm
    repeat' ((conv => whnf); first | refine Rng.g ?_ | refine Ob.g ?_ | refine Ob.e ?_ | refine Ob.m ?_ | refine Ob.mk (Nat.le_of_ble_eq_true rfl) ?_ | refine JoinVC.on ?_ | refine Nils.mk (fun h => ?_) ?_ | refine Val.t ?_ | refine Val.d ?_ | refine Mm.mk ?_ | (refine Br.mk (fun h => ?_) (fun h => ?_) <;> first | (exfalso; omega; done) | (exfalso; simp at h; done) | skip))
    repeat refine Mm.mk ?_
    refine EndVC.mk _ rfl _ _ ⟨rfl, rfl⟩ ?_
    refine ⟨[some 0], rfl, rfl, ?_, ?_⟩ <;> repeat' (first | exact trivial | exact rfl | exact Iff.rfl | apply And.intro)
    show _ ↔ _
    exact ⟨fun h1 => absurd h1 (by decide), fun h1 => absurd (h1.1 i hi) hn⟩
  | limit h hn hr hm =>
    subst hr hm
    repeat' ((conv => whnf); first | refine Rng.g ?_ | refine Ob.g ?_ | refine Ob.e ?_ | refine Ob.m ?_ | refine Ob.mk (Nat.le_of_ble_eq_true rfl) ?_ | refine JoinVC.on ?_ | refine Nils.mk (fun h => ?_) ?_ | refine Val.t ?_ | refine Val.d ?_ | refine Mm.mk ?_ | (refine Br.mk (fun h => ?_) (fun h => ?_) <;> first | (exfalso; omega; done) | (exfalso; simp at h; done) | skip))
    repeat refine Mm.mk ?_
    refine EndVC.mk _ rfl _ _ ⟨rfl, rfl⟩ ?_
    refine ⟨[some 0], rfl, rfl, ?_, ?_⟩ <;> repeat' (first | exact trivial | exact rfl | exact Iff.rfl | apply And.intro)
    show _ ↔ _
    exact ⟨fun h1 => absurd h1 (by decide), fun h1 => absurd h1 hn⟩
  | ok h hr hm =>
    subst hr hm
    repeat' ((conv => whnf); first | refine Rng.g ?_ | refine Ob.g ?_ | refine Ob.e ?_ | refine Ob.m ?_ | refine Ob.mk (Nat.le_of_ble_eq_true rfl) ?_ | refine JoinVC.on ?_ | refine Nils.mk (fun h => ?_) ?_ | refine Val.t ?_ | refine Val.d ?_ | refine Mm.mk ?_ | (refine Br.mk (fun h => ?_) (fun h => ?_) <;> first | (exfalso; omega; done) | (exfalso; simp at h; done) | skip))
    repeat refine Mm.mk ?_
    refine EndVC.mk _ rfl _ _ ⟨rfl, rfl⟩ ?_
    refine ⟨[some 0], rfl, rfl, ?_, ?_⟩ <;> repeat' (first | exact trivial | exact rfl | exact Iff.rfl | apply And.intro)
    show _ ↔ _
    exact ⟨fun _ => h, fun _ => rfl⟩
inductive ArRs (f : Fmt) (l : List Sng) (r : AV) (m' : List (Option Blk)) : Prop
  | bad (e : Int) (h : ¬ (FmtOK f ∧ SngsOK l)) (he : e ≠ 0) (hr : r = .tup [.one .nils, I e]) (hm : m' = [])
  | none (hf : FmtOK f) (hg : SngsOK l) (hn : ¬ LayOK f l (allO l)) (hr : r = .tup [.one .nils, I 15]) (hm : m' = [])
  | ok (hf : FmtOK f) (hg : SngsOK l) (h : LayOK f l (allO l)) (hr : r = .tup [.one (.own 0), I 0]) (hm : m' = [some (rowOd (allO l))])
theorem allO_in (l : List Sng) : InR (allO l) l.length := fun i hi => (allO_idx l).rng i (by rw [(allO_idx l).len] at hi; exact hi)
theorem s59 (f : Fmt) (l : List Sng) (hI : f.nm.size ≤ 140737488355328) (hl : l.length ≤ 12) : HSpec Tryz.prog 59 [f.x, lSng l] [] (ArRs f l) := by
  refine spec_of pMix (O := []) Tryz.func59 (c := bodyOf Tryz.f59) rfl (by kernel_rfl) (by kernel_rfl) Tryz.ntmps59 (res := [.tmp 4, .tmp 5]) (by kernel_rfl) ?_
  repeat' ((conv => whnf); first | refine Rng.g ?_ | refine Ob.g ?_ | refine Ob.e ?_ | refine Ob.m ?_ | refine Ob.mk (Nat.le_of_ble_eq_true rfl) ?_ | refine JoinVC.on ?_ | refine Nils.mk (fun h => ?_) ?_ | refine Val.t ?_ | refine Val.d ?_ | refine Mm.mk ?_ | (refine Br.mk (fun h => ?_) (fun h => ?_) <;> first | (exfalso; omega; done) | (exfalso; simp at h; done) | skip))
  conv => whnf
  refine CallVC.mk [] _ _ _ rfl rfl rfl (s138 f l hI) (fun r m' h' => ?_)
  rcases h' with ⟨e, hn, he, rfl, rfl⟩ | ⟨hf, hg, rfl, rfl⟩
  · repeat' ((conv => whnf); first | refine Rng.g ?_ | refine Ob.g ?_ | refine Ob.e ?_ | refine Ob.m ?_ | refine Ob.mk (Nat.le_of_ble_eq_true rfl) ?_ | refine JoinVC.on ?_ | refine Nils.mk (fun h => ?_) ?_ | refine Val.t ?_ | refine Val.d ?_ | refine Mm.mk ?_ | (refine Br.mk (fun h => ?_) (fun h => ?_) <;> first | (exfalso; omega; done) | (exfalso; simp at h; done) | skip))
    repeat refine Mm.mk ?_
    conv => whnf
    refine EndVC.mk _ rfl _ _ (.bad e hn he rfl rfl) ?_
    refine ⟨[], rfl, rfl, ?_, ?_⟩ <;> repeat' (first | exact trivial | exact rfl | exact Iff.rfl | apply And.intro)
  · repeat' ((conv => whnf); first | refine Rng.g ?_ | refine Ob.g ?_ | refine Ob.e ?_ | refine Ob.m ?_ | refine Ob.mk (Nat.le_of_ble_eq_true rfl) ?_ | refine JoinVC.on ?_ | refine Nils.mk (fun h => ?_) ?_ | refine Val.t ?_ | refine Val.d ?_ | refine Mm.mk ?_ | (refine Br.mk (fun h => ?_) (fun h => ?_) <;> first | (exfalso; omega; done) | (exfalso; simp at h; done) | skip))
    conv => whnf
    refine CallVC.mk [1] _ _ _ rfl rfl rfl (s143 f l hl) (fun r m' h' => ?_)
    obtain ⟨rfl, rfl⟩ := h'
    conv => whnf
    repeat' ((conv => whnf); first | refine Rng.g ?_ | refine Ob.g ?_ | refine Ob.e ?_ | refine Ob.m ?_ | refine Ob.mk (Nat.le_of_ble_eq_true rfl) ?_ | refine JoinVC.on ?_ | refine Nils.mk (fun h => ?_) ?_ | refine Val.t ?_ | refine Val.d ?_ | refine Mm.mk ?_ | (refine Br.mk (fun h => ?_) (fun h => ?_) <;> first | (exfalso; omega; done) | (exfalso; simp at h; done) | skip))
    conv => whnf
    refine CallVC.mk [1] _ _ _ rfl rfl rfl (s144 f l (allO l) hf hg (allO_in l) (by rw [(allO_idx l).len]; omega)) (fun r m' h' => ?_)
    obtain ⟨rfl, rfl⟩ := h'
    conv => whnf
    repeat' ((conv => whnf); first | refine Rng.g ?_ | refine Ob.g ?_ | refine Ob.e ?_ | refine Ob.m ?_ | refine Ob.mk (Nat.le_of_ble_eq_true rfl) ?_ | refine JoinVC.on ?_ | refine Nils.mk (fun h => ?_) ?_ | refine Val.t ?_ | refine Val.d ?_ | refine Mm.mk ?_ | (refine Br.mk (fun h => ?_) (fun h => ?_) <;> first | (exfalso; omega; done) | (exfalso; simp at h; done) | skip))
    · repeat refine Mm.mk ?_
      conv => whnf
      refine EndVC.mk _ rfl _ _ (.ok hf hg h rfl rfl) ?_
      refine ⟨[some 2], rfl, rfl, ?_, ?_⟩ <;> repeat' (first | exact trivial | exact rfl | exact Iff.rfl | apply And.intro)
    · repeat refine Mm.mk ?_
      conv => whnf
      refine EndVC.mk _ rfl _ _ (.none hf hg h rfl rfl) ?_
      refine ⟨[], rfl, rfl, ?_, ?_⟩ <;> repeat' (first | exact trivial | exact rfl | exact Iff.rfl | apply And.intro)
/-! ### An order is laid -/
/-! ### The example -/
def f4 : Fmt := ⟨⟨#[102]⟩, 1000, 400, 10, 20, 10, 30, 5⟩
def l4 : List Sng := [⟨95, 20, 500⟩, ⟨30, 40, 800⟩, ⟨41, 10, 0⟩]
theorem f4_name : nameOK ⟨#[102]⟩ := ⟨by decide, by decide, fun j hj => by
  have : j = 0 := by
    have : j < 1 := hj
    omega
  subst this
  exact .inl (by decide)⟩
theorem f4_ok : FmtOK f4 := ⟨f4_name, by decide, by decide, by decide, by decide, by decide, by decide, by decide⟩
theorem l4_ok : SngsOK l4 := ⟨by decide, fun j hj => by
  have hc : j = 0 ∨ j = 1 ∨ j = 2 := by
    have : j < 3 := hj
    omega
  rcases hc with rfl | rfl | rfl <;> (unfold Sng.ok; decide)⟩
theorem allO4 : allO l4 = [1, 0, 2] := by decide
theorem lay4 : LayOK f4 l4 (allO l4) := by
  rw [allO4]
  refine ⟨fun i hi => ?_, by decide⟩
  have hc : i = 0 ∨ i = 1 ∨ i = 2 := by
    have : i < 3 := hi
    omega
  rcases hc with rfl | rfl | rfl <;> (unfold okAt; decide)
theorem s57 : PSpec Tryz.prog 57 [] (xP True) := by
  have hw := s25
  refine spec_of pMix (O := []) Tryz.func57 (c := bodyOf Tryz.f57) rfl (by kernel_rfl) (by kernel_rfl) Tryz.ntmps57 (res := [.tmp 0]) (by kernel_rfl) ?_
  repeat' ((conv => whnf); first | refine Rng.g ?_ | refine Ob.g ?_ | refine Ob.e ?_ | refine Ob.m ?_ | refine Ob.mk (Nat.le_of_ble_eq_true rfl) ?_ | refine JoinVC.on ?_ | refine Nils.mk (fun h => ?_) ?_ | refine Val.t ?_ | refine Val.d ?_ | refine Mm.mk ?_ | (refine Br.mk (fun h => ?_) (fun h => ?_) <;> first | (exfalso; omega; done) | (exfalso; simp at h; done) | skip))
  conv => whnf
  refine CallVC.mk [] _ _ _ rfl rfl rfl (s59 f4 l4 (by decide) (by decide)) (fun r m' h' => ?_)
  cases h' with
  | bad e h he hr hm => exact absurd ⟨f4_ok, l4_ok⟩ h
  | none _ _ hN hr hm => exact absurd lay4 hN
  | ok _ _ _ hr hm =>
    subst hr hm
    rw [allO4]
    repeat' ((conv => whnf); first | refine Rng.g ?_ | refine Ob.g ?_ | refine Ob.e ?_ | refine Ob.m ?_ | refine Ob.mk (Nat.le_of_ble_eq_true rfl) ?_ | refine JoinVC.on ?_ | refine Nils.mk (fun h => ?_) ?_ | refine Val.t ?_ | refine Val.d ?_ | refine Mm.mk ?_ | (refine Br.mk (fun h => ?_) (fun h => ?_) <;> first | (exfalso; omega; done) | (exfalso; simp at h; done) | skip))
    conv => whnf
    refine CallVC.mk [] _ _ _ rfl rfl rfl (s54 f4 ⟨95, 20, 500⟩ (by decide)) (fun r m' h' => ?_)
    cases h' with
    | bad e h he hr hm => exact absurd ⟨f4_ok, (by unfold Sng.ok; decide)⟩ h
    | ok _ _ hr hm =>
      subst hr hm
      have ew : widF f4 ⟨95, 20, 500⟩ = 200 := by decide
      have g0 : rI (i64s [1, 0, 2]) (Int.toNat 0) 0 = 1 := rfl
      have g3 : ((i64s [1, 0, 2]).length : Int) = 3 := rfl
      rw [ew]
      repeat' ((conv => whnf); first | rw [g0] | refine Rng.g ?_ | refine Ob.g ?_ | refine Ob.e ?_ | refine Ob.m ?_ | refine Ob.mk (Nat.le_of_ble_eq_true rfl) ?_ | refine JoinVC.on ?_ | refine Nils.mk (fun h => ?_) ?_ | refine Val.t ?_ | refine Val.d ?_ | refine Mm.mk ?_ | refine CallVC.pure rfl (hw) ?_ | refine CallVC0.pure rfl (hw) ?_ | (refine Br.mk (fun h => ?_) (fun h => ?_) <;> first | (exfalso; omega; done) | (exfalso; simp at h; done) | skip))
      all_goals
        repeat refine Mm.mk ?_
        refine EndVC.mk _ rfl _ _ ⟨rfl, rfl⟩ ?_
        refine ⟨[], rfl, rfl, ?_, ?_⟩ <;> repeat' (first | exact trivial | exact rfl | exact Iff.rfl | apply And.intro)
end Go.Sx

namespace Go.Sx
open Go Go.Proofs
set_option maxRecDepth 10000
set_option maxHeartbeats 16000000
/-! ### The breadth of a groove -/
/-! ### A groove in its band -/
theorem Feas.congr {b : Blnk} {p : List Smp} {y z : Nat → Int} (h : Feas b p y) (hb : 1 ≤ b.per) (e : ∀ i, i < p.length → y i = z i) : Feas b p z := fun i hi => by
  obtain ⟨h1, h2, h3, h4⟩ := h i hi
  rw [e i hi] at h1 h2 h3 h4
  refine ⟨h1, h2, fun h0 => ?_, fun h0 => ?_⟩
  · have := h3 h0
    rw [e (i - 1) (by omega)] at this
    exact this
  · have := h4 h0
    rw [e ((i : Int) - b.per).toNat (by omega)] at this
    exact this
end Go.Sx

namespace Go.Sx
open Go Go.Proofs
set_option maxRecDepth 10000
set_option maxHeartbeats 4000000
/-! ### What a chain makes can be undone -/
theorem Filt.inv {c : Crv} {m : Int} {xs ys : List Int} (h : Filt false c m xs ys) (hl : ys.length = xs.length) (hx : sigB m xs) : Filt true c m ys xs := by
  refine ⟨by omega, fun j hj => ⟨?_, fun hb => ?_⟩⟩
  · have h1 := (h.each j (by omega)).1
    have e1 : nextY false c xs ys j = xs.getD j 0 + corF c (xs.take j).reverse (ys.take j).reverse := rfl
    have e2 : nextY true c ys xs j = ys.getD j 0 - corF c (xs.take j).reverse (ys.take j).reverse := rfl
    rw [e1] at h1
    rw [e2]
    omega
  · have := hx j
    unfold bey at hb
    omega
theorem ChN.cons {u : Bool} {g : Nat → Crv} {x z : List Int} (h1 : Filt u (g 0) 32767 x z) (h2 : z.length = x.length) : ∀ {n : Nat} {a : List Int}, ChN u (fun i => g (i + 1)) z n a → ChN u g x (n + 1) a
  | 0, _, h => by cases h; exact ⟨x, rfl, h1, h2⟩
  | n + 1, _, ⟨w, hw, hf, hl⟩ => ⟨w, ChN.cons h1 h2 hw, hf, hl⟩
theorem ChN.inv {f : Nat → Crv} {a : List Int} (ha : sigB 32767 a) : ∀ {n : Nat} {x : List Int}, ChN false f a n x → ChN true (fun i => f (n - 1 - i)) x n a
  | 0, _, h => h.symm
  | n + 1, x, ⟨z, hz, hf, hl⟩ => by
    have h1 := hf.inv hl (hz.sig ha)
    have h2 := ChN.inv ha hz
    refine ChN.cons (z := z) (by simpa using h1) hl.symm ?_
    have e : (fun i => f (n + 1 - 1 - (i + 1))) = fun i => f (n - 1 - i) := by
      funext i
      rw [show n + 1 - 1 - (i + 1) = n - 1 - i by omega]
    rw [e]
    exact h2
theorem ChN.uniq {u : Bool} {f : Nat → Crv} {xs : List Int} : ∀ {n : Nat} {ys zs : List Int}, ChN u f xs n ys → ChN u f xs n zs → ys = zs
  | 0, _, _, h1, h2 => by rw [h1, h2]
  | n + 1, _, _, ⟨w, h1, h2, h3⟩, ⟨v, h4, h5, h6⟩ => by
    have e := ChN.uniq h1 h4
    subst e
    exact h2.same h5 h3 h6
theorem ChN.pre {u : Bool} {f : Nat → Crv} {xs : List Int} {i : Nat} : ∀ {n : Nat} {ys : List Int}, ChN u f xs n ys → i ≤ n → ∃ zs, ChN u f xs i zs
  | 0, ys, h, hi => by rw [show i = 0 by omega]; exact ⟨ys, h⟩
  | n + 1, ys, h, hi => by
    by_cases e : i = n + 1
    · rw [e]; exact ⟨ys, h⟩
    · obtain ⟨w, hw, _⟩ := h
      exact ChN.pre hw (by omega)
theorem ChN.no_far {u : Bool} {f : Nat → Crv} {xs ys : List Int} {n : Nat} (h : ChN u f xs n ys) (hf : FarN u f xs n) : False := by
  obtain ⟨i, zs, vs, hi, hc, hv, hl, hb⟩ := hf
  obtain ⟨ws, zs', hz, hw, hwl⟩ := h.pre (i := i + 1) (by omega)
  have e := hc.uniq hz
  subst e
  exact hv.no_far hl hb hw hwl
theorem ChN.back {L : List Crv} {a x : List Int} (ha : sigB 32767 a) (h : ChN false (atC false L) a L.length x) : ChN true (atC true L) x L.length a := h.inv ha
/-! ### A point is read as its sample -/
end Go.Sx

namespace Go.Sx
open Go Go.Proofs
set_option maxRecDepth 10000
set_option maxHeartbeats 8000000
/-! ### Edges of a cut groove -/
theorem Least.zero {p : Int → Prop} {n k : Int} (h : Least p n k) (h0 : p 0) : k = 0 := by
  have h1 := h.rng
  by_cases hk : k = 0
  · exact hk
  · exact absurd h0 (h.no 0 (Int.le_refl _) (by omega))
end Go.Sx

namespace Go.Sx
open Go Go.Proofs
set_option maxRecDepth 10000
set_option maxHeartbeats 8000000
end Go.Sx

namespace Go.Sx
open Go Go.Proofs
set_option maxRecDepth 10000
set_option maxHeartbeats 8000000
/-- A gain with which a sample keeps to a ceiling. -/
structure GainOK (c : Int) (s : Smp) (v : Int) : Prop where
  rng : 0 ≤ v ∧ v ≤ 256
  l : amt s.l * v ≤ 256 * (c + 1) - 1
  r : amt s.r * v ≤ 256 * (c + 1) - 1
theorem GainOK.less {c : Int} {s : Smp} {v u : Int} (h : GainOK c s v) (h0 : 0 ≤ u) (hu : u ≤ v) (hl : 0 ≤ amt s.l) (hr : 0 ≤ amt s.r) : GainOK c s u := by
  obtain ⟨h1, h2, h3⟩ := h
  have a := Int.mul_le_mul_of_nonneg_left hu hl
  have b := Int.mul_le_mul_of_nonneg_left hu hr
  exact ⟨by omega, by omega, by omega⟩
/-- Gains that are fair to their samples. -/
structure GainsOK (c : Int) (p : List Smp) (G : List Int) : Prop where
  len : G.length = p.length
  each : ∀ j, j < p.length → GainOK c (p.getD j s0) (G.getD j 0)
end Go.Sx

namespace Go.Sx
open Go Go.Proofs
set_option maxRecDepth 10000
set_option maxHeartbeats 8000000
theorem GainsOK.set {c : Int} {p : List Smp} {G : List Int} (h : GainsOK c p G) (hp : SmpsOK p) {i : Nat} (hi : i < p.length) {v : Int} (h0 : 0 ≤ v) (hv : v ≤ G.getD i 0) : GainsOK c p (G.set i v) := by
  refine ⟨by rw [List.length_set]; exact h.len, fun j hj => ?_⟩
  rw [getD_set' _ _ _ _ _ (by rw [h.len]; exact hi)]
  split
  · rename_i e
    subst e
    obtain ⟨k1, k2, k3, k4⟩ := hp.each i hi
    exact (h.each i hi).less h0 hv (amt_bd (B := 32767) ⟨k1, k2⟩).1 (amt_bd (B := 32767) ⟨k3, k4⟩).1
  · exact h.each j hj
end Go.Sx

namespace Go.Sx
open Go Go.Proofs
set_option maxRecDepth 10000
set_option maxHeartbeats 8000000
end Go.Sx

namespace Go.Sx
open Go Go.Proofs
set_option maxRecDepth 10000
set_option maxHeartbeats 8000000
end Go.Sx

namespace Go.Sx
open Go Go.Proofs
set_option maxRecDepth 10000
set_option maxHeartbeats 8000000
end Go.Sx

namespace Go.Sx
open Go Go.Proofs
set_option maxRecDepth 10000
set_option maxHeartbeats 8000000
end Go.Sx

namespace Go.Sx
open Go Go.Proofs
set_option maxRecDepth 10000
set_option maxHeartbeats 4000000
/-! ### What a tip reads and sweeps: plain laws -/
/-- The samples that are less than a reach away. -/
def winL (i n m : Nat) : List Nat := (List.range n).filter fun u => decide (i < u + m ∧ u < i + m)
def dst (i u : Nat) : Nat := if u < i then i - u else u - i
theorem win_mem {i n m u : Nat} : u ∈ winL i n m ↔ u < n ∧ dst i u < m := by
  unfold winL dst
  rw [List.mem_filter, List.mem_range]
  constructor
  · rintro ⟨h1, h2⟩
    have := of_decide_eq_true h2
    refine ⟨h1, ?_⟩
    split <;> omega
  · rintro ⟨h1, h2⟩
    refine ⟨h1, decide_eq_true ?_⟩
    split at h2 <;> omega
/-- The least of a number and some others. -/
def mnL (a : Int) (l : List Int) : Int := l.foldl (fun a x => if x < a then x else a) a
def mxL' (a : Int) (l : List Int) : Int := l.foldl (fun a x => if a < x then x else a) a
theorem mnL_le : ∀ (l : List Int) (a : Int), mnL a l ≤ a ∧ ∀ x, x ∈ l → mnL a l ≤ x
  | [], a => ⟨Int.le_refl _, fun x h => by simp at h⟩
  | y :: l, a => by
    have e : mnL a (y :: l) = mnL (if y < a then y else a) l := rfl
    rw [e]
    by_cases hy : y < a
    · rw [if_pos hy]
      obtain ⟨h1, h2⟩ := mnL_le l y
      refine ⟨by omega, fun x hx => ?_⟩
      rcases List.mem_cons.1 hx with rfl | hx
      · exact h1
      · exact h2 x hx
    · rw [if_neg hy]
      obtain ⟨h1, h2⟩ := mnL_le l a
      refine ⟨h1, fun x hx => ?_⟩
      rcases List.mem_cons.1 hx with rfl | hx
      · omega
      · exact h2 x hx
theorem mnL_ge : ∀ (l : List Int) (a b : Int), b ≤ a → (∀ x, x ∈ l → b ≤ x) → b ≤ mnL a l
  | [], a, b, h, _ => h
  | y :: l, a, b, h, h2 => by
    have h3 := h2 y List.mem_cons_self
    have e : mnL a (y :: l) = mnL (if y < a then y else a) l := rfl
    rw [e]
    exact mnL_ge l _ b (by split <;> omega) (fun x hx => h2 x (List.mem_cons_of_mem _ hx))
theorem mxL_ge : ∀ (l : List Int) (a : Int), a ≤ mxL' a l ∧ ∀ x, x ∈ l → x ≤ mxL' a l
  | [], a => ⟨Int.le_refl _, fun x h => by simp at h⟩
  | y :: l, a => by
    have e : mxL' a (y :: l) = mxL' (if a < y then y else a) l := rfl
    rw [e]
    by_cases hy : a < y
    · rw [if_pos hy]
      obtain ⟨h1, h2⟩ := mxL_ge l y
      refine ⟨by omega, fun x hx => ?_⟩
      rcases List.mem_cons.1 hx with rfl | hx
      · exact h1
      · exact h2 x hx
    · rw [if_neg hy]
      obtain ⟨h1, h2⟩ := mxL_ge l a
      refine ⟨h1, fun x hx => ?_⟩
      rcases List.mem_cons.1 hx with rfl | hx
      · omega
      · exact h2 x hx
theorem mxL_le : ∀ (l : List Int) (a b : Int), a ≤ b → (∀ x, x ∈ l → x ≤ b) → mxL' a l ≤ b
  | [], a, b, h, _ => h
  | y :: l, a, b, h, h2 => by
    have h3 := h2 y List.mem_cons_self
    have e : mxL' a (y :: l) = mxL' (if a < y then y else a) l := rfl
    rw [e]
    exact mxL_le l _ b (by split <;> omega) (fun x hx => h2 x (List.mem_cons_of_mem _ hx))
def eroF (S h : List Int) (i : Nat) : Int := mnL (h.getD i 0) ((winL i h.length S.length).map fun u => h.getD u 0 + S.getD (dst i u) 0)
def eroL (S h : List Int) : List Int := (List.range h.length).map (eroF S h)
theorem eroL_len (S h : List Int) : (eroL S h).length = h.length := by simp [eroL]
theorem eroL_get (S h : List Int) (i : Nat) (hi : i < h.length) : (eroL S h).getD i 0 = eroF S h i := by simp [eroL, List.getD_eq_getElem?_getD, List.getElem?_range hi]
theorem ero_self (S h : List Int) (i : Nat) : eroF S h i ≤ h.getD i 0 := (mnL_le _ _).1
theorem ero_ge {S h : List Int} {i : Nat} {b : Int} (h1 : b ≤ h.getD i 0) (h2 : ∀ u, u < h.length → dst i u < S.length → b ≤ h.getD u 0 + S.getD (dst i u) 0) : b ≤ eroF S h i :=
  mnL_ge _ _ _ h1 fun x hx => by
    obtain ⟨u, hu, rfl⟩ := List.mem_map.1 hx
    obtain ⟨h3, h4⟩ := win_mem.1 hu
    exact h2 u h3 h4
/-- A tip. -/
structure TipOK (S : List Int) : Prop where
  len : 1 ≤ S.length ∧ S.length ≤ 64
  zero : S.getD 0 0 = 0
  rng : ∀ k, k < S.length → 0 ≤ S.getD k 0 ∧ S.getD k 0 ≤ 4194304
  mono : ∀ k, k + 1 < S.length → S.getD k 0 ≤ S.getD (k + 1) 0
def outs (p : List Smp) : List Int := p.map fun s => s.r
def inns (p : List Smp) : List Int := p.map fun s => -s.l
theorem outs_len (p : List Smp) : (outs p).length = p.length := by simp [outs]
theorem inns_len (p : List Smp) : (inns p).length = p.length := by simp [inns]
theorem outs_get (p : List Smp) (i : Nat) (h : i < p.length) : (outs p).getD i 0 = (p.getD i s0).r := by simp [outs, List.getD_eq_getElem?_getD, h]
theorem inns_get (p : List Smp) (i : Nat) (h : i < p.length) : (inns p).getD i 0 = -(p.getD i s0).l := by simp [inns, List.getD_eq_getElem?_getD, h]
def wallF (O N : List Int) (n : Nat) : List Smp := (List.range n).map fun i => ⟨-N.getD i 0, O.getD i 0⟩
theorem wallF_len (O N : List Int) (n : Nat) : (wallF O N n).length = n := by simp [wallF]
theorem wallF_get (O N : List Int) (n i : Nat) (h : i < n) : (wallF O N n).getD i s0 = ⟨-N.getD i 0, O.getD i 0⟩ := by simp [wallF, List.getD_eq_getElem?_getD, List.getElem?_range h]
def readF (S : List Int) (p : List Smp) : List Smp := wallF (eroL S (outs p)) (eroL S (inns p)) p.length
theorem getD_ext {l r : List Int} (h : l.length = r.length) (h2 : ∀ i, i < l.length → l.getD i 0 = r.getD i 0) : l = r := by
  apply List.ext_getElem h
  intro i h3 h4
  have := h2 i h3
  simpa [List.getD_eq_getElem?_getD, h3, h4] using this
end Go.Sx

namespace Go.Sx
open Go Go.Proofs
set_option maxRecDepth 10000
set_option maxHeartbeats 8000000
/-! ### The least and the greatest of numbers -/
structure MnIs (xs : List Int) (m : Int) : Prop where
  le : ∀ j, j < xs.length → m ≤ xs.getD j 0
  att : ∃ j, j < xs.length ∧ m = xs.getD j 0
structure MxIs (xs : List Int) (m : Int) : Prop where
  ge : ∀ j, j < xs.length → xs.getD j 0 ≤ m
  att : ∃ j, j < xs.length ∧ m = xs.getD j 0
theorem s155 (xs : List Int) (h0 : 0 < xs.length) (hm0 : xs.length ≤ 100000) : HSpec Tryz.prog 155 [lL xs] [] (fun r m' => ∃ m, MnIs xs m ∧ r = .x (I m) ∧ m' = []) := by
  have lx := i64s_len xs
  have g0 : rI (i64s xs) (Int.toNat 0) 0 = xs.getD 0 0 := i64s_get xs 0
  have hz : ∀ j, j < 1 → xs.getD 0 0 ≤ xs.getD j 0 := fun j hj => by
    have : j = 0 := by omega
    subst this
    exact Int.le_refl _
  refine spec_of pMix (O := []) Tryz.func155 (c := bodyOf Tryz.f155) rfl (by kernel_rfl) (by kernel_rfl) Tryz.ntmps155 (res := [.tmp 2]) (by kernel_rfl) ?_
  repeat' ((conv => whnf); first | rw [g0] | refine Rng.g ?_ | refine Ob.g ?_ | refine Ob.e ?_ | refine Ob.m ?_ | refine Ob.mk (Nat.le_of_ble_eq_true rfl) ?_ | refine JoinVC.on ?_ | refine Nils.mk (fun h => ?_) ?_ | refine Val.t ?_ | refine Val.d ?_ | refine Mm.mk ?_ | (refine Br.mk (fun h => ?_) (fun h => ?_) <;> first | (exfalso; omega; done) | (exfalso; simp at h; done) | skip))
  refine LoopVC.mk (fun n st => ∃ (i : Nat) (m : Int), 1 ≤ i ∧ i ≤ xs.length ∧ n = xs.length - i ∧ (∀ j, j < i → m ≤ xs.getD j 0) ∧ (∃ j, j < xs.length ∧ m = xs.getD j 0) ∧ st = ⟨0, envA 25 [(0, .x (lL xs)), (3, .int .i64 m), (4, .int .i64 (i : Int))], []⟩) _ _ ⟨1, xs.getD 0 0, Nat.le_refl _, h0, rfl, hz, ⟨0, h0, rfl⟩, rfl⟩ ?_ ?_
  · refine ⟨[], rfl, rfl, ?_, ?_⟩ <;> repeat' (first | exact trivial | exact rfl | exact Iff.rfl | apply And.intro)
  rintro n _ ⟨i, m, h1, hi, hn, hle, hat, rfl⟩
  have gx : rI (i64s xs) (i : Int).toNat 0 = xs.getD i 0 := by rw [Int.toNat_natCast, i64s_get]
  by_cases hi' : i < xs.length
  · repeat' ((conv => whnf); first | rw [gx] | refine Rng.g ?_ | refine Ob.g ?_ | refine Ob.e ?_ | refine Ob.m ?_ | refine Ob.mk (Nat.le_of_ble_eq_true rfl) ?_ | refine JoinVC.on ?_ | refine Nils.mk (fun h => ?_) ?_ | refine Val.t ?_ | refine Val.d ?_ | (refine Br.mk (fun h => ?_) (fun h => ?_) <;> first | (exfalso; omega; done) | (exfalso; simp at h; done) | skip))
    conv => whnf
    refine Mm.nm (fun mx hm => ?_)
    have hm1 : mx ≤ m ∧ mx ≤ xs.getD i 0 ∧ (mx = m ∨ mx = xs.getD i 0) := by rw [hm]; split <;> omega
    clear hm
    obtain ⟨h2, h3, h4⟩ := hm1
    repeat' ((conv => whnf); first | refine Rng.g ?_ | refine Ob.g ?_ | refine Ob.e ?_ | refine Ob.m ?_ | refine Ob.mk (Nat.le_of_ble_eq_true rfl) ?_ | refine JoinVC.on ?_ | refine Nils.mk (fun h => ?_) ?_ | refine Val.t ?_ | refine Val.d ?_ | refine Mm.mk ?_ | (refine Br.mk (fun h => ?_) (fun h => ?_) <;> first | (exfalso; omega; done) | (exfalso; simp at h; done) | skip))
    refine Back.mk (xs.length - (i + 1)) _ (by omega) ⟨i + 1, mx, by omega, by omega, rfl, fun j hj => ?_, ?_, rfl⟩ ?_
    · rcases Nat.lt_succ_iff_lt_or_eq.1 hj with h' | rfl
      · exact Int.le_trans h2 (hle j h')
      · exact h3
    · rcases h4 with rfl | rfl
      · exact hat
      · exact ⟨i, hi', rfl⟩
    · refine ⟨[], rfl, rfl, ?_, ?_⟩ <;> repeat' (first | exact trivial | exact rfl | exact Iff.rfl | apply And.intro)
  · repeat' ((conv => whnf); first | refine Rng.g ?_ | refine Ob.g ?_ | refine Ob.e ?_ | refine Ob.m ?_ | refine Ob.mk (Nat.le_of_ble_eq_true rfl) ?_ | refine JoinVC.on ?_ | refine Nils.mk (fun h => ?_) ?_ | refine Val.t ?_ | refine Val.d ?_ | refine Mm.mk ?_ | (refine Br.mk (fun h => ?_) (fun h => ?_) <;> first | (exfalso; omega; done) | (exfalso; simp at h; done) | skip))
    repeat refine Mm.mk ?_
    conv => whnf
    refine EndVC.mk _ rfl _ _ (⟨m, ⟨fun j hj => hle j (by omega), hat⟩, rfl, rfl⟩) ?_
    refine ⟨[], rfl, rfl, ?_, ?_⟩ <;> repeat' (first | exact trivial | exact rfl | exact Iff.rfl | apply And.intro)
theorem s156 (xs : List Int) (h0 : 0 < xs.length) (hm0 : xs.length ≤ 100000) : HSpec Tryz.prog 156 [lL xs] [] (fun r m' => ∃ m, MxIs xs m ∧ r = .x (I m) ∧ m' = []) := by
  have lx := i64s_len xs
  have g0 : rI (i64s xs) (Int.toNat 0) 0 = xs.getD 0 0 := i64s_get xs 0
  have hz : ∀ j, j < 1 → xs.getD j 0 ≤ xs.getD 0 0 := fun j hj => by
    have : j = 0 := by omega
    subst this
    exact Int.le_refl _
  refine spec_of pMix (O := []) Tryz.func156 (c := bodyOf Tryz.f156) rfl (by kernel_rfl) (by kernel_rfl) Tryz.ntmps156 (res := [.tmp 2]) (by kernel_rfl) ?_
  repeat' ((conv => whnf); first | rw [g0] | refine Rng.g ?_ | refine Ob.g ?_ | refine Ob.e ?_ | refine Ob.m ?_ | refine Ob.mk (Nat.le_of_ble_eq_true rfl) ?_ | refine JoinVC.on ?_ | refine Nils.mk (fun h => ?_) ?_ | refine Val.t ?_ | refine Val.d ?_ | refine Mm.mk ?_ | (refine Br.mk (fun h => ?_) (fun h => ?_) <;> first | (exfalso; omega; done) | (exfalso; simp at h; done) | skip))
  refine LoopVC.mk (fun n st => ∃ (i : Nat) (m : Int), 1 ≤ i ∧ i ≤ xs.length ∧ n = xs.length - i ∧ (∀ j, j < i → xs.getD j 0 ≤ m) ∧ (∃ j, j < xs.length ∧ m = xs.getD j 0) ∧ st = ⟨0, envA 25 [(0, .x (lL xs)), (3, .int .i64 m), (4, .int .i64 (i : Int))], []⟩) _ _ ⟨1, xs.getD 0 0, Nat.le_refl _, h0, rfl, hz, ⟨0, h0, rfl⟩, rfl⟩ ?_ ?_
  · refine ⟨[], rfl, rfl, ?_, ?_⟩ <;> repeat' (first | exact trivial | exact rfl | exact Iff.rfl | apply And.intro)
  rintro n _ ⟨i, m, h1, hi, hn, hle, hat, rfl⟩
  have gx : rI (i64s xs) (i : Int).toNat 0 = xs.getD i 0 := by rw [Int.toNat_natCast, i64s_get]
  by_cases hi' : i < xs.length
  · repeat' ((conv => whnf); first | rw [gx] | refine Rng.g ?_ | refine Ob.g ?_ | refine Ob.e ?_ | refine Ob.m ?_ | refine Ob.mk (Nat.le_of_ble_eq_true rfl) ?_ | refine JoinVC.on ?_ | refine Nils.mk (fun h => ?_) ?_ | refine Val.t ?_ | refine Val.d ?_ | (refine Br.mk (fun h => ?_) (fun h => ?_) <;> first | (exfalso; omega; done) | (exfalso; simp at h; done) | skip))
    conv => whnf
    refine Mm.nm (fun mx hm => ?_)
    have hm1 : m ≤ mx ∧ xs.getD i 0 ≤ mx ∧ (mx = m ∨ mx = xs.getD i 0) := by rw [hm]; split <;> omega
    clear hm
    obtain ⟨h2, h3, h4⟩ := hm1
    repeat' ((conv => whnf); first | refine Rng.g ?_ | refine Ob.g ?_ | refine Ob.e ?_ | refine Ob.m ?_ | refine Ob.mk (Nat.le_of_ble_eq_true rfl) ?_ | refine JoinVC.on ?_ | refine Nils.mk (fun h => ?_) ?_ | refine Val.t ?_ | refine Val.d ?_ | refine Mm.mk ?_ | (refine Br.mk (fun h => ?_) (fun h => ?_) <;> first | (exfalso; omega; done) | (exfalso; simp at h; done) | skip))
    refine Back.mk (xs.length - (i + 1)) _ (by omega) ⟨i + 1, mx, by omega, by omega, rfl, fun j hj => ?_, ?_, rfl⟩ ?_
    · rcases Nat.lt_succ_iff_lt_or_eq.1 hj with h' | rfl
      · exact Int.le_trans (hle j h') h2
      · exact h3
    · rcases h4 with rfl | rfl
      · exact hat
      · exact ⟨i, hi', rfl⟩
    · refine ⟨[], rfl, rfl, ?_, ?_⟩ <;> repeat' (first | exact trivial | exact rfl | exact Iff.rfl | apply And.intro)
  · repeat' ((conv => whnf); first | refine Rng.g ?_ | refine Ob.g ?_ | refine Ob.e ?_ | refine Ob.m ?_ | refine Ob.mk (Nat.le_of_ble_eq_true rfl) ?_ | refine JoinVC.on ?_ | refine Nils.mk (fun h => ?_) ?_ | refine Val.t ?_ | refine Val.d ?_ | refine Mm.mk ?_ | (refine Br.mk (fun h => ?_) (fun h => ?_) <;> first | (exfalso; omega; done) | (exfalso; simp at h; done) | skip))
    repeat refine Mm.mk ?_
    conv => whnf
    refine EndVC.mk _ rfl _ _ (⟨m, ⟨fun j hj => hle j (by omega), hat⟩, rfl, rfl⟩) ?_
    refine ⟨[], rfl, rfl, ?_, ?_⟩ <;> repeat' (first | exact trivial | exact rfl | exact Iff.rfl | apply And.intro)
/-! ### The bends of a groove -/
def bdv (p : List Smp) (i : Nat) : Int := (p.getD i s0).l + (p.getD i s0).r + (p.getD (i + 2) s0).l + (p.getD (i + 2) s0).r - 2 * ((p.getD (i + 1) s0).l + (p.getD (i + 1) s0).r)
def bnL (p : List Smp) (k : Nat) : List Int := (List.range k).map (bdv p)
theorem bnL_len (p : List Smp) (k : Nat) : (bnL p k).length = k := by simp [bnL]
theorem bnL_get (p : List Smp) (k i : Nat) (h : i < k) : (bnL p k).getD i 0 = bdv p i := by simp [bnL, List.getD_eq_getElem?_getD, List.getElem?_range h]
theorem bnL_succ (p : List Smp) (k : Nat) : bnL p (k + 1) = bnL p k ++ [bdv p k] := by simp [bnL, List.range_succ]
theorem bdv_bd {p : List Smp} (hp : PtsOK p) {i : Nat} (h : i + 2 < p.length) : -67108864 ≤ bdv p i ∧ bdv p i ≤ 67108864 := by
  have h1 := hp.each i (by omega)
  have h2 := hp.each (i + 1) (by omega)
  have h3 := hp.each (i + 2) h
  unfold edgeP at h1 h2 h3
  unfold bdv
  omega
theorem s154 (p : List Smp) (hp : PtsOK p) (h3 : 3 ≤ p.length) : HSpec Tryz.prog 154 [lS p] [] (fun r m' => r = .x (.one (.own 0)) ∧ m' = [some (rowL (bnL p (p.length - 2)))]) := by
  have lp := smpA_len p
  have hlp := hp.len
  refine spec_of pMix (O := [(5, ([14, 15, 16], [⟨0, [], []⟩, ⟨1, [], []⟩, ⟨2, [], []⟩, ⟨3, [], []⟩, ⟨4, [], []⟩, ⟨5, [], []⟩, ⟨6, [], []⟩, ⟨7, [], []⟩, ⟨8, [], []⟩, ⟨9, [], []⟩, ⟨10, [], []⟩, ⟨11, [], []⟩, ⟨12, [], []⟩, ⟨13, [], []⟩, ⟨16, [], []⟩, ⟨15, [], []⟩, ⟨14, [], []⟩, ⟨17, [5, 6, 7, 8, 9, 10, 11, 12, 13], []⟩, ⟨18, [9, 10, 11, 12, 13], []⟩, ⟨19, [], []⟩]))]) Tryz.func154 (c := bodyOf Tryz.f154) rfl (by kernel_rfl) (by kernel_rfl) Tryz.ntmps154 (res := [.tmp 2]) (by kernel_rfl) ?_
  repeat' ((conv => whnf); first | refine Rng.g ?_ | refine Ob.g ?_ | refine Ob.e ?_ | refine Ob.m ?_ | refine Ob.mk (Nat.le_of_ble_eq_true rfl) ?_ | refine JoinVC.on ?_ | refine Nils.mk (fun h => ?_) ?_ | refine Val.t ?_ | refine Val.d ?_ | refine Mm.mk ?_ | (refine Br.mk (fun h => ?_) (fun h => ?_) <;> first | (exfalso; omega; done) | (exfalso; simp at h; done) | skip))
  refine LoopVC.mk (fun n st => ∃ (k : Nat), k ≤ p.length - 2 ∧ n = p.length - 2 - k ∧ st = ⟨0, envA 51 [(0, .x (lS p)), (3, .x (.one (.own 0))), (4, .int .i64 ((k : Int) + 1))], [some (rowL (bnL p k))]⟩) _ _ ⟨0, Nat.zero_le _, rfl, rfl⟩ ?_ ?_
  · refine ⟨[none], rfl, rfl, ?_, ?_⟩ <;> repeat' (first | exact trivial | exact rfl | exact Iff.rfl | apply And.intro)
  rintro n _ ⟨k, hk, hn, rfl⟩
  have lb : (i64s (bnL p k)).length = k := by rw [i64s_len, bnL_len]
  have t0 : ((k : Int) + 1 - 1).toNat = k := by omega
  have t1 : ((k : Int) + 1).toNat = k + 1 := by omega
  have t2 : ((k : Int) + 1 + 1).toNat = k + 2 := by omega
  have a0 : rI (smpA p) ((k : Int) + 1 - 1).toNat 0 = (p.getD k s0).l := by rw [t0]; exact smpA_l p k
  have a1 : rI (smpA p) ((k : Int) + 1 - 1).toNat (0 + 1) = (p.getD k s0).r := by rw [t0]; exact smpA_r p k
  have a2 : rI (smpA p) ((k : Int) + 1).toNat 0 = (p.getD (k + 1) s0).l := by rw [t1]; exact smpA_l p _
  have a3 : rI (smpA p) ((k : Int) + 1).toNat (0 + 1) = (p.getD (k + 1) s0).r := by rw [t1]; exact smpA_r p _
  have a4 : rI (smpA p) ((k : Int) + 1 + 1).toNat 0 = (p.getD (k + 2) s0).l := by rw [t2]; exact smpA_l p _
  have a5 : rI (smpA p) ((k : Int) + 1 + 1).toNat (0 + 1) = (p.getD (k + 2) s0).r := by rw [t2]; exact smpA_r p _
  by_cases hk' : k + 2 < p.length
  · have h1 := hp.each k (by omega)
    have h2 := hp.each (k + 1) (by omega)
    have h4 := hp.each (k + 2) hk'
    unfold edgeP at h1 h2 h4
    have u1 : i64s (bnL p k) ++ [[Cell.int (bdv p k)]] = i64s (bnL p (k + 1)) := by rw [bnL_succ, i64s_snoc]
    have eb : (p.getD k s0).l + (p.getD k s0).r + (p.getD (k + 2) s0).l + (p.getD (k + 2) s0).r - 2 * ((p.getD (k + 1) s0).l + (p.getD (k + 1) s0).r) = bdv p k := rfl
    repeat' ((conv => whnf); first | rw [a0] | rw [a1] | rw [a2] | rw [a3] | rw [a4] | rw [a5] | rw [eb] | refine Rng.g ?_ | refine Ob.g ?_ | refine Ob.e ?_ | refine Ob.m ?_ | refine Ob.mk (Nat.le_of_ble_eq_true rfl) ?_ | refine JoinVC.on ?_ | refine Nils.mk (fun h => ?_) ?_ | refine Val.t ?_ | refine Val.d ?_ | refine Mm.mk ?_ | (refine Br.mk (fun h => ?_) (fun h => ?_) <;> first | (exfalso; omega; done) | (exfalso; simp at h; done) | skip))
    repeat refine Mm.mk ?_
    refine Ob.mk (by rw [eb2]; simp only [List.length_cons, List.length_nil]; omega) ?_
    repeat' ((conv => whnf); first | rw [u1] | refine Rng.g ?_ | refine Ob.g ?_ | refine Ob.e ?_ | refine Ob.m ?_ | refine Ob.mk (Nat.le_of_ble_eq_true rfl) ?_ | refine JoinVC.on ?_ | refine Nils.mk (fun h => ?_) ?_ | refine Val.t ?_ | refine Val.d ?_ | refine Mm.mk ?_ | (refine Br.mk (fun h => ?_) (fun h => ?_) <;> first | (exfalso; omega; done) | (exfalso; simp at h; done) | skip))
    refine Back.mk (p.length - 2 - (k + 1)) _ (by omega) ⟨k + 1, by omega, rfl, rfl⟩ ?_
    refine ⟨[some 5], rfl, rfl, ?_, ?_⟩ <;> repeat' (first | exact trivial | exact rfl | exact Iff.rfl | apply And.intro)
  · have ek : k = p.length - 2 := by omega
    subst ek
    repeat' ((conv => whnf); first | refine Rng.g ?_ | refine Ob.g ?_ | refine Ob.e ?_ | refine Ob.m ?_ | refine Ob.mk (Nat.le_of_ble_eq_true rfl) ?_ | refine JoinVC.on ?_ | refine Nils.mk (fun h => ?_) ?_ | refine Val.t ?_ | refine Val.d ?_ | refine Mm.mk ?_ | (refine Br.mk (fun h => ?_) (fun h => ?_) <;> first | (exfalso; omega; done) | (exfalso; simp at h; done) | skip))
    repeat refine Mm.mk ?_
    conv => whnf
    refine EndVC.mk _ rfl _ _ (⟨rfl, rfl⟩) ?_
    refine ⟨[some 0], rfl, rfl, ?_, ?_⟩ <;> repeat' (first | exact trivial | exact rfl | exact Iff.rfl | apply And.intro)
/-! ### The arm that needs the least -/
inductive BalRs (p : List Smp) (r : AV) (m' : List (Option Blk)) : Prop
  | bad (e : Int) (h : ¬ PtsOK p) (he : e ≠ 0) (hr : r = .tup [.agg [.int .i64 0, .int .i64 0], I e]) (hm : m' = [])
  | few (hp : PtsOK p) (h : p.length < 3) (hr : r = .tup [.agg [.int .i64 0, .int .i64 0], I 0]) (hm : m' = [])
  | ok (hp : PtsOK p) (h : 3 ≤ p.length) (mn mx : Int) (hn : MnIs (bnL p (p.length - 2)) mn) (hx : MxIs (bnL p (p.length - 2)) mx) (hr : r = .tup [.agg [.int .i64 ((mx - mn + 1) / 2), .int .i64 (mx - (mx - mn + 1) / 2)], I 0]) (hm : m' = [])
theorem s69 (p : List Smp) : HSpec Tryz.prog 69 [lS p] [] (BalRs p) := by
  have lp := smpA_len p
  refine spec_of pMix (O := []) Tryz.func69 (c := bodyOf Tryz.f69) rfl (by kernel_rfl) (by kernel_rfl) Tryz.ntmps69 (res := [.cell 2 130, .tmp 3]) (by kernel_rfl) ?_
  repeat' ((conv => whnf); first | refine Rng.g ?_ | refine Ob.g ?_ | refine Ob.e ?_ | refine Ob.m ?_ | refine Ob.mk (Nat.le_of_ble_eq_true rfl) ?_ | refine JoinVC.on ?_ | refine Nils.mk (fun h => ?_) ?_ | refine Val.t ?_ | refine Val.d ?_ | refine Mm.mk ?_ | (refine Br.mk (fun h => ?_) (fun h => ?_) <;> first | (exfalso; omega; done) | (exfalso; simp at h; done) | skip))
  conv => whnf
  refine CallVC.mk [] _ _ _ rfl rfl rfl (s153 p) (fun r m' h' => ?_)
  obtain ⟨e, rfl, rfl, he⟩ := h'
  conv => whnf
  by_cases h0 : e = 0
  rotate_left
  · repeat' ((conv => whnf); first | refine Rng.g ?_ | refine Ob.g ?_ | refine Ob.e ?_ | refine Ob.m ?_ | refine Ob.mk (Nat.le_of_ble_eq_true rfl) ?_ | refine JoinVC.on ?_ | refine Nils.mk (fun h => ?_) ?_ | refine Val.t ?_ | refine Val.d ?_ | refine Mm.mk ?_ | (refine Br.mk (fun h => ?_) (fun h => ?_) <;> first | (exfalso; omega; done) | (exfalso; simp at h; done) | skip))
    repeat refine Mm.mk ?_
    conv => whnf
    refine EndVC.mk _ rfl _ _ (.bad e (fun h => h0 (he.2 h)) h0 rfl rfl) ?_
    refine ⟨[], rfl, rfl, ?_, ?_⟩ <;> repeat' (first | exact trivial | exact rfl | exact Iff.rfl | apply And.intro)
  have hp := he.1 h0
  subst h0
  by_cases h3 : p.length < 3
  · repeat' ((conv => whnf); first | refine Rng.g ?_ | refine Ob.g ?_ | refine Ob.e ?_ | refine Ob.m ?_ | refine Ob.mk (Nat.le_of_ble_eq_true rfl) ?_ | refine JoinVC.on ?_ | refine Nils.mk (fun h => ?_) ?_ | refine Val.t ?_ | refine Val.d ?_ | refine Mm.mk ?_ | (refine Br.mk (fun h => ?_) (fun h => ?_) <;> first | (exfalso; omega; done) | (exfalso; simp at h; done) | skip))
    repeat refine Mm.mk ?_
    conv => whnf
    refine EndVC.mk _ rfl _ _ (.few hp h3 rfl rfl) ?_
    refine ⟨[], rfl, rfl, ?_, ?_⟩ <;> repeat' (first | exact trivial | exact rfl | exact Iff.rfl | apply And.intro)
  repeat' ((conv => whnf); first | refine Rng.g ?_ | refine Ob.g ?_ | refine Ob.e ?_ | refine Ob.m ?_ | refine Ob.mk (Nat.le_of_ble_eq_true rfl) ?_ | refine JoinVC.on ?_ | refine Nils.mk (fun h => ?_) ?_ | refine Val.t ?_ | refine Val.d ?_ | refine Mm.mk ?_ | (refine Br.mk (fun h => ?_) (fun h => ?_) <;> first | (exfalso; omega; done) | (exfalso; simp at h; done) | skip))
  conv => whnf
  refine CallVC.mk [] _ _ _ rfl rfl rfl (s154 p hp (by omega)) (fun r m' h' => ?_)
  obtain ⟨rfl, rfl⟩ := h'
  conv => whnf
  have hb : ∀ j, j < (bnL p (p.length - 2)).length → -67108864 ≤ (bnL p (p.length - 2)).getD j 0 ∧ (bnL p (p.length - 2)).getD j 0 ≤ 67108864 := fun j hj => by
    rw [bnL_len] at hj
    rw [bnL_get _ _ _ hj]
    exact bdv_bd hp (by omega)
  have lb := bnL_len p (p.length - 2)
  have hlp := hp.len
  obtain ⟨B, hB⟩ : ∃ B, bnL p (p.length - 2) = B := ⟨_, rfl⟩
  have hfin : ∀ mn mx r m', MnIs B mn → MxIs B mx → r = .tup [.agg [.int .i64 ((mx - mn + 1) / 2), .int .i64 (mx - (mx - mn + 1) / 2)], I 0] → m' = [] → BalRs p r m' := fun mn mx r m' h1 h2 h4 h5 => .ok hp (by omega) mn mx (by rw [hB]; exact h1) (by rw [hB]; exact h2) h4 h5
  rw [hB] at hb lb ⊢
  repeat' ((conv => whnf); first | refine Rng.g ?_ | refine Ob.g ?_ | refine Ob.e ?_ | refine Ob.m ?_ | refine Ob.mk (Nat.le_of_ble_eq_true rfl) ?_ | refine JoinVC.on ?_ | refine Nils.mk (fun h => ?_) ?_ | refine Val.t ?_ | refine Val.d ?_ | refine Mm.mk ?_ | (refine Br.mk (fun h => ?_) (fun h => ?_) <;> first | (exfalso; omega; done) | (exfalso; simp at h; done) | skip))
  conv => whnf
  refine CallVC.mk [] _ _ _ rfl rfl rfl (s155 B (by omega) (by omega)) (fun r m' h' => ?_)
  obtain ⟨mn, hmn, rfl, rfl⟩ := h'
  conv => whnf
  repeat' ((conv => whnf); first | refine Rng.g ?_ | refine Ob.g ?_ | refine Ob.e ?_ | refine Ob.m ?_ | refine Ob.mk (Nat.le_of_ble_eq_true rfl) ?_ | refine JoinVC.on ?_ | refine Nils.mk (fun h => ?_) ?_ | refine Val.t ?_ | refine Val.d ?_ | refine Mm.mk ?_ | (refine Br.mk (fun h => ?_) (fun h => ?_) <;> first | (exfalso; omega; done) | (exfalso; simp at h; done) | skip))
  conv => whnf
  refine CallVC.mk [] _ _ _ rfl rfl rfl (s156 B (by omega) (by omega)) (fun r m' h' => ?_)
  obtain ⟨mx, hmx, rfl, rfl⟩ := h'
  conv => whnf
  obtain ⟨j1, hj1, e1⟩ := hmn.att
  obtain ⟨j2, hj2, e2⟩ := hmx.att
  have b1 := hb j1 hj1
  have b2 := hb j2 hj2
  have b3 := hmn.le j2 hj2
  repeat' ((conv => whnf); first | refine Rng.g ?_ | refine Ob.g ?_ | refine Ob.e ?_ | refine Ob.m ?_ | refine Ob.mk (Nat.le_of_ble_eq_true rfl) ?_ | refine JoinVC.on ?_ | refine Nils.mk (fun h => ?_) ?_ | refine Val.t ?_ | refine Val.d ?_ | refine Mm.mk ?_ | (refine Br.mk (fun h => ?_) (fun h => ?_) <;> first | (exfalso; omega; done) | (exfalso; simp at h; done) | skip))
  repeat refine Mm.mk ?_
  conv => whnf
  refine EndVC.mk _ rfl _ _ (hfin mn mx _ _ hmn hmx rfl rfl) ?_
  refine ⟨[], rfl, rfl, ?_, ?_⟩ <;> repeat' (first | exact trivial | exact rfl | exact Iff.rfl | apply And.intro)
end Go.Sx

namespace Go.Sx
open Go Go.Proofs
set_option maxRecDepth 10000
set_option maxHeartbeats 8000000
/-! ### Tips -/
@[reducible] def tipX (S : List Int) : XV := .agg [.lst true [.int .i64] (i64s S)]
@[reducible] def bTip (S : List Int) : Blk := .box 139 [.lst true [.int .i64] (i64s S)]
def tipN (S : List Int) (k : Nat) : Prop := ∀ j, j < k → (0 ≤ S.getD j 0 ∧ S.getD j 0 ≤ 4194304) ∧ (j = 0 → S.getD j 0 = 0) ∧ (0 < j → S.getD (j - 1) 0 ≤ S.getD j 0)
theorem tipOK_iff (S : List Int) : TipOK S ↔ (1 ≤ S.length ∧ S.length ≤ 64) ∧ tipN S S.length := by
  constructor
  · intro h
    refine ⟨h.len, fun j hj => ⟨h.rng j hj, fun e => by rw [e]; exact h.zero, fun e => ?_⟩⟩
    have := h.mono (j - 1) (by omega)
    rwa [show j - 1 + 1 = j by omega] at this
  · rintro ⟨h1, h2⟩
    exact ⟨h1, (h2 0 (by omega)).2.1 rfl, fun k hk => (h2 k hk).1, fun k hk => (h2 (k + 1) hk).2.2 (by omega)⟩
def lastN (S : List Int) : Nat → Int
  | 0 => 0
  | i + 1 => S.getD i 0
theorem s175 (S : List Int) : HSpec Tryz.prog 175 [tipX S] [] (fun r m' => ∃ e, r = .x (I e) ∧ m' = [] ∧ (e = 0 ↔ TipOK S)) := by
  have ls := i64s_len S
  have hT := tipOK_iff S
  by_cases hl : S.length = 0 ∨ 64 < S.length
  · refine spec_of pMix (O := []) Tryz.func175 (c := bodyOf Tryz.f175) rfl (by kernel_rfl) (by kernel_rfl) Tryz.ntmps175 (res := [.tmp 2]) (by kernel_rfl) ?_
    repeat' ((conv => whnf); first | refine Rng.g ?_ | refine Ob.g ?_ | refine Ob.e ?_ | refine Ob.m ?_ | refine Ob.mk (Nat.le_of_ble_eq_true rfl) ?_ | refine JoinVC.on ?_ | refine Nils.mk (fun h => ?_) ?_ | refine Val.t ?_ | refine Val.d ?_ | refine Mm.mk ?_ | (refine Br.mk (fun h => ?_) (fun h => ?_) <;> first | (exfalso; omega; done) | (exfalso; simp at h; done) | skip))
    all_goals
      repeat refine Mm.mk ?_
      conv => whnf
      refine EndVC.mk _ rfl _ _ (⟨6, rfl, rfl, ⟨fun h => (by cases h), fun hC => (by have := hC.len; omega)⟩⟩) ?_
      refine ⟨[], rfl, rfl, ?_, ?_⟩ <;> repeat' (first | exact trivial | exact rfl | exact Iff.rfl | apply And.intro)
  refine spec_of pMix (O := []) Tryz.func175 (c := bodyOf Tryz.f175) rfl (by kernel_rfl) (by kernel_rfl) Tryz.ntmps175 (res := [.tmp 2]) (by kernel_rfl) ?_
  repeat' ((conv => whnf); first | refine Rng.g ?_ | refine Ob.g ?_ | refine Ob.e ?_ | refine Ob.m ?_ | refine Ob.mk (Nat.le_of_ble_eq_true rfl) ?_ | refine JoinVC.on ?_ | refine Nils.mk (fun h => ?_) ?_ | refine Val.t ?_ | refine Val.d ?_ | refine Mm.mk ?_ | (refine Br.mk (fun h => ?_) (fun h => ?_) <;> first | (exfalso; omega; done) | (exfalso; simp at h; done) | skip))
  refine LoopVC.mk (fun n st => ∃ (i : Nat), i ≤ S.length ∧ n = S.length - i ∧ tipN S i ∧ st = ⟨0, envA 41 [(3, .int .i64 (lastN S i)), (17, .x (lL S)), (18, .int .i64 ((i64s S).length : Int)), (19, .int .i64 (i : Int))], []⟩) _ _ ⟨0, Nat.zero_le _, rfl, fun j hj => absurd hj (Nat.not_lt_zero j), rfl⟩ ?_ ?_
  · refine ⟨[], rfl, rfl, ?_, ?_⟩ <;> repeat' (first | exact trivial | exact rfl | exact Iff.rfl | apply And.intro)
  rintro n _ ⟨i, hi, hn, ht, rfl⟩
  have gx : rI (i64s S) (i : Int).toNat 0 = S.getD i 0 := by rw [Int.toNat_natCast, i64s_get]
  by_cases hi' : i < S.length
  · have hl0 : lastN S (i + 1) = S.getD i 0 := rfl
    have hbad : (S.getD i 0 < lastN S i ∨ 4194304 < S.getD i 0 ∨ (i = 0 ∧ S.getD i 0 ≠ 0)) → ¬ TipOK S := fun hb hC => by
      have h1 := (hT.1 hC).2 i hi'
      cases i with
      | zero =>
        have : lastN S 0 = 0 := rfl
        have := h1.2.1 rfl
        omega
      | succ i =>
        have e : lastN S (i + 1) = S.getD i 0 := rfl
        have h2 := h1.2.2 (by omega)
        rw [show i + 1 - 1 = i by omega] at h2
        omega
    have hgood : ¬ (S.getD i 0 < lastN S i ∨ 4194304 < S.getD i 0 ∨ (i = 0 ∧ S.getD i 0 ≠ 0)) → tipN S (i + 1) := fun hb j hj => by
      rcases Nat.lt_succ_iff_lt_or_eq.1 hj with h' | rfl
      · exact ht j h'
      · cases j with
        | zero =>
          have : lastN S 0 = 0 := rfl
          refine ⟨by omega, fun _ => by omega, fun h => absurd h (Nat.lt_irrefl 0)⟩
        | succ j =>
          have e : lastN S (j + 1) = S.getD j 0 := rfl
          have h1 := (ht j (by omega)).1
          refine ⟨by omega, fun h => by omega, fun _ => ?_⟩
          rw [show j + 1 - 1 = j by omega]
          omega
    by_cases hb : S.getD i 0 < lastN S i ∨ 4194304 < S.getD i 0 ∨ (i = 0 ∧ S.getD i 0 ≠ 0)
    · repeat' ((conv => whnf); first | rw [gx] | refine Rng.g ?_ | refine Ob.g ?_ | refine Ob.e ?_ | refine Ob.m ?_ | refine Ob.mk (Nat.le_of_ble_eq_true rfl) ?_ | refine JoinVC.on ?_ | refine Nils.mk (fun h => ?_) ?_ | refine Val.t ?_ | refine Val.d ?_ | refine Mm.mk ?_ | (refine Br.mk (fun h => ?_) (fun h => ?_) <;> first | (exfalso; omega; done) | (exfalso; simp at h; done) | skip))
      all_goals
        repeat refine Mm.mk ?_
        conv => whnf
        refine EndVC.mk _ rfl _ _ (⟨2, rfl, rfl, ⟨fun h => (by cases h), fun hC => absurd hC (hbad hb)⟩⟩) ?_
        refine ⟨[], rfl, rfl, ?_, ?_⟩ <;> repeat' (first | exact trivial | exact rfl | exact Iff.rfl | apply And.intro)
    · repeat' ((conv => whnf); first | rw [gx] | refine Rng.g ?_ | refine Ob.g ?_ | refine Ob.e ?_ | refine Ob.m ?_ | refine Ob.mk (Nat.le_of_ble_eq_true rfl) ?_ | refine JoinVC.on ?_ | refine Nils.mk (fun h => ?_) ?_ | refine Val.t ?_ | refine Val.d ?_ | refine Mm.mk ?_ | (refine Br.mk (fun h => ?_) (fun h => ?_) <;> first | (exfalso; omega; done) | (exfalso; simp at h; done) | skip))
      all_goals
        refine Back.mk (S.length - (i + 1)) _ (by omega) ⟨i + 1, by omega, rfl, hgood hb, rfl⟩ ?_
        refine ⟨[], rfl, rfl, ?_, ?_⟩ <;> repeat' (first | exact trivial | exact rfl | exact Iff.rfl | apply And.intro)
  · have ei : i = S.length := by omega
    subst ei
    repeat' ((conv => whnf); first | refine Rng.g ?_ | refine Ob.g ?_ | refine Ob.e ?_ | refine Ob.m ?_ | refine Ob.mk (Nat.le_of_ble_eq_true rfl) ?_ | refine JoinVC.on ?_ | refine Nils.mk (fun h => ?_) ?_ | refine Val.t ?_ | refine Val.d ?_ | refine Mm.mk ?_ | (refine Br.mk (fun h => ?_) (fun h => ?_) <;> first | (exfalso; omega; done) | (exfalso; simp at h; done) | skip))
    repeat refine Mm.mk ?_
    conv => whnf
    refine EndVC.mk _ rfl _ _ (⟨0, rfl, rfl, ⟨fun _ => hT.2 ⟨by omega, ht⟩, fun _ => rfl⟩⟩) ?_
    refine ⟨[], rfl, rfl, ?_, ?_⟩ <;> repeat' (first | exact trivial | exact rfl | exact Iff.rfl | apply And.intro)
theorem s158 (S : List Int) (p : List Smp) : HSpec Tryz.prog 158 [tipX S, lS p] [] (fun r m' => ∃ e, r = .x (I e) ∧ m' = [] ∧ (e = 0 ↔ TipOK S ∧ PtsOK p)) := by
  refine spec_of pMix (O := []) Tryz.func158 (c := bodyOf Tryz.f158) rfl (by kernel_rfl) (by kernel_rfl) Tryz.ntmps158 (res := [.tmp 4]) (by kernel_rfl) ?_
  repeat' ((conv => whnf); first | refine Rng.g ?_ | refine Ob.g ?_ | refine Ob.e ?_ | refine Ob.m ?_ | refine Ob.mk (Nat.le_of_ble_eq_true rfl) ?_ | refine JoinVC.on ?_ | refine Nils.mk (fun h => ?_) ?_ | refine Val.t ?_ | refine Val.d ?_ | refine Mm.mk ?_ | (refine Br.mk (fun h => ?_) (fun h => ?_) <;> first | (exfalso; omega; done) | (exfalso; simp at h; done) | skip))
  conv => whnf
  refine CallVC.mk [] _ _ _ rfl rfl rfl (s175 S) (fun r m' h' => ?_)
  obtain ⟨e, rfl, rfl, he⟩ := h'
  conv => whnf
  by_cases h0 : e = 0
  rotate_left
  · repeat' ((conv => whnf); first | refine Rng.g ?_ | refine Ob.g ?_ | refine Ob.e ?_ | refine Ob.m ?_ | refine Ob.mk (Nat.le_of_ble_eq_true rfl) ?_ | refine JoinVC.on ?_ | refine Nils.mk (fun h => ?_) ?_ | refine Val.t ?_ | refine Val.d ?_ | refine Mm.mk ?_ | (refine Br.mk (fun h => ?_) (fun h => ?_) <;> first | (exfalso; omega; done) | (exfalso; simp at h; done) | skip))
    repeat refine Mm.mk ?_
    conv => whnf
    refine EndVC.mk _ rfl _ _ (⟨e, rfl, rfl, ⟨fun h => absurd h h0, fun h => absurd (he.2 h.1) h0⟩⟩) ?_
    refine ⟨[], rfl, rfl, ?_, ?_⟩ <;> repeat' (first | exact trivial | exact rfl | exact Iff.rfl | apply And.intro)
  have hS := he.1 h0
  subst h0
  repeat' ((conv => whnf); first | refine Rng.g ?_ | refine Ob.g ?_ | refine Ob.e ?_ | refine Ob.m ?_ | refine Ob.mk (Nat.le_of_ble_eq_true rfl) ?_ | refine JoinVC.on ?_ | refine Nils.mk (fun h => ?_) ?_ | refine Val.t ?_ | refine Val.d ?_ | refine Mm.mk ?_ | (refine Br.mk (fun h => ?_) (fun h => ?_) <;> first | (exfalso; omega; done) | (exfalso; simp at h; done) | skip))
  conv => whnf
  refine CallVC.mk [] _ _ _ rfl rfl rfl (s153 p) (fun r m' h' => ?_)
  obtain ⟨e2, rfl, rfl, he2⟩ := h'
  conv => whnf
  repeat' ((conv => whnf); first | refine Rng.g ?_ | refine Ob.g ?_ | refine Ob.e ?_ | refine Ob.m ?_ | refine Ob.mk (Nat.le_of_ble_eq_true rfl) ?_ | refine JoinVC.on ?_ | refine Nils.mk (fun h => ?_) ?_ | refine Val.t ?_ | refine Val.d ?_ | refine Mm.mk ?_ | (refine Br.mk (fun h => ?_) (fun h => ?_) <;> first | (exfalso; omega; done) | (exfalso; simp at h; done) | skip))
  repeat refine Mm.mk ?_
  conv => whnf
  refine EndVC.mk _ rfl _ _ (⟨e2, rfl, rfl, ⟨fun h => ⟨hS, he2.1 h⟩, fun h => he2.2 h.2⟩⟩) ?_
  refine ⟨[], rfl, rfl, ?_, ?_⟩ <;> repeat' (first | exact trivial | exact rfl | exact Iff.rfl | apply And.intro)
end Go.Sx

namespace Go.Sx
open Go Go.Proofs
set_option maxRecDepth 10000
set_option maxHeartbeats 8000000
theorem m_ou_of : mthF Tryz.prog 378 "deadwax/play.of" = some 400 := by kernel_rfl
theorem m_ou_bk : mthF Tryz.prog 378 "deadwax/play.back" = some 399 := by kernel_rfl
theorem m_in_of : mthF Tryz.prog 379 "deadwax/play.of" = some 402 := by kernel_rfl
theorem m_in_bk : mthF Tryz.prog 379 "deadwax/play.back" = some 401 := by kernel_rfl
theorem s399 (n : Int) : PSpec Tryz.prog 399 [.agg [], I n] (.x (I n)) := by
  refine spec_of pMix (O := []) Tryz.func399 (c := bodyOf Tryz.f399) rfl (by kernel_rfl) (by kernel_rfl) Tryz.ntmps399 (res := [.tmp 4]) (by kernel_rfl) ?_
  repeat' ((conv => whnf); first | refine Rng.g ?_ | refine Ob.g ?_ | refine Ob.e ?_ | refine Ob.m ?_ | refine Ob.mk (Nat.le_of_ble_eq_true rfl) ?_ | refine JoinVC.on ?_ | refine Nils.mk (fun h => ?_) ?_ | refine Val.t ?_ | refine Val.d ?_ | refine Mm.mk ?_ | (refine Br.mk (fun h => ?_) (fun h => ?_) <;> first | (exfalso; omega; done) | (exfalso; simp at h; done) | skip))
  repeat refine Mm.mk ?_
  refine EndVC.mk _ rfl _ _ ⟨rfl, rfl⟩ ?_
  refine ⟨[], rfl, rfl, ?_, ?_⟩ <;> repeat' (first | exact trivial | exact rfl | exact Iff.rfl | apply And.intro)
theorem s400 (s : Smp) : PSpec Tryz.prog 400 [.agg [], s.x] (.x (I s.r)) := by
  refine spec_of pMix (O := []) Tryz.func400 (c := bodyOf Tryz.f400) rfl (by kernel_rfl) (by kernel_rfl) Tryz.ntmps400 (res := [.tmp 4]) (by kernel_rfl) ?_
  repeat' ((conv => whnf); first | refine Rng.g ?_ | refine Ob.g ?_ | refine Ob.e ?_ | refine Ob.m ?_ | refine Ob.mk (Nat.le_of_ble_eq_true rfl) ?_ | refine JoinVC.on ?_ | refine Nils.mk (fun h => ?_) ?_ | refine Val.t ?_ | refine Val.d ?_ | refine Mm.mk ?_ | (refine Br.mk (fun h => ?_) (fun h => ?_) <;> first | (exfalso; omega; done) | (exfalso; simp at h; done) | skip))
  repeat refine Mm.mk ?_
  refine EndVC.mk _ rfl _ _ ⟨rfl, rfl⟩ ?_
  refine ⟨[], rfl, rfl, ?_, ?_⟩ <;> repeat' (first | exact trivial | exact rfl | exact Iff.rfl | apply And.intro)
theorem s401 (n : Int) (hn : -1000000000 ≤ n ∧ n ≤ 1000000000) : PSpec Tryz.prog 401 [.agg [], I n] (.x (I (0 - n))) := by
  refine spec_of pMix (O := []) Tryz.func401 (c := bodyOf Tryz.f401) rfl (by kernel_rfl) (by kernel_rfl) Tryz.ntmps401 (res := [.tmp 4]) (by kernel_rfl) ?_
  repeat' ((conv => whnf); first | refine Rng.g ?_ | refine Ob.g ?_ | refine Ob.e ?_ | refine Ob.m ?_ | refine Ob.mk (Nat.le_of_ble_eq_true rfl) ?_ | refine JoinVC.on ?_ | refine Nils.mk (fun h => ?_) ?_ | refine Val.t ?_ | refine Val.d ?_ | refine Mm.mk ?_ | (refine Br.mk (fun h => ?_) (fun h => ?_) <;> first | (exfalso; omega; done) | (exfalso; simp at h; done) | skip))
  repeat refine Mm.mk ?_
  refine EndVC.mk _ rfl _ _ ⟨rfl, rfl⟩ ?_
  refine ⟨[], rfl, rfl, ?_, ?_⟩ <;> repeat' (first | exact trivial | exact rfl | exact Iff.rfl | apply And.intro)
theorem s402 (s : Smp) (hn : -1000000000 ≤ s.l ∧ s.l ≤ 1000000000) : PSpec Tryz.prog 402 [.agg [], s.x] (.x (I (0 - s.l))) := by
  refine spec_of pMix (O := []) Tryz.func402 (c := bodyOf Tryz.f402) rfl (by kernel_rfl) (by kernel_rfl) Tryz.ntmps402 (res := [.tmp 4]) (by kernel_rfl) ?_
  repeat' ((conv => whnf); first | refine Rng.g ?_ | refine Ob.g ?_ | refine Ob.e ?_ | refine Ob.m ?_ | refine Ob.mk (Nat.le_of_ble_eq_true rfl) ?_ | refine JoinVC.on ?_ | refine Nils.mk (fun h => ?_) ?_ | refine Val.t ?_ | refine Val.d ?_ | refine Mm.mk ?_ | (refine Br.mk (fun h => ?_) (fun h => ?_) <;> first | (exfalso; omega; done) | (exfalso; simp at h; done) | skip))
  repeat refine Mm.mk ?_
  refine EndVC.mk _ rfl _ _ ⟨rfl, rfl⟩ ?_
  refine ⟨[], rfl, rfl, ?_, ?_⟩ <;> repeat' (first | exact trivial | exact rfl | exact Iff.rfl | apply And.intro)
/-! ### What is near -/
theorem s177 (i n m : Int) : HSpec Tryz.prog 177 [I i, I n, I m] [] (fun r m' => r = .x (.one (.fn 260 [(0, 0), (2, 0), (1, 0)])) ∧ m' = [some (.box 3 [.int .i64 i]), some (.box 3 [.int .i64 n]), some (.box 3 [.int .i64 m])]) := by
  refine spec_of pMix (O := []) Tryz.func177 (c := bodyOf Tryz.f177) rfl (by kernel_rfl) (by kernel_rfl) Tryz.ntmps177 (res := [.tmp 6]) (by kernel_rfl) ?_
  repeat' ((conv => whnf); first | refine Rng.g ?_ | refine Ob.g ?_ | refine Ob.e ?_ | refine Ob.m ?_ | refine Ob.mk (Nat.le_of_ble_eq_true rfl) ?_ | refine JoinVC.on ?_ | refine Nils.mk (fun h => ?_) ?_ | refine Val.t ?_ | refine Val.d ?_ | refine Mm.mk ?_ | (refine Br.mk (fun h => ?_) (fun h => ?_) <;> first | (exfalso; omega; done) | (exfalso; simp at h; done) | skip))
  repeat refine Mm.mk ?_
  conv => whnf
  refine EndVC.mk _ rfl _ _ (⟨rfl, rfl⟩) ?_
  refine ⟨[some 0, some 1, some 2], rfl, rfl, ?_, ?_⟩ <;> repeat' (first | exact trivial | exact rfl | exact Iff.rfl | apply And.intro)
theorem s246 (a b : Int) : PSpec Tryz.prog 246 [I a, I b] (xP (a < b)) := by
  refine spec_of pMix (O := []) Tryz.func246 (c := bodyOf Tryz.f246) rfl (by kernel_rfl) (by kernel_rfl) Tryz.ntmps246 (res := [.tmp 4]) (by kernel_rfl) ?_
  repeat' ((conv => whnf); first | refine Rng.g ?_ | refine Ob.g ?_ | refine Ob.e ?_ | refine Ob.m ?_ | refine Ob.mk (Nat.le_of_ble_eq_true rfl) ?_ | refine JoinVC.on ?_ | refine Nils.mk (fun h => ?_) ?_ | refine Val.t ?_ | refine Val.d ?_ | refine Mm.mk ?_ | (refine Br.mk (fun h => ?_) (fun h => ?_) <;> first | (exfalso; omega; done) | (exfalso; simp at h; done) | skip))
  repeat refine Mm.mk ?_
  refine EndVC.mk _ rfl _ _ ⟨rfl, rfl⟩ ?_
  refine ⟨[], rfl, rfl, ?_, ?_⟩ <;> repeat' (first | exact trivial | exact rfl | exact Iff.rfl | apply And.intro)
end Go.Sx

namespace Go.Sx
open Go Go.Proofs
set_option maxRecDepth 10000
set_option maxHeartbeats 16000000
theorem e260 : EntersF Tryz.prog 260 := enters_of Tryz.func260 (c := bodyOf Tryz.f260) (by kernel_rfl) rfl
theorem e243 : EntersF Tryz.prog 243 := enters_of Tryz.func243 (c := bodyOf Tryz.f243) (by kernel_rfl) rfl
/-! ### A walk with a tip: the rounds of 'fold' and of the walk -/
noncomputable def rf244 : Code := cB (cS (cF (cS (bodyOf Tryz.f244))))
noncomputable def rf243 : Code := cB (cS (cS (bodyOf Tryz.f243)))
/-- The better of two. -/
def btF (sg : Bool) (x a : Int) : Int := match sg with
  | true => if x > a then x else a
  | false => if x < a then x else a
def btN : Bool → FuncId
  | true => 245
  | false => 246
@[reducible] noncomputable def MA7 (S H : List Int) (sg : Bool) (i a0 a : Int) : List (Option Blk) := [some (.box 3 [.int .i64 i]), some (.box 37 [.lst true [.int .i64] (i64s H)]), some (bTip S), some (.box 4 [bv sg]), some (.box 2 [.int .i64 a]), some (.box 382 [.fn (btN sg) []]), some (.loop [9] (cAs rf244) (cBo rf244) (envA 16 [(0, .x (I a0)), (1, .x (.one (.fn 243 [(0, 0), (1, 0), (2, 0), (3, 0)]))), (2, .x (.one (.fn (btN sg) []))), (3, .x (.one (.ptr 4 0))), (5, .x (.one (.ptr 5 0))), (6, .x (I 0)), (8, .x (.one (.fn 243 [(0, 0), (1, 0), (2, 0), (3, 0)])))]) .ready)]
@[reducible] noncomputable def MA12 (S H : List Int) (sg : Bool) (i a0 a : Int) : List (Option Blk) := [some (.box 3 [.int .i64 i]), some (.box 37 [.lst true [.int .i64] (i64s H)]), some (bTip S), some (.box 4 [bv sg]), some (.box 2 [.int .i64 a]), some (.box 382 [.fn (btN sg) []]), some (.loop [9] (cAs rf244) (cBo rf244) (envA 16 [(0, .x (I a0)), (1, .x (.one (.fn 243 [(0, 0), (1, 0), (2, 0), (3, 0)]))), (2, .x (.one (.fn (btN sg) []))), (3, .x (.one (.ptr 4 0))), (5, .x (.one (.ptr 5 0))), (6, .x (I 0)), (8, .x (.one (.fn 243 [(0, 0), (1, 0), (2, 0), (3, 0)])))]) .ready), some (.box 213 [.yld 6]), some (.box 3 [.int .i64 i]), some (.box 3 [.int .i64 (H.length : Int)]), some (.box 3 [.int .i64 (S.length : Int)]), some (.loop [16, 17] (cAs rf243) (cBo rf243) (envA 35 [(0, .x (.one (.yld 6))), (1, .x (.one (.ptr 0 0))), (2, .x (.one (.ptr 1 0))), (3, .x (.one (.ptr 2 0))), (4, .x (.one (.ptr 3 0))), (5, .x (.one (.ptr 7 0))), (9, .x (I i)), (10, .x (lL H)), (11, .x (I (H.length : Int))), (12, .x (.one (.ptr 2 0))), (13, .x (lL S)), (14, .x (I (S.length : Int))), (15, .x (.one (.fn 260 [(8, 0), (10, 0), (9, 0)])))]) .ready)]
@[reducible] noncomputable def MAb (S H : List Int) (sg : Bool) (i a0 a : Int) : List (Option Blk) := [some (.box 3 [.int .i64 i]), some (.box 37 [.lst true [.int .i64] (i64s H)]), some (bTip S), some (.box 4 [bv sg]), some (.box 2 [.int .i64 a]), some (.box 382 [.fn (btN sg) []]), some (.loop [9] (cAs rf244) (cBo rf244) (envA 16 [(0, .x (I a0)), (1, .x (.one (.fn 243 [(0, 0), (1, 0), (2, 0), (3, 0)]))), (2, .x (.one (.fn (btN sg) []))), (3, .x (.one (.ptr 4 0))), (5, .x (.one (.ptr 5 0))), (6, .x (I 0)), (8, .x (.one (.fn 243 [(0, 0), (1, 0), (2, 0), (3, 0)])))]) .ready), some (.box 213 [.yld 6]), some (.box 3 [.int .i64 i]), some (.box 3 [.int .i64 (H.length : Int)]), some (.box 3 [.int .i64 (S.length : Int)]), some (.loop [16, 17] (cAs rf243) (cBo rf243) (envA 35 [(0, .x (.one (.yld 6))), (1, .x (.one (.ptr 0 0))), (2, .x (.one (.ptr 1 0))), (3, .x (.one (.ptr 2 0))), (4, .x (.one (.ptr 3 0))), (5, .x (.one (.ptr 7 0))), (9, .x (I i)), (10, .x (lL H)), (11, .x (I (H.length : Int))), (12, .x (.one (.ptr 2 0))), (13, .x (lL S)), (14, .x (I (S.length : Int))), (15, .x (.one (.fn 260 [(8, 0), (10, 0), (9, 0)])))]) .busy)]
/-- A round of 'fold', within a round of the walk. -/
theorem rnd244 (S H : List Int) (i a0 a x : Int) : RSem Tryz.prog 6 [I x] (MAb S H false i a0 a) (fun bb m' => bb = true ∧ m' = MAb S H false i a0 (btF false x a)) := by
  refine RSem.le (rsem_of_awp (Q := fun bb m' => ∃ m2, (bb = true ∧ m2 = MAb S H false i a0 (btF false x a)) ∧ Le ⟨(MAb S H false i a0 a).length, [], m'⟩ ⟨(MAb S H false i a0 a).length, [], m2⟩) pMix [] rfl (by kernel_rfl) ?_) (fun bb m' h => by obtain ⟨m2, h1, h2⟩ := h; exact ⟨m2, h1, h2⟩)
  have k := s246 x a
  by_cases hc : x < a
  · have e1 : btF false x a = x := if_pos hc
    rw [e1]
    repeat' ((conv => whnf); first | refine Rng.g ?_ | refine Ob.g ?_ | refine Ob.e ?_ | refine Ob.m ?_ | refine Ob.mk (Nat.le_of_ble_eq_true rfl) ?_ | refine JoinVC.on ?_ | refine Nils.mk (fun h => ?_) ?_ | refine Val.t ?_ | refine Val.d ?_ | refine Mm.mk ?_ | refine CallVC.pure rfl (k) ?_ | refine CallVC0.pure rfl (k) ?_ | (refine Br.mk (fun h => ?_) (fun h => ?_) <;> first | (exfalso; omega; done) | (exfalso; simp at h; done) | skip))
    refine ⟨_, ⟨rfl, rfl⟩, [some 0, some 1, some 2, some 3, some 4, some 5, some 6, some 7, some 8, some 9, some 10, some 11], rfl, rfl, ?_, ?_⟩ <;> repeat' (first | exact trivial | exact rfl | exact Iff.rfl | apply And.intro)
  · have e1 : btF false x a = a := if_neg hc
    rw [e1]
    repeat' ((conv => whnf); first | refine Rng.g ?_ | refine Ob.g ?_ | refine Ob.e ?_ | refine Ob.m ?_ | refine Ob.mk (Nat.le_of_ble_eq_true rfl) ?_ | refine JoinVC.on ?_ | refine Nils.mk (fun h => ?_) ?_ | refine Val.t ?_ | refine Val.d ?_ | refine Mm.mk ?_ | refine CallVC.pure rfl (k) ?_ | refine CallVC0.pure rfl (k) ?_ | (refine Br.mk (fun h => ?_) (fun h => ?_) <;> first | (exfalso; omega; done) | (exfalso; simp at h; done) | skip))
    refine ⟨_, ⟨rfl, rfl⟩, [some 0, some 1, some 2, some 3, some 4, some 5, some 6, some 7, some 8, some 9, some 10, some 11], rfl, rfl, ?_, ?_⟩ <;> repeat' (first | exact trivial | exact rfl | exact Iff.rfl | apply And.intro)
/-- A round of the walk: what is at a place that is near. -/
theorem rnd243 (S H : List Int) (i a0 a : Int) (u d : Nat) (hu : u < H.length) (hd : d < S.length) (hH : ∀ j, -100000000 ≤ H.getD j 0 ∧ H.getD j 0 ≤ 100000000) (hS : ∀ j, 0 ≤ S.getD j 0 ∧ S.getD j 0 ≤ 4194304) : RSem Tryz.prog 11 [I (u : Int), I (d : Int)] (MA12 S H false i a0 a) (fun bb m' => bb = true ∧ m' = MA12 S H false i a0 (btF false (H.getD u 0 + S.getD d 0) a)) := by
  have lH := i64s_len H
  have lS := i64s_len S
  have gH : rI (i64s H) (u : Int).toNat 0 = H.getD u 0 := by rw [Int.toNat_natCast, i64s_get]
  have gS : rI (i64s S) (d : Int).toNat 0 = S.getD d 0 := by rw [Int.toNat_natCast, i64s_get]
  have bH := hH u
  have bS := hS d
  refine RSem.le (rsem_of_awp (Q := fun bb m' => ∃ m2, (bb = true ∧ m2 = MA12 S H false i a0 (btF false (H.getD u 0 + S.getD d 0) a)) ∧ Le ⟨(MA12 S H false i a0 a).length, [], m'⟩ ⟨(MA12 S H false i a0 a).length, [], m2⟩) pMix [] rfl (by kernel_rfl) ?_) (fun bb m' h => by obtain ⟨m2, h1, h2⟩ := h; exact ⟨m2, h1, h2⟩)
  repeat' ((conv => whnf); first | rw [gH] | rw [gS] | refine Rng.g ?_ | refine Ob.g ?_ | refine Ob.e ?_ | refine Ob.m ?_ | refine Ob.mk (Nat.le_of_ble_eq_true rfl) ?_ | refine JoinVC.on ?_ | refine Nils.mk (fun h => ?_) ?_ | refine Val.t ?_ | refine Val.d ?_ | refine Mm.mk ?_ | (refine Br.mk (fun h => ?_) (fun h => ?_) <;> first | (exfalso; omega; done) | (exfalso; simp at h; done) | skip))
  refine YieldVC.of (rnd244 S H i a0 a (H.getD u 0 + S.getD d 0)) ?_
  repeat' ((conv => whnf); first | refine Rng.g ?_ | refine Ob.g ?_ | refine Ob.e ?_ | refine Ob.m ?_ | refine Ob.mk (Nat.le_of_ble_eq_true rfl) ?_ | refine JoinVC.on ?_ | refine Nils.mk (fun h => ?_) ?_ | refine Val.t ?_ | refine Val.d ?_ | refine Mm.mk ?_ | (refine Br.mk (fun h => ?_) (fun h => ?_) <;> first | (exfalso; omega; done) | (exfalso; simp at h; done) | skip))
  refine ⟨_, ⟨rfl, rfl⟩, [some 0, some 1, some 2, some 3, some 4, some 5, some 6, some 7, some 8, some 9, some 10, some 11], rfl, rfl, ?_, ?_⟩ <;> repeat' (first | exact trivial | exact rfl | exact Iff.rfl | apply And.intro)
/-- What is near: the places that a tip reaches. -/
def lo0 (i : Nat) (m : Nat) : Nat := i + 1 - m
theorem win_succ (i k m : Nat) : winL i (k + 1) m = winL i k m ++ (if i < k + m ∧ k < i + m then [k] else []) := by
  unfold winL
  rw [List.range_succ, List.filter_append]
  by_cases h : i < k + m ∧ k < i + m
  · simp [h]
  · simp [h]
theorem win_lo (i m : Nat) : ∀ k, k ≤ lo0 i m → winL i k m = []
  | 0, _ => rfl
  | k + 1, h => by
    unfold lo0 at h
    rw [win_succ, win_lo i m k (by unfold lo0; omega), if_neg (by omega)]
    rfl
theorem win_hi (i m h : Nat) (hh : i + m ≤ h) : ∀ d, winL i (h + d) m = winL i h m
  | 0 => rfl
  | d + 1 => by
    rw [show h + (d + 1) = h + d + 1 by omega, win_succ, win_hi i m h hh d, if_neg (by omega)]
    simp
theorem it260 (S H : List Int) (i : Nat) (a0 a : Int) (hi : i < H.length) (hH4 : H.length ≤ 4096) (hS6 : 1 ≤ S.length ∧ S.length ≤ 64) (hH : ∀ j, -100000000 ≤ H.getD j 0 ∧ H.getD j 0 ≤ 100000000) (hS : ∀ j, 0 ≤ S.getD j 0 ∧ S.getD j 0 ≤ 4194304) : ISem Tryz.prog 260 [.one (.yld 11), .one (.ptr 8 0), .one (.ptr 10 0), .one (.ptr 9 0)] (MA12 S H false (i : Int) a0 a) (fun m' => ∃ z, z = ((winL i H.length S.length).map fun u => H.getD u 0 + S.getD (dst i u) 0).foldl (fun a x => btF false x a) a ∧ m' = MA12 S H false (i : Int) a0 z) := by
  refine ISem.le (isem_of_awp (Q := fun m' => ∃ m2, (∃ z, z = ((winL i H.length S.length).map fun u => H.getD u 0 + S.getD (dst i u) 0).foldl (fun a x => btF false x a) a ∧ m2 = MA12 S H false (i : Int) a0 z) ∧ Le ⟨(MA12 S H false (i : Int) a0 a).length, [], m'⟩ ⟨(MA12 S H false (i : Int) a0 a).length, [], m2⟩) pMix [] Tryz.func260 (c := bodyOf Tryz.f260) rfl (by kernel_rfl) Tryz.ntmps260 (by kernel_rfl) ?_) (fun _ h => h)
  repeat' ((conv => whnf); first | refine Rng.g ?_ | refine Ob.g ?_ | refine Ob.e ?_ | refine Ob.m ?_ | refine Ob.mk (Nat.le_of_ble_eq_true rfl) ?_ | refine JoinVC.on ?_ | refine Nils.mk (fun h => ?_) ?_ | refine Val.t ?_ | refine Val.d ?_ | (refine Br.mk (fun h => ?_) (fun h => ?_) <;> first | (exfalso; omega; done) | (exfalso; simp at h; done) | skip))
  conv => whnf
  refine Mm.nm (fun st hst => ?_)
  have hst2 : st = ((lo0 i S.length : Nat) : Int) := by rw [hst]; unfold lo0; split <;> omega
  clear hst
  subst hst2
  repeat' ((conv => whnf); first | refine Rng.g ?_ | refine Ob.g ?_ | refine Ob.e ?_ | refine Ob.m ?_ | refine Ob.mk (Nat.le_of_ble_eq_true rfl) ?_ | refine JoinVC.on ?_ | refine Nils.mk (fun h => ?_) ?_ | refine Val.t ?_ | refine Val.d ?_ | refine Mm.mk ?_ | (refine Br.mk (fun h => ?_) (fun h => ?_) <;> first | (exfalso; omega; done) | (exfalso; simp at h; done) | skip))
  refine LoopVC.mk (fun n st => ∃ (k : Nat) (z : Int), lo0 i S.length ≤ k ∧ k ≤ H.length ∧ k ≤ i + S.length ∧ n = H.length - k ∧ z = ((winL i k S.length).map fun u => H.getD u 0 + S.getD (dst i u) 0).foldl (fun a x => btF false x a) a ∧ st = ⟨12, envA 31 [(0, .x (.one (.yld 11))), (1, .x (.one (.ptr 8 0))), (2, .x (.one (.ptr 10 0))), (3, .x (.one (.ptr 9 0))), (5, .int .i64 (k : Int))], [some (.box 3 [.int .i64 (i : Int)]), some (.box 37 [.lst true [.int .i64] (i64s H)]), some (bTip S), some (.box 4 [.ff]), some (.box 2 [.int .i64 z]), some (.box 382 [.fn (btN false) []]), some (.loop [9] (cAs rf244) (cBo rf244) (envA 16 [(0, .x (I a0)), (1, .x (.one (.fn 243 [(0, 0), (1, 0), (2, 0), (3, 0)]))), (2, .x (.one (.fn (btN false) []))), (3, .x (.one (.ptr 4 0))), (5, .x (.one (.ptr 5 0))), (6, .x (I 0)), (8, .x (.one (.fn 243 [(0, 0), (1, 0), (2, 0), (3, 0)])))]) .ready), some (.box 213 [.yld 6]), some (.box 3 [.int .i64 (i : Int)]), some (.box 3 [.int .i64 (H.length : Int)]), some (.box 3 [.int .i64 (S.length : Int)]), some (.loop [16, 17] (cAs rf243) (cBo rf243) (envA 35 [(0, .x (.one (.yld 6))), (1, .x (.one (.ptr 0 0))), (2, .x (.one (.ptr 1 0))), (3, .x (.one (.ptr 2 0))), (4, .x (.one (.ptr 3 0))), (5, .x (.one (.ptr 7 0))), (9, .x (I (i : Int))), (10, .x (lL H)), (11, .x (I (H.length : Int))), (12, .x (.one (.ptr 2 0))), (13, .x (lL S)), (14, .x (I (S.length : Int))), (15, .x (.one (.fn 260 [(8, 0), (10, 0), (9, 0)])))]) .ready)]⟩) _ _ ⟨lo0 i S.length, a, Nat.le_refl _, by unfold lo0; omega, by unfold lo0; omega, rfl, by rw [win_lo _ _ _ (Nat.le_refl _)]; rfl, rfl⟩ ?_ ?_
  · refine ⟨[some 0, some 1, some 2, some 3, some 4, some 5, some 6, some 7, some 8, some 9, some 10, some 11], rfl, rfl, ?_, ?_⟩ <;> repeat' (first | exact trivial | exact rfl | exact Iff.rfl | apply And.intro)
  rintro n _ ⟨k, z, hk1, hk2, hk3, hn, hz, rfl⟩
  unfold lo0 at hk1
  by_cases hk : k < H.length ∧ k < i + S.length
  · repeat' ((conv => whnf); first | refine Rng.g ?_ | refine Ob.g ?_ | refine Ob.e ?_ | refine Ob.m ?_ | refine Ob.mk (Nat.le_of_ble_eq_true rfl) ?_ | refine JoinVC.on ?_ | refine Nils.mk (fun h => ?_) ?_ | refine Val.t ?_ | refine Val.d ?_ | (refine Br.mk (fun h => ?_) (fun h => ?_) <;> first | (exfalso; omega; done) | (exfalso; simp at h; done) | skip))
    conv => whnf
    refine Mm.nm (fun e0 he0 => ?_)
    have he3 : (k : Int) < e0 := by rw [he0]; split <;> omega
    clear he0
    repeat' ((conv => whnf); first | refine Rng.g ?_ | refine Ob.g ?_ | refine Ob.e ?_ | refine Ob.m ?_ | refine Ob.mk (Nat.le_of_ble_eq_true rfl) ?_ | refine JoinVC.on ?_ | refine Nils.mk (fun h => ?_) ?_ | refine Val.t ?_ | refine Val.d ?_ | (refine Br.mk (fun h => ?_) (fun h => ?_) <;> first | (exfalso; omega; done) | (exfalso; simp at h; done) | skip))
    conv => whnf
    refine Mm.nm (fun e1 he1 => ?_)
    have he2 : e1 = ((dst i k : Nat) : Int) := by rw [he1]; unfold dst; split <;> split <;> omega
    clear he1
    have hd : dst i k < S.length := by unfold dst; split <;> omega
    subst he2
    repeat' ((conv => whnf); first | refine Rng.g ?_ | refine Ob.g ?_ | refine Ob.e ?_ | refine Ob.m ?_ | refine Ob.mk (Nat.le_of_ble_eq_true rfl) ?_ | refine JoinVC.on ?_ | refine Nils.mk (fun h => ?_) ?_ | refine Val.t ?_ | refine Val.d ?_ | refine Mm.mk ?_ | (refine Br.mk (fun h => ?_) (fun h => ?_) <;> first | (exfalso; omega; done) | (exfalso; simp at h; done) | skip))
    refine YieldVC.of (rnd243 S H i a0 z k (dst i k) hk.1 hd hH hS) ?_
    repeat' ((conv => whnf); first | refine Rng.g ?_ | refine Ob.g ?_ | refine Ob.e ?_ | refine Ob.m ?_ | refine Ob.mk (Nat.le_of_ble_eq_true rfl) ?_ | refine JoinVC.on ?_ | refine Nils.mk (fun h => ?_) ?_ | refine Val.t ?_ | refine Val.d ?_ | refine Mm.mk ?_ | (refine Br.mk (fun h => ?_) (fun h => ?_) <;> first | (exfalso; omega; done) | (exfalso; simp at h; done) | skip))
    refine Back.mk (H.length - (k + 1)) _ (by omega) ⟨k + 1, btF false (H.getD k 0 + S.getD (dst i k) 0) z, by unfold lo0; omega, by omega, by omega, rfl, ?_, rfl⟩ ?_
    · rw [win_succ, if_pos (by omega), List.map_append, List.foldl_append, ← hz]
      rfl
    · refine ⟨[some 0, some 1, some 2, some 3, some 4, some 5, some 6, some 7, some 8, some 9, some 10, some 11], rfl, rfl, ?_, ?_⟩ <;> repeat' (first | exact trivial | exact rfl | exact Iff.rfl | apply And.intro)
  · repeat' ((conv => whnf); first | refine Rng.g ?_ | refine Ob.g ?_ | refine Ob.e ?_ | refine Ob.m ?_ | refine Ob.mk (Nat.le_of_ble_eq_true rfl) ?_ | refine JoinVC.on ?_ | refine Nils.mk (fun h => ?_) ?_ | refine Val.t ?_ | refine Val.d ?_ | (refine Br.mk (fun h => ?_) (fun h => ?_) <;> first | (exfalso; omega; done) | (exfalso; simp at h; done) | skip))
    conv => whnf
    refine Mm.nm (fun e0 he0 => ?_)
    have he3 : ¬ (k : Int) < e0 := by rw [he0]; split <;> omega
    clear he0
    have hw : winL i k S.length = winL i H.length S.length := by
      rcases Nat.lt_or_ge k H.length with h | h
      · have h2 := win_hi i S.length k (by omega) (H.length - k)
        rw [show k + (H.length - k) = H.length by omega] at h2
        exact h2.symm
      · rw [show k = H.length by omega]
    rw [hw] at hz
    repeat' ((conv => whnf); first | refine Rng.g ?_ | refine Ob.g ?_ | refine Ob.e ?_ | refine Ob.m ?_ | refine Ob.mk (Nat.le_of_ble_eq_true rfl) ?_ | refine JoinVC.on ?_ | refine Nils.mk (fun h => ?_) ?_ | refine Val.t ?_ | refine Val.d ?_ | refine Mm.mk ?_ | (refine Br.mk (fun h => ?_) (fun h => ?_) <;> first | (exfalso; omega; done) | (exfalso; simp at h; done) | skip))
    refine ⟨_, ⟨z, hz, rfl⟩, [some 0, some 1, some 2, some 3, some 4, some 5, some 6, some 7, some 8, some 9, some 10, some 11], rfl, rfl, ?_, ?_⟩ <;> repeat' (first | exact trivial | exact rfl | exact Iff.rfl | apply And.intro)
end Go.Sx

namespace Go.Sx
open Go Go.Proofs
set_option maxRecDepth 10000
set_option maxHeartbeats 16000000
@[reducible] def wkL (S H : List Int) (i : Nat) : List Int := (winL i H.length S.length).map fun u => H.getD u 0 + S.getD (dst i u) 0
theorem it243 (S H : List Int) (i : Nat) (a0 a : Int) (hi : i < H.length) (hH4 : H.length ≤ 4096) (hS6 : 1 ≤ S.length ∧ S.length ≤ 64) (hH : ∀ j, -100000000 ≤ H.getD j 0 ∧ H.getD j 0 ≤ 100000000) (hS : ∀ j, 0 ≤ S.getD j 0 ∧ S.getD j 0 ≤ 4194304) : ISem Tryz.prog 243 [.one (.yld 6), .one (.ptr 0 0), .one (.ptr 1 0), .one (.ptr 2 0), .one (.ptr 3 0)] (MA7 S H false (i : Int) a0 a) (fun m' => ∃ z, z = (wkL S H i).foldl (fun a x => btF false x a) a ∧ m' = MA7 S H false (i : Int) a0 z) := by
  have lH := i64s_len H
  have lS := i64s_len S
  refine ISem.le (isem_of_awp (Q := fun m' => ∃ m2, (∃ z, z = (wkL S H i).foldl (fun a x => btF false x a) a ∧ m2 = MA7 S H false (i : Int) a0 z) ∧ Le ⟨(MA7 S H false (i : Int) a0 a).length, [], m'⟩ ⟨(MA7 S H false (i : Int) a0 a).length, [], m2⟩) pMix [] Tryz.func243 (c := bodyOf Tryz.f243) rfl (by kernel_rfl) Tryz.ntmps243 (by kernel_rfl) ?_) (fun _ h => h)
  repeat' ((conv => whnf); first | rw [lH] | rw [lS] | refine Rng.g ?_ | refine Ob.g ?_ | refine Ob.e ?_ | refine Ob.m ?_ | refine Ob.mk (Nat.le_of_ble_eq_true rfl) ?_ | refine JoinVC.on ?_ | refine Nils.mk (fun h => ?_) ?_ | refine Val.t ?_ | refine Val.d ?_ | refine Mm.mk ?_ | (refine Br.mk (fun h => ?_) (fun h => ?_) <;> first | (exfalso; omega; done) | (exfalso; simp at h; done) | skip))
  conv => whnf
  refine CallVC.mk [] _ _ _ rfl rfl rfl (s177 i H.length S.length) (fun r m' h' => ?_)
  obtain ⟨rfl, rfl⟩ := h'
  conv => whnf
  repeat' ((conv => whnf); first | refine Rng.g ?_ | refine Ob.g ?_ | refine Ob.e ?_ | refine Ob.m ?_ | refine Ob.mk (Nat.le_of_ble_eq_true rfl) ?_ | refine JoinVC.on ?_ | refine Nils.mk (fun h => ?_) ?_ | refine Val.t ?_ | refine Val.d ?_ | refine Mm.mk ?_ | (refine Br.mk (fun h => ?_) (fun h => ?_) <;> first | (exfalso; omega; done) | (exfalso; simp at h; done) | skip))
  change RangeVC _ _ _ _ _
  refine RangeVC.of e260 (it260 S H i a0 a hi hH4 hS6 hH hS) ?_
  rintro _ ⟨z, hz, rfl⟩
  repeat' ((conv => whnf); first | refine Rng.g ?_ | refine Ob.g ?_ | refine Ob.e ?_ | refine Ob.m ?_ | refine Ob.mk (Nat.le_of_ble_eq_true rfl) ?_ | refine JoinVC.on ?_ | refine Nils.mk (fun h => ?_) ?_ | refine Val.t ?_ | refine Val.d ?_ | refine Mm.mk ?_ | (refine Br.mk (fun h => ?_) (fun h => ?_) <;> first | (exfalso; omega; done) | (exfalso; simp at h; done) | skip))
  refine ⟨_, ⟨z, hz, rfl⟩, [some 0, some 1, some 2, some 3, some 4, some 5, some 6], rfl, rfl, ?_, ?_⟩ <;> repeat' (first | exact trivial | exact rfl | exact Iff.rfl | apply And.intro)
/-- What is least near a place: 'fold' over the walk. -/
theorem s244 (S H : List Int) (i : Nat) (a : Int) (hi : i < H.length) (hH4 : H.length ≤ 4096) (hS6 : 1 ≤ S.length ∧ S.length ≤ 64) (hH : ∀ j, -100000000 ≤ H.getD j 0 ∧ H.getD j 0 ≤ 100000000) (hS : ∀ j, 0 ≤ S.getD j 0 ∧ S.getD j 0 ≤ 4194304) : HSpec Tryz.prog 244 [I a, .one (.fn 243 [(0, 0), (1, 0), (2, 0), (3, 0)]), .one (.fn 246 [])] [.box 3 [.int .i64 (i : Int)], .box 37 [.lst true [.int .i64] (i64s H)], bTip S, .box 4 [.ff]] (fun r m' => ∃ z, z = (wkL S H i).foldl (fun a x => btF false x a) a ∧ r = .x (I z) ∧ m' = [some (.box 3 [.int .i64 (i : Int)]), some (.box 37 [.lst true [.int .i64] (i64s H)]), some (bTip S), some (.box 4 [.ff])]) := by
  refine spec_of pMix (O := []) Tryz.func244 (c := bodyOf Tryz.f244) rfl (by kernel_rfl) (by kernel_rfl) Tryz.ntmps244 (res := [.tmp 6]) (by kernel_rfl) ?_
  repeat' ((conv => whnf); first | refine Rng.g ?_ | refine Ob.g ?_ | refine Ob.e ?_ | refine Ob.m ?_ | refine Ob.mk (Nat.le_of_ble_eq_true rfl) ?_ | refine JoinVC.on ?_ | refine Nils.mk (fun h => ?_) ?_ | refine Val.t ?_ | refine Val.d ?_ | refine Mm.mk ?_ | (refine Br.mk (fun h => ?_) (fun h => ?_) <;> first | (exfalso; omega; done) | (exfalso; simp at h; done) | skip))
  change RangeVC _ _ _ _ _
  refine RangeVC.of e243 (it243 S H i a a hi hH4 hS6 hH hS) ?_
  rintro _ ⟨z, hz, rfl⟩
  repeat' ((conv => whnf); first | refine Rng.g ?_ | refine Ob.g ?_ | refine Ob.e ?_ | refine Ob.m ?_ | refine Ob.mk (Nat.le_of_ble_eq_true rfl) ?_ | refine JoinVC.on ?_ | refine Nils.mk (fun h => ?_) ?_ | refine Val.t ?_ | refine Val.d ?_ | refine Mm.mk ?_ | (refine Br.mk (fun h => ?_) (fun h => ?_) <;> first | (exfalso; omega; done) | (exfalso; simp at h; done) | skip))
  repeat refine Mm.mk ?_
  conv => whnf
  refine EndVC.mk _ rfl _ _ (⟨z, hz, rfl, rfl⟩) ?_
  refine ⟨[some 0, some 1, some 2, some 3], rfl, rfl, ?_, ?_⟩ <;> repeat' (first | exact trivial | exact rfl | exact Iff.rfl | apply And.intro)
end Go.Sx

namespace Go.Sx
open Go Go.Proofs
set_option maxRecDepth 10000
set_option maxHeartbeats 16000000
/-! ### Rows that are filled one after another -/
def accW (f : Nat → Int) (n k : Nat) : List Int := (List.range n).map fun j => if j < k then f j else 0
theorem accW_len (f : Nat → Int) (n k : Nat) : (accW f n k).length = n := by simp [accW]
theorem accW_0 (f : Nat → Int) (n : Nat) : List.replicate n [Cell.int 0] = i64s (accW f n 0) := by
  apply List.ext_getElem
  · simp [accW, i64s]
  · intro j h1 h2
    simp [accW, i64s]
theorem accW_n (f : Nat → Int) (n : Nat) : accW f n n = (List.range n).map f := by
  unfold accW
  apply List.map_congr_left
  intro j hj
  rw [if_pos (List.mem_range.1 hj)]
theorem accW_set (f : Nat → Int) (n k : Nat) : (accW f n k).set k (f k) = accW f n (k + 1) := by
  apply List.ext_getElem
  · simp [accW]
  · intro j h1 h2
    simp only [accW, List.getElem_set, List.getElem_map, List.getElem_range]
    by_cases e : k = j
    · subst e
      rw [if_pos rfl, if_pos (Nat.lt_succ_self k)]
    · rw [if_neg e]
      by_cases h : j < k
      · rw [if_pos h, if_pos (by omega)]
      · rw [if_neg h, if_neg (by omega)]
theorem accW_upd (f : Nat → Int) (n k : Nat) (v : Int) (hk : k < n) (hv : v = f k) : updRow (i64s (accW f n k)) (k : Int).toNat 0 [.int v] = i64s (accW f n (k + 1)) := by
  rw [Int.toNat_natCast, i64s_upd _ _ _ (by rw [accW_len]; exact hk), hv, accW_set]
theorem ero_eq (S H : List Int) (i : Nat) : (wkL S H i).foldl (fun a x => btF false x a) (H.getD i 0) = eroF S H i := rfl
theorem s165 (S H : List Int) (hH4 : H.length ≤ 4096) (hS6 : 1 ≤ S.length ∧ S.length ≤ 64) (hH : ∀ j, -100000000 ≤ H.getD j 0 ∧ H.getD j 0 ≤ 100000000) (hS : ∀ j, 0 ≤ S.getD j 0 ∧ S.getD j 0 ≤ 4194304) : HSpec Tryz.prog 165 [tipX S, lL H, .one .ff] [] (fun r m' => r = .x (.one (.own 0)) ∧ m' = [some (rowL (eroL S H))]) := by
  have lH := i64s_len H
  refine spec_of pMix (O := [(7, ([], [⟨0, [], []⟩, ⟨1, [], []⟩, ⟨2, [], []⟩, ⟨3, [], []⟩, ⟨4, [0, 1], []⟩, ⟨5, [], []⟩, ⟨6, [], []⟩])), (8, ([], [⟨0, [], []⟩, ⟨1, [], []⟩, ⟨2, [], []⟩, ⟨3, [], []⟩, ⟨4, [0, 1], []⟩, ⟨5, [], []⟩, ⟨6, [], []⟩]))]) Tryz.func165 (c := bodyOf Tryz.f165) rfl (by kernel_rfl) (by kernel_rfl) Tryz.ntmps165 (res := [.tmp 6]) (by kernel_rfl) ?_
  have z0 : List.replicate ((i64s H).length : Int).toNat (zeroRow [CK.int IntKind.i64]) = i64s (accW (eroF S H) H.length 0) := by
    rw [Int.toNat_natCast, lH]
    exact accW_0 _ _
  repeat' ((conv => whnf); first | refine Rng.g ?_ | refine Ob.g ?_ | refine Ob.e ?_ | refine Ob.m ?_ | refine Ob.mk (Nat.le_of_ble_eq_true rfl) ?_ | refine JoinVC.on ?_ | refine Nils.mk (fun h => ?_) ?_ | refine Val.t ?_ | refine Val.d ?_ | refine Mm.mk ?_ | (refine Br.mk (fun h => ?_) (fun h => ?_) <;> first | (exfalso; omega; done) | (exfalso; simp at h; done) | skip))
  repeat refine Mm.mk ?_
  refine Ob.mk (by rw [eb2, lH]; omega) ?_
  repeat' ((conv => whnf); first | rw [z0] | refine Rng.g ?_ | refine Ob.g ?_ | refine Ob.e ?_ | refine Ob.m ?_ | refine Ob.mk (Nat.le_of_ble_eq_true rfl) ?_ | refine JoinVC.on ?_ | refine Nils.mk (fun h => ?_) ?_ | refine Val.t ?_ | refine Val.d ?_ | refine Mm.mk ?_ | (refine Br.mk (fun h => ?_) (fun h => ?_) <;> first | (exfalso; omega; done) | (exfalso; simp at h; done) | skip))
  refine LoopVC.mk (fun n st => ∃ (k : Nat), k ≤ H.length ∧ n = H.length - k ∧ st = ⟨0, envA 37 [(3, .x (.one (.ptr 0 0))), (4, .x (.one (.ptr 1 0))), (5, .x (.one (.ptr 2 0))), (7, .x (.one (.own 3))), (14, .x (lL H)), (15, .int .i64 ((i64s H).length : Int)), (16, .int .i64 (k : Int))], [some (bTip S), some (.box 37 [.lst true [.int .i64] (i64s H)]), some (.box 4 [.ff]), some (rowL (accW (eroF S H) H.length k))]⟩) _ _ ⟨0, Nat.zero_le _, rfl, rfl⟩ ?_ ?_
  · refine ⟨[some 0, some 1, some 2, some 3], rfl, rfl, ?_, ?_⟩ <;> repeat' (first | exact trivial | exact rfl | exact Iff.rfl | apply And.intro)
  rintro n _ ⟨k, hk, hn, rfl⟩
  have gH : rI (i64s H) (k : Int).toNat 0 = H.getD k 0 := by rw [Int.toNat_natCast, i64s_get]
  have lA : (i64s (accW (eroF S H) H.length k)).length = H.length := by rw [i64s_len, accW_len]
  by_cases hk' : k < H.length
  · repeat' ((conv => whnf); first | rw [gH] | refine Rng.g ?_ | refine Ob.g ?_ | refine Ob.e ?_ | refine Ob.m ?_ | refine Ob.mk (Nat.le_of_ble_eq_true rfl) ?_ | refine JoinVC.on ?_ | refine Nils.mk (fun h => ?_) ?_ | refine Val.t ?_ | refine Val.d ?_ | refine Mm.mk ?_ | (refine Br.mk (fun h => ?_) (fun h => ?_) <;> first | (exfalso; omega; done) | (exfalso; simp at h; done) | skip))
    conv => whnf
    refine CallVC0.same [4, 1, 0, 2] _ _ _ rfl rfl rfl rfl (s244 S H k (H.getD k 0) hk' hH4 hS6 hH hS) (fun r m' h' => (by obtain ⟨z, hz, rfl, rfl⟩ := h'; rfl)) (fun r m' h' => ?_)
    obtain ⟨z, hz, rfl, rfl⟩ := h'
    conv => whnf
    have u := accW_upd (eroF S H) H.length k z hk' (hz.trans (ero_eq S H k))
    repeat' ((conv => whnf); first | rw [u] | refine Rng.g ?_ | refine Ob.g ?_ | refine Ob.e ?_ | refine Ob.m ?_ | refine Ob.mk (Nat.le_of_ble_eq_true rfl) ?_ | refine JoinVC.on ?_ | refine Nils.mk (fun h => ?_) ?_ | refine Val.t ?_ | refine Val.d ?_ | refine Mm.mk ?_ | (refine Br.mk (fun h => ?_) (fun h => ?_) <;> first | (exfalso; omega; done) | (exfalso; simp at h; done) | skip))
    refine Back.mk (H.length - (k + 1)) _ (by omega) ⟨k + 1, by omega, rfl, rfl⟩ ?_
    refine ⟨[some 0, some 1, some 2, some 3], rfl, rfl, ?_, ?_⟩ <;> repeat' (first | exact trivial | exact rfl | exact Iff.rfl | apply And.intro)
  · have ek : k = H.length := by omega
    subst ek
    rw [show accW (eroF S H) H.length H.length = eroL S H from accW_n _ _]
    repeat' ((conv => whnf); first | refine Rng.g ?_ | refine Ob.g ?_ | refine Ob.e ?_ | refine Ob.m ?_ | refine Ob.mk (Nat.le_of_ble_eq_true rfl) ?_ | refine JoinVC.on ?_ | refine Nils.mk (fun h => ?_) ?_ | refine Val.t ?_ | refine Val.d ?_ | refine Mm.mk ?_ | (refine Br.mk (fun h => ?_) (fun h => ?_) <;> first | (exfalso; omega; done) | (exfalso; simp at h; done) | skip))
    repeat refine Mm.mk ?_
    conv => whnf
    refine EndVC.mk _ rfl _ _ (⟨rfl, rfl⟩) ?_
    refine ⟨[some 3], rfl, rfl, ?_, ?_⟩ <;> repeat' (first | exact trivial | exact rfl | exact Iff.rfl | apply And.intro)
end Go.Sx

namespace Go.Sx
open Go Go.Proofs
set_option maxRecDepth 10000
set_option maxHeartbeats 16000000
/-! ### The walk with 'more': the shape is taken off -/
end Go.Sx

namespace Go.Sx
open Go Go.Proofs
set_option maxRecDepth 10000
set_option maxHeartbeats 4000000
/-! ### Bends of channels that are opposite or equal -/
def negL (x : List Int) : List Int := x.map fun y => 0 - y
theorem negL_len (x : List Int) : (negL x).length = x.length := by simp [negL]
theorem negL_get (x : List Int) (i : Nat) (h : i < x.length) : (negL x).getD i 0 = 0 - x.getD i 0 := by simp [negL, List.getD_eq_getElem?_getD, h]
/-! ### A tip like a cone -/
def gntl (p : List Smp) (b : Int) (i : Nat) : Prop := amt ((p.getD i s0).l - (p.getD (i - 1) s0).l) ≤ b ∧ amt ((p.getD i s0).r - (p.getD (i - 1) s0).r) ≤ b
/-! ### What is swept fits where the groove fits -/
end Go.Sx

namespace Go.Sx
open Go Go.Proofs
set_option maxRecDepth 10000
set_option maxHeartbeats 16000000
/-! ### Bounds of what is read and swept -/
theorem oob {l : List Int} {j : Nat} (h : l.length ≤ j) : l.getD j 0 = 0 := by simp [List.getD_eq_getElem?_getD, List.getElem?_eq_none h]
theorem TipOK.all {S : List Int} (h : TipOK S) (j : Nat) : 0 ≤ S.getD j 0 ∧ S.getD j 0 ≤ 4194304 := by
  rcases Nat.lt_or_ge j S.length with hj | hj
  · exact h.rng j hj
  · rw [oob hj]
    omega
def inB (H : List Int) : Prop := ∀ j, -4194304 ≤ H.getD j 0 ∧ H.getD j 0 ≤ 4194304
theorem inB.big {H : List Int} (h : inB H) (j : Nat) : -100000000 ≤ H.getD j 0 ∧ H.getD j 0 ≤ 100000000 := by
  have := h j
  omega
theorem ero_bd {S H : List Int} (hS : TipOK S) (hH : inB H) : inB (eroL S H) := fun j => by
  rcases Nat.lt_or_ge j H.length with hj | hj
  · rw [eroL_get _ _ _ hj]
    have h1 := hH j
    have h2 := ero_self S H j
    refine ⟨ero_ge h1.1 fun u _ _ => ?_, by omega⟩
    have h3 := hH u
    have h4 := hS.all (dst j u)
    omega
  · rw [oob (by rw [eroL_len]; exact hj)]
    omega
theorem outs_bd {p : List Smp} (hp : PtsOK p) : inB (outs p) := fun j => by
  rcases Nat.lt_or_ge j p.length with hj | hj
  · rw [outs_get _ _ hj]
    have := hp.each j hj
    unfold edgeP at this
    omega
  · rw [oob (by rw [outs_len]; exact hj)]
    omega
theorem inns_bd {p : List Smp} (hp : PtsOK p) : inB (inns p) := fun j => by
  rcases Nat.lt_or_ge j p.length with hj | hj
  · rw [inns_get _ _ hj]
    have := hp.each j hj
    unfold edgeP at this
    omega
  · rw [oob (by rw [inns_len]; exact hj)]
    omega
theorem wall_ok {O N : List Int} {n : Nat} (hn : n ≤ 4096) (hO : inB O) (hN : inB N) : PtsOK (wallF O N n) := ⟨by rw [wallF_len]; exact hn, fun j hj => by
  rw [wallF_len] at hj
  rw [wallF_get _ _ _ _ hj]
  have h1 := hO j
  have h2 := hN j
  unfold edgeP
  simp only
  omega⟩
theorem read_ok {S : List Int} {p : List Smp} (hS : TipOK S) (hp : PtsOK p) : PtsOK (readF S p) := wall_ok hp.len (ero_bd hS (outs_bd hp)) (ero_bd hS (inns_bd hp))
end Go.Sx

namespace Go.Sx
open Go Go.Proofs
set_option maxRecDepth 10000
set_option maxHeartbeats 16000000
/-! ### Rows that are turned one after another -/
def mixW (L : List Int) (k : Nat) : List Int := (List.range L.length).map fun j => if j < k then 0 - L.getD j 0 else L.getD j 0
theorem mixW_len (L : List Int) (k : Nat) : (mixW L k).length = L.length := by simp [mixW]
theorem mixW_at (L : List Int) (k j : Nat) (h : j < L.length) : (mixW L k).getD j 0 = if j < k then 0 - L.getD j 0 else L.getD j 0 := by simp [mixW, List.getD_eq_getElem?_getD, h]
theorem mixW_0 (L : List Int) : mixW L 0 = L := getD_ext (mixW_len L 0) fun j hj => by
  rw [mixW_len] at hj
  rw [mixW_at _ _ _ hj, if_neg (by omega)]
theorem mixW_n (L : List Int) : mixW L L.length = negL L := getD_ext (by rw [mixW_len, negL_len]) fun j hj => by
  rw [mixW_len] at hj
  rw [mixW_at _ _ _ hj, if_pos hj, negL_get _ _ hj]
theorem set_get (l : List Int) (k j : Nat) (v : Int) (h : k < l.length) : (l.set k v).getD j 0 = if k = j then v else l.getD j 0 := by
  simp only [List.getD_eq_getElem?_getD, List.getElem?_set]
  by_cases e : k = j
  · subst e
    simp [h]
  · simp [e]
theorem mixW_upd (L : List Int) (k : Nat) (hk : k < L.length) : updRow (i64s (mixW L k)) (k : Int).toNat 0 [.int (0 - L.getD k 0)] = i64s (mixW L (k + 1)) := by
  rw [Int.toNat_natCast, i64s_upd _ _ _ (by rw [mixW_len]; exact hk)]
  congr 1
  refine getD_ext (by rw [List.length_set, mixW_len, mixW_len]) fun j hj => ?_
  rw [List.length_set, mixW_len] at hj
  rw [set_get _ _ _ _ (by rw [mixW_len]; exact hk), mixW_at _ _ _ hj, mixW_at _ _ _ hj]
  by_cases e : k = j
  · subst e
    rw [if_pos rfl, if_pos (by omega)]
  · rw [if_neg e]
    by_cases h : j < k
    · rw [if_pos h, if_pos (by omega)]
    · rw [if_neg h, if_neg (by omega)]
theorem same_upd (L : List Int) (k : Nat) (hk : k < L.length) : updRow (i64s L) (k : Int).toNat 0 [.int (L.getD k 0)] = i64s L := by
  rw [Int.toNat_natCast, i64s_upd _ _ _ hk]
  congr 1
  refine getD_ext (by rw [List.length_set]) fun j hj => ?_
  rw [set_get _ _ _ _ hk]
  by_cases e : k = j
  · rw [if_pos e, e]
  · rw [if_neg e]
theorem takeL_snoc (x : List Int) (i : Nat) (h : i < x.length) : i64s (x.take i) ++ [[.int (x.getD i 0)]] = i64s (x.take (i + 1)) := by
  rw [take_snoc x i 0 h, i64s_snoc]
theorem wall_take (O N : List Int) (n i : Nat) (h : i < n) : smpA ((wallF O N n).take i) ++ [[.int (-N.getD i 0), .int (O.getD i 0)]] = smpA ((wallF O N n).take (i + 1)) := by
  rw [take_snoc (wallF O N n) i s0 (by rw [wallF_len]; exact h), smpA_snoc, wallF_get _ _ _ _ h]
/-! ### What goes through a closure -/
theorem s247 (S H : List Int) (hS : TipOK S) (hH4 : H.length ≤ 4096) (hH : inB H) : HSpec Tryz.prog 247 [.one (.own 1), .one (.ptr 0 0)] [bTip S, rowL H] (fun r m' => r = .x (.one (.own 2)) ∧ m' = [some (bTip S), some (rowL H), some (rowL (eroL S H))]) := by
  refine spec_of pMix (O := []) Tryz.func247 (c := bodyOf Tryz.f247) rfl (by kernel_rfl) (by kernel_rfl) Tryz.ntmps247 (res := [.tmp 3]) (by kernel_rfl) ?_
  repeat' ((conv => whnf); first | refine Rng.g ?_ | refine Ob.g ?_ | refine Ob.e ?_ | refine Ob.m ?_ | refine Ob.mk (Nat.le_of_ble_eq_true rfl) ?_ | refine JoinVC.on ?_ | refine Nils.mk (fun h => ?_) ?_ | refine Val.t ?_ | refine Val.d ?_ | refine Mm.mk ?_ | (refine Br.mk (fun h => ?_) (fun h => ?_) <;> first | (exfalso; omega; done) | (exfalso; simp at h; done) | skip))
  conv => whnf
  refine CallVC.mk [] _ _ _ rfl rfl rfl (s165 S H hH4 hS.len hH.big hS.all) (fun r m' h' => ?_)
  obtain ⟨rfl, rfl⟩ := h'
  conv => whnf
  repeat' ((conv => whnf); first | refine Rng.g ?_ | refine Ob.g ?_ | refine Ob.e ?_ | refine Ob.m ?_ | refine Ob.mk (Nat.le_of_ble_eq_true rfl) ?_ | refine JoinVC.on ?_ | refine Nils.mk (fun h => ?_) ?_ | refine Val.t ?_ | refine Val.d ?_ | refine Mm.mk ?_ | (refine Br.mk (fun h => ?_) (fun h => ?_) <;> first | (exfalso; omega; done) | (exfalso; simp at h; done) | skip))
  repeat refine Mm.mk ?_
  conv => whnf
  refine EndVC.mk _ rfl _ _ (⟨rfl, rfl⟩) ?_
  refine ⟨[some 0, some 1, some 2], rfl, rfl, ?_, ?_⟩ <;> repeat' (first | exact trivial | exact rfl | exact Iff.rfl | apply And.intro)
theorem s242or (S : List Int) (p : List Smp) (hS : TipOK S) (hp : PtsOK p) : HSpec Tryz.prog 242 [.one (.ifc 378), .one (.ptr 0 0), .one (.ptr 1 0)] [bPs p, .box 278 [.fn 247 [(2, 0)]], bTip S] (fun r m' => r = .x (.one (.own 3)) ∧ m' = [some (bPs p), some (.box 278 [.fn 247 [(2, 0)]]), some (bTip S), some (rowL (eroL S (outs p)))]) := by
  have lp := smpA_len p
  have hl := hp.len
  have lH := outs_len p
  have hHB := outs_bd hp
  have lE : (eroL S (outs p)).length = p.length := by rw [eroL_len, lH]
  have bE : inB (eroL S (outs p)) := ero_bd hS hHB
  obtain ⟨Z, hZ⟩ : ∃ Z, Z = (eroL S (outs p)) := ⟨_, rfl⟩
  rw [← hZ] at lE bE
  have lZ := i64s_len Z
  refine spec_of pMix (O := []) Tryz.func242 (c := bodyOf Tryz.f242) rfl (by kernel_rfl) (by kernel_rfl) Tryz.ntmps242 (res := [.tmp 4]) (by kernel_rfl) ?_
  repeat' ((conv => whnf); first | refine Rng.g ?_ | refine Ob.g ?_ | refine Ob.e ?_ | refine Ob.m ?_ | refine Ob.mk (Nat.le_of_ble_eq_true rfl) ?_ | refine JoinVC.on ?_ | refine Nils.mk (fun h => ?_) ?_ | refine Val.t ?_ | refine Val.d ?_ | refine Mm.mk ?_ | (refine Br.mk (fun h => ?_) (fun h => ?_) <;> first | (exfalso; omega; done) | (exfalso; simp at h; done) | skip))
  refine LoopVC.mk (fun n st => ∃ (i : Nat), i ≤ p.length ∧ n = p.length - i ∧ st = ⟨3, envA 49 [(0, .x (.one (.ifc 378))), (1, .x (.one (.ptr 0 0))), (2, .x (.one (.ptr 1 0))), (5, .x (.one (.mth 378 "deadwax/play.of"))), (6, .x (.one (.mth 378 "deadwax/play.back"))), (7, .x (.one (.own 3))), (17, .x (lS p)), (18, .int .i64 (p.length : Int)), (19, .int .i64 (i : Int))], [some (bPs p), some (.box 278 [.fn 247 [(2, 0)]]), some (bTip S), some (rowL ((outs p).take i))]⟩) _ _ ⟨0, Nat.zero_le _, rfl, rfl⟩ ?_ ?_
  · refine ⟨[some 0, some 1, some 2, none], rfl, rfl, ?_, ?_⟩ <;> repeat' (first | exact trivial | exact rfl | exact Iff.rfl | apply And.intro)
    all_goals exact congrArg Int.ofNat lp
  rintro n _ ⟨i, hi, hn, rfl⟩
  by_cases hi' : i < p.length
  · have e1 : (i64s ((outs p).take i)).length = i := by rw [i64s_len, List.length_take]; omega
    have g0 : rI (smpA p) (i : Int).toNat 0 = (p.getD i s0).l := by rw [Int.toNat_natCast]; exact smpA_l p i
    have g1 : rI (smpA p) (i : Int).toNat (0 + 1) = (p.getD i s0).r := by rw [Int.toNat_natCast]; exact smpA_r p i
    have hed := hp.each i hi'
    unfold edgeP at hed
    have u1 := takeL_snoc (outs p) i (by omega)
    rw [outs_get p i hi'] at u1
    skip
    have c1 : PSpec Tryz.prog 400 [.agg [], smpX p i] (.x (I ((p.getD i s0).r))) := smpX_eq p i ▸ s400 (p.getD i s0)
    repeat' ((conv => whnf); first | refine Mth.mk _ m_ou_of ?_ | refine Rng.g ?_ | refine Ob.g ?_ | refine Ob.e ?_ | refine Ob.m ?_ | refine Ob.mk (Nat.le_of_ble_eq_true rfl) ?_ | refine JoinVC.on ?_ | refine Nils.mk (fun h => ?_) ?_ | refine Val.t ?_ | refine Val.d ?_ | refine Mm.mk ?_ | refine CallVC.pure rfl (c1) ?_ | refine CallVC0.pure rfl (c1) ?_ | (refine Br.mk (fun h => ?_) (fun h => ?_) <;> first | (exfalso; omega; done) | (exfalso; simp at h; done) | skip))
    repeat refine Mm.mk ?_
    refine Ob.mk (by simp only [eb2, e1, List.length_cons, List.length_nil]; omega) ?_
    repeat' ((conv => whnf); first | rw [u1] | refine Rng.g ?_ | refine Ob.g ?_ | refine Ob.e ?_ | refine Ob.m ?_ | refine Ob.mk (Nat.le_of_ble_eq_true rfl) ?_ | refine JoinVC.on ?_ | refine Nils.mk (fun h => ?_) ?_ | refine Val.t ?_ | refine Val.d ?_ | refine Mm.mk ?_ | (refine Br.mk (fun h => ?_) (fun h => ?_) <;> first | (exfalso; omega; done) | (exfalso; simp at h; done) | skip))
    refine Back.mk (p.length - (i + 1)) _ (by omega) ⟨i + 1, by omega, rfl, rfl⟩ ?_
    refine ⟨[some 0, some 1, some 2, some 6], rfl, rfl, ?_, ?_⟩ <;> repeat' (first | exact trivial | exact rfl | exact Iff.rfl | apply And.intro)
  have ei : i = p.length := by omega
  subst ei
  rw [show (outs p).take p.length = outs p from List.take_of_length_le (by omega)]
  repeat' ((conv => whnf); first | refine Rng.g ?_ | refine Ob.g ?_ | refine Ob.e ?_ | refine Ob.m ?_ | refine Ob.mk (Nat.le_of_ble_eq_true rfl) ?_ | refine JoinVC.on ?_ | refine Nils.mk (fun h => ?_) ?_ | refine Val.t ?_ | refine Val.d ?_ | refine Mm.mk ?_ | (refine Br.mk (fun h => ?_) (fun h => ?_) <;> first | (exfalso; omega; done) | (exfalso; simp at h; done) | skip))
  conv => whnf
  refine CallVC.mk [2, 3] _ _ _ rfl rfl rfl (s247 S (outs p) hS (by omega) hHB) (fun r m' h' => ?_)
  obtain ⟨rfl, rfl⟩ := h'
  conv => whnf
  rw [← hZ]
  repeat' ((conv => whnf); first | refine Rng.g ?_ | refine Ob.g ?_ | refine Ob.e ?_ | refine Ob.m ?_ | refine Ob.mk (Nat.le_of_ble_eq_true rfl) ?_ | refine JoinVC.on ?_ | refine Nils.mk (fun h => ?_) ?_ | refine Val.t ?_ | refine Val.d ?_ | refine Mm.mk ?_ | (refine Br.mk (fun h => ?_) (fun h => ?_) <;> first | (exfalso; omega; done) | (exfalso; simp at h; done) | skip))
  refine LoopVC.mk (fun n st => ∃ (i : Nat), i ≤ p.length ∧ n = p.length - i ∧ st = ⟨3, envA 49 [(0, .x (.one (.ifc 378))), (1, .x (.one (.ptr 0 0))), (2, .x (.one (.ptr 1 0))), (6, .x (.one (.mth 378 "deadwax/play.back"))), (7, .x (.one (.own 3))), (34, .int .i64 (p.length : Int)), (35, .int .i64 (i : Int))], [some (bPs p), some (.box 278 [.fn 247 [(2, 0)]]), some (bTip S), some (rowL (Z))]⟩) _ _ ⟨0, Nat.zero_le _, rfl, rfl⟩ ?_ ?_
  · refine ⟨[some 0, some 1, some 2, some 4], rfl, rfl, ?_, ?_⟩ <;> repeat' (first | exact trivial | exact rfl | exact Iff.rfl | apply And.intro)
    all_goals first | (exact congrArg Int.ofNat (lZ.trans lE)) | (rfl)
  rintro n _ ⟨i, hi, hn, rfl⟩
  have lM : (i64s (Z)).length = p.length := by rw [i64s_len, lE]
  by_cases hi' : i < p.length
  · have g0 : rI (i64s (Z)) (i : Int).toNat 0 = Z.getD i 0 := by rw [Int.toNat_natCast, i64s_get]
    have hb := bE i
    have u1 := same_upd Z i (by omega)
    have c1 := s399 (Z.getD i 0)
    repeat' ((conv => whnf); first | rw [g0] | rw [u1] | refine Mth.mk _ m_ou_bk ?_ | refine Rng.g ?_ | refine Ob.g ?_ | refine Ob.e ?_ | refine Ob.m ?_ | refine Ob.mk (Nat.le_of_ble_eq_true rfl) ?_ | refine JoinVC.on ?_ | refine Nils.mk (fun h => ?_) ?_ | refine Val.t ?_ | refine Val.d ?_ | refine Mm.mk ?_ | refine CallVC.pure rfl (c1) ?_ | refine CallVC0.pure rfl (c1) ?_ | (refine Br.mk (fun h => ?_) (fun h => ?_) <;> first | (exfalso; omega; done) | (exfalso; simp at h; done) | skip))
    refine Back.mk (p.length - (i + 1)) _ (by omega) ⟨i + 1, by omega, rfl, rfl⟩ ?_
    refine ⟨[some 0, some 1, some 2, some 3], rfl, rfl, ?_, ?_⟩ <;> repeat' (first | exact trivial | exact rfl | exact Iff.rfl | apply And.intro)
  have ei : i = p.length := by omega
  subst ei
  skip
  rw [hZ]
  repeat' ((conv => whnf); first | refine Rng.g ?_ | refine Ob.g ?_ | refine Ob.e ?_ | refine Ob.m ?_ | refine Ob.mk (Nat.le_of_ble_eq_true rfl) ?_ | refine JoinVC.on ?_ | refine Nils.mk (fun h => ?_) ?_ | refine Val.t ?_ | refine Val.d ?_ | refine Mm.mk ?_ | (refine Br.mk (fun h => ?_) (fun h => ?_) <;> first | (exfalso; omega; done) | (exfalso; simp at h; done) | skip))
  repeat refine Mm.mk ?_
  conv => whnf
  refine EndVC.mk _ rfl _ _ (⟨rfl, rfl⟩) ?_
  refine ⟨[some 0, some 1, some 2, some 3], rfl, rfl, ?_, ?_⟩ <;> repeat' (first | exact trivial | exact rfl | exact Iff.rfl | apply And.intro)
theorem s242ir (S : List Int) (p : List Smp) (hS : TipOK S) (hp : PtsOK p) : HSpec Tryz.prog 242 [.one (.ifc 379), .one (.ptr 0 0), .one (.ptr 1 0)] [bPs p, .box 278 [.fn 247 [(2, 0)]], bTip S] (fun r m' => r = .x (.one (.own 3)) ∧ m' = [some (bPs p), some (.box 278 [.fn 247 [(2, 0)]]), some (bTip S), some (rowL (negL (eroL S (inns p))))]) := by
  have lp := smpA_len p
  have hl := hp.len
  have lH := inns_len p
  have hHB := inns_bd hp
  have lE : (eroL S (inns p)).length = p.length := by rw [eroL_len, lH]
  have bE : inB (eroL S (inns p)) := ero_bd hS hHB
  obtain ⟨Z, hZ⟩ : ∃ Z, Z = (eroL S (inns p)) := ⟨_, rfl⟩
  rw [← hZ] at lE bE
  have lZ := i64s_len Z
  refine spec_of pMix (O := []) Tryz.func242 (c := bodyOf Tryz.f242) rfl (by kernel_rfl) (by kernel_rfl) Tryz.ntmps242 (res := [.tmp 4]) (by kernel_rfl) ?_
  repeat' ((conv => whnf); first | refine Rng.g ?_ | refine Ob.g ?_ | refine Ob.e ?_ | refine Ob.m ?_ | refine Ob.mk (Nat.le_of_ble_eq_true rfl) ?_ | refine JoinVC.on ?_ | refine Nils.mk (fun h => ?_) ?_ | refine Val.t ?_ | refine Val.d ?_ | refine Mm.mk ?_ | (refine Br.mk (fun h => ?_) (fun h => ?_) <;> first | (exfalso; omega; done) | (exfalso; simp at h; done) | skip))
  refine LoopVC.mk (fun n st => ∃ (i : Nat), i ≤ p.length ∧ n = p.length - i ∧ st = ⟨3, envA 49 [(0, .x (.one (.ifc 379))), (1, .x (.one (.ptr 0 0))), (2, .x (.one (.ptr 1 0))), (5, .x (.one (.mth 379 "deadwax/play.of"))), (6, .x (.one (.mth 379 "deadwax/play.back"))), (7, .x (.one (.own 3))), (17, .x (lS p)), (18, .int .i64 (p.length : Int)), (19, .int .i64 (i : Int))], [some (bPs p), some (.box 278 [.fn 247 [(2, 0)]]), some (bTip S), some (rowL ((inns p).take i))]⟩) _ _ ⟨0, Nat.zero_le _, rfl, rfl⟩ ?_ ?_
  · refine ⟨[some 0, some 1, some 2, none], rfl, rfl, ?_, ?_⟩ <;> repeat' (first | exact trivial | exact rfl | exact Iff.rfl | apply And.intro)
    all_goals exact congrArg Int.ofNat lp
  rintro n _ ⟨i, hi, hn, rfl⟩
  by_cases hi' : i < p.length
  · have e1 : (i64s ((inns p).take i)).length = i := by rw [i64s_len, List.length_take]; omega
    have g0 : rI (smpA p) (i : Int).toNat 0 = (p.getD i s0).l := by rw [Int.toNat_natCast]; exact smpA_l p i
    have g1 : rI (smpA p) (i : Int).toNat (0 + 1) = (p.getD i s0).r := by rw [Int.toNat_natCast]; exact smpA_r p i
    have hed := hp.each i hi'
    unfold edgeP at hed
    have u1 := takeL_snoc (inns p) i (by omega)
    rw [inns_get p i hi'] at u1
    rw [← Int.zero_sub] at u1
    have c1 : PSpec Tryz.prog 402 [.agg [], smpX p i] (.x (I (0 - (p.getD i s0).l))) := smpX_eq p i ▸ s402 (p.getD i s0) (by omega)
    repeat' ((conv => whnf); first | refine Mth.mk _ m_in_of ?_ | refine Rng.g ?_ | refine Ob.g ?_ | refine Ob.e ?_ | refine Ob.m ?_ | refine Ob.mk (Nat.le_of_ble_eq_true rfl) ?_ | refine JoinVC.on ?_ | refine Nils.mk (fun h => ?_) ?_ | refine Val.t ?_ | refine Val.d ?_ | refine Mm.mk ?_ | refine CallVC.pure rfl (c1) ?_ | refine CallVC0.pure rfl (c1) ?_ | (refine Br.mk (fun h => ?_) (fun h => ?_) <;> first | (exfalso; omega; done) | (exfalso; simp at h; done) | skip))
    repeat refine Mm.mk ?_
    refine Ob.mk (by simp only [eb2, e1, List.length_cons, List.length_nil]; omega) ?_
    repeat' ((conv => whnf); first | rw [u1] | refine Rng.g ?_ | refine Ob.g ?_ | refine Ob.e ?_ | refine Ob.m ?_ | refine Ob.mk (Nat.le_of_ble_eq_true rfl) ?_ | refine JoinVC.on ?_ | refine Nils.mk (fun h => ?_) ?_ | refine Val.t ?_ | refine Val.d ?_ | refine Mm.mk ?_ | (refine Br.mk (fun h => ?_) (fun h => ?_) <;> first | (exfalso; omega; done) | (exfalso; simp at h; done) | skip))
    refine Back.mk (p.length - (i + 1)) _ (by omega) ⟨i + 1, by omega, rfl, rfl⟩ ?_
    refine ⟨[some 0, some 1, some 2, some 6], rfl, rfl, ?_, ?_⟩ <;> repeat' (first | exact trivial | exact rfl | exact Iff.rfl | apply And.intro)
  have ei : i = p.length := by omega
  subst ei
  rw [show (inns p).take p.length = inns p from List.take_of_length_le (by omega)]
  repeat' ((conv => whnf); first | refine Rng.g ?_ | refine Ob.g ?_ | refine Ob.e ?_ | refine Ob.m ?_ | refine Ob.mk (Nat.le_of_ble_eq_true rfl) ?_ | refine JoinVC.on ?_ | refine Nils.mk (fun h => ?_) ?_ | refine Val.t ?_ | refine Val.d ?_ | refine Mm.mk ?_ | (refine Br.mk (fun h => ?_) (fun h => ?_) <;> first | (exfalso; omega; done) | (exfalso; simp at h; done) | skip))
  conv => whnf
  refine CallVC.mk [2, 3] _ _ _ rfl rfl rfl (s247 S (inns p) hS (by omega) hHB) (fun r m' h' => ?_)
  obtain ⟨rfl, rfl⟩ := h'
  conv => whnf
  rw [← hZ]
  repeat' ((conv => whnf); first | refine Rng.g ?_ | refine Ob.g ?_ | refine Ob.e ?_ | refine Ob.m ?_ | refine Ob.mk (Nat.le_of_ble_eq_true rfl) ?_ | refine JoinVC.on ?_ | refine Nils.mk (fun h => ?_) ?_ | refine Val.t ?_ | refine Val.d ?_ | refine Mm.mk ?_ | (refine Br.mk (fun h => ?_) (fun h => ?_) <;> first | (exfalso; omega; done) | (exfalso; simp at h; done) | skip))
  refine LoopVC.mk (fun n st => ∃ (i : Nat), i ≤ p.length ∧ n = p.length - i ∧ st = ⟨3, envA 49 [(0, .x (.one (.ifc 379))), (1, .x (.one (.ptr 0 0))), (2, .x (.one (.ptr 1 0))), (6, .x (.one (.mth 379 "deadwax/play.back"))), (7, .x (.one (.own 3))), (34, .int .i64 (p.length : Int)), (35, .int .i64 (i : Int))], [some (bPs p), some (.box 278 [.fn 247 [(2, 0)]]), some (bTip S), some (rowL (mixW Z i))]⟩) _ _ ⟨0, Nat.zero_le _, rfl, rfl⟩ ?_ ?_
  · refine ⟨[some 0, some 1, some 2, some 4], rfl, rfl, ?_, ?_⟩ <;> repeat' (first | exact trivial | exact rfl | exact Iff.rfl | apply And.intro)
    all_goals first | (exact congrArg Int.ofNat (lZ.trans lE)) | (exact (congrArg i64s (mixW_0 Z)).symm)
  rintro n _ ⟨i, hi, hn, rfl⟩
  have lM : (i64s (mixW Z i)).length = p.length := by rw [i64s_len, mixW_len, lE]
  by_cases hi' : i < p.length
  · have g0 : rI (i64s (mixW Z i)) (i : Int).toNat 0 = Z.getD i 0 := by rw [Int.toNat_natCast, i64s_get]; rw [mixW_at _ _ _ (by omega), if_neg (Nat.lt_irrefl i)]
    have hb := bE i
    have u1 := mixW_upd Z i (by omega)
    have c1 := s401 (Z.getD i 0) (by omega)
    repeat' ((conv => whnf); first | rw [g0] | rw [u1] | refine Mth.mk _ m_in_bk ?_ | refine Rng.g ?_ | refine Ob.g ?_ | refine Ob.e ?_ | refine Ob.m ?_ | refine Ob.mk (Nat.le_of_ble_eq_true rfl) ?_ | refine JoinVC.on ?_ | refine Nils.mk (fun h => ?_) ?_ | refine Val.t ?_ | refine Val.d ?_ | refine Mm.mk ?_ | refine CallVC.pure rfl (c1) ?_ | refine CallVC0.pure rfl (c1) ?_ | (refine Br.mk (fun h => ?_) (fun h => ?_) <;> first | (exfalso; omega; done) | (exfalso; simp at h; done) | skip))
    refine Back.mk (p.length - (i + 1)) _ (by omega) ⟨i + 1, by omega, rfl, rfl⟩ ?_
    refine ⟨[some 0, some 1, some 2, some 3], rfl, rfl, ?_, ?_⟩ <;> repeat' (first | exact trivial | exact rfl | exact Iff.rfl | apply And.intro)
  have ei : i = p.length := by omega
  subst ei
  rw [show mixW Z p.length = negL Z by rw [← lE]; exact mixW_n Z]
  rw [hZ]
  repeat' ((conv => whnf); first | refine Rng.g ?_ | refine Ob.g ?_ | refine Ob.e ?_ | refine Ob.m ?_ | refine Ob.mk (Nat.le_of_ble_eq_true rfl) ?_ | refine JoinVC.on ?_ | refine Nils.mk (fun h => ?_) ?_ | refine Val.t ?_ | refine Val.d ?_ | refine Mm.mk ?_ | (refine Br.mk (fun h => ?_) (fun h => ?_) <;> first | (exfalso; omega; done) | (exfalso; simp at h; done) | skip))
  repeat refine Mm.mk ?_
  conv => whnf
  refine EndVC.mk _ rfl _ _ (⟨rfl, rfl⟩) ?_
  refine ⟨[some 0, some 1, some 2, some 3], rfl, rfl, ?_, ?_⟩ <;> repeat' (first | exact trivial | exact rfl | exact Iff.rfl | apply And.intro)
theorem s163r (S : List Int) (p : List Smp) (hS : TipOK S) (hp : PtsOK p) : HSpec Tryz.prog 163 [lS p, .one (.fn 247 [(0, 0)])] [bTip S] (fun r m' => r = .x (.one (.own 1)) ∧ m' = [some (bTip S), some (rowP (readF S p))]) := by
  have lp := smpA_len p
  have hl := hp.len
  obtain ⟨O, hO⟩ : ∃ O, O = eroL S (outs p) := ⟨_, rfl⟩
  obtain ⟨N, hN⟩ : ∃ N, N = eroL S (inns p) := ⟨_, rfl⟩
  have lO : O.length = p.length := by rw [hO, eroL_len, outs_len]
  have lN : N.length = p.length := by rw [hN, eroL_len, inns_len]
  have bO : inB O := by rw [hO]; have hHB := outs_bd hp; exact ero_bd hS hHB
  have bN : inB N := by rw [hN]; have hHB := inns_bd hp; exact ero_bd hS hHB
  have ln := negL_len N
  have l1 := i64s_len O
  have l2 := i64s_len (negL N)
  have eW : readF S p = wallF O N p.length := by rw [hO, hN]; rfl
  rw [eW]
  refine spec_of pMix (O := [(7, ([], [⟨0, [], []⟩, ⟨1, [], []⟩, ⟨2, [], []⟩, ⟨3, [], []⟩, ⟨4, [], []⟩, ⟨5, [], []⟩, ⟨6, [], []⟩, ⟨7, [], []⟩, ⟨8, [], []⟩, ⟨9, [], [10]⟩, ⟨10, [], []⟩, ⟨11, [], []⟩, ⟨12, [], []⟩]))]) Tryz.func163 (c := bodyOf Tryz.f163) rfl (by kernel_rfl) (by kernel_rfl) Tryz.ntmps163 (res := [.tmp 4]) (by kernel_rfl) ?_
  repeat' ((conv => whnf); first | refine Rng.g ?_ | refine Ob.g ?_ | refine Ob.e ?_ | refine Ob.m ?_ | refine Ob.mk (Nat.le_of_ble_eq_true rfl) ?_ | refine JoinVC.on ?_ | refine Nils.mk (fun h => ?_) ?_ | refine Val.t ?_ | refine Val.d ?_ | refine Mm.mk ?_ | (refine Br.mk (fun h => ?_) (fun h => ?_) <;> first | (exfalso; omega; done) | (exfalso; simp at h; done) | skip))
  conv => whnf
  refine CallVC.mk [1, 2, 0] _ _ _ rfl rfl rfl (s242or S p hS hp) (fun r m' h' => ?_)
  obtain ⟨rfl, rfl⟩ := h'
  conv => whnf
  rw [← hO]
  repeat' ((conv => whnf); first | refine Rng.g ?_ | refine Ob.g ?_ | refine Ob.e ?_ | refine Ob.m ?_ | refine Ob.mk (Nat.le_of_ble_eq_true rfl) ?_ | refine JoinVC.on ?_ | refine Nils.mk (fun h => ?_) ?_ | refine Val.t ?_ | refine Val.d ?_ | refine Mm.mk ?_ | (refine Br.mk (fun h => ?_) (fun h => ?_) <;> first | (exfalso; omega; done) | (exfalso; simp at h; done) | skip))
  conv => whnf
  refine CallVC.mk [1, 2, 0] _ _ _ rfl rfl rfl (s242ir S p hS hp) (fun r m' h' => ?_)
  obtain ⟨rfl, rfl⟩ := h'
  conv => whnf
  rw [← hN]
  repeat' ((conv => whnf); first | refine Rng.g ?_ | refine Ob.g ?_ | refine Ob.e ?_ | refine Ob.m ?_ | refine Ob.mk (Nat.le_of_ble_eq_true rfl) ?_ | refine JoinVC.on ?_ | refine Nils.mk (fun h => ?_) ?_ | refine Val.t ?_ | refine Val.d ?_ | refine Mm.mk ?_ | (refine Br.mk (fun h => ?_) (fun h => ?_) <;> first | (exfalso; omega; done) | (exfalso; simp at h; done) | skip))
  refine LoopVC.mk (fun n st => ∃ (i : Nat), i ≤ p.length ∧ n = p.length - i ∧ st = ⟨1, envA 38 [(2, .x (.one (.ptr 1 0))), (3, .x (.one (.ptr 2 0))), (6, .x (.one (.own 3))), (7, .x (.one (.own 4))), (8, .x (.one (.own 5))), (20, .int .i64 (p.length : Int)), (21, .int .i64 (i : Int))], [some (bTip S), some (bPs p), some (.box 278 [.fn 247 [(0, 0)]]), some (rowL O), some (rowL (negL N)), some (rowP ((wallF O N p.length).take i))]⟩) _ _ ⟨0, Nat.zero_le _, rfl, rfl⟩ ?_ ?_
  · refine ⟨[some 0, some 1, some 2, some 3, some 4, none], rfl, rfl, ?_, ?_⟩ <;> repeat' (first | exact trivial | exact rfl | exact Iff.rfl | apply And.intro)
    all_goals exact congrArg Int.ofNat lp
  rintro n _ ⟨i, hi, hn, rfl⟩
  by_cases hi' : i < p.length
  · have e1 : (smpA ((wallF O N p.length).take i)).length = i := by rw [smpA_len, List.length_take, wallF_len]; omega
    have g0 : rI (i64s O) (i : Int).toNat 0 = O.getD i 0 := by rw [Int.toNat_natCast, i64s_get]
    have g1 : rI (i64s (negL N)) (i : Int).toNat 0 = -N.getD i 0 := by rw [Int.toNat_natCast, i64s_get, negL_get _ _ (by omega), Int.zero_sub]
    have u1 := wall_take O N p.length i hi'
    repeat' ((conv => whnf); first | rw [g0] | rw [g1] | refine Rng.g ?_ | refine Ob.g ?_ | refine Ob.e ?_ | refine Ob.m ?_ | refine Ob.mk (Nat.le_of_ble_eq_true rfl) ?_ | refine JoinVC.on ?_ | refine Nils.mk (fun h => ?_) ?_ | refine Val.t ?_ | refine Val.d ?_ | refine Mm.mk ?_ | (refine Br.mk (fun h => ?_) (fun h => ?_) <;> first | (exfalso; omega; done) | (exfalso; simp at h; done) | skip))
    repeat refine Mm.mk ?_
    refine Ob.mk (by simp only [eb51, e1, List.length_cons, List.length_nil]; omega) ?_
    repeat' ((conv => whnf); first | rw [g0] | rw [g1] | rw [u1] | refine Rng.g ?_ | refine Ob.g ?_ | refine Ob.e ?_ | refine Ob.m ?_ | refine Ob.mk (Nat.le_of_ble_eq_true rfl) ?_ | refine JoinVC.on ?_ | refine Nils.mk (fun h => ?_) ?_ | refine Val.t ?_ | refine Val.d ?_ | refine Mm.mk ?_ | (refine Br.mk (fun h => ?_) (fun h => ?_) <;> first | (exfalso; omega; done) | (exfalso; simp at h; done) | skip))
    refine Back.mk (p.length - (i + 1)) _ (by omega) ⟨i + 1, by omega, rfl, rfl⟩ ?_
    refine ⟨[some 0, some 1, some 2, some 3, some 4, some 7], rfl, rfl, ?_, ?_⟩ <;> repeat' (first | exact trivial | exact rfl | exact Iff.rfl | apply And.intro)
  have ei : i = p.length := by omega
  subst ei
  rw [show (wallF O N p.length).take p.length = wallF O N p.length from List.take_of_length_le (by rw [wallF_len]; omega)]
  repeat' ((conv => whnf); first | refine Rng.g ?_ | refine Ob.g ?_ | refine Ob.e ?_ | refine Ob.m ?_ | refine Ob.mk (Nat.le_of_ble_eq_true rfl) ?_ | refine JoinVC.on ?_ | refine Nils.mk (fun h => ?_) ?_ | refine Val.t ?_ | refine Val.d ?_ | refine Mm.mk ?_ | (refine Br.mk (fun h => ?_) (fun h => ?_) <;> first | (exfalso; omega; done) | (exfalso; simp at h; done) | skip))
  repeat refine Mm.mk ?_
  conv => whnf
  refine EndVC.mk _ rfl _ _ (⟨rfl, rfl⟩) ?_
  refine ⟨[some 0, some 5], rfl, rfl, ?_, ?_⟩ <;> repeat' (first | exact trivial | exact rfl | exact Iff.rfl | apply And.intro)
theorem s166 (S : List Int) (p : List Smp) (hS : TipOK S) (hp : PtsOK p) : HSpec Tryz.prog 166 [tipX S, lS p] [] (fun r m' => r = .x (.one (.own 0)) ∧ m' = [some (rowP (readF S p))]) := by
  refine spec_of pMix (O := []) Tryz.func166 (c := bodyOf Tryz.f166) rfl (by kernel_rfl) (by kernel_rfl) Tryz.ntmps166 (res := [.tmp 4]) (by kernel_rfl) ?_
  repeat' ((conv => whnf); first | refine Rng.g ?_ | refine Ob.g ?_ | refine Ob.e ?_ | refine Ob.m ?_ | refine Ob.mk (Nat.le_of_ble_eq_true rfl) ?_ | refine JoinVC.on ?_ | refine Nils.mk (fun h => ?_) ?_ | refine Val.t ?_ | refine Val.d ?_ | refine Mm.mk ?_ | (refine Br.mk (fun h => ?_) (fun h => ?_) <;> first | (exfalso; omega; done) | (exfalso; simp at h; done) | skip))
  conv => whnf
  refine CallVC.mk [0] _ _ _ rfl rfl rfl (s163r S p hS hp) (fun r m' h' => ?_)
  obtain ⟨rfl, rfl⟩ := h'
  conv => whnf
  repeat' ((conv => whnf); first | refine Rng.g ?_ | refine Ob.g ?_ | refine Ob.e ?_ | refine Ob.m ?_ | refine Ob.mk (Nat.le_of_ble_eq_true rfl) ?_ | refine JoinVC.on ?_ | refine Nils.mk (fun h => ?_) ?_ | refine Val.t ?_ | refine Val.d ?_ | refine Mm.mk ?_ | (refine Br.mk (fun h => ?_) (fun h => ?_) <;> first | (exfalso; omega; done) | (exfalso; simp at h; done) | skip))
  repeat refine Mm.mk ?_
  conv => whnf
  refine EndVC.mk _ rfl _ _ (⟨rfl, rfl⟩) ?_
  refine ⟨[some 1], rfl, rfl, ?_, ?_⟩ <;> repeat' (first | exact trivial | exact rfl | exact Iff.rfl | apply And.intro)
theorem s80o (S : List Int) (p : List Smp) (hS : TipOK S) (hp : PtsOK p) : HSpec Tryz.prog 80 [tipX S, lS p] [] (fun r m' => r = .tup [.one (.own 0), I 0] ∧ m' = [some (rowP (readF S p))]) := by
  refine spec_of pMix (O := []) Tryz.func80 (c := bodyOf Tryz.f80) rfl (by kernel_rfl) (by kernel_rfl) Tryz.ntmps80 (res := [.tmp 4, .tmp 5]) (by kernel_rfl) ?_
  repeat' ((conv => whnf); first | refine Rng.g ?_ | refine Ob.g ?_ | refine Ob.e ?_ | refine Ob.m ?_ | refine Ob.mk (Nat.le_of_ble_eq_true rfl) ?_ | refine JoinVC.on ?_ | refine Nils.mk (fun h => ?_) ?_ | refine Val.t ?_ | refine Val.d ?_ | refine Mm.mk ?_ | (refine Br.mk (fun h => ?_) (fun h => ?_) <;> first | (exfalso; omega; done) | (exfalso; simp at h; done) | skip))
  conv => whnf
  refine CallVC.mk [] _ _ _ rfl rfl rfl (s158 S p) (fun r m' h' => ?_)
  obtain ⟨e, rfl, rfl, he⟩ := h'
  conv => whnf
  cases he.2 ⟨hS, hp⟩
  repeat' ((conv => whnf); first | refine Rng.g ?_ | refine Ob.g ?_ | refine Ob.e ?_ | refine Ob.m ?_ | refine Ob.mk (Nat.le_of_ble_eq_true rfl) ?_ | refine JoinVC.on ?_ | refine Nils.mk (fun h => ?_) ?_ | refine Val.t ?_ | refine Val.d ?_ | refine Mm.mk ?_ | (refine Br.mk (fun h => ?_) (fun h => ?_) <;> first | (exfalso; omega; done) | (exfalso; simp at h; done) | skip))
  conv => whnf
  refine CallVC.mk [] _ _ _ rfl rfl rfl (s166 S p hS hp) (fun r m' h' => ?_)
  obtain ⟨rfl, rfl⟩ := h'
  conv => whnf
  repeat' ((conv => whnf); first | refine Rng.g ?_ | refine Ob.g ?_ | refine Ob.e ?_ | refine Ob.m ?_ | refine Ob.mk (Nat.le_of_ble_eq_true rfl) ?_ | refine JoinVC.on ?_ | refine Nils.mk (fun h => ?_) ?_ | refine Val.t ?_ | refine Val.d ?_ | refine Mm.mk ?_ | (refine Br.mk (fun h => ?_) (fun h => ?_) <;> first | (exfalso; omega; done) | (exfalso; simp at h; done) | skip))
  repeat refine Mm.mk ?_
  conv => whnf
  refine EndVC.mk _ rfl _ _ (⟨rfl, rfl⟩) ?_
  refine ⟨[some 1], rfl, rfl, ?_, ?_⟩ <;> repeat' (first | exact trivial | exact rfl | exact Iff.rfl | apply And.intro)
end Go.Sx

namespace Go.Sx
open Go Go.Proofs
set_option maxRecDepth 10000
set_option maxHeartbeats 8000000
def S6 : List Int := [0, 2, 10]
def p6 : List Smp := [⟨-100, 100⟩, ⟨-100, 90⟩, ⟨-95, 100⟩]
theorem S6_ok : TipOK S6 := ⟨by decide, rfl, fun k hk => by
  have hc : k = 0 ∨ k = 1 ∨ k = 2 := by
    have : k < 3 := hk
    omega
  rcases hc with rfl | rfl | rfl <;> decide, fun k hk => by
  have hc : k = 0 ∨ k = 1 := by
    have : k + 1 < 3 := hk
    omega
  rcases hc with rfl | rfl <;> decide⟩
theorem p6_ok : PtsOK p6 := ⟨by decide, fun j hj => by
  have hc : j = 0 ∨ j = 1 ∨ j = 2 := by
    have : j < 3 := hj
    omega
  rcases hc with rfl | rfl | rfl <;> (unfold edgeP; decide)⟩
theorem s68 : PSpec Tryz.prog 68 [] (xP True) := by
  have hw := s57
  have e1 : rI (smpA (readF S6 p6)) (Int.toNat 1) 0 = -97 := (smpA_l _ 1).trans rfl
  have e2 : rI (smpA (readF S6 p6)) (Int.toNat 1) (0 + 1) = 90 := (smpA_r _ 1).trans rfl
  have lr : (smpA (readF S6 p6)).length = 3 := rfl
  refine spec_of pMix (O := []) Tryz.func68 (c := bodyOf Tryz.f68) rfl (by kernel_rfl) (by kernel_rfl) Tryz.ntmps68 (res := [.tmp 0]) (by kernel_rfl) ?_
  repeat' ((conv => whnf); first | refine Rng.g ?_ | refine Ob.g ?_ | refine Ob.e ?_ | refine Ob.m ?_ | refine Ob.mk (Nat.le_of_ble_eq_true rfl) ?_ | refine JoinVC.on ?_ | refine Nils.mk (fun h => ?_) ?_ | refine Val.t ?_ | refine Val.d ?_ | refine Mm.mk ?_ | (refine Br.mk (fun h => ?_) (fun h => ?_) <;> first | (exfalso; omega; done) | (exfalso; simp at h; done) | skip))
  conv => whnf
  refine CallVC.mk [] _ _ _ rfl rfl rfl (s80o S6 p6 S6_ok p6_ok) (fun r m' h' => ?_)
  obtain ⟨rfl, rfl⟩ := h'
  conv => whnf
  repeat' ((conv => whnf); first | refine Rng.g ?_ | refine Ob.g ?_ | refine Ob.e ?_ | refine Ob.m ?_ | refine Ob.mk (Nat.le_of_ble_eq_true rfl) ?_ | refine JoinVC.on ?_ | refine Nils.mk (fun h => ?_) ?_ | refine Val.t ?_ | refine Val.d ?_ | refine Mm.mk ?_ | (refine Br.mk (fun h => ?_) (fun h => ?_) <;> first | (exfalso; omega; done) | (exfalso; simp at h; done) | skip))
  conv => whnf
  refine CallVC.mk [] _ _ _ rfl rfl rfl (s69 p6) (fun r m' h' => ?_)
  cases h' with
  | bad e h he hr hm => exact absurd p6_ok h
  | few _ h hr hm => exact absurd h (by decide)
  | ok _ _ mn mx hn hx hr hm =>
    subst hr hm
    obtain ⟨j1, hj1, f1⟩ := hn.att
    obtain ⟨j2, hj2, f2⟩ := hx.att
    have z1 : j1 = 0 := by have : j1 < 1 := hj1; omega
    have z2 : j2 = 0 := by have : j2 < 1 := hj2; omega
    subst z1 z2
    have g1 : mn = 25 := f1.trans rfl
    have g2 : mx = 25 := f2.trans rfl
    subst g1 g2
    repeat' ((conv => whnf); first | rw [e1] | rw [e2] | rw [lr] | refine Rng.g ?_ | refine Ob.g ?_ | refine Ob.e ?_ | refine Ob.m ?_ | refine Ob.mk (Nat.le_of_ble_eq_true rfl) ?_ | refine JoinVC.on ?_ | refine Nils.mk (fun h => ?_) ?_ | refine Val.t ?_ | refine Val.d ?_ | refine Mm.mk ?_ | refine CallVC.pure rfl (hw) ?_ | refine CallVC0.pure rfl (hw) ?_ | (refine Br.mk (fun h => ?_) (fun h => ?_) <;> first | (exfalso; omega; done) | (exfalso; simp at h; done) | skip))
    repeat refine Mm.mk ?_
    refine EndVC.mk _ rfl _ _ ⟨rfl, rfl⟩ ?_
    refine ⟨[], rfl, rfl, ?_, ?_⟩ <;> repeat' (first | exact trivial | exact rfl | exact Iff.rfl | apply And.intro)
end Go.Sx

namespace Go.Sx
open Go Go.Proofs
set_option maxRecDepth 10000
theorem ps56 (n lo hi : Int) : PSpec Tryz.prog 171 [I n, I lo, I hi] (xP (n < lo ∨ hi < n)) := by
  refine spec_of pMix (O := []) Tryz.func171 (c := bodyOf Tryz.f171) rfl (by kernel_rfl) (by kernel_rfl) Tryz.ntmps171 (res := [.tmp 6]) (by kernel_rfl) ?_
  repeat refine Mm.mk ?_
  try refine JoinVC.on ?_
  refine Br.mk (fun h => ?_) (fun h => ?_)
  · repeat refine Mm.mk ?_
    refine EndVC.mk _ rfl _ _ ⟨rfl, rfl⟩ ⟨[], rfl, rfl, ⟨?_, trivial⟩, trivial⟩
    exact Or.inl h
  · repeat refine Mm.mk ?_
    refine EndVC.mk _ rfl _ _ ⟨rfl, rfl⟩ ⟨[], rfl, rfl, ⟨?_, trivial⟩, trivial⟩
    show _ ↔ _
    simp [h]
structure Mac where
  room : Int
  melt : Int
  cool : Int
  top : Int
  heat : Int
  chill : Int
  drift : Int
  hold : Int
  life : Int
@[reducible] def Mac.x (m : Mac) : XV := .agg [.int .i64 m.room, .int .i64 m.melt, .int .i64 m.cool, .int .i64 m.top, .int .i64 m.heat, .int .i64 m.chill, .int .i64 m.drift, .int .i64 m.hold, .int .i64 m.life]
/-- Which machines are valid. -/
def Mac.ok (m : Mac) : Prop := 0 ≤ m.room ∧ m.room ≤ m.cool ∧ m.cool < m.melt ∧ m.melt ≤ m.top ∧ m.top ≤ 400 ∧ 1 ≤ m.heat ∧ m.heat ≤ 400 ∧ 1 ≤ m.chill ∧ m.chill ≤ 400 ∧ 0 ≤ m.drift ∧ m.drift ≤ 400 ∧ 1 ≤ m.hold ∧ m.hold ≤ 64 ∧ 1 ≤ m.life ∧ m.life ≤ 65536
open Classical in
noncomputable def Mac.chk (m : Mac) : Int := if m.ok then 0 else 2
theorem Mac.chk0 {m : Mac} (h : m.ok) : m.chk = 0 := if_pos h
theorem Mac.chk2 {m : Mac} (h : ¬ m.ok) : m.chk = 2 := if_neg h
/-- The temperature after a tick. -/
def tickF (m : Mac) (t v : Int) : Int := if v = 1 then (if t + m.heat < m.top then t + m.heat else m.top) else if v = 2 then (if m.room < t - m.chill then t - m.chill else m.room) else (if m.room < t - m.drift then t - m.drift else m.room)
theorem ps57 (m : Mac) (T v : Int) (hm : m.ok) (h1 : m.room ≤ T) (h2 : T ≤ m.top) : PSpec Tryz.prog 252 [m.x, I T, I v] (.x (I (tickF m T v))) := by
  obtain ⟨m1, m2, m3, m4, m5, m6, m7, m8, m9, m10, m11, m12, m13, m14, m15⟩ := hm
  refine spec_of pMix (O := []) Tryz.func252 (c := bodyOf Tryz.f252) rfl (by kernel_rfl) (by kernel_rfl) Tryz.ntmps252 (res := [.tmp 6]) (by kernel_rfl) ?_
  refine Br.mk (fun h => ?_) (fun h => ?_)
  · refine Rng.ok (by simp only [inR]; omega) ?_
    repeat refine Mm.mk ?_
    refine EndVC.mk _ rfl _ _ ⟨rfl, rfl⟩ ⟨[], rfl, rfl, ⟨⟨rfl, ?_⟩, trivial⟩, trivial⟩
    simp only [tickF, if_pos h]
  · refine Br.mk (fun h' => ?_) (fun h' => ?_)
    · refine Rng.ok (by simp only [inR]; omega) ?_
      repeat refine Mm.mk ?_
      refine EndVC.mk _ rfl _ _ ⟨rfl, rfl⟩ ⟨[], rfl, rfl, ⟨⟨rfl, ?_⟩, trivial⟩, trivial⟩
      simp only [tickF, if_neg h, if_pos h']
    · refine Rng.ok (by simp only [inR]; omega) ?_
      repeat refine Mm.mk ?_
      refine EndVC.mk _ rfl _ _ ⟨rfl, rfl⟩ ⟨[], rfl, rfl, ⟨⟨rfl, ?_⟩, trivial⟩, trivial⟩
      simp only [tickF, if_neg h, if_neg h']
theorem ps20 (m : Mac) : PSpec Tryz.prog 181 [m.x] (.x (I m.chk)) := by
  refine spec_of pMix (O := []) Tryz.func181 (c := bodyOf Tryz.f181) rfl (by kernel_rfl) (by kernel_rfl) Tryz.ntmps181 (res := [.tmp 2]) (by kernel_rfl) ?_
  have bad : ¬ m.ok → (2 : Int) = m.chk := fun h => (Mac.chk2 h).symm
  repeat refine Mm.mk ?_
  try refine JoinVC.on ?_
  refine Br.mk (fun h1 => ?_) (fun h1 => ?_)
  · repeat refine Mm.mk ?_
    refine EndVC.mk _ rfl _ _ ⟨rfl, rfl⟩ ⟨[], rfl, rfl, ⟨⟨rfl, ?_⟩, trivial⟩, trivial⟩
    exact bad (by simp only [Mac.ok]; omega)
  repeat refine Mm.mk ?_
  try refine JoinVC.on ?_
  refine Br.mk (fun h2 => ?_) (fun h2 => ?_)
  · repeat refine Mm.mk ?_
    refine EndVC.mk _ rfl _ _ ⟨rfl, rfl⟩ ⟨[], rfl, rfl, ⟨⟨rfl, ?_⟩, trivial⟩, trivial⟩
    exact bad (by simp only [Mac.ok]; omega)
  repeat refine Mm.mk ?_
  try refine JoinVC.on ?_
  refine Br.mk (fun h3 => ?_) (fun h3 => ?_)
  · repeat refine Mm.mk ?_
    refine EndVC.mk _ rfl _ _ ⟨rfl, rfl⟩ ⟨[], rfl, rfl, ⟨⟨rfl, ?_⟩, trivial⟩, trivial⟩
    exact bad (by simp only [Mac.ok]; omega)
  repeat refine Mm.mk ?_
  try refine JoinVC.on ?_
  refine Br.mk (fun h4 => ?_) (fun h4 => ?_)
  · repeat refine Mm.mk ?_
    refine EndVC.mk _ rfl _ _ ⟨rfl, rfl⟩ ⟨[], rfl, rfl, ⟨⟨rfl, ?_⟩, trivial⟩, trivial⟩
    exact bad (by simp only [Mac.ok]; omega)
  repeat refine Mm.mk ?_
  try refine JoinVC.on ?_
  refine Br.mk (fun h5 => ?_) (fun h5 => ?_)
  · repeat refine Mm.mk ?_
    refine EndVC.mk _ rfl _ _ ⟨rfl, rfl⟩ ⟨[], rfl, rfl, ⟨⟨rfl, ?_⟩, trivial⟩, trivial⟩
    exact bad (by simp only [Mac.ok]; omega)
  repeat refine Mm.mk ?_
  conv => whnf
  first | refine CallVC.pure rfl (ps56 _ _ _) ?_ | refine CallVC0.pure rfl (ps56 _ _ _) ?_
  repeat refine Mm.mk ?_
  try refine JoinVC.on ?_
  refine Br.mk (fun h6 => ?_) (fun h6 => ?_)
  · repeat refine Mm.mk ?_
    refine EndVC.mk _ rfl _ _ ⟨rfl, rfl⟩ ⟨[], rfl, rfl, ⟨⟨rfl, ?_⟩, trivial⟩, trivial⟩
    exact bad (by simp only [Mac.ok]; omega)
  repeat refine Mm.mk ?_
  conv => whnf
  first | refine CallVC.pure rfl (ps56 _ _ _) ?_ | refine CallVC0.pure rfl (ps56 _ _ _) ?_
  repeat refine Mm.mk ?_
  try refine JoinVC.on ?_
  refine Br.mk (fun h7 => ?_) (fun h7 => ?_)
  · repeat refine Mm.mk ?_
    refine EndVC.mk _ rfl _ _ ⟨rfl, rfl⟩ ⟨[], rfl, rfl, ⟨⟨rfl, ?_⟩, trivial⟩, trivial⟩
    exact bad (by simp only [Mac.ok]; omega)
  repeat refine Mm.mk ?_
  conv => whnf
  first | refine CallVC.pure rfl (ps56 _ _ _) ?_ | refine CallVC0.pure rfl (ps56 _ _ _) ?_
  repeat refine Mm.mk ?_
  try refine JoinVC.on ?_
  refine Br.mk (fun h8 => ?_) (fun h8 => ?_)
  · repeat refine Mm.mk ?_
    refine EndVC.mk _ rfl _ _ ⟨rfl, rfl⟩ ⟨[], rfl, rfl, ⟨⟨rfl, ?_⟩, trivial⟩, trivial⟩
    exact bad (by simp only [Mac.ok]; omega)
  repeat refine Mm.mk ?_
  conv => whnf
  first | refine CallVC.pure rfl (ps56 _ _ _) ?_ | refine CallVC0.pure rfl (ps56 _ _ _) ?_
  repeat refine Mm.mk ?_
  try refine JoinVC.on ?_
  refine Br.mk (fun h9 => ?_) (fun h9 => ?_)
  · repeat refine Mm.mk ?_
    refine EndVC.mk _ rfl _ _ ⟨rfl, rfl⟩ ⟨[], rfl, rfl, ⟨⟨rfl, ?_⟩, trivial⟩, trivial⟩
    exact bad (by simp only [Mac.ok]; omega)
  repeat refine Mm.mk ?_
  conv => whnf
  first | refine CallVC.pure rfl (ps56 _ _ _) ?_ | refine CallVC0.pure rfl (ps56 _ _ _) ?_
  repeat refine Mm.mk ?_
  try refine JoinVC.on ?_
  refine Br.mk (fun h10 => ?_) (fun h10 => ?_)
  · repeat refine Mm.mk ?_
    refine EndVC.mk _ rfl _ _ ⟨rfl, rfl⟩ ⟨[], rfl, rfl, ⟨⟨rfl, ?_⟩, trivial⟩, trivial⟩
    exact bad (by simp only [Mac.ok]; omega)
  repeat refine Mm.mk ?_
  refine EndVC.mk _ rfl _ _ ⟨rfl, rfl⟩ ⟨[], rfl, rfl, ⟨⟨rfl, ?_⟩, trivial⟩, trivial⟩
  exact (Mac.chk0 (by simp only [Mac.ok]; omega)).symm
theorem Mac.chk_cases (m : Mac) : (m.ok ∧ m.chk = 0) ∨ (¬ m.ok ∧ m.chk = 2) := by
  by_cases h : m.ok
  · exact .inl ⟨h, Mac.chk0 h⟩
  · exact .inr ⟨h, Mac.chk2 h⟩
/-- What Tick returns. -/
def inTick (m : Mac) (t v : Int) : Prop := m.room ≤ t ∧ t ≤ m.top ∧ 0 ≤ v ∧ v ≤ 2
instance instQPA1 (m : Mac) (t v : Int) : Decidable (inTick m t v) := by unfold inTick; exact inferInstance
noncomputable def Mac.tickV (m : Mac) (t v : Int) : Int := if m.chk = 0 then (if inTick m t v then tickF m t v else 0) else 0
noncomputable def Mac.tickE (m : Mac) (t v : Int) : Int := if m.chk = 0 then (if inTick m t v then 0 else 3) else m.chk
theorem tick_bad {m : Mac} {t v : Int} (h : ¬ m.chk = 0) : (0 : Int) = m.tickV t v ∧ m.chk = m.tickE t v := ⟨(if_neg h).symm, (if_neg h).symm⟩
theorem tick_out {m : Mac} {t v : Int} (h : ¬ ¬ m.chk = 0) (h1 : ¬ inTick m t v) : (0 : Int) = m.tickV t v ∧ (3 : Int) = m.tickE t v := by
  have h := Decidable.not_not.1 h
  exact ⟨by rw [Mac.tickV, if_pos h, if_neg h1], by rw [Mac.tickE, if_pos h, if_neg h1]⟩
theorem tick_in {m : Mac} {t v : Int} (h : ¬ ¬ m.chk = 0) (h1 : inTick m t v) : tickF m t v = m.tickV t v ∧ (0 : Int) = m.tickE t v := by
  have h := Decidable.not_not.1 h
  exact ⟨by rw [Mac.tickV, if_pos h, if_pos h1], by rw [Mac.tickE, if_pos h, if_pos h1]⟩
theorem ps18 (m : Mac) (t v : Int) : PSpec Tryz.prog 168 [m.x, I t, I v] (.tup [I (m.tickV t v), I (m.tickE t v)]) := by
  refine spec_of pMix (O := []) Tryz.func168 (c := bodyOf Tryz.f168) rfl (by kernel_rfl) (by kernel_rfl) Tryz.ntmps168 (res := [.tmp 6, .tmp 7]) (by kernel_rfl) ?_
  repeat refine Mm.mk ?_
  conv => whnf
  first | refine CallVC.pure rfl (ps20 m) ?_ | refine CallVC0.pure rfl (ps20 m) ?_
  repeat refine Mm.mk ?_
  try refine JoinVC.on ?_
  refine Br.mk (fun h => ?_) (fun h => ?_)
  · repeat refine Mm.mk ?_
    refine EndVC.mk _ rfl _ _ ⟨rfl, rfl⟩ ⟨[], rfl, rfl, ⟨⟨⟨rfl, ?_⟩, ⟨rfl, ?_⟩, trivial⟩, trivial⟩, trivial⟩
    · exact (tick_bad h).1
    · exact (tick_bad h).2
  repeat refine Mm.mk ?_
  conv => whnf
  first | refine CallVC.pure rfl (ps56 _ _ _) ?_ | refine CallVC0.pure rfl (ps56 _ _ _) ?_
  repeat refine Mm.mk ?_
  try refine JoinVC.on ?_
  refine Br.mk (fun h1 => ?_) (fun h1 => ?_)
  · repeat refine Mm.mk ?_
    refine EndVC.mk _ rfl _ _ ⟨rfl, rfl⟩ ⟨[], rfl, rfl, ⟨⟨⟨rfl, ?_⟩, ⟨rfl, ?_⟩, trivial⟩, trivial⟩, trivial⟩
    · exact (tick_out h (by unfold inTick; omega)).1
    · exact (tick_out h (by unfold inTick; omega)).2
  repeat refine Mm.mk ?_
  conv => whnf
  first | refine CallVC.pure rfl (ps56 _ _ _) ?_ | refine CallVC0.pure rfl (ps56 _ _ _) ?_
  repeat refine Mm.mk ?_
  try refine JoinVC.on ?_
  refine Br.mk (fun h2 => ?_) (fun h2 => ?_)
  · repeat refine Mm.mk ?_
    refine EndVC.mk _ rfl _ _ ⟨rfl, rfl⟩ ⟨[], rfl, rfl, ⟨⟨⟨rfl, ?_⟩, ⟨rfl, ?_⟩, trivial⟩, trivial⟩, trivial⟩
    · exact (tick_out h (by unfold inTick; omega)).1
    · exact (tick_out h (by unfold inTick; omega)).2
  repeat refine Mm.mk ?_
  conv => whnf
  first | refine CallVC.pure rfl (ps57 m t v (by rcases m.chk_cases with h3 | h3; exact h3.1; exact absurd (fun e => absurd (h3.2.symm.trans e) (by decide)) h) (by omega) (by omega)) ?_ | refine CallVC0.pure rfl (ps57 m t v (by rcases m.chk_cases with h3 | h3; exact h3.1; exact absurd (fun e => absurd (h3.2.symm.trans e) (by decide)) h) (by omega) (by omega)) ?_
  repeat refine Mm.mk ?_
  refine EndVC.mk _ rfl _ _ ⟨rfl, rfl⟩ ⟨[], rfl, rfl, ⟨⟨⟨rfl, ?_⟩, ⟨rfl, ?_⟩, trivial⟩, trivial⟩, trivial⟩
  · exact (tick_in h (by unfold inTick; omega)).1
  · exact (tick_in h (by unfold inTick; omega)).2
end Go.Sx

namespace Go.Sx
open Go Go.Proofs
theorem mul_bd {a b : Int} {A B : Nat} (ha : a.natAbs ≤ A) (hb : b.natAbs ≤ B) : (a * b).natAbs ≤ A * B := by
  rw [Int.natAbs_mul]; exact Nat.mul_le_mul ha hb
structure Spot where
  x : Int
  y : Int
@[reducible] def Spot.v (p : Spot) : XV := .agg [.int .i64 p.x, .int .i64 p.y]
@[reducible] def Spot.row (p : Spot) : List Cell := [.int p.x, .int p.y]
/-- A coordinate's amount. -/
def Spot.ok (p : Spot) : Prop := p.x.natAbs ≤ 262144 ∧ p.y.natAbs ≤ 262144
set_option maxRecDepth 10000
def sq (p : Spot) : Int := p.x * p.x + p.y * p.y
theorem sq_bd {p : Spot} (h : p.ok) : (sq p).natAbs ≤ 137438953472 := by
  have h1 := mul_bd h.1 h.1
  have h2 := mul_bd h.2 h.2
  unfold sq; omega
theorem ps67 (p : Spot) (h : p.ok) : PSpec Tryz.prog 255 [p.v] (.x (I (sq p))) := by
  have h1 := mul_bd h.1 h.1
  have h2 := mul_bd h.2 h.2
  refine spec_of pMix (O := []) Tryz.func255 (c := bodyOf Tryz.f255) rfl (by kernel_rfl) (by kernel_rfl) Tryz.ntmps255 (res := [.tmp 2]) (by kernel_rfl) ?_
  repeat refine Mm.mk ?_
  refine Rng.ok (by simp only [inR]; omega) ?_
  repeat refine Mm.mk ?_
  refine Rng.ok (by simp only [inR]; omega) ?_
  repeat refine Mm.mk ?_
  refine Rng.ok (by simp only [inR]; omega) ?_
  repeat refine Mm.mk ?_
  refine EndVC.mk _ rfl _ _ ⟨rfl, rfl⟩ ⟨[], rfl, rfl, ⟨⟨rfl, ?_⟩, trivial⟩, trivial⟩
  rfl
def g2 (p q r : Spot) : Int := p.x * (q.y - r.y)
def g3 (p q r : Spot) : Int := sq p * (q.y - r.y)
def g4 (p q r : Spot) : Int := sq p * (r.x - q.x)
theorem g2_bd {p q r : Spot} (hp : p.ok) (hq : q.ok) (hr : r.ok) : (g2 p q r).natAbs ≤ 72057594037927936 := by
  obtain ⟨h1, h2⟩ := hp; obtain ⟨h3, h4⟩ := hq; obtain ⟨h5, h6⟩ := hr
  have := mul_bd (B := 524288) h1 (show (q.y - r.y).natAbs ≤ 524288 by omega)
  unfold g2; omega
theorem g3_bd {p q r : Spot} (hp : p.ok) (hq : q.ok) (hr : r.ok) : (g3 p q r).natAbs ≤ 72057594037927936 := by
  have h0 := sq_bd hp
  obtain ⟨h3, h4⟩ := hq; obtain ⟨h5, h6⟩ := hr
  have := mul_bd (B := 524288) h0 (show (q.y - r.y).natAbs ≤ 524288 by omega)
  unfold g3; omega
theorem g4_bd {p q r : Spot} (hp : p.ok) (hq : q.ok) (hr : r.ok) : (g4 p q r).natAbs ≤ 72057594037927936 := by
  have h0 := sq_bd hp
  obtain ⟨h3, h4⟩ := hq; obtain ⟨h5, h6⟩ := hr
  have := mul_bd (B := 524288) h0 (show (r.x - q.x).natAbs ≤ 524288 by omega)
  unfold g4; omega
theorem ps69 (p q r : Spot) (hp : p.ok) (hq : q.ok) (hr : r.ok) : PSpec Tryz.prog 257 [p.v, q.v, r.v] (.x (I (g2 p q r))) := by
  have h := g2_bd hp hq hr
  unfold g2 at h
  obtain ⟨h1, h2⟩ := hp; obtain ⟨h3, h4⟩ := hq; obtain ⟨h5, h6⟩ := hr
  refine spec_of pMix (O := []) Tryz.func257 (c := bodyOf Tryz.f257) rfl (by kernel_rfl) (by kernel_rfl) Tryz.ntmps257 (res := [.tmp 6]) (by kernel_rfl) ?_
  repeat refine Mm.mk ?_
  refine Rng.ok (by simp only [inR]; omega) ?_
  repeat refine Mm.mk ?_
  refine Rng.ok (by simp only [inR]; omega) ?_
  repeat refine Mm.mk ?_
  refine EndVC.mk _ rfl _ _ ⟨rfl, rfl⟩ ⟨[], rfl, rfl, ⟨⟨rfl, ?_⟩, trivial⟩, trivial⟩
  rfl
/-- The box of a function that a closure reads. -/
@[reducible] def fbox (f : FuncId) : XV := .one (.lel true [.fn] [[.fn f]] 0 0)
theorem ps70 (p q r : Spot) (hp : p.ok) (hq : q.ok) (hr : r.ok) : PSpec Tryz.prog 258 [p.v, q.v, r.v, fbox 255] (.x (I (g3 p q r))) := by
  have h := g3_bd hp hq hr
  unfold g3 at h
  have hp' := hp
  obtain ⟨h1, h2⟩ := hp; obtain ⟨h3, h4⟩ := hq; obtain ⟨h5, h6⟩ := hr
  refine spec_of pMix (O := [(1, ([], [⟨0, [], []⟩, ⟨1, [], []⟩, ⟨3, [], []⟩, ⟨4, [], []⟩, ⟨5, [], []⟩, ⟨6, [], []⟩, ⟨7, [], []⟩, ⟨2, [3, 4, 5, 6, 7], []⟩, ⟨8, [], []⟩, ⟨9, [], []⟩]))]) Tryz.func258 (c := bodyOf Tryz.f258) rfl (by kernel_rfl) (by kernel_rfl) Tryz.ntmps258 (res := [.tmp 7]) (by kernel_rfl) ?_
  repeat' ((conv => whnf); first | refine Rng.g ?_ | refine Ob.g ?_ | refine Ob.e ?_ | refine Ob.m ?_ | refine Ob.mk (Nat.le_of_ble_eq_true rfl) ?_ | refine JoinVC.on ?_ | refine Nils.mk (fun h => ?_) ?_ | refine Val.t ?_ | refine Val.d ?_ | refine Mm.mk ?_ | refine CallVC.pure rfl (ps67 p hp') ?_ | refine CallVC0.pure rfl (ps67 p hp') ?_ | (refine Br.mk (fun h => ?_) (fun h => ?_) <;> first | (exfalso; omega; done) | (exfalso; simp at h; done) | skip))
  repeat refine Mm.mk ?_
  refine EndVC.mk _ rfl _ _ ⟨rfl, rfl⟩ ⟨[], rfl, rfl, ⟨⟨rfl, ?_⟩, trivial⟩, trivial⟩
  rfl
theorem ps71 (p q r : Spot) (hp : p.ok) (hq : q.ok) (hr : r.ok) : PSpec Tryz.prog 259 [p.v, q.v, r.v, fbox 255] (.x (I (g4 p q r))) := by
  have h := g4_bd hp hq hr
  unfold g4 at h
  have hp' := hp
  obtain ⟨h1, h2⟩ := hp; obtain ⟨h3, h4⟩ := hq; obtain ⟨h5, h6⟩ := hr
  refine spec_of pMix (O := [(1, ([], [⟨0, [], []⟩, ⟨1, [], []⟩, ⟨3, [], []⟩, ⟨4, [], []⟩, ⟨5, [], []⟩, ⟨6, [], []⟩, ⟨7, [], []⟩, ⟨2, [3, 4, 5, 6, 7], []⟩, ⟨8, [], []⟩, ⟨9, [], []⟩]))]) Tryz.func259 (c := bodyOf Tryz.f259) rfl (by kernel_rfl) (by kernel_rfl) Tryz.ntmps259 (res := [.tmp 7]) (by kernel_rfl) ?_
  repeat' ((conv => whnf); first | refine Rng.g ?_ | refine Ob.g ?_ | refine Ob.e ?_ | refine Ob.m ?_ | refine Ob.mk (Nat.le_of_ble_eq_true rfl) ?_ | refine JoinVC.on ?_ | refine Nils.mk (fun h => ?_) ?_ | refine Val.t ?_ | refine Val.d ?_ | refine Mm.mk ?_ | refine CallVC.pure rfl (ps67 p hp') ?_ | refine CallVC0.pure rfl (ps67 p hp') ?_ | (refine Br.mk (fun h => ?_) (fun h => ?_) <;> first | (exfalso; omega; done) | (exfalso; simp at h; done) | skip))
  repeat refine Mm.mk ?_
  refine EndVC.mk _ rfl _ _ ⟨rfl, rfl⟩ ⟨[], rfl, rfl, ⟨⟨rfl, ?_⟩, trivial⟩, trivial⟩
  rfl

def tsum (g : Spot → Spot → Spot → Int) (a b c : Spot) : Nat → Int
  | 0 => 0
  | 1 => g a b c
  | 2 => g a b c + g b c a
  | _ => g a b c + g b c a + g c a b
@[reducible] def spots (a b c : Spot) : XV := .one (.lst true [.int .i64, .int .i64] [a.row, b.row, c.row])
theorem ps68a (f : FuncId) (g : Spot → Spot → Spot → Int) (a b c : Spot) (hf : ∀ p q r : Spot, p.ok → q.ok → r.ok → PSpec Tryz.prog f [p.v, q.v, r.v] (.x (I (g p q r))))
    (hg : ∀ p q r : Spot, p.ok → q.ok → r.ok → (g p q r).natAbs ≤ 72057594037927936) (ha : a.ok) (hb : b.ok) (hc : c.ok) : PSpec Tryz.prog 256 [.one (.fn f []), spots a b c] (.x (I (tsum g a b c 3))) := by
  have b1 := hg a b c ha hb hc
  have b2 := hg b c a hb hc ha
  have b3 := hg c a b hc ha hb
  refine spec_of pMix (O := [(5, ([], [⟨0, [], []⟩, ⟨1, [], []⟩, ⟨2, [], []⟩, ⟨3, [], []⟩, ⟨4, [], []⟩, ⟨5, [], []⟩, ⟨6, [], []⟩, ⟨7, [], []⟩, ⟨8, [], []⟩, ⟨9, [], []⟩, ⟨10, [], []⟩, ⟨11, [], []⟩, ⟨12, [], []⟩, ⟨13, [], []⟩, ⟨14, [], []⟩, ⟨15, [], []⟩, ⟨16, [], []⟩, ⟨17, [], []⟩, ⟨18, [], []⟩, ⟨19, [], []⟩, ⟨20, [], []⟩, ⟨21, [], []⟩, ⟨22, [0], []⟩, ⟨23, [], []⟩, ⟨24, [], []⟩]))]) Tryz.func256 (c := bodyOf Tryz.f256) rfl (by kernel_rfl) (by kernel_rfl) Tryz.ntmps256 (res := [.tmp 4]) (by kernel_rfl) ?_
  have e3 : (([a.row, b.row, c.row] : Arr).length : Int) = 3 := rfl
  refine LoopVC.un 4 ?_
  repeat refine Mm.mk ?_
  try refine JoinVC.on ?_
  refine Br.mk (fun h => ?_) (fun h => ?_)
  · repeat refine Mm.mk ?_
    refine Ob.mk (by simp) ?_
    repeat refine Mm.mk ?_
    refine Rng.ok (by simp only [inR]; omega) ?_
    repeat refine Mm.mk ?_
    refine Ob.mk (by simp) ?_
    conv => whnf
    refine Val.mk (1) (by simp) ?_
    repeat refine Mm.mk ?_
    refine Ob.mk (by simp) ?_
    repeat refine Mm.mk ?_
    refine Rng.ok (by simp only [inR]; omega) ?_
    repeat refine Mm.mk ?_
    refine Ob.mk (by simp) ?_
    conv => whnf
    refine Val.mk (2) (by simp) ?_
    repeat refine Mm.mk ?_
    refine Ob.mk (by simp) ?_
    repeat refine Mm.mk ?_
    conv => whnf
    first | refine CallVC.pure rfl (hf a b c ha hb hc) ?_ | refine CallVC0.pure rfl (hf a b c ha hb hc) ?_
    repeat refine Mm.mk ?_
    refine Rng.ok (by simp only [inR]; omega) ?_
    repeat refine Mm.mk ?_
    refine Rng.ok (by simp only [inR]; omega) ?_
    repeat refine Mm.mk ?_
    try refine JoinVC.on ?_
    refine Br.mk (fun h => ?_) (fun h => ?_)
    · repeat refine Mm.mk ?_
      refine Ob.mk (by simp) ?_
      repeat refine Mm.mk ?_
      refine Rng.ok (by simp only [inR]; omega) ?_
      repeat refine Mm.mk ?_
      refine Ob.mk (by simp) ?_
      conv => whnf
      refine Val.mk (2) (by simp) ?_
      repeat refine Mm.mk ?_
      refine Ob.mk (by simp) ?_
      repeat refine Mm.mk ?_
      refine Rng.ok (by simp only [inR]; omega) ?_
      repeat refine Mm.mk ?_
      refine Ob.mk (by simp) ?_
      conv => whnf
      refine Val.mk (0) (by simp) ?_
      repeat refine Mm.mk ?_
      refine Ob.mk (by simp) ?_
      repeat refine Mm.mk ?_
      conv => whnf
      first | refine CallVC.pure rfl (hf b c a hb hc ha) ?_ | refine CallVC0.pure rfl (hf b c a hb hc ha) ?_
      repeat refine Mm.mk ?_
      refine Rng.ok (by simp only [inR]; omega) ?_
      repeat refine Mm.mk ?_
      refine Rng.ok (by simp only [inR]; omega) ?_
      repeat refine Mm.mk ?_
      try refine JoinVC.on ?_
      refine Br.mk (fun h => ?_) (fun h => ?_)
      · repeat refine Mm.mk ?_
        refine Ob.mk (by simp) ?_
        repeat refine Mm.mk ?_
        refine Rng.ok (by simp only [inR]; omega) ?_
        repeat refine Mm.mk ?_
        refine Ob.mk (by simp) ?_
        conv => whnf
        refine Val.mk (0) (by simp) ?_
        repeat refine Mm.mk ?_
        refine Ob.mk (by simp) ?_
        repeat refine Mm.mk ?_
        refine Rng.ok (by simp only [inR]; omega) ?_
        repeat refine Mm.mk ?_
        refine Ob.mk (by simp) ?_
        conv => whnf
        refine Val.mk (1) (by simp) ?_
        repeat refine Mm.mk ?_
        refine Ob.mk (by simp) ?_
        repeat refine Mm.mk ?_
        conv => whnf
        first | refine CallVC.pure rfl (hf c a b hc ha hb) ?_ | refine CallVC0.pure rfl (hf c a b hc ha hb) ?_
        repeat refine Mm.mk ?_
        refine Rng.ok (by simp only [inR]; omega) ?_
        repeat refine Mm.mk ?_
        refine Rng.ok (by simp only [inR]; omega) ?_
        repeat refine Mm.mk ?_
        try refine JoinVC.on ?_
        refine Br.mk (fun h => ?_) (fun h => ?_)
        · exact absurd h (by omega)
        · repeat refine Mm.mk ?_
          refine EndVC.mk _ rfl _ _ ⟨rfl, rfl⟩ ⟨[], rfl, rfl, ⟨⟨rfl, ?_⟩, trivial⟩, trivial⟩
          simp [tsum]
      · exact absurd (by omega) h
    · exact absurd (by omega) h
  · exact absurd (by omega) h
theorem ps68b (f : FuncId) (g : Spot → Spot → Spot → Int) (a b c : Spot) (hf : ∀ p q r : Spot, p.ok → q.ok → r.ok → PSpec Tryz.prog f [p.v, q.v, r.v, fbox 255] (.x (I (g p q r))))
    (hg : ∀ p q r : Spot, p.ok → q.ok → r.ok → (g p q r).natAbs ≤ 72057594037927936) (ha : a.ok) (hb : b.ok) (hc : c.ok) : HSpec Tryz.prog 256 [.one (.fn f [(0, 0)]), spots a b c] [.box 399 [.fn 255 []]] (fun r m' => r = .x (I (tsum g a b c 3)) ∧ m' = [some (.box 399 [.fn 255 []])]) := by
  have b1 := hg a b c ha hb hc
  have b2 := hg b c a hb hc ha
  have b3 := hg c a b hc ha hb
  refine spec_of pMix (O := [(5, ([], [⟨0, [], []⟩, ⟨1, [], []⟩, ⟨2, [], []⟩, ⟨3, [], []⟩, ⟨4, [], []⟩, ⟨5, [], []⟩, ⟨6, [], []⟩, ⟨7, [], []⟩, ⟨8, [], []⟩, ⟨9, [], []⟩, ⟨10, [], []⟩, ⟨11, [], []⟩, ⟨12, [], []⟩, ⟨13, [], []⟩, ⟨14, [], []⟩, ⟨15, [], []⟩, ⟨16, [], []⟩, ⟨17, [], []⟩, ⟨18, [], []⟩, ⟨19, [], []⟩, ⟨20, [], []⟩, ⟨21, [], []⟩, ⟨22, [0], []⟩, ⟨23, [], []⟩, ⟨24, [], []⟩]))]) Tryz.func256 (c := bodyOf Tryz.f256) rfl (by kernel_rfl) (by kernel_rfl) Tryz.ntmps256 (res := [.tmp 4]) (by kernel_rfl) ?_
  have e3 : (([a.row, b.row, c.row] : Arr).length : Int) = 3 := rfl
  refine LoopVC.un 4 ?_
  repeat refine Mm.mk ?_
  try refine JoinVC.on ?_
  refine Br.mk (fun h => ?_) (fun h => ?_)
  · repeat refine Mm.mk ?_
    refine Ob.mk (by simp) ?_
    repeat refine Mm.mk ?_
    refine Rng.ok (by simp only [inR]; omega) ?_
    repeat refine Mm.mk ?_
    refine Ob.mk (by simp) ?_
    conv => whnf
    refine Val.mk (1) (by simp) ?_
    repeat refine Mm.mk ?_
    refine Ob.mk (by simp) ?_
    repeat refine Mm.mk ?_
    refine Rng.ok (by simp only [inR]; omega) ?_
    repeat refine Mm.mk ?_
    refine Ob.mk (by simp) ?_
    conv => whnf
    refine Val.mk (2) (by simp) ?_
    repeat refine Mm.mk ?_
    refine Ob.mk (by simp) ?_
    repeat refine Mm.mk ?_
    conv => whnf
    first | refine CallVC.pure rfl (hf a b c ha hb hc) ?_ | refine CallVC0.pure rfl (hf a b c ha hb hc) ?_
    repeat refine Mm.mk ?_
    refine Rng.ok (by simp only [inR]; omega) ?_
    repeat refine Mm.mk ?_
    refine Rng.ok (by simp only [inR]; omega) ?_
    repeat refine Mm.mk ?_
    try refine JoinVC.on ?_
    refine Br.mk (fun h => ?_) (fun h => ?_)
    · repeat refine Mm.mk ?_
      refine Ob.mk (by simp) ?_
      repeat refine Mm.mk ?_
      refine Rng.ok (by simp only [inR]; omega) ?_
      repeat refine Mm.mk ?_
      refine Ob.mk (by simp) ?_
      conv => whnf
      refine Val.mk (2) (by simp) ?_
      repeat refine Mm.mk ?_
      refine Ob.mk (by simp) ?_
      repeat refine Mm.mk ?_
      refine Rng.ok (by simp only [inR]; omega) ?_
      repeat refine Mm.mk ?_
      refine Ob.mk (by simp) ?_
      conv => whnf
      refine Val.mk (0) (by simp) ?_
      repeat refine Mm.mk ?_
      refine Ob.mk (by simp) ?_
      repeat refine Mm.mk ?_
      conv => whnf
      first | refine CallVC.pure rfl (hf b c a hb hc ha) ?_ | refine CallVC0.pure rfl (hf b c a hb hc ha) ?_
      repeat refine Mm.mk ?_
      refine Rng.ok (by simp only [inR]; omega) ?_
      repeat refine Mm.mk ?_
      refine Rng.ok (by simp only [inR]; omega) ?_
      repeat refine Mm.mk ?_
      try refine JoinVC.on ?_
      refine Br.mk (fun h => ?_) (fun h => ?_)
      · repeat refine Mm.mk ?_
        refine Ob.mk (by simp) ?_
        repeat refine Mm.mk ?_
        refine Rng.ok (by simp only [inR]; omega) ?_
        repeat refine Mm.mk ?_
        refine Ob.mk (by simp) ?_
        conv => whnf
        refine Val.mk (0) (by simp) ?_
        repeat refine Mm.mk ?_
        refine Ob.mk (by simp) ?_
        repeat refine Mm.mk ?_
        refine Rng.ok (by simp only [inR]; omega) ?_
        repeat refine Mm.mk ?_
        refine Ob.mk (by simp) ?_
        conv => whnf
        refine Val.mk (1) (by simp) ?_
        repeat refine Mm.mk ?_
        refine Ob.mk (by simp) ?_
        repeat refine Mm.mk ?_
        conv => whnf
        first | refine CallVC.pure rfl (hf c a b hc ha hb) ?_ | refine CallVC0.pure rfl (hf c a b hc ha hb) ?_
        repeat refine Mm.mk ?_
        refine Rng.ok (by simp only [inR]; omega) ?_
        repeat refine Mm.mk ?_
        refine Rng.ok (by simp only [inR]; omega) ?_
        repeat refine Mm.mk ?_
        try refine JoinVC.on ?_
        refine Br.mk (fun h => ?_) (fun h => ?_)
        · exact absurd h (by omega)
        · repeat refine Mm.mk ?_
          refine EndVC.mk _ rfl _ _ ⟨rfl, rfl⟩ ?_
          refine ⟨[some 0], rfl, rfl, ?_, ?_⟩ <;> repeat' (first | exact trivial | exact rfl | exact Iff.rfl | apply And.intro)
          simp [tsum]
      · exact absurd (by omega) h
    · exact absurd (by omega) h
  · exact absurd (by omega) h
def cok (a b c : Spot) : Prop := a.ok ∧ b.ok ∧ c.ok
instance instQPB1 (a : Spot) : Decidable a.ok := by unfold Spot.ok; exact inferInstance
instance instQPB2 (a b c : Spot) : Decidable (cok a b c) := by unfold cok; exact inferInstance
def cD (a b c : Spot) : Int := 2 * tsum g2 a b c 3
def cX (a b c : Spot) : Int := tsum g3 a b c 3
def cY (a b c : Spot) : Int := tsum g4 a b c 3
/-- What Centre returns. -/
def ctrE (a b c : Spot) : Int := if cok a b c then (if cD a b c = 0 then 9 else 0) else 3
def ctrX (a b c : Spot) : Int := if cok a b c then (if cD a b c = 0 then 0 else if cD a b c < 0 then 0 - cX a b c else cX a b c) else 0
def ctrY (a b c : Spot) : Int := if cok a b c then (if cD a b c = 0 then 0 else if cD a b c < 0 then 0 - cY a b c else cY a b c) else 0
def ctrD (a b c : Spot) : Int := if cok a b c then (if cD a b c = 0 then 0 else if cD a b c < 0 then 0 - cD a b c else cD a b c) else 0
theorem tsum_bd {g : Spot → Spot → Spot → Int} (hg : ∀ p q r : Spot, p.ok → q.ok → r.ok → (g p q r).natAbs ≤ 72057594037927936) {a b c : Spot} (h : cok a b c) : (tsum g a b c 3).natAbs ≤ 216172782113783808 := by
  obtain ⟨ha, hb, hc⟩ := h
  have b1 := hg a b c ha hb hc
  have b2 := hg b c a hb hc ha
  have b3 := hg c a b hc ha hb
  simp only [tsum]; omega
theorem ps31 (a b c : Spot) : PSpec Tryz.prog 170 [a.v, b.v, c.v] (.tup [I (ctrX a b c), I (ctrY a b c), I (ctrD a b c), I (ctrE a b c)]) := by
  have bad : ¬ cok a b c → (0 : Int) = ctrX a b c ∧ (0 : Int) = ctrY a b c ∧ (0 : Int) = ctrD a b c ∧ (3 : Int) = ctrE a b c := fun h => ⟨(if_neg h).symm, (if_neg h).symm, (if_neg h).symm, (if_neg h).symm⟩
  refine spec_of pMix (O := []) Tryz.func170 (c := bodyOf Tryz.f170) rfl (by kernel_rfl) (by kernel_rfl) Tryz.ntmps170 (res := [.tmp 6, .tmp 7, .tmp 8, .tmp 9]) (by kernel_rfl) ?_
  have e3 : (([a.row, b.row, c.row] : Arr).length : Int) = 3 := rfl
  refine LoopVC.un 4 ?_
  repeat' ((conv => whnf); first | refine Rng.g ?_ | refine Ob.g ?_ | refine Ob.e ?_ | refine Ob.m ?_ | refine Ob.mk (Nat.le_of_ble_eq_true rfl) ?_ | refine JoinVC.on ?_ | refine Nils.mk (fun h => ?_) ?_ | refine Val.t ?_ | refine Val.d ?_ | refine Mm.mk ?_ | refine CallVC.pure rfl (ps56 _ _ _) ?_ | refine CallVC0.pure rfl (ps56 _ _ _) ?_ | (refine Br.mk (fun h => ?_) (fun h => ?_) <;> first | (exfalso; omega; done) | (exfalso; simp at h; done) | skip))
  all_goals try
    repeat refine Mm.mk ?_
    refine EndVC.mk _ rfl _ _ ⟨rfl, rfl⟩ ?_
    refine ⟨[], rfl, rfl, ?_, ?_⟩ <;> repeat' (first | exact trivial | exact rfl | exact Iff.rfl | apply And.intro)
    all_goals
      have hb : ¬ cok a b c := by
        clear bad
        unfold cok Spot.ok
        simp [rI, cellAt, Cell.toInt] at *
        omega
      first | exact (bad hb).1 | exact (bad hb).2.1 | exact (bad hb).2.2.1 | exact (bad hb).2.2.2
  have hok : cok a b c := by
    clear bad
    unfold cok Spot.ok
    simp [rI, cellAt, Cell.toInt] at *
    omega
  obtain ⟨ha, hb, hc⟩ := hok
  have hok : cok a b c := ⟨ha, hb, hc⟩
  repeat refine Mm.mk ?_
  conv => whnf
  first | refine CallVC.pure rfl (ps68a 257 g2 a b c ps69 (fun _ _ _ => g2_bd) ha hb hc) ?_ | refine CallVC0.pure rfl (ps68a 257 g2 a b c ps69 (fun _ _ _ => g2_bd) ha hb hc) ?_
  have t2 := tsum_bd (g := g2) (fun _ _ _ => g2_bd) hok
  have t3 := tsum_bd (g := g3) (fun _ _ _ => g3_bd) hok
  have t4 := tsum_bd (g := g4) (fun _ _ _ => g4_bd) hok
  repeat refine Mm.mk ?_
  refine Rng.ok (by simp only [inR]; omega) ?_
  conv => whnf
  refine CallVC.mk [7] _ _ _ rfl rfl rfl (ps68b 258 g3 a b c ps70 (fun _ _ _ => g3_bd) ha hb hc) (fun r m' h => ?_)
  obtain ⟨rfl, rfl⟩ := h
  conv => whnf
  refine CallVC.mk [7] _ _ _ rfl rfl rfl (ps68b 259 g4 a b c ps71 (fun _ _ _ => g4_bd) ha hb hc) (fun r m' h => ?_)
  obtain ⟨rfl, rfl⟩ := h
  repeat refine Mm.mk ?_
  try refine JoinVC.on ?_
  refine Br.mk (fun d0 => ?_) (fun d0 => ?_)
  · have d0 : cD a b c = 0 := d0
    repeat refine Mm.mk ?_
    refine EndVC.mk _ rfl _ _ ⟨rfl, rfl⟩ ?_
    refine ⟨[], rfl, rfl, ?_, ?_⟩ <;> repeat' (first | exact trivial | exact rfl | exact Iff.rfl | apply And.intro)
    · simp [ctrX, hok, d0]
    · simp [ctrY, hok, d0]
    · simp [ctrD, hok, d0]
    · simp [ctrE, hok, d0]
  have d0 : ¬ cD a b c = 0 := d0
  repeat refine Mm.mk ?_
  try refine JoinVC.on ?_
  refine Br.mk (fun d1 => ?_) (fun d1 => ?_)
  · have d1 : cD a b c < 0 := d1
    repeat refine Mm.mk ?_
    refine Rng.ok (by simp only [inR]; omega) ?_
    repeat refine Mm.mk ?_
    refine Rng.ok (by simp only [inR]; omega) ?_
    repeat refine Mm.mk ?_
    refine Rng.ok (by simp only [inR]; omega) ?_
    repeat refine Mm.mk ?_
    refine EndVC.mk _ rfl _ _ ⟨rfl, rfl⟩ ?_
    refine ⟨[], rfl, rfl, ?_, ?_⟩ <;> repeat' (first | exact trivial | exact rfl | exact Iff.rfl | apply And.intro)
    · simp [ctrX, hok, d0, d1, cX]
    · simp [ctrY, hok, d0, d1, cY]
    · simp [ctrD, hok, d0, d1]; rfl
    · simp [ctrE, hok, d0]
  have d1 : ¬ cD a b c < 0 := d1
  repeat refine Mm.mk ?_
  refine EndVC.mk _ rfl _ _ ⟨rfl, rfl⟩ ?_
  refine ⟨[], rfl, rfl, ?_, ?_⟩ <;> repeat' (first | exact trivial | exact rfl | exact Iff.rfl | apply And.intro)
  · simp [ctrX, hok, d0, d1, cX]
  · simp [ctrY, hok, d0, d1, cY]
  · simp [ctrD, hok, d0, d1]; rfl
  · simp [ctrE, hok, d0]
end Go.Sx

namespace Go.Sx
open Go Go.Proofs
set_option maxRecDepth 10000
/-- Presses at a boiler whose numbers are right. -/
def Boil (p q s r : Int) : Prop := 1 ≤ p ∧ p ≤ 64 ∧ 1 ≤ q ∧ q ≤ 64 ∧ 1 ≤ s ∧ s ≤ 65536 ∧ 1 ≤ r ∧ r ≤ 65536
instance instQPC1 (p q s r : Int) : Decidable (Boil p q s r) := by unfold Boil; exact inferInstance
def boilE (p q s r n : Int) : Int := if Boil p q s r then (if 0 ≤ n ∧ n ≤ 1000 then 0 else 6) else 3
theorem ps60 (p q s r n : Int) : PSpec Tryz.prog 253 [I p, I q, I s, I r, I n] (.x (I (boilE p q s r n))) := by
  refine spec_of pMix (O := []) Tryz.func253 (c := bodyOf Tryz.f253) rfl (by kernel_rfl) (by kernel_rfl) Tryz.ntmps253 (res := [.tmp 10]) (by kernel_rfl) ?_
  repeat' ((conv => whnf); first | refine Rng.g ?_ | refine Ob.g ?_ | refine Ob.e ?_ | refine Ob.m ?_ | refine Ob.mk (Nat.le_of_ble_eq_true rfl) ?_ | refine JoinVC.on ?_ | refine Nils.mk (fun h => ?_) ?_ | refine Val.t ?_ | refine Val.d ?_ | refine Mm.mk ?_ | refine CallVC.pure rfl (ps56 _ _ _) ?_ | refine CallVC0.pure rfl (ps56 _ _ _) ?_ | (refine Br.mk (fun h => ?_) (fun h => ?_) <;> first | (exfalso; omega; done) | (exfalso; simp at h; done) | skip))
  all_goals
    repeat refine Mm.mk ?_
    refine EndVC.mk _ rfl _ _ ⟨rfl, rfl⟩ ⟨[], rfl, rfl, ⟨⟨rfl, ?_⟩, trivial⟩, trivial⟩
    unfold boilE
    split <;> rename_i hB <;> unfold Boil at hB <;> (try split) <;> omega
end Go.Sx

namespace Go.Sx
open Go Go.Proofs
set_option maxRecDepth 10000
theorem e306 : EntersF Tryz.prog 306 := enters_of Tryz.func306 (c := bodyOf Tryz.f306) (by kernel_rfl) rfl
def mx (a b : Int) : Int := if a < b then b else a
/-- The start of the disc behind these. -/
def st0 (out : List Int) : Int := if 0 < (out.length : Int) then out.getD (out.length - 1) 0 else 0
def st1 (q s : Int) (out : List Int) (t : Int) : Int := if 0 ≤ (out.length : Int) - q then mx t (out.getD ((out.length : Int) - q).toNat 0 + s) else t
def stNext (p q s r : Int) (out : List Int) : Int := st1 p (s + r) out (st1 q s out (st0 out))
def stList (p q s r : Int) : Nat → List Int
  | 0 => []
  | n + 1 => stList p q s r n ++ [stNext p q s r (stList p q s r n)]
theorem stList_len (p q s r : Int) : ∀ n, (stList p q s r n).length = n
  | 0 => rfl
  | n + 1 => by simp [stList, stList_len p q s r n]
theorem getD_app (xs : List Int) (x : Int) (j : Nat) : (xs ++ [x]).getD j 0 = if j < xs.length then xs.getD j 0 else if j = xs.length then x else 0 := by
  simp only [List.getD_eq_getElem?_getD, List.getElem?_append]
  split
  · rfl
  · rename_i h
    split
    · rename_i h2; subst h2; simp
    · rename_i h2
      have : 1 ≤ j - xs.length := by omega
      rw [List.getElem?_eq_none (by simpa using this)]; rfl
theorem st_bd {p q s r : Int} (hb : Boil p q s r) : ∀ n j, 0 ≤ (stList p q s r n).getD j 0 ∧ (stList p q s r n).getD j 0 ≤ 131072 * n
  | 0, j => by simp [stList]
  | n + 1, j => by
    unfold Boil at hb
    have ih := st_bd (p := p) (q := q) (s := s) (r := r) (by unfold Boil; omega) n
    have hl := stList_len p q s r n
    rw [stList, getD_app]
    have h0 : 0 ≤ st0 (stList p q s r n) ∧ st0 (stList p q s r n) ≤ 131072 * n := by
      unfold st0; split
      · exact ih _
      · omega
    have h1 : 0 ≤ st1 q s (stList p q s r n) (st0 (stList p q s r n)) ∧ st1 q s (stList p q s r n) (st0 (stList p q s r n)) ≤ 131072 * n + 131072 := by
      unfold st1 mx
      have := ih (((stList p q s r n).length : Int) - q).toNat
      split
      · split <;> omega
      · omega
    have h2 : 0 ≤ stNext p q s r (stList p q s r n) ∧ stNext p q s r (stList p q s r n) ≤ 131072 * n + 131072 := by
      unfold stNext
      generalize st1 q s (stList p q s r n) (st0 (stList p q s r n)) = t at h1
      unfold st1 mx
      have := ih (((stList p q s r n).length : Int) - p).toNat
      split
      · split <;> omega
      · omega
    have h3 := ih j
    split
    · omega
    · split <;> omega
/-- The objects that 'ends' leaves. -/
theorem ps61 (a : Arr) (i p q s r : Int) : HSpec Tryz.prog 254 [.one (.own 0), I i, I p, I q, I s, I r] [.row 2 false [.int .i64] a] (fun x m' => x = .x (.one (.fn 306 [(2, 0), (4, 0), (1, 0), (5, 0), (3, 0), (6, 0)])) ∧
    m' = [some (.row 2 false [.int .i64] a), some (.box 37 [.own 0]), some (.box 3 [.int .i64 i]), some (.box 3 [.int .i64 p]), some (.box 3 [.int .i64 q]), some (.box 2 [.int .i64 s]), some (.box 2 [.int .i64 r])]) := by
  refine spec_of pMix (O := []) Tryz.func254 (c := bodyOf Tryz.f254) rfl (by kernel_rfl) (by kernel_rfl) Tryz.ntmps254 (res := [.tmp 12]) (by kernel_rfl) ?_
  repeat refine Mm.mk ?_
  refine EndVC.mk _ rfl _ _ ⟨rfl, rfl⟩ ?_
  refine ⟨[some 0, some 1, some 2, some 3, some 4, some 5, some 6], rfl, rfl, ?_, ?_⟩ <;> repeat' (first | exact trivial | exact rfl | exact Iff.rfl | apply And.intro)
def stRes (p q s r n : Int) : List Int := if boilE p q s r n = 0 then stList p q s r n.toNat else []
theorem eb : Tryz.t2.bytes = 8 := by kernel_rfl
theorem ps23 (p q s r n : Int) : PSpec Tryz.prog 169 [I p, I q, I s, I r, I n] (.tup [.one (.lst false [.int .i64] (i64s (stRes p q s r n))), I (boilE p q s r n)]) := by
  refine spec_of pMix (O := []) Tryz.func169 (c := bodyOf Tryz.f169) rfl (by kernel_rfl) (by kernel_rfl) Tryz.ntmps169 (res := [.tmp 10, .tmp 11]) (by kernel_rfl) ?_
  repeat refine Mm.mk ?_
  conv => whnf
  first | refine CallVC.pure rfl (ps60 p q s r n) ?_ | refine CallVC0.pure rfl (ps60 p q s r n) ?_
  repeat refine Mm.mk ?_
  try refine JoinVC.on ?_
  refine Br.mk (fun h0 => ?_) (fun h0 => ?_)
  · have e : stRes p q s r n = [] := if_neg h0
    rw [e]
    repeat refine Mm.mk ?_
    refine EndVC.mk _ rfl _ _ ⟨rfl, rfl⟩ ?_
    refine ⟨[], rfl, rfl, ?_, ?_⟩ <;> repeat' (first | exact trivial | exact rfl | exact Iff.rfl | apply And.intro)
  have h0 := Decidable.not_not.1 h0
  have hB : Boil p q s r := by
    apply Decidable.byContradiction
    intro h; rw [boilE, if_neg h] at h0; cases h0
  have hn : 0 ≤ n ∧ n ≤ 1000 := by
    apply Decidable.byContradiction
    intro h; rw [boilE, if_pos hB, if_neg h] at h0; cases h0
  refine LoopVC.mk (fun m st => ∃ k : Nat, (k : Int) ≤ n ∧ m = n.toNat - k ∧ st = ⟨0, envA 58 [(0, .x (I p)), (1, .x (I q)), (2, .x (I s)), (3, .x (I r)), (13, .x (.one (.own 0))), (27, .x (I n)), (28, .int .i64 (k : Int))], [some (.row 2 false [.int .i64] (i64s (stList p q s r k)))]⟩) n.toNat _ ⟨0, by omega, rfl, rfl⟩ ?_ ?_
  · refine ⟨[none], rfl, rfl, ?_, ?_⟩ <;> repeat' (first | exact trivial | exact rfl | exact Iff.rfl | apply And.intro)
  · rintro m _ ⟨k, hk, hm, rfl⟩
    repeat refine Mm.mk ?_
    try refine JoinVC.on ?_
    refine Br.mk (fun h => ?_) (fun h => ?_)
    · have hl : (i64s (stList p q s r k)).length = k := by rw [i64s_len, stList_len]
      have hbd : ∀ j, 0 ≤ rI (i64s (stList p q s r k)) j 0 ∧ rI (i64s (stList p q s r k)) j 0 ≤ 131072 * k := fun j => by rw [i64s_get]; exact st_bd hB k j
      unfold Boil at hB
      have b1 := hbd ((k : Int) - 1).toNat
      have b2 := hbd ((k : Int) - q).toNat
      have b3 := hbd ((k : Int) - p).toNat
      have e1 : ((k : Int) - 1).toNat = k - 1 := by omega
      repeat refine Mm.mk ?_
      try refine JoinVC.on ?_
      refine Br.mk (fun h1 => ?_) (fun h1 => ?_)
      · repeat refine Mm.mk ?_
        refine Rng.ok (by simp only [inR]; omega) ?_
        repeat refine Mm.mk ?_
        refine Ob.mk (by omega) ?_
        repeat refine Mm.mk ?_
        refine Ob.mk (by omega) ?_
        change CallVC _ _ _ _ _
        refine CallVC.mk [0] _ _ _ rfl rfl rfl (ps61 _ _ _ _ _ _) (fun x m' hx => ?_)
        obtain ⟨rfl, rfl⟩ := hx
        change RangeVC _ _ _ _ _
        refine RangeVC.mk e306 (isem_of_awp pMix [] Tryz.func306 (c := bodyOf Tryz.f306) rfl (by kernel_rfl) Tryz.ntmps306 (by kernel_rfl) ?_)
        repeat refine Mm.mk ?_
        refine Rng.ok (by simp only [inR]; omega) ?_
        repeat refine Mm.mk ?_
        try refine JoinVC.on ?_
        refine Br.mk (fun h2 => ?_) (fun h2 => ?_)
        · repeat refine Mm.mk ?_
          refine Ob.mk (by omega) ?_
          repeat refine Mm.mk ?_
          refine Ob.mk (by omega) ?_
          change YieldVC _ _ _ _ _
          refine YieldVC.mk (rsem_of_awp pMix [] rfl (by kernel_rfl) ?_)
          repeat refine Mm.mk ?_
          refine Rng.ok (by simp only [inR]; omega) ?_
          repeat refine Mm.mk ?_
          refine Rng.ok (by simp only [inR]; omega) ?_
          repeat refine Mm.mk ?_
          try refine JoinVC.on ?_
          refine Br.mk (fun h3 => ?_) (fun h3 => ?_)
          · repeat refine Mm.mk ?_
            refine Ob.mk (by omega) ?_
            repeat refine Mm.mk ?_
            refine Ob.mk (by omega) ?_
            repeat refine Mm.mk ?_
            refine Rng.ok (by simp only [inR]; omega) ?_
            change YieldVC _ _ _ _ _
            refine YieldVC.mk (rsem_of_awp pMix [] rfl (by kernel_rfl) ?_)
            repeat refine Mm.mk ?_
            refine Rng.ok (by simp only [inR]; omega) ?_
            repeat refine Mm.mk ?_
            refine Ob.mk (by simp only [i64s_len, stList_len, List.length_cons, List.length_nil, eb]; omega) ?_
            repeat refine Mm.mk ?_
            refine Rng.ok (by simp only [inR]; omega) ?_
            refine Back.mk (n.toNat - (k + 1)) _ (by omega) ⟨k + 1, by omega, rfl, rfl⟩ ?_
            refine ⟨[some 10], rfl, rfl, ?_, ?_⟩ <;> repeat' (first | exact trivial | exact rfl | exact Iff.rfl | apply And.intro)
            rw [stList, i64s_snoc]
            congr 3
            simp only [stNext, st1, st0, mx, stList_len, if_pos h1, if_pos h2, if_pos h3, i64s_get, e1]
          · repeat refine Mm.mk ?_
            refine Ob.mk (by simp only [i64s_len, stList_len, List.length_cons, List.length_nil, eb]; omega) ?_
            repeat refine Mm.mk ?_
            refine Rng.ok (by simp only [inR]; omega) ?_
            refine Back.mk (n.toNat - (k + 1)) _ (by omega) ⟨k + 1, by omega, rfl, rfl⟩ ?_
            refine ⟨[some 10], rfl, rfl, ?_, ?_⟩ <;> repeat' (first | exact trivial | exact rfl | exact Iff.rfl | apply And.intro)
            rw [stList, i64s_snoc]
            congr 3
            simp only [stNext, st1, st0, mx, stList_len, if_pos h1, if_pos h2, if_neg h3, i64s_get, e1]
        · repeat refine Mm.mk ?_
          refine Rng.ok (by simp only [inR]; omega) ?_
          repeat refine Mm.mk ?_
          try refine JoinVC.on ?_
          refine Br.mk (fun h3 => ?_) (fun h3 => ?_)
          · repeat refine Mm.mk ?_
            refine Ob.mk (by omega) ?_
            repeat refine Mm.mk ?_
            refine Ob.mk (by omega) ?_
            repeat refine Mm.mk ?_
            refine Rng.ok (by simp only [inR]; omega) ?_
            change YieldVC _ _ _ _ _
            refine YieldVC.mk (rsem_of_awp pMix [] rfl (by kernel_rfl) ?_)
            repeat refine Mm.mk ?_
            refine Rng.ok (by simp only [inR]; omega) ?_
            repeat refine Mm.mk ?_
            refine Ob.mk (by simp only [i64s_len, stList_len, List.length_cons, List.length_nil, eb]; omega) ?_
            repeat refine Mm.mk ?_
            refine Rng.ok (by simp only [inR]; omega) ?_
            refine Back.mk (n.toNat - (k + 1)) _ (by omega) ⟨k + 1, by omega, rfl, rfl⟩ ?_
            refine ⟨[some 10], rfl, rfl, ?_, ?_⟩ <;> repeat' (first | exact trivial | exact rfl | exact Iff.rfl | apply And.intro)
            rw [stList, i64s_snoc]
            congr 3
            simp only [stNext, st1, st0, mx, stList_len, if_pos h1, if_neg h2, if_pos h3, i64s_get, e1]
          · repeat refine Mm.mk ?_
            refine Ob.mk (by simp only [i64s_len, stList_len, List.length_cons, List.length_nil, eb]; omega) ?_
            repeat refine Mm.mk ?_
            refine Rng.ok (by simp only [inR]; omega) ?_
            refine Back.mk (n.toNat - (k + 1)) _ (by omega) ⟨k + 1, by omega, rfl, rfl⟩ ?_
            refine ⟨[some 10], rfl, rfl, ?_, ?_⟩ <;> repeat' (first | exact trivial | exact rfl | exact Iff.rfl | apply And.intro)
            rw [stList, i64s_snoc]
            congr 3
            simp only [stNext, st1, st0, mx, stList_len, if_pos h1, if_neg h2, if_neg h3, i64s_get, e1]
      · change CallVC _ _ _ _ _
        refine CallVC.mk [0] _ _ _ rfl rfl rfl (ps61 _ _ _ _ _ _) (fun x m' hx => ?_)
        obtain ⟨rfl, rfl⟩ := hx
        change RangeVC _ _ _ _ _
        refine RangeVC.mk e306 (isem_of_awp pMix [] Tryz.func306 (c := bodyOf Tryz.f306) rfl (by kernel_rfl) Tryz.ntmps306 (by kernel_rfl) ?_)
        repeat refine Mm.mk ?_
        refine Rng.ok (by simp only [inR]; omega) ?_
        repeat refine Mm.mk ?_
        try refine JoinVC.on ?_
        refine Br.mk (fun h2 => ?_) (fun h2 => ?_)
        · repeat refine Mm.mk ?_
          refine Ob.mk (by omega) ?_
          repeat refine Mm.mk ?_
          refine Ob.mk (by omega) ?_
          change YieldVC _ _ _ _ _
          refine YieldVC.mk (rsem_of_awp pMix [] rfl (by kernel_rfl) ?_)
          repeat refine Mm.mk ?_
          refine Rng.ok (by simp only [inR]; omega) ?_
          repeat refine Mm.mk ?_
          refine Rng.ok (by simp only [inR]; omega) ?_
          repeat refine Mm.mk ?_
          try refine JoinVC.on ?_
          refine Br.mk (fun h3 => ?_) (fun h3 => ?_)
          · repeat refine Mm.mk ?_
            refine Ob.mk (by omega) ?_
            repeat refine Mm.mk ?_
            refine Ob.mk (by omega) ?_
            repeat refine Mm.mk ?_
            refine Rng.ok (by simp only [inR]; omega) ?_
            change YieldVC _ _ _ _ _
            refine YieldVC.mk (rsem_of_awp pMix [] rfl (by kernel_rfl) ?_)
            repeat refine Mm.mk ?_
            refine Rng.ok (by simp only [inR]; omega) ?_
            repeat refine Mm.mk ?_
            refine Ob.mk (by simp only [i64s_len, stList_len, List.length_cons, List.length_nil, eb]; omega) ?_
            repeat refine Mm.mk ?_
            refine Rng.ok (by simp only [inR]; omega) ?_
            refine Back.mk (n.toNat - (k + 1)) _ (by omega) ⟨k + 1, by omega, rfl, rfl⟩ ?_
            refine ⟨[some 10], rfl, rfl, ?_, ?_⟩ <;> repeat' (first | exact trivial | exact rfl | exact Iff.rfl | apply And.intro)
            rw [stList, i64s_snoc]
            congr 3
            simp only [stNext, st1, st0, mx, stList_len, if_neg h1, if_pos h2, if_pos h3, i64s_get]
          · repeat refine Mm.mk ?_
            refine Ob.mk (by simp only [i64s_len, stList_len, List.length_cons, List.length_nil, eb]; omega) ?_
            repeat refine Mm.mk ?_
            refine Rng.ok (by simp only [inR]; omega) ?_
            refine Back.mk (n.toNat - (k + 1)) _ (by omega) ⟨k + 1, by omega, rfl, rfl⟩ ?_
            refine ⟨[some 10], rfl, rfl, ?_, ?_⟩ <;> repeat' (first | exact trivial | exact rfl | exact Iff.rfl | apply And.intro)
            rw [stList, i64s_snoc]
            congr 3
            simp only [stNext, st1, st0, mx, stList_len, if_neg h1, if_pos h2, if_neg h3, i64s_get]
        · repeat refine Mm.mk ?_
          refine Rng.ok (by simp only [inR]; omega) ?_
          repeat refine Mm.mk ?_
          try refine JoinVC.on ?_
          refine Br.mk (fun h3 => ?_) (fun h3 => ?_)
          · repeat refine Mm.mk ?_
            refine Ob.mk (by omega) ?_
            repeat refine Mm.mk ?_
            refine Ob.mk (by omega) ?_
            repeat refine Mm.mk ?_
            refine Rng.ok (by simp only [inR]; omega) ?_
            change YieldVC _ _ _ _ _
            refine YieldVC.mk (rsem_of_awp pMix [] rfl (by kernel_rfl) ?_)
            repeat refine Mm.mk ?_
            refine Rng.ok (by simp only [inR]; omega) ?_
            repeat refine Mm.mk ?_
            refine Ob.mk (by simp only [i64s_len, stList_len, List.length_cons, List.length_nil, eb]; omega) ?_
            repeat refine Mm.mk ?_
            refine Rng.ok (by simp only [inR]; omega) ?_
            refine Back.mk (n.toNat - (k + 1)) _ (by omega) ⟨k + 1, by omega, rfl, rfl⟩ ?_
            refine ⟨[some 10], rfl, rfl, ?_, ?_⟩ <;> repeat' (first | exact trivial | exact rfl | exact Iff.rfl | apply And.intro)
            rw [stList, i64s_snoc]
            congr 3
            simp only [stNext, st1, st0, mx, stList_len, if_neg h1, if_neg h2, if_pos h3, i64s_get]
          · repeat refine Mm.mk ?_
            refine Ob.mk (by simp only [i64s_len, stList_len, List.length_cons, List.length_nil, eb]; omega) ?_
            repeat refine Mm.mk ?_
            refine Rng.ok (by simp only [inR]; omega) ?_
            refine Back.mk (n.toNat - (k + 1)) _ (by omega) ⟨k + 1, by omega, rfl, rfl⟩ ?_
            refine ⟨[some 10], rfl, rfl, ?_, ?_⟩ <;> repeat' (first | exact trivial | exact rfl | exact Iff.rfl | apply And.intro)
            rw [stList, i64s_snoc]
            congr 3
            simp only [stNext, st1, st0, mx, stList_len, if_neg h1, if_neg h2, if_neg h3]
    · have e : (k : Int) = n := by omega
      have e2 : stRes p q s r n = stList p q s r k := by rw [stRes, if_pos h0]; congr 1; omega
      rw [h0, e2]
      repeat refine Mm.mk ?_
      refine EndVC.mk _ rfl _ _ ⟨rfl, rfl⟩ ?_
      refine ⟨[], rfl, rfl, ?_, ?_⟩ <;> repeat' (first | exact trivial | exact rfl | exact Iff.rfl | apply And.intro)
end Go.Sx

namespace Go.Sx
open Go Go.Proofs
set_option maxRecDepth 10000
set_option maxHeartbeats 1000000
theorem shr_val {n c : Int} {m : Nat} (h : (2 : Int) ^ m = c) : n / 2 ^ m = n / c := by rw [h]
@[reducible] def U64 (n : Int) : XV := .one (.int .u64 n)
theorem mask32 {n : Int} (h : 0 ≤ n ∧ n ≤ 18446744073709551615) : bits .and .u64 n 4294967295 = n % 4294967296 := by
  obtain ⟨k, rfl⟩ := Int.eq_ofNat_of_zero_le h.1
  have := bits_and_u64_nat k 4294967295 (by omega) (by omega)
  rw [show ((4294967295 : Nat) : Int) = 4294967295 from rfl] at this
  rw [this, show (4294967295 : Nat) = 2 ^ 32 - 1 from rfl, Nat.and_two_pow_sub_one_eq_mod]
  omega
theorem ps74 (a b : Int) (ha : 0 ≤ a ∧ a ≤ 18446744073709551615) (hb : 0 ≤ b ∧ b ≤ 18446744073709551615) : PSpec Tryz.prog 173 [U64 a, U64 b] (.tup [U64 (a * b / 18446744073709551616), U64 (a * b % 18446744073709551616)]) := by
  have m1 := mul_bd (a := a % 4294967296) (b := b % 4294967296) (A := 4294967295) (B := 4294967295) (by omega) (by omega)
  have m2 := mul_bd (a := a / 4294967296) (b := b % 4294967296) (A := 4294967295) (B := 4294967295) (by omega) (by omega)
  have m3 := mul_bd (a := a % 4294967296) (b := b / 4294967296) (A := 4294967295) (B := 4294967295) (by omega) (by omega)
  have m4 := mul_bd (a := a / 4294967296) (b := b / 4294967296) (A := 4294967295) (B := 4294967295) (by omega) (by omega)
  have p1 : 0 ≤ (a % 4294967296) * (b % 4294967296) := Int.mul_nonneg (by omega) (by omega)
  have p2 : 0 ≤ (a / 4294967296) * (b % 4294967296) := Int.mul_nonneg (by omega) (by omega)
  have p3 : 0 ≤ (a % 4294967296) * (b / 4294967296) := Int.mul_nonneg (by omega) (by omega)
  have p4 : 0 ≤ (a / 4294967296) * (b / 4294967296) := Int.mul_nonneg (by omega) (by omega)
  have e : a * b = (a / 4294967296) * (b / 4294967296) * 18446744073709551616 + ((a / 4294967296) * (b % 4294967296) + (a % 4294967296) * (b / 4294967296)) * 4294967296 + (a % 4294967296) * (b % 4294967296) := by
    have h1 := Int.mul_ediv_add_emod a 4294967296
    have h2 := Int.mul_ediv_add_emod b 4294967296
    generalize a / 4294967296 = a1 at *
    generalize a % 4294967296 = a0 at *
    generalize b / 4294967296 = b1 at *
    generalize b % 4294967296 = b0 at *
    subst h1 h2
    grind
  refine spec_of pMix (O := []) Tryz.func173 (c := bodyOf Tryz.f173) rfl (by kernel_rfl) (by kernel_rfl) Tryz.ntmps173 (res := [.tmp 4, .tmp 5]) (by kernel_rfl) ?_
  repeat' (conv => whnf
           first
           | refine Rng.ok (by simp only [inR]; omega) ?_
           | refine Ob.mk (by first | omega | (simp; done) | decide | (simp; omega)) ?_
           | refine Val.mk _ (shr_val (by simp; rfl)) ?_
           | refine Val.mk _ (mask32 (by omega)) ?_)
  all_goals conv => whnf
  refine Rng.wr ?_
  repeat refine Mm.mk ?_
  refine EndVC.mk _ rfl _ _ ⟨rfl, rfl⟩ ?_
  refine ⟨[], rfl, rfl, ?_, ?_⟩ <;> repeat' (first | exact trivial | exact rfl | exact Iff.rfl | apply And.intro)
  · generalize (a / 4294967296) * (b / 4294967296) = u at *
    generalize (a / 4294967296) * (b % 4294967296) = v at *
    generalize (a % 4294967296) * (b / 4294967296) = t at *
    generalize (a % 4294967296) * (b % 4294967296) = r at *
    omega
end Go.Sx

namespace Go.Sx
open Go Go.Proofs
set_option maxRecDepth 10000
set_option maxHeartbeats 1000000
theorem mul_self_nonneg' (a : Int) : 0 ≤ a * a := by rcases Int.le_total 0 a with h | h; exact Int.mul_nonneg h h; exact Int.mul_nonneg_of_nonpos_of_nonpos h h
theorem ps75 (x y c : Int) (hx : 0 ≤ x ∧ x ≤ 18446744073709551615) (hy : 0 ≤ y ∧ y ≤ 18446744073709551615) (hc : 0 ≤ c ∧ c ≤ 1) :
    PSpec Tryz.prog 174 [U64 x, U64 y, U64 c] (.tup [U64 ((x + y + c) % 18446744073709551616), U64 ((x + y + c) / 18446744073709551616)]) := by
  obtain ⟨x, rfl⟩ := Int.eq_ofNat_of_zero_le hx.1
  obtain ⟨y, rfl⟩ := Int.eq_ofNat_of_zero_le hy.1
  obtain ⟨c, rfl⟩ := Int.eq_ofNat_of_zero_le hc.1
  refine pspec_extern Tryz.func174 (by kernel_rfl) (by kernel_rfl) (by kernel_rfl) (e := add64Entry) (by kernel_rfl) fun w R vs h => ?_
  obtain ⟨u, hu, e1⟩ := h.at 0 rfl
  obtain ⟨v, hv, e2⟩ := h.at 1 rfl
  obtain ⟨t, ht, e3⟩ := h.at 2 rfl
  cases e1; cases e2; cases e3
  have : vs = #[.int .u64 (x : Int), .int .u64 (y : Int), .int .u64 (c : Int)] := by
    have hl : vs.size = 3 := h.1
    refine Array.ext' (List.ext_getElem? fun i => ?_)
    rcases i with _ | _ | _ | i
    · simpa using hu
    · simpa using hv
    · simpa using ht
    · simp [hl]
  subst this
  refine ⟨_, run_add64 x y c (by omega) (by omega) (by omega) (by omega) w, _, rfl, ⟨rfl, fun j x hx => ?_⟩⟩
  rcases j with _ | _ | j
  · cases hx; rfl
  · cases hx; rfl
  · cases hx
theorem ps73 (n : Int) (h : n.natAbs ≤ 4611686018427387904) : PSpec Tryz.prog 172 [I n] (.tup [U64 (n * n / 18446744073709551616), U64 (n * n % 18446744073709551616)]) := by
  obtain ⟨m, hm, e1⟩ : ∃ m : Int, m = (if n < 0 - n then 0 - n else n) ∧ m * m = n * n := ⟨_, rfl, by split <;> grind⟩
  have hm2 : 0 ≤ m ∧ m ≤ 4611686018427387904 := by rw [hm]; split <;> omega
  rw [← e1]
  refine spec_of pMix (O := []) Tryz.func172 (c := bodyOf Tryz.f172) rfl (by kernel_rfl) (by kernel_rfl) Tryz.ntmps172 (res := [.tmp 2, .tmp 3]) (by kernel_rfl) ?_
  repeat refine Mm.mk ?_
  refine Rng.ok (by simp only [inR]; omega) ?_
  conv => whnf
  rw [← hm]
  repeat refine Mm.mk ?_
  refine Rng.ok (by simp only [inR]; omega) ?_
  repeat refine Mm.mk ?_
  conv => whnf
  first | refine CallVC.pure rfl (ps74 m m (by omega) (by omega)) ?_ | refine CallVC0.pure rfl (ps74 m m (by omega) (by omega)) ?_
  repeat refine Mm.mk ?_
  refine EndVC.mk _ rfl _ _ ⟨rfl, rfl⟩ ?_
  refine ⟨[], rfl, rfl, ?_, ?_⟩ <;> repeat' (first | exact trivial | exact rfl | exact Iff.rfl | apply And.intro)
theorem ctr_bd (a b c : Spot) : (ctrX a b c).natAbs ≤ 216172782113783808 ∧ (ctrY a b c).natAbs ≤ 216172782113783808 ∧ 0 ≤ ctrD a b c ∧ ctrD a b c ≤ 824633720832 := by
  by_cases hok : cok a b c
  · have t3 := tsum_bd (g := g3) (fun _ _ _ => g3_bd) hok
    have t4 := tsum_bd (g := g4) (fun _ _ _ => g4_bd) hok
    have t2 : (cD a b c).natAbs ≤ 824633720832 := by
      have hg : ∀ p q r : Spot, p.ok → q.ok → r.ok → (g2 p q r).natAbs ≤ 137438953472 := fun p q r hp hq hr => by
        obtain ⟨h1, h2⟩ := hp; obtain ⟨h3, h4⟩ := hq; obtain ⟨h5, h6⟩ := hr
        have := mul_bd (B := 524288) h1 (show (q.y - r.y).natAbs ≤ 524288 by omega)
        unfold g2; omega
      obtain ⟨ha, hb, hc⟩ := hok
      have b1 := hg a b c ha hb hc
      have b2 := hg b c a hb hc ha
      have b3 := hg c a b hc ha hb
      simp only [cD, tsum]; omega
    unfold ctrX ctrY ctrD
    rw [if_pos hok, if_pos hok, if_pos hok]
    unfold cX cY
    generalize tsum g3 a b c 3 = x at *
    generalize tsum g4 a b c 3 = y at *
    generalize cD a b c = d at *
    refine ⟨?_, ?_, ?_, ?_⟩ <;> (split <;> try split) <;> omega
  · unfold ctrX ctrY ctrD
    rw [if_neg hok, if_neg hok, if_neg hok]
    simp
/-- What Centred returns. -/
def cenE (a b c : Spot) (l : Int) : Int := if ctrE a b c = 0 then (if 0 ≤ l ∧ l ≤ 262144 then 0 else 2) else ctrE a b c
structure cenB (a b c : Spot) (l : Int) : Prop where
  e : cenE a b c l = 0
  le : ctrX a b c * ctrX a b c + ctrY a b c * ctrY a b c ≤ (l * ctrD a b c) * (l * ctrD a b c)
instance instQPW1 (a b c : Spot) (l : Int) : Decidable (cenB a b c l) := decidable_of_iff (cenE a b c l = 0 ∧ ctrX a b c * ctrX a b c + ctrY a b c * ctrY a b c ≤ (l * ctrD a b c) * (l * ctrD a b c)) ⟨fun h => ⟨h.1, h.2⟩, fun h => ⟨h.1, h.2⟩⟩
theorem ps33 (a b c : Spot) (l : Int) : PSpec Tryz.prog 84 [a.v, b.v, c.v, I l] (.tup [.one (.prp (cenB a b c l) inferInstance), I (cenE a b c l)]) := by
  obtain ⟨h1, h2, h3, h4⟩ := ctr_bd a b c
  have c0 : ∀ {e : Int}, e ≠ 0 → e = cenE a b c l → ¬ cenB a b c l := fun h e hk => h (e.trans hk.e)
  refine spec_of pMix (O := []) Tryz.func84 (c := bodyOf Tryz.f84) rfl (by kernel_rfl) (by kernel_rfl) Tryz.ntmps84 (res := [.tmp 8, .tmp 9]) (by kernel_rfl) ?_
  repeat' ((conv => whnf); first | refine Rng.g ?_ | refine Ob.g ?_ | refine Ob.e ?_ | refine Ob.m ?_ | refine Ob.mk (Nat.le_of_ble_eq_true rfl) ?_ | refine JoinVC.on ?_ | refine Nils.mk (fun h => ?_) ?_ | refine Val.t ?_ | refine Val.d ?_ | refine Mm.mk ?_ | refine CallVC.pure rfl (ps31 a b c) ?_ | refine CallVC.pure rfl (ps56 _ _ _) ?_ | refine CallVC0.pure rfl (ps31 a b c) ?_ | refine CallVC0.pure rfl (ps56 _ _ _) ?_ | (refine Br.mk (fun h => ?_) (fun h => ?_) <;> first | (exfalso; omega; done) | (exfalso; simp at h; done) | skip))
  · have h : ¬ ctrE a b c = 0 := by assumption
    have e : ctrE a b c = cenE a b c l := (if_neg h).symm
    repeat refine Mm.mk ?_
    refine EndVC.mk _ rfl _ _ ⟨rfl, rfl⟩ ?_
    refine ⟨[], rfl, rfl, ?_, ?_⟩ <;> repeat' (first | exact trivial | exact rfl | exact Iff.rfl | apply And.intro)
    · exact c0 h e
    · exact e
  · have e : (2 : Int) = cenE a b c l := by unfold cenE; rw [if_pos (by omega), if_neg (by omega)]
    repeat refine Mm.mk ?_
    refine EndVC.mk _ rfl _ _ ⟨rfl, rfl⟩ ?_
    refine ⟨[], rfl, rfl, ?_, ?_⟩ <;> repeat' (first | exact trivial | exact rfl | exact Iff.rfl | apply And.intro)
    · exact c0 (by decide) e
    · exact e
  have hl : 0 ≤ l ∧ l ≤ 262144 := by omega
  have m1 := mul_bd (a := l) (b := ctrD a b c) (A := 262144) (B := 824633720832) (by omega) (by omega)
  have q1 := mul_bd h1 h1
  have q2 := mul_bd h2 h2
  have q3 := mul_bd m1 m1
  have r1 : 0 ≤ ctrX a b c * ctrX a b c := mul_self_nonneg' _
  have r2 : 0 ≤ ctrY a b c * ctrY a b c := mul_self_nonneg' _
  have r3 : 0 ≤ (l * ctrD a b c) * (l * ctrD a b c) := mul_self_nonneg' _
  repeat' ((conv => whnf); first | refine Rng.g ?_ | refine Ob.g ?_ | refine Ob.e ?_ | refine Ob.m ?_ | refine Ob.mk (Nat.le_of_ble_eq_true rfl) ?_ | refine JoinVC.on ?_ | refine Nils.mk (fun h => ?_) ?_ | refine Val.t ?_ | refine Val.d ?_ | refine Mm.mk ?_ | refine CallVC.pure rfl (ps73 _ (by omega)) ?_ | refine CallVC.pure rfl (ps75 _ _ _ (by omega) (by omega) (by omega)) ?_ | refine CallVC0.pure rfl (ps73 _ (by omega)) ?_ | refine CallVC0.pure rfl (ps75 _ _ _ (by omega) (by omega) (by omega)) ?_ | (refine Br.mk (fun h => ?_) (fun h => ?_) <;> first | (exfalso; omega; done) | (exfalso; simp at h; done) | skip))
  all_goals
    have hE : ctrE a b c = 0 := by omega
    have eE : cenE a b c l = 0 := by unfold cenE; rw [if_pos hE, if_pos hl]
    generalize eX : ctrX a b c * ctrX a b c = X at *
    generalize eY : ctrY a b c * ctrY a b c = Y at *
    generalize eZ : l * ctrD a b c * (l * ctrD a b c) = Z at *
    have hB : cenB a b c l ↔ X + Y ≤ Z := by rw [← eX, ← eY, ← eZ]; exact ⟨fun h => h.le, fun h => ⟨eE, h⟩⟩
    repeat refine Mm.mk ?_
    refine EndVC.mk _ rfl _ _ ⟨rfl, rfl⟩ ?_
    refine ⟨[], rfl, rfl, ?_, ?_⟩ <;> repeat' (first | exact trivial | exact rfl | exact Iff.rfl | apply And.intro)
    · first
        | exact hB.2 (by omega)
        | (refine Iff.trans ?_ hB.symm; show _ ↔ _; omega)
        | (intro hk; have := hB.1 hk; omega)
    · exact eE.symm
end Go.Sx

namespace Go.Sx
open Go Go.Proofs
set_option maxRecDepth 10000
set_option maxHeartbeats 4000000
/-! ### What can be heard: plain laws -/
structure Hrd where
  a : Int
  b : Int
  c : Int
  d : Int
def wnd (q : List Smp) (i w : Nat) (f : Smp → Int) (k : Nat) : List Int := (winL i k (w + 1)).map fun u => f (q.getD u s0)
def hrK (q : List Smp) (w i k : Nat) : Hrd := ⟨mnL (q.getD i s0).l (wnd q i w (·.l) k), mxL' (q.getD i s0).l (wnd q i w (·.l) k), mnL (q.getD i s0).r (wnd q i w (·.r) k), mxL' (q.getD i s0).r (wnd q i w (·.r) k)⟩
def hrF (q : List Smp) (w i : Nat) : Hrd := hrK q w i q.length
def hrL (q : List Smp) (w k : Nat) : List Hrd := (List.range k).map (hrF q w)
theorem hrL_len (q : List Smp) (w k : Nat) : (hrL q w k).length = k := by simp [hrL]
def h0 : Hrd := ⟨0, 0, 0, 0⟩
theorem hrL_succ (q : List Smp) (w k : Nat) : hrL q w (k + 1) = hrL q w k ++ [hrF q w k] := by simp [hrL, List.range_succ]
theorem wnd_mem {q : List Smp} {i w k : Nat} {f : Smp → Int} {x : Int} (h : x ∈ wnd q i w f k) {v : Nat} (hv : w ≤ v) : x ∈ wnd q i v f k := by
  unfold wnd at h ⊢
  obtain ⟨u, hu, rfl⟩ := List.mem_map.1 h
  refine List.mem_map.2 ⟨u, ?_, rfl⟩
  rw [win_mem] at hu ⊢
  omega
theorem mn_sub {a : Int} {l r : List Int} (h : ∀ x, x ∈ l → x ∈ r) : mnL a r ≤ mnL a l :=
  mnL_ge l a _ (mnL_le r a).1 fun x hx => (mnL_le r a).2 x (h x hx)
theorem mx_sub {a : Int} {l r : List Int} (h : ∀ x, x ∈ l → x ∈ r) : mxL' a l ≤ mxL' a r :=
  mxL_le l a _ (mxL_ge r a).1 fun x hx => (mxL_ge r a).2 x (h x hx)
/-- With more wow more can be heard. -/
theorem hr_mono {q : List Smp} {w v i : Nat} (hv : w ≤ v) : (hrF q v i).a ≤ (hrF q w i).a ∧ (hrF q w i).b ≤ (hrF q v i).b ∧ (hrF q v i).c ≤ (hrF q w i).c ∧ (hrF q w i).d ≤ (hrF q v i).d :=
  ⟨mn_sub fun _ h => wnd_mem h hv, mx_sub fun _ h => wnd_mem h hv, mn_sub fun _ h => wnd_mem h hv, mx_sub fun _ h => wnd_mem h hv⟩
/-! ### The wow of a disc -/
def wowF (off r per : Int) : Int := (off * 113 * per + 710 * r - 1) / (710 * r)
theorem wow_mono {o o' r per : Int} (hr : 1 ≤ r) (hp : 1 ≤ per) (h : o ≤ o') : wowF o r per ≤ wowF o' r per := by
  unfold wowF
  refine Int.ediv_le_ediv (by omega) ?_
  have : o * 113 * per ≤ o' * 113 * per := Int.mul_le_mul_of_nonneg_right (by omega) (by omega)
  omega
theorem wow_nn {o r per : Int} (hr : 1 ≤ r) (hp : 1 ≤ per) (h : 0 ≤ o) : 0 ≤ wowF o r per := by
  unfold wowF
  have : 0 ≤ o * 113 * per := Int.mul_nonneg (by omega) (by omega)
  exact Int.ediv_nonneg (by omega) (by omega)
end Go.Sx
