import Derived.Test.YthlebjnhcinheaaGreatDoorPrTopVariableB
import Derived.Test.YthlebjnhcinheaaGreatDoorXc
namespace Go.Sx
open Go Go.Proofs
set_option maxRecDepth 10000
set_option maxHeartbeats 16000000
/-! ### The breadth of a groove -/
structure Brd (p : List Smp) (k : Nat) (mo mi : Int) : Prop where
  all : ∀ j, j < k → (p.getD j s0).r ≤ mo ∧ mi ≤ (p.getD j s0).l
  out : ∃ j, j < p.length ∧ mo = (p.getD j s0).r
  inn : ∃ j, j < p.length ∧ mi = (p.getD j s0).l
theorem s74 (p : List Smp) (la : Int) (hp : PtsOK p) (h0 : 0 < p.length) (hla : 0 ≤ la ∧ la ≤ 65535) : HSpec Tryz.prog 74 [lS p, I la] [] (fun r m' => ∃ mo mi, Brd p p.length mo mi ∧ r = .x (I (mo - mi + la)) ∧ m' = []) := by
  have lp := smpA_len p
  have hlp := hp.len
  have a0 : rI (smpA p) (Int.toNat 0) (0 + 0) = (p.getD 0 s0).l := smpA_l p 0
  have a1 : rI (smpA p) (Int.toNat 0) (0 + (0 + 1)) = (p.getD 0 s0).r := smpA_r p 0
  refine spec_of pMix (O := []) Tryz.func74 (c := bodyOf Tryz.f74) rfl (by kernel_rfl) (by kernel_rfl) Tryz.ntmps74 (res := [.tmp 4]) (by kernel_rfl) ?_
  repeat' ((conv => whnf); first | rw [a0] | rw [a1] | refine Rng.g ?_ | refine Ob.g ?_ | refine Ob.e ?_ | refine Ob.m ?_ | refine Ob.mk (Nat.le_of_ble_eq_true rfl) ?_ | refine JoinVC.on ?_ | refine Nils.mk (fun h => ?_) ?_ | refine Val.t ?_ | refine Val.d ?_ | refine Mm.mk ?_ | (refine Br.mk (fun h => ?_) (fun h => ?_) <;> first | (exfalso; omega; done) | (exfalso; simp at h; done) | skip))
  refine LoopVC.mk (fun n st => ∃ (i : Nat) (mo mi : Int), i ≤ p.length ∧ n = p.length - i ∧ Brd p i mo mi ∧ st = ⟨0, envA 44 [(0, .x (lS p)), (1, .x (I la)), (5, .int .i64 mo), (6, .int .i64 mi), (7, .int .i64 (i : Int))], []⟩) _ _ ⟨0, (p.getD 0 s0).r, (p.getD 0 s0).l, Nat.zero_le _, rfl, ⟨fun j hj => absurd hj (Nat.not_lt_zero j), ⟨0, h0, rfl⟩, ⟨0, h0, rfl⟩⟩, rfl⟩ ?_ ?_
  · refine ⟨[], rfl, rfl, ?_, ?_⟩ <;> repeat' (first | exact trivial | exact rfl | exact Iff.rfl | apply And.intro)
  rintro n _ ⟨i, mo, mi, hi, hn, hB, rfl⟩
  have g0 : rI (smpA p) (i : Int).toNat (0 + 0) = (p.getD i s0).l := by rw [Int.toNat_natCast]; exact smpA_l p i
  have g1 : rI (smpA p) (i : Int).toNat (0 + (0 + 1)) = (p.getD i s0).r := by rw [Int.toNat_natCast]; exact smpA_r p i
  obtain ⟨jo, hjo, ho⟩ := hB.out
  obtain ⟨ji, hji, hin⟩ := hB.inn
  have e1 := hp.ptb.each jo hjo
  have e2 := hp.ptb.each ji hji
  by_cases hi' : i < p.length
  · repeat' ((conv => whnf); first | rw [g0] | rw [g1] | refine Rng.g ?_ | refine Ob.g ?_ | refine Ob.e ?_ | refine Ob.m ?_ | refine Ob.mk (Nat.le_of_ble_eq_true rfl) ?_ | refine JoinVC.on ?_ | refine Nils.mk (fun h => ?_) ?_ | refine Val.t ?_ | refine Val.d ?_ | (refine Br.mk (fun h => ?_) (fun h => ?_) <;> first | (exfalso; omega; done) | (exfalso; simp at h; done) | skip))
    conv => whnf
    refine Mm.nm (fun mo' hmo => ?_)
    repeat' ((conv => whnf); first | rw [g0] | rw [g1] | refine Rng.g ?_ | refine Ob.g ?_ | refine Ob.e ?_ | refine Ob.m ?_ | refine Ob.mk (Nat.le_of_ble_eq_true rfl) ?_ | refine JoinVC.on ?_ | refine Nils.mk (fun h => ?_) ?_ | refine Val.t ?_ | refine Val.d ?_ | (refine Br.mk (fun h => ?_) (fun h => ?_) <;> first | (exfalso; omega; done) | (exfalso; simp at h; done) | skip))
    conv => whnf
    refine Mm.nm (fun mi' hmi => ?_)
    have hB' : Brd p (i + 1) mo' mi' := by
      refine ⟨fun j hj => ?_, ?_, ?_⟩
      · have h1 : (p.getD i s0).r ≤ mo' ∧ mo ≤ mo' := by rw [hmo]; split <;> omega
        have h2 : mi' ≤ (p.getD i s0).l ∧ mi' ≤ mi := by rw [hmi]; split <;> omega
        rcases Nat.lt_succ_iff_lt_or_eq.1 hj with h' | rfl
        · have := hB.all j h'
          omega
        · omega
      · rw [hmo]
        split
        · exact ⟨i, hi', rfl⟩
        · exact hB.out
      · rw [hmi]
        split
        · exact ⟨i, hi', rfl⟩
        · exact hB.inn
    clear hmo hmi
    repeat' ((conv => whnf); first | refine Rng.g ?_ | refine Ob.g ?_ | refine Ob.e ?_ | refine Ob.m ?_ | refine Ob.mk (Nat.le_of_ble_eq_true rfl) ?_ | refine JoinVC.on ?_ | refine Nils.mk (fun h => ?_) ?_ | refine Val.t ?_ | refine Val.d ?_ | refine Mm.mk ?_ | (refine Br.mk (fun h => ?_) (fun h => ?_) <;> first | (exfalso; omega; done) | (exfalso; simp at h; done) | skip))
    refine Back.mk (p.length - (i + 1)) _ (by omega) ⟨i + 1, mo', mi', by omega, rfl, hB', rfl⟩ ?_
    refine ⟨[], rfl, rfl, ?_, ?_⟩ <;> repeat' (first | exact trivial | exact rfl | exact Iff.rfl | apply And.intro)
  · repeat' ((conv => whnf); first | refine Rng.g ?_ | refine Ob.g ?_ | refine Ob.e ?_ | refine Ob.m ?_ | refine Ob.mk (Nat.le_of_ble_eq_true rfl) ?_ | refine JoinVC.on ?_ | refine Nils.mk (fun h => ?_) ?_ | refine Val.t ?_ | refine Val.d ?_ | refine Mm.mk ?_ | (refine Br.mk (fun h => ?_) (fun h => ?_) <;> first | (exfalso; omega; done) | (exfalso; simp at h; done) | skip))
    repeat refine Mm.mk ?_
    conv => whnf
    refine EndVC.mk _ rfl _ _ (⟨mo, mi, ⟨fun j hj => hB.all j (by omega), hB.out, hB.inn⟩, rfl, rfl⟩) ?_
    refine ⟨[], rfl, rfl, ?_, ?_⟩ <;> repeat' (first | exact trivial | exact rfl | exact Iff.rfl | apply And.intro)
/-! ### A groove in its band -/
def plainL (outer most pitch per : Int) (n : Nat) : List Int := (List.range n).map (plainF outer most pitch per)
theorem plainL_len (o m q e : Int) (n : Nat) : (plainL o m q e n).length = n := by simp [plainL]
theorem plainL_get (o m q e : Int) (n j : Nat) (h : j < n) : (plainL o m q e n).getD j 0 = plainF o m q e j := by simp [plainL, List.getD_eq_getElem?_getD, List.getElem?_range h]
theorem plainL_succ (o m q e : Int) (n : Nat) : plainL o m q e (n + 1) = plainL o m q e n ++ [plainF o m q e n] := by simp [plainL, List.range_succ]
theorem Feas.congr {b : Blnk} {p : List Smp} {y z : Nat → Int} (h : Feas b p y) (hb : 1 ≤ b.per) (e : ∀ i, i < p.length → y i = z i) : Feas b p z := fun i hi => by
  obtain ⟨h1, h2, h3, h4⟩ := h i hi
  rw [e i hi] at h1 h2 h3 h4
  refine ⟨h1, h2, fun h0 => ?_, fun h0 => ?_⟩
  · have := h3 h0
    rw [e (i - 1) (by omega)] at this
    exact this
  · have := h4 h0
    rw [e ((i : Int) - b.per).toNat (by omega)] at this
    exact this
def fBand (outer per : Int) : Fmt := ⟨⟨#[102]⟩, outer, 0, per, 0, 0, 0, 0⟩
theorem s75 (p : List Smp) (pitch land outer per mo mi : Int) (hp : PtsOK p) (h0 : 0 < p.length) (h40 : p.length ≤ 40) (hpi : 1 ≤ pitch ∧ pitch ≤ 4096) (hla : 0 ≤ land ∧ land ≤ 65535) (hou : 1 ≤ outer ∧ outer ≤ 4194304) (hpe : 1 ≤ per ∧ per ≤ 16) (hB : ∀ j, j < p.length → (p.getD j s0).r ≤ mo ∧ mi ≤ (p.getD j s0).l) (hfit : mo - mi + land ≤ pitch) : PSpec Tryz.prog 75 [lS p, I pitch, I land, I outer, I per] (xP True) := by
  have lp := smpA_len p
  have hf : FmtOK (fBand outer per) := ⟨f4_name, by simp only [fBand]; omega, by simp only [fBand]; omega, by simp only [fBand]; omega, by simp only [fBand]; omega, by simp only [fBand]; omega, by simp only [fBand]; omega, by simp only [fBand]; omega⟩
  have hg1 : Sng.ok ⟨(p.length : Int), pitch, 0⟩ := by unfold Sng.ok; simp only; omega
  have hg : SngsOK [⟨(p.length : Int), pitch, 0⟩] := (sngs1 _).2 hg1
  have hO : InR [0] (List.length [(⟨(p.length : Int), pitch, 0⟩ : Sng)]) := fun i hi => by
    have : i = 0 := by
      have : i < 1 := hi
      omega
    subst this
    exact ⟨by decide, by show (0 : Int) < ((1 : Nat) : Int); decide⟩
  have hd : ∀ i j, i < List.length [(0 : Int)] → j < List.length [(0 : Int)] → [(0 : Int)].getD i 0 = [(0 : Int)].getD j 0 → i = j := fun i j hi hj _ => by
    have h1 : i < 1 := hi
    have h2 : j < 1 := hj
    omega
  obtain ⟨w1, w2⟩ := wid_bd (f := fBand outer per) hf.per.1 hg1
  obtain ⟨W, hW⟩ : ∃ W, ((p.length : Int) + per - 1) / per = W := ⟨_, rfl⟩
  have ew : widF (fBand outer per) ⟨(p.length : Int), pitch, 0⟩ = pitch * W := by rw [← hW]; rfl
  rw [ew] at w2
  have w1' : 1 ≤ W ∧ W ≤ 16777216 := by rw [← hW]; exact w1
  have ea0 : atF (fBand outer per) [⟨(p.length : Int), pitch, 0⟩] [0] 0 = outer := by show outer - 0 = outer; omega
  have ea1 : atF (fBand outer per) [⟨(p.length : Int), pitch, 0⟩] [0] 1 = outer - pitch * W := by
    show (outer - 0) - 0 - widF (fBand outer per) ⟨(p.length : Int), pitch, 0⟩ = _
    rw [ew]; omega
  have eok : okAt (fBand outer per) [⟨(p.length : Int), pitch, 0⟩] [0] 0 ↔ 0 ≤ outer - pitch * W := by
    unfold okAt
    rw [ea1]
    exact Iff.rfl
  have hmo := hB 0 h0
  have hp0 := hp.ptb.each 0 h0
  have eper : (fBand outer per).per = per := rfl
  have mulE : pitch * W ≤ 4096 * 56 := by
    have h1 : W ≤ 56 := by
      rw [← hW]
      have : ((p.length : Int) + per - 1) / per ≤ (p.length : Int) + per - 1 := Int.ediv_le_self _ (by omega)
      omega
    exact Int.mul_le_mul hpi.2 h1 (by omega) (by decide)
  refine spec_of pMix (O := [(9, ([12], [⟨0, [], []⟩, ⟨1, [], []⟩, ⟨2, [], []⟩, ⟨3, [], []⟩, ⟨4, [], []⟩, ⟨5, [], []⟩, ⟨6, [], []⟩, ⟨7, [], []⟩, ⟨8, [], []⟩, ⟨9, [], []⟩, ⟨10, [], []⟩, ⟨11, [], []⟩, ⟨12, [], []⟩, ⟨13, [], []⟩]))]) Tryz.func75 (c := bodyOf Tryz.f75) rfl (by kernel_rfl) (by kernel_rfl) Tryz.ntmps75 (res := [.tmp 10]) (by kernel_rfl) ?_
  repeat' ((conv => whnf); first | rw [lp] | refine Rng.g ?_ | refine Ob.g ?_ | refine Ob.e ?_ | refine Ob.m ?_ | refine Ob.mk (Nat.le_of_ble_eq_true rfl) ?_ | refine JoinVC.on ?_ | refine Nils.mk (fun h => ?_) ?_ | refine Val.t ?_ | refine Val.d ?_ | refine Mm.mk ?_ | (refine Br.mk (fun h => ?_) (fun h => ?_) <;> first | (exfalso; omega; done) | (exfalso; simp at h; done) | skip))
  conv => whnf
  refine CallVC.mk [] _ _ _ rfl rfl rfl (s60 (fBand outer per) [⟨(p.length : Int), pitch, 0⟩] [0] hf hg hO (by decide) hd) (fun r m' h' => ?_)
  cases h' with
  | rule i hi h hn hr hm =>
    have hi0 : i = 0 := by
      have : i < 1 := hi
      omega
    subst hi0
    have hneg : outer - pitch * W < 0 := by
      by_cases hh : 0 ≤ outer - pitch * W
      · exact absurd (eok.2 hh) hn
      · omega
    subst hr hm
    repeat' ((conv => whnf); first | rw [lp] | rw [hW] | refine Rng.g ?_ | refine Ob.g ?_ | refine Ob.e ?_ | refine Ob.m ?_ | refine Ob.mk (Nat.le_of_ble_eq_true rfl) ?_ | refine JoinVC.on ?_ | refine Nils.mk (fun h => ?_) ?_ | refine Val.t ?_ | refine Val.d ?_ | refine Mm.mk ?_ | (refine Br.mk (fun h => ?_) (fun h => ?_) <;> first | (exfalso; omega; done) | (exfalso; simp at h; done) | skip))
    repeat refine Mm.mk ?_
    refine EndVC.mk _ rfl _ _ ⟨rfl, rfl⟩ ?_
    refine ⟨[], rfl, rfl, ?_, ?_⟩ <;> repeat' (first | exact trivial | exact rfl | exact Iff.rfl | apply And.intro)
    exact ⟨fun _ => trivial, fun _ => rfl⟩
  | limit h hn hr hm =>
    refine absurd ⟨h, ?_⟩ hn
    have h1 := eok.1 (h 0 (by decide))
    show (0 : Int) ≤ atF (fBand outer per) [⟨(p.length : Int), pitch, 0⟩] [0] 1 - 0
    rw [ea1]
    omega
  | ok h hr hm =>
  have hpos := eok.1 (h.1 0 (by decide))
  subst hr hm
  have lb : (bndA (fBand outer per) [⟨(p.length : Int), pitch, 0⟩] [0] (List.length [(0 : Int)])).length = 1 := bndA_len _ _ _ _
  have gb1 : rI (bndA (fBand outer per) [⟨(p.length : Int), pitch, 0⟩] [0] (List.length [(0 : Int)])) (Int.toNat 0) (0 + (0 + 1)) = outer := by
    show atF (fBand outer per) [⟨(p.length : Int), pitch, 0⟩] [0] 0 - 0 = outer
    rw [ea0]; omega
  have gb2 : rI (bndA (fBand outer per) [⟨(p.length : Int), pitch, 0⟩] [0] (List.length [(0 : Int)])) (Int.toNat 0) (0 + (0 + 1 + 1)) = outer - pitch * W := ea1
  have hBl : BlnkOK ⟨per, outer, outer - pitch * W, land, 0, pitch⟩ := by constructor <;> simp only <;> omega
  repeat' ((conv => whnf); first | rw [lp] | rw [hW] | rw [gb1] | rw [gb2] | refine Rng.g ?_ | refine Ob.g ?_ | refine Ob.e ?_ | refine Ob.m ?_ | refine Ob.mk (Nat.le_of_ble_eq_true rfl) ?_ | refine JoinVC.on ?_ | refine Nils.mk (fun h => ?_) ?_ | refine Val.t ?_ | refine Val.d ?_ | refine Mm.mk ?_ | (refine Br.mk (fun h => ?_) (fun h => ?_) <;> first | (exfalso; omega; done) | (exfalso; simp at h; done) | skip))
  conv => whnf
  refine CallVC.mk [] _ _ _ rfl rfl rfl (s82 ⟨per, outer, outer - pitch * W, land, 0, pitch⟩ p) (fun r m' h' => ?_)
  have hFe := band_feas (p := p) (outer := outer) (most := mo) (least := mi) (pitch := pitch) (land := land) (per := per) hpe.1 (by omega) hla.1 hB hfit
  rw [hW] at hFe
  cases h' with
  | bad e h he hr hm => exact absurd ⟨hBl, hp⟩ h
  | none _ _ hN hr hm => exact absurd hFe (hN _)
  | ok _ _ R hR hr hm =>
  subst hr hm
  have lR := hR.len
  have lRi := i64s_len R
  have a1 : rI (smpA p) (Int.toNat 0) (0 + (0 + 1)) = (p.getD 0 s0).r := smpA_r p 0
  repeat' ((conv => whnf); first | rw [lp] | rw [a1] | refine Rng.g ?_ | refine Ob.g ?_ | refine Ob.e ?_ | refine Ob.m ?_ | refine Ob.mk (Nat.le_of_ble_eq_true rfl) ?_ | refine JoinVC.on ?_ | refine Nils.mk (fun h => ?_) ?_ | refine Val.t ?_ | refine Val.d ?_ | refine Mm.mk ?_ | (refine Br.mk (fun h => ?_) (fun h => ?_) <;> first | (exfalso; omega; done) | (exfalso; simp at h; done) | skip))
  refine LoopVC.mk (fun n st => ∃ (i : Nat) (mx : Int), i ≤ p.length ∧ n = p.length - i ∧ (∀ j, j < i → (p.getD j s0).r ≤ mx) ∧ (mx ≤ mo ∧ -4194304 ≤ mx ∧ mx ≤ 4194304) ∧ st = ⟨0, envA 167 [(0, .x (lS p)), (1, .x (I pitch)), (2, .x (I land)), (3, .x (I outer)), (4, .x (I per)), (17, .x (.one (.ptr 0 0))), (18, .x (.one (.own 1))), (19, .int .i64 mx), (20, .int .i64 (i : Int))], [some (bBl ⟨per, outer, outer - pitch * W, land, 0, pitch⟩), some (rowRd R)]⟩) _ _ ⟨0, (p.getD 0 s0).r, Nat.zero_le _, rfl, fun j hj => absurd hj (Nat.not_lt_zero j), ⟨hmo.1, hp0.2⟩, rfl⟩ ?_ ?_
  · refine ⟨[some 5, some 6], rfl, rfl, ?_, ?_⟩ <;> repeat' (first | exact trivial | exact rfl | exact Iff.rfl | apply And.intro)
  rintro n _ ⟨i, mx, hi, hn, hM, hmx, rfl⟩
  have g1 : rI (smpA p) (i : Int).toNat (0 + (0 + 1)) = (p.getD i s0).r := by rw [Int.toNat_natCast]; exact smpA_r p i
  by_cases hi' : i < p.length
  · have hBi := hB i hi'
    have hpi2 := hp.ptb.each i hi'
    repeat' ((conv => whnf); first | rw [g1] | refine Rng.g ?_ | refine Ob.g ?_ | refine Ob.e ?_ | refine Ob.m ?_ | refine Ob.mk (Nat.le_of_ble_eq_true rfl) ?_ | refine JoinVC.on ?_ | refine Nils.mk (fun h => ?_) ?_ | refine Val.t ?_ | refine Val.d ?_ | (refine Br.mk (fun h => ?_) (fun h => ?_) <;> first | (exfalso; omega; done) | (exfalso; simp at h; done) | skip))
    conv => whnf
    refine Mm.nm (fun m' hm' => ?_)
    have h1 : (p.getD i s0).r ≤ m' ∧ mx ≤ m' ∧ m' ≤ mo ∧ m' ≤ 4194304 := by rw [hm']; split <;> omega
    clear hm'
    repeat' ((conv => whnf); first | refine Rng.g ?_ | refine Ob.g ?_ | refine Ob.e ?_ | refine Ob.m ?_ | refine Ob.mk (Nat.le_of_ble_eq_true rfl) ?_ | refine JoinVC.on ?_ | refine Nils.mk (fun h => ?_) ?_ | refine Val.t ?_ | refine Val.d ?_ | refine Mm.mk ?_ | (refine Br.mk (fun h => ?_) (fun h => ?_) <;> first | (exfalso; omega; done) | (exfalso; simp at h; done) | skip))
    refine Back.mk (p.length - (i + 1)) _ (by omega) ⟨i + 1, m', by omega, rfl, fun j hj => ?_, by omega, rfl⟩ ?_
    · rcases Nat.lt_succ_iff_lt_or_eq.1 hj with h' | rfl
      · have := hM j h'
        omega
      · omega
    · refine ⟨[some 0, some 1], rfl, rfl, ?_, ?_⟩ <;> repeat' (first | exact trivial | exact rfl | exact Iff.rfl | apply And.intro)
  have ei : i = p.length := by omega
  subst ei
  have hF2 := band_feas (p := p) (outer := outer) (most := mx) (least := mi) (pitch := pitch) (land := land) (per := per) hpe.1 (by omega) hla.1 (fun j hj => ⟨hM j hj, (hB j hj).2⟩) (by omega)
  rw [hW] at hF2
  have hq : ∀ j, j < p.length → 0 ≤ pitch * ((j : Int) / per) ∧ pitch * ((j : Int) / per) ≤ 4096 * 40 := fun j hj => by
    have h1 : 0 ≤ (j : Int) / per := Int.ediv_nonneg (by omega) (by omega)
    have h2 : (j : Int) / per ≤ 40 := by
      have : (j : Int) / per ≤ j := Int.ediv_le_self _ (by omega)
      omega
    exact ⟨Int.mul_nonneg (by omega) h1, Int.mul_le_mul hpi.2 h2 h1 (by decide)⟩
  repeat' ((conv => whnf); first | refine Rng.g ?_ | refine Ob.g ?_ | refine Ob.e ?_ | refine Ob.m ?_ | refine Ob.mk (Nat.le_of_ble_eq_true rfl) ?_ | refine JoinVC.on ?_ | refine Nils.mk (fun h => ?_) ?_ | refine Val.t ?_ | refine Val.d ?_ | refine Mm.mk ?_ | (refine Br.mk (fun h => ?_) (fun h => ?_) <;> first | (exfalso; omega; done) | (exfalso; simp at h; done) | skip))
  refine LoopVC.mk (fun n st => ∃ (i : Nat), i ≤ p.length ∧ n = p.length - i ∧ st = ⟨0, envA 167 [(0, .x (lS p)), (1, .x (I pitch)), (2, .x (I land)), (3, .x (I outer)), (4, .x (I per)), (17, .x (.one (.ptr 0 0))), (18, .x (.one (.own 1))), (19, .int .i64 mx), (21, .x (.one (.own 2))), (22, .int .i64 (i : Int))], [some (bBl ⟨per, outer, outer - pitch * W, land, 0, pitch⟩), some (rowRd R), some (rowRd (plainL outer mx pitch per i))]⟩) _ _ ⟨0, Nat.zero_le _, rfl, rfl⟩ ?_ ?_
  · refine ⟨[some 0, some 1, none], rfl, rfl, ?_, ?_⟩ <;> repeat' (first | exact trivial | exact rfl | exact Iff.rfl | apply And.intro)
  rintro n _ ⟨i, hi, hn, rfl⟩
  have lpl : (i64s (plainL outer mx pitch per i)).length = i := by rw [i64s_len, plainL_len]
  by_cases hi' : i < p.length
  · have hqi := hq i hi'
    have hdi : 0 ≤ (i : Int) / per ∧ (i : Int) / per ≤ 40 := ⟨Int.ediv_nonneg (by omega) (by omega), Int.le_trans (Int.ediv_le_self _ (by omega)) (by omega)⟩
    have hbest : plainF outer mx pitch per i ≤ R.getD i 0 := hR.best _ hF2 i hi'
    unfold plainF at hbest
    have g2 : rI (i64s R) (i : Int).toNat 0 = R.getD i 0 := by rw [Int.toNat_natCast]; exact i64s_get R i
    have u1 : i64s (plainL outer mx pitch per i) ++ [[Cell.int (outer - mx - pitch * ((i : Int) / per))]] = i64s (plainL outer mx pitch per (i + 1)) := by rw [plainL_succ, i64s_snoc]; rfl
    have g3 : rI (i64s (plainL outer mx pitch per (i + 1))) (i : Int).toNat 0 = outer - mx - pitch * ((i : Int) / per) := by
      rw [Int.toNat_natCast]
      exact (i64s_get _ i).trans (plainL_get _ _ _ _ _ i (Nat.lt_succ_self i))
    have lpl2 : (i64s (plainL outer mx pitch per (i + 1))).length = i + 1 := by rw [i64s_len, plainL_len]
    repeat' ((conv => whnf); first | refine Rng.g ?_ | refine Ob.g ?_ | refine Ob.e ?_ | refine Ob.m ?_ | refine Ob.mk (Nat.le_of_ble_eq_true rfl) ?_ | refine JoinVC.on ?_ | refine Nils.mk (fun h => ?_) ?_ | refine Val.t ?_ | refine Val.d ?_ | refine Mm.mk ?_ | (refine Br.mk (fun h => ?_) (fun h => ?_) <;> first | (exfalso; omega; done) | (exfalso; simp at h; done) | skip))
    repeat refine Mm.mk ?_
    refine Ob.mk (by rw [eb2]; simp only [List.length_cons, List.length_nil]; omega) ?_
    repeat' ((conv => whnf); first | rw [u1] | rw [g2] | rw [g3] | refine Rng.g ?_ | refine Ob.g ?_ | refine Ob.e ?_ | refine Ob.m ?_ | refine Ob.mk (Nat.le_of_ble_eq_true rfl) ?_ | refine JoinVC.on ?_ | refine Nils.mk (fun h => ?_) ?_ | refine Val.t ?_ | refine Val.d ?_ | refine Mm.mk ?_ | (refine Br.mk (fun h => ?_) (fun h => ?_) <;> first | (exfalso; omega; done) | (exfalso; simp at h; done) | skip))
    refine Back.mk (p.length - (i + 1)) _ (by omega) ⟨i + 1, by omega, rfl, rfl⟩ ?_
    refine ⟨[some 0, some 1, some 4], rfl, rfl, ?_, ?_⟩ <;> repeat' (first | exact trivial | exact rfl | exact Iff.rfl | apply And.intro)
  have ei : i = p.length := by omega
  subst ei
  have hF3 : Feas ⟨per, outer, outer - pitch * W, land, 0, pitch⟩ p (fun j => (plainL outer mx pitch per p.length).getD j 0) := hF2.congr hpe.1 (fun j hj => (plainL_get _ _ _ _ _ j hj).symm)
  have hBd : ∀ j, j < (plainL outer mx pitch per p.length).length → -16777216 ≤ (plainL outer mx pitch per p.length).getD j 0 ∧ (plainL outer mx pitch per p.length).getD j 0 ≤ 16777216 := fun j hj => by
    rw [plainL_len] at hj
    rw [plainL_get _ _ _ _ _ j hj]
    have := hq j hj
    unfold plainF
    omega
  repeat' ((conv => whnf); first | refine Rng.g ?_ | refine Ob.g ?_ | refine Ob.e ?_ | refine Ob.m ?_ | refine Ob.mk (Nat.le_of_ble_eq_true rfl) ?_ | refine JoinVC.on ?_ | refine Nils.mk (fun h => ?_) ?_ | refine Val.t ?_ | refine Val.d ?_ | refine Mm.mk ?_ | (refine Br.mk (fun h => ?_) (fun h => ?_) <;> first | (exfalso; omega; done) | (exfalso; simp at h; done) | skip))
  conv => whnf
  refine CallVC.mk [] _ _ _ rfl rfl rfl (s160 ⟨per, outer, outer - pitch * W, land, 0, pitch⟩ p (plainL outer mx pitch per p.length) hBl hp (plainL_len _ _ _ _ _) hF3 hBd) (fun r m' h' => ?_)
  obtain ⟨rfl, rfl⟩ := h'
  conv => whnf
  repeat' ((conv => whnf); first | refine Rng.g ?_ | refine Ob.g ?_ | refine Ob.e ?_ | refine Ob.m ?_ | refine Ob.mk (Nat.le_of_ble_eq_true rfl) ?_ | refine JoinVC.on ?_ | refine Nils.mk (fun h => ?_) ?_ | refine Val.t ?_ | refine Val.d ?_ | refine Mm.mk ?_ | (refine Br.mk (fun h => ?_) (fun h => ?_) <;> first | (exfalso; omega; done) | (exfalso; simp at h; done) | skip))
  repeat refine Mm.mk ?_
  refine EndVC.mk _ rfl _ _ ⟨rfl, rfl⟩ ?_
  refine ⟨[], rfl, rfl, ?_, ?_⟩ <;> repeat' (first | exact trivial | exact rfl | exact Iff.rfl | apply And.intro)
  exact ⟨fun _ => trivial, fun _ => rfl⟩
end Go.Sx

namespace Go.Sx
open Go Go.Proofs
set_option maxRecDepth 10000
set_option maxHeartbeats 4000000
/-! ### What a chain makes can be undone -/
theorem Filt.inv {c : Crv} {m : Int} {xs ys : List Int} (h : Filt false c m xs ys) (hl : ys.length = xs.length) (hx : sigB m xs) : Filt true c m ys xs := by
  refine ⟨by omega, fun j hj => ⟨?_, fun hb => ?_⟩⟩
  · have h1 := (h.each j (by omega)).1
    have e1 : nextY false c xs ys j = xs.getD j 0 + corF c (xs.take j).reverse (ys.take j).reverse := rfl
    have e2 : nextY true c ys xs j = ys.getD j 0 - corF c (xs.take j).reverse (ys.take j).reverse := rfl
    rw [e1] at h1
    rw [e2]
    omega
  · have := hx j
    unfold bey at hb
    omega
theorem ChN.cons {u : Bool} {g : Nat → Crv} {x z : List Int} (h1 : Filt u (g 0) 32767 x z) (h2 : z.length = x.length) : ∀ {n : Nat} {a : List Int}, ChN u (fun i => g (i + 1)) z n a → ChN u g x (n + 1) a
  | 0, _, h => by cases h; exact ⟨x, rfl, h1, h2⟩
  | n + 1, _, ⟨w, hw, hf, hl⟩ => ⟨w, ChN.cons h1 h2 hw, hf, hl⟩
theorem ChN.inv {f : Nat → Crv} {a : List Int} (ha : sigB 32767 a) : ∀ {n : Nat} {x : List Int}, ChN false f a n x → ChN true (fun i => f (n - 1 - i)) x n a
  | 0, _, h => h.symm
  | n + 1, x, ⟨z, hz, hf, hl⟩ => by
    have h1 := hf.inv hl (hz.sig ha)
    have h2 := ChN.inv ha hz
    refine ChN.cons (z := z) (by simpa using h1) hl.symm ?_
    have e : (fun i => f (n + 1 - 1 - (i + 1))) = fun i => f (n - 1 - i) := by
      funext i
      rw [show n + 1 - 1 - (i + 1) = n - 1 - i by omega]
    rw [e]
    exact h2
theorem ChN.uniq {u : Bool} {f : Nat → Crv} {xs : List Int} : ∀ {n : Nat} {ys zs : List Int}, ChN u f xs n ys → ChN u f xs n zs → ys = zs
  | 0, _, _, h1, h2 => by rw [h1, h2]
  | n + 1, _, _, ⟨w, h1, h2, h3⟩, ⟨v, h4, h5, h6⟩ => by
    have e := ChN.uniq h1 h4
    subst e
    exact h2.same h5 h3 h6
theorem ChN.pre {u : Bool} {f : Nat → Crv} {xs : List Int} {i : Nat} : ∀ {n : Nat} {ys : List Int}, ChN u f xs n ys → i ≤ n → ∃ zs, ChN u f xs i zs
  | 0, ys, h, hi => by rw [show i = 0 by omega]; exact ⟨ys, h⟩
  | n + 1, ys, h, hi => by
    by_cases e : i = n + 1
    · rw [e]; exact ⟨ys, h⟩
    · obtain ⟨w, hw, _⟩ := h
      exact ChN.pre hw (by omega)
theorem ChN.no_far {u : Bool} {f : Nat → Crv} {xs ys : List Int} {n : Nat} (h : ChN u f xs n ys) (hf : FarN u f xs n) : False := by
  obtain ⟨i, zs, vs, hi, hc, hv, hl, hb⟩ := hf
  obtain ⟨ws, zs', hz, hw, hwl⟩ := h.pre (i := i + 1) (by omega)
  have e := hc.uniq hz
  subst e
  exact hv.no_far hl hb hw hwl
theorem ChN.back {L : List Crv} {a x : List Int} (ha : sigB 32767 a) (h : ChN false (atC false L) a L.length x) : ChN true (atC true L) x L.length a := h.inv ha
/-! ### A point is read as its sample -/
theorem ptF_edge {c : Cut} (hC : CutOK c) {s : Smp} (hs : s.ok) : edgeP (ptF c s) := by
  obtain ⟨h1, h2, h3, h4⟩ := hs
  have g1 := gain_rng hC ⟨h1, h2⟩
  have g2 := gain_rng hC ⟨h3, h4⟩
  have hh := hC.half
  unfold edgeP ptF
  simp only
  omega
end Go.Sx

namespace Go.Sx
open Go Go.Proofs
set_option maxRecDepth 10000
set_option maxHeartbeats 8000000
/-! ### Edges of a cut groove -/
theorem cut_ok {c : Cut} (hC : CutOK c) {s : List Smp} (hs : SmpsOK s) : PtsOK (cutF c s) := ⟨by rw [cutF_len]; exact hs.len, fun j hj => by
  rw [cutF_len] at hj
  rw [cutF_get c s j hj]
  exact ptF_edge hC (hs.each j hj)⟩
theorem Least.zero {p : Int → Prop} {n k : Int} (h : Least p n k) (h0 : p 0) : k = 0 := by
  have h1 := h.rng
  by_cases hk : k = 0
  · exact hk
  · exact absurd h0 (h.no 0 (Int.le_refl _) (by omega))
end Go.Sx

namespace Go.Sx
open Go Go.Proofs
set_option maxRecDepth 10000
set_option maxHeartbeats 8000000
end Go.Sx

namespace Go.Sx
open Go Go.Proofs
set_option maxRecDepth 10000
set_option maxHeartbeats 8000000
/-- A gain with which a sample keeps to a ceiling. -/
structure GainOK (c : Int) (s : Smp) (v : Int) : Prop where
  rng : 0 ≤ v ∧ v ≤ 256
  l : amt s.l * v ≤ 256 * (c + 1) - 1
  r : amt s.r * v ≤ 256 * (c + 1) - 1
theorem GainOK.less {c : Int} {s : Smp} {v u : Int} (h : GainOK c s v) (h0 : 0 ≤ u) (hu : u ≤ v) (hl : 0 ≤ amt s.l) (hr : 0 ≤ amt s.r) : GainOK c s u := by
  obtain ⟨h1, h2, h3⟩ := h
  have a := Int.mul_le_mul_of_nonneg_left hu hl
  have b := Int.mul_le_mul_of_nonneg_left hu hr
  exact ⟨by omega, by omega, by omega⟩
/-- Gains that are fair to their samples. -/
structure GainsOK (c : Int) (p : List Smp) (G : List Int) : Prop where
  len : G.length = p.length
  each : ∀ j, j < p.length → GainOK c (p.getD j s0) (G.getD j 0)
end Go.Sx

namespace Go.Sx
open Go Go.Proofs
set_option maxRecDepth 10000
set_option maxHeartbeats 8000000
theorem GainsOK.set {c : Int} {p : List Smp} {G : List Int} (h : GainsOK c p G) (hp : SmpsOK p) {i : Nat} (hi : i < p.length) {v : Int} (h0 : 0 ≤ v) (hv : v ≤ G.getD i 0) : GainsOK c p (G.set i v) := by
  refine ⟨by rw [List.length_set]; exact h.len, fun j hj => ?_⟩
  rw [getD_set' _ _ _ _ _ (by rw [h.len]; exact hi)]
  split
  · rename_i e
    subst e
    obtain ⟨k1, k2, k3, k4⟩ := hp.each i hi
    exact (h.each i hi).less h0 hv (amt_bd (B := 32767) ⟨k1, k2⟩).1 (amt_bd (B := 32767) ⟨k3, k4⟩).1
  · exact h.each j hj
end Go.Sx

namespace Go.Sx
open Go Go.Proofs
set_option maxRecDepth 10000
set_option maxHeartbeats 8000000
end Go.Sx

namespace Go.Sx
open Go Go.Proofs
set_option maxRecDepth 10000
set_option maxHeartbeats 8000000
end Go.Sx

namespace Go.Sx
open Go Go.Proofs
set_option maxRecDepth 10000
set_option maxHeartbeats 8000000
theorem e16 : EntersF Tryz.prog 16 := enters_of Tryz.func16 (c := bodyOf Tryz.f16) (by kernel_rfl) rfl
theorem s16 (p : List Smp) (c : Cut) (la ou pe : Int) (hI : ∀ j, inI (p.getD j s0).l ∧ inI (p.getD j s0).r) (hla : 0 ≤ la ∧ la ≤ 65535) (hou : 0 ≤ ou ∧ ou ≤ 4294967295) (hpe : 0 ≤ pe ∧ pe ≤ 255) : PSpec Tryz.prog 16 [lS p, c.x, .one (.int .u16 la), .one (.int .u32 ou), .one (.int .u8 pe)] (xP True) := by
  have hw := s57
  have hk := s58 p hI
  have hsm := smpE_iff p
  have lp := smpA_len p
  by_cases hV : ¬ ((0 < p.length ∧ p.length ≤ 40) ∧ CutOK c ∧ SmpsOK p)
  · by_cases h40 : p.length = 0 ∨ 40 < p.length
    · refine spec_of pMix (O := []) Tryz.func16 (c := bodyOf Tryz.f16) rfl (by kernel_rfl) (by kernel_rfl) Tryz.ntmps16 (res := [.tmp 10]) (by kernel_rfl) ?_
      repeat' ((conv => whnf); first | refine Rng.g ?_ | refine Ob.g ?_ | refine Ob.e ?_ | refine Ob.m ?_ | refine Ob.mk (Nat.le_of_ble_eq_true rfl) ?_ | refine JoinVC.on ?_ | refine Nils.mk (fun h => ?_) ?_ | refine Val.t ?_ | refine Val.d ?_ | refine Mm.mk ?_ | refine CallVC.pure rfl (hw) ?_ | refine CallVC0.pure rfl (hw) ?_ | (refine Br.mk (fun h => ?_) (fun h => ?_) <;> first | (exfalso; omega; done) | (exfalso; simp at h; done) | skip))
      all_goals
        repeat refine Mm.mk ?_
        refine EndVC.mk _ rfl _ _ ⟨rfl, rfl⟩ ?_
        refine ⟨[], rfl, rfl, ?_, ?_⟩ <;> repeat' (first | exact trivial | exact rfl | exact Iff.rfl | apply And.intro)
    have h41 : 0 < p.length ∧ p.length ≤ 40 := by omega
    refine spec_of pMix (O := []) Tryz.func16 (c := bodyOf Tryz.f16) rfl (by kernel_rfl) (by kernel_rfl) Tryz.ntmps16 (res := [.tmp 10]) (by kernel_rfl) ?_
    repeat' ((conv => whnf); first | refine Rng.g ?_ | refine Ob.g ?_ | refine Ob.e ?_ | refine Ob.m ?_ | refine Ob.mk (Nat.le_of_ble_eq_true rfl) ?_ | refine JoinVC.on ?_ | refine Nils.mk (fun h => ?_) ?_ | refine Val.t ?_ | refine Val.d ?_ | refine Mm.mk ?_ | (refine Br.mk (fun h => ?_) (fun h => ?_) <;> first | (exfalso; omega; done) | (exfalso; simp at h; done) | skip))
    conv => whnf
    refine CallVC.mk [] _ _ _ rfl rfl rfl (s24 c) (fun r m' h' => ?_)
    obtain ⟨e2, rfl, rfl, he2⟩ := h'
    conv => whnf
    repeat' ((conv => whnf); first | refine Rng.g ?_ | refine Ob.g ?_ | refine Ob.e ?_ | refine Ob.m ?_ | refine Ob.mk (Nat.le_of_ble_eq_true rfl) ?_ | refine JoinVC.on ?_ | refine Nils.mk (fun h => ?_) ?_ | refine Val.t ?_ | refine Val.d ?_ | refine Mm.mk ?_ | refine CallVC.pure rfl (hk) ?_ | refine CallVC.pure rfl (hw) ?_ | refine CallVC0.pure rfl (hk) ?_ | refine CallVC0.pure rfl (hw) ?_ | (refine Br.mk (fun h => ?_) (fun h => ?_) <;> first | (exfalso; omega; done) | (exfalso; simp at h; done) | skip))
    all_goals first | (exfalso; exact hV ⟨h41, he2.1 (by omega), hsm.1 (by omega)⟩) | skip
    all_goals
      repeat refine Mm.mk ?_
      refine EndVC.mk _ rfl _ _ ⟨rfl, rfl⟩ ?_
      refine ⟨[], rfl, rfl, ?_, ?_⟩ <;> repeat' (first | exact trivial | exact rfl | exact Iff.rfl | apply And.intro)
  replace hV := Classical.not_not.1 hV
  obtain ⟨h40, hC, hP⟩ := hV
  have hsm0 := hsm.2 hP
  rw [hsm0] at hk
  have hG := cut_ok hC hP
  refine spec_of pMix (O := []) Tryz.func16 (c := bodyOf Tryz.f16) rfl (by kernel_rfl) (by kernel_rfl) Tryz.ntmps16 (res := [.tmp 10]) (by kernel_rfl) ?_
  repeat' ((conv => whnf); first | refine Rng.g ?_ | refine Ob.g ?_ | refine Ob.e ?_ | refine Ob.m ?_ | refine Ob.mk (Nat.le_of_ble_eq_true rfl) ?_ | refine JoinVC.on ?_ | refine Nils.mk (fun h => ?_) ?_ | refine Val.t ?_ | refine Val.d ?_ | refine Mm.mk ?_ | (refine Br.mk (fun h => ?_) (fun h => ?_) <;> first | (exfalso; omega; done) | (exfalso; simp at h; done) | skip))
  conv => whnf
  refine CallVC.mk [] _ _ _ rfl rfl rfl (s24 c) (fun r m' h' => ?_)
  obtain ⟨e2, rfl, rfl, he2⟩ := h'
  conv => whnf
  cases he2.2 hC
  repeat' ((conv => whnf); first | refine Rng.g ?_ | refine Ob.g ?_ | refine Ob.e ?_ | refine Ob.m ?_ | refine Ob.mk (Nat.le_of_ble_eq_true rfl) ?_ | refine JoinVC.on ?_ | refine Nils.mk (fun h => ?_) ?_ | refine Val.t ?_ | refine Val.d ?_ | refine Mm.mk ?_ | refine CallVC.pure rfl (hk) ?_ | refine CallVC0.pure rfl (hk) ?_ | (refine Br.mk (fun h => ?_) (fun h => ?_) <;> first | (exfalso; omega; done) | (exfalso; simp at h; done) | skip))
  conv => whnf
  refine CallVC.mk [] _ _ _ rfl rfl rfl (s30 c p) (fun r m' h' => ?_)
  cases h' with
  | bad e h he hr hm => exact absurd ⟨hC, hP⟩ h
  | ok hC' hj' hr' hm' =>
  subst hr' hm'
  obtain ⟨g, hg⟩ : ∃ g, g = cutF c p := ⟨_, rfl⟩
  rw [← hg]
  rw [← hg] at hG
  have lgl : g.length = p.length := by rw [hg, cutF_len]
  have lg := smpA_len g
  repeat' ((conv => whnf); first | refine Rng.g ?_ | refine Ob.g ?_ | refine Ob.e ?_ | refine Ob.m ?_ | refine Ob.mk (Nat.le_of_ble_eq_true rfl) ?_ | refine JoinVC.on ?_ | refine Nils.mk (fun h => ?_) ?_ | refine Val.t ?_ | refine Val.d ?_ | refine Mm.mk ?_ | (refine Br.mk (fun h => ?_) (fun h => ?_) <;> first | (exfalso; omega; done) | (exfalso; simp at h; done) | skip))
  conv => whnf
  refine CallVC.mk [] _ _ _ rfl rfl rfl (s74 g la hG (by omega) hla) (fun r m' h' => ?_)
  obtain ⟨mo, mi, hB, rfl, rfl⟩ := h'
  conv => whnf
  obtain ⟨jo, hjo, ho⟩ := hB.out
  obtain ⟨ji, hji, hin⟩ := hB.inn
  have e1 := hG.each jo hjo
  have e2 := hG.each ji hji
  unfold edgeP at e1 e2
  by_cases hs : 1 ≤ mo - mi + la ∧ mo - mi + la ≤ 4096
  · have h75 := s75 g (mo - mi + la) la (1 + ou % 4194304) (1 + pe % 16) mo mi hG (by omega) (by omega) hs hla (by omega) (by omega) hB.all (Int.le_refl _)
    repeat' ((conv => whnf); first | refine Rng.g ?_ | refine Ob.g ?_ | refine Ob.e ?_ | refine Ob.m ?_ | refine Ob.mk (Nat.le_of_ble_eq_true rfl) ?_ | refine JoinVC.on ?_ | refine Nils.mk (fun h => ?_) ?_ | refine Val.t ?_ | refine Val.d ?_ | refine Mm.mk ?_ | refine CallVC.pure rfl (h75) ?_ | refine CallVC.pure rfl (hw) ?_ | refine CallVC0.pure rfl (h75) ?_ | refine CallVC0.pure rfl (hw) ?_ | (refine Br.mk (fun h => ?_) (fun h => ?_) <;> first | (exfalso; omega; done) | (exfalso; simp at h; done) | skip))
    all_goals
      repeat refine Mm.mk ?_
      refine EndVC.mk _ rfl _ _ ⟨rfl, rfl⟩ ?_
      refine ⟨[], rfl, rfl, ?_, ?_⟩ <;> repeat' (first | exact trivial | exact rfl | exact Iff.rfl | apply And.intro)
  · repeat' ((conv => whnf); first | refine Rng.g ?_ | refine Ob.g ?_ | refine Ob.e ?_ | refine Ob.m ?_ | refine Ob.mk (Nat.le_of_ble_eq_true rfl) ?_ | refine JoinVC.on ?_ | refine Nils.mk (fun h => ?_) ?_ | refine Val.t ?_ | refine Val.d ?_ | refine Mm.mk ?_ | refine CallVC.pure rfl (hw) ?_ | refine CallVC0.pure rfl (hw) ?_ | (refine Br.mk (fun h => ?_) (fun h => ?_) <;> first | (exfalso; omega; done) | (exfalso; simp at h; done) | skip))
    all_goals
      repeat refine Mm.mk ?_
      refine EndVC.mk _ rfl _ _ ⟨rfl, rfl⟩ ?_
      refine ⟨[], rfl, rfl, ?_, ?_⟩ <;> repeat' (first | exact trivial | exact rfl | exact Iff.rfl | apply And.intro)
end Go.Sx

namespace Go.Sx
open Go Go.Proofs
set_option maxRecDepth 10000
/-! ### Rows read as takes, parts, curves, samples -/
theorem wfr_of : ∀ {ks : List CK} {r : List Cell}, r.length = ks.length → (∀ (j : Nat) k c, ks[j]? = some k → r[j]? = some c → Wf k c) → WfR ks r
  | [], [], _, _ => .nil
  | [], _ :: _, h, _ => by simp at h
  | _ :: _, [], h, _ => by simp at h
  | k :: ks, c :: cs, h, hw => .cons (hw 0 k c rfl rfl) (wfr_of (by simpa using h) fun j k' c' h1 h2 => hw (j + 1) k' c' (by simpa using h1) (by simpa using h2))
theorem wf_map {α : Type} {ks : List CK} {row : α → List Cell} {p : α → Prop} (hrow : ∀ r, WfR ks r → ∃ x, r = row x ∧ p x) {a : Arr} (h : Wf (.sl ks) (.sl a)) : ∃ l : List α, a = l.map row ∧ ∀ x ∈ l, p x := by
  cases h with
  | sl hl hr hw =>
    clear hl
    induction a with
    | nil => exact ⟨[], rfl, fun x hx => by simp at hx⟩
    | cons r a ih =>
      obtain ⟨l, rfl, h2⟩ := ih (fun r h => hr r (List.mem_cons_of_mem _ h)) (fun r h => hw r (List.mem_cons_of_mem _ h))
      obtain ⟨x, rfl, h3⟩ := hrow r (wfr_of (hr r (List.mem_cons_self ..)) (hw r (List.mem_cons_self ..)))
      exact ⟨x :: l, rfl, fun y hy => by rcases List.mem_cons.1 hy with rfl | hy; (· exact h3); exact h2 y hy⟩
theorem mem_getD {α : Type} {p : α → Prop} {l : List α} {d : α} (h : ∀ x ∈ l, p x) (hd : p d) (j : Nat) : p (l.getD j d) := by
  rw [List.getD_eq_getElem?_getD]
  cases hx : l[j]? with
  | none => exact hd
  | some x => exact h x (List.mem_of_getElem? hx)
theorem inI_0 : inI 0 := by unfold inI; omega
theorem wf_smps {a : Arr} (h : Wf (.sl KS) (.sl a)) : ∃ l : List Smp, a = smpA l ∧ SmpI l := by
  obtain ⟨l, h1, h2⟩ := wf_map (row := fun s : Smp => [.int s.l, .int s.r]) (p := fun s => inI s.l ∧ inI s.r) (fun r hr => by
    obtain ⟨c0, _, rfl, g0, h1⟩ := hr.inv
    obtain ⟨n0, rfl, i0⟩ := g0.int_inv
    obtain ⟨c1, _, rfl, g1, h2⟩ := h1.inv
    obtain ⟨n1, rfl, i1⟩ := g1.int_inv
    cases h2.nil_inv
    exact ⟨⟨n0, n1⟩, rfl, by simpa [inR, inI] using i0, by simpa [inR, inI] using i1⟩) h
  exact ⟨l, h1, mem_getD h2 ⟨inI_0, inI_0⟩⟩
end Go.Sx
