import Derived.Test.YthlebjnhcinheaaGreatDoorPrTopCoveredA
import Derived.Test.YthlebjnhcinheaaGreatDoorXd
namespace Go.Sx
open Go Go.Proofs
set_option maxRecDepth 10000
set_option maxHeartbeats 4000000
theorem e196 : EntersF Tryz.prog 196 := enters_of Tryz.func196 (c := bodyOf Tryz.f196) (by kernel_rfl) rfl
theorem e197 : EntersF Tryz.prog 197 := enters_of Tryz.func197 (c := bodyOf Tryz.f197) (by kernel_rfl) rfl
/-! ### The names of takes in a map -/
theorem keyEqS (c : List Cell) (a : ByteArray) : keyEq [.str] c [.str a] = match c with | [] => false | x :: _ => decide (x.toStr = a) := by
  cases c with
  | nil => rfl
  | cons x c => simp [keyEq, cellEq, Cell.toStr]; rfl
theorem mfind_mputS (a b : ByteArray) (v : List Cell) : ∀ (l : MapL), mfind [.str] (mput [.str] l [.str a] v) [.str b] = if a = b then some v else mfind [.str] l [.str b]
  | [] => by
    simp only [mput, mfind, keyEqS, Cell.toStr]
    by_cases h : a = b <;> simp [h]
  | p :: l => by
    have ih := mfind_mputS a b v l
    simp only [mput]
    cases h1 : keyEq [.str] p.1 [.str a] with
    | true =>
      simp only [mfind]
      by_cases h : a = b
      · subst h; simp [keyEqS, Cell.toStr]
      · have h2 : keyEq [.str] p.1 [.str b] = false := by
          rw [keyEqS] at h1 ⊢
          split at h1
          · cases h1
          · rename_i x c hp
            simp only [decide_eq_true_eq] at h1
            simp only [decide_eq_false_iff_not]
            rw [h1]; exact h
        simp [keyEqS, Cell.toStr, h, h2, keyEqS] at h2 ⊢
    | false =>
      simp only [mfind]
      cases h2 : keyEq [.str] p.1 [.str b] with
      | true =>
        have : a ≠ b := fun h => by rw [h, h2] at h1; cases h1
        simp [this]
      | false => simpa using ih
theorem mput_len (kk : List CK) (k v : List Cell) : ∀ l : MapL, (mput kk l k v).length = if mfind kk l k = none then l.length + 1 else l.length
  | [] => by simp [mput, mfind]
  | p :: l => by
    have ih := mput_len kk k v l
    by_cases h : keyEq kk p.1 k = true
    · simp [mput, mfind, h]
    · have h' : keyEq kk p.1 k = false := by simpa using h
      simp only [mput, mfind, h', List.length_cons, ih]
      split <;> rfl
theorem s196 (l : List Tak) (hT : TaksOK l) : PSpec Tryz.prog 196 [lT l] (.x (I 0)) := by
  have ll := takA_len l
  have h1 := hT.len
  refine spec_of pMix (O := []) Tryz.func196 (c := bodyOf Tryz.f196) rfl (by kernel_rfl) (by kernel_rfl) Tryz.ntmps196 (res := [.tmp 2]) (by kernel_rfl) ?_
  repeat' ((conv => whnf); first | refine Rng.g ?_ | refine Ob.g ?_ | refine Ob.e ?_ | refine Ob.m ?_ | refine Ob.mk (Nat.le_of_ble_eq_true rfl) ?_ | refine JoinVC.on ?_ | refine Nils.mk (fun h => ?_) ?_ | refine Val.t ?_ | refine Val.d ?_ | refine Mm.mk ?_ | (refine Br.mk (fun h => ?_) (fun h => ?_) <;> first | (exfalso; omega; done) | (exfalso; simp at h; done) | skip))
  refine LoopVC.mk (fun n st => ∃ (i : Nat) (m : MapL), i ≤ l.length ∧ n = l.length - i ∧ m.length = i ∧ (∀ b, mfind [.str] m [.str b] = none ↔ ∀ j, j < i → (l.getD j t0).nm ≠ b) ∧ st = ⟨0, envA 49 [(0, .x (lT l)), (3, .int .i64 0), (4, .x (.one (.map 0))), (17, .x (lT l)), (18, .int .i64 (l.length : Int)), (19, .int .i64 (i : Int))], [some (.mp false false [.str] [.int .i64] m none)]⟩) _ _ ⟨0, [], Nat.zero_le _, rfl, rfl, fun b => by simp [mfind], rfl⟩ ?_ ?_
  · refine ⟨[some 0], rfl, rfl, ?_, ?_⟩ <;> repeat' (first | exact trivial | exact rfl | exact Iff.rfl | apply And.intro)
    exact congrArg Int.ofNat ll
  rintro n _ ⟨i, m, hi, hn, hm, hf, rfl⟩
  have gd : rA (takA l) (i : Int).toNat (0 + 1) = smpA (l.getD i t0).d := takA_d l i
  have gn : rS (takA l) (i : Int).toNat 0 = (l.getD i t0).nm := takA_n l i
  by_cases hi' : i < l.length
  · have hok := hT.each i hi'
    have c1 : PSpec Tryz.prog 275 [.agg [.str (rS (takA l) (i : Int).toNat 0), .lst true KS (rA (takA l) (i : Int).toNat (0 + 1))]] (.x (I 0)) := by rw [gd, gn]; exact s275 _ hok
    have hmf : mfind [.str] m [.str (rS (takA l) (i : Int).toNat 0)] = none := by
      rw [gn]
      exact (hf _).2 fun j hj e => hT.names i j hi' hj e.symm
    have hr : rI [mrow [.str] (zeroRow [.int .i64]) m [.str (rS (takA l) (i : Int).toNat 0)]] 0 0 = 0 := by unfold mrow; rw [hmf]; rfl
    repeat' ((conv => whnf); first | refine Rng.g ?_ | refine Ob.g ?_ | refine Ob.e ?_ | refine Ob.m ?_ | refine Ob.mk (Nat.le_of_ble_eq_true rfl) ?_ | refine JoinVC.on ?_ | refine Nils.mk (fun h => ?_) ?_ | refine Val.t ?_ | refine Val.d ?_ | refine Mm.mk ?_ | refine CallVC.pure rfl (c1) ?_ | refine CallVC0.pure rfl (c1) ?_ | (refine Br.mk (fun h => ?_) (fun h => ?_) <;> first | (exfalso; omega; done) | (exfalso; simp at h; done) | skip))
    refine Back.mk (l.length - (i + 1)) _ (by omega) ⟨i + 1, mput [.str] m [.str (rS (takA l) (i : Int).toNat 0)] [.int (rI [mrow [.str] (zeroRow [.int .i64]) m [.str (rS (takA l) (i : Int).toNat 0)]] 0 0 + 1)], by omega, rfl, ?_, fun b => ?_, rfl⟩ ?_
    · rw [mput_len, if_pos hmf, hm]
    · rw [mfind_mputS, gn]
      by_cases hb : (l.getD i t0).nm = b
      · rw [if_pos hb]
        exact ⟨fun h => (by cases h), fun h => absurd hb (h i (Nat.lt_succ_self i))⟩
      · rw [if_neg hb, hf b]
        refine ⟨fun h j hj => ?_, fun h j hj => h j (by omega)⟩
        rcases Nat.lt_succ_iff_lt_or_eq.1 hj with h' | rfl
        · exact h j h'
        · exact hb
    · refine ⟨[some 0], rfl, rfl, ?_, ?_⟩ <;> repeat' (first | exact trivial | exact rfl | exact Iff.rfl | apply And.intro)
  · repeat' ((conv => whnf); first | refine Rng.g ?_ | refine Ob.g ?_ | refine Ob.e ?_ | refine Ob.m ?_ | refine Ob.mk (Nat.le_of_ble_eq_true rfl) ?_ | refine JoinVC.on ?_ | refine Nils.mk (fun h => ?_) ?_ | refine Val.t ?_ | refine Val.d ?_ | refine Mm.mk ?_ | (refine Br.mk (fun h => ?_) (fun h => ?_) <;> first | (exfalso; omega; done) | (exfalso; simp at h; done) | skip))
    repeat refine Mm.mk ?_
    refine EndVC.mk _ rfl _ _ ⟨rfl, rfl⟩ ?_
    refine ⟨[], rfl, rfl, ?_, ?_⟩ <;> repeat' (first | exact trivial | exact rfl | exact Iff.rfl | apply And.intro)
/-! ### Parts in a programme -/
@[reducible] def bG (i : Nat) (T : List Tak) (n : Int) : Blk := .box 204 [.lst true KT (takA T), .own i, .int .i64 n]
@[reducible] def K10 : List CK := [.int .i64, .int .i64, .int .i64, .int .i64, .int .i64, .int .i64, .int .i64, .int .i64, .int .i64, .int .i64]
@[reducible] def KG : List CK := [.sl KT, .sl K10, .int .i64]
@[reducible] def gX (T : List Tak) (A : Arr) (n : Int) : XV := .one (.lel true KG [[.sl (takA T), .sl A, .int n]] 0 0)
theorem s197 (T : List Tak) (A : Arr) (n : Int) (p : Prt) (hp : partOK T p) : PSpec Tryz.prog 197 [gX T A n, p.x] (xP True) := by
  have ll := takA_len T
  have gl : (rA (takA T) p.tk.toNat (0 + (0 + 1))).length = (T.getD p.tk.toNat t0).d.length := (congrArg List.length (takA_d T _)).trans (smpA_len _)
  have hq := hp
  unfold partOK at hq
  have e0 : rA [[Cell.sl (takA T), .sl A, .int n]] 0 0 = takA T := rfl
  refine spec_of pMix (O := []) Tryz.func197 (c := bodyOf Tryz.f197) rfl (by kernel_rfl) (by kernel_rfl) Tryz.ntmps197 (res := [.tmp 4]) (by kernel_rfl) ?_
  repeat' ((conv => whnf); first | rw [e0] | refine Rng.g ?_ | refine Ob.g ?_ | refine Ob.e ?_ | refine Ob.m ?_ | refine Ob.mk (Nat.le_of_ble_eq_true rfl) ?_ | refine JoinVC.on ?_ | refine Nils.mk (fun h => ?_) ?_ | refine Val.t ?_ | refine Val.d ?_ | refine Mm.mk ?_ | refine CallVC.pure rfl (s125 _ _ _) ?_ | refine CallVC0.pure rfl (s125 _ _ _) ?_ | (refine Br.mk (fun h => ?_) (fun h => ?_) <;> first | (exfalso; omega; done) | (exfalso; simp at h; done) | skip))
  repeat refine Mm.mk ?_
  refine EndVC.mk _ rfl _ _ ⟨rfl, rfl⟩ ?_
  refine ⟨[], rfl, rfl, ?_, ?_⟩ <;> repeat' (first | exact trivial | exact rfl | exact Iff.rfl | apply And.intro)
  show _ ↔ _
  simp
  omega
end Go.Sx

namespace Go.Sx
open Go Go.Proofs
set_option maxRecDepth 10000
set_option maxHeartbeats 4000000
theorem e100 : EntersF Tryz.prog 100 := enters_of Tryz.func100 (c := bodyOf Tryz.f100) (by kernel_rfl) rfl
/-- A part with its place. -/
def plcR (l : List Prt) (i : Nat) : List Cell := [.int (l.getD i p0).tk, .int (l.getD i p0).fr, .int (l.getD i p0).to, .int (l.getD i p0).gap, .int (l.getD i p0).inn, .int (l.getD i p0).out, .int (l.getD i p0).lev, .int (i : Int), .int (begP l i), .int (begP l i + (l.getD i p0).long)]
def plcA (l : List Prt) (n : Nat) : Arr := (List.range n).map (plcR l)
theorem plcA_len (l : List Prt) (n : Nat) : (plcA l n).length = n := by simp [plcA]
theorem plcA_snoc (l : List Prt) (n : Nat) : plcA l (n + 1) = plcA l n ++ [plcR l n] := by simp [plcA, List.range_succ]
theorem plcA_at (l : List Prt) (n i : Nat) (h : i < n) : (plcA l n).getD i [] = plcR l i := by
  simp [plcA, List.getD_eq_getElem?_getD, List.getElem?_range h]
theorem plc_8 (l : List Prt) (n i : Nat) (h : i < n) : rI (plcA l n) i (0 + 1 + 1 + 1 + 1 + 1 + 1 + 1 + 1) = begP l i := by simp only [rI, cellAt, plcA_at l n i h]; rfl
theorem plc_9 (l : List Prt) (n i : Nat) (h : i < n) : rI (plcA l n) i (0 + 1 + 1 + 1 + 1 + 1 + 1 + 1 + 1 + 1) = begP l i + (l.getD i p0).long := by simp only [rI, cellAt, plcA_at l n i h]; rfl
@[reducible] def rowG (A : Arr) : Blk := .row 206 false K10 A
theorem eb206 : Tryz.t206.bytes = 80 := by kernel_rfl
theorem Poss.mono {l : List Prt} (_hb : PBs l) (hP : Poss l) {i : Nat} (h0 : 0 < i) (hi : i < l.length) : begP l (i - 1) + (l.getD (i - 1) p0).long ≤ begP l i + (l.getD i p0).long ∧ begP l (i - 1) ≤ begP l i := by
  have h1 := hP.gap i h0 hi
  have h2 := endP_succ l (show i - 1 < l.length by omega)
  have h3 : i - 1 + 1 = i := by omega
  rw [h3] at h2
  have h4 : begP l i = endP (l.take i) + (l.getD i p0).gap := rfl
  omega
theorem s100 (T : List Tak) (l : List Prt) (hP : ProgOK T l) : HSpec Tryz.prog 100 [lT T, lP l] [] (fun r m' => r = .tup [.one (.ptr 0 0), I 0] ∧ m' = [some (bG 1 T (endP l)), some (rowG (plcA l l.length))]) := by
  have ll := prtA_len l
  have hb := hP.pbs
  have h32 := hb.1
  have hst := hP.poss.stop
  have hbd : ∀ k, k < l.length → -300000 ≤ begP l k ∧ begP l k ≤ 300000 ∧ 0 < (l.getD k p0).long ∧ (l.getD k p0).long ≤ 4096 := fun k hk => by
    have h1 := endP_bd hb k (by omega)
    have h2 := hb.2 k hk
    obtain ⟨h3, h4, h5⟩ := h2
    unfold begP Prt.long
    omega
  refine spec_of pMix (O := [(12, ([10], [⟨0, [], []⟩, ⟨1, [], []⟩, ⟨2, [], []⟩, ⟨3, [], []⟩, ⟨4, [], []⟩, ⟨5, [], []⟩, ⟨6, [], []⟩, ⟨7, [], []⟩, ⟨8, [], []⟩, ⟨9, [], []⟩, ⟨10, [], []⟩, ⟨11, [], []⟩])), (14, ([], [⟨0, [], []⟩, ⟨1, [], []⟩, ⟨2, [], []⟩, ⟨3, [], []⟩, ⟨4, [], []⟩, ⟨5, [], [6]⟩, ⟨6, [], []⟩, ⟨7, [0], []⟩, ⟨8, [], []⟩, ⟨9, [], []⟩, ⟨10, [], []⟩]))]) Tryz.func100 (c := bodyOf Tryz.f100) rfl (by kernel_rfl) (by kernel_rfl) Tryz.ntmps100 (res := [.tmp 4, .tmp 5]) (by kernel_rfl) ?_
  repeat' ((conv => whnf); first | refine Rng.g ?_ | refine Ob.g ?_ | refine Ob.e ?_ | refine Ob.m ?_ | refine Ob.mk (Nat.le_of_ble_eq_true rfl) ?_ | refine JoinVC.on ?_ | refine Nils.mk (fun h => ?_) ?_ | refine Val.t ?_ | refine Val.d ?_ | refine Mm.mk ?_ | refine CallVC.pure rfl (s196 T hP.takes) ?_ | refine CallVC0.pure rfl (s196 T hP.takes) ?_ | (refine Br.mk (fun h => ?_) (fun h => ?_) <;> first | (exfalso; omega; done) | (exfalso; simp at h; done) | skip))
  refine LoopVC.mk (fun n st => ∃ (i : Nat), i ≤ l.length ∧ n = l.length - i ∧ st = ⟨0, envA 135 [(0, .x (lT T)), (1, .x (lP l)), (7, .x (.one (.ptr 0 0))), (25, .x (lP l)), (26, .int .i64 (l.length : Int)), (27, .int .i64 (i : Int))], [some (bG 1 T (endP (l.take i))), some (rowG (plcA l i))]⟩) _ _ ⟨0, Nat.zero_le _, rfl, rfl⟩ ?_ ?_
  · refine ⟨[some 0, none], rfl, rfl, ?_, ?_⟩ <;> repeat' (first | exact trivial | exact rfl | exact Iff.rfl | apply And.intro)
    exact congrArg Int.ofNat ll
  rintro n _ ⟨i, hi, hn, rfl⟩
  by_cases hi' : i < l.length
  · have c1 : PSpec Tryz.prog 197 [gX T (plcA l i) (endP (l.take i)), prtX l i] (xP True) := by rw [prtX_eq]; exact s197 T _ _ _ (hP.parts i hi')
    have g1 : rI (prtA l) (i : Int).toNat (0 + 1) = (l.getD i p0).fr := prtA_1 l i
    have g2 : rI (prtA l) (i : Int).toNat (0 + 1 + 1) = (l.getD i p0).to := prtA_2 l i
    have g3 : rI (prtA l) (i : Int).toNat (0 + 1 + 1 + 1) = (l.getD i p0).gap := prtA_3 l i
    have hbi := hbd i hi'
    have hpi := hb.2 i hi'
    obtain ⟨b1, b2, b3⟩ := hpi
    have hlo : (l.getD i p0).long = (l.getD i p0).to - (l.getD i p0).fr := rfl
    have hbg : begP l i = endP (l.take i) + (l.getD i p0).gap := rfl
    have lp := plcA_len l i
    have g0 : rI (prtA l) (i : Int).toNat 0 = (l.getD i p0).tk := prtA_0 l i
    have g4 : rI (prtA l) (i : Int).toNat (0 + 1 + 1 + 1 + 1) = (l.getD i p0).inn := prtA_4 l i
    have g5 : rI (prtA l) (i : Int).toNat (0 + 1 + 1 + 1 + 1 + 1) = (l.getD i p0).out := prtA_5 l i
    have g6 : rI (prtA l) (i : Int).toNat (0 + 1 + 1 + 1 + 1 + 1 + 1) = (l.getD i p0).lev := prtA_6 l i
    have he := endP_succ l hi'
    repeat' ((conv => whnf); first | refine Rng.g ?_ | refine Ob.g ?_ | refine Ob.e ?_ | refine Ob.m ?_ | refine Ob.mk (Nat.le_of_ble_eq_true rfl) ?_ | refine JoinVC.on ?_ | refine Nils.mk (fun h => ?_) ?_ | refine Val.t ?_ | refine Val.d ?_ | refine Mm.mk ?_ | refine CallVC.pure rfl (c1) ?_ | refine CallVC0.pure rfl (c1) ?_ | (refine Br.mk (fun h => ?_) (fun h => ?_) <;> first | (exfalso; omega; done) | (exfalso; simp at h; done) | skip))
    repeat refine Mm.mk ?_
    refine Ob.mk (by simp only [lp, eb206, List.length_cons, List.length_nil]; omega) ?_
    repeat' ((conv => whnf); first | refine Rng.g ?_ | refine Ob.g ?_ | refine Ob.e ?_ | refine Ob.m ?_ | refine Ob.mk (Nat.le_of_ble_eq_true rfl) ?_ | refine JoinVC.on ?_ | refine Nils.mk (fun h => ?_) ?_ | refine Val.t ?_ | refine Val.d ?_ | refine Mm.mk ?_ | (refine Br.mk (fun h => ?_) (fun h => ?_) <;> first | (exfalso; omega; done) | (exfalso; simp at h; done) | skip))
    refine Back.mk (l.length - (i + 1)) _ (by omega) ⟨i + 1, by omega, rfl, rfl⟩ ?_
    refine ⟨[some 0, some 5], rfl, rfl, ?_, ?_⟩ <;> repeat' (first | exact trivial | exact rfl | exact Iff.rfl | apply And.intro)
    · rw [he, g1, g2, g3, hbg, hlo]; omega
    · rw [plcA_snoc, g0, g1, g2, g3, g4, g5, g6]
      unfold plcR
      rw [hbg, hlo]
      have e : endP (l.take i) + (l.getD i p0).gap + (l.getD i p0).to - (l.getD i p0).fr = endP (l.take i) + (l.getD i p0).gap + ((l.getD i p0).to - (l.getD i p0).fr) := by omega
      rw [e]
  have e1 : l.take i = l := List.take_of_length_le (by omega)
  have e2 : i = l.length := by omega
  rw [e1]
  subst e2
  clear hi hi' hn e1
  have lp := plcA_len l l.length
  repeat' ((conv => whnf); first | refine Rng.g ?_ | refine Ob.g ?_ | refine Ob.e ?_ | refine Ob.m ?_ | refine Ob.mk (Nat.le_of_ble_eq_true rfl) ?_ | refine JoinVC.on ?_ | refine Nils.mk (fun h => ?_) ?_ | refine Val.t ?_ | refine Val.d ?_ | refine Mm.mk ?_ | (refine Br.mk (fun h => ?_) (fun h => ?_) <;> first | (exfalso; omega; done) | (exfalso; simp at h; done) | skip))
  refine LoopVC.mk (fun n st => ∃ (i : Nat), i ≤ l.length ∧ n = l.length - i ∧ st = ⟨0, envA 135 [(7, .x (.one (.ptr 0 0))), (11, .int .i64 (if 1 < i then begP l (i - 2) + (l.getD (i - 2) p0).long else 0)), (74, .x (.one (.own 1))), (75, .int .i64 (l.length : Int)), (76, .int .i64 (i : Int))], [some (bG 1 T (endP l)), some (rowG (plcA l l.length))]⟩) _ _ ⟨0, Nat.zero_le _, rfl, rfl⟩ ?_ ?_
  · refine ⟨[some 0, some 1], rfl, rfl, ?_, ?_⟩ <;> repeat' (first | exact trivial | exact rfl | exact Iff.rfl | apply And.intro)
    exact congrArg Int.ofNat lp
  rintro n _ ⟨i, hi, hn, rfl⟩
  by_cases hi' : i < l.length
  · have g8 : rI (plcA l l.length) (i : Int).toNat (0 + 1 + 1 + 1 + 1 + 1 + 1 + 1 + 1) = begP l i := plc_8 l _ i hi'
    have g9 : rI (plcA l l.length) (i : Int).toNat (0 + 1 + 1 + 1 + 1 + 1 + 1 + 1 + 1 + 1) = begP l i + (l.getD i p0).long := plc_9 l _ i hi'
    have hbi := hbd i hi'
    have hng := begP_nonneg hb hP.poss i hi'
    by_cases hz : i = 0
    · subst hz
      rw [if_neg (by omega)]
      repeat' ((conv => whnf); first | refine Rng.g ?_ | refine Ob.g ?_ | refine Ob.e ?_ | refine Ob.m ?_ | refine Ob.mk (Nat.le_of_ble_eq_true rfl) ?_ | refine JoinVC.on ?_ | refine Nils.mk (fun h => ?_) ?_ | refine Val.t ?_ | refine Val.d ?_ | refine Mm.mk ?_ | (refine Br.mk (fun h => ?_) (fun h => ?_) <;> first | (exfalso; omega; done) | (exfalso; simp at h; done) | skip))
      refine Back.mk (l.length - (0 + 1)) _ (by omega) ⟨0 + 1, by omega, rfl, rfl⟩ ?_
      refine ⟨[some 0, some 1], rfl, rfl, ?_, ?_⟩ <;> repeat' (first | exact trivial | exact rfl | exact Iff.rfl | apply And.intro)
    · have e1 : ((i : Int) - 1).toNat = i - 1 := by omega
      have m8 : rI (plcA l l.length) ((i : Int) - 1).toNat (0 + 1 + 1 + 1 + 1 + 1 + 1 + 1 + 1) = begP l (i - 1) := by rw [e1]; exact plc_8 l _ _ (by omega)
      have m9 : rI (plcA l l.length) ((i : Int) - 1).toNat (0 + 1 + 1 + 1 + 1 + 1 + 1 + 1 + 1 + 1) = begP l (i - 1) + (l.getD (i - 1) p0).long := by rw [e1]; exact plc_9 l _ _ (by omega)
      have hm := hP.poss.mono hb (by omega) hi'
      obtain ⟨v, hv⟩ : ∃ v, v = (if 1 < i then begP l (i - 2) + (l.getD (i - 2) p0).long else 0) := ⟨_, rfl⟩
      have hv2 : v ≤ begP l i := by
        rw [hv]
        split
        · exact hP.poss.free i (by omega) hi'
        · exact hng
      rw [← hv]
      repeat' ((conv => whnf); first | refine Rng.g ?_ | refine Ob.g ?_ | refine Ob.e ?_ | refine Ob.m ?_ | refine Ob.mk (Nat.le_of_ble_eq_true rfl) ?_ | refine JoinVC.on ?_ | refine Nils.mk (fun h => ?_) ?_ | refine Val.t ?_ | refine Val.d ?_ | refine Mm.mk ?_ | (refine Br.mk (fun h => ?_) (fun h => ?_) <;> first | (exfalso; omega; done) | (exfalso; simp at h; done) | skip))
      refine Back.mk (l.length - (i + 1)) _ (by omega) ⟨i + 1, by omega, rfl, rfl⟩ ?_
      refine ⟨[some 0, some 1], rfl, rfl, ?_, ?_⟩ <;> repeat' (first | exact trivial | exact rfl | exact Iff.rfl | apply And.intro)
      rw [m9, if_pos (by omega)]
      rfl
  · repeat' ((conv => whnf); first | refine Rng.g ?_ | refine Ob.g ?_ | refine Ob.e ?_ | refine Ob.m ?_ | refine Ob.mk (Nat.le_of_ble_eq_true rfl) ?_ | refine JoinVC.on ?_ | refine Nils.mk (fun h => ?_) ?_ | refine Val.t ?_ | refine Val.d ?_ | refine Mm.mk ?_ | (refine Br.mk (fun h => ?_) (fun h => ?_) <;> first | (exfalso; omega; done) | (exfalso; simp at h; done) | skip))
    repeat refine Mm.mk ?_
    refine EndVC.mk _ rfl _ _ ⟨rfl, rfl⟩ ?_
    refine ⟨[some 0, some 1], rfl, rfl, ?_, ?_⟩ <;> repeat' (first | exact trivial | exact rfl | exact Iff.rfl | apply And.intro)
end Go.Sx

namespace Go.Sx
open Go Go.Proofs
set_option maxRecDepth 10000
set_option maxHeartbeats 4000000
theorem e199 : EntersF Tryz.prog 199 := enters_of Tryz.func199 (c := bodyOf Tryz.f199) (by kernel_rfl) rfl
theorem e198 : EntersF Tryz.prog 198 := enters_of Tryz.func198 (c := bodyOf Tryz.f198) (by kernel_rfl) rfl
theorem e102 : EntersF Tryz.prog 102 := enters_of Tryz.func102 (c := bodyOf Tryz.f102) (by kernel_rfl) rfl
theorem e101 : EntersF Tryz.prog 101 := enters_of Tryz.func101 (c := bodyOf Tryz.f101) (by kernel_rfl) rfl
theorem e26 : EntersF Tryz.prog 26 := enters_of Tryz.func26 (c := bodyOf Tryz.f26) (by kernel_rfl) rfl
/-- The gain of a sample of a part. -/
theorem s199 (n d s : Int) (hd : 0 < d) (hn : -9000000000000000000 ≤ s * n ∧ s * n ≤ 9000000000000000000) (hq : -9000000000000000000 ≤ (s * n).tdiv d ∧ (s * n).tdiv d ≤ 9000000000000000000) : PSpec Tryz.prog 199 [.agg [.int .i64 n, .int .i64 d], I s] (.x (I ((s * n).tdiv d))) := by
  refine spec_of pMix (O := []) Tryz.func199 (c := bodyOf Tryz.f199) rfl (by kernel_rfl) (by kernel_rfl) Tryz.ntmps199 (res := [.tmp 4]) (by kernel_rfl) ?_
  repeat' ((conv => whnf); first | refine Rng.g ?_ | refine Ob.g ?_ | refine Ob.e ?_ | refine Ob.m ?_ | refine Ob.mk (Nat.le_of_ble_eq_true rfl) ?_ | refine JoinVC.on ?_ | refine Nils.mk (fun h => ?_) ?_ | refine Val.t ?_ | refine Val.d ?_ | refine Mm.mk ?_ | (refine Br.mk (fun h => ?_) (fun h => ?_) <;> first | (exfalso; omega; done) | (exfalso; simp at h; done) | skip))
  refine Val.mk _ rfl ?_
  repeat' ((conv => whnf); first | refine Rng.g ?_ | refine Ob.g ?_ | refine Ob.e ?_ | refine Ob.m ?_ | refine Ob.mk (Nat.le_of_ble_eq_true rfl) ?_ | refine JoinVC.on ?_ | refine Nils.mk (fun h => ?_) ?_ | refine Val.t ?_ | refine Val.d ?_ | refine Mm.mk ?_ | (refine Br.mk (fun h => ?_) (fun h => ?_) <;> first | (exfalso; omega; done) | (exfalso; simp at h; done) | skip))
  repeat refine Mm.mk ?_
  refine EndVC.mk _ rfl _ _ ⟨rfl, rfl⟩ ?_
  refine ⟨[], rfl, rfl, ?_, ?_⟩ <;> repeat' (first | exact trivial | exact rfl | exact Iff.rfl | apply And.intro)
@[reducible] def plcX (p : Prt) (i b e : Int) : XV := .agg [.int .i64 p.tk, .int .i64 p.fr, .int .i64 p.to, .int .i64 p.gap, .int .i64 p.inn, .int .i64 p.out, .int .i64 p.lev, .int .i64 i, .int .i64 b, .int .i64 e]
theorem s198 (p : Prt) (i b k lev : Int) (hF : PF p k lev) (_hb : 0 ≤ b ∧ b ≤ 100000) : PSpec Tryz.prog 198 [plcX p i b (b + p.long), I k, I lev] (.x (.agg [.int .i64 (lev * upF p k * dnF p k), .int .i64 (denF p)])) := by
  have hp := hF.pb
  have h1 := hp.fr; have h2 := hp.to; have h3 := hF.inn; have h4 := hF.out; have h5 := hF.k; have h6 := hF.lev
  have hd := hF.den
  have hL : p.long = p.to - p.fr := rfl
  have hup := hF.up; have hdn := hF.dn
  have hu : (if p.inn < k then p.inn else k) + 1 = upF p k := by unfold upF; split <;> rfl
  have hn : (if p.out < b + p.long - b - k - 1 then p.out else b + p.long - b - k - 1) + 1 = dnF p k := by unfold dnF; split <;> split <;> omega
  have m1 := mul_rng (a := lev) (b := upF p k) (A := 4000) (B := 1001) (by omega) (by omega)
  have m2 := mul_rng (a := lev * upF p k) (b := dnF p k) (A := 4004000) (B := 1001) (by omega) (by omega)
  have hd' : 1000 ≤ 1000 * (p.inn + 1) * (p.out + 1) ∧ 1000 * (p.inn + 1) * (p.out + 1) ≤ 1002001000 := hd
  refine spec_of pMix (O := []) Tryz.func198 (c := bodyOf Tryz.f198) rfl (by kernel_rfl) (by kernel_rfl) Tryz.ntmps198 (res := [.cell 6 325]) (by kernel_rfl) ?_
  repeat' ((conv => whnf); first | rw [hu] | rw [hn] | refine Rng.g ?_ | refine Ob.g ?_ | refine Ob.e ?_ | refine Ob.m ?_ | refine Ob.mk (Nat.le_of_ble_eq_true rfl) ?_ | refine JoinVC.on ?_ | refine Nils.mk (fun h => ?_) ?_ | refine Val.t ?_ | refine Val.d ?_ | refine Mm.mk ?_ | (refine Br.mk (fun h => ?_) (fun h => ?_) <;> first | (exfalso; omega; done) | (exfalso; simp at h; done) | skip))
  repeat refine Mm.mk ?_
  refine EndVC.mk _ rfl _ _ ⟨rfl, rfl⟩ ?_
  refine ⟨[], rfl, rfl, ?_, ?_⟩ <;> repeat' (first | exact trivial | exact rfl | exact Iff.rfl | apply And.intro)
theorem loud_assoc (s : Int) (p : Prt) (k lev : Int) : (s * (lev * upF p k * dnF p k)).tdiv (denF p) = loudF s p k lev := by
  unfold loudF
  rw [← Int.mul_assoc, ← Int.mul_assoc]
theorem s102 (T : List Tak) (A : Arr) (n : Int) (p : Prt) (i b k lev : Int) (hF : SF T p k lev) (hb : 0 ≤ b ∧ b ≤ 100000) : PSpec Tryz.prog 102 [gX T A n, plcX p i b (b + p.long), I k, I lev] (.x (sndF T p k lev).x) := by
  have lt := takA_len T
  have ho := hF.ok
  unfold partOK at ho
  have hk := hF.k
  have hL : p.long = p.to - p.fr := rfl
  have hbt := hF.pf.pb.to
  have e0 : rA [[Cell.sl (takA T), .sl A, .int n]] 0 0 = takA T := rfl
  have gd : rA (takA T) p.tk.toNat (0 + (0 + 1)) = smpA (T.getD p.tk.toNat t0).d := takA_d T _
  have gl : (rA (takA T) p.tk.toNat (0 + (0 + 1))).length = (T.getD p.tk.toNat t0).d.length := (congrArg List.length gd).trans (smpA_len _)
  have hs := hF.smp
  unfold Smp.ok at hs
  have hd := hF.pf.den
  have key : ∀ v, -32767 ≤ v ∧ v ≤ 32767 → PSpec Tryz.prog 199 [.agg [.int .i64 (lev * upF p k * dnF p k), .int .i64 (denF p)], I v] (.x (I (loudF v p k lev))) := fun v hv => by
    rw [← loud_assoc]
    have h1 := hF.pf.steps hv
    have h2 := hF.pf.loud hv
    refine s199 _ _ v (by omega) ?_ (by rw [loud_assoc]; omega)
    rw [← Int.mul_assoc, ← Int.mul_assoc]; omega
  have c1 : PSpec Tryz.prog 199 [.agg [.int .i64 (lev * upF p k * dnF p k), .int .i64 (denF p)], I (rI (rA (takA T) p.tk.toNat (0 + (0 + 1))) (p.fr + k).toNat 0)] (.x (I (sndF T p k lev).l)) := by
    rw [gd, smpA_l]; exact key _ (by unfold smpAt at hs; omega)
  have c2 : PSpec Tryz.prog 199 [.agg [.int .i64 (lev * upF p k * dnF p k), .int .i64 (denF p)], I (rI (rA (takA T) p.tk.toNat (0 + (0 + 1))) (p.fr + k).toNat (0 + (0 + 1)))] (.x (I (sndF T p k lev).r)) := by
    rw [gd, smpA_r]; exact key _ (by unfold smpAt at hs; omega)
  refine spec_of pMix (O := [(2, ([17], [⟨0, [], []⟩, ⟨1, [], []⟩, ⟨2, [], []⟩, ⟨3, [], []⟩, ⟨4, [], []⟩, ⟨5, [], []⟩, ⟨6, [], []⟩, ⟨7, [], []⟩, ⟨8, [], []⟩, ⟨9, [], []⟩, ⟨10, [], []⟩, ⟨11, [], []⟩, ⟨12, [], []⟩, ⟨13, [], []⟩, ⟨14, [], []⟩, ⟨15, [], []⟩, ⟨16, [], []⟩, ⟨17, [], []⟩, ⟨18, [], []⟩])), (3, ([], [⟨0, [], []⟩, ⟨1, [], []⟩, ⟨2, [], []⟩, ⟨4, [], []⟩, ⟨5, [], []⟩, ⟨6, [], []⟩, ⟨3, [4, 5, 6], []⟩, ⟨7, [], []⟩, ⟨8, [], []⟩, ⟨9, [], []⟩]))]) Tryz.func102 (c := bodyOf Tryz.f102) rfl (by kernel_rfl) (by kernel_rfl) Tryz.ntmps102 (res := [.cell 8 47]) (by kernel_rfl) ?_
  repeat' ((conv => whnf); first | rw [e0] | refine Rng.g ?_ | refine Ob.g ?_ | refine Ob.e ?_ | refine Ob.m ?_ | refine Ob.mk (Nat.le_of_ble_eq_true rfl) ?_ | refine JoinVC.on ?_ | refine Nils.mk (fun h => ?_) ?_ | refine Val.t ?_ | refine Val.d ?_ | refine Mm.mk ?_ | refine CallVC.pure rfl (s198 p i b k lev hF.pf hb) ?_ | refine CallVC.pure rfl (c1) ?_ | refine CallVC.pure rfl (c2) ?_ | refine CallVC0.pure rfl (s198 p i b k lev hF.pf hb) ?_ | refine CallVC0.pure rfl (c1) ?_ | refine CallVC0.pure rfl (c2) ?_ | (refine Br.mk (fun h => ?_) (fun h => ?_) <;> first | (exfalso; omega; done) | (exfalso; simp at h; done) | skip))
  repeat refine Mm.mk ?_
  refine EndVC.mk _ rfl _ _ ⟨rfl, rfl⟩ ?_
  refine ⟨[], rfl, rfl, ?_, ?_⟩ <;> repeat' (first | exact trivial | exact rfl | exact Iff.rfl | apply And.intro)
end Go.Sx

namespace Go.Sx
open Go Go.Proofs
set_option maxRecDepth 10000
set_option maxHeartbeats 4000000
theorem s101 (a b : Smp) (ha : (-5000000 ≤ a.l ∧ a.l ≤ 5000000) ∧ (-5000000 ≤ a.r ∧ a.r ≤ 5000000)) (hb : (-5000000 ≤ b.l ∧ b.l ≤ 5000000) ∧ (-5000000 ≤ b.r ∧ b.r ≤ 5000000)) : PSpec Tryz.prog 101 [a.x, b.x] (.x (addS a b).x) := by
  refine spec_of pMix (O := []) Tryz.func101 (c := bodyOf Tryz.f101) rfl (by kernel_rfl) (by kernel_rfl) Tryz.ntmps101 (res := [.cell 4 47]) (by kernel_rfl) ?_
  repeat' ((conv => whnf); first | refine Rng.g ?_ | refine Ob.g ?_ | refine Ob.e ?_ | refine Ob.m ?_ | refine Ob.mk (Nat.le_of_ble_eq_true rfl) ?_ | refine JoinVC.on ?_ | refine Nils.mk (fun h => ?_) ?_ | refine Val.t ?_ | refine Val.d ?_ | refine Mm.mk ?_ | (refine Br.mk (fun h => ?_) (fun h => ?_) <;> first | (exfalso; omega; done) | (exfalso; simp at h; done) | skip))
  repeat refine Mm.mk ?_
  refine EndVC.mk _ rfl _ _ ⟨rfl, rfl⟩ ?_
  refine ⟨[], rfl, rfl, ?_, ?_⟩ <;> repeat' (first | exact trivial | exact rfl | exact Iff.rfl | apply And.intro)
/-- What is rendered, part by part. -/
structure Acc (T : List Tak) (l : List Prt) (O : List Smp) (i : Nat) (e : Int) : Prop where
  len : O.length = (endP l).toNat
  get : ∀ t : Nat, t < (endP l).toNat → O.getD t s0 = if begP l i ≤ t ∧ (t : Int) < e then sumI T l t (srcI l t (i + 1)) else sumI T l t (srcI l t i)
theorem Acc.next {T : List Tak} {l : List Prt} {O : List Smp} {i : Nat} (h : Acc T l O i (begP l i + (l.getD i p0).long)) : Acc T l O (i + 1) (begP l (i + 1)) := by
  refine ⟨h.len, fun t ht => ?_⟩
  rw [h.get t ht, if_neg (by omega : ¬ (begP l (i + 1) ≤ (t : Int) ∧ (t : Int) < begP l (i + 1)))]
  split
  · rfl
  · rename_i hn
    rw [srcI_succ, if_neg (show ¬ onB l t i = true from fun h => hn (of_decide_eq_true h)), List.append_nil]
theorem Acc.step {T : List Tak} {l : List Prt} {O : List Smp} {i : Nat} {t : Nat} (h : Acc T l O i t) (ht : t < (endP l).toNat) (h1 : begP l i ≤ t) (h2 : (t : Int) < begP l i + (l.getD i p0).long) : Acc T l (O.set t (addS (O.getD t s0) (sndI T l t i))) i (t + 1 : Nat) := by
  have hl := h.len
  refine ⟨by rw [List.length_set]; exact hl, fun u hu => ?_⟩
  rw [getD_set' _ _ _ _ _ (by omega)]
  by_cases e : t = u
  · subst e
    rw [if_pos rfl, if_pos ⟨h1, by omega⟩, h.get t ht, if_neg (by omega), srcI_succ, if_pos (show onB l t i = true from decide_eq_true ⟨h1, h2⟩), sumI_snoc]
  · rw [if_neg e, h.get u hu]
    by_cases h3 : begP l i ≤ u ∧ (u : Int) < t
    · rw [if_pos h3, if_pos ⟨h3.1, by omega⟩]
    · rw [if_neg h3, if_neg (by omega)]
theorem Acc.fin {T : List Tak} {l : List Prt} {O : List Smp} (h : Acc T l O l.length (begP l l.length)) : O = rend T l := by
  refine List.ext_getElem (by rw [h.len, rend_len]) fun j h1 h2 => ?_
  have h3 := h.get j (by rw [← h.len]; exact h1)
  rw [if_neg (by omega)] at h3
  have h4 := rend_get T l j (by rw [← h.len]; exact h1)
  unfold rendAt at h4
  rw [← h4] at h3
  simpa [List.getD_eq_getElem?_getD, h1, h2] using h3
theorem sumI_bd2 {T : List Tak} {l : List Prt} (hP : ProgOK T l) (t : Int) {i : Nat} (hi : i ≤ l.length) : (-4194176 ≤ (sumI T l t (srcI l t i)).l ∧ (sumI T l t (srcI l t i)).l ≤ 4194176) ∧ (-4194176 ≤ (sumI T l t (srcI l t i)).r ∧ (sumI T l t (srcI l t i)).r ≤ 4194176) := by
  have h1 := sumI_bd (T := T) (l := l) (t := t) (L := srcI l t i) (fun j hj => hP.sf (by
    obtain ⟨h2, h3, h4⟩ := srcI_mem hj
    unfold srcI
    rw [List.mem_filter, List.mem_range]
    exact ⟨by omega, decide_eq_true ⟨h3, h4⟩⟩))
  have h2 := srcI_len l t i
  have h3 := hP.len
  omega
theorem plc_x (l : List Prt) (n i : Nat) (h : i < n) (j : Nat) : rI (plcA l n) i j = ((plcR l i).getD j (.int 0)).toInt := by simp only [rI, cellAt, plcA_at l n i h]
theorem Poss.inside {l : List Prt} (hb : PBs l) (hP : Poss l) : ∀ k i, i + k = l.length → 0 < k → begP l i + (l.getD i p0).long ≤ endP l := by
  intro k
  induction k with
  | zero => intro i _ h; omega
  | succ k ih =>
    intro i hi _
    by_cases hk : k = 0
    · have h2 := endP_succ l (show i < l.length by omega)
      have h3 : i + 1 = l.length := by omega
      rw [h3, List.take_length] at h2
      omega
    · have h1 := ih (i + 1) (by omega) (by omega)
      have h2 := hP.mono hb (i := i + 1) (by omega) (by omega)
      have h3 : i + 1 - 1 = i := by omega
      rw [h3] at h2
      omega
theorem s26 (T : List Tak) (l : List Prt) (hP : ProgOK T l) : HSpec Tryz.prog 26 [lT T, lP l] [] (fun r m' => (smpE (rend T l) = 0 ∧ r = .tup [.one (.own 0), I 0] ∧ m' = [some (rowS (rend T l))]) ∨ (smpE (rend T l) ≠ 0 ∧ r = .tup [.one .nils, I 4] ∧ m' = [])) := by
  have hb := hP.pbs
  have h32 := hb.1
  have he := endP_nonneg hb hP.poss
  have he2 := hP.poss.stop
  have lp := plcA_len l l.length
  refine spec_of pMix (O := [(11, ([], [⟨0, [], []⟩, ⟨1, [], []⟩, ⟨2, [], []⟩, ⟨3, [], []⟩, ⟨4, [], []⟩, ⟨5, [], []⟩, ⟨6, [], []⟩, ⟨7, [], []⟩, ⟨8, [], []⟩, ⟨9, [], []⟩, ⟨10, [], []⟩, ⟨11, [], []⟩, ⟨12, [], []⟩, ⟨13, [], []⟩, ⟨14, [], []⟩, ⟨15, [0, 1, 2, 3, 4, 5], []⟩, ⟨16, [0, 1], []⟩, ⟨17, [], []⟩, ⟨18, [], []⟩]))]) Tryz.func26 (c := bodyOf Tryz.f26) rfl (by kernel_rfl) (by kernel_rfl) Tryz.ntmps26 (res := [.tmp 4, .tmp 5]) (by kernel_rfl) ?_
  repeat' ((conv => whnf); first | refine Rng.g ?_ | refine Ob.g ?_ | refine Ob.e ?_ | refine Ob.m ?_ | refine Ob.mk (Nat.le_of_ble_eq_true rfl) ?_ | refine JoinVC.on ?_ | refine Nils.mk (fun h => ?_) ?_ | refine Val.t ?_ | refine Val.d ?_ | refine Mm.mk ?_ | (refine Br.mk (fun h => ?_) (fun h => ?_) <;> first | (exfalso; omega; done) | (exfalso; simp at h; done) | skip))
  conv => whnf
  refine CallVC.mk [] _ _ _ rfl rfl rfl (s100 T l hP) (fun r m' h' => ?_)
  obtain ⟨rfl, rfl⟩ := h'
  conv => whnf
  repeat' ((conv => whnf); first | refine Rng.g ?_ | refine Ob.g ?_ | refine Ob.e ?_ | refine Ob.m ?_ | refine Ob.mk (Nat.le_of_ble_eq_true rfl) ?_ | refine JoinVC.on ?_ | refine Nils.mk (fun h => ?_) ?_ | refine Val.t ?_ | refine Val.d ?_ | refine Mm.mk ?_ | (refine Br.mk (fun h => ?_) (fun h => ?_) <;> first | (exfalso; omega; done) | (exfalso; simp at h; done) | skip))
  repeat refine Mm.mk ?_
  refine Ob.mk (by simp only [eb47]; omega) ?_
  repeat' ((conv => whnf); first | refine Rng.g ?_ | refine Ob.g ?_ | refine Ob.e ?_ | refine Ob.m ?_ | refine Ob.mk (Nat.le_of_ble_eq_true rfl) ?_ | refine JoinVC.on ?_ | refine Nils.mk (fun h => ?_) ?_ | refine Val.t ?_ | refine Val.d ?_ | refine Mm.mk ?_ | (refine Br.mk (fun h => ?_) (fun h => ?_) <;> first | (exfalso; omega; done) | (exfalso; simp at h; done) | skip))
  refine LoopVC.mk (fun n st => ∃ (i : Nat) (O : List Smp), i ≤ l.length ∧ n = l.length - i ∧ Acc T l O i (begP l i) ∧ st = ⟨0, envA 66 [(6, .x (.one (.ptr 0 0))), (8, .x (.one (.own 2))), (29, .x (.one (.own 1))), (30, .int .i64 (l.length : Int)), (31, .int .i64 (i : Int))], [some (bG 1 T (endP l)), some (rowG (plcA l l.length)), some (rowS O)]⟩) _ _ ⟨0, List.replicate (endP l).toNat s0, Nat.zero_le _, rfl, ⟨by simp, fun t ht => by rw [if_neg (by omega)]; simp [List.getD_eq_getElem?_getD, List.getElem?_replicate, srcI, sumI]; split <;> rfl⟩, rfl⟩ ?_ ?_
  · refine ⟨[some 0, some 1, some 2], rfl, rfl, ?_, ?_⟩ <;> repeat' (first | exact trivial | exact rfl | exact Iff.rfl | apply And.intro)
    · exact congrArg Int.ofNat lp
    · exact smpA_rep _
  rintro n _ ⟨i, O, hi, hn, hO, rfl⟩
  by_cases hi' : i < l.length
  · have g8 : rI (plcA l l.length) (i : Int).toNat (0 + 1 + 1 + 1 + 1 + 1 + 1 + 1 + 1) = begP l i := plc_8 l _ i hi'
    have g9 : rI (plcA l l.length) (i : Int).toNat (0 + 1 + 1 + 1 + 1 + 1 + 1 + 1 + 1 + 1) = begP l i + (l.getD i p0).long := plc_9 l _ i hi'
    have hbi := begP_nonneg hb hP.poss i hi'
    have hpi := hb.2 i hi'
    obtain ⟨b1, b2, b3⟩ := id hpi
    have hlo : (l.getD i p0).long = (l.getD i p0).to - (l.getD i p0).fr := rfl
    have hin := hP.poss.inside hb (l.length - i) i (by omega) (by omega)
    repeat' ((conv => whnf); first | refine Rng.g ?_ | refine Ob.g ?_ | refine Ob.e ?_ | refine Ob.m ?_ | refine Ob.mk (Nat.le_of_ble_eq_true rfl) ?_ | refine JoinVC.on ?_ | refine Nils.mk (fun h => ?_) ?_ | refine Val.t ?_ | refine Val.d ?_ | refine Mm.mk ?_ | (refine Br.mk (fun h => ?_) (fun h => ?_) <;> first | (exfalso; omega; done) | (exfalso; simp at h; done) | skip))
    refine LoopVC.mk (fun n st => ∃ (t : Nat) (O : List Smp), begP l i ≤ t ∧ (t : Int) ≤ begP l i + (l.getD i p0).long ∧ n = (begP l i + (l.getD i p0).long).toNat - t ∧ Acc T l O i t ∧ st = ⟨0, envA 66 [(6, .x (.one (.ptr 0 0))), (8, .x (.one (.own 2))), (10, .x (.one (.ptr 3 0))), (11, .int .i64 (t : Int)), (29, .x (.one (.own 1))), (30, .int .i64 (l.length : Int)), (31, .int .i64 (i : Int))], [some (bG 1 T (endP l)), some (rowG (plcA l l.length)), some (rowS O), some (.box 206 [.int .i64 (l.getD i p0).tk, .int .i64 (l.getD i p0).fr, .int .i64 (l.getD i p0).to, .int .i64 (l.getD i p0).gap, .int .i64 (l.getD i p0).inn, .int .i64 (l.getD i p0).out, .int .i64 (l.getD i p0).lev, .int .i64 (i : Int), .int .i64 (begP l i), .int .i64 (begP l i + (l.getD i p0).long)])]⟩) _ _ ⟨(begP l i).toNat, O, by omega, by omega, rfl, by rw [Int.toNat_of_nonneg hbi]; exact hO, rfl⟩ ?_ ?_
    · rw [Int.toNat_of_nonneg hbi]
      refine ⟨[some 0, some 1, some 2, some 3], rfl, rfl, ?_, ?_⟩ <;> repeat' (first | exact trivial | exact rfl | exact Iff.rfl | apply And.intro)
      all_goals (rw [Int.toNat_natCast, plc_x l _ i hi']; rfl)
    clear hO
    rintro n2 _ ⟨t, O, ht1, ht2, hn2, hO, rfl⟩
    have lO := smpA_len O
    have hOl := hO.len
    by_cases ht : (t : Int) < begP l i + (l.getD i p0).long
    · have hsf := hP.sf (t := t) (i := i) (by unfold srcI; rw [List.mem_filter, List.mem_range]; exact ⟨hi', decide_eq_true ⟨ht1, ht⟩⟩)
      have hsn : (-131068 ≤ (sndI T l t i).l ∧ (sndI T l t i).l ≤ 131068) ∧ (-131068 ≤ (sndI T l t i).r ∧ (sndI T l t i).r ≤ 131068) := hsf.snd
      have htN : t < (endP l).toNat := by omega
      have hget := hO.get t htN
      rw [if_neg (by omega)] at hget
      have hbd := sumI_bd2 hP t (i := i) (by omega)
      rw [← hget] at hbd
      have c1 : PSpec Tryz.prog 102 [gX T (plcA l l.length) (endP l), plcX (l.getD i p0) i (begP l i) (begP l i + (l.getD i p0).long), I ((t : Int) - begP l i), I (l.getD i p0).lev] (.x (sndI T l t i).x) := s102 T _ _ _ _ _ _ _ hsf (by omega)
      have a0 : rI (smpA O) (t : Int).toNat 0 = (O.getD t s0).l := by rw [Int.toNat_natCast, smpA_l]
      have a1 : rI (smpA O) (t : Int).toNat (0 + 1) = (O.getD t s0).r := by rw [Int.toNat_natCast, smpA_r]
      have c2 : PSpec Tryz.prog 101 [.agg [.int .i64 (rI (smpA O) (t : Int).toNat 0), .int .i64 (rI (smpA O) (t : Int).toNat (0 + 1))], (sndI T l t i).x] (.x (addS (O.getD t s0) (sndI T l t i)).x) := by
        rw [a0, a1]; exact s101 _ _ (by omega) (by omega)
      have u1 : updRow (smpA O) (t : Int).toNat 0 [.int (addS (O.getD t s0) (sndI T l t i)).l, .int (addS (O.getD t s0) (sndI T l t i)).r] = smpA (O.set t (addS (O.getD t s0) (sndI T l t i))) := by rw [Int.toNat_natCast]; exact smpA_set O t _ (by omega)
      repeat' ((conv => whnf); first | rw [u1] | refine Rng.g ?_ | refine Ob.g ?_ | refine Ob.e ?_ | refine Ob.m ?_ | refine Ob.mk (Nat.le_of_ble_eq_true rfl) ?_ | refine JoinVC.on ?_ | refine Nils.mk (fun h => ?_) ?_ | refine Val.t ?_ | refine Val.d ?_ | refine Mm.mk ?_ | refine CallVC.pure rfl (c1) ?_ | refine CallVC.pure rfl (c2) ?_ | refine CallVC0.pure rfl (c1) ?_ | refine CallVC0.pure rfl (c2) ?_ | (refine Br.mk (fun h => ?_) (fun h => ?_) <;> first | (exfalso; omega; done) | (exfalso; simp at h; done) | skip))
      refine Back.mk ((begP l i + (l.getD i p0).long).toNat - (t + 1)) _ (by omega) ⟨t + 1, _, by omega, by omega, rfl, hO.step htN ht1 ht, rfl⟩ ?_
      refine ⟨[some 0, some 1, some 2, some 3], rfl, rfl, ?_, ?_⟩ <;> repeat' (first | exact trivial | exact rfl | exact Iff.rfl | apply And.intro)
    · have e : (t : Int) = begP l i + (l.getD i p0).long := by omega
      rw [e] at hO
      repeat' ((conv => whnf); first | refine Rng.g ?_ | refine Ob.g ?_ | refine Ob.e ?_ | refine Ob.m ?_ | refine Ob.mk (Nat.le_of_ble_eq_true rfl) ?_ | refine JoinVC.on ?_ | refine Nils.mk (fun h => ?_) ?_ | refine Val.t ?_ | refine Val.d ?_ | refine Mm.mk ?_ | (refine Br.mk (fun h => ?_) (fun h => ?_) <;> first | (exfalso; omega; done) | (exfalso; simp at h; done) | skip))
      refine Back.mk (l.length - (i + 1)) _ (by omega) ⟨i + 1, O, by omega, rfl, hO.next, rfl⟩ ?_
      refine ⟨[some 0, some 1, some 2], rfl, rfl, ?_, ?_⟩ <;> repeat' (first | exact trivial | exact rfl | exact Iff.rfl | apply And.intro)
  · have e1 : i = l.length := by omega
    subst e1
    rw [hO.fin]
    have c1 := s103 (rend T l)
    by_cases hE : smpE (rend T l) = 0
    · repeat' ((conv => whnf); first | refine Rng.g ?_ | refine Ob.g ?_ | refine Ob.e ?_ | refine Ob.m ?_ | refine Ob.mk (Nat.le_of_ble_eq_true rfl) ?_ | refine JoinVC.on ?_ | refine Nils.mk (fun h => ?_) ?_ | refine Val.t ?_ | refine Val.d ?_ | refine Mm.mk ?_ | refine CallVC.pure rfl (c1) ?_ | refine CallVC0.pure rfl (c1) ?_ | (refine Br.mk (fun h => ?_) (fun h => ?_) <;> first | (exfalso; omega; done) | (exfalso; simp at h; done) | skip))
      repeat refine Mm.mk ?_
      conv => whnf
      refine EndVC.mk _ rfl _ _ (.inl ⟨hE, rfl, rfl⟩) ?_
      refine ⟨[some 2], rfl, rfl, ?_, ?_⟩ <;> repeat' (first | exact trivial | exact rfl | exact Iff.rfl | apply And.intro)
    · repeat' ((conv => whnf); first | refine Rng.g ?_ | refine Ob.g ?_ | refine Ob.e ?_ | refine Ob.m ?_ | refine Ob.mk (Nat.le_of_ble_eq_true rfl) ?_ | refine JoinVC.on ?_ | refine Nils.mk (fun h => ?_) ?_ | refine Val.t ?_ | refine Val.d ?_ | refine Mm.mk ?_ | refine CallVC.pure rfl (c1) ?_ | refine CallVC0.pure rfl (c1) ?_ | (refine Br.mk (fun h => ?_) (fun h => ?_) <;> first | (exfalso; omega; done) | (exfalso; simp at h; done) | skip))
      repeat refine Mm.mk ?_
      conv => whnf
      refine EndVC.mk _ rfl _ _ (.inr ⟨hE, rfl, rfl⟩) ?_
      refine ⟨[], rfl, rfl, ?_, ?_⟩ <;> repeat' (first | exact trivial | exact rfl | exact Iff.rfl | apply And.intro)
end Go.Sx

namespace Go.Sx
open Go Go.Proofs
set_option maxRecDepth 10000
set_option maxHeartbeats 2000000
/-- The point of a sample (in, out). -/
def ptF (c : Cut) (s : Smp) : Smp := ⟨(s.r * c.gain).tdiv 1000 - c.half, (s.l * c.gain).tdiv 1000 + c.half⟩
theorem gain_rng {c : Cut} (hC : CutOK c) {n : Int} (hn : -32767 ≤ n ∧ n ≤ 32767) : (-3276700000 ≤ n * c.gain ∧ n * c.gain ≤ 3276700000) ∧ (-3276700 ≤ (n * c.gain).tdiv 1000 ∧ (n * c.gain).tdiv 1000 ≤ 3276700) := by
  have hg := hC.gain
  have h1 := mul_rng (a := n) (b := c.gain) (A := 32767) (B := 100000) hn hg
  have h2 := tdiv_rng (a := n * c.gain) (d := 1000) (B := 3276700) (by decide) (by omega)
  omega
theorem s106 (c : Cut) (s : Smp) (hC : CutOK c) (hs : s.ok) : PSpec Tryz.prog 106 [c.x, s.x] (.x (ptF c s).x) := by
  obtain ⟨h1, h2, h3, h4⟩ := hs
  have g1 := gain_rng hC ⟨h1, h2⟩
  have g2 := gain_rng hC ⟨h3, h4⟩
  have g3 := hC.half
  refine spec_of pMix (O := []) Tryz.func106 (c := bodyOf Tryz.f106) rfl (by kernel_rfl) (by kernel_rfl) Tryz.ntmps106 (res := [.cell 4 51]) (by kernel_rfl) ?_
  repeat' ((conv => whnf); first | refine Rng.g ?_ | refine Ob.g ?_ | refine Ob.e ?_ | refine Ob.m ?_ | refine Ob.mk (Nat.le_of_ble_eq_true rfl) ?_ | refine JoinVC.on ?_ | refine Nils.mk (fun h => ?_) ?_ | refine Val.t ?_ | refine Val.d ?_ | refine Mm.mk ?_ | (refine Br.mk (fun h => ?_) (fun h => ?_) <;> first | (exfalso; omega; done) | (exfalso; simp at h; done) | skip))
  refine Val.mk _ rfl ?_
  repeat' ((conv => whnf); first | refine Rng.g ?_ | refine Ob.g ?_ | refine Ob.e ?_ | refine Ob.m ?_ | refine Ob.mk (Nat.le_of_ble_eq_true rfl) ?_ | refine JoinVC.on ?_ | refine Nils.mk (fun h => ?_) ?_ | refine Val.t ?_ | refine Val.d ?_ | refine Mm.mk ?_ | (refine Br.mk (fun h => ?_) (fun h => ?_) <;> first | (exfalso; omega; done) | (exfalso; simp at h; done) | skip))
  refine Val.mk _ rfl ?_
  repeat' ((conv => whnf); first | refine Rng.g ?_ | refine Ob.g ?_ | refine Ob.e ?_ | refine Ob.m ?_ | refine Ob.mk (Nat.le_of_ble_eq_true rfl) ?_ | refine JoinVC.on ?_ | refine Nils.mk (fun h => ?_) ?_ | refine Val.t ?_ | refine Val.d ?_ | refine Mm.mk ?_ | (refine Br.mk (fun h => ?_) (fun h => ?_) <;> first | (exfalso; omega; done) | (exfalso; simp at h; done) | skip))
  repeat refine Mm.mk ?_
  refine EndVC.mk _ rfl _ _ ⟨rfl, rfl⟩ ?_
  refine ⟨[], rfl, rfl, ?_, ?_⟩ <;> repeat' (first | exact trivial | exact rfl | exact Iff.rfl | apply And.intro)
theorem s107 (p : Smp) : PSpec Tryz.prog 107 [p.x] (xP ((p.l ≥ -4194304 ∧ p.l ≤ 4194304) ∧ (p.r ≥ -4194304 ∧ p.r ≤ 4194304))) := by
  refine spec_of pMix (O := []) Tryz.func107 (c := bodyOf Tryz.f107) rfl (by kernel_rfl) (by kernel_rfl) Tryz.ntmps107 (res := [.tmp 2]) (by kernel_rfl) ?_
  repeat' ((conv => whnf); first | refine Rng.g ?_ | refine Ob.g ?_ | refine Ob.e ?_ | refine Ob.m ?_ | refine Ob.mk (Nat.le_of_ble_eq_true rfl) ?_ | refine JoinVC.on ?_ | refine Nils.mk (fun h => ?_) ?_ | refine Val.t ?_ | refine Val.d ?_ | refine Mm.mk ?_ | refine CallVC.pure rfl (s205 p.l (-4194304) 4194304) ?_ | refine CallVC.pure rfl (s205 p.r (-4194304) 4194304) ?_ | refine CallVC0.pure rfl (s205 p.l (-4194304) 4194304) ?_ | refine CallVC0.pure rfl (s205 p.r (-4194304) 4194304) ?_ | (refine Br.mk (fun h => ?_) (fun h => ?_) <;> first | (exfalso; omega; done) | (exfalso; simp at h; done) | skip))
  · repeat refine Mm.mk ?_
    refine EndVC.mk _ rfl _ _ ⟨rfl, rfl⟩ ?_
    refine ⟨[], rfl, rfl, ?_, ?_⟩ <;> repeat' (first | exact trivial | exact rfl | exact Iff.rfl | apply And.intro)
    exact ⟨fun h2 => ⟨h, h2⟩, fun h2 => h2.2⟩
  · repeat refine Mm.mk ?_
    refine EndVC.mk _ rfl _ _ ⟨rfl, rfl⟩ ?_
    refine ⟨[], rfl, rfl, ?_, ?_⟩ <;> repeat' (first | exact trivial | exact rfl | exact Iff.rfl | apply And.intro)
    exact fun h2 => h h2.1
@[reducible] def smpX (l : List Smp) (i : Nat) : XV := .agg [.int .i64 (rI (smpA l) (i : Int).toNat 0), .int .i64 (rI (smpA l) (i : Int).toNat (0 + 1))]
theorem smpX_eq (l : List Smp) (i : Nat) : smpX l i = (l.getD i s0).x := by
  unfold smpX Smp.x
  rw [Int.toNat_natCast, smpA_l, smpA_r]
/-- A list that is filled from the front. -/
structure Fill (f : Nat → Smp) (n : Nat) (O : List Smp) (i : Nat) : Prop where
  len : O.length = n
  done : ∀ j, j < i → O.getD j s0 = f j
theorem Fill.step {f : Nat → Smp} {n : Nat} {O : List Smp} {i : Nat} (h : Fill f n O i) (hi : i < n) : Fill f n (O.set i (f i)) (i + 1) := by
  have hl := h.len
  refine ⟨by rw [List.length_set]; exact hl, fun j hj => ?_⟩
  rw [getD_set' _ _ _ _ _ (by omega)]
  split
  · rename_i e; rw [e]
  · exact h.done j (by omega)
theorem Fill.fin {f : Nat → Smp} {n : Nat} {O : List Smp} (h : Fill f n O n) : O = (List.range n).map f := by
  have hl := h.len
  refine List.ext_getElem (by simp [hl]) fun j h1 h2 => ?_
  have h3 := h.done j (by omega)
  simpa [List.getD_eq_getElem?_getD, h1] using h3
@[reducible] def rowP (O : List Smp) : Blk := .row 51 false KS (smpA O)
theorem eb51 : Tryz.t51.bytes = 16 := by kernel_rfl
/-- The groove of samples. -/
def cutF (c : Cut) (l : List Smp) : List Smp := (List.range l.length).map fun i => ptF c (l.getD i s0)
theorem cutF_len (c : Cut) (l : List Smp) : (cutF c l).length = l.length := by simp [cutF]
theorem cutF_get (c : Cut) (l : List Smp) (i : Nat) (h : i < l.length) : (cutF c l).getD i s0 = ptF c (l.getD i s0) := by simp [cutF, List.getD_eq_getElem?_getD, h]
structure SmpsOK (l : List Smp) : Prop where
  len : l.length ≤ 4096
  each : ∀ j, j < l.length → (l.getD j s0).ok
theorem smpE_iff (l : List Smp) : smpE l = 0 ↔ SmpsOK l := by
  unfold smpE
  constructor
  · intro h
    by_cases h1 : 4096 < l.length
    · rw [if_pos h1] at h; cases h
    rw [if_neg h1] at h
    by_cases h2 : ∀ s ∈ l, s.ok
    · exact ⟨by omega, fun j hj => h2 _ (getD_mem' s0 hj)⟩
    · rw [if_neg h2] at h; cases h
  · intro h
    rw [if_neg (by have := h.len; omega), if_pos]
    intro s hs
    obtain ⟨q, hq, e⟩ := List.getElem_of_mem hs
    have := h.each q hq
    rw [List.getD_eq_getElem?_getD, List.getElem?_eq_getElem hq] at this
    rw [← e]
    exact this
inductive CutRs (c : Cut) (l : List Smp) (r : AV) (m' : List (Option Blk)) : Prop
  | bad (e : Int) (h : ¬ (CutOK c ∧ SmpsOK l)) (he : e ≠ 0) (hr : r = .tup [.one .nils, I e]) (hm : m' = [])
  | ok (hC : CutOK c) (hl : SmpsOK l) (hr : r = .tup [.one (.own 0), I 0]) (hm : m' = [some (rowP (cutF c l))])
theorem s30 (c : Cut) (l : List Smp) : HSpec Tryz.prog 30 [c.x, lS l] [] (CutRs c l) := by
  have ll := smpA_len l
  have v1 := s105 c
  have v2 := s103 l
  have v3 := smpE_iff l
  refine spec_of pMix (O := []) Tryz.func30 (c := bodyOf Tryz.f30) rfl (by kernel_rfl) (by kernel_rfl) Tryz.ntmps30 (res := [.tmp 4, .tmp 5]) (by kernel_rfl) ?_
  repeat' ((conv => whnf); first | refine Rng.g ?_ | refine Ob.g ?_ | refine Ob.e ?_ | refine Ob.m ?_ | refine Ob.mk (Nat.le_of_ble_eq_true rfl) ?_ | refine JoinVC.on ?_ | refine Nils.mk (fun h => ?_) ?_ | refine Val.t ?_ | refine Val.d ?_ | refine Mm.mk ?_ | (refine Br.mk (fun h => ?_) (fun h => ?_) <;> first | (exfalso; omega; done) | (exfalso; simp at h; done) | skip))
  conv => whnf
  refine CallVC.mk [] _ _ _ rfl rfl rfl (v1) (fun r m' h' => ?_)
  obtain ⟨e, rfl, rfl, he⟩ := h'
  conv => whnf
  repeat' ((conv => whnf); first | refine Rng.g ?_ | refine Ob.g ?_ | refine Ob.e ?_ | refine Ob.m ?_ | refine Ob.mk (Nat.le_of_ble_eq_true rfl) ?_ | refine JoinVC.on ?_ | refine Nils.mk (fun h => ?_) ?_ | refine Val.t ?_ | refine Val.d ?_ | refine Mm.mk ?_ | refine CallVC.pure rfl (v2) ?_ | refine CallVC0.pure rfl (v2) ?_ | (refine Br.mk (fun h => ?_) (fun h => ?_) <;> first | (exfalso; omega; done) | (exfalso; simp at h; done) | skip))
  · repeat refine Mm.mk ?_
    conv => whnf
    refine EndVC.mk _ rfl _ _ (.bad e (fun h2 => h (he.2 h2.1)) h rfl rfl) ?_
    refine ⟨[], rfl, rfl, ?_, ?_⟩ <;> repeat' (first | exact trivial | exact rfl | exact Iff.rfl | apply And.intro)
  · repeat refine Mm.mk ?_
    conv => whnf
    refine EndVC.mk _ rfl _ _ (.bad _ (fun h2 => h (v3.2 h2.2)) h rfl rfl) ?_
    refine ⟨[], rfl, rfl, ?_, ?_⟩ <;> repeat' (first | exact trivial | exact rfl | exact Iff.rfl | apply And.intro)
  · rename_i g1
    have hC := he.1 (Classical.not_not.1 g1)
    have hL := v3.1 (Classical.not_not.1 h)
    have hl4 := hL.len
    repeat refine Mm.mk ?_
    refine Ob.mk (by simp only [eb51]; omega) ?_
    repeat' ((conv => whnf); first | refine Rng.g ?_ | refine Ob.g ?_ | refine Ob.e ?_ | refine Ob.m ?_ | refine Ob.mk (Nat.le_of_ble_eq_true rfl) ?_ | refine JoinVC.on ?_ | refine Nils.mk (fun h => ?_) ?_ | refine Val.t ?_ | refine Val.d ?_ | refine Mm.mk ?_ | (refine Br.mk (fun h => ?_) (fun h => ?_) <;> first | (exfalso; omega; done) | (exfalso; simp at h; done) | skip))
    refine LoopVC.mk (fun n st => ∃ (i : Nat) (O : List Smp), i ≤ l.length ∧ n = l.length - i ∧ Fill (fun j => ptF c (l.getD j s0)) l.length O i ∧ st = ⟨0, envA 39 [(24, .x (lS l)), (2, .x (.one (.ptr 0 0))), (8, .x (.one (.own 1))), (25, .int .i64 (l.length : Int)), (26, .int .i64 (i : Int))], [some (.box 26 [.int .i64 c.half, .int .i64 c.gain, .int .i64 c.thin, .int .i64 c.wide, .int .i64 c.slope, .int .i64 c.jerk, .int .i64 c.sty]), some (rowP O)]⟩) _ _ ⟨0, List.replicate l.length s0, Nat.zero_le _, rfl, ⟨by simp, fun j hj => absurd hj (Nat.not_lt_zero j)⟩, rfl⟩ ?_ ?_
    · refine ⟨[some 0, some 1], rfl, rfl, ?_, ?_⟩ <;> repeat' (first | exact trivial | exact rfl | exact Iff.rfl | apply And.intro)
      · exact congrArg Int.ofNat ll
      · show List.replicate ((List.length (smpA l) : Int)).toNat _ = _
        rw [Int.toNat_natCast, ll]
        exact smpA_rep _
    rintro n _ ⟨i, O, hi, hn, hO, rfl⟩
    have lO := smpA_len O
    have hOl := hO.len
    by_cases hi' : i < l.length
    · have u1 : updRow (smpA O) (i : Int).toNat 0 [.int (ptF c (l.getD i s0)).l, .int (ptF c (l.getD i s0)).r] = smpA (O.set i (ptF c (l.getD i s0))) := by rw [Int.toNat_natCast]; exact smpA_set O i _ (by omega)
      have c1 : PSpec Tryz.prog 106 [c.x, smpX l i] (.x (ptF c (l.getD i s0)).x) := smpX_eq l i ▸ s106 c _ hC (hL.each i hi')
      repeat' ((conv => whnf); first | rw [u1] | refine Rng.g ?_ | refine Ob.g ?_ | refine Ob.e ?_ | refine Ob.m ?_ | refine Ob.mk (Nat.le_of_ble_eq_true rfl) ?_ | refine JoinVC.on ?_ | refine Nils.mk (fun h => ?_) ?_ | refine Val.t ?_ | refine Val.d ?_ | refine Mm.mk ?_ | refine CallVC.pure rfl (c1) ?_ | refine CallVC0.pure rfl (c1) ?_ | (refine Br.mk (fun h => ?_) (fun h => ?_) <;> first | (exfalso; omega; done) | (exfalso; simp at h; done) | skip))
      refine Back.mk (l.length - (i + 1)) _ (by omega) ⟨i + 1, _, by omega, rfl, hO.step hi', rfl⟩ ?_
      refine ⟨[some 0, some 1], rfl, rfl, ?_, ?_⟩ <;> repeat' (first | exact trivial | exact rfl | exact Iff.rfl | apply And.intro)
    · repeat' ((conv => whnf); first | refine Rng.g ?_ | refine Ob.g ?_ | refine Ob.e ?_ | refine Ob.m ?_ | refine Ob.mk (Nat.le_of_ble_eq_true rfl) ?_ | refine JoinVC.on ?_ | refine Nils.mk (fun h => ?_) ?_ | refine Val.t ?_ | refine Val.d ?_ | refine Mm.mk ?_ | (refine Br.mk (fun h => ?_) (fun h => ?_) <;> first | (exfalso; omega; done) | (exfalso; simp at h; done) | skip))
      have e1 : i = l.length := by omega
      rw [e1] at hO
      rw [hO.fin]
      repeat refine Mm.mk ?_
      conv => whnf
      refine EndVC.mk _ rfl _ _ (.ok hC hL rfl rfl) ?_
      refine ⟨[some 1], rfl, rfl, ?_, ?_⟩ <;> repeat' (first | exact trivial | exact rfl | exact Iff.rfl | apply And.intro)
end Go.Sx

namespace Go.Sx
open Go Go.Proofs
set_option maxRecDepth 10000
set_option maxHeartbeats 2000000
theorem e32 : EntersF Tryz.prog 32 := enters_of Tryz.func32 (c := bodyOf Tryz.f32) (by kernel_rfl) rfl
theorem e108 : EntersF Tryz.prog 108 := enters_of Tryz.func108 (c := bodyOf Tryz.f108) (by kernel_rfl) rfl
theorem e109 : EntersF Tryz.prog 109 := enters_of Tryz.func109 (c := bodyOf Tryz.f109) (by kernel_rfl) rfl
theorem e110 : EntersF Tryz.prog 110 := enters_of Tryz.func110 (c := bodyOf Tryz.f110) (by kernel_rfl) rfl
theorem e206 : EntersF Tryz.prog 206 := enters_of Tryz.func206 (c := bodyOf Tryz.f206) (by kernel_rfl) rfl
theorem e136 : EntersF Tryz.prog 136 := enters_of Tryz.func136 (c := bodyOf Tryz.f136) (by kernel_rfl) rfl
def amt (n : Int) : Int := if n < -n then -n else n
theorem s111 (n : Int) (hn : -1000000000000 ≤ n ∧ n ≤ 1000000000000) : PSpec Tryz.prog 111 [I n] (.x (I (amt n))) := by
  refine spec_of pMix (O := []) Tryz.func111 (c := bodyOf Tryz.f111) rfl (by kernel_rfl) (by kernel_rfl) Tryz.ntmps111 (res := [.tmp 2]) (by kernel_rfl) ?_
  repeat' ((conv => whnf); first | refine Rng.g ?_ | refine Ob.g ?_ | refine Ob.e ?_ | refine Ob.m ?_ | refine Ob.mk (Nat.le_of_ble_eq_true rfl) ?_ | refine JoinVC.on ?_ | refine Nils.mk (fun h => ?_) ?_ | refine Val.t ?_ | refine Val.d ?_ | refine Mm.mk ?_ | (refine Br.mk (fun h => ?_) (fun h => ?_) <;> first | (exfalso; omega; done) | (exfalso; simp at h; done) | skip))
  · repeat refine Mm.mk ?_
    refine EndVC.mk _ rfl _ _ ⟨rfl, rfl⟩ ?_
    refine ⟨[], rfl, rfl, ?_, ?_⟩ <;> repeat' (first | exact trivial | exact rfl | exact Iff.rfl | apply And.intro)
    unfold amt
    rw [Int.zero_sub]
@[reducible] def bCut (c : Cut) : Blk := .box 26 [.int .i64 c.half, .int .i64 c.gain, .int .i64 c.thin, .int .i64 c.wide, .int .i64 c.slope, .int .i64 c.jerk, .int .i64 c.sty]
def pB (c : Cut) (d k : Int) : Prop := (k * c.gain).tdiv 1000 ≥ amt d
instance (c : Cut) (d k : Int) : Decidable (pB c d k) := by unfold pB; exact inferInstance
theorem pB.mono {c : Cut} (hC : CutOK c) {d k q : Int} (hk : 0 ≤ k) (hq : k ≤ q) (h : pB c d k) : pB c d q := by
  have hg := hC.gain
  unfold pB at h ⊢
  have h1 : k * c.gain ≤ q * c.gain := Int.mul_le_mul_of_nonneg_right hq hg.1
  have h2 : 0 ≤ k * c.gain := Int.mul_nonneg hk hg.1
  rw [Int.tdiv_eq_ediv_of_nonneg h2] at h
  rw [Int.tdiv_eq_ediv_of_nonneg (by omega)]
  have := Int.ediv_le_ediv (show (0 : Int) < 1000 by decide) h1
  omega
theorem s110 (c : Cut) (d n : Int) (hC : CutOK c) (hd : -1000000000000 ≤ d ∧ d ≤ 1000000000000) (hn : 0 ≤ n ∧ n ≤ 32767) : HSpec Tryz.prog 110 [I n, .one (.ptr 0 0), .one (.ptr 1 0)] [bCut c, .box 2 [.int .i64 d]] (fun r m' => r = xP (pB c d n) ∧ m' = [some (bCut c), some (.box 2 [.int .i64 d])]) := by
  have g1 := gain_rng hC (n := n) ⟨by omega, by omega⟩
  refine spec_of pMix (O := [(1, ([], [⟨0, [], []⟩, ⟨1, [], []⟩, ⟨2, [], []⟩, ⟨3, [], []⟩, ⟨4, [], []⟩, ⟨5, [], []⟩, ⟨6, [0, 1, 2, 3, 4], []⟩, ⟨7, [], []⟩, ⟨8, [], []⟩]))]) Tryz.func110 (c := bodyOf Tryz.f110) rfl (by kernel_rfl) (by kernel_rfl) Tryz.ntmps110 (res := [.tmp 4]) (by kernel_rfl) ?_
  repeat' ((conv => whnf); first | refine Rng.g ?_ | refine Ob.g ?_ | refine Ob.e ?_ | refine Ob.m ?_ | refine Ob.mk (Nat.le_of_ble_eq_true rfl) ?_ | refine JoinVC.on ?_ | refine Nils.mk (fun h => ?_) ?_ | refine Val.t ?_ | refine Val.d ?_ | refine Mm.mk ?_ | refine CallVC.pure rfl (s111 d hd) ?_ | refine CallVC0.pure rfl (s111 d hd) ?_ | (refine Br.mk (fun h => ?_) (fun h => ?_) <;> first | (exfalso; omega; done) | (exfalso; simp at h; done) | skip))
  refine Val.mk _ rfl ?_
  repeat' ((conv => whnf); first | refine Rng.g ?_ | refine Ob.g ?_ | refine Ob.e ?_ | refine Ob.m ?_ | refine Ob.mk (Nat.le_of_ble_eq_true rfl) ?_ | refine JoinVC.on ?_ | refine Nils.mk (fun h => ?_) ?_ | refine Val.t ?_ | refine Val.d ?_ | refine Mm.mk ?_ | refine CallVC.pure rfl (s111 d hd) ?_ | refine CallVC0.pure rfl (s111 d hd) ?_ | (refine Br.mk (fun h => ?_) (fun h => ?_) <;> first | (exfalso; omega; done) | (exfalso; simp at h; done) | skip))
  repeat refine Mm.mk ?_
  refine EndVC.mk _ rfl _ _ ⟨rfl, rfl⟩ ?_
  refine ⟨[some 0, some 1], rfl, rfl, ?_, ?_⟩ <;> repeat' (first | exact trivial | exact rfl | exact Iff.rfl | apply And.intro)
theorem s206 (c : Cut) (d n : Int) (hC : CutOK c) (hd : -1000000000000 ≤ d ∧ d ≤ 1000000000000) (hn : 0 ≤ n ∧ n ≤ 32767) : HSpec Tryz.prog 206 [I n, .one (.ptr 0 0)] [.box 213 [.fn 110 [(1, 0), (2, 0)]], bCut c, .box 2 [.int .i64 d]] (fun r m' => r = xP (pB c d n) ∧ m' = [some (.box 213 [.fn 110 [(1, 0), (2, 0)]]), some (bCut c), some (.box 2 [.int .i64 d])]) := by
  refine spec_of pMix (O := []) Tryz.func206 (c := bodyOf Tryz.f206) rfl (by kernel_rfl) (by kernel_rfl) Tryz.ntmps206 (res := [.tmp 3]) (by kernel_rfl) ?_
  repeat' ((conv => whnf); first | refine Rng.g ?_ | refine Ob.g ?_ | refine Ob.e ?_ | refine Ob.m ?_ | refine Ob.mk (Nat.le_of_ble_eq_true rfl) ?_ | refine JoinVC.on ?_ | refine Nils.mk (fun h => ?_) ?_ | refine Val.t ?_ | refine Val.d ?_ | refine Mm.mk ?_ | (refine Br.mk (fun h => ?_) (fun h => ?_) <;> first | (exfalso; omega; done) | (exfalso; simp at h; done) | skip))
  conv => whnf
  refine CallVC.mk [1, 2] _ _ _ rfl rfl rfl (s110 c d n hC hd hn) (fun r m' h' => ?_)
  obtain ⟨rfl, rfl⟩ := h'
  conv => whnf
  repeat' ((conv => whnf); first | refine Rng.g ?_ | refine Ob.g ?_ | refine Ob.e ?_ | refine Ob.m ?_ | refine Ob.mk (Nat.le_of_ble_eq_true rfl) ?_ | refine JoinVC.on ?_ | refine Nils.mk (fun h => ?_) ?_ | refine Val.t ?_ | refine Val.d ?_ | refine Mm.mk ?_ | (refine Br.mk (fun h => ?_) (fun h => ?_) <;> first | (exfalso; omega; done) | (exfalso; simp at h; done) | skip))
  repeat refine Mm.mk ?_
  refine EndVC.mk _ rfl _ _ ⟨rfl, rfl⟩ ?_
  refine ⟨[some 0, some 1, some 2], rfl, rfl, ?_, ?_⟩ <;> repeat' (first | exact trivial | exact rfl | exact Iff.rfl | apply And.intro)
/-- What a search finds. -/
structure Least (p : Int → Prop) (n k : Int) : Prop where
  rng : 0 ≤ k ∧ k ≤ n
  no : ∀ q, 0 ≤ q → q < k → ¬ p q
  yes : k < n → p k
theorem s136b (c : Cut) (d : Int) (hC : CutOK c) (hd : -1000000000000 ≤ d ∧ d ≤ 1000000000000) : HSpec Tryz.prog 136 [I 32768, .one (.fn 206 [(0, 0)])] [.box 213 [.fn 110 [(1, 0), (2, 0)]], bCut c, .box 2 [.int .i64 d]] (fun r m' => ∃ k, Least (pB c d) 32768 k ∧ r = .x (I k) ∧ m' = [some (.box 213 [.fn 110 [(1, 0), (2, 0)]]), some (bCut c), some (.box 2 [.int .i64 d])]) := by
  refine spec_of pMix (O := []) Tryz.func136 (c := bodyOf Tryz.f136) rfl (by kernel_rfl) (by kernel_rfl) Tryz.ntmps136 (res := [.tmp 4]) (by kernel_rfl) ?_
  repeat' ((conv => whnf); first | refine Rng.g ?_ | refine Ob.g ?_ | refine Ob.e ?_ | refine Ob.m ?_ | refine Ob.mk (Nat.le_of_ble_eq_true rfl) ?_ | refine JoinVC.on ?_ | refine Nils.mk (fun h => ?_) ?_ | refine Val.t ?_ | refine Val.d ?_ | refine Mm.mk ?_ | (refine Br.mk (fun h => ?_) (fun h => ?_) <;> first | (exfalso; omega; done) | (exfalso; simp at h; done) | skip))
  refine LoopVC.mk (fun n st => ∃ (i j : Int), (0 ≤ i ∧ i ≤ j ∧ j ≤ 32768) ∧ n = (j - i).toNat ∧ (∀ q, 0 ≤ q → q < i → ¬ pB c d q) ∧ (j < 32768 → pB c d j) ∧ st = ⟨3, envA 26 [(1, .x (.one (.fn 206 [(0, 0)]))), (5, .int .i64 i), (6, .int .i64 j)], [some (.box 213 [.fn 110 [(1, 0), (2, 0)]]), some (bCut c), some (.box 2 [.int .i64 d])]⟩) _ _ ⟨0, 32768, by omega, rfl, fun q h1 h2 => by omega, fun h1 => by omega, rfl⟩ ?_ ?_
  · refine ⟨[some 0, some 1, some 2], rfl, rfl, ?_, ?_⟩ <;> repeat' (first | exact trivial | exact rfl | exact Iff.rfl | apply And.intro)
  rintro n _ ⟨i, j, hij, hn, hno, hyes, rfl⟩
  by_cases hlt : i < j
  · obtain ⟨g, hg⟩ : ∃ g, g = (i + j) / 2 := ⟨_, rfl⟩
    have h1 : i ≤ g ∧ g < j := by omega
    repeat' ((conv => whnf); first | refine Rng.g ?_ | refine Ob.g ?_ | refine Ob.e ?_ | refine Ob.m ?_ | refine Ob.mk (Nat.le_of_ble_eq_true rfl) ?_ | refine JoinVC.on ?_ | refine Nils.mk (fun h => ?_) ?_ | refine Val.t ?_ | refine Val.d ?_ | refine Mm.mk ?_ | (refine Br.mk (fun h => ?_) (fun h => ?_) <;> first | (exfalso; omega; done) | (exfalso; simp at h; done) | skip))
    refine Val.mk g (by rw [hg]; rfl) ?_
    repeat' ((conv => whnf); first | refine Rng.g ?_ | refine Ob.g ?_ | refine Ob.e ?_ | refine Ob.m ?_ | refine Ob.mk (Nat.le_of_ble_eq_true rfl) ?_ | refine JoinVC.on ?_ | refine Nils.mk (fun h => ?_) ?_ | refine Val.t ?_ | refine Val.d ?_ | refine Mm.mk ?_ | (refine Br.mk (fun h => ?_) (fun h => ?_) <;> first | (exfalso; omega; done) | (exfalso; simp at h; done) | skip))
    conv => whnf
    refine CallVC.mk [0, 1, 2] _ _ _ rfl rfl rfl (s206 c d g hC hd (by omega)) (fun r m' h' => ?_)
    obtain ⟨rfl, rfl⟩ := h'
    conv => whnf
    repeat' ((conv => whnf); first | refine Rng.g ?_ | refine Ob.g ?_ | refine Ob.e ?_ | refine Ob.m ?_ | refine Ob.mk (Nat.le_of_ble_eq_true rfl) ?_ | refine JoinVC.on ?_ | refine Nils.mk (fun h => ?_) ?_ | refine Val.t ?_ | refine Val.d ?_ | refine Mm.mk ?_ | (refine Br.mk (fun h => ?_) (fun h => ?_) <;> first | (exfalso; omega; done) | (exfalso; simp at h; done) | skip))
    · refine Back.mk (j - (g + 1)).toNat _ (by omega) ⟨g + 1, j, by omega, rfl, fun q h2 h3 h4 => h (h4.mono hC h2 (by omega)), hyes, rfl⟩ ?_
      refine ⟨[some 0, some 1, some 2], rfl, rfl, ?_, ?_⟩ <;> repeat' (first | exact trivial | exact rfl | exact Iff.rfl | apply And.intro)
    · refine Back.mk (g - i).toNat _ (by omega) ⟨i, g, by omega, rfl, hno, fun _ => Classical.not_not.1 h, rfl⟩ ?_
      refine ⟨[some 0, some 1, some 2], rfl, rfl, ?_, ?_⟩ <;> repeat' (first | exact trivial | exact rfl | exact Iff.rfl | apply And.intro)
  · repeat' ((conv => whnf); first | refine Rng.g ?_ | refine Ob.g ?_ | refine Ob.e ?_ | refine Ob.m ?_ | refine Ob.mk (Nat.le_of_ble_eq_true rfl) ?_ | refine JoinVC.on ?_ | refine Nils.mk (fun h => ?_) ?_ | refine Val.t ?_ | refine Val.d ?_ | refine Mm.mk ?_ | (refine Br.mk (fun h => ?_) (fun h => ?_) <;> first | (exfalso; omega; done) | (exfalso; simp at h; done) | skip))
    have e : i = j := by omega
    subst e
    repeat refine Mm.mk ?_
    conv => whnf
    refine EndVC.mk _ rfl _ _ (⟨i, ⟨by omega, hno, hyes⟩, rfl, rfl⟩) ?_
    refine ⟨[some 0, some 1, some 2], rfl, rfl, ?_, ?_⟩ <;> repeat' (first | exact trivial | exact rfl | exact Iff.rfl | apply And.intro)
theorem s109b (c : Cut) (d : Int) (hC : CutOK c) (hd : -1000000000000 ≤ d ∧ d ≤ 1000000000000) : HSpec Tryz.prog 109 [I 32767, .one (.fn 110 [(0, 0), (1, 0)])] [bCut c, .box 2 [.int .i64 d]] (fun r m' => ∃ k, Least (pB c d) 32768 k ∧ r = .x (I k) ∧ m' = [some (bCut c), some (.box 2 [.int .i64 d])]) := by
  refine spec_of pMix (O := []) Tryz.func109 (c := bodyOf Tryz.f109) rfl (by kernel_rfl) (by kernel_rfl) Tryz.ntmps109 (res := [.tmp 4]) (by kernel_rfl) ?_
  repeat' ((conv => whnf); first | refine Rng.g ?_ | refine Ob.g ?_ | refine Ob.e ?_ | refine Ob.m ?_ | refine Ob.mk (Nat.le_of_ble_eq_true rfl) ?_ | refine JoinVC.on ?_ | refine Nils.mk (fun h => ?_) ?_ | refine Val.t ?_ | refine Val.d ?_ | refine Mm.mk ?_ | (refine Br.mk (fun h => ?_) (fun h => ?_) <;> first | (exfalso; omega; done) | (exfalso; simp at h; done) | skip))
  conv => whnf
  refine CallVC.mk [2, 0, 1] _ _ _ rfl rfl rfl (s136b c d hC hd) (fun r m' h' => ?_)
  obtain ⟨k, hk, rfl, rfl⟩ := h'
  conv => whnf
  have hk1 := hk.rng
  repeat' ((conv => whnf); first | refine Rng.g ?_ | refine Ob.g ?_ | refine Ob.e ?_ | refine Ob.m ?_ | refine Ob.mk (Nat.le_of_ble_eq_true rfl) ?_ | refine JoinVC.on ?_ | refine Nils.mk (fun h => ?_) ?_ | refine Val.t ?_ | refine Val.d ?_ | refine Mm.mk ?_ | (refine Br.mk (fun h => ?_) (fun h => ?_) <;> first | (exfalso; omega; done) | (exfalso; simp at h; done) | skip))
  repeat refine Mm.mk ?_
  conv => whnf
  refine EndVC.mk _ rfl _ _ (⟨k, hk, rfl, rfl⟩) ?_
  refine ⟨[some 0, some 1], rfl, rfl, ?_, ?_⟩ <;> repeat' (first | exact trivial | exact rfl | exact Iff.rfl | apply And.intro)
def rdF (d k : Int) : Int := if d < 0 then -k else k
theorem s108 (c : Cut) (d : Int) (hC : CutOK c) (hd : -1000000000000 ≤ d ∧ d ≤ 1000000000000) : HSpec Tryz.prog 108 [I d, .one (.ptr 0 0)] [bCut c] (fun r m' => ∃ k, Least (pB c d) 32768 k ∧ r = .x (I (rdF d k)) ∧ m' = [some (bCut c)]) := by
  refine spec_of pMix (O := []) Tryz.func108 (c := bodyOf Tryz.f108) rfl (by kernel_rfl) (by kernel_rfl) Tryz.ntmps108 (res := [.tmp 3]) (by kernel_rfl) ?_
  repeat' ((conv => whnf); first | refine Rng.g ?_ | refine Ob.g ?_ | refine Ob.e ?_ | refine Ob.m ?_ | refine Ob.mk (Nat.le_of_ble_eq_true rfl) ?_ | refine JoinVC.on ?_ | refine Nils.mk (fun h => ?_) ?_ | refine Val.t ?_ | refine Val.d ?_ | refine Mm.mk ?_ | (refine Br.mk (fun h => ?_) (fun h => ?_) <;> first | (exfalso; omega; done) | (exfalso; simp at h; done) | skip))
  conv => whnf
  refine CallVC.mk [0, 1] _ _ _ rfl rfl rfl (s109b c d hC hd) (fun r m' h' => ?_)
  obtain ⟨k, hk, rfl, rfl⟩ := h'
  conv => whnf
  have hk1 := hk.rng
  repeat' ((conv => whnf); first | refine Rng.g ?_ | refine Ob.g ?_ | refine Ob.e ?_ | refine Ob.m ?_ | refine Ob.mk (Nat.le_of_ble_eq_true rfl) ?_ | refine JoinVC.on ?_ | refine Nils.mk (fun h => ?_) ?_ | refine Val.t ?_ | refine Val.d ?_ | refine Mm.mk ?_ | (refine Br.mk (fun h => ?_) (fun h => ?_) <;> first | (exfalso; omega; done) | (exfalso; simp at h; done) | skip))
  · repeat refine Mm.mk ?_
    conv => whnf
    refine EndVC.mk _ rfl _ _ (⟨k, hk, rfl, rfl⟩) ?_
    refine ⟨[some 0], rfl, rfl, ?_, ?_⟩ <;> repeat' (first | exact trivial | exact rfl | exact Iff.rfl | apply And.intro)
    rw [rdF, if_pos h, Int.zero_sub]
  · repeat refine Mm.mk ?_
    conv => whnf
    refine EndVC.mk _ rfl _ _ (⟨k, hk, rfl, rfl⟩) ?_
    refine ⟨[some 0], rfl, rfl, ?_, ?_⟩ <;> repeat' (first | exact trivial | exact rfl | exact Iff.rfl | apply And.intro)
    rw [rdF, if_neg h]
end Go.Sx

namespace Go.Sx
open Go Go.Proofs
set_option maxRecDepth 10000
set_option maxHeartbeats 2000000
def edgeP (p : Smp) : Prop := (p.l ≥ -4194304 ∧ p.l ≤ 4194304) ∧ (p.r ≥ -4194304 ∧ p.r ≤ 4194304)
/-- What a point is read as. -/
inductive BkRs (c : Cut) (p : Smp) (r : AV) (m' : List (Option Blk)) : Prop
  | bad (e : Int) (h : ¬ (CutOK c ∧ edgeP p)) (he : e ≠ 0) (hr : r = .tup [s0.x, I e]) (hm : m' = [])
  | none (hC : CutOK c) (hp : edgeP p) (kl kr : Int) (hl : Least (pB c (p.r - c.half)) 32768 kl) (hR : Least (pB c (p.l + c.half)) 32768 kr) (hn : ¬ ((⟨rdF (p.r - c.half) kl, rdF (p.l + c.half) kr⟩ : Smp).ok ∧ ptF c ⟨rdF (p.r - c.half) kl, rdF (p.l + c.half) kr⟩ = p)) (hr : r = .tup [s0.x, I 5]) (hm : m' = [])
  | ok (hC : CutOK c) (hp : edgeP p) (kl kr : Int) (hl : Least (pB c (p.r - c.half)) 32768 kl) (hR : Least (pB c (p.l + c.half)) 32768 kr) (hs : (⟨rdF (p.r - c.half) kl, rdF (p.l + c.half) kr⟩ : Smp).ok) (he : ptF c ⟨rdF (p.r - c.half) kl, rdF (p.l + c.half) kr⟩ = p) (hr : r = .tup [(⟨rdF (p.r - c.half) kl, rdF (p.l + c.half) kr⟩ : Smp).x, I 0]) (hm : m' = [])
theorem smp1 (s : Smp) : smpE [s] = 0 ↔ s.ok := by
  rw [smpE_iff]
  exact ⟨fun h => h.each 0 (by simp), fun h => ⟨by simp, fun j hj => (by rw [show j = 0 by simp at hj; omega]; exact h)⟩⟩
theorem s32 (c : Cut) (p : Smp) : HSpec Tryz.prog 32 [c.x, p.x] [] (BkRs c p) := by
  by_cases hC : ¬ CutOK c
  · refine spec_of pMix (O := [(7, ([15], [⟨0, [], []⟩, ⟨1, [], []⟩, ⟨2, [], []⟩, ⟨3, [], []⟩, ⟨4, [], []⟩, ⟨5, [], []⟩, ⟨7, [], []⟩, ⟨8, [], []⟩, ⟨9, [], []⟩, ⟨10, [], []⟩, ⟨11, [], []⟩, ⟨12, [], []⟩, ⟨6, [7, 8, 9, 10, 11, 12], []⟩, ⟨13, [], []⟩, ⟨14, [], []⟩, ⟨15, [], []⟩, ⟨16, [], []⟩])), (8, ([], [⟨0, [], [1]⟩, ⟨1, [], []⟩, ⟨2, [], []⟩, ⟨3, [], []⟩, ⟨4, [], []⟩, ⟨5, [], []⟩, ⟨6, [], []⟩, ⟨8, [], []⟩, ⟨7, [8], []⟩, ⟨9, [], []⟩, ⟨10, [], []⟩]))]) Tryz.func32 (c := bodyOf Tryz.f32) rfl (by kernel_rfl) (by kernel_rfl) Tryz.ntmps32 (res := [.cell 4 47, .tmp 5]) (by kernel_rfl) ?_
    repeat' ((conv => whnf); first | refine Rng.g ?_ | refine Ob.g ?_ | refine Ob.e ?_ | refine Ob.m ?_ | refine Ob.mk (Nat.le_of_ble_eq_true rfl) ?_ | refine JoinVC.on ?_ | refine Nils.mk (fun h => ?_) ?_ | refine Val.t ?_ | refine Val.d ?_ | refine Mm.mk ?_ | (refine Br.mk (fun h => ?_) (fun h => ?_) <;> first | (exfalso; omega; done) | (exfalso; simp at h; done) | skip))
    conv => whnf
    refine CallVC.mk [] _ _ _ rfl rfl rfl (s105 c) (fun r m' h' => ?_)
    obtain ⟨e, rfl, rfl, he⟩ := h'
    conv => whnf
    have he0 : e ≠ 0 := fun h0 => hC (he.1 h0)
    repeat' ((conv => whnf); first | refine Rng.g ?_ | refine Ob.g ?_ | refine Ob.e ?_ | refine Ob.m ?_ | refine Ob.mk (Nat.le_of_ble_eq_true rfl) ?_ | refine JoinVC.on ?_ | refine Nils.mk (fun h => ?_) ?_ | refine Val.t ?_ | refine Val.d ?_ | refine Mm.mk ?_ | (refine Br.mk (fun h => ?_) (fun h => ?_) <;> first | (exfalso; omega; done) | (exfalso; simp at h; done) | skip))
    repeat refine Mm.mk ?_
    conv => whnf
    refine EndVC.mk _ rfl _ _ (.bad e (fun h => hC h.1) he0 rfl rfl) ?_
    refine ⟨[], rfl, rfl, ?_, ?_⟩ <;> repeat' (first | exact trivial | exact rfl | exact Iff.rfl | apply And.intro)
  replace hC := Classical.not_not.1 hC
  by_cases hp : ¬ edgeP p
  · refine spec_of pMix (O := [(7, ([15], [⟨0, [], []⟩, ⟨1, [], []⟩, ⟨2, [], []⟩, ⟨3, [], []⟩, ⟨4, [], []⟩, ⟨5, [], []⟩, ⟨7, [], []⟩, ⟨8, [], []⟩, ⟨9, [], []⟩, ⟨10, [], []⟩, ⟨11, [], []⟩, ⟨12, [], []⟩, ⟨6, [7, 8, 9, 10, 11, 12], []⟩, ⟨13, [], []⟩, ⟨14, [], []⟩, ⟨15, [], []⟩, ⟨16, [], []⟩])), (8, ([], [⟨0, [], [1]⟩, ⟨1, [], []⟩, ⟨2, [], []⟩, ⟨3, [], []⟩, ⟨4, [], []⟩, ⟨5, [], []⟩, ⟨6, [], []⟩, ⟨8, [], []⟩, ⟨7, [8], []⟩, ⟨9, [], []⟩, ⟨10, [], []⟩]))]) Tryz.func32 (c := bodyOf Tryz.f32) rfl (by kernel_rfl) (by kernel_rfl) Tryz.ntmps32 (res := [.cell 4 47, .tmp 5]) (by kernel_rfl) ?_
    repeat' ((conv => whnf); first | refine Rng.g ?_ | refine Ob.g ?_ | refine Ob.e ?_ | refine Ob.m ?_ | refine Ob.mk (Nat.le_of_ble_eq_true rfl) ?_ | refine JoinVC.on ?_ | refine Nils.mk (fun h => ?_) ?_ | refine Val.t ?_ | refine Val.d ?_ | refine Mm.mk ?_ | (refine Br.mk (fun h => ?_) (fun h => ?_) <;> first | (exfalso; omega; done) | (exfalso; simp at h; done) | skip))
    conv => whnf
    refine CallVC.mk [] _ _ _ rfl rfl rfl (s105 c) (fun r m' h' => ?_)
    obtain ⟨e, rfl, rfl, he⟩ := h'
    conv => whnf
    cases he.2 hC
    repeat' ((conv => whnf); first | refine Rng.g ?_ | refine Ob.g ?_ | refine Ob.e ?_ | refine Ob.m ?_ | refine Ob.mk (Nat.le_of_ble_eq_true rfl) ?_ | refine JoinVC.on ?_ | refine Nils.mk (fun h => ?_) ?_ | refine Val.t ?_ | refine Val.d ?_ | refine Mm.mk ?_ | refine CallVC.pure rfl (s107 p) ?_ | refine CallVC0.pure rfl (s107 p) ?_ | (refine Br.mk (fun h => ?_) (fun h => ?_) <;> first | (exfalso; omega; done) | (exfalso; simp at h; done) | skip))
    · repeat refine Mm.mk ?_
      conv => whnf
      refine EndVC.mk _ rfl _ _ (.bad 2 (fun h => hp h.2) (by decide) rfl rfl) ?_
      refine ⟨[], rfl, rfl, ?_, ?_⟩ <;> repeat' (first | exact trivial | exact rfl | exact Iff.rfl | apply And.intro)
    · exact absurd h (fun h2 => h2 hp)
  replace hp := Classical.not_not.1 hp
  obtain ⟨h1, h2⟩ := id hp
  have hh := hC.half
  refine spec_of pMix (O := [(7, ([15], [⟨0, [], []⟩, ⟨1, [], []⟩, ⟨2, [], []⟩, ⟨3, [], []⟩, ⟨4, [], []⟩, ⟨5, [], []⟩, ⟨7, [], []⟩, ⟨8, [], []⟩, ⟨9, [], []⟩, ⟨10, [], []⟩, ⟨11, [], []⟩, ⟨12, [], []⟩, ⟨6, [7, 8, 9, 10, 11, 12], []⟩, ⟨13, [], []⟩, ⟨14, [], []⟩, ⟨15, [], []⟩, ⟨16, [], []⟩])), (8, ([], [⟨0, [], [1]⟩, ⟨1, [], []⟩, ⟨2, [], []⟩, ⟨3, [], []⟩, ⟨4, [], []⟩, ⟨5, [], []⟩, ⟨6, [], []⟩, ⟨8, [], []⟩, ⟨7, [8], []⟩, ⟨9, [], []⟩, ⟨10, [], []⟩]))]) Tryz.func32 (c := bodyOf Tryz.f32) rfl (by kernel_rfl) (by kernel_rfl) Tryz.ntmps32 (res := [.cell 4 47, .tmp 5]) (by kernel_rfl) ?_
  repeat' ((conv => whnf); first | refine Rng.g ?_ | refine Ob.g ?_ | refine Ob.e ?_ | refine Ob.m ?_ | refine Ob.mk (Nat.le_of_ble_eq_true rfl) ?_ | refine JoinVC.on ?_ | refine Nils.mk (fun h => ?_) ?_ | refine Val.t ?_ | refine Val.d ?_ | refine Mm.mk ?_ | (refine Br.mk (fun h => ?_) (fun h => ?_) <;> first | (exfalso; omega; done) | (exfalso; simp at h; done) | skip))
  conv => whnf
  refine CallVC.mk [] _ _ _ rfl rfl rfl (s105 c) (fun r m' h' => ?_)
  obtain ⟨e, rfl, rfl, he⟩ := h'
  conv => whnf
  cases he.2 hC
  repeat' ((conv => whnf); first | refine Rng.g ?_ | refine Ob.g ?_ | refine Ob.e ?_ | refine Ob.m ?_ | refine Ob.mk (Nat.le_of_ble_eq_true rfl) ?_ | refine JoinVC.on ?_ | refine Nils.mk (fun h => ?_) ?_ | refine Val.t ?_ | refine Val.d ?_ | refine Mm.mk ?_ | refine CallVC.pure rfl (s107 p) ?_ | refine CallVC0.pure rfl (s107 p) ?_ | (refine Br.mk (fun h => ?_) (fun h => ?_) <;> first | (exfalso; omega; done) | (exfalso; simp at h; done) | skip))
  conv => whnf
  refine CallVC0.same [0] _ _ _ rfl rfl rfl rfl (s108 c (p.r - c.half) hC (by omega)) (fun r m' h' => (by obtain ⟨kl, hkl, rfl, rfl⟩ := h'; rfl)) (fun r m' h' => ?_)
  obtain ⟨kl, hkl, rfl, rfl⟩ := h'
  conv => whnf
  repeat' ((conv => whnf); first | refine Rng.g ?_ | refine Ob.g ?_ | refine Ob.e ?_ | refine Ob.m ?_ | refine Ob.mk (Nat.le_of_ble_eq_true rfl) ?_ | refine JoinVC.on ?_ | refine Nils.mk (fun h => ?_) ?_ | refine Val.t ?_ | refine Val.d ?_ | refine Mm.mk ?_ | (refine Br.mk (fun h => ?_) (fun h => ?_) <;> first | (exfalso; omega; done) | (exfalso; simp at h; done) | skip))
  conv => whnf
  refine CallVC.mk [0] _ _ _ rfl rfl rfl (s108 c (p.l + c.half) hC (by omega)) (fun r m' h' => ?_)
  obtain ⟨kr, hkr, rfl, rfl⟩ := h'
  conv => whnf
  repeat' ((conv => whnf); first | refine Rng.g ?_ | refine Ob.g ?_ | refine Ob.e ?_ | refine Ob.m ?_ | refine Ob.mk (Nat.le_of_ble_eq_true rfl) ?_ | refine JoinVC.on ?_ | refine Nils.mk (fun h => ?_) ?_ | refine Val.t ?_ | refine Val.d ?_ | refine Mm.mk ?_ | (refine Br.mk (fun h => ?_) (fun h => ?_) <;> first | (exfalso; omega; done) | (exfalso; simp at h; done) | skip))
  obtain ⟨sm, hsm⟩ : ∃ sm : Smp, sm = ⟨rdF (p.r - c.half) kl, rdF (p.l + c.half) kr⟩ := ⟨_, rfl⟩
  have c1 : PSpec Tryz.prog 103 [lS [⟨rdF (p.r - c.half) kl, rdF (p.l + c.half) kr⟩]] (.x (I (smpE [sm]))) := by rw [hsm]; exact s103 _
  by_cases hok : ¬ sm.ok
  · have hne : ¬ smpE [sm] = 0 := fun h0 => hok ((smp1 sm).1 h0)
    repeat' ((conv => whnf); first | refine Rng.g ?_ | refine Ob.g ?_ | refine Ob.e ?_ | refine Ob.m ?_ | refine Ob.mk (Nat.le_of_ble_eq_true rfl) ?_ | refine JoinVC.on ?_ | refine Nils.mk (fun h => ?_) ?_ | refine Val.t ?_ | refine Val.d ?_ | refine Mm.mk ?_ | refine CallVC.pure rfl (c1) ?_ | refine CallVC0.pure rfl (c1) ?_ | (refine Br.mk (fun h => ?_) (fun h => ?_) <;> first | (exfalso; omega; done) | (exfalso; simp at h; done) | skip))
    repeat refine Mm.mk ?_
    conv => whnf
    refine EndVC.mk _ rfl _ _ (.none hC hp kl kr hkl hkr (fun h3 => hok (hsm ▸ h3.1)) rfl rfl) ?_
    refine ⟨[], rfl, rfl, ?_, ?_⟩ <;> repeat' (first | exact trivial | exact rfl | exact Iff.rfl | apply And.intro)
  replace hok := Classical.not_not.1 hok
  have hz : smpE [sm] = 0 := (smp1 sm).2 hok
  rw [hz] at c1
  have c2 : PSpec Tryz.prog 106 [c.x, .agg [.int .i64 (rdF (p.r - c.half) kl), .int .i64 (rdF (p.l + c.half) kr)]] (.x (ptF c sm).x) := by have := s106 c sm hC hok; rw [hsm] at this ⊢; exact this
  repeat' ((conv => whnf); first | refine Rng.g ?_ | refine Ob.g ?_ | refine Ob.e ?_ | refine Ob.m ?_ | refine Ob.mk (Nat.le_of_ble_eq_true rfl) ?_ | refine JoinVC.on ?_ | refine Nils.mk (fun h => ?_) ?_ | refine Val.t ?_ | refine Val.d ?_ | refine Mm.mk ?_ | refine CallVC.pure rfl (c1) ?_ | refine CallVC.pure rfl (c2) ?_ | refine CallVC0.pure rfl (c1) ?_ | refine CallVC0.pure rfl (c2) ?_ | (refine Br.mk (fun h => ?_) (fun h => ?_) <;> first | (exfalso; omega; done) | (exfalso; simp at h; done) | skip))
  · repeat refine Mm.mk ?_
    conv => whnf
    refine EndVC.mk _ rfl _ _ (.none hC hp kl kr hkl hkr (fun h3 => h (by rw [← hsm] at h3; show (ptF c sm).l = p.l ∧ (ptF c sm).r = p.r ∧ True; rw [h3.2]; exact ⟨rfl, rfl, trivial⟩)) rfl rfl) ?_
    refine ⟨[], rfl, rfl, ?_, ?_⟩ <;> repeat' (first | exact trivial | exact rfl | exact Iff.rfl | apply And.intro)
  · have h4 : (ptF c sm).l = p.l ∧ (ptF c sm).r = p.r ∧ True := Classical.not_not.1 h
    have h5 : ptF c sm = p := by
      obtain ⟨h6, h7, _⟩ := h4
      cases p with
      | mk pl pr => rw [show ptF c sm = ⟨(ptF c sm).l, (ptF c sm).r⟩ from rfl, h6, h7]
    rw [hsm] at h5 hok
    repeat refine Mm.mk ?_
    conv => whnf
    refine EndVC.mk _ rfl _ _ (.ok hC hp kl kr hkl hkr hok h5 rfl rfl) ?_
    refine ⟨[], rfl, rfl, ?_, ?_⟩ <;> repeat' (first | exact trivial | exact rfl | exact Iff.rfl | apply And.intro)
end Go.Sx

namespace Go.Sx
open Go Go.Proofs
set_option maxRecDepth 10000
set_option maxHeartbeats 4000000
theorem e112 : EntersF Tryz.prog 112 := enters_of Tryz.func112 (c := bodyOf Tryz.f112) (by kernel_rfl) rfl
theorem e113 : EntersF Tryz.prog 113 := enters_of Tryz.func113 (c := bodyOf Tryz.f113) (by kernel_rfl) rfl
theorem e153 : EntersF Tryz.prog 153 := enters_of Tryz.func153 (c := bodyOf Tryz.f153) (by kernel_rfl) rfl
theorem e116 : EntersF Tryz.prog 116 := enters_of Tryz.func116 (c := bodyOf Tryz.f116) (by kernel_rfl) rfl
theorem e281 : EntersF Tryz.prog 281 := enters_of Tryz.func281 (c := bodyOf Tryz.f281) (by kernel_rfl) rfl
theorem e128 : EntersF Tryz.prog 128 := enters_of Tryz.func128 (c := bodyOf Tryz.f128) (by kernel_rfl) rfl
theorem e129 : EntersF Tryz.prog 129 := enters_of Tryz.func129 (c := bodyOf Tryz.f129) (by kernel_rfl) rfl
theorem e213 : EntersF Tryz.prog 213 := enters_of Tryz.func213 (c := bodyOf Tryz.f213) (by kernel_rfl) rfl
theorem e214 : EntersF Tryz.prog 214 := enters_of Tryz.func214 (c := bodyOf Tryz.f214) (by kernel_rfl) rfl
theorem e215 : EntersF Tryz.prog 215 := enters_of Tryz.func215 (c := bodyOf Tryz.f215) (by kernel_rfl) rfl
theorem e216 : EntersF Tryz.prog 216 := enters_of Tryz.func216 (c := bodyOf Tryz.f216) (by kernel_rfl) rfl
theorem e217 : EntersF Tryz.prog 217 := enters_of Tryz.func217 (c := bodyOf Tryz.f217) (by kernel_rfl) rfl
theorem e283 : EntersF Tryz.prog 283 := enters_of Tryz.func283 (c := bodyOf Tryz.f283) (by kernel_rfl) rfl
theorem e284 : EntersF Tryz.prog 284 := enters_of Tryz.func284 (c := bodyOf Tryz.f284) (by kernel_rfl) rfl
theorem e285 : EntersF Tryz.prog 285 := enters_of Tryz.func285 (c := bodyOf Tryz.f285) (by kernel_rfl) rfl
theorem e286 : EntersF Tryz.prog 286 := enters_of Tryz.func286 (c := bodyOf Tryz.f286) (by kernel_rfl) rfl
theorem e327 : EntersF Tryz.prog 327 := enters_of Tryz.func327 (c := bodyOf Tryz.f327) (by kernel_rfl) rfl
theorem e114 : EntersF Tryz.prog 114 := enters_of Tryz.func114 (c := bodyOf Tryz.f114) (by kernel_rfl) rfl
theorem e115 : EntersF Tryz.prog 115 := enters_of Tryz.func115 (c := bodyOf Tryz.f115) (by kernel_rfl) rfl
theorem e207 : EntersF Tryz.prog 207 := enters_of Tryz.func207 (c := bodyOf Tryz.f207) (by kernel_rfl) rfl
theorem e35 : EntersF Tryz.prog 35 := enters_of Tryz.func35 (c := bodyOf Tryz.f35) (by kernel_rfl) rfl
theorem e44 : EntersF Tryz.prog 44 := enters_of Tryz.func44 (c := bodyOf Tryz.f44) (by kernel_rfl) rfl
theorem e127 : EntersF Tryz.prog 127 := enters_of Tryz.func127 (c := bodyOf Tryz.f127) (by kernel_rfl) rfl
theorem e51 : EntersF Tryz.prog 51 := enters_of Tryz.func51 (c := bodyOf Tryz.f51) (by kernel_rfl) rfl
theorem e208 : EntersF Tryz.prog 208 := enters_of Tryz.func208 (c := bodyOf Tryz.f208) (by kernel_rfl) rfl
instance (p : Smp) : Decidable (edgeP p) := by unfold edgeP; exact inferInstance
theorem s113 (r per : Int) : PSpec Tryz.prog 113 [I r, I per] (.x (I (if (0 ≤ r ∧ r ≤ 4194304) ∧ (1 ≤ per ∧ per ≤ 65536) then 0 else 3))) := by
  by_cases hk : (0 ≤ r ∧ r ≤ 4194304) ∧ (1 ≤ per ∧ per ≤ 65536)
  · rw [if_pos hk]
    refine spec_of pMix (O := []) Tryz.func113 (c := bodyOf Tryz.f113) rfl (by kernel_rfl) (by kernel_rfl) Tryz.ntmps113 (res := [.tmp 4]) (by kernel_rfl) ?_
    repeat' ((conv => whnf); first | refine Rng.g ?_ | refine Ob.g ?_ | refine Ob.e ?_ | refine Ob.m ?_ | refine Ob.mk (Nat.le_of_ble_eq_true rfl) ?_ | refine JoinVC.on ?_ | refine Nils.mk (fun h => ?_) ?_ | refine Val.t ?_ | refine Val.d ?_ | refine Mm.mk ?_ | refine CallVC.pure rfl (s205 r 0 4194304) ?_ | refine CallVC.pure rfl (s205 per 1 65536) ?_ | refine CallVC0.pure rfl (s205 r 0 4194304) ?_ | refine CallVC0.pure rfl (s205 per 1 65536) ?_ | (refine Br.mk (fun h => ?_) (fun h => ?_) <;> first | (exfalso; omega; done) | (exfalso; simp at h; done) | skip))
    repeat refine Mm.mk ?_
    refine EndVC.mk _ rfl _ _ ⟨rfl, rfl⟩ ?_
    refine ⟨[], rfl, rfl, ?_, ?_⟩ <;> repeat' (first | exact trivial | exact rfl | exact Iff.rfl | apply And.intro)
  · rw [if_neg hk]
    refine spec_of pMix (O := []) Tryz.func113 (c := bodyOf Tryz.f113) rfl (by kernel_rfl) (by kernel_rfl) Tryz.ntmps113 (res := [.tmp 4]) (by kernel_rfl) ?_
    repeat' ((conv => whnf); first | refine Rng.g ?_ | refine Ob.g ?_ | refine Ob.e ?_ | refine Ob.m ?_ | refine Ob.mk (Nat.le_of_ble_eq_true rfl) ?_ | refine JoinVC.on ?_ | refine Nils.mk (fun h => ?_) ?_ | refine Val.t ?_ | refine Val.d ?_ | refine Mm.mk ?_ | refine CallVC.pure rfl (s205 r 0 4194304) ?_ | refine CallVC.pure rfl (s205 per 1 65536) ?_ | refine CallVC0.pure rfl (s205 r 0 4194304) ?_ | refine CallVC0.pure rfl (s205 per 1 65536) ?_ | (refine Br.mk (fun h => ?_) (fun h => ?_) <;> first | (exfalso; omega; done) | (exfalso; simp at h; done) | skip))
    all_goals
      repeat refine Mm.mk ?_
      refine EndVC.mk _ rfl _ _ ⟨rfl, rfl⟩ ?_
      refine ⟨[], rfl, rfl, ?_, ?_⟩ <;> repeat' (first | exact trivial | exact rfl | exact Iff.rfl | apply And.intro)
structure PtsOK (l : List Smp) : Prop where
  len : l.length ≤ 4096
  each : ∀ j, j < l.length → edgeP (l.getD j s0)
theorem s153 (l : List Smp) : HSpec Tryz.prog 153 [lS l] [] (fun r m' => ∃ e, r = .x (I e) ∧ m' = [] ∧ (e = 0 ↔ PtsOK l)) := by
  have ll := smpA_len l
  by_cases hl : 4096 < l.length
  · refine spec_of pMix (O := []) Tryz.func153 (c := bodyOf Tryz.f153) rfl (by kernel_rfl) (by kernel_rfl) Tryz.ntmps153 (res := [.tmp 2]) (by kernel_rfl) ?_
    repeat' ((conv => whnf); first | refine Rng.g ?_ | refine Ob.g ?_ | refine Ob.e ?_ | refine Ob.m ?_ | refine Ob.mk (Nat.le_of_ble_eq_true rfl) ?_ | refine JoinVC.on ?_ | refine Nils.mk (fun h => ?_) ?_ | refine Val.t ?_ | refine Val.d ?_ | refine Mm.mk ?_ | (refine Br.mk (fun h => ?_) (fun h => ?_) <;> first | (exfalso; omega; done) | (exfalso; simp at h; done) | skip))
    repeat refine Mm.mk ?_
    conv => whnf
    refine EndVC.mk _ rfl _ _ (⟨6, rfl, rfl, ⟨fun h => (by cases h), fun hC => (by have := hC.len; omega)⟩⟩) ?_
    refine ⟨[], rfl, rfl, ?_, ?_⟩ <;> repeat' (first | exact trivial | exact rfl | exact Iff.rfl | apply And.intro)
  refine spec_of pMix (O := []) Tryz.func153 (c := bodyOf Tryz.f153) rfl (by kernel_rfl) (by kernel_rfl) Tryz.ntmps153 (res := [.tmp 2]) (by kernel_rfl) ?_
  repeat' ((conv => whnf); first | refine Rng.g ?_ | refine Ob.g ?_ | refine Ob.e ?_ | refine Ob.m ?_ | refine Ob.mk (Nat.le_of_ble_eq_true rfl) ?_ | refine JoinVC.on ?_ | refine Nils.mk (fun h => ?_) ?_ | refine Val.t ?_ | refine Val.d ?_ | refine Mm.mk ?_ | (refine Br.mk (fun h => ?_) (fun h => ?_) <;> first | (exfalso; omega; done) | (exfalso; simp at h; done) | skip))
  refine LoopVC.mk (fun n st => ∃ (i : Nat), i ≤ l.length ∧ n = l.length - i ∧ (∀ j, j < i → edgeP (l.getD j s0)) ∧ st = ⟨0, envA 18 [(8, .x (lS l)), (9, .int .i64 (l.length : Int)), (10, .int .i64 (i : Int))], []⟩) _ _ ⟨0, Nat.zero_le _, rfl, fun j hj => absurd hj (Nat.not_lt_zero j), rfl⟩ ?_ ?_
  · refine ⟨[], rfl, rfl, ?_, ?_⟩ <;> repeat' (first | exact trivial | exact rfl | exact Iff.rfl | apply And.intro)
    exact congrArg Int.ofNat ll
  rintro n _ ⟨i, hi, hn, hj, rfl⟩
  by_cases hi' : i < l.length
  · have c1 : PSpec Tryz.prog 107 [smpX l i] (xP (edgeP (l.getD i s0))) := smpX_eq l i ▸ s107 _
    repeat' ((conv => whnf); first | refine Rng.g ?_ | refine Ob.g ?_ | refine Ob.e ?_ | refine Ob.m ?_ | refine Ob.mk (Nat.le_of_ble_eq_true rfl) ?_ | refine JoinVC.on ?_ | refine Nils.mk (fun h => ?_) ?_ | refine Val.t ?_ | refine Val.d ?_ | refine Mm.mk ?_ | refine CallVC.pure rfl (c1) ?_ | refine CallVC0.pure rfl (c1) ?_ | (refine Br.mk (fun h => ?_) (fun h => ?_) <;> first | (exfalso; omega; done) | (exfalso; simp at h; done) | skip))
    · repeat refine Mm.mk ?_
      conv => whnf
      refine EndVC.mk _ rfl _ _ (⟨2, rfl, rfl, ⟨fun h => (by cases h), fun hC => absurd (hC.each i hi') h⟩⟩) ?_
      refine ⟨[], rfl, rfl, ?_, ?_⟩ <;> repeat' (first | exact trivial | exact rfl | exact Iff.rfl | apply And.intro)
    · refine Back.mk (l.length - (i + 1)) _ (by omega) ⟨i + 1, by omega, rfl, fun j hj' => ?_, rfl⟩ ?_
      · rcases Nat.lt_succ_iff_lt_or_eq.1 hj' with h' | rfl
        · exact hj j h'
        · exact Classical.not_not.1 h
      · refine ⟨[], rfl, rfl, ?_, ?_⟩ <;> repeat' (first | exact trivial | exact rfl | exact Iff.rfl | apply And.intro)
  · repeat' ((conv => whnf); first | refine Rng.g ?_ | refine Ob.g ?_ | refine Ob.e ?_ | refine Ob.m ?_ | refine Ob.mk (Nat.le_of_ble_eq_true rfl) ?_ | refine JoinVC.on ?_ | refine Nils.mk (fun h => ?_) ?_ | refine Val.t ?_ | refine Val.d ?_ | refine Mm.mk ?_ | (refine Br.mk (fun h => ?_) (fun h => ?_) <;> first | (exfalso; omega; done) | (exfalso; simp at h; done) | skip))
    repeat refine Mm.mk ?_
    conv => whnf
    refine EndVC.mk _ rfl _ _ (⟨0, rfl, rfl, ⟨fun _ => ⟨by omega, fun j hj' => hj j (by omega)⟩, fun _ => rfl⟩⟩) ?_
    refine ⟨[], rfl, rfl, ?_, ?_⟩ <;> repeat' (first | exact trivial | exact rfl | exact Iff.rfl | apply And.intro)
theorem s327 (a b : Int) : PSpec Tryz.prog 327 [lL [a, b]] (.x (I (if a < b then b else a))) := by
  have l2 : (i64s [a, b]).length = 2 := rfl
  refine spec_of pMix (O := []) Tryz.func327 (c := bodyOf Tryz.f327) rfl (by kernel_rfl) (by kernel_rfl) Tryz.ntmps327 (res := [.tmp 2]) (by kernel_rfl) ?_
  have l3 : (List.drop ((some (1 : Int)).getD 0).toNat (List.take ((none : Option Int).getD (List.length (i64s [a, b]) : Int)).toNat (i64s [a, b]))).length = 1 := rfl
  repeat' ((conv => whnf); first | refine Rng.g ?_ | refine Ob.g ?_ | refine Ob.e ?_ | refine Ob.m ?_ | refine Ob.mk (Nat.le_of_ble_eq_true rfl) ?_ | refine JoinVC.on ?_ | refine Nils.mk (fun h => ?_) ?_ | refine Val.t ?_ | refine Val.d ?_ | refine Mm.mk ?_ | (refine Br.mk (fun h => ?_) (fun h => ?_) <;> first | (exfalso; omega; done) | (exfalso; simp at h; done) | skip))
  refine LoopVC.un 2 ?_
  repeat' ((conv => whnf); first | refine Rng.g ?_ | refine Ob.g ?_ | refine Ob.e ?_ | refine Ob.m ?_ | refine Ob.mk (Nat.le_of_ble_eq_true rfl) ?_ | refine JoinVC.on ?_ | refine Nils.mk (fun h => ?_) ?_ | refine Val.t ?_ | refine Val.d ?_ | refine Mm.mk ?_ | (refine Br.mk (fun h => ?_) (fun h => ?_) <;> first | (exfalso; omega; done) | (exfalso; simp at h; done) | skip))
  repeat refine Mm.mk ?_
  refine EndVC.mk _ rfl _ _ ⟨rfl, rfl⟩ ?_
  refine ⟨[], rfl, rfl, ?_, ?_⟩ <;> repeat' (first | exact trivial | exact rfl | exact Iff.rfl | apply And.intro)
/-- The track of a groove (cutter, points, radius, turn). -/
structure Trk where
  c : Cut
  p : List Smp
  r : Int
  per : Int
@[reducible] def KTk : List CK := [.int .i64, .int .i64, .int .i64, .int .i64, .int .i64, .int .i64, .int .i64, .sl KS, .int .i64, .int .i64]
def tkA (t : Trk) : Arr := [[.int t.c.half, .int t.c.gain, .int t.c.thin, .int t.c.wide, .int t.c.slope, .int t.c.jerk, .int t.c.sty, .sl (smpA t.p), .int t.r, .int t.per]]
@[reducible] def tkX (t : Trk) : XV := .one (.lel true KTk (tkA t) 0 0)
@[reducible] def bTk (t : Trk) : Blk := .box 240 [.int .i64 t.c.half, .int .i64 t.c.gain, .int .i64 t.c.thin, .int .i64 t.c.wide, .int .i64 t.c.slope, .int .i64 t.c.jerk, .int .i64 t.c.sty, .lst true KS (smpA t.p), .int .i64 t.r, .int .i64 t.per]
structure TrkOK (t : Trk) : Prop where
  c : CutOK t.c
  p : PtsOK t.p
  r : 0 ≤ t.r ∧ t.r ≤ 4194304
  per : 1 ≤ t.per ∧ t.per ≤ 65536
@[reducible] def befX (l : List Smp) (i : Nat) : Bool → SV
  | true => .lel true KS (smpA l) (i - 1) 0
  | false => .nilp
@[reducible] def aftX (l : List Smp) (i : Nat) : Bool → SV
  | true => .lel true KS (smpA l) (i + 1) 0
  | false => .nilp
@[reducible] def nrX (l : List Smp) (i : Nat) (b a : Bool) : XV := .agg [befX l i b, .lel true KS (smpA l) i 0, aftX l i a]
theorem s283 (l : List Smp) (i : Nat) (b a : Bool) (hp : edgeP (l.getD i s0)) : PSpec Tryz.prog 283 [nrX l i b a] (.x (I ((l.getD i s0).r - (l.getD i s0).l))) := by
  have g0 : rI (smpA l) i (0 + 0) = (l.getD i s0).l := smpA_l l i
  have g1 : rI (smpA l) i (0 + (0 + 1)) = (l.getD i s0).r := smpA_r l i
  obtain ⟨h1, h2⟩ := hp
  cases b
  all_goals
    cases a
    all_goals
      refine spec_of pMix (O := []) Tryz.func283 (c := bodyOf Tryz.f283) rfl (by kernel_rfl) (by kernel_rfl) Tryz.ntmps283 (res := [.tmp 2]) (by kernel_rfl) ?_
      repeat' ((conv => whnf); first | refine Rng.g ?_ | refine Ob.g ?_ | refine Ob.e ?_ | refine Ob.m ?_ | refine Ob.mk (Nat.le_of_ble_eq_true rfl) ?_ | refine JoinVC.on ?_ | refine Nils.mk (fun h => ?_) ?_ | refine Val.t ?_ | refine Val.d ?_ | refine Mm.mk ?_ | (refine Br.mk (fun h => ?_) (fun h => ?_) <;> first | (exfalso; omega; done) | (exfalso; simp at h; done) | skip))
      repeat refine Mm.mk ?_
      refine EndVC.mk _ rfl _ _ ⟨rfl, rfl⟩ ?_
      refine ⟨[], rfl, rfl, ?_, ?_⟩ <;> repeat' (first | exact trivial | exact rfl | exact Iff.rfl | apply And.intro)
      rw [g0, g1]
def mx2 (a b : Int) : Int := if a < b then b else a
def stF (l : List Smp) (i : Nat) (b : Bool) : Int := if b = true then mx2 (amt ((l.getD i s0).l - (l.getD (i - 1) s0).l)) (amt ((l.getD i s0).r - (l.getD (i - 1) s0).r)) else 0
def bdF (l : List Smp) (i : Nat) (b a : Bool) : Int := if b = true ∧ a = true then mx2 (amt ((l.getD (i - 1) s0).l + (l.getD (i + 1) s0).l - 2 * (l.getD i s0).l)) (amt ((l.getD (i - 1) s0).r + (l.getD (i + 1) s0).r - 2 * (l.getD i s0).r)) else 0
theorem amt_bd {n B : Int} (h : -B ≤ n ∧ n ≤ B) : 0 ≤ amt n ∧ amt n ≤ B := by unfold amt; split <;> omega
/-- The points near a place. -/
structure NearOK (l : List Smp) (i : Nat) (b a : Bool) : Prop where
  h : edgeP (l.getD i s0)
  b : b = true → edgeP (l.getD (i - 1) s0)
  a : a = true → edgeP (l.getD (i + 1) s0)
theorem stF_bd {l : List Smp} {i : Nat} {b a : Bool} (hp : NearOK l i b a) : 0 ≤ stF l i b ∧ stF l i b ≤ 8388608 := by
  unfold stF
  split
  · rename_i hb
    obtain ⟨h1, h2⟩ := hp.h
    obtain ⟨h3, h4⟩ := hp.b hb
    have h5 := amt_bd (n := (l.getD i s0).l - (l.getD (i - 1) s0).l) (B := 8388608) (by omega)
    have h6 := amt_bd (n := (l.getD i s0).r - (l.getD (i - 1) s0).r) (B := 8388608) (by omega)
    unfold mx2
    split <;> omega
  · omega
theorem bdF_bd {l : List Smp} {i : Nat} {b a : Bool} (hp : NearOK l i b a) : 0 ≤ bdF l i b a ∧ bdF l i b a ≤ 16777216 := by
  unfold bdF
  split
  · rename_i hb
    obtain ⟨h1, h2⟩ := hp.h
    obtain ⟨h3, h4⟩ := hp.b hb.1
    obtain ⟨h7, h8⟩ := hp.a hb.2
    have h5 := amt_bd (n := (l.getD (i - 1) s0).l + (l.getD (i + 1) s0).l - 2 * (l.getD i s0).l) (B := 16777216) (by omega)
    have h6 := amt_bd (n := (l.getD (i - 1) s0).r + (l.getD (i + 1) s0).r - 2 * (l.getD i s0).r) (B := 16777216) (by omega)
    unfold mx2
    split <;> omega
  · omega
theorem s284 (l : List Smp) (i : Nat) (b a : Bool) (hp : NearOK l i b a) : PSpec Tryz.prog 284 [nrX l i b a] (.x (I (stF l i b))) := by
  have g0 : rI (smpA l) i (0 + 0) = (l.getD i s0).l := smpA_l l i
  have g1 : rI (smpA l) i (0 + (0 + 1)) = (l.getD i s0).r := smpA_r l i
  have g2 : rI (smpA l) (i - 1) (0 + 0) = (l.getD (i - 1) s0).l := smpA_l l _
  have g3 : rI (smpA l) (i - 1) (0 + (0 + 1)) = (l.getD (i - 1) s0).r := smpA_r l _
  obtain ⟨h1, h2⟩ := hp.h
  cases b with
  | false =>
    cases a
    all_goals
      refine spec_of pMix (O := [(3, ([], [⟨0, [], []⟩, ⟨1, [], []⟩, ⟨2, [], []⟩, ⟨3, [], []⟩, ⟨4, [], []⟩, ⟨5, [], []⟩, ⟨6, [], []⟩, ⟨7, [], []⟩, ⟨8, [], []⟩, ⟨9, [], []⟩, ⟨10, [], []⟩, ⟨12, [], []⟩, ⟨13, [], []⟩, ⟨14, [], []⟩, ⟨15, [], []⟩, ⟨16, [], []⟩, ⟨17, [], []⟩, ⟨18, [], []⟩, ⟨19, [], []⟩, ⟨20, [], []⟩, ⟨21, [], []⟩, ⟨22, [], []⟩, ⟨11, [12, 13, 14, 15, 16, 17, 18, 19, 20, 21, 22], []⟩, ⟨23, [], [24]⟩, ⟨24, [], []⟩, ⟨25, [], []⟩, ⟨26, [], []⟩]))]) Tryz.func284 (c := bodyOf Tryz.f284) rfl (by kernel_rfl) (by kernel_rfl) Tryz.ntmps284 (res := [.tmp 2]) (by kernel_rfl) ?_
      repeat' ((conv => whnf); first | refine Rng.g ?_ | refine Ob.g ?_ | refine Ob.e ?_ | refine Ob.m ?_ | refine Ob.mk (Nat.le_of_ble_eq_true rfl) ?_ | refine JoinVC.on ?_ | refine Nils.mk (fun h => ?_) ?_ | refine Val.t ?_ | refine Val.d ?_ | refine Mm.mk ?_ | (refine Br.mk (fun h => ?_) (fun h => ?_) <;> first | (exfalso; omega; done) | (exfalso; simp at h; done) | skip))
      repeat refine Mm.mk ?_
      refine EndVC.mk _ rfl _ _ ⟨rfl, rfl⟩ ?_
      refine ⟨[], rfl, rfl, ?_, ?_⟩ <;> repeat' (first | exact trivial | exact rfl | exact Iff.rfl | apply And.intro)
  | true =>
    obtain ⟨h3, h4⟩ := hp.b rfl
    have c1 := s111 (rI (smpA l) i (0 + 0) - rI (smpA l) (i - 1) (0 + 0)) (by omega)
    have c2 := s111 (rI (smpA l) i (0 + (0 + 1)) - rI (smpA l) (i - 1) (0 + (0 + 1))) (by omega)
    have c3 := s327 (amt (rI (smpA l) i (0 + 0) - rI (smpA l) (i - 1) (0 + 0))) (amt (rI (smpA l) i (0 + (0 + 1)) - rI (smpA l) (i - 1) (0 + (0 + 1))))
    cases a
    all_goals
      refine spec_of pMix (O := [(3, ([], [⟨0, [], []⟩, ⟨1, [], []⟩, ⟨2, [], []⟩, ⟨3, [], []⟩, ⟨4, [], []⟩, ⟨5, [], []⟩, ⟨6, [], []⟩, ⟨7, [], []⟩, ⟨8, [], []⟩, ⟨9, [], []⟩, ⟨10, [], []⟩, ⟨12, [], []⟩, ⟨13, [], []⟩, ⟨14, [], []⟩, ⟨15, [], []⟩, ⟨16, [], []⟩, ⟨17, [], []⟩, ⟨18, [], []⟩, ⟨19, [], []⟩, ⟨20, [], []⟩, ⟨21, [], []⟩, ⟨22, [], []⟩, ⟨11, [12, 13, 14, 15, 16, 17, 18, 19, 20, 21, 22], []⟩, ⟨23, [], [24]⟩, ⟨24, [], []⟩, ⟨25, [], []⟩, ⟨26, [], []⟩]))]) Tryz.func284 (c := bodyOf Tryz.f284) rfl (by kernel_rfl) (by kernel_rfl) Tryz.ntmps284 (res := [.tmp 2]) (by kernel_rfl) ?_
      repeat' ((conv => whnf); first | refine Rng.g ?_ | refine Ob.g ?_ | refine Ob.e ?_ | refine Ob.m ?_ | refine Ob.mk (Nat.le_of_ble_eq_true rfl) ?_ | refine JoinVC.on ?_ | refine Nils.mk (fun h => ?_) ?_ | refine Val.t ?_ | refine Val.d ?_ | refine Mm.mk ?_ | refine CallVC.pure rfl (c1) ?_ | refine CallVC.pure rfl (c2) ?_ | refine CallVC.pure rfl (c3) ?_ | refine CallVC0.pure rfl (c1) ?_ | refine CallVC0.pure rfl (c2) ?_ | refine CallVC0.pure rfl (c3) ?_ | (refine Br.mk (fun h => ?_) (fun h => ?_) <;> first | (exfalso; omega; done) | (exfalso; simp at h; done) | skip))
      repeat refine Mm.mk ?_
      refine EndVC.mk _ rfl _ _ ⟨rfl, rfl⟩ ?_
      refine ⟨[], rfl, rfl, ?_, ?_⟩ <;> repeat' (first | exact trivial | exact rfl | exact Iff.rfl | apply And.intro)
      rw [g0, g1, g2, g3]
      rfl
theorem s285 (l : List Smp) (i : Nat) (b a : Bool) (hp : NearOK l i b a) : PSpec Tryz.prog 285 [nrX l i b a] (.x (I (bdF l i b a))) := by
  have g0 : rI (smpA l) i (0 + 0) = (l.getD i s0).l := smpA_l l i
  have g1 : rI (smpA l) i (0 + (0 + 1)) = (l.getD i s0).r := smpA_r l i
  have g2 : rI (smpA l) (i - 1) (0 + 0) = (l.getD (i - 1) s0).l := smpA_l l _
  have g3 : rI (smpA l) (i - 1) (0 + (0 + 1)) = (l.getD (i - 1) s0).r := smpA_r l _
  have g4 : rI (smpA l) (i + 1) (0 + 0) = (l.getD (i + 1) s0).l := smpA_l l _
  have g5 : rI (smpA l) (i + 1) (0 + (0 + 1)) = (l.getD (i + 1) s0).r := smpA_r l _
  obtain ⟨h1, h2⟩ := hp.h
  by_cases hba : b = true ∧ a = true
  · obtain ⟨rfl, rfl⟩ := hba
    obtain ⟨h3, h4⟩ := hp.b rfl
    obtain ⟨h5, h6⟩ := hp.a rfl
    have c1 := s111 (rI (smpA l) (i - 1) (0 + 0) + rI (smpA l) (i + 1) (0 + 0) - 2 * rI (smpA l) i (0 + 0)) (by omega)
    have c2 := s111 (rI (smpA l) (i - 1) (0 + (0 + 1)) + rI (smpA l) (i + 1) (0 + (0 + 1)) - 2 * rI (smpA l) i (0 + (0 + 1))) (by omega)
    have c3 := s327 (amt (rI (smpA l) (i - 1) (0 + 0) + rI (smpA l) (i + 1) (0 + 0) - 2 * rI (smpA l) i (0 + 0))) (amt (rI (smpA l) (i - 1) (0 + (0 + 1)) + rI (smpA l) (i + 1) (0 + (0 + 1)) - 2 * rI (smpA l) i (0 + (0 + 1))))
    refine spec_of pMix (O := [(3, ([], [⟨0, [], []⟩, ⟨1, [], []⟩, ⟨2, [], []⟩, ⟨3, [], []⟩, ⟨4, [], []⟩, ⟨5, [], []⟩, ⟨6, [], []⟩, ⟨7, [], []⟩, ⟨8, [], []⟩, ⟨9, [], []⟩, ⟨10, [], []⟩, ⟨11, [], []⟩, ⟨12, [], []⟩, ⟨13, [], []⟩, ⟨14, [], []⟩, ⟨15, [], []⟩, ⟨16, [], []⟩, ⟨17, [], []⟩, ⟨19, [], []⟩, ⟨20, [], []⟩, ⟨21, [], []⟩, ⟨22, [], []⟩, ⟨23, [], []⟩, ⟨24, [], []⟩, ⟨25, [], []⟩, ⟨26, [], []⟩, ⟨27, [], []⟩, ⟨28, [], []⟩, ⟨29, [], []⟩, ⟨30, [], []⟩, ⟨31, [], []⟩, ⟨32, [], []⟩, ⟨33, [], []⟩, ⟨34, [], []⟩, ⟨35, [], []⟩, ⟨36, [], []⟩, ⟨18, [19, 20, 21, 22, 23, 24, 25, 26, 27, 28, 29, 30, 31, 32, 33, 34, 35, 36], []⟩, ⟨37, [], [38]⟩, ⟨38, [], []⟩, ⟨39, [], []⟩, ⟨40, [], []⟩]))]) Tryz.func285 (c := bodyOf Tryz.f285) rfl (by kernel_rfl) (by kernel_rfl) Tryz.ntmps285 (res := [.tmp 2]) (by kernel_rfl) ?_
    repeat' ((conv => whnf); first | refine Rng.g ?_ | refine Ob.g ?_ | refine Ob.e ?_ | refine Ob.m ?_ | refine Ob.mk (Nat.le_of_ble_eq_true rfl) ?_ | refine JoinVC.on ?_ | refine Nils.mk (fun h => ?_) ?_ | refine Val.t ?_ | refine Val.d ?_ | refine Mm.mk ?_ | refine CallVC.pure rfl (c1) ?_ | refine CallVC.pure rfl (c2) ?_ | refine CallVC.pure rfl (c3) ?_ | refine CallVC0.pure rfl (c1) ?_ | refine CallVC0.pure rfl (c2) ?_ | refine CallVC0.pure rfl (c3) ?_ | (refine Br.mk (fun h => ?_) (fun h => ?_) <;> first | (exfalso; omega; done) | (exfalso; simp at h; done) | skip))
    repeat refine Mm.mk ?_
    refine EndVC.mk _ rfl _ _ ⟨rfl, rfl⟩ ?_
    refine ⟨[], rfl, rfl, ?_, ?_⟩ <;> repeat' (first | exact trivial | exact rfl | exact Iff.rfl | apply And.intro)
    rw [g0, g1, g2, g3, g4, g5]
    rfl
  · cases b
    all_goals
      cases a
      all_goals first | (exact absurd ⟨rfl, rfl⟩ hba) | skip
      all_goals
        refine spec_of pMix (O := [(3, ([], [⟨0, [], []⟩, ⟨1, [], []⟩, ⟨2, [], []⟩, ⟨3, [], []⟩, ⟨4, [], []⟩, ⟨5, [], []⟩, ⟨6, [], []⟩, ⟨7, [], []⟩, ⟨8, [], []⟩, ⟨9, [], []⟩, ⟨10, [], []⟩, ⟨11, [], []⟩, ⟨12, [], []⟩, ⟨13, [], []⟩, ⟨14, [], []⟩, ⟨15, [], []⟩, ⟨16, [], []⟩, ⟨17, [], []⟩, ⟨19, [], []⟩, ⟨20, [], []⟩, ⟨21, [], []⟩, ⟨22, [], []⟩, ⟨23, [], []⟩, ⟨24, [], []⟩, ⟨25, [], []⟩, ⟨26, [], []⟩, ⟨27, [], []⟩, ⟨28, [], []⟩, ⟨29, [], []⟩, ⟨30, [], []⟩, ⟨31, [], []⟩, ⟨32, [], []⟩, ⟨33, [], []⟩, ⟨34, [], []⟩, ⟨35, [], []⟩, ⟨36, [], []⟩, ⟨18, [19, 20, 21, 22, 23, 24, 25, 26, 27, 28, 29, 30, 31, 32, 33, 34, 35, 36], []⟩, ⟨37, [], [38]⟩, ⟨38, [], []⟩, ⟨39, [], []⟩, ⟨40, [], []⟩]))]) Tryz.func285 (c := bodyOf Tryz.f285) rfl (by kernel_rfl) (by kernel_rfl) Tryz.ntmps285 (res := [.tmp 2]) (by kernel_rfl) ?_
        repeat' ((conv => whnf); first | refine Rng.g ?_ | refine Ob.g ?_ | refine Ob.e ?_ | refine Ob.m ?_ | refine Ob.mk (Nat.le_of_ble_eq_true rfl) ?_ | refine JoinVC.on ?_ | refine Nils.mk (fun h => ?_) ?_ | refine Val.t ?_ | refine Val.d ?_ | refine Mm.mk ?_ | (refine Br.mk (fun h => ?_) (fun h => ?_) <;> first | (exfalso; omega; done) | (exfalso; simp at h; done) | skip))
        repeat refine Mm.mk ?_
        refine EndVC.mk _ rfl _ _ ⟨rfl, rfl⟩ ?_
        refine ⟨[], rfl, rfl, ?_, ?_⟩ <;> repeat' (first | exact trivial | exact rfl | exact Iff.rfl | apply And.intro)
end Go.Sx

namespace Go.Sx
open Go Go.Proofs
set_option maxRecDepth 10000
set_option maxHeartbeats 4000000
/-! ### A groove on a blank -/
@[reducible] def Blnk.x (b : Blnk) : XV := .agg [.int .i64 b.per, .int .i64 b.rim, .int .i64 b.core, .int .i64 b.land, .int .i64 b.slow, .int .i64 b.fast]
@[reducible] def bSd (b : Blnk) (p : List Smp) : Blk := .box 348 [.int .i64 b.per, .int .i64 b.rim, .int .i64 b.core, .int .i64 b.land, .int .i64 b.slow, .int .i64 b.fast, .lst true KS (smpA p), .int .i64 b.per]
theorem PtsOK.ptb {p : List Smp} (h : PtsOK p) : PtB p := ⟨h.len, fun j hj => by
  have := h.each j hj
  unfold edgeP at this
  omega⟩
theorem s293 (x a b : Int) : PSpec Tryz.prog 293 [I x, I a, I b] (xP (x ≥ a ∧ x ≤ b)) := by
  refine spec_of pMix (O := []) Tryz.func293 (c := bodyOf Tryz.f293) rfl (by kernel_rfl) (by kernel_rfl) Tryz.ntmps293 (res := [.tmp 6]) (by kernel_rfl) ?_
  repeat' ((conv => whnf); first | refine Rng.g ?_ | refine Ob.g ?_ | refine Ob.e ?_ | refine Ob.m ?_ | refine Ob.mk (Nat.le_of_ble_eq_true rfl) ?_ | refine JoinVC.on ?_ | refine Nils.mk (fun h => ?_) ?_ | refine Val.t ?_ | refine Val.d ?_ | refine Mm.mk ?_ | (refine Br.mk (fun h => ?_) (fun h => ?_) <;> first | (exfalso; omega; done) | (exfalso; simp at h; done) | skip))
  · repeat refine Mm.mk ?_
    refine EndVC.mk _ rfl _ _ ⟨rfl, rfl⟩ ?_
    refine ⟨[], rfl, rfl, ?_, ?_⟩ <;> repeat' (first | exact trivial | exact rfl | exact Iff.rfl | apply And.intro)
    exact ⟨fun h2 => ⟨h, h2⟩, fun h2 => h2.2⟩
  · repeat refine Mm.mk ?_
    refine EndVC.mk _ rfl _ _ ⟨rfl, rfl⟩ ?_
    refine ⟨[], rfl, rfl, ?_, ?_⟩ <;> repeat' (first | exact trivial | exact rfl | exact Iff.rfl | apply And.intro)
    exact fun h2 => h h2.1
theorem s226 (b : Blnk) : HSpec Tryz.prog 226 [b.x] [] (fun r m' => ∃ e, r = .x (I e) ∧ m' = [] ∧ (e = 0 ↔ BlnkOK b)) := by
  refine spec_of pMix (O := []) Tryz.func226 (c := bodyOf Tryz.f226) rfl (by kernel_rfl) (by kernel_rfl) Tryz.ntmps226 (res := [.tmp 2]) (by kernel_rfl) ?_
  repeat' ((conv => whnf); first | refine Rng.g ?_ | refine Ob.g ?_ | refine Ob.e ?_ | refine Ob.m ?_ | refine Ob.mk (Nat.le_of_ble_eq_true rfl) ?_ | refine JoinVC.on ?_ | refine Nils.mk (fun h => ?_) ?_ | refine Val.t ?_ | refine Val.d ?_ | refine Mm.mk ?_ | refine CallVC.pure rfl (s293 b.per 1 65536) ?_ | refine CallVC.pure rfl (s293 b.rim 0 4194304) ?_ | refine CallVC.pure rfl (s293 b.core 0 b.rim) ?_ | refine CallVC.pure rfl (s293 b.land 0 65536) ?_ | refine CallVC.pure rfl (s293 b.fast 0 65536) ?_ | refine CallVC.pure rfl (s293 b.slow 0 b.fast) ?_ | refine CallVC0.pure rfl (s293 b.per 1 65536) ?_ | refine CallVC0.pure rfl (s293 b.rim 0 4194304) ?_ | refine CallVC0.pure rfl (s293 b.core 0 b.rim) ?_ | refine CallVC0.pure rfl (s293 b.land 0 65536) ?_ | refine CallVC0.pure rfl (s293 b.fast 0 65536) ?_ | refine CallVC0.pure rfl (s293 b.slow 0 b.fast) ?_ | (refine Br.mk (fun h => ?_) (fun h => ?_) <;> first | (exfalso; omega; done) | (exfalso; simp at h; done) | skip))
  rotate_right
  · repeat refine Mm.mk ?_
    conv => whnf
    refine EndVC.mk _ rfl _ _ (⟨0, rfl, rfl, ⟨fun _ => ⟨by omega, by omega, by omega, by omega, by omega, by omega⟩, fun _ => rfl⟩⟩) ?_
    refine ⟨[], rfl, rfl, ?_, ?_⟩ <;> repeat' (first | exact trivial | exact rfl | exact Iff.rfl | apply And.intro)
  all_goals
    repeat refine Mm.mk ?_
    conv => whnf
    refine EndVC.mk _ rfl _ _ (⟨2, rfl, rfl, ⟨fun h => (by cases h), fun hC => (by obtain ⟨h1, h2, h3, h4, h5, h6⟩ := hC; omega)⟩⟩) ?_
    refine ⟨[], rfl, rfl, ?_, ?_⟩ <;> repeat' (first | exact trivial | exact rfl | exact Iff.rfl | apply And.intro)
theorem s135 (b : Blnk) (p : List Smp) : HSpec Tryz.prog 135 [b.x, lS p] [] (fun r m' => (∃ e, ¬ (BlnkOK b ∧ PtsOK p) ∧ e ≠ 0 ∧ r = .tup [.one .nilp, I e] ∧ m' = []) ∨ (BlnkOK b ∧ PtsOK p ∧ r = .tup [.one (.ptr 0 0), I 0] ∧ m' = [some (bSd b p)])) := by
  have v1 := s226 b
  have v2 := s153 p
  by_cases hC : ¬ BlnkOK b
  · refine spec_of pMix (O := []) Tryz.func135 (c := bodyOf Tryz.f135) rfl (by kernel_rfl) (by kernel_rfl) Tryz.ntmps135 (res := [.tmp 4, .tmp 5]) (by kernel_rfl) ?_
    repeat' ((conv => whnf); first | refine Rng.g ?_ | refine Ob.g ?_ | refine Ob.e ?_ | refine Ob.m ?_ | refine Ob.mk (Nat.le_of_ble_eq_true rfl) ?_ | refine JoinVC.on ?_ | refine Nils.mk (fun h => ?_) ?_ | refine Val.t ?_ | refine Val.d ?_ | refine Mm.mk ?_ | (refine Br.mk (fun h => ?_) (fun h => ?_) <;> first | (exfalso; omega; done) | (exfalso; simp at h; done) | skip))
    conv => whnf
    refine CallVC.mk [] _ _ _ rfl rfl rfl (v1) (fun r m' h' => ?_)
    obtain ⟨e, rfl, rfl, he⟩ := h'
    conv => whnf
    have he0 : e ≠ 0 := fun h0 => hC (he.1 h0)
    repeat' ((conv => whnf); first | refine Rng.g ?_ | refine Ob.g ?_ | refine Ob.e ?_ | refine Ob.m ?_ | refine Ob.mk (Nat.le_of_ble_eq_true rfl) ?_ | refine JoinVC.on ?_ | refine Nils.mk (fun h => ?_) ?_ | refine Val.t ?_ | refine Val.d ?_ | refine Mm.mk ?_ | (refine Br.mk (fun h => ?_) (fun h => ?_) <;> first | (exfalso; omega; done) | (exfalso; simp at h; done) | skip))
    repeat refine Mm.mk ?_
    conv => whnf
    refine EndVC.mk _ rfl _ _ (.inl ⟨e, fun h => hC h.1, he0, rfl, rfl⟩) ?_
    refine ⟨[], rfl, rfl, ?_, ?_⟩ <;> repeat' (first | exact trivial | exact rfl | exact Iff.rfl | apply And.intro)
  replace hC := Classical.not_not.1 hC
  by_cases hP : ¬ PtsOK p
  · refine spec_of pMix (O := []) Tryz.func135 (c := bodyOf Tryz.f135) rfl (by kernel_rfl) (by kernel_rfl) Tryz.ntmps135 (res := [.tmp 4, .tmp 5]) (by kernel_rfl) ?_
    repeat' ((conv => whnf); first | refine Rng.g ?_ | refine Ob.g ?_ | refine Ob.e ?_ | refine Ob.m ?_ | refine Ob.mk (Nat.le_of_ble_eq_true rfl) ?_ | refine JoinVC.on ?_ | refine Nils.mk (fun h => ?_) ?_ | refine Val.t ?_ | refine Val.d ?_ | refine Mm.mk ?_ | (refine Br.mk (fun h => ?_) (fun h => ?_) <;> first | (exfalso; omega; done) | (exfalso; simp at h; done) | skip))
    conv => whnf
    refine CallVC.mk [] _ _ _ rfl rfl rfl (v1) (fun r m' h' => ?_)
    obtain ⟨e, rfl, rfl, he⟩ := h'
    conv => whnf
    cases he.2 hC
    repeat' ((conv => whnf); first | refine Rng.g ?_ | refine Ob.g ?_ | refine Ob.e ?_ | refine Ob.m ?_ | refine Ob.mk (Nat.le_of_ble_eq_true rfl) ?_ | refine JoinVC.on ?_ | refine Nils.mk (fun h => ?_) ?_ | refine Val.t ?_ | refine Val.d ?_ | refine Mm.mk ?_ | (refine Br.mk (fun h => ?_) (fun h => ?_) <;> first | (exfalso; omega; done) | (exfalso; simp at h; done) | skip))
    conv => whnf
    refine CallVC.mk [] _ _ _ rfl rfl rfl (v2) (fun r m' h' => ?_)
    obtain ⟨e, rfl, rfl, he'⟩ := h'
    conv => whnf
    have he0 : e ≠ 0 := fun h0 => hP (he'.1 h0)
    repeat' ((conv => whnf); first | refine Rng.g ?_ | refine Ob.g ?_ | refine Ob.e ?_ | refine Ob.m ?_ | refine Ob.mk (Nat.le_of_ble_eq_true rfl) ?_ | refine JoinVC.on ?_ | refine Nils.mk (fun h => ?_) ?_ | refine Val.t ?_ | refine Val.d ?_ | refine Mm.mk ?_ | (refine Br.mk (fun h => ?_) (fun h => ?_) <;> first | (exfalso; omega; done) | (exfalso; simp at h; done) | skip))
    repeat refine Mm.mk ?_
    conv => whnf
    refine EndVC.mk _ rfl _ _ (.inl ⟨e, fun h => hP h.2, he0, rfl, rfl⟩) ?_
    refine ⟨[], rfl, rfl, ?_, ?_⟩ <;> repeat' (first | exact trivial | exact rfl | exact Iff.rfl | apply And.intro)
  replace hP := Classical.not_not.1 hP
  have hb1 := hC.per
  refine spec_of pMix (O := []) Tryz.func135 (c := bodyOf Tryz.f135) rfl (by kernel_rfl) (by kernel_rfl) Tryz.ntmps135 (res := [.tmp 4, .tmp 5]) (by kernel_rfl) ?_
  repeat' ((conv => whnf); first | refine Rng.g ?_ | refine Ob.g ?_ | refine Ob.e ?_ | refine Ob.m ?_ | refine Ob.mk (Nat.le_of_ble_eq_true rfl) ?_ | refine JoinVC.on ?_ | refine Nils.mk (fun h => ?_) ?_ | refine Val.t ?_ | refine Val.d ?_ | refine Mm.mk ?_ | (refine Br.mk (fun h => ?_) (fun h => ?_) <;> first | (exfalso; omega; done) | (exfalso; simp at h; done) | skip))
  conv => whnf
  refine CallVC.mk [] _ _ _ rfl rfl rfl (v1) (fun r m' h' => ?_)
  obtain ⟨e, rfl, rfl, he⟩ := h'
  conv => whnf
  cases he.2 hC
  repeat' ((conv => whnf); first | refine Rng.g ?_ | refine Ob.g ?_ | refine Ob.e ?_ | refine Ob.m ?_ | refine Ob.mk (Nat.le_of_ble_eq_true rfl) ?_ | refine JoinVC.on ?_ | refine Nils.mk (fun h => ?_) ?_ | refine Val.t ?_ | refine Val.d ?_ | refine Mm.mk ?_ | (refine Br.mk (fun h => ?_) (fun h => ?_) <;> first | (exfalso; omega; done) | (exfalso; simp at h; done) | skip))
  conv => whnf
  refine CallVC.mk [] _ _ _ rfl rfl rfl (v2) (fun r m' h' => ?_)
  obtain ⟨e, rfl, rfl, he'⟩ := h'
  conv => whnf
  cases he'.2 hP
  repeat' ((conv => whnf); first | refine Rng.g ?_ | refine Ob.g ?_ | refine Ob.e ?_ | refine Ob.m ?_ | refine Ob.mk (Nat.le_of_ble_eq_true rfl) ?_ | refine JoinVC.on ?_ | refine Nils.mk (fun h => ?_) ?_ | refine Val.t ?_ | refine Val.d ?_ | refine Mm.mk ?_ | (refine Br.mk (fun h => ?_) (fun h => ?_) <;> first | (exfalso; omega; done) | (exfalso; simp at h; done) | skip))
  repeat refine Mm.mk ?_
  conv => whnf
  refine EndVC.mk _ rfl _ _ (.inr ⟨hC, hP, rfl, rfl⟩) ?_
  refine ⟨[some 1], rfl, rfl, ?_, ?_⟩ <;> repeat' (first | exact trivial | exact rfl | exact Iff.rfl | apply And.intro)
/-! ### What a rule says at a sample -/
@[reducible] def Edg.x (e : Edg) : XV := .agg [.int .i64 e.rule, .int .i64 e.pos, .int .i64 e.fr, .int .i64 e.to, .int .i64 e.w]
@[reducible] def xB (p : Prop) [Decidable p] : XV := .one (.prp p inferInstance)
theorem pt_cells (p : List Smp) (i : Nat) : rI (smpA p) (i : Int).toNat 0 = (p.getD i s0).l ∧ rI (smpA p) (i : Int).toNat (0 + 1) = (p.getD i s0).r := by
  rw [Int.toNat_natCast]
  exact ⟨smpA_l p i, smpA_r p i⟩
@[reducible] def edSp (b : Blnk) (p : List Smp) (i : Nat) (rule : Int) (e : XV) (k : XV) : Prop := HSpec Tryz.prog 248 [.one (.ptr 0 0), I rule, I (i : Int)] [bSd b p] (fun r m' => r = .tup [e, k] ∧ m' = [some (bSd b p)])
theorem s248R (b : Blnk) (p : List Smp) (hb : BlnkOK b) (hp : PtB p) (i : Nat) (hi : i < p.length) : edSp b p i 1 (eR b p i).x (.one .tt) := by
  have lp := smpA_len p
  have hl := hp.len
  obtain ⟨c1, c2⟩ := pt_cells p i
  have h1 := hp.each i hi
  have h2 := hb.rim
  refine spec_of pMix (O := [(8, ([], [⟨0, [], []⟩, ⟨1, [], []⟩, ⟨2, [], []⟩, ⟨3, [], []⟩, ⟨4, [], []⟩, ⟨5, [], []⟩, ⟨6, [], []⟩, ⟨7, [], []⟩, ⟨8, [], []⟩, ⟨9, [0, 1, 2, 3, 4, 5, 6, 7], []⟩, ⟨10, [], []⟩, ⟨11, [], []⟩])), (10, ([], [⟨0, [], []⟩, ⟨1, [], []⟩, ⟨2, [], []⟩, ⟨3, [], []⟩, ⟨4, [], []⟩, ⟨5, [], []⟩, ⟨6, [], []⟩, ⟨7, [], []⟩, ⟨8, [], []⟩, ⟨9, [0, 1, 2, 3, 4, 5, 6, 7], []⟩, ⟨10, [], []⟩, ⟨11, [], []⟩])), (12, ([], [⟨0, [], []⟩, ⟨1, [], []⟩, ⟨2, [], []⟩, ⟨3, [], []⟩, ⟨4, [], []⟩, ⟨5, [], []⟩, ⟨6, [], []⟩, ⟨7, [], []⟩, ⟨8, [], []⟩, ⟨9, [2, 3, 4, 5, 6, 7], []⟩, ⟨10, [], []⟩, ⟨11, [], []⟩])), (15, ([], [⟨0, [], []⟩, ⟨1, [], []⟩, ⟨2, [], []⟩, ⟨3, [], []⟩, ⟨4, [], []⟩, ⟨5, [], []⟩, ⟨6, [], []⟩, ⟨7, [], []⟩, ⟨8, [2, 3, 4, 5, 6], []⟩, ⟨9, [], []⟩, ⟨10, [], []⟩])), (20, ([], [⟨0, [], []⟩, ⟨1, [], []⟩, ⟨2, [], []⟩, ⟨3, [], []⟩, ⟨4, [], []⟩, ⟨5, [], []⟩, ⟨6, [], []⟩, ⟨7, [], []⟩, ⟨8, [], []⟩, ⟨9, [], []⟩, ⟨10, [], []⟩, ⟨11, [], []⟩, ⟨12, [], []⟩, ⟨13, [], []⟩, ⟨14, [], []⟩, ⟨15, [], []⟩, ⟨16, [], []⟩, ⟨17, [], []⟩, ⟨18, [], []⟩, ⟨19, [], []⟩, ⟨20, [], []⟩, ⟨21, [], []⟩, ⟨22, [], []⟩, ⟨23, [], []⟩, ⟨24, [], []⟩, ⟨25, [], []⟩, ⟨26, [], []⟩, ⟨27, [], []⟩, ⟨28, [], []⟩, ⟨29, [6, 7, 8, 9, 10, 11, 12, 13, 14, 15, 16, 17, 18, 19, 20, 21, 22, 23, 24, 25, 26, 27], []⟩, ⟨30, [], []⟩, ⟨31, [], []⟩]))]) Tryz.func248 (c := bodyOf Tryz.f248) rfl (by kernel_rfl) (by kernel_rfl) Tryz.ntmps248 (res := [.cell 6 385, .tmp 7]) (by kernel_rfl) ?_
  repeat' ((conv => whnf); first | rw [c1] | rw [c2] | refine Rng.g ?_ | refine Ob.g ?_ | refine Ob.e ?_ | refine Ob.m ?_ | refine Ob.mk (Nat.le_of_ble_eq_true rfl) ?_ | refine JoinVC.on ?_ | refine Nils.mk (fun h => ?_) ?_ | refine Val.t ?_ | refine Val.d ?_ | refine Mm.mk ?_ | (refine Br.mk (fun h => ?_) (fun h => ?_) <;> first | (exfalso; omega; done) | (exfalso; simp at h; done) | skip))
  repeat refine Mm.mk ?_
  refine EndVC.mk _ rfl _ _ ⟨rfl, rfl⟩ ?_
  refine ⟨[some 0], rfl, rfl, ?_, ?_⟩ <;> repeat' (first | exact trivial | exact rfl | exact Iff.rfl | apply And.intro)
theorem s248C (b : Blnk) (p : List Smp) (hb : BlnkOK b) (hp : PtB p) (i : Nat) (hi : i < p.length) : edSp b p i 2 (eC b p i).x (.one .tt) := by
  have lp := smpA_len p
  have hl := hp.len
  obtain ⟨c1, c2⟩ := pt_cells p i
  have h1 := hp.each i hi
  have h2 := hb.core
  have h3 := hb.rim
  refine spec_of pMix (O := [(8, ([], [⟨0, [], []⟩, ⟨1, [], []⟩, ⟨2, [], []⟩, ⟨3, [], []⟩, ⟨4, [], []⟩, ⟨5, [], []⟩, ⟨6, [], []⟩, ⟨7, [], []⟩, ⟨8, [], []⟩, ⟨9, [0, 1, 2, 3, 4, 5, 6, 7], []⟩, ⟨10, [], []⟩, ⟨11, [], []⟩])), (10, ([], [⟨0, [], []⟩, ⟨1, [], []⟩, ⟨2, [], []⟩, ⟨3, [], []⟩, ⟨4, [], []⟩, ⟨5, [], []⟩, ⟨6, [], []⟩, ⟨7, [], []⟩, ⟨8, [], []⟩, ⟨9, [0, 1, 2, 3, 4, 5, 6, 7], []⟩, ⟨10, [], []⟩, ⟨11, [], []⟩])), (12, ([], [⟨0, [], []⟩, ⟨1, [], []⟩, ⟨2, [], []⟩, ⟨3, [], []⟩, ⟨4, [], []⟩, ⟨5, [], []⟩, ⟨6, [], []⟩, ⟨7, [], []⟩, ⟨8, [], []⟩, ⟨9, [2, 3, 4, 5, 6, 7], []⟩, ⟨10, [], []⟩, ⟨11, [], []⟩])), (15, ([], [⟨0, [], []⟩, ⟨1, [], []⟩, ⟨2, [], []⟩, ⟨3, [], []⟩, ⟨4, [], []⟩, ⟨5, [], []⟩, ⟨6, [], []⟩, ⟨7, [], []⟩, ⟨8, [2, 3, 4, 5, 6], []⟩, ⟨9, [], []⟩, ⟨10, [], []⟩])), (20, ([], [⟨0, [], []⟩, ⟨1, [], []⟩, ⟨2, [], []⟩, ⟨3, [], []⟩, ⟨4, [], []⟩, ⟨5, [], []⟩, ⟨6, [], []⟩, ⟨7, [], []⟩, ⟨8, [], []⟩, ⟨9, [], []⟩, ⟨10, [], []⟩, ⟨11, [], []⟩, ⟨12, [], []⟩, ⟨13, [], []⟩, ⟨14, [], []⟩, ⟨15, [], []⟩, ⟨16, [], []⟩, ⟨17, [], []⟩, ⟨18, [], []⟩, ⟨19, [], []⟩, ⟨20, [], []⟩, ⟨21, [], []⟩, ⟨22, [], []⟩, ⟨23, [], []⟩, ⟨24, [], []⟩, ⟨25, [], []⟩, ⟨26, [], []⟩, ⟨27, [], []⟩, ⟨28, [], []⟩, ⟨29, [6, 7, 8, 9, 10, 11, 12, 13, 14, 15, 16, 17, 18, 19, 20, 21, 22, 23, 24, 25, 26, 27], []⟩, ⟨30, [], []⟩, ⟨31, [], []⟩]))]) Tryz.func248 (c := bodyOf Tryz.f248) rfl (by kernel_rfl) (by kernel_rfl) Tryz.ntmps248 (res := [.cell 6 385, .tmp 7]) (by kernel_rfl) ?_
  repeat' ((conv => whnf); first | rw [c1] | rw [c2] | refine Rng.g ?_ | refine Ob.g ?_ | refine Ob.e ?_ | refine Ob.m ?_ | refine Ob.mk (Nat.le_of_ble_eq_true rfl) ?_ | refine JoinVC.on ?_ | refine Nils.mk (fun h => ?_) ?_ | refine Val.t ?_ | refine Val.d ?_ | refine Mm.mk ?_ | (refine Br.mk (fun h => ?_) (fun h => ?_) <;> first | (exfalso; omega; done) | (exfalso; simp at h; done) | skip))
  repeat refine Mm.mk ?_
  refine EndVC.mk _ rfl _ _ ⟨rfl, rfl⟩ ?_
  refine ⟨[some 0], rfl, rfl, ?_, ?_⟩ <;> repeat' (first | exact trivial | exact rfl | exact Iff.rfl | apply And.intro)
theorem s248S (b : Blnk) (p : List Smp) (hb : BlnkOK b) (hp : PtB p) (i : Nat) (hi : i < p.length) : edSp b p i 3 (eS b i).x (xB ((i : Int) > 0)) := by
  have lp := smpA_len p
  have hl := hp.len
  have h2 := hb.slow
  have h3 := hb.fast
  refine spec_of pMix (O := [(8, ([], [⟨0, [], []⟩, ⟨1, [], []⟩, ⟨2, [], []⟩, ⟨3, [], []⟩, ⟨4, [], []⟩, ⟨5, [], []⟩, ⟨6, [], []⟩, ⟨7, [], []⟩, ⟨8, [], []⟩, ⟨9, [0, 1, 2, 3, 4, 5, 6, 7], []⟩, ⟨10, [], []⟩, ⟨11, [], []⟩])), (10, ([], [⟨0, [], []⟩, ⟨1, [], []⟩, ⟨2, [], []⟩, ⟨3, [], []⟩, ⟨4, [], []⟩, ⟨5, [], []⟩, ⟨6, [], []⟩, ⟨7, [], []⟩, ⟨8, [], []⟩, ⟨9, [0, 1, 2, 3, 4, 5, 6, 7], []⟩, ⟨10, [], []⟩, ⟨11, [], []⟩])), (12, ([], [⟨0, [], []⟩, ⟨1, [], []⟩, ⟨2, [], []⟩, ⟨3, [], []⟩, ⟨4, [], []⟩, ⟨5, [], []⟩, ⟨6, [], []⟩, ⟨7, [], []⟩, ⟨8, [], []⟩, ⟨9, [2, 3, 4, 5, 6, 7], []⟩, ⟨10, [], []⟩, ⟨11, [], []⟩])), (15, ([], [⟨0, [], []⟩, ⟨1, [], []⟩, ⟨2, [], []⟩, ⟨3, [], []⟩, ⟨4, [], []⟩, ⟨5, [], []⟩, ⟨6, [], []⟩, ⟨7, [], []⟩, ⟨8, [2, 3, 4, 5, 6], []⟩, ⟨9, [], []⟩, ⟨10, [], []⟩])), (20, ([], [⟨0, [], []⟩, ⟨1, [], []⟩, ⟨2, [], []⟩, ⟨3, [], []⟩, ⟨4, [], []⟩, ⟨5, [], []⟩, ⟨6, [], []⟩, ⟨7, [], []⟩, ⟨8, [], []⟩, ⟨9, [], []⟩, ⟨10, [], []⟩, ⟨11, [], []⟩, ⟨12, [], []⟩, ⟨13, [], []⟩, ⟨14, [], []⟩, ⟨15, [], []⟩, ⟨16, [], []⟩, ⟨17, [], []⟩, ⟨18, [], []⟩, ⟨19, [], []⟩, ⟨20, [], []⟩, ⟨21, [], []⟩, ⟨22, [], []⟩, ⟨23, [], []⟩, ⟨24, [], []⟩, ⟨25, [], []⟩, ⟨26, [], []⟩, ⟨27, [], []⟩, ⟨28, [], []⟩, ⟨29, [6, 7, 8, 9, 10, 11, 12, 13, 14, 15, 16, 17, 18, 19, 20, 21, 22, 23, 24, 25, 26, 27], []⟩, ⟨30, [], []⟩, ⟨31, [], []⟩]))]) Tryz.func248 (c := bodyOf Tryz.f248) rfl (by kernel_rfl) (by kernel_rfl) Tryz.ntmps248 (res := [.cell 6 385, .tmp 7]) (by kernel_rfl) ?_
  repeat' ((conv => whnf); first | refine Rng.g ?_ | refine Ob.g ?_ | refine Ob.e ?_ | refine Ob.m ?_ | refine Ob.mk (Nat.le_of_ble_eq_true rfl) ?_ | refine JoinVC.on ?_ | refine Nils.mk (fun h => ?_) ?_ | refine Val.t ?_ | refine Val.d ?_ | refine Mm.mk ?_ | (refine Br.mk (fun h => ?_) (fun h => ?_) <;> first | (exfalso; omega; done) | (exfalso; simp at h; done) | skip))
  repeat refine Mm.mk ?_
  refine EndVC.mk _ rfl _ _ ⟨rfl, rfl⟩ ?_
  refine ⟨[some 0], rfl, rfl, ?_, ?_⟩ <;> repeat' (first | exact trivial | exact rfl | exact Iff.rfl | apply And.intro)
  exact Int.zero_sub _
theorem s248F (b : Blnk) (p : List Smp) (hb : BlnkOK b) (hp : PtB p) (i : Nat) (hi : i < p.length) : edSp b p i 4 (eF b i).x (xB ((i : Int) > 0)) := by
  have lp := smpA_len p
  have hl := hp.len
  have h3 := hb.fast
  refine spec_of pMix (O := [(8, ([], [⟨0, [], []⟩, ⟨1, [], []⟩, ⟨2, [], []⟩, ⟨3, [], []⟩, ⟨4, [], []⟩, ⟨5, [], []⟩, ⟨6, [], []⟩, ⟨7, [], []⟩, ⟨8, [], []⟩, ⟨9, [0, 1, 2, 3, 4, 5, 6, 7], []⟩, ⟨10, [], []⟩, ⟨11, [], []⟩])), (10, ([], [⟨0, [], []⟩, ⟨1, [], []⟩, ⟨2, [], []⟩, ⟨3, [], []⟩, ⟨4, [], []⟩, ⟨5, [], []⟩, ⟨6, [], []⟩, ⟨7, [], []⟩, ⟨8, [], []⟩, ⟨9, [0, 1, 2, 3, 4, 5, 6, 7], []⟩, ⟨10, [], []⟩, ⟨11, [], []⟩])), (12, ([], [⟨0, [], []⟩, ⟨1, [], []⟩, ⟨2, [], []⟩, ⟨3, [], []⟩, ⟨4, [], []⟩, ⟨5, [], []⟩, ⟨6, [], []⟩, ⟨7, [], []⟩, ⟨8, [], []⟩, ⟨9, [2, 3, 4, 5, 6, 7], []⟩, ⟨10, [], []⟩, ⟨11, [], []⟩])), (15, ([], [⟨0, [], []⟩, ⟨1, [], []⟩, ⟨2, [], []⟩, ⟨3, [], []⟩, ⟨4, [], []⟩, ⟨5, [], []⟩, ⟨6, [], []⟩, ⟨7, [], []⟩, ⟨8, [2, 3, 4, 5, 6], []⟩, ⟨9, [], []⟩, ⟨10, [], []⟩])), (20, ([], [⟨0, [], []⟩, ⟨1, [], []⟩, ⟨2, [], []⟩, ⟨3, [], []⟩, ⟨4, [], []⟩, ⟨5, [], []⟩, ⟨6, [], []⟩, ⟨7, [], []⟩, ⟨8, [], []⟩, ⟨9, [], []⟩, ⟨10, [], []⟩, ⟨11, [], []⟩, ⟨12, [], []⟩, ⟨13, [], []⟩, ⟨14, [], []⟩, ⟨15, [], []⟩, ⟨16, [], []⟩, ⟨17, [], []⟩, ⟨18, [], []⟩, ⟨19, [], []⟩, ⟨20, [], []⟩, ⟨21, [], []⟩, ⟨22, [], []⟩, ⟨23, [], []⟩, ⟨24, [], []⟩, ⟨25, [], []⟩, ⟨26, [], []⟩, ⟨27, [], []⟩, ⟨28, [], []⟩, ⟨29, [6, 7, 8, 9, 10, 11, 12, 13, 14, 15, 16, 17, 18, 19, 20, 21, 22, 23, 24, 25, 26, 27], []⟩, ⟨30, [], []⟩, ⟨31, [], []⟩]))]) Tryz.func248 (c := bodyOf Tryz.f248) rfl (by kernel_rfl) (by kernel_rfl) Tryz.ntmps248 (res := [.cell 6 385, .tmp 7]) (by kernel_rfl) ?_
  repeat' ((conv => whnf); first | refine Rng.g ?_ | refine Ob.g ?_ | refine Ob.e ?_ | refine Ob.m ?_ | refine Ob.mk (Nat.le_of_ble_eq_true rfl) ?_ | refine JoinVC.on ?_ | refine Nils.mk (fun h => ?_) ?_ | refine Val.t ?_ | refine Val.d ?_ | refine Mm.mk ?_ | (refine Br.mk (fun h => ?_) (fun h => ?_) <;> first | (exfalso; omega; done) | (exfalso; simp at h; done) | skip))
  repeat refine Mm.mk ?_
  refine EndVC.mk _ rfl _ _ ⟨rfl, rfl⟩ ?_
  refine ⟨[some 0], rfl, rfl, ?_, ?_⟩ <;> repeat' (first | exact trivial | exact rfl | exact Iff.rfl | apply And.intro)
theorem s248N (b : Blnk) (p : List Smp) (hb : BlnkOK b) (hp : PtB p) (i : Nat) (hi : i < p.length) (hn : (i : Int) < b.per) : edSp b p i 5 (⟨5, i, i, i, 0⟩ : Edg).x (.one .ff) := by
  have lp := smpA_len p
  have hl := hp.len
  have h3 := hb.per
  refine spec_of pMix (O := [(8, ([], [⟨0, [], []⟩, ⟨1, [], []⟩, ⟨2, [], []⟩, ⟨3, [], []⟩, ⟨4, [], []⟩, ⟨5, [], []⟩, ⟨6, [], []⟩, ⟨7, [], []⟩, ⟨8, [], []⟩, ⟨9, [0, 1, 2, 3, 4, 5, 6, 7], []⟩, ⟨10, [], []⟩, ⟨11, [], []⟩])), (10, ([], [⟨0, [], []⟩, ⟨1, [], []⟩, ⟨2, [], []⟩, ⟨3, [], []⟩, ⟨4, [], []⟩, ⟨5, [], []⟩, ⟨6, [], []⟩, ⟨7, [], []⟩, ⟨8, [], []⟩, ⟨9, [0, 1, 2, 3, 4, 5, 6, 7], []⟩, ⟨10, [], []⟩, ⟨11, [], []⟩])), (12, ([], [⟨0, [], []⟩, ⟨1, [], []⟩, ⟨2, [], []⟩, ⟨3, [], []⟩, ⟨4, [], []⟩, ⟨5, [], []⟩, ⟨6, [], []⟩, ⟨7, [], []⟩, ⟨8, [], []⟩, ⟨9, [2, 3, 4, 5, 6, 7], []⟩, ⟨10, [], []⟩, ⟨11, [], []⟩])), (15, ([], [⟨0, [], []⟩, ⟨1, [], []⟩, ⟨2, [], []⟩, ⟨3, [], []⟩, ⟨4, [], []⟩, ⟨5, [], []⟩, ⟨6, [], []⟩, ⟨7, [], []⟩, ⟨8, [2, 3, 4, 5, 6], []⟩, ⟨9, [], []⟩, ⟨10, [], []⟩])), (20, ([], [⟨0, [], []⟩, ⟨1, [], []⟩, ⟨2, [], []⟩, ⟨3, [], []⟩, ⟨4, [], []⟩, ⟨5, [], []⟩, ⟨6, [], []⟩, ⟨7, [], []⟩, ⟨8, [], []⟩, ⟨9, [], []⟩, ⟨10, [], []⟩, ⟨11, [], []⟩, ⟨12, [], []⟩, ⟨13, [], []⟩, ⟨14, [], []⟩, ⟨15, [], []⟩, ⟨16, [], []⟩, ⟨17, [], []⟩, ⟨18, [], []⟩, ⟨19, [], []⟩, ⟨20, [], []⟩, ⟨21, [], []⟩, ⟨22, [], []⟩, ⟨23, [], []⟩, ⟨24, [], []⟩, ⟨25, [], []⟩, ⟨26, [], []⟩, ⟨27, [], []⟩, ⟨28, [], []⟩, ⟨29, [6, 7, 8, 9, 10, 11, 12, 13, 14, 15, 16, 17, 18, 19, 20, 21, 22, 23, 24, 25, 26, 27], []⟩, ⟨30, [], []⟩, ⟨31, [], []⟩]))]) Tryz.func248 (c := bodyOf Tryz.f248) rfl (by kernel_rfl) (by kernel_rfl) Tryz.ntmps248 (res := [.cell 6 385, .tmp 7]) (by kernel_rfl) ?_
  repeat' ((conv => whnf); first | refine Rng.g ?_ | refine Ob.g ?_ | refine Ob.e ?_ | refine Ob.m ?_ | refine Ob.mk (Nat.le_of_ble_eq_true rfl) ?_ | refine JoinVC.on ?_ | refine Nils.mk (fun h => ?_) ?_ | refine Val.t ?_ | refine Val.d ?_ | refine Mm.mk ?_ | (refine Br.mk (fun h => ?_) (fun h => ?_) <;> first | (exfalso; omega; done) | (exfalso; simp at h; done) | skip))
  repeat refine Mm.mk ?_
  refine EndVC.mk _ rfl _ _ ⟨rfl, rfl⟩ ?_
  refine ⟨[some 0], rfl, rfl, ?_, ?_⟩ <;> repeat' (first | exact trivial | exact rfl | exact Iff.rfl | apply And.intro)
theorem s248L (b : Blnk) (p : List Smp) (hb : BlnkOK b) (hp : PtB p) (i : Nat) (hi : i < p.length) (hn : b.per ≤ (i : Int)) : edSp b p i 5 (eL b p i).x (.one .tt) := by
  have lp := smpA_len p
  have hl := hp.len
  obtain ⟨c1, c2⟩ := pt_cells p i
  have h1 := hp.each i hi
  have h4 := hb.per
  have h3 := hb.land
  have h2 := hp.each ((i : Int) - b.per).toNat (by omega)
  have c3 : rI (smpA p) ((i : Int) - b.per).toNat 0 = (p.getD ((i : Int) - b.per).toNat s0).l := smpA_l p _
  have c4 : rI (smpA p) ((i : Int) - b.per).toNat (0 + 0) = (p.getD ((i : Int) - b.per).toNat s0).l := smpA_l p _
  refine spec_of pMix (O := [(8, ([], [⟨0, [], []⟩, ⟨1, [], []⟩, ⟨2, [], []⟩, ⟨3, [], []⟩, ⟨4, [], []⟩, ⟨5, [], []⟩, ⟨6, [], []⟩, ⟨7, [], []⟩, ⟨8, [], []⟩, ⟨9, [0, 1, 2, 3, 4, 5, 6, 7], []⟩, ⟨10, [], []⟩, ⟨11, [], []⟩])), (10, ([], [⟨0, [], []⟩, ⟨1, [], []⟩, ⟨2, [], []⟩, ⟨3, [], []⟩, ⟨4, [], []⟩, ⟨5, [], []⟩, ⟨6, [], []⟩, ⟨7, [], []⟩, ⟨8, [], []⟩, ⟨9, [0, 1, 2, 3, 4, 5, 6, 7], []⟩, ⟨10, [], []⟩, ⟨11, [], []⟩])), (12, ([], [⟨0, [], []⟩, ⟨1, [], []⟩, ⟨2, [], []⟩, ⟨3, [], []⟩, ⟨4, [], []⟩, ⟨5, [], []⟩, ⟨6, [], []⟩, ⟨7, [], []⟩, ⟨8, [], []⟩, ⟨9, [2, 3, 4, 5, 6, 7], []⟩, ⟨10, [], []⟩, ⟨11, [], []⟩])), (15, ([], [⟨0, [], []⟩, ⟨1, [], []⟩, ⟨2, [], []⟩, ⟨3, [], []⟩, ⟨4, [], []⟩, ⟨5, [], []⟩, ⟨6, [], []⟩, ⟨7, [], []⟩, ⟨8, [2, 3, 4, 5, 6], []⟩, ⟨9, [], []⟩, ⟨10, [], []⟩])), (20, ([], [⟨0, [], []⟩, ⟨1, [], []⟩, ⟨2, [], []⟩, ⟨3, [], []⟩, ⟨4, [], []⟩, ⟨5, [], []⟩, ⟨6, [], []⟩, ⟨7, [], []⟩, ⟨8, [], []⟩, ⟨9, [], []⟩, ⟨10, [], []⟩, ⟨11, [], []⟩, ⟨12, [], []⟩, ⟨13, [], []⟩, ⟨14, [], []⟩, ⟨15, [], []⟩, ⟨16, [], []⟩, ⟨17, [], []⟩, ⟨18, [], []⟩, ⟨19, [], []⟩, ⟨20, [], []⟩, ⟨21, [], []⟩, ⟨22, [], []⟩, ⟨23, [], []⟩, ⟨24, [], []⟩, ⟨25, [], []⟩, ⟨26, [], []⟩, ⟨27, [], []⟩, ⟨28, [], []⟩, ⟨29, [6, 7, 8, 9, 10, 11, 12, 13, 14, 15, 16, 17, 18, 19, 20, 21, 22, 23, 24, 25, 26, 27], []⟩, ⟨30, [], []⟩, ⟨31, [], []⟩]))]) Tryz.func248 (c := bodyOf Tryz.f248) rfl (by kernel_rfl) (by kernel_rfl) Tryz.ntmps248 (res := [.cell 6 385, .tmp 7]) (by kernel_rfl) ?_
  repeat' ((conv => whnf); first | rw [c4] | rw [c3] | rw [c1] | rw [c2] | refine Rng.g ?_ | refine Ob.g ?_ | refine Ob.e ?_ | refine Ob.m ?_ | refine Ob.mk (Nat.le_of_ble_eq_true rfl) ?_ | refine JoinVC.on ?_ | refine Nils.mk (fun h => ?_) ?_ | refine Val.t ?_ | refine Val.d ?_ | refine Mm.mk ?_ | (refine Br.mk (fun h => ?_) (fun h => ?_) <;> first | (exfalso; omega; done) | (exfalso; simp at h; done) | skip))
  repeat refine Mm.mk ?_
  refine EndVC.mk _ rfl _ _ ⟨rfl, rfl⟩ ?_
  refine ⟨[some 0], rfl, rfl, ?_, ?_⟩ <;> repeat' (first | exact trivial | exact rfl | exact Iff.rfl | apply And.intro)
end Go.Sx


namespace Go.Sx
open Go Go.Proofs
set_option maxRecDepth 10000
set_option maxHeartbeats 8000000
theorem i64s_upd (xs : List Int) (i : Nat) (v : Int) (h : i < xs.length) : updRow (i64s xs) i 0 [.int v] = i64s (xs.set i v) := by
  unfold updRow i64s
  rw [List.map_set]
  congr 1
  simp [List.getD_eq_getElem?_getD, h, setAll]
def Edg.row (e : Edg) : List Cell := [.int e.rule, .int e.pos, .int e.fr, .int e.to, .int e.w]
def edgA (P : List Edg) : Arr := P.map Edg.row
theorem edgA_len (P : List Edg) : (edgA P).length = P.length := by simp [edgA]
theorem edgA_0 (P : List Edg) (i : Nat) : rI (edgA P) i 0 = (P.getD i e0).rule := map_rI _ e0 P i 0 rfl
theorem edgA_1 (P : List Edg) (i : Nat) : rI (edgA P) i (0 + 1) = (P.getD i e0).pos := map_rI _ e0 P i 1 rfl
theorem edgA_2 (P : List Edg) (i : Nat) : rI (edgA P) i (0 + 1 + 1) = (P.getD i e0).fr := map_rI _ e0 P i 2 rfl
theorem edgA_3 (P : List Edg) (i : Nat) : rI (edgA P) i (0 + 1 + 1 + 1) = (P.getD i e0).to := map_rI _ e0 P i 3 rfl
theorem edgA_4 (P : List Edg) (i : Nat) : rI (edgA P) i (0 + 1 + 1 + 1 + 1) = (P.getD i e0).w := map_rI _ e0 P i 4 rfl
theorem edgA_set (P : List Edg) (i : Nat) (e : Edg) (h : i < P.length) : updRow (edgA P) i 0 e.row = edgA (P.set i e) := by
  unfold updRow edgA
  rw [List.map_set]
  congr 1
  simp [List.getD_eq_getElem?_getD, h, setAll, Edg.row]
@[reducible] def KE : List CK := [.int .i64, .int .i64, .int .i64, .int .i64, .int .i64]
@[reducible] def rowEd (P : List Edg) : Blk := .row 385 false KE (edgA P)
@[reducible] def rowRd (R : List Int) : Blk := .row 2 false [.int .i64] (i64s R)
theorem i64s_rep (n : Nat) : List.replicate n [Cell.int 0] = i64s (List.replicate n 0) := by simp [i64s]
theorem edgA_rep (n : Nat) : List.replicate n [Cell.int 0, Cell.int 0, Cell.int 0, Cell.int 0, Cell.int 0] = edgA (List.replicate n e0) := by simp [edgA, Edg.row]
/-! ### The steps of a proof -/
@[reducible] def rowT (A : Arr) : Blk := .row 363 false [.int .i64, .int .i64] A
theorem eb363 : Tryz.t363.bytes = 16 := by kernel_rfl
theorem upd_len (a : Arr) (i f : Nat) (cs : List Cell) : (updRow a i f cs).length = a.length := by simp [updRow]
theorem s305 (A : Arr) (hl : A.length ≤ 1000000000) : HSpec Tryz.prog 305 [.one (.own 0)] [rowT A] (fun r m' => ∃ A' : Arr, A'.length = A.length ∧ r = .tup [] ∧ m' = [some (rowT A')]) := by
  refine spec_of pMix (O := [(3, ([], [⟨0, [], []⟩, ⟨1, [], []⟩, ⟨2, [], []⟩, ⟨3, [], []⟩, ⟨4, [], []⟩, ⟨5, [], []⟩, ⟨6, [], []⟩, ⟨7, [], []⟩, ⟨8, [], []⟩, ⟨9, [], []⟩, ⟨10, [], []⟩, ⟨11, [], []⟩, ⟨12, [], []⟩, ⟨13, [2, 3], []⟩, ⟨14, [], []⟩, ⟨15, [], []⟩]))]) Tryz.func305 (c := bodyOf Tryz.f305) rfl (by kernel_rfl) (by kernel_rfl) Tryz.ntmps305 (res := []) (by kernel_rfl) ?_
  repeat' ((conv => whnf); first | refine Rng.g ?_ | refine Ob.g ?_ | refine Ob.e ?_ | refine Ob.m ?_ | refine Ob.mk (Nat.le_of_ble_eq_true rfl) ?_ | refine JoinVC.on ?_ | refine Nils.mk (fun h => ?_) ?_ | refine Val.t ?_ | refine Val.d ?_ | refine Mm.mk ?_ | (refine Br.mk (fun h => ?_) (fun h => ?_) <;> first | (exfalso; omega; done) | (exfalso; simp at h; done) | skip))
  refine LoopVC.mk (fun n st => ∃ (i j : Int) (B : Arr), B.length = A.length ∧ 0 ≤ i ∧ i ≤ A.length ∧ j = (A.length : Int) - 1 - i ∧ n = (j - i + 2).toNat ∧ st = ⟨1, envA 28 [(0, .x (.one (.own 0))), (2, .int .i64 i), (3, .int .i64 j)], [some (rowT B)]⟩) _ _ ⟨0, (A.length : Int) - 1, A, rfl, by omega, by omega, by omega, rfl, rfl⟩ ?_ ?_
  · refine ⟨[some 0], rfl, rfl, ?_, ?_⟩ <;> repeat' (first | exact trivial | exact rfl | exact Iff.rfl | apply And.intro)
  rintro n _ ⟨i, j, B, lB, hi, hi2, hj, hn, rfl⟩
  by_cases h1 : i < j
  · have l1 := upd_len B i.toNat 0 [Cell.int (rI B j.toNat 0), Cell.int (rI B j.toNat (0 + 1))]
    repeat' ((conv => whnf); first | refine Rng.g ?_ | refine Ob.g ?_ | refine Ob.e ?_ | refine Ob.m ?_ | refine Ob.mk (Nat.le_of_ble_eq_true rfl) ?_ | refine JoinVC.on ?_ | refine Nils.mk (fun h => ?_) ?_ | refine Val.t ?_ | refine Val.d ?_ | refine Mm.mk ?_ | (refine Br.mk (fun h => ?_) (fun h => ?_) <;> first | (exfalso; omega; done) | (exfalso; simp at h; done) | skip))
    refine Back.mk (j - 1 - (i + 1) + 2).toNat _ (by omega) ⟨i + 1, j - 1, updRow (updRow B i.toNat 0 [Cell.int (rI B j.toNat 0), Cell.int (rI B j.toNat (0 + 1))]) j.toNat 0 [Cell.int (rI B i.toNat 0), Cell.int (rI B i.toNat (0 + 1))], by rw [upd_len, upd_len]; exact lB, by omega, by omega, by omega, rfl, rfl⟩ ?_
    refine ⟨[some 0], rfl, rfl, ?_, ?_⟩ <;> repeat' (first | exact trivial | exact rfl | exact Iff.rfl | apply And.intro)
  · repeat' ((conv => whnf); first | refine Rng.g ?_ | refine Ob.g ?_ | refine Ob.e ?_ | refine Ob.m ?_ | refine Ob.mk (Nat.le_of_ble_eq_true rfl) ?_ | refine JoinVC.on ?_ | refine Nils.mk (fun h => ?_) ?_ | refine Val.t ?_ | refine Val.d ?_ | refine Mm.mk ?_ | (refine Br.mk (fun h => ?_) (fun h => ?_) <;> first | (exfalso; omega; done) | (exfalso; simp at h; done) | skip))
    repeat refine Mm.mk ?_
    conv => whnf
    refine EndVC.mk _ rfl _ _ (⟨B, lB, rfl, rfl⟩) ?_
    refine ⟨[some 0], rfl, rfl, ?_, ?_⟩ <;> repeat' (first | exact trivial | exact rfl | exact Iff.rfl | apply And.intro)
@[reducible] def bxE (P : List Edg) (q : Nat) : Blk := .box 385 [.int .i64 (rI (edgA P) (q : Int).toNat 0), .int .i64 (rI (edgA P) (q : Int).toNat (0 + 1)), .int .i64 (rI (edgA P) (q : Int).toNat (0 + 1 + 1)), .int .i64 (rI (edgA P) (q : Int).toNat (0 + 1 + 1 + 1)), .int .i64 (rI (edgA P) (q : Int).toNat (0 + 1 + 1 + 1 + 1))]
/-- The steps of a circle. -/
theorem s250 (P : List Edg) (v : Nat) (hl : P.length ≤ 4096) (hc : Circ P.length P v) : HSpec Tryz.prog 250 [.one (.lst true KE (edgA P)), I (v : Int)] [] (fun r m' => ∃ A : Arr, 0 < A.length ∧ r = .x (.one (.own 0)) ∧ m' = [some (rowT A)]) := by
  have lp := edgA_len P
  refine spec_of pMix (O := []) Tryz.func250 (c := bodyOf Tryz.f250) rfl (by kernel_rfl) (by kernel_rfl) Tryz.ntmps250 (res := [.tmp 4]) (by kernel_rfl) ?_
  repeat' ((conv => whnf); first | refine Rng.g ?_ | refine Ob.g ?_ | refine Ob.e ?_ | refine Ob.m ?_ | refine Ob.mk (Nat.le_of_ble_eq_true rfl) ?_ | refine JoinVC.on ?_ | refine Nils.mk (fun h => ?_) ?_ | refine Val.t ?_ | refine Val.d ?_ | refine Mm.mk ?_ | (refine Br.mk (fun h => ?_) (fun h => ?_) <;> first | (exfalso; omega; done) | (exfalso; simp at h; done) | skip))
  refine LoopVC.mk (fun m st => ∃ (k : Nat), k ≤ P.length ∧ m = P.length - k ∧ st = ⟨0, envA 39 [(0, .x (.one (.lst true KE (edgA P)))), (1, .int .i64 (itr P v k : Nat)), (8, .int .i64 (P.length : Int)), (9, .int .i64 (k : Int))], []⟩) _ _ ⟨0, Nat.zero_le _, rfl, rfl⟩ ?_ ?_
  · refine ⟨[], rfl, rfl, ?_, ?_⟩ <;> repeat' (first | exact trivial | exact rfl | exact Iff.rfl | apply And.intro)
    all_goals exact congrArg Int.ofNat lp
  rintro m _ ⟨k, hk, hm, rfl⟩
  obtain ⟨e1, e2⟩ := hc.each k
  have gf : rI (edgA P) ((itr P v k : Nat) : Int).toNat (0 + (0 + 1 + 1)) = ((itr P v (k + 1) : Nat) : Int) := by rw [Int.toNat_natCast]; exact (edgA_2 P _).trans e2
  by_cases hk' : k < P.length
  · repeat' ((conv => whnf); first | rw [gf] | refine Rng.g ?_ | refine Ob.g ?_ | refine Ob.e ?_ | refine Ob.m ?_ | refine Ob.mk (Nat.le_of_ble_eq_true rfl) ?_ | refine JoinVC.on ?_ | refine Nils.mk (fun h => ?_) ?_ | refine Val.t ?_ | refine Val.d ?_ | refine Mm.mk ?_ | (refine Br.mk (fun h => ?_) (fun h => ?_) <;> first | (exfalso; omega; done) | (exfalso; simp at h; done) | skip))
    refine Back.mk (P.length - (k + 1)) _ (by omega) ⟨k + 1, by omega, rfl, rfl⟩ ?_
    refine ⟨[], rfl, rfl, ?_, ?_⟩ <;> repeat' (first | exact trivial | exact rfl | exact Iff.rfl | apply And.intro)
  have ek : k = P.length := by omega
  clear gf e1 e2
  subst ek
  obtain ⟨c, hc1, hc2, hcb⟩ := hc.back
  obtain ⟨z, hz⟩ : ∃ z, itr P v P.length = z := ⟨_, rfl⟩
  have hzl : z < P.length := hz ▸ (hc.each P.length).1
  repeat' ((conv => whnf); first | rw [hz] | refine Rng.g ?_ | refine Ob.g ?_ | refine Ob.e ?_ | refine Ob.m ?_ | refine Ob.mk (Nat.le_of_ble_eq_true rfl) ?_ | refine JoinVC.on ?_ | refine Nils.mk (fun h => ?_) ?_ | refine Val.t ?_ | refine Val.d ?_ | refine Mm.mk ?_ | (refine Br.mk (fun h => ?_) (fun h => ?_) <;> first | (exfalso; omega; done) | (exfalso; simp at h; done) | skip))
  refine LoopVC.mk (fun m st => ∃ (j : Nat) (A : Arr), j < c ∧ m = c - j ∧ A.length = j ∧ st = ⟨0, envA 39 [(0, .x (.one (.lst true KE (edgA P)))), (1, .int .i64 (z : Nat)), (5, .x (.one (.own 1))), (6, .x (.one (.ptr 0 0)))], [some (bxE P (itr P v (P.length + j))), some (rowT A)]⟩) _ _ ⟨0, [], by omega, rfl, rfl, rfl⟩ ?_ ?_
  · refine ⟨[some 0, none], rfl, rfl, ?_, ?_⟩ <;> repeat' (first | exact trivial | exact rfl | exact Iff.rfl | apply And.intro)
    all_goals (rw [← hz]; rfl)
  rintro m _ ⟨j, A, hj, hm, lA, rfl⟩
  obtain ⟨q1, q2⟩ := hc.each (P.length + j)
  obtain ⟨q3, q4⟩ := hc.each (P.length + (j + 1))
  have g2 : rI (edgA P) ((itr P v (P.length + j) : Nat) : Int).toNat (0 + 1 + 1) = ((itr P v (P.length + j + 1) : Nat) : Int) := by rw [Int.toNat_natCast]; exact (edgA_2 P _).trans q2
  have q5 : itr P v (P.length + j + 1) < P.length := q3
  by_cases hz' : itr P v (P.length + j + 1) = z
  · repeat' ((conv => whnf); first | rw [g2] | rw [hz'] | refine Rng.g ?_ | refine Ob.g ?_ | refine Ob.e ?_ | refine Ob.m ?_ | refine Ob.mk (Nat.le_of_ble_eq_true rfl) ?_ | refine JoinVC.on ?_ | refine Nils.mk (fun h => ?_) ?_ | refine Val.t ?_ | refine Val.d ?_ | refine Mm.mk ?_ | (refine Br.mk (fun h => ?_) (fun h => ?_) <;> first | (exfalso; omega; done) | (exfalso; simp at h; done) | skip))
    repeat refine Mm.mk ?_
    refine Ob.mk (by rw [eb363]; simp only [List.length_cons, List.length_nil]; omega) ?_
    repeat' ((conv => whnf); first | rw [g2] | rw [hz'] | refine Rng.g ?_ | refine Ob.g ?_ | refine Ob.e ?_ | refine Ob.m ?_ | refine Ob.mk (Nat.le_of_ble_eq_true rfl) ?_ | refine JoinVC.on ?_ | refine Nils.mk (fun h => ?_) ?_ | refine Val.t ?_ | refine Val.d ?_ | refine Mm.mk ?_ | (refine Br.mk (fun h => ?_) (fun h => ?_) <;> first | (exfalso; omega; done) | (exfalso; simp at h; done) | skip))
    conv => whnf
    refine CallVC.mk [3] _ _ _ rfl rfl rfl (s305 (A ++ [[Cell.int (rI (edgA P) ((itr P v (P.length + j) : Nat) : Int).toNat 0), Cell.int (rI (edgA P) ((itr P v (P.length + j) : Nat) : Int).toNat (0 + 1))]]) (by rw [List.length_append, List.length_cons, List.length_nil]; omega)) (fun r m' h' => ?_)
    obtain ⟨A', lA', rfl, rfl⟩ := h'
    conv => whnf
    have lA2 : 0 < A'.length := by rw [lA', List.length_append, List.length_cons]; omega
    repeat' ((conv => whnf); first | refine Rng.g ?_ | refine Ob.g ?_ | refine Ob.e ?_ | refine Ob.m ?_ | refine Ob.mk (Nat.le_of_ble_eq_true rfl) ?_ | refine JoinVC.on ?_ | refine Nils.mk (fun h => ?_) ?_ | refine Val.t ?_ | refine Val.d ?_ | refine Mm.mk ?_ | (refine Br.mk (fun h => ?_) (fun h => ?_) <;> first | (exfalso; omega; done) | (exfalso; simp at h; done) | skip))
    repeat refine Mm.mk ?_
    conv => whnf
    refine EndVC.mk _ rfl _ _ (⟨A', lA2, rfl, rfl⟩) ?_
    refine ⟨[some 3], rfl, rfl, ?_, ?_⟩ <;> repeat' (first | exact trivial | exact rfl | exact Iff.rfl | apply And.intro)
  · have hj2 : j + 1 < c := by
      have : j + 1 ≠ c := fun e => hz' (by rw [Nat.add_assoc, e]; exact hcb.trans hz)
      omega
    repeat' ((conv => whnf); first | rw [g2] | refine Rng.g ?_ | refine Ob.g ?_ | refine Ob.e ?_ | refine Ob.m ?_ | refine Ob.mk (Nat.le_of_ble_eq_true rfl) ?_ | refine JoinVC.on ?_ | refine Nils.mk (fun h => ?_) ?_ | refine Val.t ?_ | refine Val.d ?_ | refine Mm.mk ?_ | (refine Br.mk (fun h => ?_) (fun h => ?_) <;> first | (exfalso; omega; done) | (exfalso; simp at h; done) | skip))
    repeat refine Mm.mk ?_
    refine Ob.mk (by rw [eb363]; simp only [List.length_cons, List.length_nil]; omega) ?_
    repeat' ((conv => whnf); first | rw [g2] | refine Rng.g ?_ | refine Ob.g ?_ | refine Ob.e ?_ | refine Ob.m ?_ | refine Ob.mk (Nat.le_of_ble_eq_true rfl) ?_ | refine JoinVC.on ?_ | refine Nils.mk (fun h => ?_) ?_ | refine Val.t ?_ | refine Val.d ?_ | refine Mm.mk ?_ | (refine Br.mk (fun h => ?_) (fun h => ?_) <;> first | (exfalso; omega; done) | (exfalso; simp at h; done) | skip))
    refine Back.mk (c - (j + 1)) _ (by omega) ⟨j + 1, A ++ [[Cell.int (rI (edgA P) ((itr P v (P.length + j) : Nat) : Int).toNat 0), Cell.int (rI (edgA P) ((itr P v (P.length + j) : Nat) : Int).toNat (0 + 1))]], hj2, rfl, by rw [List.length_append, lA]; rfl, rfl⟩ ?_
    refine ⟨[some 4, some 3], rfl, rfl, ?_, ?_⟩ <;> repeat' (first | exact trivial | exact rfl | exact Iff.rfl | apply And.intro)
/-- The steps of a way. -/
theorem s251 (P : List Edg) (x : Edg) (i m : Nat) (hl : P.length ≤ 4096) (hx : x.fr = (i : Nat)) (hw : Way P.length P i m) (hm : m ≤ 100000000) : HSpec Tryz.prog 251 [.one (.lst true KE (edgA P)), x.x] [] (fun r m' => ∃ A : Arr, 0 < A.length ∧ r = .x (.one (.own 0)) ∧ m' = [some (rowT A)]) := by
  have lp := edgA_len P
  obtain ⟨w1, w2, w3⟩ := hw
  have wl : ∀ q, q ≤ m → itr P i q < P.length := fun q hq => by
    by_cases h : q < m
    · exact (w1 q h).1
    · rw [show q = m by omega]; exact w2
  refine spec_of pMix (O := []) Tryz.func251 (c := bodyOf Tryz.f251) rfl (by kernel_rfl) (by kernel_rfl) Tryz.ntmps251 (res := [.tmp 4]) (by kernel_rfl) ?_
  repeat' ((conv => whnf); first | refine Rng.g ?_ | refine Ob.g ?_ | refine Ob.e ?_ | refine Ob.m ?_ | refine Ob.mk (Nat.le_of_ble_eq_true rfl) ?_ | refine JoinVC.on ?_ | refine Nils.mk (fun h => ?_) ?_ | refine Val.t ?_ | refine Val.d ?_ | refine Mm.mk ?_ | (refine Br.mk (fun h => ?_) (fun h => ?_) <;> first | (exfalso; omega; done) | (exfalso; simp at h; done) | skip))
  refine LoopVC.mk (fun k st => ∃ (q : Nat) (A : Arr) (e : Edg), q ≤ m + 1 ∧ k = m + 1 - q ∧ A.length = q + 1 ∧ e.fr = (if q ≤ m then ((itr P i q : Nat) : Int) else -1) ∧ st = ⟨0, envA 25 [(0, .x (.one (.lst true KE (edgA P)))), (3, .x (.one (.ptr 0 0))), (5, .x (.one (.own 1)))], [some (.box 385 [.int .i64 e.rule, .int .i64 e.pos, .int .i64 e.fr, .int .i64 e.to, .int .i64 e.w]), some (rowT A)]⟩) _ _ ⟨0, [[Cell.int x.rule, Cell.int x.pos]], x, Nat.zero_le _, rfl, rfl, by rw [hx, if_pos (Nat.zero_le _)]; rfl, rfl⟩ ?_ ?_
  · refine ⟨[some 0, some 1], rfl, rfl, ?_, ?_⟩ <;> repeat' (first | exact trivial | exact rfl | exact Iff.rfl | apply And.intro)
  rintro k _ ⟨q, A, e, hq, hk, lA, he, rfl⟩
  by_cases hq' : q ≤ m
  · rw [if_pos hq'] at he
    have g1 := wl q hq'
    obtain ⟨y, hy⟩ : ∃ y, P.getD (itr P i q) e0 = y := ⟨_, rfl⟩
    have yf : y.fr = (if q + 1 ≤ m then ((itr P i (q + 1) : Nat) : Int) else -1) := by
      rw [← hy]
      by_cases h : q + 1 ≤ m
      · rw [if_pos h]; exact (w1 q (by omega)).2
      · rw [if_neg h, show q = m by omega]; exact w3
    have c0 : rI (edgA P) e.fr.toNat 0 = y.rule := by rw [he, Int.toNat_natCast, ← hy]; exact edgA_0 P _
    have c1 : rI (edgA P) e.fr.toNat (0 + 1) = y.pos := by rw [he, Int.toNat_natCast, ← hy]; exact edgA_1 P _
    have c2 : rI (edgA P) e.fr.toNat (0 + 1 + 1) = y.fr := by rw [he, Int.toNat_natCast, ← hy]; exact edgA_2 P _
    have c3 : rI (edgA P) e.fr.toNat (0 + 1 + 1 + 1) = y.to := by rw [he, Int.toNat_natCast, ← hy]; exact edgA_3 P _
    have c4 : rI (edgA P) e.fr.toNat (0 + 1 + 1 + 1 + 1) = y.w := by rw [he, Int.toNat_natCast, ← hy]; exact edgA_4 P _
    repeat' ((conv => whnf); first | rw [c4] | rw [c3] | rw [c2] | rw [c1] | rw [c0] | refine Rng.g ?_ | refine Ob.g ?_ | refine Ob.e ?_ | refine Ob.m ?_ | refine Ob.mk (Nat.le_of_ble_eq_true rfl) ?_ | refine JoinVC.on ?_ | refine Nils.mk (fun h => ?_) ?_ | refine Val.t ?_ | refine Val.d ?_ | refine Mm.mk ?_ | (refine Br.mk (fun h => ?_) (fun h => ?_) <;> first | (exfalso; omega; done) | (exfalso; simp at h; done) | skip))
    repeat refine Mm.mk ?_
    refine Ob.mk (by rw [eb363]; simp only [List.length_cons, List.length_nil]; omega) ?_
    repeat' ((conv => whnf); first | rw [c4] | rw [c3] | rw [c2] | rw [c1] | rw [c0] | refine Rng.g ?_ | refine Ob.g ?_ | refine Ob.e ?_ | refine Ob.m ?_ | refine Ob.mk (Nat.le_of_ble_eq_true rfl) ?_ | refine JoinVC.on ?_ | refine Nils.mk (fun h => ?_) ?_ | refine Val.t ?_ | refine Val.d ?_ | refine Mm.mk ?_ | (refine Br.mk (fun h => ?_) (fun h => ?_) <;> first | (exfalso; omega; done) | (exfalso; simp at h; done) | skip))
    refine Back.mk (m + 1 - (q + 1)) _ (by omega) ⟨q + 1, A ++ [[Cell.int y.rule, Cell.int y.pos]], y, by omega, rfl, by rw [List.length_append, lA]; rfl, yf, rfl⟩ ?_
    refine ⟨[some 0, some 3], rfl, rfl, ?_, ?_⟩ <;> repeat' (first | exact trivial | exact rfl | exact Iff.rfl | apply And.intro)
  · rw [if_neg hq'] at he
    repeat' ((conv => whnf); first | refine Rng.g ?_ | refine Ob.g ?_ | refine Ob.e ?_ | refine Ob.m ?_ | refine Ob.mk (Nat.le_of_ble_eq_true rfl) ?_ | refine JoinVC.on ?_ | refine Nils.mk (fun h => ?_) ?_ | refine Val.t ?_ | refine Val.d ?_ | refine Mm.mk ?_ | (refine Br.mk (fun h => ?_) (fun h => ?_) <;> first | (exfalso; omega; done) | (exfalso; simp at h; done) | skip))
    conv => whnf
    refine CallVC.mk [1] _ _ _ rfl rfl rfl (s305 A (by omega)) (fun r m' h' => ?_)
    obtain ⟨A', lA', rfl, rfl⟩ := h'
    conv => whnf
    repeat' ((conv => whnf); first | refine Rng.g ?_ | refine Ob.g ?_ | refine Ob.e ?_ | refine Ob.m ?_ | refine Ob.mk (Nat.le_of_ble_eq_true rfl) ?_ | refine JoinVC.on ?_ | refine Nils.mk (fun h => ?_) ?_ | refine Val.t ?_ | refine Val.d ?_ | refine Mm.mk ?_ | (refine Br.mk (fun h => ?_) (fun h => ?_) <;> first | (exfalso; omega; done) | (exfalso; simp at h; done) | skip))
    repeat refine Mm.mk ?_
    conv => whnf
    refine EndVC.mk _ rfl _ _ (⟨A', by omega, rfl, rfl⟩) ?_
    refine ⟨[some 1], rfl, rfl, ?_, ?_⟩ <;> repeat' (first | exact trivial | exact rfl | exact Iff.rfl | apply And.intro)
end Go.Sx

namespace Go.Sx
open Go Go.Proofs
set_option maxRecDepth 10000
set_option maxHeartbeats 4000000
def arcF (r per : Int) : Int := (710 * r * (710 * r)) / (113 * per * (113 * per))
theorem sq_rng {a A : Int} (h : 0 ≤ a ∧ a ≤ A) : 0 ≤ a * a ∧ a * a ≤ A * A :=
  ⟨Int.mul_nonneg h.1 h.1, Int.mul_le_mul h.2 h.2 h.1 (by omega)⟩
theorem s286 (t : Trk) (ht : TrkOK t) : PSpec Tryz.prog 286 [tkX t] (.x (I (arcF t.r t.per))) := by
  have hr := ht.r
  have hp := ht.per
  have h1 := sq_rng (a := 710 * t.r) (A := 2977955840) (by omega)
  have h2 := sq_rng (a := 113 * t.per) (A := 7405568) (by omega)
  have h3 : 0 < 113 * t.per * (113 * t.per) := Int.mul_pos (by omega) (by omega)
  refine spec_of pMix (O := []) Tryz.func286 (c := bodyOf Tryz.f286) rfl (by kernel_rfl) (by kernel_rfl) Tryz.ntmps286 (res := [.tmp 2]) (by kernel_rfl) ?_
  have h4 := Int.ediv_nonneg h1.1 (Int.le_of_lt h3)
  have h5 := Int.ediv_le_self (113 * t.per * (113 * t.per)) h1.1
  have f8 : rI (tkA t) 0 (0 + (0 + 1 + 1 + 1 + 1 + 1 + 1 + 1 + 1)) = t.r := rfl
  have f9 : rI (tkA t) 0 (0 + (0 + 1 + 1 + 1 + 1 + 1 + 1 + 1 + 1 + 1)) = t.per := rfl
  repeat' ((conv => whnf); first | rw [f8] | rw [f9] | refine Rng.g ?_ | refine Ob.g ?_ | refine Ob.e ?_ | refine Ob.m ?_ | refine Ob.mk (Nat.le_of_ble_eq_true rfl) ?_ | refine JoinVC.on ?_ | refine Nils.mk (fun h => ?_) ?_ | refine Val.t ?_ | refine Val.d ?_ | refine Mm.mk ?_ | (refine Br.mk (fun h => ?_) (fun h => ?_) <;> first | (exfalso; omega; done) | (exfalso; simp at h; done) | skip))
  repeat refine Mm.mk ?_
  refine EndVC.mk _ rfl _ _ ⟨rfl, rfl⟩ ?_
  refine ⟨[], rfl, rfl, ?_, ?_⟩ <;> repeat' (first | exact trivial | exact rfl | exact Iff.rfl | apply And.intro)
/-- The rules. -/
def brk (t : Trk) (i : Nat) (b a : Bool) : Nat → Prop
  | 1 => (t.p.getD i s0).r - (t.p.getD i s0).l < t.c.thin
  | 2 => (t.p.getD i s0).r - (t.p.getD i s0).l > t.c.wide
  | 3 => 113000 * t.per * stF t.p i b > 710 * t.r * t.c.slope
  | 4 => bdF t.p i b a > t.c.jerk
  | 5 => bdF t.p i b a * t.c.sty > arcF t.r t.per
  | _ => False
instance (t : Trk) (i : Nat) (b a : Bool) (k : Nat) : Decidable (brk t i b a k) := by unfold brk; split <;> exact inferInstance
@[reducible] def nrT (t : Trk) (i : Nat) (b a : Bool) : XV := nrX t.p i b a
theorem s213 (t : Trk) (i : Nat) (b a : Bool) (hn : NearOK t.p i b a) : PSpec Tryz.prog 213 [tkX t, nrX t.p i b a] (xP (brk t i b a 1)) := by
  have c1 := s283 t.p i b a hn.h
  have f2 : rI (tkA t) 0 (0 + 0 + (0 + 1 + 1)) = t.c.thin := rfl
  cases b
  all_goals
    cases a
    all_goals
      refine spec_of pMix (O := [(1, ([], [⟨0, [], []⟩, ⟨2, [], []⟩, ⟨3, [], []⟩, ⟨4, [], []⟩, ⟨5, [], []⟩, ⟨6, [], []⟩, ⟨1, [2, 3, 4, 5, 6], []⟩, ⟨7, [], []⟩, ⟨8, [], []⟩]))]) Tryz.func213 (c := bodyOf Tryz.f213) rfl (by kernel_rfl) (by kernel_rfl) Tryz.ntmps213 (res := [.tmp 4]) (by kernel_rfl) ?_
      repeat' ((conv => whnf); first | rw [f2] | refine Rng.g ?_ | refine Ob.g ?_ | refine Ob.e ?_ | refine Ob.m ?_ | refine Ob.mk (Nat.le_of_ble_eq_true rfl) ?_ | refine JoinVC.on ?_ | refine Nils.mk (fun h => ?_) ?_ | refine Val.t ?_ | refine Val.d ?_ | refine Mm.mk ?_ | refine CallVC.pure rfl (c1) ?_ | refine CallVC0.pure rfl (c1) ?_ | (refine Br.mk (fun h => ?_) (fun h => ?_) <;> first | (exfalso; omega; done) | (exfalso; simp at h; done) | skip))
      repeat refine Mm.mk ?_
      refine EndVC.mk _ rfl _ _ ⟨rfl, rfl⟩ ?_
      refine ⟨[], rfl, rfl, ?_, ?_⟩ <;> repeat' (first | exact trivial | exact rfl | exact Iff.rfl | apply And.intro)
theorem s214 (t : Trk) (i : Nat) (b a : Bool) (hn : NearOK t.p i b a) : PSpec Tryz.prog 214 [tkX t, nrX t.p i b a] (xP (brk t i b a 2)) := by
  have c1 := s283 t.p i b a hn.h
  have f2 : rI (tkA t) 0 (0 + 0 + (0 + 1 + 1 + 1)) = t.c.wide := rfl
  cases b
  all_goals
    cases a
    all_goals
      refine spec_of pMix (O := [(1, ([], [⟨0, [], []⟩, ⟨2, [], []⟩, ⟨3, [], []⟩, ⟨4, [], []⟩, ⟨5, [], []⟩, ⟨6, [], []⟩, ⟨1, [2, 3, 4, 5, 6], []⟩, ⟨7, [], []⟩, ⟨8, [], []⟩]))]) Tryz.func214 (c := bodyOf Tryz.f214) rfl (by kernel_rfl) (by kernel_rfl) Tryz.ntmps214 (res := [.tmp 4]) (by kernel_rfl) ?_
      repeat' ((conv => whnf); first | rw [f2] | refine Rng.g ?_ | refine Ob.g ?_ | refine Ob.e ?_ | refine Ob.m ?_ | refine Ob.mk (Nat.le_of_ble_eq_true rfl) ?_ | refine JoinVC.on ?_ | refine Nils.mk (fun h => ?_) ?_ | refine Val.t ?_ | refine Val.d ?_ | refine Mm.mk ?_ | refine CallVC.pure rfl (c1) ?_ | refine CallVC0.pure rfl (c1) ?_ | (refine Br.mk (fun h => ?_) (fun h => ?_) <;> first | (exfalso; omega; done) | (exfalso; simp at h; done) | skip))
      repeat refine Mm.mk ?_
      refine EndVC.mk _ rfl _ _ ⟨rfl, rfl⟩ ?_
      refine ⟨[], rfl, rfl, ?_, ?_⟩ <;> repeat' (first | exact trivial | exact rfl | exact Iff.rfl | apply And.intro)
theorem s215 (t : Trk) (i : Nat) (b a : Bool) (ht : TrkOK t) (hn : NearOK t.p i b a) : PSpec Tryz.prog 215 [tkX t, nrX t.p i b a] (xP (brk t i b a 3)) := by
  have c1 := s284 t.p i b a hn
  have f2 : rI (tkA t) 0 (0 + 0 + (0 + 1 + 1 + 1 + 1)) = t.c.slope := rfl
  have f8 : rI (tkA t) 0 (0 + (0 + 1 + 1 + 1 + 1 + 1 + 1 + 1 + 1)) = t.r := rfl
  have f9 : rI (tkA t) 0 (0 + (0 + 1 + 1 + 1 + 1 + 1 + 1 + 1 + 1 + 1)) = t.per := rfl
  have hr := ht.r
  have hp := ht.per
  have hs := ht.c.slope
  have hst := stF_bd hn
  have h1 := mul_rng (a := 113000 * t.per) (b := stF t.p i b) (A := 7405568000) (B := 8388608) (by omega) hst
  have h2 := mul_rng (a := 710 * t.r) (b := t.c.slope) (A := 2977955840) (B := 10000) (by omega) hs
  cases b
  all_goals
    cases a
    all_goals
      refine spec_of pMix (O := [(1, ([], [⟨0, [], []⟩, ⟨1, [], []⟩, ⟨2, [], []⟩, ⟨3, [], []⟩, ⟨4, [], []⟩, ⟨5, [], []⟩, ⟨8, [], []⟩, ⟨9, [], []⟩, ⟨10, [], []⟩, ⟨11, [], []⟩, ⟨12, [], []⟩, ⟨13, [], []⟩, ⟨14, [], []⟩, ⟨15, [], []⟩, ⟨16, [], []⟩, ⟨17, [], []⟩, ⟨18, [], []⟩, ⟨6, [0, 1, 2, 3, 4, 8, 9, 10, 11, 12, 13, 14, 15, 16, 17, 18], []⟩, ⟨7, [], []⟩, ⟨19, [], []⟩, ⟨20, [], []⟩]))]) Tryz.func215 (c := bodyOf Tryz.f215) rfl (by kernel_rfl) (by kernel_rfl) Tryz.ntmps215 (res := [.tmp 4]) (by kernel_rfl) ?_
      repeat' ((conv => whnf); first | rw [f2] | rw [f8] | rw [f9] | refine Rng.g ?_ | refine Ob.g ?_ | refine Ob.e ?_ | refine Ob.m ?_ | refine Ob.mk (Nat.le_of_ble_eq_true rfl) ?_ | refine JoinVC.on ?_ | refine Nils.mk (fun h => ?_) ?_ | refine Val.t ?_ | refine Val.d ?_ | refine Mm.mk ?_ | refine CallVC.pure rfl (c1) ?_ | refine CallVC0.pure rfl (c1) ?_ | (refine Br.mk (fun h => ?_) (fun h => ?_) <;> first | (exfalso; omega; done) | (exfalso; simp at h; done) | skip))
      repeat refine Mm.mk ?_
      refine EndVC.mk _ rfl _ _ ⟨rfl, rfl⟩ ?_
      refine ⟨[], rfl, rfl, ?_, ?_⟩ <;> repeat' (first | exact trivial | exact rfl | exact Iff.rfl | apply And.intro)
theorem s216 (t : Trk) (i : Nat) (b a : Bool) (hn : NearOK t.p i b a) : PSpec Tryz.prog 216 [tkX t, nrX t.p i b a] (xP (brk t i b a 4)) := by
  have c1 := s285 t.p i b a hn
  have f2 : rI (tkA t) 0 (0 + 0 + (0 + 1 + 1 + 1 + 1 + 1)) = t.c.jerk := rfl
  cases b
  all_goals
    cases a
    all_goals
      refine spec_of pMix (O := [(1, ([], [⟨0, [], []⟩, ⟨2, [], []⟩, ⟨3, [], []⟩, ⟨4, [], []⟩, ⟨5, [], []⟩, ⟨6, [], []⟩, ⟨1, [2, 3, 4, 5, 6], []⟩, ⟨7, [], []⟩, ⟨8, [], []⟩]))]) Tryz.func216 (c := bodyOf Tryz.f216) rfl (by kernel_rfl) (by kernel_rfl) Tryz.ntmps216 (res := [.tmp 4]) (by kernel_rfl) ?_
      repeat' ((conv => whnf); first | rw [f2] | refine Rng.g ?_ | refine Ob.g ?_ | refine Ob.e ?_ | refine Ob.m ?_ | refine Ob.mk (Nat.le_of_ble_eq_true rfl) ?_ | refine JoinVC.on ?_ | refine Nils.mk (fun h => ?_) ?_ | refine Val.t ?_ | refine Val.d ?_ | refine Mm.mk ?_ | refine CallVC.pure rfl (c1) ?_ | refine CallVC0.pure rfl (c1) ?_ | (refine Br.mk (fun h => ?_) (fun h => ?_) <;> first | (exfalso; omega; done) | (exfalso; simp at h; done) | skip))
      repeat refine Mm.mk ?_
      refine EndVC.mk _ rfl _ _ ⟨rfl, rfl⟩ ?_
      refine ⟨[], rfl, rfl, ?_, ?_⟩ <;> repeat' (first | exact trivial | exact rfl | exact Iff.rfl | apply And.intro)
theorem s217 (t : Trk) (i : Nat) (b a : Bool) (ht : TrkOK t) (hn : NearOK t.p i b a) : PSpec Tryz.prog 217 [tkX t, nrX t.p i b a] (xP (brk t i b a 5)) := by
  have c1 := s285 t.p i b a hn
  have c2 := s286 t ht
  have f2 : rI (tkA t) 0 (0 + 0 + (0 + 1 + 1 + 1 + 1 + 1 + 1)) = t.c.sty := rfl
  have hst := bdF_bd hn
  have hs := ht.c.sty
  have h1 := mul_rng (a := bdF t.p i b a) (b := t.c.sty) (A := 16777216) (B := 1024) (by omega) hs
  cases b
  all_goals
    cases a
    all_goals
      refine spec_of pMix (O := [(1, ([], [⟨0, [], []⟩, ⟨2, [], []⟩, ⟨3, [], []⟩, ⟨4, [], []⟩, ⟨5, [], []⟩, ⟨6, [], []⟩, ⟨8, [], []⟩, ⟨1, [2, 3, 4, 5, 6, 8], []⟩, ⟨7, [], []⟩, ⟨9, [2, 3, 4, 5, 6, 7], []⟩, ⟨10, [], []⟩, ⟨11, [], []⟩]))]) Tryz.func217 (c := bodyOf Tryz.f217) rfl (by kernel_rfl) (by kernel_rfl) Tryz.ntmps217 (res := [.tmp 4]) (by kernel_rfl) ?_
      repeat' ((conv => whnf); first | rw [f2] | refine Rng.g ?_ | refine Ob.g ?_ | refine Ob.e ?_ | refine Ob.m ?_ | refine Ob.mk (Nat.le_of_ble_eq_true rfl) ?_ | refine JoinVC.on ?_ | refine Nils.mk (fun h => ?_) ?_ | refine Val.t ?_ | refine Val.d ?_ | refine Mm.mk ?_ | refine CallVC.pure rfl (c1) ?_ | refine CallVC.pure rfl (c2) ?_ | refine CallVC0.pure rfl (c1) ?_ | refine CallVC0.pure rfl (c2) ?_ | (refine Br.mk (fun h => ?_) (fun h => ?_) <;> first | (exfalso; omega; done) | (exfalso; simp at h; done) | skip))
      repeat refine Mm.mk ?_
      refine EndVC.mk _ rfl _ _ ⟨rfl, rfl⟩ ?_
      refine ⟨[], rfl, rfl, ?_, ?_⟩ <;> repeat' (first | exact trivial | exact rfl | exact Iff.rfl | apply And.intro)
/-- The first rule that is broken. -/
def ruleF (t : Trk) (i : Nat) (b a : Bool) : Int := if brk t i b a 1 then 1 else if brk t i b a 2 then 2 else if brk t i b a 3 then 3 else if brk t i b a 4 then 4 else if brk t i b a 5 then 5 else 0
theorem s128 (t : Trk) (i : Nat) (b a : Bool) (ht : TrkOK t) (hn : NearOK t.p i b a) : PSpec Tryz.prog 128 [tkX t, nrX t.p i b a] (.x (I (ruleF t i b a))) := by
  have c1 := s213 t i b a hn
  have c2 := s214 t i b a hn
  have c3 := s215 t i b a ht hn
  have c4 := s216 t i b a hn
  have c5 := s217 t i b a ht hn
  cases b
  all_goals
    cases a
    all_goals
      refine spec_of pMix (O := []) Tryz.func128 (c := bodyOf Tryz.f128) rfl (by kernel_rfl) (by kernel_rfl) Tryz.ntmps128 (res := [.tmp 4]) (by kernel_rfl) ?_
      repeat' ((conv => whnf); first | refine Rng.g ?_ | refine Ob.g ?_ | refine Ob.e ?_ | refine Ob.m ?_ | refine Ob.mk (Nat.le_of_ble_eq_true rfl) ?_ | refine JoinVC.on ?_ | refine Nils.mk (fun h => ?_) ?_ | refine Val.t ?_ | refine Val.d ?_ | refine Mm.mk ?_ | (refine Br.mk (fun h => ?_) (fun h => ?_) <;> first | (exfalso; omega; done) | (exfalso; simp at h; done) | skip))
      refine LoopVC.un 6 ?_
      repeat' ((conv => whnf); first | refine Rng.g ?_ | refine Ob.g ?_ | refine Ob.e ?_ | refine Ob.m ?_ | refine Ob.mk (Nat.le_of_ble_eq_true rfl) ?_ | refine JoinVC.on ?_ | refine Nils.mk (fun h => ?_) ?_ | refine Val.t ?_ | refine Val.d ?_ | refine Mm.mk ?_ | refine CallVC.pure rfl (c1) ?_ | refine CallVC.pure rfl (c2) ?_ | refine CallVC.pure rfl (c3) ?_ | refine CallVC.pure rfl (c4) ?_ | refine CallVC.pure rfl (c5) ?_ | refine CallVC0.pure rfl (c1) ?_ | refine CallVC0.pure rfl (c2) ?_ | refine CallVC0.pure rfl (c3) ?_ | refine CallVC0.pure rfl (c4) ?_ | refine CallVC0.pure rfl (c5) ?_ | (refine Br.mk (fun h => ?_) (fun h => ?_) <;> first | (exfalso; omega; done) | (exfalso; simp at h; done) | skip))
      all_goals
        repeat refine Mm.mk ?_
        refine EndVC.mk _ rfl _ _ ⟨rfl, rfl⟩ ?_
        refine ⟨[], rfl, rfl, ?_, ?_⟩ <;> repeat' (first | exact trivial | exact rfl | exact Iff.rfl | apply And.intro)
        simp [ruleF, *]
end Go.Sx

namespace Go.Sx
open Go Go.Proofs
set_option maxRecDepth 10000
set_option maxHeartbeats 4000000
theorem s129 (t : Trk) (i : Nat) (b a : Bool) (hl : t.p.length ≤ 4096) (hi : i < t.p.length) (hb : b = true ↔ 0 < i) (ha : a = true ↔ i + 1 < t.p.length) : PSpec Tryz.prog 129 [tkX t, I (i : Int)] (.x (nrX t.p i b a)) := by
  have f7 : rA (tkA t) 0 (0 + (0 + 1 + 1 + 1 + 1 + 1 + 1 + 1)) = smpA t.p := rfl
  have lp := smpA_len t.p
  cases b
  all_goals
    have hb' : ¬ 0 < i ∨ 0 < i := by omega
    cases a
    all_goals
      simp only [true_iff, reduceCtorEq, false_iff] at hb ha
      refine spec_of pMix (O := []) Tryz.func129 (c := bodyOf Tryz.f129) rfl (by kernel_rfl) (by kernel_rfl) Tryz.ntmps129 (res := [.cell 4 234]) (by kernel_rfl) ?_
      repeat' ((conv => whnf); first | rw [f7] | refine Rng.g ?_ | refine Ob.g ?_ | refine Ob.e ?_ | refine Ob.m ?_ | refine Ob.mk (Nat.le_of_ble_eq_true rfl) ?_ | refine JoinVC.on ?_ | refine Nils.mk (fun h => ?_) ?_ | refine Val.t ?_ | refine Val.d ?_ | refine Mm.mk ?_ | (refine Br.mk (fun h => ?_) (fun h => ?_) <;> first | (exfalso; omega; done) | (exfalso; simp at h; done) | skip))
      repeat refine Mm.mk ?_
      refine EndVC.mk _ rfl _ _ ⟨rfl, rfl⟩ ?_
      refine ⟨[], rfl, rfl, ?_, ?_⟩ <;> repeat' (first | exact trivial | exact rfl | exact Iff.rfl | apply And.intro)
  all_goals omega
theorem s208 (t : Trk) : HSpec Tryz.prog 208 [tkX t] [] (fun r m' => r = .x (.one (.fn 281 [(0, 0)])) ∧ m' = [some (.box 214 [.lel true KTk (tkA t) 0 0])]) := by
  refine spec_of pMix (O := []) Tryz.func208 (c := bodyOf Tryz.f208) rfl (by kernel_rfl) (by kernel_rfl) Tryz.ntmps208 (res := [.tmp 2]) (by kernel_rfl) ?_
  repeat' ((conv => whnf); first | refine Rng.g ?_ | refine Ob.g ?_ | refine Ob.e ?_ | refine Ob.m ?_ | refine Ob.mk (Nat.le_of_ble_eq_true rfl) ?_ | refine JoinVC.on ?_ | refine Nils.mk (fun h => ?_) ?_ | refine Val.t ?_ | refine Val.d ?_ | refine Mm.mk ?_ | (refine Br.mk (fun h => ?_) (fun h => ?_) <;> first | (exfalso; omega; done) | (exfalso; simp at h; done) | skip))
  repeat refine Mm.mk ?_
  refine EndVC.mk _ rfl _ _ ⟨rfl, rfl⟩ ?_
  refine ⟨[some 0], rfl, rfl, ?_, ?_⟩ <;> repeat' (first | exact trivial | exact rfl | exact Iff.rfl | apply And.intro)
def bB (i : Nat) : Bool := decide (0 < i)
def aB (l : List Smp) (i : Nat) : Bool := decide (i + 1 < l.length)
theorem TrkOK.near {t : Trk} (ht : TrkOK t) {i : Nat} (hi : i < t.p.length) : NearOK t.p i (bB i) (aB t.p i) :=
  ⟨ht.p.each i hi, fun _ => ht.p.each _ (by omega), fun ha => ht.p.each _ (of_decide_eq_true ha)⟩
def ruleAt (t : Trk) (i : Nat) : Int := ruleF t i (bB i) (aB t.p i)
theorem ruleF_rng (t : Trk) (i : Nat) (b a : Bool) : 0 ≤ ruleF t i b a ∧ ruleF t i b a ≤ 5 := by
  unfold ruleF
  repeat' split
  all_goals omega
/-- The fault of a groove. -/
structure FaultIs (t : Trk) (i : Nat) (x : Int) : Prop where
  none : x = 0 → i = 0 ∧ ∀ j, j < t.p.length → ruleAt t j = 0
  some : x ≠ 0 → i < t.p.length ∧ x = ruleAt t i ∧ ∀ j, j < i → ruleAt t j = 0
def cF : Code → Code
  | .seq a _ => a
  | c => c
def cS : Code → Code
  | .seq _ b => b
  | c => c
def cB : Code → Code
  | .block _ c => c
  | c => c
def cAs : Code → Code
  | .rangeFunc _ _ x _ => x
  | c => c
def cBo : Code → Code
  | .rangeFunc _ _ _ b => b
  | c => c
noncomputable def rf116 : Code := cB (cS (cF (cS (bodyOf Tryz.f116))))
theorem s116 (t : Trk) (ht : TrkOK t) : HSpec Tryz.prog 116 [tkX t] [] (fun r m' => ∃ (i : Nat) (x : Int), FaultIs t i x ∧ r = .tup [I (i : Int), I x] ∧ m' = []) := by
  have lp := smpA_len t.p
  have hl := ht.p.len
  have f7 : rA (tkA t) 0 (0 + (0 + 1 + 1 + 1 + 1 + 1 + 1 + 1)) = smpA t.p := rfl
  refine spec_of pMix (O := []) Tryz.func116 (c := bodyOf Tryz.f116) rfl (by kernel_rfl) (by kernel_rfl) Tryz.ntmps116 (res := [.cell 2 3, .cell 3 3]) (by kernel_rfl) ?_
  repeat' ((conv => whnf); first | refine Rng.g ?_ | refine Ob.g ?_ | refine Ob.e ?_ | refine Ob.m ?_ | refine Ob.mk (Nat.le_of_ble_eq_true rfl) ?_ | refine JoinVC.on ?_ | refine Nils.mk (fun h => ?_) ?_ | refine Val.t ?_ | refine Val.d ?_ | refine Mm.mk ?_ | (refine Br.mk (fun h => ?_) (fun h => ?_) <;> first | (exfalso; omega; done) | (exfalso; simp at h; done) | skip))
  conv => whnf
  refine CallVC.mk [] _ _ _ rfl rfl rfl (s208 t) (fun r m' h' => ?_)
  obtain ⟨rfl, rfl⟩ := h'
  conv => whnf
  repeat' ((conv => whnf); first | refine Rng.g ?_ | refine Ob.g ?_ | refine Ob.e ?_ | refine Ob.m ?_ | refine Ob.mk (Nat.le_of_ble_eq_true rfl) ?_ | refine JoinVC.on ?_ | refine Nils.mk (fun h => ?_) ?_ | refine Val.t ?_ | refine Val.d ?_ | refine Mm.mk ?_ | (refine Br.mk (fun h => ?_) (fun h => ?_) <;> first | (exfalso; omega; done) | (exfalso; simp at h; done) | skip))
  change RangeVC _ _ _ _ _
  refine RangeVC.mk e281 (isem_of_awp pMix [] Tryz.func281 (c := bodyOf Tryz.f281) rfl (by kernel_rfl) Tryz.ntmps281 (by kernel_rfl) ?_)
  repeat' ((conv => whnf); first | rw [f7] | refine Rng.g ?_ | refine Ob.g ?_ | refine Ob.e ?_ | refine Ob.m ?_ | refine Ob.mk (Nat.le_of_ble_eq_true rfl) ?_ | refine JoinVC.on ?_ | refine Nils.mk (fun h => ?_) ?_ | refine Val.t ?_ | refine Val.d ?_ | refine Mm.mk ?_ | (refine Br.mk (fun h => ?_) (fun h => ?_) <;> first | (exfalso; omega; done) | (exfalso; simp at h; done) | skip))
  refine LoopVC.mk (fun n st => ∃ (i : Nat), i ≤ t.p.length ∧ n = t.p.length - i ∧ (∀ j, j < i → ruleAt t j = 0) ∧ st = ⟨5, envA 20 [(0, .x (.one (.yld 4))), (1, .x (.one (.ptr 3 0))), (8, .int .i64 (t.p.length : Int)), (9, .int .i64 (i : Int))], [some (.box 214 [.lel true KTk (tkA t) 0 0]), some (.box 3 [.int .i64 0]), some (.box 3 [.int .i64 0]), some (.box 214 [.lel true KTk (tkA t) 0 0]), some (.loop [9, 10] (cAs rf116) (cBo rf116) (envA 18 [(1, .x (.one (.ptr 0 0))), (2, .x (.one (.ptr 1 0))), (3, .x (.one (.ptr 2 0)))]) .ready)]⟩) _ _ ⟨0, Nat.zero_le _, rfl, fun j hj => absurd hj (Nat.not_lt_zero j), rfl⟩ ?_ ?_
  · refine ⟨[some 0, some 1, some 2, some 3, some 4], rfl, rfl, ?_, ?_⟩ <;> repeat' (first | exact trivial | exact rfl | exact Iff.rfl | apply And.intro)
    exact congrArg Int.ofNat lp
  rintro n _ ⟨i, hi, hn, hj, rfl⟩
  by_cases hi' : i < t.p.length
  · have c1 := s129 t i (bB i) (aB t.p i) hl hi' decide_eq_true_iff decide_eq_true_iff
    have c2 := s128 t i (bB i) (aB t.p i) ht (ht.near hi')
    have e : ruleAt t i = ruleF t i (bB i) (aB t.p i) := rfl
    have hr5 := ruleF_rng t i (bB i) (aB t.p i)
    obtain ⟨b, hb⟩ : ∃ b, bB i = b := ⟨_, rfl⟩
    obtain ⟨a, ha⟩ : ∃ a, aB t.p i = a := ⟨_, rfl⟩
    rw [hb, ha] at c1 c2 e hr5
    cases b
    all_goals
      cases a
      all_goals
        repeat' ((conv => whnf); first | refine Rng.g ?_ | refine Ob.g ?_ | refine Ob.e ?_ | refine Ob.m ?_ | refine Ob.mk (Nat.le_of_ble_eq_true rfl) ?_ | refine JoinVC.on ?_ | refine Nils.mk (fun h => ?_) ?_ | refine Val.t ?_ | refine Val.d ?_ | refine Mm.mk ?_ | refine CallVC.pure rfl (c1) ?_ | refine CallVC.pure rfl (c2) ?_ | refine CallVC0.pure rfl (c1) ?_ | refine CallVC0.pure rfl (c2) ?_ | refine YieldVC.mk (rsem_of_awp pMix [] rfl (by kernel_rfl) ?_) | (refine Br.mk (fun h => ?_) (fun h => ?_) <;> first | (exfalso; omega; done) | (exfalso; simp at h; done) | skip))
        · repeat refine Mm.mk ?_
          conv => whnf
          refine EndVC.mk _ rfl _ _ (⟨i, _, ⟨fun h0 => by rw [h0] at h; omega, fun _ => ⟨hi', e.symm, hj⟩⟩, rfl, rfl⟩) ?_
          refine ⟨[], rfl, rfl, ?_, ?_⟩ <;> repeat' (first | exact trivial | exact rfl | exact Iff.rfl | apply And.intro)
        · refine Back.mk (t.p.length - (i + 1)) _ (by omega) ⟨i + 1, by omega, rfl, fun j hj' => ?_, rfl⟩ ?_
          · rcases Nat.lt_succ_iff_lt_or_eq.1 hj' with h' | h'
            · exact hj j h'
            · rw [h', e]; omega
          · refine ⟨[some 0, some 1, some 2, some 3, some 4], rfl, rfl, ?_, ?_⟩ <;> repeat' (first | exact trivial | exact rfl | exact Iff.rfl | apply And.intro)
  · repeat' ((conv => whnf); first | refine Rng.g ?_ | refine Ob.g ?_ | refine Ob.e ?_ | refine Ob.m ?_ | refine Ob.mk (Nat.le_of_ble_eq_true rfl) ?_ | refine JoinVC.on ?_ | refine Nils.mk (fun h => ?_) ?_ | refine Val.t ?_ | refine Val.d ?_ | refine Mm.mk ?_ | (refine Br.mk (fun h => ?_) (fun h => ?_) <;> first | (exfalso; omega; done) | (exfalso; simp at h; done) | skip))
    repeat refine Mm.mk ?_
    conv => whnf
    refine EndVC.mk _ rfl _ _ (⟨0, 0, ⟨fun _ => ⟨rfl, fun j hj' => hj j (by omega)⟩, fun h0 => absurd rfl h0⟩, rfl, rfl⟩) ?_
    refine ⟨[], rfl, rfl, ?_, ?_⟩ <;> repeat' (first | exact trivial | exact rfl | exact Iff.rfl | apply And.intro)
end Go.Sx

namespace Go.Sx
open Go Go.RowKit
/-! ### Rounds and iterators, proved by themselves -/
theorem Fr.le {w w' : World} {R R' : Rp} {M m' m2 : List (Option Blk)} (hf : Fr w R M w' R' m') (h : Le ⟨M.length, [], m'⟩ ⟨M.length, [], m2⟩) : ∃ R2, Fr w R M w' R2 m2 := by
  obtain ⟨R2, hC⟩ := Le_ok h (show Conc w R M ⟨M.length, [], m'⟩ R' { tmps := #[], defers := [] } w' from ⟨hf, rfl, fun i v hv => by simp at hv, Marks.nil .., rfl⟩)
  exact ⟨R2, hC.fr⟩
theorem RSem.le {P : Program} {id : Nat} {args : List XV} {M : List (Option Blk)} {Q Q' : Bool → List (Option Blk) → Prop} (h : RSem P id args M Q) (hq : ∀ b m', Q b m' → ∃ m2, Q' b m2 ∧ Le ⟨M.length, [], m'⟩ ⟨M.length, [], m2⟩) : RSem P id args M Q' := by
  intro w R vs l h1 h2 h3 h4
  obtain ⟨r, e1, e2, e3⟩ := h w R vs l h1 h2 h3 h4
  refine ⟨r, e1, e2, e3.mono ?_⟩
  rintro e w' ⟨b, m', R', rfl, hQ, hf⟩
  obtain ⟨m2, q2, hl⟩ := hq b m' hQ
  obtain ⟨R2, hf2⟩ := hf.le hl
  exact ⟨b, m2, R2, rfl, q2, hf2⟩
theorem ISem.le {P : Program} {f : FuncId} {args : List XV} {M : List (Option Blk)} {Q Q' : List (Option Blk) → Prop} (h : ISem P f args M Q) (hq : ∀ m', Q m' → ∃ m2, Q' m2 ∧ Le ⟨M.length, [], m'⟩ ⟨M.length, [], m2⟩) : ISem P f args M Q' := by
  intro w R vs h1 h2
  refine (h w R vs h1 h2).mono ?_
  rintro e w' ⟨v, m', R', rfl, hQ, hf⟩
  obtain ⟨m2, q2, hl⟩ := hq m' hQ
  obtain ⟨R2, hf2⟩ := hf.le hl
  exact ⟨v, m2, R2, rfl, q2, hf2⟩
theorem RSem.mono {P : Program} {id : Nat} {args : List XV} {M : List (Option Blk)} {Q Q' : Bool → List (Option Blk) → Prop} (h : RSem P id args M Q) (hq : ∀ b m', Q b m' → Q' b m') : RSem P id args M Q' := by
  intro w R vs l h1 h2 h3 h4
  obtain ⟨r, e1, e2, e3⟩ := h w R vs l h1 h2 h3 h4
  refine ⟨r, e1, e2, e3.mono ?_⟩
  rintro e w' ⟨b, m', R', rfl, hQ, hf⟩
  exact ⟨b, m', R', rfl, hq _ _ hQ, hf⟩
theorem ISem.mono {P : Program} {f : FuncId} {args : List XV} {M : List (Option Blk)} {Q Q' : List (Option Blk) → Prop} (h : ISem P f args M Q) (hq : ∀ m', Q m' → Q' m') : ISem P f args M Q' := by
  intro w R vs h1 h2
  refine (h w R vs h1 h2).mono ?_
  rintro e w' ⟨v, m', R', rfl, hQ, hf⟩
  exact ⟨v, m', R', rfl, hq _ hQ, hf⟩
theorem YieldVC.of {P : Program} {id : Nat} {args : List XV} {s : St} {K : AV → St → Prop} {m2 : List (Option Blk)} (h : RSem P id args s.mem (fun b m' => b = true ∧ m' = m2)) (k : K (.x (.one .tt)) ⟨s.k, s.env, m2⟩) : YieldVC P id args s K :=
  .mk (h.mono fun b m' hh => by obtain ⟨rfl, rfl⟩ := hh; exact k)
theorem RangeVC.of {P : Program} {f : FuncId} {args : List XV} {m : List (Option Blk)} {Q Q' : List (Option Blk) → Prop} (he : EntersF P f) (h : ISem P f args m Q') (k : ∀ m', Q' m' → Q m') : RangeVC P f args m Q := .mk he (h.mono k)
end Go.Sx

namespace Go.Sx
open Go Go.Proofs
set_option maxRecDepth 10000
set_option maxHeartbeats 8000000
theorem e304 : EntersF Tryz.prog 304 := enters_of Tryz.func304 (c := bodyOf Tryz.f304) (by kernel_rfl) rfl
def cL : Code → Code
  | .loop c => c
  | c => c
def cC : Code → Code
  | .scope c => c
  | c => c
inductive SeRs (b : Blnk) (p : List Smp) (r : AV) (m' : List (Option Blk)) : Prop
  | bad (A : Arr) (hA : 0 < A.length) (hn : ∀ y, ¬ Feas b p y) (hr : r = .x (.agg [.nils, .own 1])) (hm : m' = [some (bSd b p), some (.row 363 false [.int .i64, .int .i64] A)])
  | ok (R : List Int) (h : Best b p R) (hr : r = .x (.agg [.own 1, .nils])) (hm : m' = [some (bSd b p), some (rowRd R)])
theorem eb385 : Tryz.t385.bytes = 40 := by kernel_rfl
theorem s249 (b : Blnk) (p : List Smp) : HSpec Tryz.prog 249 [.one (.ptr 0 0)] [bSd b p] (fun r m' => r = .x (.one (.fn 304 [(1, 0)])) ∧ m' = [some (bSd b p), some (.box 241 [.ptr 0 0])]) := by
  refine spec_of pMix (O := []) Tryz.func249 (c := bodyOf Tryz.f249) rfl (by kernel_rfl) (by kernel_rfl) Tryz.ntmps249 (res := [.tmp 2]) (by kernel_rfl) ?_
  repeat' ((conv => whnf); first | refine Rng.g ?_ | refine Ob.g ?_ | refine Ob.e ?_ | refine Ob.m ?_ | refine Ob.mk (Nat.le_of_ble_eq_true rfl) ?_ | refine JoinVC.on ?_ | refine Nils.mk (fun h => ?_) ?_ | refine Val.t ?_ | refine Val.d ?_ | refine Mm.mk ?_ | (refine Br.mk (fun h => ?_) (fun h => ?_) <;> first | (exfalso; omega; done) | (exfalso; simp at h; done) | skip))
  repeat refine Mm.mk ?_
  refine EndVC.mk _ rfl _ _ ⟨rfl, rfl⟩ ?_
  refine ⟨[some 0, some 1], rfl, rfl, ?_, ?_⟩ <;> repeat' (first | exact trivial | exact rfl | exact Iff.rfl | apply And.intro)
/-- The first edges at a sample. -/
def Fj (b : Blnk) (p : List Smp) (i j : Nat) : List Edg := (if 0 < j ∧ 0 < i then [eS b i] else []) ++ (if 1 < j ∧ b.per ≤ (i : Int) then [eL b p i] else [])
theorem Fj_1 {b : Blnk} {p : List Smp} {i : Nat} (h : 0 < i) : Fj b p i 1 = Fj b p i 0 ++ [eS b i] := by simp [Fj, h]
theorem Fj_1n {b : Blnk} {p : List Smp} {i : Nat} (h : ¬ 0 < i) : Fj b p i 1 = Fj b p i 0 := by simp [Fj, h]
theorem Fj_2 {b : Blnk} {p : List Smp} {i : Nat} (h : b.per ≤ (i : Int)) : Fj b p i 2 = Fj b p i 1 ++ [eL b p i] := by simp [Fj, h]
theorem Fj_2n {b : Blnk} {p : List Smp} {i : Nat} (h : ¬ b.per ≤ (i : Int)) : Fj b p i 2 = Fj b p i 1 := by simp [Fj, h]
theorem Fj_3 (b : Blnk) (p : List Smp) (i : Nat) : Fj b p i 2 = F1 b p i := by simp [Fj, F1]
theorem Fj_mem {b : Blnk} {p : List Smp} {i j : Nat} (hi : i < p.length) (_hj : j ≤ 2) {e : Edg} (he : e ∈ E1 b p i ++ Fj b p i j) : e ∈ edgs b p := by
  rcases List.mem_append.1 he with h | h
  · obtain ⟨q, hq, h1⟩ := E1_mem.1 h
    refine edgs_mem.2 ⟨q, by omega, ?_⟩
    rcases h1 with h1 | h1
    · exact .inl h1
    · exact .inr (.inl h1)
  · unfold Fj at h
    refine edgs_mem.2 ⟨i, hi, ?_⟩
    rcases List.mem_append.1 h with h | h
    · split at h
      · rename_i h1
        exact .inl ⟨h1.2, by simpa using h⟩
      · simp at h
    · split at h
      · rename_i h1
        exact .inr (.inl ⟨h1.2, by simpa using h⟩)
      · simp at h
theorem Fj_len (b : Blnk) (p : List Smp) {i j : Nat} (hi : i < p.length) (_hj : j ≤ 2) : (E1 b p i ++ Fj b p i j).length ≤ 3 * p.length := by
  have h1 := E1_len b p i
  have h2 : (Fj b p i j).length ≤ 2 := by unfold Fj; split <;> split <;> simp
  rw [List.length_append]
  omega
theorem E2_mem' {b : Blnk} {p : List Smp} {j : Nat} (hj : j ≤ p.length - 1) {e : Edg} (he : e ∈ E1 b p p.length ++ E2 b p.length j) : e ∈ edgs b p := by
  unfold edgs
  rcases List.mem_append.1 he with h | h
  · exact List.mem_append.2 (.inl h)
  · obtain ⟨q, hq, h1⟩ := E2_mem.1 h
    exact List.mem_append.2 (.inr (E2_mem.2 ⟨q, by omega, h1⟩))
theorem E2_len' (b : Blnk) (p : List Smp) {j : Nat} (hj : j ≤ p.length - 1) : (E1 b p p.length ++ E2 b p.length j).length ≤ 3 * p.length := by
  have h1 := E1_len b p p.length
  rw [List.length_append, E2_len]
  omega
/-- What holds in the midst of a round. -/
structure RB (p : List Smp) (S : LSt) : Prop where
  lr : S.R.length = p.length
  lp : S.P.length = p.length
  bd : ∀ v, v < p.length → -9007199254740992 ≤ S.R.getD v 0 ∧ S.R.getD v 0 ≤ 8388608
theorem mid_ok {b : Blnk} {p : List Smp} (hb : BlnkOK b) (hp : PtB p) {k : Nat} {s : LSt} {L : Int} {N : Nat} {t : Nat → Nat} {T : Nat → Int} (hJ : LJp b p [] (k : Int) s L N t T) (hk : k ≤ p.length + 1) (hL : L ≤ 16777216 + 206158430208 * (k : Int)) (F : List Edg) (hF : ∀ e, e ∈ F → e ∈ edgs b p) (hl : F.length ≤ 3 * p.length) : RB p (F.foldl rlx s) := by
  obtain ⟨t', T', h⟩ := LJ.fold (by decide) (edgs_ok hb hp) F hJ hF
  have h4 := hp.len
  refine ⟨h.lr, h.lp, fun v hv => ⟨?_, ?_⟩⟩
  · have := h.lo v hv
    omega
  · have h1 := h.hi v hv
    have h2 := hp.each v hv
    have h3 := hb.rim
    unfold iniF at h1
    omega
noncomputable def rf167 : Code := cB (cS (cF (cS (cS (cC (cB (cF (cL (cB (cS (cF (cS (cS (cS (cS (bodyOf Tryz.f167))))))))))))))))
@[reducible] def bxX (x : Edg) : Blk := .box 385 [.int .i64 x.rule, .int .i64 x.pos, .int .i64 x.fr, .int .i64 x.to, .int .i64 x.w]
@[reducible] noncomputable def M8 (b : Blnk) (p : List Smp) (k : Nat) (V : LSt) : List (Option Blk) := [some (bSd b p), some (.box 282 [.nils, .nils]), some (.box 383 [.own 5]), some (.box 37 [.own 4]), some (rowRd V.R), some (rowEd V.P), some (.box 3 [.int .i64 V.c]), some (.box 241 [.ptr 0 0]), some (.loop [48] (cAs rf167) (cBo rf167) (envA 116 [(0, .x (.one (.ptr 0 0))), (2, .x (.one (.ptr 1 0))), (3, .int .i64 (p.length : Int)), (4, .x (.one (.ptr 3 0))), (5, .x (.one (.ptr 2 0))), (7, .int .i64 (k : Int)), (8, .x (.one (.ptr 6 0))), (46, .x (.one (.ptr 0 0))), (47, .x (.one (.fn 304 [(7, 0)])))]) .ready)]
@[reducible] noncomputable def M9 (b : Blnk) (p : List Smp) (k : Nat) (V : LSt) (x : Edg) : List (Option Blk) := [some (bSd b p), some (.box 282 [.nils, .nils]), some (.box 383 [.own 5]), some (.box 37 [.own 4]), some (rowRd V.R), some (rowEd V.P), some (.box 3 [.int .i64 V.c]), some (.box 241 [.ptr 0 0]), some (.loop [48] (cAs rf167) (cBo rf167) (envA 116 [(0, .x (.one (.ptr 0 0))), (2, .x (.one (.ptr 1 0))), (3, .int .i64 (p.length : Int)), (4, .x (.one (.ptr 3 0))), (5, .x (.one (.ptr 2 0))), (7, .int .i64 (k : Int)), (8, .x (.one (.ptr 6 0))), (46, .x (.one (.ptr 0 0))), (47, .x (.one (.fn 304 [(7, 0)])))]) .ready), some (bxX x)]
/-- A round: an edge is relaxed. -/
theorem rnd167 (b : Blnk) (p : List Smp) (k : Nat) (V : LSt) (x : Edg) (hl : p.length ≤ 4096) (hxE : EOK p.length 16777216 x) (hB : RB p V) : RSem Tryz.prog 8 [x.x] (M9 b p k V x) (fun bb m' => bb = true ∧ m' = M9 b p k (rlx V x) x) := by
  obtain ⟨xf, xt, xn, xw⟩ := hxE
  have gf := i64s_get V.R x.fr.toNat
  have gt := i64s_get V.R x.to.toNat
  have bf := hB.bd x.fr.toNat (by omega)
  have bt := hB.bd x.to.toNat (by omega)
  have lS1 := i64s_len V.R
  have lS2 := edgA_len V.P
  have lS3 := hB.lr
  have lS4 := hB.lp
  refine RSem.le (rsem_of_awp (Q := fun bb m' => ∃ m2, (bb = true ∧ m2 = M9 b p k (rlx V x) x) ∧ Le ⟨(M9 b p k V x).length, [], m'⟩ ⟨(M9 b p k V x).length, [], m2⟩) pMix [(2, ([4, 5], [⟨0, [], [1]⟩, ⟨2, [], [3]⟩, ⟨5, [], []⟩, ⟨4, [], []⟩, ⟨1, [], []⟩, ⟨6, [2], []⟩, ⟨3, [], []⟩, ⟨7, [], []⟩])), (6, ([], [⟨0, [], []⟩, ⟨1, [], []⟩, ⟨2, [], []⟩, ⟨3, [], []⟩, ⟨4, [0, 1], []⟩, ⟨5, [], []⟩, ⟨6, [], []⟩, ⟨7, [], []⟩, ⟨8, [], []⟩, ⟨9, [7], []⟩])), (15, ([], [⟨0, [], []⟩, ⟨1, [], []⟩, ⟨2, [], []⟩, ⟨3, [], []⟩, ⟨4, [], []⟩, ⟨5, [], []⟩, ⟨6, [], []⟩, ⟨7, [], []⟩, ⟨8, [], []⟩, ⟨9, [], []⟩, ⟨10, [], []⟩, ⟨11, [], []⟩, ⟨12, [], []⟩, ⟨13, [], []⟩, ⟨14, [], []⟩, ⟨15, [], []⟩, ⟨16, [], []⟩, ⟨17, [], []⟩, ⟨18, [3, 4, 5, 14, 15, 16], []⟩, ⟨19, [], []⟩, ⟨20, [15, 16], []⟩, ⟨21, [], []⟩]))] rfl (by kernel_rfl) ?_) (fun _ _ h => h)
  by_cases hc : V.R.getD x.to.toNat 0 ≤ V.R.getD x.fr.toNat 0 + x.w
  · have e1 : rlx V x = V := if_pos hc
    rw [e1]
    repeat' ((conv => whnf); first | rw [gf] | rw [gt] | refine Rng.g ?_ | refine Ob.g ?_ | refine Ob.e ?_ | refine Ob.m ?_ | refine Ob.mk (Nat.le_of_ble_eq_true rfl) ?_ | refine JoinVC.on ?_ | refine Nils.mk (fun h => ?_) ?_ | refine Val.t ?_ | refine Val.d ?_ | refine Mm.mk ?_ | (refine Br.mk (fun h => ?_) (fun h => ?_) <;> first | (exfalso; omega; done) | (exfalso; simp at h; done) | skip))
    refine ⟨_, ⟨rfl, rfl⟩, [some 0, some 1, some 2, some 3, some 4, some 5, some 6, some 7, some 8, some 9], rfl, rfl, ?_, ?_⟩ <;> repeat' (first | exact trivial | exact rfl | exact Iff.rfl | apply And.intro)
  · have e1 : rlx V x = ⟨V.R.set x.to.toNat (V.R.getD x.fr.toNat 0 + x.w), V.P.set x.to.toNat x, x.to⟩ := if_neg hc
    have u1 : updRow (i64s V.R) x.to.toNat 0 [Cell.int (V.R.getD x.fr.toNat 0 + x.w)] = i64s (V.R.set x.to.toNat (V.R.getD x.fr.toNat 0 + x.w)) := i64s_upd _ _ _ (by omega)
    have u2 : updRow (edgA V.P) x.to.toNat 0 [Cell.int x.rule, Cell.int x.pos, Cell.int x.fr, Cell.int x.to, Cell.int x.w] = edgA (V.P.set x.to.toNat x) := edgA_set _ _ _ (by omega)
    rw [e1]
    repeat' ((conv => whnf); first | rw [gf] | rw [gt] | rw [u1] | rw [u2] | refine Rng.g ?_ | refine Ob.g ?_ | refine Ob.e ?_ | refine Ob.m ?_ | refine Ob.mk (Nat.le_of_ble_eq_true rfl) ?_ | refine JoinVC.on ?_ | refine Nils.mk (fun h => ?_) ?_ | refine Val.t ?_ | refine Val.d ?_ | refine Mm.mk ?_ | (refine Br.mk (fun h => ?_) (fun h => ?_) <;> first | (exfalso; omega; done) | (exfalso; simp at h; done) | skip))
    refine ⟨_, ⟨rfl, rfl⟩, [some 0, some 1, some 2, some 3, some 4, some 5, some 6, some 7, some 8, some 9], rfl, rfl, ?_, ?_⟩ <;> repeat' (first | exact trivial | exact rfl | exact Iff.rfl | apply And.intro)
end Go.Sx

namespace Go.Sx
open Go Go.Proofs
set_option maxRecDepth 10000
set_option maxHeartbeats 16000000
/-- What the edges do to a search. -/
theorem it304 (b : Blnk) (p : List Smp) (hb : BlnkOK b) (hp : PtB p) (k : Nat) (s : LSt) (hM : ∀ F : List Edg, (∀ e, e ∈ F → e ∈ edgs b p) → F.length ≤ 3 * p.length → RB p (F.foldl rlx s)) : ISem Tryz.prog 304 [.one (.yld 8), .one (.ptr 7 0)] (M8 b p k s) (fun m' => m' = M8 b p k ((edgs b p).foldl rlx s)) := by
  have lp := smpA_len p
  have hl := hp.len
  obtain ⟨Z, hZ⟩ : ∃ Z, (edgs b p).foldl rlx s = Z := ⟨_, rfl⟩
  rw [hZ]
  refine ISem.le (isem_of_awp (Q := fun m' => ∃ m2, m2 = M8 b p k Z ∧ Le ⟨(M8 b p k s).length, [], m'⟩ ⟨(M8 b p k s).length, [], m2⟩) pMix [] Tryz.func304 (c := bodyOf Tryz.f304) rfl (by kernel_rfl) Tryz.ntmps304 (by kernel_rfl) ?_) (fun _ h => h)
  repeat' ((conv => whnf); first | refine Rng.g ?_ | refine Ob.g ?_ | refine Ob.e ?_ | refine Ob.m ?_ | refine Ob.mk (Nat.le_of_ble_eq_true rfl) ?_ | refine JoinVC.on ?_ | refine Nils.mk (fun h => ?_) ?_ | refine Val.t ?_ | refine Val.d ?_ | refine Mm.mk ?_ | (refine Br.mk (fun h => ?_) (fun h => ?_) <;> first | (exfalso; omega; done) | (exfalso; simp at h; done) | skip))
  refine LoopVC.mk (fun m st => ∃ (i : Nat) (S : LSt), i ≤ p.length ∧ m = p.length - i ∧ S = (E1 b p i).foldl rlx s ∧ st = ⟨9, envA 60 [(0, .x (.one (.yld 8))), (1, .x (.one (.ptr 7 0))), (3, .int .i64 (p.length : Int)), (17, .int .i64 (p.length : Int)), (18, .int .i64 (i : Int))], [some (bSd b p), some (.box 282 [.nils, .nils]), some (.box 383 [.own 5]), some (.box 37 [.own 4]), some (rowRd S.R), some (rowEd S.P), some (.box 3 [.int .i64 S.c]), some (.box 241 [.ptr 0 0]), some (.loop [48] (cAs rf167) (cBo rf167) (envA 116 [(0, .x (.one (.ptr 0 0))), (2, .x (.one (.ptr 1 0))), (3, .int .i64 (p.length : Int)), (4, .x (.one (.ptr 3 0))), (5, .x (.one (.ptr 2 0))), (7, .int .i64 (k : Int)), (8, .x (.one (.ptr 6 0))), (46, .x (.one (.ptr 0 0))), (47, .x (.one (.fn 304 [(7, 0)])))]) .ready)]⟩) _ _ ⟨0, s, Nat.zero_le _, rfl, rfl, rfl⟩ ?_ ?_
  · refine ⟨[some 0, some 1, some 2, some 3, some 4, some 5, some 6, some 7, some 8], rfl, rfl, ?_, ?_⟩ <;> repeat' (first | exact trivial | exact rfl | exact Iff.rfl | apply And.intro)
    all_goals exact congrArg Int.ofNat lp
  rintro m _ ⟨i, S, hi, hm, hS, rfl⟩
  by_cases hi' : i < p.length
  · repeat' ((conv => whnf); first | refine Rng.g ?_ | refine Ob.g ?_ | refine Ob.e ?_ | refine Ob.m ?_ | refine Ob.mk (Nat.le_of_ble_eq_true rfl) ?_ | refine JoinVC.on ?_ | refine Nils.mk (fun h => ?_) ?_ | refine Val.t ?_ | refine Val.d ?_ | refine Mm.mk ?_ | (refine Br.mk (fun h => ?_) (fun h => ?_) <;> first | (exfalso; omega; done) | (exfalso; simp at h; done) | skip))
    refine LoopVC.mk (fun m st => ∃ (j : Nat) (V : LSt), j ≤ 2 ∧ m = 2 - j ∧ V = (Fj b p i j).foldl rlx S ∧ st = ⟨9, envA 60 [(0, .x (.one (.yld 8))), (1, .x (.one (.ptr 7 0))), (3, .int .i64 (p.length : Int)), (17, .int .i64 (p.length : Int)), (18, .int .i64 (i : Int)), (4, .int .i64 (i : Int)), (21, .x (.agg [.int .i64 3, .int .i64 5])), (22, .int .i64 (j : Int))], [some (bSd b p), some (.box 282 [.nils, .nils]), some (.box 383 [.own 5]), some (.box 37 [.own 4]), some (rowRd V.R), some (rowEd V.P), some (.box 3 [.int .i64 V.c]), some (.box 241 [.ptr 0 0]), some (.loop [48] (cAs rf167) (cBo rf167) (envA 116 [(0, .x (.one (.ptr 0 0))), (2, .x (.one (.ptr 1 0))), (3, .int .i64 (p.length : Int)), (4, .x (.one (.ptr 3 0))), (5, .x (.one (.ptr 2 0))), (7, .int .i64 (k : Int)), (8, .x (.one (.ptr 6 0))), (46, .x (.one (.ptr 0 0))), (47, .x (.one (.fn 304 [(7, 0)])))]) .ready)]⟩) _ _ ⟨0, S, by decide, rfl, rfl, rfl⟩ ?_ ?_
    · refine ⟨[some 0, some 1, some 2, some 3, some 4, some 5, some 6, some 7, some 8], rfl, rfl, ?_, ?_⟩ <;> repeat' (first | exact trivial | exact rfl | exact Iff.rfl | apply And.intro)
    rintro m' _ ⟨j, V, hj, hm', hV, rfl⟩
    have hB : RB p V := by
      rw [hV, hS, ← List.foldl_append]
      exact hM _ (fun e he => Fj_mem hi' hj he) (Fj_len b p hi' hj)
    have hjc : j = 0 ∨ j = 1 ∨ j = 2 := by omega
    rcases hjc with rfl | rfl | rfl
    · by_cases h0 : 0 < i
      · skip
        obtain ⟨x, hx⟩ : ∃ x, x = eS b i := ⟨_, rfl⟩
        have cx := s248S b p hb hp i hi'
        rw [← hx] at cx
        have hxE : EOK p.length 16777216 x := hx ▸ edgs_ok hb hp _ (edgs_mem.2 ⟨i, hi', .inl ⟨h0, rfl⟩⟩)
        repeat' ((conv => whnf); first | refine Rng.g ?_ | refine Ob.g ?_ | refine Ob.e ?_ | refine Ob.m ?_ | refine Ob.mk (Nat.le_of_ble_eq_true rfl) ?_ | refine JoinVC.on ?_ | refine Nils.mk (fun h => ?_) ?_ | refine Val.t ?_ | refine Val.d ?_ | refine Mm.mk ?_ | (refine Br.mk (fun h => ?_) (fun h => ?_) <;> first | (exfalso; omega; done) | (exfalso; simp at h; done) | skip))
        conv => whnf
        refine CallVC.mk [0] _ _ _ rfl rfl rfl (cx) (fun r m' h' => ?_)
        obtain ⟨rfl, rfl⟩ := h'
        conv => whnf
        repeat' ((conv => whnf); first | refine Rng.g ?_ | refine Ob.g ?_ | refine Ob.e ?_ | refine Ob.m ?_ | refine Ob.mk (Nat.le_of_ble_eq_true rfl) ?_ | refine JoinVC.on ?_ | refine Nils.mk (fun h => ?_) ?_ | refine Val.t ?_ | refine Val.d ?_ | refine Mm.mk ?_ | (refine Br.mk (fun h => ?_) (fun h => ?_) <;> first | (exfalso; omega; done) | (exfalso; simp at h; done) | skip))
        refine YieldVC.of (rnd167 b p k V x hl hxE hB) ?_
        repeat' ((conv => whnf); first | refine Rng.g ?_ | refine Ob.g ?_ | refine Ob.e ?_ | refine Ob.m ?_ | refine Ob.mk (Nat.le_of_ble_eq_true rfl) ?_ | refine JoinVC.on ?_ | refine Nils.mk (fun h => ?_) ?_ | refine Val.t ?_ | refine Val.d ?_ | refine Mm.mk ?_ | (refine Br.mk (fun h => ?_) (fun h => ?_) <;> first | (exfalso; omega; done) | (exfalso; simp at h; done) | skip))
        refine Back.mk (2 - 1) _ (by omega) ⟨1, rlx V x, by omega, rfl, ?_, rfl⟩ ?_
        · rw [Fj_1 h0, List.foldl_append, ← hV, hx]; rfl
        · refine ⟨[some 0, some 1, some 2, some 3, some 4, some 5, some 6, some 7, some 8], rfl, rfl, ?_, ?_⟩ <;> repeat' (first | exact trivial | exact rfl | exact Iff.rfl | apply And.intro)
      · have cx := s248S b p hb hp i hi'
        repeat' ((conv => whnf); first | refine Rng.g ?_ | refine Ob.g ?_ | refine Ob.e ?_ | refine Ob.m ?_ | refine Ob.mk (Nat.le_of_ble_eq_true rfl) ?_ | refine JoinVC.on ?_ | refine Nils.mk (fun h => ?_) ?_ | refine Val.t ?_ | refine Val.d ?_ | refine Mm.mk ?_ | (refine Br.mk (fun h => ?_) (fun h => ?_) <;> first | (exfalso; omega; done) | (exfalso; simp at h; done) | skip))
        conv => whnf
        refine CallVC.mk [0] _ _ _ rfl rfl rfl (cx) (fun r m' h' => ?_)
        obtain ⟨rfl, rfl⟩ := h'
        conv => whnf
        repeat' ((conv => whnf); first | refine Rng.g ?_ | refine Ob.g ?_ | refine Ob.e ?_ | refine Ob.m ?_ | refine Ob.mk (Nat.le_of_ble_eq_true rfl) ?_ | refine JoinVC.on ?_ | refine Nils.mk (fun h => ?_) ?_ | refine Val.t ?_ | refine Val.d ?_ | refine Mm.mk ?_ | (refine Br.mk (fun h => ?_) (fun h => ?_) <;> first | (exfalso; omega; done) | (exfalso; simp at h; done) | skip))
        refine Back.mk (2 - 1) _ (by omega) ⟨1, V, by omega, rfl, ?_, rfl⟩ ?_
        · rw [Fj_1n h0]; exact hV
        · refine ⟨[some 0, some 1, some 2, some 3, some 4, some 5, some 6, some 7, some 8], rfl, rfl, ?_, ?_⟩ <;> repeat' (first | exact trivial | exact rfl | exact Iff.rfl | apply And.intro)
    · by_cases h0 : b.per ≤ (i : Int)
      · skip
        obtain ⟨x, hx⟩ : ∃ x, x = eL b p i := ⟨_, rfl⟩
        have cx := s248L b p hb hp i hi' h0
        rw [← hx] at cx
        have hxE : EOK p.length 16777216 x := hx ▸ edgs_ok hb hp _ (edgs_mem.2 ⟨i, hi', .inr (.inl ⟨h0, rfl⟩)⟩)
        repeat' ((conv => whnf); first | refine Rng.g ?_ | refine Ob.g ?_ | refine Ob.e ?_ | refine Ob.m ?_ | refine Ob.mk (Nat.le_of_ble_eq_true rfl) ?_ | refine JoinVC.on ?_ | refine Nils.mk (fun h => ?_) ?_ | refine Val.t ?_ | refine Val.d ?_ | refine Mm.mk ?_ | (refine Br.mk (fun h => ?_) (fun h => ?_) <;> first | (exfalso; omega; done) | (exfalso; simp at h; done) | skip))
        conv => whnf
        refine CallVC.mk [0] _ _ _ rfl rfl rfl (cx) (fun r m' h' => ?_)
        obtain ⟨rfl, rfl⟩ := h'
        conv => whnf
        repeat' ((conv => whnf); first | refine Rng.g ?_ | refine Ob.g ?_ | refine Ob.e ?_ | refine Ob.m ?_ | refine Ob.mk (Nat.le_of_ble_eq_true rfl) ?_ | refine JoinVC.on ?_ | refine Nils.mk (fun h => ?_) ?_ | refine Val.t ?_ | refine Val.d ?_ | refine Mm.mk ?_ | (refine Br.mk (fun h => ?_) (fun h => ?_) <;> first | (exfalso; omega; done) | (exfalso; simp at h; done) | skip))
        refine YieldVC.of (rnd167 b p k V x hl hxE hB) ?_
        repeat' ((conv => whnf); first | refine Rng.g ?_ | refine Ob.g ?_ | refine Ob.e ?_ | refine Ob.m ?_ | refine Ob.mk (Nat.le_of_ble_eq_true rfl) ?_ | refine JoinVC.on ?_ | refine Nils.mk (fun h => ?_) ?_ | refine Val.t ?_ | refine Val.d ?_ | refine Mm.mk ?_ | (refine Br.mk (fun h => ?_) (fun h => ?_) <;> first | (exfalso; omega; done) | (exfalso; simp at h; done) | skip))
        refine Back.mk (2 - 2) _ (by omega) ⟨2, rlx V x, by omega, rfl, ?_, rfl⟩ ?_
        · rw [Fj_2 h0, List.foldl_append, ← hV, hx]; rfl
        · refine ⟨[some 0, some 1, some 2, some 3, some 4, some 5, some 6, some 7, some 8], rfl, rfl, ?_, ?_⟩ <;> repeat' (first | exact trivial | exact rfl | exact Iff.rfl | apply And.intro)
      · have cx := s248N b p hb hp i hi' (by omega)
        repeat' ((conv => whnf); first | refine Rng.g ?_ | refine Ob.g ?_ | refine Ob.e ?_ | refine Ob.m ?_ | refine Ob.mk (Nat.le_of_ble_eq_true rfl) ?_ | refine JoinVC.on ?_ | refine Nils.mk (fun h => ?_) ?_ | refine Val.t ?_ | refine Val.d ?_ | refine Mm.mk ?_ | (refine Br.mk (fun h => ?_) (fun h => ?_) <;> first | (exfalso; omega; done) | (exfalso; simp at h; done) | skip))
        conv => whnf
        refine CallVC.mk [0] _ _ _ rfl rfl rfl (cx) (fun r m' h' => ?_)
        obtain ⟨rfl, rfl⟩ := h'
        conv => whnf
        repeat' ((conv => whnf); first | refine Rng.g ?_ | refine Ob.g ?_ | refine Ob.e ?_ | refine Ob.m ?_ | refine Ob.mk (Nat.le_of_ble_eq_true rfl) ?_ | refine JoinVC.on ?_ | refine Nils.mk (fun h => ?_) ?_ | refine Val.t ?_ | refine Val.d ?_ | refine Mm.mk ?_ | (refine Br.mk (fun h => ?_) (fun h => ?_) <;> first | (exfalso; omega; done) | (exfalso; simp at h; done) | skip))
        refine Back.mk (2 - 2) _ (by omega) ⟨2, V, by omega, rfl, ?_, rfl⟩ ?_
        · rw [Fj_2n h0]; exact hV
        · refine ⟨[some 0, some 1, some 2, some 3, some 4, some 5, some 6, some 7, some 8], rfl, rfl, ?_, ?_⟩ <;> repeat' (first | exact trivial | exact rfl | exact Iff.rfl | apply And.intro)
    · repeat' ((conv => whnf); first | refine Rng.g ?_ | refine Ob.g ?_ | refine Ob.e ?_ | refine Ob.m ?_ | refine Ob.mk (Nat.le_of_ble_eq_true rfl) ?_ | refine JoinVC.on ?_ | refine Nils.mk (fun h => ?_) ?_ | refine Val.t ?_ | refine Val.d ?_ | refine Mm.mk ?_ | (refine Br.mk (fun h => ?_) (fun h => ?_) <;> first | (exfalso; omega; done) | (exfalso; simp at h; done) | skip))
      refine Back.mk (p.length - (i + 1)) _ (by omega) ⟨i + 1, V, by omega, rfl, ?_, rfl⟩ ?_
      · rw [E1_succ, List.foldl_append, ← hS, ← Fj_3]; exact hV
      · refine ⟨[some 0, some 1, some 2, some 3, some 4, some 5, some 6, some 7, some 8], rfl, rfl, ?_, ?_⟩ <;> repeat' (first | exact trivial | exact rfl | exact Iff.rfl | apply And.intro)
  have ei : i = p.length := by omega
  subst ei
  repeat' ((conv => whnf); first | refine Rng.g ?_ | refine Ob.g ?_ | refine Ob.e ?_ | refine Ob.m ?_ | refine Ob.mk (Nat.le_of_ble_eq_true rfl) ?_ | refine JoinVC.on ?_ | refine Nils.mk (fun h => ?_) ?_ | refine Val.t ?_ | refine Val.d ?_ | refine Mm.mk ?_ | (refine Br.mk (fun h => ?_) (fun h => ?_) <;> first | (exfalso; omega; done) | (exfalso; simp at h; done) | skip))
  refine LoopVC.mk (fun m st => ∃ (j : Nat) (V : LSt), j ≤ p.length - 1 ∧ m = p.length - 1 - j ∧ V = (E2 b p.length j).foldl rlx S ∧ st = ⟨9, envA 60 [(0, .x (.one (.yld 8))), (1, .x (.one (.ptr 7 0))), (3, .int .i64 (p.length : Int)), (9, .int .i64 ((p.length : Int) - 1 - (j : Int)))], [some (bSd b p), some (.box 282 [.nils, .nils]), some (.box 383 [.own 5]), some (.box 37 [.own 4]), some (rowRd V.R), some (rowEd V.P), some (.box 3 [.int .i64 V.c]), some (.box 241 [.ptr 0 0]), some (.loop [48] (cAs rf167) (cBo rf167) (envA 116 [(0, .x (.one (.ptr 0 0))), (2, .x (.one (.ptr 1 0))), (3, .int .i64 (p.length : Int)), (4, .x (.one (.ptr 3 0))), (5, .x (.one (.ptr 2 0))), (7, .int .i64 (k : Int)), (8, .x (.one (.ptr 6 0))), (46, .x (.one (.ptr 0 0))), (47, .x (.one (.fn 304 [(7, 0)])))]) .ready)]⟩) _ _ ⟨0, S, by omega, rfl, rfl, rfl⟩ ?_ ?_
  · refine ⟨[some 0, some 1, some 2, some 3, some 4, some 5, some 6, some 7, some 8], rfl, rfl, ?_, ?_⟩ <;> repeat' (first | exact trivial | exact rfl | exact Iff.rfl | apply And.intro)
    all_goals first | exact congrArg Int.ofNat lp | omega
  rintro m' _ ⟨j, V, hj, hm', hV, rfl⟩
  have hB : RB p V := by
    rw [hV, hS, ← List.foldl_append]
    exact hM _ (fun e he => E2_mem' hj he) (E2_len' b p hj)
  by_cases hj' : j < p.length - 1
  · obtain ⟨q, hq⟩ : ∃ q, q = p.length - 1 - j := ⟨_, rfl⟩
    have hqi : (p.length : Int) - 1 - (j : Int) = (q : Int) := by omega
    rw [hqi]
    obtain ⟨x, hx⟩ : ∃ x, x = eF b q := ⟨_, rfl⟩
    have cx := s248F b p hb hp q (by omega)
    rw [← hx] at cx
    have hxE : EOK p.length 16777216 x := hx ▸ edgs_ok hb hp _ (edgs_mem.2 ⟨q, by omega, .inr (.inr ⟨by omega, rfl⟩)⟩)
    repeat' ((conv => whnf); first | refine Rng.g ?_ | refine Ob.g ?_ | refine Ob.e ?_ | refine Ob.m ?_ | refine Ob.mk (Nat.le_of_ble_eq_true rfl) ?_ | refine JoinVC.on ?_ | refine Nils.mk (fun h => ?_) ?_ | refine Val.t ?_ | refine Val.d ?_ | refine Mm.mk ?_ | (refine Br.mk (fun h => ?_) (fun h => ?_) <;> first | (exfalso; omega; done) | (exfalso; simp at h; done) | skip))
    conv => whnf
    refine CallVC.mk [0] _ _ _ rfl rfl rfl (cx) (fun r m' h' => ?_)
    obtain ⟨rfl, rfl⟩ := h'
    conv => whnf
    repeat' ((conv => whnf); first | refine Rng.g ?_ | refine Ob.g ?_ | refine Ob.e ?_ | refine Ob.m ?_ | refine Ob.mk (Nat.le_of_ble_eq_true rfl) ?_ | refine JoinVC.on ?_ | refine Nils.mk (fun h => ?_) ?_ | refine Val.t ?_ | refine Val.d ?_ | refine Mm.mk ?_ | (refine Br.mk (fun h => ?_) (fun h => ?_) <;> first | (exfalso; omega; done) | (exfalso; simp at h; done) | skip))
    refine YieldVC.of (rnd167 b p k V x hl hxE hB) ?_
    repeat' ((conv => whnf); first | refine Rng.g ?_ | refine Ob.g ?_ | refine Ob.e ?_ | refine Ob.m ?_ | refine Ob.mk (Nat.le_of_ble_eq_true rfl) ?_ | refine JoinVC.on ?_ | refine Nils.mk (fun h => ?_) ?_ | refine Val.t ?_ | refine Val.d ?_ | refine Mm.mk ?_ | (refine Br.mk (fun h => ?_) (fun h => ?_) <;> first | (exfalso; omega; done) | (exfalso; simp at h; done) | skip))
    refine Back.mk (p.length - 1 - (j + 1)) _ (by omega) ⟨j + 1, rlx V x, by omega, rfl, ?_, rfl⟩ ?_
    · rw [E2_succ, List.foldl_append, ← hV, hx, hq]; rfl
    · refine ⟨[some 0, some 1, some 2, some 3, some 4, some 5, some 6, some 7, some 8], rfl, rfl, ?_, ?_⟩ <;> repeat' (first | exact trivial | exact rfl | exact Iff.rfl | apply And.intro)
      all_goals omega
  have ej : j = p.length - 1 := by omega
  subst ej
  have eV : V = Z := by
    rw [← hZ]
    unfold edgs
    rw [List.foldl_append, ← hS]
    exact hV
  subst eV
  repeat' ((conv => whnf); first | refine Rng.g ?_ | refine Ob.g ?_ | refine Ob.e ?_ | refine Ob.m ?_ | refine Ob.mk (Nat.le_of_ble_eq_true rfl) ?_ | refine JoinVC.on ?_ | refine Nils.mk (fun h => ?_) ?_ | refine Val.t ?_ | refine Val.d ?_ | refine Mm.mk ?_ | (refine Br.mk (fun h => ?_) (fun h => ?_) <;> first | (exfalso; omega; done) | (exfalso; simp at h; done) | skip))
  refine ⟨_, rfl, [some 0, some 1, some 2, some 3, some 4, some 5, some 6, some 7, some 8], rfl, rfl, ?_, ?_⟩ <;> repeat' (first | exact trivial | exact rfl | exact Iff.rfl | apply And.intro)
end Go.Sx

namespace Go.Sx
open Go Go.Proofs
set_option maxRecDepth 10000
set_option maxHeartbeats 16000000
theorem s167 (b : Blnk) (p : List Smp) (hb : BlnkOK b) (hp : PtB p) : HSpec Tryz.prog 167 [.one (.ptr 0 0)] [bSd b p] (SeRs b p) := by
  have lp := smpA_len p
  have hl := hp.len
  refine spec_of pMix (O := [(2, ([4, 5], [⟨0, [], [1]⟩, ⟨2, [], [3]⟩, ⟨5, [], []⟩, ⟨4, [], []⟩, ⟨1, [], []⟩, ⟨6, [2], []⟩, ⟨3, [], []⟩, ⟨7, [], []⟩])), (6, ([], [⟨0, [], []⟩, ⟨1, [], []⟩, ⟨2, [], []⟩, ⟨3, [], []⟩, ⟨4, [0, 1], []⟩, ⟨5, [], []⟩, ⟨6, [], []⟩, ⟨7, [], []⟩, ⟨8, [], []⟩, ⟨9, [7], []⟩])), (15, ([], [⟨0, [], []⟩, ⟨1, [], []⟩, ⟨2, [], []⟩, ⟨3, [], []⟩, ⟨4, [], []⟩, ⟨5, [], []⟩, ⟨6, [], []⟩, ⟨7, [], []⟩, ⟨8, [], []⟩, ⟨9, [], []⟩, ⟨10, [], []⟩, ⟨11, [], []⟩, ⟨12, [], []⟩, ⟨13, [], []⟩, ⟨14, [], []⟩, ⟨15, [], []⟩, ⟨16, [], []⟩, ⟨17, [], []⟩, ⟨18, [3, 4, 5, 14, 15, 16], []⟩, ⟨19, [], []⟩, ⟨20, [15, 16], []⟩, ⟨21, [], []⟩]))]) Tryz.func167 (c := bodyOf Tryz.f167) rfl (by kernel_rfl) (by kernel_rfl) Tryz.ntmps167 (res := [.cell 2 282]) (by kernel_rfl) ?_
  repeat' ((conv => whnf); first | refine Rng.g ?_ | refine Ob.g ?_ | refine Ob.e ?_ | refine Ob.m ?_ | refine Ob.mk (Nat.le_of_ble_eq_true rfl) ?_ | refine JoinVC.on ?_ | refine Nils.mk (fun h => ?_) ?_ | refine Val.t ?_ | refine Val.d ?_ | refine Mm.mk ?_ | (refine Br.mk (fun h => ?_) (fun h => ?_) <;> first | (exfalso; omega; done) | (exfalso; simp at h; done) | skip))
  repeat refine Mm.mk ?_
  refine Ob.mk (by rw [eb2]; omega) ?_
  repeat' ((conv => whnf); first | refine Rng.g ?_ | refine Ob.g ?_ | refine Ob.e ?_ | refine Ob.m ?_ | refine Ob.mk (Nat.le_of_ble_eq_true rfl) ?_ | refine JoinVC.on ?_ | refine Nils.mk (fun h => ?_) ?_ | refine Val.t ?_ | refine Val.d ?_ | refine Mm.mk ?_ | (refine Br.mk (fun h => ?_) (fun h => ?_) <;> first | (exfalso; omega; done) | (exfalso; simp at h; done) | skip))
  repeat refine Mm.mk ?_
  refine Ob.mk (by rw [eb385]; omega) ?_
  repeat' ((conv => whnf); first | refine Rng.g ?_ | refine Ob.g ?_ | refine Ob.e ?_ | refine Ob.m ?_ | refine Ob.mk (Nat.le_of_ble_eq_true rfl) ?_ | refine JoinVC.on ?_ | refine Nils.mk (fun h => ?_) ?_ | refine Val.t ?_ | refine Val.d ?_ | refine Mm.mk ?_ | (refine Br.mk (fun h => ?_) (fun h => ?_) <;> first | (exfalso; omega; done) | (exfalso; simp at h; done) | skip))
  repeat refine Mm.mk ?_
  refine Ob.mk (by rw [eb2]; omega) ?_
  repeat' ((conv => whnf); first | refine Rng.g ?_ | refine Ob.g ?_ | refine Ob.e ?_ | refine Ob.m ?_ | refine Ob.mk (Nat.le_of_ble_eq_true rfl) ?_ | refine JoinVC.on ?_ | refine Nils.mk (fun h => ?_) ?_ | refine Val.t ?_ | refine Val.d ?_ | refine Mm.mk ?_ | (refine Br.mk (fun h => ?_) (fun h => ?_) <;> first | (exfalso; omega; done) | (exfalso; simp at h; done) | skip))
  repeat refine Mm.mk ?_
  refine Ob.mk (by rw [eb385]; omega) ?_
  repeat' ((conv => whnf); first | refine Rng.g ?_ | refine Ob.g ?_ | refine Ob.e ?_ | refine Ob.m ?_ | refine Ob.mk (Nat.le_of_ble_eq_true rfl) ?_ | refine JoinVC.on ?_ | refine Nils.mk (fun h => ?_) ?_ | refine Val.t ?_ | refine Val.d ?_ | refine Mm.mk ?_ | (refine Br.mk (fun h => ?_) (fun h => ?_) <;> first | (exfalso; omega; done) | (exfalso; simp at h; done) | skip))
  refine LoopVC.mk (fun m st => ∃ (i : Nat) (R : List Int) (P : List Edg), i ≤ p.length ∧ m = p.length - i ∧ R.length = p.length ∧ P.length = p.length ∧ (∀ j, j < i → R.getD j 0 = iniF b p j ∧ P.getD j e0 = eR b p j) ∧ st = ⟨1, envA 116 [(0, .x (.one (.ptr 0 0))), (2, .x (.one (.ptr 1 0))), (3, .int .i64 (p.length : Int)), (4, .x (.one (.ptr 3 0))), (5, .x (.one (.ptr 2 0))), (22, .int .i64 (p.length : Int)), (23, .int .i64 (i : Int))], [some (bSd b p), some (.box 282 [.nils, .nils]), some (.box 383 [.own 5]), some (.box 37 [.own 4]), some (rowRd R), some (rowEd P)]⟩) _ _ ⟨0, List.replicate p.length 0, List.replicate p.length e0, Nat.zero_le _, rfl, List.length_replicate, List.length_replicate, fun j hj => absurd hj (Nat.not_lt_zero j), rfl⟩ ?_ ?_
  · refine ⟨[some 0, some 1, some 2, some 3, some 4, some 5], rfl, rfl, ?_, ?_⟩ <;> repeat' (first | exact trivial | exact rfl | exact Iff.rfl | apply And.intro)
    all_goals first
      | exact congrArg Int.ofNat lp
      | (rw [lp, Int.toNat_natCast]; first | exact i64s_rep _ | exact edgA_rep _)
  rintro m _ ⟨i, R, P, hi, hm, lR, lP, hj, rfl⟩
  have lr := i64s_len R
  have le := edgA_len P
  by_cases hi' : i < p.length
  · have u1 : updRow (edgA P) (i : Int).toNat 0 [Cell.int (eR b p i).rule, Cell.int (eR b p i).pos, Cell.int (eR b p i).fr, Cell.int (eR b p i).to, Cell.int (eR b p i).w] = edgA (P.set i (eR b p i)) := by
      rw [Int.toNat_natCast]
      exact edgA_set P i _ (by omega)
    have le2 := edgA_len (P.set i (eR b p i))
    have lP2 : (P.set i (eR b p i)).length = P.length := List.length_set
    have g4 : rI (edgA (P.set i (eR b p i))) (i : Int).toNat (0 + (0 + 1 + 1 + 1 + 1)) = (eR b p i).w := by
      rw [Int.toNat_natCast]
      exact (edgA_4 _ i).trans (by rw [gset _ _ _ _ _ (by omega), if_pos rfl])
    have u2 : updRow (i64s R) (i : Int).toNat 0 [Cell.int (eR b p i).w] = i64s (R.set i (eR b p i).w) := by
      rw [Int.toNat_natCast]
      exact i64s_upd R i _ (by omega)
    repeat' ((conv => whnf); first | refine Rng.g ?_ | refine Ob.g ?_ | refine Ob.e ?_ | refine Ob.m ?_ | refine Ob.mk (Nat.le_of_ble_eq_true rfl) ?_ | refine JoinVC.on ?_ | refine Nils.mk (fun h => ?_) ?_ | refine Val.t ?_ | refine Val.d ?_ | refine Mm.mk ?_ | (refine Br.mk (fun h => ?_) (fun h => ?_) <;> first | (exfalso; omega; done) | (exfalso; simp at h; done) | skip))
    conv => whnf
    refine CallVC0.on [0] _ _ _ rfl rfl rfl rfl (s248R b p hb hp i hi') (fun r m' h' => ?_)
    obtain ⟨rfl, rfl⟩ := h'
    conv => whnf
    repeat' ((conv => whnf); first | rw [u1] | rw [g4] | rw [u2] | refine Rng.g ?_ | refine Ob.g ?_ | refine Ob.e ?_ | refine Ob.m ?_ | refine Ob.mk (Nat.le_of_ble_eq_true rfl) ?_ | refine JoinVC.on ?_ | refine Nils.mk (fun h => ?_) ?_ | refine Val.t ?_ | refine Val.d ?_ | refine Mm.mk ?_ | (refine Br.mk (fun h => ?_) (fun h => ?_) <;> first | (exfalso; omega; done) | (exfalso; simp at h; done) | skip))
    refine Back.mk (p.length - (i + 1)) _ (by omega) ⟨i + 1, R.set i (eR b p i).w, P.set i (eR b p i), by omega, rfl, by rw [List.length_set]; exact lR, lP2.trans lP, fun j hj' => ?_, rfl⟩ ?_
    · rw [gset _ _ _ _ _ (by omega), gset _ _ _ _ _ (by omega)]
      by_cases hji : j = i
      · rw [if_pos hji, if_pos hji, hji]
        exact ⟨rfl, rfl⟩
      · rw [if_neg hji, if_neg hji]
        exact hj j (by omega)
    · refine ⟨[some 0, some 1, some 2, some 3, some 4, some 5], rfl, rfl, ?_, ?_⟩ <;> repeat' (first | exact trivial | exact rfl | exact Iff.rfl | apply And.intro)
  have ei : i = p.length := by omega
  subst ei
  have h0 := LJ.start hb hp lR lP (fun v hv => (hj v hv).1) (fun v hv => (hj v hv).2)
  repeat' ((conv => whnf); first | refine Rng.g ?_ | refine Ob.g ?_ | refine Ob.e ?_ | refine Ob.m ?_ | refine Ob.mk (Nat.le_of_ble_eq_true rfl) ?_ | refine JoinVC.on ?_ | refine Nils.mk (fun h => ?_) ?_ | refine Val.t ?_ | refine Val.d ?_ | refine Mm.mk ?_ | (refine Br.mk (fun h => ?_) (fun h => ?_) <;> first | (exfalso; omega; done) | (exfalso; simp at h; done) | skip))
  refine LoopVC.mk (fun m st => ∃ (k : Nat) (R : List Int) (P : List Edg) (L : Int) (N : Nat) (t : Nat → Nat) (T : Nat → Int), k ≤ p.length + 1 ∧ m = p.length + 1 - k ∧ LJp b p [] (k : Int) ⟨R, P, -1⟩ L N t T ∧ (L ≤ 16777216 + 206158430208 * (k : Int) ∧ N ≤ 12288 * k) ∧ st = ⟨1, envA 116 [(0, .x (.one (.ptr 0 0))), (2, .x (.one (.ptr 1 0))), (3, .int .i64 (p.length : Int)), (4, .x (.one (.ptr 3 0))), (5, .x (.one (.ptr 2 0))), (7, .int .i64 (k : Int))], [some (bSd b p), some (.box 282 [.nils, .nils]), some (.box 383 [.own 5]), some (.box 37 [.own 4]), some (rowRd R), some (rowEd P)]⟩) _ _ ⟨0, R, P, _, _, _, _, Nat.zero_le _, rfl, h0, ⟨by omega, by omega⟩, rfl⟩ ?_ ?_
  · refine ⟨[some 0, some 1, some 2, some 3, some 4, some 5], rfl, rfl, ?_, ?_⟩ <;> repeat' (first | exact trivial | exact rfl | exact Iff.rfl | apply And.intro)
  clear h0 hj lR lP lr le R P
  rintro m _ ⟨k, R, P, L, N, t, T, hk, hm, hJ, ⟨hL, hN⟩, rfl⟩
  have lR : R.length = p.length := hJ.lr
  have lP : P.length = p.length := hJ.lp
  repeat' ((conv => whnf); first | refine Rng.g ?_ | refine Ob.g ?_ | refine Ob.e ?_ | refine Ob.m ?_ | refine Ob.mk (Nat.le_of_ble_eq_true rfl) ?_ | refine JoinVC.on ?_ | refine Nils.mk (fun h => ?_) ?_ | refine Val.t ?_ | refine Val.d ?_ | refine Mm.mk ?_ | (refine Br.mk (fun h => ?_) (fun h => ?_) <;> first | (exfalso; omega; done) | (exfalso; simp at h; done) | skip))
  conv => whnf
  refine CallVC.mk [0] _ _ _ rfl rfl rfl (s249 b p) (fun r m' h' => ?_)
  obtain ⟨rfl, rfl⟩ := h'
  conv => whnf
  repeat' ((conv => whnf); first | refine Rng.g ?_ | refine Ob.g ?_ | refine Ob.e ?_ | refine Ob.m ?_ | refine Ob.mk (Nat.le_of_ble_eq_true rfl) ?_ | refine JoinVC.on ?_ | refine Nils.mk (fun h => ?_) ?_ | refine Val.t ?_ | refine Val.d ?_ | refine Mm.mk ?_ | (refine Br.mk (fun h => ?_) (fun h => ?_) <;> first | (exfalso; omega; done) | (exfalso; simp at h; done) | skip))
  change RangeVC _ _ _ _ _
  have hM : ∀ F : List Edg, (∀ e, e ∈ F → e ∈ edgs b p) → F.length ≤ 3 * p.length → RB p (F.foldl rlx ⟨R, P, -1⟩) := fun F h1 h2 => mid_ok hb hp hJ hk hL F h1 h2
  refine RangeVC.of e304 (it304 b p hb hp k ⟨R, P, -1⟩ hM) ?_
  rintro _ rfl
  obtain ⟨t', T', hJ'⟩ := LJ.fold (by decide) (edgs_ok hb hp) (edgs b p) hJ (fun e h => h)
  have hE := edgs_len b p
  have hB := hM (edgs b p) (fun e h => h) hE
  obtain ⟨Z, hZ⟩ : ∃ Z, (edgs b p).foldl rlx ⟨R, P, -1⟩ = Z := ⟨_, rfl⟩
  rw [hZ] at hJ' hB ⊢
  clear hZ hM hJ lR lP
  obtain ⟨ZR, ZP, Zc⟩ := Z
  have lZ1 : ZR.length = p.length := hJ'.lr
  have lZ2 : ZP.length = p.length := hJ'.lp
  have lZ3 := i64s_len ZR
  have lZ4 := edgA_len ZP
  have hbd : ∀ v, v < p.length → -9007199254740992 ≤ ZR.getD v 0 ∧ ZR.getD v 0 ≤ 8388608 := hB.bd
  by_cases hc0 : Zc = -1
  · have hf : ∀ e, e ∈ edgs b p → ZR.getD e.to.toNat 0 ≤ ZR.getD e.fr.toNat 0 + e.w := by
      rcases hJ'.c with ⟨_, h2⟩ | ⟨h2, _⟩
      · exact fun e he => h2 e (by simp [he])
      · exact absurd (show (0 : Int) ≤ Zc from h2) (by omega)
    subst hc0
    repeat' ((conv => whnf); first | refine Rng.g ?_ | refine Ob.g ?_ | refine Ob.e ?_ | refine Ob.m ?_ | refine Ob.mk (Nat.le_of_ble_eq_true rfl) ?_ | refine JoinVC.on ?_ | refine Nils.mk (fun h => ?_) ?_ | refine Val.t ?_ | refine Val.d ?_ | refine Mm.mk ?_ | (refine Br.mk (fun h => ?_) (fun h => ?_) <;> first | (exfalso; omega; done) | (exfalso; simp at h; done) | skip))
    refine LoopVC.mk (fun m st => ∃ (i : Nat), i ≤ p.length ∧ m = p.length - i ∧ (∀ j, j < i → 0 ≤ ZR.getD j 0 + ((p.getD j s0).l - b.core)) ∧ st = ⟨1, envA 116 [(0, .x (.one (.ptr 0 0))), (2, .x (.one (.ptr 1 0))), (3, .int .i64 (p.length : Int)), (4, .x (.one (.ptr 3 0))), (5, .x (.one (.ptr 2 0))), (91, .int .i64 (p.length : Int)), (92, .int .i64 (i : Int))], [some (bSd b p), some (.box 282 [.nils, .nils]), some (.box 383 [.own 5]), some (.box 37 [.own 4]), some (rowRd ZR), some (rowEd ZP)]⟩) _ _ ⟨0, Nat.zero_le _, rfl, fun j hj => absurd hj (Nat.not_lt_zero j), rfl⟩ ?_ ?_
    · refine ⟨[some 0, some 1, some 2, some 3, some 4, some 5], rfl, rfl, ?_, ?_⟩ <;> repeat' (first | exact trivial | exact rfl | exact Iff.rfl | apply And.intro)
    rintro m' _ ⟨i, hi, hm', hj, rfl⟩
    have gr : rI (i64s ZR) (i : Int).toNat 0 = ZR.getD i 0 := by rw [Int.toNat_natCast]; exact i64s_get ZR i
    by_cases hi' : i < p.length
    · have hbi := hbd i hi'
      have hpi := hp.each i hi'
      have hcr := hb.core
      have hri := hb.rim
      have ew : (eC b p i).w = (p.getD i s0).l - b.core := rfl
      repeat' ((conv => whnf); first | refine Rng.g ?_ | refine Ob.g ?_ | refine Ob.e ?_ | refine Ob.m ?_ | refine Ob.mk (Nat.le_of_ble_eq_true rfl) ?_ | refine JoinVC.on ?_ | refine Nils.mk (fun h => ?_) ?_ | refine Val.t ?_ | refine Val.d ?_ | refine Mm.mk ?_ | (refine Br.mk (fun h => ?_) (fun h => ?_) <;> first | (exfalso; omega; done) | (exfalso; simp at h; done) | skip))
      conv => whnf
      refine CallVC.mk [0] _ _ _ rfl rfl rfl (s248C b p hb hp i hi') (fun r m' h' => ?_)
      obtain ⟨rfl, rfl⟩ := h'
      conv => whnf
      repeat' ((conv => whnf); first | rw [gr] | refine Rng.g ?_ | refine Ob.g ?_ | refine Ob.e ?_ | refine Ob.m ?_ | refine Ob.mk (Nat.le_of_ble_eq_true rfl) ?_ | refine JoinVC.on ?_ | refine Nils.mk (fun h => ?_) ?_ | refine Val.t ?_ | refine Val.d ?_ | refine Mm.mk ?_ | (refine Br.mk (fun h => ?_) (fun h => ?_) <;> first | (exfalso; omega; done) | (exfalso; simp at h; done) | skip))
      · obtain ⟨q, hq1, hq2⟩ := hJ'.way (edgs_ok hb hp) hf (t' i) i (Nat.le_refl _) hi'
        have hq3 := hJ'.tm i
        have hw : Way ZP.length ZP i q := by rw [lZ2]; exact hq2
        conv => whnf
        refine CallVC.mk [] _ _ _ rfl rfl rfl (s251 ZP (eC b p i) i q (by omega) rfl hw (by omega)) (fun r m' h' => ?_)
        obtain ⟨A, hA, rfl, rfl⟩ := h'
        conv => whnf
        repeat' ((conv => whnf); first | refine Rng.g ?_ | refine Ob.g ?_ | refine Ob.e ?_ | refine Ob.m ?_ | refine Ob.mk (Nat.le_of_ble_eq_true rfl) ?_ | refine JoinVC.on ?_ | refine Nils.mk (fun h => ?_) ?_ | refine Val.t ?_ | refine Val.d ?_ | refine Mm.mk ?_ | (refine Br.mk (fun h => ?_) (fun h => ?_) <;> first | (exfalso; omega; done) | (exfalso; simp at h; done) | skip))
        repeat refine Mm.mk ?_
        conv => whnf
        refine EndVC.mk _ rfl _ _ (.bad A hA (fun y => hJ'.none hi' (show ZR.getD i 0 + ((p.getD i s0).l - b.core) < 0 by omega) y) rfl rfl) ?_
        refine ⟨[some 0, some 7], rfl, rfl, ?_, ?_⟩ <;> repeat' (first | exact trivial | exact rfl | exact Iff.rfl | apply And.intro)
      · refine Back.mk (p.length - (i + 1)) _ (by omega) ⟨i + 1, by omega, rfl, fun j hj' => ?_, rfl⟩ ?_
        · rcases Nat.lt_succ_iff_lt_or_eq.1 hj' with h' | rfl
          · exact hj j h'
          · omega
        · refine ⟨[some 0, some 1, some 2, some 3, some 4, some 5], rfl, rfl, ?_, ?_⟩ <;> repeat' (first | exact trivial | exact rfl | exact Iff.rfl | apply And.intro)
    · repeat' ((conv => whnf); first | refine Rng.g ?_ | refine Ob.g ?_ | refine Ob.e ?_ | refine Ob.m ?_ | refine Ob.mk (Nat.le_of_ble_eq_true rfl) ?_ | refine JoinVC.on ?_ | refine Nils.mk (fun h => ?_) ?_ | refine Val.t ?_ | refine Val.d ?_ | refine Mm.mk ?_ | (refine Br.mk (fun h => ?_) (fun h => ?_) <;> first | (exfalso; omega; done) | (exfalso; simp at h; done) | skip))
      repeat refine Mm.mk ?_
      conv => whnf
      refine EndVC.mk _ rfl _ _ (.ok ZR (hJ'.fin hf (fun j hj' => hj j (by omega))) rfl rfl) ?_
      refine ⟨[some 0, some 4], rfl, rfl, ?_, ?_⟩ <;> repeat' (first | exact trivial | exact rfl | exact Iff.rfl | apply And.intro)
  · obtain ⟨z, hz⟩ : ∃ z : Nat, Zc = (z : Int) := by
      rcases hJ'.c with ⟨h2, _⟩ | ⟨h2, _⟩
      · exact absurd h2 hc0
      · exact ⟨Zc.toNat, by have : (0 : Int) ≤ Zc := h2; omega⟩
    subst hz
    repeat' ((conv => whnf); first | refine Rng.g ?_ | refine Ob.g ?_ | refine Ob.e ?_ | refine Ob.m ?_ | refine Ob.mk (Nat.le_of_ble_eq_true rfl) ?_ | refine JoinVC.on ?_ | refine Nils.mk (fun h => ?_) ?_ | refine Val.t ?_ | refine Val.d ?_ | refine Mm.mk ?_ | (refine Br.mk (fun h => ?_) (fun h => ?_) <;> first | (exfalso; omega; done) | (exfalso; simp at h; done) | skip))
    · have hC : Circ ZP.length ZP z := by
        have := hJ'.circ (edgs_ok hb hp) (by omega) hc0
        rw [lZ2]
        exact this
      conv => whnf
      refine CallVC.mk [] _ _ _ rfl rfl rfl (s250 ZP z (by omega) hC) (fun r m' h' => ?_)
      obtain ⟨A, hA, rfl, rfl⟩ := h'
      conv => whnf
      repeat' ((conv => whnf); first | refine Rng.g ?_ | refine Ob.g ?_ | refine Ob.e ?_ | refine Ob.m ?_ | refine Ob.mk (Nat.le_of_ble_eq_true rfl) ?_ | refine JoinVC.on ?_ | refine Nils.mk (fun h => ?_) ?_ | refine Val.t ?_ | refine Val.d ?_ | refine Mm.mk ?_ | (refine Br.mk (fun h => ?_) (fun h => ?_) <;> first | (exfalso; omega; done) | (exfalso; simp at h; done) | skip))
      repeat refine Mm.mk ?_
      conv => whnf
      refine EndVC.mk _ rfl _ _ (.bad A hA (fun y => hJ'.none' hb hp (by omega) hc0 y) rfl rfl) ?_
      refine ⟨[some 0, some 9], rfl, rfl, ?_, ?_⟩ <;> repeat' (first | exact trivial | exact rfl | exact Iff.rfl | apply And.intro)
    · refine Back.mk (p.length + 1 - (k + 1)) _ (by omega) ⟨k + 1, ZR, ZP, _, _, _, _, by omega, rfl, hJ'.next (fun e he => by simp [he]), ⟨by omega, by omega⟩, rfl⟩ ?_
      refine ⟨[some 0, some 1, some 2, some 3, some 4, some 5], rfl, rfl, ?_, ?_⟩ <;> repeat' (first | exact trivial | exact rfl | exact Iff.rfl | apply And.intro)
end Go.Sx

namespace Go.Sx
open Go Go.Proofs
set_option maxRecDepth 10000
set_option maxHeartbeats 4000000
theorem s112 (c : Cut) (l : List Smp) : HSpec Tryz.prog 112 [c.x, lS l] [] (fun r m' => (∃ e, ¬ (CutOK c ∧ PtsOK l) ∧ e ≠ 0 ∧ r = .tup [.one .nilp, I e] ∧ m' = []) ∨ (CutOK c ∧ PtsOK l ∧ r = .tup [.one (.ptr 0 0), I 0] ∧ m' = [some (bTk ⟨c, l, 0, 0⟩)])) := by
  have v1 := s105 c
  have v2 := s153 l
  by_cases hC : ¬ CutOK c
  · refine spec_of pMix (O := []) Tryz.func112 (c := bodyOf Tryz.f112) rfl (by kernel_rfl) (by kernel_rfl) Tryz.ntmps112 (res := [.tmp 4, .tmp 5]) (by kernel_rfl) ?_
    repeat' ((conv => whnf); first | refine Rng.g ?_ | refine Ob.g ?_ | refine Ob.e ?_ | refine Ob.m ?_ | refine Ob.mk (Nat.le_of_ble_eq_true rfl) ?_ | refine JoinVC.on ?_ | refine Nils.mk (fun h => ?_) ?_ | refine Val.t ?_ | refine Val.d ?_ | refine Mm.mk ?_ | (refine Br.mk (fun h => ?_) (fun h => ?_) <;> first | (exfalso; omega; done) | (exfalso; simp at h; done) | skip))
    conv => whnf
    refine CallVC.mk [] _ _ _ rfl rfl rfl (v1) (fun r m' h' => ?_)
    obtain ⟨e, rfl, rfl, he⟩ := h'
    conv => whnf
    have he0 : e ≠ 0 := fun h0 => hC (he.1 h0)
    repeat' ((conv => whnf); first | refine Rng.g ?_ | refine Ob.g ?_ | refine Ob.e ?_ | refine Ob.m ?_ | refine Ob.mk (Nat.le_of_ble_eq_true rfl) ?_ | refine JoinVC.on ?_ | refine Nils.mk (fun h => ?_) ?_ | refine Val.t ?_ | refine Val.d ?_ | refine Mm.mk ?_ | (refine Br.mk (fun h => ?_) (fun h => ?_) <;> first | (exfalso; omega; done) | (exfalso; simp at h; done) | skip))
    repeat refine Mm.mk ?_
    conv => whnf
    refine EndVC.mk _ rfl _ _ (.inl ⟨e, fun h => hC h.1, he0, rfl, rfl⟩) ?_
    refine ⟨[], rfl, rfl, ?_, ?_⟩ <;> repeat' (first | exact trivial | exact rfl | exact Iff.rfl | apply And.intro)
  replace hC := Classical.not_not.1 hC
  by_cases hP : ¬ PtsOK l
  · refine spec_of pMix (O := []) Tryz.func112 (c := bodyOf Tryz.f112) rfl (by kernel_rfl) (by kernel_rfl) Tryz.ntmps112 (res := [.tmp 4, .tmp 5]) (by kernel_rfl) ?_
    repeat' ((conv => whnf); first | refine Rng.g ?_ | refine Ob.g ?_ | refine Ob.e ?_ | refine Ob.m ?_ | refine Ob.mk (Nat.le_of_ble_eq_true rfl) ?_ | refine JoinVC.on ?_ | refine Nils.mk (fun h => ?_) ?_ | refine Val.t ?_ | refine Val.d ?_ | refine Mm.mk ?_ | (refine Br.mk (fun h => ?_) (fun h => ?_) <;> first | (exfalso; omega; done) | (exfalso; simp at h; done) | skip))
    conv => whnf
    refine CallVC.mk [] _ _ _ rfl rfl rfl (v1) (fun r m' h' => ?_)
    obtain ⟨e, rfl, rfl, he⟩ := h'
    conv => whnf
    cases he.2 hC
    repeat' ((conv => whnf); first | refine Rng.g ?_ | refine Ob.g ?_ | refine Ob.e ?_ | refine Ob.m ?_ | refine Ob.mk (Nat.le_of_ble_eq_true rfl) ?_ | refine JoinVC.on ?_ | refine Nils.mk (fun h => ?_) ?_ | refine Val.t ?_ | refine Val.d ?_ | refine Mm.mk ?_ | (refine Br.mk (fun h => ?_) (fun h => ?_) <;> first | (exfalso; omega; done) | (exfalso; simp at h; done) | skip))
    conv => whnf
    refine CallVC.mk [] _ _ _ rfl rfl rfl (v2) (fun r m' h' => ?_)
    obtain ⟨e, rfl, rfl, he'⟩ := h'
    conv => whnf
    have he0 : e ≠ 0 := fun h0 => hP (he'.1 h0)
    repeat' ((conv => whnf); first | refine Rng.g ?_ | refine Ob.g ?_ | refine Ob.e ?_ | refine Ob.m ?_ | refine Ob.mk (Nat.le_of_ble_eq_true rfl) ?_ | refine JoinVC.on ?_ | refine Nils.mk (fun h => ?_) ?_ | refine Val.t ?_ | refine Val.d ?_ | refine Mm.mk ?_ | (refine Br.mk (fun h => ?_) (fun h => ?_) <;> first | (exfalso; omega; done) | (exfalso; simp at h; done) | skip))
    repeat refine Mm.mk ?_
    conv => whnf
    refine EndVC.mk _ rfl _ _ (.inl ⟨e, fun h => hP h.2, he0, rfl, rfl⟩) ?_
    refine ⟨[], rfl, rfl, ?_, ?_⟩ <;> repeat' (first | exact trivial | exact rfl | exact Iff.rfl | apply And.intro)
  replace hP := Classical.not_not.1 hP
  refine spec_of pMix (O := []) Tryz.func112 (c := bodyOf Tryz.f112) rfl (by kernel_rfl) (by kernel_rfl) Tryz.ntmps112 (res := [.tmp 4, .tmp 5]) (by kernel_rfl) ?_
  repeat' ((conv => whnf); first | refine Rng.g ?_ | refine Ob.g ?_ | refine Ob.e ?_ | refine Ob.m ?_ | refine Ob.mk (Nat.le_of_ble_eq_true rfl) ?_ | refine JoinVC.on ?_ | refine Nils.mk (fun h => ?_) ?_ | refine Val.t ?_ | refine Val.d ?_ | refine Mm.mk ?_ | (refine Br.mk (fun h => ?_) (fun h => ?_) <;> first | (exfalso; omega; done) | (exfalso; simp at h; done) | skip))
  conv => whnf
  refine CallVC.mk [] _ _ _ rfl rfl rfl (v1) (fun r m' h' => ?_)
  obtain ⟨e, rfl, rfl, he⟩ := h'
  conv => whnf
  cases he.2 hC
  repeat' ((conv => whnf); first | refine Rng.g ?_ | refine Ob.g ?_ | refine Ob.e ?_ | refine Ob.m ?_ | refine Ob.mk (Nat.le_of_ble_eq_true rfl) ?_ | refine JoinVC.on ?_ | refine Nils.mk (fun h => ?_) ?_ | refine Val.t ?_ | refine Val.d ?_ | refine Mm.mk ?_ | (refine Br.mk (fun h => ?_) (fun h => ?_) <;> first | (exfalso; omega; done) | (exfalso; simp at h; done) | skip))
  conv => whnf
  refine CallVC.mk [] _ _ _ rfl rfl rfl (v2) (fun r m' h' => ?_)
  obtain ⟨e, rfl, rfl, he'⟩ := h'
  conv => whnf
  cases he'.2 hP
  repeat' ((conv => whnf); first | refine Rng.g ?_ | refine Ob.g ?_ | refine Ob.e ?_ | refine Ob.m ?_ | refine Ob.mk (Nat.le_of_ble_eq_true rfl) ?_ | refine JoinVC.on ?_ | refine Nils.mk (fun h => ?_) ?_ | refine Val.t ?_ | refine Val.d ?_ | refine Mm.mk ?_ | (refine Br.mk (fun h => ?_) (fun h => ?_) <;> first | (exfalso; omega; done) | (exfalso; simp at h; done) | skip))
  repeat refine Mm.mk ?_
  conv => whnf
  refine EndVC.mk _ rfl _ _ (.inr ⟨hC, hP, rfl, rfl⟩) ?_
  refine ⟨[some 1], rfl, rfl, ?_, ?_⟩ <;> repeat' (first | exact trivial | exact rfl | exact Iff.rfl | apply And.intro)
/-! ### Greater radii are milder -/
def Trk.at (t : Trk) (r : Int) : Trk := ⟨t.c, t.p, r, t.per⟩
theorem arcF_mono {r q per : Int} (h0 : 0 ≤ r) (h : r ≤ q) (hp : 1 ≤ per) : arcF r per ≤ arcF q per := by
  unfold arcF
  refine Int.ediv_le_ediv (Int.mul_pos (by omega) (by omega)) ?_
  exact Int.mul_le_mul (by omega) (by omega) (by omega) (by omega)
theorem brk_mono {t : Trk} (hc : CutOK t.c) (hp : 1 ≤ t.per) {r q : Int} (h0 : 0 ≤ r) (h : r ≤ q) (i : Nat) (b a : Bool) (k : Nat) (hb : brk (t.at q) i b a k) : brk (t.at r) i b a k := by
  have hs := hc.slope
  unfold brk at hb ⊢
  match k with
  | 0 => exact hb
  | 1 => exact hb
  | 2 => exact hb
  | 3 =>
    have : 710 * r * t.c.slope ≤ 710 * q * t.c.slope := Int.mul_le_mul_of_nonneg_right (by omega) hs.1
    simp only [Trk.at] at hb ⊢
    omega
  | 4 => exact hb
  | 5 =>
    have := arcF_mono h0 h hp
    simp only [Trk.at] at hb ⊢
    omega
  | _ + 6 => exact hb
theorem ruleF_0 (t : Trk) (i : Nat) (b a : Bool) : ruleF t i b a = 0 ↔ ¬ brk t i b a 1 ∧ ¬ brk t i b a 2 ∧ ¬ brk t i b a 3 ∧ ¬ brk t i b a 4 ∧ ¬ brk t i b a 5 := by
  unfold ruleF
  repeat' split
  all_goals simp_all
def pN (t : Trk) (i : Nat) (r : Int) : Prop := ruleAt (t.at r) i = 0
instance (t : Trk) (i : Nat) (r : Int) : Decidable (pN t i r) := by unfold pN; exact inferInstance
def pL (t : Trk) (r : Int) : Prop := ∀ j, j < t.p.length → pN t j r
open Classical in
noncomputable instance (t : Trk) (r : Int) : Decidable (pL t r) := propDecidable _
theorem pN.mono {t : Trk} (hc : CutOK t.c) (hp : 1 ≤ t.per) {i : Nat} {r q : Int} (h0 : 0 ≤ r) (h : r ≤ q) (hn : pN t i r) : pN t i q := by
  unfold pN ruleAt at hn ⊢
  rw [ruleF_0] at hn ⊢
  obtain ⟨h1, h2, h3, h4, h5⟩ := hn
  exact ⟨fun hb => h1 (brk_mono hc hp h0 h _ _ _ _ hb), fun hb => h2 (brk_mono hc hp h0 h _ _ _ _ hb), fun hb => h3 (brk_mono hc hp h0 h _ _ _ _ hb), fun hb => h4 (brk_mono hc hp h0 h _ _ _ _ hb), fun hb => h5 (brk_mono hc hp h0 h _ _ _ _ hb)⟩
theorem pL.mono {t : Trk} (hc : CutOK t.c) (hp : 1 ≤ t.per) {r q : Int} (h0 : 0 ≤ r) (h : r ≤ q) (hn : pL t r) : pL t q := fun j hj => (hn j hj).mono hc hp h0 h
theorem FaultIs.zero {t : Trk} {i : Nat} {x : Int} (h : FaultIs t i x) : x = 0 ↔ pL t t.r := by
  constructor
  · intro h0 j hj
    exact (h.none h0).2 j hj
  · intro hp
    refine Classical.byContradiction fun h0 => ?_
    obtain ⟨h1, h2, _⟩ := h.some h0
    exact h0 (h2.trans (hp i h1))
/-! ### The least radius of a groove -/
theorem s115 (t : Trk) (ht : TrkOK t) : HSpec Tryz.prog 115 [.one (.ptr 0 0)] [.box 214 [.ptr 1 0], bTk t] (fun r m' => r = xP (pL t t.r) ∧ m' = [some (.box 214 [.ptr 1 0]), some (bTk t)]) := by
  refine spec_of pMix (O := []) Tryz.func115 (c := bodyOf Tryz.f115) rfl (by kernel_rfl) (by kernel_rfl) Tryz.ntmps115 (res := [.tmp 1]) (by kernel_rfl) ?_
  repeat' ((conv => whnf); first | refine Rng.g ?_ | refine Ob.g ?_ | refine Ob.e ?_ | refine Ob.m ?_ | refine Ob.mk (Nat.le_of_ble_eq_true rfl) ?_ | refine JoinVC.on ?_ | refine Nils.mk (fun h => ?_) ?_ | refine Val.t ?_ | refine Val.d ?_ | refine Mm.mk ?_ | (refine Br.mk (fun h => ?_) (fun h => ?_) <;> first | (exfalso; omega; done) | (exfalso; simp at h; done) | skip))
  conv => whnf
  refine CallVC.mk [] _ _ _ rfl rfl rfl (s116 t ht) (fun r m' h' => ?_)
  obtain ⟨i, x, hF, rfl, rfl⟩ := h'
  conv => whnf
  repeat' ((conv => whnf); first | refine Rng.g ?_ | refine Ob.g ?_ | refine Ob.e ?_ | refine Ob.m ?_ | refine Ob.mk (Nat.le_of_ble_eq_true rfl) ?_ | refine JoinVC.on ?_ | refine Nils.mk (fun h => ?_) ?_ | refine Val.t ?_ | refine Val.d ?_ | refine Mm.mk ?_ | (refine Br.mk (fun h => ?_) (fun h => ?_) <;> first | (exfalso; omega; done) | (exfalso; simp at h; done) | skip))
  repeat refine Mm.mk ?_
  refine EndVC.mk _ rfl _ _ ⟨rfl, rfl⟩ ?_
  refine ⟨[some 0, some 1], rfl, rfl, ?_, ?_⟩ <;> repeat' (first | exact trivial | exact rfl | exact Iff.rfl | apply And.intro)
  all_goals exact hF.zero
theorem s207 (t : Trk) (r : Int) (ht : TrkOK (t.at r)) : HSpec Tryz.prog 207 [I r, .one (.ptr 0 0), .one (.ptr 1 0)] [.box 214 [.ptr 2 0], .box 33 [.fn 115 [(3, 0)]], bTk t, .box 214 [.ptr 2 0]] (fun x m' => x = xP (pL t r) ∧ m' = [some (.box 214 [.ptr 2 0]), some (.box 33 [.fn 115 [(3, 0)]]), some (bTk (t.at r)), some (.box 214 [.ptr 2 0])]) := by
  refine spec_of pMix (O := []) Tryz.func207 (c := bodyOf Tryz.f207) rfl (by kernel_rfl) (by kernel_rfl) Tryz.ntmps207 (res := [.tmp 4]) (by kernel_rfl) ?_
  repeat' ((conv => whnf); first | refine Rng.g ?_ | refine Ob.g ?_ | refine Ob.e ?_ | refine Ob.m ?_ | refine Ob.mk (Nat.le_of_ble_eq_true rfl) ?_ | refine JoinVC.on ?_ | refine Nils.mk (fun h => ?_) ?_ | refine Val.t ?_ | refine Val.d ?_ | refine Mm.mk ?_ | (refine Br.mk (fun h => ?_) (fun h => ?_) <;> first | (exfalso; omega; done) | (exfalso; simp at h; done) | skip))
  conv => whnf
  refine CallVC.mk [3, 2] _ _ _ rfl rfl rfl (s115 (t.at r) ht) (fun r m' h' => ?_)
  obtain ⟨rfl, rfl⟩ := h'
  conv => whnf
  repeat' ((conv => whnf); first | refine Rng.g ?_ | refine Ob.g ?_ | refine Ob.e ?_ | refine Ob.m ?_ | refine Ob.mk (Nat.le_of_ble_eq_true rfl) ?_ | refine JoinVC.on ?_ | refine Nils.mk (fun h => ?_) ?_ | refine Val.t ?_ | refine Val.d ?_ | refine Mm.mk ?_ | (refine Br.mk (fun h => ?_) (fun h => ?_) <;> first | (exfalso; omega; done) | (exfalso; simp at h; done) | skip))
  repeat refine Mm.mk ?_
  refine EndVC.mk _ rfl _ _ ⟨rfl, rfl⟩ ?_
  refine ⟨[some 0, some 1, some 2, some 3], rfl, rfl, ?_, ?_⟩ <;> repeat' (first | exact trivial | exact rfl | exact Iff.rfl | apply And.intro)
end Go.Sx

namespace Go.Sx
open Go Go.Proofs
set_option maxRecDepth 10000
set_option maxHeartbeats 8000000
/-- The outermost cut, or none. -/
inductive OuRs (b : Blnk) (p : List Smp) (r : AV) (m' : List (Option Blk)) : Prop
  | bad (e : Int) (h : ¬ (BlnkOK b ∧ PtsOK p)) (he : e ≠ 0) (hr : r = .tup [.one .nils, I e]) (hm : m' = [])
  | none (hb : BlnkOK b) (hp : PtsOK p) (hn : ∀ y, ¬ Feas b p y) (hr : r = .tup [.one .nils, I 15]) (hm : m' = [])
  | ok (hb : BlnkOK b) (hp : PtsOK p) (R : List Int) (h : Best b p R) (hr : r = .tup [.one (.own 0), I 0]) (hm : m' = [some (rowRd R)])
theorem s82 (b : Blnk) (p : List Smp) : HSpec Tryz.prog 82 [b.x, lS p] [] (OuRs b p) := by
  refine spec_of pMix (O := []) Tryz.func82 (c := bodyOf Tryz.f82) rfl (by kernel_rfl) (by kernel_rfl) Tryz.ntmps82 (res := [.tmp 4, .tmp 5]) (by kernel_rfl) ?_
  repeat' ((conv => whnf); first | refine Rng.g ?_ | refine Ob.g ?_ | refine Ob.e ?_ | refine Ob.m ?_ | refine Ob.mk (Nat.le_of_ble_eq_true rfl) ?_ | refine JoinVC.on ?_ | refine Nils.mk (fun h => ?_) ?_ | refine Val.t ?_ | refine Val.d ?_ | refine Mm.mk ?_ | (refine Br.mk (fun h => ?_) (fun h => ?_) <;> first | (exfalso; omega; done) | (exfalso; simp at h; done) | skip))
  conv => whnf
  refine CallVC.mk [] _ _ _ rfl rfl rfl (s135 b p) (fun r m' h' => ?_)
  rcases h' with ⟨e, hn, he, rfl, rfl⟩ | ⟨hb, hp, rfl, rfl⟩
  · repeat' ((conv => whnf); first | refine Rng.g ?_ | refine Ob.g ?_ | refine Ob.e ?_ | refine Ob.m ?_ | refine Ob.mk (Nat.le_of_ble_eq_true rfl) ?_ | refine JoinVC.on ?_ | refine Nils.mk (fun h => ?_) ?_ | refine Val.t ?_ | refine Val.d ?_ | refine Mm.mk ?_ | (refine Br.mk (fun h => ?_) (fun h => ?_) <;> first | (exfalso; omega; done) | (exfalso; simp at h; done) | skip))
    repeat refine Mm.mk ?_
    conv => whnf
    refine EndVC.mk _ rfl _ _ (.bad e hn he rfl rfl) ?_
    refine ⟨[], rfl, rfl, ?_, ?_⟩ <;> repeat' (first | exact trivial | exact rfl | exact Iff.rfl | apply And.intro)
  · repeat' ((conv => whnf); first | refine Rng.g ?_ | refine Ob.g ?_ | refine Ob.e ?_ | refine Ob.m ?_ | refine Ob.mk (Nat.le_of_ble_eq_true rfl) ?_ | refine JoinVC.on ?_ | refine Nils.mk (fun h => ?_) ?_ | refine Val.t ?_ | refine Val.d ?_ | refine Mm.mk ?_ | (refine Br.mk (fun h => ?_) (fun h => ?_) <;> first | (exfalso; omega; done) | (exfalso; simp at h; done) | skip))
    conv => whnf
    refine CallVC.mk [1] _ _ _ rfl rfl rfl (s167 b p hb hp.ptb) (fun r m' h' => ?_)
    cases h' with
    | bad A hA hn hr hm =>
      subst hr hm
      repeat' ((conv => whnf); first | refine Rng.g ?_ | refine Ob.g ?_ | refine Ob.e ?_ | refine Ob.m ?_ | refine Ob.mk (Nat.le_of_ble_eq_true rfl) ?_ | refine JoinVC.on ?_ | refine Nils.mk (fun h => ?_) ?_ | refine Val.t ?_ | refine Val.d ?_ | refine Mm.mk ?_ | (refine Br.mk (fun h => ?_) (fun h => ?_) <;> first | (exfalso; omega; done) | (exfalso; simp at h; done) | skip))
      repeat refine Mm.mk ?_
      conv => whnf
      refine EndVC.mk _ rfl _ _ (.none hb hp hn rfl rfl) ?_
      refine ⟨[], rfl, rfl, ?_, ?_⟩ <;> repeat' (first | exact trivial | exact rfl | exact Iff.rfl | apply And.intro)
    | ok R hR hr hm =>
      subst hr hm
      repeat' ((conv => whnf); first | refine Rng.g ?_ | refine Ob.g ?_ | refine Ob.e ?_ | refine Ob.m ?_ | refine Ob.mk (Nat.le_of_ble_eq_true rfl) ?_ | refine JoinVC.on ?_ | refine Nils.mk (fun h => ?_) ?_ | refine Val.t ?_ | refine Val.d ?_ | refine Mm.mk ?_ | (refine Br.mk (fun h => ?_) (fun h => ?_) <;> first | (exfalso; omega; done) | (exfalso; simp at h; done) | skip))
      repeat refine Mm.mk ?_
      conv => whnf
      refine EndVC.mk _ rfl _ _ (.ok hb hp R hR rfl rfl) ?_
      refine ⟨[some 2], rfl, rfl, ?_, ?_⟩ <;> repeat' (first | exact trivial | exact rfl | exact Iff.rfl | apply And.intro)
/-- A groove without a signal. -/
theorem s53 (h : Int) (n : Nat) (hh : 0 ≤ h ∧ h ≤ 100000) (hn : n ≤ 4096) : HSpec Tryz.prog 53 [I h, I (n : Int)] [] (fun r m' => r = .x (.one (.own 0)) ∧ m' = [some (rowP (List.replicate n ⟨-h, h⟩))]) := by
  refine spec_of pMix (O := []) Tryz.func53 (c := bodyOf Tryz.f53) rfl (by kernel_rfl) (by kernel_rfl) Tryz.ntmps53 (res := [.tmp 4]) (by kernel_rfl) ?_
  repeat' ((conv => whnf); first | refine Rng.g ?_ | refine Ob.g ?_ | refine Ob.e ?_ | refine Ob.m ?_ | refine Ob.mk (Nat.le_of_ble_eq_true rfl) ?_ | refine JoinVC.on ?_ | refine Nils.mk (fun h => ?_) ?_ | refine Val.t ?_ | refine Val.d ?_ | refine Mm.mk ?_ | (refine Br.mk (fun h => ?_) (fun h => ?_) <;> first | (exfalso; omega; done) | (exfalso; simp at h; done) | skip))
  refine LoopVC.mk (fun m st => ∃ (i : Nat), i ≤ n ∧ m = n - i ∧ st = ⟨0, envA 20 [(0, .x (I h)), (1, .x (I (n : Int))), (5, .x (.one (.own 0))), (6, .int .i64 (i : Int))], [some (rowP (List.replicate i ⟨-h, h⟩))]⟩) _ _ ⟨0, Nat.zero_le _, rfl, rfl⟩ ?_ ?_
  · refine ⟨[none], rfl, rfl, ?_, ?_⟩ <;> repeat' (first | exact trivial | exact rfl | exact Iff.rfl | apply And.intro)
  rintro m _ ⟨i, hi, hm, rfl⟩
  by_cases hi' : i < n
  · have lr := smpA_len (List.replicate i ⟨-h, h⟩)
    rw [List.length_replicate] at lr
    repeat' ((conv => whnf); first | refine Rng.g ?_ | refine Ob.g ?_ | refine Ob.e ?_ | refine Ob.m ?_ | refine Ob.mk (Nat.le_of_ble_eq_true rfl) ?_ | refine JoinVC.on ?_ | refine Nils.mk (fun h => ?_) ?_ | refine Val.t ?_ | refine Val.d ?_ | refine Mm.mk ?_ | (refine Br.mk (fun h => ?_) (fun h => ?_) <;> first | (exfalso; omega; done) | (exfalso; simp at h; done) | skip))
    repeat refine Mm.mk ?_
    refine Ob.mk (by rw [eb51]; simp only [List.length_cons, List.length_nil]; omega) ?_
    repeat' ((conv => whnf); first | refine Rng.g ?_ | refine Ob.g ?_ | refine Ob.e ?_ | refine Ob.m ?_ | refine Ob.mk (Nat.le_of_ble_eq_true rfl) ?_ | refine JoinVC.on ?_ | refine Nils.mk (fun h => ?_) ?_ | refine Val.t ?_ | refine Val.d ?_ | refine Mm.mk ?_ | (refine Br.mk (fun h => ?_) (fun h => ?_) <;> first | (exfalso; omega; done) | (exfalso; simp at h; done) | skip))
    refine Back.mk (n - (i + 1)) _ (by omega) ⟨i + 1, by omega, rfl, rfl⟩ ?_
    rw [List.replicate_succ']
    refine ⟨[some 2], rfl, rfl, ?_, ?_⟩ <;> repeat' (first | exact trivial | exact rfl | exact Iff.rfl | apply And.intro)
    rw [smpA_snoc, Int.zero_sub]
  · have ei : i = n := by omega
    subst ei
    repeat' ((conv => whnf); first | refine Rng.g ?_ | refine Ob.g ?_ | refine Ob.e ?_ | refine Ob.m ?_ | refine Ob.mk (Nat.le_of_ble_eq_true rfl) ?_ | refine JoinVC.on ?_ | refine Nils.mk (fun h => ?_) ?_ | refine Val.t ?_ | refine Val.d ?_ | refine Mm.mk ?_ | (refine Br.mk (fun h => ?_) (fun h => ?_) <;> first | (exfalso; omega; done) | (exfalso; simp at h; done) | skip))
    repeat refine Mm.mk ?_
    refine EndVC.mk _ rfl _ _ ⟨rfl, rfl⟩ ?_
    refine ⟨[some 0], rfl, rfl, ?_, ?_⟩ <;> repeat' (first | exact trivial | exact rfl | exact Iff.rfl | apply And.intro)
/-! ### How much fits -/
@[reducible] def bBl (b : Blnk) : Blk := .box 94 [.int .i64 b.per, .int .i64 b.rim, .int .i64 b.core, .int .i64 b.land, .int .i64 b.slow, .int .i64 b.fast]
@[reducible] def bPs (p : List Smp) : Blk := .box 42 [.lst true KS (smpA p)]
def fitP (b : Blnk) (p : List Smp) (n : Int) : Prop := ∃ y, Feas b (p.take (n.toNat + 1)) y
theorem PtsOK.take {p : List Smp} (h : PtsOK p) (k : Nat) : PtsOK (p.take k) := ⟨by rw [List.length_take]; have := h.len; omega, fun j hj => by
  rw [List.length_take] at hj
  have e : (p.take k).getD j s0 = p.getD j s0 := by simp [List.getD_eq_getElem?_getD, List.getElem?_take, show j < k by omega]
  rw [e]
  exact h.each j (by omega)⟩
theorem smpA_take (p : List Smp) (k : Nat) : (smpA p).take k = smpA (p.take k) := by simp [smpA]
open Classical in
theorem s137 (b : Blnk) (p : List Smp) (hb : BlnkOK b) (hp : PtsOK p) (n : Int) (hn : 0 ≤ n ∧ n < p.length) : HSpec Tryz.prog 137 [I n, .one (.ptr 0 0), .one (.ptr 1 0)] [bBl b, bPs p] (fun r m' => r = xP (¬ fitP b p n) ∧ m' = [some (bBl b), some (bPs p)]) := by
  have lp := smpA_len p
  have hl := hp.len
  have cx : HSpec Tryz.prog 82 [b.x, .one (.lst true KS ((smpA p).take (n + 1).toNat))] [] (OuRs b (p.take (n.toNat + 1))) := by
    rw [smpA_take, show (n + 1).toNat = n.toNat + 1 by omega]
    exact s82 b _
  refine spec_of pMix (O := []) Tryz.func137 (c := bodyOf Tryz.f137) rfl (by kernel_rfl) (by kernel_rfl) Tryz.ntmps137 (res := [.tmp 4]) (by kernel_rfl) ?_
  repeat' ((conv => whnf); first | refine Rng.g ?_ | refine Ob.g ?_ | refine Ob.e ?_ | refine Ob.m ?_ | refine Ob.mk (Nat.le_of_ble_eq_true rfl) ?_ | refine JoinVC.on ?_ | refine Nils.mk (fun h => ?_) ?_ | refine Val.t ?_ | refine Val.d ?_ | refine Mm.mk ?_ | (refine Br.mk (fun h => ?_) (fun h => ?_) <;> first | (exfalso; omega; done) | (exfalso; simp at h; done) | skip))
  conv => whnf
  refine CallVC.mk [] _ _ _ rfl rfl rfl (cx) (fun r m' h' => ?_)
  cases h' with
  | bad e h he hr hm => exact absurd ⟨hb, hp.take _⟩ h
  | none _ _ hN hr hm =>
    subst hr hm
    repeat' ((conv => whnf); first | refine Rng.g ?_ | refine Ob.g ?_ | refine Ob.e ?_ | refine Ob.m ?_ | refine Ob.mk (Nat.le_of_ble_eq_true rfl) ?_ | refine JoinVC.on ?_ | refine Nils.mk (fun h => ?_) ?_ | refine Val.t ?_ | refine Val.d ?_ | refine Mm.mk ?_ | (refine Br.mk (fun h => ?_) (fun h => ?_) <;> first | (exfalso; omega; done) | (exfalso; simp at h; done) | skip))
    repeat refine Mm.mk ?_
    refine EndVC.mk _ rfl _ _ ⟨rfl, rfl⟩ ?_
    refine ⟨[some 0, some 1], rfl, rfl, ?_, ?_⟩ <;> repeat' (first | exact trivial | exact rfl | exact Iff.rfl | apply And.intro)
    show _ ↔ _
    exact ⟨fun _ ⟨y, hy⟩ => hN y hy, fun _ => by decide⟩
  | ok _ _ R hR hr hm =>
    subst hr hm
    repeat' ((conv => whnf); first | refine Rng.g ?_ | refine Ob.g ?_ | refine Ob.e ?_ | refine Ob.m ?_ | refine Ob.mk (Nat.le_of_ble_eq_true rfl) ?_ | refine JoinVC.on ?_ | refine Nils.mk (fun h => ?_) ?_ | refine Val.t ?_ | refine Val.d ?_ | refine Mm.mk ?_ | (refine Br.mk (fun h => ?_) (fun h => ?_) <;> first | (exfalso; omega; done) | (exfalso; simp at h; done) | skip))
    repeat refine Mm.mk ?_
    refine EndVC.mk _ rfl _ _ ⟨rfl, rfl⟩ ?_
    refine ⟨[some 0, some 1], rfl, rfl, ?_, ?_⟩ <;> repeat' (first | exact trivial | exact rfl | exact Iff.rfl | apply And.intro)
    show _ ↔ _
    exact ⟨fun h => absurd rfl h, fun h => absurd ⟨_, hR.ok⟩ h⟩
/-- So many samples fit. -/
structure FitK (b : Blnk) (p : List Smp) (k : Nat) : Prop where
  le : k ≤ p.length
  fit : 0 < k → ∃ y, Feas b (p.take k) y
  no : k < p.length → ∀ y, ¬ Feas b (p.take (k + 1)) y
theorem s136f (b : Blnk) (p : List Smp) (hb : BlnkOK b) (hp : PtsOK p) : HSpec Tryz.prog 136 [I (p.length : Int), .one (.fn 137 [(0, 0), (1, 0)])] [bBl b, bPs p] (fun x m' => ∃ k, FitK b p k ∧ x = .x (I (k : Int)) ∧ m' = [some (bBl b), some (bPs p)]) := by
  have hl := hp.len
  refine spec_of pMix (O := []) Tryz.func136 (c := bodyOf Tryz.f136) rfl (by kernel_rfl) (by kernel_rfl) Tryz.ntmps136 (res := [.tmp 4]) (by kernel_rfl) ?_
  repeat' ((conv => whnf); first | refine Rng.g ?_ | refine Ob.g ?_ | refine Ob.e ?_ | refine Ob.m ?_ | refine Ob.mk (Nat.le_of_ble_eq_true rfl) ?_ | refine JoinVC.on ?_ | refine Nils.mk (fun h => ?_) ?_ | refine Val.t ?_ | refine Val.d ?_ | refine Mm.mk ?_ | (refine Br.mk (fun h => ?_) (fun h => ?_) <;> first | (exfalso; omega; done) | (exfalso; simp at h; done) | skip))
  refine LoopVC.mk (fun n st => ∃ (i' j : Int), (0 ≤ i' ∧ i' ≤ j ∧ j ≤ p.length) ∧ n = (j - i').toNat ∧ (0 < i' → fitP b p (i' - 1)) ∧ (j < p.length → ¬ fitP b p j) ∧ st = ⟨2, envA 26 [(1, .x (.one (.fn 137 [(0, 0), (1, 0)]))), (5, .int .i64 i'), (6, .int .i64 j)], [some (bBl b), some (bPs p)]⟩) _ _ ⟨0, p.length, by omega, rfl, fun h1 => by omega, fun h1 => by omega, rfl⟩ ?_ ?_
  · refine ⟨[some 0, some 1], rfl, rfl, ?_, ?_⟩ <;> repeat' (first | exact trivial | exact rfl | exact Iff.rfl | apply And.intro)
  rintro n _ ⟨i', j, hij, hn, hyes, hno, rfl⟩
  by_cases hlt : i' < j
  · obtain ⟨g, hg⟩ : ∃ g, g = (i' + j) / 2 := ⟨_, rfl⟩
    have h1 : i' ≤ g ∧ g < j := by omega
    repeat' ((conv => whnf); first | refine Rng.g ?_ | refine Ob.g ?_ | refine Ob.e ?_ | refine Ob.m ?_ | refine Ob.mk (Nat.le_of_ble_eq_true rfl) ?_ | refine JoinVC.on ?_ | refine Nils.mk (fun h => ?_) ?_ | refine Val.t ?_ | refine Val.d ?_ | refine Mm.mk ?_ | (refine Br.mk (fun h => ?_) (fun h => ?_) <;> first | (exfalso; omega; done) | (exfalso; simp at h; done) | skip))
    refine Val.mk g (by rw [hg]; rfl) ?_
    repeat' ((conv => whnf); first | refine Rng.g ?_ | refine Ob.g ?_ | refine Ob.e ?_ | refine Ob.m ?_ | refine Ob.mk (Nat.le_of_ble_eq_true rfl) ?_ | refine JoinVC.on ?_ | refine Nils.mk (fun h => ?_) ?_ | refine Val.t ?_ | refine Val.d ?_ | refine Mm.mk ?_ | (refine Br.mk (fun h => ?_) (fun h => ?_) <;> first | (exfalso; omega; done) | (exfalso; simp at h; done) | skip))
    conv => whnf
    refine CallVC.mk [0, 1] _ _ _ rfl rfl rfl (s137 b p hb hp g (by omega)) (fun r m' h' => ?_)
    obtain ⟨rfl, rfl⟩ := h'
    conv => whnf
    repeat' ((conv => whnf); first | refine Rng.g ?_ | refine Ob.g ?_ | refine Ob.e ?_ | refine Ob.m ?_ | refine Ob.mk (Nat.le_of_ble_eq_true rfl) ?_ | refine JoinVC.on ?_ | refine Nils.mk (fun h => ?_) ?_ | refine Val.t ?_ | refine Val.d ?_ | refine Mm.mk ?_ | (refine Br.mk (fun h => ?_) (fun h => ?_) <;> first | (exfalso; omega; done) | (exfalso; simp at h; done) | skip))
    · refine Back.mk (j - (g + 1)).toNat _ (by omega) ⟨g + 1, j, by omega, rfl, fun _ => by rw [Int.add_sub_cancel]; exact Classical.not_not.1 h, hno, rfl⟩ ?_
      refine ⟨[some 0, some 1], rfl, rfl, ?_, ?_⟩ <;> repeat' (first | exact trivial | exact rfl | exact Iff.rfl | apply And.intro)
    · refine Back.mk (g - i').toNat _ (by omega) ⟨i', g, by omega, rfl, hyes, fun _ => Classical.not_not.1 h, rfl⟩ ?_
      refine ⟨[some 0, some 1], rfl, rfl, ?_, ?_⟩ <;> repeat' (first | exact trivial | exact rfl | exact Iff.rfl | apply And.intro)
  · repeat' ((conv => whnf); first | refine Rng.g ?_ | refine Ob.g ?_ | refine Ob.e ?_ | refine Ob.m ?_ | refine Ob.mk (Nat.le_of_ble_eq_true rfl) ?_ | refine JoinVC.on ?_ | refine Nils.mk (fun h => ?_) ?_ | refine Val.t ?_ | refine Val.d ?_ | refine Mm.mk ?_ | (refine Br.mk (fun h => ?_) (fun h => ?_) <;> first | (exfalso; omega; done) | (exfalso; simp at h; done) | skip))
    have e : i' = j := by omega
    subst e
    have ei : i' = (i'.toNat : Int) := by omega
    repeat refine Mm.mk ?_
    conv => whnf
    refine EndVC.mk _ rfl _ _ (⟨i'.toNat, ⟨by omega, fun h2 => (by obtain ⟨y, hy⟩ := hyes (by omega); exact ⟨y, by rw [show i'.toNat = (i' - 1).toNat + 1 by omega]; exact hy⟩), fun h2 y hy => hno (by omega) ⟨y, hy⟩⟩, rfl, rfl⟩) ?_
    refine ⟨[some 0, some 1], rfl, rfl, ?_, ?_⟩ <;> repeat' (first | exact trivial | exact rfl | exact Iff.rfl | apply And.intro)
    exact ei
theorem s52 (b : Blnk) (p : List Smp) (hb : BlnkOK b) (hp : PtsOK p) : HSpec Tryz.prog 52 [b.x, lS p] [] (fun r m' => ∃ k, FitK b p k ∧ r = .tup [I (k : Int), I 0] ∧ m' = []) := by
  have lp := smpA_len p
  refine spec_of pMix (O := []) Tryz.func52 (c := bodyOf Tryz.f52) rfl (by kernel_rfl) (by kernel_rfl) Tryz.ntmps52 (res := [.tmp 4, .tmp 5]) (by kernel_rfl) ?_
  repeat' ((conv => whnf); first | refine Rng.g ?_ | refine Ob.g ?_ | refine Ob.e ?_ | refine Ob.m ?_ | refine Ob.mk (Nat.le_of_ble_eq_true rfl) ?_ | refine JoinVC.on ?_ | refine Nils.mk (fun h => ?_) ?_ | refine Val.t ?_ | refine Val.d ?_ | refine Mm.mk ?_ | (refine Br.mk (fun h => ?_) (fun h => ?_) <;> first | (exfalso; omega; done) | (exfalso; simp at h; done) | skip))
  conv => whnf
  refine CallVC.mk [] _ _ _ rfl rfl rfl (s135 b p) (fun r m' h' => ?_)
  rcases h' with ⟨e, hn, he, rfl, rfl⟩ | ⟨_, _, rfl, rfl⟩
  · exact absurd ⟨hb, hp⟩ hn
  repeat' ((conv => whnf); first | rw [lp] | refine Rng.g ?_ | refine Ob.g ?_ | refine Ob.e ?_ | refine Ob.m ?_ | refine Ob.mk (Nat.le_of_ble_eq_true rfl) ?_ | refine JoinVC.on ?_ | refine Nils.mk (fun h => ?_) ?_ | refine Val.t ?_ | refine Val.d ?_ | refine Mm.mk ?_ | (refine Br.mk (fun h => ?_) (fun h => ?_) <;> first | (exfalso; omega; done) | (exfalso; simp at h; done) | skip))
  conv => whnf
  refine CallVC.mk [0, 1] _ _ _ rfl rfl rfl (s136f b p hb hp) (fun r m' h' => ?_)
  obtain ⟨k, hk, rfl, rfl⟩ := h'
  conv => whnf
  repeat' ((conv => whnf); first | refine Rng.g ?_ | refine Ob.g ?_ | refine Ob.e ?_ | refine Ob.m ?_ | refine Ob.mk (Nat.le_of_ble_eq_true rfl) ?_ | refine JoinVC.on ?_ | refine Nils.mk (fun h => ?_) ?_ | refine Val.t ?_ | refine Val.d ?_ | refine Mm.mk ?_ | (refine Br.mk (fun h => ?_) (fun h => ?_) <;> first | (exfalso; omega; done) | (exfalso; simp at h; done) | skip))
  repeat refine Mm.mk ?_
  conv => whnf
  refine EndVC.mk _ rfl _ _ (⟨k, hk, rfl, rfl⟩) ?_
  refine ⟨[], rfl, rfl, ?_, ?_⟩ <;> repeat' (first | exact trivial | exact rfl | exact Iff.rfl | apply And.intro)
end Go.Sx

namespace Go.Sx
open Go Go.Proofs
set_option maxRecDepth 10000
set_option maxHeartbeats 4000000
/-! ### A groove without a signal, and a groove in its band -/
theorem rep_get {k i : Nat} (s : Smp) (h : i < k) : (List.replicate k s).getD i s0 = s := by simp [List.getD_eq_getElem?_getD, h]
theorem div_back {i : Nat} {per : Int} (hp : 1 ≤ per) (h : per ≤ i) : ((((i : Int) - per).toNat : Nat) : Int) / per = (i : Int) / per - 1 := by
  rw [Int.toNat_of_nonneg (by omega)]
  have h1 := Int.add_mul_ediv_left ((i : Int) - per) 1 (show per ≠ 0 by omega)
  rw [show (i : Int) - per + per * 1 = i by omega] at h1
  omega
theorem div_step {i : Nat} {per : Int} (hp : 1 ≤ per) (h : 0 < i) : ((i - 1 : Nat) : Int) / per ≤ (i : Int) / per ∧ (i : Int) / per ≤ ((i - 1 : Nat) : Int) / per + 1 := by
  have h1 : ((i - 1 : Nat) : Int) ≤ (i : Int) := by omega
  refine ⟨Int.ediv_le_ediv (by omega) h1, ?_⟩
  have h2 := Int.add_mul_ediv_left ((i - 1 : Nat) : Int) 1 (show per ≠ 0 by omega)
  rw [← h2]
  exact Int.ediv_le_ediv (by omega) (by omega)
theorem div_nonneg' {i : Nat} {per : Int} (hp : 1 ≤ per) : 0 ≤ (i : Int) / per := Int.ediv_nonneg (by omega) (by omega)
theorem sil_feas {b : Blnk} {h : Int} {k : Nat} (hk : 1 ≤ k) (hp : 1 ≤ b.per) (hs : b.slow = 0) (hh : 0 ≤ 2 * h + b.land) (hf : 2 * h + b.land ≤ b.fast) : (∃ y, Feas b (List.replicate k ⟨-h, h⟩) y) ↔ b.core + 2 * h + (2 * h + b.land) * (((k : Int) - 1) / b.per) ≤ b.rim := by
  have hl : (List.replicate k (⟨-h, h⟩ : Smp)).length = k := List.length_replicate
  obtain ⟨g, hg⟩ : ∃ g, 2 * h + b.land = g := ⟨_, rfl⟩
  rw [hg] at hh hf ⊢
  constructor
  · rintro ⟨y, hy⟩
    have main : ∀ j i : Nat, i < k → (j : Int) * b.per ≤ i → y i ≤ b.rim - h - g * j := by
      intro j
      induction j with
      | zero =>
        intro i hi _
        have := (hy i (by rw [hl]; exact hi)).1
        rw [rep_get _ hi] at this
        show y i ≤ b.rim - h - g * (0 : Int)
        rw [Int.mul_zero]
        simp only at this
        omega
      | succ j ih =>
        intro i hi hj
        have e : ((j + 1 : Nat) : Int) * b.per = (j : Int) * b.per + b.per := by rw [Int.natCast_add, Int.add_mul]; simp
        have e2 : g * ((j + 1 : Nat) : Int) = g * j + g := by rw [Int.natCast_add, Int.mul_add]; simp
        have h0 : 0 ≤ (j : Int) * b.per := Int.mul_nonneg (by omega) (by omega)
        have h1 := (hy i (by rw [hl]; exact hi)).2.2.2 (by omega)
        have h2 := ih ((i : Int) - b.per).toNat (by omega) (by omega)
        rw [rep_get _ hi, rep_get _ (show ((i : Int) - b.per).toNat < k by omega)] at h1
        simp only at h1
        omega
    have hj : 0 ≤ ((k : Int) - 1) / b.per := Int.ediv_nonneg (by omega) (by omega)
    have h3 := main (((k : Int) - 1) / b.per).toNat (k - 1) (by omega) (by
      rw [Int.toNat_of_nonneg hj]
      have := Int.ediv_mul_le ((k : Int) - 1) (show b.per ≠ 0 by omega)
      omega)
    rw [Int.toNat_of_nonneg hj] at h3
    have h4 := (hy (k - 1) (by rw [hl]; omega)).2.1
    rw [rep_get _ (show k - 1 < k by omega)] at h4
    simp only at h4
    omega
  · intro hr
    refine ⟨fun i => b.rim - h - g * ((i : Int) / b.per), fun i hi => ?_⟩
    rw [hl] at hi
    rw [rep_get _ hi]
    simp only
    have h0 : 0 ≤ g * ((i : Int) / b.per) := Int.mul_nonneg hh (div_nonneg' hp)
    refine ⟨by omega, ?_, fun h1 => ?_, fun h1 => ?_⟩
    · have h2 : (i : Int) / b.per ≤ ((k : Int) - 1) / b.per := Int.ediv_le_ediv (by omega) (by omega)
      have h3 := Int.mul_le_mul_of_nonneg_left h2 hh
      omega
    · obtain ⟨h2, h3⟩ := div_step hp h1
      have h4 := Int.mul_le_mul_of_nonneg_left h2 hh
      have h5 := Int.mul_le_mul_of_nonneg_left h3 hh
      rw [Int.mul_add] at h5
      omega
    · rw [rep_get _ (show ((i : Int) - b.per).toNat < k by omega), div_back hp h1]
      simp only
      rw [Int.mul_sub]
      omega
/-- A cut that goes inwards by the pitch once in a turn. -/
def plainF (outer most pitch per : Int) (i : Nat) : Int := outer - most - pitch * ((i : Int) / per)
theorem band_feas {p : List Smp} {outer most least pitch land per : Int} (hper : 1 ≤ per) (h0 : 0 ≤ pitch) (hl : 0 ≤ land) (hm : ∀ i, i < p.length → (p.getD i s0).r ≤ most ∧ least ≤ (p.getD i s0).l) (hp : most - least + land ≤ pitch) : Feas ⟨per, outer, outer - pitch * (((p.length : Int) + per - 1) / per), land, 0, pitch⟩ p (plainF outer most pitch per) := by
  intro i hi
  obtain ⟨m1, m2⟩ := hm i hi
  have n0 : 0 ≤ pitch * ((i : Int) / per) := Int.mul_nonneg h0 (div_nonneg' hper)
  simp only [plainF]
  refine ⟨by omega, ?_, fun h1 => ?_, fun h1 => ?_⟩
  · have h2 : (i : Int) / per + 1 ≤ ((p.length : Int) + per - 1) / per := by
      have h3 := Int.add_mul_ediv_left (i : Int) 1 (show per ≠ 0 by omega)
      rw [← h3]
      exact Int.ediv_le_ediv (by omega) (by omega)
    have h4 := Int.mul_le_mul_of_nonneg_left h2 h0
    rw [Int.mul_add] at h4
    omega
  · obtain ⟨h2, h3⟩ := div_step hper h1
    have h4 := Int.mul_le_mul_of_nonneg_left h2 h0
    have h5 := Int.mul_le_mul_of_nonneg_left h3 h0
    rw [Int.mul_add] at h5
    omega
  · obtain ⟨m3, m4⟩ := hm ((i : Int) - per).toNat (by omega)
    rw [div_back hper h1, Int.mul_sub]
    omega
/-! ### Sorting by insertion -/
def swp (O : List Int) (j : Nat) : List Int := (O.set (j + 1) (O.getD j 0)).set j (O.getD (j + 1) 0)
def ins (lt : Int → Int → Bool) (O : List Int) : Nat → List Int
  | 0 => O
  | j + 1 => if lt (O.getD (j + 1) 0) (O.getD j 0) = true then ins lt (swp O j) j else O
def isr (lt : Int → Int → Bool) (O : List Int) : Nat → List Int
  | 0 => O
  | k + 1 => ins lt (isr lt O k) (k + 1)
theorem swp_len (O : List Int) (j : Nat) : (swp O j).length = O.length := by simp [swp]
theorem ins_len (lt : Int → Int → Bool) : ∀ (j : Nat) (O : List Int), (ins lt O j).length = O.length
  | 0, O => rfl
  | j + 1, O => by
    unfold ins
    split
    · rw [ins_len lt j, swp_len]
    · rfl
theorem isr_len (lt : Int → Int → Bool) (O : List Int) : ∀ k, (isr lt O k).length = O.length
  | 0 => rfl
  | k + 1 => by
    unfold isr
    rw [ins_len, isr_len lt O k]
/-- Each number below n, once. -/
structure IdxOK (O : List Int) (n : Nat) : Prop where
  len : O.length = n
  rng : ∀ i, i < n → 0 ≤ O.getD i 0 ∧ O.getD i 0 < n
  inj : ∀ i j, i < n → j < n → O.getD i 0 = O.getD j 0 → i = j
def sgF (j i : Nat) : Nat := if i = j then j + 1 else if i = j + 1 then j else i
theorem swp_get (O : List Int) {j : Nat} (h : j + 1 < O.length) (i : Nat) : (swp O j).getD i 0 = O.getD (sgF j i) 0 := by
  unfold swp sgF
  rw [gset _ _ _ _ _ (by simp; omega), gset _ _ _ _ _ h]
  split
  · rfl
  · split <;> rfl
theorem sg_lt {n j i : Nat} (hj : j + 1 < n) (hi : i < n) : sgF j i < n := by unfold sgF; split <;> (try split) <;> omega
theorem sg_inj {j i k : Nat} (h : sgF j i = sgF j k) : i = k := by unfold sgF at h; (repeat' split at h) <;> omega
theorem IdxOK.swp {O : List Int} {n : Nat} (h : IdxOK O n) {j : Nat} (hj : j + 1 < n) : IdxOK (Go.Sx.swp O j) n := by
  have hl := h.len
  have g := swp_get O (j := j) (by omega)
  refine ⟨by rw [swp_len]; exact hl, fun i hi => ?_, fun i k hi hk => ?_⟩
  · rw [g]
    exact h.rng _ (sg_lt hj hi)
  · rw [g, g]
    exact fun e => sg_inj (h.inj _ _ (sg_lt hj hi) (sg_lt hj hk) e)
theorem IdxOK.ins {lt : Int → Int → Bool} {n : Nat} : ∀ (j : Nat) {O : List Int}, IdxOK O n → j < n → IdxOK (Go.Sx.ins lt O j) n
  | 0, O, h, _ => h
  | j + 1, O, h, hj => by
    unfold Go.Sx.ins
    split
    · exact IdxOK.ins j (h.swp hj) (by omega)
    · exact h
theorem IdxOK.isr {lt : Int → Int → Bool} {n : Nat} {O : List Int} (h : IdxOK O n) : ∀ k, k < n → IdxOK (Go.Sx.isr lt O k) n
  | 0, _ => h
  | k + 1, hk => by
    unfold Go.Sx.isr
    exact IdxOK.ins (k + 1) (h.isr k (by omega)) hk
def spanL (i n : Nat) : List Int := (List.range n).map fun k => ((i + k : Nat) : Int)
theorem spanL_len (i n : Nat) : (spanL i n).length = n := by simp [spanL]
theorem spanL_get (i n k : Nat) (h : k < n) : (spanL i n).getD k 0 = ((i + k : Nat) : Int) := by simp [spanL, List.getD_eq_getElem?_getD, List.getElem?_range h]
theorem spanL_succ (i n : Nat) : spanL i (n + 1) = spanL i n ++ [((i + n : Nat) : Int)] := by simp [spanL, List.range_succ]
theorem span_idx (n : Nat) : IdxOK (spanL 0 n) n := ⟨spanL_len 0 n, fun i hi => by rw [spanL_get _ _ _ hi]; omega, fun i j hi hj e => by rw [spanL_get _ _ _ hi, spanL_get _ _ _ hj] at e; omega⟩
/-! ### The bands of a side -/
structure Fmt where
  nm : ByteArray
  outer : Int
  inner : Int
  per : Int
  lead : Int
  gap : Int
  tail : Int
  cost : Int
structure FmtOK (f : Fmt) : Prop where
  nm : nameOK f.nm
  outer : 1 ≤ f.outer ∧ f.outer ≤ 4194304
  inner : 0 ≤ f.inner ∧ f.inner ≤ f.outer - 1
  per : 1 ≤ f.per ∧ f.per ≤ 65536
  cost : 0 ≤ f.cost ∧ f.cost ≤ 1048576
  lead : 0 ≤ f.lead ∧ f.lead ≤ 4194304
  gap : 0 ≤ f.gap ∧ f.gap ≤ 4194304
  tail : 0 ≤ f.tail ∧ f.tail ≤ 4194304
structure Sng where
  long : Int
  pitch : Int
  least : Int
abbrev g0 : Sng := ⟨0, 0, 0⟩
def Sng.ok (g : Sng) : Prop := (1 ≤ g.long ∧ g.long ≤ 16777216) ∧ (1 ≤ g.pitch ∧ g.pitch ≤ 4096) ∧ (0 ≤ g.least ∧ g.least ≤ 4194304)
structure SngsOK (l : List Sng) : Prop where
  len : l.length ≤ 24
  each : ∀ j, j < l.length → (l.getD j g0).ok
def widF (f : Fmt) (g : Sng) : Int := g.pitch * ((g.long + f.per - 1) / f.per)
theorem wid_bd {f : Fmt} {g : Sng} (hp : 1 ≤ f.per) (hg : g.ok) : (1 ≤ (g.long + f.per - 1) / f.per ∧ (g.long + f.per - 1) / f.per ≤ 16777216) ∧ 1 ≤ widF f g ∧ widF f g ≤ 68719476736 := by
  obtain ⟨⟨l1, l2⟩, ⟨p1, p2⟩, _⟩ := hg
  have h1 : 1 ≤ (g.long + f.per - 1) / f.per := by
    have := Int.add_mul_ediv_left (g.long - 1) 1 (show f.per ≠ 0 by omega)
    rw [show g.long - 1 + f.per * 1 = g.long + f.per - 1 by omega] at this
    have h2 : 0 ≤ (g.long - 1) / f.per := Int.ediv_nonneg (by omega) (by omega)
    omega
  have h2 : (g.long + f.per - 1) / f.per ≤ 16777216 := by
    have := Int.add_mul_ediv_left (g.long - 1) 1 (show f.per ≠ 0 by omega)
    rw [show g.long - 1 + f.per * 1 = g.long + f.per - 1 by omega] at this
    have h3 : (g.long - 1) / f.per ≤ g.long - 1 := Int.ediv_le_self _ (by omega)
    omega
  refine ⟨⟨h1, h2⟩, ?_, ?_⟩
  · unfold widF
    have := Int.mul_le_mul p1 h1 (by decide) (by omega)
    omega
  · unfold widF
    have := Int.mul_le_mul p2 h2 (by omega) (by decide)
    omega
/-- Where the next track begins or ends. -/
def atF (f : Fmt) (l : List Sng) (O : List Int) : Nat → Int
  | 0 => f.outer - f.lead
  | i + 1 => atF f l O i - (if 0 < i then f.gap else 0) - widF f (l.getD (O.getD i 0).toNat g0)
theorem atF_bd {f : Fmt} {l : List Sng} {O : List Int} (hf : FmtOK f) (hl : SngsOK l) (hO : ∀ i, i < O.length → 0 ≤ O.getD i 0 ∧ O.getD i 0 < l.length) : ∀ i, i ≤ O.length → atF f l O i ≤ 4194304 ∧ -4194304 - 68723671040 * (i : Int) ≤ atF f l O i
  | 0, _ => by
    have := hf.outer
    have := hf.lead
    unfold atF
    omega
  | i + 1, hi => by
    have h1 := atF_bd hf hl hO i (by omega)
    have h2 := hO i (by omega)
    have h3 := (wid_bd hf.per.1 (hl.each (O.getD i 0).toNat (by omega))).2
    have := hf.gap
    unfold atF
    split <;> omega
def bndR (f : Fmt) (l : List Sng) (O : List Int) (i : Nat) : List Cell := [.int (O.getD i 0), .int (atF f l O i - (if 0 < i then f.gap else 0)), .int (atF f l O (i + 1))]
def bndA (f : Fmt) (l : List Sng) (O : List Int) (n : Nat) : Arr := (List.range n).map (bndR f l O)
theorem bndA_len (f : Fmt) (l : List Sng) (O : List Int) (n : Nat) : (bndA f l O n).length = n := by simp [bndA]
theorem bndA_succ (f : Fmt) (l : List Sng) (O : List Int) (n : Nat) : bndA f l O (n + 1) = bndA f l O n ++ [bndR f l O n] := by simp [bndA, List.range_succ]
def okAt (f : Fmt) (l : List Sng) (O : List Int) (i : Nat) : Prop := (l.getD (O.getD i 0).toNat g0).least ≤ atF f l O (i + 1)
def LayOK (f : Fmt) (l : List Sng) (O : List Int) : Prop := (∀ i, i < O.length → okAt f l O i) ∧ f.inner ≤ atF f l O O.length - f.tail
def cmpI (x y : Int) : Int := if x < y then -1 else if y < x then 1 else 0
def usF (l : List Sng) (a b : Int) : Int := if cmpI (l.getD b.toNat g0).least (l.getD a.toNat g0).least ≠ 0 then cmpI (l.getD b.toNat g0).least (l.getD a.toNat g0).least else cmpI a b
def usB (l : List Sng) (a b : Int) : Bool := decide (usF l a b < 0)
def allO (l : List Sng) : List Int := isr (usB l) (spanL 0 l.length) (l.length - 1)
theorem allO_idx (l : List Sng) : IdxOK (allO l) l.length := by
  unfold allO
  by_cases h : l.length = 0
  · rw [h]; exact span_idx 0
  · exact (span_idx _).isr _ (by omega)
end Go.Sx

namespace Go.Sx
open Go Go.Proofs
set_option maxRecDepth 10000
set_option maxHeartbeats 4000000
/-! ### Formats and tracks -/
@[reducible] def Fmt.x (f : Fmt) : XV := .agg [.str f.nm, .int .i64 f.outer, .int .i64 f.inner, .int .i64 f.per, .int .i64 f.lead, .int .i64 f.gap, .int .i64 f.tail, .int .i64 f.cost]
@[reducible] def Sng.x (g : Sng) : XV := .agg [.int .i64 g.long, .int .i64 g.pitch, .int .i64 g.least]
def sngA (l : List Sng) : Arr := l.map fun g => [.int g.long, .int g.pitch, .int g.least]
theorem sngA_len (l : List Sng) : (sngA l).length = l.length := by simp [sngA]
theorem sngA_0 (l : List Sng) (i : Nat) : rI (sngA l) i 0 = (l.getD i g0).long := map_rI _ g0 l i 0 rfl
theorem sngA_1 (l : List Sng) (i : Nat) : rI (sngA l) i (0 + 1) = (l.getD i g0).pitch := map_rI _ g0 l i 1 rfl
theorem sngA_2 (l : List Sng) (i : Nat) : rI (sngA l) i (0 + 1 + 1) = (l.getD i g0).least := map_rI _ g0 l i 2 rfl
@[reducible] def KSng : List CK := [.int .i64, .int .i64, .int .i64]
@[reducible] def lSng (l : List Sng) : XV := .one (.lst true KSng (sngA l))
@[reducible] def sngX (l : List Sng) (i : Nat) : XV := .agg [.int .i64 (rI (sngA l) i 0), .int .i64 (rI (sngA l) i (0 + 1)), .int .i64 (rI (sngA l) i (0 + 1 + 1))]
theorem sngX_eq (l : List Sng) (i : Nat) : sngX l i = (l.getD i g0).x := by
  unfold sngX
  rw [sngA_0, sngA_1, sngA_2]
theorem s295 (n lo hi : Int) : PSpec Tryz.prog 295 [I n, I lo, I hi] (xP (n < lo ∨ n > hi)) := by
  refine spec_of pMix (O := []) Tryz.func295 (c := bodyOf Tryz.f295) rfl (by kernel_rfl) (by kernel_rfl) Tryz.ntmps295 (res := [.tmp 6]) (by kernel_rfl) ?_
  repeat' ((conv => whnf); first | refine Rng.g ?_ | refine Ob.g ?_ | refine Ob.e ?_ | refine Ob.m ?_ | refine Ob.mk (Nat.le_of_ble_eq_true rfl) ?_ | refine JoinVC.on ?_ | refine Nils.mk (fun h => ?_) ?_ | refine Val.t ?_ | refine Val.d ?_ | refine Mm.mk ?_ | (refine Br.mk (fun h => ?_) (fun h => ?_) <;> first | (exfalso; omega; done) | (exfalso; simp at h; done) | skip))
  · repeat refine Mm.mk ?_
    refine EndVC.mk _ rfl _ _ ⟨rfl, rfl⟩ ?_
    refine ⟨[], rfl, rfl, ?_, ?_⟩ <;> repeat' (first | exact trivial | exact rfl | exact Iff.rfl | apply And.intro)
    exact .inl h
  · repeat refine Mm.mk ?_
    refine EndVC.mk _ rfl _ _ ⟨rfl, rfl⟩ ?_
    refine ⟨[], rfl, rfl, ?_, ?_⟩ <;> repeat' (first | exact trivial | exact rfl | exact Iff.rfl | apply And.intro)
    exact ⟨fun h2 => .inr h2, fun h2 => h2.elim (fun h3 => absurd h3 h) id⟩
theorem s141 (n lo hi : Int) : PSpec Tryz.prog 141 [I n, I lo, I hi] (xP (n ≥ lo ∧ n ≤ hi)) := by
  refine spec_of pMix (O := []) Tryz.func141 (c := bodyOf Tryz.f141) rfl (by kernel_rfl) (by kernel_rfl) Tryz.ntmps141 (res := [.tmp 6]) (by kernel_rfl) ?_
  repeat' ((conv => whnf); first | refine Rng.g ?_ | refine Ob.g ?_ | refine Ob.e ?_ | refine Ob.m ?_ | refine Ob.mk (Nat.le_of_ble_eq_true rfl) ?_ | refine JoinVC.on ?_ | refine Nils.mk (fun h => ?_) ?_ | refine Val.t ?_ | refine Val.d ?_ | refine Mm.mk ?_ | (refine Br.mk (fun h => ?_) (fun h => ?_) <;> first | (exfalso; omega; done) | (exfalso; simp at h; done) | skip))
  · repeat refine Mm.mk ?_
    refine EndVC.mk _ rfl _ _ ⟨rfl, rfl⟩ ?_
    refine ⟨[], rfl, rfl, ?_, ?_⟩ <;> repeat' (first | exact trivial | exact rfl | exact Iff.rfl | apply And.intro)
    exact ⟨fun h2 => ⟨h, h2⟩, fun h2 => h2.2⟩
  · repeat refine Mm.mk ?_
    refine EndVC.mk _ rfl _ _ ⟨rfl, rfl⟩ ?_
    refine ⟨[], rfl, rfl, ?_, ?_⟩ <;> repeat' (first | exact trivial | exact rfl | exact Iff.rfl | apply And.intro)
    exact fun h2 => h h2.1
theorem bytA_get (b : ByteArray) (i : Nat) : rI (bytA b) i 0 = chr b i := map_rI _ (0 : UInt8) b.data.toList i 0 rfl
theorem bytA_len (b : ByteArray) : (bytA b).length = b.size := by
  show (b.data.toList.map _).length = b.data.size
  rw [List.length_map, Array.length_toList]
open Classical in
theorem s294 (s : ByteArray) (hs : s.size ≤ 140737488355328) : PSpec Tryz.prog 294 [.one (.str s)] (xP (nameOK s)) := by
  have lb := bytA_len s
  refine spec_of pMix (O := []) Tryz.func294 (c := bodyOf Tryz.f294) rfl (by kernel_rfl) (by kernel_rfl) Tryz.ntmps294 (res := [.tmp 2]) (by kernel_rfl) ?_
  repeat' ((conv => whnf); first | refine Rng.g ?_ | refine Ob.g ?_ | refine Ob.e ?_ | refine Ob.m ?_ | refine Ob.mk (Nat.le_of_ble_eq_true rfl) ?_ | refine JoinVC.on ?_ | refine Nils.mk (fun h => ?_) ?_ | refine Val.t ?_ | refine Val.d ?_ | refine Mm.mk ?_ | (refine Br.mk (fun h => ?_) (fun h => ?_) <;> first | (exfalso; omega; done) | (exfalso; simp at h; done) | skip))
  refine LoopVC.mk (fun n st => ∃ (i : Nat), i ≤ s.size ∧ n = s.size - i ∧ (∀ j, j < i → okC (chr s j)) ∧ st = ⟨0, envA 34 [(0, .x (.one (.str s))), (6, .x (.one (.lst false [.int .u8] (bytA s)))), (7, .int .i64 (s.size : Int)), (8, .int .i64 (i : Int))], []⟩) _ _ ⟨0, Nat.zero_le _, rfl, fun j hj => absurd hj (Nat.not_lt_zero j), rfl⟩ ?_ ?_
  · refine ⟨[], rfl, rfl, ?_, ?_⟩ <;> repeat' (first | exact trivial | exact rfl | exact Iff.rfl | apply And.intro)
    exact congrArg Int.ofNat lb
  rintro n _ ⟨i, hi, hn, hj, rfl⟩
  have gc : rI (bytA s) (i : Int).toNat 0 = chr s i := by rw [Int.toNat_natCast, bytA_get]
  by_cases hi' : i < s.size
  · by_cases hc : okC (chr s i)
    · have hc' := hc
      unfold okC at hc'
      repeat' ((conv => whnf); first | rw [gc] | refine Rng.g ?_ | refine Ob.g ?_ | refine Ob.e ?_ | refine Ob.m ?_ | refine Ob.mk (Nat.le_of_ble_eq_true rfl) ?_ | refine JoinVC.on ?_ | refine Nils.mk (fun h => ?_) ?_ | refine Val.t ?_ | refine Val.d ?_ | refine Mm.mk ?_ | (refine Br.mk (fun h => ?_) (fun h => ?_) <;> first | (exfalso; omega; done) | (exfalso; simp at h; done) | skip))
      all_goals
        refine Back.mk (s.size - (i + 1)) _ (by omega) ⟨i + 1, by omega, rfl, fun j hj' => ?_, rfl⟩ ?_
        · rcases Nat.lt_succ_iff_lt_or_eq.1 hj' with h' | rfl
          · exact hj j h'
          · exact hc
        · refine ⟨[], rfl, rfl, ?_, ?_⟩ <;> repeat' (first | exact trivial | exact rfl | exact Iff.rfl | apply And.intro)
    · have hc' := hc
      unfold okC at hc'
      repeat' ((conv => whnf); first | rw [gc] | refine Rng.g ?_ | refine Ob.g ?_ | refine Ob.e ?_ | refine Ob.m ?_ | refine Ob.mk (Nat.le_of_ble_eq_true rfl) ?_ | refine JoinVC.on ?_ | refine Nils.mk (fun h => ?_) ?_ | refine Val.t ?_ | refine Val.d ?_ | refine Mm.mk ?_ | (refine Br.mk (fun h => ?_) (fun h => ?_) <;> first | (exfalso; omega; done) | (exfalso; simp at h; done) | skip))
      all_goals
        repeat refine Mm.mk ?_
        refine EndVC.mk _ rfl _ _ ⟨rfl, rfl⟩ ?_
        refine ⟨[], rfl, rfl, ?_, ?_⟩ <;> repeat' (first | exact trivial | exact rfl | exact Iff.rfl | apply And.intro)
        exact fun hn => hc (hn.2.2 i hi')
  · have h0 : s.size = 0 ↔ s = ⟨#[]⟩ := ⟨fun h => ByteArray.ext (Array.eq_empty_of_size_eq_zero h), fun h => by rw [h]; rfl⟩
    repeat' ((conv => whnf); first | refine Rng.g ?_ | refine Ob.g ?_ | refine Ob.e ?_ | refine Ob.m ?_ | refine Ob.mk (Nat.le_of_ble_eq_true rfl) ?_ | refine JoinVC.on ?_ | refine Nils.mk (fun h => ?_) ?_ | refine Val.t ?_ | refine Val.d ?_ | refine Mm.mk ?_ | (refine Br.mk (fun h => ?_) (fun h => ?_) <;> first | (exfalso; omega; done) | (exfalso; simp at h; done) | skip))
    · have h1 : ¬ s.size = 0 := fun e => h (h0.1 e)
      repeat refine Mm.mk ?_
      refine EndVC.mk _ rfl _ _ ⟨rfl, rfl⟩ ?_
      refine ⟨[], rfl, rfl, ?_, ?_⟩ <;> repeat' (first | exact trivial | exact rfl | exact Iff.rfl | apply And.intro)
      exact ⟨fun h2 => ⟨by omega, by omega, fun j hj' => hj j (by omega)⟩, fun hn => (by have := hn.2.1; omega)⟩
    · have h1 : s.size = 0 := h0.2 (Classical.not_not.1 h)
      repeat refine Mm.mk ?_
      refine EndVC.mk _ rfl _ _ ⟨rfl, rfl⟩ ?_
      refine ⟨[], rfl, rfl, ?_, ?_⟩ <;> repeat' (first | exact trivial | exact rfl | exact Iff.rfl | apply And.intro)
      exact fun hn => (by have := hn.1; omega)
/-! ### Which formats and tracks are valid -/
theorem s227 (f : Fmt) (hI : f.nm.size ≤ 140737488355328) : HSpec Tryz.prog 227 [f.x] [] (fun r m' => ∃ e, r = .x (I e) ∧ m' = [] ∧ (e = 0 ↔ FmtOK f)) := by
  have k0 := s295 f.lead 0 4194304
  have k1 := s295 f.gap 0 4194304
  have k2 := s295 f.tail 0 4194304
  refine spec_of pMix (O := []) Tryz.func227 (c := bodyOf Tryz.f227) rfl (by kernel_rfl) (by kernel_rfl) Tryz.ntmps227 (res := [.tmp 2]) (by kernel_rfl) ?_
  repeat' ((conv => whnf); first | refine Rng.g ?_ | refine Ob.g ?_ | refine Ob.e ?_ | refine Ob.m ?_ | refine Ob.mk (Nat.le_of_ble_eq_true rfl) ?_ | refine JoinVC.on ?_ | refine Nils.mk (fun h => ?_) ?_ | refine Val.t ?_ | refine Val.d ?_ | refine Mm.mk ?_ | refine CallVC.pure rfl (s294 f.nm hI) ?_ | refine CallVC.pure rfl (s295 f.outer 1 4194304) ?_ | refine CallVC.pure rfl (s295 f.inner 0 (f.outer - 1)) ?_ | refine CallVC.pure rfl (s295 f.per 1 65536) ?_ | refine CallVC.pure rfl (s295 f.cost 0 1048576) ?_ | refine CallVC0.pure rfl (s294 f.nm hI) ?_ | refine CallVC0.pure rfl (s295 f.outer 1 4194304) ?_ | refine CallVC0.pure rfl (s295 f.inner 0 (f.outer - 1)) ?_ | refine CallVC0.pure rfl (s295 f.per 1 65536) ?_ | refine CallVC0.pure rfl (s295 f.cost 0 1048576) ?_ | (refine Br.mk (fun h => ?_) (fun h => ?_) <;> first | (exfalso; omega; done) | (exfalso; simp at h; done) | skip))
  all_goals
    refine LoopVC.un 4 ?_
    repeat' ((conv => whnf); first | refine Rng.g ?_ | refine Ob.g ?_ | refine Ob.e ?_ | refine Ob.m ?_ | refine Ob.mk (Nat.le_of_ble_eq_true rfl) ?_ | refine JoinVC.on ?_ | refine Nils.mk (fun h => ?_) ?_ | refine Val.t ?_ | refine Val.d ?_ | refine Mm.mk ?_ | refine CallVC.pure rfl (k0) ?_ | refine CallVC.pure rfl (k1) ?_ | refine CallVC.pure rfl (k2) ?_ | refine CallVC0.pure rfl (k0) ?_ | refine CallVC0.pure rfl (k1) ?_ | refine CallVC0.pure rfl (k2) ?_ | (refine Br.mk (fun h => ?_) (fun h => ?_) <;> first | (exfalso; omega; done) | (exfalso; simp at h; done) | skip))
  rotate_right
  · repeat refine Mm.mk ?_
    conv => whnf
    refine EndVC.mk _ rfl _ _ (⟨0, rfl, rfl, ⟨fun _ => ⟨Classical.not_not.1 (by assumption), by omega, by omega, by omega, by omega, by omega, by omega, by omega⟩, fun _ => rfl⟩⟩) ?_
    refine ⟨[], rfl, rfl, ?_, ?_⟩ <;> repeat' (first | exact trivial | exact rfl | exact Iff.rfl | apply And.intro)
  all_goals
    repeat refine Mm.mk ?_
    conv => whnf
    refine EndVC.mk _ rfl _ _ (⟨2, rfl, rfl, ⟨fun h => (by cases h), fun hC => (by obtain ⟨h0, h1, h2, h3, h4, h5, h6, h7⟩ := hC; first | contradiction | omega)⟩⟩) ?_
    refine ⟨[], rfl, rfl, ?_, ?_⟩ <;> repeat' (first | exact trivial | exact rfl | exact Iff.rfl | apply And.intro)
end Go.Sx

namespace Go.Sx
open Go Go.Proofs
set_option maxRecDepth 10000
set_option maxHeartbeats 4000000
theorem s228 (l : List Sng) : HSpec Tryz.prog 228 [lSng l] [] (fun r m' => ∃ e, r = .x (I e) ∧ m' = [] ∧ (e = 0 ↔ SngsOK l)) := by
  have lp := sngA_len l
  by_cases h24 : 24 < l.length
  · refine spec_of pMix (O := []) Tryz.func228 (c := bodyOf Tryz.f228) rfl (by kernel_rfl) (by kernel_rfl) Tryz.ntmps228 (res := [.tmp 2]) (by kernel_rfl) ?_
    repeat' ((conv => whnf); first | refine Rng.g ?_ | refine Ob.g ?_ | refine Ob.e ?_ | refine Ob.m ?_ | refine Ob.mk (Nat.le_of_ble_eq_true rfl) ?_ | refine JoinVC.on ?_ | refine Nils.mk (fun h => ?_) ?_ | refine Val.t ?_ | refine Val.d ?_ | refine Mm.mk ?_ | (refine Br.mk (fun h => ?_) (fun h => ?_) <;> first | (exfalso; omega; done) | (exfalso; simp at h; done) | skip))
    repeat refine Mm.mk ?_
    conv => whnf
    refine EndVC.mk _ rfl _ _ (⟨6, rfl, rfl, ⟨fun h => (by cases h), fun h => (by have := h.len; omega)⟩⟩) ?_
    refine ⟨[], rfl, rfl, ?_, ?_⟩ <;> repeat' (first | exact trivial | exact rfl | exact Iff.rfl | apply And.intro)
  refine spec_of pMix (O := []) Tryz.func228 (c := bodyOf Tryz.f228) rfl (by kernel_rfl) (by kernel_rfl) Tryz.ntmps228 (res := [.tmp 2]) (by kernel_rfl) ?_
  repeat' ((conv => whnf); first | refine Rng.g ?_ | refine Ob.g ?_ | refine Ob.e ?_ | refine Ob.m ?_ | refine Ob.mk (Nat.le_of_ble_eq_true rfl) ?_ | refine JoinVC.on ?_ | refine Nils.mk (fun h => ?_) ?_ | refine Val.t ?_ | refine Val.d ?_ | refine Mm.mk ?_ | (refine Br.mk (fun h => ?_) (fun h => ?_) <;> first | (exfalso; omega; done) | (exfalso; simp at h; done) | skip))
  refine LoopVC.mk (fun n st => ∃ (i : Nat), i ≤ l.length ∧ n = l.length - i ∧ (∀ j, j < i → (l.getD j g0).ok) ∧ st = ⟨0, envA 28 [(8, .x (lSng l)), (9, .int .i64 (l.length : Int)), (10, .int .i64 (i : Int))], []⟩) _ _ ⟨0, Nat.zero_le _, rfl, fun j hj => absurd hj (Nat.not_lt_zero j), rfl⟩ ?_ ?_
  · refine ⟨[], rfl, rfl, ?_, ?_⟩ <;> repeat' (first | exact trivial | exact rfl | exact Iff.rfl | apply And.intro)
    all_goals exact congrArg Int.ofNat lp
  rintro n _ ⟨i, hi, hn, hj, rfl⟩
  have c0 : rI (sngA l) (i : Int).toNat 0 = (l.getD i g0).long := by rw [Int.toNat_natCast, sngA_0]
  have c1 : rI (sngA l) (i : Int).toNat (0 + 1) = (l.getD i g0).pitch := by rw [Int.toNat_natCast, sngA_1]
  have c2 : rI (sngA l) (i : Int).toNat (0 + 1 + 1) = (l.getD i g0).least := by rw [Int.toNat_natCast, sngA_2]
  have k0 := s295 (l.getD i g0).long 1 16777216
  have k1 := s295 (l.getD i g0).pitch 1 4096
  have k2 := s295 (l.getD i g0).least 0 4194304
  by_cases hi' : i < l.length
  · by_cases hg : (l.getD i g0).ok
    · have hg' := hg
      unfold Sng.ok at hg'
      repeat' ((conv => whnf); first | rw [c0] | rw [c1] | rw [c2] | refine Rng.g ?_ | refine Ob.g ?_ | refine Ob.e ?_ | refine Ob.m ?_ | refine Ob.mk (Nat.le_of_ble_eq_true rfl) ?_ | refine JoinVC.on ?_ | refine Nils.mk (fun h => ?_) ?_ | refine Val.t ?_ | refine Val.d ?_ | refine Mm.mk ?_ | refine CallVC.pure rfl (k0) ?_ | refine CallVC.pure rfl (k1) ?_ | refine CallVC.pure rfl (k2) ?_ | refine CallVC0.pure rfl (k0) ?_ | refine CallVC0.pure rfl (k1) ?_ | refine CallVC0.pure rfl (k2) ?_ | (refine Br.mk (fun h => ?_) (fun h => ?_) <;> first | (exfalso; omega; done) | (exfalso; simp at h; done) | skip))
      refine Back.mk (l.length - (i + 1)) _ (by omega) ⟨i + 1, by omega, rfl, fun j hj' => ?_, rfl⟩ ?_
      · rcases Nat.lt_succ_iff_lt_or_eq.1 hj' with h' | rfl
        · exact hj j h'
        · exact hg
      · refine ⟨[], rfl, rfl, ?_, ?_⟩ <;> repeat' (first | exact trivial | exact rfl | exact Iff.rfl | apply And.intro)
    · have hg' := hg
      unfold Sng.ok at hg'
      repeat' ((conv => whnf); first | rw [c0] | rw [c1] | rw [c2] | refine Rng.g ?_ | refine Ob.g ?_ | refine Ob.e ?_ | refine Ob.m ?_ | refine Ob.mk (Nat.le_of_ble_eq_true rfl) ?_ | refine JoinVC.on ?_ | refine Nils.mk (fun h => ?_) ?_ | refine Val.t ?_ | refine Val.d ?_ | refine Mm.mk ?_ | refine CallVC.pure rfl (k0) ?_ | refine CallVC.pure rfl (k1) ?_ | refine CallVC.pure rfl (k2) ?_ | refine CallVC0.pure rfl (k0) ?_ | refine CallVC0.pure rfl (k1) ?_ | refine CallVC0.pure rfl (k2) ?_ | (refine Br.mk (fun h => ?_) (fun h => ?_) <;> first | (exfalso; omega; done) | (exfalso; simp at h; done) | skip))
      all_goals
        repeat refine Mm.mk ?_
        conv => whnf
        refine EndVC.mk _ rfl _ _ (⟨2, rfl, rfl, ⟨fun h => (by cases h), fun h => absurd (h.each i hi') hg⟩⟩) ?_
        refine ⟨[], rfl, rfl, ?_, ?_⟩ <;> repeat' (first | exact trivial | exact rfl | exact Iff.rfl | apply And.intro)
  · repeat' ((conv => whnf); first | refine Rng.g ?_ | refine Ob.g ?_ | refine Ob.e ?_ | refine Ob.m ?_ | refine Ob.mk (Nat.le_of_ble_eq_true rfl) ?_ | refine JoinVC.on ?_ | refine Nils.mk (fun h => ?_) ?_ | refine Val.t ?_ | refine Val.d ?_ | refine Mm.mk ?_ | (refine Br.mk (fun h => ?_) (fun h => ?_) <;> first | (exfalso; omega; done) | (exfalso; simp at h; done) | skip))
    repeat refine Mm.mk ?_
    conv => whnf
    refine EndVC.mk _ rfl _ _ (⟨0, rfl, rfl, ⟨fun _ => ⟨by omega, fun j hj' => hj j (by omega)⟩, fun _ => rfl⟩⟩) ?_
    refine ⟨[], rfl, rfl, ?_, ?_⟩ <;> repeat' (first | exact trivial | exact rfl | exact Iff.rfl | apply And.intro)
@[reducible] def bPl (f : Fmt) (l : List Sng) : Blk := .box 351 [.str f.nm, .int .i64 f.outer, .int .i64 f.inner, .int .i64 f.per, .int .i64 f.lead, .int .i64 f.gap, .int .i64 f.tail, .int .i64 f.cost, .lst true KSng (sngA l)]
theorem s138 (f : Fmt) (l : List Sng) (hI : f.nm.size ≤ 140737488355328) : HSpec Tryz.prog 138 [f.x, lSng l] [] (fun r m' => (∃ e, ¬ (FmtOK f ∧ SngsOK l) ∧ e ≠ 0 ∧ r = .tup [.one .nilp, I e] ∧ m' = []) ∨ (FmtOK f ∧ SngsOK l ∧ r = .tup [.one (.ptr 0 0), I 0] ∧ m' = [some (bPl f l)])) := by
  have v1 := s227 f hI
  have v2 := s228 l
  by_cases hC : ¬ FmtOK f
  · refine spec_of pMix (O := []) Tryz.func138 (c := bodyOf Tryz.f138) rfl (by kernel_rfl) (by kernel_rfl) Tryz.ntmps138 (res := [.tmp 4, .tmp 5]) (by kernel_rfl) ?_
    repeat' ((conv => whnf); first | refine Rng.g ?_ | refine Ob.g ?_ | refine Ob.e ?_ | refine Ob.m ?_ | refine Ob.mk (Nat.le_of_ble_eq_true rfl) ?_ | refine JoinVC.on ?_ | refine Nils.mk (fun h => ?_) ?_ | refine Val.t ?_ | refine Val.d ?_ | refine Mm.mk ?_ | (refine Br.mk (fun h => ?_) (fun h => ?_) <;> first | (exfalso; omega; done) | (exfalso; simp at h; done) | skip))
    conv => whnf
    refine CallVC.mk [] _ _ _ rfl rfl rfl (v1) (fun r m' h' => ?_)
    obtain ⟨e, rfl, rfl, he⟩ := h'
    conv => whnf
    have he0 : e ≠ 0 := fun h0 => hC (he.1 h0)
    repeat' ((conv => whnf); first | refine Rng.g ?_ | refine Ob.g ?_ | refine Ob.e ?_ | refine Ob.m ?_ | refine Ob.mk (Nat.le_of_ble_eq_true rfl) ?_ | refine JoinVC.on ?_ | refine Nils.mk (fun h => ?_) ?_ | refine Val.t ?_ | refine Val.d ?_ | refine Mm.mk ?_ | (refine Br.mk (fun h => ?_) (fun h => ?_) <;> first | (exfalso; omega; done) | (exfalso; simp at h; done) | skip))
    repeat refine Mm.mk ?_
    conv => whnf
    refine EndVC.mk _ rfl _ _ (.inl ⟨e, fun h => hC h.1, he0, rfl, rfl⟩) ?_
    refine ⟨[], rfl, rfl, ?_, ?_⟩ <;> repeat' (first | exact trivial | exact rfl | exact Iff.rfl | apply And.intro)
  replace hC := Classical.not_not.1 hC
  by_cases hP : ¬ SngsOK l
  · refine spec_of pMix (O := []) Tryz.func138 (c := bodyOf Tryz.f138) rfl (by kernel_rfl) (by kernel_rfl) Tryz.ntmps138 (res := [.tmp 4, .tmp 5]) (by kernel_rfl) ?_
    repeat' ((conv => whnf); first | refine Rng.g ?_ | refine Ob.g ?_ | refine Ob.e ?_ | refine Ob.m ?_ | refine Ob.mk (Nat.le_of_ble_eq_true rfl) ?_ | refine JoinVC.on ?_ | refine Nils.mk (fun h => ?_) ?_ | refine Val.t ?_ | refine Val.d ?_ | refine Mm.mk ?_ | (refine Br.mk (fun h => ?_) (fun h => ?_) <;> first | (exfalso; omega; done) | (exfalso; simp at h; done) | skip))
    conv => whnf
    refine CallVC.mk [] _ _ _ rfl rfl rfl (v1) (fun r m' h' => ?_)
    obtain ⟨e, rfl, rfl, he⟩ := h'
    conv => whnf
    cases he.2 hC
    repeat' ((conv => whnf); first | refine Rng.g ?_ | refine Ob.g ?_ | refine Ob.e ?_ | refine Ob.m ?_ | refine Ob.mk (Nat.le_of_ble_eq_true rfl) ?_ | refine JoinVC.on ?_ | refine Nils.mk (fun h => ?_) ?_ | refine Val.t ?_ | refine Val.d ?_ | refine Mm.mk ?_ | (refine Br.mk (fun h => ?_) (fun h => ?_) <;> first | (exfalso; omega; done) | (exfalso; simp at h; done) | skip))
    conv => whnf
    refine CallVC.mk [] _ _ _ rfl rfl rfl (v2) (fun r m' h' => ?_)
    obtain ⟨e, rfl, rfl, he'⟩ := h'
    conv => whnf
    have he0 : e ≠ 0 := fun h0 => hP (he'.1 h0)
    repeat' ((conv => whnf); first | refine Rng.g ?_ | refine Ob.g ?_ | refine Ob.e ?_ | refine Ob.m ?_ | refine Ob.mk (Nat.le_of_ble_eq_true rfl) ?_ | refine JoinVC.on ?_ | refine Nils.mk (fun h => ?_) ?_ | refine Val.t ?_ | refine Val.d ?_ | refine Mm.mk ?_ | (refine Br.mk (fun h => ?_) (fun h => ?_) <;> first | (exfalso; omega; done) | (exfalso; simp at h; done) | skip))
    repeat refine Mm.mk ?_
    conv => whnf
    refine EndVC.mk _ rfl _ _ (.inl ⟨e, fun h => hP h.2, he0, rfl, rfl⟩) ?_
    refine ⟨[], rfl, rfl, ?_, ?_⟩ <;> repeat' (first | exact trivial | exact rfl | exact Iff.rfl | apply And.intro)
  replace hP := Classical.not_not.1 hP
  refine spec_of pMix (O := []) Tryz.func138 (c := bodyOf Tryz.f138) rfl (by kernel_rfl) (by kernel_rfl) Tryz.ntmps138 (res := [.tmp 4, .tmp 5]) (by kernel_rfl) ?_
  repeat' ((conv => whnf); first | refine Rng.g ?_ | refine Ob.g ?_ | refine Ob.e ?_ | refine Ob.m ?_ | refine Ob.mk (Nat.le_of_ble_eq_true rfl) ?_ | refine JoinVC.on ?_ | refine Nils.mk (fun h => ?_) ?_ | refine Val.t ?_ | refine Val.d ?_ | refine Mm.mk ?_ | (refine Br.mk (fun h => ?_) (fun h => ?_) <;> first | (exfalso; omega; done) | (exfalso; simp at h; done) | skip))
  conv => whnf
  refine CallVC.mk [] _ _ _ rfl rfl rfl (v1) (fun r m' h' => ?_)
  obtain ⟨e, rfl, rfl, he⟩ := h'
  conv => whnf
  cases he.2 hC
  repeat' ((conv => whnf); first | refine Rng.g ?_ | refine Ob.g ?_ | refine Ob.e ?_ | refine Ob.m ?_ | refine Ob.mk (Nat.le_of_ble_eq_true rfl) ?_ | refine JoinVC.on ?_ | refine Nils.mk (fun h => ?_) ?_ | refine Val.t ?_ | refine Val.d ?_ | refine Mm.mk ?_ | (refine Br.mk (fun h => ?_) (fun h => ?_) <;> first | (exfalso; omega; done) | (exfalso; simp at h; done) | skip))
  conv => whnf
  refine CallVC.mk [] _ _ _ rfl rfl rfl (v2) (fun r m' h' => ?_)
  obtain ⟨e, rfl, rfl, he'⟩ := h'
  conv => whnf
  cases he'.2 hP
  repeat' ((conv => whnf); first | refine Rng.g ?_ | refine Ob.g ?_ | refine Ob.e ?_ | refine Ob.m ?_ | refine Ob.mk (Nat.le_of_ble_eq_true rfl) ?_ | refine JoinVC.on ?_ | refine Nils.mk (fun h => ?_) ?_ | refine Val.t ?_ | refine Val.d ?_ | refine Mm.mk ?_ | (refine Br.mk (fun h => ?_) (fun h => ?_) <;> first | (exfalso; omega; done) | (exfalso; simp at h; done) | skip))
  repeat refine Mm.mk ?_
  conv => whnf
  refine EndVC.mk _ rfl _ _ (.inr ⟨hC, hP, rfl, rfl⟩) ?_
  refine ⟨[some 1], rfl, rfl, ?_, ?_⟩ <;> repeat' (first | exact trivial | exact rfl | exact Iff.rfl | apply And.intro)
@[reducible] def pvT : Option (List Sng) → SV
  | some l => .lst true KSng (sngA l)
  | none => .any
@[reducible] def bPv (f : Fmt) (v : Option (List Sng)) : Blk := .box 351 [.str f.nm, .int .i64 f.outer, .int .i64 f.inner, .int .i64 f.per, .int .i64 f.lead, .int .i64 f.gap, .int .i64 f.tail, .int .i64 f.cost, pvT v]
theorem s139 (f : Fmt) (v : Option (List Sng)) (g : Sng) (hf : FmtOK f) (hg : g.ok) : HSpec Tryz.prog 139 [.one (.ptr 0 0), g.x] [bPv f v] (fun r m' => r = .x (I (widF f g)) ∧ m' = [some (bPv f v)]) := by
  obtain ⟨w1, w2⟩ := wid_bd hf.per.1 hg
  have hp := hf.per
  have hg1 := hg.1
  have hg2 := hg.2.1
  unfold widF at w2
  cases v
  all_goals
    refine spec_of pMix (O := []) Tryz.func139 (c := bodyOf Tryz.f139) rfl (by kernel_rfl) (by kernel_rfl) Tryz.ntmps139 (res := [.tmp 4]) (by kernel_rfl) ?_
    repeat' ((conv => whnf); first | refine Rng.g ?_ | refine Ob.g ?_ | refine Ob.e ?_ | refine Ob.m ?_ | refine Ob.mk (Nat.le_of_ble_eq_true rfl) ?_ | refine JoinVC.on ?_ | refine Nils.mk (fun h => ?_) ?_ | refine Val.t ?_ | refine Val.d ?_ | refine Mm.mk ?_ | (refine Br.mk (fun h => ?_) (fun h => ?_) <;> first | (exfalso; omega; done) | (exfalso; simp at h; done) | skip))
    repeat refine Mm.mk ?_
    refine EndVC.mk _ rfl _ _ ⟨rfl, rfl⟩ ?_
    refine ⟨[some 0], rfl, rfl, ?_, ?_⟩ <;> repeat' (first | exact trivial | exact rfl | exact Iff.rfl | apply And.intro)
inductive WdRs (f : Fmt) (g : Sng) (r : AV) (m' : List (Option Blk)) : Prop
  | bad (e : Int) (h : ¬ (FmtOK f ∧ g.ok)) (he : e ≠ 0) (hr : r = .tup [I 0, I e]) (hm : m' = [])
  | ok (hf : FmtOK f) (hg : g.ok) (hr : r = .tup [I (widF f g), I 0]) (hm : m' = [])
theorem sngs1 (g : Sng) : SngsOK [g] ↔ g.ok := ⟨fun h => h.each 0 (by simp), fun h => ⟨by simp, fun j hj => (by rw [show j = 0 by simp at hj; omega]; exact h)⟩⟩
theorem s54 (f : Fmt) (g : Sng) (hI : f.nm.size ≤ 140737488355328) : HSpec Tryz.prog 54 [f.x, g.x] [] (WdRs f g) := by
  refine spec_of pMix (O := []) Tryz.func54 (c := bodyOf Tryz.f54) rfl (by kernel_rfl) (by kernel_rfl) Tryz.ntmps54 (res := [.tmp 4, .tmp 5]) (by kernel_rfl) ?_
  repeat' ((conv => whnf); first | refine Rng.g ?_ | refine Ob.g ?_ | refine Ob.e ?_ | refine Ob.m ?_ | refine Ob.mk (Nat.le_of_ble_eq_true rfl) ?_ | refine JoinVC.on ?_ | refine Nils.mk (fun h => ?_) ?_ | refine Val.t ?_ | refine Val.d ?_ | refine Mm.mk ?_ | (refine Br.mk (fun h => ?_) (fun h => ?_) <;> first | (exfalso; omega; done) | (exfalso; simp at h; done) | skip))
  conv => whnf
  refine CallVC.mk [] _ _ _ rfl rfl rfl (s138 f [g] hI) (fun r m' h' => ?_)
  rcases h' with ⟨e, hn, he, rfl, rfl⟩ | ⟨hf, hg, rfl, rfl⟩
  · repeat' ((conv => whnf); first | refine Rng.g ?_ | refine Ob.g ?_ | refine Ob.e ?_ | refine Ob.m ?_ | refine Ob.mk (Nat.le_of_ble_eq_true rfl) ?_ | refine JoinVC.on ?_ | refine Nils.mk (fun h => ?_) ?_ | refine Val.t ?_ | refine Val.d ?_ | refine Mm.mk ?_ | (refine Br.mk (fun h => ?_) (fun h => ?_) <;> first | (exfalso; omega; done) | (exfalso; simp at h; done) | skip))
    repeat refine Mm.mk ?_
    conv => whnf
    refine EndVC.mk _ rfl _ _ (.bad e (fun hh => hn ⟨hh.1, (sngs1 g).2 hh.2⟩) he rfl rfl) ?_
    refine ⟨[], rfl, rfl, ?_, ?_⟩ <;> repeat' (first | exact trivial | exact rfl | exact Iff.rfl | apply And.intro)
  · have hg' := (sngs1 g).1 hg
    repeat' ((conv => whnf); first | refine Rng.g ?_ | refine Ob.g ?_ | refine Ob.e ?_ | refine Ob.m ?_ | refine Ob.mk (Nat.le_of_ble_eq_true rfl) ?_ | refine JoinVC.on ?_ | refine Nils.mk (fun h => ?_) ?_ | refine Val.t ?_ | refine Val.d ?_ | refine Mm.mk ?_ | (refine Br.mk (fun h => ?_) (fun h => ?_) <;> first | (exfalso; omega; done) | (exfalso; simp at h; done) | skip))
    conv => whnf
    refine CallVC.mk [3] _ _ _ rfl rfl rfl (s139 f none g hf hg') (fun r m' h' => ?_)
    obtain ⟨rfl, rfl⟩ := h'
    conv => whnf
    repeat' ((conv => whnf); first | refine Rng.g ?_ | refine Ob.g ?_ | refine Ob.e ?_ | refine Ob.m ?_ | refine Ob.mk (Nat.le_of_ble_eq_true rfl) ?_ | refine JoinVC.on ?_ | refine Nils.mk (fun h => ?_) ?_ | refine Val.t ?_ | refine Val.d ?_ | refine Mm.mk ?_ | (refine Br.mk (fun h => ?_) (fun h => ?_) <;> first | (exfalso; omega; done) | (exfalso; simp at h; done) | skip))
    repeat refine Mm.mk ?_
    conv => whnf
    refine EndVC.mk _ rfl _ _ (.ok hf hg' rfl rfl) ?_
    refine ⟨[], rfl, rfl, ?_, ?_⟩ <;> repeat' (first | exact trivial | exact rfl | exact Iff.rfl | apply And.intro)
end Go.Sx
