import Derived.Test.YthfdbmgjkjeccaaProg
import Derived.Test.YthfdbmgjkjeccaaSxB
import Derived.Shelf.Abstract
namespace Go.Sx
open Go Go.Proofs
theorem pMix : Try.prog.follows .mixedOrders = true := by kernel_rfl
theorem spec_of {P : Program} (hm : P.follows .mixedOrders = true) {f : FuncId} {fn : Func} (hf : P.funcs[f]? = some fn) {c : Code} (hb : fn.body = some c) (hname : (fn.name == "runtime.NumGoroutine") = false) (hok : codeOK c = true) {nt : Nat} (hnt : fn.ntmps = nt) {res : List ResultVar} (hres : fn.results.toList = res)
    {args : List XV} {m : List Blk} {Rs : AV → List (Option Blk) → Prop} (h : awp P c (startSt nt args m) (atEnd P res Rs)) : HSpec P f args m Rs := hspec_of_awp hm hf hb (enters_of hf hname hb) hok hnt hres h
noncomputable def bodyOf (f : Func) : Code := match f.body with | some c => c | none => .skip
abbrev I (n : Int) : XV := .one (.int .i64 n)
def setsE : List AV → List (Nat × AV) → List AV
  | l, [] => l
  | l, (n, v) :: r => setsE (l.set n v) r
/-- An environment of n unknowns but for these. -/
def envA (n : Nat) (l : List (Nat × AV)) : List AV := setsE (anysA n) l

theorem CallVC.pure {P : Program} {f : FuncId} {args : List AV} {s : St} {K : AV → St → Prop} {args' : List XV} {r : AV} (ha : argsX s [] args = some args') (h : PSpec P f args' r) (k : afterCall s (lendsA [] args || lendsB s [] []) [] r [] K) : CallVC P f args s K :=
  CallVC.mk [] _ args' [] ha rfl rfl h fun r' m' ⟨h1, h2⟩ => by subst h1 h2; exact k
theorem e56 : EntersF Try.prog 56 := enters_of Try.func56 (c := bodyOf Try.f56) (by kernel_rfl) rfl
set_option maxRecDepth 10000
abbrev xP (p : Prop) [d : Decidable p] : AV := .x (.one (.prp p d))
theorem s56 (n lo hi : Int) : PSpec Try.prog 56 [I n, I lo, I hi] (xP (n < lo ∨ hi < n)) := by
  refine spec_of pMix Try.func56 (c := bodyOf Try.f56) rfl (by kernel_rfl) (by kernel_rfl) Try.ntmps56 (res := [.tmp 6]) (by kernel_rfl) ?_
  refine Br.mk (fun h => ?_) (fun h => ?_)
  · refine EndVC.mk _ rfl _ _ ⟨rfl, rfl⟩ ⟨[], rfl, rfl, ⟨?_, trivial⟩, trivial⟩
    exact Or.inl h
  · refine EndVC.mk _ rfl _ _ ⟨rfl, rfl⟩ ⟨[], rfl, rfl, ⟨?_, trivial⟩, trivial⟩
    show _ ↔ _
    simp [h]
theorem s58 (n lo hi : Int) : PSpec Try.prog 58 [I n, I lo, I hi] (xP (lo ≤ n ∧ n ≤ hi)) := by
  refine spec_of pMix Try.func58 (c := bodyOf Try.f58) rfl (by kernel_rfl) (by kernel_rfl) Try.ntmps58 (res := [.tmp 6]) (by kernel_rfl) ?_
  refine Br.mk (fun h => ?_) (fun h => ?_)
  · refine EndVC.mk _ rfl _ _ ⟨rfl, rfl⟩ ⟨[], rfl, rfl, ⟨?_, trivial⟩, trivial⟩
    show _ ↔ _
    simp [h]
  · refine EndVC.mk _ rfl _ _ ⟨rfl, rfl⟩ ⟨[], rfl, rfl, ⟨?_, trivial⟩, trivial⟩
    show ¬ _
    simp [h]
theorem e58 : EntersF Try.prog 58 := enters_of Try.func58 (c := bodyOf Try.f58) (by kernel_rfl) rfl
structure Mac where
  room : Int
  melt : Int
  cool : Int
  top : Int
  heat : Int
  chill : Int
  drift : Int
  hold : Int
  life : Int
@[reducible] def Mac.x (m : Mac) : XV := .agg [.int .i64 m.room, .int .i64 m.melt, .int .i64 m.cool, .int .i64 m.top, .int .i64 m.heat, .int .i64 m.chill, .int .i64 m.drift, .int .i64 m.hold, .int .i64 m.life]
/-- Which machines are valid. -/
def Mac.ok (m : Mac) : Prop := 0 ≤ m.room ∧ m.room ≤ m.cool ∧ m.cool < m.melt ∧ m.melt ≤ m.top ∧ m.top ≤ 400 ∧ 1 ≤ m.heat ∧ m.heat ≤ 400 ∧ 1 ≤ m.chill ∧ m.chill ≤ 400 ∧ 0 ≤ m.drift ∧ m.drift ≤ 400 ∧ 1 ≤ m.hold ∧ m.hold ≤ 64 ∧ 1 ≤ m.life ∧ m.life ≤ 65536
open Classical in
noncomputable def Mac.chk (m : Mac) : Int := if m.ok then 0 else 2
theorem Mac.chk0 {m : Mac} (h : m.ok) : m.chk = 0 := if_pos h
theorem Mac.chk2 {m : Mac} (h : ¬ m.ok) : m.chk = 2 := if_neg h
/-- The temperature after a tick. -/
def tickF (m : Mac) (t v : Int) : Int := if v = 1 then (if t + m.heat < m.top then t + m.heat else m.top) else if v = 2 then (if m.room < t - m.chill then t - m.chill else m.room) else (if m.room < t - m.drift then t - m.drift else m.room)
theorem s57 (m : Mac) (T v : Int) (hm : m.ok) (h1 : m.room ≤ T) (h2 : T ≤ m.top) : PSpec Try.prog 57 [m.x, I T, I v] (.x (I (tickF m T v))) := by
  obtain ⟨m1, m2, m3, m4, m5, m6, m7, m8, m9, m10, m11, m12, m13, m14, m15⟩ := hm
  refine spec_of pMix Try.func57 (c := bodyOf Try.f57) rfl (by kernel_rfl) (by kernel_rfl) Try.ntmps57 (res := [.tmp 6]) (by kernel_rfl) ?_
  refine Br.mk (fun h => ?_) (fun h => ?_)
  · refine Rng.ok (by simp only [inR]; omega) ?_
    refine EndVC.mk _ rfl _ _ ⟨rfl, rfl⟩ ⟨[], rfl, rfl, ⟨⟨rfl, ?_⟩, trivial⟩, trivial⟩
    simp only [tickF, if_pos h]
  · refine Br.mk (fun h' => ?_) (fun h' => ?_)
    · refine Rng.ok (by simp only [inR]; omega) ?_
      refine EndVC.mk _ rfl _ _ ⟨rfl, rfl⟩ ⟨[], rfl, rfl, ⟨⟨rfl, ?_⟩, trivial⟩, trivial⟩
      simp only [tickF, if_neg h, if_pos h']
    · refine Rng.ok (by simp only [inR]; omega) ?_
      refine EndVC.mk _ rfl _ _ ⟨rfl, rfl⟩ ⟨[], rfl, rfl, ⟨⟨rfl, ?_⟩, trivial⟩, trivial⟩
      simp only [tickF, if_neg h, if_neg h']
theorem s59 (m : Mac) (T v : Int) (hm : m.ok) (h1 : m.room ≤ T) (h2 : T ≤ m.top) : PSpec Try.prog 59 [m.x, I T, I v] (.x (I (tickF m T v))) := by
  obtain ⟨m1, m2, m3, m4, m5, m6, m7, m8, m9, m10, m11, m12, m13, m14, m15⟩ := hm
  refine spec_of pMix Try.func59 (c := bodyOf Try.f59) rfl (by kernel_rfl) (by kernel_rfl) Try.ntmps59 (res := [.tmp 6]) (by kernel_rfl) ?_
  refine Br.mk (fun h => ?_) (fun h => ?_)
  · refine Rng.ok (by simp only [inR]; omega) ?_
    refine EndVC.mk _ rfl _ _ ⟨rfl, rfl⟩ ⟨[], rfl, rfl, ⟨⟨rfl, ?_⟩, trivial⟩, trivial⟩
    simp only [tickF, if_pos h]
  · refine Br.mk (fun h' => ?_) (fun h' => ?_)
    · refine Rng.ok (by simp only [inR]; omega) ?_
      refine EndVC.mk _ rfl _ _ ⟨rfl, rfl⟩ ⟨[], rfl, rfl, ⟨⟨rfl, ?_⟩, trivial⟩, trivial⟩
      simp only [tickF, if_neg h, if_pos h']
    · refine Rng.ok (by simp only [inR]; omega) ?_
      refine EndVC.mk _ rfl _ _ ⟨rfl, rfl⟩ ⟨[], rfl, rfl, ⟨⟨rfl, ?_⟩, trivial⟩, trivial⟩
      simp only [tickF, if_neg h, if_neg h']
theorem s20 (m : Mac) : PSpec Try.prog 20 [m.x] (.x (I m.chk)) := by
  refine spec_of pMix Try.func20 (c := bodyOf Try.f20) rfl (by kernel_rfl) (by kernel_rfl) Try.ntmps20 (res := [.tmp 2]) (by kernel_rfl) ?_
  have bad : ¬ m.ok → (2 : Int) = m.chk := fun h => (Mac.chk2 h).symm
  refine Br.mk (fun h1 => ?_) (fun h1 => ?_)
  · refine EndVC.mk _ rfl _ _ ⟨rfl, rfl⟩ ⟨[], rfl, rfl, ⟨⟨rfl, ?_⟩, trivial⟩, trivial⟩
    exact bad (by simp only [Mac.ok]; omega)
  refine Br.mk (fun h2 => ?_) (fun h2 => ?_)
  · refine EndVC.mk _ rfl _ _ ⟨rfl, rfl⟩ ⟨[], rfl, rfl, ⟨⟨rfl, ?_⟩, trivial⟩, trivial⟩
    exact bad (by simp only [Mac.ok]; omega)
  refine Br.mk (fun h3 => ?_) (fun h3 => ?_)
  · refine EndVC.mk _ rfl _ _ ⟨rfl, rfl⟩ ⟨[], rfl, rfl, ⟨⟨rfl, ?_⟩, trivial⟩, trivial⟩
    exact bad (by simp only [Mac.ok]; omega)
  refine Br.mk (fun h4 => ?_) (fun h4 => ?_)
  · refine EndVC.mk _ rfl _ _ ⟨rfl, rfl⟩ ⟨[], rfl, rfl, ⟨⟨rfl, ?_⟩, trivial⟩, trivial⟩
    exact bad (by simp only [Mac.ok]; omega)
  refine Br.mk (fun h5 => ?_) (fun h5 => ?_)
  · refine EndVC.mk _ rfl _ _ ⟨rfl, rfl⟩ ⟨[], rfl, rfl, ⟨⟨rfl, ?_⟩, trivial⟩, trivial⟩
    exact bad (by simp only [Mac.ok]; omega)
  change CallVC _ _ _ _ _
  refine CallVC.pure rfl (s56 _ _ _) ?_
  refine Br.mk (fun h6 => ?_) (fun h6 => ?_)
  · refine EndVC.mk _ rfl _ _ ⟨rfl, rfl⟩ ⟨[], rfl, rfl, ⟨⟨rfl, ?_⟩, trivial⟩, trivial⟩
    exact bad (by simp only [Mac.ok]; omega)
  change CallVC _ _ _ _ _
  refine CallVC.pure rfl (s56 _ _ _) ?_
  refine Br.mk (fun h7 => ?_) (fun h7 => ?_)
  · refine EndVC.mk _ rfl _ _ ⟨rfl, rfl⟩ ⟨[], rfl, rfl, ⟨⟨rfl, ?_⟩, trivial⟩, trivial⟩
    exact bad (by simp only [Mac.ok]; omega)
  change CallVC _ _ _ _ _
  refine CallVC.pure rfl (s56 _ _ _) ?_
  refine Br.mk (fun h8 => ?_) (fun h8 => ?_)
  · refine EndVC.mk _ rfl _ _ ⟨rfl, rfl⟩ ⟨[], rfl, rfl, ⟨⟨rfl, ?_⟩, trivial⟩, trivial⟩
    exact bad (by simp only [Mac.ok]; omega)
  change CallVC _ _ _ _ _
  refine CallVC.pure rfl (s56 _ _ _) ?_
  refine Br.mk (fun h9 => ?_) (fun h9 => ?_)
  · refine EndVC.mk _ rfl _ _ ⟨rfl, rfl⟩ ⟨[], rfl, rfl, ⟨⟨rfl, ?_⟩, trivial⟩, trivial⟩
    exact bad (by simp only [Mac.ok]; omega)
  change CallVC _ _ _ _ _
  refine CallVC.pure rfl (s56 _ _ _) ?_
  refine Br.mk (fun h10 => ?_) (fun h10 => ?_)
  · refine EndVC.mk _ rfl _ _ ⟨rfl, rfl⟩ ⟨[], rfl, rfl, ⟨⟨rfl, ?_⟩, trivial⟩, trivial⟩
    exact bad (by simp only [Mac.ok]; omega)
  refine EndVC.mk _ rfl _ _ ⟨rfl, rfl⟩ ⟨[], rfl, rfl, ⟨⟨rfl, ?_⟩, trivial⟩, trivial⟩
  exact (Mac.chk0 (by simp only [Mac.ok]; omega)).symm
theorem s21 (m : Mac) : PSpec Try.prog 21 [m.x] (.x (I m.chk)) := by
  refine spec_of pMix Try.func21 (c := bodyOf Try.f21) rfl (by kernel_rfl) (by kernel_rfl) Try.ntmps21 (res := [.tmp 2]) (by kernel_rfl) ?_
  have bad : ¬ m.ok → (2 : Int) = m.chk := fun h => (Mac.chk2 h).symm
  refine Br.mk (fun h1 => ?_) (fun h1 => ?_)
  · refine EndVC.mk _ rfl _ _ ⟨rfl, rfl⟩ ⟨[], rfl, rfl, ⟨⟨rfl, ?_⟩, trivial⟩, trivial⟩
    exact bad (by simp only [Mac.ok]; omega)
  refine Br.mk (fun h2 => ?_) (fun h2 => ?_)
  · refine EndVC.mk _ rfl _ _ ⟨rfl, rfl⟩ ⟨[], rfl, rfl, ⟨⟨rfl, ?_⟩, trivial⟩, trivial⟩
    exact bad (by simp only [Mac.ok]; omega)
  refine Br.mk (fun h3 => ?_) (fun h3 => ?_)
  · refine EndVC.mk _ rfl _ _ ⟨rfl, rfl⟩ ⟨[], rfl, rfl, ⟨⟨rfl, ?_⟩, trivial⟩, trivial⟩
    exact bad (by simp only [Mac.ok]; omega)
  refine Br.mk (fun h4 => ?_) (fun h4 => ?_)
  · refine EndVC.mk _ rfl _ _ ⟨rfl, rfl⟩ ⟨[], rfl, rfl, ⟨⟨rfl, ?_⟩, trivial⟩, trivial⟩
    exact bad (by simp only [Mac.ok]; omega)
  refine Br.mk (fun h5 => ?_) (fun h5 => ?_)
  · refine EndVC.mk _ rfl _ _ ⟨rfl, rfl⟩ ⟨[], rfl, rfl, ⟨⟨rfl, ?_⟩, trivial⟩, trivial⟩
    exact bad (by simp only [Mac.ok]; omega)
  change CallVC _ _ _ _ _
  refine CallVC.pure rfl (s58 _ _ _) ?_
  refine Br.mk (fun h6 => ?_) (fun h6 => ?_)
  · refine EndVC.mk _ rfl _ _ ⟨rfl, rfl⟩ ⟨[], rfl, rfl, ⟨⟨rfl, ?_⟩, trivial⟩, trivial⟩
    exact bad (by simp only [Mac.ok]; omega)
  change CallVC _ _ _ _ _
  refine CallVC.pure rfl (s58 _ _ _) ?_
  refine Br.mk (fun h7 => ?_) (fun h7 => ?_)
  · refine EndVC.mk _ rfl _ _ ⟨rfl, rfl⟩ ⟨[], rfl, rfl, ⟨⟨rfl, ?_⟩, trivial⟩, trivial⟩
    exact bad (by simp only [Mac.ok]; omega)
  change CallVC _ _ _ _ _
  refine CallVC.pure rfl (s58 _ _ _) ?_
  refine Br.mk (fun h8 => ?_) (fun h8 => ?_)
  · refine EndVC.mk _ rfl _ _ ⟨rfl, rfl⟩ ⟨[], rfl, rfl, ⟨⟨rfl, ?_⟩, trivial⟩, trivial⟩
    exact bad (by simp only [Mac.ok]; omega)
  change CallVC _ _ _ _ _
  refine CallVC.pure rfl (s58 _ _ _) ?_
  refine Br.mk (fun h9 => ?_) (fun h9 => ?_)
  · refine EndVC.mk _ rfl _ _ ⟨rfl, rfl⟩ ⟨[], rfl, rfl, ⟨⟨rfl, ?_⟩, trivial⟩, trivial⟩
    exact bad (by simp only [Mac.ok]; omega)
  change CallVC _ _ _ _ _
  refine CallVC.pure rfl (s58 _ _ _) ?_
  refine Br.mk (fun h10 => ?_) (fun h10 => ?_)
  · refine EndVC.mk _ rfl _ _ ⟨rfl, rfl⟩ ⟨[], rfl, rfl, ⟨⟨rfl, ?_⟩, trivial⟩, trivial⟩
    exact bad (by simp only [Mac.ok]; omega)
  refine EndVC.mk _ rfl _ _ ⟨rfl, rfl⟩ ⟨[], rfl, rfl, ⟨⟨rfl, ?_⟩, trivial⟩, trivial⟩
  exact (Mac.chk0 (by simp only [Mac.ok]; omega)).symm
theorem e20 : EntersF Try.prog 20 := enters_of Try.func20 (c := bodyOf Try.f20) (by kernel_rfl) rfl
theorem e21 : EntersF Try.prog 21 := enters_of Try.func21 (c := bodyOf Try.f21) (by kernel_rfl) rfl
theorem e57 : EntersF Try.prog 57 := enters_of Try.func57 (c := bodyOf Try.f57) (by kernel_rfl) rfl
theorem e59 : EntersF Try.prog 59 := enters_of Try.func59 (c := bodyOf Try.f59) (by kernel_rfl) rfl
theorem Mac.chk_cases (m : Mac) : (m.ok ∧ m.chk = 0) ∨ (¬ m.ok ∧ m.chk = 2) := by
  by_cases h : m.ok
  · exact .inl ⟨h, Mac.chk0 h⟩
  · exact .inr ⟨h, Mac.chk2 h⟩
/-- What Tick returns. -/
def inTick (m : Mac) (t v : Int) : Prop := m.room ≤ t ∧ t ≤ m.top ∧ 0 ≤ v ∧ v ≤ 2
instance (m : Mac) (t v : Int) : Decidable (inTick m t v) := by unfold inTick; exact inferInstance
noncomputable def Mac.tickV (m : Mac) (t v : Int) : Int := if m.chk = 0 then (if inTick m t v then tickF m t v else 0) else 0
noncomputable def Mac.tickE (m : Mac) (t v : Int) : Int := if m.chk = 0 then (if inTick m t v then 0 else 3) else m.chk
theorem tick_bad {m : Mac} {t v : Int} (h : ¬ m.chk = 0) : (0 : Int) = m.tickV t v ∧ m.chk = m.tickE t v := ⟨(if_neg h).symm, (if_neg h).symm⟩
theorem tick_out {m : Mac} {t v : Int} (h : ¬ ¬ m.chk = 0) (h1 : ¬ inTick m t v) : (0 : Int) = m.tickV t v ∧ (3 : Int) = m.tickE t v := by
  have h := Decidable.not_not.1 h
  exact ⟨by rw [Mac.tickV, if_pos h, if_neg h1], by rw [Mac.tickE, if_pos h, if_neg h1]⟩
theorem tick_in {m : Mac} {t v : Int} (h : ¬ ¬ m.chk = 0) (h1 : inTick m t v) : tickF m t v = m.tickV t v ∧ (0 : Int) = m.tickE t v := by
  have h := Decidable.not_not.1 h
  exact ⟨by rw [Mac.tickV, if_pos h, if_pos h1], by rw [Mac.tickE, if_pos h, if_pos h1]⟩
theorem s18 (m : Mac) (t v : Int) : PSpec Try.prog 18 [m.x, I t, I v] (.tup [I (m.tickV t v), I (m.tickE t v)]) := by
  refine spec_of pMix Try.func18 (c := bodyOf Try.f18) rfl (by kernel_rfl) (by kernel_rfl) Try.ntmps18 (res := [.tmp 6, .tmp 7]) (by kernel_rfl) ?_
  change CallVC _ _ _ _ _
  refine CallVC.pure rfl (s20 m) ?_
  refine Br.mk (fun h => ?_) (fun h => ?_)
  · refine EndVC.mk _ rfl _ _ ⟨rfl, rfl⟩ ⟨[], rfl, rfl, ⟨⟨⟨rfl, ?_⟩, ⟨rfl, ?_⟩, trivial⟩, trivial⟩, trivial⟩
    · exact (tick_bad h).1
    · exact (tick_bad h).2
  change CallVC _ _ _ _ _
  refine CallVC.pure rfl (s56 _ _ _) ?_
  refine Br.mk (fun h1 => ?_) (fun h1 => ?_)
  · refine EndVC.mk _ rfl _ _ ⟨rfl, rfl⟩ ⟨[], rfl, rfl, ⟨⟨⟨rfl, ?_⟩, ⟨rfl, ?_⟩, trivial⟩, trivial⟩, trivial⟩
    · exact (tick_out h (by unfold inTick; omega)).1
    · exact (tick_out h (by unfold inTick; omega)).2
  change CallVC _ _ _ _ _
  refine CallVC.pure rfl (s56 _ _ _) ?_
  refine Br.mk (fun h2 => ?_) (fun h2 => ?_)
  · refine EndVC.mk _ rfl _ _ ⟨rfl, rfl⟩ ⟨[], rfl, rfl, ⟨⟨⟨rfl, ?_⟩, ⟨rfl, ?_⟩, trivial⟩, trivial⟩, trivial⟩
    · exact (tick_out h (by unfold inTick; omega)).1
    · exact (tick_out h (by unfold inTick; omega)).2
  change CallVC _ _ _ _ _
  refine CallVC.pure rfl (s57 m t v (by rcases m.chk_cases with h3 | h3; exact h3.1; exact absurd (fun e => absurd (h3.2.symm.trans e) (by decide)) h) (by omega) (by omega)) ?_
  refine EndVC.mk _ rfl _ _ ⟨rfl, rfl⟩ ⟨[], rfl, rfl, ⟨⟨⟨rfl, ?_⟩, ⟨rfl, ?_⟩, trivial⟩, trivial⟩, trivial⟩
  · exact (tick_in h (by unfold inTick; omega)).1
  · exact (tick_in h (by unfold inTick; omega)).2
theorem s19 (m : Mac) (t v : Int) : PSpec Try.prog 19 [m.x, I t, I v] (.tup [I (m.tickV t v), I (m.tickE t v)]) := by
  refine spec_of pMix Try.func19 (c := bodyOf Try.f19) rfl (by kernel_rfl) (by kernel_rfl) Try.ntmps19 (res := [.tmp 6, .tmp 7]) (by kernel_rfl) ?_
  change CallVC _ _ _ _ _
  refine CallVC.pure rfl (s21 m) ?_
  refine Br.mk (fun h => ?_) (fun h => ?_)
  · refine EndVC.mk _ rfl _ _ ⟨rfl, rfl⟩ ⟨[], rfl, rfl, ⟨⟨⟨rfl, ?_⟩, ⟨rfl, ?_⟩, trivial⟩, trivial⟩, trivial⟩
    · exact (tick_bad h).1
    · rcases m.chk_cases with h3 | h3
      · exact absurd h3.2 h
      · exact h3.2.symm.trans (tick_bad h).2
  change CallVC _ _ _ _ _
  refine CallVC.pure rfl (s58 _ _ _) ?_
  refine Br.mk (fun h1 => ?_) (fun h1 => ?_)
  · refine EndVC.mk _ rfl _ _ ⟨rfl, rfl⟩ ⟨[], rfl, rfl, ⟨⟨⟨rfl, ?_⟩, ⟨rfl, ?_⟩, trivial⟩, trivial⟩, trivial⟩
    · exact (tick_out h (by unfold inTick; omega)).1
    · exact (tick_out h (by unfold inTick; omega)).2
  refine Br.mk (fun h2 => ?_) (fun h2 => ?_)
  · refine EndVC.mk _ rfl _ _ ⟨rfl, rfl⟩ ⟨[], rfl, rfl, ⟨⟨⟨rfl, ?_⟩, ⟨rfl, ?_⟩, trivial⟩, trivial⟩, trivial⟩
    · exact (tick_out h (by unfold inTick; omega)).1
    · exact (tick_out h (by unfold inTick; omega)).2
  refine Br.mk (fun h3 => ?_) (fun h3 => ?_)
  · refine EndVC.mk _ rfl _ _ ⟨rfl, rfl⟩ ⟨[], rfl, rfl, ⟨⟨⟨rfl, ?_⟩, ⟨rfl, ?_⟩, trivial⟩, trivial⟩, trivial⟩
    · exact (tick_out h (by unfold inTick; omega)).1
    · exact (tick_out h (by unfold inTick; omega)).2
  change CallVC _ _ _ _ _
  refine CallVC.pure rfl (s59 m t v (by rcases m.chk_cases with h3 | h3; exact h3.1; exact absurd (fun e => absurd (h3.2.symm.trans e) (by decide)) h) (by omega) (by omega)) ?_
  refine EndVC.mk _ rfl _ _ ⟨rfl, rfl⟩ ⟨[], rfl, rfl, ⟨⟨⟨rfl, ?_⟩, ⟨rfl, ?_⟩, trivial⟩, trivial⟩, trivial⟩
  · exact (tick_in h (by unfold inTick; omega)).1
  · exact (tick_in h (by unfold inTick; omega)).2
end Go.Sx

namespace Go.Sx
open Go Go.Proofs
theorem mul_bd {a b : Int} {A B : Nat} (ha : a.natAbs ≤ A) (hb : b.natAbs ≤ B) : (a * b).natAbs ≤ A * B := by
  rw [Int.natAbs_mul]; exact Nat.mul_le_mul ha hb
structure Spot where
  x : Int
  y : Int
@[reducible] def Spot.v (p : Spot) : XV := .agg [.int .i64 p.x, .int .i64 p.y]
@[reducible] def Spot.row (p : Spot) : List Cell := [.int p.x, .int p.y]
/-- A coordinate's amount. -/
def Spot.ok (p : Spot) : Prop := p.x.natAbs ≤ 262144 ∧ p.y.natAbs ≤ 262144
set_option maxRecDepth 10000
theorem e67 : EntersF Try.prog 67 := enters_of Try.func67 (c := bodyOf Try.f67) (by kernel_rfl) rfl
theorem e69 : EntersF Try.prog 69 := enters_of Try.func69 (c := bodyOf Try.f69) (by kernel_rfl) rfl
theorem e70 : EntersF Try.prog 70 := enters_of Try.func70 (c := bodyOf Try.f70) (by kernel_rfl) rfl
theorem e71 : EntersF Try.prog 71 := enters_of Try.func71 (c := bodyOf Try.f71) (by kernel_rfl) rfl
theorem e68 : EntersF Try.prog 68 := enters_of Try.func68 (c := bodyOf Try.f68) (by kernel_rfl) rfl
theorem e31 : EntersF Try.prog 31 := enters_of Try.func31 (c := bodyOf Try.f31) (by kernel_rfl) rfl
def sq (p : Spot) : Int := p.x * p.x + p.y * p.y
theorem sq_bd {p : Spot} (h : p.ok) : (sq p).natAbs ≤ 137438953472 := by
  have h1 := mul_bd h.1 h.1
  have h2 := mul_bd h.2 h.2
  unfold sq; omega
theorem s67 (p : Spot) (h : p.ok) : PSpec Try.prog 67 [p.v] (.x (I (sq p))) := by
  have h1 := mul_bd h.1 h.1
  have h2 := mul_bd h.2 h.2
  refine spec_of pMix Try.func67 (c := bodyOf Try.f67) rfl (by kernel_rfl) (by kernel_rfl) Try.ntmps67 (res := [.tmp 2]) (by kernel_rfl) ?_
  refine Rng.ok (by simp only [inR]; omega) ?_
  refine Rng.ok (by simp only [inR]; omega) ?_
  refine Rng.ok (by simp only [inR]; omega) ?_
  refine EndVC.mk _ rfl _ _ ⟨rfl, rfl⟩ ⟨[], rfl, rfl, ⟨⟨rfl, ?_⟩, trivial⟩, trivial⟩
  rfl
def g2 (p q r : Spot) : Int := p.x * (q.y - r.y)
def g3 (p q r : Spot) : Int := sq p * (q.y - r.y)
def g4 (p q r : Spot) : Int := sq p * (r.x - q.x)
theorem g2_bd {p q r : Spot} (hp : p.ok) (hq : q.ok) (hr : r.ok) : (g2 p q r).natAbs ≤ 72057594037927936 := by
  obtain ⟨h1, h2⟩ := hp; obtain ⟨h3, h4⟩ := hq; obtain ⟨h5, h6⟩ := hr
  have := mul_bd (B := 524288) h1 (show (q.y - r.y).natAbs ≤ 524288 by omega)
  unfold g2; omega
theorem g3_bd {p q r : Spot} (hp : p.ok) (hq : q.ok) (hr : r.ok) : (g3 p q r).natAbs ≤ 72057594037927936 := by
  have h0 := sq_bd hp
  obtain ⟨h3, h4⟩ := hq; obtain ⟨h5, h6⟩ := hr
  have := mul_bd (B := 524288) h0 (show (q.y - r.y).natAbs ≤ 524288 by omega)
  unfold g3; omega
theorem g4_bd {p q r : Spot} (hp : p.ok) (hq : q.ok) (hr : r.ok) : (g4 p q r).natAbs ≤ 72057594037927936 := by
  have h0 := sq_bd hp
  obtain ⟨h3, h4⟩ := hq; obtain ⟨h5, h6⟩ := hr
  have := mul_bd (B := 524288) h0 (show (r.x - q.x).natAbs ≤ 524288 by omega)
  unfold g4; omega
theorem s69 (p q r : Spot) (hp : p.ok) (hq : q.ok) (hr : r.ok) : PSpec Try.prog 69 [p.v, q.v, r.v] (.x (I (g2 p q r))) := by
  have h := g2_bd hp hq hr
  unfold g2 at h
  obtain ⟨h1, h2⟩ := hp; obtain ⟨h3, h4⟩ := hq; obtain ⟨h5, h6⟩ := hr
  refine spec_of pMix Try.func69 (c := bodyOf Try.f69) rfl (by kernel_rfl) (by kernel_rfl) Try.ntmps69 (res := [.tmp 6]) (by kernel_rfl) ?_
  refine Rng.ok (by simp only [inR]; omega) ?_
  refine Rng.ok (by simp only [inR]; omega) ?_
  refine EndVC.mk _ rfl _ _ ⟨rfl, rfl⟩ ⟨[], rfl, rfl, ⟨⟨rfl, ?_⟩, trivial⟩, trivial⟩
  rfl
/-- The box of a function that a closure reads. -/
@[reducible] def fbox (f : FuncId) : XV := .one (.lel true [.fn] [[.fn f]] 0 0)
theorem s70 (p q r : Spot) (hp : p.ok) (hq : q.ok) (hr : r.ok) : PSpec Try.prog 70 [p.v, q.v, r.v, fbox 67] (.x (I (g3 p q r))) := by
  have h := g3_bd hp hq hr
  unfold g3 at h
  have hp' := hp
  obtain ⟨h1, h2⟩ := hp; obtain ⟨h3, h4⟩ := hq; obtain ⟨h5, h6⟩ := hr
  refine spec_of pMix Try.func70 (c := bodyOf Try.f70) rfl (by kernel_rfl) (by kernel_rfl) Try.ntmps70 (res := [.tmp 7]) (by kernel_rfl) ?_
  change DrawVC _ _ _ _
  refine DrawVC.quiet (by kernel_rfl) ?_
  change QCallVC _ _ _ _ _
  refine QCallVC.mk e67 _ _ rfl (s67 p hp') rfl ?_
  refine Rng.ok (by simp only [inR]; omega) ?_
  refine Rng.ok (by simp only [inR]; omega) ?_
  refine EndVC.mk _ rfl _ _ ⟨rfl, rfl⟩ ⟨[], rfl, rfl, ⟨⟨rfl, ?_⟩, trivial⟩, trivial⟩
  rfl
theorem s71 (p q r : Spot) (hp : p.ok) (hq : q.ok) (hr : r.ok) : PSpec Try.prog 71 [p.v, q.v, r.v, fbox 67] (.x (I (g4 p q r))) := by
  have h := g4_bd hp hq hr
  unfold g4 at h
  have hp' := hp
  obtain ⟨h1, h2⟩ := hp; obtain ⟨h3, h4⟩ := hq; obtain ⟨h5, h6⟩ := hr
  refine spec_of pMix Try.func71 (c := bodyOf Try.f71) rfl (by kernel_rfl) (by kernel_rfl) Try.ntmps71 (res := [.tmp 7]) (by kernel_rfl) ?_
  change DrawVC _ _ _ _
  refine DrawVC.quiet (by kernel_rfl) ?_
  change QCallVC _ _ _ _ _
  refine QCallVC.mk e67 _ _ rfl (s67 p hp') rfl ?_
  refine Rng.ok (by simp only [inR]; omega) ?_
  refine Rng.ok (by simp only [inR]; omega) ?_
  refine EndVC.mk _ rfl _ _ ⟨rfl, rfl⟩ ⟨[], rfl, rfl, ⟨⟨rfl, ?_⟩, trivial⟩, trivial⟩
  rfl

def tsum (g : Spot → Spot → Spot → Int) (a b c : Spot) : Nat → Int
  | 0 => 0
  | 1 => g a b c
  | 2 => g a b c + g b c a
  | _ => g a b c + g b c a + g c a b
@[reducible] def spots (a b c : Spot) : XV := .one (.lst true [.int .i64, .int .i64] [a.row, b.row, c.row])
theorem s68a (f : FuncId) (g : Spot → Spot → Spot → Int) (a b c : Spot) (he : EntersF Try.prog f) (hf : ∀ p q r : Spot, p.ok → q.ok → r.ok → PSpec Try.prog f [p.v, q.v, r.v] (.x (I (g p q r))))
    (hg : ∀ p q r : Spot, p.ok → q.ok → r.ok → (g p q r).natAbs ≤ 72057594037927936) (ha : a.ok) (hb : b.ok) (hc : c.ok) : PSpec Try.prog 68 [.one (.fn f []), spots a b c] (.x (I (tsum g a b c 3))) := by
  have b1 := hg a b c ha hb hc
  have b2 := hg b c a hb hc ha
  have b3 := hg c a b hc ha hb
  refine spec_of pMix Try.func68 (c := bodyOf Try.f68) rfl (by kernel_rfl) (by kernel_rfl) Try.ntmps68 (res := [.tmp 4]) (by kernel_rfl) ?_
  refine LoopVC.mk (fun n s => ∃ i : Nat, i ≤ 3 ∧ n = 3 - i ∧ s = ⟨0, envA 38 [(0, .x (.one (.fn f []))), (1, .x (spots a b c)), (5, .x (I (tsum g a b c i))), (8, .int .i64 3), (9, .int .i64 (i : Int))], []⟩) 3 _ ⟨0, by omega, rfl, rfl⟩ ⟨[], rfl, rfl, ?_, trivial⟩ ?_
  · exact ⟨⟨rfl, trivial⟩, ⟨rfl, rfl, rfl⟩, ⟨rfl, rfl⟩, ⟨rfl, rfl⟩, ⟨rfl, rfl⟩, trivial⟩
  · rintro m _ ⟨i, hi, hm, rfl⟩
    rcases (by omega : i = 0 ∨ i = 1 ∨ i = 2 ∨ i = 3) with rfl | rfl | rfl | rfl
    · refine Br.mk (fun h => ?_) (fun h => ?_)
      · change DrawVC _ _ _ _
        refine DrawVC.quiet (by kernel_rfl) ?_
        refine Ob.mk (by simp) ?_
        refine Rng.ok (by simp only [inR]; omega) ?_
        refine Ob.mk (by simp) ?_
        refine Val.mk (1) (by simp) ?_
        refine Ob.mk (by simp) ?_
        refine Rng.ok (by simp only [inR]; omega) ?_
        refine Ob.mk (by simp) ?_
        refine Val.mk (2) (by simp) ?_
        refine Ob.mk (by simp) ?_
        change QCallVC _ _ _ _ _
        refine QCallVC.mk he _ _ rfl (hf a b c ha hb hc) rfl ?_
        refine Rng.ok (by simp only [inR]; (simp only [tsum]; omega)) ?_
        refine Rng.ok (by simp only [inR]; omega) ?_
        refine Back.mk (3 - (1)) _ (by omega) ⟨1, by omega, rfl, rfl⟩ ⟨[], rfl, rfl, ⟨⟨rfl, trivial⟩, ⟨rfl, rfl, rfl⟩, ⟨rfl, ?_⟩, ⟨rfl, rfl⟩, ⟨rfl, rfl⟩, trivial⟩, trivial⟩
        simp [tsum]
      · exact absurd (by decide) h
    · refine Br.mk (fun h => ?_) (fun h => ?_)
      · change DrawVC _ _ _ _
        refine DrawVC.quiet (by kernel_rfl) ?_
        refine Ob.mk (by simp) ?_
        refine Rng.ok (by simp only [inR]; omega) ?_
        refine Ob.mk (by simp) ?_
        refine Val.mk (2) (by simp) ?_
        refine Ob.mk (by simp) ?_
        refine Rng.ok (by simp only [inR]; omega) ?_
        refine Ob.mk (by simp) ?_
        refine Val.mk (0) (by simp) ?_
        refine Ob.mk (by simp) ?_
        change QCallVC _ _ _ _ _
        refine QCallVC.mk he _ _ rfl (hf b c a hb hc ha) rfl ?_
        refine Rng.ok (by simp only [inR]; (simp only [tsum]; omega)) ?_
        refine Rng.ok (by simp only [inR]; omega) ?_
        refine Back.mk (3 - (2)) _ (by omega) ⟨2, by omega, rfl, rfl⟩ ⟨[], rfl, rfl, ⟨⟨rfl, trivial⟩, ⟨rfl, rfl, rfl⟩, ⟨rfl, ?_⟩, ⟨rfl, rfl⟩, ⟨rfl, rfl⟩, trivial⟩, trivial⟩
        rfl
      · exact absurd (by decide) h
    · refine Br.mk (fun h => ?_) (fun h => ?_)
      · change DrawVC _ _ _ _
        refine DrawVC.quiet (by kernel_rfl) ?_
        refine Ob.mk (by simp) ?_
        refine Rng.ok (by simp only [inR]; omega) ?_
        refine Ob.mk (by simp) ?_
        refine Val.mk (0) (by simp) ?_
        refine Ob.mk (by simp) ?_
        refine Rng.ok (by simp only [inR]; omega) ?_
        refine Ob.mk (by simp) ?_
        refine Val.mk (1) (by simp) ?_
        refine Ob.mk (by simp) ?_
        change QCallVC _ _ _ _ _
        refine QCallVC.mk he _ _ rfl (hf c a b hc ha hb) rfl ?_
        refine Rng.ok (by simp only [inR]; (simp only [tsum]; omega)) ?_
        refine Rng.ok (by simp only [inR]; omega) ?_
        refine Back.mk (3 - (3)) _ (by omega) ⟨3, by omega, rfl, rfl⟩ ⟨[], rfl, rfl, ⟨⟨rfl, trivial⟩, ⟨rfl, rfl, rfl⟩, ⟨rfl, ?_⟩, ⟨rfl, rfl⟩, ⟨rfl, rfl⟩, trivial⟩, trivial⟩
        rfl
      · exact absurd (by decide) h
    · refine Br.mk (fun h => ?_) (fun h => ?_)
      · exact absurd h (by decide)
      · refine EndVC.mk _ rfl _ _ ⟨rfl, rfl⟩ ⟨[], rfl, rfl, ⟨⟨rfl, ?_⟩, trivial⟩, trivial⟩
        rfl
theorem s68b (f : FuncId) (g : Spot → Spot → Spot → Int) (a b c : Spot) (he : EntersF Try.prog f) (hf : ∀ p q r : Spot, p.ok → q.ok → r.ok → PSpec Try.prog f [p.v, q.v, r.v, fbox 67] (.x (I (g p q r))))
    (hg : ∀ p q r : Spot, p.ok → q.ok → r.ok → (g p q r).natAbs ≤ 72057594037927936) (ha : a.ok) (hb : b.ok) (hc : c.ok) : HSpec Try.prog 68 [.one (.fn f [(0, 0)]), spots a b c] [.box 123 [.fn 67 []]] (fun r m' => r = .x (I (tsum g a b c 3)) ∧ m' = [some (.box 123 [.fn 67 []])]) := by
  have b1 := hg a b c ha hb hc
  have b2 := hg b c a hb hc ha
  have b3 := hg c a b hc ha hb
  refine spec_of pMix Try.func68 (c := bodyOf Try.f68) rfl (by kernel_rfl) (by kernel_rfl) Try.ntmps68 (res := [.tmp 4]) (by kernel_rfl) ?_
  refine LoopVC.mk (fun n s => ∃ i : Nat, i ≤ 3 ∧ n = 3 - i ∧ s = ⟨1, envA 38 [(0, .x (.one (.fn f [(0, 0)]))), (1, .x (spots a b c)), (5, .x (I (tsum g a b c i))), (8, .int .i64 3), (9, .int .i64 (i : Int))], [some (.box 123 [.fn 67 []])]⟩) 3 _ ⟨0, by omega, rfl, rfl⟩ ⟨[some 0], rfl, rfl, ?_, ⟨⟨rfl, ⟨rfl, trivial⟩, trivial⟩, rfl, rfl, trivial⟩⟩ ?_
  · exact ⟨⟨rfl, rfl, rfl, trivial⟩, ⟨rfl, rfl, rfl⟩, ⟨rfl, rfl⟩, ⟨rfl, rfl⟩, ⟨rfl, rfl⟩, trivial⟩
  · rintro m _ ⟨i, hi, hm, rfl⟩
    rcases (by omega : i = 0 ∨ i = 1 ∨ i = 2 ∨ i = 3) with rfl | rfl | rfl | rfl
    · refine Br.mk (fun h => ?_) (fun h => ?_)
      · change DrawVC _ _ _ _
        refine DrawVC.quiet (by kernel_rfl) ?_
        refine Ob.mk (by simp) ?_
        refine Rng.ok (by simp only [inR]; omega) ?_
        refine Ob.mk (by simp) ?_
        refine Val.mk (1) (by simp) ?_
        refine Ob.mk (by simp) ?_
        refine Rng.ok (by simp only [inR]; omega) ?_
        refine Ob.mk (by simp) ?_
        refine Val.mk (2) (by simp) ?_
        refine Ob.mk (by simp) ?_
        change QCallVC _ _ _ _ _
        refine QCallVC.mk he _ _ rfl (hf a b c ha hb hc) rfl ?_
        refine Rng.ok (by simp only [inR]; (simp only [tsum]; omega)) ?_
        refine Rng.ok (by simp only [inR]; omega) ?_
        refine Back.mk (3 - (1)) _ (by omega) ⟨1, by omega, rfl, rfl⟩ ⟨[some 0], rfl, rfl, ⟨⟨rfl, rfl, rfl, trivial⟩, ⟨rfl, rfl, rfl⟩, ⟨rfl, ?_⟩, ⟨rfl, rfl⟩, ⟨rfl, rfl⟩, trivial⟩, ⟨⟨rfl, ⟨rfl, trivial⟩, trivial⟩, rfl, rfl, trivial⟩⟩
        simp [tsum]
      · exact absurd (by decide) h
    · refine Br.mk (fun h => ?_) (fun h => ?_)
      · change DrawVC _ _ _ _
        refine DrawVC.quiet (by kernel_rfl) ?_
        refine Ob.mk (by simp) ?_
        refine Rng.ok (by simp only [inR]; omega) ?_
        refine Ob.mk (by simp) ?_
        refine Val.mk (2) (by simp) ?_
        refine Ob.mk (by simp) ?_
        refine Rng.ok (by simp only [inR]; omega) ?_
        refine Ob.mk (by simp) ?_
        refine Val.mk (0) (by simp) ?_
        refine Ob.mk (by simp) ?_
        change QCallVC _ _ _ _ _
        refine QCallVC.mk he _ _ rfl (hf b c a hb hc ha) rfl ?_
        refine Rng.ok (by simp only [inR]; (simp only [tsum]; omega)) ?_
        refine Rng.ok (by simp only [inR]; omega) ?_
        refine Back.mk (3 - (2)) _ (by omega) ⟨2, by omega, rfl, rfl⟩ ⟨[some 0], rfl, rfl, ⟨⟨rfl, rfl, rfl, trivial⟩, ⟨rfl, rfl, rfl⟩, ⟨rfl, ?_⟩, ⟨rfl, rfl⟩, ⟨rfl, rfl⟩, trivial⟩, ⟨⟨rfl, ⟨rfl, trivial⟩, trivial⟩, rfl, rfl, trivial⟩⟩
        rfl
      · exact absurd (by decide) h
    · refine Br.mk (fun h => ?_) (fun h => ?_)
      · change DrawVC _ _ _ _
        refine DrawVC.quiet (by kernel_rfl) ?_
        refine Ob.mk (by simp) ?_
        refine Rng.ok (by simp only [inR]; omega) ?_
        refine Ob.mk (by simp) ?_
        refine Val.mk (0) (by simp) ?_
        refine Ob.mk (by simp) ?_
        refine Rng.ok (by simp only [inR]; omega) ?_
        refine Ob.mk (by simp) ?_
        refine Val.mk (1) (by simp) ?_
        refine Ob.mk (by simp) ?_
        change QCallVC _ _ _ _ _
        refine QCallVC.mk he _ _ rfl (hf c a b hc ha hb) rfl ?_
        refine Rng.ok (by simp only [inR]; (simp only [tsum]; omega)) ?_
        refine Rng.ok (by simp only [inR]; omega) ?_
        refine Back.mk (3 - (3)) _ (by omega) ⟨3, by omega, rfl, rfl⟩ ⟨[some 0], rfl, rfl, ⟨⟨rfl, rfl, rfl, trivial⟩, ⟨rfl, rfl, rfl⟩, ⟨rfl, ?_⟩, ⟨rfl, rfl⟩, ⟨rfl, rfl⟩, trivial⟩, ⟨⟨rfl, ⟨rfl, trivial⟩, trivial⟩, rfl, rfl, trivial⟩⟩
        rfl
      · exact absurd (by decide) h
    · refine Br.mk (fun h => ?_) (fun h => ?_)
      · exact absurd h (by decide)
      · refine EndVC.mk _ rfl _ _ ⟨rfl, rfl⟩ ⟨[some 0], rfl, rfl, ⟨⟨rfl, rfl⟩, trivial⟩, ⟨⟨rfl, ⟨rfl, trivial⟩, trivial⟩, rfl, rfl, trivial⟩⟩
def cok (a b c : Spot) : Prop := a.ok ∧ b.ok ∧ c.ok
instance (a : Spot) : Decidable a.ok := by unfold Spot.ok; exact inferInstance
instance (a b c : Spot) : Decidable (cok a b c) := by unfold cok; exact inferInstance
def cD (a b c : Spot) : Int := 2 * tsum g2 a b c 3
def cX (a b c : Spot) : Int := tsum g3 a b c 3
def cY (a b c : Spot) : Int := tsum g4 a b c 3
/-- What Centre returns. -/
def ctrE (a b c : Spot) : Int := if cok a b c then (if cD a b c = 0 then 9 else 0) else 3
def ctrX (a b c : Spot) : Int := if cok a b c then (if cD a b c = 0 then 0 else if cD a b c < 0 then 0 - cX a b c else cX a b c) else 0
def ctrY (a b c : Spot) : Int := if cok a b c then (if cD a b c = 0 then 0 else if cD a b c < 0 then 0 - cY a b c else cY a b c) else 0
def ctrD (a b c : Spot) : Int := if cok a b c then (if cD a b c = 0 then 0 else if cD a b c < 0 then 0 - cD a b c else cD a b c) else 0
theorem tsum_bd {g : Spot → Spot → Spot → Int} (hg : ∀ p q r : Spot, p.ok → q.ok → r.ok → (g p q r).natAbs ≤ 72057594037927936) {a b c : Spot} (h : cok a b c) : (tsum g a b c 3).natAbs ≤ 216172782113783808 := by
  obtain ⟨ha, hb, hc⟩ := h
  have b1 := hg a b c ha hb hc
  have b2 := hg b c a hb hc ha
  have b3 := hg c a b hc ha hb
  simp only [tsum]; omega
theorem s31 (a b c : Spot) : PSpec Try.prog 31 [a.v, b.v, c.v] (.tup [I (ctrX a b c), I (ctrY a b c), I (ctrD a b c), I (ctrE a b c)]) := by
  have bad : ¬ cok a b c → (0 : Int) = ctrX a b c ∧ (0 : Int) = ctrY a b c ∧ (0 : Int) = ctrD a b c ∧ (3 : Int) = ctrE a b c := fun h => ⟨(if_neg h).symm, (if_neg h).symm, (if_neg h).symm, (if_neg h).symm⟩
  refine spec_of pMix Try.func31 (c := bodyOf Try.f31) rfl (by kernel_rfl) (by kernel_rfl) Try.ntmps31 (res := [.tmp 6, .tmp 7, .tmp 8, .tmp 9]) (by kernel_rfl) ?_
  refine LoopVC.mk (fun n s => ∃ i : Nat, i ≤ 3 ∧ n = 3 - i ∧ (0 < i → a.ok) ∧ (1 < i → b.ok) ∧ (2 < i → c.ok) ∧ s = ⟨0, envA 67 [(3, .x (.one (.ptr 0 0))), (4, .x (.one (.ptr 1 0))), (5, .x (.one (.ptr 2 0))), (6, .int .i64 0), (7, .int .i64 0), (8, .int .i64 0), (9, .int .i64 0), (19, .x (.one (.own 3))), (20, .int .i64 3), (21, .int .i64 (i : Int))], [some (.box 46 [.int .i64 a.x, .int .i64 a.y]), some (.box 46 [.int .i64 b.x, .int .i64 b.y]), some (.box 46 [.int .i64 c.x, .int .i64 c.y]), some (.row 46 false [.int .i64, .int .i64] [a.row, b.row, c.row])]⟩) 3 _ ⟨0, by omega, rfl, by omega, by omega, by omega, rfl⟩ ⟨[some 0, some 1, some 2, some 3], rfl, rfl, ?_, ?_⟩ ?_
  · repeat' (first | exact trivial | exact rfl | apply And.intro)
  · repeat' (first | exact trivial | exact rfl | apply And.intro)
  · rintro m _ ⟨i, hi, hm, h1, h2, h3, rfl⟩
    rcases (by omega : i = 0 ∨ i = 1 ∨ i = 2 ∨ i = 3) with rfl | rfl | rfl | rfl
    · refine Br.mk (fun h => ?_) (fun h => ?_)
      · refine Ob.mk (by simp) ?_
        refine Ob.mk (by simp) ?_
        change CallVC _ _ _ _ _
        refine CallVC.pure rfl (s56 _ _ _) ?_
        refine Br.mk (fun k1 => ?_) (fun k1 => ?_)
        · refine EndVC.mk _ rfl _ _ ⟨rfl, rfl⟩ ?_
          refine ⟨[], rfl, rfl, ?_, ?_⟩ <;> repeat' (first | exact trivial | exact rfl | apply And.intro)
          · exact (bad (fun h => by have := h.1; unfold Spot.ok at this; simp [rI, cellAt, Cell.toInt] at k1; omega)).1
          · exact (bad (fun h => by have := h.1; unfold Spot.ok at this; simp [rI, cellAt, Cell.toInt] at k1; omega)).2.1
          · exact (bad (fun h => by have := h.1; unfold Spot.ok at this; simp [rI, cellAt, Cell.toInt] at k1; omega)).2.2.1
          · exact (bad (fun h => by have := h.1; unfold Spot.ok at this; simp [rI, cellAt, Cell.toInt] at k1; omega)).2.2.2
        change CallVC _ _ _ _ _
        refine CallVC.pure rfl (s56 _ _ _) ?_
        refine Br.mk (fun k2 => ?_) (fun k2 => ?_)
        · refine EndVC.mk _ rfl _ _ ⟨rfl, rfl⟩ ?_
          refine ⟨[], rfl, rfl, ?_, ?_⟩ <;> repeat' (first | exact trivial | exact rfl | apply And.intro)
          · exact (bad (fun h => by have := h.1; unfold Spot.ok at this; simp [rI, cellAt, Cell.toInt] at k2; omega)).1
          · exact (bad (fun h => by have := h.1; unfold Spot.ok at this; simp [rI, cellAt, Cell.toInt] at k2; omega)).2.1
          · exact (bad (fun h => by have := h.1; unfold Spot.ok at this; simp [rI, cellAt, Cell.toInt] at k2; omega)).2.2.1
          · exact (bad (fun h => by have := h.1; unfold Spot.ok at this; simp [rI, cellAt, Cell.toInt] at k2; omega)).2.2.2
        refine Rng.ok (by simp only [inR]; omega) ?_
        have hx : a.ok := by
          unfold Spot.ok; simp [rI, cellAt, Cell.toInt] at k1 k2; omega
        refine Back.mk (3 - (0 + 1)) _ (by omega) ⟨0 + 1, by omega, rfl, by simp_all, by simp_all, by simp_all, rfl⟩ ?_
        refine ⟨[some 0, some 1, some 2, some 3], rfl, rfl, ?_, ?_⟩ <;> repeat' (first | exact trivial | exact rfl | apply And.intro)
      · exact absurd (by decide) h
    · refine Br.mk (fun h => ?_) (fun h => ?_)
      · refine Ob.mk (by simp) ?_
        refine Ob.mk (by simp) ?_
        change CallVC _ _ _ _ _
        refine CallVC.pure rfl (s56 _ _ _) ?_
        refine Br.mk (fun k1 => ?_) (fun k1 => ?_)
        · refine EndVC.mk _ rfl _ _ ⟨rfl, rfl⟩ ?_
          refine ⟨[], rfl, rfl, ?_, ?_⟩ <;> repeat' (first | exact trivial | exact rfl | apply And.intro)
          · exact (bad (fun h => by have := h.2.1; unfold Spot.ok at this; simp [rI, cellAt, Cell.toInt] at k1; omega)).1
          · exact (bad (fun h => by have := h.2.1; unfold Spot.ok at this; simp [rI, cellAt, Cell.toInt] at k1; omega)).2.1
          · exact (bad (fun h => by have := h.2.1; unfold Spot.ok at this; simp [rI, cellAt, Cell.toInt] at k1; omega)).2.2.1
          · exact (bad (fun h => by have := h.2.1; unfold Spot.ok at this; simp [rI, cellAt, Cell.toInt] at k1; omega)).2.2.2
        change CallVC _ _ _ _ _
        refine CallVC.pure rfl (s56 _ _ _) ?_
        refine Br.mk (fun k2 => ?_) (fun k2 => ?_)
        · refine EndVC.mk _ rfl _ _ ⟨rfl, rfl⟩ ?_
          refine ⟨[], rfl, rfl, ?_, ?_⟩ <;> repeat' (first | exact trivial | exact rfl | apply And.intro)
          · exact (bad (fun h => by have := h.2.1; unfold Spot.ok at this; simp [rI, cellAt, Cell.toInt] at k2; omega)).1
          · exact (bad (fun h => by have := h.2.1; unfold Spot.ok at this; simp [rI, cellAt, Cell.toInt] at k2; omega)).2.1
          · exact (bad (fun h => by have := h.2.1; unfold Spot.ok at this; simp [rI, cellAt, Cell.toInt] at k2; omega)).2.2.1
          · exact (bad (fun h => by have := h.2.1; unfold Spot.ok at this; simp [rI, cellAt, Cell.toInt] at k2; omega)).2.2.2
        refine Rng.ok (by simp only [inR]; omega) ?_
        have hx : b.ok := by
          unfold Spot.ok; simp [rI, cellAt, Cell.toInt] at k1 k2; omega
        refine Back.mk (3 - (1 + 1)) _ (by omega) ⟨1 + 1, by omega, rfl, by simp_all, by simp_all, by simp_all, rfl⟩ ?_
        refine ⟨[some 0, some 1, some 2, some 3], rfl, rfl, ?_, ?_⟩ <;> repeat' (first | exact trivial | exact rfl | apply And.intro)
      · exact absurd (by decide) h
    · refine Br.mk (fun h => ?_) (fun h => ?_)
      · refine Ob.mk (by simp) ?_
        refine Ob.mk (by simp) ?_
        change CallVC _ _ _ _ _
        refine CallVC.pure rfl (s56 _ _ _) ?_
        refine Br.mk (fun k1 => ?_) (fun k1 => ?_)
        · refine EndVC.mk _ rfl _ _ ⟨rfl, rfl⟩ ?_
          refine ⟨[], rfl, rfl, ?_, ?_⟩ <;> repeat' (first | exact trivial | exact rfl | apply And.intro)
          · exact (bad (fun h => by have := h.2.2; unfold Spot.ok at this; simp [rI, cellAt, Cell.toInt] at k1; omega)).1
          · exact (bad (fun h => by have := h.2.2; unfold Spot.ok at this; simp [rI, cellAt, Cell.toInt] at k1; omega)).2.1
          · exact (bad (fun h => by have := h.2.2; unfold Spot.ok at this; simp [rI, cellAt, Cell.toInt] at k1; omega)).2.2.1
          · exact (bad (fun h => by have := h.2.2; unfold Spot.ok at this; simp [rI, cellAt, Cell.toInt] at k1; omega)).2.2.2
        change CallVC _ _ _ _ _
        refine CallVC.pure rfl (s56 _ _ _) ?_
        refine Br.mk (fun k2 => ?_) (fun k2 => ?_)
        · refine EndVC.mk _ rfl _ _ ⟨rfl, rfl⟩ ?_
          refine ⟨[], rfl, rfl, ?_, ?_⟩ <;> repeat' (first | exact trivial | exact rfl | apply And.intro)
          · exact (bad (fun h => by have := h.2.2; unfold Spot.ok at this; simp [rI, cellAt, Cell.toInt] at k2; omega)).1
          · exact (bad (fun h => by have := h.2.2; unfold Spot.ok at this; simp [rI, cellAt, Cell.toInt] at k2; omega)).2.1
          · exact (bad (fun h => by have := h.2.2; unfold Spot.ok at this; simp [rI, cellAt, Cell.toInt] at k2; omega)).2.2.1
          · exact (bad (fun h => by have := h.2.2; unfold Spot.ok at this; simp [rI, cellAt, Cell.toInt] at k2; omega)).2.2.2
        refine Rng.ok (by simp only [inR]; omega) ?_
        have hx : c.ok := by
          unfold Spot.ok; simp [rI, cellAt, Cell.toInt] at k1 k2; omega
        refine Back.mk (3 - (2 + 1)) _ (by omega) ⟨2 + 1, by omega, rfl, by simp_all, by simp_all, by simp_all, rfl⟩ ?_
        refine ⟨[some 0, some 1, some 2, some 3], rfl, rfl, ?_, ?_⟩ <;> repeat' (first | exact trivial | exact rfl | apply And.intro)
      · exact absurd (by decide) h
    · refine Br.mk (fun h => ?_) (fun h => ?_)
      · exact absurd h (by decide)
      · have ha := h1 (by omega)
        have hb := h2 (by omega)
        have hc := h3 (by omega)
        have hok : cok a b c := ⟨ha, hb, hc⟩
        change CallVC _ _ _ _ _
        refine CallVC.pure rfl (s68a 69 g2 a b c e69 s69 (fun _ _ _ => g2_bd) ha hb hc) ?_
        have t2 := tsum_bd (g := g2) (fun _ _ _ => g2_bd) hok
        have t3 := tsum_bd (g := g3) (fun _ _ _ => g3_bd) hok
        have t4 := tsum_bd (g := g4) (fun _ _ _ => g4_bd) hok
        refine Rng.ok (by simp only [inR]; omega) ?_
        change CallVC _ _ _ _ _
        refine CallVC.mk [4] _ _ _ rfl rfl rfl (s68b 70 g3 a b c e70 s70 (fun _ _ _ => g3_bd) ha hb hc) (fun r m' h => ?_)
        obtain ⟨rfl, rfl⟩ := h
        change CallVC _ _ _ _ _
        refine CallVC.mk [4] _ _ _ rfl rfl rfl (s68b 71 g4 a b c e71 s71 (fun _ _ _ => g4_bd) ha hb hc) (fun r m' h => ?_)
        obtain ⟨rfl, rfl⟩ := h
        refine Br.mk (fun d0 => ?_) (fun d0 => ?_)
        · have d0 : cD a b c = 0 := d0
          refine EndVC.mk _ rfl _ _ ⟨rfl, rfl⟩ ?_
          refine ⟨[], rfl, rfl, ?_, ?_⟩ <;> repeat' (first | exact trivial | exact rfl | apply And.intro)
          · simp [ctrX, hok, d0]
          · simp [ctrY, hok, d0]
          · simp [ctrD, hok, d0]
          · simp [ctrE, hok, d0]
        have d0 : ¬ cD a b c = 0 := d0
        refine Br.mk (fun d1 => ?_) (fun d1 => ?_)
        · have d1 : cD a b c < 0 := d1
          refine Rng.ok (by simp only [inR]; omega) ?_
          refine Rng.ok (by simp only [inR]; omega) ?_
          refine Rng.ok (by simp only [inR]; omega) ?_
          refine EndVC.mk _ rfl _ _ ⟨rfl, rfl⟩ ?_
          refine ⟨[], rfl, rfl, ?_, ?_⟩ <;> repeat' (first | exact trivial | exact rfl | apply And.intro)
          · simp [ctrX, hok, d0, d1, cX]
          · simp [ctrY, hok, d0, d1, cY]
          · simp [ctrD, hok, d0, d1]; rfl
          · simp [ctrE, hok, d0]
        have d1 : ¬ cD a b c < 0 := d1
        refine EndVC.mk _ rfl _ _ ⟨rfl, rfl⟩ ?_
        refine ⟨[], rfl, rfl, ?_, ?_⟩ <;> repeat' (first | exact trivial | exact rfl | apply And.intro)
        · simp [ctrX, hok, d0, d1, cX]
        · simp [ctrY, hok, d0, d1, cY]
        · simp [ctrD, hok, d0, d1]; rfl
        · simp [ctrE, hok, d0]
end Go.Sx

namespace Go.Sx
open Go Go.Proofs
def i64s (xs : List Int) : Arr := xs.map fun x => [.int x]
theorem i64s_len (xs : List Int) : (i64s xs).length = xs.length := by simp [i64s]
theorem i64s_get (xs : List Int) (k : Nat) : rI (i64s xs) k 0 = xs.getD k 0 := by
  simp only [rI, cellAt, i64s, List.getD_eq_getElem?_getD, List.getElem?_map]
  cases xs[k]? <;> simp [Cell.toInt]
theorem i64s_snoc (xs : List Int) (x : Int) : i64s (xs ++ [x]) = i64s xs ++ [[.int x]] := by simp [i64s]
@[reducible] def lI (xs : List Int) : XV := .one (.lst true [.int .i64] (i64s xs))
set_option maxRecDepth 10000
theorem list_ext_getD {xs ys : List Int} (hl : xs.length = ys.length) (h : ∀ j, j < xs.length → xs.getD j 0 = ys.getD j 0) : xs = ys := by
  refine List.ext_getElem hl fun j h1 h2 => ?_
  have := h j h1
  simpa [List.getD_eq_getElem?_getD, h1, h2] using this
theorem s27 (xs ys : List Int) (hx : xs.length ≤ 1099511627776) : PSpec Try.prog 27 [lI xs, lI ys] (xP (xs = ys)) := by
  have lx := i64s_len xs
  have ly := i64s_len ys
  refine spec_of pMix Try.func27 (c := bodyOf Try.f27) rfl (by kernel_rfl) (by kernel_rfl) Try.ntmps27 (res := [.tmp 4]) (by kernel_rfl) ?_
  refine Br.mk (fun h => ?_) (fun h => ?_)
  · refine EndVC.mk _ rfl _ _ ⟨rfl, rfl⟩ ⟨[], rfl, rfl, ⟨?_, trivial⟩, trivial⟩
    intro e
    subst e
    exact h rfl
  have h : xs.length = ys.length := by omega
  refine LoopVC.mk (fun n s => ∃ k : Nat, n = xs.length - k ∧ k ≤ xs.length ∧ (∀ j, j < k → xs.getD j 0 = ys.getD j 0) ∧ s = ⟨0, envA 26 [(0, .x (lI xs)), (1, .x (lI ys)), (5, .int .i64 (k : Int))], []⟩) _ _ ⟨0, rfl, Nat.zero_le _, fun j hj => absurd hj (Nat.not_lt_zero j), rfl⟩ ?_ ?_
  · refine ⟨[], rfl, rfl, ?_, ?_⟩ <;> repeat' (first | exact trivial | exact rfl | apply And.intro)
  · rintro m _ ⟨k, hm, hk, hj, rfl⟩
    refine Br.mk (fun h1 => ?_) (fun h1 => ?_)
    · refine Ob.mk (by omega) ?_
      refine Ob.mk (by omega) ?_
      refine Br.mk (fun h2 => ?_) (fun h2 => ?_)
      · refine EndVC.mk _ rfl _ _ ⟨rfl, rfl⟩ ⟨[], rfl, rfl, ⟨?_, trivial⟩, trivial⟩
        intro e
        subst e
        exact h2 rfl
      refine Rng.ok (by simp only [inR]; omega) ?_
      refine Back.mk (xs.length - (k + 1)) _ (by omega) ⟨k + 1, rfl, by omega, fun j hjk => ?_, rfl⟩ ?_
      · rcases Nat.lt_or_ge j k with h3 | h3
        · exact hj j h3
        · have : j = k := by omega
          subst this
          have h2 := Decidable.not_not.1 h2
          rw [Int.toNat_natCast, i64s_get, i64s_get] at h2
          exact h2
      · refine ⟨[], rfl, rfl, ?_, ?_⟩ <;> repeat' (first | exact trivial | exact rfl | apply And.intro)
    · refine EndVC.mk _ rfl _ _ ⟨rfl, rfl⟩ ⟨[], rfl, rfl, ⟨?_, trivial⟩, trivial⟩
      exact list_ext_getD h fun j hjx => hj j (by omega)
theorem s55 : PSpec Try.prog 55 [] (.x (Mac.x ⟨20, 120, 50, 200, 30, 25, 5, 3, 2⟩)) := by
  refine spec_of pMix Try.func55 (c := bodyOf Try.f55) rfl (by kernel_rfl) (by kernel_rfl) Try.ntmps55 (res := [.cell 0 23]) (by kernel_rfl) ?_
  refine EndVC.mk _ rfl _ _ ⟨rfl, rfl⟩ ?_
  refine ⟨[], rfl, rfl, ?_, ?_⟩ <;> repeat' (first | exact trivial | exact rfl | apply And.intro)
/-- Presses at a boiler whose numbers are right. -/
def Boil (p q s r : Int) : Prop := 1 ≤ p ∧ p ≤ 64 ∧ 1 ≤ q ∧ q ≤ 64 ∧ 1 ≤ s ∧ s ≤ 65536 ∧ 1 ≤ r ∧ r ≤ 65536
instance (p q s r : Int) : Decidable (Boil p q s r) := by unfold Boil; exact inferInstance
def boilE (p q s r n : Int) : Int := if Boil p q s r then (if 0 ≤ n ∧ n ≤ 1000 then 0 else 6) else 3
theorem s60 (p q s r n : Int) : PSpec Try.prog 60 [I p, I q, I s, I r, I n] (.x (I (boilE p q s r n))) := by
  have bad : ¬ Boil p q s r → (3 : Int) = boilE p q s r n := fun h => (if_neg h).symm
  refine spec_of pMix Try.func60 (c := bodyOf Try.f60) rfl (by kernel_rfl) (by kernel_rfl) Try.ntmps60 (res := [.tmp 10]) (by kernel_rfl) ?_
  change CallVC _ _ _ _ _
  refine CallVC.pure rfl (s56 _ _ _) ?_
  refine Br.mk (fun h1 => ?_) (fun h1 => ?_)
  · refine EndVC.mk _ rfl _ _ ⟨rfl, rfl⟩ ⟨[], rfl, rfl, ⟨⟨rfl, ?_⟩, trivial⟩, trivial⟩
    exact bad (by unfold Boil; omega)
  change CallVC _ _ _ _ _
  refine CallVC.pure rfl (s56 _ _ _) ?_
  refine Br.mk (fun h2 => ?_) (fun h2 => ?_)
  · refine EndVC.mk _ rfl _ _ ⟨rfl, rfl⟩ ⟨[], rfl, rfl, ⟨⟨rfl, ?_⟩, trivial⟩, trivial⟩
    exact bad (by unfold Boil; omega)
  change CallVC _ _ _ _ _
  refine CallVC.pure rfl (s56 _ _ _) ?_
  refine Br.mk (fun h3 => ?_) (fun h3 => ?_)
  · refine EndVC.mk _ rfl _ _ ⟨rfl, rfl⟩ ⟨[], rfl, rfl, ⟨⟨rfl, ?_⟩, trivial⟩, trivial⟩
    exact bad (by unfold Boil; omega)
  change CallVC _ _ _ _ _
  refine CallVC.pure rfl (s56 _ _ _) ?_
  refine Br.mk (fun h4 => ?_) (fun h4 => ?_)
  · refine EndVC.mk _ rfl _ _ ⟨rfl, rfl⟩ ⟨[], rfl, rfl, ⟨⟨rfl, ?_⟩, trivial⟩, trivial⟩
    exact bad (by unfold Boil; omega)
  have hb : Boil p q s r := by unfold Boil; omega
  change CallVC _ _ _ _ _
  refine CallVC.pure rfl (s56 _ _ _) ?_
  refine Br.mk (fun h5 => ?_) (fun h5 => ?_)
  · refine EndVC.mk _ rfl _ _ ⟨rfl, rfl⟩ ⟨[], rfl, rfl, ⟨⟨rfl, ?_⟩, trivial⟩, trivial⟩
    rw [boilE, if_pos hb, if_neg (by omega)]
  · refine EndVC.mk _ rfl _ _ ⟨rfl, rfl⟩ ⟨[], rfl, rfl, ⟨⟨rfl, ?_⟩, trivial⟩, trivial⟩
    rw [boilE, if_pos hb, if_pos (by omega)]
end Go.Sx

namespace Go.Sx
open Go Go.Proofs
set_option maxRecDepth 10000
theorem e60 : EntersF Try.prog 60 := enters_of Try.func60 (c := bodyOf Try.f60) (by kernel_rfl) rfl
theorem e61 : EntersF Try.prog 61 := enters_of Try.func61 (c := bodyOf Try.f61) (by kernel_rfl) rfl
theorem e90 : EntersF Try.prog 90 := enters_of Try.func90 (c := bodyOf Try.f90) (by kernel_rfl) rfl
theorem e23 : EntersF Try.prog 23 := enters_of Try.func23 (c := bodyOf Try.f23) (by kernel_rfl) rfl
theorem e27 : EntersF Try.prog 27 := enters_of Try.func27 (c := bodyOf Try.f27) (by kernel_rfl) rfl
theorem e18 : EntersF Try.prog 18 := enters_of Try.func18 (c := bodyOf Try.f18) (by kernel_rfl) rfl
theorem e55 : EntersF Try.prog 55 := enters_of Try.func55 (c := bodyOf Try.f55) (by kernel_rfl) rfl
def mx (a b : Int) : Int := if a < b then b else a
/-- The start of the disc behind these. -/
def st0 (out : List Int) : Int := if 0 < (out.length : Int) then out.getD (out.length - 1) 0 else 0
def st1 (q s : Int) (out : List Int) (t : Int) : Int := if 0 ≤ (out.length : Int) - q then mx t (out.getD ((out.length : Int) - q).toNat 0 + s) else t
def stNext (p q s r : Int) (out : List Int) : Int := st1 p (s + r) out (st1 q s out (st0 out))
def stList (p q s r : Int) : Nat → List Int
  | 0 => []
  | n + 1 => stList p q s r n ++ [stNext p q s r (stList p q s r n)]
theorem stList_len (p q s r : Int) : ∀ n, (stList p q s r n).length = n
  | 0 => rfl
  | n + 1 => by simp [stList, stList_len p q s r n]
theorem getD_app (xs : List Int) (x : Int) (j : Nat) : (xs ++ [x]).getD j 0 = if j < xs.length then xs.getD j 0 else if j = xs.length then x else 0 := by
  simp only [List.getD_eq_getElem?_getD, List.getElem?_append]
  split
  · rfl
  · rename_i h
    split
    · rename_i h2; subst h2; simp
    · rename_i h2
      have : 1 ≤ j - xs.length := by omega
      rw [List.getElem?_eq_none (by simpa using this)]; rfl
theorem st_bd {p q s r : Int} (hb : Boil p q s r) : ∀ n j, 0 ≤ (stList p q s r n).getD j 0 ∧ (stList p q s r n).getD j 0 ≤ 131072 * n
  | 0, j => by simp [stList]
  | n + 1, j => by
    unfold Boil at hb
    have ih := st_bd (p := p) (q := q) (s := s) (r := r) (by unfold Boil; omega) n
    have hl := stList_len p q s r n
    rw [stList, getD_app]
    have h0 : 0 ≤ st0 (stList p q s r n) ∧ st0 (stList p q s r n) ≤ 131072 * n := by
      unfold st0; split
      · exact ih _
      · omega
    have h1 : 0 ≤ st1 q s (stList p q s r n) (st0 (stList p q s r n)) ∧ st1 q s (stList p q s r n) (st0 (stList p q s r n)) ≤ 131072 * n + 131072 := by
      unfold st1 mx
      have := ih (((stList p q s r n).length : Int) - q).toNat
      split
      · split <;> omega
      · omega
    have h2 : 0 ≤ stNext p q s r (stList p q s r n) ∧ stNext p q s r (stList p q s r n) ≤ 131072 * n + 131072 := by
      unfold stNext
      generalize st1 q s (stList p q s r n) (st0 (stList p q s r n)) = t at h1
      unfold st1 mx
      have := ih (((stList p q s r n).length : Int) - p).toNat
      split
      · split <;> omega
      · omega
    have h3 := ih j
    split
    · omega
    · split <;> omega
/-- The objects that 'ends' leaves. -/
theorem s61 (a : Arr) (i p q s r : Int) : HSpec Try.prog 61 [.one (.own 0), I i, I p, I q, I s, I r] [.row 2 false [.int .i64] a] (fun x m' => x = .x (.one (.fn 90 [(2, 0), (4, 0), (1, 0), (5, 0), (3, 0), (6, 0)])) ∧
    m' = [some (.row 2 false [.int .i64] a), some (.box 30 [.own 0]), some (.box 3 [.int .i64 i]), some (.box 3 [.int .i64 p]), some (.box 3 [.int .i64 q]), some (.box 2 [.int .i64 s]), some (.box 2 [.int .i64 r])]) := by
  refine spec_of pMix Try.func61 (c := bodyOf Try.f61) rfl (by kernel_rfl) (by kernel_rfl) Try.ntmps61 (res := [.tmp 12]) (by kernel_rfl) ?_
  refine EndVC.mk _ rfl _ _ ⟨rfl, rfl⟩ ?_
  refine ⟨[some 0, some 1, some 2, some 3, some 4, some 5, some 6], rfl, rfl, ?_, ?_⟩ <;> repeat' (first | exact trivial | exact rfl | apply And.intro)
def stRes (p q s r n : Int) : List Int := if boilE p q s r n = 0 then stList p q s r n.toNat else []
theorem eb : Try.t2.bytes = 8 := by kernel_rfl
theorem s23 (p q s r n : Int) : PSpec Try.prog 23 [I p, I q, I s, I r, I n] (.tup [.one (.lst false [.int .i64] (i64s (stRes p q s r n))), I (boilE p q s r n)]) := by
  refine spec_of pMix Try.func23 (c := bodyOf Try.f23) rfl (by kernel_rfl) (by kernel_rfl) Try.ntmps23 (res := [.tmp 10, .tmp 11]) (by kernel_rfl) ?_
  change CallVC _ _ _ _ _
  refine CallVC.pure rfl (s60 p q s r n) ?_
  refine Br.mk (fun h0 => ?_) (fun h0 => ?_)
  · have e : stRes p q s r n = [] := if_neg h0
    rw [e]
    refine EndVC.mk _ rfl _ _ ⟨rfl, rfl⟩ ?_
    refine ⟨[], rfl, rfl, ?_, ?_⟩ <;> repeat' (first | exact trivial | exact rfl | apply And.intro)
  have h0 := Decidable.not_not.1 h0
  have hB : Boil p q s r := by
    apply Decidable.byContradiction
    intro h; rw [boilE, if_neg h] at h0; cases h0
  have hn : 0 ≤ n ∧ n ≤ 1000 := by
    apply Decidable.byContradiction
    intro h; rw [boilE, if_pos hB, if_neg h] at h0; cases h0
  refine LoopVC.mk (fun m st => ∃ k : Nat, (k : Int) ≤ n ∧ m = n.toNat - k ∧ st = ⟨0, envA 58 [(0, .x (I p)), (1, .x (I q)), (2, .x (I s)), (3, .x (I r)), (13, .x (.one (.own 0))), (27, .x (I n)), (28, .int .i64 (k : Int))], [some (.row 2 false [.int .i64] (i64s (stList p q s r k)))]⟩) n.toNat _ ⟨0, by omega, rfl, rfl⟩ ?_ ?_
  · refine ⟨[none], rfl, rfl, ?_, ?_⟩ <;> repeat' (first | exact trivial | exact rfl | apply And.intro)
  · rintro m _ ⟨k, hk, hm, rfl⟩
    refine Br.mk (fun h => ?_) (fun h => ?_)
    · have hl : (i64s (stList p q s r k)).length = k := by rw [i64s_len, stList_len]
      have hbd : ∀ j, 0 ≤ rI (i64s (stList p q s r k)) j 0 ∧ rI (i64s (stList p q s r k)) j 0 ≤ 131072 * k := fun j => by rw [i64s_get]; exact st_bd hB k j
      unfold Boil at hB
      have b1 := hbd ((k : Int) - 1).toNat
      have b2 := hbd ((k : Int) - q).toNat
      have b3 := hbd ((k : Int) - p).toNat
      have e1 : ((k : Int) - 1).toNat = k - 1 := by omega
      refine Br.mk (fun h1 => ?_) (fun h1 => ?_)
      · refine Rng.ok (by simp only [inR]; omega) ?_
        refine Ob.mk (by omega) ?_
        refine Ob.mk (by omega) ?_
        change CallVC _ _ _ _ _
        refine CallVC.mk [0] _ _ _ rfl rfl rfl (s61 _ _ _ _ _ _) (fun x m' hx => ?_)
        obtain ⟨rfl, rfl⟩ := hx
        change RangeVC _ _ _ _ _
        refine RangeVC.mk e90 (isem_of_awp pMix Try.func90 (c := bodyOf Try.f90) rfl (by kernel_rfl) Try.ntmps90 (by kernel_rfl) ?_)
        refine Rng.ok (by simp only [inR]; omega) ?_
        change DrawVC _ _ _ _
        refine DrawVC.tail 9 (by kernel_rfl) ?_
        refine Br.mk (fun h2 => ?_) (fun h2 => ?_)
        · refine Ob.mk (by omega) ?_
          refine Ob.mk (by omega) ?_
          change YieldVC _ _ _ _ _
          refine YieldVC.mk (rsem_of_awp pMix rfl (by kernel_rfl) ?_)
          refine Rng.ok (by simp only [inR]; omega) ?_
          refine Rng.ok (by simp only [inR]; omega) ?_
          refine Br.mk (fun h3 => ?_) (fun h3 => ?_)
          · change DrawVC _ _ _ _
            refine DrawVC.tail 8 (by kernel_rfl) ?_
            refine Ob.mk (by omega) ?_
            refine Ob.mk (by omega) ?_
            refine Rng.ok (by simp only [inR]; omega) ?_
            change YieldVC _ _ _ _ _
            refine YieldVC.mk (rsem_of_awp pMix rfl (by kernel_rfl) ?_)
            refine Rng.ok (by simp only [inR]; omega) ?_
            refine Ob.mk (by simp only [i64s_len, stList_len, List.length_cons, List.length_nil, eb]; omega) ?_
            refine Rng.ok (by simp only [inR]; omega) ?_
            refine Back.mk (n.toNat - (k + 1)) _ (by omega) ⟨k + 1, by omega, rfl, rfl⟩ ?_
            refine ⟨[some 10], rfl, rfl, ?_, ?_⟩ <;> repeat' (first | exact trivial | exact rfl | apply And.intro)
            rw [stList, i64s_snoc]
            congr 3
            simp only [stNext, st1, st0, mx, stList_len, if_pos h1, if_pos h2, if_pos h3, i64s_get, e1]
          · refine Ob.mk (by simp only [i64s_len, stList_len, List.length_cons, List.length_nil, eb]; omega) ?_
            refine Rng.ok (by simp only [inR]; omega) ?_
            refine Back.mk (n.toNat - (k + 1)) _ (by omega) ⟨k + 1, by omega, rfl, rfl⟩ ?_
            refine ⟨[some 10], rfl, rfl, ?_, ?_⟩ <;> repeat' (first | exact trivial | exact rfl | apply And.intro)
            rw [stList, i64s_snoc]
            congr 3
            simp only [stNext, st1, st0, mx, stList_len, if_pos h1, if_pos h2, if_neg h3, i64s_get, e1]
        · refine Rng.ok (by simp only [inR]; omega) ?_
          refine Br.mk (fun h3 => ?_) (fun h3 => ?_)
          · change DrawVC _ _ _ _
            refine DrawVC.tail 8 (by kernel_rfl) ?_
            refine Ob.mk (by omega) ?_
            refine Ob.mk (by omega) ?_
            refine Rng.ok (by simp only [inR]; omega) ?_
            change YieldVC _ _ _ _ _
            refine YieldVC.mk (rsem_of_awp pMix rfl (by kernel_rfl) ?_)
            refine Rng.ok (by simp only [inR]; omega) ?_
            refine Ob.mk (by simp only [i64s_len, stList_len, List.length_cons, List.length_nil, eb]; omega) ?_
            refine Rng.ok (by simp only [inR]; omega) ?_
            refine Back.mk (n.toNat - (k + 1)) _ (by omega) ⟨k + 1, by omega, rfl, rfl⟩ ?_
            refine ⟨[some 10], rfl, rfl, ?_, ?_⟩ <;> repeat' (first | exact trivial | exact rfl | apply And.intro)
            rw [stList, i64s_snoc]
            congr 3
            simp only [stNext, st1, st0, mx, stList_len, if_pos h1, if_neg h2, if_pos h3, i64s_get, e1]
          · refine Ob.mk (by simp only [i64s_len, stList_len, List.length_cons, List.length_nil, eb]; omega) ?_
            refine Rng.ok (by simp only [inR]; omega) ?_
            refine Back.mk (n.toNat - (k + 1)) _ (by omega) ⟨k + 1, by omega, rfl, rfl⟩ ?_
            refine ⟨[some 10], rfl, rfl, ?_, ?_⟩ <;> repeat' (first | exact trivial | exact rfl | apply And.intro)
            rw [stList, i64s_snoc]
            congr 3
            simp only [stNext, st1, st0, mx, stList_len, if_pos h1, if_neg h2, if_neg h3, i64s_get, e1]
      · change CallVC _ _ _ _ _
        refine CallVC.mk [0] _ _ _ rfl rfl rfl (s61 _ _ _ _ _ _) (fun x m' hx => ?_)
        obtain ⟨rfl, rfl⟩ := hx
        change RangeVC _ _ _ _ _
        refine RangeVC.mk e90 (isem_of_awp pMix Try.func90 (c := bodyOf Try.f90) rfl (by kernel_rfl) Try.ntmps90 (by kernel_rfl) ?_)
        refine Rng.ok (by simp only [inR]; omega) ?_
        change DrawVC _ _ _ _
        refine DrawVC.tail 9 (by kernel_rfl) ?_
        refine Br.mk (fun h2 => ?_) (fun h2 => ?_)
        · refine Ob.mk (by omega) ?_
          refine Ob.mk (by omega) ?_
          change YieldVC _ _ _ _ _
          refine YieldVC.mk (rsem_of_awp pMix rfl (by kernel_rfl) ?_)
          refine Rng.ok (by simp only [inR]; omega) ?_
          refine Rng.ok (by simp only [inR]; omega) ?_
          refine Br.mk (fun h3 => ?_) (fun h3 => ?_)
          · change DrawVC _ _ _ _
            refine DrawVC.tail 8 (by kernel_rfl) ?_
            refine Ob.mk (by omega) ?_
            refine Ob.mk (by omega) ?_
            refine Rng.ok (by simp only [inR]; omega) ?_
            change YieldVC _ _ _ _ _
            refine YieldVC.mk (rsem_of_awp pMix rfl (by kernel_rfl) ?_)
            refine Rng.ok (by simp only [inR]; omega) ?_
            refine Ob.mk (by simp only [i64s_len, stList_len, List.length_cons, List.length_nil, eb]; omega) ?_
            refine Rng.ok (by simp only [inR]; omega) ?_
            refine Back.mk (n.toNat - (k + 1)) _ (by omega) ⟨k + 1, by omega, rfl, rfl⟩ ?_
            refine ⟨[some 10], rfl, rfl, ?_, ?_⟩ <;> repeat' (first | exact trivial | exact rfl | apply And.intro)
            rw [stList, i64s_snoc]
            congr 3
            simp only [stNext, st1, st0, mx, stList_len, if_neg h1, if_pos h2, if_pos h3, i64s_get]
          · refine Ob.mk (by simp only [i64s_len, stList_len, List.length_cons, List.length_nil, eb]; omega) ?_
            refine Rng.ok (by simp only [inR]; omega) ?_
            refine Back.mk (n.toNat - (k + 1)) _ (by omega) ⟨k + 1, by omega, rfl, rfl⟩ ?_
            refine ⟨[some 10], rfl, rfl, ?_, ?_⟩ <;> repeat' (first | exact trivial | exact rfl | apply And.intro)
            rw [stList, i64s_snoc]
            congr 3
            simp only [stNext, st1, st0, mx, stList_len, if_neg h1, if_pos h2, if_neg h3, i64s_get]
        · refine Rng.ok (by simp only [inR]; omega) ?_
          refine Br.mk (fun h3 => ?_) (fun h3 => ?_)
          · change DrawVC _ _ _ _
            refine DrawVC.tail 8 (by kernel_rfl) ?_
            refine Ob.mk (by omega) ?_
            refine Ob.mk (by omega) ?_
            refine Rng.ok (by simp only [inR]; omega) ?_
            change YieldVC _ _ _ _ _
            refine YieldVC.mk (rsem_of_awp pMix rfl (by kernel_rfl) ?_)
            refine Rng.ok (by simp only [inR]; omega) ?_
            refine Ob.mk (by simp only [i64s_len, stList_len, List.length_cons, List.length_nil, eb]; omega) ?_
            refine Rng.ok (by simp only [inR]; omega) ?_
            refine Back.mk (n.toNat - (k + 1)) _ (by omega) ⟨k + 1, by omega, rfl, rfl⟩ ?_
            refine ⟨[some 10], rfl, rfl, ?_, ?_⟩ <;> repeat' (first | exact trivial | exact rfl | apply And.intro)
            rw [stList, i64s_snoc]
            congr 3
            simp only [stNext, st1, st0, mx, stList_len, if_neg h1, if_neg h2, if_pos h3, i64s_get]
          · refine Ob.mk (by simp only [i64s_len, stList_len, List.length_cons, List.length_nil, eb]; omega) ?_
            refine Rng.ok (by simp only [inR]; omega) ?_
            refine Back.mk (n.toNat - (k + 1)) _ (by omega) ⟨k + 1, by omega, rfl, rfl⟩ ?_
            refine ⟨[some 10], rfl, rfl, ?_, ?_⟩ <;> repeat' (first | exact trivial | exact rfl | apply And.intro)
            rw [stList, i64s_snoc]
            congr 3
            simp only [stNext, st1, st0, mx, stList_len, if_neg h1, if_neg h2, if_neg h3]
    · have e : (k : Int) = n := by omega
      have e2 : stRes p q s r n = stList p q s r k := by rw [stRes, if_pos h0]; congr 1; omega
      rw [h0, e2]
      refine EndVC.mk _ rfl _ _ ⟨rfl, rfl⟩ ?_
      refine ⟨[], rfl, rfl, ?_, ?_⟩ <;> repeat' (first | exact trivial | exact rfl | apply And.intro)
end Go.Sx

namespace Go.Sx
open Go Go.Proofs
set_option maxRecDepth 10000
theorem e22 : EntersF Try.prog 22 := enters_of Try.func22 (c := bodyOf Try.f22) (by kernel_rfl) rfl
theorem e19 : EntersF Try.prog 19 := enters_of Try.func19 (c := bodyOf Try.f19) (by kernel_rfl) rfl
theorem e3 : EntersF Try.prog 3 := enters_of Try.func3 (c := bodyOf Try.f3) (by kernel_rfl) rfl
def exMac : Mac := ⟨20, 120, 50, 200, 30, 25, 5, 3, 2⟩
theorem exMac_chk : exMac.chk = 0 := Mac.chk0 (by simp [Mac.ok, exMac])
theorem s22 : PSpec Try.prog 22 [] (xP True) := by
  refine spec_of pMix Try.func22 (c := bodyOf Try.f22) rfl (by kernel_rfl) (by kernel_rfl) Try.ntmps22 (res := [.tmp 0]) (by kernel_rfl) ?_
  change CallVC _ _ _ _ _
  refine CallVC.pure rfl (s55) ?_
  change CallVC _ _ _ _ _
  refine CallVC.pure rfl (s18 exMac 190 1) ?_
  change CallVC _ _ _ _ _
  refine CallVC.pure rfl (s23 2 1 3 4 4) ?_
  change CallVC _ _ _ _ _
  refine CallVC.pure rfl (s31 ⟨3, 0⟩ ⟨0, 1⟩ ⟨0, -1⟩) ?_
  have v1 : exMac.tickV 190 1 = 200 := by
    rw [Mac.tickV, if_pos exMac_chk]; decide
  have v2 : exMac.tickE 190 1 = 0 := by
    rw [Mac.tickE, if_pos exMac_chk]; decide
  have v3 : boilE 2 1 3 4 4 = 0 := by decide
  have v4 : stRes 2 1 3 4 4 = [0, 3, 7, 10] := by decide
  have v5 : ctrE ⟨3, 0⟩ ⟨0, 1⟩ ⟨0, -1⟩ = 0 := by decide
  have v6 : ctrX ⟨3, 0⟩ ⟨0, 1⟩ ⟨0, -1⟩ = 16 := by decide
  have v7 : ctrY ⟨3, 0⟩ ⟨0, 1⟩ ⟨0, -1⟩ = 0 := by decide
  have v8 : ctrD ⟨3, 0⟩ ⟨0, 1⟩ ⟨0, -1⟩ = 12 := by decide
  refine Rng.ok (by simp only [inR]; omega) ?_
  refine Rng.ok (by simp only [inR]; omega) ?_
  refine Br.mk (fun h1 => ?_) (fun h1 => ?_)
  · refine Br.mk (fun h2 => ?_) (fun h2 => ?_)
    · change CallVC _ _ _ _ _
      refine CallVC.pure rfl (s27 _ [0, 3, 7, 10] (by rw [v4]; decide)) ?_
      refine Br.mk (fun h3 => ?_) (fun h3 => ?_)
      · refine Br.mk (fun h4 => ?_) (fun h4 => ?_)
        · refine Br.mk (fun h5 => ?_) (fun h5 => ?_)
          · refine EndVC.mk _ rfl _ _ ⟨rfl, rfl⟩ ?_
            refine ⟨[], rfl, rfl, ?_, ?_⟩ <;> repeat' (first | exact trivial | exact rfl | exact Iff.rfl | apply And.intro)
            exact iff_true_intro v8
          · exact absurd v7 h5
        · exact absurd v6 h4
      · exact absurd v4 h3
    · exact absurd v1 h2
  · exact absurd (by omega) h1
theorem s3 (m : Mac) (t v : Int) : PSpec Try.prog 3 [m.x, I t, I v] (xP True) := by
  refine spec_of pMix Try.func3 (c := bodyOf Try.f3) rfl (by kernel_rfl) (by kernel_rfl) Try.ntmps3 (res := [.tmp 6]) (by kernel_rfl) ?_
  change CallVC _ _ _ _ _
  refine CallVC.pure rfl (s18 m t v) ?_
  change CallVC _ _ _ _ _
  refine CallVC.pure rfl (s19 m t v) ?_
  change QCallVC _ _ _ _ _
  refine QCallVC.mk e20 _ _ rfl (s20 m) rfl ?_
  change QCallVC _ _ _ _ _
  refine QCallVC.mk e21 _ _ rfl (s21 m) rfl ?_
  refine Br.mk (fun h1 => ?_) (fun h1 => ?_)
  · refine Br.mk (fun h2 => ?_) (fun h2 => ?_)
    · refine Br.mk (fun h3 => ?_) (fun h3 => ?_)
      · change QCallVC _ _ _ _ _
        refine QCallVC.mk e22 _ _ rfl (s22) rfl ?_
        refine EndVC.mk _ rfl _ _ ⟨rfl, rfl⟩ ?_
        refine ⟨[], rfl, rfl, ?_, ?_⟩ <;> repeat' (first | exact trivial | exact rfl | exact Iff.rfl | apply And.intro)
      · exact absurd rfl h3
    · exact absurd rfl h2
  · exact absurd rfl h1
end Go.Sx
