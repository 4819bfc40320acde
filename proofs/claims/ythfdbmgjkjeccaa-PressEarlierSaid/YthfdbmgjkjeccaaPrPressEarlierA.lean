import Derived.Test.YthfdbmgjkjeccaaProg
import Derived.Test.YthfdbmgjkjeccaaXc
import Derived.Shelf.Abstract
namespace Go.Sx
open Go Go.Proofs
theorem pMix : Try.prog.follows .mixedOrders = true := by kernel_rfl
theorem spec_of {P : Program} (hm : P.follows .mixedOrders = true) {f : FuncId} {fn : Func} (hf : P.funcs[f]? = some fn) {c : Code} (hb : fn.body = some c) (hname : (fn.name == "runtime.NumGoroutine") = false) {O : List (Nat × RO)} (hok : codeOK O c = true) {nt : Nat} (hnt : fn.ntmps = nt) {res : List ResultVar} (hres : fn.results.toList = res)
    {args : List XV} {m : List Blk} {Rs : AV → List (Option Blk) → Prop} (h : awp P O c (startSt nt args m) (atEnd P res Rs)) : HSpec P f args m Rs := hspec_of_awp hm O hf hb (enters_of hf hname hb) hok hnt hres h
noncomputable def bodyOf (f : Func) : Code := match f.body with | some c => c | none => .skip
abbrev I (n : Int) : XV := .one (.int .i64 n)
def setsE : List AV → List (Nat × AV) → List AV
  | l, [] => l
  | l, (n, v) :: r => setsE (l.set n v) r
/-- An environment of n unknowns but for these. -/
def envA (n : Nat) (l : List (Nat × AV)) : List AV := setsE (anysA n) l

theorem CallVC.pure {P : Program} {f : FuncId} {args : List AV} {s : St} {K : AV → St → Prop} {args' : List XV} {r : AV} (ha : argsX s [] args = some args') (h : PSpec P f args' r) (k : afterCall s (lendsA [] args || lendsB s [] []) [] r [] K) : CallVC P f args s K :=
  CallVC.mk [] _ args' [] ha rfl rfl h fun r' m' ⟨h1, h2⟩ => by subst h1 h2; exact k
theorem CallVC0.pure {P : Program} {f : FuncId} {args : List AV} {s : St} {K : AV → St → Prop} {args' : List XV} {r : AV} (ha : argsX s [] args = some args') (h : PSpec P f args' r) (k : afterCall s (lendsA [] args || lendsB s [] []) [] r [] K) : CallVC0 P f args s K :=
  CallVC0.mk _ args' ha h fun r' m' ⟨h1, h2⟩ => by subst h1 h2; exact k
theorem e56 : EntersF Try.prog 56 := enters_of Try.func56 (c := bodyOf Try.f56) (by kernel_rfl) rfl
set_option maxRecDepth 10000
abbrev xP (p : Prop) [d : Decidable p] : AV := .x (.one (.prp p d))
theorem s56 (n lo hi : Int) : PSpec Try.prog 56 [I n, I lo, I hi] (xP (n < lo ∨ hi < n)) := by
  refine spec_of pMix (O := []) Try.func56 (c := bodyOf Try.f56) rfl (by kernel_rfl) (by kernel_rfl) Try.ntmps56 (res := [.tmp 6]) (by kernel_rfl) ?_
  try refine JoinVC.on ?_
  refine Br.mk (fun h => ?_) (fun h => ?_)
  · refine EndVC.mk _ rfl _ _ ⟨rfl, rfl⟩ ⟨[], rfl, rfl, ⟨?_, trivial⟩, trivial⟩
    exact Or.inl h
  · refine EndVC.mk _ rfl _ _ ⟨rfl, rfl⟩ ⟨[], rfl, rfl, ⟨?_, trivial⟩, trivial⟩
    show _ ↔ _
    simp [h]
theorem s58 (n lo hi : Int) : PSpec Try.prog 58 [I n, I lo, I hi] (xP (lo ≤ n ∧ n ≤ hi)) := by
  refine spec_of pMix (O := []) Try.func58 (c := bodyOf Try.f58) rfl (by kernel_rfl) (by kernel_rfl) Try.ntmps58 (res := [.tmp 6]) (by kernel_rfl) ?_
  try refine JoinVC.on ?_
  refine Br.mk (fun h => ?_) (fun h => ?_)
  · refine EndVC.mk _ rfl _ _ ⟨rfl, rfl⟩ ⟨[], rfl, rfl, ⟨?_, trivial⟩, trivial⟩
    show _ ↔ _
    simp [h]
  · refine EndVC.mk _ rfl _ _ ⟨rfl, rfl⟩ ⟨[], rfl, rfl, ⟨?_, trivial⟩, trivial⟩
    show ¬ _
    simp [h]
theorem e58 : EntersF Try.prog 58 := enters_of Try.func58 (c := bodyOf Try.f58) (by kernel_rfl) rfl
structure Mac where
  room : Int
  melt : Int
  cool : Int
  top : Int
  heat : Int
  chill : Int
  drift : Int
  hold : Int
  life : Int
@[reducible] def Mac.x (m : Mac) : XV := .agg [.int .i64 m.room, .int .i64 m.melt, .int .i64 m.cool, .int .i64 m.top, .int .i64 m.heat, .int .i64 m.chill, .int .i64 m.drift, .int .i64 m.hold, .int .i64 m.life]
/-- Which machines are valid. -/
def Mac.ok (m : Mac) : Prop := 0 ≤ m.room ∧ m.room ≤ m.cool ∧ m.cool < m.melt ∧ m.melt ≤ m.top ∧ m.top ≤ 400 ∧ 1 ≤ m.heat ∧ m.heat ≤ 400 ∧ 1 ≤ m.chill ∧ m.chill ≤ 400 ∧ 0 ≤ m.drift ∧ m.drift ≤ 400 ∧ 1 ≤ m.hold ∧ m.hold ≤ 64 ∧ 1 ≤ m.life ∧ m.life ≤ 65536
open Classical in
noncomputable def Mac.chk (m : Mac) : Int := if m.ok then 0 else 2
theorem Mac.chk0 {m : Mac} (h : m.ok) : m.chk = 0 := if_pos h
theorem Mac.chk2 {m : Mac} (h : ¬ m.ok) : m.chk = 2 := if_neg h
/-- The temperature after a tick. -/
def tickF (m : Mac) (t v : Int) : Int := if v = 1 then (if t + m.heat < m.top then t + m.heat else m.top) else if v = 2 then (if m.room < t - m.chill then t - m.chill else m.room) else (if m.room < t - m.drift then t - m.drift else m.room)
theorem s57 (m : Mac) (T v : Int) (hm : m.ok) (h1 : m.room ≤ T) (h2 : T ≤ m.top) : PSpec Try.prog 57 [m.x, I T, I v] (.x (I (tickF m T v))) := by
  obtain ⟨m1, m2, m3, m4, m5, m6, m7, m8, m9, m10, m11, m12, m13, m14, m15⟩ := hm
  refine spec_of pMix (O := []) Try.func57 (c := bodyOf Try.f57) rfl (by kernel_rfl) (by kernel_rfl) Try.ntmps57 (res := [.tmp 6]) (by kernel_rfl) ?_
  refine Br.mk (fun h => ?_) (fun h => ?_)
  · refine Rng.ok (by simp only [inR]; omega) ?_
    refine EndVC.mk _ rfl _ _ ⟨rfl, rfl⟩ ⟨[], rfl, rfl, ⟨⟨rfl, ?_⟩, trivial⟩, trivial⟩
    simp only [tickF, if_pos h]
  · refine Br.mk (fun h' => ?_) (fun h' => ?_)
    · refine Rng.ok (by simp only [inR]; omega) ?_
      refine EndVC.mk _ rfl _ _ ⟨rfl, rfl⟩ ⟨[], rfl, rfl, ⟨⟨rfl, ?_⟩, trivial⟩, trivial⟩
      simp only [tickF, if_neg h, if_pos h']
    · refine Rng.ok (by simp only [inR]; omega) ?_
      refine EndVC.mk _ rfl _ _ ⟨rfl, rfl⟩ ⟨[], rfl, rfl, ⟨⟨rfl, ?_⟩, trivial⟩, trivial⟩
      simp only [tickF, if_neg h, if_neg h']
theorem s59 (m : Mac) (T v : Int) (hm : m.ok) (h1 : m.room ≤ T) (h2 : T ≤ m.top) : PSpec Try.prog 59 [m.x, I T, I v] (.x (I (tickF m T v))) := by
  obtain ⟨m1, m2, m3, m4, m5, m6, m7, m8, m9, m10, m11, m12, m13, m14, m15⟩ := hm
  refine spec_of pMix (O := []) Try.func59 (c := bodyOf Try.f59) rfl (by kernel_rfl) (by kernel_rfl) Try.ntmps59 (res := [.tmp 6]) (by kernel_rfl) ?_
  refine Br.mk (fun h => ?_) (fun h => ?_)
  · refine Rng.ok (by simp only [inR]; omega) ?_
    refine EndVC.mk _ rfl _ _ ⟨rfl, rfl⟩ ⟨[], rfl, rfl, ⟨⟨rfl, ?_⟩, trivial⟩, trivial⟩
    simp only [tickF, if_pos h]
  · refine Br.mk (fun h' => ?_) (fun h' => ?_)
    · refine Rng.ok (by simp only [inR]; omega) ?_
      refine EndVC.mk _ rfl _ _ ⟨rfl, rfl⟩ ⟨[], rfl, rfl, ⟨⟨rfl, ?_⟩, trivial⟩, trivial⟩
      simp only [tickF, if_neg h, if_pos h']
    · refine Rng.ok (by simp only [inR]; omega) ?_
      refine EndVC.mk _ rfl _ _ ⟨rfl, rfl⟩ ⟨[], rfl, rfl, ⟨⟨rfl, ?_⟩, trivial⟩, trivial⟩
      simp only [tickF, if_neg h, if_neg h']
theorem s20 (m : Mac) : PSpec Try.prog 20 [m.x] (.x (I m.chk)) := by
  refine spec_of pMix (O := []) Try.func20 (c := bodyOf Try.f20) rfl (by kernel_rfl) (by kernel_rfl) Try.ntmps20 (res := [.tmp 2]) (by kernel_rfl) ?_
  have bad : ¬ m.ok → (2 : Int) = m.chk := fun h => (Mac.chk2 h).symm
  try refine JoinVC.on ?_
  refine Br.mk (fun h1 => ?_) (fun h1 => ?_)
  · refine EndVC.mk _ rfl _ _ ⟨rfl, rfl⟩ ⟨[], rfl, rfl, ⟨⟨rfl, ?_⟩, trivial⟩, trivial⟩
    exact bad (by simp only [Mac.ok]; omega)
  try refine JoinVC.on ?_
  refine Br.mk (fun h2 => ?_) (fun h2 => ?_)
  · refine EndVC.mk _ rfl _ _ ⟨rfl, rfl⟩ ⟨[], rfl, rfl, ⟨⟨rfl, ?_⟩, trivial⟩, trivial⟩
    exact bad (by simp only [Mac.ok]; omega)
  try refine JoinVC.on ?_
  refine Br.mk (fun h3 => ?_) (fun h3 => ?_)
  · refine EndVC.mk _ rfl _ _ ⟨rfl, rfl⟩ ⟨[], rfl, rfl, ⟨⟨rfl, ?_⟩, trivial⟩, trivial⟩
    exact bad (by simp only [Mac.ok]; omega)
  try refine JoinVC.on ?_
  refine Br.mk (fun h4 => ?_) (fun h4 => ?_)
  · refine EndVC.mk _ rfl _ _ ⟨rfl, rfl⟩ ⟨[], rfl, rfl, ⟨⟨rfl, ?_⟩, trivial⟩, trivial⟩
    exact bad (by simp only [Mac.ok]; omega)
  try refine JoinVC.on ?_
  refine Br.mk (fun h5 => ?_) (fun h5 => ?_)
  · refine EndVC.mk _ rfl _ _ ⟨rfl, rfl⟩ ⟨[], rfl, rfl, ⟨⟨rfl, ?_⟩, trivial⟩, trivial⟩
    exact bad (by simp only [Mac.ok]; omega)
  conv => whnf
  first | refine CallVC.pure rfl (s56 _ _ _) ?_ | refine CallVC0.pure rfl (s56 _ _ _) ?_
  try refine JoinVC.on ?_
  refine Br.mk (fun h6 => ?_) (fun h6 => ?_)
  · refine EndVC.mk _ rfl _ _ ⟨rfl, rfl⟩ ⟨[], rfl, rfl, ⟨⟨rfl, ?_⟩, trivial⟩, trivial⟩
    exact bad (by simp only [Mac.ok]; omega)
  conv => whnf
  first | refine CallVC.pure rfl (s56 _ _ _) ?_ | refine CallVC0.pure rfl (s56 _ _ _) ?_
  try refine JoinVC.on ?_
  refine Br.mk (fun h7 => ?_) (fun h7 => ?_)
  · refine EndVC.mk _ rfl _ _ ⟨rfl, rfl⟩ ⟨[], rfl, rfl, ⟨⟨rfl, ?_⟩, trivial⟩, trivial⟩
    exact bad (by simp only [Mac.ok]; omega)
  conv => whnf
  first | refine CallVC.pure rfl (s56 _ _ _) ?_ | refine CallVC0.pure rfl (s56 _ _ _) ?_
  try refine JoinVC.on ?_
  refine Br.mk (fun h8 => ?_) (fun h8 => ?_)
  · refine EndVC.mk _ rfl _ _ ⟨rfl, rfl⟩ ⟨[], rfl, rfl, ⟨⟨rfl, ?_⟩, trivial⟩, trivial⟩
    exact bad (by simp only [Mac.ok]; omega)
  conv => whnf
  first | refine CallVC.pure rfl (s56 _ _ _) ?_ | refine CallVC0.pure rfl (s56 _ _ _) ?_
  try refine JoinVC.on ?_
  refine Br.mk (fun h9 => ?_) (fun h9 => ?_)
  · refine EndVC.mk _ rfl _ _ ⟨rfl, rfl⟩ ⟨[], rfl, rfl, ⟨⟨rfl, ?_⟩, trivial⟩, trivial⟩
    exact bad (by simp only [Mac.ok]; omega)
  conv => whnf
  first | refine CallVC.pure rfl (s56 _ _ _) ?_ | refine CallVC0.pure rfl (s56 _ _ _) ?_
  try refine JoinVC.on ?_
  refine Br.mk (fun h10 => ?_) (fun h10 => ?_)
  · refine EndVC.mk _ rfl _ _ ⟨rfl, rfl⟩ ⟨[], rfl, rfl, ⟨⟨rfl, ?_⟩, trivial⟩, trivial⟩
    exact bad (by simp only [Mac.ok]; omega)
  refine EndVC.mk _ rfl _ _ ⟨rfl, rfl⟩ ⟨[], rfl, rfl, ⟨⟨rfl, ?_⟩, trivial⟩, trivial⟩
  exact (Mac.chk0 (by simp only [Mac.ok]; omega)).symm
theorem s21 (m : Mac) : PSpec Try.prog 21 [m.x] (.x (I m.chk)) := by
  refine spec_of pMix (O := []) Try.func21 (c := bodyOf Try.f21) rfl (by kernel_rfl) (by kernel_rfl) Try.ntmps21 (res := [.tmp 2]) (by kernel_rfl) ?_
  have bad : ¬ m.ok → (2 : Int) = m.chk := fun h => (Mac.chk2 h).symm
  try refine JoinVC.on ?_
  refine Br.mk (fun h1 => ?_) (fun h1 => ?_)
  · refine EndVC.mk _ rfl _ _ ⟨rfl, rfl⟩ ⟨[], rfl, rfl, ⟨⟨rfl, ?_⟩, trivial⟩, trivial⟩
    exact bad (by simp only [Mac.ok]; omega)
  try refine JoinVC.on ?_
  refine Br.mk (fun h2 => ?_) (fun h2 => ?_)
  · refine EndVC.mk _ rfl _ _ ⟨rfl, rfl⟩ ⟨[], rfl, rfl, ⟨⟨rfl, ?_⟩, trivial⟩, trivial⟩
    exact bad (by simp only [Mac.ok]; omega)
  try refine JoinVC.on ?_
  refine Br.mk (fun h3 => ?_) (fun h3 => ?_)
  · refine EndVC.mk _ rfl _ _ ⟨rfl, rfl⟩ ⟨[], rfl, rfl, ⟨⟨rfl, ?_⟩, trivial⟩, trivial⟩
    exact bad (by simp only [Mac.ok]; omega)
  try refine JoinVC.on ?_
  refine Br.mk (fun h4 => ?_) (fun h4 => ?_)
  · refine EndVC.mk _ rfl _ _ ⟨rfl, rfl⟩ ⟨[], rfl, rfl, ⟨⟨rfl, ?_⟩, trivial⟩, trivial⟩
    exact bad (by simp only [Mac.ok]; omega)
  try refine JoinVC.on ?_
  refine Br.mk (fun h5 => ?_) (fun h5 => ?_)
  · refine EndVC.mk _ rfl _ _ ⟨rfl, rfl⟩ ⟨[], rfl, rfl, ⟨⟨rfl, ?_⟩, trivial⟩, trivial⟩
    exact bad (by simp only [Mac.ok]; omega)
  conv => whnf
  first | refine CallVC.pure rfl (s58 _ _ _) ?_ | refine CallVC0.pure rfl (s58 _ _ _) ?_
  try refine JoinVC.on ?_
  refine Br.mk (fun h6 => ?_) (fun h6 => ?_)
  · refine EndVC.mk _ rfl _ _ ⟨rfl, rfl⟩ ⟨[], rfl, rfl, ⟨⟨rfl, ?_⟩, trivial⟩, trivial⟩
    exact bad (by simp only [Mac.ok]; omega)
  conv => whnf
  first | refine CallVC.pure rfl (s58 _ _ _) ?_ | refine CallVC0.pure rfl (s58 _ _ _) ?_
  try refine JoinVC.on ?_
  refine Br.mk (fun h7 => ?_) (fun h7 => ?_)
  · refine EndVC.mk _ rfl _ _ ⟨rfl, rfl⟩ ⟨[], rfl, rfl, ⟨⟨rfl, ?_⟩, trivial⟩, trivial⟩
    exact bad (by simp only [Mac.ok]; omega)
  conv => whnf
  first | refine CallVC.pure rfl (s58 _ _ _) ?_ | refine CallVC0.pure rfl (s58 _ _ _) ?_
  try refine JoinVC.on ?_
  refine Br.mk (fun h8 => ?_) (fun h8 => ?_)
  · refine EndVC.mk _ rfl _ _ ⟨rfl, rfl⟩ ⟨[], rfl, rfl, ⟨⟨rfl, ?_⟩, trivial⟩, trivial⟩
    exact bad (by simp only [Mac.ok]; omega)
  conv => whnf
  first | refine CallVC.pure rfl (s58 _ _ _) ?_ | refine CallVC0.pure rfl (s58 _ _ _) ?_
  try refine JoinVC.on ?_
  refine Br.mk (fun h9 => ?_) (fun h9 => ?_)
  · refine EndVC.mk _ rfl _ _ ⟨rfl, rfl⟩ ⟨[], rfl, rfl, ⟨⟨rfl, ?_⟩, trivial⟩, trivial⟩
    exact bad (by simp only [Mac.ok]; omega)
  conv => whnf
  first | refine CallVC.pure rfl (s58 _ _ _) ?_ | refine CallVC0.pure rfl (s58 _ _ _) ?_
  try refine JoinVC.on ?_
  refine Br.mk (fun h10 => ?_) (fun h10 => ?_)
  · refine EndVC.mk _ rfl _ _ ⟨rfl, rfl⟩ ⟨[], rfl, rfl, ⟨⟨rfl, ?_⟩, trivial⟩, trivial⟩
    exact bad (by simp only [Mac.ok]; omega)
  refine EndVC.mk _ rfl _ _ ⟨rfl, rfl⟩ ⟨[], rfl, rfl, ⟨⟨rfl, ?_⟩, trivial⟩, trivial⟩
  exact (Mac.chk0 (by simp only [Mac.ok]; omega)).symm
theorem e20 : EntersF Try.prog 20 := enters_of Try.func20 (c := bodyOf Try.f20) (by kernel_rfl) rfl
theorem e21 : EntersF Try.prog 21 := enters_of Try.func21 (c := bodyOf Try.f21) (by kernel_rfl) rfl
theorem e57 : EntersF Try.prog 57 := enters_of Try.func57 (c := bodyOf Try.f57) (by kernel_rfl) rfl
theorem e59 : EntersF Try.prog 59 := enters_of Try.func59 (c := bodyOf Try.f59) (by kernel_rfl) rfl
theorem Mac.chk_cases (m : Mac) : (m.ok ∧ m.chk = 0) ∨ (¬ m.ok ∧ m.chk = 2) := by
  by_cases h : m.ok
  · exact .inl ⟨h, Mac.chk0 h⟩
  · exact .inr ⟨h, Mac.chk2 h⟩
/-- What Tick returns. -/
def inTick (m : Mac) (t v : Int) : Prop := m.room ≤ t ∧ t ≤ m.top ∧ 0 ≤ v ∧ v ≤ 2
instance (m : Mac) (t v : Int) : Decidable (inTick m t v) := by unfold inTick; exact inferInstance
noncomputable def Mac.tickV (m : Mac) (t v : Int) : Int := if m.chk = 0 then (if inTick m t v then tickF m t v else 0) else 0
noncomputable def Mac.tickE (m : Mac) (t v : Int) : Int := if m.chk = 0 then (if inTick m t v then 0 else 3) else m.chk
theorem tick_bad {m : Mac} {t v : Int} (h : ¬ m.chk = 0) : (0 : Int) = m.tickV t v ∧ m.chk = m.tickE t v := ⟨(if_neg h).symm, (if_neg h).symm⟩
theorem tick_out {m : Mac} {t v : Int} (h : ¬ ¬ m.chk = 0) (h1 : ¬ inTick m t v) : (0 : Int) = m.tickV t v ∧ (3 : Int) = m.tickE t v := by
  have h := Decidable.not_not.1 h
  exact ⟨by rw [Mac.tickV, if_pos h, if_neg h1], by rw [Mac.tickE, if_pos h, if_neg h1]⟩
theorem tick_in {m : Mac} {t v : Int} (h : ¬ ¬ m.chk = 0) (h1 : inTick m t v) : tickF m t v = m.tickV t v ∧ (0 : Int) = m.tickE t v := by
  have h := Decidable.not_not.1 h
  exact ⟨by rw [Mac.tickV, if_pos h, if_pos h1], by rw [Mac.tickE, if_pos h, if_pos h1]⟩
theorem s18 (m : Mac) (t v : Int) : PSpec Try.prog 18 [m.x, I t, I v] (.tup [I (m.tickV t v), I (m.tickE t v)]) := by
  refine spec_of pMix (O := []) Try.func18 (c := bodyOf Try.f18) rfl (by kernel_rfl) (by kernel_rfl) Try.ntmps18 (res := [.tmp 6, .tmp 7]) (by kernel_rfl) ?_
  conv => whnf
  first | refine CallVC.pure rfl (s20 m) ?_ | refine CallVC0.pure rfl (s20 m) ?_
  try refine JoinVC.on ?_
  refine Br.mk (fun h => ?_) (fun h => ?_)
  · refine EndVC.mk _ rfl _ _ ⟨rfl, rfl⟩ ⟨[], rfl, rfl, ⟨⟨⟨rfl, ?_⟩, ⟨rfl, ?_⟩, trivial⟩, trivial⟩, trivial⟩
    · exact (tick_bad h).1
    · exact (tick_bad h).2
  conv => whnf
  first | refine CallVC.pure rfl (s56 _ _ _) ?_ | refine CallVC0.pure rfl (s56 _ _ _) ?_
  try refine JoinVC.on ?_
  refine Br.mk (fun h1 => ?_) (fun h1 => ?_)
  · refine EndVC.mk _ rfl _ _ ⟨rfl, rfl⟩ ⟨[], rfl, rfl, ⟨⟨⟨rfl, ?_⟩, ⟨rfl, ?_⟩, trivial⟩, trivial⟩, trivial⟩
    · exact (tick_out h (by unfold inTick; omega)).1
    · exact (tick_out h (by unfold inTick; omega)).2
  conv => whnf
  first | refine CallVC.pure rfl (s56 _ _ _) ?_ | refine CallVC0.pure rfl (s56 _ _ _) ?_
  try refine JoinVC.on ?_
  refine Br.mk (fun h2 => ?_) (fun h2 => ?_)
  · refine EndVC.mk _ rfl _ _ ⟨rfl, rfl⟩ ⟨[], rfl, rfl, ⟨⟨⟨rfl, ?_⟩, ⟨rfl, ?_⟩, trivial⟩, trivial⟩, trivial⟩
    · exact (tick_out h (by unfold inTick; omega)).1
    · exact (tick_out h (by unfold inTick; omega)).2
  conv => whnf
  first | refine CallVC.pure rfl (s57 m t v (by rcases m.chk_cases with h3 | h3; exact h3.1; exact absurd (fun e => absurd (h3.2.symm.trans e) (by decide)) h) (by omega) (by omega)) ?_ | refine CallVC0.pure rfl (s57 m t v (by rcases m.chk_cases with h3 | h3; exact h3.1; exact absurd (fun e => absurd (h3.2.symm.trans e) (by decide)) h) (by omega) (by omega)) ?_
  refine EndVC.mk _ rfl _ _ ⟨rfl, rfl⟩ ⟨[], rfl, rfl, ⟨⟨⟨rfl, ?_⟩, ⟨rfl, ?_⟩, trivial⟩, trivial⟩, trivial⟩
  · exact (tick_in h (by unfold inTick; omega)).1
  · exact (tick_in h (by unfold inTick; omega)).2
theorem s19 (m : Mac) (t v : Int) : PSpec Try.prog 19 [m.x, I t, I v] (.tup [I (m.tickV t v), I (m.tickE t v)]) := by
  refine spec_of pMix (O := []) Try.func19 (c := bodyOf Try.f19) rfl (by kernel_rfl) (by kernel_rfl) Try.ntmps19 (res := [.tmp 6, .tmp 7]) (by kernel_rfl) ?_
  conv => whnf
  first | refine CallVC.pure rfl (s21 m) ?_ | refine CallVC0.pure rfl (s21 m) ?_
  try refine JoinVC.on ?_
  refine Br.mk (fun h => ?_) (fun h => ?_)
  · refine EndVC.mk _ rfl _ _ ⟨rfl, rfl⟩ ⟨[], rfl, rfl, ⟨⟨⟨rfl, ?_⟩, ⟨rfl, ?_⟩, trivial⟩, trivial⟩, trivial⟩
    · exact (tick_bad h).1
    · rcases m.chk_cases with h3 | h3
      · exact absurd h3.2 h
      · exact h3.2.symm.trans (tick_bad h).2
  conv => whnf
  first | refine CallVC.pure rfl (s58 _ _ _) ?_ | refine CallVC0.pure rfl (s58 _ _ _) ?_
  try refine JoinVC.on ?_
  refine Br.mk (fun h1 => ?_) (fun h1 => ?_)
  · refine EndVC.mk _ rfl _ _ ⟨rfl, rfl⟩ ⟨[], rfl, rfl, ⟨⟨⟨rfl, ?_⟩, ⟨rfl, ?_⟩, trivial⟩, trivial⟩, trivial⟩
    · exact (tick_out h (by unfold inTick; omega)).1
    · exact (tick_out h (by unfold inTick; omega)).2
  try refine JoinVC.on ?_
  refine Br.mk (fun h2 => ?_) (fun h2 => ?_)
  · refine EndVC.mk _ rfl _ _ ⟨rfl, rfl⟩ ⟨[], rfl, rfl, ⟨⟨⟨rfl, ?_⟩, ⟨rfl, ?_⟩, trivial⟩, trivial⟩, trivial⟩
    · exact (tick_out h (by unfold inTick; omega)).1
    · exact (tick_out h (by unfold inTick; omega)).2
  try refine JoinVC.on ?_
  refine Br.mk (fun h3 => ?_) (fun h3 => ?_)
  · refine EndVC.mk _ rfl _ _ ⟨rfl, rfl⟩ ⟨[], rfl, rfl, ⟨⟨⟨rfl, ?_⟩, ⟨rfl, ?_⟩, trivial⟩, trivial⟩, trivial⟩
    · exact (tick_out h (by unfold inTick; omega)).1
    · exact (tick_out h (by unfold inTick; omega)).2
  conv => whnf
  first | refine CallVC.pure rfl (s59 m t v (by rcases m.chk_cases with h3 | h3; exact h3.1; exact absurd (fun e => absurd (h3.2.symm.trans e) (by decide)) h) (by omega) (by omega)) ?_ | refine CallVC0.pure rfl (s59 m t v (by rcases m.chk_cases with h3 | h3; exact h3.1; exact absurd (fun e => absurd (h3.2.symm.trans e) (by decide)) h) (by omega) (by omega)) ?_
  refine EndVC.mk _ rfl _ _ ⟨rfl, rfl⟩ ⟨[], rfl, rfl, ⟨⟨⟨rfl, ?_⟩, ⟨rfl, ?_⟩, trivial⟩, trivial⟩, trivial⟩
  · exact (tick_in h (by unfold inTick; omega)).1
  · exact (tick_in h (by unfold inTick; omega)).2
end Go.Sx

namespace Go.Sx
open Go Go.Proofs
theorem mul_bd {a b : Int} {A B : Nat} (ha : a.natAbs ≤ A) (hb : b.natAbs ≤ B) : (a * b).natAbs ≤ A * B := by
  rw [Int.natAbs_mul]; exact Nat.mul_le_mul ha hb
structure Spot where
  x : Int
  y : Int
@[reducible] def Spot.v (p : Spot) : XV := .agg [.int .i64 p.x, .int .i64 p.y]
@[reducible] def Spot.row (p : Spot) : List Cell := [.int p.x, .int p.y]
/-- A coordinate's amount. -/
def Spot.ok (p : Spot) : Prop := p.x.natAbs ≤ 262144 ∧ p.y.natAbs ≤ 262144
set_option maxRecDepth 10000
theorem e67 : EntersF Try.prog 67 := enters_of Try.func67 (c := bodyOf Try.f67) (by kernel_rfl) rfl
theorem e69 : EntersF Try.prog 69 := enters_of Try.func69 (c := bodyOf Try.f69) (by kernel_rfl) rfl
theorem e70 : EntersF Try.prog 70 := enters_of Try.func70 (c := bodyOf Try.f70) (by kernel_rfl) rfl
theorem e71 : EntersF Try.prog 71 := enters_of Try.func71 (c := bodyOf Try.f71) (by kernel_rfl) rfl
theorem e68 : EntersF Try.prog 68 := enters_of Try.func68 (c := bodyOf Try.f68) (by kernel_rfl) rfl
theorem e31 : EntersF Try.prog 31 := enters_of Try.func31 (c := bodyOf Try.f31) (by kernel_rfl) rfl
def sq (p : Spot) : Int := p.x * p.x + p.y * p.y
theorem sq_bd {p : Spot} (h : p.ok) : (sq p).natAbs ≤ 137438953472 := by
  have h1 := mul_bd h.1 h.1
  have h2 := mul_bd h.2 h.2
  unfold sq; omega
theorem s67 (p : Spot) (h : p.ok) : PSpec Try.prog 67 [p.v] (.x (I (sq p))) := by
  have h1 := mul_bd h.1 h.1
  have h2 := mul_bd h.2 h.2
  refine spec_of pMix (O := []) Try.func67 (c := bodyOf Try.f67) rfl (by kernel_rfl) (by kernel_rfl) Try.ntmps67 (res := [.tmp 2]) (by kernel_rfl) ?_
  refine Rng.ok (by simp only [inR]; omega) ?_
  refine Rng.ok (by simp only [inR]; omega) ?_
  refine Rng.ok (by simp only [inR]; omega) ?_
  refine EndVC.mk _ rfl _ _ ⟨rfl, rfl⟩ ⟨[], rfl, rfl, ⟨⟨rfl, ?_⟩, trivial⟩, trivial⟩
  rfl
def g2 (p q r : Spot) : Int := p.x * (q.y - r.y)
def g3 (p q r : Spot) : Int := sq p * (q.y - r.y)
def g4 (p q r : Spot) : Int := sq p * (r.x - q.x)
theorem g2_bd {p q r : Spot} (hp : p.ok) (hq : q.ok) (hr : r.ok) : (g2 p q r).natAbs ≤ 72057594037927936 := by
  obtain ⟨h1, h2⟩ := hp; obtain ⟨h3, h4⟩ := hq; obtain ⟨h5, h6⟩ := hr
  have := mul_bd (B := 524288) h1 (show (q.y - r.y).natAbs ≤ 524288 by omega)
  unfold g2; omega
theorem g3_bd {p q r : Spot} (hp : p.ok) (hq : q.ok) (hr : r.ok) : (g3 p q r).natAbs ≤ 72057594037927936 := by
  have h0 := sq_bd hp
  obtain ⟨h3, h4⟩ := hq; obtain ⟨h5, h6⟩ := hr
  have := mul_bd (B := 524288) h0 (show (q.y - r.y).natAbs ≤ 524288 by omega)
  unfold g3; omega
theorem g4_bd {p q r : Spot} (hp : p.ok) (hq : q.ok) (hr : r.ok) : (g4 p q r).natAbs ≤ 72057594037927936 := by
  have h0 := sq_bd hp
  obtain ⟨h3, h4⟩ := hq; obtain ⟨h5, h6⟩ := hr
  have := mul_bd (B := 524288) h0 (show (r.x - q.x).natAbs ≤ 524288 by omega)
  unfold g4; omega
theorem s69 (p q r : Spot) (hp : p.ok) (hq : q.ok) (hr : r.ok) : PSpec Try.prog 69 [p.v, q.v, r.v] (.x (I (g2 p q r))) := by
  have h := g2_bd hp hq hr
  unfold g2 at h
  obtain ⟨h1, h2⟩ := hp; obtain ⟨h3, h4⟩ := hq; obtain ⟨h5, h6⟩ := hr
  refine spec_of pMix (O := []) Try.func69 (c := bodyOf Try.f69) rfl (by kernel_rfl) (by kernel_rfl) Try.ntmps69 (res := [.tmp 6]) (by kernel_rfl) ?_
  refine Rng.ok (by simp only [inR]; omega) ?_
  refine Rng.ok (by simp only [inR]; omega) ?_
  refine EndVC.mk _ rfl _ _ ⟨rfl, rfl⟩ ⟨[], rfl, rfl, ⟨⟨rfl, ?_⟩, trivial⟩, trivial⟩
  rfl
/-- The box of a function that a closure reads. -/
@[reducible] def fbox (f : FuncId) : XV := .one (.lel true [.fn] [[.fn f]] 0 0)
theorem s70 (p q r : Spot) (hp : p.ok) (hq : q.ok) (hr : r.ok) : PSpec Try.prog 70 [p.v, q.v, r.v, fbox 67] (.x (I (g3 p q r))) := by
  have h := g3_bd hp hq hr
  unfold g3 at h
  have hp' := hp
  obtain ⟨h1, h2⟩ := hp; obtain ⟨h3, h4⟩ := hq; obtain ⟨h5, h6⟩ := hr
  refine spec_of pMix (O := [(1, ([], [⟨0, [], []⟩, ⟨1, [], []⟩, ⟨3, [], []⟩, ⟨4, [], []⟩, ⟨5, [], []⟩, ⟨6, [], []⟩, ⟨7, [], []⟩, ⟨2, [3, 4, 5, 6, 7], []⟩, ⟨8, [], []⟩, ⟨9, [], []⟩]))]) Try.func70 (c := bodyOf Try.f70) rfl (by kernel_rfl) (by kernel_rfl) Try.ntmps70 (res := [.tmp 7]) (by kernel_rfl) ?_
  repeat' (conv => whnf
           first
           | refine Rng.ok (by simp only [inR]; omega) ?_
           | refine Ob.mk (by first | omega | (simp; done) | (simp; omega)) ?_
           | refine JoinVC.on ?_
           | refine Val.mk _ (Int.tmod_eq_emod_of_nonneg (by omega)) ?_
           | refine Val.mk _ (Int.tdiv_eq_ediv_of_nonneg (by omega)) ?_
           | refine CallVC.pure rfl (s67 p hp') ?_
           | refine CallVC0.pure rfl (s67 p hp') ?_
           | (refine Br.mk (fun h => ?_) (fun h => ?_) <;> first | (exfalso; omega; done) | (exfalso; simp at h; done) | skip))
  refine EndVC.mk _ rfl _ _ ⟨rfl, rfl⟩ ⟨[], rfl, rfl, ⟨⟨rfl, ?_⟩, trivial⟩, trivial⟩
  rfl
theorem s71 (p q r : Spot) (hp : p.ok) (hq : q.ok) (hr : r.ok) : PSpec Try.prog 71 [p.v, q.v, r.v, fbox 67] (.x (I (g4 p q r))) := by
  have h := g4_bd hp hq hr
  unfold g4 at h
  have hp' := hp
  obtain ⟨h1, h2⟩ := hp; obtain ⟨h3, h4⟩ := hq; obtain ⟨h5, h6⟩ := hr
  refine spec_of pMix (O := [(1, ([], [⟨0, [], []⟩, ⟨1, [], []⟩, ⟨3, [], []⟩, ⟨4, [], []⟩, ⟨5, [], []⟩, ⟨6, [], []⟩, ⟨7, [], []⟩, ⟨2, [3, 4, 5, 6, 7], []⟩, ⟨8, [], []⟩, ⟨9, [], []⟩]))]) Try.func71 (c := bodyOf Try.f71) rfl (by kernel_rfl) (by kernel_rfl) Try.ntmps71 (res := [.tmp 7]) (by kernel_rfl) ?_
  repeat' (conv => whnf
           first
           | refine Rng.ok (by simp only [inR]; omega) ?_
           | refine Ob.mk (by first | omega | (simp; done) | (simp; omega)) ?_
           | refine JoinVC.on ?_
           | refine Val.mk _ (Int.tmod_eq_emod_of_nonneg (by omega)) ?_
           | refine Val.mk _ (Int.tdiv_eq_ediv_of_nonneg (by omega)) ?_
           | refine CallVC.pure rfl (s67 p hp') ?_
           | refine CallVC0.pure rfl (s67 p hp') ?_
           | (refine Br.mk (fun h => ?_) (fun h => ?_) <;> first | (exfalso; omega; done) | (exfalso; simp at h; done) | skip))
  refine EndVC.mk _ rfl _ _ ⟨rfl, rfl⟩ ⟨[], rfl, rfl, ⟨⟨rfl, ?_⟩, trivial⟩, trivial⟩
  rfl

def tsum (g : Spot → Spot → Spot → Int) (a b c : Spot) : Nat → Int
  | 0 => 0
  | 1 => g a b c
  | 2 => g a b c + g b c a
  | _ => g a b c + g b c a + g c a b
@[reducible] def spots (a b c : Spot) : XV := .one (.lst true [.int .i64, .int .i64] [a.row, b.row, c.row])
theorem s68a (f : FuncId) (g : Spot → Spot → Spot → Int) (a b c : Spot) (hf : ∀ p q r : Spot, p.ok → q.ok → r.ok → PSpec Try.prog f [p.v, q.v, r.v] (.x (I (g p q r))))
    (hg : ∀ p q r : Spot, p.ok → q.ok → r.ok → (g p q r).natAbs ≤ 72057594037927936) (ha : a.ok) (hb : b.ok) (hc : c.ok) : PSpec Try.prog 68 [.one (.fn f []), spots a b c] (.x (I (tsum g a b c 3))) := by
  have b1 := hg a b c ha hb hc
  have b2 := hg b c a hb hc ha
  have b3 := hg c a b hc ha hb
  refine spec_of pMix (O := [(5, ([], [⟨0, [], []⟩, ⟨1, [], []⟩, ⟨2, [], []⟩, ⟨3, [], []⟩, ⟨4, [], []⟩, ⟨5, [], []⟩, ⟨6, [], []⟩, ⟨7, [], []⟩, ⟨8, [], []⟩, ⟨9, [], []⟩, ⟨10, [], []⟩, ⟨11, [], []⟩, ⟨12, [], []⟩, ⟨13, [], []⟩, ⟨14, [], []⟩, ⟨15, [], []⟩, ⟨16, [], []⟩, ⟨17, [], []⟩, ⟨18, [], []⟩, ⟨19, [], []⟩, ⟨20, [], []⟩, ⟨21, [], []⟩, ⟨22, [0], []⟩, ⟨23, [], []⟩, ⟨24, [], []⟩]))]) Try.func68 (c := bodyOf Try.f68) rfl (by kernel_rfl) (by kernel_rfl) Try.ntmps68 (res := [.tmp 4]) (by kernel_rfl) ?_
  have e3 : (([a.row, b.row, c.row] : Arr).length : Int) = 3 := rfl
  refine LoopVC.un 4 ?_
  try refine JoinVC.on ?_
  refine Br.mk (fun h => ?_) (fun h => ?_)
  · refine Ob.mk (by simp) ?_
    refine Rng.ok (by simp only [inR]; omega) ?_
    refine Ob.mk (by simp) ?_
    refine Val.mk (1) (by simp) ?_
    refine Ob.mk (by simp) ?_
    refine Rng.ok (by simp only [inR]; omega) ?_
    refine Ob.mk (by simp) ?_
    refine Val.mk (2) (by simp) ?_
    refine Ob.mk (by simp) ?_
    conv => whnf
    first | refine CallVC.pure rfl (hf a b c ha hb hc) ?_ | refine CallVC0.pure rfl (hf a b c ha hb hc) ?_
    refine Rng.ok (by simp only [inR]; omega) ?_
    refine Rng.ok (by simp only [inR]; omega) ?_
    try refine JoinVC.on ?_
    refine Br.mk (fun h => ?_) (fun h => ?_)
    · refine Ob.mk (by simp) ?_
      refine Rng.ok (by simp only [inR]; omega) ?_
      refine Ob.mk (by simp) ?_
      refine Val.mk (2) (by simp) ?_
      refine Ob.mk (by simp) ?_
      refine Rng.ok (by simp only [inR]; omega) ?_
      refine Ob.mk (by simp) ?_
      refine Val.mk (0) (by simp) ?_
      refine Ob.mk (by simp) ?_
      conv => whnf
      first | refine CallVC.pure rfl (hf b c a hb hc ha) ?_ | refine CallVC0.pure rfl (hf b c a hb hc ha) ?_
      refine Rng.ok (by simp only [inR]; omega) ?_
      refine Rng.ok (by simp only [inR]; omega) ?_
      try refine JoinVC.on ?_
      refine Br.mk (fun h => ?_) (fun h => ?_)
      · refine Ob.mk (by simp) ?_
        refine Rng.ok (by simp only [inR]; omega) ?_
        refine Ob.mk (by simp) ?_
        refine Val.mk (0) (by simp) ?_
        refine Ob.mk (by simp) ?_
        refine Rng.ok (by simp only [inR]; omega) ?_
        refine Ob.mk (by simp) ?_
        refine Val.mk (1) (by simp) ?_
        refine Ob.mk (by simp) ?_
        conv => whnf
        first | refine CallVC.pure rfl (hf c a b hc ha hb) ?_ | refine CallVC0.pure rfl (hf c a b hc ha hb) ?_
        refine Rng.ok (by simp only [inR]; omega) ?_
        refine Rng.ok (by simp only [inR]; omega) ?_
        try refine JoinVC.on ?_
        refine Br.mk (fun h => ?_) (fun h => ?_)
        · exact absurd h (by omega)
        · refine EndVC.mk _ rfl _ _ ⟨rfl, rfl⟩ ⟨[], rfl, rfl, ⟨⟨rfl, ?_⟩, trivial⟩, trivial⟩
          simp [tsum]
      · exact absurd (by omega) h
    · exact absurd (by omega) h
  · exact absurd (by omega) h
theorem s68b (f : FuncId) (g : Spot → Spot → Spot → Int) (a b c : Spot) (hf : ∀ p q r : Spot, p.ok → q.ok → r.ok → PSpec Try.prog f [p.v, q.v, r.v, fbox 67] (.x (I (g p q r))))
    (hg : ∀ p q r : Spot, p.ok → q.ok → r.ok → (g p q r).natAbs ≤ 72057594037927936) (ha : a.ok) (hb : b.ok) (hc : c.ok) : HSpec Try.prog 68 [.one (.fn f [(0, 0)]), spots a b c] [.box 123 [.fn 67 []]] (fun r m' => r = .x (I (tsum g a b c 3)) ∧ m' = [some (.box 123 [.fn 67 []])]) := by
  have b1 := hg a b c ha hb hc
  have b2 := hg b c a hb hc ha
  have b3 := hg c a b hc ha hb
  refine spec_of pMix (O := [(5, ([], [⟨0, [], []⟩, ⟨1, [], []⟩, ⟨2, [], []⟩, ⟨3, [], []⟩, ⟨4, [], []⟩, ⟨5, [], []⟩, ⟨6, [], []⟩, ⟨7, [], []⟩, ⟨8, [], []⟩, ⟨9, [], []⟩, ⟨10, [], []⟩, ⟨11, [], []⟩, ⟨12, [], []⟩, ⟨13, [], []⟩, ⟨14, [], []⟩, ⟨15, [], []⟩, ⟨16, [], []⟩, ⟨17, [], []⟩, ⟨18, [], []⟩, ⟨19, [], []⟩, ⟨20, [], []⟩, ⟨21, [], []⟩, ⟨22, [0], []⟩, ⟨23, [], []⟩, ⟨24, [], []⟩]))]) Try.func68 (c := bodyOf Try.f68) rfl (by kernel_rfl) (by kernel_rfl) Try.ntmps68 (res := [.tmp 4]) (by kernel_rfl) ?_
  have e3 : (([a.row, b.row, c.row] : Arr).length : Int) = 3 := rfl
  refine LoopVC.un 4 ?_
  try refine JoinVC.on ?_
  refine Br.mk (fun h => ?_) (fun h => ?_)
  · refine Ob.mk (by simp) ?_
    refine Rng.ok (by simp only [inR]; omega) ?_
    refine Ob.mk (by simp) ?_
    refine Val.mk (1) (by simp) ?_
    refine Ob.mk (by simp) ?_
    refine Rng.ok (by simp only [inR]; omega) ?_
    refine Ob.mk (by simp) ?_
    refine Val.mk (2) (by simp) ?_
    refine Ob.mk (by simp) ?_
    conv => whnf
    first | refine CallVC.pure rfl (hf a b c ha hb hc) ?_ | refine CallVC0.pure rfl (hf a b c ha hb hc) ?_
    refine Rng.ok (by simp only [inR]; omega) ?_
    refine Rng.ok (by simp only [inR]; omega) ?_
    try refine JoinVC.on ?_
    refine Br.mk (fun h => ?_) (fun h => ?_)
    · refine Ob.mk (by simp) ?_
      refine Rng.ok (by simp only [inR]; omega) ?_
      refine Ob.mk (by simp) ?_
      refine Val.mk (2) (by simp) ?_
      refine Ob.mk (by simp) ?_
      refine Rng.ok (by simp only [inR]; omega) ?_
      refine Ob.mk (by simp) ?_
      refine Val.mk (0) (by simp) ?_
      refine Ob.mk (by simp) ?_
      conv => whnf
      first | refine CallVC.pure rfl (hf b c a hb hc ha) ?_ | refine CallVC0.pure rfl (hf b c a hb hc ha) ?_
      refine Rng.ok (by simp only [inR]; omega) ?_
      refine Rng.ok (by simp only [inR]; omega) ?_
      try refine JoinVC.on ?_
      refine Br.mk (fun h => ?_) (fun h => ?_)
      · refine Ob.mk (by simp) ?_
        refine Rng.ok (by simp only [inR]; omega) ?_
        refine Ob.mk (by simp) ?_
        refine Val.mk (0) (by simp) ?_
        refine Ob.mk (by simp) ?_
        refine Rng.ok (by simp only [inR]; omega) ?_
        refine Ob.mk (by simp) ?_
        refine Val.mk (1) (by simp) ?_
        refine Ob.mk (by simp) ?_
        conv => whnf
        first | refine CallVC.pure rfl (hf c a b hc ha hb) ?_ | refine CallVC0.pure rfl (hf c a b hc ha hb) ?_
        refine Rng.ok (by simp only [inR]; omega) ?_
        refine Rng.ok (by simp only [inR]; omega) ?_
        try refine JoinVC.on ?_
        refine Br.mk (fun h => ?_) (fun h => ?_)
        · exact absurd h (by omega)
        · refine EndVC.mk _ rfl _ _ ⟨rfl, rfl⟩ ?_
          refine ⟨[some 0], rfl, rfl, ?_, ?_⟩ <;> repeat' (first | exact trivial | exact rfl | exact Iff.rfl | apply And.intro)
          simp [tsum]
      · exact absurd (by omega) h
    · exact absurd (by omega) h
  · exact absurd (by omega) h
def cok (a b c : Spot) : Prop := a.ok ∧ b.ok ∧ c.ok
instance (a : Spot) : Decidable a.ok := by unfold Spot.ok; exact inferInstance
instance (a b c : Spot) : Decidable (cok a b c) := by unfold cok; exact inferInstance
def cD (a b c : Spot) : Int := 2 * tsum g2 a b c 3
def cX (a b c : Spot) : Int := tsum g3 a b c 3
def cY (a b c : Spot) : Int := tsum g4 a b c 3
/-- What Centre returns. -/
def ctrE (a b c : Spot) : Int := if cok a b c then (if cD a b c = 0 then 9 else 0) else 3
def ctrX (a b c : Spot) : Int := if cok a b c then (if cD a b c = 0 then 0 else if cD a b c < 0 then 0 - cX a b c else cX a b c) else 0
def ctrY (a b c : Spot) : Int := if cok a b c then (if cD a b c = 0 then 0 else if cD a b c < 0 then 0 - cY a b c else cY a b c) else 0
def ctrD (a b c : Spot) : Int := if cok a b c then (if cD a b c = 0 then 0 else if cD a b c < 0 then 0 - cD a b c else cD a b c) else 0
theorem tsum_bd {g : Spot → Spot → Spot → Int} (hg : ∀ p q r : Spot, p.ok → q.ok → r.ok → (g p q r).natAbs ≤ 72057594037927936) {a b c : Spot} (h : cok a b c) : (tsum g a b c 3).natAbs ≤ 216172782113783808 := by
  obtain ⟨ha, hb, hc⟩ := h
  have b1 := hg a b c ha hb hc
  have b2 := hg b c a hb hc ha
  have b3 := hg c a b hc ha hb
  simp only [tsum]; omega
theorem s31 (a b c : Spot) : PSpec Try.prog 31 [a.v, b.v, c.v] (.tup [I (ctrX a b c), I (ctrY a b c), I (ctrD a b c), I (ctrE a b c)]) := by
  have bad : ¬ cok a b c → (0 : Int) = ctrX a b c ∧ (0 : Int) = ctrY a b c ∧ (0 : Int) = ctrD a b c ∧ (3 : Int) = ctrE a b c := fun h => ⟨(if_neg h).symm, (if_neg h).symm, (if_neg h).symm, (if_neg h).symm⟩
  refine spec_of pMix (O := []) Try.func31 (c := bodyOf Try.f31) rfl (by kernel_rfl) (by kernel_rfl) Try.ntmps31 (res := [.tmp 6, .tmp 7, .tmp 8, .tmp 9]) (by kernel_rfl) ?_
  have e3 : (([a.row, b.row, c.row] : Arr).length : Int) = 3 := rfl
  refine LoopVC.un 4 ?_
  repeat' (conv => whnf
           first
           | refine Rng.ok (by simp only [inR]; omega) ?_
           | refine Ob.mk (by first | omega | (simp; done) | (simp; omega)) ?_
           | refine JoinVC.on ?_
           | refine Val.mk _ (Int.tmod_eq_emod_of_nonneg (by omega)) ?_
           | refine Val.mk _ (Int.tdiv_eq_ediv_of_nonneg (by omega)) ?_
           | refine CallVC.pure rfl (s56 _ _ _) ?_
           | refine CallVC0.pure rfl (s56 _ _ _) ?_
           | (refine Br.mk (fun h => ?_) (fun h => ?_) <;> first | (exfalso; omega; done) | (exfalso; simp at h; done) | skip))
  all_goals try
    refine EndVC.mk _ rfl _ _ ⟨rfl, rfl⟩ ?_
    refine ⟨[], rfl, rfl, ?_, ?_⟩ <;> repeat' (first | exact trivial | exact rfl | exact Iff.rfl | apply And.intro)
    all_goals
      have hb : ¬ cok a b c := by
        clear bad
        unfold cok Spot.ok
        simp [rI, cellAt, Cell.toInt] at *
        omega
      first | exact (bad hb).1 | exact (bad hb).2.1 | exact (bad hb).2.2.1 | exact (bad hb).2.2.2
  have hok : cok a b c := by
    clear bad
    unfold cok Spot.ok
    simp [rI, cellAt, Cell.toInt] at *
    omega
  obtain ⟨ha, hb, hc⟩ := hok
  have hok : cok a b c := ⟨ha, hb, hc⟩
  conv => whnf
  first | refine CallVC.pure rfl (s68a 69 g2 a b c s69 (fun _ _ _ => g2_bd) ha hb hc) ?_ | refine CallVC0.pure rfl (s68a 69 g2 a b c s69 (fun _ _ _ => g2_bd) ha hb hc) ?_
  have t2 := tsum_bd (g := g2) (fun _ _ _ => g2_bd) hok
  have t3 := tsum_bd (g := g3) (fun _ _ _ => g3_bd) hok
  have t4 := tsum_bd (g := g4) (fun _ _ _ => g4_bd) hok
  refine Rng.ok (by simp only [inR]; omega) ?_
  conv => whnf
  refine CallVC.mk [7] _ _ _ rfl rfl rfl (s68b 70 g3 a b c s70 (fun _ _ _ => g3_bd) ha hb hc) (fun r m' h => ?_)
  obtain ⟨rfl, rfl⟩ := h
  conv => whnf
  refine CallVC.mk [7] _ _ _ rfl rfl rfl (s68b 71 g4 a b c s71 (fun _ _ _ => g4_bd) ha hb hc) (fun r m' h => ?_)
  obtain ⟨rfl, rfl⟩ := h
  try refine JoinVC.on ?_
  refine Br.mk (fun d0 => ?_) (fun d0 => ?_)
  · have d0 : cD a b c = 0 := d0
    refine EndVC.mk _ rfl _ _ ⟨rfl, rfl⟩ ?_
    refine ⟨[], rfl, rfl, ?_, ?_⟩ <;> repeat' (first | exact trivial | exact rfl | exact Iff.rfl | apply And.intro)
    · simp [ctrX, hok, d0]
    · simp [ctrY, hok, d0]
    · simp [ctrD, hok, d0]
    · simp [ctrE, hok, d0]
  have d0 : ¬ cD a b c = 0 := d0
  try refine JoinVC.on ?_
  refine Br.mk (fun d1 => ?_) (fun d1 => ?_)
  · have d1 : cD a b c < 0 := d1
    refine Rng.ok (by simp only [inR]; omega) ?_
    refine Rng.ok (by simp only [inR]; omega) ?_
    refine Rng.ok (by simp only [inR]; omega) ?_
    refine EndVC.mk _ rfl _ _ ⟨rfl, rfl⟩ ?_
    refine ⟨[], rfl, rfl, ?_, ?_⟩ <;> repeat' (first | exact trivial | exact rfl | exact Iff.rfl | apply And.intro)
    · simp [ctrX, hok, d0, d1, cX]
    · simp [ctrY, hok, d0, d1, cY]
    · simp [ctrD, hok, d0, d1]; rfl
    · simp [ctrE, hok, d0]
  have d1 : ¬ cD a b c < 0 := d1
  refine EndVC.mk _ rfl _ _ ⟨rfl, rfl⟩ ?_
  refine ⟨[], rfl, rfl, ?_, ?_⟩ <;> repeat' (first | exact trivial | exact rfl | exact Iff.rfl | apply And.intro)
  · simp [ctrX, hok, d0, d1, cX]
  · simp [ctrY, hok, d0, d1, cY]
  · simp [ctrD, hok, d0, d1]; rfl
  · simp [ctrE, hok, d0]
end Go.Sx

namespace Go.Sx
open Go Go.Proofs
def i64s (xs : List Int) : Arr := xs.map fun x => [.int x]
theorem i64s_len (xs : List Int) : (i64s xs).length = xs.length := by simp [i64s]
theorem i64s_get (xs : List Int) (k : Nat) : rI (i64s xs) k 0 = xs.getD k 0 := by
  simp only [rI, cellAt, i64s, List.getD_eq_getElem?_getD, List.getElem?_map]
  cases xs[k]? <;> simp [Cell.toInt]
theorem i64s_snoc (xs : List Int) (x : Int) : i64s (xs ++ [x]) = i64s xs ++ [[.int x]] := by simp [i64s]
@[reducible] def lI (xs : List Int) : XV := .one (.lst true [.int .i64] (i64s xs))
set_option maxRecDepth 10000
theorem list_ext_getD {xs ys : List Int} (hl : xs.length = ys.length) (h : ∀ j, j < xs.length → xs.getD j 0 = ys.getD j 0) : xs = ys := by
  refine List.ext_getElem hl fun j h1 h2 => ?_
  have := h j h1
  simpa [List.getD_eq_getElem?_getD, h1, h2] using this
theorem s27 (xs ys : List Int) (hx : xs.length ≤ 1099511627776) : PSpec Try.prog 27 [lI xs, lI ys] (xP (xs = ys)) := by
  have lx := i64s_len xs
  have ly := i64s_len ys
  refine spec_of pMix (O := []) Try.func27 (c := bodyOf Try.f27) rfl (by kernel_rfl) (by kernel_rfl) Try.ntmps27 (res := [.tmp 4]) (by kernel_rfl) ?_
  try refine JoinVC.on ?_
  refine Br.mk (fun h => ?_) (fun h => ?_)
  · refine EndVC.mk _ rfl _ _ ⟨rfl, rfl⟩ ⟨[], rfl, rfl, ⟨?_, trivial⟩, trivial⟩
    intro e
    subst e
    exact h rfl
  have h : xs.length = ys.length := by omega
  refine LoopVC.mk (fun n s => ∃ k : Nat, n = xs.length - k ∧ k ≤ xs.length ∧ (∀ j, j < k → xs.getD j 0 = ys.getD j 0) ∧ s = ⟨0, envA 26 [(0, .x (lI xs)), (1, .x (lI ys)), (5, .int .i64 (k : Int))], []⟩) _ _ ⟨0, rfl, Nat.zero_le _, fun j hj => absurd hj (Nat.not_lt_zero j), rfl⟩ ?_ ?_
  · refine ⟨[], rfl, rfl, ?_, ?_⟩ <;> repeat' (first | exact trivial | exact rfl | exact Iff.rfl | apply And.intro)
  · rintro m _ ⟨k, hm, hk, hj, rfl⟩
    try refine JoinVC.on ?_
    refine Br.mk (fun h1 => ?_) (fun h1 => ?_)
    · refine Ob.mk (by omega) ?_
      refine Ob.mk (by omega) ?_
      try refine JoinVC.on ?_
      refine Br.mk (fun h2 => ?_) (fun h2 => ?_)
      · refine EndVC.mk _ rfl _ _ ⟨rfl, rfl⟩ ⟨[], rfl, rfl, ⟨?_, trivial⟩, trivial⟩
        intro e
        subst e
        exact h2 rfl
      refine Rng.ok (by simp only [inR]; omega) ?_
      refine Back.mk (xs.length - (k + 1)) _ (by omega) ⟨k + 1, rfl, by omega, fun j hjk => ?_, rfl⟩ ?_
      · rcases Nat.lt_or_ge j k with h3 | h3
        · exact hj j h3
        · have : j = k := by omega
          subst this
          have h2 := Decidable.not_not.1 h2
          rw [Int.toNat_natCast, i64s_get, i64s_get] at h2
          exact h2
      · refine ⟨[], rfl, rfl, ?_, ?_⟩ <;> repeat' (first | exact trivial | exact rfl | exact Iff.rfl | apply And.intro)
    · refine EndVC.mk _ rfl _ _ ⟨rfl, rfl⟩ ⟨[], rfl, rfl, ⟨?_, trivial⟩, trivial⟩
      exact list_ext_getD h fun j hjx => hj j (by omega)
theorem s55 : PSpec Try.prog 55 [] (.x (Mac.x ⟨20, 120, 50, 200, 30, 25, 5, 3, 2⟩)) := by
  refine spec_of pMix (O := []) Try.func55 (c := bodyOf Try.f55) rfl (by kernel_rfl) (by kernel_rfl) Try.ntmps55 (res := [.cell 0 23]) (by kernel_rfl) ?_
  refine EndVC.mk _ rfl _ _ ⟨rfl, rfl⟩ ?_
  refine ⟨[], rfl, rfl, ?_, ?_⟩ <;> repeat' (first | exact trivial | exact rfl | exact Iff.rfl | apply And.intro)
/-- Presses at a boiler whose numbers are right. -/
def Boil (p q s r : Int) : Prop := 1 ≤ p ∧ p ≤ 64 ∧ 1 ≤ q ∧ q ≤ 64 ∧ 1 ≤ s ∧ s ≤ 65536 ∧ 1 ≤ r ∧ r ≤ 65536
instance (p q s r : Int) : Decidable (Boil p q s r) := by unfold Boil; exact inferInstance
def boilE (p q s r n : Int) : Int := if Boil p q s r then (if 0 ≤ n ∧ n ≤ 1000 then 0 else 6) else 3
theorem s60 (p q s r n : Int) : PSpec Try.prog 60 [I p, I q, I s, I r, I n] (.x (I (boilE p q s r n))) := by
  refine spec_of pMix (O := []) Try.func60 (c := bodyOf Try.f60) rfl (by kernel_rfl) (by kernel_rfl) Try.ntmps60 (res := [.tmp 10]) (by kernel_rfl) ?_
  repeat' (conv => whnf
           first
           | refine Rng.ok (by simp only [inR]; omega) ?_
           | refine Ob.mk (by first | omega | (simp; done) | (simp; omega)) ?_
           | refine JoinVC.on ?_
           | refine Val.mk _ (Int.tmod_eq_emod_of_nonneg (by omega)) ?_
           | refine Val.mk _ (Int.tdiv_eq_ediv_of_nonneg (by omega)) ?_
           | refine CallVC.pure rfl (s56 _ _ _) ?_
           | refine CallVC0.pure rfl (s56 _ _ _) ?_
           | (refine Br.mk (fun h => ?_) (fun h => ?_) <;> first | (exfalso; omega; done) | (exfalso; simp at h; done) | skip))
  all_goals
    refine EndVC.mk _ rfl _ _ ⟨rfl, rfl⟩ ⟨[], rfl, rfl, ⟨⟨rfl, ?_⟩, trivial⟩, trivial⟩
    unfold boilE
    split <;> rename_i hB <;> unfold Boil at hB <;> (try split) <;> omega
end Go.Sx

namespace Go.Sx
open Go Go.Proofs
set_option maxRecDepth 10000
theorem e60 : EntersF Try.prog 60 := enters_of Try.func60 (c := bodyOf Try.f60) (by kernel_rfl) rfl
theorem e61 : EntersF Try.prog 61 := enters_of Try.func61 (c := bodyOf Try.f61) (by kernel_rfl) rfl
theorem e90 : EntersF Try.prog 90 := enters_of Try.func90 (c := bodyOf Try.f90) (by kernel_rfl) rfl
theorem e23 : EntersF Try.prog 23 := enters_of Try.func23 (c := bodyOf Try.f23) (by kernel_rfl) rfl
theorem e27 : EntersF Try.prog 27 := enters_of Try.func27 (c := bodyOf Try.f27) (by kernel_rfl) rfl
theorem e18 : EntersF Try.prog 18 := enters_of Try.func18 (c := bodyOf Try.f18) (by kernel_rfl) rfl
theorem e55 : EntersF Try.prog 55 := enters_of Try.func55 (c := bodyOf Try.f55) (by kernel_rfl) rfl
def mx (a b : Int) : Int := if a < b then b else a
/-- The start of the disc behind these. -/
def st0 (out : List Int) : Int := if 0 < (out.length : Int) then out.getD (out.length - 1) 0 else 0
def st1 (q s : Int) (out : List Int) (t : Int) : Int := if 0 ≤ (out.length : Int) - q then mx t (out.getD ((out.length : Int) - q).toNat 0 + s) else t
def stNext (p q s r : Int) (out : List Int) : Int := st1 p (s + r) out (st1 q s out (st0 out))
def stList (p q s r : Int) : Nat → List Int
  | 0 => []
  | n + 1 => stList p q s r n ++ [stNext p q s r (stList p q s r n)]
theorem stList_len (p q s r : Int) : ∀ n, (stList p q s r n).length = n
  | 0 => rfl
  | n + 1 => by simp [stList, stList_len p q s r n]
theorem getD_app (xs : List Int) (x : Int) (j : Nat) : (xs ++ [x]).getD j 0 = if j < xs.length then xs.getD j 0 else if j = xs.length then x else 0 := by
  simp only [List.getD_eq_getElem?_getD, List.getElem?_append]
  split
  · rfl
  · rename_i h
    split
    · rename_i h2; subst h2; simp
    · rename_i h2
      have : 1 ≤ j - xs.length := by omega
      rw [List.getElem?_eq_none (by simpa using this)]; rfl
theorem st_bd {p q s r : Int} (hb : Boil p q s r) : ∀ n j, 0 ≤ (stList p q s r n).getD j 0 ∧ (stList p q s r n).getD j 0 ≤ 131072 * n
  | 0, j => by simp [stList]
  | n + 1, j => by
    unfold Boil at hb
    have ih := st_bd (p := p) (q := q) (s := s) (r := r) (by unfold Boil; omega) n
    have hl := stList_len p q s r n
    rw [stList, getD_app]
    have h0 : 0 ≤ st0 (stList p q s r n) ∧ st0 (stList p q s r n) ≤ 131072 * n := by
      unfold st0; split
      · exact ih _
      · omega
    have h1 : 0 ≤ st1 q s (stList p q s r n) (st0 (stList p q s r n)) ∧ st1 q s (stList p q s r n) (st0 (stList p q s r n)) ≤ 131072 * n + 131072 := by
      unfold st1 mx
      have := ih (((stList p q s r n).length : Int) - q).toNat
      split
      · split <;> omega
      · omega
    have h2 : 0 ≤ stNext p q s r (stList p q s r n) ∧ stNext p q s r (stList p q s r n) ≤ 131072 * n + 131072 := by
      unfold stNext
      generalize st1 q s (stList p q s r n) (st0 (stList p q s r n)) = t at h1
      unfold st1 mx
      have := ih (((stList p q s r n).length : Int) - p).toNat
      split
      · split <;> omega
      · omega
    have h3 := ih j
    split
    · omega
    · split <;> omega
/-- The objects that 'ends' leaves. -/
theorem s61 (a : Arr) (i p q s r : Int) : HSpec Try.prog 61 [.one (.own 0), I i, I p, I q, I s, I r] [.row 2 false [.int .i64] a] (fun x m' => x = .x (.one (.fn 90 [(2, 0), (4, 0), (1, 0), (5, 0), (3, 0), (6, 0)])) ∧
    m' = [some (.row 2 false [.int .i64] a), some (.box 30 [.own 0]), some (.box 3 [.int .i64 i]), some (.box 3 [.int .i64 p]), some (.box 3 [.int .i64 q]), some (.box 2 [.int .i64 s]), some (.box 2 [.int .i64 r])]) := by
  refine spec_of pMix (O := []) Try.func61 (c := bodyOf Try.f61) rfl (by kernel_rfl) (by kernel_rfl) Try.ntmps61 (res := [.tmp 12]) (by kernel_rfl) ?_
  refine EndVC.mk _ rfl _ _ ⟨rfl, rfl⟩ ?_
  refine ⟨[some 0, some 1, some 2, some 3, some 4, some 5, some 6], rfl, rfl, ?_, ?_⟩ <;> repeat' (first | exact trivial | exact rfl | exact Iff.rfl | apply And.intro)
def stRes (p q s r n : Int) : List Int := if boilE p q s r n = 0 then stList p q s r n.toNat else []
theorem eb : Try.t2.bytes = 8 := by kernel_rfl
theorem s23 (p q s r n : Int) : PSpec Try.prog 23 [I p, I q, I s, I r, I n] (.tup [.one (.lst false [.int .i64] (i64s (stRes p q s r n))), I (boilE p q s r n)]) := by
  refine spec_of pMix (O := []) Try.func23 (c := bodyOf Try.f23) rfl (by kernel_rfl) (by kernel_rfl) Try.ntmps23 (res := [.tmp 10, .tmp 11]) (by kernel_rfl) ?_
  conv => whnf
  first | refine CallVC.pure rfl (s60 p q s r n) ?_ | refine CallVC0.pure rfl (s60 p q s r n) ?_
  try refine JoinVC.on ?_
  refine Br.mk (fun h0 => ?_) (fun h0 => ?_)
  · have e : stRes p q s r n = [] := if_neg h0
    rw [e]
    refine EndVC.mk _ rfl _ _ ⟨rfl, rfl⟩ ?_
    refine ⟨[], rfl, rfl, ?_, ?_⟩ <;> repeat' (first | exact trivial | exact rfl | exact Iff.rfl | apply And.intro)
  have h0 := Decidable.not_not.1 h0
  have hB : Boil p q s r := by
    apply Decidable.byContradiction
    intro h; rw [boilE, if_neg h] at h0; cases h0
  have hn : 0 ≤ n ∧ n ≤ 1000 := by
    apply Decidable.byContradiction
    intro h; rw [boilE, if_pos hB, if_neg h] at h0; cases h0
  refine LoopVC.mk (fun m st => ∃ k : Nat, (k : Int) ≤ n ∧ m = n.toNat - k ∧ st = ⟨0, envA 58 [(0, .x (I p)), (1, .x (I q)), (2, .x (I s)), (3, .x (I r)), (13, .x (.one (.own 0))), (27, .x (I n)), (28, .int .i64 (k : Int))], [some (.row 2 false [.int .i64] (i64s (stList p q s r k)))]⟩) n.toNat _ ⟨0, by omega, rfl, rfl⟩ ?_ ?_
  · refine ⟨[none], rfl, rfl, ?_, ?_⟩ <;> repeat' (first | exact trivial | exact rfl | exact Iff.rfl | apply And.intro)
  · rintro m _ ⟨k, hk, hm, rfl⟩
    try refine JoinVC.on ?_
    refine Br.mk (fun h => ?_) (fun h => ?_)
    · have hl : (i64s (stList p q s r k)).length = k := by rw [i64s_len, stList_len]
      have hbd : ∀ j, 0 ≤ rI (i64s (stList p q s r k)) j 0 ∧ rI (i64s (stList p q s r k)) j 0 ≤ 131072 * k := fun j => by rw [i64s_get]; exact st_bd hB k j
      unfold Boil at hB
      have b1 := hbd ((k : Int) - 1).toNat
      have b2 := hbd ((k : Int) - q).toNat
      have b3 := hbd ((k : Int) - p).toNat
      have e1 : ((k : Int) - 1).toNat = k - 1 := by omega
      try refine JoinVC.on ?_
      refine Br.mk (fun h1 => ?_) (fun h1 => ?_)
      · refine Rng.ok (by simp only [inR]; omega) ?_
        refine Ob.mk (by omega) ?_
        refine Ob.mk (by omega) ?_
        change CallVC _ _ _ _ _
        refine CallVC.mk [0] _ _ _ rfl rfl rfl (s61 _ _ _ _ _ _) (fun x m' hx => ?_)
        obtain ⟨rfl, rfl⟩ := hx
        change RangeVC _ _ _ _ _
        refine RangeVC.mk e90 (isem_of_awp pMix [] Try.func90 (c := bodyOf Try.f90) rfl (by kernel_rfl) Try.ntmps90 (by kernel_rfl) ?_)
        refine Rng.ok (by simp only [inR]; omega) ?_
        try refine JoinVC.on ?_
        refine Br.mk (fun h2 => ?_) (fun h2 => ?_)
        · refine Ob.mk (by omega) ?_
          refine Ob.mk (by omega) ?_
          change YieldVC _ _ _ _ _
          refine YieldVC.mk (rsem_of_awp pMix [] rfl (by kernel_rfl) ?_)
          refine Rng.ok (by simp only [inR]; omega) ?_
          refine Rng.ok (by simp only [inR]; omega) ?_
          try refine JoinVC.on ?_
          refine Br.mk (fun h3 => ?_) (fun h3 => ?_)
          · refine Ob.mk (by omega) ?_
            refine Ob.mk (by omega) ?_
            refine Rng.ok (by simp only [inR]; omega) ?_
            change YieldVC _ _ _ _ _
            refine YieldVC.mk (rsem_of_awp pMix [] rfl (by kernel_rfl) ?_)
            refine Rng.ok (by simp only [inR]; omega) ?_
            refine Ob.mk (by simp only [i64s_len, stList_len, List.length_cons, List.length_nil, eb]; omega) ?_
            refine Rng.ok (by simp only [inR]; omega) ?_
            refine Back.mk (n.toNat - (k + 1)) _ (by omega) ⟨k + 1, by omega, rfl, rfl⟩ ?_
            refine ⟨[some 10], rfl, rfl, ?_, ?_⟩ <;> repeat' (first | exact trivial | exact rfl | exact Iff.rfl | apply And.intro)
            rw [stList, i64s_snoc]
            congr 3
            simp only [stNext, st1, st0, mx, stList_len, if_pos h1, if_pos h2, if_pos h3, i64s_get, e1]
          · refine Ob.mk (by simp only [i64s_len, stList_len, List.length_cons, List.length_nil, eb]; omega) ?_
            refine Rng.ok (by simp only [inR]; omega) ?_
            refine Back.mk (n.toNat - (k + 1)) _ (by omega) ⟨k + 1, by omega, rfl, rfl⟩ ?_
            refine ⟨[some 10], rfl, rfl, ?_, ?_⟩ <;> repeat' (first | exact trivial | exact rfl | exact Iff.rfl | apply And.intro)
            rw [stList, i64s_snoc]
            congr 3
            simp only [stNext, st1, st0, mx, stList_len, if_pos h1, if_pos h2, if_neg h3, i64s_get, e1]
        · refine Rng.ok (by simp only [inR]; omega) ?_
          try refine JoinVC.on ?_
          refine Br.mk (fun h3 => ?_) (fun h3 => ?_)
          · refine Ob.mk (by omega) ?_
            refine Ob.mk (by omega) ?_
            refine Rng.ok (by simp only [inR]; omega) ?_
            change YieldVC _ _ _ _ _
            refine YieldVC.mk (rsem_of_awp pMix [] rfl (by kernel_rfl) ?_)
            refine Rng.ok (by simp only [inR]; omega) ?_
            refine Ob.mk (by simp only [i64s_len, stList_len, List.length_cons, List.length_nil, eb]; omega) ?_
            refine Rng.ok (by simp only [inR]; omega) ?_
            refine Back.mk (n.toNat - (k + 1)) _ (by omega) ⟨k + 1, by omega, rfl, rfl⟩ ?_
            refine ⟨[some 10], rfl, rfl, ?_, ?_⟩ <;> repeat' (first | exact trivial | exact rfl | exact Iff.rfl | apply And.intro)
            rw [stList, i64s_snoc]
            congr 3
            simp only [stNext, st1, st0, mx, stList_len, if_pos h1, if_neg h2, if_pos h3, i64s_get, e1]
          · refine Ob.mk (by simp only [i64s_len, stList_len, List.length_cons, List.length_nil, eb]; omega) ?_
            refine Rng.ok (by simp only [inR]; omega) ?_
            refine Back.mk (n.toNat - (k + 1)) _ (by omega) ⟨k + 1, by omega, rfl, rfl⟩ ?_
            refine ⟨[some 10], rfl, rfl, ?_, ?_⟩ <;> repeat' (first | exact trivial | exact rfl | exact Iff.rfl | apply And.intro)
            rw [stList, i64s_snoc]
            congr 3
            simp only [stNext, st1, st0, mx, stList_len, if_pos h1, if_neg h2, if_neg h3, i64s_get, e1]
      · change CallVC _ _ _ _ _
        refine CallVC.mk [0] _ _ _ rfl rfl rfl (s61 _ _ _ _ _ _) (fun x m' hx => ?_)
        obtain ⟨rfl, rfl⟩ := hx
        change RangeVC _ _ _ _ _
        refine RangeVC.mk e90 (isem_of_awp pMix [] Try.func90 (c := bodyOf Try.f90) rfl (by kernel_rfl) Try.ntmps90 (by kernel_rfl) ?_)
        refine Rng.ok (by simp only [inR]; omega) ?_
        try refine JoinVC.on ?_
        refine Br.mk (fun h2 => ?_) (fun h2 => ?_)
        · refine Ob.mk (by omega) ?_
          refine Ob.mk (by omega) ?_
          change YieldVC _ _ _ _ _
          refine YieldVC.mk (rsem_of_awp pMix [] rfl (by kernel_rfl) ?_)
          refine Rng.ok (by simp only [inR]; omega) ?_
          refine Rng.ok (by simp only [inR]; omega) ?_
          try refine JoinVC.on ?_
          refine Br.mk (fun h3 => ?_) (fun h3 => ?_)
          · refine Ob.mk (by omega) ?_
            refine Ob.mk (by omega) ?_
            refine Rng.ok (by simp only [inR]; omega) ?_
            change YieldVC _ _ _ _ _
            refine YieldVC.mk (rsem_of_awp pMix [] rfl (by kernel_rfl) ?_)
            refine Rng.ok (by simp only [inR]; omega) ?_
            refine Ob.mk (by simp only [i64s_len, stList_len, List.length_cons, List.length_nil, eb]; omega) ?_
            refine Rng.ok (by simp only [inR]; omega) ?_
            refine Back.mk (n.toNat - (k + 1)) _ (by omega) ⟨k + 1, by omega, rfl, rfl⟩ ?_
            refine ⟨[some 10], rfl, rfl, ?_, ?_⟩ <;> repeat' (first | exact trivial | exact rfl | exact Iff.rfl | apply And.intro)
            rw [stList, i64s_snoc]
            congr 3
            simp only [stNext, st1, st0, mx, stList_len, if_neg h1, if_pos h2, if_pos h3, i64s_get]
          · refine Ob.mk (by simp only [i64s_len, stList_len, List.length_cons, List.length_nil, eb]; omega) ?_
            refine Rng.ok (by simp only [inR]; omega) ?_
            refine Back.mk (n.toNat - (k + 1)) _ (by omega) ⟨k + 1, by omega, rfl, rfl⟩ ?_
            refine ⟨[some 10], rfl, rfl, ?_, ?_⟩ <;> repeat' (first | exact trivial | exact rfl | exact Iff.rfl | apply And.intro)
            rw [stList, i64s_snoc]
            congr 3
            simp only [stNext, st1, st0, mx, stList_len, if_neg h1, if_pos h2, if_neg h3, i64s_get]
        · refine Rng.ok (by simp only [inR]; omega) ?_
          try refine JoinVC.on ?_
          refine Br.mk (fun h3 => ?_) (fun h3 => ?_)
          · refine Ob.mk (by omega) ?_
            refine Ob.mk (by omega) ?_
            refine Rng.ok (by simp only [inR]; omega) ?_
            change YieldVC _ _ _ _ _
            refine YieldVC.mk (rsem_of_awp pMix [] rfl (by kernel_rfl) ?_)
            refine Rng.ok (by simp only [inR]; omega) ?_
            refine Ob.mk (by simp only [i64s_len, stList_len, List.length_cons, List.length_nil, eb]; omega) ?_
            refine Rng.ok (by simp only [inR]; omega) ?_
            refine Back.mk (n.toNat - (k + 1)) _ (by omega) ⟨k + 1, by omega, rfl, rfl⟩ ?_
            refine ⟨[some 10], rfl, rfl, ?_, ?_⟩ <;> repeat' (first | exact trivial | exact rfl | exact Iff.rfl | apply And.intro)
            rw [stList, i64s_snoc]
            congr 3
            simp only [stNext, st1, st0, mx, stList_len, if_neg h1, if_neg h2, if_pos h3, i64s_get]
          · refine Ob.mk (by simp only [i64s_len, stList_len, List.length_cons, List.length_nil, eb]; omega) ?_
            refine Rng.ok (by simp only [inR]; omega) ?_
            refine Back.mk (n.toNat - (k + 1)) _ (by omega) ⟨k + 1, by omega, rfl, rfl⟩ ?_
            refine ⟨[some 10], rfl, rfl, ?_, ?_⟩ <;> repeat' (first | exact trivial | exact rfl | exact Iff.rfl | apply And.intro)
            rw [stList, i64s_snoc]
            congr 3
            simp only [stNext, st1, st0, mx, stList_len, if_neg h1, if_neg h2, if_neg h3]
    · have e : (k : Int) = n := by omega
      have e2 : stRes p q s r n = stList p q s r k := by rw [stRes, if_pos h0]; congr 1; omega
      rw [h0, e2]
      refine EndVC.mk _ rfl _ _ ⟨rfl, rfl⟩ ?_
      refine ⟨[], rfl, rfl, ?_, ?_⟩ <;> repeat' (first | exact trivial | exact rfl | exact Iff.rfl | apply And.intro)
end Go.Sx

namespace Go.Sx
open Go Go.Proofs
set_option maxRecDepth 10000
theorem e22 : EntersF Try.prog 22 := enters_of Try.func22 (c := bodyOf Try.f22) (by kernel_rfl) rfl
theorem e19 : EntersF Try.prog 19 := enters_of Try.func19 (c := bodyOf Try.f19) (by kernel_rfl) rfl
theorem e3 : EntersF Try.prog 3 := enters_of Try.func3 (c := bodyOf Try.f3) (by kernel_rfl) rfl
def exMac : Mac := ⟨20, 120, 50, 200, 30, 25, 5, 3, 2⟩
theorem exMac_chk : exMac.chk = 0 := Mac.chk0 (by simp [Mac.ok, exMac])
theorem s22 : PSpec Try.prog 22 [] (xP True) := by
  refine spec_of pMix (O := []) Try.func22 (c := bodyOf Try.f22) rfl (by kernel_rfl) (by kernel_rfl) Try.ntmps22 (res := [.tmp 0]) (by kernel_rfl) ?_
  conv => whnf
  first | refine CallVC.pure rfl (s55) ?_ | refine CallVC0.pure rfl (s55) ?_
  conv => whnf
  first | refine CallVC.pure rfl (s18 exMac 190 1) ?_ | refine CallVC0.pure rfl (s18 exMac 190 1) ?_
  conv => whnf
  first | refine CallVC.pure rfl (s23 2 1 3 4 4) ?_ | refine CallVC0.pure rfl (s23 2 1 3 4 4) ?_
  conv => whnf
  first | refine CallVC.pure rfl (s31 ⟨3, 0⟩ ⟨0, 1⟩ ⟨0, -1⟩) ?_ | refine CallVC0.pure rfl (s31 ⟨3, 0⟩ ⟨0, 1⟩ ⟨0, -1⟩) ?_
  have v1 : exMac.tickV 190 1 = 200 := by
    rw [Mac.tickV, if_pos exMac_chk]; decide
  have v2 : exMac.tickE 190 1 = 0 := by
    rw [Mac.tickE, if_pos exMac_chk]; decide
  have v3 : boilE 2 1 3 4 4 = 0 := by decide
  have v4 : stRes 2 1 3 4 4 = [0, 3, 7, 10] := by decide
  have v5 : ctrE ⟨3, 0⟩ ⟨0, 1⟩ ⟨0, -1⟩ = 0 := by decide
  have v6 : ctrX ⟨3, 0⟩ ⟨0, 1⟩ ⟨0, -1⟩ = 16 := by decide
  have v7 : ctrY ⟨3, 0⟩ ⟨0, 1⟩ ⟨0, -1⟩ = 0 := by decide
  have v8 : ctrD ⟨3, 0⟩ ⟨0, 1⟩ ⟨0, -1⟩ = 12 := by decide
  refine Rng.ok (by simp only [inR]; omega) ?_
  refine Rng.ok (by simp only [inR]; omega) ?_
  try refine JoinVC.on ?_
  refine Br.mk (fun h1 => ?_) (fun h1 => ?_)
  · try refine JoinVC.on ?_
    refine Br.mk (fun h2 => ?_) (fun h2 => ?_)
    · conv => whnf
      first | refine CallVC.pure rfl (s27 _ [0, 3, 7, 10] (by rw [v4]; decide)) ?_ | refine CallVC0.pure rfl (s27 _ [0, 3, 7, 10] (by rw [v4]; decide)) ?_
      try refine JoinVC.on ?_
      refine Br.mk (fun h3 => ?_) (fun h3 => ?_)
      · try refine JoinVC.on ?_
        refine Br.mk (fun h4 => ?_) (fun h4 => ?_)
        · try refine JoinVC.on ?_
          refine Br.mk (fun h5 => ?_) (fun h5 => ?_)
          · refine EndVC.mk _ rfl _ _ ⟨rfl, rfl⟩ ?_
            refine ⟨[], rfl, rfl, ?_, ?_⟩ <;> repeat' (first | exact trivial | exact rfl | exact Iff.rfl | apply And.intro)
            exact iff_true_intro v8
          · exact absurd v7 h5
        · exact absurd v6 h4
      · exact absurd v4 h3
    · exact absurd v1 h2
  · exact absurd (by omega) h1
theorem s3 (m : Mac) (t v : Int) : PSpec Try.prog 3 [m.x, I t, I v] (xP True) := by
  refine spec_of pMix (O := [(3, ([], [⟨0, [], []⟩, ⟨2, [], []⟩, ⟨1, [2], []⟩, ⟨3, [], []⟩, ⟨4, [], []⟩, ⟨5, [], []⟩, ⟨6, [], []⟩, ⟨7, [], []⟩, ⟨8, [], []⟩, ⟨9, [], []⟩, ⟨10, [], []⟩, ⟨11, [], []⟩, ⟨12, [], []⟩, ⟨13, [], []⟩, ⟨14, [], []⟩, ⟨15, [], []⟩, ⟨16, [], []⟩, ⟨17, [], []⟩, ⟨18, [], []⟩]))]) Try.func3 (c := bodyOf Try.f3) rfl (by kernel_rfl) (by kernel_rfl) Try.ntmps3 (res := [.tmp 6]) (by kernel_rfl) ?_
  conv => whnf
  first | refine CallVC.pure rfl (s18 m t v) ?_ | refine CallVC0.pure rfl (s18 m t v) ?_
  conv => whnf
  first | refine CallVC.pure rfl (s19 m t v) ?_ | refine CallVC0.pure rfl (s19 m t v) ?_
  conv => whnf
  first | refine CallVC.pure rfl (s20 m) ?_ | refine CallVC0.pure rfl (s20 m) ?_
  conv => whnf
  first | refine CallVC.pure rfl (s21 m) ?_ | refine CallVC0.pure rfl (s21 m) ?_
  try refine JoinVC.on ?_
  refine Br.mk (fun h1 => ?_) (fun h1 => ?_)
  · try refine JoinVC.on ?_
    refine Br.mk (fun h2 => ?_) (fun h2 => ?_)
    · try refine JoinVC.on ?_
      refine Br.mk (fun h3 => ?_) (fun h3 => ?_)
      · conv => whnf
        first | refine CallVC.pure rfl (s22) ?_ | refine CallVC0.pure rfl (s22) ?_
        refine EndVC.mk _ rfl _ _ ⟨rfl, rfl⟩ ?_
        refine ⟨[], rfl, rfl, ?_, ?_⟩ <;> repeat' (first | exact trivial | exact rfl | exact Iff.rfl | apply And.intro)
      · exact absurd rfl h3
    · exact absurd rfl h2
  · exact absurd rfl h1
end Go.Sx

namespace Go.Sx
open Go Go.Proofs
set_option maxRecDepth 10000
theorem e62 : EntersF Try.prog 62 := enters_of Try.func62 (c := bodyOf Try.f62) (by kernel_rfl) rfl
theorem e63 : EntersF Try.prog 63 := enters_of Try.func63 (c := bodyOf Try.f63) (by kernel_rfl) rfl
theorem e24 : EntersF Try.prog 24 := enters_of Try.func24 (c := bodyOf Try.f24) (by kernel_rfl) rfl
theorem e25 : EntersF Try.prog 25 := enters_of Try.func25 (c := bodyOf Try.f25) (by kernel_rfl) rfl
theorem e26 : EntersF Try.prog 26 := enters_of Try.func26 (c := bodyOf Try.f26) (by kernel_rfl) rfl
theorem e4 : EntersF Try.prog 4 := enters_of Try.func4 (c := bodyOf Try.f4) (by kernel_rfl) rfl
theorem s62 (p q s r n : Int) : PSpec Try.prog 62 [I p, I q, I s, I r, I n] (.x (I (boilE p q s r n))) := by
  have bad : ¬ Boil p q s r → (3 : Int) = boilE p q s r n := fun h => (if_neg h).symm
  refine spec_of pMix (O := []) Try.func62 (c := bodyOf Try.f62) rfl (by kernel_rfl) (by kernel_rfl) Try.ntmps62 (res := [.tmp 10]) (by kernel_rfl) ?_
  try refine JoinVC.on ?_
  refine Br.mk (fun h1 => ?_) (fun h1 => ?_)
  · refine EndVC.mk _ rfl _ _ ⟨rfl, rfl⟩ ⟨[], rfl, rfl, ⟨⟨rfl, ?_⟩, trivial⟩, trivial⟩
    exact bad (by unfold Boil; omega)
  try refine JoinVC.on ?_
  refine Br.mk (fun h2 => ?_) (fun h2 => ?_)
  · refine EndVC.mk _ rfl _ _ ⟨rfl, rfl⟩ ⟨[], rfl, rfl, ⟨⟨rfl, ?_⟩, trivial⟩, trivial⟩
    exact bad (by unfold Boil; omega)
  try refine JoinVC.on ?_
  refine Br.mk (fun h3 => ?_) (fun h3 => ?_)
  · refine EndVC.mk _ rfl _ _ ⟨rfl, rfl⟩ ⟨[], rfl, rfl, ⟨⟨rfl, ?_⟩, trivial⟩, trivial⟩
    exact bad (by unfold Boil; omega)
  try refine JoinVC.on ?_
  refine Br.mk (fun h4 => ?_) (fun h4 => ?_)
  · refine EndVC.mk _ rfl _ _ ⟨rfl, rfl⟩ ⟨[], rfl, rfl, ⟨⟨rfl, ?_⟩, trivial⟩, trivial⟩
    exact bad (by unfold Boil; omega)
  conv => whnf
  first | refine CallVC.pure rfl (s58 _ _ _) ?_ | refine CallVC0.pure rfl (s58 _ _ _) ?_
  try refine JoinVC.on ?_
  refine Br.mk (fun h5 => ?_) (fun h5 => ?_)
  · refine EndVC.mk _ rfl _ _ ⟨rfl, rfl⟩ ⟨[], rfl, rfl, ⟨⟨rfl, ?_⟩, trivial⟩, trivial⟩
    exact bad (by unfold Boil; omega)
  conv => whnf
  first | refine CallVC.pure rfl (s58 _ _ _) ?_ | refine CallVC0.pure rfl (s58 _ _ _) ?_
  try refine JoinVC.on ?_
  refine Br.mk (fun h6 => ?_) (fun h6 => ?_)
  · refine EndVC.mk _ rfl _ _ ⟨rfl, rfl⟩ ⟨[], rfl, rfl, ⟨⟨rfl, ?_⟩, trivial⟩, trivial⟩
    exact bad (by unfold Boil; omega)
  have hb : Boil p q s r := by unfold Boil; omega
  try refine JoinVC.on ?_
  refine Br.mk (fun h7 => ?_) (fun h7 => ?_)
  · refine EndVC.mk _ rfl _ _ ⟨rfl, rfl⟩ ⟨[], rfl, rfl, ⟨⟨rfl, ?_⟩, trivial⟩, trivial⟩
    rw [boilE, if_pos hb, if_neg (by omega)]
  try refine JoinVC.on ?_
  refine Br.mk (fun h8 => ?_) (fun h8 => ?_)
  · refine EndVC.mk _ rfl _ _ ⟨rfl, rfl⟩ ⟨[], rfl, rfl, ⟨⟨rfl, ?_⟩, trivial⟩, trivial⟩
    rw [boilE, if_pos hb, if_neg (by omega)]
  · refine EndVC.mk _ rfl _ _ ⟨rfl, rfl⟩ ⟨[], rfl, rfl, ⟨⟨rfl, ?_⟩, trivial⟩, trivial⟩
    rw [boilE, if_pos hb, if_pos (by omega)]
/-- How many of the first k starts are less than 'long' before t. -/
def busyK (xs : List Int) (t long : Int) : Nat → Nat
  | 0 => 0
  | k + 1 => if t - xs.getD k 0 < long then busyK xs t long k + 1 else busyK xs t long k
theorem busyK_le (xs : List Int) (t long : Int) : ∀ k, busyK xs t long k ≤ k
  | 0 => Nat.le_refl _
  | k + 1 => by
    have := busyK_le xs t long k
    unfold busyK
    split <;> omega
theorem s63 (xs : List Int) (t long : Int) (hx : xs.length ≤ 1099511627776) (ht : 0 ≤ t) (hs : ∀ j, 0 ≤ xs.getD j 0) (ht2 : t ≤ 9223372036854775807) (hs2 : ∀ j, xs.getD j 0 ≤ 9223372036854775807) : PSpec Try.prog 63 [lI xs, I t, I long] (.x (I (busyK xs t long xs.length))) := by
  have lx := i64s_len xs
  refine spec_of pMix (O := []) Try.func63 (c := bodyOf Try.f63) rfl (by kernel_rfl) (by kernel_rfl) Try.ntmps63 (res := [.tmp 6]) (by kernel_rfl) ?_
  refine LoopVC.mk (fun n st => ∃ k : Nat, n = xs.length - k ∧ k ≤ xs.length ∧ st = ⟨0, envA 26 [(0, .x (lI xs)), (1, .x (I t)), (2, .x (I long)), (7, .int .i64 (busyK xs t long k : Int)), (8, .int .i64 (k : Int))], []⟩) _ _ ⟨0, rfl, Nat.zero_le _, rfl⟩ ?_ ?_
  · refine ⟨[], rfl, rfl, ?_, ?_⟩ <;> repeat' (first | exact trivial | exact rfl | exact Iff.rfl | apply And.intro)
  · rintro m _ ⟨k, hm, hk, rfl⟩
    try refine JoinVC.on ?_
    refine Br.mk (fun h1 => ?_) (fun h1 => ?_)
    · refine Ob.mk (by omega) ?_
      have g := i64s_get xs (k : Int).toNat
      rw [Int.toNat_natCast] at g
      have b1 := hs k
      have b2 := hs2 k
      have b3 := busyK_le xs t long k
      refine Rng.ok (by simp only [inR]; (rw [Int.toNat_natCast]; omega)) ?_
      try refine JoinVC.on ?_
      refine Br.mk (fun h2 => ?_) (fun h2 => ?_)
      · rw [Int.toNat_natCast, g] at h2
        refine Rng.ok (by simp only [inR]; omega) ?_
        refine Rng.ok (by simp only [inR]; omega) ?_
        refine Back.mk (xs.length - (k + 1)) _ (by omega) ⟨k + 1, rfl, by omega, rfl⟩ ?_
        refine ⟨[], rfl, rfl, ?_, ?_⟩ <;> repeat' (first | exact trivial | exact rfl | exact Iff.rfl | apply And.intro)
        rw [busyK, if_pos h2]; rfl
      · rw [Int.toNat_natCast, g] at h2
        refine Rng.ok (by simp only [inR]; omega) ?_
        refine Back.mk (xs.length - (k + 1)) _ (by omega) ⟨k + 1, rfl, by omega, rfl⟩ ?_
        refine ⟨[], rfl, rfl, ?_, ?_⟩ <;> repeat' (first | exact trivial | exact rfl | exact Iff.rfl | apply And.intro)
        rw [busyK, if_neg h2]
    · have e : k = xs.length := by omega
      subst e
      refine EndVC.mk _ rfl _ _ ⟨rfl, rfl⟩ ⟨[], rfl, rfl, ⟨⟨rfl, ?_⟩, trivial⟩, trivial⟩
      rfl
end Go.Sx

namespace Go.Sx
open Go Go.Proofs
set_option maxRecDepth 10000
/-- Sorted from the first on. -/
def Srt (xs : List Int) (k : Nat) : Prop := ∀ i j, i ≤ j → j < k → xs.getD i 0 ≤ xs.getD j 0
theorem busyK_cut {xs : List Int} {t long : Int} : ∀ k, Srt xs k → ∃ m, m ≤ k ∧ (∀ j, j < k → (t - xs.getD j 0 < long ↔ m ≤ j)) ∧ busyK xs t long k = k - m
  | 0, _ => ⟨0, Nat.le_refl _, fun j h => absurd h (Nat.not_lt_zero j), rfl⟩
  | k + 1, hs => by
    obtain ⟨m, h1, h2, h3⟩ := busyK_cut (t := t) (long := long) k (fun i j hij hj => hs i j hij (by omega))
    by_cases hp : t - xs.getD k 0 < long
    · refine ⟨m, by omega, fun j hj => ?_, by rw [busyK, if_pos hp, h3]; omega⟩
      rcases Nat.lt_or_ge j k with h | h
      · exact h2 j h
      · have : j = k := by omega
        subst this
        exact ⟨fun _ => h1, fun _ => hp⟩
    · have hm : m = k := by
        rcases Nat.lt_or_ge m k with h | h
        · have := (h2 m h).2 (Nat.le_refl _)
          have := hs m k (by omega) (by omega)
          omega
        · omega
      refine ⟨k + 1, Nat.le_refl _, fun j hj => ⟨fun h => ?_, fun h => by omega⟩, by rw [busyK, if_neg hp, h3, hm]; omega⟩
      have := hs j k (by omega) (by omega)
      omega
theorem busyK_lt {xs : List Int} {t long : Int} {k c : Nat} (hs : Srt xs k) (hc : 1 ≤ c) : busyK xs t long k < c ↔ (k < c ∨ xs.getD (k - c) 0 + long ≤ t) := by
  obtain ⟨m, h1, h2, h3⟩ := busyK_cut (t := t) (long := long) k hs
  rw [h3]
  by_cases hk : k < c
  · exact ⟨fun _ => .inl hk, fun _ => by omega⟩
  · have := h2 (k - c) (by omega)
    constructor
    · intro h; right
      have : ¬ m ≤ k - c := by omega
      omega
    · intro h
      rcases h with h | h
      · omega
      · have : ¬ m ≤ k - c := by omega
        omega
theorem st0_le {p q s r : Int} (out : List Int) : st0 out ≤ stNext p q s r out := by
  unfold stNext st1 mx
  split <;> split <;> (try split) <;> (try split) <;> omega
theorem stList_srt {p q s r : Int} (hB : Boil p q s r) : ∀ k, Srt (stList p q s r k) k ∧ ∀ j, (stList p q s r k).getD j 0 ≤ st0 (stList p q s r k)
  | 0 => ⟨fun i j _ h => absurd h (Nat.not_lt_zero j), fun j => by simp [stList, st0]⟩
  | k + 1 => by
    obtain ⟨h1, h2⟩ := stList_srt hB k
    have hl := stList_len p q s r k
    have h3 := st0_le (p := p) (q := q) (s := s) (r := r) (stList p q s r k)
    have h0 := (st_bd hB (k + 1) k).1
    rw [stList, getD_app, hl, if_neg (Nat.lt_irrefl k), if_pos rfl] at h0
    have e0 : st0 (stList p q s r (k + 1)) = stNext p q s r (stList p q s r k) := by
      unfold st0
      rw [stList_len, if_pos (by omega), stList, getD_app, hl, if_neg (by omega), if_pos (by omega)]
    refine ⟨fun i j hij hj => ?_, fun j => ?_⟩
    · rw [stList, getD_app, getD_app, hl]
      rcases Nat.lt_or_ge j k with h | h
      · rw [if_pos h, if_pos (by omega)]; exact h1 i j hij h
      · have : j = k := by omega
        subst this
        rw [if_neg (Nat.lt_irrefl j), if_pos rfl]
        rcases Nat.lt_or_ge i j with h4 | h4
        · rw [if_pos h4]; exact Int.le_trans (h2 i) h3
        · rw [if_neg (by omega), if_pos (by omega)]; exact Int.le_refl _
    · rw [e0, stList, getD_app]
      split
      · exact Int.le_trans (h2 j) h3
      · split
        · exact Int.le_refl _
        · exact h0
/-- Is a disc possible at t? -/
theorem feasible {p q s r : Int} (hB : Boil p q s r) (k : Nat) {t : Int} (ht : st0 (stList p q s r k) ≤ t) :
    (((busyK (stList p q s r k) t s k : Nat) : Int) < q ∧ ((busyK (stList p q s r k) t (s + r) k : Nat) : Int) < p) ↔ stNext p q s r (stList p q s r k) ≤ t := by
  obtain ⟨h1, h2⟩ := stList_srt hB k
  have hl := stList_len p q s r k
  unfold Boil at hB
  have b1 := busyK_lt (t := t) (long := s) (c := q.toNat) h1 (by omega)
  have b2 := busyK_lt (t := t) (long := s + r) (c := p.toNat) h1 (by omega)
  have e1 : ((k : Int) - q).toNat = k - q.toNat := by omega
  have e2 : ((k : Int) - p).toNat = k - p.toNat := by omega
  unfold stNext st1 mx
  rw [hl, e1, e2]
  generalize busyK (stList p q s r k) t s k = x at b1
  generalize busyK (stList p q s r k) t (s + r) k = y at b2
  generalize (stList p q s r k).getD (k - q.toNat) 0 = u at b1
  generalize (stList p q s r k).getD (k - p.toNat) 0 = v at b2
  split <;> split <;> (try split) <;> (try split) <;> omega
end Go.Sx

namespace Go.Sx
open Go Go.Proofs
set_option maxRecDepth 10000
def mn (a b : Int) : Int := if b < a then b else a
def nx1 (t x a : Int) : Int := if t < x then mn a x else a
/-- The next time at which something ends. -/
def nxK (s r : Int) (out : List Int) (t : Int) : Nat → Int
  | 0 => t + s + r
  | i + 1 => nx1 t (out.getD i 0 + s + r) (nx1 t (out.getD i 0 + s) (nxK s r out t i))
theorem nx1_gt {t x a : Int} (h : t < a) : t < nx1 t x a := by unfold nx1 mn; split <;> (try split) <;> omega
theorem nx1_le (t x a : Int) : nx1 t x a ≤ a ∧ (t < x → nx1 t x a ≤ x) := by
  unfold nx1 mn
  constructor
  · split <;> (try split) <;> omega
  · intro h; rw [if_pos h]; split <;> omega
theorem nxK_gt {s r t : Int} (out : List Int) (h : 1 ≤ s) (h' : 1 ≤ r) : ∀ i, t < nxK s r out t i
  | 0 => by unfold nxK; omega
  | i + 1 => nx1_gt (nx1_gt (nxK_gt out h h' i))
theorem nxK_le {s r t : Int} (out : List Int) : ∀ i, nxK s r out t i ≤ t + s + r ∧ ∀ j, j < i → (t < out.getD j 0 + s → nxK s r out t i ≤ out.getD j 0 + s) ∧ (t < out.getD j 0 + s + r → nxK s r out t i ≤ out.getD j 0 + s + r)
  | 0 => ⟨Int.le_refl _, fun j h => absurd h (Nat.not_lt_zero j)⟩
  | i + 1 => by
    obtain ⟨h1, h2⟩ := nxK_le (s := s) (r := r) (t := t) out i
    have a1 := nx1_le t (out.getD i 0 + s) (nxK s r out t i)
    have a2 := nx1_le t (out.getD i 0 + s + r) (nx1 t (out.getD i 0 + s) (nxK s r out t i))
    have hs : nxK s r out t (i + 1) ≤ nxK s r out t i := Int.le_trans a2.1 a1.1
    refine ⟨by omega, fun j hj => ?_⟩
    rcases Nat.lt_or_ge j i with h | h
    · have := h2 j h
      exact ⟨fun h => Int.le_trans hs (this.1 h), fun h => Int.le_trans hs (this.2 h)⟩
    · have : j = i := by omega
      subst this
      exact ⟨fun h => Int.le_trans a2.1 (a1.2 h), fun h => a2.2 h⟩
theorem st1_or (q s : Int) (out : List Int) (t : Int) : st1 q s out t = t ∨ (0 ≤ (out.length : Int) - q ∧ st1 q s out t = out.getD ((out.length : Int) - q).toNat 0 + s) := by
  unfold st1 mx
  split
  · split
    · exact .inr ⟨by assumption, rfl⟩
    · exact .inl rfl
  · exact .inl rfl
theorem nxK_next {p q s r : Int} (hB : Boil p q s r) (k : Nat) {t : Int} (ht : st0 (stList p q s r k) ≤ t) (hlt : t < stNext p q s r (stList p q s r k)) : nxK s r (stList p q s r k) t k ≤ stNext p q s r (stList p q s r k) := by
  obtain ⟨_, h2⟩ := nxK_le (s := s) (r := r) (t := t) (stList p q s r k) k
  have hl := stList_len p q s r k
  unfold Boil at hB
  unfold stNext at hlt ⊢
  have o1 := st1_or q s (stList p q s r k) (st0 (stList p q s r k))
  generalize st1 q s (stList p q s r k) (st0 (stList p q s r k)) = t1 at o1 hlt ⊢
  have o2 := st1_or p (s + r) (stList p q s r k) t1
  generalize st1 p (s + r) (stList p q s r k) t1 = T at o2 hlt ⊢
  rw [hl] at o1 o2
  rcases o2 with o2 | ⟨o2, o3⟩
  · rcases o1 with o1 | ⟨o1, o4⟩
    · omega
    · have k1 := (h2 ((k : Int) - q).toNat (by omega)).1
      omega
  · have k2 := (h2 ((k : Int) - p).toNat (by omega)).2
    omega
end Go.Sx

namespace Go.Sx
open Go Go.Proofs
set_option maxRecDepth 10000
set_option maxHeartbeats 1000000
theorem s24 (p q s r n : Int) : PSpec Try.prog 24 [I p, I q, I s, I r, I n] (.tup [.one (.lst false [.int .i64] (i64s (stRes p q s r n))), I (boilE p q s r n)]) := by
  refine spec_of pMix (O := []) Try.func24 (c := bodyOf Try.f24) rfl (by kernel_rfl) (by kernel_rfl) Try.ntmps24 (res := [.tmp 10, .tmp 11]) (by kernel_rfl) ?_
  conv => whnf
  first | refine CallVC.pure rfl (s62 p q s r n) ?_ | refine CallVC0.pure rfl (s62 p q s r n) ?_
  try refine JoinVC.on ?_
  refine Br.mk (fun h0 => ?_) (fun h0 => ?_)
  · have e : stRes p q s r n = [] := if_neg h0
    rw [e]
    refine EndVC.mk _ rfl _ _ ⟨rfl, rfl⟩ ?_
    refine ⟨[], rfl, rfl, ?_, ?_⟩ <;> repeat' (first | exact trivial | exact rfl | exact Iff.rfl | apply And.intro)
  have h0 := Decidable.not_not.1 h0
  have hB : Boil p q s r := by
    apply Decidable.byContradiction
    intro h; rw [boilE, if_neg h] at h0; cases h0
  have hn : 0 ≤ n ∧ n ≤ 1000 := by
    apply Decidable.byContradiction
    intro h; rw [boilE, if_pos hB, if_neg h] at h0; cases h0
  have hB' := hB
  unfold Boil at hB
  refine LoopVC.mk (fun m st => ∃ (k : Nat) (t : Int), (k : Int) ≤ n ∧ st0 (stList p q s r k) ≤ t ∧ t ≤ stNext p q s r (stList p q s r k) ∧ m = (n.toNat - k) * 1099511627776 + (549755813888 - t.toNat) ∧ st = ⟨0, envA 99 [(0, .x (I p)), (1, .x (I q)), (2, .x (I s)), (3, .x (I r)), (4, .x (I n)), (13, .x (.one (.own 0))), (14, .x (I t))], [some (.row 2 false [.int .i64] (i64s (stList p q s r k)))]⟩) _ _ ⟨0, 0, by omega, by simp [stList, st0], st0_le [], rfl, rfl⟩ ?_ ?_
  · refine ⟨[none], rfl, rfl, ?_, ?_⟩ <;> repeat' (first | exact trivial | exact rfl | exact Iff.rfl | apply And.intro)
  · rintro m _ ⟨k, t, hk, ht1, ht2, hm, rfl⟩
    have hl : (i64s (stList p q s r k)).length = k := by rw [i64s_len, stList_len]
    have hl2 := stList_len p q s r k
    have hbd := st_bd hB' k
    have hnb := st_bd hB' (k + 1) k
    rw [stList, getD_app, hl2, if_neg (Nat.lt_irrefl k), if_pos rfl] at hnb
    have h00 : 0 ≤ st0 (stList p q s r k) := by
      unfold st0; split
      · exact (hbd _).1
      · omega
    have hf := feasible hB' k ht1
    try refine JoinVC.on ?_
    refine Br.mk (fun h => ?_) (fun h => ?_)
    · conv => whnf
      first | refine CallVC.pure rfl (s63 (stList p q s r k) t s (by omega) (by omega) (fun j => (hbd j).1) (by omega) (fun j => by have := (hbd j).2; omega)) ?_ | refine CallVC0.pure rfl (s63 (stList p q s r k) t s (by omega) (by omega) (fun j => (hbd j).1) (by omega) (fun j => by have := (hbd j).2; omega)) ?_
      rw [hl2]
      try refine JoinVC.on ?_
      refine Br.mk (fun h1 => ?_) (fun h1 => ?_)
      · refine Rng.ok (by simp only [inR]; omega) ?_
        conv => whnf
        first | refine CallVC.pure rfl (s63 (stList p q s r k) t (s + r) (by omega) (by omega) (fun j => (hbd j).1) (by omega) (fun j => by have := (hbd j).2; omega)) ?_ | refine CallVC0.pure rfl (s63 (stList p q s r k) t (s + r) (by omega) (by omega) (fun j => (hbd j).1) (by omega) (fun j => by have := (hbd j).2; omega)) ?_
        rw [hl2]
        try refine JoinVC.on ?_
        refine Br.mk (fun h2 => ?_) (fun h2 => ?_)
        · have ht3 := hf.1 ⟨h1, h2⟩
          have e : t = stNext p q s r (stList p q s r k) := by omega
          have e0 : st0 (stList p q s r (k + 1)) = t := by
            unfold st0
            rw [stList_len, if_pos (by omega), stList, getD_app, hl2, if_neg (by omega), if_pos (by omega), e]
          refine Ob.mk (by simp only [i64s_len, stList_len, List.length_cons, List.length_nil, eb]; omega) ?_
          refine Back.mk ((n.toNat - (k + 1)) * 1099511627776 + (549755813888 - t.toNat)) _ (by omega) ⟨k + 1, t, by omega, by omega, by rw [← e0]; exact st0_le _, rfl, rfl⟩ ?_
          refine ⟨[some 2], rfl, rfl, ?_, ?_⟩ <;> repeat' (first | exact trivial | exact rfl | exact Iff.rfl | apply And.intro)
          rw [stList, i64s_snoc, ← e]
        · have hlt0 : ¬ stNext p q s r (stList p q s r k) ≤ t := fun h => h2 (hf.2 h).2
          refine Rng.ok (by simp only [inR]; omega) ?_
          refine Rng.ok (by simp only [inR]; omega) ?_
          refine LoopVC.mk (fun m st => ∃ i : Nat, i ≤ k ∧ m = k - i ∧ st = ⟨0, envA 99 [(0, .x (I p)), (1, .x (I q)), (2, .x (I s)), (3, .x (I r)), (4, .x (I n)), (13, .x (.one (.own 0))), (14, .x (I t)), (15, .x (I (nxK s r (stList p q s r k) t i))), (16, .int .i64 (i : Int))], [some (.row 2 false [.int .i64] (i64s (stList p q s r k)))]⟩) k _ ⟨0, Nat.zero_le _, rfl, rfl⟩ ?_ ?_
          · refine ⟨[some 0], rfl, rfl, ?_, ?_⟩ <;> repeat' (first | exact trivial | exact rfl | exact Iff.rfl | apply And.intro)
          · rintro m1 _ ⟨i, hi, hm1, rfl⟩
            have gi : rI (i64s (stList p q s r k)) i 0 = (stList p q s r k).getD i 0 := i64s_get _ _
            have bi := st_bd hB' k i
            try refine JoinVC.on ?_
            refine Br.mk (fun g1 => ?_) (fun g1 => ?_)
            · refine Ob.mk (by omega) ?_
              refine Ob.mk (by omega) ?_
              refine Rng.ok (by simp only [inR]; (rw [Int.toNat_natCast, gi]; omega)) ?_
              try refine JoinVC.on ?_
              refine Br.mk (fun g2 => ?_) (fun g2 => ?_)
              · refine Ob.mk (by omega) ?_
                refine Ob.mk (by omega) ?_
                refine Rng.ok (by simp only [inR]; (rw [Int.toNat_natCast, gi]; omega)) ?_
                refine Ob.mk (by omega) ?_
                refine Ob.mk (by omega) ?_
                refine Rng.ok (by simp only [inR]; (rw [Int.toNat_natCast, gi]; omega)) ?_
                refine Rng.ok (by simp only [inR]; (rw [Int.toNat_natCast, gi]; omega)) ?_
                try refine JoinVC.on ?_
                refine Br.mk (fun g3 => ?_) (fun g3 => ?_)
                · refine Ob.mk (by omega) ?_
                  refine Ob.mk (by omega) ?_
                  refine Rng.ok (by simp only [inR]; (rw [Int.toNat_natCast, gi]; omega)) ?_
                  refine Rng.ok (by simp only [inR]; (rw [Int.toNat_natCast, gi]; omega)) ?_
                  refine Rng.ok (by simp only [inR]; omega) ?_
                  refine Back.mk (k - (i + 1)) _ (by omega) ⟨i + 1, by omega, rfl, rfl⟩ ?_
                  refine ⟨[some 0], rfl, rfl, ?_, ?_⟩ <;> repeat' (first | exact trivial | exact rfl | exact Iff.rfl | apply And.intro)
                  rw [Int.toNat_natCast, gi] at g2 g3
                  rw [Int.toNat_natCast, gi, nxK, nx1, if_pos g3, nx1, if_pos g2]
                  rfl
                · refine Rng.ok (by simp only [inR]; omega) ?_
                  refine Back.mk (k - (i + 1)) _ (by omega) ⟨i + 1, by omega, rfl, rfl⟩ ?_
                  refine ⟨[some 0], rfl, rfl, ?_, ?_⟩ <;> repeat' (first | exact trivial | exact rfl | exact Iff.rfl | apply And.intro)
                  rw [Int.toNat_natCast, gi] at g2 g3
                  rw [nxK, nx1, if_neg g3, nx1, if_pos g2]
                  rw [Int.toNat_natCast, gi]; rfl
              · refine Ob.mk (by omega) ?_
                refine Ob.mk (by omega) ?_
                refine Rng.ok (by simp only [inR]; (rw [Int.toNat_natCast, gi]; omega)) ?_
                refine Rng.ok (by simp only [inR]; (rw [Int.toNat_natCast, gi]; omega)) ?_
                try refine JoinVC.on ?_
                refine Br.mk (fun g3 => ?_) (fun g3 => ?_)
                · refine Ob.mk (by omega) ?_
                  refine Ob.mk (by omega) ?_
                  refine Rng.ok (by simp only [inR]; (rw [Int.toNat_natCast, gi]; omega)) ?_
                  refine Rng.ok (by simp only [inR]; (rw [Int.toNat_natCast, gi]; omega)) ?_
                  refine Rng.ok (by simp only [inR]; omega) ?_
                  refine Back.mk (k - (i + 1)) _ (by omega) ⟨i + 1, by omega, rfl, rfl⟩ ?_
                  refine ⟨[some 0], rfl, rfl, ?_, ?_⟩ <;> repeat' (first | exact trivial | exact rfl | exact Iff.rfl | apply And.intro)
                  rw [Int.toNat_natCast, gi] at g2 g3
                  rw [Int.toNat_natCast, gi, nxK, nx1, if_pos g3, nx1, if_neg g2]
                  rfl
                · refine Rng.ok (by simp only [inR]; omega) ?_
                  refine Back.mk (k - (i + 1)) _ (by omega) ⟨i + 1, by omega, rfl, rfl⟩ ?_
                  refine ⟨[some 0], rfl, rfl, ?_, ?_⟩ <;> repeat' (first | exact trivial | exact rfl | exact Iff.rfl | apply And.intro)
                  rw [Int.toNat_natCast, gi] at g2 g3
                  rw [nxK, nx1, if_neg g3, nx1, if_neg g2]

            · have e : i = k := by omega
              subst e
              have hlt : t < stNext p q s r (stList p q s r i) := by omega
              have c1 := nxK_gt (t := t) (stList p q s r i) (show 1 ≤ s by omega) (show 1 ≤ r by omega) i
              have c2 := nxK_next hB' i ht1 hlt
              refine Back.mk ((n.toNat - i) * 1099511627776 + (549755813888 - (nxK s r (stList p q s r i) t i).toNat)) _ (by omega) ⟨i, _, hk, by omega, c2, rfl, rfl⟩ ?_
              refine ⟨[some 0], rfl, rfl, ?_, ?_⟩ <;> repeat' (first | exact trivial | exact rfl | exact Iff.rfl | apply And.intro)
      · have hlt0 : ¬ stNext p q s r (stList p q s r k) ≤ t := fun h => h1 (hf.2 h).1
        refine Rng.ok (by simp only [inR]; omega) ?_
        refine Rng.ok (by simp only [inR]; omega) ?_
        refine LoopVC.mk (fun m st => ∃ i : Nat, i ≤ k ∧ m = k - i ∧ st = ⟨0, envA 99 [(0, .x (I p)), (1, .x (I q)), (2, .x (I s)), (3, .x (I r)), (4, .x (I n)), (13, .x (.one (.own 0))), (14, .x (I t)), (15, .x (I (nxK s r (stList p q s r k) t i))), (16, .int .i64 (i : Int))], [some (.row 2 false [.int .i64] (i64s (stList p q s r k)))]⟩) k _ ⟨0, Nat.zero_le _, rfl, rfl⟩ ?_ ?_
        · refine ⟨[some 0], rfl, rfl, ?_, ?_⟩ <;> repeat' (first | exact trivial | exact rfl | exact Iff.rfl | apply And.intro)
        · rintro m1 _ ⟨i, hi, hm1, rfl⟩
          have gi : rI (i64s (stList p q s r k)) i 0 = (stList p q s r k).getD i 0 := i64s_get _ _
          have bi := st_bd hB' k i
          try refine JoinVC.on ?_
          refine Br.mk (fun g1 => ?_) (fun g1 => ?_)
          · refine Ob.mk (by omega) ?_
            refine Ob.mk (by omega) ?_
            refine Rng.ok (by simp only [inR]; (rw [Int.toNat_natCast, gi]; omega)) ?_
            try refine JoinVC.on ?_
            refine Br.mk (fun g2 => ?_) (fun g2 => ?_)
            · refine Ob.mk (by omega) ?_
              refine Ob.mk (by omega) ?_
              refine Rng.ok (by simp only [inR]; (rw [Int.toNat_natCast, gi]; omega)) ?_
              refine Ob.mk (by omega) ?_
              refine Ob.mk (by omega) ?_
              refine Rng.ok (by simp only [inR]; (rw [Int.toNat_natCast, gi]; omega)) ?_
              refine Rng.ok (by simp only [inR]; (rw [Int.toNat_natCast, gi]; omega)) ?_
              try refine JoinVC.on ?_
              refine Br.mk (fun g3 => ?_) (fun g3 => ?_)
              · refine Ob.mk (by omega) ?_
                refine Ob.mk (by omega) ?_
                refine Rng.ok (by simp only [inR]; (rw [Int.toNat_natCast, gi]; omega)) ?_
                refine Rng.ok (by simp only [inR]; (rw [Int.toNat_natCast, gi]; omega)) ?_
                refine Rng.ok (by simp only [inR]; omega) ?_
                refine Back.mk (k - (i + 1)) _ (by omega) ⟨i + 1, by omega, rfl, rfl⟩ ?_
                refine ⟨[some 0], rfl, rfl, ?_, ?_⟩ <;> repeat' (first | exact trivial | exact rfl | exact Iff.rfl | apply And.intro)
                rw [Int.toNat_natCast, gi] at g2 g3
                rw [Int.toNat_natCast, gi, nxK, nx1, if_pos g3, nx1, if_pos g2]
                rfl
              · refine Rng.ok (by simp only [inR]; omega) ?_
                refine Back.mk (k - (i + 1)) _ (by omega) ⟨i + 1, by omega, rfl, rfl⟩ ?_
                refine ⟨[some 0], rfl, rfl, ?_, ?_⟩ <;> repeat' (first | exact trivial | exact rfl | exact Iff.rfl | apply And.intro)
                rw [Int.toNat_natCast, gi] at g2 g3
                rw [nxK, nx1, if_neg g3, nx1, if_pos g2]
                rw [Int.toNat_natCast, gi]; rfl
            · refine Ob.mk (by omega) ?_
              refine Ob.mk (by omega) ?_
              refine Rng.ok (by simp only [inR]; (rw [Int.toNat_natCast, gi]; omega)) ?_
              refine Rng.ok (by simp only [inR]; (rw [Int.toNat_natCast, gi]; omega)) ?_
              try refine JoinVC.on ?_
              refine Br.mk (fun g3 => ?_) (fun g3 => ?_)
              · refine Ob.mk (by omega) ?_
                refine Ob.mk (by omega) ?_
                refine Rng.ok (by simp only [inR]; (rw [Int.toNat_natCast, gi]; omega)) ?_
                refine Rng.ok (by simp only [inR]; (rw [Int.toNat_natCast, gi]; omega)) ?_
                refine Rng.ok (by simp only [inR]; omega) ?_
                refine Back.mk (k - (i + 1)) _ (by omega) ⟨i + 1, by omega, rfl, rfl⟩ ?_
                refine ⟨[some 0], rfl, rfl, ?_, ?_⟩ <;> repeat' (first | exact trivial | exact rfl | exact Iff.rfl | apply And.intro)
                rw [Int.toNat_natCast, gi] at g2 g3
                rw [Int.toNat_natCast, gi, nxK, nx1, if_pos g3, nx1, if_neg g2]
                rfl
              · refine Rng.ok (by simp only [inR]; omega) ?_
                refine Back.mk (k - (i + 1)) _ (by omega) ⟨i + 1, by omega, rfl, rfl⟩ ?_
                refine ⟨[some 0], rfl, rfl, ?_, ?_⟩ <;> repeat' (first | exact trivial | exact rfl | exact Iff.rfl | apply And.intro)
                rw [Int.toNat_natCast, gi] at g2 g3
                rw [nxK, nx1, if_neg g3, nx1, if_neg g2]

          · have e : i = k := by omega
            subst e
            have hlt : t < stNext p q s r (stList p q s r i) := by omega
            have c1 := nxK_gt (t := t) (stList p q s r i) (show 1 ≤ s by omega) (show 1 ≤ r by omega) i
            have c2 := nxK_next hB' i ht1 hlt
            refine Back.mk ((n.toNat - i) * 1099511627776 + (549755813888 - (nxK s r (stList p q s r i) t i).toNat)) _ (by omega) ⟨i, _, hk, by omega, c2, rfl, rfl⟩ ?_
            refine ⟨[some 0], rfl, rfl, ?_, ?_⟩ <;> repeat' (first | exact trivial | exact rfl | exact Iff.rfl | apply And.intro)
    · have e : (k : Int) = n := by omega
      have e2 : stRes p q s r n = stList p q s r k := by rw [stRes, if_pos h0]; congr 1; omega
      rw [h0, e2]
      refine EndVC.mk _ rfl _ _ ⟨rfl, rfl⟩ ?_
      refine ⟨[], rfl, rfl, ?_, ?_⟩ <;> repeat' (first | exact trivial | exact rfl | exact Iff.rfl | apply And.intro)
end Go.Sx

namespace Go.Sx
open Go Go.Proofs
set_option maxRecDepth 10000
/-- The first of the numbers from i on, f of them, with P; none: the number behind them. -/
def firstN (P : Nat → Prop) [DecidablePred P] : Nat → Nat → Nat
  | 0, i => i
  | f + 1, i => if P i then i else firstN P f (i + 1)
theorem firstN_at {P : Nat → Prop} [DecidablePred P] : ∀ (f i k : Nat), (∀ j, i ≤ j → j < k → ¬ P j) → i ≤ k → (k < i + f → P k) → k ≤ i + f → firstN P f i = k
  | 0, i, k, _, h2, _, h4 => by unfold firstN; omega
  | f + 1, i, k, h1, h2, h3, h4 => by
    unfold firstN
    by_cases hk : i = k
    · subst hk
      rw [if_pos (h3 (by omega))]
    · rw [if_neg (h1 i (Nat.le_refl _) (by omega))]
      exact firstN_at f (i + 1) k (fun j hj => h1 j (by omega)) (by omega) (fun h => h3 (by omega)) (by omega)
def Bad1 (xs : List Int) (i : Nat) : Prop := xs.getD i 0 < (if i = 0 then 0 else xs.getD (i - 1) 0)
def Bad2 (p q s r : Int) (xs : List Int) (i : Nat) : Prop := (q ≤ i ∧ xs.getD i 0 - xs.getD ((i : Int) - q).toNat 0 < s) ∨ (p ≤ i ∧ xs.getD i 0 - xs.getD ((i : Int) - p).toNat 0 < s + r)
instance (xs : List Int) : DecidablePred (Bad1 xs) := fun i => by unfold Bad1; exact inferInstance
instance (p q s r : Int) (xs : List Int) : DecidablePred (Bad2 p q s r xs) := fun i => by unfold Bad2; exact inferInstance
def ck1 (xs : List Int) : Nat := firstN (Bad1 xs) xs.length 0
def ck2 (p q s r : Int) (xs : List Int) : Nat := firstN (Bad2 p q s r xs) xs.length 0
/-- What CheckStarts returns. -/
def ckI (p q s r : Int) (xs : List Int) : Int := if boilE p q s r xs.length = 0 then (if ck1 xs < xs.length then ck1 xs else ck2 p q s r xs) else 0
def ckE (p q s r : Int) (xs : List Int) : Int := if boilE p q s r xs.length = 0 then (if ck1 xs < xs.length then 3 else if ck2 p q s r xs < xs.length then 20 else 0) else boilE p q s r xs.length
theorem s63' {a : Arr} {xs : List Int} (ha : a = i64s xs) (t long : Int) (hx : xs.length ≤ 1099511627776) (ht : 0 ≤ t) (hs : ∀ j, 0 ≤ xs.getD j 0) (ht2 : t ≤ 9223372036854775807) (hs2 : ∀ j, xs.getD j 0 ≤ 9223372036854775807) : PSpec Try.prog 63 [.one (.lst true [.int .i64] a), I t, I long] (.x (I (busyK xs t long xs.length))) := by
  subst ha; exact s63 xs t long hx ht hs ht2 hs2
theorem s61b (a : Arr) (i p q s r : Int) : HSpec Try.prog 61 [.one (.lst true [.int .i64] a), I i, I p, I q, I s, I r] [] (fun x m' => x = .x (.one (.fn 90 [(1, 0), (3, 0), (0, 0), (4, 0), (2, 0), (5, 0)])) ∧
    m' = [some (.box 30 [.lst true [.int .i64] a]), some (.box 3 [.int .i64 i]), some (.box 3 [.int .i64 p]), some (.box 3 [.int .i64 q]), some (.box 2 [.int .i64 s]), some (.box 2 [.int .i64 r])]) := by
  refine spec_of pMix (O := []) Try.func61 (c := bodyOf Try.f61) rfl (by kernel_rfl) (by kernel_rfl) Try.ntmps61 (res := [.tmp 12]) (by kernel_rfl) ?_
  refine EndVC.mk _ rfl _ _ ⟨rfl, rfl⟩ ?_
  refine ⟨[some 0, some 1, some 2, some 3, some 4, some 5], rfl, rfl, ?_, ?_⟩ <;> repeat' (first | exact trivial | exact rfl | exact Iff.rfl | apply And.intro)
end Go.Sx

namespace Go.Sx
open Go Go.Proofs
set_option maxRecDepth 10000
theorem ck1_at {xs : List Int} {k : Nat} (h : ∀ j, j < k → ¬ Bad1 xs j) (hk : k < xs.length) (hb : Bad1 xs k) : ck1 xs = k := firstN_at _ _ _ (fun j _ hj => h j hj) (Nat.zero_le _) (fun _ => hb) (by omega)
theorem ck1_no {xs : List Int} (h : ∀ j, j < xs.length → ¬ Bad1 xs j) : ck1 xs = xs.length := firstN_at _ _ _ (fun j _ hj => h j hj) (Nat.zero_le _) (fun h => by omega) (by omega)
theorem ck2_at {p q s r : Int} {xs : List Int} {k : Nat} (h : ∀ j, j < k → ¬ Bad2 p q s r xs j) (hk : k < xs.length) (hb : Bad2 p q s r xs k) : ck2 p q s r xs = k := firstN_at _ _ _ (fun j _ hj => h j hj) (Nat.zero_le _) (fun _ => hb) (by omega)
theorem ck2_no {p q s r : Int} {xs : List Int} (h : ∀ j, j < xs.length → ¬ Bad2 p q s r xs j) : ck2 p q s r xs = xs.length := firstN_at _ _ _ (fun j _ hj => h j hj) (Nat.zero_le _) (fun h => by omega) (by omega)
/-- Sorted, and none below 0. -/
theorem srt_of {xs : List Int} (h : ∀ j, j < xs.length → ¬ Bad1 xs j) : Srt xs xs.length ∧ ∀ j, 0 ≤ xs.getD j 0 := by
  have h0 : ∀ j, 0 ≤ xs.getD j 0 := by
    intro j
    induction j with
    | zero =>
      rcases Nat.lt_or_ge 0 xs.length with hl | hl
      · have := h 0 hl
        unfold Bad1 at this
        simpa using this
      · rw [List.getD_eq_getElem?_getD, List.getElem?_eq_none hl]; simp
    | succ j ih =>
      rcases Nat.lt_or_ge (j + 1) xs.length with hl | hl
      · have := h (j + 1) hl
        unfold Bad1 at this
        rw [if_neg (by omega), Nat.add_sub_cancel] at this
        omega
      · rw [List.getD_eq_getElem?_getD, List.getElem?_eq_none hl]; simp
  refine ⟨fun i j hij => ?_, h0⟩
  induction j with
  | zero => intro hj; have : i = 0 := by omega
            subst this; exact Int.le_refl _
  | succ j ih =>
    intro hj
    rcases Nat.lt_or_ge i (j + 1) with h1 | h1
    · have h2 := ih (by omega) (by omega)
      have := h (j + 1) hj
      unfold Bad1 at this
      rw [if_neg (by omega), Nat.add_sub_cancel] at this
      omega
    · have : i = j + 1 := by omega
      subst this; exact Int.le_refl _
theorem take_getD {xs : List Int} {k j : Nat} (h : j < k) : (xs.take k).getD j 0 = xs.getD j 0 := by
  simp [List.getD_eq_getElem?_getD, h]
theorem busy_bad {xs : List Int} (hs : Srt xs xs.length) {k : Nat} (hk : k < xs.length) {c long : Int} (hc : 1 ≤ c) :
    (c < (busyK (xs.take (k + 1)) (xs.getD k 0) long (xs.take (k + 1)).length : Int)) ↔ (c ≤ k ∧ xs.getD k 0 - xs.getD ((k : Int) - c).toNat 0 < long) := by
  have hl : (xs.take (k + 1)).length = k + 1 := by simp; omega
  have hs' : Srt (xs.take (k + 1)) (k + 1) := fun i j hij hj => by
    rw [take_getD (by omega), take_getD hj]
    exact hs i j hij (by omega)
  have b := busyK_lt (t := xs.getD k 0) (long := long) (c := c.toNat + 1) hs' (by omega)
  rw [hl]
  by_cases h : c ≤ k
  · have e : k + 1 - (c.toNat + 1) = ((k : Int) - c).toNat := by omega
    rw [e, take_getD (by omega)] at b
    omega
  · omega
end Go.Sx

namespace Go.Sx
open Go Go.Proofs
set_option maxRecDepth 10000
set_option maxHeartbeats 1000000
theorem ck_bad0 {p q s r : Int} {xs : List Int} (h : ¬ boilE p q s r xs.length = 0) : (0 : Int) = ckI p q s r xs ∧ boilE p q s r xs.length = ckE p q s r xs := ⟨(if_neg h).symm, (if_neg h).symm⟩
theorem ck_bad1 {p q s r : Int} {xs : List Int} {k : Nat} (h0 : boilE p q s r xs.length = 0) (h : ∀ j, j < k → ¬ Bad1 xs j) (hk : k < xs.length) (hb : Bad1 xs k) : (k : Int) = ckI p q s r xs ∧ (3 : Int) = ckE p q s r xs := by
  have e := ck1_at h hk hb
  exact ⟨by rw [ckI, if_pos h0, e, if_pos hk], by rw [ckE, if_pos h0, e, if_pos hk]⟩
theorem ck_bad2 {p q s r : Int} {xs : List Int} {k : Nat} (h0 : boilE p q s r xs.length = 0) (h1 : ∀ j, j < xs.length → ¬ Bad1 xs j) (h : ∀ j, j < k → ¬ Bad2 p q s r xs j) (hk : k < xs.length) (hb : Bad2 p q s r xs k) : (k : Int) = ckI p q s r xs ∧ (20 : Int) = ckE p q s r xs := by
  have e := ck1_no h1
  have e2 := ck2_at h hk hb
  exact ⟨by rw [ckI, if_pos h0, e, if_neg (Nat.lt_irrefl _), e2], by rw [ckE, if_pos h0, e, if_neg (Nat.lt_irrefl _), e2, if_pos hk]⟩
theorem ck_good {p q s r : Int} {xs : List Int} (h0 : boilE p q s r xs.length = 0) (h1 : ∀ j, j < xs.length → ¬ Bad1 xs j) (h : ∀ j, j < xs.length → ¬ Bad2 p q s r xs j) : (xs.length : Int) = ckI p q s r xs ∧ (0 : Int) = ckE p q s r xs := by
  have e := ck1_no h1
  have e2 := ck2_no h
  exact ⟨by rw [ckI, if_pos h0, e, if_neg (Nat.lt_irrefl _), e2], by rw [ckE, if_pos h0, e, if_neg (Nat.lt_irrefl _), e2, if_neg (Nat.lt_irrefl _)]⟩
theorem boil_of {p q s r n : Int} (h0 : boilE p q s r n = 0) : Boil p q s r ∧ 0 ≤ n ∧ n ≤ 1000 := by
  have hB : Boil p q s r := by
    apply Decidable.byContradiction
    intro h; rw [boilE, if_neg h] at h0; cases h0
  refine ⟨hB, ?_⟩
  apply Decidable.byContradiction
  intro h; rw [boilE, if_pos hB, if_neg h] at h0; cases h0
theorem nb_nonneg {xs : List Int} : ∀ (k : Nat), (∀ j, j < k → ¬ Bad1 xs j) → ∀ j, j < k → 0 ≤ xs.getD j 0
  | 0, _, j, hj => absurd hj (Nat.not_lt_zero j)
  | k + 1, h, j, hj => by
    have ih := nb_nonneg k (fun j hj => h j (by omega))
    rcases Nat.lt_or_ge j k with h1 | h1
    · exact ih j h1
    · have e : j = k := by omega
      subst e
      have := h j (by omega)
      unfold Bad1 at this
      split at this
      · omega
      · have := ih (j - 1) (by omega); omega
theorem s26 (p q s r : Int) (xs : List Int) (hr : ∀ j, -9223372036854775808 ≤ xs.getD j 0 ∧ xs.getD j 0 ≤ 9223372036854775807) : PSpec Try.prog 26 [I p, I q, I s, I r, lI xs] (.tup [I (ckI p q s r xs), I (ckE p q s r xs)]) := by
  have lx := i64s_len xs
  refine spec_of pMix (O := [(12, ([], [⟨0, [], []⟩, ⟨1, [], []⟩, ⟨2, [], []⟩, ⟨3, [], []⟩, ⟨4, [], []⟩, ⟨5, [], []⟩, ⟨6, [], []⟩, ⟨7, [], []⟩, ⟨8, [], []⟩, ⟨10, [], []⟩, ⟨9, [10], []⟩, ⟨11, [], []⟩, ⟨12, [], []⟩, ⟨13, [], []⟩, ⟨14, [], []⟩, ⟨15, [], []⟩, ⟨16, [], []⟩, ⟨17, [], []⟩, ⟨18, [], []⟩, ⟨19, [], []⟩, ⟨20, [], []⟩, ⟨21, [], []⟩, ⟨22, [], []⟩, ⟨23, [], []⟩, ⟨25, [], []⟩, ⟨24, [25], []⟩, ⟨26, [], []⟩, ⟨27, [], []⟩]))]) Try.func26 (c := bodyOf Try.f26) rfl (by kernel_rfl) (by kernel_rfl) Try.ntmps26 (res := [.tmp 10, .tmp 11]) (by kernel_rfl) ?_
  conv => whnf
  first | refine CallVC.pure rfl (s62 p q s r _) ?_ | refine CallVC0.pure rfl (s62 p q s r _) ?_
  rw [i64s_len]
  try refine JoinVC.on ?_
  refine Br.mk (fun h0 => ?_) (fun h0 => ?_)
  · refine EndVC.mk _ rfl _ _ ⟨rfl, rfl⟩ ⟨[], rfl, rfl, ⟨⟨⟨rfl, ?_⟩, ⟨rfl, ?_⟩, trivial⟩, trivial⟩, trivial⟩
    · exact (ck_bad0 h0).1
    · exact (ck_bad0 h0).2
  have h0 := Decidable.not_not.1 h0
  obtain ⟨hB, hn⟩ := boil_of h0
  conv => whnf
  refine LoopVC.mk (fun m st => ∃ k : Nat, k ≤ xs.length ∧ m = xs.length - k ∧ (∀ j, j < k → ¬ Bad1 xs j) ∧ st = ⟨0, envA 90 [(0, .x (I p)), (1, .x (I q)), (2, .x (I s)), (3, .x (I r)), (4, .x (lI xs)), (13, .int .i64 (k : Int))], []⟩) _ _ ⟨0, Nat.zero_le _, rfl, fun j h => absurd h (Nat.not_lt_zero j), rfl⟩ ?_ ?_
  · refine ⟨[], rfl, rfl, ?_, ?_⟩ <;> repeat' (first | exact trivial | exact rfl | exact Iff.rfl | apply And.intro)
  · rintro m _ ⟨k, hk, hm, hj, rfl⟩
    have gk : rI (i64s xs) (k : Int).toNat 0 = xs.getD k 0 := by rw [Int.toNat_natCast, i64s_get]
    have gk1 : rI (i64s xs) ((k : Int) - 1).toNat 0 = xs.getD (k - 1) 0 := by rw [i64s_get]; congr 1; omega
    have hnn := nb_nonneg k hj
    have hn1 : 0 < k → 0 ≤ xs.getD (k - 1) 0 := fun h => hnn (k - 1) (by omega)
    try refine JoinVC.on ?_
    refine Br.mk (fun h1 => ?_) (fun h1 => ?_)
    · repeat' (conv => whnf
               first
               | refine Rng.ok (by simp only [inR]; omega) ?_
               | refine Ob.mk (by first | omega | (simp; done) | (simp; omega)) ?_
               | refine JoinVC.on ?_
               | refine Val.mk _ (Int.tmod_eq_emod_of_nonneg (by omega)) ?_
               | refine Val.mk _ (Int.tdiv_eq_ediv_of_nonneg (by omega)) ?_
               | (refine Br.mk (fun h => ?_) (fun h => ?_) <;> first | (exfalso; omega; done) | (exfalso; simp at h; done) | skip))
      all_goals try
        refine EndVC.mk _ rfl _ _ ⟨rfl, rfl⟩ ⟨[], rfl, rfl, ⟨⟨⟨rfl, ?_⟩, ⟨rfl, ?_⟩, trivial⟩, trivial⟩, trivial⟩
        all_goals
          have hb : Bad1 xs k := by unfold Bad1; split <;> omega
          first | exact (ck_bad1 h0 hj (by omega) hb).1 | exact (ck_bad1 h0 hj (by omega) hb).2
      all_goals
        have hb : ¬ Bad1 xs k := by unfold Bad1; split <;> omega
        refine Back.mk (xs.length - (k + 1)) _ (by omega) ⟨k + 1, by omega, rfl, fun j hjk => ?_, rfl⟩ ?_
        · rcases Nat.lt_or_ge j k with h3 | h3
          · exact hj j h3
          · rw [show j = k by omega]; exact hb
        · refine ⟨[], rfl, rfl, ?_, ?_⟩ <;> repeat' (first | exact trivial | exact rfl | exact Iff.rfl | apply And.intro)
    · have hj : ∀ j, j < xs.length → ¬ Bad1 xs j := fun j hjx => hj j (by omega)
      obtain ⟨hs, hs0⟩ := srt_of hj
      have hB' := hB
      unfold Boil at hB'
      conv => whnf
      refine LoopVC.mk (fun m st => ∃ k : Nat, k ≤ xs.length ∧ m = xs.length - k ∧ (∀ j, j < k → ¬ Bad2 p q s r xs j) ∧ st = ⟨0, envA 90 [(0, .x (I p)), (1, .x (I q)), (2, .x (I s)), (3, .x (I r)), (4, .x (lI xs)), (14, .int .i64 (k : Int))], []⟩) _ _ ⟨0, Nat.zero_le _, rfl, fun j h => absurd h (Nat.not_lt_zero j), rfl⟩ ?_ ?_
      · refine ⟨[], rfl, rfl, ?_, ?_⟩ <;> repeat' (first | exact trivial | exact rfl | exact Iff.rfl | apply And.intro)
      · rintro m _ ⟨k, hk, hm, hj2, rfl⟩
        have gk : rI (i64s xs) (k : Int).toNat 0 = xs.getD k 0 := by rw [Int.toNat_natCast, i64s_get]
        have gt : List.drop (0 : Int).toNat (List.take ((k : Int) + 1).toNat (i64s xs)) = i64s (xs.take (k + 1)) := by
          rw [show ((k : Int) + 1).toNat = k + 1 by omega]
          simp [i64s, List.map_take]
        try refine JoinVC.on ?_
        refine Br.mk (fun h1 => ?_) (fun h1 => ?_)
        · have b1 := busy_bad hs (k := k) (by omega) (c := q) (long := s) (by omega)
          have b2 := busy_bad hs (k := k) (by omega) (c := p) (long := s + r) (by omega)
          have tk : ∀ j, 0 ≤ (xs.take (k + 1)).getD j 0 ∧ (xs.take (k + 1)).getD j 0 ≤ 9223372036854775807 := fun j => by
            rcases Nat.lt_or_ge j (k + 1) with h3 | h3
            · rw [take_getD h3]; exact ⟨hs0 j, (hr j).2⟩
            · rw [List.getD_eq_getElem?_getD, List.getElem?_eq_none (by simp; omega)]; simp
          have cc : ∀ long, PSpec Try.prog 63 [.one (.lst true [.int .i64] (List.drop (0 : Int).toNat (List.take ((k : Int) + 1).toNat (i64s xs)))), I (rI (i64s xs) (k : Int).toNat 0), I long] (.x (I (busyK (xs.take (k + 1)) (xs.getD k 0) long (xs.take (k + 1)).length))) := fun long => by
            rw [gk]
            exact s63' gt _ long (by simp; omega) (hs0 k) (fun j => (tk j).1) (hr k).2 (fun j => (tk j).2)
          repeat' (conv => whnf
                   first
                   | refine Rng.ok (by simp only [inR]; omega) ?_
                   | refine Ob.mk (by first | omega | (simp; done) | (simp; omega)) ?_
                   | refine JoinVC.on ?_
                   | refine Val.mk _ (Int.tmod_eq_emod_of_nonneg (by omega)) ?_
                   | refine Val.mk _ (Int.tdiv_eq_ediv_of_nonneg (by omega)) ?_
                   | refine CallVC.pure rfl (cc _) ?_
                   | refine CallVC0.pure rfl (cc _) ?_
                   | (refine Br.mk (fun h => ?_) (fun h => ?_) <;> first | (exfalso; omega; done) | (exfalso; simp at h; done) | skip))
          all_goals try
            refine EndVC.mk _ rfl _ _ ⟨rfl, rfl⟩ ⟨[], rfl, rfl, ⟨⟨⟨rfl, ?_⟩, ⟨rfl, ?_⟩, trivial⟩, trivial⟩, trivial⟩
            all_goals
              have hb : Bad2 p q s r xs k := by unfold Bad2; omega
              first | exact (ck_bad2 h0 hj hj2 (by omega) hb).1 | exact (ck_bad2 h0 hj hj2 (by omega) hb).2
          have hb : ¬ Bad2 p q s r xs k := by unfold Bad2; omega
          refine Back.mk (xs.length - (k + 1)) _ (by omega) ⟨k + 1, by omega, rfl, fun j hjk => ?_, rfl⟩ ?_
          · rcases Nat.lt_or_ge j k with h3 | h3
            · exact hj2 j h3
            · rw [show j = k by omega]; exact hb
          · refine ⟨[], rfl, rfl, ?_, ?_⟩ <;> repeat' (first | exact trivial | exact rfl | exact Iff.rfl | apply And.intro)
        · have hj2 : ∀ j, j < xs.length → ¬ Bad2 p q s r xs j := fun j hjx => hj2 j (by omega)
          refine EndVC.mk _ rfl _ _ ⟨rfl, rfl⟩ ⟨[], rfl, rfl, ⟨⟨⟨rfl, ?_⟩, ⟨rfl, ?_⟩, trivial⟩, trivial⟩, trivial⟩
          · rw [lx]; exact (ck_good h0 hj hj2).1
          · exact (ck_good h0 hj hj2).2
end Go.Sx

namespace Go.Sx
open Go Go.Proofs
set_option maxRecDepth 10000
set_option maxHeartbeats 1000000
def lastOf (xs : List Int) (k : Nat) : Int := if k = 0 then 0 else xs.getD (k - 1) 0
theorem s25 (p q s r : Int) (xs : List Int) (hr : ∀ j, -9223372036854775808 ≤ xs.getD j 0 ∧ xs.getD j 0 ≤ 9223372036854775807) : PSpec Try.prog 25 [I p, I q, I s, I r, lI xs] (.tup [I (ckI p q s r xs), I (ckE p q s r xs)]) := by
  have lx := i64s_len xs
  refine spec_of pMix (O := []) Try.func25 (c := bodyOf Try.f25) rfl (by kernel_rfl) (by kernel_rfl) Try.ntmps25 (res := [.cell 10 3, .cell 11 24]) (by kernel_rfl) ?_
  conv => whnf
  first | refine CallVC.pure rfl (s60 p q s r _) ?_ | refine CallVC0.pure rfl (s60 p q s r _) ?_
  rw [i64s_len]
  try refine JoinVC.on ?_
  refine Br.mk (fun h0 => ?_) (fun h0 => ?_)
  · refine EndVC.mk _ rfl _ _ ⟨rfl, rfl⟩ ?_
    refine ⟨[], rfl, rfl, ?_, ?_⟩ <;> repeat' (first | exact trivial | exact rfl | exact Iff.rfl | apply And.intro)
    · exact (ck_bad0 h0).1
    · exact (ck_bad0 h0).2
  have h0 := Decidable.not_not.1 h0
  obtain ⟨hB, hn⟩ := boil_of h0
  conv => whnf
  refine LoopVC.mk (fun m st => ∃ k : Nat, k ≤ xs.length ∧ m = xs.length - k ∧ (∀ j, j < k → ¬ Bad1 xs j) ∧ st = ⟨0, envA 68 [(0, .x (I p)), (1, .x (I q)), (2, .x (I s)), (3, .x (I r)), (4, .x (lI xs)), (10, .x (.one (.ptr 0 0))), (11, .x (.one (.ptr 1 0))), (13, .x (I (lastOf xs k))), (30, .x (lI xs)), (31, .x (I xs.length)), (32, .int .i64 (k : Int))], [some (.box 3 [.int .i64 0]), some (.box 24 [.int .i64 0])]⟩) _ _ ⟨0, Nat.zero_le _, rfl, fun j h => absurd h (Nat.not_lt_zero j), rfl⟩ ?_ ?_
  · refine ⟨[some 0, some 1], rfl, rfl, ?_, ?_⟩ <;> repeat' (first | exact trivial | exact rfl | exact Iff.rfl | apply And.intro)
    rw [lx]
  · rintro m _ ⟨k, hk, hm, hj, rfl⟩
    have gk : rI (i64s xs) (k : Int).toNat 0 = xs.getD k 0 := by rw [Int.toNat_natCast, i64s_get]
    have hnn := nb_nonneg k hj
    have hn1 : 0 < k → 0 ≤ xs.getD (k - 1) 0 := fun h => hnn (k - 1) (by omega)
    try refine JoinVC.on ?_
    refine Br.mk (fun h1 => ?_) (fun h1 => ?_)
    · repeat' (conv => whnf
               first
               | refine Rng.ok (by simp only [inR]; omega) ?_
               | refine Ob.mk (by first | omega | (simp; done) | (simp; omega)) ?_
               | refine JoinVC.on ?_
               | refine Val.mk _ (Int.tmod_eq_emod_of_nonneg (by omega)) ?_
               | refine Val.mk _ (Int.tdiv_eq_ediv_of_nonneg (by omega)) ?_
               | (refine Br.mk (fun h => ?_) (fun h => ?_) <;> first | (exfalso; omega; done) | (exfalso; simp at h; done) | skip))
      all_goals try
        refine EndVC.mk _ rfl _ _ ⟨rfl, rfl⟩ ?_
        refine ⟨[], rfl, rfl, ?_, ?_⟩ <;> repeat' (first | exact trivial | exact rfl | exact Iff.rfl | apply And.intro)
        all_goals
          have hb : Bad1 xs k := by unfold Bad1 lastOf at *; split at * <;> omega
          first | exact (ck_bad1 h0 hj (by omega) hb).1 | exact (ck_bad1 h0 hj (by omega) hb).2
      have hb : ¬ Bad1 xs k := by unfold Bad1; unfold lastOf at *; split <;> omega
      refine Back.mk (xs.length - (k + 1)) _ (by omega) ⟨k + 1, by omega, rfl, fun j hjk => ?_, rfl⟩ ?_
      · rcases Nat.lt_or_ge j k with h3 | h3
        · exact hj j h3
        · rw [show j = k by omega]; exact hb
      · refine ⟨[some 0, some 1], rfl, rfl, ?_, ?_⟩ <;> repeat' (first | exact trivial | exact rfl | exact Iff.rfl | apply And.intro)
        rw [gk]; unfold lastOf; rw [if_neg (by omega), Nat.add_sub_cancel]
    · have hj : ∀ j, j < xs.length → ¬ Bad1 xs j := fun j hjx => hj j (by omega)
      obtain ⟨hs, hs0⟩ := srt_of hj
      have hB' := hB
      unfold Boil at hB'
      conv => whnf
      refine LoopVC.mk (fun m st => ∃ k : Nat, k ≤ xs.length ∧ m = xs.length - k ∧ (∀ j, j < k → ¬ Bad2 p q s r xs j) ∧ st = ⟨0, envA 68 [(0, .x (I p)), (1, .x (I q)), (2, .x (I s)), (3, .x (I r)), (4, .x (lI xs)), (10, .x (.one (.ptr 0 0))), (11, .x (.one (.ptr 1 0))), (43, .x (lI xs)), (44, .x (I xs.length)), (45, .int .i64 (k : Int))], [some (.box 3 [.int .i64 0]), some (.box 24 [.int .i64 0])]⟩) _ _ ⟨0, Nat.zero_le _, rfl, fun j h => absurd h (Nat.not_lt_zero j), rfl⟩ ?_ ?_
      · refine ⟨[some 0, some 1], rfl, rfl, ?_, ?_⟩ <;> repeat' (first | exact trivial | exact rfl | exact Iff.rfl | apply And.intro)
        rw [lx]
      · rintro m _ ⟨k, hk, hm, hj2, rfl⟩
        have gk : rI (i64s xs) (k : Int).toNat 0 = xs.getD k 0 := by rw [Int.toNat_natCast, i64s_get]
        have gq : rI (i64s xs) ((k : Int) - q).toNat 0 = xs.getD ((k : Int) - q).toNat 0 := by rw [i64s_get]
        have gp : rI (i64s xs) ((k : Int) - p).toNat 0 = xs.getD ((k : Int) - p).toNat 0 := by rw [i64s_get]
        have hk0 := hs0 k
        have hkr := hr k
        have hq0 := hs0 ((k : Int) - q).toNat
        have hqr := hr ((k : Int) - q).toNat
        have hp0 := hs0 ((k : Int) - p).toNat
        have hpr := hr ((k : Int) - p).toNat
        try refine JoinVC.on ?_
        refine Br.mk (fun h1 => ?_) (fun h1 => ?_)
        · repeat' (conv => whnf
                   first
                   | refine Rng.ok (by simp only [inR]; omega) ?_
                   | refine Ob.mk (by first | omega | (simp; done) | (simp; omega)) ?_
                   | refine JoinVC.on ?_
                   | refine Val.mk _ (Int.tmod_eq_emod_of_nonneg (by omega)) ?_
                   | refine Val.mk _ (Int.tdiv_eq_ediv_of_nonneg (by omega)) ?_
                   | (refine Br.mk (fun h => ?_) (fun h => ?_) <;> first | (exfalso; omega; done) | (exfalso; simp at h; done) | skip))
          conv => whnf
          refine CallVC.mk [] _ _ _ rfl rfl rfl (s61b _ _ _ _ _ _) (fun x m' hx => ?_)
          obtain ⟨rfl, rfl⟩ := hx
          repeat' (conv => whnf
                   first
                   | refine Rng.ok (by simp only [inR]; omega) ?_
                   | refine Ob.mk (by first | omega | (simp; done) | (simp; omega)) ?_
                   | refine JoinVC.on ?_
                   | refine Val.mk _ (Int.tmod_eq_emod_of_nonneg (by omega)) ?_
                   | refine Val.mk _ (Int.tdiv_eq_ediv_of_nonneg (by omega)) ?_
                   | refine YieldVC.mk (rsem_of_awp pMix [] rfl (by kernel_rfl) ?_)
                   | refine RangeVC.mk e90 (isem_of_awp pMix [] Try.func90 (c := bodyOf Try.f90) rfl (by kernel_rfl) Try.ntmps90 (by kernel_rfl) ?_)
                   | (refine Br.mk (fun h => ?_) (fun h => ?_) <;> first | (exfalso; omega; done) | (exfalso; simp at h; done) | skip))
          all_goals try
            refine EndVC.mk _ rfl _ _ ⟨rfl, rfl⟩ ?_
            refine ⟨[], rfl, rfl, ?_, ?_⟩ <;> repeat' (first | exact trivial | exact rfl | exact Iff.rfl | apply And.intro)
            all_goals
              have hb : Bad2 p q s r xs k := by unfold Bad2; omega
              first | exact (ck_bad2 h0 hj hj2 (by omega) hb).1 | exact (ck_bad2 h0 hj hj2 (by omega) hb).2
          all_goals
            have hb : ¬ Bad2 p q s r xs k := by unfold Bad2; omega
            refine Back.mk (xs.length - (k + 1)) _ (by omega) ⟨k + 1, by omega, rfl, fun j hjk => ?_, rfl⟩ ?_
            · rcases Nat.lt_or_ge j k with h3 | h3
              · exact hj2 j h3
              · rw [show j = k by omega]; exact hb
            · refine ⟨[some 0, some 1], rfl, rfl, ?_, ?_⟩ <;> repeat' (first | exact trivial | exact rfl | exact Iff.rfl | apply And.intro)
        · have hj2 : ∀ j, j < xs.length → ¬ Bad2 p q s r xs j := fun j hjx => hj2 j (by omega)
          refine EndVC.mk _ rfl _ _ ⟨rfl, rfl⟩ ?_
          refine ⟨[], rfl, rfl, ?_, ?_⟩ <;> repeat' (first | exact trivial | exact rfl | exact Iff.rfl | apply And.intro)
          · rw [lx]; exact (ck_good h0 hj hj2).1
          · exact (ck_good h0 hj hj2).2
end Go.Sx

namespace Go.Sx
open Go Go.Proofs
set_option maxRecDepth 10000
set_option maxHeartbeats 1000000
theorem stRes_len (p q s r n : Int) : (stRes p q s r n).length ≤ 1000 := by
  unfold stRes
  split
  · rename_i h
    have := (boil_of h).2
    rw [stList_len]; omega
  · simp
theorem s4 (p q s r n : Int) (xs : List Int) (hr : ∀ j, -9223372036854775808 ≤ xs.getD j 0 ∧ xs.getD j 0 ≤ 9223372036854775807) : PSpec Try.prog 4 [I p, I q, I s, I r, I n, lI xs] (xP True) := by
  have lx := i64s_len xs
  have l1 : (stRes p q s r n).length ≤ 1099511627776 := by have := stRes_len p q s r n; omega
  refine spec_of pMix (O := []) Try.func4 (c := bodyOf Try.f4) rfl (by kernel_rfl) (by kernel_rfl) Try.ntmps4 (res := [.tmp 12]) (by kernel_rfl) ?_
  repeat' (conv => whnf
           first
           | refine Rng.ok (by simp only [inR]; omega) ?_
           | refine Ob.mk (by first | omega | (simp; done) | (simp; omega)) ?_
           | refine JoinVC.on ?_
           | refine Val.mk _ (Int.tmod_eq_emod_of_nonneg (by omega)) ?_
           | refine Val.mk _ (Int.tdiv_eq_ediv_of_nonneg (by omega)) ?_
           | refine CallVC.pure rfl (s22) ?_
           | refine CallVC.pure rfl (s23 _ _ _ _ _) ?_
           | refine CallVC.pure rfl (s24 _ _ _ _ _) ?_
           | refine CallVC.pure rfl (s25 _ _ _ _ xs hr) ?_
           | refine CallVC.pure rfl (s26 _ _ _ _ xs hr) ?_
           | refine CallVC.pure rfl (s27 _ _ l1) ?_
           | refine CallVC0.pure rfl (s22) ?_
           | refine CallVC0.pure rfl (s23 _ _ _ _ _) ?_
           | refine CallVC0.pure rfl (s24 _ _ _ _ _) ?_
           | refine CallVC0.pure rfl (s25 _ _ _ _ xs hr) ?_
           | refine CallVC0.pure rfl (s26 _ _ _ _ xs hr) ?_
           | refine CallVC0.pure rfl (s27 _ _ l1) ?_
           | (refine Br.mk (fun h => ?_) (fun h => ?_) <;> first | (exfalso; omega; done) | (exfalso; simp at h; done) | skip))
  all_goals
    refine EndVC.mk _ rfl _ _ ⟨rfl, rfl⟩ ?_
    refine ⟨[], rfl, rfl, ?_, ?_⟩ <;> repeat' (first | exact trivial | exact rfl | exact Iff.rfl | apply And.intro)
end Go.Sx

namespace Go.Sx
open Go Go.Proofs
set_option maxRecDepth 10000
/-! ### The earliest starts, one by one -/
theorem st_pre (p q s r : Int) {j m : Nat} (h : j < m) : ∀ N, m ≤ N → (stList p q s r N).getD j 0 = (stList p q s r m).getD j 0
  | 0, hN => by omega
  | N + 1, hN => by
    rcases Nat.lt_or_ge N m with h1 | h1
    · have : m = N + 1 := by omega
      rw [this]
    · rw [stList, getD_app, stList_len, if_pos (by omega)]
      exact st_pre p q s r h N h1
def lastE (xs : List Int) (i : Nat) : Int := if i = 0 then 0 else xs.getD (i - 1) 0
theorem st_at {p q s r : Int} (hb : Boil p q s r) {i N : Nat} (h : i < N) {E : Nat → Int} (hE : ∀ j, E j = (stList p q s r N).getD j 0) :
    (if i = 0 then 0 else E (i - 1)) ≤ E i ∧ (q ≤ i → E ((i : Int) - q).toNat + s ≤ E i) ∧ (p ≤ i → E ((i : Int) - p).toNat + (s + r) ≤ E i) ∧
      (E i = (if i = 0 then 0 else E (i - 1)) ∨ (q ≤ i ∧ E i = E ((i : Int) - q).toNat + s) ∨ (p ≤ i ∧ E i = E ((i : Int) - p).toNat + (s + r))) := by
  unfold Boil at hb
  have e0 : E i = stNext p q s r (stList p q s r i) := by
    rw [hE, st_pre p q s r (show i < i + 1 by omega) N h, stList, getD_app, stList_len, if_neg (by omega), if_pos rfl]
  have pre : ∀ j, j < i → (stList p q s r i).getD j 0 = E j := fun j hj => by rw [hE, st_pre p q s r hj N (by omega)]
  have e1 : st0 (stList p q s r i) = if i = 0 then 0 else E (i - 1) := by
    unfold st0
    rw [stList_len]
    by_cases hi : i = 0
    · subst hi; rfl
    · rw [if_pos (by omega), if_neg hi, pre _ (by omega)]
  rw [e0]
  unfold stNext
  rw [e1]
  generalize (if i = 0 then 0 else E (i - 1)) = z
  unfold st1
  rw [stList_len]
  by_cases hq : (0 : Int) ≤ (i : Int) - q
  · rw [if_pos hq, pre _ (by omega)]
    by_cases hp : (0 : Int) ≤ (i : Int) - p
    · rw [if_pos hp, pre _ (by omega)]
      generalize E ((i : Int) - q).toNat = u
      generalize E ((i : Int) - p).toNat = v
      unfold mx
      refine ⟨?_, ?_, ?_, ?_⟩ <;> (split <;> (try split) <;> omega)
    · rw [if_neg hp]
      generalize E ((i : Int) - q).toNat = u
      unfold mx
      refine ⟨?_, ?_, ?_, ?_⟩ <;> (split <;> omega)
  · rw [if_neg hq]
    by_cases hp : (0 : Int) ≤ (i : Int) - p
    · rw [if_pos hp, pre _ (by omega)]
      generalize E ((i : Int) - p).toNat = v
      unfold mx
      refine ⟨?_, ?_, ?_, ?_⟩ <;> (split <;> omega)
    · rw [if_neg hp]
      refine ⟨?_, ?_, ?_, ?_⟩ <;> omega
theorem st_mono {p q s r : Int} (hb : Boil p q s r) {N i j : Nat} (hij : i ≤ j) (hj : j < N) : (stList p q s r N).getD i 0 ≤ (stList p q s r N).getD j 0 := by
  induction j with
  | zero => have : i = 0 := by omega
            subst this; omega
  | succ j ih =>
    rcases Nat.lt_or_ge i (j + 1) with h | h
    · have h1 := ih (by omega) (by omega)
      have h2 := (st_at hb hj (E := fun j => (stList p q s r N).getD j 0) (fun _ => rfl)).1
      rw [if_neg (by omega)] at h2
      have : j + 1 - 1 = j := by omega
      rw [this] at h2
      exact Int.le_trans h1 h2
    · have : i = j + 1 := by omega
      subst this; omega
/-- The earliest starts are right. -/
theorem st_right {p q s r : Int} (hb : Boil p q s r) (N : Nat) : (∀ j, j < N → ¬ Bad1 (stList p q s r N) j) ∧ ∀ j, j < N → ¬ Bad2 p q s r (stList p q s r N) j := by
  have hb' := hb
  unfold Boil at hb'
  refine ⟨fun j hj h => ?_, fun j hj h => ?_⟩
  · have h2 := (st_at hb hj (E := fun j => (stList p q s r N).getD j 0) (fun _ => rfl)).1
    unfold Bad1 at h
    exact absurd h (Int.not_lt.2 h2)
  · obtain ⟨_, h2, h3, _⟩ := st_at hb hj (E := fun j => (stList p q s r N).getD j 0) (fun _ => rfl)
    unfold Bad2 at h
    rcases h with ⟨h4, h5⟩ | ⟨h4, h5⟩
    · have := h2 h4; omega
    · have := h3 h4; omega
/-- No right starts have a disc that starts earlier. -/
theorem st_least {p q s r : Int} (hb : Boil p q s r) {xs : List Int} (h1 : ∀ j, j < xs.length → ¬ Bad1 xs j) (h2 : ∀ j, j < xs.length → ¬ Bad2 p q s r xs j) : ∀ n i, i ≤ n → i < xs.length → (stList p q s r xs.length).getD i 0 ≤ xs.getD i 0 := by
  have hb' := hb
  unfold Boil at hb'
  intro n
  induction n with
  | zero =>
    intro i hi hl
    have : i = 0 := by omega
    subst this
    obtain ⟨_, _, _, h5⟩ := st_at hb hl (E := fun j => (stList p q s r xs.length).getD j 0) (fun _ => rfl)
    have h3 := h1 0 hl
    unfold Bad1 at h3
    simp only [if_true] at h5 h3
    omega
  | succ n ih =>
    intro i hi hl
    rcases Nat.lt_or_ge n i with h | h
    · obtain ⟨_, _, _, h5⟩ := st_at hb hl (E := fun j => (stList p q s r xs.length).getD j 0) (fun _ => rfl)
      have h3 := h1 i hl
      have h4 := h2 i hl
      unfold Bad1 at h3
      unfold Bad2 at h4
      rw [if_neg (by omega)] at h5 h3
      rcases h5 with h5 | ⟨h6, h5⟩ | ⟨h6, h5⟩
      · have := ih (i - 1) (by omega) (by omega); omega
      · have := ih ((i : Int) - q).toNat (by omega) (by omega); omega
      · have := ih ((i : Int) - p).toNat (by omega) (by omega); omega
    · exact ih i h hl
/-- With more presses, or more steam at once, no disc starts later. -/
theorem st_more {p q s r p' q' : Int} (hb : Boil p q s r) (hb2 : Boil p' q' s r) (hp : p ≤ p') (hq : q ≤ q') {N : Nat} : ∀ n i, i ≤ n → i < N → (stList p' q' s r N).getD i 0 ≤ (stList p q s r N).getD i 0 := by
  have hb' := hb
  unfold Boil at hb'
  intro n
  induction n with
  | zero =>
    intro i hi hl
    have : i = 0 := by omega
    subst this
    obtain ⟨_, _, _, h5⟩ := st_at hb2 hl (E := fun j => (stList p' q' s r N).getD j 0) (fun _ => rfl)
    have h3 := (st_at hb hl (E := fun j => (stList p q s r N).getD j 0) (fun _ => rfl)).1
    simp only [if_true] at h5 h3
    omega
  | succ n ih =>
    intro i hi hl
    rcases Nat.lt_or_ge n i with h | h
    · obtain ⟨_, _, _, h5⟩ := st_at hb2 hl (E := fun j => (stList p' q' s r N).getD j 0) (fun _ => rfl)
      obtain ⟨h2, h3, h4, _⟩ := st_at hb hl (E := fun j => (stList p q s r N).getD j 0) (fun _ => rfl)
      rw [if_neg (by omega)] at h5 h2
      rcases h5 with h5 | ⟨h6, h5⟩ | ⟨h6, h5⟩
      · have := ih (i - 1) (by omega) (by omega); omega
      · have g1 := ih ((i : Int) - q').toNat (by omega) (by omega)
        have g2 := st_mono hb (N := N) (i := ((i : Int) - q').toNat) (j := ((i : Int) - q).toNat) (by omega) (by omega)
        have g3 := h3 (by omega)
        omega
      · have g1 := ih ((i : Int) - p').toNat (by omega) (by omega)
        have g2 := st_mono hb (N := N) (i := ((i : Int) - p').toNat) (j := ((i : Int) - p).toNat) (by omega) (by omega)
        have g3 := h4 (by omega)
        omega
    · exact ih i h hl
end Go.Sx

namespace Go.Sx
open Go Go.Proofs
set_option maxRecDepth 10000
set_option maxHeartbeats 1000000
theorem e5 : EntersF Try.prog 5 := enters_of Try.func5 (c := bodyOf Try.f5) (by kernel_rfl) rfl
@[reducible] def U8 (n : Int) : XV := .one (.int .u8 n)
@[reducible] def U16 (n : Int) : XV := .one (.int .u16 n)
theorem firstN_none {P : Nat → Prop} [DecidablePred P] : ∀ (f i : Nat), i + f ≤ firstN P f i → ∀ j, i ≤ j → j < i + f → ¬ P j
  | 0, i, _ => fun j h1 h2 => by omega
  | f + 1, i, h => by
    unfold firstN at h
    split at h
    · omega
    · rename_i hi
      intro j h1 h2
      rcases Nat.lt_or_ge i j with h3 | h3
      · exact firstN_none f (i + 1) (by omega) j (by omega) (by omega)
      · rw [show j = i by omega]; exact hi
theorem ck_cases {p q s r : Int} {xs : List Int} (h0 : boilE p q s r xs.length = 0) : (ckE p q s r xs = 3 ∧ 0 ≤ ckI p q s r xs ∧ ckI p q s r xs < xs.length) ∨ (ckE p q s r xs = 20 ∧ 0 ≤ ckI p q s r xs ∧ ckI p q s r xs < xs.length) ∨
    (ckE p q s r xs = 0 ∧ ckI p q s r xs = xs.length ∧ (∀ j, j < xs.length → ¬ Bad1 xs j) ∧ ∀ j, j < xs.length → ¬ Bad2 p q s r xs j) := by
  unfold ckE ckI
  rw [if_pos h0, if_pos h0]
  by_cases h1 : ck1 xs < xs.length
  · rw [if_pos h1, if_pos h1]; exact .inl ⟨rfl, by omega, by omega⟩
  · rw [if_neg h1, if_neg h1]
    by_cases h2 : ck2 p q s r xs < xs.length
    · rw [if_pos h2]; exact .inr (.inl ⟨rfl, by omega, by omega⟩)
    · rw [if_neg h2]
      have g1 : ∀ j, j < xs.length → ¬ Bad1 xs j := fun j hj => firstN_none xs.length 0 (by unfold ck1 at h1; omega) j (Nat.zero_le _) (by omega)
      have g2 : ∀ j, j < xs.length → ¬ Bad2 p q s r xs j := fun j hj => firstN_none xs.length 0 (by unfold ck2 at h2; omega) j (Nat.zero_le _) (by omega)
      exact .inr (.inr ⟨rfl, by rw [ck2_no g2], g1, g2⟩)
theorem st_ck {p q s r : Int} (hB : Boil p q s r) (N : Nat) (hN : N ≤ 60) : ckE p q s r (stList p q s r N) = 0 ∧ ckI p q s r (stList p q s r N) = N := by
  have h0 : boilE p q s r (stList p q s r N).length = 0 := by unfold boilE; rw [if_pos hB, stList_len, if_pos (by omega)]
  obtain ⟨g1, g2⟩ := st_right hB N
  have := ck_good h0 (fun j hj => g1 j (by rwa [stList_len] at hj)) (fun j hj => g2 j (by rwa [stList_len] at hj))
  rw [stList_len] at this
  exact ⟨this.2.symm, this.1.symm⟩
theorem s5 (p q s r u v : Int) (xs : List Int) (hp : 0 ≤ p ∧ p ≤ 255) (hq : 0 ≤ q ∧ q ≤ 255) (hs : 0 ≤ s ∧ s ≤ 65535) (hr : 0 ≤ r ∧ r ≤ 65535) (hu : 0 ≤ u ∧ u ≤ 255) (hv : 0 ≤ v ∧ v ≤ 255)
    (hx : ∀ j, -9223372036854775808 ≤ xs.getD j 0 ∧ xs.getD j 0 ≤ 9223372036854775807) : PSpec Try.prog 5 [U8 p, U8 q, U16 s, U16 r, lI xs, .agg [.int .u8 u, .int .u8 v]] (xP True) := by
  have lx := i64s_len xs
  refine spec_of pMix (O := []) Try.func5 (c := bodyOf Try.f5) rfl (by kernel_rfl) (by kernel_rfl) Try.ntmps5 (res := [.tmp 12]) (by kernel_rfl) ?_
  have hB : Boil (1 + p % 64) (1 + q % 64) (1 + s) (1 + r) := by unfold Boil; omega
  repeat' (conv => whnf
           first
           | refine Rng.ok (by simp only [inR]; omega) ?_
           | refine Ob.mk (by first | omega | (simp; done) | (simp; omega)) ?_
           | refine JoinVC.on ?_
           | refine Val.mk _ (Int.tmod_eq_emod_of_nonneg (by omega)) ?_
           | refine Val.mk _ (Int.tdiv_eq_ediv_of_nonneg (by omega)) ?_
           | refine CallVC.pure rfl (s22) ?_
           | refine CallVC.pure rfl (s23 _ _ _ _ _) ?_
           | refine CallVC0.pure rfl (s22) ?_
           | refine CallVC0.pure rfl (s23 _ _ _ _ _) ?_
           | (refine Br.mk (fun h => ?_) (fun h => ?_) <;> first | (exfalso; omega; done) | (exfalso; simp at h; done) | skip))
  · refine EndVC.mk _ rfl _ _ ⟨rfl, rfl⟩ ?_
    refine ⟨[], rfl, rfl, ?_, ?_⟩ <;> repeat' (first | exact trivial | exact rfl | exact Iff.rfl | apply And.intro)
  have hle : xs.length ≤ 60 := by omega
  have h0 : boilE (1 + p % 64) (1 + q % 64) (1 + s) (1 + r) xs.length = 0 := by unfold boilE; rw [if_pos hB, if_pos (by omega)]
  have eL : stRes (1 + p % 64) (1 + q % 64) (1 + s) (1 + r) (List.length (i64s xs)) = stList (1 + p % 64) (1 + q % 64) (1 + s) (1 + r) xs.length := by unfold stRes; rw [lx, if_pos h0, Int.toNat_natCast]
  have hbd := fun j => st_bd hB xs.length j
  have hbx : ∀ j, -9223372036854775808 ≤ (stRes (1 + p % 64) (1 + q % 64) (1 + s) (1 + r) (List.length (i64s xs))).getD j 0 ∧ (stRes (1 + p % 64) (1 + q % 64) (1 + s) (1 + r) (List.length (i64s xs))).getD j 0 ≤ 9223372036854775807 := fun j => by
    rw [eL]; have := hbd j; omega
  have hP : 1 + p % 64 ≤ (if 1 + p % 64 + u < 64 then 1 + p % 64 + u else 64) ∧ (if 1 + p % 64 + u < 64 then 1 + p % 64 + u else 64) ≤ 64 := by split <;> omega
  have hQ : 1 + q % 64 ≤ (if 1 + q % 64 + v < 64 then 1 + q % 64 + v else 64) ∧ (if 1 + q % 64 + v < 64 then 1 + q % 64 + v else 64) ≤ 64 := by split <;> omega
  have hB2 : Boil (if 1 + p % 64 + u < 64 then 1 + p % 64 + u else 64) (if 1 + q % 64 + v < 64 then 1 + q % 64 + v else 64) (1 + s) (1 + r) := by unfold Boil; omega
  have h02 : boilE (if 1 + p % 64 + u < 64 then 1 + p % 64 + u else 64) (if 1 + q % 64 + v < 64 then 1 + q % 64 + v else 64) (1 + s) (1 + r) (List.length (i64s xs)) = 0 := by unfold boilE; rw [if_pos hB2, lx, if_pos (by omega)]
  have eL2 : stRes (if 1 + p % 64 + u < 64 then 1 + p % 64 + u else 64) (if 1 + q % 64 + v < 64 then 1 + q % 64 + v else 64) (1 + s) (1 + r) (List.length (i64s xs)) = stList (if 1 + p % 64 + u < 64 then 1 + p % 64 + u else 64) (if 1 + q % 64 + v < 64 then 1 + q % 64 + v else 64) (1 + s) (1 + r) xs.length := by unfold stRes; rw [if_pos h02, lx, Int.toNat_natCast]
  have h01 : boilE (1 + p % 64) (1 + q % 64) (1 + s) (1 + r) (List.length (i64s xs)) = 0 := by rw [lx]; exact h0
  have hck := st_ck hB xs.length hle
  rw [← eL] at hck
  have hl1 : (List.length (i64s (stRes (1 + p % 64) (1 + q % 64) (1 + s) (1 + r) (List.length (i64s xs))))) = xs.length := by rw [i64s_len, eL, stList_len]
  have hl2 : (List.length (i64s (stRes (if 1 + p % 64 + u < 64 then 1 + p % 64 + u else 64) (if 1 + q % 64 + v < 64 then 1 + q % 64 + v else 64) (1 + s) (1 + r) (List.length (i64s xs))))) = xs.length := by rw [i64s_len, eL2, stList_len]
  have hcc := ck_cases h0
  have hmore := fun k (hk : k < xs.length) => st_more hB hB2 hP.1 hQ.1 (N := xs.length) k k (Nat.le_refl k) hk
  have hleast : ckE (1 + p % 64) (1 + q % 64) (1 + s) (1 + r) xs = 0 → ∀ k, k < xs.length → (stList (1 + p % 64) (1 + q % 64) (1 + s) (1 + r) xs.length).getD k 0 ≤ xs.getD k 0 := fun h k hk => by
    rcases hcc with ⟨h1, _⟩ | ⟨h1, _⟩ | ⟨_, _, h3, h4⟩
    · omega
    · omega
    · exact st_least hB h3 h4 k k (Nat.le_refl k) hk
  repeat' (conv => whnf
           first
           | refine Rng.ok (by simp only [inR]; omega) ?_
           | refine Ob.mk (by first | omega | (simp; done) | (simp; omega)) ?_
           | refine JoinVC.on ?_
           | refine Val.mk _ (Int.tmod_eq_emod_of_nonneg (by omega)) ?_
           | refine Val.mk _ (Int.tdiv_eq_ediv_of_nonneg (by omega)) ?_
           | refine CallVC.pure rfl (s25 _ _ _ _ _ hbx) ?_
           | refine CallVC.pure rfl (s23 _ _ _ _ _) ?_
           | refine CallVC.pure rfl (s25 _ _ _ _ _ hx) ?_
           | refine CallVC0.pure rfl (s25 _ _ _ _ _ hbx) ?_
           | refine CallVC0.pure rfl (s23 _ _ _ _ _) ?_
           | refine CallVC0.pure rfl (s25 _ _ _ _ _ hx) ?_
           | (refine Br.mk (fun h => ?_) (fun h => ?_) <;> first | (exfalso; omega; done) | (exfalso; simp at h; done) | skip))
  all_goals conv => whnf
  all_goals
    refine LoopVC.mk (fun m st => ∃ k : Nat, k ≤ xs.length ∧ m = xs.length - k ∧ st = ⟨0, envA 173 [(4, .x (lI xs)), (17, .x (.one (.lst false [.int .i64] (i64s (stRes (1 + p % 64) (1 + q % 64) (1 + s) (1 + r) (List.length (i64s xs))))))), (21, .x (.one (.lst false [.int .i64] (i64s (stRes (if 1 + p % 64 + u < 64 then 1 + p % 64 + u else 64) (if 1 + q % 64 + v < 64 then 1 + q % 64 + v else 64) (1 + s) (1 + r) (List.length (i64s xs))))))), (24, .x (I (ckE (1 + p % 64) (1 + q % 64) (1 + s) (1 + r) xs))), (25, .int .i64 (k : Int))], [some (.box 38 [.int .u8 u, .int .u8 v])]⟩) _ _ ⟨0, Nat.zero_le _, rfl, rfl⟩ ?_ ?_
    · refine ⟨[some 0], rfl, rfl, ?_, ?_⟩ <;> repeat' (first | exact trivial | exact rfl | exact Iff.rfl | apply And.intro)
    · rintro m _ ⟨k, hk, hm, rfl⟩
      have gk : rI (i64s xs) (k : Int).toNat 0 = xs.getD k 0 := by rw [Int.toNat_natCast, i64s_get]
      have gb : rI (i64s (stRes (1 + p % 64) (1 + q % 64) (1 + s) (1 + r) (List.length (i64s xs)))) (k : Int).toNat 0 = (stList (1 + p % 64) (1 + q % 64) (1 + s) (1 + r) xs.length).getD k 0 := by rw [Int.toNat_natCast, i64s_get, eL]
      have gs : rI (i64s (stRes (if 1 + p % 64 + u < 64 then 1 + p % 64 + u else 64) (if 1 + q % 64 + v < 64 then 1 + q % 64 + v else 64) (1 + s) (1 + r) (List.length (i64s xs)))) (k : Int).toNat 0 = (stList (if 1 + p % 64 + u < 64 then 1 + p % 64 + u else 64) (if 1 + q % 64 + v < 64 then 1 + q % 64 + v else 64) (1 + s) (1 + r) xs.length).getD k 0 := by rw [Int.toNat_natCast, i64s_get, eL2]
      have hm1 := hmore k
      have hl3 := fun h => hleast h k
      by_cases hkl : k < xs.length
      · have hm2 := hm1 hkl
        have hl4 : ckE (1 + p % 64) (1 + q % 64) (1 + s) (1 + r) xs = 0 → (stList (1 + p % 64) (1 + q % 64) (1 + s) (1 + r) xs.length).getD k 0 ≤ xs.getD k 0 := fun h => hl3 h hkl
        repeat' (conv => whnf
                 first
                 | refine Rng.ok (by simp only [inR]; omega) ?_
                 | refine Ob.mk (by first | omega | (simp; done) | (simp; omega)) ?_
                 | refine JoinVC.on ?_
                 | refine Val.mk _ (Int.tmod_eq_emod_of_nonneg (by omega)) ?_
                 | refine Val.mk _ (Int.tdiv_eq_ediv_of_nonneg (by omega)) ?_
                 | refine CallVC.pure rfl (s22) ?_
                 | refine CallVC0.pure rfl (s22) ?_
                 | (refine Br.mk (fun h => ?_) (fun h => ?_) <;> first | (exfalso; omega; done) | (exfalso; simp at h; done) | skip))
        all_goals
          refine Back.mk (xs.length - (k + 1)) _ (by omega) ⟨k + 1, by omega, rfl, rfl⟩ ?_
          refine ⟨[some 0], rfl, rfl, ?_, ?_⟩ <;> repeat' (first | exact trivial | exact rfl | exact Iff.rfl | apply And.intro)
      · repeat' (conv => whnf
                 first
                 | refine Rng.ok (by simp only [inR]; omega) ?_
                 | refine Ob.mk (by first | omega | (simp; done) | (simp; omega)) ?_
                 | refine JoinVC.on ?_
                 | refine Val.mk _ (Int.tmod_eq_emod_of_nonneg (by omega)) ?_
                 | refine Val.mk _ (Int.tdiv_eq_ediv_of_nonneg (by omega)) ?_
                 | refine CallVC.pure rfl (s22) ?_
                 | refine CallVC0.pure rfl (s22) ?_
                 | (refine Br.mk (fun h => ?_) (fun h => ?_) <;> first | (exfalso; omega; done) | (exfalso; simp at h; done) | skip))
        all_goals
          refine EndVC.mk _ rfl _ _ ⟨rfl, rfl⟩ ?_
          refine ⟨[], rfl, rfl, ?_, ?_⟩ <;> repeat' (first | exact trivial | exact rfl | exact Iff.rfl | apply And.intro)
end Go.Sx
