import Derived.Test.YthfdbmgjkjeccaaProg
import Derived.Test.YthfdbmgjkjeccaaXc
import Derived.Shelf.Abstract
namespace Go.Sx
open Go Go.Proofs
theorem pMix : Try.prog.follows .mixedOrders = true := by kernel_rfl
theorem spec_of {P : Program} (hm : P.follows .mixedOrders = true) {f : FuncId} {fn : Func} (hf : P.funcs[f]? = some fn) {c : Code} (hb : fn.body = some c) (hname : (fn.name == "runtime.NumGoroutine") = false) {O : List (Nat × RO)} (hok : codeOK O c = true) {nt : Nat} (hnt : fn.ntmps = nt) {res : List ResultVar} (hres : fn.results.toList = res)
    {args : List XV} {m : List Blk} {Rs : AV → List (Option Blk) → Prop} (h : awp P O c (startSt nt args m) (atEnd P res Rs)) : HSpec P f args m Rs := hspec_of_awp hm O hf hb (enters_of hf hname hb) hok hnt hres h
noncomputable def bodyOf (f : Func) : Code := match f.body with | some c => c | none => .skip
abbrev I (n : Int) : XV := .one (.int .i64 n)
def setsE : List AV → List (Nat × AV) → List AV
  | l, [] => l
  | l, (n, v) :: r => setsE (l.set n v) r
/-- An environment of n unknowns but for these. -/
def envA (n : Nat) (l : List (Nat × AV)) : List AV := setsE (anysA n) l

theorem CallVC.pure {P : Program} {f : FuncId} {args : List AV} {s : St} {K : AV → St → Prop} {args' : List XV} {r : AV} (ha : argsX s [] args = some args') (h : PSpec P f args' r) (k : afterCall s (lendsA [] args || lendsB s [] []) [] r [] K) : CallVC P f args s K :=
  CallVC.mk [] _ args' [] ha rfl rfl h fun r' m' ⟨h1, h2⟩ => by subst h1 h2; exact k
theorem CallVC0.pure {P : Program} {f : FuncId} {args : List AV} {s : St} {K : AV → St → Prop} {args' : List XV} {r : AV} (ha : argsX s [] args = some args') (h : PSpec P f args' r) (k : afterCall s (lendsA [] args || lendsB s [] []) [] r [] K) : CallVC0 P f args s K :=
  CallVC0.mk _ args' ha h fun r' m' ⟨h1, h2⟩ => by subst h1 h2; exact k
theorem e56 : EntersF Try.prog 56 := enters_of Try.func56 (c := bodyOf Try.f56) (by kernel_rfl) rfl
set_option maxRecDepth 10000
abbrev xP (p : Prop) [d : Decidable p] : AV := .x (.one (.prp p d))
theorem s56 (n lo hi : Int) : PSpec Try.prog 56 [I n, I lo, I hi] (xP (n < lo ∨ hi < n)) := by
  refine spec_of pMix (O := []) Try.func56 (c := bodyOf Try.f56) rfl (by kernel_rfl) (by kernel_rfl) Try.ntmps56 (res := [.tmp 6]) (by kernel_rfl) ?_
  repeat refine Mm.mk ?_
  try refine JoinVC.on ?_
  refine Br.mk (fun h => ?_) (fun h => ?_)
  · repeat refine Mm.mk ?_
    refine EndVC.mk _ rfl _ _ ⟨rfl, rfl⟩ ⟨[], rfl, rfl, ⟨?_, trivial⟩, trivial⟩
    exact Or.inl h
  · repeat refine Mm.mk ?_
    refine EndVC.mk _ rfl _ _ ⟨rfl, rfl⟩ ⟨[], rfl, rfl, ⟨?_, trivial⟩, trivial⟩
    show _ ↔ _
    simp [h]
theorem s58 (n lo hi : Int) : PSpec Try.prog 58 [I n, I lo, I hi] (xP (lo ≤ n ∧ n ≤ hi)) := by
  refine spec_of pMix (O := []) Try.func58 (c := bodyOf Try.f58) rfl (by kernel_rfl) (by kernel_rfl) Try.ntmps58 (res := [.tmp 6]) (by kernel_rfl) ?_
  repeat refine Mm.mk ?_
  try refine JoinVC.on ?_
  refine Br.mk (fun h => ?_) (fun h => ?_)
  · repeat refine Mm.mk ?_
    refine EndVC.mk _ rfl _ _ ⟨rfl, rfl⟩ ⟨[], rfl, rfl, ⟨?_, trivial⟩, trivial⟩
    show _ ↔ _
    simp [h]
  · repeat refine Mm.mk ?_
    refine EndVC.mk _ rfl _ _ ⟨rfl, rfl⟩ ⟨[], rfl, rfl, ⟨?_, trivial⟩, trivial⟩
    show ¬ _
    simp [h]
theorem e58 : EntersF Try.prog 58 := enters_of Try.func58 (c := bodyOf Try.f58) (by kernel_rfl) rfl
structure Mac where
  room : Int
  melt : Int
  cool : Int
  top : Int
  heat : Int
  chill : Int
  drift : Int
  hold : Int
  life : Int
@[reducible] def Mac.x (m : Mac) : XV := .agg [.int .i64 m.room, .int .i64 m.melt, .int .i64 m.cool, .int .i64 m.top, .int .i64 m.heat, .int .i64 m.chill, .int .i64 m.drift, .int .i64 m.hold, .int .i64 m.life]
/-- Which machines are valid. -/
def Mac.ok (m : Mac) : Prop := 0 ≤ m.room ∧ m.room ≤ m.cool ∧ m.cool < m.melt ∧ m.melt ≤ m.top ∧ m.top ≤ 400 ∧ 1 ≤ m.heat ∧ m.heat ≤ 400 ∧ 1 ≤ m.chill ∧ m.chill ≤ 400 ∧ 0 ≤ m.drift ∧ m.drift ≤ 400 ∧ 1 ≤ m.hold ∧ m.hold ≤ 64 ∧ 1 ≤ m.life ∧ m.life ≤ 65536
open Classical in
noncomputable def Mac.chk (m : Mac) : Int := if m.ok then 0 else 2
theorem Mac.chk0 {m : Mac} (h : m.ok) : m.chk = 0 := if_pos h
theorem Mac.chk2 {m : Mac} (h : ¬ m.ok) : m.chk = 2 := if_neg h
/-- The temperature after a tick. -/
def tickF (m : Mac) (t v : Int) : Int := if v = 1 then (if t + m.heat < m.top then t + m.heat else m.top) else if v = 2 then (if m.room < t - m.chill then t - m.chill else m.room) else (if m.room < t - m.drift then t - m.drift else m.room)
theorem s57 (m : Mac) (T v : Int) (hm : m.ok) (h1 : m.room ≤ T) (h2 : T ≤ m.top) : PSpec Try.prog 57 [m.x, I T, I v] (.x (I (tickF m T v))) := by
  obtain ⟨m1, m2, m3, m4, m5, m6, m7, m8, m9, m10, m11, m12, m13, m14, m15⟩ := hm
  refine spec_of pMix (O := []) Try.func57 (c := bodyOf Try.f57) rfl (by kernel_rfl) (by kernel_rfl) Try.ntmps57 (res := [.tmp 6]) (by kernel_rfl) ?_
  refine Br.mk (fun h => ?_) (fun h => ?_)
  · refine Rng.ok (by simp only [inR]; omega) ?_
    repeat refine Mm.mk ?_
    refine EndVC.mk _ rfl _ _ ⟨rfl, rfl⟩ ⟨[], rfl, rfl, ⟨⟨rfl, ?_⟩, trivial⟩, trivial⟩
    simp only [tickF, if_pos h]
  · refine Br.mk (fun h' => ?_) (fun h' => ?_)
    · refine Rng.ok (by simp only [inR]; omega) ?_
      repeat refine Mm.mk ?_
      refine EndVC.mk _ rfl _ _ ⟨rfl, rfl⟩ ⟨[], rfl, rfl, ⟨⟨rfl, ?_⟩, trivial⟩, trivial⟩
      simp only [tickF, if_neg h, if_pos h']
    · refine Rng.ok (by simp only [inR]; omega) ?_
      repeat refine Mm.mk ?_
      refine EndVC.mk _ rfl _ _ ⟨rfl, rfl⟩ ⟨[], rfl, rfl, ⟨⟨rfl, ?_⟩, trivial⟩, trivial⟩
      simp only [tickF, if_neg h, if_neg h']
theorem s59 (m : Mac) (T v : Int) (hm : m.ok) (h1 : m.room ≤ T) (h2 : T ≤ m.top) : PSpec Try.prog 59 [m.x, I T, I v] (.x (I (tickF m T v))) := by
  obtain ⟨m1, m2, m3, m4, m5, m6, m7, m8, m9, m10, m11, m12, m13, m14, m15⟩ := hm
  refine spec_of pMix (O := []) Try.func59 (c := bodyOf Try.f59) rfl (by kernel_rfl) (by kernel_rfl) Try.ntmps59 (res := [.tmp 6]) (by kernel_rfl) ?_
  refine Br.mk (fun h => ?_) (fun h => ?_)
  · refine Rng.ok (by simp only [inR]; omega) ?_
    repeat refine Mm.mk ?_
    refine EndVC.mk _ rfl _ _ ⟨rfl, rfl⟩ ⟨[], rfl, rfl, ⟨⟨rfl, ?_⟩, trivial⟩, trivial⟩
    simp only [tickF, if_pos h]
  · refine Br.mk (fun h' => ?_) (fun h' => ?_)
    · refine Rng.ok (by simp only [inR]; omega) ?_
      repeat refine Mm.mk ?_
      refine EndVC.mk _ rfl _ _ ⟨rfl, rfl⟩ ⟨[], rfl, rfl, ⟨⟨rfl, ?_⟩, trivial⟩, trivial⟩
      simp only [tickF, if_neg h, if_pos h']
    · refine Rng.ok (by simp only [inR]; omega) ?_
      repeat refine Mm.mk ?_
      refine EndVC.mk _ rfl _ _ ⟨rfl, rfl⟩ ⟨[], rfl, rfl, ⟨⟨rfl, ?_⟩, trivial⟩, trivial⟩
      simp only [tickF, if_neg h, if_neg h']
theorem s20 (m : Mac) : PSpec Try.prog 20 [m.x] (.x (I m.chk)) := by
  refine spec_of pMix (O := []) Try.func20 (c := bodyOf Try.f20) rfl (by kernel_rfl) (by kernel_rfl) Try.ntmps20 (res := [.tmp 2]) (by kernel_rfl) ?_
  have bad : ¬ m.ok → (2 : Int) = m.chk := fun h => (Mac.chk2 h).symm
  repeat refine Mm.mk ?_
  try refine JoinVC.on ?_
  refine Br.mk (fun h1 => ?_) (fun h1 => ?_)
  · repeat refine Mm.mk ?_
    refine EndVC.mk _ rfl _ _ ⟨rfl, rfl⟩ ⟨[], rfl, rfl, ⟨⟨rfl, ?_⟩, trivial⟩, trivial⟩
    exact bad (by simp only [Mac.ok]; omega)
  repeat refine Mm.mk ?_
  try refine JoinVC.on ?_
  refine Br.mk (fun h2 => ?_) (fun h2 => ?_)
  · repeat refine Mm.mk ?_
    refine EndVC.mk _ rfl _ _ ⟨rfl, rfl⟩ ⟨[], rfl, rfl, ⟨⟨rfl, ?_⟩, trivial⟩, trivial⟩
    exact bad (by simp only [Mac.ok]; omega)
  repeat refine Mm.mk ?_
  try refine JoinVC.on ?_
  refine Br.mk (fun h3 => ?_) (fun h3 => ?_)
  · repeat refine Mm.mk ?_
    refine EndVC.mk _ rfl _ _ ⟨rfl, rfl⟩ ⟨[], rfl, rfl, ⟨⟨rfl, ?_⟩, trivial⟩, trivial⟩
    exact bad (by simp only [Mac.ok]; omega)
  repeat refine Mm.mk ?_
  try refine JoinVC.on ?_
  refine Br.mk (fun h4 => ?_) (fun h4 => ?_)
  · repeat refine Mm.mk ?_
    refine EndVC.mk _ rfl _ _ ⟨rfl, rfl⟩ ⟨[], rfl, rfl, ⟨⟨rfl, ?_⟩, trivial⟩, trivial⟩
    exact bad (by simp only [Mac.ok]; omega)
  repeat refine Mm.mk ?_
  try refine JoinVC.on ?_
  refine Br.mk (fun h5 => ?_) (fun h5 => ?_)
  · repeat refine Mm.mk ?_
    refine EndVC.mk _ rfl _ _ ⟨rfl, rfl⟩ ⟨[], rfl, rfl, ⟨⟨rfl, ?_⟩, trivial⟩, trivial⟩
    exact bad (by simp only [Mac.ok]; omega)
  repeat refine Mm.mk ?_
  conv => whnf
  first | refine CallVC.pure rfl (s56 _ _ _) ?_ | refine CallVC0.pure rfl (s56 _ _ _) ?_
  repeat refine Mm.mk ?_
  try refine JoinVC.on ?_
  refine Br.mk (fun h6 => ?_) (fun h6 => ?_)
  · repeat refine Mm.mk ?_
    refine EndVC.mk _ rfl _ _ ⟨rfl, rfl⟩ ⟨[], rfl, rfl, ⟨⟨rfl, ?_⟩, trivial⟩, trivial⟩
    exact bad (by simp only [Mac.ok]; omega)
  repeat refine Mm.mk ?_
  conv => whnf
  first | refine CallVC.pure rfl (s56 _ _ _) ?_ | refine CallVC0.pure rfl (s56 _ _ _) ?_
  repeat refine Mm.mk ?_
  try refine JoinVC.on ?_
  refine Br.mk (fun h7 => ?_) (fun h7 => ?_)
  · repeat refine Mm.mk ?_
    refine EndVC.mk _ rfl _ _ ⟨rfl, rfl⟩ ⟨[], rfl, rfl, ⟨⟨rfl, ?_⟩, trivial⟩, trivial⟩
    exact bad (by simp only [Mac.ok]; omega)
  repeat refine Mm.mk ?_
  conv => whnf
  first | refine CallVC.pure rfl (s56 _ _ _) ?_ | refine CallVC0.pure rfl (s56 _ _ _) ?_
  repeat refine Mm.mk ?_
  try refine JoinVC.on ?_
  refine Br.mk (fun h8 => ?_) (fun h8 => ?_)
  · repeat refine Mm.mk ?_
    refine EndVC.mk _ rfl _ _ ⟨rfl, rfl⟩ ⟨[], rfl, rfl, ⟨⟨rfl, ?_⟩, trivial⟩, trivial⟩
    exact bad (by simp only [Mac.ok]; omega)
  repeat refine Mm.mk ?_
  conv => whnf
  first | refine CallVC.pure rfl (s56 _ _ _) ?_ | refine CallVC0.pure rfl (s56 _ _ _) ?_
  repeat refine Mm.mk ?_
  try refine JoinVC.on ?_
  refine Br.mk (fun h9 => ?_) (fun h9 => ?_)
  · repeat refine Mm.mk ?_
    refine EndVC.mk _ rfl _ _ ⟨rfl, rfl⟩ ⟨[], rfl, rfl, ⟨⟨rfl, ?_⟩, trivial⟩, trivial⟩
    exact bad (by simp only [Mac.ok]; omega)
  repeat refine Mm.mk ?_
  conv => whnf
  first | refine CallVC.pure rfl (s56 _ _ _) ?_ | refine CallVC0.pure rfl (s56 _ _ _) ?_
  repeat refine Mm.mk ?_
  try refine JoinVC.on ?_
  refine Br.mk (fun h10 => ?_) (fun h10 => ?_)
  · repeat refine Mm.mk ?_
    refine EndVC.mk _ rfl _ _ ⟨rfl, rfl⟩ ⟨[], rfl, rfl, ⟨⟨rfl, ?_⟩, trivial⟩, trivial⟩
    exact bad (by simp only [Mac.ok]; omega)
  repeat refine Mm.mk ?_
  refine EndVC.mk _ rfl _ _ ⟨rfl, rfl⟩ ⟨[], rfl, rfl, ⟨⟨rfl, ?_⟩, trivial⟩, trivial⟩
  exact (Mac.chk0 (by simp only [Mac.ok]; omega)).symm
theorem s21 (m : Mac) : PSpec Try.prog 21 [m.x] (.x (I m.chk)) := by
  refine spec_of pMix (O := []) Try.func21 (c := bodyOf Try.f21) rfl (by kernel_rfl) (by kernel_rfl) Try.ntmps21 (res := [.tmp 2]) (by kernel_rfl) ?_
  have bad : ¬ m.ok → (2 : Int) = m.chk := fun h => (Mac.chk2 h).symm
  repeat refine Mm.mk ?_
  try refine JoinVC.on ?_
  refine Br.mk (fun h1 => ?_) (fun h1 => ?_)
  · repeat refine Mm.mk ?_
    refine EndVC.mk _ rfl _ _ ⟨rfl, rfl⟩ ⟨[], rfl, rfl, ⟨⟨rfl, ?_⟩, trivial⟩, trivial⟩
    exact bad (by simp only [Mac.ok]; omega)
  repeat refine Mm.mk ?_
  try refine JoinVC.on ?_
  refine Br.mk (fun h2 => ?_) (fun h2 => ?_)
  · repeat refine Mm.mk ?_
    refine EndVC.mk _ rfl _ _ ⟨rfl, rfl⟩ ⟨[], rfl, rfl, ⟨⟨rfl, ?_⟩, trivial⟩, trivial⟩
    exact bad (by simp only [Mac.ok]; omega)
  repeat refine Mm.mk ?_
  try refine JoinVC.on ?_
  refine Br.mk (fun h3 => ?_) (fun h3 => ?_)
  · repeat refine Mm.mk ?_
    refine EndVC.mk _ rfl _ _ ⟨rfl, rfl⟩ ⟨[], rfl, rfl, ⟨⟨rfl, ?_⟩, trivial⟩, trivial⟩
    exact bad (by simp only [Mac.ok]; omega)
  repeat refine Mm.mk ?_
  try refine JoinVC.on ?_
  refine Br.mk (fun h4 => ?_) (fun h4 => ?_)
  · repeat refine Mm.mk ?_
    refine EndVC.mk _ rfl _ _ ⟨rfl, rfl⟩ ⟨[], rfl, rfl, ⟨⟨rfl, ?_⟩, trivial⟩, trivial⟩
    exact bad (by simp only [Mac.ok]; omega)
  repeat refine Mm.mk ?_
  try refine JoinVC.on ?_
  refine Br.mk (fun h5 => ?_) (fun h5 => ?_)
  · repeat refine Mm.mk ?_
    refine EndVC.mk _ rfl _ _ ⟨rfl, rfl⟩ ⟨[], rfl, rfl, ⟨⟨rfl, ?_⟩, trivial⟩, trivial⟩
    exact bad (by simp only [Mac.ok]; omega)
  repeat refine Mm.mk ?_
  conv => whnf
  first | refine CallVC.pure rfl (s58 _ _ _) ?_ | refine CallVC0.pure rfl (s58 _ _ _) ?_
  repeat refine Mm.mk ?_
  try refine JoinVC.on ?_
  refine Br.mk (fun h6 => ?_) (fun h6 => ?_)
  · repeat refine Mm.mk ?_
    refine EndVC.mk _ rfl _ _ ⟨rfl, rfl⟩ ⟨[], rfl, rfl, ⟨⟨rfl, ?_⟩, trivial⟩, trivial⟩
    exact bad (by simp only [Mac.ok]; omega)
  repeat refine Mm.mk ?_
  conv => whnf
  first | refine CallVC.pure rfl (s58 _ _ _) ?_ | refine CallVC0.pure rfl (s58 _ _ _) ?_
  repeat refine Mm.mk ?_
  try refine JoinVC.on ?_
  refine Br.mk (fun h7 => ?_) (fun h7 => ?_)
  · repeat refine Mm.mk ?_
    refine EndVC.mk _ rfl _ _ ⟨rfl, rfl⟩ ⟨[], rfl, rfl, ⟨⟨rfl, ?_⟩, trivial⟩, trivial⟩
    exact bad (by simp only [Mac.ok]; omega)
  repeat refine Mm.mk ?_
  conv => whnf
  first | refine CallVC.pure rfl (s58 _ _ _) ?_ | refine CallVC0.pure rfl (s58 _ _ _) ?_
  repeat refine Mm.mk ?_
  try refine JoinVC.on ?_
  refine Br.mk (fun h8 => ?_) (fun h8 => ?_)
  · repeat refine Mm.mk ?_
    refine EndVC.mk _ rfl _ _ ⟨rfl, rfl⟩ ⟨[], rfl, rfl, ⟨⟨rfl, ?_⟩, trivial⟩, trivial⟩
    exact bad (by simp only [Mac.ok]; omega)
  repeat refine Mm.mk ?_
  conv => whnf
  first | refine CallVC.pure rfl (s58 _ _ _) ?_ | refine CallVC0.pure rfl (s58 _ _ _) ?_
  repeat refine Mm.mk ?_
  try refine JoinVC.on ?_
  refine Br.mk (fun h9 => ?_) (fun h9 => ?_)
  · repeat refine Mm.mk ?_
    refine EndVC.mk _ rfl _ _ ⟨rfl, rfl⟩ ⟨[], rfl, rfl, ⟨⟨rfl, ?_⟩, trivial⟩, trivial⟩
    exact bad (by simp only [Mac.ok]; omega)
  repeat refine Mm.mk ?_
  conv => whnf
  first | refine CallVC.pure rfl (s58 _ _ _) ?_ | refine CallVC0.pure rfl (s58 _ _ _) ?_
  repeat refine Mm.mk ?_
  try refine JoinVC.on ?_
  refine Br.mk (fun h10 => ?_) (fun h10 => ?_)
  · repeat refine Mm.mk ?_
    refine EndVC.mk _ rfl _ _ ⟨rfl, rfl⟩ ⟨[], rfl, rfl, ⟨⟨rfl, ?_⟩, trivial⟩, trivial⟩
    exact bad (by simp only [Mac.ok]; omega)
  repeat refine Mm.mk ?_
  refine EndVC.mk _ rfl _ _ ⟨rfl, rfl⟩ ⟨[], rfl, rfl, ⟨⟨rfl, ?_⟩, trivial⟩, trivial⟩
  exact (Mac.chk0 (by simp only [Mac.ok]; omega)).symm
theorem e20 : EntersF Try.prog 20 := enters_of Try.func20 (c := bodyOf Try.f20) (by kernel_rfl) rfl
theorem e21 : EntersF Try.prog 21 := enters_of Try.func21 (c := bodyOf Try.f21) (by kernel_rfl) rfl
theorem e57 : EntersF Try.prog 57 := enters_of Try.func57 (c := bodyOf Try.f57) (by kernel_rfl) rfl
theorem e59 : EntersF Try.prog 59 := enters_of Try.func59 (c := bodyOf Try.f59) (by kernel_rfl) rfl
theorem Mac.chk_cases (m : Mac) : (m.ok ∧ m.chk = 0) ∨ (¬ m.ok ∧ m.chk = 2) := by
  by_cases h : m.ok
  · exact .inl ⟨h, Mac.chk0 h⟩
  · exact .inr ⟨h, Mac.chk2 h⟩
/-- What Tick returns. -/
def inTick (m : Mac) (t v : Int) : Prop := m.room ≤ t ∧ t ≤ m.top ∧ 0 ≤ v ∧ v ≤ 2
instance (m : Mac) (t v : Int) : Decidable (inTick m t v) := by unfold inTick; exact inferInstance
noncomputable def Mac.tickV (m : Mac) (t v : Int) : Int := if m.chk = 0 then (if inTick m t v then tickF m t v else 0) else 0
noncomputable def Mac.tickE (m : Mac) (t v : Int) : Int := if m.chk = 0 then (if inTick m t v then 0 else 3) else m.chk
theorem tick_bad {m : Mac} {t v : Int} (h : ¬ m.chk = 0) : (0 : Int) = m.tickV t v ∧ m.chk = m.tickE t v := ⟨(if_neg h).symm, (if_neg h).symm⟩
theorem tick_out {m : Mac} {t v : Int} (h : ¬ ¬ m.chk = 0) (h1 : ¬ inTick m t v) : (0 : Int) = m.tickV t v ∧ (3 : Int) = m.tickE t v := by
  have h := Decidable.not_not.1 h
  exact ⟨by rw [Mac.tickV, if_pos h, if_neg h1], by rw [Mac.tickE, if_pos h, if_neg h1]⟩
theorem tick_in {m : Mac} {t v : Int} (h : ¬ ¬ m.chk = 0) (h1 : inTick m t v) : tickF m t v = m.tickV t v ∧ (0 : Int) = m.tickE t v := by
  have h := Decidable.not_not.1 h
  exact ⟨by rw [Mac.tickV, if_pos h, if_pos h1], by rw [Mac.tickE, if_pos h, if_pos h1]⟩
theorem s18 (m : Mac) (t v : Int) : PSpec Try.prog 18 [m.x, I t, I v] (.tup [I (m.tickV t v), I (m.tickE t v)]) := by
  refine spec_of pMix (O := []) Try.func18 (c := bodyOf Try.f18) rfl (by kernel_rfl) (by kernel_rfl) Try.ntmps18 (res := [.tmp 6, .tmp 7]) (by kernel_rfl) ?_
  repeat refine Mm.mk ?_
  conv => whnf
  first | refine CallVC.pure rfl (s20 m) ?_ | refine CallVC0.pure rfl (s20 m) ?_
  repeat refine Mm.mk ?_
  try refine JoinVC.on ?_
  refine Br.mk (fun h => ?_) (fun h => ?_)
  · repeat refine Mm.mk ?_
    refine EndVC.mk _ rfl _ _ ⟨rfl, rfl⟩ ⟨[], rfl, rfl, ⟨⟨⟨rfl, ?_⟩, ⟨rfl, ?_⟩, trivial⟩, trivial⟩, trivial⟩
    · exact (tick_bad h).1
    · exact (tick_bad h).2
  repeat refine Mm.mk ?_
  conv => whnf
  first | refine CallVC.pure rfl (s56 _ _ _) ?_ | refine CallVC0.pure rfl (s56 _ _ _) ?_
  repeat refine Mm.mk ?_
  try refine JoinVC.on ?_
  refine Br.mk (fun h1 => ?_) (fun h1 => ?_)
  · repeat refine Mm.mk ?_
    refine EndVC.mk _ rfl _ _ ⟨rfl, rfl⟩ ⟨[], rfl, rfl, ⟨⟨⟨rfl, ?_⟩, ⟨rfl, ?_⟩, trivial⟩, trivial⟩, trivial⟩
    · exact (tick_out h (by unfold inTick; omega)).1
    · exact (tick_out h (by unfold inTick; omega)).2
  repeat refine Mm.mk ?_
  conv => whnf
  first | refine CallVC.pure rfl (s56 _ _ _) ?_ | refine CallVC0.pure rfl (s56 _ _ _) ?_
  repeat refine Mm.mk ?_
  try refine JoinVC.on ?_
  refine Br.mk (fun h2 => ?_) (fun h2 => ?_)
  · repeat refine Mm.mk ?_
    refine EndVC.mk _ rfl _ _ ⟨rfl, rfl⟩ ⟨[], rfl, rfl, ⟨⟨⟨rfl, ?_⟩, ⟨rfl, ?_⟩, trivial⟩, trivial⟩, trivial⟩
    · exact (tick_out h (by unfold inTick; omega)).1
    · exact (tick_out h (by unfold inTick; omega)).2
  repeat refine Mm.mk ?_
  conv => whnf
  first | refine CallVC.pure rfl (s57 m t v (by rcases m.chk_cases with h3 | h3; exact h3.1; exact absurd (fun e => absurd (h3.2.symm.trans e) (by decide)) h) (by omega) (by omega)) ?_ | refine CallVC0.pure rfl (s57 m t v (by rcases m.chk_cases with h3 | h3; exact h3.1; exact absurd (fun e => absurd (h3.2.symm.trans e) (by decide)) h) (by omega) (by omega)) ?_
  repeat refine Mm.mk ?_
  refine EndVC.mk _ rfl _ _ ⟨rfl, rfl⟩ ⟨[], rfl, rfl, ⟨⟨⟨rfl, ?_⟩, ⟨rfl, ?_⟩, trivial⟩, trivial⟩, trivial⟩
  · exact (tick_in h (by unfold inTick; omega)).1
  · exact (tick_in h (by unfold inTick; omega)).2
theorem s19 (m : Mac) (t v : Int) : PSpec Try.prog 19 [m.x, I t, I v] (.tup [I (m.tickV t v), I (m.tickE t v)]) := by
  refine spec_of pMix (O := []) Try.func19 (c := bodyOf Try.f19) rfl (by kernel_rfl) (by kernel_rfl) Try.ntmps19 (res := [.tmp 6, .tmp 7]) (by kernel_rfl) ?_
  repeat refine Mm.mk ?_
  conv => whnf
  first | refine CallVC.pure rfl (s21 m) ?_ | refine CallVC0.pure rfl (s21 m) ?_
  repeat refine Mm.mk ?_
  try refine JoinVC.on ?_
  refine Br.mk (fun h => ?_) (fun h => ?_)
  · repeat refine Mm.mk ?_
    refine EndVC.mk _ rfl _ _ ⟨rfl, rfl⟩ ⟨[], rfl, rfl, ⟨⟨⟨rfl, ?_⟩, ⟨rfl, ?_⟩, trivial⟩, trivial⟩, trivial⟩
    · exact (tick_bad h).1
    · rcases m.chk_cases with h3 | h3
      · exact absurd h3.2 h
      · exact h3.2.symm.trans (tick_bad h).2
  repeat refine Mm.mk ?_
  conv => whnf
  first | refine CallVC.pure rfl (s58 _ _ _) ?_ | refine CallVC0.pure rfl (s58 _ _ _) ?_
  repeat refine Mm.mk ?_
  try refine JoinVC.on ?_
  refine Br.mk (fun h1 => ?_) (fun h1 => ?_)
  · repeat refine Mm.mk ?_
    refine EndVC.mk _ rfl _ _ ⟨rfl, rfl⟩ ⟨[], rfl, rfl, ⟨⟨⟨rfl, ?_⟩, ⟨rfl, ?_⟩, trivial⟩, trivial⟩, trivial⟩
    · exact (tick_out h (by unfold inTick; omega)).1
    · exact (tick_out h (by unfold inTick; omega)).2
  repeat refine Mm.mk ?_
  try refine JoinVC.on ?_
  refine Br.mk (fun h2 => ?_) (fun h2 => ?_)
  · repeat refine Mm.mk ?_
    refine EndVC.mk _ rfl _ _ ⟨rfl, rfl⟩ ⟨[], rfl, rfl, ⟨⟨⟨rfl, ?_⟩, ⟨rfl, ?_⟩, trivial⟩, trivial⟩, trivial⟩
    · exact (tick_out h (by unfold inTick; omega)).1
    · exact (tick_out h (by unfold inTick; omega)).2
  repeat refine Mm.mk ?_
  try refine JoinVC.on ?_
  refine Br.mk (fun h3 => ?_) (fun h3 => ?_)
  · repeat refine Mm.mk ?_
    refine EndVC.mk _ rfl _ _ ⟨rfl, rfl⟩ ⟨[], rfl, rfl, ⟨⟨⟨rfl, ?_⟩, ⟨rfl, ?_⟩, trivial⟩, trivial⟩, trivial⟩
    · exact (tick_out h (by unfold inTick; omega)).1
    · exact (tick_out h (by unfold inTick; omega)).2
  repeat refine Mm.mk ?_
  conv => whnf
  first | refine CallVC.pure rfl (s59 m t v (by rcases m.chk_cases with h3 | h3; exact h3.1; exact absurd (fun e => absurd (h3.2.symm.trans e) (by decide)) h) (by omega) (by omega)) ?_ | refine CallVC0.pure rfl (s59 m t v (by rcases m.chk_cases with h3 | h3; exact h3.1; exact absurd (fun e => absurd (h3.2.symm.trans e) (by decide)) h) (by omega) (by omega)) ?_
  repeat refine Mm.mk ?_
  refine EndVC.mk _ rfl _ _ ⟨rfl, rfl⟩ ⟨[], rfl, rfl, ⟨⟨⟨rfl, ?_⟩, ⟨rfl, ?_⟩, trivial⟩, trivial⟩, trivial⟩
  · exact (tick_in h (by unfold inTick; omega)).1
  · exact (tick_in h (by unfold inTick; omega)).2
end Go.Sx

namespace Go.Sx
open Go Go.Proofs
theorem mul_bd {a b : Int} {A B : Nat} (ha : a.natAbs ≤ A) (hb : b.natAbs ≤ B) : (a * b).natAbs ≤ A * B := by
  rw [Int.natAbs_mul]; exact Nat.mul_le_mul ha hb
structure Spot where
  x : Int
  y : Int
@[reducible] def Spot.v (p : Spot) : XV := .agg [.int .i64 p.x, .int .i64 p.y]
@[reducible] def Spot.row (p : Spot) : List Cell := [.int p.x, .int p.y]
/-- A coordinate's amount. -/
def Spot.ok (p : Spot) : Prop := p.x.natAbs ≤ 262144 ∧ p.y.natAbs ≤ 262144
set_option maxRecDepth 10000
theorem e67 : EntersF Try.prog 67 := enters_of Try.func67 (c := bodyOf Try.f67) (by kernel_rfl) rfl
theorem e69 : EntersF Try.prog 69 := enters_of Try.func69 (c := bodyOf Try.f69) (by kernel_rfl) rfl
theorem e70 : EntersF Try.prog 70 := enters_of Try.func70 (c := bodyOf Try.f70) (by kernel_rfl) rfl
theorem e71 : EntersF Try.prog 71 := enters_of Try.func71 (c := bodyOf Try.f71) (by kernel_rfl) rfl
theorem e68 : EntersF Try.prog 68 := enters_of Try.func68 (c := bodyOf Try.f68) (by kernel_rfl) rfl
theorem e31 : EntersF Try.prog 31 := enters_of Try.func31 (c := bodyOf Try.f31) (by kernel_rfl) rfl
def sq (p : Spot) : Int := p.x * p.x + p.y * p.y
theorem sq_bd {p : Spot} (h : p.ok) : (sq p).natAbs ≤ 137438953472 := by
  have h1 := mul_bd h.1 h.1
  have h2 := mul_bd h.2 h.2
  unfold sq; omega
theorem s67 (p : Spot) (h : p.ok) : PSpec Try.prog 67 [p.v] (.x (I (sq p))) := by
  have h1 := mul_bd h.1 h.1
  have h2 := mul_bd h.2 h.2
  refine spec_of pMix (O := []) Try.func67 (c := bodyOf Try.f67) rfl (by kernel_rfl) (by kernel_rfl) Try.ntmps67 (res := [.tmp 2]) (by kernel_rfl) ?_
  repeat refine Mm.mk ?_
  refine Rng.ok (by simp only [inR]; omega) ?_
  repeat refine Mm.mk ?_
  refine Rng.ok (by simp only [inR]; omega) ?_
  repeat refine Mm.mk ?_
  refine Rng.ok (by simp only [inR]; omega) ?_
  repeat refine Mm.mk ?_
  refine EndVC.mk _ rfl _ _ ⟨rfl, rfl⟩ ⟨[], rfl, rfl, ⟨⟨rfl, ?_⟩, trivial⟩, trivial⟩
  rfl
def g2 (p q r : Spot) : Int := p.x * (q.y - r.y)
def g3 (p q r : Spot) : Int := sq p * (q.y - r.y)
def g4 (p q r : Spot) : Int := sq p * (r.x - q.x)
theorem g2_bd {p q r : Spot} (hp : p.ok) (hq : q.ok) (hr : r.ok) : (g2 p q r).natAbs ≤ 72057594037927936 := by
  obtain ⟨h1, h2⟩ := hp; obtain ⟨h3, h4⟩ := hq; obtain ⟨h5, h6⟩ := hr
  have := mul_bd (B := 524288) h1 (show (q.y - r.y).natAbs ≤ 524288 by omega)
  unfold g2; omega
theorem g3_bd {p q r : Spot} (hp : p.ok) (hq : q.ok) (hr : r.ok) : (g3 p q r).natAbs ≤ 72057594037927936 := by
  have h0 := sq_bd hp
  obtain ⟨h3, h4⟩ := hq; obtain ⟨h5, h6⟩ := hr
  have := mul_bd (B := 524288) h0 (show (q.y - r.y).natAbs ≤ 524288 by omega)
  unfold g3; omega
theorem g4_bd {p q r : Spot} (hp : p.ok) (hq : q.ok) (hr : r.ok) : (g4 p q r).natAbs ≤ 72057594037927936 := by
  have h0 := sq_bd hp
  obtain ⟨h3, h4⟩ := hq; obtain ⟨h5, h6⟩ := hr
  have := mul_bd (B := 524288) h0 (show (r.x - q.x).natAbs ≤ 524288 by omega)
  unfold g4; omega
theorem s69 (p q r : Spot) (hp : p.ok) (hq : q.ok) (hr : r.ok) : PSpec Try.prog 69 [p.v, q.v, r.v] (.x (I (g2 p q r))) := by
  have h := g2_bd hp hq hr
  unfold g2 at h
  obtain ⟨h1, h2⟩ := hp; obtain ⟨h3, h4⟩ := hq; obtain ⟨h5, h6⟩ := hr
  refine spec_of pMix (O := []) Try.func69 (c := bodyOf Try.f69) rfl (by kernel_rfl) (by kernel_rfl) Try.ntmps69 (res := [.tmp 6]) (by kernel_rfl) ?_
  repeat refine Mm.mk ?_
  refine Rng.ok (by simp only [inR]; omega) ?_
  repeat refine Mm.mk ?_
  refine Rng.ok (by simp only [inR]; omega) ?_
  repeat refine Mm.mk ?_
  refine EndVC.mk _ rfl _ _ ⟨rfl, rfl⟩ ⟨[], rfl, rfl, ⟨⟨rfl, ?_⟩, trivial⟩, trivial⟩
  rfl
/-- The box of a function that a closure reads. -/
@[reducible] def fbox (f : FuncId) : XV := .one (.lel true [.fn] [[.fn f]] 0 0)
theorem s70 (p q r : Spot) (hp : p.ok) (hq : q.ok) (hr : r.ok) : PSpec Try.prog 70 [p.v, q.v, r.v, fbox 67] (.x (I (g3 p q r))) := by
  have h := g3_bd hp hq hr
  unfold g3 at h
  have hp' := hp
  obtain ⟨h1, h2⟩ := hp; obtain ⟨h3, h4⟩ := hq; obtain ⟨h5, h6⟩ := hr
  refine spec_of pMix (O := [(1, ([], [⟨0, [], []⟩, ⟨1, [], []⟩, ⟨3, [], []⟩, ⟨4, [], []⟩, ⟨5, [], []⟩, ⟨6, [], []⟩, ⟨7, [], []⟩, ⟨2, [3, 4, 5, 6, 7], []⟩, ⟨8, [], []⟩, ⟨9, [], []⟩]))]) Try.func70 (c := bodyOf Try.f70) rfl (by kernel_rfl) (by kernel_rfl) Try.ntmps70 (res := [.tmp 7]) (by kernel_rfl) ?_
  repeat' (conv => whnf
           first
           | refine Rng.ok (by simp only [inR]; omega) ?_
           | refine Ob.mk (by first | omega | (simp; done) | decide | (simp; omega)) ?_
           | refine Ob.mk (show eqOK _ _ = true from by kernel_rfl) ?_
           | refine Val.mk _ (shr_val (by simp; rfl)) ?_
           | refine JoinVC.on ?_
           | refine Nils.mk (fun h => ?_) ?_
           | refine Val.mk _ (Int.tmod_eq_emod_of_nonneg (by omega)) ?_
           | refine Val.mk _ (Int.tdiv_eq_ediv_of_nonneg (by omega)) ?_
           | refine Mm.mk ?_
           | refine CallVC.pure rfl (s67 p hp') ?_
           | refine CallVC0.pure rfl (s67 p hp') ?_
           | (refine Br.mk (fun h => ?_) (fun h => ?_) <;> first | (exfalso; omega; done) | (exfalso; simp at h; done) | skip))
  repeat refine Mm.mk ?_
  refine EndVC.mk _ rfl _ _ ⟨rfl, rfl⟩ ⟨[], rfl, rfl, ⟨⟨rfl, ?_⟩, trivial⟩, trivial⟩
  rfl
theorem s71 (p q r : Spot) (hp : p.ok) (hq : q.ok) (hr : r.ok) : PSpec Try.prog 71 [p.v, q.v, r.v, fbox 67] (.x (I (g4 p q r))) := by
  have h := g4_bd hp hq hr
  unfold g4 at h
  have hp' := hp
  obtain ⟨h1, h2⟩ := hp; obtain ⟨h3, h4⟩ := hq; obtain ⟨h5, h6⟩ := hr
  refine spec_of pMix (O := [(1, ([], [⟨0, [], []⟩, ⟨1, [], []⟩, ⟨3, [], []⟩, ⟨4, [], []⟩, ⟨5, [], []⟩, ⟨6, [], []⟩, ⟨7, [], []⟩, ⟨2, [3, 4, 5, 6, 7], []⟩, ⟨8, [], []⟩, ⟨9, [], []⟩]))]) Try.func71 (c := bodyOf Try.f71) rfl (by kernel_rfl) (by kernel_rfl) Try.ntmps71 (res := [.tmp 7]) (by kernel_rfl) ?_
  repeat' (conv => whnf
           first
           | refine Rng.ok (by simp only [inR]; omega) ?_
           | refine Ob.mk (by first | omega | (simp; done) | decide | (simp; omega)) ?_
           | refine Ob.mk (show eqOK _ _ = true from by kernel_rfl) ?_
           | refine Val.mk _ (shr_val (by simp; rfl)) ?_
           | refine JoinVC.on ?_
           | refine Nils.mk (fun h => ?_) ?_
           | refine Val.mk _ (Int.tmod_eq_emod_of_nonneg (by omega)) ?_
           | refine Val.mk _ (Int.tdiv_eq_ediv_of_nonneg (by omega)) ?_
           | refine Mm.mk ?_
           | refine CallVC.pure rfl (s67 p hp') ?_
           | refine CallVC0.pure rfl (s67 p hp') ?_
           | (refine Br.mk (fun h => ?_) (fun h => ?_) <;> first | (exfalso; omega; done) | (exfalso; simp at h; done) | skip))
  repeat refine Mm.mk ?_
  refine EndVC.mk _ rfl _ _ ⟨rfl, rfl⟩ ⟨[], rfl, rfl, ⟨⟨rfl, ?_⟩, trivial⟩, trivial⟩
  rfl

def tsum (g : Spot → Spot → Spot → Int) (a b c : Spot) : Nat → Int
  | 0 => 0
  | 1 => g a b c
  | 2 => g a b c + g b c a
  | _ => g a b c + g b c a + g c a b
@[reducible] def spots (a b c : Spot) : XV := .one (.lst true [.int .i64, .int .i64] [a.row, b.row, c.row])
theorem s68a (f : FuncId) (g : Spot → Spot → Spot → Int) (a b c : Spot) (hf : ∀ p q r : Spot, p.ok → q.ok → r.ok → PSpec Try.prog f [p.v, q.v, r.v] (.x (I (g p q r))))
    (hg : ∀ p q r : Spot, p.ok → q.ok → r.ok → (g p q r).natAbs ≤ 72057594037927936) (ha : a.ok) (hb : b.ok) (hc : c.ok) : PSpec Try.prog 68 [.one (.fn f []), spots a b c] (.x (I (tsum g a b c 3))) := by
  have b1 := hg a b c ha hb hc
  have b2 := hg b c a hb hc ha
  have b3 := hg c a b hc ha hb
  refine spec_of pMix (O := [(5, ([], [⟨0, [], []⟩, ⟨1, [], []⟩, ⟨2, [], []⟩, ⟨3, [], []⟩, ⟨4, [], []⟩, ⟨5, [], []⟩, ⟨6, [], []⟩, ⟨7, [], []⟩, ⟨8, [], []⟩, ⟨9, [], []⟩, ⟨10, [], []⟩, ⟨11, [], []⟩, ⟨12, [], []⟩, ⟨13, [], []⟩, ⟨14, [], []⟩, ⟨15, [], []⟩, ⟨16, [], []⟩, ⟨17, [], []⟩, ⟨18, [], []⟩, ⟨19, [], []⟩, ⟨20, [], []⟩, ⟨21, [], []⟩, ⟨22, [0], []⟩, ⟨23, [], []⟩, ⟨24, [], []⟩]))]) Try.func68 (c := bodyOf Try.f68) rfl (by kernel_rfl) (by kernel_rfl) Try.ntmps68 (res := [.tmp 4]) (by kernel_rfl) ?_
  have e3 : (([a.row, b.row, c.row] : Arr).length : Int) = 3 := rfl
  refine LoopVC.un 4 ?_
  repeat refine Mm.mk ?_
  try refine JoinVC.on ?_
  refine Br.mk (fun h => ?_) (fun h => ?_)
  · repeat refine Mm.mk ?_
    refine Ob.mk (by simp) ?_
    repeat refine Mm.mk ?_
    refine Rng.ok (by simp only [inR]; omega) ?_
    repeat refine Mm.mk ?_
    refine Ob.mk (by simp) ?_
    conv => whnf
    refine Val.mk (1) (by simp) ?_
    repeat refine Mm.mk ?_
    refine Ob.mk (by simp) ?_
    repeat refine Mm.mk ?_
    refine Rng.ok (by simp only [inR]; omega) ?_
    repeat refine Mm.mk ?_
    refine Ob.mk (by simp) ?_
    conv => whnf
    refine Val.mk (2) (by simp) ?_
    repeat refine Mm.mk ?_
    refine Ob.mk (by simp) ?_
    repeat refine Mm.mk ?_
    conv => whnf
    first | refine CallVC.pure rfl (hf a b c ha hb hc) ?_ | refine CallVC0.pure rfl (hf a b c ha hb hc) ?_
    repeat refine Mm.mk ?_
    refine Rng.ok (by simp only [inR]; omega) ?_
    repeat refine Mm.mk ?_
    refine Rng.ok (by simp only [inR]; omega) ?_
    repeat refine Mm.mk ?_
    try refine JoinVC.on ?_
    refine Br.mk (fun h => ?_) (fun h => ?_)
    · repeat refine Mm.mk ?_
      refine Ob.mk (by simp) ?_
      repeat refine Mm.mk ?_
      refine Rng.ok (by simp only [inR]; omega) ?_
      repeat refine Mm.mk ?_
      refine Ob.mk (by simp) ?_
      conv => whnf
      refine Val.mk (2) (by simp) ?_
      repeat refine Mm.mk ?_
      refine Ob.mk (by simp) ?_
      repeat refine Mm.mk ?_
      refine Rng.ok (by simp only [inR]; omega) ?_
      repeat refine Mm.mk ?_
      refine Ob.mk (by simp) ?_
      conv => whnf
      refine Val.mk (0) (by simp) ?_
      repeat refine Mm.mk ?_
      refine Ob.mk (by simp) ?_
      repeat refine Mm.mk ?_
      conv => whnf
      first | refine CallVC.pure rfl (hf b c a hb hc ha) ?_ | refine CallVC0.pure rfl (hf b c a hb hc ha) ?_
      repeat refine Mm.mk ?_
      refine Rng.ok (by simp only [inR]; omega) ?_
      repeat refine Mm.mk ?_
      refine Rng.ok (by simp only [inR]; omega) ?_
      repeat refine Mm.mk ?_
      try refine JoinVC.on ?_
      refine Br.mk (fun h => ?_) (fun h => ?_)
      · repeat refine Mm.mk ?_
        refine Ob.mk (by simp) ?_
        repeat refine Mm.mk ?_
        refine Rng.ok (by simp only [inR]; omega) ?_
        repeat refine Mm.mk ?_
        refine Ob.mk (by simp) ?_
        conv => whnf
        refine Val.mk (0) (by simp) ?_
        repeat refine Mm.mk ?_
        refine Ob.mk (by simp) ?_
        repeat refine Mm.mk ?_
        refine Rng.ok (by simp only [inR]; omega) ?_
        repeat refine Mm.mk ?_
        refine Ob.mk (by simp) ?_
        conv => whnf
        refine Val.mk (1) (by simp) ?_
        repeat refine Mm.mk ?_
        refine Ob.mk (by simp) ?_
        repeat refine Mm.mk ?_
        conv => whnf
        first | refine CallVC.pure rfl (hf c a b hc ha hb) ?_ | refine CallVC0.pure rfl (hf c a b hc ha hb) ?_
        repeat refine Mm.mk ?_
        refine Rng.ok (by simp only [inR]; omega) ?_
        repeat refine Mm.mk ?_
        refine Rng.ok (by simp only [inR]; omega) ?_
        repeat refine Mm.mk ?_
        try refine JoinVC.on ?_
        refine Br.mk (fun h => ?_) (fun h => ?_)
        · exact absurd h (by omega)
        · repeat refine Mm.mk ?_
          refine EndVC.mk _ rfl _ _ ⟨rfl, rfl⟩ ⟨[], rfl, rfl, ⟨⟨rfl, ?_⟩, trivial⟩, trivial⟩
          simp [tsum]
      · exact absurd (by omega) h
    · exact absurd (by omega) h
  · exact absurd (by omega) h
theorem s68b (f : FuncId) (g : Spot → Spot → Spot → Int) (a b c : Spot) (hf : ∀ p q r : Spot, p.ok → q.ok → r.ok → PSpec Try.prog f [p.v, q.v, r.v, fbox 67] (.x (I (g p q r))))
    (hg : ∀ p q r : Spot, p.ok → q.ok → r.ok → (g p q r).natAbs ≤ 72057594037927936) (ha : a.ok) (hb : b.ok) (hc : c.ok) : HSpec Try.prog 68 [.one (.fn f [(0, 0)]), spots a b c] [.box 123 [.fn 67 []]] (fun r m' => r = .x (I (tsum g a b c 3)) ∧ m' = [some (.box 123 [.fn 67 []])]) := by
  have b1 := hg a b c ha hb hc
  have b2 := hg b c a hb hc ha
  have b3 := hg c a b hc ha hb
  refine spec_of pMix (O := [(5, ([], [⟨0, [], []⟩, ⟨1, [], []⟩, ⟨2, [], []⟩, ⟨3, [], []⟩, ⟨4, [], []⟩, ⟨5, [], []⟩, ⟨6, [], []⟩, ⟨7, [], []⟩, ⟨8, [], []⟩, ⟨9, [], []⟩, ⟨10, [], []⟩, ⟨11, [], []⟩, ⟨12, [], []⟩, ⟨13, [], []⟩, ⟨14, [], []⟩, ⟨15, [], []⟩, ⟨16, [], []⟩, ⟨17, [], []⟩, ⟨18, [], []⟩, ⟨19, [], []⟩, ⟨20, [], []⟩, ⟨21, [], []⟩, ⟨22, [0], []⟩, ⟨23, [], []⟩, ⟨24, [], []⟩]))]) Try.func68 (c := bodyOf Try.f68) rfl (by kernel_rfl) (by kernel_rfl) Try.ntmps68 (res := [.tmp 4]) (by kernel_rfl) ?_
  have e3 : (([a.row, b.row, c.row] : Arr).length : Int) = 3 := rfl
  refine LoopVC.un 4 ?_
  repeat refine Mm.mk ?_
  try refine JoinVC.on ?_
  refine Br.mk (fun h => ?_) (fun h => ?_)
  · repeat refine Mm.mk ?_
    refine Ob.mk (by simp) ?_
    repeat refine Mm.mk ?_
    refine Rng.ok (by simp only [inR]; omega) ?_
    repeat refine Mm.mk ?_
    refine Ob.mk (by simp) ?_
    conv => whnf
    refine Val.mk (1) (by simp) ?_
    repeat refine Mm.mk ?_
    refine Ob.mk (by simp) ?_
    repeat refine Mm.mk ?_
    refine Rng.ok (by simp only [inR]; omega) ?_
    repeat refine Mm.mk ?_
    refine Ob.mk (by simp) ?_
    conv => whnf
    refine Val.mk (2) (by simp) ?_
    repeat refine Mm.mk ?_
    refine Ob.mk (by simp) ?_
    repeat refine Mm.mk ?_
    conv => whnf
    first | refine CallVC.pure rfl (hf a b c ha hb hc) ?_ | refine CallVC0.pure rfl (hf a b c ha hb hc) ?_
    repeat refine Mm.mk ?_
    refine Rng.ok (by simp only [inR]; omega) ?_
    repeat refine Mm.mk ?_
    refine Rng.ok (by simp only [inR]; omega) ?_
    repeat refine Mm.mk ?_
    try refine JoinVC.on ?_
    refine Br.mk (fun h => ?_) (fun h => ?_)
    · repeat refine Mm.mk ?_
      refine Ob.mk (by simp) ?_
      repeat refine Mm.mk ?_
      refine Rng.ok (by simp only [inR]; omega) ?_
      repeat refine Mm.mk ?_
      refine Ob.mk (by simp) ?_
      conv => whnf
      refine Val.mk (2) (by simp) ?_
      repeat refine Mm.mk ?_
      refine Ob.mk (by simp) ?_
      repeat refine Mm.mk ?_
      refine Rng.ok (by simp only [inR]; omega) ?_
      repeat refine Mm.mk ?_
      refine Ob.mk (by simp) ?_
      conv => whnf
      refine Val.mk (0) (by simp) ?_
      repeat refine Mm.mk ?_
      refine Ob.mk (by simp) ?_
      repeat refine Mm.mk ?_
      conv => whnf
      first | refine CallVC.pure rfl (hf b c a hb hc ha) ?_ | refine CallVC0.pure rfl (hf b c a hb hc ha) ?_
      repeat refine Mm.mk ?_
      refine Rng.ok (by simp only [inR]; omega) ?_
      repeat refine Mm.mk ?_
      refine Rng.ok (by simp only [inR]; omega) ?_
      repeat refine Mm.mk ?_
      try refine JoinVC.on ?_
      refine Br.mk (fun h => ?_) (fun h => ?_)
      · repeat refine Mm.mk ?_
        refine Ob.mk (by simp) ?_
        repeat refine Mm.mk ?_
        refine Rng.ok (by simp only [inR]; omega) ?_
        repeat refine Mm.mk ?_
        refine Ob.mk (by simp) ?_
        conv => whnf
        refine Val.mk (0) (by simp) ?_
        repeat refine Mm.mk ?_
        refine Ob.mk (by simp) ?_
        repeat refine Mm.mk ?_
        refine Rng.ok (by simp only [inR]; omega) ?_
        repeat refine Mm.mk ?_
        refine Ob.mk (by simp) ?_
        conv => whnf
        refine Val.mk (1) (by simp) ?_
        repeat refine Mm.mk ?_
        refine Ob.mk (by simp) ?_
        repeat refine Mm.mk ?_
        conv => whnf
        first | refine CallVC.pure rfl (hf c a b hc ha hb) ?_ | refine CallVC0.pure rfl (hf c a b hc ha hb) ?_
        repeat refine Mm.mk ?_
        refine Rng.ok (by simp only [inR]; omega) ?_
        repeat refine Mm.mk ?_
        refine Rng.ok (by simp only [inR]; omega) ?_
        repeat refine Mm.mk ?_
        try refine JoinVC.on ?_
        refine Br.mk (fun h => ?_) (fun h => ?_)
        · exact absurd h (by omega)
        · repeat refine Mm.mk ?_
          refine EndVC.mk _ rfl _ _ ⟨rfl, rfl⟩ ?_
          refine ⟨[some 0], rfl, rfl, ?_, ?_⟩ <;> repeat' (first | exact trivial | exact rfl | exact Iff.rfl | apply And.intro)
          simp [tsum]
      · exact absurd (by omega) h
    · exact absurd (by omega) h
  · exact absurd (by omega) h
def cok (a b c : Spot) : Prop := a.ok ∧ b.ok ∧ c.ok
instance (a : Spot) : Decidable a.ok := by unfold Spot.ok; exact inferInstance
instance (a b c : Spot) : Decidable (cok a b c) := by unfold cok; exact inferInstance
def cD (a b c : Spot) : Int := 2 * tsum g2 a b c 3
def cX (a b c : Spot) : Int := tsum g3 a b c 3
def cY (a b c : Spot) : Int := tsum g4 a b c 3
/-- What Centre returns. -/
def ctrE (a b c : Spot) : Int := if cok a b c then (if cD a b c = 0 then 9 else 0) else 3
def ctrX (a b c : Spot) : Int := if cok a b c then (if cD a b c = 0 then 0 else if cD a b c < 0 then 0 - cX a b c else cX a b c) else 0
def ctrY (a b c : Spot) : Int := if cok a b c then (if cD a b c = 0 then 0 else if cD a b c < 0 then 0 - cY a b c else cY a b c) else 0
def ctrD (a b c : Spot) : Int := if cok a b c then (if cD a b c = 0 then 0 else if cD a b c < 0 then 0 - cD a b c else cD a b c) else 0
theorem tsum_bd {g : Spot → Spot → Spot → Int} (hg : ∀ p q r : Spot, p.ok → q.ok → r.ok → (g p q r).natAbs ≤ 72057594037927936) {a b c : Spot} (h : cok a b c) : (tsum g a b c 3).natAbs ≤ 216172782113783808 := by
  obtain ⟨ha, hb, hc⟩ := h
  have b1 := hg a b c ha hb hc
  have b2 := hg b c a hb hc ha
  have b3 := hg c a b hc ha hb
  simp only [tsum]; omega
theorem s31 (a b c : Spot) : PSpec Try.prog 31 [a.v, b.v, c.v] (.tup [I (ctrX a b c), I (ctrY a b c), I (ctrD a b c), I (ctrE a b c)]) := by
  have bad : ¬ cok a b c → (0 : Int) = ctrX a b c ∧ (0 : Int) = ctrY a b c ∧ (0 : Int) = ctrD a b c ∧ (3 : Int) = ctrE a b c := fun h => ⟨(if_neg h).symm, (if_neg h).symm, (if_neg h).symm, (if_neg h).symm⟩
  refine spec_of pMix (O := []) Try.func31 (c := bodyOf Try.f31) rfl (by kernel_rfl) (by kernel_rfl) Try.ntmps31 (res := [.tmp 6, .tmp 7, .tmp 8, .tmp 9]) (by kernel_rfl) ?_
  have e3 : (([a.row, b.row, c.row] : Arr).length : Int) = 3 := rfl
  refine LoopVC.un 4 ?_
  repeat' (conv => whnf
           first
           | refine Rng.ok (by simp only [inR]; omega) ?_
           | refine Ob.mk (by first | omega | (simp; done) | decide | (simp; omega)) ?_
           | refine Ob.mk (show eqOK _ _ = true from by kernel_rfl) ?_
           | refine Val.mk _ (shr_val (by simp; rfl)) ?_
           | refine JoinVC.on ?_
           | refine Nils.mk (fun h => ?_) ?_
           | refine Val.mk _ (Int.tmod_eq_emod_of_nonneg (by omega)) ?_
           | refine Val.mk _ (Int.tdiv_eq_ediv_of_nonneg (by omega)) ?_
           | refine Mm.mk ?_
           | refine CallVC.pure rfl (s56 _ _ _) ?_
           | refine CallVC0.pure rfl (s56 _ _ _) ?_
           | (refine Br.mk (fun h => ?_) (fun h => ?_) <;> first | (exfalso; omega; done) | (exfalso; simp at h; done) | skip))
  all_goals try
    repeat refine Mm.mk ?_
    refine EndVC.mk _ rfl _ _ ⟨rfl, rfl⟩ ?_
    refine ⟨[], rfl, rfl, ?_, ?_⟩ <;> repeat' (first | exact trivial | exact rfl | exact Iff.rfl | apply And.intro)
    all_goals
      have hb : ¬ cok a b c := by
        clear bad
        unfold cok Spot.ok
        simp [rI, cellAt, Cell.toInt] at *
        omega
      first | exact (bad hb).1 | exact (bad hb).2.1 | exact (bad hb).2.2.1 | exact (bad hb).2.2.2
  have hok : cok a b c := by
    clear bad
    unfold cok Spot.ok
    simp [rI, cellAt, Cell.toInt] at *
    omega
  obtain ⟨ha, hb, hc⟩ := hok
  have hok : cok a b c := ⟨ha, hb, hc⟩
  repeat refine Mm.mk ?_
  conv => whnf
  first | refine CallVC.pure rfl (s68a 69 g2 a b c s69 (fun _ _ _ => g2_bd) ha hb hc) ?_ | refine CallVC0.pure rfl (s68a 69 g2 a b c s69 (fun _ _ _ => g2_bd) ha hb hc) ?_
  have t2 := tsum_bd (g := g2) (fun _ _ _ => g2_bd) hok
  have t3 := tsum_bd (g := g3) (fun _ _ _ => g3_bd) hok
  have t4 := tsum_bd (g := g4) (fun _ _ _ => g4_bd) hok
  repeat refine Mm.mk ?_
  refine Rng.ok (by simp only [inR]; omega) ?_
  conv => whnf
  refine CallVC.mk [7] _ _ _ rfl rfl rfl (s68b 70 g3 a b c s70 (fun _ _ _ => g3_bd) ha hb hc) (fun r m' h => ?_)
  obtain ⟨rfl, rfl⟩ := h
  conv => whnf
  refine CallVC.mk [7] _ _ _ rfl rfl rfl (s68b 71 g4 a b c s71 (fun _ _ _ => g4_bd) ha hb hc) (fun r m' h => ?_)
  obtain ⟨rfl, rfl⟩ := h
  repeat refine Mm.mk ?_
  try refine JoinVC.on ?_
  refine Br.mk (fun d0 => ?_) (fun d0 => ?_)
  · have d0 : cD a b c = 0 := d0
    repeat refine Mm.mk ?_
    refine EndVC.mk _ rfl _ _ ⟨rfl, rfl⟩ ?_
    refine ⟨[], rfl, rfl, ?_, ?_⟩ <;> repeat' (first | exact trivial | exact rfl | exact Iff.rfl | apply And.intro)
    · simp [ctrX, hok, d0]
    · simp [ctrY, hok, d0]
    · simp [ctrD, hok, d0]
    · simp [ctrE, hok, d0]
  have d0 : ¬ cD a b c = 0 := d0
  repeat refine Mm.mk ?_
  try refine JoinVC.on ?_
  refine Br.mk (fun d1 => ?_) (fun d1 => ?_)
  · have d1 : cD a b c < 0 := d1
    repeat refine Mm.mk ?_
    refine Rng.ok (by simp only [inR]; omega) ?_
    repeat refine Mm.mk ?_
    refine Rng.ok (by simp only [inR]; omega) ?_
    repeat refine Mm.mk ?_
    refine Rng.ok (by simp only [inR]; omega) ?_
    repeat refine Mm.mk ?_
    refine EndVC.mk _ rfl _ _ ⟨rfl, rfl⟩ ?_
    refine ⟨[], rfl, rfl, ?_, ?_⟩ <;> repeat' (first | exact trivial | exact rfl | exact Iff.rfl | apply And.intro)
    · simp [ctrX, hok, d0, d1, cX]
    · simp [ctrY, hok, d0, d1, cY]
    · simp [ctrD, hok, d0, d1]; rfl
    · simp [ctrE, hok, d0]
  have d1 : ¬ cD a b c < 0 := d1
  repeat refine Mm.mk ?_
  refine EndVC.mk _ rfl _ _ ⟨rfl, rfl⟩ ?_
  refine ⟨[], rfl, rfl, ?_, ?_⟩ <;> repeat' (first | exact trivial | exact rfl | exact Iff.rfl | apply And.intro)
  · simp [ctrX, hok, d0, d1, cX]
  · simp [ctrY, hok, d0, d1, cY]
  · simp [ctrD, hok, d0, d1]; rfl
  · simp [ctrE, hok, d0]
end Go.Sx

namespace Go.Sx
open Go Go.Proofs
def i64s (xs : List Int) : Arr := xs.map fun x => [.int x]
theorem i64s_len (xs : List Int) : (i64s xs).length = xs.length := by simp [i64s]
theorem i64s_get (xs : List Int) (k : Nat) : rI (i64s xs) k 0 = xs.getD k 0 := by
  simp only [rI, cellAt, i64s, List.getD_eq_getElem?_getD, List.getElem?_map]
  cases xs[k]? <;> simp [Cell.toInt]
theorem i64s_snoc (xs : List Int) (x : Int) : i64s (xs ++ [x]) = i64s xs ++ [[.int x]] := by simp [i64s]
@[reducible] def lI (xs : List Int) : XV := .one (.lst true [.int .i64] (i64s xs))
set_option maxRecDepth 10000
theorem list_ext_getD {xs ys : List Int} (hl : xs.length = ys.length) (h : ∀ j, j < xs.length → xs.getD j 0 = ys.getD j 0) : xs = ys := by
  refine List.ext_getElem hl fun j h1 h2 => ?_
  have := h j h1
  simpa [List.getD_eq_getElem?_getD, h1, h2] using this
theorem s27 (xs ys : List Int) (hx : xs.length ≤ 1099511627776) : PSpec Try.prog 27 [lI xs, lI ys] (xP (xs = ys)) := by
  have lx := i64s_len xs
  have ly := i64s_len ys
  refine spec_of pMix (O := []) Try.func27 (c := bodyOf Try.f27) rfl (by kernel_rfl) (by kernel_rfl) Try.ntmps27 (res := [.tmp 4]) (by kernel_rfl) ?_
  repeat refine Mm.mk ?_
  try refine JoinVC.on ?_
  refine Br.mk (fun h => ?_) (fun h => ?_)
  · repeat refine Mm.mk ?_
    refine EndVC.mk _ rfl _ _ ⟨rfl, rfl⟩ ⟨[], rfl, rfl, ⟨?_, trivial⟩, trivial⟩
    intro e
    subst e
    exact h rfl
  have h : xs.length = ys.length := by omega
  refine LoopVC.mk (fun n s => ∃ k : Nat, n = xs.length - k ∧ k ≤ xs.length ∧ (∀ j, j < k → xs.getD j 0 = ys.getD j 0) ∧ s = ⟨0, envA 26 [(0, .x (lI xs)), (1, .x (lI ys)), (5, .int .i64 (k : Int))], []⟩) _ _ ⟨0, rfl, Nat.zero_le _, fun j hj => absurd hj (Nat.not_lt_zero j), rfl⟩ ?_ ?_
  · refine ⟨[], rfl, rfl, ?_, ?_⟩ <;> repeat' (first | exact trivial | exact rfl | exact Iff.rfl | apply And.intro)
  · rintro m _ ⟨k, hm, hk, hj, rfl⟩
    repeat refine Mm.mk ?_
    try refine JoinVC.on ?_
    refine Br.mk (fun h1 => ?_) (fun h1 => ?_)
    · repeat refine Mm.mk ?_
      refine Ob.mk (by omega) ?_
      repeat refine Mm.mk ?_
      refine Ob.mk (by omega) ?_
      repeat refine Mm.mk ?_
      try refine JoinVC.on ?_
      refine Br.mk (fun h2 => ?_) (fun h2 => ?_)
      · repeat refine Mm.mk ?_
        refine EndVC.mk _ rfl _ _ ⟨rfl, rfl⟩ ⟨[], rfl, rfl, ⟨?_, trivial⟩, trivial⟩
        intro e
        subst e
        exact h2 rfl
      repeat refine Mm.mk ?_
      refine Rng.ok (by simp only [inR]; omega) ?_
      refine Back.mk (xs.length - (k + 1)) _ (by omega) ⟨k + 1, rfl, by omega, fun j hjk => ?_, rfl⟩ ?_
      · rcases Nat.lt_or_ge j k with h3 | h3
        · exact hj j h3
        · have : j = k := by omega
          subst this
          have h2 := Decidable.not_not.1 h2
          rw [Int.toNat_natCast, i64s_get, i64s_get] at h2
          exact h2
      · refine ⟨[], rfl, rfl, ?_, ?_⟩ <;> repeat' (first | exact trivial | exact rfl | exact Iff.rfl | apply And.intro)
    · repeat refine Mm.mk ?_
      refine EndVC.mk _ rfl _ _ ⟨rfl, rfl⟩ ⟨[], rfl, rfl, ⟨?_, trivial⟩, trivial⟩
      exact list_ext_getD h fun j hjx => hj j (by omega)
theorem s55 : PSpec Try.prog 55 [] (.x (Mac.x ⟨20, 120, 50, 200, 30, 25, 5, 3, 2⟩)) := by
  refine spec_of pMix (O := []) Try.func55 (c := bodyOf Try.f55) rfl (by kernel_rfl) (by kernel_rfl) Try.ntmps55 (res := [.cell 0 23]) (by kernel_rfl) ?_
  repeat refine Mm.mk ?_
  refine EndVC.mk _ rfl _ _ ⟨rfl, rfl⟩ ?_
  refine ⟨[], rfl, rfl, ?_, ?_⟩ <;> repeat' (first | exact trivial | exact rfl | exact Iff.rfl | apply And.intro)
/-- Presses at a boiler whose numbers are right. -/
def Boil (p q s r : Int) : Prop := 1 ≤ p ∧ p ≤ 64 ∧ 1 ≤ q ∧ q ≤ 64 ∧ 1 ≤ s ∧ s ≤ 65536 ∧ 1 ≤ r ∧ r ≤ 65536
instance (p q s r : Int) : Decidable (Boil p q s r) := by unfold Boil; exact inferInstance
def boilE (p q s r n : Int) : Int := if Boil p q s r then (if 0 ≤ n ∧ n ≤ 1000 then 0 else 6) else 3
theorem s60 (p q s r n : Int) : PSpec Try.prog 60 [I p, I q, I s, I r, I n] (.x (I (boilE p q s r n))) := by
  refine spec_of pMix (O := []) Try.func60 (c := bodyOf Try.f60) rfl (by kernel_rfl) (by kernel_rfl) Try.ntmps60 (res := [.tmp 10]) (by kernel_rfl) ?_
  repeat' (conv => whnf
           first
           | refine Rng.ok (by simp only [inR]; omega) ?_
           | refine Ob.mk (by first | omega | (simp; done) | decide | (simp; omega)) ?_
           | refine Ob.mk (show eqOK _ _ = true from by kernel_rfl) ?_
           | refine Val.mk _ (shr_val (by simp; rfl)) ?_
           | refine JoinVC.on ?_
           | refine Nils.mk (fun h => ?_) ?_
           | refine Val.mk _ (Int.tmod_eq_emod_of_nonneg (by omega)) ?_
           | refine Val.mk _ (Int.tdiv_eq_ediv_of_nonneg (by omega)) ?_
           | refine Mm.mk ?_
           | refine CallVC.pure rfl (s56 _ _ _) ?_
           | refine CallVC0.pure rfl (s56 _ _ _) ?_
           | (refine Br.mk (fun h => ?_) (fun h => ?_) <;> first | (exfalso; omega; done) | (exfalso; simp at h; done) | skip))
  all_goals
    repeat refine Mm.mk ?_
    refine EndVC.mk _ rfl _ _ ⟨rfl, rfl⟩ ⟨[], rfl, rfl, ⟨⟨rfl, ?_⟩, trivial⟩, trivial⟩
    unfold boilE
    split <;> rename_i hB <;> unfold Boil at hB <;> (try split) <;> omega
end Go.Sx

namespace Go.Sx
open Go Go.Proofs
set_option maxRecDepth 10000
theorem e60 : EntersF Try.prog 60 := enters_of Try.func60 (c := bodyOf Try.f60) (by kernel_rfl) rfl
theorem e61 : EntersF Try.prog 61 := enters_of Try.func61 (c := bodyOf Try.f61) (by kernel_rfl) rfl
theorem e90 : EntersF Try.prog 90 := enters_of Try.func90 (c := bodyOf Try.f90) (by kernel_rfl) rfl
theorem e23 : EntersF Try.prog 23 := enters_of Try.func23 (c := bodyOf Try.f23) (by kernel_rfl) rfl
theorem e27 : EntersF Try.prog 27 := enters_of Try.func27 (c := bodyOf Try.f27) (by kernel_rfl) rfl
theorem e18 : EntersF Try.prog 18 := enters_of Try.func18 (c := bodyOf Try.f18) (by kernel_rfl) rfl
theorem e55 : EntersF Try.prog 55 := enters_of Try.func55 (c := bodyOf Try.f55) (by kernel_rfl) rfl
def mx (a b : Int) : Int := if a < b then b else a
/-- The start of the disc behind these. -/
def st0 (out : List Int) : Int := if 0 < (out.length : Int) then out.getD (out.length - 1) 0 else 0
def st1 (q s : Int) (out : List Int) (t : Int) : Int := if 0 ≤ (out.length : Int) - q then mx t (out.getD ((out.length : Int) - q).toNat 0 + s) else t
def stNext (p q s r : Int) (out : List Int) : Int := st1 p (s + r) out (st1 q s out (st0 out))
def stList (p q s r : Int) : Nat → List Int
  | 0 => []
  | n + 1 => stList p q s r n ++ [stNext p q s r (stList p q s r n)]
theorem stList_len (p q s r : Int) : ∀ n, (stList p q s r n).length = n
  | 0 => rfl
  | n + 1 => by simp [stList, stList_len p q s r n]
theorem getD_app (xs : List Int) (x : Int) (j : Nat) : (xs ++ [x]).getD j 0 = if j < xs.length then xs.getD j 0 else if j = xs.length then x else 0 := by
  simp only [List.getD_eq_getElem?_getD, List.getElem?_append]
  split
  · rfl
  · rename_i h
    split
    · rename_i h2; subst h2; simp
    · rename_i h2
      have : 1 ≤ j - xs.length := by omega
      rw [List.getElem?_eq_none (by simpa using this)]; rfl
theorem st_bd {p q s r : Int} (hb : Boil p q s r) : ∀ n j, 0 ≤ (stList p q s r n).getD j 0 ∧ (stList p q s r n).getD j 0 ≤ 131072 * n
  | 0, j => by simp [stList]
  | n + 1, j => by
    unfold Boil at hb
    have ih := st_bd (p := p) (q := q) (s := s) (r := r) (by unfold Boil; omega) n
    have hl := stList_len p q s r n
    rw [stList, getD_app]
    have h0 : 0 ≤ st0 (stList p q s r n) ∧ st0 (stList p q s r n) ≤ 131072 * n := by
      unfold st0; split
      · exact ih _
      · omega
    have h1 : 0 ≤ st1 q s (stList p q s r n) (st0 (stList p q s r n)) ∧ st1 q s (stList p q s r n) (st0 (stList p q s r n)) ≤ 131072 * n + 131072 := by
      unfold st1 mx
      have := ih (((stList p q s r n).length : Int) - q).toNat
      split
      · split <;> omega
      · omega
    have h2 : 0 ≤ stNext p q s r (stList p q s r n) ∧ stNext p q s r (stList p q s r n) ≤ 131072 * n + 131072 := by
      unfold stNext
      generalize st1 q s (stList p q s r n) (st0 (stList p q s r n)) = t at h1
      unfold st1 mx
      have := ih (((stList p q s r n).length : Int) - p).toNat
      split
      · split <;> omega
      · omega
    have h3 := ih j
    split
    · omega
    · split <;> omega
/-- The objects that 'ends' leaves. -/
theorem s61 (a : Arr) (i p q s r : Int) : HSpec Try.prog 61 [.one (.own 0), I i, I p, I q, I s, I r] [.row 2 false [.int .i64] a] (fun x m' => x = .x (.one (.fn 90 [(2, 0), (4, 0), (1, 0), (5, 0), (3, 0), (6, 0)])) ∧
    m' = [some (.row 2 false [.int .i64] a), some (.box 30 [.own 0]), some (.box 3 [.int .i64 i]), some (.box 3 [.int .i64 p]), some (.box 3 [.int .i64 q]), some (.box 2 [.int .i64 s]), some (.box 2 [.int .i64 r])]) := by
  refine spec_of pMix (O := []) Try.func61 (c := bodyOf Try.f61) rfl (by kernel_rfl) (by kernel_rfl) Try.ntmps61 (res := [.tmp 12]) (by kernel_rfl) ?_
  repeat refine Mm.mk ?_
  refine EndVC.mk _ rfl _ _ ⟨rfl, rfl⟩ ?_
  refine ⟨[some 0, some 1, some 2, some 3, some 4, some 5, some 6], rfl, rfl, ?_, ?_⟩ <;> repeat' (first | exact trivial | exact rfl | exact Iff.rfl | apply And.intro)
def stRes (p q s r n : Int) : List Int := if boilE p q s r n = 0 then stList p q s r n.toNat else []
theorem eb : Try.t2.bytes = 8 := by kernel_rfl
theorem s23 (p q s r n : Int) : PSpec Try.prog 23 [I p, I q, I s, I r, I n] (.tup [.one (.lst false [.int .i64] (i64s (stRes p q s r n))), I (boilE p q s r n)]) := by
  refine spec_of pMix (O := []) Try.func23 (c := bodyOf Try.f23) rfl (by kernel_rfl) (by kernel_rfl) Try.ntmps23 (res := [.tmp 10, .tmp 11]) (by kernel_rfl) ?_
  repeat refine Mm.mk ?_
  conv => whnf
  first | refine CallVC.pure rfl (s60 p q s r n) ?_ | refine CallVC0.pure rfl (s60 p q s r n) ?_
  repeat refine Mm.mk ?_
  try refine JoinVC.on ?_
  refine Br.mk (fun h0 => ?_) (fun h0 => ?_)
  · have e : stRes p q s r n = [] := if_neg h0
    rw [e]
    repeat refine Mm.mk ?_
    refine EndVC.mk _ rfl _ _ ⟨rfl, rfl⟩ ?_
    refine ⟨[], rfl, rfl, ?_, ?_⟩ <;> repeat' (first | exact trivial | exact rfl | exact Iff.rfl | apply And.intro)
  have h0 := Decidable.not_not.1 h0
  have hB : Boil p q s r := by
    apply Decidable.byContradiction
    intro h; rw [boilE, if_neg h] at h0; cases h0
  have hn : 0 ≤ n ∧ n ≤ 1000 := by
    apply Decidable.byContradiction
    intro h; rw [boilE, if_pos hB, if_neg h] at h0; cases h0
  refine LoopVC.mk (fun m st => ∃ k : Nat, (k : Int) ≤ n ∧ m = n.toNat - k ∧ st = ⟨0, envA 58 [(0, .x (I p)), (1, .x (I q)), (2, .x (I s)), (3, .x (I r)), (13, .x (.one (.own 0))), (27, .x (I n)), (28, .int .i64 (k : Int))], [some (.row 2 false [.int .i64] (i64s (stList p q s r k)))]⟩) n.toNat _ ⟨0, by omega, rfl, rfl⟩ ?_ ?_
  · refine ⟨[none], rfl, rfl, ?_, ?_⟩ <;> repeat' (first | exact trivial | exact rfl | exact Iff.rfl | apply And.intro)
  · rintro m _ ⟨k, hk, hm, rfl⟩
    repeat refine Mm.mk ?_
    try refine JoinVC.on ?_
    refine Br.mk (fun h => ?_) (fun h => ?_)
    · have hl : (i64s (stList p q s r k)).length = k := by rw [i64s_len, stList_len]
      have hbd : ∀ j, 0 ≤ rI (i64s (stList p q s r k)) j 0 ∧ rI (i64s (stList p q s r k)) j 0 ≤ 131072 * k := fun j => by rw [i64s_get]; exact st_bd hB k j
      unfold Boil at hB
      have b1 := hbd ((k : Int) - 1).toNat
      have b2 := hbd ((k : Int) - q).toNat
      have b3 := hbd ((k : Int) - p).toNat
      have e1 : ((k : Int) - 1).toNat = k - 1 := by omega
      repeat refine Mm.mk ?_
      try refine JoinVC.on ?_
      refine Br.mk (fun h1 => ?_) (fun h1 => ?_)
      · repeat refine Mm.mk ?_
        refine Rng.ok (by simp only [inR]; omega) ?_
        repeat refine Mm.mk ?_
        refine Ob.mk (by omega) ?_
        repeat refine Mm.mk ?_
        refine Ob.mk (by omega) ?_
        change CallVC _ _ _ _ _
        refine CallVC.mk [0] _ _ _ rfl rfl rfl (s61 _ _ _ _ _ _) (fun x m' hx => ?_)
        obtain ⟨rfl, rfl⟩ := hx
        change RangeVC _ _ _ _ _
        refine RangeVC.mk e90 (isem_of_awp pMix [] Try.func90 (c := bodyOf Try.f90) rfl (by kernel_rfl) Try.ntmps90 (by kernel_rfl) ?_)
        repeat refine Mm.mk ?_
        refine Rng.ok (by simp only [inR]; omega) ?_
        repeat refine Mm.mk ?_
        try refine JoinVC.on ?_
        refine Br.mk (fun h2 => ?_) (fun h2 => ?_)
        · repeat refine Mm.mk ?_
          refine Ob.mk (by omega) ?_
          repeat refine Mm.mk ?_
          refine Ob.mk (by omega) ?_
          change YieldVC _ _ _ _ _
          refine YieldVC.mk (rsem_of_awp pMix [] rfl (by kernel_rfl) ?_)
          repeat refine Mm.mk ?_
          refine Rng.ok (by simp only [inR]; omega) ?_
          repeat refine Mm.mk ?_
          refine Rng.ok (by simp only [inR]; omega) ?_
          repeat refine Mm.mk ?_
          try refine JoinVC.on ?_
          refine Br.mk (fun h3 => ?_) (fun h3 => ?_)
          · repeat refine Mm.mk ?_
            refine Ob.mk (by omega) ?_
            repeat refine Mm.mk ?_
            refine Ob.mk (by omega) ?_
            repeat refine Mm.mk ?_
            refine Rng.ok (by simp only [inR]; omega) ?_
            change YieldVC _ _ _ _ _
            refine YieldVC.mk (rsem_of_awp pMix [] rfl (by kernel_rfl) ?_)
            repeat refine Mm.mk ?_
            refine Rng.ok (by simp only [inR]; omega) ?_
            repeat refine Mm.mk ?_
            refine Ob.mk (by simp only [i64s_len, stList_len, List.length_cons, List.length_nil, eb]; omega) ?_
            repeat refine Mm.mk ?_
            refine Rng.ok (by simp only [inR]; omega) ?_
            refine Back.mk (n.toNat - (k + 1)) _ (by omega) ⟨k + 1, by omega, rfl, rfl⟩ ?_
            refine ⟨[some 10], rfl, rfl, ?_, ?_⟩ <;> repeat' (first | exact trivial | exact rfl | exact Iff.rfl | apply And.intro)
            rw [stList, i64s_snoc]
            congr 3
            simp only [stNext, st1, st0, mx, stList_len, if_pos h1, if_pos h2, if_pos h3, i64s_get, e1]
          · repeat refine Mm.mk ?_
            refine Ob.mk (by simp only [i64s_len, stList_len, List.length_cons, List.length_nil, eb]; omega) ?_
            repeat refine Mm.mk ?_
            refine Rng.ok (by simp only [inR]; omega) ?_
            refine Back.mk (n.toNat - (k + 1)) _ (by omega) ⟨k + 1, by omega, rfl, rfl⟩ ?_
            refine ⟨[some 10], rfl, rfl, ?_, ?_⟩ <;> repeat' (first | exact trivial | exact rfl | exact Iff.rfl | apply And.intro)
            rw [stList, i64s_snoc]
            congr 3
            simp only [stNext, st1, st0, mx, stList_len, if_pos h1, if_pos h2, if_neg h3, i64s_get, e1]
        · repeat refine Mm.mk ?_
          refine Rng.ok (by simp only [inR]; omega) ?_
          repeat refine Mm.mk ?_
          try refine JoinVC.on ?_
          refine Br.mk (fun h3 => ?_) (fun h3 => ?_)
          · repeat refine Mm.mk ?_
            refine Ob.mk (by omega) ?_
            repeat refine Mm.mk ?_
            refine Ob.mk (by omega) ?_
            repeat refine Mm.mk ?_
            refine Rng.ok (by simp only [inR]; omega) ?_
            change YieldVC _ _ _ _ _
            refine YieldVC.mk (rsem_of_awp pMix [] rfl (by kernel_rfl) ?_)
            repeat refine Mm.mk ?_
            refine Rng.ok (by simp only [inR]; omega) ?_
            repeat refine Mm.mk ?_
            refine Ob.mk (by simp only [i64s_len, stList_len, List.length_cons, List.length_nil, eb]; omega) ?_
            repeat refine Mm.mk ?_
            refine Rng.ok (by simp only [inR]; omega) ?_
            refine Back.mk (n.toNat - (k + 1)) _ (by omega) ⟨k + 1, by omega, rfl, rfl⟩ ?_
            refine ⟨[some 10], rfl, rfl, ?_, ?_⟩ <;> repeat' (first | exact trivial | exact rfl | exact Iff.rfl | apply And.intro)
            rw [stList, i64s_snoc]
            congr 3
            simp only [stNext, st1, st0, mx, stList_len, if_pos h1, if_neg h2, if_pos h3, i64s_get, e1]
          · repeat refine Mm.mk ?_
            refine Ob.mk (by simp only [i64s_len, stList_len, List.length_cons, List.length_nil, eb]; omega) ?_
            repeat refine Mm.mk ?_
            refine Rng.ok (by simp only [inR]; omega) ?_
            refine Back.mk (n.toNat - (k + 1)) _ (by omega) ⟨k + 1, by omega, rfl, rfl⟩ ?_
            refine ⟨[some 10], rfl, rfl, ?_, ?_⟩ <;> repeat' (first | exact trivial | exact rfl | exact Iff.rfl | apply And.intro)
            rw [stList, i64s_snoc]
            congr 3
            simp only [stNext, st1, st0, mx, stList_len, if_pos h1, if_neg h2, if_neg h3, i64s_get, e1]
      · change CallVC _ _ _ _ _
        refine CallVC.mk [0] _ _ _ rfl rfl rfl (s61 _ _ _ _ _ _) (fun x m' hx => ?_)
        obtain ⟨rfl, rfl⟩ := hx
        change RangeVC _ _ _ _ _
        refine RangeVC.mk e90 (isem_of_awp pMix [] Try.func90 (c := bodyOf Try.f90) rfl (by kernel_rfl) Try.ntmps90 (by kernel_rfl) ?_)
        repeat refine Mm.mk ?_
        refine Rng.ok (by simp only [inR]; omega) ?_
        repeat refine Mm.mk ?_
        try refine JoinVC.on ?_
        refine Br.mk (fun h2 => ?_) (fun h2 => ?_)
        · repeat refine Mm.mk ?_
          refine Ob.mk (by omega) ?_
          repeat refine Mm.mk ?_
          refine Ob.mk (by omega) ?_
          change YieldVC _ _ _ _ _
          refine YieldVC.mk (rsem_of_awp pMix [] rfl (by kernel_rfl) ?_)
          repeat refine Mm.mk ?_
          refine Rng.ok (by simp only [inR]; omega) ?_
          repeat refine Mm.mk ?_
          refine Rng.ok (by simp only [inR]; omega) ?_
          repeat refine Mm.mk ?_
          try refine JoinVC.on ?_
          refine Br.mk (fun h3 => ?_) (fun h3 => ?_)
          · repeat refine Mm.mk ?_
            refine Ob.mk (by omega) ?_
            repeat refine Mm.mk ?_
            refine Ob.mk (by omega) ?_
            repeat refine Mm.mk ?_
            refine Rng.ok (by simp only [inR]; omega) ?_
            change YieldVC _ _ _ _ _
            refine YieldVC.mk (rsem_of_awp pMix [] rfl (by kernel_rfl) ?_)
            repeat refine Mm.mk ?_
            refine Rng.ok (by simp only [inR]; omega) ?_
            repeat refine Mm.mk ?_
            refine Ob.mk (by simp only [i64s_len, stList_len, List.length_cons, List.length_nil, eb]; omega) ?_
            repeat refine Mm.mk ?_
            refine Rng.ok (by simp only [inR]; omega) ?_
            refine Back.mk (n.toNat - (k + 1)) _ (by omega) ⟨k + 1, by omega, rfl, rfl⟩ ?_
            refine ⟨[some 10], rfl, rfl, ?_, ?_⟩ <;> repeat' (first | exact trivial | exact rfl | exact Iff.rfl | apply And.intro)
            rw [stList, i64s_snoc]
            congr 3
            simp only [stNext, st1, st0, mx, stList_len, if_neg h1, if_pos h2, if_pos h3, i64s_get]
          · repeat refine Mm.mk ?_
            refine Ob.mk (by simp only [i64s_len, stList_len, List.length_cons, List.length_nil, eb]; omega) ?_
            repeat refine Mm.mk ?_
            refine Rng.ok (by simp only [inR]; omega) ?_
            refine Back.mk (n.toNat - (k + 1)) _ (by omega) ⟨k + 1, by omega, rfl, rfl⟩ ?_
            refine ⟨[some 10], rfl, rfl, ?_, ?_⟩ <;> repeat' (first | exact trivial | exact rfl | exact Iff.rfl | apply And.intro)
            rw [stList, i64s_snoc]
            congr 3
            simp only [stNext, st1, st0, mx, stList_len, if_neg h1, if_pos h2, if_neg h3, i64s_get]
        · repeat refine Mm.mk ?_
          refine Rng.ok (by simp only [inR]; omega) ?_
          repeat refine Mm.mk ?_
          try refine JoinVC.on ?_
          refine Br.mk (fun h3 => ?_) (fun h3 => ?_)
          · repeat refine Mm.mk ?_
            refine Ob.mk (by omega) ?_
            repeat refine Mm.mk ?_
            refine Ob.mk (by omega) ?_
            repeat refine Mm.mk ?_
            refine Rng.ok (by simp only [inR]; omega) ?_
            change YieldVC _ _ _ _ _
            refine YieldVC.mk (rsem_of_awp pMix [] rfl (by kernel_rfl) ?_)
            repeat refine Mm.mk ?_
            refine Rng.ok (by simp only [inR]; omega) ?_
            repeat refine Mm.mk ?_
            refine Ob.mk (by simp only [i64s_len, stList_len, List.length_cons, List.length_nil, eb]; omega) ?_
            repeat refine Mm.mk ?_
            refine Rng.ok (by simp only [inR]; omega) ?_
            refine Back.mk (n.toNat - (k + 1)) _ (by omega) ⟨k + 1, by omega, rfl, rfl⟩ ?_
            refine ⟨[some 10], rfl, rfl, ?_, ?_⟩ <;> repeat' (first | exact trivial | exact rfl | exact Iff.rfl | apply And.intro)
            rw [stList, i64s_snoc]
            congr 3
            simp only [stNext, st1, st0, mx, stList_len, if_neg h1, if_neg h2, if_pos h3, i64s_get]
          · repeat refine Mm.mk ?_
            refine Ob.mk (by simp only [i64s_len, stList_len, List.length_cons, List.length_nil, eb]; omega) ?_
            repeat refine Mm.mk ?_
            refine Rng.ok (by simp only [inR]; omega) ?_
            refine Back.mk (n.toNat - (k + 1)) _ (by omega) ⟨k + 1, by omega, rfl, rfl⟩ ?_
            refine ⟨[some 10], rfl, rfl, ?_, ?_⟩ <;> repeat' (first | exact trivial | exact rfl | exact Iff.rfl | apply And.intro)
            rw [stList, i64s_snoc]
            congr 3
            simp only [stNext, st1, st0, mx, stList_len, if_neg h1, if_neg h2, if_neg h3]
    · have e : (k : Int) = n := by omega
      have e2 : stRes p q s r n = stList p q s r k := by rw [stRes, if_pos h0]; congr 1; omega
      rw [h0, e2]
      repeat refine Mm.mk ?_
      refine EndVC.mk _ rfl _ _ ⟨rfl, rfl⟩ ?_
      refine ⟨[], rfl, rfl, ?_, ?_⟩ <;> repeat' (first | exact trivial | exact rfl | exact Iff.rfl | apply And.intro)
end Go.Sx

namespace Go.Sx
open Go Go.Proofs
set_option maxRecDepth 10000
theorem e22 : EntersF Try.prog 22 := enters_of Try.func22 (c := bodyOf Try.f22) (by kernel_rfl) rfl
theorem e19 : EntersF Try.prog 19 := enters_of Try.func19 (c := bodyOf Try.f19) (by kernel_rfl) rfl
theorem e3 : EntersF Try.prog 3 := enters_of Try.func3 (c := bodyOf Try.f3) (by kernel_rfl) rfl
def exMac : Mac := ⟨20, 120, 50, 200, 30, 25, 5, 3, 2⟩
theorem exMac_chk : exMac.chk = 0 := Mac.chk0 (by simp [Mac.ok, exMac])
theorem s22 : PSpec Try.prog 22 [] (xP True) := by
  refine spec_of pMix (O := []) Try.func22 (c := bodyOf Try.f22) rfl (by kernel_rfl) (by kernel_rfl) Try.ntmps22 (res := [.tmp 0]) (by kernel_rfl) ?_
  repeat refine Mm.mk ?_
  conv => whnf
  first | refine CallVC.pure rfl (s55) ?_ | refine CallVC0.pure rfl (s55) ?_
  repeat refine Mm.mk ?_
  conv => whnf
  first | refine CallVC.pure rfl (s18 exMac 190 1) ?_ | refine CallVC0.pure rfl (s18 exMac 190 1) ?_
  repeat refine Mm.mk ?_
  conv => whnf
  first | refine CallVC.pure rfl (s23 2 1 3 4 4) ?_ | refine CallVC0.pure rfl (s23 2 1 3 4 4) ?_
  repeat refine Mm.mk ?_
  conv => whnf
  first | refine CallVC.pure rfl (s31 ⟨3, 0⟩ ⟨0, 1⟩ ⟨0, -1⟩) ?_ | refine CallVC0.pure rfl (s31 ⟨3, 0⟩ ⟨0, 1⟩ ⟨0, -1⟩) ?_
  have v1 : exMac.tickV 190 1 = 200 := by
    rw [Mac.tickV, if_pos exMac_chk]; decide
  have v2 : exMac.tickE 190 1 = 0 := by
    rw [Mac.tickE, if_pos exMac_chk]; decide
  have v3 : boilE 2 1 3 4 4 = 0 := by decide
  have v4 : stRes 2 1 3 4 4 = [0, 3, 7, 10] := by decide
  have v5 : ctrE ⟨3, 0⟩ ⟨0, 1⟩ ⟨0, -1⟩ = 0 := by decide
  have v6 : ctrX ⟨3, 0⟩ ⟨0, 1⟩ ⟨0, -1⟩ = 16 := by decide
  have v7 : ctrY ⟨3, 0⟩ ⟨0, 1⟩ ⟨0, -1⟩ = 0 := by decide
  have v8 : ctrD ⟨3, 0⟩ ⟨0, 1⟩ ⟨0, -1⟩ = 12 := by decide
  repeat refine Mm.mk ?_
  refine Rng.ok (by simp only [inR]; omega) ?_
  repeat refine Mm.mk ?_
  refine Rng.ok (by simp only [inR]; omega) ?_
  repeat refine Mm.mk ?_
  try refine JoinVC.on ?_
  refine Br.mk (fun h1 => ?_) (fun h1 => ?_)
  · repeat refine Mm.mk ?_
    try refine JoinVC.on ?_
    refine Br.mk (fun h2 => ?_) (fun h2 => ?_)
    · repeat refine Mm.mk ?_
      conv => whnf
      first | refine CallVC.pure rfl (s27 _ [0, 3, 7, 10] (by rw [v4]; decide)) ?_ | refine CallVC0.pure rfl (s27 _ [0, 3, 7, 10] (by rw [v4]; decide)) ?_
      repeat refine Mm.mk ?_
      try refine JoinVC.on ?_
      refine Br.mk (fun h3 => ?_) (fun h3 => ?_)
      · repeat refine Mm.mk ?_
        try refine JoinVC.on ?_
        refine Br.mk (fun h4 => ?_) (fun h4 => ?_)
        · repeat refine Mm.mk ?_
          try refine JoinVC.on ?_
          refine Br.mk (fun h5 => ?_) (fun h5 => ?_)
          · repeat refine Mm.mk ?_
            refine EndVC.mk _ rfl _ _ ⟨rfl, rfl⟩ ?_
            refine ⟨[], rfl, rfl, ?_, ?_⟩ <;> repeat' (first | exact trivial | exact rfl | exact Iff.rfl | apply And.intro)
            exact iff_true_intro v8
          · exact absurd v7 h5
        · exact absurd v6 h4
      · exact absurd v4 h3
    · exact absurd v1 h2
  · exact absurd (by omega) h1
theorem s3 (m : Mac) (t v : Int) : PSpec Try.prog 3 [m.x, I t, I v] (xP True) := by
  refine spec_of pMix (O := [(3, ([], [⟨0, [], []⟩, ⟨2, [], []⟩, ⟨1, [2], []⟩, ⟨3, [], []⟩, ⟨4, [], []⟩, ⟨5, [], []⟩, ⟨6, [], []⟩, ⟨7, [], []⟩, ⟨8, [], []⟩, ⟨9, [], []⟩, ⟨10, [], []⟩, ⟨11, [], []⟩, ⟨12, [], []⟩, ⟨13, [], []⟩, ⟨14, [], []⟩, ⟨15, [], []⟩, ⟨16, [], []⟩, ⟨17, [], []⟩, ⟨18, [], []⟩]))]) Try.func3 (c := bodyOf Try.f3) rfl (by kernel_rfl) (by kernel_rfl) Try.ntmps3 (res := [.tmp 6]) (by kernel_rfl) ?_
  repeat refine Mm.mk ?_
  conv => whnf
  first | refine CallVC.pure rfl (s18 m t v) ?_ | refine CallVC0.pure rfl (s18 m t v) ?_
  repeat refine Mm.mk ?_
  conv => whnf
  first | refine CallVC.pure rfl (s19 m t v) ?_ | refine CallVC0.pure rfl (s19 m t v) ?_
  repeat refine Mm.mk ?_
  conv => whnf
  first | refine CallVC.pure rfl (s20 m) ?_ | refine CallVC0.pure rfl (s20 m) ?_
  repeat refine Mm.mk ?_
  conv => whnf
  first | refine CallVC.pure rfl (s21 m) ?_ | refine CallVC0.pure rfl (s21 m) ?_
  repeat refine Mm.mk ?_
  try refine JoinVC.on ?_
  refine Br.mk (fun h1 => ?_) (fun h1 => ?_)
  · repeat refine Mm.mk ?_
    try refine JoinVC.on ?_
    refine Br.mk (fun h2 => ?_) (fun h2 => ?_)
    · repeat refine Mm.mk ?_
      try refine JoinVC.on ?_
      refine Br.mk (fun h3 => ?_) (fun h3 => ?_)
      · repeat refine Mm.mk ?_
        conv => whnf
        first | refine CallVC.pure rfl (s22) ?_ | refine CallVC0.pure rfl (s22) ?_
        repeat refine Mm.mk ?_
        refine EndVC.mk _ rfl _ _ ⟨rfl, rfl⟩ ?_
        refine ⟨[], rfl, rfl, ?_, ?_⟩ <;> repeat' (first | exact trivial | exact rfl | exact Iff.rfl | apply And.intro)
      · exact absurd rfl h3
    · exact absurd rfl h2
  · exact absurd rfl h1
end Go.Sx

namespace Go.Sx
open Go Go.Proofs
set_option maxRecDepth 10000
set_option maxHeartbeats 1000000
theorem e37 : EntersF Try.prog 37 := enters_of Try.func37 (c := bodyOf Try.f37) (by kernel_rfl) rfl
theorem e38 : EntersF Try.prog 38 := enters_of Try.func38 (c := bodyOf Try.f38) (by kernel_rfl) rfl
theorem e78 : EntersF Try.prog 78 := enters_of Try.func78 (c := bodyOf Try.f78) (by kernel_rfl) rfl
theorem e79 : EntersF Try.prog 79 := enters_of Try.func79 (c := bodyOf Try.f79) (by kernel_rfl) rfl
/-! ### Stampers that are used in turn -/
def sumK (xs : List Int) : Nat → Int
  | 0 => 0
  | k + 1 => sumK xs k + xs.getD k 0
theorem getD_set (xs : List Int) (i j : Nat) (v : Int) (h : i < xs.length) : (xs.set i v).getD j 0 = if i = j then v else xs.getD j 0 := by
  simp only [List.getD_eq_getElem?_getD, List.getElem?_set]
  split
  · rename_i e; subst e; simp [h]
  · rfl
theorem sumK_set (xs : List Int) (i : Nat) (v : Int) (h : i < xs.length) : ∀ k, sumK (xs.set i v) k = if i < k then sumK xs k - xs.getD i 0 + v else sumK xs k
  | 0 => by simp [sumK]
  | k + 1 => by
    rw [sumK, sumK, sumK_set xs i v h k, getD_set xs i k v h]
    by_cases h1 : i < k
    · rw [if_pos h1, if_neg (by omega), if_pos (by omega)]; omega
    · by_cases h2 : i = k
      · subst h2; rw [if_neg (by omega), if_pos rfl, if_pos (by omega)]; omega
      · rw [if_neg h1, if_neg h2, if_neg (by omega)]
theorem i64s_set (xs : List Int) (i : Nat) (v : Int) (h : i < xs.length) : updRow (i64s xs) i 0 [.int v] = i64s (xs.set i v) := by
  unfold updRow i64s
  rw [List.map_set]
  congr 1
  rw [List.getD_eq_getElem?_getD, List.getElem?_map, List.getElem?_eq_getElem h]
  rfl
/-- The mounts from a state on. -/
inductive MR : List Int → List Int → Nat → Nat → Int → List (Nat × Nat × Int) → Prop
  | done {X Y i k d} (h : d ≤ 0) : MR X Y i k d []
  | si {X Y i k d o} (h : 0 < d) (hx : X.getD i 0 = 0) (r : MR X Y (i + 1) k d o) : MR X Y i k d o
  | sk {X Y i k d o} (h : 0 < d) (hx : X.getD i 0 ≠ 0) (hy : Y.getD k 0 = 0) (r : MR X Y i (k + 1) d o) : MR X Y i k d o
  | go {X Y i k d o} (n : Int) (h : 0 < d) (hx : X.getD i 0 ≠ 0) (hy : Y.getD k 0 ≠ 0) (hn : n = min (min (X.getD i 0) (Y.getD k 0)) d)
      (r : MR (X.set i (X.getD i 0 - n)) (Y.set k (Y.getD k 0 - n)) i k (d - n) o) : MR X Y i k d ((i, k, n) :: o)
theorem MR.nil {X Y i k d o} (h : MR X Y i k d o) (hd : d ≤ 0) : o = [] := by
  cases h with
  | done => rfl
  | si h => omega
  | sk h => omega
  | go n h => omega
theorem MR.det {X Y i k d o} (h : MR X Y i k d o) : ∀ {o'}, MR X Y i k d o' → o = o' := by
  induction h with
  | done hd => intro o' h'; exact (h'.nil hd).symm
  | si h hx r ih =>
    intro o' h'
    cases h' with
    | done => omega
    | si _ _ r' => exact ih r'
    | sk _ hx' => exact absurd hx hx'
    | go _ _ hx' => exact absurd hx hx'
  | sk h hx hy r ih =>
    intro o' h'
    cases h' with
    | done => omega
    | si _ hx' => exact absurd hx' hx
    | sk _ _ _ r' => exact ih r'
    | go _ _ _ hy' => exact absurd hy hy'
  | go n h hx hy hn r ih =>
    intro o' h'
    cases h' with
    | done => omega
    | si _ hx' => exact absurd hx' hx
    | sk _ _ hy' => exact absurd hy' hy
    | go n' _ _ _ hn' r' => subst hn; subst hn'; rw [ih r']
theorem MR.ci {X Y i k d o} (hx : X.getD i 0 = 0) (r : MR X Y (i + 1) k d o) : MR X Y i k d o := by
  by_cases h : 0 < d
  · exact .si h hx r
  · rw [r.nil (by omega)]; exact .done (by omega)
theorem MR.ck {X Y i k d o} (hx : X.getD i 0 ≠ 0) (hy : Y.getD k 0 = 0) (r : MR X Y i (k + 1) d o) : MR X Y i k d o := by
  by_cases h : 0 < d
  · exact .sk h hx hy r
  · rw [r.nil (by omega)]; exact .done (by omega)
open Classical in
noncomputable def mo (xs ys : List Int) (d : Int) : List (Nat × Nat × Int) := if h : ∃ o, MR xs ys 0 0 d o then h.choose else []
theorem mo_eq {xs ys : List Int} {d : Int} {o : List (Nat × Nat × Int)} (h : MR xs ys 0 0 d o) : mo xs ys d = o := by
  have hex : ∃ o, MR xs ys 0 0 d o := ⟨o, h⟩
  unfold mo
  rw [dif_pos hex]
  exact hex.choose_spec.det h
/-- Numbers that are possible. -/
def okN (xs : List Int) : Prop := ∀ j, j < xs.length → 0 ≤ xs.getD j 0 ∧ xs.getD j 0 ≤ 65536
instance (xs : List Int) : Decidable (okN xs) := by unfold okN; exact inferInstance
def moE (xs ys : List Int) (d : Int) : Int := if 64 < xs.length ∨ 64 < ys.length then 6 else if ¬ okN xs ∨ ¬ okN ys then 2 else if d < 0 ∨ 1073741824 < d then 3 else if sumK xs xs.length < d ∨ sumK ys ys.length < d then 15 else 0
open Classical in
noncomputable def moL (xs ys : List Int) (d : Int) : List (Nat × Nat × Int) := if moE xs ys d = 0 then mo xs ys d else []
@[reducible] def K3 : List CK := [.int .i64, .int .i64, .int .i64]
def mts (o : List (Nat × Nat × Int)) : Arr := o.map fun p => [.int (p.1 : Int), .int (p.2.1 : Int), .int p.2.2]
theorem mts_len (o : List (Nat × Nat × Int)) : (mts o).length = o.length := by simp [mts]
theorem sumK_bd {xs : List Int} : ∀ k, k ≤ xs.length → (∀ j, j < k → 0 ≤ xs.getD j 0 ∧ xs.getD j 0 ≤ 65536) → 0 ≤ sumK xs k ∧ sumK xs k ≤ 65536 * k
  | 0, _, _ => by simp [sumK]
  | k + 1, hk, h => by
    have h1 := sumK_bd k (by omega) (fun j hj => h j (by omega))
    have h2 := h k (by omega)
    rw [sumK]; omega
theorem s79 (a : Arr) (h : a.length ≤ 1099511627776) : HSpec Try.prog 79 [.one (.lst true [.int .i64] a)] [] (fun r m' => r = .x (.one (.own 0)) ∧ m' = [some (.row 2 false [.int .i64] a)]) := by
  refine spec_of pMix (O := []) Try.func79 (c := bodyOf Try.f79) rfl (by kernel_rfl) (by kernel_rfl) Try.ntmps79 (res := [.tmp 2]) (by kernel_rfl) ?_
  repeat' (conv => whnf
           first
           | refine Rng.ok (by simp only [inR]; omega) ?_
           | refine Ob.mk (by first | omega | (simp; done) | decide | (simp; omega)) ?_
           | refine Ob.mk (show eqOK _ _ = true from by kernel_rfl) ?_
           | refine Val.mk _ (shr_val (by simp; rfl)) ?_
           | refine JoinVC.on ?_
           | refine Nils.mk (fun h => ?_) ?_
           | refine Val.mk _ (Int.tmod_eq_emod_of_nonneg (by omega)) ?_
           | refine Val.mk _ (Int.tdiv_eq_ediv_of_nonneg (by omega)) ?_
           | refine Mm.mk ?_
           | (refine Br.mk (fun h => ?_) (fun h => ?_) <;> first | (exfalso; omega; done) | (exfalso; simp at h; done) | skip))
  · repeat refine Mm.mk ?_
    refine EndVC.mk _ rfl _ _ ⟨rfl, rfl⟩ ?_
    refine ⟨[none], rfl, rfl, ?_, ?_⟩ <;> repeat' (first | exact trivial | exact rfl | exact Iff.rfl | apply And.intro)
    assumption
  · repeat refine Mm.mk ?_
    refine Ob.mk (by simp only [eb, List.length_nil]; omega) ?_
    repeat refine Mm.mk ?_
    refine EndVC.mk _ rfl _ _ ⟨rfl, rfl⟩ ?_
    refine ⟨[some 1], rfl, rfl, ?_, ?_⟩ <;> repeat' (first | exact trivial | exact rfl | exact Iff.rfl | apply And.intro)
theorem sumK_in {xs : List Int} (hl : xs.length ≤ 64) {k : Nat} (hk : k ≤ xs.length) (h : ∀ j, j < k → 0 ≤ xs.getD j 0 ∧ xs.getD j 0 ≤ 65536) : 0 ≤ sumK xs k ∧ sumK xs k ≤ 4194304 := by
  have := sumK_bd k hk h
  omega
theorem s78 (xs : List Int) (hl : xs.length ≤ 64) : PSpec Try.prog 78 [lI xs] (.tup [I (if okN xs then sumK xs xs.length else 0), .one (.prp (okN xs) inferInstance)]) := by
  have lx := i64s_len xs
  refine spec_of pMix (O := []) Try.func78 (c := bodyOf Try.f78) rfl (by kernel_rfl) (by kernel_rfl) Try.ntmps78 (res := [.tmp 2, .tmp 3]) (by kernel_rfl) ?_
  refine LoopVC.mk (fun m st => ∃ k : Nat, k ≤ xs.length ∧ m = xs.length - k ∧ (∀ j, j < k → 0 ≤ xs.getD j 0 ∧ xs.getD j 0 ≤ 65536) ∧ st = ⟨0, envA 20 [(4, .int .i64 (sumK xs k)), (7, .x (lI xs)), (8, .int .i64 (xs.length : Int)), (9, .int .i64 (k : Int))], []⟩) _ _ ⟨0, Nat.zero_le _, rfl, fun j h => absurd h (Nat.not_lt_zero j), rfl⟩ ?_ ?_
  · refine ⟨[], rfl, rfl, ?_, ?_⟩ <;> repeat' (first | exact trivial | exact rfl | exact Iff.rfl | apply And.intro)
    rw [lx]
  · rintro m _ ⟨k, hk, hm, hin, rfl⟩
    have gk : rI (i64s xs) (k : Int).toNat 0 = xs.getD k 0 := by rw [Int.toNat_natCast, i64s_get]
    have hb := sumK_in hl hk hin
    repeat' (conv => whnf
             first
             | refine Rng.ok (by simp only [inR]; omega) ?_
             | refine Ob.mk (by first | omega | (simp; done) | decide | (simp; omega)) ?_
             | refine Ob.mk (show eqOK _ _ = true from by kernel_rfl) ?_
             | refine Val.mk _ (shr_val (by simp; rfl)) ?_
             | refine JoinVC.on ?_
             | refine Nils.mk (fun h => ?_) ?_
             | refine Val.mk _ (Int.tmod_eq_emod_of_nonneg (by omega)) ?_
             | refine Val.mk _ (Int.tdiv_eq_ediv_of_nonneg (by omega)) ?_
             | refine Mm.mk ?_
             | refine CallVC.pure rfl (s56 _ _ _) ?_
             | refine CallVC0.pure rfl (s56 _ _ _) ?_
             | (refine Br.mk (fun h => ?_) (fun h => ?_) <;> first | (exfalso; omega; done) | (exfalso; simp at h; done) | skip))
    · repeat refine Mm.mk ?_
      refine EndVC.mk _ rfl _ _ ⟨rfl, rfl⟩ ?_
      refine ⟨[], rfl, rfl, ?_, ?_⟩ <;> repeat' (first | exact trivial | exact rfl | exact Iff.rfl | apply And.intro)
      all_goals
        have hno : ¬ okN xs := fun hok => by have := hok k (by omega); omega
        first | exact (if_neg hno).symm | exact hno
    · refine Back.mk (xs.length - (k + 1)) _ (by omega) ⟨k + 1, by omega, rfl, fun j hj => ?_, rfl⟩ ?_
      · rcases Nat.lt_or_ge j k with h1 | h1
        · exact hin j h1
        · have : j = k := by omega
          subst this; omega
      · refine ⟨[], rfl, rfl, ?_, ?_⟩ <;> repeat' (first | exact trivial | exact rfl | exact Iff.rfl | apply And.intro)
        rw [gk]; rfl
    · have hok : okN xs := fun j hj => hin j (by omega)
      have e : k = xs.length := by omega
      repeat refine Mm.mk ?_
      refine EndVC.mk _ rfl _ _ ⟨rfl, rfl⟩ ?_
      refine ⟨[], rfl, rfl, ?_, ?_⟩ <;> repeat' (first | exact trivial | exact rfl | exact Iff.rfl | apply And.intro)
      · rw [if_pos hok, e]
      · exact hok
theorem mts_snoc (o : List (Nat × Nat × Int)) (i k : Nat) (n : Int) : mts (o ++ [(i, k, n)]) = mts o ++ [[.int (i : Int), .int (k : Int), .int n]] := by simp [mts]
theorem eb61 : Try.t61.bytes = 24 := by kernel_rfl
/-- What holds at each round. -/
structure MInv (xs ys : List Int) (D : Int) (X Y : List Int) (i k : Nat) (d : Int) (out : List (Nat × Nat × Int)) : Prop where
  lx : X.length = xs.length
  ly : Y.length = ys.length
  sx : xs.length ≤ 64
  sy : ys.length ≤ 64
  bx : ∀ j, 0 ≤ X.getD j 0 ∧ X.getD j 0 ≤ 65536
  by' : ∀ j, 0 ≤ Y.getD j 0 ∧ Y.getD j 0 ≤ 65536
  d0 : 0 ≤ d
  dD : D ≤ 1073741824
  hi : i ≤ xs.length
  hk : k ≤ ys.length
  rx : d ≤ sumK X xs.length - sumK X i
  ry : d ≤ sumK Y ys.length - sumK Y k
  cnt : (out.length : Int) + d ≤ D
  run : ∀ o, MR X Y i k d o → MR xs ys 0 0 D (out ++ o)
theorem MInv.i_lt {xs ys D X Y i k d out} (h : MInv xs ys D X Y i k d out) (hd : 0 < d) : i < xs.length ∧ k < ys.length := by
  have h1 := h.rx
  have h2 := h.ry
  have h3 := h.hi
  have h4 := h.hk
  constructor
  · rcases Nat.lt_or_ge i xs.length with h5 | h5
    · exact h5
    · have : i = xs.length := by omega
      subst this; omega
  · rcases Nat.lt_or_ge k ys.length with h5 | h5
    · exact h5
    · have : k = ys.length := by omega
      subst this; omega
theorem MInv.next_i {xs ys D X Y i k d out} (h : MInv xs ys D X Y i k d out) (hi : i < xs.length) (hx : X.getD i 0 = 0) : MInv xs ys D X Y (i + 1) k d out :=
  { h with hi := hi, rx := by rw [sumK, hx]; have := h.rx; omega, run := fun o ho => h.run o (ho.ci hx) }
theorem MInv.next_k {xs ys D X Y i k d out} (h : MInv xs ys D X Y i k d out) (hk : k < ys.length) (hx : X.getD i 0 ≠ 0) (hy : Y.getD k 0 = 0) : MInv xs ys D X Y i (k + 1) d out :=
  { h with hk := hk, ry := by rw [sumK, hy]; have := h.ry; omega, run := fun o ho => h.run o (ho.ck hx hy) }
theorem MInv.go {xs ys D X Y i k d out} (h : MInv xs ys D X Y i k d out) (hd : 0 < d) (n : Int) (hn : n = min (min (X.getD i 0) (Y.getD k 0)) d) (hpos : 0 < n) :
    MInv xs ys D (X.set i (X.getD i 0 - n)) (Y.set k (Y.getD k 0 - n)) i k (d - n) (out ++ [(i, k, n)]) := by
  obtain ⟨hi, hk⟩ := h.i_lt hd
  have b1 := h.bx i
  have b2 := h.by' k
  have hiX : i < X.length := by rw [h.lx]; exact hi
  have hkY : k < Y.length := by rw [h.ly]; exact hk
  refine ⟨by simp [h.lx], by simp [h.ly], h.sx, h.sy, fun j => ?_, fun j => ?_, by omega, h.dD, h.hi, h.hk, ?_, ?_, ?_, fun o ho => ?_⟩
  · rw [getD_set _ _ _ _ hiX]; have := h.bx j; split <;> omega
  · rw [getD_set _ _ _ _ hkY]; have := h.by' j; split <;> omega
  · rw [sumK_set _ _ _ hiX, sumK_set _ _ _ hiX, if_pos hi, if_neg (by omega)]; have := h.rx; omega
  · rw [sumK_set _ _ _ hkY, sumK_set _ _ _ hkY, if_pos hk, if_neg (by omega)]; have := h.ry; omega
  · have := h.cnt; simp; omega
  · rw [List.append_assoc]
    exact h.run _ (.go n hd (by omega) (by omega) hn ho)
/-- A round of nothing. -/
theorem MInv.set0 {xs ys D X Y i k d out} (h : MInv xs ys D X Y i k d out) (hd : 0 < d) (n : Int) (hn : n = 0) : MInv xs ys D (X.set i (X.getD i 0 - n)) (Y.set k (Y.getD k 0 - n)) i k (d - n) out := by
  obtain ⟨hi, hk⟩ := h.i_lt hd
  have e1 : X.set i (X.getD i 0 - n) = X := by
    rw [hn, Int.sub_zero, List.getD_eq_getElem?_getD, List.getElem?_eq_getElem (by rw [h.lx]; exact hi)]
    exact List.set_getElem_self _
  have e2 : Y.set k (Y.getD k 0 - n) = Y := by
    rw [hn, Int.sub_zero, List.getD_eq_getElem?_getD, List.getElem?_eq_getElem (by rw [h.ly]; exact hk)]
    exact List.set_getElem_self _
  rw [e1, e2, hn, Int.sub_zero]
  exact h
theorem MInv.fin {xs ys D X Y i k d out} (h : MInv xs ys D X Y i k d out) (hd : d ≤ 0) : mo xs ys D = out := by
  have := h.run [] (.done hd)
  rw [List.append_nil] at this
  exact mo_eq this
theorem okN_all {xs : List Int} (h : okN xs) (j : Nat) : 0 ≤ xs.getD j 0 ∧ xs.getD j 0 ≤ 65536 := by
  rcases Nat.lt_or_ge j xs.length with h1 | h1
  · exact h j h1
  · rw [List.getD_eq_getElem?_getD, List.getElem?_eq_none h1]; simp
theorem MInv.start {xs ys : List Int} {D : Int} (h : moE xs ys D = 0) : MInv xs ys D xs ys 0 0 D [] := by
  unfold moE at h
  split at h
  · cases h
  split at h
  · cases h
  split at h
  · cases h
  split at h
  · cases h
  rename_i h1 h2 h3 h4
  have o1 : okN xs := Decidable.byContradiction fun h => h2 (.inl h)
  have o2 : okN ys := Decidable.byContradiction fun h => h2 (.inr h)
  exact ⟨rfl, rfl, by omega, by omega, okN_all o1, okN_all o2, by omega, by omega, Nat.zero_le _, Nat.zero_le _, by simp [sumK]; omega, by simp [sumK]; omega, by simp, fun o ho => ho⟩
@[reducible] def lM (o : List (Nat × Nat × Int)) : XV := .one (.lst false K3 (mts o))
theorem s37 (xs ys : List Int) (D : Int) (hx : xs.length ≤ 1000) (hy : ys.length ≤ 1000) : PSpec Try.prog 37 [lI xs, lI ys, I D] (.tup [lM (moL xs ys D), I (moE xs ys D)]) := by
  have lx := i64s_len xs
  have ly := i64s_len ys
  have bad : moE xs ys D ≠ 0 → ([] : Arr) = mts (moL xs ys D) := fun h => by unfold moL; rw [if_neg h]; rfl
  refine spec_of pMix (O := []) Try.func37 (c := bodyOf Try.f37) rfl (by kernel_rfl) (by kernel_rfl) Try.ntmps37 (res := [.tmp 6, .tmp 7]) (by kernel_rfl) ?_
  repeat refine Mm.mk ?_
  try refine JoinVC.on ?_
  refine Br.mk (fun h => ?_) (fun h => ?_)
  · have e : (6 : Int) = moE xs ys D := by unfold moE; rw [if_pos (by omega)]
    repeat refine Mm.mk ?_
    refine EndVC.mk _ rfl _ _ ⟨rfl, rfl⟩ ?_
    refine ⟨[], rfl, rfl, ?_, ?_⟩ <;> repeat' (first | exact trivial | exact rfl | exact Iff.rfl | apply And.intro)
    · exact (bad (by omega)).symm
    · exact e
  have h1 : ¬ (64 < xs.length ∨ 64 < ys.length) := by omega
  repeat' (conv => whnf
           first
           | refine Rng.ok (by simp only [inR]; omega) ?_
           | refine Ob.mk (by first | omega | (simp; done) | decide | (simp; omega)) ?_
           | refine Ob.mk (show eqOK _ _ = true from by kernel_rfl) ?_
           | refine Val.mk _ (shr_val (by simp; rfl)) ?_
           | refine JoinVC.on ?_
           | refine Nils.mk (fun h => ?_) ?_
           | refine Val.mk _ (Int.tmod_eq_emod_of_nonneg (by omega)) ?_
           | refine Val.mk _ (Int.tdiv_eq_ediv_of_nonneg (by omega)) ?_
           | refine Mm.mk ?_
           | refine CallVC.pure rfl (s78 xs (by omega)) ?_
           | refine CallVC.pure rfl (s78 ys (by omega)) ?_
           | refine CallVC.pure rfl (s56 _ _ _) ?_
           | refine CallVC0.pure rfl (s78 xs (by omega)) ?_
           | refine CallVC0.pure rfl (s78 ys (by omega)) ?_
           | refine CallVC0.pure rfl (s56 _ _ _) ?_
           | (refine Br.mk (fun h => ?_) (fun h => ?_) <;> first | (exfalso; omega; done) | (exfalso; simp at h; done) | skip))
  · have e : (2 : Int) = moE xs ys D := by unfold moE; rw [if_neg h1, if_pos (.inl (by assumption))]
    repeat refine Mm.mk ?_
    refine EndVC.mk _ rfl _ _ ⟨rfl, rfl⟩ ?_
    refine ⟨[], rfl, rfl, ?_, ?_⟩ <;> repeat' (first | exact trivial | exact rfl | exact Iff.rfl | apply And.intro)
    · exact (bad (by omega)).symm
    · exact e
  · have e : (2 : Int) = moE xs ys D := by unfold moE; rw [if_neg h1, if_pos (.inr (by assumption))]
    repeat refine Mm.mk ?_
    refine EndVC.mk _ rfl _ _ ⟨rfl, rfl⟩ ?_
    refine ⟨[], rfl, rfl, ?_, ?_⟩ <;> repeat' (first | exact trivial | exact rfl | exact Iff.rfl | apply And.intro)
    · exact (bad (by omega)).symm
    · exact e
  all_goals
    have h2 : ¬ (¬ okN xs ∨ ¬ okN ys) := fun h => h.elim (by assumption) (by assumption)
    have o1 : okN xs := Decidable.byContradiction fun h => h2 (.inl h)
    have o2 : okN ys := Decidable.byContradiction fun h => h2 (.inr h)
  · have e : (3 : Int) = moE xs ys D := by unfold moE; rw [if_neg h1, if_neg h2, if_pos (by assumption)]
    repeat refine Mm.mk ?_
    refine EndVC.mk _ rfl _ _ ⟨rfl, rfl⟩ ?_
    refine ⟨[], rfl, rfl, ?_, ?_⟩ <;> repeat' (first | exact trivial | exact rfl | exact Iff.rfl | apply And.intro)
    · exact (bad (by omega)).symm
    · exact e
  all_goals
    have h3 : ¬ (D < 0 ∨ 1073741824 < D) := by assumption
    rw [if_pos o1, if_pos o2] at h
  · have e : (15 : Int) = moE xs ys D := by unfold moE; rw [if_neg h1, if_neg h2, if_neg h3, if_pos (by omega)]
    repeat refine Mm.mk ?_
    refine EndVC.mk _ rfl _ _ ⟨rfl, rfl⟩ ?_
    refine ⟨[], rfl, rfl, ?_, ?_⟩ <;> repeat' (first | exact trivial | exact rfl | exact Iff.rfl | apply And.intro)
    · exact (bad (by omega)).symm
    · exact e
  have e0 : moE xs ys D = 0 := by unfold moE; rw [if_neg h1, if_neg h2, if_neg h3, if_neg (by omega)]
  have eL : moL xs ys D = mo xs ys D := by unfold moL; rw [if_pos e0]
  rw [eL, e0]
  clear bad h
  conv => whnf
  refine CallVC.mk [] _ _ _ rfl rfl rfl (s79 (i64s xs) (by omega)) (fun r m' h => ?_)
  obtain ⟨rfl, rfl⟩ := h
  conv => whnf
  refine CallVC.mk [] _ _ _ rfl rfl rfl (s79 (i64s ys) (by omega)) (fun r m' h => ?_)
  obtain ⟨rfl, rfl⟩ := h
  conv => whnf
  refine LoopVC.mk (fun m st => ∃ (X Y : List Int) (i k : Nat) (d : Int) (out : List (Nat × Nat × Int)), MInv xs ys D X Y i k d out ∧ m = (xs.length - i) + (ys.length - k) + (if 0 < d then 1 else 0) ∧ st = ⟨0, envA 105 [(0, .x (.one (.own 0))), (1, .x (.one (.own 1))), (2, .int .i64 d), (12, .x (.one (.own 2))), (13, .int .i64 (i : Int)), (14, .int .i64 (k : Int))], [some (.row 2 false [.int .i64] (i64s X)), some (.row 2 false [.int .i64] (i64s Y)), some (.row 61 false K3 (mts out))]⟩) _ _ ⟨xs, ys, 0, 0, D, [], MInv.start e0, rfl, rfl⟩ ?_ ?_
  · refine ⟨[some 0, some 1, none], rfl, rfl, ?_, ?_⟩ <;> repeat' (first | exact trivial | exact rfl | exact Iff.rfl | apply And.intro)
  clear h
  rintro m _ ⟨X, Y, i, k, d, out, hI, hm, rfl⟩
  have gi : rI (i64s X) (i : Int).toNat 0 = X.getD i 0 := by rw [Int.toNat_natCast, i64s_get]
  have gk : rI (i64s Y) (k : Int).toNat 0 = Y.getD k 0 := by rw [Int.toNat_natCast, i64s_get]
  have lX : (i64s X).length = xs.length := by rw [i64s_len, hI.lx]
  have lY : (i64s Y).length = ys.length := by rw [i64s_len, hI.ly]
  have bX := hI.bx i
  have bY := hI.by' k
  have hd0 := hI.d0
  have hdD := hI.dD
  have hcnt := hI.cnt
  by_cases hd : 0 < d
  · obtain ⟨hi, hk⟩ := hI.i_lt hd
    have s1 := hI.sx
    have s2 := hI.sy
    repeat' (conv => whnf
             first
             | refine Rng.ok (by simp only [inR]; omega) ?_
             | refine Ob.mk (by first | omega | (simp; done) | decide | (simp; omega)) ?_
             | refine Ob.mk (show eqOK _ _ = true from by kernel_rfl) ?_
             | refine Val.mk _ (shr_val (by simp; rfl)) ?_
             | refine JoinVC.on ?_
             | refine Nils.mk (fun h => ?_) ?_
             | refine Val.mk _ (Int.tmod_eq_emod_of_nonneg (by omega)) ?_
             | refine Val.mk _ (Int.tdiv_eq_ediv_of_nonneg (by omega)) ?_
             | (refine Br.mk (fun h => ?_) (fun h => ?_) <;> first | (exfalso; omega; done) | (exfalso; simp at h; done) | skip))
    conv => whnf
    refine Mm.nm (fun n hn => ?_)
    rw [gi, gk] at hn
    have n1 : n ≤ X.getD i 0 ∧ n ≤ Y.getD k 0 ∧ n ≤ d ∧ 0 ≤ n ∧ (n = X.getD i 0 ∨ n = Y.getD k 0 ∨ n = d) ∧ n = min (min (X.getD i 0) (Y.getD k 0)) d := by omega
    clear hn
    have hd1 : m = xs.length - i + (ys.length - k) + 1 := by rw [hm, if_pos hd]
    have u1 : updRow (i64s X) (i : Int).toNat 0 [Cell.int (rI (i64s X) (i : Int).toNat 0 - n)] = i64s (X.set i (X.getD i 0 - n)) := by rw [gi, Int.toNat_natCast]; exact i64s_set X i _ (by rw [hI.lx]; exact hi)
    have u2 : updRow (i64s Y) (k : Int).toNat 0 [Cell.int (rI (i64s Y) (k : Int).toNat 0 - n)] = i64s (Y.set k (Y.getD k 0 - n)) := by rw [gk, Int.toNat_natCast]; exact i64s_set Y k _ (by rw [hI.ly]; exact hk)
    have g3 : rI (i64s (X.set i (X.getD i 0 - n))) (i : Int).toNat 0 = (X.set i (X.getD i 0 - n)).getD i 0 := by rw [Int.toNat_natCast, i64s_get]
    have g4 : rI (i64s (Y.set k (Y.getD k 0 - n))) (k : Int).toNat 0 = (Y.set k (Y.getD k 0 - n)).getD k 0 := by rw [Int.toNat_natCast, i64s_get]
    have e3 : (X.set i (X.getD i 0 - n)).getD i 0 = X.getD i 0 - n := by rw [getD_set _ _ _ _ (by rw [hI.lx]; exact hi), if_pos rfl]
    have e4 : (Y.set k (Y.getD k 0 - n)).getD k 0 = Y.getD k 0 - n := by rw [getD_set _ _ _ _ (by rw [hI.ly]; exact hk), if_pos rfl]
    have l3 : (i64s (X.set i (X.getD i 0 - n))).length = xs.length := by rw [i64s_len, List.length_set, hI.lx]
    have l4 : (i64s (Y.set k (Y.getD k 0 - n))).length = ys.length := by rw [i64s_len, List.length_set, hI.ly]
    clear hm
    repeat' (conv => whnf
             first
             | refine Rng.ok (by simp only [inR]; omega) ?_
             | refine Ob.mk (by first | omega | (simp; done) | decide | (simp; omega)) ?_
             | refine Ob.mk (show eqOK _ _ = true from by kernel_rfl) ?_
             | refine Val.mk _ (shr_val (by simp; rfl)) ?_
             | refine JoinVC.on ?_
             | refine Nils.mk (fun h => ?_) ?_
             | refine Val.mk _ (Int.tmod_eq_emod_of_nonneg (by omega)) ?_
             | refine Val.mk _ (Int.tdiv_eq_ediv_of_nonneg (by omega)) ?_
             | refine Mm.mk ?_
             | (refine Br.mk (fun h => ?_) (fun h => ?_) <;> first | (exfalso; omega; done) | (exfalso; simp at h; done) | skip))
    · have hG := hI.go hd n n1.2.2.2.2.2 (by assumption)
      repeat refine Mm.mk ?_
      refine Ob.mk (by simp only [mts_len, eb61, List.length_cons, List.length_nil]; omega) ?_
      repeat' (conv => whnf
               first
               | refine Rng.ok (by simp only [inR]; omega) ?_
               | refine Ob.mk (by first | omega | (simp; done) | decide | (simp; omega)) ?_
               | refine Ob.mk (show eqOK _ _ = true from by kernel_rfl) ?_
               | refine Val.mk _ (shr_val (by simp; rfl)) ?_
               | refine JoinVC.on ?_
               | refine Nils.mk (fun h => ?_) ?_
               | refine Val.mk _ (Int.tmod_eq_emod_of_nonneg (by omega)) ?_
               | refine Val.mk _ (Int.tdiv_eq_ediv_of_nonneg (by omega)) ?_
               | refine Mm.mk ?_
               | (refine Br.mk (fun h => ?_) (fun h => ?_) <;> first | (exfalso; omega; done) | (exfalso; simp at h; done) | skip))
      rw [u1]
      conv => whnf
      rw [u2]
      repeat' (conv => whnf
               first
               | refine Rng.ok (by simp only [inR]; omega) ?_
               | refine Ob.mk (by first | omega | (simp; done) | decide | (simp; omega)) ?_
               | refine Ob.mk (show eqOK _ _ = true from by kernel_rfl) ?_
               | refine Val.mk _ (shr_val (by simp; rfl)) ?_
               | refine JoinVC.on ?_
               | refine Nils.mk (fun h => ?_) ?_
               | refine Val.mk _ (Int.tmod_eq_emod_of_nonneg (by omega)) ?_
               | refine Val.mk _ (Int.tdiv_eq_ediv_of_nonneg (by omega)) ?_
               | refine Mm.mk ?_
               | (refine Br.mk (fun h => ?_) (fun h => ?_) <;> first | (exfalso; omega; done) | (exfalso; simp at h; done) | skip))
      · refine Back.mk ((xs.length - (i + 1)) + (ys.length - k) + (if 0 < d - n then 1 else 0)) _ (by split <;> omega) ⟨_, _, i + 1, k, d - n, (out ++ [(i, k, n)]), hG.next_i hi (by rw [← g3]; assumption), rfl, rfl⟩ ?_
        refine ⟨[some 0, some 1, some 4], rfl, rfl, ?_, ?_⟩ <;> repeat' (first | exact trivial | exact rfl | exact Iff.rfl | apply And.intro)
        exact (mts_snoc out i k n).symm
      · refine Back.mk ((xs.length - i) + (ys.length - (k + 1)) + (if 0 < d - n then 1 else 0)) _ (by split <;> omega) ⟨_, _, i, k + 1, d - n, (out ++ [(i, k, n)]), hG.next_k hk (by rw [← g3]; assumption) (by rw [← g4]; assumption), rfl, rfl⟩ ?_
        refine ⟨[some 0, some 1, some 4], rfl, rfl, ?_, ?_⟩ <;> repeat' (first | exact trivial | exact rfl | exact Iff.rfl | apply And.intro)
        exact (mts_snoc out i k n).symm
      · refine Back.mk ((xs.length - i) + (ys.length - k) + (if 0 < d - n then 1 else 0)) _ (by split <;> omega) ⟨_, _, i, k, d - n, (out ++ [(i, k, n)]), hG, rfl, rfl⟩ ?_
        refine ⟨[some 0, some 1, some 4], rfl, rfl, ?_, ?_⟩ <;> repeat' (first | exact trivial | exact rfl | exact Iff.rfl | apply And.intro)
        exact (mts_snoc out i k n).symm
    · have hZ := hI.set0 hd n (by omega)
      rw [u1]
      conv => whnf
      rw [u2]
      repeat' (conv => whnf
               first
               | refine Rng.ok (by simp only [inR]; omega) ?_
               | refine Ob.mk (by first | omega | (simp; done) | decide | (simp; omega)) ?_
               | refine Ob.mk (show eqOK _ _ = true from by kernel_rfl) ?_
               | refine Val.mk _ (shr_val (by simp; rfl)) ?_
               | refine JoinVC.on ?_
               | refine Nils.mk (fun h => ?_) ?_
               | refine Val.mk _ (Int.tmod_eq_emod_of_nonneg (by omega)) ?_
               | refine Val.mk _ (Int.tdiv_eq_ediv_of_nonneg (by omega)) ?_
               | refine Mm.mk ?_
               | (refine Br.mk (fun h => ?_) (fun h => ?_) <;> first | (exfalso; omega; done) | (exfalso; simp at h; done) | skip))
      · refine Back.mk ((xs.length - (i + 1)) + (ys.length - k) + (if 0 < d - n then 1 else 0)) _ (by split <;> omega) ⟨_, _, i + 1, k, d - n, out, hZ.next_i hi (by rw [← g3]; assumption), rfl, rfl⟩ ?_
        refine ⟨[some 0, some 1, some 2], rfl, rfl, ?_, ?_⟩ <;> repeat' (first | exact trivial | exact rfl | exact Iff.rfl | apply And.intro)
      · refine Back.mk ((xs.length - i) + (ys.length - (k + 1)) + (if 0 < d - n then 1 else 0)) _ (by split <;> omega) ⟨_, _, i, k + 1, d - n, out, hZ.next_k hk (by rw [← g3]; assumption) (by rw [← g4]; assumption), rfl, rfl⟩ ?_
        refine ⟨[some 0, some 1, some 2], rfl, rfl, ?_, ?_⟩ <;> repeat' (first | exact trivial | exact rfl | exact Iff.rfl | apply And.intro)
  · repeat' (conv => whnf
             first
             | refine Rng.ok (by simp only [inR]; omega) ?_
             | refine Ob.mk (by first | omega | (simp; done) | decide | (simp; omega)) ?_
             | refine Ob.mk (show eqOK _ _ = true from by kernel_rfl) ?_
             | refine Val.mk _ (shr_val (by simp; rfl)) ?_
             | refine JoinVC.on ?_
             | refine Nils.mk (fun h => ?_) ?_
             | refine Val.mk _ (Int.tmod_eq_emod_of_nonneg (by omega)) ?_
             | refine Val.mk _ (Int.tdiv_eq_ediv_of_nonneg (by omega)) ?_
             | refine Mm.mk ?_
             | (refine Br.mk (fun h => ?_) (fun h => ?_) <;> first | (exfalso; omega; done) | (exfalso; simp at h; done) | skip))
    repeat refine Mm.mk ?_
    refine EndVC.mk _ rfl _ _ ⟨rfl, rfl⟩ ?_
    refine ⟨[], rfl, rfl, ?_, ?_⟩ <;> repeat' (first | exact trivial | exact rfl | exact Iff.rfl | apply And.intro)
    exact congrArg mts (hI.fin (by omega)).symm
theorem okN_not {xs : List Int} {k : Nat} (hk : k < xs.length) (h : ¬ (0 ≤ xs.getD k 0 ∧ xs.getD k 0 ≤ 65536)) : ¬ okN xs := fun hok => h (hok k hk)
theorem s38 (xs ys : List Int) (D : Int) (hx : xs.length ≤ 1000) (hy : ys.length ≤ 1000) : PSpec Try.prog 38 [lI xs, lI ys, I D] (.tup [lM (moL xs ys D), I (moE xs ys D)]) := by
  have lx := i64s_len xs
  have ly := i64s_len ys
  have bad : moE xs ys D ≠ 0 → mts (moL xs ys D) = ([] : Arr) := fun h => by unfold moL; rw [if_neg h]; rfl
  have b6 : 64 < xs.length ∨ 64 < ys.length → (6 : Int) = moE xs ys D := fun h => by unfold moE; rw [if_pos h]
  have b2 : ¬ (64 < xs.length ∨ 64 < ys.length) → ¬ okN xs ∨ ¬ okN ys → (2 : Int) = moE xs ys D := fun h1 h => by unfold moE; rw [if_neg h1, if_pos h]
  refine spec_of pMix (O := []) Try.func38 (c := bodyOf Try.f38) rfl (by kernel_rfl) (by kernel_rfl) Try.ntmps38 (res := [.tmp 6, .tmp 7]) (by kernel_rfl) ?_
  repeat' (conv => whnf
           first
           | refine Rng.ok (by simp only [inR]; omega) ?_
           | refine Ob.mk (by first | omega | (simp; done) | decide | (simp; omega)) ?_
           | refine Ob.mk (show eqOK _ _ = true from by kernel_rfl) ?_
           | refine Val.mk _ (shr_val (by simp; rfl)) ?_
           | refine JoinVC.on ?_
           | refine Nils.mk (fun h => ?_) ?_
           | refine Val.mk _ (Int.tmod_eq_emod_of_nonneg (by omega)) ?_
           | refine Val.mk _ (Int.tdiv_eq_ediv_of_nonneg (by omega)) ?_
           | refine Mm.mk ?_
           | (refine Br.mk (fun h => ?_) (fun h => ?_) <;> first | (exfalso; omega; done) | (exfalso; simp at h; done) | skip))
  · have e := b6 (by omega)
    repeat refine Mm.mk ?_
    refine EndVC.mk _ rfl _ _ ⟨rfl, rfl⟩ ?_
    refine ⟨[], rfl, rfl, ?_, ?_⟩ <;> repeat' (first | exact trivial | exact rfl | exact Iff.rfl | apply And.intro)
    · exact bad (by omega)
    · exact e
  · have e := b6 (by omega)
    repeat refine Mm.mk ?_
    refine EndVC.mk _ rfl _ _ ⟨rfl, rfl⟩ ?_
    refine ⟨[], rfl, rfl, ?_, ?_⟩ <;> repeat' (first | exact trivial | exact rfl | exact Iff.rfl | apply And.intro)
    · exact bad (by omega)
    · exact e
  have h1 : ¬ (64 < xs.length ∨ 64 < ys.length) := by omega
  clear b6
  have b2 := b2 h1
  refine LoopVC.mk (fun m st => ∃ k : Nat, k ≤ xs.length ∧ m = xs.length - k ∧ (∀ j, j < k → 0 ≤ xs.getD j 0 ∧ xs.getD j 0 ≤ 65536) ∧ st = ⟨0, envA 134 [(0, .x (lI xs)), (1, .x (lI ys)), (2, .int .i64 D), (8, .int .i64 (sumK xs k)), (9, .int .i64 0), (10, .int .i64 (k : Int))], []⟩) _ _ ⟨0, Nat.zero_le _, rfl, fun j h => absurd h (Nat.not_lt_zero j), rfl⟩ ?_ ?_
  · refine ⟨[], rfl, rfl, ?_, ?_⟩ <;> repeat' (first | exact trivial | exact rfl | exact Iff.rfl | apply And.intro)
  rintro m _ ⟨k, hk, hm, hin, rfl⟩
  have gk : rI (i64s xs) (k : Int).toNat 0 = xs.getD k 0 := by rw [Int.toNat_natCast, i64s_get]
  have hb := sumK_in (xs := xs) (by omega) hk hin
  repeat' (conv => whnf
           first
           | refine Rng.ok (by simp only [inR]; omega) ?_
           | refine Ob.mk (by first | omega | (simp; done) | decide | (simp; omega)) ?_
           | refine Ob.mk (show eqOK _ _ = true from by kernel_rfl) ?_
           | refine Val.mk _ (shr_val (by simp; rfl)) ?_
           | refine JoinVC.on ?_
           | refine Nils.mk (fun h => ?_) ?_
           | refine Val.mk _ (Int.tmod_eq_emod_of_nonneg (by omega)) ?_
           | refine Val.mk _ (Int.tdiv_eq_ediv_of_nonneg (by omega)) ?_
           | refine Mm.mk ?_
           | refine CallVC.pure rfl (s58 _ _ _) ?_
           | refine CallVC0.pure rfl (s58 _ _ _) ?_
           | (refine Br.mk (fun h => ?_) (fun h => ?_) <;> first | (exfalso; omega; done) | (exfalso; simp at h; done) | skip))
  · have e := b2 (.inl (okN_not (k := k) (by omega) (by rw [← gk]; assumption)))
    repeat refine Mm.mk ?_
    refine EndVC.mk _ rfl _ _ ⟨rfl, rfl⟩ ?_
    refine ⟨[], rfl, rfl, ?_, ?_⟩ <;> repeat' (first | exact trivial | exact rfl | exact Iff.rfl | apply And.intro)
    · exact bad (by omega)
    · exact e
  · refine Back.mk (xs.length - (k + 1)) _ (by omega) ⟨k + 1, by omega, rfl, fun j hj => ?_, rfl⟩ ?_
    · rcases Nat.lt_or_ge j k with h1 | h1
      · exact hin j h1
      · have : j = k := by omega
        subst this; omega
    · refine ⟨[], rfl, rfl, ?_, ?_⟩ <;> repeat' (first | exact trivial | exact rfl | exact Iff.rfl | apply And.intro)
      rw [gk]; rfl
  have o1 : okN xs := fun j hj => hin j (by omega)
  have e : k = xs.length := by omega
  subst e
  clear hin hk hm gk
  refine LoopVC.mk (fun m st => ∃ k : Nat, k ≤ ys.length ∧ m = ys.length - k ∧ (∀ j, j < k → 0 ≤ ys.getD j 0 ∧ ys.getD j 0 ≤ 65536) ∧ st = ⟨0, envA 134 [(0, .x (lI xs)), (1, .x (lI ys)), (2, .int .i64 D), (8, .int .i64 (sumK xs xs.length)), (9, .int .i64 (sumK ys k)), (11, .int .i64 (k : Int))], []⟩) _ _ ⟨0, Nat.zero_le _, rfl, fun j h => absurd h (Nat.not_lt_zero j), rfl⟩ ?_ ?_
  · refine ⟨[], rfl, rfl, ?_, ?_⟩ <;> repeat' (first | exact trivial | exact rfl | exact Iff.rfl | apply And.intro)
  rintro m _ ⟨k, hk, hm, hin, rfl⟩
  have gk : rI (i64s ys) (k : Int).toNat 0 = ys.getD k 0 := by rw [Int.toNat_natCast, i64s_get]
  have hb' := sumK_in (xs := ys) (by omega) hk hin
  repeat' (conv => whnf
           first
           | refine Rng.ok (by simp only [inR]; omega) ?_
           | refine Ob.mk (by first | omega | (simp; done) | decide | (simp; omega)) ?_
           | refine Ob.mk (show eqOK _ _ = true from by kernel_rfl) ?_
           | refine Val.mk _ (shr_val (by simp; rfl)) ?_
           | refine JoinVC.on ?_
           | refine Nils.mk (fun h => ?_) ?_
           | refine Val.mk _ (Int.tmod_eq_emod_of_nonneg (by omega)) ?_
           | refine Val.mk _ (Int.tdiv_eq_ediv_of_nonneg (by omega)) ?_
           | refine Mm.mk ?_
           | refine CallVC.pure rfl (s58 _ _ _) ?_
           | refine CallVC0.pure rfl (s58 _ _ _) ?_
           | (refine Br.mk (fun h => ?_) (fun h => ?_) <;> first | (exfalso; omega; done) | (exfalso; simp at h; done) | skip))
  · have e := b2 (.inr (okN_not (k := k) (by omega) (by rw [← gk]; assumption)))
    repeat refine Mm.mk ?_
    refine EndVC.mk _ rfl _ _ ⟨rfl, rfl⟩ ?_
    refine ⟨[], rfl, rfl, ?_, ?_⟩ <;> repeat' (first | exact trivial | exact rfl | exact Iff.rfl | apply And.intro)
    · exact bad (by omega)
    · exact e
  · refine Back.mk (ys.length - (k + 1)) _ (by omega) ⟨k + 1, by omega, rfl, fun j hj => ?_, rfl⟩ ?_
    · rcases Nat.lt_or_ge j k with h1 | h1
      · exact hin j h1
      · have : j = k := by omega
        subst this; omega
    · refine ⟨[], rfl, rfl, ?_, ?_⟩ <;> repeat' (first | exact trivial | exact rfl | exact Iff.rfl | apply And.intro)
      rw [gk]; rfl
  all_goals
    have o2 : okN ys := fun j hj => hin j (by omega)
    have e : k = ys.length := by omega
    subst e
    clear hin hk hm gk b2
    have h2 : ¬ (¬ okN xs ∨ ¬ okN ys) := fun h => h.elim (fun h => h o1) (fun h => h o2)
  · have e : (3 : Int) = moE xs ys D := by unfold moE; rw [if_neg h1, if_neg h2, if_pos (by omega)]
    repeat refine Mm.mk ?_
    refine EndVC.mk _ rfl _ _ ⟨rfl, rfl⟩ ?_
    refine ⟨[], rfl, rfl, ?_, ?_⟩ <;> repeat' (first | exact trivial | exact rfl | exact Iff.rfl | apply And.intro)
    · exact bad (by omega)
    · exact e
  all_goals
    have h3 : ¬ (D < 0 ∨ 1073741824 < D) := by omega
  · have e : (15 : Int) = moE xs ys D := by unfold moE; rw [if_neg h1, if_neg h2, if_neg h3, if_pos (by omega)]
    repeat refine Mm.mk ?_
    refine EndVC.mk _ rfl _ _ ⟨rfl, rfl⟩ ?_
    refine ⟨[], rfl, rfl, ?_, ?_⟩ <;> repeat' (first | exact trivial | exact rfl | exact Iff.rfl | apply And.intro)
    · exact bad (by omega)
    · exact e
  · have e : (15 : Int) = moE xs ys D := by unfold moE; rw [if_neg h1, if_neg h2, if_neg h3, if_pos (by omega)]
    repeat refine Mm.mk ?_
    refine EndVC.mk _ rfl _ _ ⟨rfl, rfl⟩ ?_
    refine ⟨[], rfl, rfl, ?_, ?_⟩ <;> repeat' (first | exact trivial | exact rfl | exact Iff.rfl | apply And.intro)
    · exact bad (by omega)
    · exact e
  have e0 : moE xs ys D = 0 := by unfold moE; rw [if_neg h1, if_neg h2, if_neg h3, if_neg (by omega)]
  have eL : moL xs ys D = mo xs ys D := by unfold moL; rw [if_pos e0]
  rw [eL, e0]
  clear bad hb hb'
  repeat refine Mm.mk ?_
  refine Ob.mk (by simp only [eb, List.length_nil]; omega) ?_
  repeat' (conv => whnf
           first
           | refine Rng.ok (by simp only [inR]; omega) ?_
           | refine Ob.mk (by first | omega | (simp; done) | decide | (simp; omega)) ?_
           | refine Ob.mk (show eqOK _ _ = true from by kernel_rfl) ?_
           | refine Val.mk _ (shr_val (by simp; rfl)) ?_
           | refine JoinVC.on ?_
           | refine Nils.mk (fun h => ?_) ?_
           | refine Val.mk _ (Int.tmod_eq_emod_of_nonneg (by omega)) ?_
           | refine Val.mk _ (Int.tdiv_eq_ediv_of_nonneg (by omega)) ?_
           | refine Mm.mk ?_
           | (refine Br.mk (fun h => ?_) (fun h => ?_) <;> first | (exfalso; omega; done) | (exfalso; simp at h; done) | skip))
  repeat refine Mm.mk ?_
  refine Ob.mk (by simp only [eb, List.length_nil]; omega) ?_
  conv => whnf
  refine LoopVC.mk (fun m st => ∃ (X Y : List Int) (i k : Nat) (d : Int) (out : List (Nat × Nat × Int)), MInv xs ys D X Y i k d out ∧ m = (xs.length - i) + (ys.length - k) + d.toNat ∧ st = ⟨0, envA 134 [(2, .int .i64 d), (12, .x (.one (.own 0))), (13, .x (.one (.own 1))), (14, .x (.one (.own 2))), (15, .int .i64 (i : Int)), (16, .int .i64 (k : Int))], [some (.row 2 false [.int .i64] (i64s X)), some (.row 2 false [.int .i64] (i64s Y)), some (.row 61 false K3 (mts out))]⟩) _ _ ⟨xs, ys, 0, 0, D, [], MInv.start e0, rfl, rfl⟩ ?_ ?_
  · refine ⟨[some 1, some 3, none], rfl, rfl, ?_, ?_⟩ <;> repeat' (first | exact trivial | exact rfl | exact Iff.rfl | apply And.intro)
  rintro m _ ⟨X, Y, i, k, d, out, hI, hm, rfl⟩
  have gi : rI (i64s X) (i : Int).toNat 0 = X.getD i 0 := by rw [Int.toNat_natCast, i64s_get]
  have gk : rI (i64s Y) (k : Int).toNat 0 = Y.getD k 0 := by rw [Int.toNat_natCast, i64s_get]
  have lX : (i64s X).length = xs.length := by rw [i64s_len, hI.lx]
  have lY : (i64s Y).length = ys.length := by rw [i64s_len, hI.ly]
  have bX := hI.bx i
  have bY := hI.by' k
  have hd0 := hI.d0
  have hdD := hI.dD
  have hcnt := hI.cnt
  by_cases hd : 0 < d
  · obtain ⟨hi, hk⟩ := hI.i_lt hd
    have s1 := hI.sx
    have s2 := hI.sy
    repeat' (conv => whnf
             first
             | refine Rng.ok (by simp only [inR]; omega) ?_
             | refine Ob.mk (by first | omega | (simp; done) | decide | (simp; omega)) ?_
             | refine Ob.mk (show eqOK _ _ = true from by kernel_rfl) ?_
             | refine Val.mk _ (shr_val (by simp; rfl)) ?_
             | refine JoinVC.on ?_
             | refine Nils.mk (fun h => ?_) ?_
             | refine Val.mk _ (Int.tmod_eq_emod_of_nonneg (by omega)) ?_
             | refine Val.mk _ (Int.tdiv_eq_ediv_of_nonneg (by omega)) ?_
             | (refine Br.mk (fun h => ?_) (fun h => ?_) <;> first | (exfalso; omega; done) | (exfalso; simp at h; done) | skip))
    · refine Back.mk ((xs.length - (i + 1)) + (ys.length - k) + d.toNat) _ (by omega) ⟨_, _, i + 1, k, d, out, hI.next_i hi (by rw [← gi]; assumption), rfl, rfl⟩ ?_
      refine ⟨[some 0, some 1, some 2], rfl, rfl, ?_, ?_⟩ <;> repeat' (first | exact trivial | exact rfl | exact Iff.rfl | apply And.intro)
    · refine Back.mk ((xs.length - i) + (ys.length - (k + 1)) + d.toNat) _ (by omega) ⟨_, _, i, k + 1, d, out, hI.next_k hk (by rw [← gi]; assumption) (by rw [← gk]; assumption), rfl, rfl⟩ ?_
      refine ⟨[some 0, some 1, some 2], rfl, rfl, ?_, ?_⟩ <;> repeat' (first | exact trivial | exact rfl | exact Iff.rfl | apply And.intro)
    conv => whnf
    refine Mm.nm (fun n hn => ?_)
    rw [gi, gk] at hn
    have n1 : n ≤ X.getD i 0 ∧ n ≤ Y.getD k 0 ∧ n ≤ d ∧ 0 < n ∧ n = min (min (X.getD i 0) (Y.getD k 0)) d := by omega
    clear hn
    have u1 : updRow (i64s X) (i : Int).toNat 0 [Cell.int (rI (i64s X) (i : Int).toNat 0 - n)] = i64s (X.set i (X.getD i 0 - n)) := by rw [gi, Int.toNat_natCast]; exact i64s_set X i _ (by rw [hI.lx]; exact hi)
    have u2 : updRow (i64s Y) (k : Int).toNat 0 [Cell.int (rI (i64s Y) (k : Int).toNat 0 - n)] = i64s (Y.set k (Y.getD k 0 - n)) := by rw [gk, Int.toNat_natCast]; exact i64s_set Y k _ (by rw [hI.ly]; exact hk)
    have hG := hI.go hd n n1.2.2.2.2 n1.2.2.2.1
    conv => whnf
    repeat refine Mm.mk ?_
    refine Ob.mk (by simp only [mts_len, eb61, List.length_cons, List.length_nil]; omega) ?_
    repeat' (conv => whnf
             first
             | refine Rng.ok (by simp only [inR]; omega) ?_
             | refine Ob.mk (by first | omega | (simp; done) | decide | (simp; omega)) ?_
             | refine Ob.mk (show eqOK _ _ = true from by kernel_rfl) ?_
             | refine Val.mk _ (shr_val (by simp; rfl)) ?_
             | refine JoinVC.on ?_
             | refine Nils.mk (fun h => ?_) ?_
             | refine Val.mk _ (Int.tmod_eq_emod_of_nonneg (by omega)) ?_
             | refine Val.mk _ (Int.tdiv_eq_ediv_of_nonneg (by omega)) ?_
             | refine Mm.mk ?_
             | (refine Br.mk (fun h => ?_) (fun h => ?_) <;> first | (exfalso; omega; done) | (exfalso; simp at h; done) | skip))
    conv => whnf
    rw [u1, u2]
    refine Back.mk ((xs.length - i) + (ys.length - k) + (d - n).toNat) _ (by omega) ⟨_, _, i, k, d - n, (out ++ [(i, k, n)]), hG, rfl, rfl⟩ ?_
    refine ⟨[some 0, some 1, some 4], rfl, rfl, ?_, ?_⟩ <;> repeat' (first | exact trivial | exact rfl | exact Iff.rfl | apply And.intro)
    exact (mts_snoc out i k n).symm
  · repeat' (conv => whnf
             first
             | refine Rng.ok (by simp only [inR]; omega) ?_
             | refine Ob.mk (by first | omega | (simp; done) | decide | (simp; omega)) ?_
             | refine Ob.mk (show eqOK _ _ = true from by kernel_rfl) ?_
             | refine Val.mk _ (shr_val (by simp; rfl)) ?_
             | refine JoinVC.on ?_
             | refine Nils.mk (fun h => ?_) ?_
             | refine Val.mk _ (Int.tmod_eq_emod_of_nonneg (by omega)) ?_
             | refine Val.mk _ (Int.tdiv_eq_ediv_of_nonneg (by omega)) ?_
             | refine Mm.mk ?_
             | (refine Br.mk (fun h => ?_) (fun h => ?_) <;> first | (exfalso; omega; done) | (exfalso; simp at h; done) | skip))
    repeat refine Mm.mk ?_
    refine EndVC.mk _ rfl _ _ ⟨rfl, rfl⟩ ?_
    refine ⟨[], rfl, rfl, ?_, ?_⟩ <;> repeat' (first | exact trivial | exact rfl | exact Iff.rfl | apply And.intro)
    exact congrArg mts (hI.fin (by omega)).symm
end Go.Sx

namespace Go.Sx
open Go Go.Proofs
set_option maxRecDepth 10000
set_option maxHeartbeats 1000000
theorem e9 : EntersF Try.prog 9 := enters_of Try.func9 (c := bodyOf Try.f9) (by kernel_rfl) rfl
theorem getD_pos_lt {X : List Int} {i : Nat} (h : X.getD i 0 ≠ 0) : i < X.length := by
  rcases Nat.lt_or_ge i X.length with h1 | h1
  · exact h1
  · rw [List.getD_eq_getElem?_getD, List.getElem?_eq_none h1] at h; exact absurd rfl h
theorem MR.len {X Y i k d o} (h : MR X Y i k d o) : (∀ j, 0 ≤ X.getD j 0) → (∀ j, 0 ≤ Y.getD j 0) → o.length ≤ d.toNat := by
  induction h with
  | done hd => intro _ _; simp
  | si h hx r ih => exact ih
  | sk h hx hy r ih => exact ih
  | go n h hx hy hn r ih =>
    intro hX hY
    have h1 := getD_pos_lt hx
    have h2 := getD_pos_lt hy
    rename_i X Y i k d o
    have b1 := hX i
    have b2 := hY k
    have := ih (fun j => by rw [getD_set _ _ _ _ h1]; have := hX j; split <;> omega) (fun j => by rw [getD_set _ _ _ _ h2]; have := hY j; split <;> omega)
    simp only [List.length_cons]
    omega
theorem moL_len (xs ys : List Int) (D : Int) : (moL xs ys D).length ≤ 1073741824 := by
  unfold moL
  split
  · rename_i h
    have hI := MInv.start h
    have := hI.dD
    unfold mo
    split
    · rename_i hex
      have := hex.choose_spec.len (fun j => (hI.bx j).1) (fun j => (hI.by' j).1)
      omega
    · simp
  · simp
theorem s9 (xs ys : List Int) (D : Int) : PSpec Try.prog 9 [lI xs, lI ys, I D] (xP True) := by
  have lx := i64s_len xs
  have ly := i64s_len ys
  refine spec_of pMix (O := []) Try.func9 (c := bodyOf Try.f9) rfl (by kernel_rfl) (by kernel_rfl) Try.ntmps9 (res := [.tmp 6]) (by kernel_rfl) ?_
  repeat' (conv => whnf
           first
           | refine Rng.ok (by simp only [inR]; omega) ?_
           | refine Ob.mk (by first | omega | (simp; done) | decide | (simp; omega)) ?_
           | refine Ob.mk (show eqOK _ _ = true from by kernel_rfl) ?_
           | refine Val.mk _ (shr_val (by simp; rfl)) ?_
           | refine JoinVC.on ?_
           | refine Nils.mk (fun h => ?_) ?_
           | refine Val.mk _ (Int.tmod_eq_emod_of_nonneg (by omega)) ?_
           | refine Val.mk _ (Int.tdiv_eq_ediv_of_nonneg (by omega)) ?_
           | refine Mm.mk ?_
           | refine CallVC.pure rfl (s22) ?_
           | refine CallVC0.pure rfl (s22) ?_
           | (refine Br.mk (fun h => ?_) (fun h => ?_) <;> first | (exfalso; omega; done) | (exfalso; simp at h; done) | skip))
  · repeat refine Mm.mk ?_
    refine EndVC.mk _ rfl _ _ ⟨rfl, rfl⟩ ?_
    refine ⟨[], rfl, rfl, ?_, ?_⟩ <;> repeat' (first | exact trivial | exact rfl | exact Iff.rfl | apply And.intro)
  · repeat refine Mm.mk ?_
    refine EndVC.mk _ rfl _ _ ⟨rfl, rfl⟩ ?_
    refine ⟨[], rfl, rfl, ?_, ?_⟩ <;> repeat' (first | exact trivial | exact rfl | exact Iff.rfl | apply And.intro)
  repeat' (conv => whnf
           first
           | refine Rng.ok (by simp only [inR]; omega) ?_
           | refine Ob.mk (by first | omega | (simp; done) | decide | (simp; omega)) ?_
           | refine Ob.mk (show eqOK _ _ = true from by kernel_rfl) ?_
           | refine Val.mk _ (shr_val (by simp; rfl)) ?_
           | refine JoinVC.on ?_
           | refine Nils.mk (fun h => ?_) ?_
           | refine Val.mk _ (Int.tmod_eq_emod_of_nonneg (by omega)) ?_
           | refine Val.mk _ (Int.tdiv_eq_ediv_of_nonneg (by omega)) ?_
           | refine Mm.mk ?_
           | refine CallVC.pure rfl (s37 xs ys D (by omega) (by omega)) ?_
           | refine CallVC.pure rfl (s38 xs ys D (by omega) (by omega)) ?_
           | refine CallVC.pure rfl (s22) ?_
           | refine CallVC0.pure rfl (s37 xs ys D (by omega) (by omega)) ?_
           | refine CallVC0.pure rfl (s38 xs ys D (by omega) (by omega)) ?_
           | refine CallVC0.pure rfl (s22) ?_
           | (refine Br.mk (fun h => ?_) (fun h => ?_) <;> first | (exfalso; omega; done) | (exfalso; simp at h; done) | skip))
  all_goals conv => whnf
  have hL : (mts (moL xs ys D)).length ≤ 1073741824 := by rw [mts_len]; exact moL_len ..
  generalize mts (moL xs ys D) = a at hL ⊢
  refine LoopVC.mk (fun m st => ∃ k : Nat, k ≤ a.length ∧ m = a.length - k ∧ st = ⟨0, envA 61 [(7, .x (.one (.lst false K3 a))), (9, .x (.one (.lst false K3 a))), (11, .int .i64 (k : Int))], []⟩) _ _ ⟨0, Nat.zero_le _, rfl, rfl⟩ ?_ ?_
  · refine ⟨[], rfl, rfl, ?_, ?_⟩ <;> repeat' (first | exact trivial | exact rfl | exact Iff.rfl | apply And.intro)
  rintro m _ ⟨k, hk, hm, rfl⟩
  repeat' (conv => whnf
           first
           | refine Rng.ok (by simp only [inR]; omega) ?_
           | refine Ob.mk (by first | omega | (simp; done) | decide | (simp; omega)) ?_
           | refine Ob.mk (show eqOK _ _ = true from by kernel_rfl) ?_
           | refine Val.mk _ (shr_val (by simp; rfl)) ?_
           | refine JoinVC.on ?_
           | refine Nils.mk (fun h => ?_) ?_
           | refine Val.mk _ (Int.tmod_eq_emod_of_nonneg (by omega)) ?_
           | refine Val.mk _ (Int.tdiv_eq_ediv_of_nonneg (by omega)) ?_
           | refine Mm.mk ?_
           | refine CallVC.pure rfl (s22) ?_
           | refine CallVC0.pure rfl (s22) ?_
           | (refine Br.mk (fun h => ?_) (fun h => ?_) <;> first | (exfalso; omega; done) | (exfalso; simp at h; done) | skip))
  · refine Back.mk (a.length - (k + 1)) _ (by omega) ⟨k + 1, by omega, rfl, rfl⟩ ?_
    refine ⟨[], rfl, rfl, ?_, ?_⟩ <;> repeat' (first | exact trivial | exact rfl | exact Iff.rfl | apply And.intro)
  · repeat refine Mm.mk ?_
    refine EndVC.mk _ rfl _ _ ⟨rfl, rfl⟩ ?_
    refine ⟨[], rfl, rfl, ?_, ?_⟩ <;> repeat' (first | exact trivial | exact rfl | exact Iff.rfl | apply And.intro)
end Go.Sx

namespace Go.Sx
open Go Go.Proofs
set_option maxRecDepth 100000
set_option maxHeartbeats 1000000
theorem e10 : EntersF Try.prog 10 := enters_of Try.func10 (c := bodyOf Try.f10) (by kernel_rfl) rfl
theorem MR.head {X Y i k d o} (h : MR X Y i k d o) : ∀ {i1 k1 n1 rest}, o = (i1, k1, n1) :: rest → i ≤ i1 ∧ k ≤ k1 ∧ (∀ t, i ≤ t → t < i1 → X.getD t 0 = 0) ∧ (∀ t, k ≤ t → t < k1 → Y.getD t 0 = 0) ∧ X.getD i1 0 ≠ 0 ∧ Y.getD k1 0 ≠ 0 ∧
    n1 = min (min (X.getD i1 0) (Y.getD k1 0)) d ∧ 0 < d ∧ MR (X.set i1 (X.getD i1 0 - n1)) (Y.set k1 (Y.getD k1 0 - n1)) i1 k1 (d - n1) rest := by
  induction h with
  | done hd => intro _ _ _ _ e; cases e
  | si h hx r ih =>
    intro i1 k1 n1 rest e
    obtain ⟨h1, h2, h3, h4, h5⟩ := ih e
    refine ⟨by omega, h2, fun t h6 h7 => ?_, h4, h5⟩
    rename_i X Y i k d o
    by_cases ht : t = i
    · rw [ht]; exact hx
    · exact h3 t (by omega) h7
  | sk h hx hy r ih =>
    intro i1 k1 n1 rest e
    obtain ⟨h1, h2, h3, h4, h5⟩ := ih e
    refine ⟨h1, by omega, h3, fun t h6 h7 => ?_, h5⟩
    rename_i X Y i k d o
    by_cases ht : t = k
    · rw [ht]; exact hy
    · exact h4 t (by omega) h7
  | go n h hx hy hn r ih =>
    intro i1 k1 n1 rest e
    cases e
    exact ⟨Nat.le_refl _, Nat.le_refl _, fun t h1 h2 => by omega, fun t h1 h2 => by omega, hx, hy, hn, h, r⟩
theorem MR.empty {X Y i k d o} (h : MR X Y i k d o) : o = [] → d ≤ 0 := by
  induction h with
  | done hd => intro _; exact hd
  | si h hx r ih => exact ih
  | sk h hx hy r ih => exact ih
  | go n h hx hy hn r ih => intro e; cases e
theorem MInv.ex : ∀ (n : Nat) {xs ys D X Y i k d out}, MInv xs ys D X Y i k d out → (xs.length - i) + (ys.length - k) + d.toNat ≤ n → ∃ o, MR X Y i k d o
  | n, xs, ys, D, X, Y, i, k, d, out, h, hn => by
    by_cases hd : 0 < d
    · obtain ⟨hi, hk⟩ := h.i_lt hd
      cases n with
      | zero => omega
      | succ n =>
        by_cases hx : X.getD i 0 = 0
        · obtain ⟨o, ho⟩ := MInv.ex n (h.next_i hi hx) (by omega)
          exact ⟨o, .si hd hx ho⟩
        by_cases hy : Y.getD k 0 = 0
        · obtain ⟨o, ho⟩ := MInv.ex n (h.next_k hk hx hy) (by omega)
          exact ⟨o, .sk hd hx hy ho⟩
        have b1 := h.bx i
        have b2 := h.by' k
        have hp : 0 < min (min (X.getD i 0) (Y.getD k 0)) d := by omega
        obtain ⟨o, ho⟩ := MInv.ex n (h.go hd _ rfl hp) (by omega)
        exact ⟨_, .go _ hd hx hy rfl ho⟩
    · exact ⟨[], .done (by omega)⟩
theorem mts_get (o : List (Nat × Nat × Int)) (j : Nat) {p : Nat × Nat × Int} (h : o[j]? = some p) : rI (mts o) j 0 = (p.1 : Int) ∧ rI (mts o) j 1 = (p.2.1 : Int) ∧ rI (mts o) j 2 = p.2.2 := by
  have : (mts o).getD j [] = [.int (p.1 : Int), .int (p.2.1 : Int), .int p.2.2] := by simp [mts, List.getD_eq_getElem?_getD, h]
  simp only [rI, cellAt, this]
  exact ⟨rfl, rfl, rfl⟩
theorem MInv.adv_i {xs ys D X Y k d out} : ∀ (n i : Nat), MInv xs ys D X Y i k d out → (∀ t, i ≤ t → t < i + n → X.getD t 0 = 0) → i + n ≤ xs.length → MInv xs ys D X Y (i + n) k d out
  | 0, i, h, _, _ => h
  | n + 1, i, h, h0, hl => by
    have h1 := h.next_i (by omega) (h0 i (Nat.le_refl _) (by omega))
    have := MInv.adv_i n (i + 1) h1 (fun t h2 h3 => h0 t (by omega) (by omega)) (by omega)
    rwa [show i + 1 + n = i + (n + 1) by omega] at this
theorem MInv.adv_k {xs ys D X Y i d out} (hx : X.getD i 0 ≠ 0) : ∀ (n k : Nat), MInv xs ys D X Y i k d out → (∀ t, k ≤ t → t < k + n → Y.getD t 0 = 0) → k + n ≤ ys.length → MInv xs ys D X Y i (k + n) d out
  | 0, k, h, _, _ => h
  | n + 1, k, h, h0, hl => by
    have h1 := h.next_k (by omega) hx (h0 k (Nat.le_refl _) (by omega))
    have := MInv.adv_k hx n (k + 1) h1 (fun t h2 h3 => h0 t (by omega) (by omega)) (by omega)
    rwa [show k + 1 + n = k + (n + 1) by omega] at this
/-- A list of bytes. -/
@[reducible] def lU8 (xs : List Int) : XV := .one (.lst true [.int .u8] (i64s xs))
set_option maxHeartbeats 8000000 in
theorem s10 (xs ys : List Int) (D : Int) (hx : ∀ j, 0 ≤ xs.getD j 0 ∧ xs.getD j 0 ≤ 255) (hy : ∀ j, 0 ≤ ys.getD j 0 ∧ ys.getD j 0 ≤ 255) (hD : 0 ≤ D ∧ D ≤ 65535) : PSpec Try.prog 10 [lU8 xs, lU8 ys, .one (.int .u16 D)] (xP True) := by
  have lx := i64s_len xs
  have ly := i64s_len ys
  refine spec_of pMix (O := []) Try.func10 (c := bodyOf Try.f10) rfl (by kernel_rfl) (by kernel_rfl) Try.ntmps10 (res := [.tmp 6]) (by kernel_rfl) ?_
  repeat' (conv => whnf
           first
           | refine Rng.ok (by simp only [inR]; omega) ?_
           | refine Ob.mk (by first | omega | (simp; done) | decide | (simp; omega)) ?_
           | refine Ob.mk (show eqOK _ _ = true from by kernel_rfl) ?_
           | refine Val.mk _ (shr_val (by simp; rfl)) ?_
           | refine JoinVC.on ?_
           | refine Nils.mk (fun h => ?_) ?_
           | refine Val.mk _ (Int.tmod_eq_emod_of_nonneg (by omega)) ?_
           | refine Val.mk _ (Int.tdiv_eq_ediv_of_nonneg (by omega)) ?_
           | refine Mm.mk ?_
           | refine CallVC.pure rfl (s22) ?_
           | refine CallVC0.pure rfl (s22) ?_
           | (refine Br.mk (fun h => ?_) (fun h => ?_) <;> first | (exfalso; omega; done) | (exfalso; simp at h; done) | skip))
  · repeat refine Mm.mk ?_
    refine EndVC.mk _ rfl _ _ ⟨rfl, rfl⟩ ?_
    refine ⟨[], rfl, rfl, ?_, ?_⟩ <;> repeat' (first | exact trivial | exact rfl | exact Iff.rfl | apply And.intro)
  · repeat refine Mm.mk ?_
    refine EndVC.mk _ rfl _ _ ⟨rfl, rfl⟩ ?_
    refine ⟨[], rfl, rfl, ?_, ?_⟩ <;> repeat' (first | exact trivial | exact rfl | exact Iff.rfl | apply And.intro)
  have h1 : xs.length ≤ 64 ∧ ys.length ≤ 64 := by omega
  refine LoopVC.mk (fun m st => ∃ k : Nat, k ≤ xs.length ∧ m = xs.length - k ∧ st = ⟨0, envA 241 [(0, .x (lU8 xs)), (1, .x (lU8 ys)), (2, .x (.one (.int .u16 D))), (7, .x (.one (.own 0))), (8, .x (.one .nils)), (9, .int .i64 (sumK xs k)), (10, .int .i64 0), (11, .int .i64 (k : Int))], [some (.row 2 false [.int .i64] (i64s (xs.take k)))]⟩) _ _ ⟨0, Nat.zero_le _, rfl, rfl⟩ ?_ ?_
  · refine ⟨[none], rfl, rfl, ?_, ?_⟩ <;> repeat' (first | exact trivial | exact rfl | exact Iff.rfl | apply And.intro)
  rintro m _ ⟨k, hk, hm, rfl⟩
  have gk : rI (i64s xs) (k : Int).toNat 0 = xs.getD k 0 := by rw [Int.toNat_natCast, i64s_get]
  have bk := hx k
  have sk := sumK_in (xs := xs) h1.1 hk (fun j _ => by have := hx j; omega)
  have lk : (i64s (xs.take k)).length = k := by rw [i64s_len, List.length_take]; omega
  repeat' (conv => whnf
           first
           | refine Rng.ok (by simp only [inR]; omega) ?_
           | refine Ob.mk (by first | omega | (simp; done) | decide | (simp; omega)) ?_
           | refine Ob.mk (show eqOK _ _ = true from by kernel_rfl) ?_
           | refine Val.mk _ (shr_val (by simp; rfl)) ?_
           | refine JoinVC.on ?_
           | refine Nils.mk (fun h => ?_) ?_
           | refine Val.mk _ (Int.tmod_eq_emod_of_nonneg (by omega)) ?_
           | refine Val.mk _ (Int.tdiv_eq_ediv_of_nonneg (by omega)) ?_
           | refine Mm.mk ?_
           | (refine Br.mk (fun h => ?_) (fun h => ?_) <;> first | (exfalso; omega; done) | (exfalso; simp at h; done) | skip))
  · conv => whnf
    repeat refine Mm.mk ?_
    refine Ob.mk (by simp only [lk, eb, List.length_cons, List.length_nil]; omega) ?_
    have ek : i64s (xs.take k) ++ [[Cell.int (rI (i64s xs) (k : Int).toNat 0)]] = i64s (xs.take (k + 1)) := by
      rw [gk, ← i64s_snoc, List.take_add_one, List.getD_eq_getElem?_getD, List.getElem?_eq_getElem (by omega)]; rfl
    have lk1 : (i64s (xs.take (k + 1))).length = k + 1 := by rw [i64s_len, List.length_take]; omega
    have gk1 : rI (i64s (xs.take (k + 1))) (k : Int).toNat 0 = xs.getD k 0 := by
      rw [Int.toNat_natCast, i64s_get, List.getD_eq_getElem?_getD, List.getElem?_take, if_pos (by omega), ← List.getD_eq_getElem?_getD]
    conv => whnf
    rw [ek]
    repeat' (conv => whnf
             first
             | refine Rng.ok (by simp only [inR]; omega) ?_
             | refine Ob.mk (by first | omega | (simp; done) | decide | (simp; omega)) ?_
             | refine Ob.mk (show eqOK _ _ = true from by kernel_rfl) ?_
             | refine Val.mk _ (shr_val (by simp; rfl)) ?_
             | refine JoinVC.on ?_
             | refine Nils.mk (fun h => ?_) ?_
             | refine Val.mk _ (Int.tmod_eq_emod_of_nonneg (by omega)) ?_
             | refine Val.mk _ (Int.tdiv_eq_ediv_of_nonneg (by omega)) ?_
             | refine Mm.mk ?_
             | (refine Br.mk (fun h => ?_) (fun h => ?_) <;> first | (exfalso; omega; done) | (exfalso; simp at h; done) | skip))
    refine Back.mk (xs.length - (k + 1)) _ (by omega) ⟨k + 1, by omega, rfl, rfl⟩ ?_
    refine ⟨[some 2], rfl, rfl, ?_, ?_⟩ <;> repeat' (first | exact trivial | exact rfl | exact Iff.rfl | apply And.intro)
    rw [gk1]; rfl
  have e : k = xs.length := by omega
  subst e
  rw [List.take_length]
  clear lk gk bk hm hk
  conv => whnf
  refine LoopVC.mk (fun m st => ∃ k : Nat, k ≤ ys.length ∧ m = ys.length - k ∧ st = ⟨0, envA 241 [(0, .x (lU8 xs)), (1, .x (lU8 ys)), (2, .x (.one (.int .u16 D))), (7, .x (.one (.own 0))), (8, .x (.one (.own 1))), (9, .int .i64 (sumK xs xs.length)), (10, .int .i64 (sumK ys k)), (12, .int .i64 (k : Int))], [some (.row 2 false [.int .i64] (i64s xs)), some (.row 2 false [.int .i64] (i64s (ys.take k)))]⟩) _ _ ⟨0, Nat.zero_le _, rfl, rfl⟩ ?_ ?_
  · refine ⟨[some 0, none], rfl, rfl, ?_, ?_⟩ <;> repeat' (first | exact trivial | exact rfl | exact Iff.rfl | apply And.intro)
  rintro m _ ⟨k, hk, hm, rfl⟩
  have gk : rI (i64s ys) (k : Int).toNat 0 = ys.getD k 0 := by rw [Int.toNat_natCast, i64s_get]
  have bk := hy k
  have sk' := sumK_in (xs := ys) h1.2 hk (fun j _ => by have := hy j; omega)
  have lk : (i64s (ys.take k)).length = k := by rw [i64s_len, List.length_take]; omega
  have o1 : okN xs := fun j _ => by have := hx j; omega
  have o2 : okN ys := fun j _ => by have := hy j; omega
  repeat' (conv => whnf
           first
           | refine Rng.ok (by simp only [inR]; omega) ?_
           | refine Ob.mk (by first | omega | (simp; done) | decide | (simp; omega)) ?_
           | refine Ob.mk (show eqOK _ _ = true from by kernel_rfl) ?_
           | refine Val.mk _ (shr_val (by simp; rfl)) ?_
           | refine JoinVC.on ?_
           | refine Nils.mk (fun h => ?_) ?_
           | refine Val.mk _ (Int.tmod_eq_emod_of_nonneg (by omega)) ?_
           | refine Val.mk _ (Int.tdiv_eq_ediv_of_nonneg (by omega)) ?_
           | refine Mm.mk ?_
           | refine CallVC.pure rfl (s37 xs ys D (by omega) (by omega)) ?_
           | refine CallVC.pure rfl (s22) ?_
           | refine CallVC0.pure rfl (s37 xs ys D (by omega) (by omega)) ?_
           | refine CallVC0.pure rfl (s22) ?_
           | (refine Br.mk (fun h => ?_) (fun h => ?_) <;> first | (exfalso; omega; done) | (exfalso; simp at h; done) | skip))
  · conv => whnf
    repeat refine Mm.mk ?_
    refine Ob.mk (by simp only [lk, eb, List.length_cons, List.length_nil]; omega) ?_
    have ek : i64s (ys.take k) ++ [[Cell.int (rI (i64s ys) (k : Int).toNat 0)]] = i64s (ys.take (k + 1)) := by
      rw [gk, ← i64s_snoc, List.take_add_one, List.getD_eq_getElem?_getD, List.getElem?_eq_getElem (by omega)]; rfl
    have lk1 : (i64s (ys.take (k + 1))).length = k + 1 := by rw [i64s_len, List.length_take]; omega
    have gk1 : rI (i64s (ys.take (k + 1))) (k : Int).toNat 0 = ys.getD k 0 := by
      rw [Int.toNat_natCast, i64s_get, List.getD_eq_getElem?_getD, List.getElem?_take, if_pos (by omega), ← List.getD_eq_getElem?_getD]
    conv => whnf
    rw [ek]
    repeat' (conv => whnf
             first
             | refine Rng.ok (by simp only [inR]; omega) ?_
             | refine Ob.mk (by first | omega | (simp; done) | decide | (simp; omega)) ?_
             | refine Ob.mk (show eqOK _ _ = true from by kernel_rfl) ?_
             | refine Val.mk _ (shr_val (by simp; rfl)) ?_
             | refine JoinVC.on ?_
             | refine Nils.mk (fun h => ?_) ?_
             | refine Val.mk _ (Int.tmod_eq_emod_of_nonneg (by omega)) ?_
             | refine Val.mk _ (Int.tdiv_eq_ediv_of_nonneg (by omega)) ?_
             | refine Mm.mk ?_
             | (refine Br.mk (fun h => ?_) (fun h => ?_) <;> first | (exfalso; omega; done) | (exfalso; simp at h; done) | skip))
    refine Back.mk (ys.length - (k + 1)) _ (by omega) ⟨k + 1, by omega, rfl, rfl⟩ ?_
    refine ⟨[some 0, some 3], rfl, rfl, ?_, ?_⟩ <;> repeat' (first | exact trivial | exact rfl | exact Iff.rfl | apply And.intro)
    rw [gk1]; rfl
  have e : k = ys.length := by omega
  subst e
  rw [List.take_length]
  clear lk gk bk hm hk
  have hE : moE xs ys D = if sumK xs xs.length < D ∨ sumK ys ys.length < D then 15 else 0 := by
    unfold moE
    rw [if_neg (by omega), if_neg (fun h => h.elim (fun h => h o1) (fun h => h o2)), if_neg (by omega)]
  have hL15 : moE xs ys D = 15 → (mts (moL xs ys D)).length = 0 := fun h => by unfold moL; rw [if_neg (by omega)]; rfl
  repeat' (conv => whnf
           first
           | refine Rng.ok (by simp only [inR]; omega) ?_
           | refine Ob.mk (by first | omega | (simp; done) | decide | (simp; omega)) ?_
           | refine Ob.mk (show eqOK _ _ = true from by kernel_rfl) ?_
           | refine Val.mk _ (shr_val (by simp; rfl)) ?_
           | refine JoinVC.on ?_
           | refine Nils.mk (fun h => ?_) ?_
           | refine Val.mk _ (Int.tmod_eq_emod_of_nonneg (by omega)) ?_
           | refine Val.mk _ (Int.tdiv_eq_ediv_of_nonneg (by omega)) ?_
           | refine Mm.mk ?_
           | refine CallVC.pure rfl (s37 xs ys D (by omega) (by omega)) ?_
           | refine CallVC.pure rfl (s22) ?_
           | refine CallVC0.pure rfl (s37 xs ys D (by omega) (by omega)) ?_
           | refine CallVC0.pure rfl (s22) ?_
           | (refine Br.mk (fun h => ?_) (fun h => ?_) <;> first | (exfalso; omega; done) | (exfalso; simp at h; done) | skip))
  · repeat refine Mm.mk ?_
    refine EndVC.mk _ rfl _ _ ⟨rfl, rfl⟩ ?_
    refine ⟨[], rfl, rfl, ?_, ?_⟩ <;> repeat' (first | exact trivial | exact rfl | exact Iff.rfl | apply And.intro)
  have e0 : moE xs ys D = 0 := by omega
  have hS := MInv.start e0
  obtain ⟨o, ho⟩ := MInv.ex _ hS (Nat.le_refl _)
  have eL : moL xs ys D = o := by unfold moL; rw [if_pos e0]; exact mo_eq ho
  rw [eL]
  have hol : o.length ≤ 65535 := by
    have := ho.len (fun j => by have := hx j; omega) (fun j => by have := hy j; omega)
    omega
  conv => whnf
  refine LoopVC.mk (fun m st => ∃ (j : Nat) (X Y : List Int) (i k : Nat) (d : Int) (out : List (Nat × Nat × Int)), j ≤ o.length ∧ m = o.length - j ∧ MInv xs ys D X Y i k d out ∧ MR X Y i k d (o.drop j) ∧ (0 < j → (∃ n0, o[j - 1]? = some (i, k, n0)) ∧ (0 < d → X.getD i 0 = 0 ∨ Y.getD k 0 = 0)) ∧
    st = ⟨0, envA 241 [(7, .x (.one (.own 0))), (8, .x (.one (.own 1))), (13, .int .i64 d), (14, .x (.one (.lst false K3 (mts o)))), (16, .int .i64 (j : Int))], [some (.row 2 false [.int .i64] (i64s X)), some (.row 2 false [.int .i64] (i64s Y))]⟩) _ _ ⟨0, xs, ys, 0, 0, D, [], Nat.zero_le _, rfl, hS, ho, fun h => absurd h (Nat.lt_irrefl 0), rfl⟩ ?_ ?_
  · refine ⟨[some 0, some 1], rfl, rfl, ?_, ?_⟩ <;> repeat' (first | exact trivial | exact rfl | exact Iff.rfl | apply And.intro)
  rintro m _ ⟨j, X, Y, i, k, d, out, hj, hm, hI, hR, hP, rfl⟩
  have lM := mts_len o
  have lX : (i64s X).length = xs.length := by rw [i64s_len, hI.lx]
  have lY : (i64s Y).length = ys.length := by rw [i64s_len, hI.ly]
  have hd0 := hI.d0
  have hdD := hI.dD
  have hcnt := hI.cnt
  clear hE hL15 eL ho
  by_cases hjl : j < o.length
  · obtain ⟨⟨i1, k1, n1⟩, hp⟩ : ∃ p, o[j]? = some p := ⟨_, List.getElem?_eq_getElem hjl⟩
    have hdrop : o.drop j = (i1, k1, n1) :: o.drop (j + 1) := by
      rw [List.drop_eq_getElem_cons hjl]
      rw [List.getElem?_eq_getElem hjl] at hp
      rw [Option.some.inj hp]
    obtain ⟨q1, q2, q3, q4, q5, q6, q7, q8, q9⟩ := hR.head hdrop
    have i1l := getD_pos_lt q5
    have k1l := getD_pos_lt q6
    rw [hI.lx] at i1l
    rw [hI.ly] at k1l
    obtain ⟨a0, a1, a2⟩ := mts_get o j hp
    rw [show j = ((j : Int)).toNat from rfl] at a0 a1 a2
    simp only at a0 a1 a2
    have c1 : rI (i64s X) (rI (mts o) (j : Int).toNat 0).toNat 0 = X.getD i1 0 := by rw [a0, Int.toNat_natCast, i64s_get]
    have c2 : rI (i64s Y) (rI (mts o) (j : Int).toNat 1).toNat 0 = Y.getD k1 0 := by rw [a1, Int.toNat_natCast, i64s_get]
    have a1' : rI (mts o) (j : Int).toNat (0 + 1) = (k1 : Int) := a1
    have a2' : rI (mts o) (j : Int).toNat (0 + 1 + 1) = n1 := a2
    have c2' : rI (i64s Y) (rI (mts o) (j : Int).toNat (0 + 1)).toNat 0 = Y.getD k1 0 := c2
    have bX := hI.bx i1
    have bY := hI.by' k1
    have b0 : 0 < j → rI (mts o) ((j : Int) - 1).toNat 0 = (i : Int) ∧ rI (mts o) ((j : Int) - 1).toNat 1 = (k : Int) ∧ rI (i64s X) (rI (mts o) ((j : Int) - 1).toNat 0).toNat 0 = X.getD i 0 ∧ rI (i64s Y) (rI (mts o) ((j : Int) - 1).toNat 1).toNat 0 = Y.getD k 0 := fun h => by
      obtain ⟨⟨n0, h0⟩, _⟩ := hP h
      obtain ⟨g0, g1, _⟩ := mts_get o (j - 1) h0
      have e : ((j : Int) - 1).toNat = j - 1 := by omega
      rw [e]
      simp only at g0 g1
      exact ⟨g0, g1, by rw [g0, Int.toNat_natCast, i64s_get], by rw [g1, Int.toNat_natCast, i64s_get]⟩
    have b0' : 0 < j → rI (mts o) ((j : Int) - 1).toNat (0 + 1) = (k : Int) ∧ rI (i64s Y) (rI (mts o) ((j : Int) - 1).toNat (0 + 1)).toNat 0 = Y.getD k 0 := fun h => ⟨(b0 h).2.1, (b0 h).2.2.2⟩
    have p0 : 0 < j → X.getD i 0 = 0 ∨ Y.getD k 0 = 0 := fun h => (hP h).2 q8
    have p1 : i < i1 → X.getD i 0 = 0 := fun h => q3 i (Nat.le_refl _) h
    have p2 : k < k1 → Y.getD k 0 = 0 := fun h => q4 k (Nat.le_refl _) h
    have p3 : i = i1 → X.getD i 0 ≠ 0 := fun h => by rw [h]; exact q5
    have p4 : k = k1 → Y.getD k 0 ≠ 0 := fun h => by rw [h]; exact q6
    have hil := hI.hi
    have hkl := hI.hk
    have u1 : updRow (i64s X) (rI (mts o) (j : Int).toNat 0).toNat 0 [Cell.int (rI (i64s X) (rI (mts o) (j : Int).toNat 0).toNat 0 - rI (mts o) (j : Int).toNat (0 + 1 + 1))] = i64s (X.set i1 (X.getD i1 0 - n1)) := by
      rw [c1, a2', a0, Int.toNat_natCast]; exact i64s_set X i1 _ (by rw [hI.lx]; exact i1l)
    have u2 : updRow (i64s Y) (rI (mts o) (j : Int).toNat (0 + 1)).toNat 0 [Cell.int (rI (i64s Y) (rI (mts o) (j : Int).toNat (0 + 1)).toNat 0 - rI (mts o) (j : Int).toNat (0 + 1 + 1))] = i64s (Y.set k1 (Y.getD k1 0 - n1)) := by
      rw [c2', a2', a1', Int.toNat_natCast]; exact i64s_set Y k1 _ (by rw [hI.ly]; exact k1l)
    have hI1 : MInv xs ys D X Y i1 k d out := by
      have := hI.adv_i (i1 - i) i (fun t h1 h2 => q3 t h1 (by omega)) (by omega)
      rwa [show i + (i1 - i) = i1 by omega] at this
    have hI2 : MInv xs ys D X Y i1 k1 d out := by
      have := hI1.adv_k q5 (k1 - k) k (fun t h1 h2 => q4 t h1 (by omega)) (by omega)
      rwa [show k + (k1 - k) = k1 by omega] at this
    have hG := hI2.go q8 n1 q7 (by omega)
    have hz : 0 < d - n1 → (X.set i1 (X.getD i1 0 - n1)).getD i1 0 = 0 ∨ (Y.set k1 (Y.getD k1 0 - n1)).getD k1 0 = 0 := fun h => by
      rw [getD_set _ _ _ _ (by rw [hI.lx]; exact i1l), if_pos rfl, getD_set _ _ _ _ (by rw [hI.ly]; exact k1l), if_pos rfl]
      omega
    repeat' (conv => whnf
             first
             | refine Rng.ok (by simp only [inR]; omega) ?_
             | refine Ob.mk (by first | omega | (simp; done) | decide | (simp; omega)) ?_
             | refine Ob.mk (show eqOK _ _ = true from by kernel_rfl) ?_
             | refine Val.mk _ (shr_val (by simp; rfl)) ?_
             | refine JoinVC.on ?_
             | refine Nils.mk (fun h => ?_) ?_
             | refine Val.mk _ (Int.tmod_eq_emod_of_nonneg (by omega)) ?_
             | refine Val.mk _ (Int.tdiv_eq_ediv_of_nonneg (by omega)) ?_
             | refine Mm.mk ?_
             | (refine Br.mk (fun h => ?_) (fun h => ?_) <;> first | (exfalso; omega; done) | (exfalso; simp at h; done) | skip))
    all_goals
      conv => whnf
      rw [u1, u2, a2']
      refine Back.mk (o.length - (j + 1)) _ (by omega) ⟨j + 1, _, _, i1, k1, d - n1, out ++ [(i1, k1, n1)], by omega, rfl, hG, q9, fun _ => ⟨⟨n1, hp⟩, hz⟩, rfl⟩ ?_
      refine ⟨[some 0, some 1], rfl, rfl, ?_, ?_⟩ <;> repeat' (first | exact trivial | exact rfl | exact Iff.rfl | apply And.intro)
  · have hd : d ≤ 0 := hR.empty (List.drop_eq_nil_of_le (by omega))
    repeat' (conv => whnf
             first
             | refine Rng.ok (by simp only [inR]; omega) ?_
             | refine Ob.mk (by first | omega | (simp; done) | decide | (simp; omega)) ?_
             | refine Ob.mk (show eqOK _ _ = true from by kernel_rfl) ?_
             | refine Val.mk _ (shr_val (by simp; rfl)) ?_
             | refine JoinVC.on ?_
             | refine Nils.mk (fun h => ?_) ?_
             | refine Val.mk _ (Int.tmod_eq_emod_of_nonneg (by omega)) ?_
             | refine Val.mk _ (Int.tdiv_eq_ediv_of_nonneg (by omega)) ?_
             | refine Mm.mk ?_
             | refine CallVC.pure rfl (s22) ?_
             | refine CallVC0.pure rfl (s22) ?_
             | (refine Br.mk (fun h => ?_) (fun h => ?_) <;> first | (exfalso; omega; done) | (exfalso; simp at h; done) | skip))
    repeat refine Mm.mk ?_
    refine EndVC.mk _ rfl _ _ ⟨rfl, rfl⟩ ?_
    refine ⟨[], rfl, rfl, ?_, ?_⟩ <;> repeat' (first | exact trivial | exact rfl | exact Iff.rfl | apply And.intro)
end Go.Sx
