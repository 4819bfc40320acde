import Derived.Test.YthfdbmgjkjeccaaProg
import Derived.Test.YthfdbmgjkjeccaaXc
import Derived.Shelf.Abstract
import Derived.Shelf.SlMaps.Clone
namespace Go.Sx
open Go Go.Proofs
theorem pMix : Try.prog.follows .mixedOrders = true := by kernel_rfl
theorem spec_of {P : Program} (hm : P.follows .mixedOrders = true) {f : FuncId} {fn : Func} (hf : P.funcs[f]? = some fn) {c : Code} (hb : fn.body = some c) (hname : (fn.name == "runtime.NumGoroutine") = false) {O : List (Nat × RO)} (hok : codeOK O c = true) {nt : Nat} (hnt : fn.ntmps = nt) {res : List ResultVar} (hres : fn.results.toList = res)
    {args : List XV} {m : List Blk} {Rs : AV → List (Option Blk) → Prop} (h : awp P O c (startSt nt args m) (atEnd P res Rs)) : HSpec P f args m Rs := hspec_of_awp hm O hf hb (enters_of hf hname hb) hok hnt hres h
noncomputable def bodyOf (f : Func) : Code := match f.body with | some c => c | none => .skip
abbrev I (n : Int) : XV := .one (.int .i64 n)
def setsE : List AV → List (Nat × AV) → List AV
  | l, [] => l
  | l, (n, v) :: r => setsE (l.set n v) r
/-- An environment of n unknowns but for these. -/
def envA (n : Nat) (l : List (Nat × AV)) : List AV := setsE (anysA n) l

theorem CallVC.pure {P : Program} {f : FuncId} {args : List AV} {s : St} {K : AV → St → Prop} {args' : List XV} {r : AV} (ha : argsX s [] args = some args') (h : PSpec P f args' r) (k : afterCall s (lendsA [] args || lendsB s [] []) [] r [] K) : CallVC P f args s K :=
  CallVC.mk [] _ args' [] ha rfl rfl h fun r' m' ⟨h1, h2⟩ => by subst h1 h2; exact k
theorem CallVC0.pure {P : Program} {f : FuncId} {args : List AV} {mm : Memo} {fl : List Nat} {s : St} {K : AV → St → Prop} {args' : List XV} {r : AV} (ha : argsX s [] args = some args') (h : PSpec P f args' r) (k : afterCall s (lendsA [] args || lendsB s [] []) [] r [] K) : CallVC0 P f args mm fl s K :=
  CallVC0.mk _ args' ha h fun r' m' ⟨h1, h2⟩ => by subst h1 h2; exact k
theorem e56 : EntersF Try.prog 56 := enters_of Try.func56 (c := bodyOf Try.f56) (by kernel_rfl) rfl
set_option maxRecDepth 10000
abbrev xP (p : Prop) [d : Decidable p] : AV := .x (.one (.prp p d))
theorem s56 (n lo hi : Int) : PSpec Try.prog 56 [I n, I lo, I hi] (xP (n < lo ∨ hi < n)) := by
  refine spec_of pMix (O := []) Try.func56 (c := bodyOf Try.f56) rfl (by kernel_rfl) (by kernel_rfl) Try.ntmps56 (res := [.tmp 6]) (by kernel_rfl) ?_
  repeat refine Mm.mk ?_
  try refine JoinVC.on ?_
  refine Br.mk (fun h => ?_) (fun h => ?_)
  · repeat refine Mm.mk ?_
    refine EndVC.mk _ rfl _ _ ⟨rfl, rfl⟩ ⟨[], rfl, rfl, ⟨?_, trivial⟩, trivial⟩
    exact Or.inl h
  · repeat refine Mm.mk ?_
    refine EndVC.mk _ rfl _ _ ⟨rfl, rfl⟩ ⟨[], rfl, rfl, ⟨?_, trivial⟩, trivial⟩
    show _ ↔ _
    simp [h]
theorem s58 (n lo hi : Int) : PSpec Try.prog 58 [I n, I lo, I hi] (xP (lo ≤ n ∧ n ≤ hi)) := by
  refine spec_of pMix (O := []) Try.func58 (c := bodyOf Try.f58) rfl (by kernel_rfl) (by kernel_rfl) Try.ntmps58 (res := [.tmp 6]) (by kernel_rfl) ?_
  repeat refine Mm.mk ?_
  try refine JoinVC.on ?_
  refine Br.mk (fun h => ?_) (fun h => ?_)
  · repeat refine Mm.mk ?_
    refine EndVC.mk _ rfl _ _ ⟨rfl, rfl⟩ ⟨[], rfl, rfl, ⟨?_, trivial⟩, trivial⟩
    show _ ↔ _
    simp [h]
  · repeat refine Mm.mk ?_
    refine EndVC.mk _ rfl _ _ ⟨rfl, rfl⟩ ⟨[], rfl, rfl, ⟨?_, trivial⟩, trivial⟩
    show ¬ _
    simp [h]
theorem e58 : EntersF Try.prog 58 := enters_of Try.func58 (c := bodyOf Try.f58) (by kernel_rfl) rfl
structure Mac where
  room : Int
  melt : Int
  cool : Int
  top : Int
  heat : Int
  chill : Int
  drift : Int
  hold : Int
  life : Int
@[reducible] def Mac.x (m : Mac) : XV := .agg [.int .i64 m.room, .int .i64 m.melt, .int .i64 m.cool, .int .i64 m.top, .int .i64 m.heat, .int .i64 m.chill, .int .i64 m.drift, .int .i64 m.hold, .int .i64 m.life]
/-- Which machines are valid. -/
def Mac.ok (m : Mac) : Prop := 0 ≤ m.room ∧ m.room ≤ m.cool ∧ m.cool < m.melt ∧ m.melt ≤ m.top ∧ m.top ≤ 400 ∧ 1 ≤ m.heat ∧ m.heat ≤ 400 ∧ 1 ≤ m.chill ∧ m.chill ≤ 400 ∧ 0 ≤ m.drift ∧ m.drift ≤ 400 ∧ 1 ≤ m.hold ∧ m.hold ≤ 64 ∧ 1 ≤ m.life ∧ m.life ≤ 65536
open Classical in
noncomputable def Mac.chk (m : Mac) : Int := if m.ok then 0 else 2
theorem Mac.chk0 {m : Mac} (h : m.ok) : m.chk = 0 := if_pos h
theorem Mac.chk2 {m : Mac} (h : ¬ m.ok) : m.chk = 2 := if_neg h
/-- The temperature after a tick. -/
def tickF (m : Mac) (t v : Int) : Int := if v = 1 then (if t + m.heat < m.top then t + m.heat else m.top) else if v = 2 then (if m.room < t - m.chill then t - m.chill else m.room) else (if m.room < t - m.drift then t - m.drift else m.room)
theorem s57 (m : Mac) (T v : Int) (hm : m.ok) (h1 : m.room ≤ T) (h2 : T ≤ m.top) : PSpec Try.prog 57 [m.x, I T, I v] (.x (I (tickF m T v))) := by
  obtain ⟨m1, m2, m3, m4, m5, m6, m7, m8, m9, m10, m11, m12, m13, m14, m15⟩ := hm
  refine spec_of pMix (O := []) Try.func57 (c := bodyOf Try.f57) rfl (by kernel_rfl) (by kernel_rfl) Try.ntmps57 (res := [.tmp 6]) (by kernel_rfl) ?_
  refine Br.mk (fun h => ?_) (fun h => ?_)
  · refine Rng.ok (by simp only [inR]; omega) ?_
    repeat refine Mm.mk ?_
    refine EndVC.mk _ rfl _ _ ⟨rfl, rfl⟩ ⟨[], rfl, rfl, ⟨⟨rfl, ?_⟩, trivial⟩, trivial⟩
    simp only [tickF, if_pos h]
  · refine Br.mk (fun h' => ?_) (fun h' => ?_)
    · refine Rng.ok (by simp only [inR]; omega) ?_
      repeat refine Mm.mk ?_
      refine EndVC.mk _ rfl _ _ ⟨rfl, rfl⟩ ⟨[], rfl, rfl, ⟨⟨rfl, ?_⟩, trivial⟩, trivial⟩
      simp only [tickF, if_neg h, if_pos h']
    · refine Rng.ok (by simp only [inR]; omega) ?_
      repeat refine Mm.mk ?_
      refine EndVC.mk _ rfl _ _ ⟨rfl, rfl⟩ ⟨[], rfl, rfl, ⟨⟨rfl, ?_⟩, trivial⟩, trivial⟩
      simp only [tickF, if_neg h, if_neg h']
theorem s59 (m : Mac) (T v : Int) (hm : m.ok) (h1 : m.room ≤ T) (h2 : T ≤ m.top) : PSpec Try.prog 59 [m.x, I T, I v] (.x (I (tickF m T v))) := by
  obtain ⟨m1, m2, m3, m4, m5, m6, m7, m8, m9, m10, m11, m12, m13, m14, m15⟩ := hm
  refine spec_of pMix (O := []) Try.func59 (c := bodyOf Try.f59) rfl (by kernel_rfl) (by kernel_rfl) Try.ntmps59 (res := [.tmp 6]) (by kernel_rfl) ?_
  refine Br.mk (fun h => ?_) (fun h => ?_)
  · refine Rng.ok (by simp only [inR]; omega) ?_
    repeat refine Mm.mk ?_
    refine EndVC.mk _ rfl _ _ ⟨rfl, rfl⟩ ⟨[], rfl, rfl, ⟨⟨rfl, ?_⟩, trivial⟩, trivial⟩
    simp only [tickF, if_pos h]
  · refine Br.mk (fun h' => ?_) (fun h' => ?_)
    · refine Rng.ok (by simp only [inR]; omega) ?_
      repeat refine Mm.mk ?_
      refine EndVC.mk _ rfl _ _ ⟨rfl, rfl⟩ ⟨[], rfl, rfl, ⟨⟨rfl, ?_⟩, trivial⟩, trivial⟩
      simp only [tickF, if_neg h, if_pos h']
    · refine Rng.ok (by simp only [inR]; omega) ?_
      repeat refine Mm.mk ?_
      refine EndVC.mk _ rfl _ _ ⟨rfl, rfl⟩ ⟨[], rfl, rfl, ⟨⟨rfl, ?_⟩, trivial⟩, trivial⟩
      simp only [tickF, if_neg h, if_neg h']
theorem s20 (m : Mac) : PSpec Try.prog 20 [m.x] (.x (I m.chk)) := by
  refine spec_of pMix (O := []) Try.func20 (c := bodyOf Try.f20) rfl (by kernel_rfl) (by kernel_rfl) Try.ntmps20 (res := [.tmp 2]) (by kernel_rfl) ?_
  have bad : ¬ m.ok → (2 : Int) = m.chk := fun h => (Mac.chk2 h).symm
  repeat refine Mm.mk ?_
  try refine JoinVC.on ?_
  refine Br.mk (fun h1 => ?_) (fun h1 => ?_)
  · repeat refine Mm.mk ?_
    refine EndVC.mk _ rfl _ _ ⟨rfl, rfl⟩ ⟨[], rfl, rfl, ⟨⟨rfl, ?_⟩, trivial⟩, trivial⟩
    exact bad (by simp only [Mac.ok]; omega)
  repeat refine Mm.mk ?_
  try refine JoinVC.on ?_
  refine Br.mk (fun h2 => ?_) (fun h2 => ?_)
  · repeat refine Mm.mk ?_
    refine EndVC.mk _ rfl _ _ ⟨rfl, rfl⟩ ⟨[], rfl, rfl, ⟨⟨rfl, ?_⟩, trivial⟩, trivial⟩
    exact bad (by simp only [Mac.ok]; omega)
  repeat refine Mm.mk ?_
  try refine JoinVC.on ?_
  refine Br.mk (fun h3 => ?_) (fun h3 => ?_)
  · repeat refine Mm.mk ?_
    refine EndVC.mk _ rfl _ _ ⟨rfl, rfl⟩ ⟨[], rfl, rfl, ⟨⟨rfl, ?_⟩, trivial⟩, trivial⟩
    exact bad (by simp only [Mac.ok]; omega)
  repeat refine Mm.mk ?_
  try refine JoinVC.on ?_
  refine Br.mk (fun h4 => ?_) (fun h4 => ?_)
  · repeat refine Mm.mk ?_
    refine EndVC.mk _ rfl _ _ ⟨rfl, rfl⟩ ⟨[], rfl, rfl, ⟨⟨rfl, ?_⟩, trivial⟩, trivial⟩
    exact bad (by simp only [Mac.ok]; omega)
  repeat refine Mm.mk ?_
  try refine JoinVC.on ?_
  refine Br.mk (fun h5 => ?_) (fun h5 => ?_)
  · repeat refine Mm.mk ?_
    refine EndVC.mk _ rfl _ _ ⟨rfl, rfl⟩ ⟨[], rfl, rfl, ⟨⟨rfl, ?_⟩, trivial⟩, trivial⟩
    exact bad (by simp only [Mac.ok]; omega)
  repeat refine Mm.mk ?_
  conv => whnf
  first | refine CallVC.pure rfl (s56 _ _ _) ?_ | refine CallVC0.pure rfl (s56 _ _ _) ?_
  repeat refine Mm.mk ?_
  try refine JoinVC.on ?_
  refine Br.mk (fun h6 => ?_) (fun h6 => ?_)
  · repeat refine Mm.mk ?_
    refine EndVC.mk _ rfl _ _ ⟨rfl, rfl⟩ ⟨[], rfl, rfl, ⟨⟨rfl, ?_⟩, trivial⟩, trivial⟩
    exact bad (by simp only [Mac.ok]; omega)
  repeat refine Mm.mk ?_
  conv => whnf
  first | refine CallVC.pure rfl (s56 _ _ _) ?_ | refine CallVC0.pure rfl (s56 _ _ _) ?_
  repeat refine Mm.mk ?_
  try refine JoinVC.on ?_
  refine Br.mk (fun h7 => ?_) (fun h7 => ?_)
  · repeat refine Mm.mk ?_
    refine EndVC.mk _ rfl _ _ ⟨rfl, rfl⟩ ⟨[], rfl, rfl, ⟨⟨rfl, ?_⟩, trivial⟩, trivial⟩
    exact bad (by simp only [Mac.ok]; omega)
  repeat refine Mm.mk ?_
  conv => whnf
  first | refine CallVC.pure rfl (s56 _ _ _) ?_ | refine CallVC0.pure rfl (s56 _ _ _) ?_
  repeat refine Mm.mk ?_
  try refine JoinVC.on ?_
  refine Br.mk (fun h8 => ?_) (fun h8 => ?_)
  · repeat refine Mm.mk ?_
    refine EndVC.mk _ rfl _ _ ⟨rfl, rfl⟩ ⟨[], rfl, rfl, ⟨⟨rfl, ?_⟩, trivial⟩, trivial⟩
    exact bad (by simp only [Mac.ok]; omega)
  repeat refine Mm.mk ?_
  conv => whnf
  first | refine CallVC.pure rfl (s56 _ _ _) ?_ | refine CallVC0.pure rfl (s56 _ _ _) ?_
  repeat refine Mm.mk ?_
  try refine JoinVC.on ?_
  refine Br.mk (fun h9 => ?_) (fun h9 => ?_)
  · repeat refine Mm.mk ?_
    refine EndVC.mk _ rfl _ _ ⟨rfl, rfl⟩ ⟨[], rfl, rfl, ⟨⟨rfl, ?_⟩, trivial⟩, trivial⟩
    exact bad (by simp only [Mac.ok]; omega)
  repeat refine Mm.mk ?_
  conv => whnf
  first | refine CallVC.pure rfl (s56 _ _ _) ?_ | refine CallVC0.pure rfl (s56 _ _ _) ?_
  repeat refine Mm.mk ?_
  try refine JoinVC.on ?_
  refine Br.mk (fun h10 => ?_) (fun h10 => ?_)
  · repeat refine Mm.mk ?_
    refine EndVC.mk _ rfl _ _ ⟨rfl, rfl⟩ ⟨[], rfl, rfl, ⟨⟨rfl, ?_⟩, trivial⟩, trivial⟩
    exact bad (by simp only [Mac.ok]; omega)
  repeat refine Mm.mk ?_
  refine EndVC.mk _ rfl _ _ ⟨rfl, rfl⟩ ⟨[], rfl, rfl, ⟨⟨rfl, ?_⟩, trivial⟩, trivial⟩
  exact (Mac.chk0 (by simp only [Mac.ok]; omega)).symm
theorem s21 (m : Mac) : PSpec Try.prog 21 [m.x] (.x (I m.chk)) := by
  refine spec_of pMix (O := []) Try.func21 (c := bodyOf Try.f21) rfl (by kernel_rfl) (by kernel_rfl) Try.ntmps21 (res := [.tmp 2]) (by kernel_rfl) ?_
  have bad : ¬ m.ok → (2 : Int) = m.chk := fun h => (Mac.chk2 h).symm
  repeat refine Mm.mk ?_
  try refine JoinVC.on ?_
  refine Br.mk (fun h1 => ?_) (fun h1 => ?_)
  · repeat refine Mm.mk ?_
    refine EndVC.mk _ rfl _ _ ⟨rfl, rfl⟩ ⟨[], rfl, rfl, ⟨⟨rfl, ?_⟩, trivial⟩, trivial⟩
    exact bad (by simp only [Mac.ok]; omega)
  repeat refine Mm.mk ?_
  try refine JoinVC.on ?_
  refine Br.mk (fun h2 => ?_) (fun h2 => ?_)
  · repeat refine Mm.mk ?_
    refine EndVC.mk _ rfl _ _ ⟨rfl, rfl⟩ ⟨[], rfl, rfl, ⟨⟨rfl, ?_⟩, trivial⟩, trivial⟩
    exact bad (by simp only [Mac.ok]; omega)
  repeat refine Mm.mk ?_
  try refine JoinVC.on ?_
  refine Br.mk (fun h3 => ?_) (fun h3 => ?_)
  · repeat refine Mm.mk ?_
    refine EndVC.mk _ rfl _ _ ⟨rfl, rfl⟩ ⟨[], rfl, rfl, ⟨⟨rfl, ?_⟩, trivial⟩, trivial⟩
    exact bad (by simp only [Mac.ok]; omega)
  repeat refine Mm.mk ?_
  try refine JoinVC.on ?_
  refine Br.mk (fun h4 => ?_) (fun h4 => ?_)
  · repeat refine Mm.mk ?_
    refine EndVC.mk _ rfl _ _ ⟨rfl, rfl⟩ ⟨[], rfl, rfl, ⟨⟨rfl, ?_⟩, trivial⟩, trivial⟩
    exact bad (by simp only [Mac.ok]; omega)
  repeat refine Mm.mk ?_
  try refine JoinVC.on ?_
  refine Br.mk (fun h5 => ?_) (fun h5 => ?_)
  · repeat refine Mm.mk ?_
    refine EndVC.mk _ rfl _ _ ⟨rfl, rfl⟩ ⟨[], rfl, rfl, ⟨⟨rfl, ?_⟩, trivial⟩, trivial⟩
    exact bad (by simp only [Mac.ok]; omega)
  repeat refine Mm.mk ?_
  conv => whnf
  first | refine CallVC.pure rfl (s58 _ _ _) ?_ | refine CallVC0.pure rfl (s58 _ _ _) ?_
  repeat refine Mm.mk ?_
  try refine JoinVC.on ?_
  refine Br.mk (fun h6 => ?_) (fun h6 => ?_)
  · repeat refine Mm.mk ?_
    refine EndVC.mk _ rfl _ _ ⟨rfl, rfl⟩ ⟨[], rfl, rfl, ⟨⟨rfl, ?_⟩, trivial⟩, trivial⟩
    exact bad (by simp only [Mac.ok]; omega)
  repeat refine Mm.mk ?_
  conv => whnf
  first | refine CallVC.pure rfl (s58 _ _ _) ?_ | refine CallVC0.pure rfl (s58 _ _ _) ?_
  repeat refine Mm.mk ?_
  try refine JoinVC.on ?_
  refine Br.mk (fun h7 => ?_) (fun h7 => ?_)
  · repeat refine Mm.mk ?_
    refine EndVC.mk _ rfl _ _ ⟨rfl, rfl⟩ ⟨[], rfl, rfl, ⟨⟨rfl, ?_⟩, trivial⟩, trivial⟩
    exact bad (by simp only [Mac.ok]; omega)
  repeat refine Mm.mk ?_
  conv => whnf
  first | refine CallVC.pure rfl (s58 _ _ _) ?_ | refine CallVC0.pure rfl (s58 _ _ _) ?_
  repeat refine Mm.mk ?_
  try refine JoinVC.on ?_
  refine Br.mk (fun h8 => ?_) (fun h8 => ?_)
  · repeat refine Mm.mk ?_
    refine EndVC.mk _ rfl _ _ ⟨rfl, rfl⟩ ⟨[], rfl, rfl, ⟨⟨rfl, ?_⟩, trivial⟩, trivial⟩
    exact bad (by simp only [Mac.ok]; omega)
  repeat refine Mm.mk ?_
  conv => whnf
  first | refine CallVC.pure rfl (s58 _ _ _) ?_ | refine CallVC0.pure rfl (s58 _ _ _) ?_
  repeat refine Mm.mk ?_
  try refine JoinVC.on ?_
  refine Br.mk (fun h9 => ?_) (fun h9 => ?_)
  · repeat refine Mm.mk ?_
    refine EndVC.mk _ rfl _ _ ⟨rfl, rfl⟩ ⟨[], rfl, rfl, ⟨⟨rfl, ?_⟩, trivial⟩, trivial⟩
    exact bad (by simp only [Mac.ok]; omega)
  repeat refine Mm.mk ?_
  conv => whnf
  first | refine CallVC.pure rfl (s58 _ _ _) ?_ | refine CallVC0.pure rfl (s58 _ _ _) ?_
  repeat refine Mm.mk ?_
  try refine JoinVC.on ?_
  refine Br.mk (fun h10 => ?_) (fun h10 => ?_)
  · repeat refine Mm.mk ?_
    refine EndVC.mk _ rfl _ _ ⟨rfl, rfl⟩ ⟨[], rfl, rfl, ⟨⟨rfl, ?_⟩, trivial⟩, trivial⟩
    exact bad (by simp only [Mac.ok]; omega)
  repeat refine Mm.mk ?_
  refine EndVC.mk _ rfl _ _ ⟨rfl, rfl⟩ ⟨[], rfl, rfl, ⟨⟨rfl, ?_⟩, trivial⟩, trivial⟩
  exact (Mac.chk0 (by simp only [Mac.ok]; omega)).symm
theorem e20 : EntersF Try.prog 20 := enters_of Try.func20 (c := bodyOf Try.f20) (by kernel_rfl) rfl
theorem e21 : EntersF Try.prog 21 := enters_of Try.func21 (c := bodyOf Try.f21) (by kernel_rfl) rfl
theorem e57 : EntersF Try.prog 57 := enters_of Try.func57 (c := bodyOf Try.f57) (by kernel_rfl) rfl
theorem e59 : EntersF Try.prog 59 := enters_of Try.func59 (c := bodyOf Try.f59) (by kernel_rfl) rfl
theorem Mac.chk_cases (m : Mac) : (m.ok ∧ m.chk = 0) ∨ (¬ m.ok ∧ m.chk = 2) := by
  by_cases h : m.ok
  · exact .inl ⟨h, Mac.chk0 h⟩
  · exact .inr ⟨h, Mac.chk2 h⟩
/-- What Tick returns. -/
def inTick (m : Mac) (t v : Int) : Prop := m.room ≤ t ∧ t ≤ m.top ∧ 0 ≤ v ∧ v ≤ 2
instance (m : Mac) (t v : Int) : Decidable (inTick m t v) := by unfold inTick; exact inferInstance
noncomputable def Mac.tickV (m : Mac) (t v : Int) : Int := if m.chk = 0 then (if inTick m t v then tickF m t v else 0) else 0
noncomputable def Mac.tickE (m : Mac) (t v : Int) : Int := if m.chk = 0 then (if inTick m t v then 0 else 3) else m.chk
theorem tick_bad {m : Mac} {t v : Int} (h : ¬ m.chk = 0) : (0 : Int) = m.tickV t v ∧ m.chk = m.tickE t v := ⟨(if_neg h).symm, (if_neg h).symm⟩
theorem tick_out {m : Mac} {t v : Int} (h : ¬ ¬ m.chk = 0) (h1 : ¬ inTick m t v) : (0 : Int) = m.tickV t v ∧ (3 : Int) = m.tickE t v := by
  have h := Decidable.not_not.1 h
  exact ⟨by rw [Mac.tickV, if_pos h, if_neg h1], by rw [Mac.tickE, if_pos h, if_neg h1]⟩
theorem tick_in {m : Mac} {t v : Int} (h : ¬ ¬ m.chk = 0) (h1 : inTick m t v) : tickF m t v = m.tickV t v ∧ (0 : Int) = m.tickE t v := by
  have h := Decidable.not_not.1 h
  exact ⟨by rw [Mac.tickV, if_pos h, if_pos h1], by rw [Mac.tickE, if_pos h, if_pos h1]⟩
theorem s18 (m : Mac) (t v : Int) : PSpec Try.prog 18 [m.x, I t, I v] (.tup [I (m.tickV t v), I (m.tickE t v)]) := by
  refine spec_of pMix (O := []) Try.func18 (c := bodyOf Try.f18) rfl (by kernel_rfl) (by kernel_rfl) Try.ntmps18 (res := [.tmp 6, .tmp 7]) (by kernel_rfl) ?_
  repeat refine Mm.mk ?_
  conv => whnf
  first | refine CallVC.pure rfl (s20 m) ?_ | refine CallVC0.pure rfl (s20 m) ?_
  repeat refine Mm.mk ?_
  try refine JoinVC.on ?_
  refine Br.mk (fun h => ?_) (fun h => ?_)
  · repeat refine Mm.mk ?_
    refine EndVC.mk _ rfl _ _ ⟨rfl, rfl⟩ ⟨[], rfl, rfl, ⟨⟨⟨rfl, ?_⟩, ⟨rfl, ?_⟩, trivial⟩, trivial⟩, trivial⟩
    · exact (tick_bad h).1
    · exact (tick_bad h).2
  repeat refine Mm.mk ?_
  conv => whnf
  first | refine CallVC.pure rfl (s56 _ _ _) ?_ | refine CallVC0.pure rfl (s56 _ _ _) ?_
  repeat refine Mm.mk ?_
  try refine JoinVC.on ?_
  refine Br.mk (fun h1 => ?_) (fun h1 => ?_)
  · repeat refine Mm.mk ?_
    refine EndVC.mk _ rfl _ _ ⟨rfl, rfl⟩ ⟨[], rfl, rfl, ⟨⟨⟨rfl, ?_⟩, ⟨rfl, ?_⟩, trivial⟩, trivial⟩, trivial⟩
    · exact (tick_out h (by unfold inTick; omega)).1
    · exact (tick_out h (by unfold inTick; omega)).2
  repeat refine Mm.mk ?_
  conv => whnf
  first | refine CallVC.pure rfl (s56 _ _ _) ?_ | refine CallVC0.pure rfl (s56 _ _ _) ?_
  repeat refine Mm.mk ?_
  try refine JoinVC.on ?_
  refine Br.mk (fun h2 => ?_) (fun h2 => ?_)
  · repeat refine Mm.mk ?_
    refine EndVC.mk _ rfl _ _ ⟨rfl, rfl⟩ ⟨[], rfl, rfl, ⟨⟨⟨rfl, ?_⟩, ⟨rfl, ?_⟩, trivial⟩, trivial⟩, trivial⟩
    · exact (tick_out h (by unfold inTick; omega)).1
    · exact (tick_out h (by unfold inTick; omega)).2
  repeat refine Mm.mk ?_
  conv => whnf
  first | refine CallVC.pure rfl (s57 m t v (by rcases m.chk_cases with h3 | h3; exact h3.1; exact absurd (fun e => absurd (h3.2.symm.trans e) (by decide)) h) (by omega) (by omega)) ?_ | refine CallVC0.pure rfl (s57 m t v (by rcases m.chk_cases with h3 | h3; exact h3.1; exact absurd (fun e => absurd (h3.2.symm.trans e) (by decide)) h) (by omega) (by omega)) ?_
  repeat refine Mm.mk ?_
  refine EndVC.mk _ rfl _ _ ⟨rfl, rfl⟩ ⟨[], rfl, rfl, ⟨⟨⟨rfl, ?_⟩, ⟨rfl, ?_⟩, trivial⟩, trivial⟩, trivial⟩
  · exact (tick_in h (by unfold inTick; omega)).1
  · exact (tick_in h (by unfold inTick; omega)).2
theorem s19 (m : Mac) (t v : Int) : PSpec Try.prog 19 [m.x, I t, I v] (.tup [I (m.tickV t v), I (m.tickE t v)]) := by
  refine spec_of pMix (O := []) Try.func19 (c := bodyOf Try.f19) rfl (by kernel_rfl) (by kernel_rfl) Try.ntmps19 (res := [.tmp 6, .tmp 7]) (by kernel_rfl) ?_
  repeat refine Mm.mk ?_
  conv => whnf
  first | refine CallVC.pure rfl (s21 m) ?_ | refine CallVC0.pure rfl (s21 m) ?_
  repeat refine Mm.mk ?_
  try refine JoinVC.on ?_
  refine Br.mk (fun h => ?_) (fun h => ?_)
  · repeat refine Mm.mk ?_
    refine EndVC.mk _ rfl _ _ ⟨rfl, rfl⟩ ⟨[], rfl, rfl, ⟨⟨⟨rfl, ?_⟩, ⟨rfl, ?_⟩, trivial⟩, trivial⟩, trivial⟩
    · exact (tick_bad h).1
    · rcases m.chk_cases with h3 | h3
      · exact absurd h3.2 h
      · exact h3.2.symm.trans (tick_bad h).2
  repeat refine Mm.mk ?_
  conv => whnf
  first | refine CallVC.pure rfl (s58 _ _ _) ?_ | refine CallVC0.pure rfl (s58 _ _ _) ?_
  repeat refine Mm.mk ?_
  try refine JoinVC.on ?_
  refine Br.mk (fun h1 => ?_) (fun h1 => ?_)
  · repeat refine Mm.mk ?_
    refine EndVC.mk _ rfl _ _ ⟨rfl, rfl⟩ ⟨[], rfl, rfl, ⟨⟨⟨rfl, ?_⟩, ⟨rfl, ?_⟩, trivial⟩, trivial⟩, trivial⟩
    · exact (tick_out h (by unfold inTick; omega)).1
    · exact (tick_out h (by unfold inTick; omega)).2
  repeat refine Mm.mk ?_
  try refine JoinVC.on ?_
  refine Br.mk (fun h2 => ?_) (fun h2 => ?_)
  · repeat refine Mm.mk ?_
    refine EndVC.mk _ rfl _ _ ⟨rfl, rfl⟩ ⟨[], rfl, rfl, ⟨⟨⟨rfl, ?_⟩, ⟨rfl, ?_⟩, trivial⟩, trivial⟩, trivial⟩
    · exact (tick_out h (by unfold inTick; omega)).1
    · exact (tick_out h (by unfold inTick; omega)).2
  repeat refine Mm.mk ?_
  try refine JoinVC.on ?_
  refine Br.mk (fun h3 => ?_) (fun h3 => ?_)
  · repeat refine Mm.mk ?_
    refine EndVC.mk _ rfl _ _ ⟨rfl, rfl⟩ ⟨[], rfl, rfl, ⟨⟨⟨rfl, ?_⟩, ⟨rfl, ?_⟩, trivial⟩, trivial⟩, trivial⟩
    · exact (tick_out h (by unfold inTick; omega)).1
    · exact (tick_out h (by unfold inTick; omega)).2
  repeat refine Mm.mk ?_
  conv => whnf
  first | refine CallVC.pure rfl (s59 m t v (by rcases m.chk_cases with h3 | h3; exact h3.1; exact absurd (fun e => absurd (h3.2.symm.trans e) (by decide)) h) (by omega) (by omega)) ?_ | refine CallVC0.pure rfl (s59 m t v (by rcases m.chk_cases with h3 | h3; exact h3.1; exact absurd (fun e => absurd (h3.2.symm.trans e) (by decide)) h) (by omega) (by omega)) ?_
  repeat refine Mm.mk ?_
  refine EndVC.mk _ rfl _ _ ⟨rfl, rfl⟩ ⟨[], rfl, rfl, ⟨⟨⟨rfl, ?_⟩, ⟨rfl, ?_⟩, trivial⟩, trivial⟩, trivial⟩
  · exact (tick_in h (by unfold inTick; omega)).1
  · exact (tick_in h (by unfold inTick; omega)).2
end Go.Sx

namespace Go.Sx
open Go Go.Proofs
theorem mul_bd {a b : Int} {A B : Nat} (ha : a.natAbs ≤ A) (hb : b.natAbs ≤ B) : (a * b).natAbs ≤ A * B := by
  rw [Int.natAbs_mul]; exact Nat.mul_le_mul ha hb
structure Spot where
  x : Int
  y : Int
@[reducible] def Spot.v (p : Spot) : XV := .agg [.int .i64 p.x, .int .i64 p.y]
@[reducible] def Spot.row (p : Spot) : List Cell := [.int p.x, .int p.y]
/-- A coordinate's amount. -/
def Spot.ok (p : Spot) : Prop := p.x.natAbs ≤ 262144 ∧ p.y.natAbs ≤ 262144
set_option maxRecDepth 10000
theorem e67 : EntersF Try.prog 67 := enters_of Try.func67 (c := bodyOf Try.f67) (by kernel_rfl) rfl
theorem e69 : EntersF Try.prog 69 := enters_of Try.func69 (c := bodyOf Try.f69) (by kernel_rfl) rfl
theorem e70 : EntersF Try.prog 70 := enters_of Try.func70 (c := bodyOf Try.f70) (by kernel_rfl) rfl
theorem e71 : EntersF Try.prog 71 := enters_of Try.func71 (c := bodyOf Try.f71) (by kernel_rfl) rfl
theorem e68 : EntersF Try.prog 68 := enters_of Try.func68 (c := bodyOf Try.f68) (by kernel_rfl) rfl
theorem e31 : EntersF Try.prog 31 := enters_of Try.func31 (c := bodyOf Try.f31) (by kernel_rfl) rfl
def sq (p : Spot) : Int := p.x * p.x + p.y * p.y
theorem sq_bd {p : Spot} (h : p.ok) : (sq p).natAbs ≤ 137438953472 := by
  have h1 := mul_bd h.1 h.1
  have h2 := mul_bd h.2 h.2
  unfold sq; omega
theorem s67 (p : Spot) (h : p.ok) : PSpec Try.prog 67 [p.v] (.x (I (sq p))) := by
  have h1 := mul_bd h.1 h.1
  have h2 := mul_bd h.2 h.2
  refine spec_of pMix (O := []) Try.func67 (c := bodyOf Try.f67) rfl (by kernel_rfl) (by kernel_rfl) Try.ntmps67 (res := [.tmp 2]) (by kernel_rfl) ?_
  repeat refine Mm.mk ?_
  refine Rng.ok (by simp only [inR]; omega) ?_
  repeat refine Mm.mk ?_
  refine Rng.ok (by simp only [inR]; omega) ?_
  repeat refine Mm.mk ?_
  refine Rng.ok (by simp only [inR]; omega) ?_
  repeat refine Mm.mk ?_
  refine EndVC.mk _ rfl _ _ ⟨rfl, rfl⟩ ⟨[], rfl, rfl, ⟨⟨rfl, ?_⟩, trivial⟩, trivial⟩
  rfl
def g2 (p q r : Spot) : Int := p.x * (q.y - r.y)
def g3 (p q r : Spot) : Int := sq p * (q.y - r.y)
def g4 (p q r : Spot) : Int := sq p * (r.x - q.x)
theorem g2_bd {p q r : Spot} (hp : p.ok) (hq : q.ok) (hr : r.ok) : (g2 p q r).natAbs ≤ 72057594037927936 := by
  obtain ⟨h1, h2⟩ := hp; obtain ⟨h3, h4⟩ := hq; obtain ⟨h5, h6⟩ := hr
  have := mul_bd (B := 524288) h1 (show (q.y - r.y).natAbs ≤ 524288 by omega)
  unfold g2; omega
theorem g3_bd {p q r : Spot} (hp : p.ok) (hq : q.ok) (hr : r.ok) : (g3 p q r).natAbs ≤ 72057594037927936 := by
  have h0 := sq_bd hp
  obtain ⟨h3, h4⟩ := hq; obtain ⟨h5, h6⟩ := hr
  have := mul_bd (B := 524288) h0 (show (q.y - r.y).natAbs ≤ 524288 by omega)
  unfold g3; omega
theorem g4_bd {p q r : Spot} (hp : p.ok) (hq : q.ok) (hr : r.ok) : (g4 p q r).natAbs ≤ 72057594037927936 := by
  have h0 := sq_bd hp
  obtain ⟨h3, h4⟩ := hq; obtain ⟨h5, h6⟩ := hr
  have := mul_bd (B := 524288) h0 (show (r.x - q.x).natAbs ≤ 524288 by omega)
  unfold g4; omega
theorem s69 (p q r : Spot) (hp : p.ok) (hq : q.ok) (hr : r.ok) : PSpec Try.prog 69 [p.v, q.v, r.v] (.x (I (g2 p q r))) := by
  have h := g2_bd hp hq hr
  unfold g2 at h
  obtain ⟨h1, h2⟩ := hp; obtain ⟨h3, h4⟩ := hq; obtain ⟨h5, h6⟩ := hr
  refine spec_of pMix (O := []) Try.func69 (c := bodyOf Try.f69) rfl (by kernel_rfl) (by kernel_rfl) Try.ntmps69 (res := [.tmp 6]) (by kernel_rfl) ?_
  repeat refine Mm.mk ?_
  refine Rng.ok (by simp only [inR]; omega) ?_
  repeat refine Mm.mk ?_
  refine Rng.ok (by simp only [inR]; omega) ?_
  repeat refine Mm.mk ?_
  refine EndVC.mk _ rfl _ _ ⟨rfl, rfl⟩ ⟨[], rfl, rfl, ⟨⟨rfl, ?_⟩, trivial⟩, trivial⟩
  rfl
/-- The box of a function that a closure reads. -/
@[reducible] def fbox (f : FuncId) : XV := .one (.lel true [.fn] [[.fn f]] 0 0)
theorem s70 (p q r : Spot) (hp : p.ok) (hq : q.ok) (hr : r.ok) : PSpec Try.prog 70 [p.v, q.v, r.v, fbox 67] (.x (I (g3 p q r))) := by
  have h := g3_bd hp hq hr
  unfold g3 at h
  have hp' := hp
  obtain ⟨h1, h2⟩ := hp; obtain ⟨h3, h4⟩ := hq; obtain ⟨h5, h6⟩ := hr
  refine spec_of pMix (O := [(1, ([], [⟨0, [], []⟩, ⟨1, [], []⟩, ⟨3, [], []⟩, ⟨4, [], []⟩, ⟨5, [], []⟩, ⟨6, [], []⟩, ⟨7, [], []⟩, ⟨2, [3, 4, 5, 6, 7], []⟩, ⟨8, [], []⟩, ⟨9, [], []⟩]))]) Try.func70 (c := bodyOf Try.f70) rfl (by kernel_rfl) (by kernel_rfl) Try.ntmps70 (res := [.tmp 7]) (by kernel_rfl) ?_
  repeat' (conv => whnf
           first
           | refine Rng.ok (by simp only [inR]; omega) ?_
           | refine Ob.mk (by first | omega | (simp; done) | decide | (simp; omega)) ?_
           | refine Ob.mk (show eqOK _ _ = true from by kernel_rfl) ?_
           | refine Ob.mk (show keyOK _ _ _ = true from by kernel_rfl) ?_
           | refine Val.mk _ (shr_val (by simp; rfl)) ?_
           | refine Ob.mk (Nat.le_of_ble_eq_true rfl) ?_
           | refine JoinVC.on ?_
           | refine Nils.mk (fun h => ?_) ?_
           | refine Val.mk _ (Int.tmod_eq_emod_of_nonneg (by omega)) ?_
           | refine Val.mk _ (Int.tdiv_eq_ediv_of_nonneg (by omega)) ?_
           | refine Mm.mk ?_
           | refine CallVC.pure rfl (s67 p hp') ?_
           | refine CallVC0.pure rfl (s67 p hp') ?_
           | (refine Br.mk (fun h => ?_) (fun h => ?_) <;> first | (exfalso; omega; done) | (exfalso; simp at h; done) | skip))
  repeat refine Mm.mk ?_
  refine EndVC.mk _ rfl _ _ ⟨rfl, rfl⟩ ⟨[], rfl, rfl, ⟨⟨rfl, ?_⟩, trivial⟩, trivial⟩
  rfl
theorem s71 (p q r : Spot) (hp : p.ok) (hq : q.ok) (hr : r.ok) : PSpec Try.prog 71 [p.v, q.v, r.v, fbox 67] (.x (I (g4 p q r))) := by
  have h := g4_bd hp hq hr
  unfold g4 at h
  have hp' := hp
  obtain ⟨h1, h2⟩ := hp; obtain ⟨h3, h4⟩ := hq; obtain ⟨h5, h6⟩ := hr
  refine spec_of pMix (O := [(1, ([], [⟨0, [], []⟩, ⟨1, [], []⟩, ⟨3, [], []⟩, ⟨4, [], []⟩, ⟨5, [], []⟩, ⟨6, [], []⟩, ⟨7, [], []⟩, ⟨2, [3, 4, 5, 6, 7], []⟩, ⟨8, [], []⟩, ⟨9, [], []⟩]))]) Try.func71 (c := bodyOf Try.f71) rfl (by kernel_rfl) (by kernel_rfl) Try.ntmps71 (res := [.tmp 7]) (by kernel_rfl) ?_
  repeat' (conv => whnf
           first
           | refine Rng.ok (by simp only [inR]; omega) ?_
           | refine Ob.mk (by first | omega | (simp; done) | decide | (simp; omega)) ?_
           | refine Ob.mk (show eqOK _ _ = true from by kernel_rfl) ?_
           | refine Ob.mk (show keyOK _ _ _ = true from by kernel_rfl) ?_
           | refine Val.mk _ (shr_val (by simp; rfl)) ?_
           | refine Ob.mk (Nat.le_of_ble_eq_true rfl) ?_
           | refine JoinVC.on ?_
           | refine Nils.mk (fun h => ?_) ?_
           | refine Val.mk _ (Int.tmod_eq_emod_of_nonneg (by omega)) ?_
           | refine Val.mk _ (Int.tdiv_eq_ediv_of_nonneg (by omega)) ?_
           | refine Mm.mk ?_
           | refine CallVC.pure rfl (s67 p hp') ?_
           | refine CallVC0.pure rfl (s67 p hp') ?_
           | (refine Br.mk (fun h => ?_) (fun h => ?_) <;> first | (exfalso; omega; done) | (exfalso; simp at h; done) | skip))
  repeat refine Mm.mk ?_
  refine EndVC.mk _ rfl _ _ ⟨rfl, rfl⟩ ⟨[], rfl, rfl, ⟨⟨rfl, ?_⟩, trivial⟩, trivial⟩
  rfl

def tsum (g : Spot → Spot → Spot → Int) (a b c : Spot) : Nat → Int
  | 0 => 0
  | 1 => g a b c
  | 2 => g a b c + g b c a
  | _ => g a b c + g b c a + g c a b
@[reducible] def spots (a b c : Spot) : XV := .one (.lst true [.int .i64, .int .i64] [a.row, b.row, c.row])
theorem s68a (f : FuncId) (g : Spot → Spot → Spot → Int) (a b c : Spot) (hf : ∀ p q r : Spot, p.ok → q.ok → r.ok → PSpec Try.prog f [p.v, q.v, r.v] (.x (I (g p q r))))
    (hg : ∀ p q r : Spot, p.ok → q.ok → r.ok → (g p q r).natAbs ≤ 72057594037927936) (ha : a.ok) (hb : b.ok) (hc : c.ok) : PSpec Try.prog 68 [.one (.fn f []), spots a b c] (.x (I (tsum g a b c 3))) := by
  have b1 := hg a b c ha hb hc
  have b2 := hg b c a hb hc ha
  have b3 := hg c a b hc ha hb
  refine spec_of pMix (O := [(5, ([], [⟨0, [], []⟩, ⟨1, [], []⟩, ⟨2, [], []⟩, ⟨3, [], []⟩, ⟨4, [], []⟩, ⟨5, [], []⟩, ⟨6, [], []⟩, ⟨7, [], []⟩, ⟨8, [], []⟩, ⟨9, [], []⟩, ⟨10, [], []⟩, ⟨11, [], []⟩, ⟨12, [], []⟩, ⟨13, [], []⟩, ⟨14, [], []⟩, ⟨15, [], []⟩, ⟨16, [], []⟩, ⟨17, [], []⟩, ⟨18, [], []⟩, ⟨19, [], []⟩, ⟨20, [], []⟩, ⟨21, [], []⟩, ⟨22, [0], []⟩, ⟨23, [], []⟩, ⟨24, [], []⟩]))]) Try.func68 (c := bodyOf Try.f68) rfl (by kernel_rfl) (by kernel_rfl) Try.ntmps68 (res := [.tmp 4]) (by kernel_rfl) ?_
  have e3 : (([a.row, b.row, c.row] : Arr).length : Int) = 3 := rfl
  refine LoopVC.un 4 ?_
  repeat refine Mm.mk ?_
  try refine JoinVC.on ?_
  refine Br.mk (fun h => ?_) (fun h => ?_)
  · repeat refine Mm.mk ?_
    refine Ob.mk (by simp) ?_
    repeat refine Mm.mk ?_
    refine Rng.ok (by simp only [inR]; omega) ?_
    repeat refine Mm.mk ?_
    refine Ob.mk (by simp) ?_
    conv => whnf
    refine Val.mk (1) (by simp) ?_
    repeat refine Mm.mk ?_
    refine Ob.mk (by simp) ?_
    repeat refine Mm.mk ?_
    refine Rng.ok (by simp only [inR]; omega) ?_
    repeat refine Mm.mk ?_
    refine Ob.mk (by simp) ?_
    conv => whnf
    refine Val.mk (2) (by simp) ?_
    repeat refine Mm.mk ?_
    refine Ob.mk (by simp) ?_
    repeat refine Mm.mk ?_
    conv => whnf
    first | refine CallVC.pure rfl (hf a b c ha hb hc) ?_ | refine CallVC0.pure rfl (hf a b c ha hb hc) ?_
    repeat refine Mm.mk ?_
    refine Rng.ok (by simp only [inR]; omega) ?_
    repeat refine Mm.mk ?_
    refine Rng.ok (by simp only [inR]; omega) ?_
    repeat refine Mm.mk ?_
    try refine JoinVC.on ?_
    refine Br.mk (fun h => ?_) (fun h => ?_)
    · repeat refine Mm.mk ?_
      refine Ob.mk (by simp) ?_
      repeat refine Mm.mk ?_
      refine Rng.ok (by simp only [inR]; omega) ?_
      repeat refine Mm.mk ?_
      refine Ob.mk (by simp) ?_
      conv => whnf
      refine Val.mk (2) (by simp) ?_
      repeat refine Mm.mk ?_
      refine Ob.mk (by simp) ?_
      repeat refine Mm.mk ?_
      refine Rng.ok (by simp only [inR]; omega) ?_
      repeat refine Mm.mk ?_
      refine Ob.mk (by simp) ?_
      conv => whnf
      refine Val.mk (0) (by simp) ?_
      repeat refine Mm.mk ?_
      refine Ob.mk (by simp) ?_
      repeat refine Mm.mk ?_
      conv => whnf
      first | refine CallVC.pure rfl (hf b c a hb hc ha) ?_ | refine CallVC0.pure rfl (hf b c a hb hc ha) ?_
      repeat refine Mm.mk ?_
      refine Rng.ok (by simp only [inR]; omega) ?_
      repeat refine Mm.mk ?_
      refine Rng.ok (by simp only [inR]; omega) ?_
      repeat refine Mm.mk ?_
      try refine JoinVC.on ?_
      refine Br.mk (fun h => ?_) (fun h => ?_)
      · repeat refine Mm.mk ?_
        refine Ob.mk (by simp) ?_
        repeat refine Mm.mk ?_
        refine Rng.ok (by simp only [inR]; omega) ?_
        repeat refine Mm.mk ?_
        refine Ob.mk (by simp) ?_
        conv => whnf
        refine Val.mk (0) (by simp) ?_
        repeat refine Mm.mk ?_
        refine Ob.mk (by simp) ?_
        repeat refine Mm.mk ?_
        refine Rng.ok (by simp only [inR]; omega) ?_
        repeat refine Mm.mk ?_
        refine Ob.mk (by simp) ?_
        conv => whnf
        refine Val.mk (1) (by simp) ?_
        repeat refine Mm.mk ?_
        refine Ob.mk (by simp) ?_
        repeat refine Mm.mk ?_
        conv => whnf
        first | refine CallVC.pure rfl (hf c a b hc ha hb) ?_ | refine CallVC0.pure rfl (hf c a b hc ha hb) ?_
        repeat refine Mm.mk ?_
        refine Rng.ok (by simp only [inR]; omega) ?_
        repeat refine Mm.mk ?_
        refine Rng.ok (by simp only [inR]; omega) ?_
        repeat refine Mm.mk ?_
        try refine JoinVC.on ?_
        refine Br.mk (fun h => ?_) (fun h => ?_)
        · exact absurd h (by omega)
        · repeat refine Mm.mk ?_
          refine EndVC.mk _ rfl _ _ ⟨rfl, rfl⟩ ⟨[], rfl, rfl, ⟨⟨rfl, ?_⟩, trivial⟩, trivial⟩
          simp [tsum]
      · exact absurd (by omega) h
    · exact absurd (by omega) h
  · exact absurd (by omega) h
theorem s68b (f : FuncId) (g : Spot → Spot → Spot → Int) (a b c : Spot) (hf : ∀ p q r : Spot, p.ok → q.ok → r.ok → PSpec Try.prog f [p.v, q.v, r.v, fbox 67] (.x (I (g p q r))))
    (hg : ∀ p q r : Spot, p.ok → q.ok → r.ok → (g p q r).natAbs ≤ 72057594037927936) (ha : a.ok) (hb : b.ok) (hc : c.ok) : HSpec Try.prog 68 [.one (.fn f [(0, 0)]), spots a b c] [.box 123 [.fn 67 []]] (fun r m' => r = .x (I (tsum g a b c 3)) ∧ m' = [some (.box 123 [.fn 67 []])]) := by
  have b1 := hg a b c ha hb hc
  have b2 := hg b c a hb hc ha
  have b3 := hg c a b hc ha hb
  refine spec_of pMix (O := [(5, ([], [⟨0, [], []⟩, ⟨1, [], []⟩, ⟨2, [], []⟩, ⟨3, [], []⟩, ⟨4, [], []⟩, ⟨5, [], []⟩, ⟨6, [], []⟩, ⟨7, [], []⟩, ⟨8, [], []⟩, ⟨9, [], []⟩, ⟨10, [], []⟩, ⟨11, [], []⟩, ⟨12, [], []⟩, ⟨13, [], []⟩, ⟨14, [], []⟩, ⟨15, [], []⟩, ⟨16, [], []⟩, ⟨17, [], []⟩, ⟨18, [], []⟩, ⟨19, [], []⟩, ⟨20, [], []⟩, ⟨21, [], []⟩, ⟨22, [0], []⟩, ⟨23, [], []⟩, ⟨24, [], []⟩]))]) Try.func68 (c := bodyOf Try.f68) rfl (by kernel_rfl) (by kernel_rfl) Try.ntmps68 (res := [.tmp 4]) (by kernel_rfl) ?_
  have e3 : (([a.row, b.row, c.row] : Arr).length : Int) = 3 := rfl
  refine LoopVC.un 4 ?_
  repeat refine Mm.mk ?_
  try refine JoinVC.on ?_
  refine Br.mk (fun h => ?_) (fun h => ?_)
  · repeat refine Mm.mk ?_
    refine Ob.mk (by simp) ?_
    repeat refine Mm.mk ?_
    refine Rng.ok (by simp only [inR]; omega) ?_
    repeat refine Mm.mk ?_
    refine Ob.mk (by simp) ?_
    conv => whnf
    refine Val.mk (1) (by simp) ?_
    repeat refine Mm.mk ?_
    refine Ob.mk (by simp) ?_
    repeat refine Mm.mk ?_
    refine Rng.ok (by simp only [inR]; omega) ?_
    repeat refine Mm.mk ?_
    refine Ob.mk (by simp) ?_
    conv => whnf
    refine Val.mk (2) (by simp) ?_
    repeat refine Mm.mk ?_
    refine Ob.mk (by simp) ?_
    repeat refine Mm.mk ?_
    conv => whnf
    first | refine CallVC.pure rfl (hf a b c ha hb hc) ?_ | refine CallVC0.pure rfl (hf a b c ha hb hc) ?_
    repeat refine Mm.mk ?_
    refine Rng.ok (by simp only [inR]; omega) ?_
    repeat refine Mm.mk ?_
    refine Rng.ok (by simp only [inR]; omega) ?_
    repeat refine Mm.mk ?_
    try refine JoinVC.on ?_
    refine Br.mk (fun h => ?_) (fun h => ?_)
    · repeat refine Mm.mk ?_
      refine Ob.mk (by simp) ?_
      repeat refine Mm.mk ?_
      refine Rng.ok (by simp only [inR]; omega) ?_
      repeat refine Mm.mk ?_
      refine Ob.mk (by simp) ?_
      conv => whnf
      refine Val.mk (2) (by simp) ?_
      repeat refine Mm.mk ?_
      refine Ob.mk (by simp) ?_
      repeat refine Mm.mk ?_
      refine Rng.ok (by simp only [inR]; omega) ?_
      repeat refine Mm.mk ?_
      refine Ob.mk (by simp) ?_
      conv => whnf
      refine Val.mk (0) (by simp) ?_
      repeat refine Mm.mk ?_
      refine Ob.mk (by simp) ?_
      repeat refine Mm.mk ?_
      conv => whnf
      first | refine CallVC.pure rfl (hf b c a hb hc ha) ?_ | refine CallVC0.pure rfl (hf b c a hb hc ha) ?_
      repeat refine Mm.mk ?_
      refine Rng.ok (by simp only [inR]; omega) ?_
      repeat refine Mm.mk ?_
      refine Rng.ok (by simp only [inR]; omega) ?_
      repeat refine Mm.mk ?_
      try refine JoinVC.on ?_
      refine Br.mk (fun h => ?_) (fun h => ?_)
      · repeat refine Mm.mk ?_
        refine Ob.mk (by simp) ?_
        repeat refine Mm.mk ?_
        refine Rng.ok (by simp only [inR]; omega) ?_
        repeat refine Mm.mk ?_
        refine Ob.mk (by simp) ?_
        conv => whnf
        refine Val.mk (0) (by simp) ?_
        repeat refine Mm.mk ?_
        refine Ob.mk (by simp) ?_
        repeat refine Mm.mk ?_
        refine Rng.ok (by simp only [inR]; omega) ?_
        repeat refine Mm.mk ?_
        refine Ob.mk (by simp) ?_
        conv => whnf
        refine Val.mk (1) (by simp) ?_
        repeat refine Mm.mk ?_
        refine Ob.mk (by simp) ?_
        repeat refine Mm.mk ?_
        conv => whnf
        first | refine CallVC.pure rfl (hf c a b hc ha hb) ?_ | refine CallVC0.pure rfl (hf c a b hc ha hb) ?_
        repeat refine Mm.mk ?_
        refine Rng.ok (by simp only [inR]; omega) ?_
        repeat refine Mm.mk ?_
        refine Rng.ok (by simp only [inR]; omega) ?_
        repeat refine Mm.mk ?_
        try refine JoinVC.on ?_
        refine Br.mk (fun h => ?_) (fun h => ?_)
        · exact absurd h (by omega)
        · repeat refine Mm.mk ?_
          refine EndVC.mk _ rfl _ _ ⟨rfl, rfl⟩ ?_
          refine ⟨[some 0], rfl, rfl, ?_, ?_⟩ <;> repeat' (first | exact trivial | exact rfl | exact Iff.rfl | apply And.intro)
          simp [tsum]
      · exact absurd (by omega) h
    · exact absurd (by omega) h
  · exact absurd (by omega) h
def cok (a b c : Spot) : Prop := a.ok ∧ b.ok ∧ c.ok
instance (a : Spot) : Decidable a.ok := by unfold Spot.ok; exact inferInstance
instance (a b c : Spot) : Decidable (cok a b c) := by unfold cok; exact inferInstance
def cD (a b c : Spot) : Int := 2 * tsum g2 a b c 3
def cX (a b c : Spot) : Int := tsum g3 a b c 3
def cY (a b c : Spot) : Int := tsum g4 a b c 3
/-- What Centre returns. -/
def ctrE (a b c : Spot) : Int := if cok a b c then (if cD a b c = 0 then 9 else 0) else 3
def ctrX (a b c : Spot) : Int := if cok a b c then (if cD a b c = 0 then 0 else if cD a b c < 0 then 0 - cX a b c else cX a b c) else 0
def ctrY (a b c : Spot) : Int := if cok a b c then (if cD a b c = 0 then 0 else if cD a b c < 0 then 0 - cY a b c else cY a b c) else 0
def ctrD (a b c : Spot) : Int := if cok a b c then (if cD a b c = 0 then 0 else if cD a b c < 0 then 0 - cD a b c else cD a b c) else 0
theorem tsum_bd {g : Spot → Spot → Spot → Int} (hg : ∀ p q r : Spot, p.ok → q.ok → r.ok → (g p q r).natAbs ≤ 72057594037927936) {a b c : Spot} (h : cok a b c) : (tsum g a b c 3).natAbs ≤ 216172782113783808 := by
  obtain ⟨ha, hb, hc⟩ := h
  have b1 := hg a b c ha hb hc
  have b2 := hg b c a hb hc ha
  have b3 := hg c a b hc ha hb
  simp only [tsum]; omega
theorem s31 (a b c : Spot) : PSpec Try.prog 31 [a.v, b.v, c.v] (.tup [I (ctrX a b c), I (ctrY a b c), I (ctrD a b c), I (ctrE a b c)]) := by
  have bad : ¬ cok a b c → (0 : Int) = ctrX a b c ∧ (0 : Int) = ctrY a b c ∧ (0 : Int) = ctrD a b c ∧ (3 : Int) = ctrE a b c := fun h => ⟨(if_neg h).symm, (if_neg h).symm, (if_neg h).symm, (if_neg h).symm⟩
  refine spec_of pMix (O := []) Try.func31 (c := bodyOf Try.f31) rfl (by kernel_rfl) (by kernel_rfl) Try.ntmps31 (res := [.tmp 6, .tmp 7, .tmp 8, .tmp 9]) (by kernel_rfl) ?_
  have e3 : (([a.row, b.row, c.row] : Arr).length : Int) = 3 := rfl
  refine LoopVC.un 4 ?_
  repeat' (conv => whnf
           first
           | refine Rng.ok (by simp only [inR]; omega) ?_
           | refine Ob.mk (by first | omega | (simp; done) | decide | (simp; omega)) ?_
           | refine Ob.mk (show eqOK _ _ = true from by kernel_rfl) ?_
           | refine Ob.mk (show keyOK _ _ _ = true from by kernel_rfl) ?_
           | refine Val.mk _ (shr_val (by simp; rfl)) ?_
           | refine Ob.mk (Nat.le_of_ble_eq_true rfl) ?_
           | refine JoinVC.on ?_
           | refine Nils.mk (fun h => ?_) ?_
           | refine Val.mk _ (Int.tmod_eq_emod_of_nonneg (by omega)) ?_
           | refine Val.mk _ (Int.tdiv_eq_ediv_of_nonneg (by omega)) ?_
           | refine Mm.mk ?_
           | refine CallVC.pure rfl (s56 _ _ _) ?_
           | refine CallVC0.pure rfl (s56 _ _ _) ?_
           | (refine Br.mk (fun h => ?_) (fun h => ?_) <;> first | (exfalso; omega; done) | (exfalso; simp at h; done) | skip))
  all_goals try
    repeat refine Mm.mk ?_
    refine EndVC.mk _ rfl _ _ ⟨rfl, rfl⟩ ?_
    refine ⟨[], rfl, rfl, ?_, ?_⟩ <;> repeat' (first | exact trivial | exact rfl | exact Iff.rfl | apply And.intro)
    all_goals
      have hb : ¬ cok a b c := by
        clear bad
        unfold cok Spot.ok
        simp [rI, cellAt, Cell.toInt] at *
        omega
      first | exact (bad hb).1 | exact (bad hb).2.1 | exact (bad hb).2.2.1 | exact (bad hb).2.2.2
  have hok : cok a b c := by
    clear bad
    unfold cok Spot.ok
    simp [rI, cellAt, Cell.toInt] at *
    omega
  obtain ⟨ha, hb, hc⟩ := hok
  have hok : cok a b c := ⟨ha, hb, hc⟩
  repeat refine Mm.mk ?_
  conv => whnf
  first | refine CallVC.pure rfl (s68a 69 g2 a b c s69 (fun _ _ _ => g2_bd) ha hb hc) ?_ | refine CallVC0.pure rfl (s68a 69 g2 a b c s69 (fun _ _ _ => g2_bd) ha hb hc) ?_
  have t2 := tsum_bd (g := g2) (fun _ _ _ => g2_bd) hok
  have t3 := tsum_bd (g := g3) (fun _ _ _ => g3_bd) hok
  have t4 := tsum_bd (g := g4) (fun _ _ _ => g4_bd) hok
  repeat refine Mm.mk ?_
  refine Rng.ok (by simp only [inR]; omega) ?_
  conv => whnf
  refine CallVC.mk [7] _ _ _ rfl rfl rfl (s68b 70 g3 a b c s70 (fun _ _ _ => g3_bd) ha hb hc) (fun r m' h => ?_)
  obtain ⟨rfl, rfl⟩ := h
  conv => whnf
  refine CallVC.mk [7] _ _ _ rfl rfl rfl (s68b 71 g4 a b c s71 (fun _ _ _ => g4_bd) ha hb hc) (fun r m' h => ?_)
  obtain ⟨rfl, rfl⟩ := h
  repeat refine Mm.mk ?_
  try refine JoinVC.on ?_
  refine Br.mk (fun d0 => ?_) (fun d0 => ?_)
  · have d0 : cD a b c = 0 := d0
    repeat refine Mm.mk ?_
    refine EndVC.mk _ rfl _ _ ⟨rfl, rfl⟩ ?_
    refine ⟨[], rfl, rfl, ?_, ?_⟩ <;> repeat' (first | exact trivial | exact rfl | exact Iff.rfl | apply And.intro)
    · simp [ctrX, hok, d0]
    · simp [ctrY, hok, d0]
    · simp [ctrD, hok, d0]
    · simp [ctrE, hok, d0]
  have d0 : ¬ cD a b c = 0 := d0
  repeat refine Mm.mk ?_
  try refine JoinVC.on ?_
  refine Br.mk (fun d1 => ?_) (fun d1 => ?_)
  · have d1 : cD a b c < 0 := d1
    repeat refine Mm.mk ?_
    refine Rng.ok (by simp only [inR]; omega) ?_
    repeat refine Mm.mk ?_
    refine Rng.ok (by simp only [inR]; omega) ?_
    repeat refine Mm.mk ?_
    refine Rng.ok (by simp only [inR]; omega) ?_
    repeat refine Mm.mk ?_
    refine EndVC.mk _ rfl _ _ ⟨rfl, rfl⟩ ?_
    refine ⟨[], rfl, rfl, ?_, ?_⟩ <;> repeat' (first | exact trivial | exact rfl | exact Iff.rfl | apply And.intro)
    · simp [ctrX, hok, d0, d1, cX]
    · simp [ctrY, hok, d0, d1, cY]
    · simp [ctrD, hok, d0, d1]; rfl
    · simp [ctrE, hok, d0]
  have d1 : ¬ cD a b c < 0 := d1
  repeat refine Mm.mk ?_
  refine EndVC.mk _ rfl _ _ ⟨rfl, rfl⟩ ?_
  refine ⟨[], rfl, rfl, ?_, ?_⟩ <;> repeat' (first | exact trivial | exact rfl | exact Iff.rfl | apply And.intro)
  · simp [ctrX, hok, d0, d1, cX]
  · simp [ctrY, hok, d0, d1, cY]
  · simp [ctrD, hok, d0, d1]; rfl
  · simp [ctrE, hok, d0]
end Go.Sx

namespace Go.Sx
open Go Go.Proofs
def i64s (xs : List Int) : Arr := xs.map fun x => [.int x]
theorem i64s_len (xs : List Int) : (i64s xs).length = xs.length := by simp [i64s]
theorem i64s_get (xs : List Int) (k : Nat) : rI (i64s xs) k 0 = xs.getD k 0 := by
  simp only [rI, cellAt, i64s, List.getD_eq_getElem?_getD, List.getElem?_map]
  cases xs[k]? <;> simp [Cell.toInt]
theorem i64s_snoc (xs : List Int) (x : Int) : i64s (xs ++ [x]) = i64s xs ++ [[.int x]] := by simp [i64s]
@[reducible] def lI (xs : List Int) : XV := .one (.lst true [.int .i64] (i64s xs))
set_option maxRecDepth 10000
theorem list_ext_getD {xs ys : List Int} (hl : xs.length = ys.length) (h : ∀ j, j < xs.length → xs.getD j 0 = ys.getD j 0) : xs = ys := by
  refine List.ext_getElem hl fun j h1 h2 => ?_
  have := h j h1
  simpa [List.getD_eq_getElem?_getD, h1, h2] using this
theorem s27 (xs ys : List Int) (hx : xs.length ≤ 1099511627776) : PSpec Try.prog 27 [lI xs, lI ys] (xP (xs = ys)) := by
  have lx := i64s_len xs
  have ly := i64s_len ys
  refine spec_of pMix (O := []) Try.func27 (c := bodyOf Try.f27) rfl (by kernel_rfl) (by kernel_rfl) Try.ntmps27 (res := [.tmp 4]) (by kernel_rfl) ?_
  repeat refine Mm.mk ?_
  try refine JoinVC.on ?_
  refine Br.mk (fun h => ?_) (fun h => ?_)
  · repeat refine Mm.mk ?_
    refine EndVC.mk _ rfl _ _ ⟨rfl, rfl⟩ ⟨[], rfl, rfl, ⟨?_, trivial⟩, trivial⟩
    intro e
    subst e
    exact h rfl
  have h : xs.length = ys.length := by omega
  refine LoopVC.mk (fun n s => ∃ k : Nat, n = xs.length - k ∧ k ≤ xs.length ∧ (∀ j, j < k → xs.getD j 0 = ys.getD j 0) ∧ s = ⟨0, envA 26 [(0, .x (lI xs)), (1, .x (lI ys)), (5, .int .i64 (k : Int))], []⟩) _ _ ⟨0, rfl, Nat.zero_le _, fun j hj => absurd hj (Nat.not_lt_zero j), rfl⟩ ?_ ?_
  · refine ⟨[], rfl, rfl, ?_, ?_⟩ <;> repeat' (first | exact trivial | exact rfl | exact Iff.rfl | apply And.intro)
  · rintro m _ ⟨k, hm, hk, hj, rfl⟩
    repeat refine Mm.mk ?_
    try refine JoinVC.on ?_
    refine Br.mk (fun h1 => ?_) (fun h1 => ?_)
    · repeat refine Mm.mk ?_
      refine Ob.mk (by omega) ?_
      repeat refine Mm.mk ?_
      refine Ob.mk (by omega) ?_
      repeat refine Mm.mk ?_
      try refine JoinVC.on ?_
      refine Br.mk (fun h2 => ?_) (fun h2 => ?_)
      · repeat refine Mm.mk ?_
        refine EndVC.mk _ rfl _ _ ⟨rfl, rfl⟩ ⟨[], rfl, rfl, ⟨?_, trivial⟩, trivial⟩
        intro e
        subst e
        exact h2 rfl
      repeat refine Mm.mk ?_
      refine Rng.ok (by simp only [inR]; omega) ?_
      refine Back.mk (xs.length - (k + 1)) _ (by omega) ⟨k + 1, rfl, by omega, fun j hjk => ?_, rfl⟩ ?_
      · rcases Nat.lt_or_ge j k with h3 | h3
        · exact hj j h3
        · have : j = k := by omega
          subst this
          have h2 := Decidable.not_not.1 h2
          rw [Int.toNat_natCast, i64s_get, i64s_get] at h2
          exact h2
      · refine ⟨[], rfl, rfl, ?_, ?_⟩ <;> repeat' (first | exact trivial | exact rfl | exact Iff.rfl | apply And.intro)
    · repeat refine Mm.mk ?_
      refine EndVC.mk _ rfl _ _ ⟨rfl, rfl⟩ ⟨[], rfl, rfl, ⟨?_, trivial⟩, trivial⟩
      exact list_ext_getD h fun j hjx => hj j (by omega)
theorem s55 : PSpec Try.prog 55 [] (.x (Mac.x ⟨20, 120, 50, 200, 30, 25, 5, 3, 2⟩)) := by
  refine spec_of pMix (O := []) Try.func55 (c := bodyOf Try.f55) rfl (by kernel_rfl) (by kernel_rfl) Try.ntmps55 (res := [.cell 0 23]) (by kernel_rfl) ?_
  repeat refine Mm.mk ?_
  refine EndVC.mk _ rfl _ _ ⟨rfl, rfl⟩ ?_
  refine ⟨[], rfl, rfl, ?_, ?_⟩ <;> repeat' (first | exact trivial | exact rfl | exact Iff.rfl | apply And.intro)
/-- Presses at a boiler whose numbers are right. -/
def Boil (p q s r : Int) : Prop := 1 ≤ p ∧ p ≤ 64 ∧ 1 ≤ q ∧ q ≤ 64 ∧ 1 ≤ s ∧ s ≤ 65536 ∧ 1 ≤ r ∧ r ≤ 65536
instance (p q s r : Int) : Decidable (Boil p q s r) := by unfold Boil; exact inferInstance
def boilE (p q s r n : Int) : Int := if Boil p q s r then (if 0 ≤ n ∧ n ≤ 1000 then 0 else 6) else 3
theorem s60 (p q s r n : Int) : PSpec Try.prog 60 [I p, I q, I s, I r, I n] (.x (I (boilE p q s r n))) := by
  refine spec_of pMix (O := []) Try.func60 (c := bodyOf Try.f60) rfl (by kernel_rfl) (by kernel_rfl) Try.ntmps60 (res := [.tmp 10]) (by kernel_rfl) ?_
  repeat' (conv => whnf
           first
           | refine Rng.ok (by simp only [inR]; omega) ?_
           | refine Ob.mk (by first | omega | (simp; done) | decide | (simp; omega)) ?_
           | refine Ob.mk (show eqOK _ _ = true from by kernel_rfl) ?_
           | refine Ob.mk (show keyOK _ _ _ = true from by kernel_rfl) ?_
           | refine Val.mk _ (shr_val (by simp; rfl)) ?_
           | refine Ob.mk (Nat.le_of_ble_eq_true rfl) ?_
           | refine JoinVC.on ?_
           | refine Nils.mk (fun h => ?_) ?_
           | refine Val.mk _ (Int.tmod_eq_emod_of_nonneg (by omega)) ?_
           | refine Val.mk _ (Int.tdiv_eq_ediv_of_nonneg (by omega)) ?_
           | refine Mm.mk ?_
           | refine CallVC.pure rfl (s56 _ _ _) ?_
           | refine CallVC0.pure rfl (s56 _ _ _) ?_
           | (refine Br.mk (fun h => ?_) (fun h => ?_) <;> first | (exfalso; omega; done) | (exfalso; simp at h; done) | skip))
  all_goals
    repeat refine Mm.mk ?_
    refine EndVC.mk _ rfl _ _ ⟨rfl, rfl⟩ ⟨[], rfl, rfl, ⟨⟨rfl, ?_⟩, trivial⟩, trivial⟩
    unfold boilE
    split <;> rename_i hB <;> unfold Boil at hB <;> (try split) <;> omega
end Go.Sx

namespace Go.Sx
open Go Go.Proofs
set_option maxRecDepth 10000
theorem e60 : EntersF Try.prog 60 := enters_of Try.func60 (c := bodyOf Try.f60) (by kernel_rfl) rfl
theorem e61 : EntersF Try.prog 61 := enters_of Try.func61 (c := bodyOf Try.f61) (by kernel_rfl) rfl
theorem e90 : EntersF Try.prog 90 := enters_of Try.func90 (c := bodyOf Try.f90) (by kernel_rfl) rfl
theorem e23 : EntersF Try.prog 23 := enters_of Try.func23 (c := bodyOf Try.f23) (by kernel_rfl) rfl
theorem e27 : EntersF Try.prog 27 := enters_of Try.func27 (c := bodyOf Try.f27) (by kernel_rfl) rfl
theorem e18 : EntersF Try.prog 18 := enters_of Try.func18 (c := bodyOf Try.f18) (by kernel_rfl) rfl
theorem e55 : EntersF Try.prog 55 := enters_of Try.func55 (c := bodyOf Try.f55) (by kernel_rfl) rfl
def mx (a b : Int) : Int := if a < b then b else a
/-- The start of the disc behind these. -/
def st0 (out : List Int) : Int := if 0 < (out.length : Int) then out.getD (out.length - 1) 0 else 0
def st1 (q s : Int) (out : List Int) (t : Int) : Int := if 0 ≤ (out.length : Int) - q then mx t (out.getD ((out.length : Int) - q).toNat 0 + s) else t
def stNext (p q s r : Int) (out : List Int) : Int := st1 p (s + r) out (st1 q s out (st0 out))
def stList (p q s r : Int) : Nat → List Int
  | 0 => []
  | n + 1 => stList p q s r n ++ [stNext p q s r (stList p q s r n)]
theorem stList_len (p q s r : Int) : ∀ n, (stList p q s r n).length = n
  | 0 => rfl
  | n + 1 => by simp [stList, stList_len p q s r n]
theorem getD_app (xs : List Int) (x : Int) (j : Nat) : (xs ++ [x]).getD j 0 = if j < xs.length then xs.getD j 0 else if j = xs.length then x else 0 := by
  simp only [List.getD_eq_getElem?_getD, List.getElem?_append]
  split
  · rfl
  · rename_i h
    split
    · rename_i h2; subst h2; simp
    · rename_i h2
      have : 1 ≤ j - xs.length := by omega
      rw [List.getElem?_eq_none (by simpa using this)]; rfl
theorem st_bd {p q s r : Int} (hb : Boil p q s r) : ∀ n j, 0 ≤ (stList p q s r n).getD j 0 ∧ (stList p q s r n).getD j 0 ≤ 131072 * n
  | 0, j => by simp [stList]
  | n + 1, j => by
    unfold Boil at hb
    have ih := st_bd (p := p) (q := q) (s := s) (r := r) (by unfold Boil; omega) n
    have hl := stList_len p q s r n
    rw [stList, getD_app]
    have h0 : 0 ≤ st0 (stList p q s r n) ∧ st0 (stList p q s r n) ≤ 131072 * n := by
      unfold st0; split
      · exact ih _
      · omega
    have h1 : 0 ≤ st1 q s (stList p q s r n) (st0 (stList p q s r n)) ∧ st1 q s (stList p q s r n) (st0 (stList p q s r n)) ≤ 131072 * n + 131072 := by
      unfold st1 mx
      have := ih (((stList p q s r n).length : Int) - q).toNat
      split
      · split <;> omega
      · omega
    have h2 : 0 ≤ stNext p q s r (stList p q s r n) ∧ stNext p q s r (stList p q s r n) ≤ 131072 * n + 131072 := by
      unfold stNext
      generalize st1 q s (stList p q s r n) (st0 (stList p q s r n)) = t at h1
      unfold st1 mx
      have := ih (((stList p q s r n).length : Int) - p).toNat
      split
      · split <;> omega
      · omega
    have h3 := ih j
    split
    · omega
    · split <;> omega
/-- The objects that 'ends' leaves. -/
theorem s61 (a : Arr) (i p q s r : Int) : HSpec Try.prog 61 [.one (.own 0), I i, I p, I q, I s, I r] [.row 2 false [.int .i64] a] (fun x m' => x = .x (.one (.fn 90 [(2, 0), (4, 0), (1, 0), (5, 0), (3, 0), (6, 0)])) ∧
    m' = [some (.row 2 false [.int .i64] a), some (.box 30 [.own 0]), some (.box 3 [.int .i64 i]), some (.box 3 [.int .i64 p]), some (.box 3 [.int .i64 q]), some (.box 2 [.int .i64 s]), some (.box 2 [.int .i64 r])]) := by
  refine spec_of pMix (O := []) Try.func61 (c := bodyOf Try.f61) rfl (by kernel_rfl) (by kernel_rfl) Try.ntmps61 (res := [.tmp 12]) (by kernel_rfl) ?_
  repeat refine Mm.mk ?_
  refine EndVC.mk _ rfl _ _ ⟨rfl, rfl⟩ ?_
  refine ⟨[some 0, some 1, some 2, some 3, some 4, some 5, some 6], rfl, rfl, ?_, ?_⟩ <;> repeat' (first | exact trivial | exact rfl | exact Iff.rfl | apply And.intro)
def stRes (p q s r n : Int) : List Int := if boilE p q s r n = 0 then stList p q s r n.toNat else []
theorem eb : Try.t2.bytes = 8 := by kernel_rfl
theorem s23 (p q s r n : Int) : PSpec Try.prog 23 [I p, I q, I s, I r, I n] (.tup [.one (.lst false [.int .i64] (i64s (stRes p q s r n))), I (boilE p q s r n)]) := by
  refine spec_of pMix (O := []) Try.func23 (c := bodyOf Try.f23) rfl (by kernel_rfl) (by kernel_rfl) Try.ntmps23 (res := [.tmp 10, .tmp 11]) (by kernel_rfl) ?_
  repeat refine Mm.mk ?_
  conv => whnf
  first | refine CallVC.pure rfl (s60 p q s r n) ?_ | refine CallVC0.pure rfl (s60 p q s r n) ?_
  repeat refine Mm.mk ?_
  try refine JoinVC.on ?_
  refine Br.mk (fun h0 => ?_) (fun h0 => ?_)
  · have e : stRes p q s r n = [] := if_neg h0
    rw [e]
    repeat refine Mm.mk ?_
    refine EndVC.mk _ rfl _ _ ⟨rfl, rfl⟩ ?_
    refine ⟨[], rfl, rfl, ?_, ?_⟩ <;> repeat' (first | exact trivial | exact rfl | exact Iff.rfl | apply And.intro)
  have h0 := Decidable.not_not.1 h0
  have hB : Boil p q s r := by
    apply Decidable.byContradiction
    intro h; rw [boilE, if_neg h] at h0; cases h0
  have hn : 0 ≤ n ∧ n ≤ 1000 := by
    apply Decidable.byContradiction
    intro h; rw [boilE, if_pos hB, if_neg h] at h0; cases h0
  refine LoopVC.mk (fun m st => ∃ k : Nat, (k : Int) ≤ n ∧ m = n.toNat - k ∧ st = ⟨0, envA 58 [(0, .x (I p)), (1, .x (I q)), (2, .x (I s)), (3, .x (I r)), (13, .x (.one (.own 0))), (27, .x (I n)), (28, .int .i64 (k : Int))], [some (.row 2 false [.int .i64] (i64s (stList p q s r k)))]⟩) n.toNat _ ⟨0, by omega, rfl, rfl⟩ ?_ ?_
  · refine ⟨[none], rfl, rfl, ?_, ?_⟩ <;> repeat' (first | exact trivial | exact rfl | exact Iff.rfl | apply And.intro)
  · rintro m _ ⟨k, hk, hm, rfl⟩
    repeat refine Mm.mk ?_
    try refine JoinVC.on ?_
    refine Br.mk (fun h => ?_) (fun h => ?_)
    · have hl : (i64s (stList p q s r k)).length = k := by rw [i64s_len, stList_len]
      have hbd : ∀ j, 0 ≤ rI (i64s (stList p q s r k)) j 0 ∧ rI (i64s (stList p q s r k)) j 0 ≤ 131072 * k := fun j => by rw [i64s_get]; exact st_bd hB k j
      unfold Boil at hB
      have b1 := hbd ((k : Int) - 1).toNat
      have b2 := hbd ((k : Int) - q).toNat
      have b3 := hbd ((k : Int) - p).toNat
      have e1 : ((k : Int) - 1).toNat = k - 1 := by omega
      repeat refine Mm.mk ?_
      try refine JoinVC.on ?_
      refine Br.mk (fun h1 => ?_) (fun h1 => ?_)
      · repeat refine Mm.mk ?_
        refine Rng.ok (by simp only [inR]; omega) ?_
        repeat refine Mm.mk ?_
        refine Ob.mk (by omega) ?_
        repeat refine Mm.mk ?_
        refine Ob.mk (by omega) ?_
        change CallVC _ _ _ _ _
        refine CallVC.mk [0] _ _ _ rfl rfl rfl (s61 _ _ _ _ _ _) (fun x m' hx => ?_)
        obtain ⟨rfl, rfl⟩ := hx
        change RangeVC _ _ _ _ _
        refine RangeVC.mk e90 (isem_of_awp pMix [] Try.func90 (c := bodyOf Try.f90) rfl (by kernel_rfl) Try.ntmps90 (by kernel_rfl) ?_)
        repeat refine Mm.mk ?_
        refine Rng.ok (by simp only [inR]; omega) ?_
        repeat refine Mm.mk ?_
        try refine JoinVC.on ?_
        refine Br.mk (fun h2 => ?_) (fun h2 => ?_)
        · repeat refine Mm.mk ?_
          refine Ob.mk (by omega) ?_
          repeat refine Mm.mk ?_
          refine Ob.mk (by omega) ?_
          change YieldVC _ _ _ _ _
          refine YieldVC.mk (rsem_of_awp pMix [] rfl (by kernel_rfl) ?_)
          repeat refine Mm.mk ?_
          refine Rng.ok (by simp only [inR]; omega) ?_
          repeat refine Mm.mk ?_
          refine Rng.ok (by simp only [inR]; omega) ?_
          repeat refine Mm.mk ?_
          try refine JoinVC.on ?_
          refine Br.mk (fun h3 => ?_) (fun h3 => ?_)
          · repeat refine Mm.mk ?_
            refine Ob.mk (by omega) ?_
            repeat refine Mm.mk ?_
            refine Ob.mk (by omega) ?_
            repeat refine Mm.mk ?_
            refine Rng.ok (by simp only [inR]; omega) ?_
            change YieldVC _ _ _ _ _
            refine YieldVC.mk (rsem_of_awp pMix [] rfl (by kernel_rfl) ?_)
            repeat refine Mm.mk ?_
            refine Rng.ok (by simp only [inR]; omega) ?_
            repeat refine Mm.mk ?_
            refine Ob.mk (by simp only [i64s_len, stList_len, List.length_cons, List.length_nil, eb]; omega) ?_
            repeat refine Mm.mk ?_
            refine Rng.ok (by simp only [inR]; omega) ?_
            refine Back.mk (n.toNat - (k + 1)) _ (by omega) ⟨k + 1, by omega, rfl, rfl⟩ ?_
            refine ⟨[some 10], rfl, rfl, ?_, ?_⟩ <;> repeat' (first | exact trivial | exact rfl | exact Iff.rfl | apply And.intro)
            rw [stList, i64s_snoc]
            congr 3
            simp only [stNext, st1, st0, mx, stList_len, if_pos h1, if_pos h2, if_pos h3, i64s_get, e1]
          · repeat refine Mm.mk ?_
            refine Ob.mk (by simp only [i64s_len, stList_len, List.length_cons, List.length_nil, eb]; omega) ?_
            repeat refine Mm.mk ?_
            refine Rng.ok (by simp only [inR]; omega) ?_
            refine Back.mk (n.toNat - (k + 1)) _ (by omega) ⟨k + 1, by omega, rfl, rfl⟩ ?_
            refine ⟨[some 10], rfl, rfl, ?_, ?_⟩ <;> repeat' (first | exact trivial | exact rfl | exact Iff.rfl | apply And.intro)
            rw [stList, i64s_snoc]
            congr 3
            simp only [stNext, st1, st0, mx, stList_len, if_pos h1, if_pos h2, if_neg h3, i64s_get, e1]
        · repeat refine Mm.mk ?_
          refine Rng.ok (by simp only [inR]; omega) ?_
          repeat refine Mm.mk ?_
          try refine JoinVC.on ?_
          refine Br.mk (fun h3 => ?_) (fun h3 => ?_)
          · repeat refine Mm.mk ?_
            refine Ob.mk (by omega) ?_
            repeat refine Mm.mk ?_
            refine Ob.mk (by omega) ?_
            repeat refine Mm.mk ?_
            refine Rng.ok (by simp only [inR]; omega) ?_
            change YieldVC _ _ _ _ _
            refine YieldVC.mk (rsem_of_awp pMix [] rfl (by kernel_rfl) ?_)
            repeat refine Mm.mk ?_
            refine Rng.ok (by simp only [inR]; omega) ?_
            repeat refine Mm.mk ?_
            refine Ob.mk (by simp only [i64s_len, stList_len, List.length_cons, List.length_nil, eb]; omega) ?_
            repeat refine Mm.mk ?_
            refine Rng.ok (by simp only [inR]; omega) ?_
            refine Back.mk (n.toNat - (k + 1)) _ (by omega) ⟨k + 1, by omega, rfl, rfl⟩ ?_
            refine ⟨[some 10], rfl, rfl, ?_, ?_⟩ <;> repeat' (first | exact trivial | exact rfl | exact Iff.rfl | apply And.intro)
            rw [stList, i64s_snoc]
            congr 3
            simp only [stNext, st1, st0, mx, stList_len, if_pos h1, if_neg h2, if_pos h3, i64s_get, e1]
          · repeat refine Mm.mk ?_
            refine Ob.mk (by simp only [i64s_len, stList_len, List.length_cons, List.length_nil, eb]; omega) ?_
            repeat refine Mm.mk ?_
            refine Rng.ok (by simp only [inR]; omega) ?_
            refine Back.mk (n.toNat - (k + 1)) _ (by omega) ⟨k + 1, by omega, rfl, rfl⟩ ?_
            refine ⟨[some 10], rfl, rfl, ?_, ?_⟩ <;> repeat' (first | exact trivial | exact rfl | exact Iff.rfl | apply And.intro)
            rw [stList, i64s_snoc]
            congr 3
            simp only [stNext, st1, st0, mx, stList_len, if_pos h1, if_neg h2, if_neg h3, i64s_get, e1]
      · change CallVC _ _ _ _ _
        refine CallVC.mk [0] _ _ _ rfl rfl rfl (s61 _ _ _ _ _ _) (fun x m' hx => ?_)
        obtain ⟨rfl, rfl⟩ := hx
        change RangeVC _ _ _ _ _
        refine RangeVC.mk e90 (isem_of_awp pMix [] Try.func90 (c := bodyOf Try.f90) rfl (by kernel_rfl) Try.ntmps90 (by kernel_rfl) ?_)
        repeat refine Mm.mk ?_
        refine Rng.ok (by simp only [inR]; omega) ?_
        repeat refine Mm.mk ?_
        try refine JoinVC.on ?_
        refine Br.mk (fun h2 => ?_) (fun h2 => ?_)
        · repeat refine Mm.mk ?_
          refine Ob.mk (by omega) ?_
          repeat refine Mm.mk ?_
          refine Ob.mk (by omega) ?_
          change YieldVC _ _ _ _ _
          refine YieldVC.mk (rsem_of_awp pMix [] rfl (by kernel_rfl) ?_)
          repeat refine Mm.mk ?_
          refine Rng.ok (by simp only [inR]; omega) ?_
          repeat refine Mm.mk ?_
          refine Rng.ok (by simp only [inR]; omega) ?_
          repeat refine Mm.mk ?_
          try refine JoinVC.on ?_
          refine Br.mk (fun h3 => ?_) (fun h3 => ?_)
          · repeat refine Mm.mk ?_
            refine Ob.mk (by omega) ?_
            repeat refine Mm.mk ?_
            refine Ob.mk (by omega) ?_
            repeat refine Mm.mk ?_
            refine Rng.ok (by simp only [inR]; omega) ?_
            change YieldVC _ _ _ _ _
            refine YieldVC.mk (rsem_of_awp pMix [] rfl (by kernel_rfl) ?_)
            repeat refine Mm.mk ?_
            refine Rng.ok (by simp only [inR]; omega) ?_
            repeat refine Mm.mk ?_
            refine Ob.mk (by simp only [i64s_len, stList_len, List.length_cons, List.length_nil, eb]; omega) ?_
            repeat refine Mm.mk ?_
            refine Rng.ok (by simp only [inR]; omega) ?_
            refine Back.mk (n.toNat - (k + 1)) _ (by omega) ⟨k + 1, by omega, rfl, rfl⟩ ?_
            refine ⟨[some 10], rfl, rfl, ?_, ?_⟩ <;> repeat' (first | exact trivial | exact rfl | exact Iff.rfl | apply And.intro)
            rw [stList, i64s_snoc]
            congr 3
            simp only [stNext, st1, st0, mx, stList_len, if_neg h1, if_pos h2, if_pos h3, i64s_get]
          · repeat refine Mm.mk ?_
            refine Ob.mk (by simp only [i64s_len, stList_len, List.length_cons, List.length_nil, eb]; omega) ?_
            repeat refine Mm.mk ?_
            refine Rng.ok (by simp only [inR]; omega) ?_
            refine Back.mk (n.toNat - (k + 1)) _ (by omega) ⟨k + 1, by omega, rfl, rfl⟩ ?_
            refine ⟨[some 10], rfl, rfl, ?_, ?_⟩ <;> repeat' (first | exact trivial | exact rfl | exact Iff.rfl | apply And.intro)
            rw [stList, i64s_snoc]
            congr 3
            simp only [stNext, st1, st0, mx, stList_len, if_neg h1, if_pos h2, if_neg h3, i64s_get]
        · repeat refine Mm.mk ?_
          refine Rng.ok (by simp only [inR]; omega) ?_
          repeat refine Mm.mk ?_
          try refine JoinVC.on ?_
          refine Br.mk (fun h3 => ?_) (fun h3 => ?_)
          · repeat refine Mm.mk ?_
            refine Ob.mk (by omega) ?_
            repeat refine Mm.mk ?_
            refine Ob.mk (by omega) ?_
            repeat refine Mm.mk ?_
            refine Rng.ok (by simp only [inR]; omega) ?_
            change YieldVC _ _ _ _ _
            refine YieldVC.mk (rsem_of_awp pMix [] rfl (by kernel_rfl) ?_)
            repeat refine Mm.mk ?_
            refine Rng.ok (by simp only [inR]; omega) ?_
            repeat refine Mm.mk ?_
            refine Ob.mk (by simp only [i64s_len, stList_len, List.length_cons, List.length_nil, eb]; omega) ?_
            repeat refine Mm.mk ?_
            refine Rng.ok (by simp only [inR]; omega) ?_
            refine Back.mk (n.toNat - (k + 1)) _ (by omega) ⟨k + 1, by omega, rfl, rfl⟩ ?_
            refine ⟨[some 10], rfl, rfl, ?_, ?_⟩ <;> repeat' (first | exact trivial | exact rfl | exact Iff.rfl | apply And.intro)
            rw [stList, i64s_snoc]
            congr 3
            simp only [stNext, st1, st0, mx, stList_len, if_neg h1, if_neg h2, if_pos h3, i64s_get]
          · repeat refine Mm.mk ?_
            refine Ob.mk (by simp only [i64s_len, stList_len, List.length_cons, List.length_nil, eb]; omega) ?_
            repeat refine Mm.mk ?_
            refine Rng.ok (by simp only [inR]; omega) ?_
            refine Back.mk (n.toNat - (k + 1)) _ (by omega) ⟨k + 1, by omega, rfl, rfl⟩ ?_
            refine ⟨[some 10], rfl, rfl, ?_, ?_⟩ <;> repeat' (first | exact trivial | exact rfl | exact Iff.rfl | apply And.intro)
            rw [stList, i64s_snoc]
            congr 3
            simp only [stNext, st1, st0, mx, stList_len, if_neg h1, if_neg h2, if_neg h3]
    · have e : (k : Int) = n := by omega
      have e2 : stRes p q s r n = stList p q s r k := by rw [stRes, if_pos h0]; congr 1; omega
      rw [h0, e2]
      repeat refine Mm.mk ?_
      refine EndVC.mk _ rfl _ _ ⟨rfl, rfl⟩ ?_
      refine ⟨[], rfl, rfl, ?_, ?_⟩ <;> repeat' (first | exact trivial | exact rfl | exact Iff.rfl | apply And.intro)
end Go.Sx

namespace Go.Sx
open Go Go.Proofs
set_option maxRecDepth 10000
theorem e22 : EntersF Try.prog 22 := enters_of Try.func22 (c := bodyOf Try.f22) (by kernel_rfl) rfl
theorem e19 : EntersF Try.prog 19 := enters_of Try.func19 (c := bodyOf Try.f19) (by kernel_rfl) rfl
theorem e3 : EntersF Try.prog 3 := enters_of Try.func3 (c := bodyOf Try.f3) (by kernel_rfl) rfl
def exMac : Mac := ⟨20, 120, 50, 200, 30, 25, 5, 3, 2⟩
theorem exMac_chk : exMac.chk = 0 := Mac.chk0 (by simp [Mac.ok, exMac])
theorem s22 : PSpec Try.prog 22 [] (xP True) := by
  refine spec_of pMix (O := []) Try.func22 (c := bodyOf Try.f22) rfl (by kernel_rfl) (by kernel_rfl) Try.ntmps22 (res := [.tmp 0]) (by kernel_rfl) ?_
  repeat refine Mm.mk ?_
  conv => whnf
  first | refine CallVC.pure rfl (s55) ?_ | refine CallVC0.pure rfl (s55) ?_
  repeat refine Mm.mk ?_
  conv => whnf
  first | refine CallVC.pure rfl (s18 exMac 190 1) ?_ | refine CallVC0.pure rfl (s18 exMac 190 1) ?_
  repeat refine Mm.mk ?_
  conv => whnf
  first | refine CallVC.pure rfl (s23 2 1 3 4 4) ?_ | refine CallVC0.pure rfl (s23 2 1 3 4 4) ?_
  repeat refine Mm.mk ?_
  conv => whnf
  first | refine CallVC.pure rfl (s31 ⟨3, 0⟩ ⟨0, 1⟩ ⟨0, -1⟩) ?_ | refine CallVC0.pure rfl (s31 ⟨3, 0⟩ ⟨0, 1⟩ ⟨0, -1⟩) ?_
  have v1 : exMac.tickV 190 1 = 200 := by
    rw [Mac.tickV, if_pos exMac_chk]; decide
  have v2 : exMac.tickE 190 1 = 0 := by
    rw [Mac.tickE, if_pos exMac_chk]; decide
  have v3 : boilE 2 1 3 4 4 = 0 := by decide
  have v4 : stRes 2 1 3 4 4 = [0, 3, 7, 10] := by decide
  have v5 : ctrE ⟨3, 0⟩ ⟨0, 1⟩ ⟨0, -1⟩ = 0 := by decide
  have v6 : ctrX ⟨3, 0⟩ ⟨0, 1⟩ ⟨0, -1⟩ = 16 := by decide
  have v7 : ctrY ⟨3, 0⟩ ⟨0, 1⟩ ⟨0, -1⟩ = 0 := by decide
  have v8 : ctrD ⟨3, 0⟩ ⟨0, 1⟩ ⟨0, -1⟩ = 12 := by decide
  repeat refine Mm.mk ?_
  refine Rng.ok (by simp only [inR]; omega) ?_
  repeat refine Mm.mk ?_
  refine Rng.ok (by simp only [inR]; omega) ?_
  repeat refine Mm.mk ?_
  try refine JoinVC.on ?_
  refine Br.mk (fun h1 => ?_) (fun h1 => ?_)
  · repeat refine Mm.mk ?_
    try refine JoinVC.on ?_
    refine Br.mk (fun h2 => ?_) (fun h2 => ?_)
    · repeat refine Mm.mk ?_
      conv => whnf
      first | refine CallVC.pure rfl (s27 _ [0, 3, 7, 10] (by rw [v4]; decide)) ?_ | refine CallVC0.pure rfl (s27 _ [0, 3, 7, 10] (by rw [v4]; decide)) ?_
      repeat refine Mm.mk ?_
      try refine JoinVC.on ?_
      refine Br.mk (fun h3 => ?_) (fun h3 => ?_)
      · repeat refine Mm.mk ?_
        try refine JoinVC.on ?_
        refine Br.mk (fun h4 => ?_) (fun h4 => ?_)
        · repeat refine Mm.mk ?_
          try refine JoinVC.on ?_
          refine Br.mk (fun h5 => ?_) (fun h5 => ?_)
          · repeat refine Mm.mk ?_
            refine EndVC.mk _ rfl _ _ ⟨rfl, rfl⟩ ?_
            refine ⟨[], rfl, rfl, ?_, ?_⟩ <;> repeat' (first | exact trivial | exact rfl | exact Iff.rfl | apply And.intro)
            exact iff_true_intro v8
          · exact absurd v7 h5
        · exact absurd v6 h4
      · exact absurd v4 h3
    · exact absurd v1 h2
  · exact absurd (by omega) h1
theorem s3 (m : Mac) (t v : Int) : PSpec Try.prog 3 [m.x, I t, I v] (xP True) := by
  refine spec_of pMix (O := [(3, ([], [⟨0, [], []⟩, ⟨2, [], []⟩, ⟨1, [2], []⟩, ⟨3, [], []⟩, ⟨4, [], []⟩, ⟨5, [], []⟩, ⟨6, [], []⟩, ⟨7, [], []⟩, ⟨8, [], []⟩, ⟨9, [], []⟩, ⟨10, [], []⟩, ⟨11, [], []⟩, ⟨12, [], []⟩, ⟨13, [], []⟩, ⟨14, [], []⟩, ⟨15, [], []⟩, ⟨16, [], []⟩, ⟨17, [], []⟩, ⟨18, [], []⟩]))]) Try.func3 (c := bodyOf Try.f3) rfl (by kernel_rfl) (by kernel_rfl) Try.ntmps3 (res := [.tmp 6]) (by kernel_rfl) ?_
  repeat refine Mm.mk ?_
  conv => whnf
  first | refine CallVC.pure rfl (s18 m t v) ?_ | refine CallVC0.pure rfl (s18 m t v) ?_
  repeat refine Mm.mk ?_
  conv => whnf
  first | refine CallVC.pure rfl (s19 m t v) ?_ | refine CallVC0.pure rfl (s19 m t v) ?_
  repeat refine Mm.mk ?_
  conv => whnf
  first | refine CallVC.pure rfl (s20 m) ?_ | refine CallVC0.pure rfl (s20 m) ?_
  repeat refine Mm.mk ?_
  conv => whnf
  first | refine CallVC.pure rfl (s21 m) ?_ | refine CallVC0.pure rfl (s21 m) ?_
  repeat refine Mm.mk ?_
  try refine JoinVC.on ?_
  refine Br.mk (fun h1 => ?_) (fun h1 => ?_)
  · repeat refine Mm.mk ?_
    try refine JoinVC.on ?_
    refine Br.mk (fun h2 => ?_) (fun h2 => ?_)
    · repeat refine Mm.mk ?_
      try refine JoinVC.on ?_
      refine Br.mk (fun h3 => ?_) (fun h3 => ?_)
      · repeat refine Mm.mk ?_
        conv => whnf
        first | refine CallVC.pure rfl (s22) ?_ | refine CallVC0.pure rfl (s22) ?_
        repeat refine Mm.mk ?_
        refine EndVC.mk _ rfl _ _ ⟨rfl, rfl⟩ ?_
        refine ⟨[], rfl, rfl, ?_, ?_⟩ <;> repeat' (first | exact trivial | exact rfl | exact Iff.rfl | apply And.intro)
      · exact absurd rfl h3
    · exact absurd rfl h2
  · exact absurd rfl h1
end Go.Sx

namespace Go.Sx
open Go Go.Proofs Go.Shelf
set_option maxRecDepth 10000
set_option maxHeartbeats 1000000
theorem e92 : EntersF Try.prog 92 := enters_of Try.func92 (c := bodyOf Try.f92) (by kernel_rfl) rfl
/-- The names of maps.Clone's parts here. -/
def cloneRen : Ren := ⟨fun n => if n = 5 then 92 else 94, fun n => if n = 4 then 4 else if n = 20 then 20 else if n = 23 then 138 else 2, fun n => n⟩
theorem cloneLays : SlLaysW.n5 Try.prog cloneRen where
  mixed := by kernel_rfl
  f5 := ⟨ "maps.Clone[map[int64]int64,int64,int64]", by decide, Try.func92⟩
  f7 := Try.func94
  t4 := Try.underlying4
  a4 := Try.isAgg4
  z4 := Try.sizeOf4
  v4 := Try.zeroValue4
  t20 := Try.underlying20
  a20 := Try.isAgg20
  z20 := Try.sizeOf20
  v20 := Try.zeroValue20
  t23 := Try.underlying138
  a23 := Try.isAgg138
  z23 := Try.sizeOf138
  v23 := Try.zeroValue138
/-- A copy of a map. -/
theorem hspec_clone {P : Program} {f : FuncId} (he : EntersF P f) (hc : ∀ (b : Nat) (es : Array MapEntry) (clock : Nat) (w : World), w.heap[b]? = some (.map es clock) →
      Calls P f #[.map (some b)] w fun e w' => e = .returned (.map (some w.heap.size)) ∧ w' = w.alloc (.map es clock)) (ka va : Bool) (kk ks : List CK) (l : MapL) :
    HSpec P f [.one (.map 0)] [.mp ka va kk ks l none] (fun r m' => r = .x (.one (.map 1)) ∧ m' = [some (.mp ka va kk ks l none), some (.mp ka va kk ks l none)]) := by
  intro w R vs hargs hmem
  obtain ⟨v, hv0, hr⟩ := hargs.at 0 rfl
  have hvs : vs = #[v] := by
    have h1 : vs.size = 1 := hargs.1
    apply Array.ext (by simpa using h1)
    intro i h2 h3
    have : i = 0 := by omega
    subst this
    have := Array.getElem?_eq_getElem h2
    rw [hv0] at this
    exact (Option.some.inj this).symm
  subst hvs
  obtain ⟨hn, rfl⟩ := hr
  have hrep := hmem.rep 0 _ rfl
  obtain ⟨g, es, clock, hg, hb, hm, _⟩ := hrep
  have hfr : Fr w R [some (.mp ka va kk ks l none)] w R [some (.mp ka va kk ks l none)] := Fr.refl hmem
  have hC : Conc w R [some (.mp ka va kk ks l none)] ⟨1, [], [some (.mp ka va kk ks l none)]⟩ R ⟨#[], []⟩ w := ⟨hfr, rfl, fun i v h => by simp at h, Marks.nil .., rfl⟩
  have hG := World.grownBy_alloc w (.map es clock) none
  obtain ⟨s', hK, hC', _⟩ := hC.addBlk (K := fun id s' => s'.mem = [some (.mp ka va kk ks l none), some (.mp ka va kk ks l none)] ∧ id = 1) (b := .mp ka va kk ks l none) ⟨rfl, rfl⟩ hG (v := .map (some w.heap.size)) (fun g e => by cases e; exact Nat.le_refl _)
    ⟨w.heap.size, es, clock, Rp.add_new _ _, heap_alloc_new w _, hm, trivial⟩
  obtain ⟨hK1, hK2⟩ := hK
  refine .inl ⟨he _ _, ?_⟩
  rw [hg]
  refine (hc g es clock w hb).mono fun e w' h => ?_
  obtain ⟨rfl, rfl⟩ := h
  refine ⟨_, _, _, R.add (.map (some w.heap.size)), rfl, ⟨rfl, rfl⟩, ?_, ?_, ?_⟩
  · rw [← hK1]; exact hC'.fr
  · rw [← hK2]; exact Nat.lt_succ_self _
  · rw [← hK2, Rp.add_new]
/-- The map of how often each stamper was used. -/
@[reducible] def mpU (l : MapL) : Blk := .mp false false [.int .i64] [.int .i64] l none
theorem s92 (l : MapL) : HSpec Try.prog 92 [.one (.map 0)] [mpU l] (fun r m' => r = .x (.one (.map 1)) ∧ m' = [some (mpU l), some (mpU l)]) :=
  hspec_clone e92 (fun b es clock w hb => AnyW.maps_Clone cloneLays b es clock w hb) _ _ _ _ _
end Go.Sx

namespace Go.Sx
open Go Go.Proofs
set_option maxRecDepth 10000
set_option maxHeartbeats 1000000
theorem e80 : EntersF Try.prog 80 := enters_of Try.func80 (c := bodyOf Try.f80) (by kernel_rfl) rfl
theorem e81 : EntersF Try.prog 81 := enters_of Try.func81 (c := bodyOf Try.f81) (by kernel_rfl) rfl
theorem e82 : EntersF Try.prog 82 := enters_of Try.func82 (c := bodyOf Try.f82) (by kernel_rfl) rfl
theorem e83 : EntersF Try.prog 83 := enters_of Try.func83 (c := bodyOf Try.f83) (by kernel_rfl) rfl
theorem e84 : EntersF Try.prog 84 := enters_of Try.func84 (c := bodyOf Try.f84) (by kernel_rfl) rfl
theorem e85 : EntersF Try.prog 85 := enters_of Try.func85 (c := bodyOf Try.f85) (by kernel_rfl) rfl
theorem e86 : EntersF Try.prog 86 := enters_of Try.func86 (c := bodyOf Try.f86) (by kernel_rfl) rfl
theorem e89 : EntersF Try.prog 89 := enters_of Try.func89 (c := bodyOf Try.f89) (by kernel_rfl) rfl
theorem e91 : EntersF Try.prog 91 := enters_of Try.func91 (c := bodyOf Try.f91) (by kernel_rfl) rfl
/-! ### What changes in a press -/
structure Pst where
  cl : Bool
  ld : Bool
  v : Int
  t : Int
  h : Int
  pk : Int
  tm : Int
  a : Int
  b : Int
structure Disc where
  ser : Int
  a : Int
  b : Int
  tm : Int
  h : Int
  pk : Int
  good : Bool
@[reducible] def Disc.x (d : Disc) : XV := .agg [.int .i64 d.ser, .int .i64 d.a, .int .i64 d.b, .int .i64 d.tm, .int .i64 d.h, .int .i64 d.pk, .bool d.good]
@[reducible] def d0 : Disc := ⟨0, 0, 0, 0, 0, 0, false⟩
@[reducible] def K7 : List CK := [.int .i64, .int .i64, .int .i64, .int .i64, .int .i64, .int .i64, .bool]
def discA (L : List Disc) : Arr := L.map fun d => [.int d.ser, .int d.a, .int d.b, .int d.tm, .int d.h, .int d.pk, .bool d.good]
theorem discA_len (L : List Disc) : (discA L).length = L.length := by simp [discA]
@[reducible] def dRow (L : List Disc) : Blk := .row 70 false K7 (discA L)
@[reducible] def bW (i j : Nat) (m : Mac) (p : Pst) : Blk := .box 140 [.bool p.cl, .bool p.ld, .int .i64 p.v, .int .i64 p.t, .int .i64 p.h, .int .i64 p.pk, .int .i64 p.tm, .int .i64 p.a, .int .i64 p.b,
  .int .i64 m.room, .int .i64 m.melt, .int .i64 m.cool, .int .i64 m.top, .int .i64 m.heat, .int .i64 m.chill, .int .i64 m.drift, .int .i64 m.hold, .int .i64 m.life, .own i, .map j]
/-- How many discs have a stamper. -/
def useC (L : List Disc) (k : Int) : Int := ((L.filter fun d => decide (d.a = k ∨ d.b = k)).length : Int)
theorem useC_bd (L : List Disc) (k : Int) : 0 ≤ useC L k ∧ useC L k ≤ L.length := by
  unfold useC
  have := List.length_filter_le (fun d : Disc => decide (d.a = k ∨ d.b = k)) L
  omega
def UsedOK (l : MapL) (L : List Disc) : Prop := ∀ k : Int, rI [mrow [.int .i64] (zeroRow [.int .i64]) l [.int k]] 0 0 = useC L k
theorem eb70 : Try.t70.bytes = 56 := by kernel_rfl
theorem s91 (m : Mac) (p : Pst) (L : List Disc) (l : MapL) (hl : UsedOK l L) (a b : Int) :
    HSpec Try.prog 91 [.one (.ptr 0 0), I a, I b] [bW 1 2 m p, dRow L, mpU l] (fun r m' => r = xP (m.life ≤ max (useC L a) (useC L b)) ∧ m' = [some (bW 1 2 m p), some (dRow L), some (mpU l)]) := by
  have h1 := hl a
  have h2 := hl b
  refine spec_of pMix (O := []) Try.func91 (c := bodyOf Try.f91) rfl (by kernel_rfl) (by kernel_rfl) Try.ntmps91 (res := [.tmp 6]) (by kernel_rfl) ?_
  repeat' (conv => whnf
           first
           | refine Rng.ok (by simp only [inR]; omega) ?_
           | refine Ob.mk (by first | omega | (simp; done) | decide | (simp; omega)) ?_
           | refine Ob.mk (show eqOK _ _ = true from by kernel_rfl) ?_
           | refine Ob.mk (show keyOK _ _ _ = true from by kernel_rfl) ?_
           | refine Val.mk _ (shr_val (by simp; rfl)) ?_
           | refine Ob.mk (Nat.le_of_ble_eq_true rfl) ?_
           | refine JoinVC.on ?_
           | refine Nils.mk (fun h => ?_) ?_
           | refine Val.mk _ (Int.tmod_eq_emod_of_nonneg (by omega)) ?_
           | refine Val.mk _ (Int.tdiv_eq_ediv_of_nonneg (by omega)) ?_
           | refine Mm.mk ?_
           | (refine Br.mk (fun h => ?_) (fun h => ?_) <;> first | (exfalso; omega; done) | (exfalso; simp at h; done) | skip))
  repeat refine Mm.mk ?_
  refine EndVC.mk _ rfl _ _ ⟨rfl, rfl⟩ ?_
  refine ⟨[some 0, some 1, some 2], rfl, rfl, ?_, ?_⟩ <;> repeat' (first | exact trivial | exact rfl | exact Iff.rfl | apply And.intro)
  rw [h1, h2]
  change _ ↔ _
  omega
theorem s89 (L : List Disc) (h : L.length ≤ 1000) : HSpec Try.prog 89 [.one (.lst true K7 (discA L))] [] (fun r m' => r = .x (.one (.own 0)) ∧ m' = [some (dRow L)]) := by
  have hl := discA_len L
  refine spec_of pMix (O := []) Try.func89 (c := bodyOf Try.f89) rfl (by kernel_rfl) (by kernel_rfl) Try.ntmps89 (res := [.tmp 2]) (by kernel_rfl) ?_
  repeat' (conv => whnf
           first
           | refine Rng.ok (by simp only [inR]; omega) ?_
           | refine Ob.mk (by first | omega | (simp; done) | decide | (simp; omega)) ?_
           | refine Ob.mk (show eqOK _ _ = true from by kernel_rfl) ?_
           | refine Ob.mk (show keyOK _ _ _ = true from by kernel_rfl) ?_
           | refine Val.mk _ (shr_val (by simp; rfl)) ?_
           | refine Ob.mk (Nat.le_of_ble_eq_true rfl) ?_
           | refine JoinVC.on ?_
           | refine Nils.mk (fun h => ?_) ?_
           | refine Val.mk _ (Int.tmod_eq_emod_of_nonneg (by omega)) ?_
           | refine Val.mk _ (Int.tdiv_eq_ediv_of_nonneg (by omega)) ?_
           | refine Mm.mk ?_
           | (refine Br.mk (fun h => ?_) (fun h => ?_) <;> first | (exfalso; omega; done) | (exfalso; simp at h; done) | skip))
  · repeat refine Mm.mk ?_
    refine EndVC.mk _ rfl _ _ ⟨rfl, rfl⟩ ?_
    refine ⟨[none], rfl, rfl, ?_, ?_⟩ <;> repeat' (first | exact trivial | exact rfl | exact Iff.rfl | apply And.intro)
    assumption
  · repeat refine Mm.mk ?_
    refine Ob.mk (by simp only [eb70, List.length_nil]; omega) ?_
    repeat refine Mm.mk ?_
    refine EndVC.mk _ rfl _ _ ⟨rfl, rfl⟩ ?_
    refine ⟨[some 1], rfl, rfl, ?_, ?_⟩ <;> repeat' (first | exact trivial | exact rfl | exact Iff.rfl | apply And.intro)
/-- A copy of what changes in a press. -/
theorem s86 (m : Mac) (p : Pst) (L : List Disc) (l : MapL) (h : L.length ≤ 1000) :
    HSpec Try.prog 86 [.one (.ptr 0 0)] [bW 1 2 m p, dRow L, mpU l] (fun r m' => r = .x (.one (.ptr 3 0)) ∧ m' = [some (bW 1 2 m p), some (dRow L), some (mpU l), some (bW 4 5 m p), some (dRow L), some (mpU l)]) := by
  refine spec_of pMix (O := [(2, ([], [⟨0, [], []⟩, ⟨1, [], []⟩, ⟨2, [], []⟩, ⟨3, [], []⟩, ⟨5, [], []⟩, ⟨6, [], []⟩, ⟨7, [], []⟩, ⟨8, [], []⟩, ⟨4, [5, 6, 7, 8], []⟩, ⟨9, [], []⟩, ⟨10, [], []⟩, ⟨11, [], []⟩, ⟨12, [], []⟩, ⟨13, [], []⟩]))]) Try.func86 (c := bodyOf Try.f86) rfl (by kernel_rfl) (by kernel_rfl) Try.ntmps86 (res := [.tmp 2]) (by kernel_rfl) ?_
  repeat' (conv => whnf
           first
           | refine Rng.ok (by simp only [inR]; omega) ?_
           | refine Ob.mk (by first | omega | (simp; done) | decide | (simp; omega)) ?_
           | refine Ob.mk (show eqOK _ _ = true from by kernel_rfl) ?_
           | refine Ob.mk (show keyOK _ _ _ = true from by kernel_rfl) ?_
           | refine Val.mk _ (shr_val (by simp; rfl)) ?_
           | refine Ob.mk (Nat.le_of_ble_eq_true rfl) ?_
           | refine JoinVC.on ?_
           | refine Nils.mk (fun h => ?_) ?_
           | refine Val.mk _ (Int.tmod_eq_emod_of_nonneg (by omega)) ?_
           | refine Val.mk _ (Int.tdiv_eq_ediv_of_nonneg (by omega)) ?_
           | refine Mm.mk ?_
           | (refine Br.mk (fun h => ?_) (fun h => ?_) <;> first | (exfalso; omega; done) | (exfalso; simp at h; done) | skip))
  conv => whnf
  refine CallVC0.mk _ _ rfl (s89 L h) (fun r m' h' => ?_)
  obtain ⟨rfl, rfl⟩ := h'
  conv => whnf
  repeat' (conv => whnf
           first
           | refine Rng.ok (by simp only [inR]; omega) ?_
           | refine Ob.mk (by first | omega | (simp; done) | decide | (simp; omega)) ?_
           | refine Ob.mk (show eqOK _ _ = true from by kernel_rfl) ?_
           | refine Ob.mk (show keyOK _ _ _ = true from by kernel_rfl) ?_
           | refine Val.mk _ (shr_val (by simp; rfl)) ?_
           | refine Ob.mk (Nat.le_of_ble_eq_true rfl) ?_
           | refine JoinVC.on ?_
           | refine Nils.mk (fun h => ?_) ?_
           | refine Val.mk _ (Int.tmod_eq_emod_of_nonneg (by omega)) ?_
           | refine Val.mk _ (Int.tdiv_eq_ediv_of_nonneg (by omega)) ?_
           | refine Mm.mk ?_
           | (refine Br.mk (fun h => ?_) (fun h => ?_) <;> first | (exfalso; omega; done) | (exfalso; simp at h; done) | skip))
  conv => whnf
  refine CallVC.mk [2] _ _ _ rfl rfl rfl (s92 l) (fun r m' h' => ?_)
  obtain ⟨rfl, rfl⟩ := h'
  conv => whnf
  repeat' (conv => whnf
           first
           | refine Rng.ok (by simp only [inR]; omega) ?_
           | refine Ob.mk (by first | omega | (simp; done) | decide | (simp; omega)) ?_
           | refine Ob.mk (show eqOK _ _ = true from by kernel_rfl) ?_
           | refine Ob.mk (show keyOK _ _ _ = true from by kernel_rfl) ?_
           | refine Val.mk _ (shr_val (by simp; rfl)) ?_
           | refine Ob.mk (Nat.le_of_ble_eq_true rfl) ?_
           | refine JoinVC.on ?_
           | refine Nils.mk (fun h => ?_) ?_
           | refine Val.mk _ (Int.tmod_eq_emod_of_nonneg (by omega)) ?_
           | refine Val.mk _ (Int.tdiv_eq_ediv_of_nonneg (by omega)) ?_
           | refine Mm.mk ?_
           | (refine Br.mk (fun h => ?_) (fun h => ?_) <;> first | (exfalso; omega; done) | (exfalso; simp at h; done) | skip))
  repeat refine Mm.mk ?_
  refine EndVC.mk _ rfl _ _ ⟨rfl, rfl⟩ ?_
  refine ⟨[some 0, some 1, some 2, some 3, some 4, some 5], rfl, rfl, ?_, ?_⟩ <;> repeat' (first | exact trivial | exact rfl | exact Iff.rfl | apply And.intro)
/-- A disc may be pressed with these stampers no more. -/
@[reducible] def oldP (m : Mac) (L : List Disc) (a b : Int) : Prop := m.life ≤ max (useC L a) (useC L b)
def outN (n : Int) : Prop := n < 1 ∨ 1073741824 < n
instance (n : Int) : Decidable (outN n) := by unfold outN; exact inferInstance
/-- The error of an act. -/
def errD (m : Mac) (p : Pst) (L : List Disc) (k a b : Int) : Int :=
  if k = 1 then (if outN a ∨ outN b then 3 else if a = b then 17 else if p.cl = true then 18 else if p.ld = true then 10 else if oldP m L a b then 13 else 0)
  else if k = 2 then (if p.cl = true then 18 else if p.ld = true ∨ p.a = 0 then 10 else if oldP m L p.a p.b then 13 else if L.length = 1000 then 11 else 0)
  else if k = 3 then (if p.cl = true ∨ ¬ p.ld = true then 10 else 0)
  else if k = 4 then (if a < 0 ∨ 2 < a then 3 else if a = 1 ∧ ¬ p.cl = true then 18 else 0)
  else if k = 5 then (if a < 1 ∨ 1000 < a then 3 else if 1073741824 < p.tm + a then 14 else 0)
  else if k = 6 then (if ¬ p.cl = true then 10 else if p.v = 1 ∨ m.cool < p.t then 18 else 0)
  else 2
section
variable (m : Mac) (p : Pst) (L : List Disc) (a b : Int)
theorem errD1 : errD m p L 1 a b = if outN a ∨ outN b then 3 else if a = b then 17 else if p.cl = true then 18 else if p.ld = true then 10 else if oldP m L a b then 13 else 0 := rfl
theorem errD2 : errD m p L 2 a b = if p.cl = true then 18 else if p.ld = true ∨ p.a = 0 then 10 else if oldP m L p.a p.b then 13 else if L.length = 1000 then 11 else 0 := rfl
theorem errD3 : errD m p L 3 a b = if p.cl = true ∨ ¬ p.ld = true then 10 else 0 := rfl
theorem errD4 : errD m p L 4 a b = if a < 0 ∨ 2 < a then 3 else if a = 1 ∧ ¬ p.cl = true then 18 else 0 := rfl
theorem errD5 : errD m p L 5 a b = if a < 1 ∨ 1000 < a then 3 else if 1073741824 < p.tm + a then 14 else 0 := rfl
theorem errD6 : errD m p L 6 a b = if ¬ p.cl = true then 10 else if p.v = 1 ∨ m.cool < p.t then 18 else 0 := rfl
end
/-- A tick of a press. -/
def tickS (m : Mac) (p : Pst) : Pst :=
  let t := tickF m p.t p.v
  { p with t := t, pk := if p.cl = true then max p.pk t else p.pk, h := if p.cl = true ∧ m.melt ≤ t then p.h + 1 else p.h }
def waitS (m : Mac) : Nat → Pst → Pst
  | 0, p => p
  | n + 1, p => tickS m (waitS m n p)
/-- The disc that comes out. -/
def discD (m : Mac) (p : Pst) (L : List Disc) : Disc := ⟨(L.length : Int) + 1, p.a, p.b, p.tm, p.h, p.pk, decide (m.hold ≤ p.h)⟩
/-- The state behind an act that is done. -/
def nextP (m : Mac) (p : Pst) (k a b : Int) : Pst :=
  if k = 1 then { p with a := a, b := b }
  else if k = 2 then { p with ld := true }
  else if k = 3 then { p with cl := true, h := 0, pk := p.t }
  else if k = 4 then { p with v := a }
  else if k = 5 then waitS m a.toNat { p with tm := p.tm + a }
  else if k = 6 then { p with cl := false, ld := false }
  else p
def nextL (m : Mac) (p : Pst) (L : List Disc) (k : Int) : List Disc := if k = 6 then L ++ [discD m p L] else L
def outD (m : Mac) (p : Pst) (L : List Disc) (k : Int) : Disc := if k = 6 then discD m p L else d0
/-- What holds of a press at all times. -/
structure PInv (m : Mac) (p : Pst) (L : List Disc) : Prop where
  ok : m.ok
  t : m.room ≤ p.t ∧ p.t ≤ m.top
  ld : p.ld = true → 1 ≤ p.a ∧ 1 ≤ p.b ∧ p.a ≠ p.b
  cl : p.cl = true → p.ld = true
  len : L.length ≤ 1000
  lt : p.ld = true → L.length < 1000
  tm : 0 ≤ p.tm ∧ p.tm ≤ 1073741824
  h : 0 ≤ p.h ∧ p.h ≤ p.tm
  pk : 0 ≤ p.pk ∧ p.pk ≤ 400
  v : 0 ≤ p.v ∧ p.v ≤ 2
  steam : p.v = 1 → p.cl = true
  ab : 0 ≤ p.a ∧ p.a ≤ 1073741824 ∧ 0 ≤ p.b ∧ p.b ≤ 1073741824
  use : ∀ k, useC L k ≤ m.life
  ldu : p.ld = true → ¬ oldP m L p.a p.b
  mt : p.a ≠ 0 → 1 ≤ p.a ∧ 1 ≤ p.b ∧ p.a ≠ p.b
/-- What a method that does an act gives. -/
def MRs (m : Mac) (p : Pst) (L : List Disc) (k a b : Int) (r : AV) (m' : List (Option Blk)) : Prop :=
  ∃ p' L' l' d, r = .tup [d.x, I (errD m p L k a b)] ∧ (m' = [some (bW 1 2 m p'), some (dRow L'), some (mpU l')] ∨ m' = [some (bW 3 2 m p'), none, some (mpU l'), some (dRow L')]) ∧ (errD m p L k a b = 0 → p' = nextP m p k a b ∧ L' = nextL m p L k ∧ d = outD m p L k ∧ UsedOK l' L')
theorem MRs.err {m : Mac} {p : Pst} {L : List Disc} {k a b e : Int} (he : errD m p L k a b = e) (h0 : e ≠ 0) (p' : Pst) (L' : List Disc) (l' : MapL) (d : Disc) : MRs m p L k a b (.tup [d.x, I e]) [some (bW 1 2 m p'), some (dRow L'), some (mpU l')] :=
  ⟨p', L', l', d, by rw [he], .inl rfl, fun h => absurd (he.symm.trans h) h0⟩
theorem MRs.ok {m : Mac} {p : Pst} {L : List Disc} {k a b : Int} (he : errD m p L k a b = 0) {p' : Pst} {L' : List Disc} {l' : MapL} {d : Disc} (h1 : p' = nextP m p k a b) (h2 : L' = nextL m p L k) (h3 : d = outD m p L k) (h4 : UsedOK l' L') :
    MRs m p L k a b (.tup [d.x, I 0]) [some (bW 1 2 m p'), some (dRow L'), some (mpU l')] := ⟨p', L', l', d, by rw [he], .inl rfl, fun _ => ⟨h1, h2, h3, h4⟩⟩
theorem MRs.ok2 {m : Mac} {p : Pst} {L : List Disc} {k a b : Int} (he : errD m p L k a b = 0) {p' : Pst} {L' : List Disc} {l' : MapL} {d : Disc} (h1 : p' = nextP m p k a b) (h2 : L' = nextL m p L k) (h3 : d = outD m p L k) (h4 : UsedOK l' L') :
    MRs m p L k a b (.tup [d.x, I 0]) [some (bW 3 2 m p'), none, some (mpU l'), some (dRow L')] := ⟨p', L', l', d, by rw [he], .inr rfl, fun _ => ⟨h1, h2, h3, h4⟩⟩
theorem s80 (m : Mac) (p : Pst) (L : List Disc) (l : MapL) (hl : UsedOK l L) (k a b : Int) :
    HSpec Try.prog 80 [.one (.ptr 0 0), .agg [.int .i64 k, .int .i64 a, .int .i64 b]] [bW 1 2 m p, dRow L, mpU l] (MRs m p L 1 a b) := by
  have e1 : outN a ∨ outN b → errD m p L 1 a b = 3 := fun h => by rw [errD1, if_pos h]
  refine spec_of pMix (O := [(11, ([], [⟨0, [], []⟩, ⟨1, [], []⟩, ⟨2, [], []⟩, ⟨3, [], []⟩, ⟨4, [], []⟩, ⟨5, [], []⟩, ⟨6, [], []⟩, ⟨7, [], []⟩, ⟨8, [], []⟩, ⟨9, [1, 4, 5], []⟩, ⟨10, [], []⟩, ⟨11, [], []⟩, ⟨12, [], []⟩, ⟨13, [], []⟩]))]) Try.func80 (c := bodyOf Try.f80) rfl (by kernel_rfl) (by kernel_rfl) Try.ntmps80 (res := [.cell 4 70, .tmp 5]) (by kernel_rfl) ?_
  repeat' (conv => whnf
           first
           | refine Rng.ok (by simp only [inR]; omega) ?_
           | refine Ob.mk (by first | omega | (simp; done) | decide | (simp; omega)) ?_
           | refine Ob.mk (show eqOK _ _ = true from by kernel_rfl) ?_
           | refine Ob.mk (show keyOK _ _ _ = true from by kernel_rfl) ?_
           | refine Val.mk _ (shr_val (by simp; rfl)) ?_
           | refine Ob.mk (Nat.le_of_ble_eq_true rfl) ?_
           | refine JoinVC.on ?_
           | refine Nils.mk (fun h => ?_) ?_
           | refine Val.mk _ (Int.tmod_eq_emod_of_nonneg (by omega)) ?_
           | refine Val.mk _ (Int.tdiv_eq_ediv_of_nonneg (by omega)) ?_
           | refine Mm.mk ?_
           | refine CallVC.pure rfl (s56 _ _ _) ?_
           | refine CallVC0.pure rfl (s56 _ _ _) ?_
           | (refine Br.mk (fun h => ?_) (fun h => ?_) <;> first | (exfalso; omega; done) | (exfalso; simp at h; done) | skip))
  · repeat refine Mm.mk ?_
    conv => whnf
    refine EndVC.mk _ rfl _ _ (MRs.err (e1 (.inl (by assumption))) (by decide) { p with a := a, b := b } L l d0) ?_
    refine ⟨[some 0, some 1, some 2], rfl, rfl, ?_, ?_⟩ <;> repeat' (first | exact trivial | exact rfl | exact Iff.rfl | apply And.intro)
  · repeat refine Mm.mk ?_
    conv => whnf
    refine EndVC.mk _ rfl _ _ (MRs.err (e1 (.inr (by assumption))) (by decide) { p with a := a, b := b } L l d0) ?_
    refine ⟨[some 0, some 1, some 2], rfl, rfl, ?_, ?_⟩ <;> repeat' (first | exact trivial | exact rfl | exact Iff.rfl | apply And.intro)
  all_goals
    have h1 : ¬ (outN a ∨ outN b) := by unfold outN; omega
    clear e1
  · have e : errD m p L 1 a b = 17 := by rw [errD1, if_neg h1, if_pos (by assumption)]
    repeat refine Mm.mk ?_
    conv => whnf
    refine EndVC.mk _ rfl _ _ (MRs.err e (by decide) { p with a := a, b := b } L l d0) ?_
    refine ⟨[some 0, some 1, some 2], rfl, rfl, ?_, ?_⟩ <;> repeat' (first | exact trivial | exact rfl | exact Iff.rfl | apply And.intro)
  all_goals
    have h2 : ¬ a = b := by assumption
  · have e : errD m p L 1 a b = 18 := by rw [errD1, if_neg h1, if_neg h2, if_pos (by assumption)]
    repeat refine Mm.mk ?_
    conv => whnf
    refine EndVC.mk _ rfl _ _ (MRs.err e (by decide) { p with a := a, b := b } L l d0) ?_
    refine ⟨[some 0, some 1, some 2], rfl, rfl, ?_, ?_⟩ <;> repeat' (first | exact trivial | exact rfl | exact Iff.rfl | apply And.intro)
  all_goals
    have h3 : ¬ p.cl = true := by assumption
  · have e : errD m p L 1 a b = 10 := by rw [errD1, if_neg h1, if_neg h2, if_neg h3, if_pos (by assumption)]
    repeat refine Mm.mk ?_
    conv => whnf
    refine EndVC.mk _ rfl _ _ (MRs.err e (by decide) { p with a := a, b := b } L l d0) ?_
    refine ⟨[some 0, some 1, some 2], rfl, rfl, ?_, ?_⟩ <;> repeat' (first | exact trivial | exact rfl | exact Iff.rfl | apply And.intro)
  have h4 : ¬ p.ld = true := by assumption
  conv => whnf
  refine CallVC.mk [0, 1, 2] _ _ _ rfl rfl rfl (s91 m p L l hl a b) (fun r m' h' => ?_)
  obtain ⟨rfl, rfl⟩ := h'
  conv => whnf
  repeat' (conv => whnf
           first
           | refine Rng.ok (by simp only [inR]; omega) ?_
           | refine Ob.mk (by first | omega | (simp; done) | decide | (simp; omega)) ?_
           | refine Ob.mk (show eqOK _ _ = true from by kernel_rfl) ?_
           | refine Ob.mk (show keyOK _ _ _ = true from by kernel_rfl) ?_
           | refine Val.mk _ (shr_val (by simp; rfl)) ?_
           | refine Ob.mk (Nat.le_of_ble_eq_true rfl) ?_
           | refine JoinVC.on ?_
           | refine Nils.mk (fun h => ?_) ?_
           | refine Val.mk _ (Int.tmod_eq_emod_of_nonneg (by omega)) ?_
           | refine Val.mk _ (Int.tdiv_eq_ediv_of_nonneg (by omega)) ?_
           | refine Mm.mk ?_
           | (refine Br.mk (fun h => ?_) (fun h => ?_) <;> first | (exfalso; omega; done) | (exfalso; simp at h; done) | skip))
  · have e : errD m p L 1 a b = 13 := by rw [errD1, if_neg h1, if_neg h2, if_neg h3, if_neg h4, if_pos (by assumption)]
    repeat refine Mm.mk ?_
    conv => whnf
    refine EndVC.mk _ rfl _ _ (MRs.err e (by decide) { p with a := a, b := b } L l d0) ?_
    refine ⟨[some 0, some 1, some 2], rfl, rfl, ?_, ?_⟩ <;> repeat' (first | exact trivial | exact rfl | exact Iff.rfl | apply And.intro)
  · have e : errD m p L 1 a b = 0 := by rw [errD1, if_neg h1, if_neg h2, if_neg h3, if_neg h4, if_neg (by assumption)]
    repeat refine Mm.mk ?_
    conv => whnf
    refine EndVC.mk _ rfl _ _ (MRs.ok e (p' := { p with a := a, b := b }) (L' := L) (l' := l) (d := d0) rfl rfl rfl hl) ?_
    refine ⟨[some 0, some 1, some 2], rfl, rfl, ?_, ?_⟩ <;> repeat' (first | exact trivial | exact rfl | exact Iff.rfl | apply And.intro)
end Go.Sx

namespace Go.Sx
open Go Go.Proofs
set_option maxRecDepth 10000
set_option maxHeartbeats 1000000
theorem s81 (m : Mac) (p : Pst) (L : List Disc) (l : MapL) (hl : UsedOK l L) (k a b : Int) (a' b' : Int) :
    HSpec Try.prog 81 [.one (.ptr 0 0), .agg [.int .i64 k, .int .i64 a, .int .i64 b]] [bW 1 2 m p, dRow L, mpU l] (MRs m p L 2 a' b') := by
  have lL := discA_len L
  refine spec_of pMix (O := []) Try.func81 (c := bodyOf Try.f81) rfl (by kernel_rfl) (by kernel_rfl) Try.ntmps81 (res := [.cell 4 70, .tmp 5]) (by kernel_rfl) ?_
  repeat' (conv => whnf
           first
           | refine Rng.ok (by simp only [inR]; omega) ?_
           | refine Ob.mk (by first | omega | (simp; done) | decide | (simp; omega)) ?_
           | refine Ob.mk (show eqOK _ _ = true from by kernel_rfl) ?_
           | refine Ob.mk (show keyOK _ _ _ = true from by kernel_rfl) ?_
           | refine Val.mk _ (shr_val (by simp; rfl)) ?_
           | refine Ob.mk (Nat.le_of_ble_eq_true rfl) ?_
           | refine JoinVC.on ?_
           | refine Nils.mk (fun h => ?_) ?_
           | refine Val.mk _ (Int.tmod_eq_emod_of_nonneg (by omega)) ?_
           | refine Val.mk _ (Int.tdiv_eq_ediv_of_nonneg (by omega)) ?_
           | refine Mm.mk ?_
           | (refine Br.mk (fun h => ?_) (fun h => ?_) <;> first | (exfalso; omega; done) | (exfalso; simp at h; done) | skip))
  · have e : errD m p L 2 a' b' = 18 := by rw [errD2, if_pos (by assumption)]
    repeat refine Mm.mk ?_
    conv => whnf
    refine EndVC.mk _ rfl _ _ (MRs.err e (by decide) { p with ld := true } L l d0) ?_
    refine ⟨[some 0, some 1, some 2], rfl, rfl, ?_, ?_⟩ <;> repeat' (first | exact trivial | exact rfl | exact Iff.rfl | apply And.intro)
  · have e : errD m p L 2 a' b' = 10 := by rw [errD2, if_neg (by assumption), if_pos (.inl (by assumption))]
    repeat refine Mm.mk ?_
    conv => whnf
    refine EndVC.mk _ rfl _ _ (MRs.err e (by decide) { p with ld := true } L l d0) ?_
    refine ⟨[some 0, some 1, some 2], rfl, rfl, ?_, ?_⟩ <;> repeat' (first | exact trivial | exact rfl | exact Iff.rfl | apply And.intro)
  · have e : errD m p L 2 a' b' = 10 := by rw [errD2, if_neg (by assumption), if_pos (.inr (by assumption))]
    repeat refine Mm.mk ?_
    conv => whnf
    refine EndVC.mk _ rfl _ _ (MRs.err e (by decide) { p with ld := true } L l d0) ?_
    refine ⟨[some 0, some 1, some 2], rfl, rfl, ?_, ?_⟩ <;> repeat' (first | exact trivial | exact rfl | exact Iff.rfl | apply And.intro)
  have h3 : ¬ p.cl = true := by assumption
  have h4 : ¬ (p.ld = true ∨ p.a = 0) := fun h => h.elim (by assumption) (by assumption)
  conv => whnf
  refine CallVC.mk [0, 1, 2] _ _ _ rfl rfl rfl (s91 m p L l hl p.a p.b) (fun r m' h' => ?_)
  obtain ⟨rfl, rfl⟩ := h'
  conv => whnf
  repeat' (conv => whnf
           first
           | refine Rng.ok (by simp only [inR]; omega) ?_
           | refine Ob.mk (by first | omega | (simp; done) | decide | (simp; omega)) ?_
           | refine Ob.mk (show eqOK _ _ = true from by kernel_rfl) ?_
           | refine Ob.mk (show keyOK _ _ _ = true from by kernel_rfl) ?_
           | refine Val.mk _ (shr_val (by simp; rfl)) ?_
           | refine Ob.mk (Nat.le_of_ble_eq_true rfl) ?_
           | refine JoinVC.on ?_
           | refine Nils.mk (fun h => ?_) ?_
           | refine Val.mk _ (Int.tmod_eq_emod_of_nonneg (by omega)) ?_
           | refine Val.mk _ (Int.tdiv_eq_ediv_of_nonneg (by omega)) ?_
           | refine Mm.mk ?_
           | (refine Br.mk (fun h => ?_) (fun h => ?_) <;> first | (exfalso; omega; done) | (exfalso; simp at h; done) | skip))
  · have e : errD m p L 2 a' b' = 13 := by rw [errD2, if_neg h3, if_neg h4, if_pos (by assumption)]
    repeat refine Mm.mk ?_
    conv => whnf
    refine EndVC.mk _ rfl _ _ (MRs.err e (by decide) { p with ld := true } L l d0) ?_
    refine ⟨[some 0, some 1, some 2], rfl, rfl, ?_, ?_⟩ <;> repeat' (first | exact trivial | exact rfl | exact Iff.rfl | apply And.intro)
  · have e : errD m p L 2 a' b' = 11 := by rw [errD2, if_neg h3, if_neg h4, if_neg (by assumption), if_pos (by omega)]
    repeat refine Mm.mk ?_
    conv => whnf
    refine EndVC.mk _ rfl _ _ (MRs.err e (by decide) { p with ld := true } L l d0) ?_
    refine ⟨[some 0, some 1, some 2], rfl, rfl, ?_, ?_⟩ <;> repeat' (first | exact trivial | exact rfl | exact Iff.rfl | apply And.intro)
  · have e : errD m p L 2 a' b' = 0 := by rw [errD2, if_neg h3, if_neg h4, if_neg (by assumption), if_neg (by omega)]
    repeat refine Mm.mk ?_
    conv => whnf
    refine EndVC.mk _ rfl _ _ (MRs.ok e (p' := { p with ld := true }) (L' := L) (l' := l) (d := d0) rfl rfl rfl hl) ?_
    refine ⟨[some 0, some 1, some 2], rfl, rfl, ?_, ?_⟩ <;> repeat' (first | exact trivial | exact rfl | exact Iff.rfl | apply And.intro)
theorem s82 (m : Mac) (p : Pst) (L : List Disc) (l : MapL) (hl : UsedOK l L) (k a b : Int) (a' b' : Int) :
    HSpec Try.prog 82 [.one (.ptr 0 0), .agg [.int .i64 k, .int .i64 a, .int .i64 b]] [bW 1 2 m p, dRow L, mpU l] (MRs m p L 3 a' b') := by
  refine spec_of pMix (O := []) Try.func82 (c := bodyOf Try.f82) rfl (by kernel_rfl) (by kernel_rfl) Try.ntmps82 (res := [.cell 4 70, .tmp 5]) (by kernel_rfl) ?_
  repeat' (conv => whnf
           first
           | refine Rng.ok (by simp only [inR]; omega) ?_
           | refine Ob.mk (by first | omega | (simp; done) | decide | (simp; omega)) ?_
           | refine Ob.mk (show eqOK _ _ = true from by kernel_rfl) ?_
           | refine Ob.mk (show keyOK _ _ _ = true from by kernel_rfl) ?_
           | refine Val.mk _ (shr_val (by simp; rfl)) ?_
           | refine Ob.mk (Nat.le_of_ble_eq_true rfl) ?_
           | refine JoinVC.on ?_
           | refine Nils.mk (fun h => ?_) ?_
           | refine Val.mk _ (Int.tmod_eq_emod_of_nonneg (by omega)) ?_
           | refine Val.mk _ (Int.tdiv_eq_ediv_of_nonneg (by omega)) ?_
           | refine Mm.mk ?_
           | (refine Br.mk (fun h => ?_) (fun h => ?_) <;> first | (exfalso; omega; done) | (exfalso; simp at h; done) | skip))
  · have e : errD m p L 3 a' b' = 10 := by rw [errD3, if_pos (.inl (by assumption))]
    repeat refine Mm.mk ?_
    conv => whnf
    refine EndVC.mk _ rfl _ _ (MRs.err e (by decide) { p with cl := true, h := 0, pk := p.t } L l d0) ?_
    refine ⟨[some 0, some 1, some 2], rfl, rfl, ?_, ?_⟩ <;> repeat' (first | exact trivial | exact rfl | exact Iff.rfl | apply And.intro)
  · have e : errD m p L 3 a' b' = 10 := by rw [errD3, if_pos (.inr (by simpa using ‹(!p.ld) = true›))]
    repeat refine Mm.mk ?_
    conv => whnf
    refine EndVC.mk _ rfl _ _ (MRs.err e (by decide) { p with cl := true, h := 0, pk := p.t } L l d0) ?_
    refine ⟨[some 0, some 1, some 2], rfl, rfl, ?_, ?_⟩ <;> repeat' (first | exact trivial | exact rfl | exact Iff.rfl | apply And.intro)
  · have e : errD m p L 3 a' b' = 0 := by rw [errD3, if_neg (fun h => h.elim (by assumption) (by simpa using ‹¬ (!p.ld) = true›))]
    repeat refine Mm.mk ?_
    conv => whnf
    refine EndVC.mk _ rfl _ _ (MRs.ok e (p' := { p with cl := true, h := 0, pk := p.t }) (L' := L) (l' := l) (d := d0) rfl rfl rfl hl) ?_
    refine ⟨[some 0, some 1, some 2], rfl, rfl, ?_, ?_⟩ <;> repeat' (first | exact trivial | exact rfl | exact Iff.rfl | apply And.intro)
theorem s83 (m : Mac) (p : Pst) (L : List Disc) (l : MapL) (hl : UsedOK l L) (k a b : Int) :
    HSpec Try.prog 83 [.one (.ptr 0 0), .agg [.int .i64 k, .int .i64 a, .int .i64 b]] [bW 1 2 m p, dRow L, mpU l] (MRs m p L 4 a b) := by
  refine spec_of pMix (O := []) Try.func83 (c := bodyOf Try.f83) rfl (by kernel_rfl) (by kernel_rfl) Try.ntmps83 (res := [.cell 4 70, .tmp 5]) (by kernel_rfl) ?_
  repeat' (conv => whnf
           first
           | refine Rng.ok (by simp only [inR]; omega) ?_
           | refine Ob.mk (by first | omega | (simp; done) | decide | (simp; omega)) ?_
           | refine Ob.mk (show eqOK _ _ = true from by kernel_rfl) ?_
           | refine Ob.mk (show keyOK _ _ _ = true from by kernel_rfl) ?_
           | refine Val.mk _ (shr_val (by simp; rfl)) ?_
           | refine Ob.mk (Nat.le_of_ble_eq_true rfl) ?_
           | refine JoinVC.on ?_
           | refine Nils.mk (fun h => ?_) ?_
           | refine Val.mk _ (Int.tmod_eq_emod_of_nonneg (by omega)) ?_
           | refine Val.mk _ (Int.tdiv_eq_ediv_of_nonneg (by omega)) ?_
           | refine Mm.mk ?_
           | refine CallVC.pure rfl (s56 _ _ _) ?_
           | refine CallVC0.pure rfl (s56 _ _ _) ?_
           | (refine Br.mk (fun h => ?_) (fun h => ?_) <;> first | (exfalso; omega; done) | (exfalso; simp at h; done) | skip))
  · have e : errD m p L 4 a b = 3 := by rw [errD4, if_pos (by assumption)]
    repeat refine Mm.mk ?_
    conv => whnf
    refine EndVC.mk _ rfl _ _ (MRs.err e (by decide) { p with v := a } L l d0) ?_
    refine ⟨[some 0, some 1, some 2], rfl, rfl, ?_, ?_⟩ <;> repeat' (first | exact trivial | exact rfl | exact Iff.rfl | apply And.intro)
  · have e : errD m p L 4 a b = 18 := by rw [errD4, if_neg (by assumption), if_pos ⟨by assumption, by simpa using ‹(!p.cl) = true›⟩]
    repeat refine Mm.mk ?_
    conv => whnf
    refine EndVC.mk _ rfl _ _ (MRs.err e (by decide) { p with v := a } L l d0) ?_
    refine ⟨[some 0, some 1, some 2], rfl, rfl, ?_, ?_⟩ <;> repeat' (first | exact trivial | exact rfl | exact Iff.rfl | apply And.intro)
  · have e : errD m p L 4 a b = 0 := by rw [errD4, if_neg (by assumption), if_neg (fun h => h.2 (by simpa using ‹¬ (!p.cl) = true›))]
    repeat refine Mm.mk ?_
    conv => whnf
    refine EndVC.mk _ rfl _ _ (MRs.ok e (p' := { p with v := a }) (L' := L) (l' := l) (d := d0) rfl rfl rfl hl) ?_
    refine ⟨[some 0, some 1, some 2], rfl, rfl, ?_, ?_⟩ <;> repeat' (first | exact trivial | exact rfl | exact Iff.rfl | apply And.intro)
  · have e : errD m p L 4 a b = 0 := by rw [errD4, if_neg (by assumption), if_neg (fun h => absurd h.1 (by assumption))]
    repeat refine Mm.mk ?_
    conv => whnf
    refine EndVC.mk _ rfl _ _ (MRs.ok e (p' := { p with v := a }) (L' := L) (l' := l) (d := d0) rfl rfl rfl hl) ?_
    refine ⟨[some 0, some 1, some 2], rfl, rfl, ?_, ?_⟩ <;> repeat' (first | exact trivial | exact rfl | exact Iff.rfl | apply And.intro)
structure WaitK (m : Mac) (p q : Pst) (n : Nat) : Prop where
  cl : q.cl = p.cl
  ld : q.ld = p.ld
  v : q.v = p.v
  tm : q.tm = p.tm
  a : q.a = p.a
  b : q.b = p.b
  t : m.room ≤ q.t ∧ q.t ≤ m.top
  h : p.h ≤ q.h ∧ q.h ≤ p.h + n
  pk : p.pk ≤ q.pk ∧ q.pk ≤ max p.pk m.top
theorem tickF_bd {m : Mac} (hm : m.ok) {t v : Int} (ht : m.room ≤ t ∧ t ≤ m.top) : m.room ≤ tickF m t v ∧ tickF m t v ≤ m.top := by
  obtain ⟨m1, m2, m3, m4, m5, m6, m7, m8, m9, m10, m11, m12, m13, m14, m15⟩ := hm
  unfold tickF
  split
  · split <;> omega
  · split <;> split <;> omega
theorem waitK {m : Mac} (hm : m.ok) {p : Pst} (ht : m.room ≤ p.t ∧ p.t ≤ m.top) : ∀ n, WaitK m p (waitS m n p) n
  | 0 => ⟨rfl, rfl, rfl, rfl, rfl, rfl, ht, by simp [waitS], by simp only [waitS]; omega⟩
  | n + 1 => by
    have h := waitK hm ht n
    have hb := tickF_bd hm (v := (waitS m n p).v) h.t
    have h1 := h.h
    have h2 := h.pk
    refine ⟨h.cl, h.ld, h.v, h.tm, h.a, h.b, hb, ?_, ?_⟩
    · simp only [waitS, tickS]
      split <;> omega
    · simp only [waitS, tickS]
      split <;> omega
theorem s84 (m : Mac) (p : Pst) (L : List Disc) (l : MapL) (hl : UsedOK l L) (k a b : Int) (hm : m.ok) (ht : m.room ≤ p.t ∧ p.t ≤ m.top) (hh : 0 ≤ p.h ∧ p.h ≤ 1073741824) (htm : 0 ≤ p.tm ∧ p.tm ≤ 1073741824) :
    HSpec Try.prog 84 [.one (.ptr 0 0), .agg [.int .i64 k, .int .i64 a, .int .i64 b]] [bW 1 2 m p, dRow L, mpU l] (MRs m p L 5 a b) := by
  refine spec_of pMix (O := [(8, ([], [⟨0, [], []⟩, ⟨1, [], []⟩, ⟨2, [], []⟩, ⟨3, [], []⟩, ⟨4, [], []⟩, ⟨5, [], []⟩, ⟨6, [], []⟩, ⟨7, [], []⟩, ⟨8, [], []⟩, ⟨9, [], []⟩, ⟨10, [], []⟩, ⟨11, [], []⟩, ⟨12, [], []⟩, ⟨13, [], []⟩, ⟨14, [], []⟩, ⟨15, [0], []⟩, ⟨16, [], []⟩, ⟨17, [], []⟩, ⟨18, [], []⟩, ⟨19, [], []⟩]))]) Try.func84 (c := bodyOf Try.f84) rfl (by kernel_rfl) (by kernel_rfl) Try.ntmps84 (res := [.cell 4 70, .tmp 5]) (by kernel_rfl) ?_
  repeat' (conv => whnf
           first
           | refine Rng.ok (by simp only [inR]; omega) ?_
           | refine Ob.mk (by first | omega | (simp; done) | decide | (simp; omega)) ?_
           | refine Ob.mk (show eqOK _ _ = true from by kernel_rfl) ?_
           | refine Ob.mk (show keyOK _ _ _ = true from by kernel_rfl) ?_
           | refine Val.mk _ (shr_val (by simp; rfl)) ?_
           | refine Ob.mk (Nat.le_of_ble_eq_true rfl) ?_
           | refine JoinVC.on ?_
           | refine Nils.mk (fun h => ?_) ?_
           | refine Val.mk _ (Int.tmod_eq_emod_of_nonneg (by omega)) ?_
           | refine Val.mk _ (Int.tdiv_eq_ediv_of_nonneg (by omega)) ?_
           | refine Mm.mk ?_
           | refine CallVC.pure rfl (s56 _ _ _) ?_
           | refine CallVC0.pure rfl (s56 _ _ _) ?_
           | (refine Br.mk (fun h => ?_) (fun h => ?_) <;> first | (exfalso; omega; done) | (exfalso; simp at h; done) | skip))
  · have e : errD m p L 5 a b = 3 := by rw [errD5, if_pos (by assumption)]
    repeat refine Mm.mk ?_
    conv => whnf
    refine EndVC.mk _ rfl _ _ (MRs.err e (by decide) p L l d0) ?_
    refine ⟨[some 0, some 1, some 2], rfl, rfl, ?_, ?_⟩ <;> repeat' (first | exact trivial | exact rfl | exact Iff.rfl | apply And.intro)
  · have e : errD m p L 5 a b = 14 := by rw [errD5, if_neg (by assumption), if_pos (by omega)]
    repeat refine Mm.mk ?_
    conv => whnf
    refine EndVC.mk _ rfl _ _ (MRs.err e (by decide) p L l d0) ?_
    refine ⟨[some 0, some 1, some 2], rfl, rfl, ?_, ?_⟩ <;> repeat' (first | exact trivial | exact rfl | exact Iff.rfl | apply And.intro)
  have e : errD m p L 5 a b = 0 := by rw [errD5, if_neg (by assumption), if_neg (by omega)]
  refine LoopVC.mk (fun n st => ∃ i : Nat, (i : Int) ≤ a ∧ n = a.toNat - i ∧ st = ⟨3, envA 99 [(0, .x (.one (.ptr 0 0))), (4, .x (.one (.ptr 4 0))), (34, .int .i64 a), (35, .int .i64 (i : Int))], [some (bW 1 2 m (waitS m i { p with tm := p.tm + a })), some (dRow L), some (mpU l), none, some (.box 70 [.int .i64 0, .int .i64 0, .int .i64 0, .int .i64 0, .int .i64 0, .int .i64 0, .ff])]⟩) _ _ ⟨0, by omega, rfl, rfl⟩ ?_ ?_
  · refine ⟨[some 0, some 1, some 2, none, some 4], rfl, rfl, ?_, ?_⟩ <;> repeat' (first | exact trivial | exact rfl | exact Iff.rfl | apply And.intro)
  rintro n _ ⟨i, hi, hn, rfl⟩
  have hW := waitK hm (p := { p with tm := p.tm + a }) ht i
  obtain ⟨w1, w2, w3, w4, w5, w6, w7, w8, w9⟩ := hW
  simp only at w1 w2 w3 w4 w5 w6 w7 w8 w9
  obtain ⟨q, hq⟩ : ∃ q, q = waitS m i { p with tm := p.tm + a } := ⟨_, rfl⟩
  rw [← hq] at w1 w2 w3 w4 w5 w6 w7 w8 w9 ⊢
  have hq1 : waitS m (i + 1) { p with tm := p.tm + a } = tickS m q := by rw [waitS, hq]
  have hb := tickF_bd hm (v := q.v) w7
  have b3 : 0 ≤ m.room ∧ m.top ≤ 400 := ⟨hm.1, hm.2.2.2.2.1⟩
  by_cases hi' : (i : Int) < a
  · have hc : q.cl = true → (!q.cl) = false := fun h => by rw [h]; rfl
    have hc' : ¬ q.cl = true → (!q.cl) = true := fun h => by simpa using h
    by_cases c1 : q.cl = true
    all_goals by_cases c2 : m.melt ≤ tickF m q.t q.v
    all_goals
      repeat' (conv => whnf
               first
               | refine Rng.ok (by simp only [inR]; omega) ?_
               | refine Ob.mk (by first | omega | (simp; done) | decide | (simp; omega)) ?_
               | refine Ob.mk (show eqOK _ _ = true from by kernel_rfl) ?_
               | refine Ob.mk (show keyOK _ _ _ = true from by kernel_rfl) ?_
               | refine Val.mk _ (shr_val (by simp; rfl)) ?_
               | refine Ob.mk (Nat.le_of_ble_eq_true rfl) ?_
               | refine JoinVC.on ?_
               | refine Nils.mk (fun h => ?_) ?_
               | refine Val.mk _ (Int.tmod_eq_emod_of_nonneg (by omega)) ?_
               | refine Val.mk _ (Int.tdiv_eq_ediv_of_nonneg (by omega)) ?_
               | refine Mm.mk ?_
               | refine CallVC.pure rfl (s57 m q.t q.v hm w7.1 w7.2) ?_
               | refine CallVC0.pure rfl (s57 m q.t q.v hm w7.1 w7.2) ?_
               | (refine Br.mk (fun h => ?_) (fun h => ?_) <;> first | (exfalso; omega; done) | (exfalso; simp at h; done) | skip))
    all_goals
      refine Back.mk (a.toNat - (i + 1)) _ (by omega) ⟨i + 1, by omega, rfl, rfl⟩ ?_
      refine ⟨[some 0, some 1, some 2, none, some 4], rfl, rfl, ?_, ?_⟩ <;> repeat' (first | exact trivial | exact rfl | exact Iff.rfl | apply And.intro)
    all_goals
      rw [hq1]
    all_goals
      first
      | rfl
      | (simp only [tickS, c1, c2, if_true, if_false, and_true, and_false] <;> first | rfl | omega | (split <;> omega))
      | (have h8 := ‹(!q.cl) = true›; rw [c1] at h8; exact absurd h8 (by decide))
      | exact absurd (hc' c1) ‹¬ (!q.cl) = true›
      | exact absurd c2 ‹¬ m.melt ≤ tickF m q.t q.v›
      | exact absurd ‹m.melt ≤ tickF m q.t q.v› c2
  · have hia : i = a.toNat := by omega
    repeat' (conv => whnf
             first
             | refine Rng.ok (by simp only [inR]; omega) ?_
             | refine Ob.mk (by first | omega | (simp; done) | decide | (simp; omega)) ?_
             | refine Ob.mk (show eqOK _ _ = true from by kernel_rfl) ?_
             | refine Ob.mk (show keyOK _ _ _ = true from by kernel_rfl) ?_
             | refine Val.mk _ (shr_val (by simp; rfl)) ?_
             | refine Ob.mk (Nat.le_of_ble_eq_true rfl) ?_
             | refine JoinVC.on ?_
             | refine Nils.mk (fun h => ?_) ?_
             | refine Val.mk _ (Int.tmod_eq_emod_of_nonneg (by omega)) ?_
             | refine Val.mk _ (Int.tdiv_eq_ediv_of_nonneg (by omega)) ?_
             | refine Mm.mk ?_
             | (refine Br.mk (fun h => ?_) (fun h => ?_) <;> first | (exfalso; omega; done) | (exfalso; simp at h; done) | skip))
    repeat refine Mm.mk ?_
    conv => whnf
    refine EndVC.mk _ rfl _ _ (MRs.ok e (p' := q) (L' := L) (l' := l) (d := d0) (by rw [hq, hia]; rfl) rfl rfl hl) ?_
    refine ⟨[some 0, some 1, some 2], rfl, rfl, ?_, ?_⟩ <;> repeat' (first | exact trivial | exact rfl | exact Iff.rfl | apply And.intro)
theorem useC_snoc (L : List Disc) (d : Disc) (k : Int) : useC (L ++ [d]) k = useC L k + (if d.a = k ∨ d.b = k then 1 else 0) := by
  unfold useC
  rw [List.filter_append, List.length_append]
  by_cases h : d.a = k ∨ d.b = k
  · rw [if_pos h]; simp [h]
  · rw [if_neg h]; simp [h]
theorem keyEq1 (c : List Cell) (a : Int) : keyEq [.int .i64] c [.int a] = match c with | [] => false | x :: _ => decide (x.toInt = a) := by
  cases c with
  | nil => rfl
  | cons x c => simp [keyEq, cellEq]; rfl
theorem mfind_mput1 (a b : Int) (v : List Cell) : ∀ (l : MapL), mfind [.int .i64] (mput [.int .i64] l [.int a] v) [.int b] = if a = b then some v else mfind [.int .i64] l [.int b]
  | [] => by
    simp only [mput, mfind, keyEq1]
    by_cases h : a = b <;> simp [h, Cell.toInt]
  | p :: l => by
    have ih := mfind_mput1 a b v l
    simp only [mput]
    cases h1 : keyEq [.int .i64] p.1 [.int a] with
    | true =>
      simp only [mfind]
      by_cases h : a = b
      · subst h; simp [keyEq1, Cell.toInt]
      · rw [keyEq1] at h1
        have h2 : keyEq [.int .i64] p.1 [.int b] = false := by
          rw [keyEq1]
          cases hp : p.1 with
          | nil => rfl
          | cons x c => rw [hp] at h1; simp only [decide_eq_true_eq] at h1; simp; omega
        rw [h2]
        simp [keyEq1, Cell.toInt, h]
    | false =>
      simp only [mfind]
      cases h2 : keyEq [.int .i64] p.1 [.int b] with
      | true =>
        have : a ≠ b := fun h => by rw [h, h2] at h1; cases h1
        simp [this]
      | false => simpa using ih
theorem mrow_mput1 (a b : Int) (v z : List Cell) (l : MapL) : mrow [.int .i64] z (mput [.int .i64] l [.int a] v) [.int b] = if a = b then v else mrow [.int .i64] z l [.int b] := by
  unfold mrow
  rw [mfind_mput1]
  split <;> rfl
theorem rI1 (n : Int) : rI [[Cell.int n]] 0 0 = n := rfl
theorem s85 (m : Mac) (p : Pst) (L : List Disc) (l : MapL) (hl : UsedOK l L) (k a b : Int) (a' b' : Int) (hI : PInv m p L) :
    HSpec Try.prog 85 [.one (.ptr 0 0), .agg [.int .i64 k, .int .i64 a, .int .i64 b]] [bW 1 2 m p, dRow L, mpU l] (MRs m p L 6 a' b') := by
  refine spec_of pMix (O := [(6, ([], [⟨0, [], []⟩, ⟨1, [], []⟩, ⟨2, [], []⟩, ⟨3, [], []⟩, ⟨4, [], []⟩, ⟨5, [], [6]⟩, ⟨6, [], []⟩, ⟨7, [0], []⟩, ⟨8, [], []⟩, ⟨9, [], []⟩, ⟨10, [], []⟩]))]) Try.func85 (c := bodyOf Try.f85) rfl (by kernel_rfl) (by kernel_rfl) Try.ntmps85 (res := [.cell 4 70, .tmp 5]) (by kernel_rfl) ?_
  repeat' (conv => whnf
           first
           | refine Rng.ok (by simp only [inR]; omega) ?_
           | refine Ob.mk (by first | omega | (simp; done) | decide | (simp; omega)) ?_
           | refine Ob.mk (show eqOK _ _ = true from by kernel_rfl) ?_
           | refine Ob.mk (show keyOK _ _ _ = true from by kernel_rfl) ?_
           | refine Val.mk _ (shr_val (by simp; rfl)) ?_
           | refine Ob.mk (Nat.le_of_ble_eq_true rfl) ?_
           | refine JoinVC.on ?_
           | refine Nils.mk (fun h => ?_) ?_
           | refine Val.mk _ (Int.tmod_eq_emod_of_nonneg (by omega)) ?_
           | refine Val.mk _ (Int.tdiv_eq_ediv_of_nonneg (by omega)) ?_
           | refine Mm.mk ?_
           | (refine Br.mk (fun h => ?_) (fun h => ?_) <;> first | (exfalso; omega; done) | (exfalso; simp at h; done) | skip))
  · have e : errD m p L 6 a' b' = 10 := by rw [errD6, if_pos (by simpa using ‹(!p.cl) = true›)]
    repeat refine Mm.mk ?_
    conv => whnf
    refine EndVC.mk _ rfl _ _ (MRs.err e (by decide) p L l d0) ?_
    refine ⟨[some 0, some 1, some 2], rfl, rfl, ?_, ?_⟩ <;> repeat' (first | exact trivial | exact rfl | exact Iff.rfl | apply And.intro)
  · have e : errD m p L 6 a' b' = 18 := by rw [errD6, if_neg (by simpa using ‹¬ (!p.cl) = true›), if_pos (.inl (by assumption))]
    repeat refine Mm.mk ?_
    conv => whnf
    refine EndVC.mk _ rfl _ _ (MRs.err e (by decide) p L l d0) ?_
    refine ⟨[some 0, some 1, some 2], rfl, rfl, ?_, ?_⟩ <;> repeat' (first | exact trivial | exact rfl | exact Iff.rfl | apply And.intro)
  · have e : errD m p L 6 a' b' = 18 := by rw [errD6, if_neg (by simpa using ‹¬ (!p.cl) = true›), if_pos (.inr (by assumption))]
    repeat refine Mm.mk ?_
    conv => whnf
    refine EndVC.mk _ rfl _ _ (MRs.err e (by decide) p L l d0) ?_
    refine ⟨[some 0, some 1, some 2], rfl, rfl, ?_, ?_⟩ <;> repeat' (first | exact trivial | exact rfl | exact Iff.rfl | apply And.intro)
  have hcl : p.cl = true := by simpa using ‹¬ (!p.cl) = true›
  have e : errD m p L 6 a' b' = 0 := by rw [errD6, if_neg (fun h => h hcl), if_neg (fun h => h.elim (by assumption) (by assumption))]
  have hld := hI.cl hcl
  have hlt := hI.lt hld
  have hab := hI.ld hld
  have hu1 := useC_bd L p.a
  have hu2 := useC_bd L p.b
  have lL := discA_len L
  have hA := hl p.a
  have hB := hl p.b
  repeat' (conv => whnf
           first
           | refine Rng.ok (by simp only [inR]; omega) ?_
           | refine Ob.mk (by first | omega | (simp; done) | decide | (simp; omega)) ?_
           | refine Ob.mk (show eqOK _ _ = true from by kernel_rfl) ?_
           | refine Ob.mk (show keyOK _ _ _ = true from by kernel_rfl) ?_
           | refine Val.mk _ (shr_val (by simp; rfl)) ?_
           | refine Ob.mk (Nat.le_of_ble_eq_true rfl) ?_
           | refine JoinVC.on ?_
           | refine Nils.mk (fun h => ?_) ?_
           | refine Val.mk _ (Int.tmod_eq_emod_of_nonneg (by omega)) ?_
           | refine Val.mk _ (Int.tdiv_eq_ediv_of_nonneg (by omega)) ?_
           | refine Mm.mk ?_
           | (refine Br.mk (fun h => ?_) (fun h => ?_) <;> first | (exfalso; omega; done) | (exfalso; simp at h; done) | skip))
  repeat refine Mm.mk ?_
  refine Ob.mk (by simp only [lL, eb70, List.length_cons, List.length_nil]; omega) ?_
  conv => whnf
  rw [hA]
  repeat' (conv => whnf
           first
           | refine Rng.ok (by simp only [inR]; omega) ?_
           | refine Ob.mk (by first | omega | (simp; done) | decide | (simp; omega)) ?_
           | refine Ob.mk (show eqOK _ _ = true from by kernel_rfl) ?_
           | refine Ob.mk (show keyOK _ _ _ = true from by kernel_rfl) ?_
           | refine Val.mk _ (shr_val (by simp; rfl)) ?_
           | refine Ob.mk (Nat.le_of_ble_eq_true rfl) ?_
           | refine JoinVC.on ?_
           | refine Nils.mk (fun h => ?_) ?_
           | refine Val.mk _ (Int.tmod_eq_emod_of_nonneg (by omega)) ?_
           | refine Val.mk _ (Int.tdiv_eq_ediv_of_nonneg (by omega)) ?_
           | refine Mm.mk ?_
           | (refine Br.mk (fun h => ?_) (fun h => ?_) <;> first | (exfalso; omega; done) | (exfalso; simp at h; done) | skip))
  conv => whnf
  rw [mrow_mput1, if_neg hab.2.2, hB]
  repeat' (conv => whnf
           first
           | refine Rng.ok (by simp only [inR]; omega) ?_
           | refine Ob.mk (by first | omega | (simp; done) | decide | (simp; omega)) ?_
           | refine Ob.mk (show eqOK _ _ = true from by kernel_rfl) ?_
           | refine Ob.mk (show keyOK _ _ _ = true from by kernel_rfl) ?_
           | refine Val.mk _ (shr_val (by simp; rfl)) ?_
           | refine Ob.mk (Nat.le_of_ble_eq_true rfl) ?_
           | refine JoinVC.on ?_
           | refine Nils.mk (fun h => ?_) ?_
           | refine Val.mk _ (Int.tmod_eq_emod_of_nonneg (by omega)) ?_
           | refine Val.mk _ (Int.tdiv_eq_ediv_of_nonneg (by omega)) ?_
           | refine Mm.mk ?_
           | (refine Br.mk (fun h => ?_) (fun h => ?_) <;> first | (exfalso; omega; done) | (exfalso; simp at h; done) | skip))
  have hd : discA L ++ [[Cell.int (↑(List.length (discA L)) + 1), Cell.int p.a, Cell.int p.b, Cell.int p.tm, Cell.int p.h, Cell.int p.pk, Cell.bool (decide (m.hold ≤ p.h))]] = discA (L ++ [discD m p L]) := by
    rw [lL]; simp [discA, discD]
  rw [hd]
  have hU : UsedOK (mput [.int .i64] (mput [.int .i64] l [.int p.a] [.int (useC L p.a + 1)]) [.int p.b] [.int (useC L p.b + 1)]) (L ++ [discD m p L]) := fun k => by
    have hk := hl k
    have hs : useC (L ++ [discD m p L]) k = useC L k + (if p.a = k ∨ p.b = k then 1 else 0) := useC_snoc ..
    rw [mrow_mput1, mrow_mput1, hs]
    by_cases h2 : p.b = k
    · rw [if_pos h2, if_pos (.inr h2), rI1, h2]
    · rw [if_neg h2]
      by_cases h1 : p.a = k
      · rw [if_pos h1, if_pos (.inl h1), rI1, h1]
      · rw [if_neg h1, if_neg (fun h => h.elim h1 h2), hk]; omega
  repeat refine Mm.mk ?_
  conv => whnf
  refine EndVC.mk _ rfl _ _ (MRs.ok2 e (p' := { p with cl := false, ld := false }) (L' := L ++ [discD m p L]) (l' := mput [.int .i64] (mput [.int .i64] l [.int p.a] [.int (useC L p.a + 1)]) [.int p.b] [.int (useC L p.b + 1)]) (d := discD m p L) rfl rfl rfl hU) ?_
  refine ⟨[some 0, none, some 2, some 6], rfl, rfl, ?_, ?_⟩ <;> repeat' (first | exact trivial | exact rfl | exact Iff.rfl | apply And.intro)
  exact congrArg (· + 1) (congrArg Int.ofNat lL)
end Go.Sx

namespace Go.Sx
open Go Go.Proofs
set_option maxRecDepth 10000
set_option maxHeartbeats 1000000
theorem e39 : EntersF Try.prog 39 := enters_of Try.func39 (c := bodyOf Try.f39) (by kernel_rfl) rfl
theorem e41 : EntersF Try.prog 41 := enters_of Try.func41 (c := bodyOf Try.f41) (by kernel_rfl) rfl
theorem e42 : EntersF Try.prog 42 := enters_of Try.func42 (c := bodyOf Try.f42) (by kernel_rfl) rfl
theorem e47 : EntersF Try.prog 47 := enters_of Try.func47 (c := bodyOf Try.f47) (by kernel_rfl) rfl
theorem e49 : EntersF Try.prog 49 := enters_of Try.func49 (c := bodyOf Try.f49) (by kernel_rfl) rfl
theorem e50 : EntersF Try.prog 50 := enters_of Try.func50 (c := bodyOf Try.f50) (by kernel_rfl) rfl
@[reducible] def bP (i : Nat) : Blk := .box 94 [.ptr i 0]
/-- What an act of a press gives. -/
def DRs (m : Mac) (p : Pst) (L : List Disc) (l : MapL) (k a b : Int) (r : AV) (m' : List (Option Blk)) : Prop :=
  (errD m p L k a b = 0 ∧ ∃ l', UsedOK l' (nextL m p L k) ∧ r = .tup [(outD m p L k).x, I 0] ∧ m' = [some (bP 4), none, none, none, some (bW 5 6 m (nextP m p k a b)), some (dRow (nextL m p L k)), some (mpU l')]) ∨
  (errD m p L k a b ≠ 0 ∧ r = .tup [d0.x, I (errD m p L k a b)] ∧ m' = [some (bP 1), some (bW 2 3 m p), some (dRow L), some (mpU l)])
theorem DRs.ok {m : Mac} {p : Pst} {L : List Disc} {l : MapL} {k a b : Int} (e : errD m p L k a b = 0) {p' : Pst} {L' : List Disc} {d : Disc} {l' : MapL} (h : p' = nextP m p k a b ∧ L' = nextL m p L k ∧ d = outD m p L k ∧ UsedOK l' L') :
    DRs m p L l k a b (.tup [d.x, I 0]) [some (bP 4), none, none, none, some (bW 5 6 m p'), some (dRow L'), some (mpU l')] := by
  obtain ⟨hp, hL, hd, hu⟩ := h
  exact .inl ⟨e, l', hL ▸ hu, by rw [hd], by rw [hp, hL]⟩
theorem DRs.err {m : Mac} {p : Pst} {L : List Disc} {l : MapL} {k a b : Int} (e : errD m p L k a b ≠ 0) :
    DRs m p L l k a b (.tup [d0.x, I (errD m p L k a b)]) [some (bP 1), some (bW 2 3 m p), some (dRow L), some (mpU l)] := .inr ⟨e, rfl, rfl⟩
theorem s41 (m : Mac) (p : Pst) (L : List Disc) (l : MapL) (hl : UsedOK l L) (hI : PInv m p L) (k a b : Int) :
    HSpec Try.prog 41 [.one (.ptr 0 0), .agg [.int .i64 k, .int .i64 a, .int .i64 b]] [bP 1, bW 2 3 m p, dRow L, mpU l] (DRs m p L l k a b) := by
  by_cases hk : k < 1 ∨ 6 < k
  · have e : errD m p L k a b = 2 := by unfold errD; rw [if_neg (by omega), if_neg (by omega), if_neg (by omega), if_neg (by omega), if_neg (by omega), if_neg (by omega)]
    refine spec_of pMix (O := [(7, ([10], [⟨0, [], []⟩, ⟨1, [], []⟩, ⟨2, [], []⟩, ⟨3, [], []⟩, ⟨4, [], []⟩, ⟨5, [], []⟩, ⟨6, [], []⟩, ⟨7, [], []⟩, ⟨8, [], []⟩, ⟨9, [], []⟩, ⟨10, [], []⟩, ⟨11, [9], []⟩, ⟨12, [], []⟩]))]) Try.func41 (c := bodyOf Try.f41) rfl (by kernel_rfl) (by kernel_rfl) Try.ntmps41 (res := [.cell 4 70, .tmp 5]) (by kernel_rfl) ?_
    repeat' (conv => whnf
             first
             | refine Rng.ok (by simp only [inR]; omega) ?_
             | refine Ob.mk (by first | omega | (simp; done) | decide | (simp; omega)) ?_
             | refine Ob.mk (show eqOK _ _ = true from by kernel_rfl) ?_
             | refine Ob.mk (show keyOK _ _ _ = true from by kernel_rfl) ?_
             | refine Val.mk _ (shr_val (by simp; rfl)) ?_
             | refine Ob.mk (Nat.le_of_ble_eq_true rfl) ?_
             | refine JoinVC.on ?_
             | refine Nils.mk (fun h => ?_) ?_
             | refine Val.mk _ (Int.tmod_eq_emod_of_nonneg (by omega)) ?_
             | refine Val.mk _ (Int.tdiv_eq_ediv_of_nonneg (by omega)) ?_
             | refine Mm.mk ?_
             | (refine Br.mk (fun h => ?_) (fun h => ?_) <;> first | (exfalso; omega; done) | (exfalso; simp at h; done) | skip))
    all_goals
      repeat refine Mm.mk ?_
      conv => whnf
      refine EndVC.mk _ rfl _ _ (DRs.err (by rw [e]; decide)) ?_
      refine ⟨[some 0, some 1, some 2, some 3], rfl, rfl, ?_, ?_⟩ <;> repeat' (first | exact trivial | exact rfl | exact Iff.rfl | apply And.intro)
      exact e.symm
  have hk6 : k = 1 ∨ k = 2 ∨ k = 3 ∨ k = 4 ∨ k = 5 ∨ k = 6 := by omega
  clear hk
  rcases hk6 with rfl | rfl | rfl | rfl | rfl | rfl
  · refine spec_of pMix (O := [(7, ([10], [⟨0, [], []⟩, ⟨1, [], []⟩, ⟨2, [], []⟩, ⟨3, [], []⟩, ⟨4, [], []⟩, ⟨5, [], []⟩, ⟨6, [], []⟩, ⟨7, [], []⟩, ⟨8, [], []⟩, ⟨9, [], []⟩, ⟨10, [], []⟩, ⟨11, [9], []⟩, ⟨12, [], []⟩]))]) Try.func41 (c := bodyOf Try.f41) rfl (by kernel_rfl) (by kernel_rfl) Try.ntmps41 (res := [.cell 4 70, .tmp 5]) (by kernel_rfl) ?_
    repeat' (conv => whnf
             first
             | refine Rng.ok (by simp only [inR]; omega) ?_
             | refine Ob.mk (by first | omega | (simp; done) | decide | (simp; omega)) ?_
             | refine Ob.mk (show eqOK _ _ = true from by kernel_rfl) ?_
             | refine Ob.mk (show keyOK _ _ _ = true from by kernel_rfl) ?_
             | refine Val.mk _ (shr_val (by simp; rfl)) ?_
             | refine Ob.mk (Nat.le_of_ble_eq_true rfl) ?_
             | refine JoinVC.on ?_
             | refine Nils.mk (fun h => ?_) ?_
             | refine Val.mk _ (Int.tmod_eq_emod_of_nonneg (by omega)) ?_
             | refine Val.mk _ (Int.tdiv_eq_ediv_of_nonneg (by omega)) ?_
             | refine Mm.mk ?_
             | (refine Br.mk (fun h => ?_) (fun h => ?_) <;> first | (exfalso; omega; done) | (exfalso; simp at h; done) | skip))
    conv => whnf
    refine CallVC.mk [1, 2, 3] _ _ _ rfl rfl rfl (s86 m p L l hI.len) (fun r m' h' => ?_)
    obtain ⟨rfl, rfl⟩ := h'
    conv => whnf
    repeat' (conv => whnf
             first
             | refine Rng.ok (by simp only [inR]; omega) ?_
             | refine Ob.mk (by first | omega | (simp; done) | decide | (simp; omega)) ?_
             | refine Ob.mk (show eqOK _ _ = true from by kernel_rfl) ?_
             | refine Ob.mk (show keyOK _ _ _ = true from by kernel_rfl) ?_
             | refine Val.mk _ (shr_val (by simp; rfl)) ?_
             | refine Ob.mk (Nat.le_of_ble_eq_true rfl) ?_
             | refine JoinVC.on ?_
             | refine Nils.mk (fun h => ?_) ?_
             | refine Val.mk _ (Int.tmod_eq_emod_of_nonneg (by omega)) ?_
             | refine Val.mk _ (Int.tdiv_eq_ediv_of_nonneg (by omega)) ?_
             | refine Mm.mk ?_
             | (refine Br.mk (fun h => ?_) (fun h => ?_) <;> first | (exfalso; omega; done) | (exfalso; simp at h; done) | skip))
    conv => whnf
    refine CallVC.mk [7, 8, 9] _ _ _ rfl rfl rfl (s80 m p L l hl 1 a b) (fun r m' h' => ?_)
    obtain ⟨p', L', l', d, rfl, rfl | rfl, hx⟩ := h'
    · by_cases e : errD m p L 1 a b = 0
      · repeat' (conv => whnf
                 first
                 | refine Rng.ok (by simp only [inR]; omega) ?_
                 | refine Ob.mk (by first | omega | (simp; done) | decide | (simp; omega)) ?_
                 | refine Ob.mk (show eqOK _ _ = true from by kernel_rfl) ?_
                 | refine Ob.mk (show keyOK _ _ _ = true from by kernel_rfl) ?_
                 | refine Val.mk _ (shr_val (by simp; rfl)) ?_
                 | refine Ob.mk (Nat.le_of_ble_eq_true rfl) ?_
                 | refine JoinVC.on ?_
                 | refine Nils.mk (fun h => ?_) ?_
                 | refine Val.mk _ (Int.tmod_eq_emod_of_nonneg (by omega)) ?_
                 | refine Val.mk _ (Int.tdiv_eq_ediv_of_nonneg (by omega)) ?_
                 | refine Mm.mk ?_
                 | (refine Br.mk (fun h => ?_) (fun h => ?_) <;> first | (exfalso; omega; done) | (exfalso; simp at h; done) | skip))
        repeat refine Mm.mk ?_
        conv => whnf
        refine EndVC.mk _ rfl _ _ (DRs.ok e (hx e)) ?_
        refine ⟨[some 0, none, none, none, some 7, some 8, some 9], rfl, rfl, ?_, ?_⟩ <;> repeat' (first | exact trivial | exact rfl | exact Iff.rfl | apply And.intro)
      · repeat' (conv => whnf
                 first
                 | refine Rng.ok (by simp only [inR]; omega) ?_
                 | refine Ob.mk (by first | omega | (simp; done) | decide | (simp; omega)) ?_
                 | refine Ob.mk (show eqOK _ _ = true from by kernel_rfl) ?_
                 | refine Ob.mk (show keyOK _ _ _ = true from by kernel_rfl) ?_
                 | refine Val.mk _ (shr_val (by simp; rfl)) ?_
                 | refine Ob.mk (Nat.le_of_ble_eq_true rfl) ?_
                 | refine JoinVC.on ?_
                 | refine Nils.mk (fun h => ?_) ?_
                 | refine Val.mk _ (Int.tmod_eq_emod_of_nonneg (by omega)) ?_
                 | refine Val.mk _ (Int.tdiv_eq_ediv_of_nonneg (by omega)) ?_
                 | refine Mm.mk ?_
                 | (refine Br.mk (fun h => ?_) (fun h => ?_) <;> first | (exfalso; omega; done) | (exfalso; simp at h; done) | skip))
        repeat refine Mm.mk ?_
        conv => whnf
        refine EndVC.mk _ rfl _ _ (DRs.err e) ?_
        refine ⟨[some 0, some 1, some 2, some 3], rfl, rfl, ?_, ?_⟩ <;> repeat' (first | exact trivial | exact rfl | exact Iff.rfl | apply And.intro)
    · by_cases e : errD m p L 1 a b = 0
      · repeat' (conv => whnf
                 first
                 | refine Rng.ok (by simp only [inR]; omega) ?_
                 | refine Ob.mk (by first | omega | (simp; done) | decide | (simp; omega)) ?_
                 | refine Ob.mk (show eqOK _ _ = true from by kernel_rfl) ?_
                 | refine Ob.mk (show keyOK _ _ _ = true from by kernel_rfl) ?_
                 | refine Val.mk _ (shr_val (by simp; rfl)) ?_
                 | refine Ob.mk (Nat.le_of_ble_eq_true rfl) ?_
                 | refine JoinVC.on ?_
                 | refine Nils.mk (fun h => ?_) ?_
                 | refine Val.mk _ (Int.tmod_eq_emod_of_nonneg (by omega)) ?_
                 | refine Val.mk _ (Int.tdiv_eq_ediv_of_nonneg (by omega)) ?_
                 | refine Mm.mk ?_
                 | (refine Br.mk (fun h => ?_) (fun h => ?_) <;> first | (exfalso; omega; done) | (exfalso; simp at h; done) | skip))
        repeat refine Mm.mk ?_
        conv => whnf
        refine EndVC.mk _ rfl _ _ (DRs.ok e (hx e)) ?_
        refine ⟨[some 0, none, none, none, some 7, some 10, some 9], rfl, rfl, ?_, ?_⟩ <;> repeat' (first | exact trivial | exact rfl | exact Iff.rfl | apply And.intro)
      · repeat' (conv => whnf
                 first
                 | refine Rng.ok (by simp only [inR]; omega) ?_
                 | refine Ob.mk (by first | omega | (simp; done) | decide | (simp; omega)) ?_
                 | refine Ob.mk (show eqOK _ _ = true from by kernel_rfl) ?_
                 | refine Ob.mk (show keyOK _ _ _ = true from by kernel_rfl) ?_
                 | refine Val.mk _ (shr_val (by simp; rfl)) ?_
                 | refine Ob.mk (Nat.le_of_ble_eq_true rfl) ?_
                 | refine JoinVC.on ?_
                 | refine Nils.mk (fun h => ?_) ?_
                 | refine Val.mk _ (Int.tmod_eq_emod_of_nonneg (by omega)) ?_
                 | refine Val.mk _ (Int.tdiv_eq_ediv_of_nonneg (by omega)) ?_
                 | refine Mm.mk ?_
                 | (refine Br.mk (fun h => ?_) (fun h => ?_) <;> first | (exfalso; omega; done) | (exfalso; simp at h; done) | skip))
        repeat refine Mm.mk ?_
        conv => whnf
        refine EndVC.mk _ rfl _ _ (DRs.err e) ?_
        refine ⟨[some 0, some 1, some 2, some 3], rfl, rfl, ?_, ?_⟩ <;> repeat' (first | exact trivial | exact rfl | exact Iff.rfl | apply And.intro)
  · refine spec_of pMix (O := [(7, ([10], [⟨0, [], []⟩, ⟨1, [], []⟩, ⟨2, [], []⟩, ⟨3, [], []⟩, ⟨4, [], []⟩, ⟨5, [], []⟩, ⟨6, [], []⟩, ⟨7, [], []⟩, ⟨8, [], []⟩, ⟨9, [], []⟩, ⟨10, [], []⟩, ⟨11, [9], []⟩, ⟨12, [], []⟩]))]) Try.func41 (c := bodyOf Try.f41) rfl (by kernel_rfl) (by kernel_rfl) Try.ntmps41 (res := [.cell 4 70, .tmp 5]) (by kernel_rfl) ?_
    repeat' (conv => whnf
             first
             | refine Rng.ok (by simp only [inR]; omega) ?_
             | refine Ob.mk (by first | omega | (simp; done) | decide | (simp; omega)) ?_
             | refine Ob.mk (show eqOK _ _ = true from by kernel_rfl) ?_
             | refine Ob.mk (show keyOK _ _ _ = true from by kernel_rfl) ?_
             | refine Val.mk _ (shr_val (by simp; rfl)) ?_
             | refine Ob.mk (Nat.le_of_ble_eq_true rfl) ?_
             | refine JoinVC.on ?_
             | refine Nils.mk (fun h => ?_) ?_
             | refine Val.mk _ (Int.tmod_eq_emod_of_nonneg (by omega)) ?_
             | refine Val.mk _ (Int.tdiv_eq_ediv_of_nonneg (by omega)) ?_
             | refine Mm.mk ?_
             | (refine Br.mk (fun h => ?_) (fun h => ?_) <;> first | (exfalso; omega; done) | (exfalso; simp at h; done) | skip))
    conv => whnf
    refine CallVC.mk [1, 2, 3] _ _ _ rfl rfl rfl (s86 m p L l hI.len) (fun r m' h' => ?_)
    obtain ⟨rfl, rfl⟩ := h'
    conv => whnf
    repeat' (conv => whnf
             first
             | refine Rng.ok (by simp only [inR]; omega) ?_
             | refine Ob.mk (by first | omega | (simp; done) | decide | (simp; omega)) ?_
             | refine Ob.mk (show eqOK _ _ = true from by kernel_rfl) ?_
             | refine Ob.mk (show keyOK _ _ _ = true from by kernel_rfl) ?_
             | refine Val.mk _ (shr_val (by simp; rfl)) ?_
             | refine Ob.mk (Nat.le_of_ble_eq_true rfl) ?_
             | refine JoinVC.on ?_
             | refine Nils.mk (fun h => ?_) ?_
             | refine Val.mk _ (Int.tmod_eq_emod_of_nonneg (by omega)) ?_
             | refine Val.mk _ (Int.tdiv_eq_ediv_of_nonneg (by omega)) ?_
             | refine Mm.mk ?_
             | (refine Br.mk (fun h => ?_) (fun h => ?_) <;> first | (exfalso; omega; done) | (exfalso; simp at h; done) | skip))
    conv => whnf
    refine CallVC.mk [7, 8, 9] _ _ _ rfl rfl rfl (s81 m p L l hl 2 a b a b) (fun r m' h' => ?_)
    obtain ⟨p', L', l', d, rfl, rfl | rfl, hx⟩ := h'
    · by_cases e : errD m p L 2 a b = 0
      · repeat' (conv => whnf
                 first
                 | refine Rng.ok (by simp only [inR]; omega) ?_
                 | refine Ob.mk (by first | omega | (simp; done) | decide | (simp; omega)) ?_
                 | refine Ob.mk (show eqOK _ _ = true from by kernel_rfl) ?_
                 | refine Ob.mk (show keyOK _ _ _ = true from by kernel_rfl) ?_
                 | refine Val.mk _ (shr_val (by simp; rfl)) ?_
                 | refine Ob.mk (Nat.le_of_ble_eq_true rfl) ?_
                 | refine JoinVC.on ?_
                 | refine Nils.mk (fun h => ?_) ?_
                 | refine Val.mk _ (Int.tmod_eq_emod_of_nonneg (by omega)) ?_
                 | refine Val.mk _ (Int.tdiv_eq_ediv_of_nonneg (by omega)) ?_
                 | refine Mm.mk ?_
                 | (refine Br.mk (fun h => ?_) (fun h => ?_) <;> first | (exfalso; omega; done) | (exfalso; simp at h; done) | skip))
        repeat refine Mm.mk ?_
        conv => whnf
        refine EndVC.mk _ rfl _ _ (DRs.ok e (hx e)) ?_
        refine ⟨[some 0, none, none, none, some 7, some 8, some 9], rfl, rfl, ?_, ?_⟩ <;> repeat' (first | exact trivial | exact rfl | exact Iff.rfl | apply And.intro)
      · repeat' (conv => whnf
                 first
                 | refine Rng.ok (by simp only [inR]; omega) ?_
                 | refine Ob.mk (by first | omega | (simp; done) | decide | (simp; omega)) ?_
                 | refine Ob.mk (show eqOK _ _ = true from by kernel_rfl) ?_
                 | refine Ob.mk (show keyOK _ _ _ = true from by kernel_rfl) ?_
                 | refine Val.mk _ (shr_val (by simp; rfl)) ?_
                 | refine Ob.mk (Nat.le_of_ble_eq_true rfl) ?_
                 | refine JoinVC.on ?_
                 | refine Nils.mk (fun h => ?_) ?_
                 | refine Val.mk _ (Int.tmod_eq_emod_of_nonneg (by omega)) ?_
                 | refine Val.mk _ (Int.tdiv_eq_ediv_of_nonneg (by omega)) ?_
                 | refine Mm.mk ?_
                 | (refine Br.mk (fun h => ?_) (fun h => ?_) <;> first | (exfalso; omega; done) | (exfalso; simp at h; done) | skip))
        repeat refine Mm.mk ?_
        conv => whnf
        refine EndVC.mk _ rfl _ _ (DRs.err e) ?_
        refine ⟨[some 0, some 1, some 2, some 3], rfl, rfl, ?_, ?_⟩ <;> repeat' (first | exact trivial | exact rfl | exact Iff.rfl | apply And.intro)
    · by_cases e : errD m p L 2 a b = 0
      · repeat' (conv => whnf
                 first
                 | refine Rng.ok (by simp only [inR]; omega) ?_
                 | refine Ob.mk (by first | omega | (simp; done) | decide | (simp; omega)) ?_
                 | refine Ob.mk (show eqOK _ _ = true from by kernel_rfl) ?_
                 | refine Ob.mk (show keyOK _ _ _ = true from by kernel_rfl) ?_
                 | refine Val.mk _ (shr_val (by simp; rfl)) ?_
                 | refine Ob.mk (Nat.le_of_ble_eq_true rfl) ?_
                 | refine JoinVC.on ?_
                 | refine Nils.mk (fun h => ?_) ?_
                 | refine Val.mk _ (Int.tmod_eq_emod_of_nonneg (by omega)) ?_
                 | refine Val.mk _ (Int.tdiv_eq_ediv_of_nonneg (by omega)) ?_
                 | refine Mm.mk ?_
                 | (refine Br.mk (fun h => ?_) (fun h => ?_) <;> first | (exfalso; omega; done) | (exfalso; simp at h; done) | skip))
        repeat refine Mm.mk ?_
        conv => whnf
        refine EndVC.mk _ rfl _ _ (DRs.ok e (hx e)) ?_
        refine ⟨[some 0, none, none, none, some 7, some 10, some 9], rfl, rfl, ?_, ?_⟩ <;> repeat' (first | exact trivial | exact rfl | exact Iff.rfl | apply And.intro)
      · repeat' (conv => whnf
                 first
                 | refine Rng.ok (by simp only [inR]; omega) ?_
                 | refine Ob.mk (by first | omega | (simp; done) | decide | (simp; omega)) ?_
                 | refine Ob.mk (show eqOK _ _ = true from by kernel_rfl) ?_
                 | refine Ob.mk (show keyOK _ _ _ = true from by kernel_rfl) ?_
                 | refine Val.mk _ (shr_val (by simp; rfl)) ?_
                 | refine Ob.mk (Nat.le_of_ble_eq_true rfl) ?_
                 | refine JoinVC.on ?_
                 | refine Nils.mk (fun h => ?_) ?_
                 | refine Val.mk _ (Int.tmod_eq_emod_of_nonneg (by omega)) ?_
                 | refine Val.mk _ (Int.tdiv_eq_ediv_of_nonneg (by omega)) ?_
                 | refine Mm.mk ?_
                 | (refine Br.mk (fun h => ?_) (fun h => ?_) <;> first | (exfalso; omega; done) | (exfalso; simp at h; done) | skip))
        repeat refine Mm.mk ?_
        conv => whnf
        refine EndVC.mk _ rfl _ _ (DRs.err e) ?_
        refine ⟨[some 0, some 1, some 2, some 3], rfl, rfl, ?_, ?_⟩ <;> repeat' (first | exact trivial | exact rfl | exact Iff.rfl | apply And.intro)
  · refine spec_of pMix (O := [(7, ([10], [⟨0, [], []⟩, ⟨1, [], []⟩, ⟨2, [], []⟩, ⟨3, [], []⟩, ⟨4, [], []⟩, ⟨5, [], []⟩, ⟨6, [], []⟩, ⟨7, [], []⟩, ⟨8, [], []⟩, ⟨9, [], []⟩, ⟨10, [], []⟩, ⟨11, [9], []⟩, ⟨12, [], []⟩]))]) Try.func41 (c := bodyOf Try.f41) rfl (by kernel_rfl) (by kernel_rfl) Try.ntmps41 (res := [.cell 4 70, .tmp 5]) (by kernel_rfl) ?_
    repeat' (conv => whnf
             first
             | refine Rng.ok (by simp only [inR]; omega) ?_
             | refine Ob.mk (by first | omega | (simp; done) | decide | (simp; omega)) ?_
             | refine Ob.mk (show eqOK _ _ = true from by kernel_rfl) ?_
             | refine Ob.mk (show keyOK _ _ _ = true from by kernel_rfl) ?_
             | refine Val.mk _ (shr_val (by simp; rfl)) ?_
             | refine Ob.mk (Nat.le_of_ble_eq_true rfl) ?_
             | refine JoinVC.on ?_
             | refine Nils.mk (fun h => ?_) ?_
             | refine Val.mk _ (Int.tmod_eq_emod_of_nonneg (by omega)) ?_
             | refine Val.mk _ (Int.tdiv_eq_ediv_of_nonneg (by omega)) ?_
             | refine Mm.mk ?_
             | (refine Br.mk (fun h => ?_) (fun h => ?_) <;> first | (exfalso; omega; done) | (exfalso; simp at h; done) | skip))
    conv => whnf
    refine CallVC.mk [1, 2, 3] _ _ _ rfl rfl rfl (s86 m p L l hI.len) (fun r m' h' => ?_)
    obtain ⟨rfl, rfl⟩ := h'
    conv => whnf
    repeat' (conv => whnf
             first
             | refine Rng.ok (by simp only [inR]; omega) ?_
             | refine Ob.mk (by first | omega | (simp; done) | decide | (simp; omega)) ?_
             | refine Ob.mk (show eqOK _ _ = true from by kernel_rfl) ?_
             | refine Ob.mk (show keyOK _ _ _ = true from by kernel_rfl) ?_
             | refine Val.mk _ (shr_val (by simp; rfl)) ?_
             | refine Ob.mk (Nat.le_of_ble_eq_true rfl) ?_
             | refine JoinVC.on ?_
             | refine Nils.mk (fun h => ?_) ?_
             | refine Val.mk _ (Int.tmod_eq_emod_of_nonneg (by omega)) ?_
             | refine Val.mk _ (Int.tdiv_eq_ediv_of_nonneg (by omega)) ?_
             | refine Mm.mk ?_
             | (refine Br.mk (fun h => ?_) (fun h => ?_) <;> first | (exfalso; omega; done) | (exfalso; simp at h; done) | skip))
    conv => whnf
    refine CallVC.mk [7, 8, 9] _ _ _ rfl rfl rfl (s82 m p L l hl 3 a b a b) (fun r m' h' => ?_)
    obtain ⟨p', L', l', d, rfl, rfl | rfl, hx⟩ := h'
    · by_cases e : errD m p L 3 a b = 0
      · repeat' (conv => whnf
                 first
                 | refine Rng.ok (by simp only [inR]; omega) ?_
                 | refine Ob.mk (by first | omega | (simp; done) | decide | (simp; omega)) ?_
                 | refine Ob.mk (show eqOK _ _ = true from by kernel_rfl) ?_
                 | refine Ob.mk (show keyOK _ _ _ = true from by kernel_rfl) ?_
                 | refine Val.mk _ (shr_val (by simp; rfl)) ?_
                 | refine Ob.mk (Nat.le_of_ble_eq_true rfl) ?_
                 | refine JoinVC.on ?_
                 | refine Nils.mk (fun h => ?_) ?_
                 | refine Val.mk _ (Int.tmod_eq_emod_of_nonneg (by omega)) ?_
                 | refine Val.mk _ (Int.tdiv_eq_ediv_of_nonneg (by omega)) ?_
                 | refine Mm.mk ?_
                 | (refine Br.mk (fun h => ?_) (fun h => ?_) <;> first | (exfalso; omega; done) | (exfalso; simp at h; done) | skip))
        repeat refine Mm.mk ?_
        conv => whnf
        refine EndVC.mk _ rfl _ _ (DRs.ok e (hx e)) ?_
        refine ⟨[some 0, none, none, none, some 7, some 8, some 9], rfl, rfl, ?_, ?_⟩ <;> repeat' (first | exact trivial | exact rfl | exact Iff.rfl | apply And.intro)
      · repeat' (conv => whnf
                 first
                 | refine Rng.ok (by simp only [inR]; omega) ?_
                 | refine Ob.mk (by first | omega | (simp; done) | decide | (simp; omega)) ?_
                 | refine Ob.mk (show eqOK _ _ = true from by kernel_rfl) ?_
                 | refine Ob.mk (show keyOK _ _ _ = true from by kernel_rfl) ?_
                 | refine Val.mk _ (shr_val (by simp; rfl)) ?_
                 | refine Ob.mk (Nat.le_of_ble_eq_true rfl) ?_
                 | refine JoinVC.on ?_
                 | refine Nils.mk (fun h => ?_) ?_
                 | refine Val.mk _ (Int.tmod_eq_emod_of_nonneg (by omega)) ?_
                 | refine Val.mk _ (Int.tdiv_eq_ediv_of_nonneg (by omega)) ?_
                 | refine Mm.mk ?_
                 | (refine Br.mk (fun h => ?_) (fun h => ?_) <;> first | (exfalso; omega; done) | (exfalso; simp at h; done) | skip))
        repeat refine Mm.mk ?_
        conv => whnf
        refine EndVC.mk _ rfl _ _ (DRs.err e) ?_
        refine ⟨[some 0, some 1, some 2, some 3], rfl, rfl, ?_, ?_⟩ <;> repeat' (first | exact trivial | exact rfl | exact Iff.rfl | apply And.intro)
    · by_cases e : errD m p L 3 a b = 0
      · repeat' (conv => whnf
                 first
                 | refine Rng.ok (by simp only [inR]; omega) ?_
                 | refine Ob.mk (by first | omega | (simp; done) | decide | (simp; omega)) ?_
                 | refine Ob.mk (show eqOK _ _ = true from by kernel_rfl) ?_
                 | refine Ob.mk (show keyOK _ _ _ = true from by kernel_rfl) ?_
                 | refine Val.mk _ (shr_val (by simp; rfl)) ?_
                 | refine Ob.mk (Nat.le_of_ble_eq_true rfl) ?_
                 | refine JoinVC.on ?_
                 | refine Nils.mk (fun h => ?_) ?_
                 | refine Val.mk _ (Int.tmod_eq_emod_of_nonneg (by omega)) ?_
                 | refine Val.mk _ (Int.tdiv_eq_ediv_of_nonneg (by omega)) ?_
                 | refine Mm.mk ?_
                 | (refine Br.mk (fun h => ?_) (fun h => ?_) <;> first | (exfalso; omega; done) | (exfalso; simp at h; done) | skip))
        repeat refine Mm.mk ?_
        conv => whnf
        refine EndVC.mk _ rfl _ _ (DRs.ok e (hx e)) ?_
        refine ⟨[some 0, none, none, none, some 7, some 10, some 9], rfl, rfl, ?_, ?_⟩ <;> repeat' (first | exact trivial | exact rfl | exact Iff.rfl | apply And.intro)
      · repeat' (conv => whnf
                 first
                 | refine Rng.ok (by simp only [inR]; omega) ?_
                 | refine Ob.mk (by first | omega | (simp; done) | decide | (simp; omega)) ?_
                 | refine Ob.mk (show eqOK _ _ = true from by kernel_rfl) ?_
                 | refine Ob.mk (show keyOK _ _ _ = true from by kernel_rfl) ?_
                 | refine Val.mk _ (shr_val (by simp; rfl)) ?_
                 | refine Ob.mk (Nat.le_of_ble_eq_true rfl) ?_
                 | refine JoinVC.on ?_
                 | refine Nils.mk (fun h => ?_) ?_
                 | refine Val.mk _ (Int.tmod_eq_emod_of_nonneg (by omega)) ?_
                 | refine Val.mk _ (Int.tdiv_eq_ediv_of_nonneg (by omega)) ?_
                 | refine Mm.mk ?_
                 | (refine Br.mk (fun h => ?_) (fun h => ?_) <;> first | (exfalso; omega; done) | (exfalso; simp at h; done) | skip))
        repeat refine Mm.mk ?_
        conv => whnf
        refine EndVC.mk _ rfl _ _ (DRs.err e) ?_
        refine ⟨[some 0, some 1, some 2, some 3], rfl, rfl, ?_, ?_⟩ <;> repeat' (first | exact trivial | exact rfl | exact Iff.rfl | apply And.intro)
  · refine spec_of pMix (O := [(7, ([10], [⟨0, [], []⟩, ⟨1, [], []⟩, ⟨2, [], []⟩, ⟨3, [], []⟩, ⟨4, [], []⟩, ⟨5, [], []⟩, ⟨6, [], []⟩, ⟨7, [], []⟩, ⟨8, [], []⟩, ⟨9, [], []⟩, ⟨10, [], []⟩, ⟨11, [9], []⟩, ⟨12, [], []⟩]))]) Try.func41 (c := bodyOf Try.f41) rfl (by kernel_rfl) (by kernel_rfl) Try.ntmps41 (res := [.cell 4 70, .tmp 5]) (by kernel_rfl) ?_
    repeat' (conv => whnf
             first
             | refine Rng.ok (by simp only [inR]; omega) ?_
             | refine Ob.mk (by first | omega | (simp; done) | decide | (simp; omega)) ?_
             | refine Ob.mk (show eqOK _ _ = true from by kernel_rfl) ?_
             | refine Ob.mk (show keyOK _ _ _ = true from by kernel_rfl) ?_
             | refine Val.mk _ (shr_val (by simp; rfl)) ?_
             | refine Ob.mk (Nat.le_of_ble_eq_true rfl) ?_
             | refine JoinVC.on ?_
             | refine Nils.mk (fun h => ?_) ?_
             | refine Val.mk _ (Int.tmod_eq_emod_of_nonneg (by omega)) ?_
             | refine Val.mk _ (Int.tdiv_eq_ediv_of_nonneg (by omega)) ?_
             | refine Mm.mk ?_
             | (refine Br.mk (fun h => ?_) (fun h => ?_) <;> first | (exfalso; omega; done) | (exfalso; simp at h; done) | skip))
    conv => whnf
    refine CallVC.mk [1, 2, 3] _ _ _ rfl rfl rfl (s86 m p L l hI.len) (fun r m' h' => ?_)
    obtain ⟨rfl, rfl⟩ := h'
    conv => whnf
    repeat' (conv => whnf
             first
             | refine Rng.ok (by simp only [inR]; omega) ?_
             | refine Ob.mk (by first | omega | (simp; done) | decide | (simp; omega)) ?_
             | refine Ob.mk (show eqOK _ _ = true from by kernel_rfl) ?_
             | refine Ob.mk (show keyOK _ _ _ = true from by kernel_rfl) ?_
             | refine Val.mk _ (shr_val (by simp; rfl)) ?_
             | refine Ob.mk (Nat.le_of_ble_eq_true rfl) ?_
             | refine JoinVC.on ?_
             | refine Nils.mk (fun h => ?_) ?_
             | refine Val.mk _ (Int.tmod_eq_emod_of_nonneg (by omega)) ?_
             | refine Val.mk _ (Int.tdiv_eq_ediv_of_nonneg (by omega)) ?_
             | refine Mm.mk ?_
             | (refine Br.mk (fun h => ?_) (fun h => ?_) <;> first | (exfalso; omega; done) | (exfalso; simp at h; done) | skip))
    conv => whnf
    refine CallVC.mk [7, 8, 9] _ _ _ rfl rfl rfl (s83 m p L l hl 4 a b) (fun r m' h' => ?_)
    obtain ⟨p', L', l', d, rfl, rfl | rfl, hx⟩ := h'
    · by_cases e : errD m p L 4 a b = 0
      · repeat' (conv => whnf
                 first
                 | refine Rng.ok (by simp only [inR]; omega) ?_
                 | refine Ob.mk (by first | omega | (simp; done) | decide | (simp; omega)) ?_
                 | refine Ob.mk (show eqOK _ _ = true from by kernel_rfl) ?_
                 | refine Ob.mk (show keyOK _ _ _ = true from by kernel_rfl) ?_
                 | refine Val.mk _ (shr_val (by simp; rfl)) ?_
                 | refine Ob.mk (Nat.le_of_ble_eq_true rfl) ?_
                 | refine JoinVC.on ?_
                 | refine Nils.mk (fun h => ?_) ?_
                 | refine Val.mk _ (Int.tmod_eq_emod_of_nonneg (by omega)) ?_
                 | refine Val.mk _ (Int.tdiv_eq_ediv_of_nonneg (by omega)) ?_
                 | refine Mm.mk ?_
                 | (refine Br.mk (fun h => ?_) (fun h => ?_) <;> first | (exfalso; omega; done) | (exfalso; simp at h; done) | skip))
        repeat refine Mm.mk ?_
        conv => whnf
        refine EndVC.mk _ rfl _ _ (DRs.ok e (hx e)) ?_
        refine ⟨[some 0, none, none, none, some 7, some 8, some 9], rfl, rfl, ?_, ?_⟩ <;> repeat' (first | exact trivial | exact rfl | exact Iff.rfl | apply And.intro)
      · repeat' (conv => whnf
                 first
                 | refine Rng.ok (by simp only [inR]; omega) ?_
                 | refine Ob.mk (by first | omega | (simp; done) | decide | (simp; omega)) ?_
                 | refine Ob.mk (show eqOK _ _ = true from by kernel_rfl) ?_
                 | refine Ob.mk (show keyOK _ _ _ = true from by kernel_rfl) ?_
                 | refine Val.mk _ (shr_val (by simp; rfl)) ?_
                 | refine Ob.mk (Nat.le_of_ble_eq_true rfl) ?_
                 | refine JoinVC.on ?_
                 | refine Nils.mk (fun h => ?_) ?_
                 | refine Val.mk _ (Int.tmod_eq_emod_of_nonneg (by omega)) ?_
                 | refine Val.mk _ (Int.tdiv_eq_ediv_of_nonneg (by omega)) ?_
                 | refine Mm.mk ?_
                 | (refine Br.mk (fun h => ?_) (fun h => ?_) <;> first | (exfalso; omega; done) | (exfalso; simp at h; done) | skip))
        repeat refine Mm.mk ?_
        conv => whnf
        refine EndVC.mk _ rfl _ _ (DRs.err e) ?_
        refine ⟨[some 0, some 1, some 2, some 3], rfl, rfl, ?_, ?_⟩ <;> repeat' (first | exact trivial | exact rfl | exact Iff.rfl | apply And.intro)
    · by_cases e : errD m p L 4 a b = 0
      · repeat' (conv => whnf
                 first
                 | refine Rng.ok (by simp only [inR]; omega) ?_
                 | refine Ob.mk (by first | omega | (simp; done) | decide | (simp; omega)) ?_
                 | refine Ob.mk (show eqOK _ _ = true from by kernel_rfl) ?_
                 | refine Ob.mk (show keyOK _ _ _ = true from by kernel_rfl) ?_
                 | refine Val.mk _ (shr_val (by simp; rfl)) ?_
                 | refine Ob.mk (Nat.le_of_ble_eq_true rfl) ?_
                 | refine JoinVC.on ?_
                 | refine Nils.mk (fun h => ?_) ?_
                 | refine Val.mk _ (Int.tmod_eq_emod_of_nonneg (by omega)) ?_
                 | refine Val.mk _ (Int.tdiv_eq_ediv_of_nonneg (by omega)) ?_
                 | refine Mm.mk ?_
                 | (refine Br.mk (fun h => ?_) (fun h => ?_) <;> first | (exfalso; omega; done) | (exfalso; simp at h; done) | skip))
        repeat refine Mm.mk ?_
        conv => whnf
        refine EndVC.mk _ rfl _ _ (DRs.ok e (hx e)) ?_
        refine ⟨[some 0, none, none, none, some 7, some 10, some 9], rfl, rfl, ?_, ?_⟩ <;> repeat' (first | exact trivial | exact rfl | exact Iff.rfl | apply And.intro)
      · repeat' (conv => whnf
                 first
                 | refine Rng.ok (by simp only [inR]; omega) ?_
                 | refine Ob.mk (by first | omega | (simp; done) | decide | (simp; omega)) ?_
                 | refine Ob.mk (show eqOK _ _ = true from by kernel_rfl) ?_
                 | refine Ob.mk (show keyOK _ _ _ = true from by kernel_rfl) ?_
                 | refine Val.mk _ (shr_val (by simp; rfl)) ?_
                 | refine Ob.mk (Nat.le_of_ble_eq_true rfl) ?_
                 | refine JoinVC.on ?_
                 | refine Nils.mk (fun h => ?_) ?_
                 | refine Val.mk _ (Int.tmod_eq_emod_of_nonneg (by omega)) ?_
                 | refine Val.mk _ (Int.tdiv_eq_ediv_of_nonneg (by omega)) ?_
                 | refine Mm.mk ?_
                 | (refine Br.mk (fun h => ?_) (fun h => ?_) <;> first | (exfalso; omega; done) | (exfalso; simp at h; done) | skip))
        repeat refine Mm.mk ?_
        conv => whnf
        refine EndVC.mk _ rfl _ _ (DRs.err e) ?_
        refine ⟨[some 0, some 1, some 2, some 3], rfl, rfl, ?_, ?_⟩ <;> repeat' (first | exact trivial | exact rfl | exact Iff.rfl | apply And.intro)
  · refine spec_of pMix (O := [(7, ([10], [⟨0, [], []⟩, ⟨1, [], []⟩, ⟨2, [], []⟩, ⟨3, [], []⟩, ⟨4, [], []⟩, ⟨5, [], []⟩, ⟨6, [], []⟩, ⟨7, [], []⟩, ⟨8, [], []⟩, ⟨9, [], []⟩, ⟨10, [], []⟩, ⟨11, [9], []⟩, ⟨12, [], []⟩]))]) Try.func41 (c := bodyOf Try.f41) rfl (by kernel_rfl) (by kernel_rfl) Try.ntmps41 (res := [.cell 4 70, .tmp 5]) (by kernel_rfl) ?_
    repeat' (conv => whnf
             first
             | refine Rng.ok (by simp only [inR]; omega) ?_
             | refine Ob.mk (by first | omega | (simp; done) | decide | (simp; omega)) ?_
             | refine Ob.mk (show eqOK _ _ = true from by kernel_rfl) ?_
             | refine Ob.mk (show keyOK _ _ _ = true from by kernel_rfl) ?_
             | refine Val.mk _ (shr_val (by simp; rfl)) ?_
             | refine Ob.mk (Nat.le_of_ble_eq_true rfl) ?_
             | refine JoinVC.on ?_
             | refine Nils.mk (fun h => ?_) ?_
             | refine Val.mk _ (Int.tmod_eq_emod_of_nonneg (by omega)) ?_
             | refine Val.mk _ (Int.tdiv_eq_ediv_of_nonneg (by omega)) ?_
             | refine Mm.mk ?_
             | (refine Br.mk (fun h => ?_) (fun h => ?_) <;> first | (exfalso; omega; done) | (exfalso; simp at h; done) | skip))
    conv => whnf
    refine CallVC.mk [1, 2, 3] _ _ _ rfl rfl rfl (s86 m p L l hI.len) (fun r m' h' => ?_)
    obtain ⟨rfl, rfl⟩ := h'
    conv => whnf
    repeat' (conv => whnf
             first
             | refine Rng.ok (by simp only [inR]; omega) ?_
             | refine Ob.mk (by first | omega | (simp; done) | decide | (simp; omega)) ?_
             | refine Ob.mk (show eqOK _ _ = true from by kernel_rfl) ?_
             | refine Ob.mk (show keyOK _ _ _ = true from by kernel_rfl) ?_
             | refine Val.mk _ (shr_val (by simp; rfl)) ?_
             | refine Ob.mk (Nat.le_of_ble_eq_true rfl) ?_
             | refine JoinVC.on ?_
             | refine Nils.mk (fun h => ?_) ?_
             | refine Val.mk _ (Int.tmod_eq_emod_of_nonneg (by omega)) ?_
             | refine Val.mk _ (Int.tdiv_eq_ediv_of_nonneg (by omega)) ?_
             | refine Mm.mk ?_
             | (refine Br.mk (fun h => ?_) (fun h => ?_) <;> first | (exfalso; omega; done) | (exfalso; simp at h; done) | skip))
    conv => whnf
    refine CallVC.mk [7, 8, 9] _ _ _ rfl rfl rfl (s84 m p L l hl 5 a b hI.ok hI.t ⟨hI.h.1, by have := hI.h; have := hI.tm; omega⟩ hI.tm) (fun r m' h' => ?_)
    obtain ⟨p', L', l', d, rfl, rfl | rfl, hx⟩ := h'
    · by_cases e : errD m p L 5 a b = 0
      · repeat' (conv => whnf
                 first
                 | refine Rng.ok (by simp only [inR]; omega) ?_
                 | refine Ob.mk (by first | omega | (simp; done) | decide | (simp; omega)) ?_
                 | refine Ob.mk (show eqOK _ _ = true from by kernel_rfl) ?_
                 | refine Ob.mk (show keyOK _ _ _ = true from by kernel_rfl) ?_
                 | refine Val.mk _ (shr_val (by simp; rfl)) ?_
                 | refine Ob.mk (Nat.le_of_ble_eq_true rfl) ?_
                 | refine JoinVC.on ?_
                 | refine Nils.mk (fun h => ?_) ?_
                 | refine Val.mk _ (Int.tmod_eq_emod_of_nonneg (by omega)) ?_
                 | refine Val.mk _ (Int.tdiv_eq_ediv_of_nonneg (by omega)) ?_
                 | refine Mm.mk ?_
                 | (refine Br.mk (fun h => ?_) (fun h => ?_) <;> first | (exfalso; omega; done) | (exfalso; simp at h; done) | skip))
        repeat refine Mm.mk ?_
        conv => whnf
        refine EndVC.mk _ rfl _ _ (DRs.ok e (hx e)) ?_
        refine ⟨[some 0, none, none, none, some 7, some 8, some 9], rfl, rfl, ?_, ?_⟩ <;> repeat' (first | exact trivial | exact rfl | exact Iff.rfl | apply And.intro)
      · repeat' (conv => whnf
                 first
                 | refine Rng.ok (by simp only [inR]; omega) ?_
                 | refine Ob.mk (by first | omega | (simp; done) | decide | (simp; omega)) ?_
                 | refine Ob.mk (show eqOK _ _ = true from by kernel_rfl) ?_
                 | refine Ob.mk (show keyOK _ _ _ = true from by kernel_rfl) ?_
                 | refine Val.mk _ (shr_val (by simp; rfl)) ?_
                 | refine Ob.mk (Nat.le_of_ble_eq_true rfl) ?_
                 | refine JoinVC.on ?_
                 | refine Nils.mk (fun h => ?_) ?_
                 | refine Val.mk _ (Int.tmod_eq_emod_of_nonneg (by omega)) ?_
                 | refine Val.mk _ (Int.tdiv_eq_ediv_of_nonneg (by omega)) ?_
                 | refine Mm.mk ?_
                 | (refine Br.mk (fun h => ?_) (fun h => ?_) <;> first | (exfalso; omega; done) | (exfalso; simp at h; done) | skip))
        repeat refine Mm.mk ?_
        conv => whnf
        refine EndVC.mk _ rfl _ _ (DRs.err e) ?_
        refine ⟨[some 0, some 1, some 2, some 3], rfl, rfl, ?_, ?_⟩ <;> repeat' (first | exact trivial | exact rfl | exact Iff.rfl | apply And.intro)
    · by_cases e : errD m p L 5 a b = 0
      · repeat' (conv => whnf
                 first
                 | refine Rng.ok (by simp only [inR]; omega) ?_
                 | refine Ob.mk (by first | omega | (simp; done) | decide | (simp; omega)) ?_
                 | refine Ob.mk (show eqOK _ _ = true from by kernel_rfl) ?_
                 | refine Ob.mk (show keyOK _ _ _ = true from by kernel_rfl) ?_
                 | refine Val.mk _ (shr_val (by simp; rfl)) ?_
                 | refine Ob.mk (Nat.le_of_ble_eq_true rfl) ?_
                 | refine JoinVC.on ?_
                 | refine Nils.mk (fun h => ?_) ?_
                 | refine Val.mk _ (Int.tmod_eq_emod_of_nonneg (by omega)) ?_
                 | refine Val.mk _ (Int.tdiv_eq_ediv_of_nonneg (by omega)) ?_
                 | refine Mm.mk ?_
                 | (refine Br.mk (fun h => ?_) (fun h => ?_) <;> first | (exfalso; omega; done) | (exfalso; simp at h; done) | skip))
        repeat refine Mm.mk ?_
        conv => whnf
        refine EndVC.mk _ rfl _ _ (DRs.ok e (hx e)) ?_
        refine ⟨[some 0, none, none, none, some 7, some 10, some 9], rfl, rfl, ?_, ?_⟩ <;> repeat' (first | exact trivial | exact rfl | exact Iff.rfl | apply And.intro)
      · repeat' (conv => whnf
                 first
                 | refine Rng.ok (by simp only [inR]; omega) ?_
                 | refine Ob.mk (by first | omega | (simp; done) | decide | (simp; omega)) ?_
                 | refine Ob.mk (show eqOK _ _ = true from by kernel_rfl) ?_
                 | refine Ob.mk (show keyOK _ _ _ = true from by kernel_rfl) ?_
                 | refine Val.mk _ (shr_val (by simp; rfl)) ?_
                 | refine Ob.mk (Nat.le_of_ble_eq_true rfl) ?_
                 | refine JoinVC.on ?_
                 | refine Nils.mk (fun h => ?_) ?_
                 | refine Val.mk _ (Int.tmod_eq_emod_of_nonneg (by omega)) ?_
                 | refine Val.mk _ (Int.tdiv_eq_ediv_of_nonneg (by omega)) ?_
                 | refine Mm.mk ?_
                 | (refine Br.mk (fun h => ?_) (fun h => ?_) <;> first | (exfalso; omega; done) | (exfalso; simp at h; done) | skip))
        repeat refine Mm.mk ?_
        conv => whnf
        refine EndVC.mk _ rfl _ _ (DRs.err e) ?_
        refine ⟨[some 0, some 1, some 2, some 3], rfl, rfl, ?_, ?_⟩ <;> repeat' (first | exact trivial | exact rfl | exact Iff.rfl | apply And.intro)
  · refine spec_of pMix (O := [(7, ([10], [⟨0, [], []⟩, ⟨1, [], []⟩, ⟨2, [], []⟩, ⟨3, [], []⟩, ⟨4, [], []⟩, ⟨5, [], []⟩, ⟨6, [], []⟩, ⟨7, [], []⟩, ⟨8, [], []⟩, ⟨9, [], []⟩, ⟨10, [], []⟩, ⟨11, [9], []⟩, ⟨12, [], []⟩]))]) Try.func41 (c := bodyOf Try.f41) rfl (by kernel_rfl) (by kernel_rfl) Try.ntmps41 (res := [.cell 4 70, .tmp 5]) (by kernel_rfl) ?_
    repeat' (conv => whnf
             first
             | refine Rng.ok (by simp only [inR]; omega) ?_
             | refine Ob.mk (by first | omega | (simp; done) | decide | (simp; omega)) ?_
             | refine Ob.mk (show eqOK _ _ = true from by kernel_rfl) ?_
             | refine Ob.mk (show keyOK _ _ _ = true from by kernel_rfl) ?_
             | refine Val.mk _ (shr_val (by simp; rfl)) ?_
             | refine Ob.mk (Nat.le_of_ble_eq_true rfl) ?_
             | refine JoinVC.on ?_
             | refine Nils.mk (fun h => ?_) ?_
             | refine Val.mk _ (Int.tmod_eq_emod_of_nonneg (by omega)) ?_
             | refine Val.mk _ (Int.tdiv_eq_ediv_of_nonneg (by omega)) ?_
             | refine Mm.mk ?_
             | (refine Br.mk (fun h => ?_) (fun h => ?_) <;> first | (exfalso; omega; done) | (exfalso; simp at h; done) | skip))
    conv => whnf
    refine CallVC.mk [1, 2, 3] _ _ _ rfl rfl rfl (s86 m p L l hI.len) (fun r m' h' => ?_)
    obtain ⟨rfl, rfl⟩ := h'
    conv => whnf
    repeat' (conv => whnf
             first
             | refine Rng.ok (by simp only [inR]; omega) ?_
             | refine Ob.mk (by first | omega | (simp; done) | decide | (simp; omega)) ?_
             | refine Ob.mk (show eqOK _ _ = true from by kernel_rfl) ?_
             | refine Ob.mk (show keyOK _ _ _ = true from by kernel_rfl) ?_
             | refine Val.mk _ (shr_val (by simp; rfl)) ?_
             | refine Ob.mk (Nat.le_of_ble_eq_true rfl) ?_
             | refine JoinVC.on ?_
             | refine Nils.mk (fun h => ?_) ?_
             | refine Val.mk _ (Int.tmod_eq_emod_of_nonneg (by omega)) ?_
             | refine Val.mk _ (Int.tdiv_eq_ediv_of_nonneg (by omega)) ?_
             | refine Mm.mk ?_
             | (refine Br.mk (fun h => ?_) (fun h => ?_) <;> first | (exfalso; omega; done) | (exfalso; simp at h; done) | skip))
    conv => whnf
    refine CallVC.mk [7, 8, 9] _ _ _ rfl rfl rfl (s85 m p L l hl 6 a b a b hI) (fun r m' h' => ?_)
    obtain ⟨p', L', l', d, rfl, rfl | rfl, hx⟩ := h'
    · by_cases e : errD m p L 6 a b = 0
      · repeat' (conv => whnf
                 first
                 | refine Rng.ok (by simp only [inR]; omega) ?_
                 | refine Ob.mk (by first | omega | (simp; done) | decide | (simp; omega)) ?_
                 | refine Ob.mk (show eqOK _ _ = true from by kernel_rfl) ?_
                 | refine Ob.mk (show keyOK _ _ _ = true from by kernel_rfl) ?_
                 | refine Val.mk _ (shr_val (by simp; rfl)) ?_
                 | refine Ob.mk (Nat.le_of_ble_eq_true rfl) ?_
                 | refine JoinVC.on ?_
                 | refine Nils.mk (fun h => ?_) ?_
                 | refine Val.mk _ (Int.tmod_eq_emod_of_nonneg (by omega)) ?_
                 | refine Val.mk _ (Int.tdiv_eq_ediv_of_nonneg (by omega)) ?_
                 | refine Mm.mk ?_
                 | (refine Br.mk (fun h => ?_) (fun h => ?_) <;> first | (exfalso; omega; done) | (exfalso; simp at h; done) | skip))
        repeat refine Mm.mk ?_
        conv => whnf
        refine EndVC.mk _ rfl _ _ (DRs.ok e (hx e)) ?_
        refine ⟨[some 0, none, none, none, some 7, some 8, some 9], rfl, rfl, ?_, ?_⟩ <;> repeat' (first | exact trivial | exact rfl | exact Iff.rfl | apply And.intro)
      · repeat' (conv => whnf
                 first
                 | refine Rng.ok (by simp only [inR]; omega) ?_
                 | refine Ob.mk (by first | omega | (simp; done) | decide | (simp; omega)) ?_
                 | refine Ob.mk (show eqOK _ _ = true from by kernel_rfl) ?_
                 | refine Ob.mk (show keyOK _ _ _ = true from by kernel_rfl) ?_
                 | refine Val.mk _ (shr_val (by simp; rfl)) ?_
                 | refine Ob.mk (Nat.le_of_ble_eq_true rfl) ?_
                 | refine JoinVC.on ?_
                 | refine Nils.mk (fun h => ?_) ?_
                 | refine Val.mk _ (Int.tmod_eq_emod_of_nonneg (by omega)) ?_
                 | refine Val.mk _ (Int.tdiv_eq_ediv_of_nonneg (by omega)) ?_
                 | refine Mm.mk ?_
                 | (refine Br.mk (fun h => ?_) (fun h => ?_) <;> first | (exfalso; omega; done) | (exfalso; simp at h; done) | skip))
        repeat refine Mm.mk ?_
        conv => whnf
        refine EndVC.mk _ rfl _ _ (DRs.err e) ?_
        refine ⟨[some 0, some 1, some 2, some 3], rfl, rfl, ?_, ?_⟩ <;> repeat' (first | exact trivial | exact rfl | exact Iff.rfl | apply And.intro)
    · by_cases e : errD m p L 6 a b = 0
      · repeat' (conv => whnf
                 first
                 | refine Rng.ok (by simp only [inR]; omega) ?_
                 | refine Ob.mk (by first | omega | (simp; done) | decide | (simp; omega)) ?_
                 | refine Ob.mk (show eqOK _ _ = true from by kernel_rfl) ?_
                 | refine Ob.mk (show keyOK _ _ _ = true from by kernel_rfl) ?_
                 | refine Val.mk _ (shr_val (by simp; rfl)) ?_
                 | refine Ob.mk (Nat.le_of_ble_eq_true rfl) ?_
                 | refine JoinVC.on ?_
                 | refine Nils.mk (fun h => ?_) ?_
                 | refine Val.mk _ (Int.tmod_eq_emod_of_nonneg (by omega)) ?_
                 | refine Val.mk _ (Int.tdiv_eq_ediv_of_nonneg (by omega)) ?_
                 | refine Mm.mk ?_
                 | (refine Br.mk (fun h => ?_) (fun h => ?_) <;> first | (exfalso; omega; done) | (exfalso; simp at h; done) | skip))
        repeat refine Mm.mk ?_
        conv => whnf
        refine EndVC.mk _ rfl _ _ (DRs.ok e (hx e)) ?_
        refine ⟨[some 0, none, none, none, some 7, some 10, some 9], rfl, rfl, ?_, ?_⟩ <;> repeat' (first | exact trivial | exact rfl | exact Iff.rfl | apply And.intro)
      · repeat' (conv => whnf
                 first
                 | refine Rng.ok (by simp only [inR]; omega) ?_
                 | refine Ob.mk (by first | omega | (simp; done) | decide | (simp; omega)) ?_
                 | refine Ob.mk (show eqOK _ _ = true from by kernel_rfl) ?_
                 | refine Ob.mk (show keyOK _ _ _ = true from by kernel_rfl) ?_
                 | refine Val.mk _ (shr_val (by simp; rfl)) ?_
                 | refine Ob.mk (Nat.le_of_ble_eq_true rfl) ?_
                 | refine JoinVC.on ?_
                 | refine Nils.mk (fun h => ?_) ?_
                 | refine Val.mk _ (Int.tmod_eq_emod_of_nonneg (by omega)) ?_
                 | refine Val.mk _ (Int.tdiv_eq_ediv_of_nonneg (by omega)) ?_
                 | refine Mm.mk ?_
                 | (refine Br.mk (fun h => ?_) (fun h => ?_) <;> first | (exfalso; omega; done) | (exfalso; simp at h; done) | skip))
        repeat refine Mm.mk ?_
        conv => whnf
        refine EndVC.mk _ rfl _ _ (DRs.err e) ?_
        refine ⟨[some 0, some 1, some 2, some 3], rfl, rfl, ?_, ?_⟩ <;> repeat' (first | exact trivial | exact rfl | exact Iff.rfl | apply And.intro)
theorem s39 (m : Mac) : HSpec Try.prog 39 [m.x] [] (fun r m' => (¬ m.ok ∧ r = .tup [.one .nilp, I 2] ∧ m' = []) ∨ (m.ok ∧ r = .tup [.one (.ptr 0 0), I 0] ∧ m' = [some (bP 1), some (bW 2 3 m ⟨false, false, 0, m.room, 0, 0, 0, 0, 0⟩), some (dRow []), some (mpU [])])) := by
  by_cases hm : m.ok
  · have hc := Mac.chk0 hm
    refine spec_of pMix (O := []) Try.func39 (c := bodyOf Try.f39) rfl (by kernel_rfl) (by kernel_rfl) Try.ntmps39 (res := [.tmp 2, .tmp 3]) (by kernel_rfl) ?_
    repeat' (conv => whnf
             first
             | refine Rng.ok (by simp only [inR]; omega) ?_
             | refine Ob.mk (by first | omega | (simp; done) | decide | (simp; omega)) ?_
             | refine Ob.mk (show eqOK _ _ = true from by kernel_rfl) ?_
             | refine Ob.mk (show keyOK _ _ _ = true from by kernel_rfl) ?_
             | refine Val.mk _ (shr_val (by simp; rfl)) ?_
             | refine Ob.mk (Nat.le_of_ble_eq_true rfl) ?_
             | refine JoinVC.on ?_
             | refine Nils.mk (fun h => ?_) ?_
             | refine Val.mk _ (Int.tmod_eq_emod_of_nonneg (by omega)) ?_
             | refine Val.mk _ (Int.tdiv_eq_ediv_of_nonneg (by omega)) ?_
             | refine Mm.mk ?_
             | refine CallVC.pure rfl (s20 m) ?_
             | refine CallVC0.pure rfl (s20 m) ?_
             | (refine Br.mk (fun h => ?_) (fun h => ?_) <;> first | (exfalso; omega; done) | (exfalso; simp at h; done) | skip))
    repeat refine Mm.mk ?_
    conv => whnf
    refine EndVC.mk _ rfl _ _ (.inr ⟨hm, rfl, rfl⟩) ?_
    refine ⟨[some 3, some 2, none, some 1], rfl, rfl, ?_, ?_⟩ <;> repeat' (first | exact trivial | exact rfl | exact Iff.rfl | apply And.intro)
  · have hc := Mac.chk2 hm
    refine spec_of pMix (O := []) Try.func39 (c := bodyOf Try.f39) rfl (by kernel_rfl) (by kernel_rfl) Try.ntmps39 (res := [.tmp 2, .tmp 3]) (by kernel_rfl) ?_
    repeat' (conv => whnf
             first
             | refine Rng.ok (by simp only [inR]; omega) ?_
             | refine Ob.mk (by first | omega | (simp; done) | decide | (simp; omega)) ?_
             | refine Ob.mk (show eqOK _ _ = true from by kernel_rfl) ?_
             | refine Ob.mk (show keyOK _ _ _ = true from by kernel_rfl) ?_
             | refine Val.mk _ (shr_val (by simp; rfl)) ?_
             | refine Ob.mk (Nat.le_of_ble_eq_true rfl) ?_
             | refine JoinVC.on ?_
             | refine Nils.mk (fun h => ?_) ?_
             | refine Val.mk _ (Int.tmod_eq_emod_of_nonneg (by omega)) ?_
             | refine Val.mk _ (Int.tdiv_eq_ediv_of_nonneg (by omega)) ?_
             | refine Mm.mk ?_
             | refine CallVC.pure rfl (s20 m) ?_
             | refine CallVC0.pure rfl (s20 m) ?_
             | (refine Br.mk (fun h => ?_) (fun h => ?_) <;> first | (exfalso; omega; done) | (exfalso; simp at h; done) | skip))
    repeat refine Mm.mk ?_
    conv => whnf
    refine EndVC.mk _ rfl _ _ (.inl ⟨hm, rfl, rfl⟩) ?_
    refine ⟨[], rfl, rfl, ?_, ?_⟩ <;> repeat' (first | exact trivial | exact rfl | exact Iff.rfl | apply And.intro)
    exact hc
end Go.Sx

namespace Go.Sx
open Go Go.Proofs
set_option maxRecDepth 10000
set_option maxHeartbeats 1000000
@[reducible] def Pst.x (p : Pst) : XV := .agg [.bool p.cl, .bool p.ld, .int .i64 p.v, .int .i64 p.t, .int .i64 p.h, .int .i64 p.pk, .int .i64 p.tm, .int .i64 p.a, .int .i64 p.b]
@[reducible] def mP (m : Mac) (p : Pst) (L : List Disc) (l : MapL) : List Blk := [bP 1, bW 2 3 m p, dRow L, mpU l]
theorem s42 (m : Mac) (p : Pst) (L : List Disc) (l : MapL) : HSpec Try.prog 42 [.one (.ptr 0 0)] (mP m p L l) (fun r m' => r = .tup [p.x, I 0] ∧ m' = [some (bP 1), some (bW 2 3 m p), some (dRow L), some (mpU l)]) := by
  refine spec_of pMix (O := []) Try.func42 (c := bodyOf Try.f42) rfl (by kernel_rfl) (by kernel_rfl) Try.ntmps42 (res := [.cell 2 78, .tmp 3]) (by kernel_rfl) ?_
  repeat' (conv => whnf
           first
           | refine Rng.ok (by simp only [inR]; omega) ?_
           | refine Ob.mk (by first | omega | (simp; done) | decide | (simp; omega)) ?_
           | refine Ob.mk (show eqOK _ _ = true from by kernel_rfl) ?_
           | refine Ob.mk (show keyOK _ _ _ = true from by kernel_rfl) ?_
           | refine Val.mk _ (shr_val (by simp; rfl)) ?_
           | refine Ob.mk (Nat.le_of_ble_eq_true rfl) ?_
           | refine JoinVC.on ?_
           | refine Nils.mk (fun h => ?_) ?_
           | refine Val.mk _ (Int.tmod_eq_emod_of_nonneg (by omega)) ?_
           | refine Val.mk _ (Int.tdiv_eq_ediv_of_nonneg (by omega)) ?_
           | refine Mm.mk ?_
           | (refine Br.mk (fun h => ?_) (fun h => ?_) <;> first | (exfalso; omega; done) | (exfalso; simp at h; done) | skip))
  all_goals
    repeat refine Mm.mk ?_
    refine EndVC.mk _ rfl _ _ ⟨rfl, rfl⟩ ?_
    refine ⟨[some 0, some 1, some 2, some 3], rfl, rfl, ?_, ?_⟩ <;> repeat' (first | exact trivial | exact rfl | exact Iff.rfl | apply And.intro)
theorem s47 (m : Mac) (p : Pst) (L : List Disc) (l : MapL) (hlen : L.length ≤ 1000) : HSpec Try.prog 47 [.one (.ptr 0 0)] (mP m p L l) (fun r m' => r = .x (.one (.own 4)) ∧ m' = [some (bP 1), some (bW 2 3 m p), some (dRow L), some (mpU l), some (dRow L)]) := by
  refine spec_of pMix (O := []) Try.func47 (c := bodyOf Try.f47) rfl (by kernel_rfl) (by kernel_rfl) Try.ntmps47 (res := [.tmp 2]) (by kernel_rfl) ?_
  repeat' (conv => whnf
           first
           | refine Rng.ok (by simp only [inR]; omega) ?_
           | refine Ob.mk (by first | omega | (simp; done) | decide | (simp; omega)) ?_
           | refine Ob.mk (show eqOK _ _ = true from by kernel_rfl) ?_
           | refine Ob.mk (show keyOK _ _ _ = true from by kernel_rfl) ?_
           | refine Val.mk _ (shr_val (by simp; rfl)) ?_
           | refine Ob.mk (Nat.le_of_ble_eq_true rfl) ?_
           | refine JoinVC.on ?_
           | refine Nils.mk (fun h => ?_) ?_
           | refine Val.mk _ (Int.tmod_eq_emod_of_nonneg (by omega)) ?_
           | refine Val.mk _ (Int.tdiv_eq_ediv_of_nonneg (by omega)) ?_
           | refine Mm.mk ?_
           | (refine Br.mk (fun h => ?_) (fun h => ?_) <;> first | (exfalso; omega; done) | (exfalso; simp at h; done) | skip))
  conv => whnf
  refine CallVC.mk [] _ _ _ rfl rfl rfl (s89 L hlen) (fun r m' h' => ?_)
  obtain ⟨rfl, rfl⟩ := h'
  conv => whnf
  repeat' (conv => whnf
           first
           | refine Rng.ok (by simp only [inR]; omega) ?_
           | refine Ob.mk (by first | omega | (simp; done) | decide | (simp; omega)) ?_
           | refine Ob.mk (show eqOK _ _ = true from by kernel_rfl) ?_
           | refine Ob.mk (show keyOK _ _ _ = true from by kernel_rfl) ?_
           | refine Val.mk _ (shr_val (by simp; rfl)) ?_
           | refine Ob.mk (Nat.le_of_ble_eq_true rfl) ?_
           | refine JoinVC.on ?_
           | refine Nils.mk (fun h => ?_) ?_
           | refine Val.mk _ (Int.tmod_eq_emod_of_nonneg (by omega)) ?_
           | refine Val.mk _ (Int.tdiv_eq_ediv_of_nonneg (by omega)) ?_
           | refine Mm.mk ?_
           | (refine Br.mk (fun h => ?_) (fun h => ?_) <;> first | (exfalso; omega; done) | (exfalso; simp at h; done) | skip))
  repeat refine Mm.mk ?_
  refine EndVC.mk _ rfl _ _ ⟨rfl, rfl⟩ ?_
  refine ⟨[some 0, some 1, some 2, some 3, some 4], rfl, rfl, ?_, ?_⟩ <;> repeat' (first | exact trivial | exact rfl | exact Iff.rfl | apply And.intro)
/-- The serial numbers of a stamper's discs. -/
def ofL (L : List Disc) (k : Int) : List Int := (L.filter fun d => decide (d.a = k ∨ d.b = k)).map (·.ser)
theorem ofL_len (L : List Disc) (k : Int) : (ofL L k).length ≤ L.length := by
  unfold ofL; rw [List.length_map]; exact List.length_filter_le ..
theorem discA_get (L : List Disc) (j : Nat) {d : Disc} (h : L[j]? = some d) : rI (discA L) j 0 = d.ser ∧ rI (discA L) j 1 = d.a ∧ rI (discA L) j 2 = d.b ∧ rI (discA L) j 3 = d.tm ∧ rI (discA L) j 4 = d.h ∧ rI (discA L) j 5 = d.pk ∧ rB (discA L) j 6 = d.good := by
  have : (discA L).getD j [] = [.int d.ser, .int d.a, .int d.b, .int d.tm, .int d.h, .int d.pk, .bool d.good] := by simp [discA, List.getD_eq_getElem?_getD, h]
  simp only [rI, rB, cellAt, this]
  exact ⟨rfl, rfl, rfl, rfl, rfl, rfl, rfl⟩
theorem s50 (m : Mac) (p : Pst) (L : List Disc) (l : MapL) (hlen : L.length ≤ 1000) : HSpec Try.prog 50 [.one (.ptr 0 0)] (mP m p L l) (fun r m' => r = .x (.one (.ptr 4 0)) ∧ m' = [some (bP 1), some (bW 2 3 m p), some (dRow L), some (mpU l), some (bP 5), some (bW 6 7 m p), some (dRow L), some (mpU l)]) := by
  refine spec_of pMix (O := []) Try.func50 (c := bodyOf Try.f50) rfl (by kernel_rfl) (by kernel_rfl) Try.ntmps50 (res := [.tmp 2]) (by kernel_rfl) ?_
  repeat' (conv => whnf
           first
           | refine Rng.ok (by simp only [inR]; omega) ?_
           | refine Ob.mk (by first | omega | (simp; done) | decide | (simp; omega)) ?_
           | refine Ob.mk (show eqOK _ _ = true from by kernel_rfl) ?_
           | refine Ob.mk (show keyOK _ _ _ = true from by kernel_rfl) ?_
           | refine Val.mk _ (shr_val (by simp; rfl)) ?_
           | refine Ob.mk (Nat.le_of_ble_eq_true rfl) ?_
           | refine JoinVC.on ?_
           | refine Nils.mk (fun h => ?_) ?_
           | refine Val.mk _ (Int.tmod_eq_emod_of_nonneg (by omega)) ?_
           | refine Val.mk _ (Int.tdiv_eq_ediv_of_nonneg (by omega)) ?_
           | refine Mm.mk ?_
           | (refine Br.mk (fun h => ?_) (fun h => ?_) <;> first | (exfalso; omega; done) | (exfalso; simp at h; done) | skip))
  conv => whnf
  refine CallVC.mk [1, 2, 3] _ _ _ rfl rfl rfl (s86 m p L l hlen) (fun r m' h' => ?_)
  obtain ⟨rfl, rfl⟩ := h'
  conv => whnf
  repeat' (conv => whnf
           first
           | refine Rng.ok (by simp only [inR]; omega) ?_
           | refine Ob.mk (by first | omega | (simp; done) | decide | (simp; omega)) ?_
           | refine Ob.mk (show eqOK _ _ = true from by kernel_rfl) ?_
           | refine Ob.mk (show keyOK _ _ _ = true from by kernel_rfl) ?_
           | refine Val.mk _ (shr_val (by simp; rfl)) ?_
           | refine Ob.mk (Nat.le_of_ble_eq_true rfl) ?_
           | refine JoinVC.on ?_
           | refine Nils.mk (fun h => ?_) ?_
           | refine Val.mk _ (Int.tmod_eq_emod_of_nonneg (by omega)) ?_
           | refine Val.mk _ (Int.tdiv_eq_ediv_of_nonneg (by omega)) ?_
           | refine Mm.mk ?_
           | (refine Br.mk (fun h => ?_) (fun h => ?_) <;> first | (exfalso; omega; done) | (exfalso; simp at h; done) | skip))
  repeat refine Mm.mk ?_
  refine EndVC.mk _ rfl _ _ ⟨rfl, rfl⟩ ?_
  refine ⟨[some 0, some 1, some 2, some 3, some 7, some 4, some 5, some 6], rfl, rfl, ?_, ?_⟩ <;> repeat' (first | exact trivial | exact rfl | exact Iff.rfl | apply And.intro)
theorem s49 (m : Mac) (p : Pst) (L : List Disc) (l : MapL) (hlen : L.length ≤ 1000) (k : Int) : HSpec Try.prog 49 [.one (.ptr 0 0), I k] (mP m p L l) (fun r m' => r = .x (.one (.own 4)) ∧ m' = [some (bP 1), some (bW 2 3 m p), some (dRow L), some (mpU l), some (.row 2 false [.int .i64] (i64s (ofL L k)))]) := by
  refine spec_of pMix (O := []) Try.func49 (c := bodyOf Try.f49) rfl (by kernel_rfl) (by kernel_rfl) Try.ntmps49 (res := [.tmp 4]) (by kernel_rfl) ?_
  repeat' (conv => whnf
           first
           | refine Rng.ok (by simp only [inR]; omega) ?_
           | refine Ob.mk (by first | omega | (simp; done) | decide | (simp; omega)) ?_
           | refine Ob.mk (show eqOK _ _ = true from by kernel_rfl) ?_
           | refine Ob.mk (show keyOK _ _ _ = true from by kernel_rfl) ?_
           | refine Val.mk _ (shr_val (by simp; rfl)) ?_
           | refine Ob.mk (Nat.le_of_ble_eq_true rfl) ?_
           | refine JoinVC.on ?_
           | refine Nils.mk (fun h => ?_) ?_
           | refine Val.mk _ (Int.tmod_eq_emod_of_nonneg (by omega)) ?_
           | refine Val.mk _ (Int.tdiv_eq_ediv_of_nonneg (by omega)) ?_
           | refine Mm.mk ?_
           | (refine Br.mk (fun h => ?_) (fun h => ?_) <;> first | (exfalso; omega; done) | (exfalso; simp at h; done) | skip))
  conv => whnf
  refine CallVC.mk [0, 1, 2, 3] _ _ _ rfl rfl rfl (s47 m p L l hlen) (fun r m' h' => ?_)
  obtain ⟨rfl, rfl⟩ := h'
  conv => whnf
  repeat' (conv => whnf
           first
           | refine Rng.ok (by simp only [inR]; omega) ?_
           | refine Ob.mk (by first | omega | (simp; done) | decide | (simp; omega)) ?_
           | refine Ob.mk (show eqOK _ _ = true from by kernel_rfl) ?_
           | refine Ob.mk (show keyOK _ _ _ = true from by kernel_rfl) ?_
           | refine Val.mk _ (shr_val (by simp; rfl)) ?_
           | refine Ob.mk (Nat.le_of_ble_eq_true rfl) ?_
           | refine JoinVC.on ?_
           | refine Nils.mk (fun h => ?_) ?_
           | refine Val.mk _ (Int.tmod_eq_emod_of_nonneg (by omega)) ?_
           | refine Val.mk _ (Int.tdiv_eq_ediv_of_nonneg (by omega)) ?_
           | refine Mm.mk ?_
           | (refine Br.mk (fun h => ?_) (fun h => ?_) <;> first | (exfalso; omega; done) | (exfalso; simp at h; done) | skip))
  have lL := discA_len L
  refine LoopVC.mk (fun n st => ∃ j : Nat, j ≤ L.length ∧ n = L.length - j ∧ st = ⟨4, envA 32 [(0, .x (.one (.ptr 0 0))), (1, .x (I k)), (5, .x (.one (.own 5))), (9, .x (.one (.own 4))), (10, .int .i64 (L.length : Int)), (11, .int .i64 (j : Int))], [some (bP 1), some (bW 2 3 m p), some (dRow L), some (mpU l), some (dRow L), some (.row 2 false [.int .i64] (i64s (ofL (L.take j) k)))]⟩) _ _ ⟨0, by omega, rfl, rfl⟩ ?_ ?_
  · refine ⟨[some 0, some 1, some 2, some 3, some 4, none], rfl, rfl, ?_, ?_⟩ <;> repeat' (first | exact trivial | exact rfl | exact Iff.rfl | apply And.intro)
    exact congrArg Int.ofNat lL
  rintro n _ ⟨j, hj, hn, rfl⟩
  have lo := i64s_len (ofL (L.take j) k)
  have lo2 := ofL_len (L.take j) k
  have lo3 : (L.take j).length = j := by rw [List.length_take]; omega
  by_cases hj' : j < L.length
  · obtain ⟨d, hd⟩ : ∃ d, L[j]? = some d := ⟨_, List.getElem?_eq_getElem hj'⟩
    have tk : L.take (j + 1) = L.take j ++ [d] := by rw [List.take_add_one, hd]; rfl
    have gd := discA_get L j hd
    have yes : d.a = k ∨ d.b = k → i64s (ofL (L.take (j + 1)) k) = i64s (ofL (L.take j) k) ++ [[.int d.ser]] := fun h => by
      rw [tk]; unfold ofL; rw [List.filter_append]; simp [h, i64s]
    have no : ¬ (d.a = k ∨ d.b = k) → i64s (ofL (L.take (j + 1)) k) = i64s (ofL (L.take j) k) := fun h => by
      rw [tk]; unfold ofL; rw [List.filter_append]; simp [h]
    have gd0 : rI (discA L) (j : Int).toNat 0 = d.ser := gd.1
    have gd1 : rI (discA L) (j : Int).toNat 1 = d.a := gd.2.1
    have gd2 : rI (discA L) (j : Int).toNat 2 = d.b := gd.2.2.1
    repeat' (conv => whnf
             first
             | refine Rng.ok (by simp only [inR]; omega) ?_
             | refine Ob.mk (by first | omega | (simp; done) | decide | (simp; omega)) ?_
             | refine Ob.mk (show eqOK _ _ = true from by kernel_rfl) ?_
             | refine Ob.mk (show keyOK _ _ _ = true from by kernel_rfl) ?_
             | refine Val.mk _ (shr_val (by simp; rfl)) ?_
             | refine Ob.mk (Nat.le_of_ble_eq_true rfl) ?_
             | refine JoinVC.on ?_
             | refine Nils.mk (fun h => ?_) ?_
             | refine Val.mk _ (Int.tmod_eq_emod_of_nonneg (by omega)) ?_
             | refine Val.mk _ (Int.tdiv_eq_ediv_of_nonneg (by omega)) ?_
             | refine Mm.mk ?_
             | (refine Br.mk (fun h => ?_) (fun h => ?_) <;> first | (exfalso; omega; done) | (exfalso; simp at h; done) | skip))
    · have y := yes (.inl (by rw [← gd1]; assumption))
      repeat refine Mm.mk ?_
      refine Ob.mk (by simp only [lo, eb, List.length_cons, List.length_nil]; omega) ?_
      conv => whnf
      rw [gd0, ← y]
      repeat' (conv => whnf
               first
               | refine Rng.ok (by simp only [inR]; omega) ?_
               | refine Ob.mk (by first | omega | (simp; done) | decide | (simp; omega)) ?_
               | refine Ob.mk (show eqOK _ _ = true from by kernel_rfl) ?_
               | refine Ob.mk (show keyOK _ _ _ = true from by kernel_rfl) ?_
               | refine Val.mk _ (shr_val (by simp; rfl)) ?_
               | refine Ob.mk (Nat.le_of_ble_eq_true rfl) ?_
               | refine JoinVC.on ?_
               | refine Nils.mk (fun h => ?_) ?_
               | refine Val.mk _ (Int.tmod_eq_emod_of_nonneg (by omega)) ?_
               | refine Val.mk _ (Int.tdiv_eq_ediv_of_nonneg (by omega)) ?_
               | refine Mm.mk ?_
               | (refine Br.mk (fun h => ?_) (fun h => ?_) <;> first | (exfalso; omega; done) | (exfalso; simp at h; done) | skip))
      refine Back.mk (L.length - (j + 1)) _ (by omega) ⟨j + 1, by omega, rfl, rfl⟩ ?_
      refine ⟨[some 0, some 1, some 2, some 3, some 4, some 8], rfl, rfl, ?_, ?_⟩ <;> repeat' (first | exact trivial | exact rfl | exact Iff.rfl | apply And.intro)
    · have y := yes (.inr (by rw [← gd2]; assumption))
      repeat refine Mm.mk ?_
      refine Ob.mk (by simp only [lo, eb, List.length_cons, List.length_nil]; omega) ?_
      conv => whnf
      rw [gd0, ← y]
      repeat' (conv => whnf
               first
               | refine Rng.ok (by simp only [inR]; omega) ?_
               | refine Ob.mk (by first | omega | (simp; done) | decide | (simp; omega)) ?_
               | refine Ob.mk (show eqOK _ _ = true from by kernel_rfl) ?_
               | refine Ob.mk (show keyOK _ _ _ = true from by kernel_rfl) ?_
               | refine Val.mk _ (shr_val (by simp; rfl)) ?_
               | refine Ob.mk (Nat.le_of_ble_eq_true rfl) ?_
               | refine JoinVC.on ?_
               | refine Nils.mk (fun h => ?_) ?_
               | refine Val.mk _ (Int.tmod_eq_emod_of_nonneg (by omega)) ?_
               | refine Val.mk _ (Int.tdiv_eq_ediv_of_nonneg (by omega)) ?_
               | refine Mm.mk ?_
               | (refine Br.mk (fun h => ?_) (fun h => ?_) <;> first | (exfalso; omega; done) | (exfalso; simp at h; done) | skip))
      refine Back.mk (L.length - (j + 1)) _ (by omega) ⟨j + 1, by omega, rfl, rfl⟩ ?_
      refine ⟨[some 0, some 1, some 2, some 3, some 4, some 8], rfl, rfl, ?_, ?_⟩ <;> repeat' (first | exact trivial | exact rfl | exact Iff.rfl | apply And.intro)
    · have y := no (fun h => h.elim (by rw [← gd1]; assumption) (by rw [← gd2]; assumption))
      refine Back.mk (L.length - (j + 1)) _ (by omega) ⟨j + 1, by omega, rfl, rfl⟩ ?_
      refine ⟨[some 0, some 1, some 2, some 3, some 4, some 5], rfl, rfl, ?_, ?_⟩ <;> repeat' (first | exact trivial | exact rfl | exact Iff.rfl | apply And.intro)
      exact y.symm
  · repeat' (conv => whnf
             first
             | refine Rng.ok (by simp only [inR]; omega) ?_
             | refine Ob.mk (by first | omega | (simp; done) | decide | (simp; omega)) ?_
             | refine Ob.mk (show eqOK _ _ = true from by kernel_rfl) ?_
             | refine Ob.mk (show keyOK _ _ _ = true from by kernel_rfl) ?_
             | refine Val.mk _ (shr_val (by simp; rfl)) ?_
             | refine Ob.mk (Nat.le_of_ble_eq_true rfl) ?_
             | refine JoinVC.on ?_
             | refine Nils.mk (fun h => ?_) ?_
             | refine Val.mk _ (Int.tmod_eq_emod_of_nonneg (by omega)) ?_
             | refine Val.mk _ (Int.tdiv_eq_ediv_of_nonneg (by omega)) ?_
             | refine Mm.mk ?_
             | (refine Br.mk (fun h => ?_) (fun h => ?_) <;> first | (exfalso; omega; done) | (exfalso; simp at h; done) | skip))
    have e : L.take j = L := List.take_of_length_le (by omega)
    repeat refine Mm.mk ?_
    refine EndVC.mk _ rfl _ _ ⟨rfl, rfl⟩ ?_
    refine ⟨[some 0, some 1, some 2, some 3, some 5], rfl, rfl, ?_, ?_⟩ <;> repeat' (first | exact trivial | exact rfl | exact Iff.rfl | apply And.intro)
    rw [e]
end Go.Sx

namespace Go.Sx
open Go Go.Proofs
set_option maxRecDepth 10000
set_option maxHeartbeats 1000000
theorem e43 : EntersF Try.prog 43 := enters_of Try.func43 (c := bodyOf Try.f43) (by kernel_rfl) rfl
theorem e44 : EntersF Try.prog 44 := enters_of Try.func44 (c := bodyOf Try.f44) (by kernel_rfl) rfl
theorem e51 : EntersF Try.prog 51 := enters_of Try.func51 (c := bodyOf Try.f51) (by kernel_rfl) rfl
theorem e87 : EntersF Try.prog 87 := enters_of Try.func87 (c := bodyOf Try.f87) (by kernel_rfl) rfl
theorem e88 : EntersF Try.prog 88 := enters_of Try.func88 (c := bodyOf Try.f88) (by kernel_rfl) rfl
theorem e93 : EntersF Try.prog 93 := enters_of Try.func93 (c := bodyOf Try.f93) (by kernel_rfl) rfl
theorem e95 : EntersF Try.prog 95 := enters_of Try.func95 (c := bodyOf Try.f95) (by kernel_rfl) rfl
/-- The reference's press. -/
@[reducible] def bR (i : Nat) (m : Mac) (p : Pst) : Blk := .box 87 [.int .i64 m.room, .int .i64 m.melt, .int .i64 m.cool, .int .i64 m.top, .int .i64 m.heat, .int .i64 m.chill, .int .i64 m.drift, .int .i64 m.hold, .int .i64 m.life,
  .bool p.cl, .bool p.ld, .int .i64 p.v, .int .i64 p.t, .int .i64 p.h, .int .i64 p.pk, .int .i64 p.tm, .int .i64 p.a, .int .i64 p.b, .own i]
theorem s88 (m : Mac) (p : Pst) (L : List Disc) (hlen : L.length ≤ 1000) (k : Int) : HSpec Try.prog 88 [.one (.ptr 0 0), I k] [bR 1 m p, dRow L] (fun r m' => r = .x (.one (.own 2)) ∧ m' = [some (bR 1 m p), some (dRow L), some (.row 2 false [.int .i64] (i64s (ofL L k)))]) := by
  refine spec_of pMix (O := []) Try.func88 (c := bodyOf Try.f88) rfl (by kernel_rfl) (by kernel_rfl) Try.ntmps88 (res := [.tmp 4]) (by kernel_rfl) ?_
  repeat' (conv => whnf
           first
           | refine Rng.ok (by simp only [inR]; omega) ?_
           | refine Ob.mk (by first | omega | (simp; done) | decide | (simp; omega)) ?_
           | refine Ob.mk (show eqOK _ _ = true from by kernel_rfl) ?_
           | refine Ob.mk (show keyOK _ _ _ = true from by kernel_rfl) ?_
           | refine Val.mk _ (shr_val (by simp; rfl)) ?_
           | refine Ob.mk (Nat.le_of_ble_eq_true rfl) ?_
           | refine JoinVC.on ?_
           | refine Nils.mk (fun h => ?_) ?_
           | refine Val.mk _ (Int.tmod_eq_emod_of_nonneg (by omega)) ?_
           | refine Val.mk _ (Int.tdiv_eq_ediv_of_nonneg (by omega)) ?_
           | refine Mm.mk ?_
           | (refine Br.mk (fun h => ?_) (fun h => ?_) <;> first | (exfalso; omega; done) | (exfalso; simp at h; done) | skip))
  have lL := discA_len L
  refine LoopVC.mk (fun n st => ∃ j : Nat, j ≤ L.length ∧ n = L.length - j ∧ st = ⟨2, envA 50 [(0, .x (.one (.ptr 0 0))), (1, .x (I k)), (5, .x (.one (.own 2))), (6, .int .i64 (j : Int))], [some (bR 1 m p), some (dRow L), some (.row 2 false [.int .i64] (i64s (ofL (L.take j) k)))]⟩) _ _ ⟨0, by omega, rfl, rfl⟩ ?_ ?_
  · refine ⟨[some 0, some 1, none], rfl, rfl, ?_, ?_⟩ <;> repeat' (first | exact trivial | exact rfl | exact Iff.rfl | apply And.intro)
  rintro n _ ⟨j, hj, hn, rfl⟩
  have lo := i64s_len (ofL (L.take j) k)
  have lo2 := ofL_len (L.take j) k
  have lo3 : (L.take j).length = j := by rw [List.length_take]; omega
  by_cases hj' : j < L.length
  · obtain ⟨d, hd⟩ : ∃ d, L[j]? = some d := ⟨_, List.getElem?_eq_getElem hj'⟩
    have tk : L.take (j + 1) = L.take j ++ [d] := by rw [List.take_add_one, hd]; rfl
    have gd := discA_get L j hd
    have yes : d.a = k ∨ d.b = k → i64s (ofL (L.take (j + 1)) k) = i64s (ofL (L.take j) k) ++ [[.int d.ser]] := fun h => by
      rw [tk]; unfold ofL; rw [List.filter_append]; simp [h, i64s]
    have no : ¬ (d.a = k ∨ d.b = k) → i64s (ofL (L.take (j + 1)) k) = i64s (ofL (L.take j) k) := fun h => by
      rw [tk]; unfold ofL; rw [List.filter_append]; simp [h]
    have gd0 : rI (discA L) (j : Int).toNat 0 = d.ser := gd.1
    have gd1 : rI (discA L) (j : Int).toNat (0 + 1) = d.a := gd.2.1
    have gd2 : rI (discA L) (j : Int).toNat (0 + 1 + 1) = d.b := gd.2.2.1
    repeat' (conv => whnf
             first
             | refine Rng.ok (by simp only [inR]; omega) ?_
             | refine Ob.mk (by first | omega | (simp; done) | decide | (simp; omega)) ?_
             | refine Ob.mk (show eqOK _ _ = true from by kernel_rfl) ?_
             | refine Ob.mk (show keyOK _ _ _ = true from by kernel_rfl) ?_
             | refine Val.mk _ (shr_val (by simp; rfl)) ?_
             | refine Ob.mk (Nat.le_of_ble_eq_true rfl) ?_
             | refine JoinVC.on ?_
             | refine Nils.mk (fun h => ?_) ?_
             | refine Val.mk _ (Int.tmod_eq_emod_of_nonneg (by omega)) ?_
             | refine Val.mk _ (Int.tdiv_eq_ediv_of_nonneg (by omega)) ?_
             | refine Mm.mk ?_
             | (refine Br.mk (fun h => ?_) (fun h => ?_) <;> first | (exfalso; omega; done) | (exfalso; simp at h; done) | skip))
    · have y := yes (.inl (by rw [← gd1]; assumption))
      repeat refine Mm.mk ?_
      refine Ob.mk (by simp only [lo, eb, List.length_cons, List.length_nil]; omega) ?_
      repeat' (conv => whnf
               first
               | refine Rng.ok (by simp only [inR]; omega) ?_
               | refine Ob.mk (by first | omega | (simp; done) | decide | (simp; omega)) ?_
               | refine Ob.mk (show eqOK _ _ = true from by kernel_rfl) ?_
               | refine Ob.mk (show keyOK _ _ _ = true from by kernel_rfl) ?_
               | refine Val.mk _ (shr_val (by simp; rfl)) ?_
               | refine Ob.mk (Nat.le_of_ble_eq_true rfl) ?_
               | refine JoinVC.on ?_
               | refine Nils.mk (fun h => ?_) ?_
               | refine Val.mk _ (Int.tmod_eq_emod_of_nonneg (by omega)) ?_
               | refine Val.mk _ (Int.tdiv_eq_ediv_of_nonneg (by omega)) ?_
               | refine Mm.mk ?_
               | (refine Br.mk (fun h => ?_) (fun h => ?_) <;> first | (exfalso; omega; done) | (exfalso; simp at h; done) | skip))
      refine Back.mk (L.length - (j + 1)) _ (by omega) ⟨j + 1, by omega, rfl, rfl⟩ ?_
      refine ⟨[some 0, some 1, some 4], rfl, rfl, ?_, ?_⟩ <;> repeat' (first | exact trivial | exact rfl | exact Iff.rfl | apply And.intro)
      rw [← gd0] at y
      exact y.symm
    · have y := yes (.inr (by rw [← gd2]; assumption))
      repeat refine Mm.mk ?_
      refine Ob.mk (by simp only [lo, eb, List.length_cons, List.length_nil]; omega) ?_
      repeat' (conv => whnf
               first
               | refine Rng.ok (by simp only [inR]; omega) ?_
               | refine Ob.mk (by first | omega | (simp; done) | decide | (simp; omega)) ?_
               | refine Ob.mk (show eqOK _ _ = true from by kernel_rfl) ?_
               | refine Ob.mk (show keyOK _ _ _ = true from by kernel_rfl) ?_
               | refine Val.mk _ (shr_val (by simp; rfl)) ?_
               | refine Ob.mk (Nat.le_of_ble_eq_true rfl) ?_
               | refine JoinVC.on ?_
               | refine Nils.mk (fun h => ?_) ?_
               | refine Val.mk _ (Int.tmod_eq_emod_of_nonneg (by omega)) ?_
               | refine Val.mk _ (Int.tdiv_eq_ediv_of_nonneg (by omega)) ?_
               | refine Mm.mk ?_
               | (refine Br.mk (fun h => ?_) (fun h => ?_) <;> first | (exfalso; omega; done) | (exfalso; simp at h; done) | skip))
      refine Back.mk (L.length - (j + 1)) _ (by omega) ⟨j + 1, by omega, rfl, rfl⟩ ?_
      refine ⟨[some 0, some 1, some 4], rfl, rfl, ?_, ?_⟩ <;> repeat' (first | exact trivial | exact rfl | exact Iff.rfl | apply And.intro)
      rw [← gd0] at y
      exact y.symm
    · have y := no (fun h => h.elim (by rw [← gd1]; assumption) (by rw [← gd2]; assumption))
      refine Back.mk (L.length - (j + 1)) _ (by omega) ⟨j + 1, by omega, rfl, rfl⟩ ?_
      refine ⟨[some 0, some 1, some 2], rfl, rfl, ?_, ?_⟩ <;> repeat' (first | exact trivial | exact rfl | exact Iff.rfl | apply And.intro)
      exact y.symm
  · repeat' (conv => whnf
             first
             | refine Rng.ok (by simp only [inR]; omega) ?_
             | refine Ob.mk (by first | omega | (simp; done) | decide | (simp; omega)) ?_
             | refine Ob.mk (show eqOK _ _ = true from by kernel_rfl) ?_
             | refine Ob.mk (show keyOK _ _ _ = true from by kernel_rfl) ?_
             | refine Val.mk _ (shr_val (by simp; rfl)) ?_
             | refine Ob.mk (Nat.le_of_ble_eq_true rfl) ?_
             | refine JoinVC.on ?_
             | refine Nils.mk (fun h => ?_) ?_
             | refine Val.mk _ (Int.tmod_eq_emod_of_nonneg (by omega)) ?_
             | refine Val.mk _ (Int.tdiv_eq_ediv_of_nonneg (by omega)) ?_
             | refine Mm.mk ?_
             | (refine Br.mk (fun h => ?_) (fun h => ?_) <;> first | (exfalso; omega; done) | (exfalso; simp at h; done) | skip))
    have e : L.take j = L := List.take_of_length_le (by omega)
    repeat refine Mm.mk ?_
    refine EndVC.mk _ rfl _ _ ⟨rfl, rfl⟩ ?_
    refine ⟨[some 0, some 1, some 2], rfl, rfl, ?_, ?_⟩ <;> repeat' (first | exact trivial | exact rfl | exact Iff.rfl | apply And.intro)
    rw [e]
theorem useC_of (L : List Disc) (k : Int) : ((i64s (ofL L k)).length : Int) = useC L k := by
  rw [i64s_len]; unfold ofL useC; rw [List.length_map]
@[reducible] def KR : List CK := [.int .i64, .int .i64, .int .i64, .int .i64, .int .i64, .int .i64, .int .i64, .int .i64, .int .i64, .bool, .bool, .int .i64, .int .i64, .int .i64, .int .i64, .int .i64, .int .i64, .int .i64, .sl K7]
/-- A press that is lent. -/
@[reducible] def rowR (m : Mac) (p : Pst) (L : List Disc) : List Cell := [.int m.room, .int m.melt, .int m.cool, .int m.top, .int m.heat, .int m.chill, .int m.drift, .int m.hold, .int m.life, .bool p.cl, .bool p.ld, .int p.v, .int p.t, .int p.h, .int p.pk, .int p.tm, .int p.a, .int p.b, .sl (discA L)]
theorem s88l (m : Mac) (p : Pst) (L : List Disc) (hlen : L.length ≤ 1000) (k : Int) : HSpec Try.prog 88 [.one (.lel true KR [rowR m p L] 0 0), I k] [] (fun r m' => r = .x (.one (.own 0)) ∧ m' = [some (.row 2 false [.int .i64] (i64s (ofL L k)))]) := by
  have e18 : rA [rowR m p L] 0 (0 + 1 + 1 + 1 + 1 + 1 + 1 + 1 + 1 + 1 + 1 + 1 + 1 + 1 + 1 + 1 + 1 + 1 + 1) = discA L := rfl
  refine spec_of pMix (O := []) Try.func88 (c := bodyOf Try.f88) rfl (by kernel_rfl) (by kernel_rfl) Try.ntmps88 (res := [.tmp 4]) (by kernel_rfl) ?_
  repeat' (conv => whnf
           first
           | refine Rng.ok (by simp only [inR]; omega) ?_
           | refine Ob.mk (by first | omega | (simp; done) | decide | (simp; omega)) ?_
           | refine Ob.mk (show eqOK _ _ = true from by kernel_rfl) ?_
           | refine Ob.mk (show keyOK _ _ _ = true from by kernel_rfl) ?_
           | refine Val.mk _ (shr_val (by simp; rfl)) ?_
           | refine Ob.mk (Nat.le_of_ble_eq_true rfl) ?_
           | refine JoinVC.on ?_
           | refine Nils.mk (fun h => ?_) ?_
           | refine Val.mk _ (Int.tmod_eq_emod_of_nonneg (by omega)) ?_
           | refine Val.mk _ (Int.tdiv_eq_ediv_of_nonneg (by omega)) ?_
           | refine Mm.mk ?_
           | (refine Br.mk (fun h => ?_) (fun h => ?_) <;> first | (exfalso; omega; done) | (exfalso; simp at h; done) | skip))
  have lL := discA_len L
  refine LoopVC.mk (fun n st => ∃ j : Nat, j ≤ L.length ∧ n = L.length - j ∧ st = ⟨0, envA 50 [(0, .x (.one (.lel true KR [rowR m p L] 0 0))), (1, .x (I k)), (5, .x (.one (.own 0))), (6, .int .i64 (j : Int))], [some (.row 2 false [.int .i64] (i64s (ofL (L.take j) k)))]⟩) _ _ ⟨0, by omega, rfl, rfl⟩ ?_ ?_
  · refine ⟨[none], rfl, rfl, ?_, ?_⟩ <;> repeat' (first | exact trivial | exact rfl | exact Iff.rfl | apply And.intro)
  rintro n _ ⟨j, hj, hn, rfl⟩
  have lo := i64s_len (ofL (L.take j) k)
  have lo2 := ofL_len (L.take j) k
  have lo3 : (L.take j).length = j := by rw [List.length_take]; omega
  by_cases hj' : j < L.length
  · obtain ⟨d, hd⟩ : ∃ d, L[j]? = some d := ⟨_, List.getElem?_eq_getElem hj'⟩
    have tk : L.take (j + 1) = L.take j ++ [d] := by rw [List.take_add_one, hd]; rfl
    have gd := discA_get L j hd
    have yes : d.a = k ∨ d.b = k → i64s (ofL (L.take (j + 1)) k) = i64s (ofL (L.take j) k) ++ [[.int d.ser]] := fun h => by
      rw [tk]; unfold ofL; rw [List.filter_append]; simp [h, i64s]
    have no : ¬ (d.a = k ∨ d.b = k) → i64s (ofL (L.take (j + 1)) k) = i64s (ofL (L.take j) k) := fun h => by
      rw [tk]; unfold ofL; rw [List.filter_append]; simp [h]
    have gd0 : rI (discA L) (j : Int).toNat 0 = d.ser := gd.1
    have gd1 : rI (discA L) (j : Int).toNat (0 + 1) = d.a := gd.2.1
    have gd2 : rI (discA L) (j : Int).toNat (0 + 1 + 1) = d.b := gd.2.2.1
    repeat' (conv => whnf
             first
             | rw [e18]
             | refine Rng.ok (by simp only [inR]; omega) ?_
             | refine Ob.mk (by first | omega | (simp; done) | decide | (simp; omega)) ?_
             | refine Ob.mk (show eqOK _ _ = true from by kernel_rfl) ?_
             | refine Ob.mk (show keyOK _ _ _ = true from by kernel_rfl) ?_
             | refine Val.mk _ (shr_val (by simp; rfl)) ?_
             | refine Ob.mk (Nat.le_of_ble_eq_true rfl) ?_
             | refine JoinVC.on ?_
             | refine Nils.mk (fun h => ?_) ?_
             | refine Val.mk _ (Int.tmod_eq_emod_of_nonneg (by omega)) ?_
             | refine Val.mk _ (Int.tdiv_eq_ediv_of_nonneg (by omega)) ?_
             | refine Mm.mk ?_
             | (refine Br.mk (fun h => ?_) (fun h => ?_) <;> first | (exfalso; omega; done) | (exfalso; simp at h; done) | skip))
    · have y := yes (.inl (by rw [← gd1]; assumption))
      repeat refine Mm.mk ?_
      refine Ob.mk (by simp only [lo, eb, List.length_cons, List.length_nil]; omega) ?_
      repeat' (conv => whnf
               first
               | rw [e18]
               | refine Rng.ok (by simp only [inR]; omega) ?_
               | refine Ob.mk (by first | omega | (simp; done) | decide | (simp; omega)) ?_
               | refine Ob.mk (show eqOK _ _ = true from by kernel_rfl) ?_
               | refine Ob.mk (show keyOK _ _ _ = true from by kernel_rfl) ?_
               | refine Val.mk _ (shr_val (by simp; rfl)) ?_
               | refine Ob.mk (Nat.le_of_ble_eq_true rfl) ?_
               | refine JoinVC.on ?_
               | refine Nils.mk (fun h => ?_) ?_
               | refine Val.mk _ (Int.tmod_eq_emod_of_nonneg (by omega)) ?_
               | refine Val.mk _ (Int.tdiv_eq_ediv_of_nonneg (by omega)) ?_
               | refine Mm.mk ?_
               | (refine Br.mk (fun h => ?_) (fun h => ?_) <;> first | (exfalso; omega; done) | (exfalso; simp at h; done) | skip))
      refine Back.mk (L.length - (j + 1)) _ (by omega) ⟨j + 1, by omega, rfl, rfl⟩ ?_
      refine ⟨[some 2], rfl, rfl, ?_, ?_⟩ <;> repeat' (first | exact trivial | exact rfl | exact Iff.rfl | apply And.intro)
      rw [← gd0] at y
      exact y.symm
    · have y := yes (.inr (by rw [← gd2]; assumption))
      repeat refine Mm.mk ?_
      refine Ob.mk (by simp only [lo, eb, List.length_cons, List.length_nil]; omega) ?_
      repeat' (conv => whnf
               first
               | rw [e18]
               | refine Rng.ok (by simp only [inR]; omega) ?_
               | refine Ob.mk (by first | omega | (simp; done) | decide | (simp; omega)) ?_
               | refine Ob.mk (show eqOK _ _ = true from by kernel_rfl) ?_
               | refine Ob.mk (show keyOK _ _ _ = true from by kernel_rfl) ?_
               | refine Val.mk _ (shr_val (by simp; rfl)) ?_
               | refine Ob.mk (Nat.le_of_ble_eq_true rfl) ?_
               | refine JoinVC.on ?_
               | refine Nils.mk (fun h => ?_) ?_
               | refine Val.mk _ (Int.tmod_eq_emod_of_nonneg (by omega)) ?_
               | refine Val.mk _ (Int.tdiv_eq_ediv_of_nonneg (by omega)) ?_
               | refine Mm.mk ?_
               | (refine Br.mk (fun h => ?_) (fun h => ?_) <;> first | (exfalso; omega; done) | (exfalso; simp at h; done) | skip))
      refine Back.mk (L.length - (j + 1)) _ (by omega) ⟨j + 1, by omega, rfl, rfl⟩ ?_
      refine ⟨[some 2], rfl, rfl, ?_, ?_⟩ <;> repeat' (first | exact trivial | exact rfl | exact Iff.rfl | apply And.intro)
      rw [← gd0] at y
      exact y.symm
    · have y := no (fun h => h.elim (by rw [← gd1]; assumption) (by rw [← gd2]; assumption))
      refine Back.mk (L.length - (j + 1)) _ (by omega) ⟨j + 1, by omega, rfl, rfl⟩ ?_
      refine ⟨[some 0], rfl, rfl, ?_, ?_⟩ <;> repeat' (first | exact trivial | exact rfl | exact Iff.rfl | apply And.intro)
      exact y.symm
  · repeat' (conv => whnf
             first
             | rw [e18]
             | refine Rng.ok (by simp only [inR]; omega) ?_
             | refine Ob.mk (by first | omega | (simp; done) | decide | (simp; omega)) ?_
             | refine Ob.mk (show eqOK _ _ = true from by kernel_rfl) ?_
             | refine Ob.mk (show keyOK _ _ _ = true from by kernel_rfl) ?_
             | refine Val.mk _ (shr_val (by simp; rfl)) ?_
             | refine Ob.mk (Nat.le_of_ble_eq_true rfl) ?_
             | refine JoinVC.on ?_
             | refine Nils.mk (fun h => ?_) ?_
             | refine Val.mk _ (Int.tmod_eq_emod_of_nonneg (by omega)) ?_
             | refine Val.mk _ (Int.tdiv_eq_ediv_of_nonneg (by omega)) ?_
             | refine Mm.mk ?_
             | (refine Br.mk (fun h => ?_) (fun h => ?_) <;> first | (exfalso; omega; done) | (exfalso; simp at h; done) | skip))
    have e : L.take j = L := List.take_of_length_le (by omega)
    repeat refine Mm.mk ?_
    refine EndVC.mk _ rfl _ _ ⟨rfl, rfl⟩ ?_
    refine ⟨[some 0], rfl, rfl, ?_, ?_⟩ <;> repeat' (first | exact trivial | exact rfl | exact Iff.rfl | apply And.intro)
    rw [e]
theorem s95 (m : Mac) (p : Pst) (L : List Disc) (hlen : L.length ≤ 1000) (k : Int) : PSpec Try.prog 95 [.one (.lel true KR [rowR m p L] 0 0), I k] (.x (I (useC L k))) := by
  refine spec_of pMix (O := []) Try.func95 (c := bodyOf Try.f95) rfl (by kernel_rfl) (by kernel_rfl) Try.ntmps95 (res := [.tmp 4]) (by kernel_rfl) ?_
  repeat' (conv => whnf
           first
           | refine Rng.ok (by simp only [inR]; omega) ?_
           | refine Ob.mk (by first | omega | (simp; done) | decide | (simp; omega)) ?_
           | refine Ob.mk (show eqOK _ _ = true from by kernel_rfl) ?_
           | refine Ob.mk (show keyOK _ _ _ = true from by kernel_rfl) ?_
           | refine Val.mk _ (shr_val (by simp; rfl)) ?_
           | refine Ob.mk (Nat.le_of_ble_eq_true rfl) ?_
           | refine JoinVC.on ?_
           | refine Nils.mk (fun h => ?_) ?_
           | refine Val.mk _ (Int.tmod_eq_emod_of_nonneg (by omega)) ?_
           | refine Val.mk _ (Int.tdiv_eq_ediv_of_nonneg (by omega)) ?_
           | refine Mm.mk ?_
           | (refine Br.mk (fun h => ?_) (fun h => ?_) <;> first | (exfalso; omega; done) | (exfalso; simp at h; done) | skip))
  conv => whnf
  refine CallVC.mk [] _ _ _ rfl rfl rfl (s88l m p L hlen k) (fun r m' h' => ?_)
  obtain ⟨rfl, rfl⟩ := h'
  conv => whnf
  repeat' (conv => whnf
           first
           | refine Rng.ok (by simp only [inR]; omega) ?_
           | refine Ob.mk (by first | omega | (simp; done) | decide | (simp; omega)) ?_
           | refine Ob.mk (show eqOK _ _ = true from by kernel_rfl) ?_
           | refine Ob.mk (show keyOK _ _ _ = true from by kernel_rfl) ?_
           | refine Val.mk _ (shr_val (by simp; rfl)) ?_
           | refine Ob.mk (Nat.le_of_ble_eq_true rfl) ?_
           | refine JoinVC.on ?_
           | refine Nils.mk (fun h => ?_) ?_
           | refine Val.mk _ (Int.tmod_eq_emod_of_nonneg (by omega)) ?_
           | refine Val.mk _ (Int.tdiv_eq_ediv_of_nonneg (by omega)) ?_
           | refine Mm.mk ?_
           | (refine Br.mk (fun h => ?_) (fun h => ?_) <;> first | (exfalso; omega; done) | (exfalso; simp at h; done) | skip))
  repeat refine Mm.mk ?_
  refine EndVC.mk _ rfl _ _ ⟨rfl, rfl⟩ ?_
  refine ⟨[], rfl, rfl, ?_, ?_⟩ <;> repeat' (first | exact trivial | exact rfl | exact Iff.rfl | apply And.intro)
  exact useC_of L k
theorem s93 (m : Mac) (p : Pst) (L : List Disc) (hlen : L.length ≤ 1000) (a b : Int) : HSpec Try.prog 93 [.one (.ptr 0 0), I a, I b] [bR 1 m p, dRow L] (fun r m' => r = xP (oldP m L a b) ∧ m' = [some (bR 1 m p), some (dRow L)]) := by
  refine spec_of pMix (O := [(1, ([], [⟨0, [], []⟩, ⟨1, [], []⟩, ⟨3, [], []⟩, ⟨4, [], []⟩, ⟨5, [], []⟩, ⟨6, [], []⟩, ⟨7, [], []⟩, ⟨2, [3, 4, 5, 6, 7], []⟩, ⟨8, [], []⟩, ⟨9, [], []⟩, ⟨10, [], []⟩, ⟨11, [], []⟩, ⟨13, [], []⟩, ⟨14, [], []⟩, ⟨15, [], []⟩, ⟨16, [], []⟩, ⟨17, [], []⟩, ⟨12, [13, 14, 15, 16, 17], []⟩, ⟨18, [], []⟩, ⟨19, [], []⟩, ⟨20, [], []⟩]))]) Try.func93 (c := bodyOf Try.f93) rfl (by kernel_rfl) (by kernel_rfl) Try.ntmps93 (res := [.tmp 6]) (by kernel_rfl) ?_
  repeat' (conv => whnf
           first
           | refine Rng.ok (by simp only [inR]; omega) ?_
           | refine Ob.mk (by first | omega | (simp; done) | decide | (simp; omega)) ?_
           | refine Ob.mk (show eqOK _ _ = true from by kernel_rfl) ?_
           | refine Ob.mk (show keyOK _ _ _ = true from by kernel_rfl) ?_
           | refine Val.mk _ (shr_val (by simp; rfl)) ?_
           | refine Ob.mk (Nat.le_of_ble_eq_true rfl) ?_
           | refine JoinVC.on ?_
           | refine Nils.mk (fun h => ?_) ?_
           | refine Val.mk _ (Int.tmod_eq_emod_of_nonneg (by omega)) ?_
           | refine Val.mk _ (Int.tdiv_eq_ediv_of_nonneg (by omega)) ?_
           | refine Mm.mk ?_
           | refine CallVC.pure rfl (s95 m p L hlen a) ?_
           | refine CallVC.pure rfl (s95 m p L hlen b) ?_
           | refine CallVC0.pure rfl (s95 m p L hlen a) ?_
           | refine CallVC0.pure rfl (s95 m p L hlen b) ?_
           | (refine Br.mk (fun h => ?_) (fun h => ?_) <;> first | (exfalso; omega; done) | (exfalso; simp at h; done) | skip))
  · repeat refine Mm.mk ?_
    refine EndVC.mk _ rfl _ _ ⟨rfl, rfl⟩ ?_
    refine ⟨[some 0, some 1], rfl, rfl, ?_, ?_⟩ <;> repeat' (first | exact trivial | exact rfl | exact Iff.rfl | apply And.intro)
    show oldP m L a b
    omega
  repeat refine Mm.mk ?_
  refine EndVC.mk _ rfl _ _ ⟨rfl, rfl⟩ ?_
  refine ⟨[some 0, some 1], rfl, rfl, ?_, ?_⟩ <;> repeat' (first | exact trivial | exact rfl | exact Iff.rfl | apply And.intro)
  show _ ↔ oldP m L a b
  constructor
  · intro h; omega
  · intro h; omega
theorem s87 (m : Mac) (p : Pst) (L : List Disc) (hlen : L.length ≤ 1000) (htm : 0 ≤ p.tm ∧ p.tm ≤ 1073741824) (k a b : Int) :
    HSpec Try.prog 87 [.one (.ptr 0 0), .agg [.int .i64 k, .int .i64 a, .int .i64 b]] [bR 1 m p, dRow L] (fun r m' => r = .x (I (errD m p L k a b)) ∧ m' = [some (bR 1 m p), some (dRow L)]) := by
  have lL := discA_len L
  by_cases hk : k < 1 ∨ 6 < k
  · have e : errD m p L k a b = 2 := by unfold errD; rw [if_neg (by omega), if_neg (by omega), if_neg (by omega), if_neg (by omega), if_neg (by omega), if_neg (by omega)]
    refine spec_of pMix (O := []) Try.func87 (c := bodyOf Try.f87) rfl (by kernel_rfl) (by kernel_rfl) Try.ntmps87 (res := [.tmp 4]) (by kernel_rfl) ?_
    repeat' (conv => whnf
             first
             | refine Rng.ok (by simp only [inR]; omega) ?_
             | refine Ob.mk (by first | omega | (simp; done) | decide | (simp; omega)) ?_
             | refine Ob.mk (show eqOK _ _ = true from by kernel_rfl) ?_
             | refine Ob.mk (show keyOK _ _ _ = true from by kernel_rfl) ?_
             | refine Val.mk _ (shr_val (by simp; rfl)) ?_
             | refine Ob.mk (Nat.le_of_ble_eq_true rfl) ?_
             | refine JoinVC.on ?_
             | refine Nils.mk (fun h => ?_) ?_
             | refine Val.mk _ (Int.tmod_eq_emod_of_nonneg (by omega)) ?_
             | refine Val.mk _ (Int.tdiv_eq_ediv_of_nonneg (by omega)) ?_
             | refine Mm.mk ?_
             | (refine Br.mk (fun h => ?_) (fun h => ?_) <;> first | (exfalso; omega; done) | (exfalso; simp at h; done) | skip))
    repeat refine Mm.mk ?_
    refine EndVC.mk _ rfl _ _ ⟨rfl, rfl⟩ ?_
    refine ⟨[some 0, some 1], rfl, rfl, ?_, ?_⟩ <;> repeat' (first | exact trivial | exact rfl | exact Iff.rfl | apply And.intro)
    exact e.symm
  have hk6 : k = 1 ∨ k = 2 ∨ k = 3 ∨ k = 4 ∨ k = 5 ∨ k = 6 := by omega
  clear hk
  rcases hk6 with rfl | rfl | rfl | rfl | rfl | rfl
  · have e := errD1 m p L a b
    unfold outN at e
    refine spec_of pMix (O := []) Try.func87 (c := bodyOf Try.f87) rfl (by kernel_rfl) (by kernel_rfl) Try.ntmps87 (res := [.tmp 4]) (by kernel_rfl) ?_
    repeat' (conv => whnf
             first
             | refine Rng.ok (by simp only [inR]; omega) ?_
             | refine Ob.mk (by first | omega | (simp; done) | decide | (simp; omega)) ?_
             | refine Ob.mk (show eqOK _ _ = true from by kernel_rfl) ?_
             | refine Ob.mk (show keyOK _ _ _ = true from by kernel_rfl) ?_
             | refine Val.mk _ (shr_val (by simp; rfl)) ?_
             | refine Ob.mk (Nat.le_of_ble_eq_true rfl) ?_
             | refine JoinVC.on ?_
             | refine Nils.mk (fun h => ?_) ?_
             | refine Val.mk _ (Int.tmod_eq_emod_of_nonneg (by omega)) ?_
             | refine Val.mk _ (Int.tdiv_eq_ediv_of_nonneg (by omega)) ?_
             | refine Mm.mk ?_
             | refine CallVC.pure rfl (s58 _ _ _) ?_
             | refine CallVC0.pure rfl (s58 _ _ _) ?_
             | (refine Br.mk (fun h => ?_) (fun h => ?_) <;> first | (exfalso; omega; done) | (exfalso; simp at h; done) | skip))
    · rw [if_pos (by omega)] at e
      repeat refine Mm.mk ?_
      refine EndVC.mk _ rfl _ _ ⟨rfl, rfl⟩ ?_
      refine ⟨[some 0, some 1], rfl, rfl, ?_, ?_⟩ <;> repeat' (first | exact trivial | exact rfl | exact Iff.rfl | apply And.intro)
      exact e.symm
    · rw [if_pos (by omega)] at e
      repeat refine Mm.mk ?_
      refine EndVC.mk _ rfl _ _ ⟨rfl, rfl⟩ ?_
      refine ⟨[some 0, some 1], rfl, rfl, ?_, ?_⟩ <;> repeat' (first | exact trivial | exact rfl | exact Iff.rfl | apply And.intro)
      exact e.symm
    all_goals rw [if_neg (by omega)] at e
    · rw [if_pos (by assumption)] at e
      repeat refine Mm.mk ?_
      refine EndVC.mk _ rfl _ _ ⟨rfl, rfl⟩ ?_
      refine ⟨[some 0, some 1], rfl, rfl, ?_, ?_⟩ <;> repeat' (first | exact trivial | exact rfl | exact Iff.rfl | apply And.intro)
      exact e.symm
    all_goals rw [if_neg (by assumption)] at e
    · rw [if_pos (by assumption)] at e
      repeat refine Mm.mk ?_
      refine EndVC.mk _ rfl _ _ ⟨rfl, rfl⟩ ?_
      refine ⟨[some 0, some 1], rfl, rfl, ?_, ?_⟩ <;> repeat' (first | exact trivial | exact rfl | exact Iff.rfl | apply And.intro)
      exact e.symm
    all_goals rw [if_neg (by assumption)] at e
    · rw [if_pos (by assumption)] at e
      repeat refine Mm.mk ?_
      refine EndVC.mk _ rfl _ _ ⟨rfl, rfl⟩ ?_
      refine ⟨[some 0, some 1], rfl, rfl, ?_, ?_⟩ <;> repeat' (first | exact trivial | exact rfl | exact Iff.rfl | apply And.intro)
      exact e.symm
    all_goals rw [if_neg (by assumption)] at e
    conv => whnf
    refine CallVC.mk [0, 1] _ _ _ rfl rfl rfl (s93 m p L hlen a b) (fun r m' h' => ?_)
    obtain ⟨rfl, rfl⟩ := h'
    conv => whnf
    repeat' (conv => whnf
             first
             | refine Rng.ok (by simp only [inR]; omega) ?_
             | refine Ob.mk (by first | omega | (simp; done) | decide | (simp; omega)) ?_
             | refine Ob.mk (show eqOK _ _ = true from by kernel_rfl) ?_
             | refine Ob.mk (show keyOK _ _ _ = true from by kernel_rfl) ?_
             | refine Val.mk _ (shr_val (by simp; rfl)) ?_
             | refine Ob.mk (Nat.le_of_ble_eq_true rfl) ?_
             | refine JoinVC.on ?_
             | refine Nils.mk (fun h => ?_) ?_
             | refine Val.mk _ (Int.tmod_eq_emod_of_nonneg (by omega)) ?_
             | refine Val.mk _ (Int.tdiv_eq_ediv_of_nonneg (by omega)) ?_
             | refine Mm.mk ?_
             | (refine Br.mk (fun h => ?_) (fun h => ?_) <;> first | (exfalso; omega; done) | (exfalso; simp at h; done) | skip))
    · rw [if_pos (by assumption)] at e
      repeat refine Mm.mk ?_
      refine EndVC.mk _ rfl _ _ ⟨rfl, rfl⟩ ?_
      refine ⟨[some 0, some 1], rfl, rfl, ?_, ?_⟩ <;> repeat' (first | exact trivial | exact rfl | exact Iff.rfl | apply And.intro)
      exact e.symm
    · rw [if_neg (by assumption)] at e
      repeat refine Mm.mk ?_
      refine EndVC.mk _ rfl _ _ ⟨rfl, rfl⟩ ?_
      refine ⟨[some 0, some 1], rfl, rfl, ?_, ?_⟩ <;> repeat' (first | exact trivial | exact rfl | exact Iff.rfl | apply And.intro)
      exact e.symm
  · have e := errD2 m p L a b
    refine spec_of pMix (O := []) Try.func87 (c := bodyOf Try.f87) rfl (by kernel_rfl) (by kernel_rfl) Try.ntmps87 (res := [.tmp 4]) (by kernel_rfl) ?_
    repeat' (conv => whnf
             first
             | refine Rng.ok (by simp only [inR]; omega) ?_
             | refine Ob.mk (by first | omega | (simp; done) | decide | (simp; omega)) ?_
             | refine Ob.mk (show eqOK _ _ = true from by kernel_rfl) ?_
             | refine Ob.mk (show keyOK _ _ _ = true from by kernel_rfl) ?_
             | refine Val.mk _ (shr_val (by simp; rfl)) ?_
             | refine Ob.mk (Nat.le_of_ble_eq_true rfl) ?_
             | refine JoinVC.on ?_
             | refine Nils.mk (fun h => ?_) ?_
             | refine Val.mk _ (Int.tmod_eq_emod_of_nonneg (by omega)) ?_
             | refine Val.mk _ (Int.tdiv_eq_ediv_of_nonneg (by omega)) ?_
             | refine Mm.mk ?_
             | (refine Br.mk (fun h => ?_) (fun h => ?_) <;> first | (exfalso; omega; done) | (exfalso; simp at h; done) | skip))
    · rw [if_pos (by assumption)] at e
      repeat refine Mm.mk ?_
      refine EndVC.mk _ rfl _ _ ⟨rfl, rfl⟩ ?_
      refine ⟨[some 0, some 1], rfl, rfl, ?_, ?_⟩ <;> repeat' (first | exact trivial | exact rfl | exact Iff.rfl | apply And.intro)
      exact e.symm
    all_goals rw [if_neg (by assumption)] at e
    · rw [if_pos (.inl (by assumption))] at e
      repeat refine Mm.mk ?_
      refine EndVC.mk _ rfl _ _ ⟨rfl, rfl⟩ ?_
      refine ⟨[some 0, some 1], rfl, rfl, ?_, ?_⟩ <;> repeat' (first | exact trivial | exact rfl | exact Iff.rfl | apply And.intro)
      exact e.symm
    · rw [if_pos (.inr (by assumption))] at e
      repeat refine Mm.mk ?_
      refine EndVC.mk _ rfl _ _ ⟨rfl, rfl⟩ ?_
      refine ⟨[some 0, some 1], rfl, rfl, ?_, ?_⟩ <;> repeat' (first | exact trivial | exact rfl | exact Iff.rfl | apply And.intro)
      exact e.symm
    rw [if_neg (fun h => h.elim (by assumption) (by assumption))] at e
    conv => whnf
    refine CallVC.mk [0, 1] _ _ _ rfl rfl rfl (s93 m p L hlen p.a p.b) (fun r m' h' => ?_)
    obtain ⟨rfl, rfl⟩ := h'
    conv => whnf
    repeat' (conv => whnf
             first
             | refine Rng.ok (by simp only [inR]; omega) ?_
             | refine Ob.mk (by first | omega | (simp; done) | decide | (simp; omega)) ?_
             | refine Ob.mk (show eqOK _ _ = true from by kernel_rfl) ?_
             | refine Ob.mk (show keyOK _ _ _ = true from by kernel_rfl) ?_
             | refine Val.mk _ (shr_val (by simp; rfl)) ?_
             | refine Ob.mk (Nat.le_of_ble_eq_true rfl) ?_
             | refine JoinVC.on ?_
             | refine Nils.mk (fun h => ?_) ?_
             | refine Val.mk _ (Int.tmod_eq_emod_of_nonneg (by omega)) ?_
             | refine Val.mk _ (Int.tdiv_eq_ediv_of_nonneg (by omega)) ?_
             | refine Mm.mk ?_
             | (refine Br.mk (fun h => ?_) (fun h => ?_) <;> first | (exfalso; omega; done) | (exfalso; simp at h; done) | skip))
    · rw [if_pos (by assumption)] at e
      repeat refine Mm.mk ?_
      refine EndVC.mk _ rfl _ _ ⟨rfl, rfl⟩ ?_
      refine ⟨[some 0, some 1], rfl, rfl, ?_, ?_⟩ <;> repeat' (first | exact trivial | exact rfl | exact Iff.rfl | apply And.intro)
      exact e.symm
    all_goals rw [if_neg (by assumption)] at e
    · rw [if_pos (by omega)] at e
      repeat refine Mm.mk ?_
      refine EndVC.mk _ rfl _ _ ⟨rfl, rfl⟩ ?_
      refine ⟨[some 0, some 1], rfl, rfl, ?_, ?_⟩ <;> repeat' (first | exact trivial | exact rfl | exact Iff.rfl | apply And.intro)
      exact e.symm
    · rw [if_neg (by omega)] at e
      repeat refine Mm.mk ?_
      refine EndVC.mk _ rfl _ _ ⟨rfl, rfl⟩ ?_
      refine ⟨[some 0, some 1], rfl, rfl, ?_, ?_⟩ <;> repeat' (first | exact trivial | exact rfl | exact Iff.rfl | apply And.intro)
      exact e.symm
  · have e := errD3 m p L a b
    refine spec_of pMix (O := []) Try.func87 (c := bodyOf Try.f87) rfl (by kernel_rfl) (by kernel_rfl) Try.ntmps87 (res := [.tmp 4]) (by kernel_rfl) ?_
    repeat' (conv => whnf
             first
             | refine Rng.ok (by simp only [inR]; omega) ?_
             | refine Ob.mk (by first | omega | (simp; done) | decide | (simp; omega)) ?_
             | refine Ob.mk (show eqOK _ _ = true from by kernel_rfl) ?_
             | refine Ob.mk (show keyOK _ _ _ = true from by kernel_rfl) ?_
             | refine Val.mk _ (shr_val (by simp; rfl)) ?_
             | refine Ob.mk (Nat.le_of_ble_eq_true rfl) ?_
             | refine JoinVC.on ?_
             | refine Nils.mk (fun h => ?_) ?_
             | refine Val.mk _ (Int.tmod_eq_emod_of_nonneg (by omega)) ?_
             | refine Val.mk _ (Int.tdiv_eq_ediv_of_nonneg (by omega)) ?_
             | refine Mm.mk ?_
             | (refine Br.mk (fun h => ?_) (fun h => ?_) <;> first | (exfalso; omega; done) | (exfalso; simp at h; done) | skip))
    · rw [if_pos (.inl (by assumption))] at e
      repeat refine Mm.mk ?_
      refine EndVC.mk _ rfl _ _ ⟨rfl, rfl⟩ ?_
      refine ⟨[some 0, some 1], rfl, rfl, ?_, ?_⟩ <;> repeat' (first | exact trivial | exact rfl | exact Iff.rfl | apply And.intro)
      exact e.symm
    · rw [if_pos (.inr (by simpa using ‹(!p.ld) = true›))] at e
      repeat refine Mm.mk ?_
      refine EndVC.mk _ rfl _ _ ⟨rfl, rfl⟩ ?_
      refine ⟨[some 0, some 1], rfl, rfl, ?_, ?_⟩ <;> repeat' (first | exact trivial | exact rfl | exact Iff.rfl | apply And.intro)
      exact e.symm
    · rw [if_neg (fun h => h.elim (by assumption) (by simpa using ‹¬ (!p.ld) = true›))] at e
      repeat refine Mm.mk ?_
      refine EndVC.mk _ rfl _ _ ⟨rfl, rfl⟩ ?_
      refine ⟨[some 0, some 1], rfl, rfl, ?_, ?_⟩ <;> repeat' (first | exact trivial | exact rfl | exact Iff.rfl | apply And.intro)
      exact e.symm
  · have e := errD4 m p L a b
    refine spec_of pMix (O := []) Try.func87 (c := bodyOf Try.f87) rfl (by kernel_rfl) (by kernel_rfl) Try.ntmps87 (res := [.tmp 4]) (by kernel_rfl) ?_
    repeat' (conv => whnf
             first
             | refine Rng.ok (by simp only [inR]; omega) ?_
             | refine Ob.mk (by first | omega | (simp; done) | decide | (simp; omega)) ?_
             | refine Ob.mk (show eqOK _ _ = true from by kernel_rfl) ?_
             | refine Ob.mk (show keyOK _ _ _ = true from by kernel_rfl) ?_
             | refine Val.mk _ (shr_val (by simp; rfl)) ?_
             | refine Ob.mk (Nat.le_of_ble_eq_true rfl) ?_
             | refine JoinVC.on ?_
             | refine Nils.mk (fun h => ?_) ?_
             | refine Val.mk _ (Int.tmod_eq_emod_of_nonneg (by omega)) ?_
             | refine Val.mk _ (Int.tdiv_eq_ediv_of_nonneg (by omega)) ?_
             | refine Mm.mk ?_
             | refine CallVC.pure rfl (s58 _ _ _) ?_
             | refine CallVC0.pure rfl (s58 _ _ _) ?_
             | (refine Br.mk (fun h => ?_) (fun h => ?_) <;> first | (exfalso; omega; done) | (exfalso; simp at h; done) | skip))
    · rw [if_pos (by omega)] at e
      repeat refine Mm.mk ?_
      refine EndVC.mk _ rfl _ _ ⟨rfl, rfl⟩ ?_
      refine ⟨[some 0, some 1], rfl, rfl, ?_, ?_⟩ <;> repeat' (first | exact trivial | exact rfl | exact Iff.rfl | apply And.intro)
      exact e.symm
    all_goals rw [if_neg (by omega)] at e
    · rw [if_pos ⟨by assumption, by simpa using ‹(!p.cl) = true›⟩] at e
      repeat refine Mm.mk ?_
      refine EndVC.mk _ rfl _ _ ⟨rfl, rfl⟩ ?_
      refine ⟨[some 0, some 1], rfl, rfl, ?_, ?_⟩ <;> repeat' (first | exact trivial | exact rfl | exact Iff.rfl | apply And.intro)
      exact e.symm
    · rw [if_neg (fun h => h.2 (by simpa using ‹¬ (!p.cl) = true›))] at e
      repeat refine Mm.mk ?_
      refine EndVC.mk _ rfl _ _ ⟨rfl, rfl⟩ ?_
      refine ⟨[some 0, some 1], rfl, rfl, ?_, ?_⟩ <;> repeat' (first | exact trivial | exact rfl | exact Iff.rfl | apply And.intro)
      exact e.symm
    · rw [if_neg (fun h => absurd h.1 (by assumption))] at e
      repeat refine Mm.mk ?_
      refine EndVC.mk _ rfl _ _ ⟨rfl, rfl⟩ ?_
      refine ⟨[some 0, some 1], rfl, rfl, ?_, ?_⟩ <;> repeat' (first | exact trivial | exact rfl | exact Iff.rfl | apply And.intro)
      exact e.symm
  · have e := errD5 m p L a b
    refine spec_of pMix (O := []) Try.func87 (c := bodyOf Try.f87) rfl (by kernel_rfl) (by kernel_rfl) Try.ntmps87 (res := [.tmp 4]) (by kernel_rfl) ?_
    repeat' (conv => whnf
             first
             | refine Rng.ok (by simp only [inR]; omega) ?_
             | refine Ob.mk (by first | omega | (simp; done) | decide | (simp; omega)) ?_
             | refine Ob.mk (show eqOK _ _ = true from by kernel_rfl) ?_
             | refine Ob.mk (show keyOK _ _ _ = true from by kernel_rfl) ?_
             | refine Val.mk _ (shr_val (by simp; rfl)) ?_
             | refine Ob.mk (Nat.le_of_ble_eq_true rfl) ?_
             | refine JoinVC.on ?_
             | refine Nils.mk (fun h => ?_) ?_
             | refine Val.mk _ (Int.tmod_eq_emod_of_nonneg (by omega)) ?_
             | refine Val.mk _ (Int.tdiv_eq_ediv_of_nonneg (by omega)) ?_
             | refine Mm.mk ?_
             | refine CallVC.pure rfl (s58 _ _ _) ?_
             | refine CallVC0.pure rfl (s58 _ _ _) ?_
             | (refine Br.mk (fun h => ?_) (fun h => ?_) <;> first | (exfalso; omega; done) | (exfalso; simp at h; done) | skip))
    · rw [if_pos (by omega)] at e
      repeat refine Mm.mk ?_
      refine EndVC.mk _ rfl _ _ ⟨rfl, rfl⟩ ?_
      refine ⟨[some 0, some 1], rfl, rfl, ?_, ?_⟩ <;> repeat' (first | exact trivial | exact rfl | exact Iff.rfl | apply And.intro)
      exact e.symm
    all_goals rw [if_neg (by omega)] at e
    · rw [if_pos (by omega)] at e
      repeat refine Mm.mk ?_
      refine EndVC.mk _ rfl _ _ ⟨rfl, rfl⟩ ?_
      refine ⟨[some 0, some 1], rfl, rfl, ?_, ?_⟩ <;> repeat' (first | exact trivial | exact rfl | exact Iff.rfl | apply And.intro)
      exact e.symm
    · rw [if_neg (by omega)] at e
      repeat refine Mm.mk ?_
      refine EndVC.mk _ rfl _ _ ⟨rfl, rfl⟩ ?_
      refine ⟨[some 0, some 1], rfl, rfl, ?_, ?_⟩ <;> repeat' (first | exact trivial | exact rfl | exact Iff.rfl | apply And.intro)
      exact e.symm
  · have e := errD6 m p L a b
    refine spec_of pMix (O := []) Try.func87 (c := bodyOf Try.f87) rfl (by kernel_rfl) (by kernel_rfl) Try.ntmps87 (res := [.tmp 4]) (by kernel_rfl) ?_
    repeat' (conv => whnf
             first
             | refine Rng.ok (by simp only [inR]; omega) ?_
             | refine Ob.mk (by first | omega | (simp; done) | decide | (simp; omega)) ?_
             | refine Ob.mk (show eqOK _ _ = true from by kernel_rfl) ?_
             | refine Ob.mk (show keyOK _ _ _ = true from by kernel_rfl) ?_
             | refine Val.mk _ (shr_val (by simp; rfl)) ?_
             | refine Ob.mk (Nat.le_of_ble_eq_true rfl) ?_
             | refine JoinVC.on ?_
             | refine Nils.mk (fun h => ?_) ?_
             | refine Val.mk _ (Int.tmod_eq_emod_of_nonneg (by omega)) ?_
             | refine Val.mk _ (Int.tdiv_eq_ediv_of_nonneg (by omega)) ?_
             | refine Mm.mk ?_
             | (refine Br.mk (fun h => ?_) (fun h => ?_) <;> first | (exfalso; omega; done) | (exfalso; simp at h; done) | skip))
    · rw [if_pos (by simpa using ‹(!p.cl) = true›)] at e
      repeat refine Mm.mk ?_
      refine EndVC.mk _ rfl _ _ ⟨rfl, rfl⟩ ?_
      refine ⟨[some 0, some 1], rfl, rfl, ?_, ?_⟩ <;> repeat' (first | exact trivial | exact rfl | exact Iff.rfl | apply And.intro)
      exact e.symm
    all_goals rw [if_neg (by simpa using ‹¬ (!p.cl) = true›)] at e
    · rw [if_pos (.inl (by assumption))] at e
      repeat refine Mm.mk ?_
      refine EndVC.mk _ rfl _ _ ⟨rfl, rfl⟩ ?_
      refine ⟨[some 0, some 1], rfl, rfl, ?_, ?_⟩ <;> repeat' (first | exact trivial | exact rfl | exact Iff.rfl | apply And.intro)
      exact e.symm
    · rw [if_pos (.inr (by assumption))] at e
      repeat refine Mm.mk ?_
      refine EndVC.mk _ rfl _ _ ⟨rfl, rfl⟩ ?_
      refine ⟨[some 0, some 1], rfl, rfl, ?_, ?_⟩ <;> repeat' (first | exact trivial | exact rfl | exact Iff.rfl | apply And.intro)
      exact e.symm
    · rw [if_neg (fun h => h.elim (by assumption) (by assumption))] at e
      repeat refine Mm.mk ?_
      refine EndVC.mk _ rfl _ _ ⟨rfl, rfl⟩ ?_
      refine ⟨[some 0, some 1], rfl, rfl, ?_, ?_⟩ <;> repeat' (first | exact trivial | exact rfl | exact Iff.rfl | apply And.intro)
      exact e.symm
end Go.Sx

namespace Go.Sx
open Go Go.Proofs
set_option maxRecDepth 10000
set_option maxHeartbeats 1000000
/-- What an act of the reference's press gives. -/
def RRs (m : Mac) (p : Pst) (L : List Disc) (k a b : Int) (r : AV) (m' : List (Option Blk)) : Prop :=
  (errD m p L k a b = 0 ∧ r = .tup [(outD m p L k).x, I 0] ∧ (m' = [some (bR 1 m (nextP m p k a b)), some (dRow (nextL m p L k))] ∨ m' = [some (bR 2 m (nextP m p k a b)), none, some (dRow (nextL m p L k))])) ∨
  (errD m p L k a b ≠ 0 ∧ r = .tup [d0.x, I (errD m p L k a b)] ∧ m' = [some (bR 1 m p), some (dRow L)])
theorem RRs.ok {m : Mac} {p : Pst} {L : List Disc} {k a b : Int} (e : errD m p L k a b = 0) {p' : Pst} {L' : List Disc} {d : Disc} (hp : p' = nextP m p k a b) (hL : L' = nextL m p L k) (hd : d = outD m p L k) :
    RRs m p L k a b (.tup [d.x, I 0]) [some (bR 1 m p'), some (dRow L')] := .inl ⟨e, by rw [hd], .inl (by rw [hp, hL])⟩
theorem RRs.ok2 {m : Mac} {p : Pst} {L : List Disc} {k a b : Int} (e : errD m p L k a b = 0) {p' : Pst} {L' : List Disc} {d : Disc} (hp : p' = nextP m p k a b) (hL : L' = nextL m p L k) (hd : d = outD m p L k) :
    RRs m p L k a b (.tup [d.x, I 0]) [some (bR 2 m p'), none, some (dRow L')] := .inl ⟨e, by rw [hd], .inr (by rw [hp, hL])⟩
theorem RRs.err {m : Mac} {p : Pst} {L : List Disc} {k a b : Int} (e : errD m p L k a b ≠ 0) :
    RRs m p L k a b (.tup [d0.x, I (errD m p L k a b)]) [some (bR 1 m p), some (dRow L)] := .inr ⟨e, rfl, rfl⟩
theorem s43 (m : Mac) : HSpec Try.prog 43 [m.x] [] (fun r m' => (¬ m.ok ∧ r = .tup [.one .nilp, I 2] ∧ m' = []) ∨ (m.ok ∧ r = .tup [.one (.ptr 0 0), I 0] ∧ m' = [some (bR 1 m ⟨false, false, 0, m.room, 0, 0, 0, 0, 0⟩), some (dRow [])])) := by
  by_cases hm : m.ok
  · have hc := Mac.chk0 hm
    refine spec_of pMix (O := []) Try.func43 (c := bodyOf Try.f43) rfl (by kernel_rfl) (by kernel_rfl) Try.ntmps43 (res := [.tmp 2, .tmp 3]) (by kernel_rfl) ?_
    repeat' (conv => whnf
             first
             | refine Rng.ok (by simp only [inR]; omega) ?_
             | refine Ob.mk (by first | omega | (simp; done) | decide | (simp; omega)) ?_
             | refine Ob.mk (show eqOK _ _ = true from by kernel_rfl) ?_
             | refine Ob.mk (show keyOK _ _ _ = true from by kernel_rfl) ?_
             | refine Val.mk _ (shr_val (by simp; rfl)) ?_
             | refine Ob.mk (Nat.le_of_ble_eq_true rfl) ?_
             | refine JoinVC.on ?_
             | refine Nils.mk (fun h => ?_) ?_
             | refine Val.mk _ (Int.tmod_eq_emod_of_nonneg (by omega)) ?_
             | refine Val.mk _ (Int.tdiv_eq_ediv_of_nonneg (by omega)) ?_
             | refine Mm.mk ?_
             | refine CallVC.pure rfl (s21 m) ?_
             | refine CallVC0.pure rfl (s21 m) ?_
             | (refine Br.mk (fun h => ?_) (fun h => ?_) <;> first | (exfalso; omega; done) | (exfalso; simp at h; done) | skip))
    repeat refine Mm.mk ?_
    conv => whnf
    refine EndVC.mk _ rfl _ _ (.inr ⟨hm, rfl, rfl⟩) ?_
    refine ⟨[some 1, none], rfl, rfl, ?_, ?_⟩ <;> repeat' (first | exact trivial | exact rfl | exact Iff.rfl | apply And.intro)
  · have hc := Mac.chk2 hm
    refine spec_of pMix (O := []) Try.func43 (c := bodyOf Try.f43) rfl (by kernel_rfl) (by kernel_rfl) Try.ntmps43 (res := [.tmp 2, .tmp 3]) (by kernel_rfl) ?_
    repeat' (conv => whnf
             first
             | refine Rng.ok (by simp only [inR]; omega) ?_
             | refine Ob.mk (by first | omega | (simp; done) | decide | (simp; omega)) ?_
             | refine Ob.mk (show eqOK _ _ = true from by kernel_rfl) ?_
             | refine Ob.mk (show keyOK _ _ _ = true from by kernel_rfl) ?_
             | refine Val.mk _ (shr_val (by simp; rfl)) ?_
             | refine Ob.mk (Nat.le_of_ble_eq_true rfl) ?_
             | refine JoinVC.on ?_
             | refine Nils.mk (fun h => ?_) ?_
             | refine Val.mk _ (Int.tmod_eq_emod_of_nonneg (by omega)) ?_
             | refine Val.mk _ (Int.tdiv_eq_ediv_of_nonneg (by omega)) ?_
             | refine Mm.mk ?_
             | refine CallVC.pure rfl (s21 m) ?_
             | refine CallVC0.pure rfl (s21 m) ?_
             | (refine Br.mk (fun h => ?_) (fun h => ?_) <;> first | (exfalso; omega; done) | (exfalso; simp at h; done) | skip))
    repeat refine Mm.mk ?_
    conv => whnf
    refine EndVC.mk _ rfl _ _ (.inl ⟨hm, rfl, rfl⟩) ?_
    refine ⟨[], rfl, rfl, ?_, ?_⟩ <;> repeat' (first | exact trivial | exact rfl | exact Iff.rfl | apply And.intro)
theorem s51 (m : Mac) (p : Pst) (L : List Disc) (hlen : L.length ≤ 1000) : HSpec Try.prog 51 [.one (.ptr 0 0)] [bR 1 m p, dRow L] (fun r m' => r = .x (.one (.ptr 2 0)) ∧ m' = [some (bR 1 m p), some (dRow L), some (bR 3 m p), some (dRow L)]) := by
  have lL := discA_len L
  refine spec_of pMix (O := [(1, ([8], [⟨0, [], []⟩, ⟨1, [], []⟩, ⟨2, [], []⟩, ⟨3, [], []⟩, ⟨4, [], []⟩, ⟨5, [], []⟩, ⟨6, [], []⟩, ⟨7, [], []⟩, ⟨9, [], []⟩, ⟨10, [], []⟩, ⟨11, [], []⟩, ⟨12, [], []⟩, ⟨8, [], []⟩, ⟨13, [0, 1, 2, 3, 4, 5, 6, 7], []⟩, ⟨14, [], []⟩, ⟨15, [], []⟩, ⟨16, [], []⟩]))]) Try.func51 (c := bodyOf Try.f51) rfl (by kernel_rfl) (by kernel_rfl) Try.ntmps51 (res := [.tmp 2]) (by kernel_rfl) ?_
  repeat' (conv => whnf
           first
           | refine Rng.ok (by simp only [inR]; omega) ?_
           | refine Ob.mk (by first | omega | (simp; done) | decide | (simp; omega)) ?_
           | refine Ob.mk (show eqOK _ _ = true from by kernel_rfl) ?_
           | refine Ob.mk (show keyOK _ _ _ = true from by kernel_rfl) ?_
           | refine Val.mk _ (shr_val (by simp; rfl)) ?_
           | refine Ob.mk (Nat.le_of_ble_eq_true rfl) ?_
           | refine JoinVC.on ?_
           | refine Nils.mk (fun h => ?_) ?_
           | refine Val.mk _ (Int.tmod_eq_emod_of_nonneg (by omega)) ?_
           | refine Val.mk _ (Int.tdiv_eq_ediv_of_nonneg (by omega)) ?_
           | refine Mm.mk ?_
           | (refine Br.mk (fun h => ?_) (fun h => ?_) <;> first | (exfalso; omega; done) | (exfalso; simp at h; done) | skip))
  repeat refine Mm.mk ?_
  refine Ob.mk (by simp only [lL, eb70, List.length_nil]; omega) ?_
  repeat' (conv => whnf
           first
           | refine Rng.ok (by simp only [inR]; omega) ?_
           | refine Ob.mk (by first | omega | (simp; done) | decide | (simp; omega)) ?_
           | refine Ob.mk (show eqOK _ _ = true from by kernel_rfl) ?_
           | refine Ob.mk (show keyOK _ _ _ = true from by kernel_rfl) ?_
           | refine Val.mk _ (shr_val (by simp; rfl)) ?_
           | refine Ob.mk (Nat.le_of_ble_eq_true rfl) ?_
           | refine JoinVC.on ?_
           | refine Nils.mk (fun h => ?_) ?_
           | refine Val.mk _ (Int.tmod_eq_emod_of_nonneg (by omega)) ?_
           | refine Val.mk _ (Int.tdiv_eq_ediv_of_nonneg (by omega)) ?_
           | refine Mm.mk ?_
           | (refine Br.mk (fun h => ?_) (fun h => ?_) <;> first | (exfalso; omega; done) | (exfalso; simp at h; done) | skip))
  repeat refine Mm.mk ?_
  refine EndVC.mk _ rfl _ _ ⟨rfl, rfl⟩ ?_
  refine ⟨[some 0, some 1, some 4, some 3], rfl, rfl, ?_, ?_⟩ <;> repeat' (first | exact trivial | exact rfl | exact Iff.rfl | apply And.intro)
@[reducible] def bS (p : Pst) : Blk := .box 78 [.bool p.cl, .bool p.ld, .int .i64 p.v, .int .i64 p.t, .int .i64 p.h, .int .i64 p.pk, .int .i64 p.tm, .int .i64 p.a, .int .i64 p.b]
theorem s44 (m : Mac) (p : Pst) (L : List Disc) (hI : PInv m p L) (k a b : Int) :
    HSpec Try.prog 44 [.one (.ptr 0 0), .agg [.int .i64 k, .int .i64 a, .int .i64 b]] [bR 1 m p, dRow L] (RRs m p L k a b) := by
  by_cases e : errD m p L k a b = 0
  · have hk6 : k = 1 ∨ k = 2 ∨ k = 3 ∨ k = 4 ∨ k = 5 ∨ k = 6 := by
      unfold errD at e
      by_cases h : k = 1 ∨ k = 2 ∨ k = 3 ∨ k = 4 ∨ k = 5 ∨ k = 6
      · exact h
      · rw [if_neg (by omega), if_neg (by omega), if_neg (by omega), if_neg (by omega), if_neg (by omega), if_neg (by omega)] at e; cases e
    rcases hk6 with rfl | rfl | rfl | rfl | rfl | rfl
    · refine spec_of pMix (O := [(7, ([], [⟨0, [], []⟩, ⟨1, [], []⟩, ⟨2, [], []⟩, ⟨3, [], []⟩, ⟨4, [], []⟩, ⟨5, [2, 3], []⟩, ⟨6, [], []⟩, ⟨7, [], []⟩])), (27, ([25], [⟨0, [], []⟩, ⟨1, [], []⟩, ⟨2, [], []⟩, ⟨3, [], []⟩, ⟨4, [], []⟩, ⟨5, [], []⟩, ⟨6, [], []⟩, ⟨7, [], []⟩, ⟨8, [], []⟩, ⟨9, [], []⟩, ⟨10, [], []⟩, ⟨11, [], []⟩, ⟨12, [], []⟩, ⟨13, [], []⟩, ⟨14, [], []⟩, ⟨15, [], []⟩, ⟨16, [], []⟩, ⟨17, [], []⟩, ⟨18, [], []⟩, ⟨19, [], []⟩, ⟨20, [], []⟩, ⟨21, [], []⟩, ⟨22, [], []⟩, ⟨23, [], []⟩, ⟨24, [], []⟩, ⟨25, [], []⟩, ⟨26, [], []⟩])), (28, ([1], [⟨0, [], []⟩, ⟨2, [], []⟩, ⟨3, [], []⟩, ⟨4, [], []⟩, ⟨5, [], []⟩, ⟨7, [], [8]⟩, ⟨1, [], []⟩, ⟨6, [0, 7], []⟩, ⟨8, [], []⟩, ⟨9, [0], []⟩, ⟨10, [], []⟩, ⟨11, [], []⟩, ⟨12, [], []⟩]))]) Try.func44 (c := bodyOf Try.f44) rfl (by kernel_rfl) (by kernel_rfl) Try.ntmps44 (res := [.cell 4 70, .tmp 5]) (by kernel_rfl) ?_
      repeat' (conv => whnf
               first
               | refine Rng.ok (by simp only [inR]; omega) ?_
               | refine Ob.mk (by first | omega | (simp; done) | decide | (simp; omega)) ?_
               | refine Ob.mk (show eqOK _ _ = true from by kernel_rfl) ?_
               | refine Ob.mk (show keyOK _ _ _ = true from by kernel_rfl) ?_
               | refine Val.mk _ (shr_val (by simp; rfl)) ?_
               | refine Ob.mk (Nat.le_of_ble_eq_true rfl) ?_
               | refine JoinVC.on ?_
               | refine Nils.mk (fun h => ?_) ?_
               | refine Val.mk _ (Int.tmod_eq_emod_of_nonneg (by omega)) ?_
               | refine Val.mk _ (Int.tdiv_eq_ediv_of_nonneg (by omega)) ?_
               | refine Mm.mk ?_
               | (refine Br.mk (fun h => ?_) (fun h => ?_) <;> first | (exfalso; omega; done) | (exfalso; simp at h; done) | skip))
      conv => whnf
      refine CallVC.mk [0, 1] _ _ _ rfl rfl rfl (s87 m p L hI.len hI.tm 1 a b) (fun r m' h' => ?_)
      obtain ⟨rfl, rfl⟩ := h'
      conv => whnf
      repeat' (conv => whnf
               first
               | refine Rng.ok (by simp only [inR]; omega) ?_
               | refine Ob.mk (by first | omega | (simp; done) | decide | (simp; omega)) ?_
               | refine Ob.mk (show eqOK _ _ = true from by kernel_rfl) ?_
               | refine Ob.mk (show keyOK _ _ _ = true from by kernel_rfl) ?_
               | refine Val.mk _ (shr_val (by simp; rfl)) ?_
               | refine Ob.mk (Nat.le_of_ble_eq_true rfl) ?_
               | refine JoinVC.on ?_
               | refine Nils.mk (fun h => ?_) ?_
               | refine Val.mk _ (Int.tmod_eq_emod_of_nonneg (by omega)) ?_
               | refine Val.mk _ (Int.tdiv_eq_ediv_of_nonneg (by omega)) ?_
               | refine Mm.mk ?_
               | (refine Br.mk (fun h => ?_) (fun h => ?_) <;> first | (exfalso; omega; done) | (exfalso; simp at h; done) | skip))
      repeat refine Mm.mk ?_
      conv => whnf
      refine EndVC.mk _ rfl _ _ (RRs.ok e (p' := { p with a := a, b := b }) (L' := L) (d := d0) rfl rfl rfl) ?_
      refine ⟨[some 0, some 1], rfl, rfl, ?_, ?_⟩ <;> repeat' (first | exact trivial | exact rfl | exact Iff.rfl | apply And.intro)
    · refine spec_of pMix (O := [(7, ([], [⟨0, [], []⟩, ⟨1, [], []⟩, ⟨2, [], []⟩, ⟨3, [], []⟩, ⟨4, [], []⟩, ⟨5, [2, 3], []⟩, ⟨6, [], []⟩, ⟨7, [], []⟩])), (27, ([25], [⟨0, [], []⟩, ⟨1, [], []⟩, ⟨2, [], []⟩, ⟨3, [], []⟩, ⟨4, [], []⟩, ⟨5, [], []⟩, ⟨6, [], []⟩, ⟨7, [], []⟩, ⟨8, [], []⟩, ⟨9, [], []⟩, ⟨10, [], []⟩, ⟨11, [], []⟩, ⟨12, [], []⟩, ⟨13, [], []⟩, ⟨14, [], []⟩, ⟨15, [], []⟩, ⟨16, [], []⟩, ⟨17, [], []⟩, ⟨18, [], []⟩, ⟨19, [], []⟩, ⟨20, [], []⟩, ⟨21, [], []⟩, ⟨22, [], []⟩, ⟨23, [], []⟩, ⟨24, [], []⟩, ⟨25, [], []⟩, ⟨26, [], []⟩])), (28, ([1], [⟨0, [], []⟩, ⟨2, [], []⟩, ⟨3, [], []⟩, ⟨4, [], []⟩, ⟨5, [], []⟩, ⟨7, [], [8]⟩, ⟨1, [], []⟩, ⟨6, [0, 7], []⟩, ⟨8, [], []⟩, ⟨9, [0], []⟩, ⟨10, [], []⟩, ⟨11, [], []⟩, ⟨12, [], []⟩]))]) Try.func44 (c := bodyOf Try.f44) rfl (by kernel_rfl) (by kernel_rfl) Try.ntmps44 (res := [.cell 4 70, .tmp 5]) (by kernel_rfl) ?_
      repeat' (conv => whnf
               first
               | refine Rng.ok (by simp only [inR]; omega) ?_
               | refine Ob.mk (by first | omega | (simp; done) | decide | (simp; omega)) ?_
               | refine Ob.mk (show eqOK _ _ = true from by kernel_rfl) ?_
               | refine Ob.mk (show keyOK _ _ _ = true from by kernel_rfl) ?_
               | refine Val.mk _ (shr_val (by simp; rfl)) ?_
               | refine Ob.mk (Nat.le_of_ble_eq_true rfl) ?_
               | refine JoinVC.on ?_
               | refine Nils.mk (fun h => ?_) ?_
               | refine Val.mk _ (Int.tmod_eq_emod_of_nonneg (by omega)) ?_
               | refine Val.mk _ (Int.tdiv_eq_ediv_of_nonneg (by omega)) ?_
               | refine Mm.mk ?_
               | (refine Br.mk (fun h => ?_) (fun h => ?_) <;> first | (exfalso; omega; done) | (exfalso; simp at h; done) | skip))
      conv => whnf
      refine CallVC.mk [0, 1] _ _ _ rfl rfl rfl (s87 m p L hI.len hI.tm 2 a b) (fun r m' h' => ?_)
      obtain ⟨rfl, rfl⟩ := h'
      conv => whnf
      repeat' (conv => whnf
               first
               | refine Rng.ok (by simp only [inR]; omega) ?_
               | refine Ob.mk (by first | omega | (simp; done) | decide | (simp; omega)) ?_
               | refine Ob.mk (show eqOK _ _ = true from by kernel_rfl) ?_
               | refine Ob.mk (show keyOK _ _ _ = true from by kernel_rfl) ?_
               | refine Val.mk _ (shr_val (by simp; rfl)) ?_
               | refine Ob.mk (Nat.le_of_ble_eq_true rfl) ?_
               | refine JoinVC.on ?_
               | refine Nils.mk (fun h => ?_) ?_
               | refine Val.mk _ (Int.tmod_eq_emod_of_nonneg (by omega)) ?_
               | refine Val.mk _ (Int.tdiv_eq_ediv_of_nonneg (by omega)) ?_
               | refine Mm.mk ?_
               | (refine Br.mk (fun h => ?_) (fun h => ?_) <;> first | (exfalso; omega; done) | (exfalso; simp at h; done) | skip))
      repeat refine Mm.mk ?_
      conv => whnf
      refine EndVC.mk _ rfl _ _ (RRs.ok e (p' := { p with ld := true }) (L' := L) (d := d0) rfl rfl rfl) ?_
      refine ⟨[some 0, some 1], rfl, rfl, ?_, ?_⟩ <;> repeat' (first | exact trivial | exact rfl | exact Iff.rfl | apply And.intro)
    · refine spec_of pMix (O := [(7, ([], [⟨0, [], []⟩, ⟨1, [], []⟩, ⟨2, [], []⟩, ⟨3, [], []⟩, ⟨4, [], []⟩, ⟨5, [2, 3], []⟩, ⟨6, [], []⟩, ⟨7, [], []⟩])), (27, ([25], [⟨0, [], []⟩, ⟨1, [], []⟩, ⟨2, [], []⟩, ⟨3, [], []⟩, ⟨4, [], []⟩, ⟨5, [], []⟩, ⟨6, [], []⟩, ⟨7, [], []⟩, ⟨8, [], []⟩, ⟨9, [], []⟩, ⟨10, [], []⟩, ⟨11, [], []⟩, ⟨12, [], []⟩, ⟨13, [], []⟩, ⟨14, [], []⟩, ⟨15, [], []⟩, ⟨16, [], []⟩, ⟨17, [], []⟩, ⟨18, [], []⟩, ⟨19, [], []⟩, ⟨20, [], []⟩, ⟨21, [], []⟩, ⟨22, [], []⟩, ⟨23, [], []⟩, ⟨24, [], []⟩, ⟨25, [], []⟩, ⟨26, [], []⟩])), (28, ([1], [⟨0, [], []⟩, ⟨2, [], []⟩, ⟨3, [], []⟩, ⟨4, [], []⟩, ⟨5, [], []⟩, ⟨7, [], [8]⟩, ⟨1, [], []⟩, ⟨6, [0, 7], []⟩, ⟨8, [], []⟩, ⟨9, [0], []⟩, ⟨10, [], []⟩, ⟨11, [], []⟩, ⟨12, [], []⟩]))]) Try.func44 (c := bodyOf Try.f44) rfl (by kernel_rfl) (by kernel_rfl) Try.ntmps44 (res := [.cell 4 70, .tmp 5]) (by kernel_rfl) ?_
      repeat' (conv => whnf
               first
               | refine Rng.ok (by simp only [inR]; omega) ?_
               | refine Ob.mk (by first | omega | (simp; done) | decide | (simp; omega)) ?_
               | refine Ob.mk (show eqOK _ _ = true from by kernel_rfl) ?_
               | refine Ob.mk (show keyOK _ _ _ = true from by kernel_rfl) ?_
               | refine Val.mk _ (shr_val (by simp; rfl)) ?_
               | refine Ob.mk (Nat.le_of_ble_eq_true rfl) ?_
               | refine JoinVC.on ?_
               | refine Nils.mk (fun h => ?_) ?_
               | refine Val.mk _ (Int.tmod_eq_emod_of_nonneg (by omega)) ?_
               | refine Val.mk _ (Int.tdiv_eq_ediv_of_nonneg (by omega)) ?_
               | refine Mm.mk ?_
               | (refine Br.mk (fun h => ?_) (fun h => ?_) <;> first | (exfalso; omega; done) | (exfalso; simp at h; done) | skip))
      conv => whnf
      refine CallVC.mk [0, 1] _ _ _ rfl rfl rfl (s87 m p L hI.len hI.tm 3 a b) (fun r m' h' => ?_)
      obtain ⟨rfl, rfl⟩ := h'
      conv => whnf
      repeat' (conv => whnf
               first
               | refine Rng.ok (by simp only [inR]; omega) ?_
               | refine Ob.mk (by first | omega | (simp; done) | decide | (simp; omega)) ?_
               | refine Ob.mk (show eqOK _ _ = true from by kernel_rfl) ?_
               | refine Ob.mk (show keyOK _ _ _ = true from by kernel_rfl) ?_
               | refine Val.mk _ (shr_val (by simp; rfl)) ?_
               | refine Ob.mk (Nat.le_of_ble_eq_true rfl) ?_
               | refine JoinVC.on ?_
               | refine Nils.mk (fun h => ?_) ?_
               | refine Val.mk _ (Int.tmod_eq_emod_of_nonneg (by omega)) ?_
               | refine Val.mk _ (Int.tdiv_eq_ediv_of_nonneg (by omega)) ?_
               | refine Mm.mk ?_
               | (refine Br.mk (fun h => ?_) (fun h => ?_) <;> first | (exfalso; omega; done) | (exfalso; simp at h; done) | skip))
      repeat refine Mm.mk ?_
      conv => whnf
      refine EndVC.mk _ rfl _ _ (RRs.ok e (p' := { p with cl := true, h := 0, pk := p.t }) (L' := L) (d := d0) rfl rfl rfl) ?_
      refine ⟨[some 0, some 1], rfl, rfl, ?_, ?_⟩ <;> repeat' (first | exact trivial | exact rfl | exact Iff.rfl | apply And.intro)
    · refine spec_of pMix (O := [(7, ([], [⟨0, [], []⟩, ⟨1, [], []⟩, ⟨2, [], []⟩, ⟨3, [], []⟩, ⟨4, [], []⟩, ⟨5, [2, 3], []⟩, ⟨6, [], []⟩, ⟨7, [], []⟩])), (27, ([25], [⟨0, [], []⟩, ⟨1, [], []⟩, ⟨2, [], []⟩, ⟨3, [], []⟩, ⟨4, [], []⟩, ⟨5, [], []⟩, ⟨6, [], []⟩, ⟨7, [], []⟩, ⟨8, [], []⟩, ⟨9, [], []⟩, ⟨10, [], []⟩, ⟨11, [], []⟩, ⟨12, [], []⟩, ⟨13, [], []⟩, ⟨14, [], []⟩, ⟨15, [], []⟩, ⟨16, [], []⟩, ⟨17, [], []⟩, ⟨18, [], []⟩, ⟨19, [], []⟩, ⟨20, [], []⟩, ⟨21, [], []⟩, ⟨22, [], []⟩, ⟨23, [], []⟩, ⟨24, [], []⟩, ⟨25, [], []⟩, ⟨26, [], []⟩])), (28, ([1], [⟨0, [], []⟩, ⟨2, [], []⟩, ⟨3, [], []⟩, ⟨4, [], []⟩, ⟨5, [], []⟩, ⟨7, [], [8]⟩, ⟨1, [], []⟩, ⟨6, [0, 7], []⟩, ⟨8, [], []⟩, ⟨9, [0], []⟩, ⟨10, [], []⟩, ⟨11, [], []⟩, ⟨12, [], []⟩]))]) Try.func44 (c := bodyOf Try.f44) rfl (by kernel_rfl) (by kernel_rfl) Try.ntmps44 (res := [.cell 4 70, .tmp 5]) (by kernel_rfl) ?_
      repeat' (conv => whnf
               first
               | refine Rng.ok (by simp only [inR]; omega) ?_
               | refine Ob.mk (by first | omega | (simp; done) | decide | (simp; omega)) ?_
               | refine Ob.mk (show eqOK _ _ = true from by kernel_rfl) ?_
               | refine Ob.mk (show keyOK _ _ _ = true from by kernel_rfl) ?_
               | refine Val.mk _ (shr_val (by simp; rfl)) ?_
               | refine Ob.mk (Nat.le_of_ble_eq_true rfl) ?_
               | refine JoinVC.on ?_
               | refine Nils.mk (fun h => ?_) ?_
               | refine Val.mk _ (Int.tmod_eq_emod_of_nonneg (by omega)) ?_
               | refine Val.mk _ (Int.tdiv_eq_ediv_of_nonneg (by omega)) ?_
               | refine Mm.mk ?_
               | (refine Br.mk (fun h => ?_) (fun h => ?_) <;> first | (exfalso; omega; done) | (exfalso; simp at h; done) | skip))
      conv => whnf
      refine CallVC.mk [0, 1] _ _ _ rfl rfl rfl (s87 m p L hI.len hI.tm 4 a b) (fun r m' h' => ?_)
      obtain ⟨rfl, rfl⟩ := h'
      conv => whnf
      repeat' (conv => whnf
               first
               | refine Rng.ok (by simp only [inR]; omega) ?_
               | refine Ob.mk (by first | omega | (simp; done) | decide | (simp; omega)) ?_
               | refine Ob.mk (show eqOK _ _ = true from by kernel_rfl) ?_
               | refine Ob.mk (show keyOK _ _ _ = true from by kernel_rfl) ?_
               | refine Val.mk _ (shr_val (by simp; rfl)) ?_
               | refine Ob.mk (Nat.le_of_ble_eq_true rfl) ?_
               | refine JoinVC.on ?_
               | refine Nils.mk (fun h => ?_) ?_
               | refine Val.mk _ (Int.tmod_eq_emod_of_nonneg (by omega)) ?_
               | refine Val.mk _ (Int.tdiv_eq_ediv_of_nonneg (by omega)) ?_
               | refine Mm.mk ?_
               | (refine Br.mk (fun h => ?_) (fun h => ?_) <;> first | (exfalso; omega; done) | (exfalso; simp at h; done) | skip))
      repeat refine Mm.mk ?_
      conv => whnf
      refine EndVC.mk _ rfl _ _ (RRs.ok e (p' := { p with v := a }) (L' := L) (d := d0) rfl rfl rfl) ?_
      refine ⟨[some 0, some 1], rfl, rfl, ?_, ?_⟩ <;> repeat' (first | exact trivial | exact rfl | exact Iff.rfl | apply And.intro)
    · have e5 := e
      rw [errD5] at e5
      have a1 : ¬ (a < 1 ∨ 1000 < a) := fun h => by rw [if_pos h] at e5; cases e5
      rw [if_neg a1] at e5
      have a2 : ¬ 1073741824 < p.tm + a := fun h => by rw [if_pos h] at e5; cases e5
      have htm := hI.tm
      have hh := hI.h
      have hm := hI.ok
      refine spec_of pMix (O := [(7, ([], [⟨0, [], []⟩, ⟨1, [], []⟩, ⟨2, [], []⟩, ⟨3, [], []⟩, ⟨4, [], []⟩, ⟨5, [2, 3], []⟩, ⟨6, [], []⟩, ⟨7, [], []⟩])), (27, ([25], [⟨0, [], []⟩, ⟨1, [], []⟩, ⟨2, [], []⟩, ⟨3, [], []⟩, ⟨4, [], []⟩, ⟨5, [], []⟩, ⟨6, [], []⟩, ⟨7, [], []⟩, ⟨8, [], []⟩, ⟨9, [], []⟩, ⟨10, [], []⟩, ⟨11, [], []⟩, ⟨12, [], []⟩, ⟨13, [], []⟩, ⟨14, [], []⟩, ⟨15, [], []⟩, ⟨16, [], []⟩, ⟨17, [], []⟩, ⟨18, [], []⟩, ⟨19, [], []⟩, ⟨20, [], []⟩, ⟨21, [], []⟩, ⟨22, [], []⟩, ⟨23, [], []⟩, ⟨24, [], []⟩, ⟨25, [], []⟩, ⟨26, [], []⟩])), (28, ([1], [⟨0, [], []⟩, ⟨2, [], []⟩, ⟨3, [], []⟩, ⟨4, [], []⟩, ⟨5, [], []⟩, ⟨7, [], [8]⟩, ⟨1, [], []⟩, ⟨6, [0, 7], []⟩, ⟨8, [], []⟩, ⟨9, [0], []⟩, ⟨10, [], []⟩, ⟨11, [], []⟩, ⟨12, [], []⟩]))]) Try.func44 (c := bodyOf Try.f44) rfl (by kernel_rfl) (by kernel_rfl) Try.ntmps44 (res := [.cell 4 70, .tmp 5]) (by kernel_rfl) ?_
      repeat' (conv => whnf
               first
               | refine Rng.ok (by simp only [inR]; omega) ?_
               | refine Ob.mk (by first | omega | (simp; done) | decide | (simp; omega)) ?_
               | refine Ob.mk (show eqOK _ _ = true from by kernel_rfl) ?_
               | refine Ob.mk (show keyOK _ _ _ = true from by kernel_rfl) ?_
               | refine Val.mk _ (shr_val (by simp; rfl)) ?_
               | refine Ob.mk (Nat.le_of_ble_eq_true rfl) ?_
               | refine JoinVC.on ?_
               | refine Nils.mk (fun h => ?_) ?_
               | refine Val.mk _ (Int.tmod_eq_emod_of_nonneg (by omega)) ?_
               | refine Val.mk _ (Int.tdiv_eq_ediv_of_nonneg (by omega)) ?_
               | refine Mm.mk ?_
               | (refine Br.mk (fun h => ?_) (fun h => ?_) <;> first | (exfalso; omega; done) | (exfalso; simp at h; done) | skip))
      conv => whnf
      refine CallVC.mk [0, 1] _ _ _ rfl rfl rfl (s87 m p L hI.len hI.tm 5 a b) (fun r m' h' => ?_)
      obtain ⟨rfl, rfl⟩ := h'
      conv => whnf
      repeat' (conv => whnf
               first
               | refine Rng.ok (by simp only [inR]; omega) ?_
               | refine Ob.mk (by first | omega | (simp; done) | decide | (simp; omega)) ?_
               | refine Ob.mk (show eqOK _ _ = true from by kernel_rfl) ?_
               | refine Ob.mk (show keyOK _ _ _ = true from by kernel_rfl) ?_
               | refine Val.mk _ (shr_val (by simp; rfl)) ?_
               | refine Ob.mk (Nat.le_of_ble_eq_true rfl) ?_
               | refine JoinVC.on ?_
               | refine Nils.mk (fun h => ?_) ?_
               | refine Val.mk _ (Int.tmod_eq_emod_of_nonneg (by omega)) ?_
               | refine Val.mk _ (Int.tdiv_eq_ediv_of_nonneg (by omega)) ?_
               | refine Mm.mk ?_
               | (refine Br.mk (fun h => ?_) (fun h => ?_) <;> first | (exfalso; omega; done) | (exfalso; simp at h; done) | skip))
      refine LoopVC.mk (fun n st => ∃ i : Nat, (i : Int) ≤ a ∧ n = a.toNat - i ∧ st = ⟨2, envA 141 [(0, .x (.one (.ptr 0 0))), (3, .x (.one (.ptr 2 0))), (4, .x (.one (.ptr 3 0))), (7, .x (.one (.ptr 4 0))), (8, .int .i64 (i : Int)), (22, .int .i64 5)], [some (bR 1 m p), some (dRow L), some (.box 74 [.int .i64 5, .int .i64 a, .int .i64 b]), some (.box 70 [.int .i64 0, .int .i64 0, .int .i64 0, .int .i64 0, .int .i64 0, .int .i64 0, .ff]), some (bS (waitS m i { p with tm := p.tm + a }))]⟩) _ _ ⟨0, by omega, rfl, rfl⟩ ?_ ?_
      · refine ⟨[some 0, some 1, some 2, some 3, some 4], rfl, rfl, ?_, ?_⟩ <;> repeat' (first | exact trivial | exact rfl | exact Iff.rfl | apply And.intro)
      rintro n _ ⟨i, hi, hn, rfl⟩
      have hW := waitK hm (p := { p with tm := p.tm + a }) hI.t i
      obtain ⟨w1, w2, w3, w4, w5, w6, w7, w8, w9⟩ := hW
      simp only at w1 w2 w3 w4 w5 w6 w7 w8 w9
      obtain ⟨q, hq⟩ : ∃ q, q = waitS m i { p with tm := p.tm + a } := ⟨_, rfl⟩
      rw [← hq] at w1 w2 w3 w4 w5 w6 w7 w8 w9 ⊢
      have hq1 : waitS m (i + 1) { p with tm := p.tm + a } = tickS m q := by rw [waitS, hq]
      have hb := tickF_bd hm (v := q.v) w7
      have b3 : 0 ≤ m.room ∧ m.top ≤ 400 := ⟨hm.1, hm.2.2.2.2.1⟩
      by_cases hi' : (i : Int) < a
      · by_cases c1 : q.cl = true
        all_goals by_cases c2 : m.melt ≤ tickF m q.t q.v
        all_goals
          repeat' (conv => whnf
                   first
                   | refine Rng.ok (by simp only [inR]; omega) ?_
                   | refine Ob.mk (by first | omega | (simp; done) | decide | (simp; omega)) ?_
                   | refine Ob.mk (show eqOK _ _ = true from by kernel_rfl) ?_
                   | refine Ob.mk (show keyOK _ _ _ = true from by kernel_rfl) ?_
                   | refine Val.mk _ (shr_val (by simp; rfl)) ?_
                   | refine Ob.mk (Nat.le_of_ble_eq_true rfl) ?_
                   | refine JoinVC.on ?_
                   | refine Nils.mk (fun h => ?_) ?_
                   | refine Val.mk _ (Int.tmod_eq_emod_of_nonneg (by omega)) ?_
                   | refine Val.mk _ (Int.tdiv_eq_ediv_of_nonneg (by omega)) ?_
                   | refine Mm.mk ?_
                   | refine CallVC.pure rfl (s59 m q.t q.v hm w7.1 w7.2) ?_
                   | refine CallVC0.pure rfl (s59 m q.t q.v hm w7.1 w7.2) ?_
                   | (refine Br.mk (fun h => ?_) (fun h => ?_) <;> first | (exfalso; omega; done) | (exfalso; simp at h; done) | skip))
        all_goals
          refine Back.mk (a.toNat - (i + 1)) _ (by omega) ⟨i + 1, by omega, rfl, rfl⟩ ?_
          refine ⟨[some 0, some 1, some 2, some 3, some 4], rfl, rfl, ?_, ?_⟩ <;> repeat' (first | exact trivial | exact rfl | exact Iff.rfl | apply And.intro)
        all_goals
          rw [hq1]
        all_goals
          first
          | rfl
          | (simp only [tickS, c1, c2, if_true, if_false, and_true, and_false] <;> first | rfl | omega | (split <;> omega))
          | exact absurd ‹q.cl = true› c1
          | exact absurd c1 ‹¬ q.cl = true›
          | exact absurd c2 ‹¬ m.melt ≤ tickF m q.t q.v›
          | exact absurd ‹m.melt ≤ tickF m q.t q.v› c2
      · have hia : i = a.toNat := by omega
        repeat' (conv => whnf
                 first
                 | refine Rng.ok (by simp only [inR]; omega) ?_
                 | refine Ob.mk (by first | omega | (simp; done) | decide | (simp; omega)) ?_
                 | refine Ob.mk (show eqOK _ _ = true from by kernel_rfl) ?_
                 | refine Ob.mk (show keyOK _ _ _ = true from by kernel_rfl) ?_
                 | refine Val.mk _ (shr_val (by simp; rfl)) ?_
                 | refine Ob.mk (Nat.le_of_ble_eq_true rfl) ?_
                 | refine JoinVC.on ?_
                 | refine Nils.mk (fun h => ?_) ?_
                 | refine Val.mk _ (Int.tmod_eq_emod_of_nonneg (by omega)) ?_
                 | refine Val.mk _ (Int.tdiv_eq_ediv_of_nonneg (by omega)) ?_
                 | refine Mm.mk ?_
                 | (refine Br.mk (fun h => ?_) (fun h => ?_) <;> first | (exfalso; omega; done) | (exfalso; simp at h; done) | skip))
        repeat refine Mm.mk ?_
        conv => whnf
        refine EndVC.mk _ rfl _ _ (RRs.ok e (p' := q) (L' := L) (d := d0) (by rw [hq, hia]; rfl) rfl rfl) ?_
        refine ⟨[some 0, some 1], rfl, rfl, ?_, ?_⟩ <;> repeat' (first | exact trivial | exact rfl | exact Iff.rfl | apply And.intro)
    · have e6 := e
      rw [errD6] at e6
      have hcl : p.cl = true := by
        by_cases h : p.cl = true
        · exact h
        · rw [if_pos h] at e6; cases e6
      have hlt := hI.lt (hI.cl hcl)
      have lL := discA_len L
      refine spec_of pMix (O := [(7, ([], [⟨0, [], []⟩, ⟨1, [], []⟩, ⟨2, [], []⟩, ⟨3, [], []⟩, ⟨4, [], []⟩, ⟨5, [2, 3], []⟩, ⟨6, [], []⟩, ⟨7, [], []⟩])), (27, ([25], [⟨0, [], []⟩, ⟨1, [], []⟩, ⟨2, [], []⟩, ⟨3, [], []⟩, ⟨4, [], []⟩, ⟨5, [], []⟩, ⟨6, [], []⟩, ⟨7, [], []⟩, ⟨8, [], []⟩, ⟨9, [], []⟩, ⟨10, [], []⟩, ⟨11, [], []⟩, ⟨12, [], []⟩, ⟨13, [], []⟩, ⟨14, [], []⟩, ⟨15, [], []⟩, ⟨16, [], []⟩, ⟨17, [], []⟩, ⟨18, [], []⟩, ⟨19, [], []⟩, ⟨20, [], []⟩, ⟨21, [], []⟩, ⟨22, [], []⟩, ⟨23, [], []⟩, ⟨24, [], []⟩, ⟨25, [], []⟩, ⟨26, [], []⟩])), (28, ([1], [⟨0, [], []⟩, ⟨2, [], []⟩, ⟨3, [], []⟩, ⟨4, [], []⟩, ⟨5, [], []⟩, ⟨7, [], [8]⟩, ⟨1, [], []⟩, ⟨6, [0, 7], []⟩, ⟨8, [], []⟩, ⟨9, [0], []⟩, ⟨10, [], []⟩, ⟨11, [], []⟩, ⟨12, [], []⟩]))]) Try.func44 (c := bodyOf Try.f44) rfl (by kernel_rfl) (by kernel_rfl) Try.ntmps44 (res := [.cell 4 70, .tmp 5]) (by kernel_rfl) ?_
      repeat' (conv => whnf
               first
               | refine Rng.ok (by simp only [inR]; omega) ?_
               | refine Ob.mk (by first | omega | (simp; done) | decide | (simp; omega)) ?_
               | refine Ob.mk (show eqOK _ _ = true from by kernel_rfl) ?_
               | refine Ob.mk (show keyOK _ _ _ = true from by kernel_rfl) ?_
               | refine Val.mk _ (shr_val (by simp; rfl)) ?_
               | refine Ob.mk (Nat.le_of_ble_eq_true rfl) ?_
               | refine JoinVC.on ?_
               | refine Nils.mk (fun h => ?_) ?_
               | refine Val.mk _ (Int.tmod_eq_emod_of_nonneg (by omega)) ?_
               | refine Val.mk _ (Int.tdiv_eq_ediv_of_nonneg (by omega)) ?_
               | refine Mm.mk ?_
               | (refine Br.mk (fun h => ?_) (fun h => ?_) <;> first | (exfalso; omega; done) | (exfalso; simp at h; done) | skip))
      conv => whnf
      refine CallVC.mk [0, 1] _ _ _ rfl rfl rfl (s87 m p L hI.len hI.tm 6 a b) (fun r m' h' => ?_)
      obtain ⟨rfl, rfl⟩ := h'
      conv => whnf
      repeat' (conv => whnf
               first
               | refine Rng.ok (by simp only [inR]; omega) ?_
               | refine Ob.mk (by first | omega | (simp; done) | decide | (simp; omega)) ?_
               | refine Ob.mk (show eqOK _ _ = true from by kernel_rfl) ?_
               | refine Ob.mk (show keyOK _ _ _ = true from by kernel_rfl) ?_
               | refine Val.mk _ (shr_val (by simp; rfl)) ?_
               | refine Ob.mk (Nat.le_of_ble_eq_true rfl) ?_
               | refine JoinVC.on ?_
               | refine Nils.mk (fun h => ?_) ?_
               | refine Val.mk _ (Int.tmod_eq_emod_of_nonneg (by omega)) ?_
               | refine Val.mk _ (Int.tdiv_eq_ediv_of_nonneg (by omega)) ?_
               | refine Mm.mk ?_
               | (refine Br.mk (fun h => ?_) (fun h => ?_) <;> first | (exfalso; omega; done) | (exfalso; simp at h; done) | skip))
      repeat refine Mm.mk ?_
      refine Ob.mk (by simp only [lL, eb70, List.length_nil]; omega) ?_
      repeat' (conv => whnf
               first
               | refine Rng.ok (by simp only [inR]; omega) ?_
               | refine Ob.mk (by first | omega | (simp; done) | decide | (simp; omega)) ?_
               | refine Ob.mk (show eqOK _ _ = true from by kernel_rfl) ?_
               | refine Ob.mk (show keyOK _ _ _ = true from by kernel_rfl) ?_
               | refine Val.mk _ (shr_val (by simp; rfl)) ?_
               | refine Ob.mk (Nat.le_of_ble_eq_true rfl) ?_
               | refine JoinVC.on ?_
               | refine Nils.mk (fun h => ?_) ?_
               | refine Val.mk _ (Int.tmod_eq_emod_of_nonneg (by omega)) ?_
               | refine Val.mk _ (Int.tdiv_eq_ediv_of_nonneg (by omega)) ?_
               | refine Mm.mk ?_
               | (refine Br.mk (fun h => ?_) (fun h => ?_) <;> first | (exfalso; omega; done) | (exfalso; simp at h; done) | skip))
      repeat refine Mm.mk ?_
      refine Ob.mk (by simp only [lL, eb70, List.length_cons, List.length_nil, List.length_append]; omega) ?_
      repeat' (conv => whnf
               first
               | refine Rng.ok (by simp only [inR]; omega) ?_
               | refine Ob.mk (by first | omega | (simp; done) | decide | (simp; omega)) ?_
               | refine Ob.mk (show eqOK _ _ = true from by kernel_rfl) ?_
               | refine Ob.mk (show keyOK _ _ _ = true from by kernel_rfl) ?_
               | refine Val.mk _ (shr_val (by simp; rfl)) ?_
               | refine Ob.mk (Nat.le_of_ble_eq_true rfl) ?_
               | refine JoinVC.on ?_
               | refine Nils.mk (fun h => ?_) ?_
               | refine Val.mk _ (Int.tmod_eq_emod_of_nonneg (by omega)) ?_
               | refine Val.mk _ (Int.tdiv_eq_ediv_of_nonneg (by omega)) ?_
               | refine Mm.mk ?_
               | (refine Br.mk (fun h => ?_) (fun h => ?_) <;> first | (exfalso; omega; done) | (exfalso; simp at h; done) | skip))
      have hd : [] ++ discA L ++ [[Cell.int (↑(List.length (discA L)) + 1), Cell.int p.a, Cell.int p.b, Cell.int p.tm, Cell.int p.h, Cell.int p.pk, Cell.bool (decide (m.hold ≤ p.h))]] = discA (L ++ [discD m p L]) := by
        rw [lL]; simp [discA, discD]
      rw [hd]
      repeat refine Mm.mk ?_
      conv => whnf
      refine EndVC.mk _ rfl _ _ (RRs.ok2 e (p' := { p with cl := false, ld := false }) (L' := L ++ [discD m p L]) (d := discD m p L) rfl rfl rfl) ?_
      refine ⟨[some 0, none, some 9], rfl, rfl, ?_, ?_⟩ <;> repeat' (first | exact trivial | exact rfl | exact Iff.rfl | apply And.intro)
      exact congrArg (· + 1) (congrArg Int.ofNat lL)
  · refine spec_of pMix (O := [(7, ([], [⟨0, [], []⟩, ⟨1, [], []⟩, ⟨2, [], []⟩, ⟨3, [], []⟩, ⟨4, [], []⟩, ⟨5, [2, 3], []⟩, ⟨6, [], []⟩, ⟨7, [], []⟩])), (27, ([25], [⟨0, [], []⟩, ⟨1, [], []⟩, ⟨2, [], []⟩, ⟨3, [], []⟩, ⟨4, [], []⟩, ⟨5, [], []⟩, ⟨6, [], []⟩, ⟨7, [], []⟩, ⟨8, [], []⟩, ⟨9, [], []⟩, ⟨10, [], []⟩, ⟨11, [], []⟩, ⟨12, [], []⟩, ⟨13, [], []⟩, ⟨14, [], []⟩, ⟨15, [], []⟩, ⟨16, [], []⟩, ⟨17, [], []⟩, ⟨18, [], []⟩, ⟨19, [], []⟩, ⟨20, [], []⟩, ⟨21, [], []⟩, ⟨22, [], []⟩, ⟨23, [], []⟩, ⟨24, [], []⟩, ⟨25, [], []⟩, ⟨26, [], []⟩])), (28, ([1], [⟨0, [], []⟩, ⟨2, [], []⟩, ⟨3, [], []⟩, ⟨4, [], []⟩, ⟨5, [], []⟩, ⟨7, [], [8]⟩, ⟨1, [], []⟩, ⟨6, [0, 7], []⟩, ⟨8, [], []⟩, ⟨9, [0], []⟩, ⟨10, [], []⟩, ⟨11, [], []⟩, ⟨12, [], []⟩]))]) Try.func44 (c := bodyOf Try.f44) rfl (by kernel_rfl) (by kernel_rfl) Try.ntmps44 (res := [.cell 4 70, .tmp 5]) (by kernel_rfl) ?_
    repeat' (conv => whnf
             first
             | refine Rng.ok (by simp only [inR]; omega) ?_
             | refine Ob.mk (by first | omega | (simp; done) | decide | (simp; omega)) ?_
             | refine Ob.mk (show eqOK _ _ = true from by kernel_rfl) ?_
             | refine Ob.mk (show keyOK _ _ _ = true from by kernel_rfl) ?_
             | refine Val.mk _ (shr_val (by simp; rfl)) ?_
             | refine Ob.mk (Nat.le_of_ble_eq_true rfl) ?_
             | refine JoinVC.on ?_
             | refine Nils.mk (fun h => ?_) ?_
             | refine Val.mk _ (Int.tmod_eq_emod_of_nonneg (by omega)) ?_
             | refine Val.mk _ (Int.tdiv_eq_ediv_of_nonneg (by omega)) ?_
             | refine Mm.mk ?_
             | (refine Br.mk (fun h => ?_) (fun h => ?_) <;> first | (exfalso; omega; done) | (exfalso; simp at h; done) | skip))
    conv => whnf
    refine CallVC.mk [0, 1] _ _ _ rfl rfl rfl (s87 m p L hI.len hI.tm k a b) (fun r m' h' => ?_)
    obtain ⟨rfl, rfl⟩ := h'
    conv => whnf
    repeat' (conv => whnf
             first
             | refine Rng.ok (by simp only [inR]; omega) ?_
             | refine Ob.mk (by first | omega | (simp; done) | decide | (simp; omega)) ?_
             | refine Ob.mk (show eqOK _ _ = true from by kernel_rfl) ?_
             | refine Ob.mk (show keyOK _ _ _ = true from by kernel_rfl) ?_
             | refine Val.mk _ (shr_val (by simp; rfl)) ?_
             | refine Ob.mk (Nat.le_of_ble_eq_true rfl) ?_
             | refine JoinVC.on ?_
             | refine Nils.mk (fun h => ?_) ?_
             | refine Val.mk _ (Int.tmod_eq_emod_of_nonneg (by omega)) ?_
             | refine Val.mk _ (Int.tdiv_eq_ediv_of_nonneg (by omega)) ?_
             | refine Mm.mk ?_
             | (refine Br.mk (fun h => ?_) (fun h => ?_) <;> first | (exfalso; omega; done) | (exfalso; simp at h; done) | skip))
    repeat refine Mm.mk ?_
    conv => whnf
    refine EndVC.mk _ rfl _ _ (RRs.err e) ?_
    refine ⟨[some 0, some 1], rfl, rfl, ?_, ?_⟩ <;> repeat' (first | exact trivial | exact rfl | exact Iff.rfl | apply And.intro)
end Go.Sx

namespace Go.Sx
open Go Go.Proofs
set_option maxRecDepth 10000
set_option maxHeartbeats 1000000
theorem pinv_new {m : Mac} (hm : m.ok) : PInv m ⟨false, false, 0, m.room, 0, 0, 0, 0, 0⟩ [] := by
  have hm' := hm
  obtain ⟨m1, m2, m3, m4, m5, m6, m7, m8, m9, m10, m11, m12, m13, m14, m15⟩ := hm'
  refine ⟨hm, by simp only; omega, by simp, by simp, by simp, by simp, by simp, by simp, by simp, by simp, by simp, by simp, fun k => ?_, by simp, by simp⟩
  simp [useC]; omega
theorem errD_kind {m : Mac} {p : Pst} {L : List Disc} {k a b : Int} (e : errD m p L k a b = 0) : k = 1 ∨ k = 2 ∨ k = 3 ∨ k = 4 ∨ k = 5 ∨ k = 6 := by
  unfold errD at e
  by_cases h : k = 1 ∨ k = 2 ∨ k = 3 ∨ k = 4 ∨ k = 5 ∨ k = 6
  · exact h
  · rw [if_neg (by omega), if_neg (by omega), if_neg (by omega), if_neg (by omega), if_neg (by omega), if_neg (by omega)] at e; cases e
section
variable {m : Mac} {p : Pst} {L : List Disc} {a b : Int}
theorem err1_inv (e : errD m p L 1 a b = 0) : ¬ (outN a ∨ outN b) ∧ a ≠ b ∧ p.cl = false ∧ p.ld = false ∧ ¬ oldP m L a b := by
  rw [errD1] at e
  split at e
  · cases e
  split at e
  · cases e
  split at e
  · cases e
  split at e
  · cases e
  split at e
  · cases e
  rename_i h1 h2 h3 h4 h5
  exact ⟨h1, h2, by simpa using h3, by simpa using h4, h5⟩
theorem err2_inv (e : errD m p L 2 a b = 0) : p.cl = false ∧ p.ld = false ∧ p.a ≠ 0 ∧ ¬ oldP m L p.a p.b ∧ L.length ≠ 1000 := by
  rw [errD2] at e
  split at e
  · cases e
  split at e
  · cases e
  split at e
  · cases e
  split at e
  · cases e
  rename_i h1 h2 h3 h4
  exact ⟨by simpa using h1, by simpa using fun h => h2 (.inl h), fun h => h2 (.inr h), h3, h4⟩
theorem err3_inv (e : errD m p L 3 a b = 0) : p.cl = false ∧ p.ld = true := by
  rw [errD3] at e
  split at e
  · cases e
  rename_i h1
  exact ⟨by simpa using fun h => h1 (.inl h), Decidable.byContradiction fun h => h1 (.inr h)⟩
theorem err4_inv (e : errD m p L 4 a b = 0) : 0 ≤ a ∧ a ≤ 2 ∧ (a = 1 → p.cl = true) := by
  rw [errD4] at e
  split at e
  · cases e
  split at e
  · cases e
  rename_i h1 h2
  exact ⟨by omega, by omega, fun h => Decidable.byContradiction fun h3 => h2 ⟨h, h3⟩⟩
theorem err5_inv (e : errD m p L 5 a b = 0) : 1 ≤ a ∧ a ≤ 1000 ∧ p.tm + a ≤ 1073741824 := by
  rw [errD5] at e
  split at e
  · cases e
  split at e
  · cases e
  omega
theorem err6_inv (e : errD m p L 6 a b = 0) : p.cl = true ∧ p.v ≠ 1 ∧ p.t ≤ m.cool := by
  rw [errD6] at e
  split at e
  · cases e
  split at e
  · cases e
  rename_i h1 h2
  exact ⟨Decidable.byContradiction h1, fun h => h2 (.inl h), by omega⟩
end
theorem pinv_next {m : Mac} {p : Pst} {L : List Disc} {k a b : Int} (h : PInv m p L) (e : errD m p L k a b = 0) : PInv m (nextP m p k a b) (nextL m p L k) := by
  have hk := errD_kind e
  rcases hk with rfl | rfl | rfl | rfl | rfl | rfl
  · obtain ⟨h1, h2, h3, h4, h5⟩ := err1_inv e
    unfold outN at h1
    have hx : PInv m { p with a := a, b := b } L := { h with ld := fun q => (by rw [h4] at q; cases q), ldu := fun q => (by rw [h4] at q; cases q), ab := (by simp only; omega), mt := fun _ => ⟨(by simp only; omega), (by simp only; omega), h2⟩ }
    exact hx
  · obtain ⟨h1, h2, h3, h4, h5⟩ := err2_inv e
    have hl := h.len
    have hx : PInv m { p with ld := true } L := { h with ld := fun _ => h.mt h3, cl := fun q => rfl, lt := fun _ => by omega, ldu := fun _ => h4 }
    exact hx
  · obtain ⟨h1, h2⟩ := err3_inv e
    have ht := h.t
    have ho := h.ok
    have htm := h.tm
    have : 0 ≤ p.t ∧ p.t ≤ 400 := by
      obtain ⟨m1, m2, m3, m4, m5, m6⟩ := ho
      omega
    have hx : PInv m { p with cl := true, h := 0, pk := p.t } L := { h with cl := fun _ => h2, h := (by simp only; omega), pk := this, steam := fun _ => rfl }
    exact hx
  · obtain ⟨h1, h2, h3⟩ := err4_inv e
    have hx : PInv m { p with v := a } L := { h with v := ⟨h1, h2⟩, steam := h3 }
    exact hx
  · obtain ⟨h1, h2, h3⟩ := err5_inv e
    have w := waitK h.ok (p := { p with tm := p.tm + a }) h.t a.toNat
    have hx : PInv m (waitS m a.toNat { p with tm := p.tm + a }) L := by
      generalize waitS m a.toNat { p with tm := p.tm + a } = q at w ⊢
      obtain ⟨w1, w2, w3, w4, w5, w6, w7, w8, w9⟩ := w
      simp only at w1 w2 w3 w4 w5 w6 w7 w8 w9
      have htm := h.tm
      have hh := h.h
      have hpk := h.pk
      have htop := h.ok.2.2.2.2.1
      refine ⟨h.ok, w7, ?_, ?_, h.len, ?_, by omega, by omega, by omega, by rw [w3]; exact h.v, by rw [w3, w1]; exact h.steam, by rw [w5, w6]; exact h.ab, h.use, ?_, ?_⟩
      · rw [w2, w5, w6]; exact h.ld
      · rw [w1, w2]; exact h.cl
      · rw [w2]; exact h.lt
      · rw [w2, w5, w6]; exact h.ldu
      · rw [w5, w6]; exact h.mt
    exact hx
  · obtain ⟨h1, h2, h3⟩ := err6_inv e
    have hld := h.cl h1
    have hlt := h.lt hld
    have hu := h.ldu hld
    have hx : PInv m { p with cl := false, ld := false } (L ++ [discD m p L]) := by
      refine { h with ld := fun q => ?_, cl := fun q => ?_, len := ?_, lt := fun q => ?_, steam := fun q => absurd q h2, use := fun k => ?_, ldu := fun q => ?_ }
      · cases q
      · cases q
      · simp; omega
      · cases q
      · have hs : useC (L ++ [discD m p L]) k = useC L k + (if p.a = k ∨ p.b = k then 1 else 0) := useC_snoc ..
        have := h.use k
        rw [hs]
        split
        · rename_i hk
          rcases hk with rfl | rfl
          · simp only [oldP] at hu; omega
          · simp only [oldP] at hu; omega
        · omega
      · cases q
    exact hx
/-- What an act leaves as it is. -/
theorem next_mono {m : Mac} {p : Pst} {L : List Disc} {k a b : Int} (h : PInv m p L) (e : errD m p L k a b = 0) : p.tm ≤ (nextP m p k a b).tm ∧ (p.cl = true → (nextP m p k a b).cl = false → p.t ≤ m.cool ∧ p.v ≠ 1) := by
  have hk := errD_kind e
  rcases hk with rfl | rfl | rfl | rfl | rfl | rfl
  · exact ⟨Int.le_refl _, fun h1 h2 => by rw [show (nextP m p 1 a b).cl = p.cl from rfl, h1] at h2; cases h2⟩
  · exact ⟨Int.le_refl _, fun h1 h2 => by rw [show (nextP m p 2 a b).cl = p.cl from rfl, h1] at h2; cases h2⟩
  · exact ⟨Int.le_refl _, fun h1 h2 => by cases h2⟩
  · exact ⟨Int.le_refl _, fun h1 h2 => by rw [show (nextP m p 4 a b).cl = p.cl from rfl, h1] at h2; cases h2⟩
  · obtain ⟨h1, h2, h3⟩ := err5_inv e
    have w := waitK h.ok (p := { p with tm := p.tm + a }) h.t a.toNat
    have e1 : (nextP m p 5 a b) = waitS m a.toNat { p with tm := p.tm + a } := rfl
    refine ⟨by rw [e1, w.tm]; simp only; omega, fun h4 h5 => ?_⟩
    rw [e1, w.cl] at h5
    rw [h4] at h5; cases h5
  · obtain ⟨h1, h2, h3⟩ := err6_inv e
    exact ⟨Int.le_refl _, fun _ _ => ⟨h3, h2⟩⟩
end Go.Sx
