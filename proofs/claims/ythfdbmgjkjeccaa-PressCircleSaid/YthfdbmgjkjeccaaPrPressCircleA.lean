import Derived.Test.YthfdbmgjkjeccaaProg
import Derived.Test.YthfdbmgjkjeccaaXc
import Derived.Shelf.Abstract
import Derived.Laws.Bits64b
namespace Go.Sx
open Go Go.Proofs
theorem pMix : Try.prog.follows .mixedOrders = true := by kernel_rfl
theorem spec_of {P : Program} (hm : P.follows .mixedOrders = true) {f : FuncId} {fn : Func} (hf : P.funcs[f]? = some fn) {c : Code} (hb : fn.body = some c) (hname : (fn.name == "runtime.NumGoroutine") = false) {O : List (Nat × RO)} (hok : codeOK O c = true) {nt : Nat} (hnt : fn.ntmps = nt) {res : List ResultVar} (hres : fn.results.toList = res)
    {args : List XV} {m : List Blk} {Rs : AV → List (Option Blk) → Prop} (h : awp P O c (startSt nt args m) (atEnd P res Rs)) : HSpec P f args m Rs := hspec_of_awp hm O hf hb (enters_of hf hname hb) hok hnt hres h
noncomputable def bodyOf (f : Func) : Code := match f.body with | some c => c | none => .skip
abbrev I (n : Int) : XV := .one (.int .i64 n)
def setsE : List AV → List (Nat × AV) → List AV
  | l, [] => l
  | l, (n, v) :: r => setsE (l.set n v) r
/-- An environment of n unknowns but for these. -/
def envA (n : Nat) (l : List (Nat × AV)) : List AV := setsE (anysA n) l

theorem CallVC.pure {P : Program} {f : FuncId} {args : List AV} {s : St} {K : AV → St → Prop} {args' : List XV} {r : AV} (ha : argsX s [] args = some args') (h : PSpec P f args' r) (k : afterCall s (lendsA [] args || lendsB s [] []) [] r [] K) : CallVC P f args s K :=
  CallVC.mk [] _ args' [] ha rfl rfl h fun r' m' ⟨h1, h2⟩ => by subst h1 h2; exact k
theorem CallVC0.pure {P : Program} {f : FuncId} {args : List AV} {mm : Memo} {fl : List Nat} {s : St} {K : AV → St → Prop} {args' : List XV} {r : AV} (ha : argsX s [] args = some args') (h : PSpec P f args' r) (k : afterCall s (lendsA [] args || lendsB s [] []) [] r [] K) : CallVC0 P f args mm fl s K :=
  CallVC0.mk _ args' ha h fun r' m' ⟨h1, h2⟩ => by subst h1 h2; exact k
theorem e56 : EntersF Try.prog 56 := enters_of Try.func56 (c := bodyOf Try.f56) (by kernel_rfl) rfl
set_option maxRecDepth 10000
abbrev xP (p : Prop) [d : Decidable p] : AV := .x (.one (.prp p d))
theorem s56 (n lo hi : Int) : PSpec Try.prog 56 [I n, I lo, I hi] (xP (n < lo ∨ hi < n)) := by
  refine spec_of pMix (O := []) Try.func56 (c := bodyOf Try.f56) rfl (by kernel_rfl) (by kernel_rfl) Try.ntmps56 (res := [.tmp 6]) (by kernel_rfl) ?_
  repeat refine Mm.mk ?_
  try refine JoinVC.on ?_
  refine Br.mk (fun h => ?_) (fun h => ?_)
  · repeat refine Mm.mk ?_
    refine EndVC.mk _ rfl _ _ ⟨rfl, rfl⟩ ⟨[], rfl, rfl, ⟨?_, trivial⟩, trivial⟩
    exact Or.inl h
  · repeat refine Mm.mk ?_
    refine EndVC.mk _ rfl _ _ ⟨rfl, rfl⟩ ⟨[], rfl, rfl, ⟨?_, trivial⟩, trivial⟩
    show _ ↔ _
    simp [h]
theorem s58 (n lo hi : Int) : PSpec Try.prog 58 [I n, I lo, I hi] (xP (lo ≤ n ∧ n ≤ hi)) := by
  refine spec_of pMix (O := []) Try.func58 (c := bodyOf Try.f58) rfl (by kernel_rfl) (by kernel_rfl) Try.ntmps58 (res := [.tmp 6]) (by kernel_rfl) ?_
  repeat refine Mm.mk ?_
  try refine JoinVC.on ?_
  refine Br.mk (fun h => ?_) (fun h => ?_)
  · repeat refine Mm.mk ?_
    refine EndVC.mk _ rfl _ _ ⟨rfl, rfl⟩ ⟨[], rfl, rfl, ⟨?_, trivial⟩, trivial⟩
    show _ ↔ _
    simp [h]
  · repeat refine Mm.mk ?_
    refine EndVC.mk _ rfl _ _ ⟨rfl, rfl⟩ ⟨[], rfl, rfl, ⟨?_, trivial⟩, trivial⟩
    show ¬ _
    simp [h]
theorem e58 : EntersF Try.prog 58 := enters_of Try.func58 (c := bodyOf Try.f58) (by kernel_rfl) rfl
structure Mac where
  room : Int
  melt : Int
  cool : Int
  top : Int
  heat : Int
  chill : Int
  drift : Int
  hold : Int
  life : Int
@[reducible] def Mac.x (m : Mac) : XV := .agg [.int .i64 m.room, .int .i64 m.melt, .int .i64 m.cool, .int .i64 m.top, .int .i64 m.heat, .int .i64 m.chill, .int .i64 m.drift, .int .i64 m.hold, .int .i64 m.life]
/-- Which machines are valid. -/
def Mac.ok (m : Mac) : Prop := 0 ≤ m.room ∧ m.room ≤ m.cool ∧ m.cool < m.melt ∧ m.melt ≤ m.top ∧ m.top ≤ 400 ∧ 1 ≤ m.heat ∧ m.heat ≤ 400 ∧ 1 ≤ m.chill ∧ m.chill ≤ 400 ∧ 0 ≤ m.drift ∧ m.drift ≤ 400 ∧ 1 ≤ m.hold ∧ m.hold ≤ 64 ∧ 1 ≤ m.life ∧ m.life ≤ 65536
open Classical in
noncomputable def Mac.chk (m : Mac) : Int := if m.ok then 0 else 2
theorem Mac.chk0 {m : Mac} (h : m.ok) : m.chk = 0 := if_pos h
theorem Mac.chk2 {m : Mac} (h : ¬ m.ok) : m.chk = 2 := if_neg h
/-- The temperature after a tick. -/
def tickF (m : Mac) (t v : Int) : Int := if v = 1 then (if t + m.heat < m.top then t + m.heat else m.top) else if v = 2 then (if m.room < t - m.chill then t - m.chill else m.room) else (if m.room < t - m.drift then t - m.drift else m.room)
theorem s57 (m : Mac) (T v : Int) (hm : m.ok) (h1 : m.room ≤ T) (h2 : T ≤ m.top) : PSpec Try.prog 57 [m.x, I T, I v] (.x (I (tickF m T v))) := by
  obtain ⟨m1, m2, m3, m4, m5, m6, m7, m8, m9, m10, m11, m12, m13, m14, m15⟩ := hm
  refine spec_of pMix (O := []) Try.func57 (c := bodyOf Try.f57) rfl (by kernel_rfl) (by kernel_rfl) Try.ntmps57 (res := [.tmp 6]) (by kernel_rfl) ?_
  refine Br.mk (fun h => ?_) (fun h => ?_)
  · refine Rng.ok (by simp only [inR]; omega) ?_
    repeat refine Mm.mk ?_
    refine EndVC.mk _ rfl _ _ ⟨rfl, rfl⟩ ⟨[], rfl, rfl, ⟨⟨rfl, ?_⟩, trivial⟩, trivial⟩
    simp only [tickF, if_pos h]
  · refine Br.mk (fun h' => ?_) (fun h' => ?_)
    · refine Rng.ok (by simp only [inR]; omega) ?_
      repeat refine Mm.mk ?_
      refine EndVC.mk _ rfl _ _ ⟨rfl, rfl⟩ ⟨[], rfl, rfl, ⟨⟨rfl, ?_⟩, trivial⟩, trivial⟩
      simp only [tickF, if_neg h, if_pos h']
    · refine Rng.ok (by simp only [inR]; omega) ?_
      repeat refine Mm.mk ?_
      refine EndVC.mk _ rfl _ _ ⟨rfl, rfl⟩ ⟨[], rfl, rfl, ⟨⟨rfl, ?_⟩, trivial⟩, trivial⟩
      simp only [tickF, if_neg h, if_neg h']
theorem s59 (m : Mac) (T v : Int) (hm : m.ok) (h1 : m.room ≤ T) (h2 : T ≤ m.top) : PSpec Try.prog 59 [m.x, I T, I v] (.x (I (tickF m T v))) := by
  obtain ⟨m1, m2, m3, m4, m5, m6, m7, m8, m9, m10, m11, m12, m13, m14, m15⟩ := hm
  refine spec_of pMix (O := []) Try.func59 (c := bodyOf Try.f59) rfl (by kernel_rfl) (by kernel_rfl) Try.ntmps59 (res := [.tmp 6]) (by kernel_rfl) ?_
  refine Br.mk (fun h => ?_) (fun h => ?_)
  · refine Rng.ok (by simp only [inR]; omega) ?_
    repeat refine Mm.mk ?_
    refine EndVC.mk _ rfl _ _ ⟨rfl, rfl⟩ ⟨[], rfl, rfl, ⟨⟨rfl, ?_⟩, trivial⟩, trivial⟩
    simp only [tickF, if_pos h]
  · refine Br.mk (fun h' => ?_) (fun h' => ?_)
    · refine Rng.ok (by simp only [inR]; omega) ?_
      repeat refine Mm.mk ?_
      refine EndVC.mk _ rfl _ _ ⟨rfl, rfl⟩ ⟨[], rfl, rfl, ⟨⟨rfl, ?_⟩, trivial⟩, trivial⟩
      simp only [tickF, if_neg h, if_pos h']
    · refine Rng.ok (by simp only [inR]; omega) ?_
      repeat refine Mm.mk ?_
      refine EndVC.mk _ rfl _ _ ⟨rfl, rfl⟩ ⟨[], rfl, rfl, ⟨⟨rfl, ?_⟩, trivial⟩, trivial⟩
      simp only [tickF, if_neg h, if_neg h']
theorem s20 (m : Mac) : PSpec Try.prog 20 [m.x] (.x (I m.chk)) := by
  refine spec_of pMix (O := []) Try.func20 (c := bodyOf Try.f20) rfl (by kernel_rfl) (by kernel_rfl) Try.ntmps20 (res := [.tmp 2]) (by kernel_rfl) ?_
  have bad : ¬ m.ok → (2 : Int) = m.chk := fun h => (Mac.chk2 h).symm
  repeat refine Mm.mk ?_
  try refine JoinVC.on ?_
  refine Br.mk (fun h1 => ?_) (fun h1 => ?_)
  · repeat refine Mm.mk ?_
    refine EndVC.mk _ rfl _ _ ⟨rfl, rfl⟩ ⟨[], rfl, rfl, ⟨⟨rfl, ?_⟩, trivial⟩, trivial⟩
    exact bad (by simp only [Mac.ok]; omega)
  repeat refine Mm.mk ?_
  try refine JoinVC.on ?_
  refine Br.mk (fun h2 => ?_) (fun h2 => ?_)
  · repeat refine Mm.mk ?_
    refine EndVC.mk _ rfl _ _ ⟨rfl, rfl⟩ ⟨[], rfl, rfl, ⟨⟨rfl, ?_⟩, trivial⟩, trivial⟩
    exact bad (by simp only [Mac.ok]; omega)
  repeat refine Mm.mk ?_
  try refine JoinVC.on ?_
  refine Br.mk (fun h3 => ?_) (fun h3 => ?_)
  · repeat refine Mm.mk ?_
    refine EndVC.mk _ rfl _ _ ⟨rfl, rfl⟩ ⟨[], rfl, rfl, ⟨⟨rfl, ?_⟩, trivial⟩, trivial⟩
    exact bad (by simp only [Mac.ok]; omega)
  repeat refine Mm.mk ?_
  try refine JoinVC.on ?_
  refine Br.mk (fun h4 => ?_) (fun h4 => ?_)
  · repeat refine Mm.mk ?_
    refine EndVC.mk _ rfl _ _ ⟨rfl, rfl⟩ ⟨[], rfl, rfl, ⟨⟨rfl, ?_⟩, trivial⟩, trivial⟩
    exact bad (by simp only [Mac.ok]; omega)
  repeat refine Mm.mk ?_
  try refine JoinVC.on ?_
  refine Br.mk (fun h5 => ?_) (fun h5 => ?_)
  · repeat refine Mm.mk ?_
    refine EndVC.mk _ rfl _ _ ⟨rfl, rfl⟩ ⟨[], rfl, rfl, ⟨⟨rfl, ?_⟩, trivial⟩, trivial⟩
    exact bad (by simp only [Mac.ok]; omega)
  repeat refine Mm.mk ?_
  conv => whnf
  first | refine CallVC.pure rfl (s56 _ _ _) ?_ | refine CallVC0.pure rfl (s56 _ _ _) ?_
  repeat refine Mm.mk ?_
  try refine JoinVC.on ?_
  refine Br.mk (fun h6 => ?_) (fun h6 => ?_)
  · repeat refine Mm.mk ?_
    refine EndVC.mk _ rfl _ _ ⟨rfl, rfl⟩ ⟨[], rfl, rfl, ⟨⟨rfl, ?_⟩, trivial⟩, trivial⟩
    exact bad (by simp only [Mac.ok]; omega)
  repeat refine Mm.mk ?_
  conv => whnf
  first | refine CallVC.pure rfl (s56 _ _ _) ?_ | refine CallVC0.pure rfl (s56 _ _ _) ?_
  repeat refine Mm.mk ?_
  try refine JoinVC.on ?_
  refine Br.mk (fun h7 => ?_) (fun h7 => ?_)
  · repeat refine Mm.mk ?_
    refine EndVC.mk _ rfl _ _ ⟨rfl, rfl⟩ ⟨[], rfl, rfl, ⟨⟨rfl, ?_⟩, trivial⟩, trivial⟩
    exact bad (by simp only [Mac.ok]; omega)
  repeat refine Mm.mk ?_
  conv => whnf
  first | refine CallVC.pure rfl (s56 _ _ _) ?_ | refine CallVC0.pure rfl (s56 _ _ _) ?_
  repeat refine Mm.mk ?_
  try refine JoinVC.on ?_
  refine Br.mk (fun h8 => ?_) (fun h8 => ?_)
  · repeat refine Mm.mk ?_
    refine EndVC.mk _ rfl _ _ ⟨rfl, rfl⟩ ⟨[], rfl, rfl, ⟨⟨rfl, ?_⟩, trivial⟩, trivial⟩
    exact bad (by simp only [Mac.ok]; omega)
  repeat refine Mm.mk ?_
  conv => whnf
  first | refine CallVC.pure rfl (s56 _ _ _) ?_ | refine CallVC0.pure rfl (s56 _ _ _) ?_
  repeat refine Mm.mk ?_
  try refine JoinVC.on ?_
  refine Br.mk (fun h9 => ?_) (fun h9 => ?_)
  · repeat refine Mm.mk ?_
    refine EndVC.mk _ rfl _ _ ⟨rfl, rfl⟩ ⟨[], rfl, rfl, ⟨⟨rfl, ?_⟩, trivial⟩, trivial⟩
    exact bad (by simp only [Mac.ok]; omega)
  repeat refine Mm.mk ?_
  conv => whnf
  first | refine CallVC.pure rfl (s56 _ _ _) ?_ | refine CallVC0.pure rfl (s56 _ _ _) ?_
  repeat refine Mm.mk ?_
  try refine JoinVC.on ?_
  refine Br.mk (fun h10 => ?_) (fun h10 => ?_)
  · repeat refine Mm.mk ?_
    refine EndVC.mk _ rfl _ _ ⟨rfl, rfl⟩ ⟨[], rfl, rfl, ⟨⟨rfl, ?_⟩, trivial⟩, trivial⟩
    exact bad (by simp only [Mac.ok]; omega)
  repeat refine Mm.mk ?_
  refine EndVC.mk _ rfl _ _ ⟨rfl, rfl⟩ ⟨[], rfl, rfl, ⟨⟨rfl, ?_⟩, trivial⟩, trivial⟩
  exact (Mac.chk0 (by simp only [Mac.ok]; omega)).symm
theorem s21 (m : Mac) : PSpec Try.prog 21 [m.x] (.x (I m.chk)) := by
  refine spec_of pMix (O := []) Try.func21 (c := bodyOf Try.f21) rfl (by kernel_rfl) (by kernel_rfl) Try.ntmps21 (res := [.tmp 2]) (by kernel_rfl) ?_
  have bad : ¬ m.ok → (2 : Int) = m.chk := fun h => (Mac.chk2 h).symm
  repeat refine Mm.mk ?_
  try refine JoinVC.on ?_
  refine Br.mk (fun h1 => ?_) (fun h1 => ?_)
  · repeat refine Mm.mk ?_
    refine EndVC.mk _ rfl _ _ ⟨rfl, rfl⟩ ⟨[], rfl, rfl, ⟨⟨rfl, ?_⟩, trivial⟩, trivial⟩
    exact bad (by simp only [Mac.ok]; omega)
  repeat refine Mm.mk ?_
  try refine JoinVC.on ?_
  refine Br.mk (fun h2 => ?_) (fun h2 => ?_)
  · repeat refine Mm.mk ?_
    refine EndVC.mk _ rfl _ _ ⟨rfl, rfl⟩ ⟨[], rfl, rfl, ⟨⟨rfl, ?_⟩, trivial⟩, trivial⟩
    exact bad (by simp only [Mac.ok]; omega)
  repeat refine Mm.mk ?_
  try refine JoinVC.on ?_
  refine Br.mk (fun h3 => ?_) (fun h3 => ?_)
  · repeat refine Mm.mk ?_
    refine EndVC.mk _ rfl _ _ ⟨rfl, rfl⟩ ⟨[], rfl, rfl, ⟨⟨rfl, ?_⟩, trivial⟩, trivial⟩
    exact bad (by simp only [Mac.ok]; omega)
  repeat refine Mm.mk ?_
  try refine JoinVC.on ?_
  refine Br.mk (fun h4 => ?_) (fun h4 => ?_)
  · repeat refine Mm.mk ?_
    refine EndVC.mk _ rfl _ _ ⟨rfl, rfl⟩ ⟨[], rfl, rfl, ⟨⟨rfl, ?_⟩, trivial⟩, trivial⟩
    exact bad (by simp only [Mac.ok]; omega)
  repeat refine Mm.mk ?_
  try refine JoinVC.on ?_
  refine Br.mk (fun h5 => ?_) (fun h5 => ?_)
  · repeat refine Mm.mk ?_
    refine EndVC.mk _ rfl _ _ ⟨rfl, rfl⟩ ⟨[], rfl, rfl, ⟨⟨rfl, ?_⟩, trivial⟩, trivial⟩
    exact bad (by simp only [Mac.ok]; omega)
  repeat refine Mm.mk ?_
  conv => whnf
  first | refine CallVC.pure rfl (s58 _ _ _) ?_ | refine CallVC0.pure rfl (s58 _ _ _) ?_
  repeat refine Mm.mk ?_
  try refine JoinVC.on ?_
  refine Br.mk (fun h6 => ?_) (fun h6 => ?_)
  · repeat refine Mm.mk ?_
    refine EndVC.mk _ rfl _ _ ⟨rfl, rfl⟩ ⟨[], rfl, rfl, ⟨⟨rfl, ?_⟩, trivial⟩, trivial⟩
    exact bad (by simp only [Mac.ok]; omega)
  repeat refine Mm.mk ?_
  conv => whnf
  first | refine CallVC.pure rfl (s58 _ _ _) ?_ | refine CallVC0.pure rfl (s58 _ _ _) ?_
  repeat refine Mm.mk ?_
  try refine JoinVC.on ?_
  refine Br.mk (fun h7 => ?_) (fun h7 => ?_)
  · repeat refine Mm.mk ?_
    refine EndVC.mk _ rfl _ _ ⟨rfl, rfl⟩ ⟨[], rfl, rfl, ⟨⟨rfl, ?_⟩, trivial⟩, trivial⟩
    exact bad (by simp only [Mac.ok]; omega)
  repeat refine Mm.mk ?_
  conv => whnf
  first | refine CallVC.pure rfl (s58 _ _ _) ?_ | refine CallVC0.pure rfl (s58 _ _ _) ?_
  repeat refine Mm.mk ?_
  try refine JoinVC.on ?_
  refine Br.mk (fun h8 => ?_) (fun h8 => ?_)
  · repeat refine Mm.mk ?_
    refine EndVC.mk _ rfl _ _ ⟨rfl, rfl⟩ ⟨[], rfl, rfl, ⟨⟨rfl, ?_⟩, trivial⟩, trivial⟩
    exact bad (by simp only [Mac.ok]; omega)
  repeat refine Mm.mk ?_
  conv => whnf
  first | refine CallVC.pure rfl (s58 _ _ _) ?_ | refine CallVC0.pure rfl (s58 _ _ _) ?_
  repeat refine Mm.mk ?_
  try refine JoinVC.on ?_
  refine Br.mk (fun h9 => ?_) (fun h9 => ?_)
  · repeat refine Mm.mk ?_
    refine EndVC.mk _ rfl _ _ ⟨rfl, rfl⟩ ⟨[], rfl, rfl, ⟨⟨rfl, ?_⟩, trivial⟩, trivial⟩
    exact bad (by simp only [Mac.ok]; omega)
  repeat refine Mm.mk ?_
  conv => whnf
  first | refine CallVC.pure rfl (s58 _ _ _) ?_ | refine CallVC0.pure rfl (s58 _ _ _) ?_
  repeat refine Mm.mk ?_
  try refine JoinVC.on ?_
  refine Br.mk (fun h10 => ?_) (fun h10 => ?_)
  · repeat refine Mm.mk ?_
    refine EndVC.mk _ rfl _ _ ⟨rfl, rfl⟩ ⟨[], rfl, rfl, ⟨⟨rfl, ?_⟩, trivial⟩, trivial⟩
    exact bad (by simp only [Mac.ok]; omega)
  repeat refine Mm.mk ?_
  refine EndVC.mk _ rfl _ _ ⟨rfl, rfl⟩ ⟨[], rfl, rfl, ⟨⟨rfl, ?_⟩, trivial⟩, trivial⟩
  exact (Mac.chk0 (by simp only [Mac.ok]; omega)).symm
theorem e20 : EntersF Try.prog 20 := enters_of Try.func20 (c := bodyOf Try.f20) (by kernel_rfl) rfl
theorem e21 : EntersF Try.prog 21 := enters_of Try.func21 (c := bodyOf Try.f21) (by kernel_rfl) rfl
theorem e57 : EntersF Try.prog 57 := enters_of Try.func57 (c := bodyOf Try.f57) (by kernel_rfl) rfl
theorem e59 : EntersF Try.prog 59 := enters_of Try.func59 (c := bodyOf Try.f59) (by kernel_rfl) rfl
theorem Mac.chk_cases (m : Mac) : (m.ok ∧ m.chk = 0) ∨ (¬ m.ok ∧ m.chk = 2) := by
  by_cases h : m.ok
  · exact .inl ⟨h, Mac.chk0 h⟩
  · exact .inr ⟨h, Mac.chk2 h⟩
/-- What Tick returns. -/
def inTick (m : Mac) (t v : Int) : Prop := m.room ≤ t ∧ t ≤ m.top ∧ 0 ≤ v ∧ v ≤ 2
instance (m : Mac) (t v : Int) : Decidable (inTick m t v) := by unfold inTick; exact inferInstance
noncomputable def Mac.tickV (m : Mac) (t v : Int) : Int := if m.chk = 0 then (if inTick m t v then tickF m t v else 0) else 0
noncomputable def Mac.tickE (m : Mac) (t v : Int) : Int := if m.chk = 0 then (if inTick m t v then 0 else 3) else m.chk
theorem tick_bad {m : Mac} {t v : Int} (h : ¬ m.chk = 0) : (0 : Int) = m.tickV t v ∧ m.chk = m.tickE t v := ⟨(if_neg h).symm, (if_neg h).symm⟩
theorem tick_out {m : Mac} {t v : Int} (h : ¬ ¬ m.chk = 0) (h1 : ¬ inTick m t v) : (0 : Int) = m.tickV t v ∧ (3 : Int) = m.tickE t v := by
  have h := Decidable.not_not.1 h
  exact ⟨by rw [Mac.tickV, if_pos h, if_neg h1], by rw [Mac.tickE, if_pos h, if_neg h1]⟩
theorem tick_in {m : Mac} {t v : Int} (h : ¬ ¬ m.chk = 0) (h1 : inTick m t v) : tickF m t v = m.tickV t v ∧ (0 : Int) = m.tickE t v := by
  have h := Decidable.not_not.1 h
  exact ⟨by rw [Mac.tickV, if_pos h, if_pos h1], by rw [Mac.tickE, if_pos h, if_pos h1]⟩
theorem s18 (m : Mac) (t v : Int) : PSpec Try.prog 18 [m.x, I t, I v] (.tup [I (m.tickV t v), I (m.tickE t v)]) := by
  refine spec_of pMix (O := []) Try.func18 (c := bodyOf Try.f18) rfl (by kernel_rfl) (by kernel_rfl) Try.ntmps18 (res := [.tmp 6, .tmp 7]) (by kernel_rfl) ?_
  repeat refine Mm.mk ?_
  conv => whnf
  first | refine CallVC.pure rfl (s20 m) ?_ | refine CallVC0.pure rfl (s20 m) ?_
  repeat refine Mm.mk ?_
  try refine JoinVC.on ?_
  refine Br.mk (fun h => ?_) (fun h => ?_)
  · repeat refine Mm.mk ?_
    refine EndVC.mk _ rfl _ _ ⟨rfl, rfl⟩ ⟨[], rfl, rfl, ⟨⟨⟨rfl, ?_⟩, ⟨rfl, ?_⟩, trivial⟩, trivial⟩, trivial⟩
    · exact (tick_bad h).1
    · exact (tick_bad h).2
  repeat refine Mm.mk ?_
  conv => whnf
  first | refine CallVC.pure rfl (s56 _ _ _) ?_ | refine CallVC0.pure rfl (s56 _ _ _) ?_
  repeat refine Mm.mk ?_
  try refine JoinVC.on ?_
  refine Br.mk (fun h1 => ?_) (fun h1 => ?_)
  · repeat refine Mm.mk ?_
    refine EndVC.mk _ rfl _ _ ⟨rfl, rfl⟩ ⟨[], rfl, rfl, ⟨⟨⟨rfl, ?_⟩, ⟨rfl, ?_⟩, trivial⟩, trivial⟩, trivial⟩
    · exact (tick_out h (by unfold inTick; omega)).1
    · exact (tick_out h (by unfold inTick; omega)).2
  repeat refine Mm.mk ?_
  conv => whnf
  first | refine CallVC.pure rfl (s56 _ _ _) ?_ | refine CallVC0.pure rfl (s56 _ _ _) ?_
  repeat refine Mm.mk ?_
  try refine JoinVC.on ?_
  refine Br.mk (fun h2 => ?_) (fun h2 => ?_)
  · repeat refine Mm.mk ?_
    refine EndVC.mk _ rfl _ _ ⟨rfl, rfl⟩ ⟨[], rfl, rfl, ⟨⟨⟨rfl, ?_⟩, ⟨rfl, ?_⟩, trivial⟩, trivial⟩, trivial⟩
    · exact (tick_out h (by unfold inTick; omega)).1
    · exact (tick_out h (by unfold inTick; omega)).2
  repeat refine Mm.mk ?_
  conv => whnf
  first | refine CallVC.pure rfl (s57 m t v (by rcases m.chk_cases with h3 | h3; exact h3.1; exact absurd (fun e => absurd (h3.2.symm.trans e) (by decide)) h) (by omega) (by omega)) ?_ | refine CallVC0.pure rfl (s57 m t v (by rcases m.chk_cases with h3 | h3; exact h3.1; exact absurd (fun e => absurd (h3.2.symm.trans e) (by decide)) h) (by omega) (by omega)) ?_
  repeat refine Mm.mk ?_
  refine EndVC.mk _ rfl _ _ ⟨rfl, rfl⟩ ⟨[], rfl, rfl, ⟨⟨⟨rfl, ?_⟩, ⟨rfl, ?_⟩, trivial⟩, trivial⟩, trivial⟩
  · exact (tick_in h (by unfold inTick; omega)).1
  · exact (tick_in h (by unfold inTick; omega)).2
theorem s19 (m : Mac) (t v : Int) : PSpec Try.prog 19 [m.x, I t, I v] (.tup [I (m.tickV t v), I (m.tickE t v)]) := by
  refine spec_of pMix (O := []) Try.func19 (c := bodyOf Try.f19) rfl (by kernel_rfl) (by kernel_rfl) Try.ntmps19 (res := [.tmp 6, .tmp 7]) (by kernel_rfl) ?_
  repeat refine Mm.mk ?_
  conv => whnf
  first | refine CallVC.pure rfl (s21 m) ?_ | refine CallVC0.pure rfl (s21 m) ?_
  repeat refine Mm.mk ?_
  try refine JoinVC.on ?_
  refine Br.mk (fun h => ?_) (fun h => ?_)
  · repeat refine Mm.mk ?_
    refine EndVC.mk _ rfl _ _ ⟨rfl, rfl⟩ ⟨[], rfl, rfl, ⟨⟨⟨rfl, ?_⟩, ⟨rfl, ?_⟩, trivial⟩, trivial⟩, trivial⟩
    · exact (tick_bad h).1
    · rcases m.chk_cases with h3 | h3
      · exact absurd h3.2 h
      · exact h3.2.symm.trans (tick_bad h).2
  repeat refine Mm.mk ?_
  conv => whnf
  first | refine CallVC.pure rfl (s58 _ _ _) ?_ | refine CallVC0.pure rfl (s58 _ _ _) ?_
  repeat refine Mm.mk ?_
  try refine JoinVC.on ?_
  refine Br.mk (fun h1 => ?_) (fun h1 => ?_)
  · repeat refine Mm.mk ?_
    refine EndVC.mk _ rfl _ _ ⟨rfl, rfl⟩ ⟨[], rfl, rfl, ⟨⟨⟨rfl, ?_⟩, ⟨rfl, ?_⟩, trivial⟩, trivial⟩, trivial⟩
    · exact (tick_out h (by unfold inTick; omega)).1
    · exact (tick_out h (by unfold inTick; omega)).2
  repeat refine Mm.mk ?_
  try refine JoinVC.on ?_
  refine Br.mk (fun h2 => ?_) (fun h2 => ?_)
  · repeat refine Mm.mk ?_
    refine EndVC.mk _ rfl _ _ ⟨rfl, rfl⟩ ⟨[], rfl, rfl, ⟨⟨⟨rfl, ?_⟩, ⟨rfl, ?_⟩, trivial⟩, trivial⟩, trivial⟩
    · exact (tick_out h (by unfold inTick; omega)).1
    · exact (tick_out h (by unfold inTick; omega)).2
  repeat refine Mm.mk ?_
  try refine JoinVC.on ?_
  refine Br.mk (fun h3 => ?_) (fun h3 => ?_)
  · repeat refine Mm.mk ?_
    refine EndVC.mk _ rfl _ _ ⟨rfl, rfl⟩ ⟨[], rfl, rfl, ⟨⟨⟨rfl, ?_⟩, ⟨rfl, ?_⟩, trivial⟩, trivial⟩, trivial⟩
    · exact (tick_out h (by unfold inTick; omega)).1
    · exact (tick_out h (by unfold inTick; omega)).2
  repeat refine Mm.mk ?_
  conv => whnf
  first | refine CallVC.pure rfl (s59 m t v (by rcases m.chk_cases with h3 | h3; exact h3.1; exact absurd (fun e => absurd (h3.2.symm.trans e) (by decide)) h) (by omega) (by omega)) ?_ | refine CallVC0.pure rfl (s59 m t v (by rcases m.chk_cases with h3 | h3; exact h3.1; exact absurd (fun e => absurd (h3.2.symm.trans e) (by decide)) h) (by omega) (by omega)) ?_
  repeat refine Mm.mk ?_
  refine EndVC.mk _ rfl _ _ ⟨rfl, rfl⟩ ⟨[], rfl, rfl, ⟨⟨⟨rfl, ?_⟩, ⟨rfl, ?_⟩, trivial⟩, trivial⟩, trivial⟩
  · exact (tick_in h (by unfold inTick; omega)).1
  · exact (tick_in h (by unfold inTick; omega)).2
end Go.Sx

namespace Go.Sx
open Go Go.Proofs
theorem mul_bd {a b : Int} {A B : Nat} (ha : a.natAbs ≤ A) (hb : b.natAbs ≤ B) : (a * b).natAbs ≤ A * B := by
  rw [Int.natAbs_mul]; exact Nat.mul_le_mul ha hb
structure Spot where
  x : Int
  y : Int
@[reducible] def Spot.v (p : Spot) : XV := .agg [.int .i64 p.x, .int .i64 p.y]
@[reducible] def Spot.row (p : Spot) : List Cell := [.int p.x, .int p.y]
/-- A coordinate's amount. -/
def Spot.ok (p : Spot) : Prop := p.x.natAbs ≤ 262144 ∧ p.y.natAbs ≤ 262144
set_option maxRecDepth 10000
theorem e67 : EntersF Try.prog 67 := enters_of Try.func67 (c := bodyOf Try.f67) (by kernel_rfl) rfl
theorem e69 : EntersF Try.prog 69 := enters_of Try.func69 (c := bodyOf Try.f69) (by kernel_rfl) rfl
theorem e70 : EntersF Try.prog 70 := enters_of Try.func70 (c := bodyOf Try.f70) (by kernel_rfl) rfl
theorem e71 : EntersF Try.prog 71 := enters_of Try.func71 (c := bodyOf Try.f71) (by kernel_rfl) rfl
theorem e68 : EntersF Try.prog 68 := enters_of Try.func68 (c := bodyOf Try.f68) (by kernel_rfl) rfl
theorem e31 : EntersF Try.prog 31 := enters_of Try.func31 (c := bodyOf Try.f31) (by kernel_rfl) rfl
def sq (p : Spot) : Int := p.x * p.x + p.y * p.y
theorem sq_bd {p : Spot} (h : p.ok) : (sq p).natAbs ≤ 137438953472 := by
  have h1 := mul_bd h.1 h.1
  have h2 := mul_bd h.2 h.2
  unfold sq; omega
theorem s67 (p : Spot) (h : p.ok) : PSpec Try.prog 67 [p.v] (.x (I (sq p))) := by
  have h1 := mul_bd h.1 h.1
  have h2 := mul_bd h.2 h.2
  refine spec_of pMix (O := []) Try.func67 (c := bodyOf Try.f67) rfl (by kernel_rfl) (by kernel_rfl) Try.ntmps67 (res := [.tmp 2]) (by kernel_rfl) ?_
  repeat refine Mm.mk ?_
  refine Rng.ok (by simp only [inR]; omega) ?_
  repeat refine Mm.mk ?_
  refine Rng.ok (by simp only [inR]; omega) ?_
  repeat refine Mm.mk ?_
  refine Rng.ok (by simp only [inR]; omega) ?_
  repeat refine Mm.mk ?_
  refine EndVC.mk _ rfl _ _ ⟨rfl, rfl⟩ ⟨[], rfl, rfl, ⟨⟨rfl, ?_⟩, trivial⟩, trivial⟩
  rfl
def g2 (p q r : Spot) : Int := p.x * (q.y - r.y)
def g3 (p q r : Spot) : Int := sq p * (q.y - r.y)
def g4 (p q r : Spot) : Int := sq p * (r.x - q.x)
theorem g2_bd {p q r : Spot} (hp : p.ok) (hq : q.ok) (hr : r.ok) : (g2 p q r).natAbs ≤ 72057594037927936 := by
  obtain ⟨h1, h2⟩ := hp; obtain ⟨h3, h4⟩ := hq; obtain ⟨h5, h6⟩ := hr
  have := mul_bd (B := 524288) h1 (show (q.y - r.y).natAbs ≤ 524288 by omega)
  unfold g2; omega
theorem g3_bd {p q r : Spot} (hp : p.ok) (hq : q.ok) (hr : r.ok) : (g3 p q r).natAbs ≤ 72057594037927936 := by
  have h0 := sq_bd hp
  obtain ⟨h3, h4⟩ := hq; obtain ⟨h5, h6⟩ := hr
  have := mul_bd (B := 524288) h0 (show (q.y - r.y).natAbs ≤ 524288 by omega)
  unfold g3; omega
theorem g4_bd {p q r : Spot} (hp : p.ok) (hq : q.ok) (hr : r.ok) : (g4 p q r).natAbs ≤ 72057594037927936 := by
  have h0 := sq_bd hp
  obtain ⟨h3, h4⟩ := hq; obtain ⟨h5, h6⟩ := hr
  have := mul_bd (B := 524288) h0 (show (r.x - q.x).natAbs ≤ 524288 by omega)
  unfold g4; omega
theorem s69 (p q r : Spot) (hp : p.ok) (hq : q.ok) (hr : r.ok) : PSpec Try.prog 69 [p.v, q.v, r.v] (.x (I (g2 p q r))) := by
  have h := g2_bd hp hq hr
  unfold g2 at h
  obtain ⟨h1, h2⟩ := hp; obtain ⟨h3, h4⟩ := hq; obtain ⟨h5, h6⟩ := hr
  refine spec_of pMix (O := []) Try.func69 (c := bodyOf Try.f69) rfl (by kernel_rfl) (by kernel_rfl) Try.ntmps69 (res := [.tmp 6]) (by kernel_rfl) ?_
  repeat refine Mm.mk ?_
  refine Rng.ok (by simp only [inR]; omega) ?_
  repeat refine Mm.mk ?_
  refine Rng.ok (by simp only [inR]; omega) ?_
  repeat refine Mm.mk ?_
  refine EndVC.mk _ rfl _ _ ⟨rfl, rfl⟩ ⟨[], rfl, rfl, ⟨⟨rfl, ?_⟩, trivial⟩, trivial⟩
  rfl
/-- The box of a function that a closure reads. -/
@[reducible] def fbox (f : FuncId) : XV := .one (.lel true [.fn] [[.fn f]] 0 0)
theorem s70 (p q r : Spot) (hp : p.ok) (hq : q.ok) (hr : r.ok) : PSpec Try.prog 70 [p.v, q.v, r.v, fbox 67] (.x (I (g3 p q r))) := by
  have h := g3_bd hp hq hr
  unfold g3 at h
  have hp' := hp
  obtain ⟨h1, h2⟩ := hp; obtain ⟨h3, h4⟩ := hq; obtain ⟨h5, h6⟩ := hr
  refine spec_of pMix (O := [(1, ([], [⟨0, [], []⟩, ⟨1, [], []⟩, ⟨3, [], []⟩, ⟨4, [], []⟩, ⟨5, [], []⟩, ⟨6, [], []⟩, ⟨7, [], []⟩, ⟨2, [3, 4, 5, 6, 7], []⟩, ⟨8, [], []⟩, ⟨9, [], []⟩]))]) Try.func70 (c := bodyOf Try.f70) rfl (by kernel_rfl) (by kernel_rfl) Try.ntmps70 (res := [.tmp 7]) (by kernel_rfl) ?_
  repeat' (conv => whnf
           first
           | refine Rng.ok (by simp only [inR]; omega) ?_
           | refine Ob.mk (by first | omega | (simp; done) | decide | (simp; omega)) ?_
           | refine Ob.mk (show eqOK _ _ = true from by kernel_rfl) ?_
           | refine Ob.mk (show keyOK _ _ _ = true from by kernel_rfl) ?_
           | refine Val.mk _ (shr_val (by simp; rfl)) ?_
           | refine JoinVC.on ?_
           | refine Nils.mk (fun h => ?_) ?_
           | refine Val.mk _ (Int.tmod_eq_emod_of_nonneg (by omega)) ?_
           | refine Val.mk _ (Int.tdiv_eq_ediv_of_nonneg (by omega)) ?_
           | refine Mm.mk ?_
           | refine CallVC.pure rfl (s67 p hp') ?_
           | refine CallVC0.pure rfl (s67 p hp') ?_
           | (refine Br.mk (fun h => ?_) (fun h => ?_) <;> first | (exfalso; omega; done) | (exfalso; simp at h; done) | skip))
  repeat refine Mm.mk ?_
  refine EndVC.mk _ rfl _ _ ⟨rfl, rfl⟩ ⟨[], rfl, rfl, ⟨⟨rfl, ?_⟩, trivial⟩, trivial⟩
  rfl
theorem s71 (p q r : Spot) (hp : p.ok) (hq : q.ok) (hr : r.ok) : PSpec Try.prog 71 [p.v, q.v, r.v, fbox 67] (.x (I (g4 p q r))) := by
  have h := g4_bd hp hq hr
  unfold g4 at h
  have hp' := hp
  obtain ⟨h1, h2⟩ := hp; obtain ⟨h3, h4⟩ := hq; obtain ⟨h5, h6⟩ := hr
  refine spec_of pMix (O := [(1, ([], [⟨0, [], []⟩, ⟨1, [], []⟩, ⟨3, [], []⟩, ⟨4, [], []⟩, ⟨5, [], []⟩, ⟨6, [], []⟩, ⟨7, [], []⟩, ⟨2, [3, 4, 5, 6, 7], []⟩, ⟨8, [], []⟩, ⟨9, [], []⟩]))]) Try.func71 (c := bodyOf Try.f71) rfl (by kernel_rfl) (by kernel_rfl) Try.ntmps71 (res := [.tmp 7]) (by kernel_rfl) ?_
  repeat' (conv => whnf
           first
           | refine Rng.ok (by simp only [inR]; omega) ?_
           | refine Ob.mk (by first | omega | (simp; done) | decide | (simp; omega)) ?_
           | refine Ob.mk (show eqOK _ _ = true from by kernel_rfl) ?_
           | refine Ob.mk (show keyOK _ _ _ = true from by kernel_rfl) ?_
           | refine Val.mk _ (shr_val (by simp; rfl)) ?_
           | refine JoinVC.on ?_
           | refine Nils.mk (fun h => ?_) ?_
           | refine Val.mk _ (Int.tmod_eq_emod_of_nonneg (by omega)) ?_
           | refine Val.mk _ (Int.tdiv_eq_ediv_of_nonneg (by omega)) ?_
           | refine Mm.mk ?_
           | refine CallVC.pure rfl (s67 p hp') ?_
           | refine CallVC0.pure rfl (s67 p hp') ?_
           | (refine Br.mk (fun h => ?_) (fun h => ?_) <;> first | (exfalso; omega; done) | (exfalso; simp at h; done) | skip))
  repeat refine Mm.mk ?_
  refine EndVC.mk _ rfl _ _ ⟨rfl, rfl⟩ ⟨[], rfl, rfl, ⟨⟨rfl, ?_⟩, trivial⟩, trivial⟩
  rfl

def tsum (g : Spot → Spot → Spot → Int) (a b c : Spot) : Nat → Int
  | 0 => 0
  | 1 => g a b c
  | 2 => g a b c + g b c a
  | _ => g a b c + g b c a + g c a b
@[reducible] def spots (a b c : Spot) : XV := .one (.lst true [.int .i64, .int .i64] [a.row, b.row, c.row])
theorem s68a (f : FuncId) (g : Spot → Spot → Spot → Int) (a b c : Spot) (hf : ∀ p q r : Spot, p.ok → q.ok → r.ok → PSpec Try.prog f [p.v, q.v, r.v] (.x (I (g p q r))))
    (hg : ∀ p q r : Spot, p.ok → q.ok → r.ok → (g p q r).natAbs ≤ 72057594037927936) (ha : a.ok) (hb : b.ok) (hc : c.ok) : PSpec Try.prog 68 [.one (.fn f []), spots a b c] (.x (I (tsum g a b c 3))) := by
  have b1 := hg a b c ha hb hc
  have b2 := hg b c a hb hc ha
  have b3 := hg c a b hc ha hb
  refine spec_of pMix (O := [(5, ([], [⟨0, [], []⟩, ⟨1, [], []⟩, ⟨2, [], []⟩, ⟨3, [], []⟩, ⟨4, [], []⟩, ⟨5, [], []⟩, ⟨6, [], []⟩, ⟨7, [], []⟩, ⟨8, [], []⟩, ⟨9, [], []⟩, ⟨10, [], []⟩, ⟨11, [], []⟩, ⟨12, [], []⟩, ⟨13, [], []⟩, ⟨14, [], []⟩, ⟨15, [], []⟩, ⟨16, [], []⟩, ⟨17, [], []⟩, ⟨18, [], []⟩, ⟨19, [], []⟩, ⟨20, [], []⟩, ⟨21, [], []⟩, ⟨22, [0], []⟩, ⟨23, [], []⟩, ⟨24, [], []⟩]))]) Try.func68 (c := bodyOf Try.f68) rfl (by kernel_rfl) (by kernel_rfl) Try.ntmps68 (res := [.tmp 4]) (by kernel_rfl) ?_
  have e3 : (([a.row, b.row, c.row] : Arr).length : Int) = 3 := rfl
  refine LoopVC.un 4 ?_
  repeat refine Mm.mk ?_
  try refine JoinVC.on ?_
  refine Br.mk (fun h => ?_) (fun h => ?_)
  · repeat refine Mm.mk ?_
    refine Ob.mk (by simp) ?_
    repeat refine Mm.mk ?_
    refine Rng.ok (by simp only [inR]; omega) ?_
    repeat refine Mm.mk ?_
    refine Ob.mk (by simp) ?_
    conv => whnf
    refine Val.mk (1) (by simp) ?_
    repeat refine Mm.mk ?_
    refine Ob.mk (by simp) ?_
    repeat refine Mm.mk ?_
    refine Rng.ok (by simp only [inR]; omega) ?_
    repeat refine Mm.mk ?_
    refine Ob.mk (by simp) ?_
    conv => whnf
    refine Val.mk (2) (by simp) ?_
    repeat refine Mm.mk ?_
    refine Ob.mk (by simp) ?_
    repeat refine Mm.mk ?_
    conv => whnf
    first | refine CallVC.pure rfl (hf a b c ha hb hc) ?_ | refine CallVC0.pure rfl (hf a b c ha hb hc) ?_
    repeat refine Mm.mk ?_
    refine Rng.ok (by simp only [inR]; omega) ?_
    repeat refine Mm.mk ?_
    refine Rng.ok (by simp only [inR]; omega) ?_
    repeat refine Mm.mk ?_
    try refine JoinVC.on ?_
    refine Br.mk (fun h => ?_) (fun h => ?_)
    · repeat refine Mm.mk ?_
      refine Ob.mk (by simp) ?_
      repeat refine Mm.mk ?_
      refine Rng.ok (by simp only [inR]; omega) ?_
      repeat refine Mm.mk ?_
      refine Ob.mk (by simp) ?_
      conv => whnf
      refine Val.mk (2) (by simp) ?_
      repeat refine Mm.mk ?_
      refine Ob.mk (by simp) ?_
      repeat refine Mm.mk ?_
      refine Rng.ok (by simp only [inR]; omega) ?_
      repeat refine Mm.mk ?_
      refine Ob.mk (by simp) ?_
      conv => whnf
      refine Val.mk (0) (by simp) ?_
      repeat refine Mm.mk ?_
      refine Ob.mk (by simp) ?_
      repeat refine Mm.mk ?_
      conv => whnf
      first | refine CallVC.pure rfl (hf b c a hb hc ha) ?_ | refine CallVC0.pure rfl (hf b c a hb hc ha) ?_
      repeat refine Mm.mk ?_
      refine Rng.ok (by simp only [inR]; omega) ?_
      repeat refine Mm.mk ?_
      refine Rng.ok (by simp only [inR]; omega) ?_
      repeat refine Mm.mk ?_
      try refine JoinVC.on ?_
      refine Br.mk (fun h => ?_) (fun h => ?_)
      · repeat refine Mm.mk ?_
        refine Ob.mk (by simp) ?_
        repeat refine Mm.mk ?_
        refine Rng.ok (by simp only [inR]; omega) ?_
        repeat refine Mm.mk ?_
        refine Ob.mk (by simp) ?_
        conv => whnf
        refine Val.mk (0) (by simp) ?_
        repeat refine Mm.mk ?_
        refine Ob.mk (by simp) ?_
        repeat refine Mm.mk ?_
        refine Rng.ok (by simp only [inR]; omega) ?_
        repeat refine Mm.mk ?_
        refine Ob.mk (by simp) ?_
        conv => whnf
        refine Val.mk (1) (by simp) ?_
        repeat refine Mm.mk ?_
        refine Ob.mk (by simp) ?_
        repeat refine Mm.mk ?_
        conv => whnf
        first | refine CallVC.pure rfl (hf c a b hc ha hb) ?_ | refine CallVC0.pure rfl (hf c a b hc ha hb) ?_
        repeat refine Mm.mk ?_
        refine Rng.ok (by simp only [inR]; omega) ?_
        repeat refine Mm.mk ?_
        refine Rng.ok (by simp only [inR]; omega) ?_
        repeat refine Mm.mk ?_
        try refine JoinVC.on ?_
        refine Br.mk (fun h => ?_) (fun h => ?_)
        · exact absurd h (by omega)
        · repeat refine Mm.mk ?_
          refine EndVC.mk _ rfl _ _ ⟨rfl, rfl⟩ ⟨[], rfl, rfl, ⟨⟨rfl, ?_⟩, trivial⟩, trivial⟩
          simp [tsum]
      · exact absurd (by omega) h
    · exact absurd (by omega) h
  · exact absurd (by omega) h
theorem s68b (f : FuncId) (g : Spot → Spot → Spot → Int) (a b c : Spot) (hf : ∀ p q r : Spot, p.ok → q.ok → r.ok → PSpec Try.prog f [p.v, q.v, r.v, fbox 67] (.x (I (g p q r))))
    (hg : ∀ p q r : Spot, p.ok → q.ok → r.ok → (g p q r).natAbs ≤ 72057594037927936) (ha : a.ok) (hb : b.ok) (hc : c.ok) : HSpec Try.prog 68 [.one (.fn f [(0, 0)]), spots a b c] [.box 123 [.fn 67 []]] (fun r m' => r = .x (I (tsum g a b c 3)) ∧ m' = [some (.box 123 [.fn 67 []])]) := by
  have b1 := hg a b c ha hb hc
  have b2 := hg b c a hb hc ha
  have b3 := hg c a b hc ha hb
  refine spec_of pMix (O := [(5, ([], [⟨0, [], []⟩, ⟨1, [], []⟩, ⟨2, [], []⟩, ⟨3, [], []⟩, ⟨4, [], []⟩, ⟨5, [], []⟩, ⟨6, [], []⟩, ⟨7, [], []⟩, ⟨8, [], []⟩, ⟨9, [], []⟩, ⟨10, [], []⟩, ⟨11, [], []⟩, ⟨12, [], []⟩, ⟨13, [], []⟩, ⟨14, [], []⟩, ⟨15, [], []⟩, ⟨16, [], []⟩, ⟨17, [], []⟩, ⟨18, [], []⟩, ⟨19, [], []⟩, ⟨20, [], []⟩, ⟨21, [], []⟩, ⟨22, [0], []⟩, ⟨23, [], []⟩, ⟨24, [], []⟩]))]) Try.func68 (c := bodyOf Try.f68) rfl (by kernel_rfl) (by kernel_rfl) Try.ntmps68 (res := [.tmp 4]) (by kernel_rfl) ?_
  have e3 : (([a.row, b.row, c.row] : Arr).length : Int) = 3 := rfl
  refine LoopVC.un 4 ?_
  repeat refine Mm.mk ?_
  try refine JoinVC.on ?_
  refine Br.mk (fun h => ?_) (fun h => ?_)
  · repeat refine Mm.mk ?_
    refine Ob.mk (by simp) ?_
    repeat refine Mm.mk ?_
    refine Rng.ok (by simp only [inR]; omega) ?_
    repeat refine Mm.mk ?_
    refine Ob.mk (by simp) ?_
    conv => whnf
    refine Val.mk (1) (by simp) ?_
    repeat refine Mm.mk ?_
    refine Ob.mk (by simp) ?_
    repeat refine Mm.mk ?_
    refine Rng.ok (by simp only [inR]; omega) ?_
    repeat refine Mm.mk ?_
    refine Ob.mk (by simp) ?_
    conv => whnf
    refine Val.mk (2) (by simp) ?_
    repeat refine Mm.mk ?_
    refine Ob.mk (by simp) ?_
    repeat refine Mm.mk ?_
    conv => whnf
    first | refine CallVC.pure rfl (hf a b c ha hb hc) ?_ | refine CallVC0.pure rfl (hf a b c ha hb hc) ?_
    repeat refine Mm.mk ?_
    refine Rng.ok (by simp only [inR]; omega) ?_
    repeat refine Mm.mk ?_
    refine Rng.ok (by simp only [inR]; omega) ?_
    repeat refine Mm.mk ?_
    try refine JoinVC.on ?_
    refine Br.mk (fun h => ?_) (fun h => ?_)
    · repeat refine Mm.mk ?_
      refine Ob.mk (by simp) ?_
      repeat refine Mm.mk ?_
      refine Rng.ok (by simp only [inR]; omega) ?_
      repeat refine Mm.mk ?_
      refine Ob.mk (by simp) ?_
      conv => whnf
      refine Val.mk (2) (by simp) ?_
      repeat refine Mm.mk ?_
      refine Ob.mk (by simp) ?_
      repeat refine Mm.mk ?_
      refine Rng.ok (by simp only [inR]; omega) ?_
      repeat refine Mm.mk ?_
      refine Ob.mk (by simp) ?_
      conv => whnf
      refine Val.mk (0) (by simp) ?_
      repeat refine Mm.mk ?_
      refine Ob.mk (by simp) ?_
      repeat refine Mm.mk ?_
      conv => whnf
      first | refine CallVC.pure rfl (hf b c a hb hc ha) ?_ | refine CallVC0.pure rfl (hf b c a hb hc ha) ?_
      repeat refine Mm.mk ?_
      refine Rng.ok (by simp only [inR]; omega) ?_
      repeat refine Mm.mk ?_
      refine Rng.ok (by simp only [inR]; omega) ?_
      repeat refine Mm.mk ?_
      try refine JoinVC.on ?_
      refine Br.mk (fun h => ?_) (fun h => ?_)
      · repeat refine Mm.mk ?_
        refine Ob.mk (by simp) ?_
        repeat refine Mm.mk ?_
        refine Rng.ok (by simp only [inR]; omega) ?_
        repeat refine Mm.mk ?_
        refine Ob.mk (by simp) ?_
        conv => whnf
        refine Val.mk (0) (by simp) ?_
        repeat refine Mm.mk ?_
        refine Ob.mk (by simp) ?_
        repeat refine Mm.mk ?_
        refine Rng.ok (by simp only [inR]; omega) ?_
        repeat refine Mm.mk ?_
        refine Ob.mk (by simp) ?_
        conv => whnf
        refine Val.mk (1) (by simp) ?_
        repeat refine Mm.mk ?_
        refine Ob.mk (by simp) ?_
        repeat refine Mm.mk ?_
        conv => whnf
        first | refine CallVC.pure rfl (hf c a b hc ha hb) ?_ | refine CallVC0.pure rfl (hf c a b hc ha hb) ?_
        repeat refine Mm.mk ?_
        refine Rng.ok (by simp only [inR]; omega) ?_
        repeat refine Mm.mk ?_
        refine Rng.ok (by simp only [inR]; omega) ?_
        repeat refine Mm.mk ?_
        try refine JoinVC.on ?_
        refine Br.mk (fun h => ?_) (fun h => ?_)
        · exact absurd h (by omega)
        · repeat refine Mm.mk ?_
          refine EndVC.mk _ rfl _ _ ⟨rfl, rfl⟩ ?_
          refine ⟨[some 0], rfl, rfl, ?_, ?_⟩ <;> repeat' (first | exact trivial | exact rfl | exact Iff.rfl | apply And.intro)
          simp [tsum]
      · exact absurd (by omega) h
    · exact absurd (by omega) h
  · exact absurd (by omega) h
def cok (a b c : Spot) : Prop := a.ok ∧ b.ok ∧ c.ok
instance (a : Spot) : Decidable a.ok := by unfold Spot.ok; exact inferInstance
instance (a b c : Spot) : Decidable (cok a b c) := by unfold cok; exact inferInstance
def cD (a b c : Spot) : Int := 2 * tsum g2 a b c 3
def cX (a b c : Spot) : Int := tsum g3 a b c 3
def cY (a b c : Spot) : Int := tsum g4 a b c 3
/-- What Centre returns. -/
def ctrE (a b c : Spot) : Int := if cok a b c then (if cD a b c = 0 then 9 else 0) else 3
def ctrX (a b c : Spot) : Int := if cok a b c then (if cD a b c = 0 then 0 else if cD a b c < 0 then 0 - cX a b c else cX a b c) else 0
def ctrY (a b c : Spot) : Int := if cok a b c then (if cD a b c = 0 then 0 else if cD a b c < 0 then 0 - cY a b c else cY a b c) else 0
def ctrD (a b c : Spot) : Int := if cok a b c then (if cD a b c = 0 then 0 else if cD a b c < 0 then 0 - cD a b c else cD a b c) else 0
theorem tsum_bd {g : Spot → Spot → Spot → Int} (hg : ∀ p q r : Spot, p.ok → q.ok → r.ok → (g p q r).natAbs ≤ 72057594037927936) {a b c : Spot} (h : cok a b c) : (tsum g a b c 3).natAbs ≤ 216172782113783808 := by
  obtain ⟨ha, hb, hc⟩ := h
  have b1 := hg a b c ha hb hc
  have b2 := hg b c a hb hc ha
  have b3 := hg c a b hc ha hb
  simp only [tsum]; omega
theorem s31 (a b c : Spot) : PSpec Try.prog 31 [a.v, b.v, c.v] (.tup [I (ctrX a b c), I (ctrY a b c), I (ctrD a b c), I (ctrE a b c)]) := by
  have bad : ¬ cok a b c → (0 : Int) = ctrX a b c ∧ (0 : Int) = ctrY a b c ∧ (0 : Int) = ctrD a b c ∧ (3 : Int) = ctrE a b c := fun h => ⟨(if_neg h).symm, (if_neg h).symm, (if_neg h).symm, (if_neg h).symm⟩
  refine spec_of pMix (O := []) Try.func31 (c := bodyOf Try.f31) rfl (by kernel_rfl) (by kernel_rfl) Try.ntmps31 (res := [.tmp 6, .tmp 7, .tmp 8, .tmp 9]) (by kernel_rfl) ?_
  have e3 : (([a.row, b.row, c.row] : Arr).length : Int) = 3 := rfl
  refine LoopVC.un 4 ?_
  repeat' (conv => whnf
           first
           | refine Rng.ok (by simp only [inR]; omega) ?_
           | refine Ob.mk (by first | omega | (simp; done) | decide | (simp; omega)) ?_
           | refine Ob.mk (show eqOK _ _ = true from by kernel_rfl) ?_
           | refine Ob.mk (show keyOK _ _ _ = true from by kernel_rfl) ?_
           | refine Val.mk _ (shr_val (by simp; rfl)) ?_
           | refine JoinVC.on ?_
           | refine Nils.mk (fun h => ?_) ?_
           | refine Val.mk _ (Int.tmod_eq_emod_of_nonneg (by omega)) ?_
           | refine Val.mk _ (Int.tdiv_eq_ediv_of_nonneg (by omega)) ?_
           | refine Mm.mk ?_
           | refine CallVC.pure rfl (s56 _ _ _) ?_
           | refine CallVC0.pure rfl (s56 _ _ _) ?_
           | (refine Br.mk (fun h => ?_) (fun h => ?_) <;> first | (exfalso; omega; done) | (exfalso; simp at h; done) | skip))
  all_goals try
    repeat refine Mm.mk ?_
    refine EndVC.mk _ rfl _ _ ⟨rfl, rfl⟩ ?_
    refine ⟨[], rfl, rfl, ?_, ?_⟩ <;> repeat' (first | exact trivial | exact rfl | exact Iff.rfl | apply And.intro)
    all_goals
      have hb : ¬ cok a b c := by
        clear bad
        unfold cok Spot.ok
        simp [rI, cellAt, Cell.toInt] at *
        omega
      first | exact (bad hb).1 | exact (bad hb).2.1 | exact (bad hb).2.2.1 | exact (bad hb).2.2.2
  have hok : cok a b c := by
    clear bad
    unfold cok Spot.ok
    simp [rI, cellAt, Cell.toInt] at *
    omega
  obtain ⟨ha, hb, hc⟩ := hok
  have hok : cok a b c := ⟨ha, hb, hc⟩
  repeat refine Mm.mk ?_
  conv => whnf
  first | refine CallVC.pure rfl (s68a 69 g2 a b c s69 (fun _ _ _ => g2_bd) ha hb hc) ?_ | refine CallVC0.pure rfl (s68a 69 g2 a b c s69 (fun _ _ _ => g2_bd) ha hb hc) ?_
  have t2 := tsum_bd (g := g2) (fun _ _ _ => g2_bd) hok
  have t3 := tsum_bd (g := g3) (fun _ _ _ => g3_bd) hok
  have t4 := tsum_bd (g := g4) (fun _ _ _ => g4_bd) hok
  repeat refine Mm.mk ?_
  refine Rng.ok (by simp only [inR]; omega) ?_
  conv => whnf
  refine CallVC.mk [7] _ _ _ rfl rfl rfl (s68b 70 g3 a b c s70 (fun _ _ _ => g3_bd) ha hb hc) (fun r m' h => ?_)
  obtain ⟨rfl, rfl⟩ := h
  conv => whnf
  refine CallVC.mk [7] _ _ _ rfl rfl rfl (s68b 71 g4 a b c s71 (fun _ _ _ => g4_bd) ha hb hc) (fun r m' h => ?_)
  obtain ⟨rfl, rfl⟩ := h
  repeat refine Mm.mk ?_
  try refine JoinVC.on ?_
  refine Br.mk (fun d0 => ?_) (fun d0 => ?_)
  · have d0 : cD a b c = 0 := d0
    repeat refine Mm.mk ?_
    refine EndVC.mk _ rfl _ _ ⟨rfl, rfl⟩ ?_
    refine ⟨[], rfl, rfl, ?_, ?_⟩ <;> repeat' (first | exact trivial | exact rfl | exact Iff.rfl | apply And.intro)
    · simp [ctrX, hok, d0]
    · simp [ctrY, hok, d0]
    · simp [ctrD, hok, d0]
    · simp [ctrE, hok, d0]
  have d0 : ¬ cD a b c = 0 := d0
  repeat refine Mm.mk ?_
  try refine JoinVC.on ?_
  refine Br.mk (fun d1 => ?_) (fun d1 => ?_)
  · have d1 : cD a b c < 0 := d1
    repeat refine Mm.mk ?_
    refine Rng.ok (by simp only [inR]; omega) ?_
    repeat refine Mm.mk ?_
    refine Rng.ok (by simp only [inR]; omega) ?_
    repeat refine Mm.mk ?_
    refine Rng.ok (by simp only [inR]; omega) ?_
    repeat refine Mm.mk ?_
    refine EndVC.mk _ rfl _ _ ⟨rfl, rfl⟩ ?_
    refine ⟨[], rfl, rfl, ?_, ?_⟩ <;> repeat' (first | exact trivial | exact rfl | exact Iff.rfl | apply And.intro)
    · simp [ctrX, hok, d0, d1, cX]
    · simp [ctrY, hok, d0, d1, cY]
    · simp [ctrD, hok, d0, d1]; rfl
    · simp [ctrE, hok, d0]
  have d1 : ¬ cD a b c < 0 := d1
  repeat refine Mm.mk ?_
  refine EndVC.mk _ rfl _ _ ⟨rfl, rfl⟩ ?_
  refine ⟨[], rfl, rfl, ?_, ?_⟩ <;> repeat' (first | exact trivial | exact rfl | exact Iff.rfl | apply And.intro)
  · simp [ctrX, hok, d0, d1, cX]
  · simp [ctrY, hok, d0, d1, cY]
  · simp [ctrD, hok, d0, d1]; rfl
  · simp [ctrE, hok, d0]
end Go.Sx

namespace Go.Sx
open Go Go.Proofs
set_option maxRecDepth 10000
set_option maxHeartbeats 1000000
theorem e72 : EntersF Try.prog 72 := enters_of Try.func72 (c := bodyOf Try.f72) (by kernel_rfl) rfl
theorem e32 : EntersF Try.prog 32 := enters_of Try.func32 (c := bodyOf Try.f32) (by kernel_rfl) rfl
theorem s72 (p : Spot) : PSpec Try.prog 72 [p.v] (xP p.ok) := by
  refine spec_of pMix (O := []) Try.func72 (c := bodyOf Try.f72) rfl (by kernel_rfl) (by kernel_rfl) Try.ntmps72 (res := [.tmp 2]) (by kernel_rfl) ?_
  repeat' (conv => whnf
           first
           | refine Rng.ok (by simp only [inR]; omega) ?_
           | refine Ob.mk (by first | omega | (simp; done) | decide | (simp; omega)) ?_
           | refine Ob.mk (show eqOK _ _ = true from by kernel_rfl) ?_
           | refine Ob.mk (show keyOK _ _ _ = true from by kernel_rfl) ?_
           | refine Val.mk _ (shr_val (by simp; rfl)) ?_
           | refine JoinVC.on ?_
           | refine Nils.mk (fun h => ?_) ?_
           | refine Val.mk _ (Int.tmod_eq_emod_of_nonneg (by omega)) ?_
           | refine Val.mk _ (Int.tdiv_eq_ediv_of_nonneg (by omega)) ?_
           | refine Mm.mk ?_
           | refine CallVC.pure rfl (s58 _ _ _) ?_
           | refine CallVC0.pure rfl (s58 _ _ _) ?_
           | (refine Br.mk (fun h => ?_) (fun h => ?_) <;> first | (exfalso; omega; done) | (exfalso; simp at h; done) | skip))
  · repeat refine Mm.mk ?_
    refine EndVC.mk _ rfl _ _ ⟨rfl, rfl⟩ ?_
    refine ⟨[], rfl, rfl, ?_, ?_⟩ <;> repeat' (first | exact trivial | exact rfl | exact Iff.rfl | apply And.intro)
    conv => whnf
    unfold Spot.ok; omega
  · repeat refine Mm.mk ?_
    refine EndVC.mk _ rfl _ _ ⟨rfl, rfl⟩ ?_
    refine ⟨[], rfl, rfl, ?_, ?_⟩ <;> repeat' (first | exact trivial | exact rfl | exact Iff.rfl | apply And.intro)
    conv => whnf
    unfold Spot.ok; omega
theorem bd {a : Int} {A : Nat} (h : a.natAbs ≤ A) : -(A : Int) ≤ a ∧ a ≤ A := by omega
theorem d_eq (a b c : Spot) : 2 * ((b.x - a.x) * (c.y - a.y) - (b.y - a.y) * (c.x - a.x)) = cD a b c := by
  simp only [cD, tsum, g2]
  grind
theorem s32 (a b c : Spot) : PSpec Try.prog 32 [a.v, b.v, c.v] (.tup [I (ctrX a b c), I (ctrY a b c), I (ctrD a b c), I (ctrE a b c)]) := by
  have bad : ¬ cok a b c → (0 : Int) = ctrX a b c ∧ (0 : Int) = ctrY a b c ∧ (0 : Int) = ctrD a b c ∧ (3 : Int) = ctrE a b c := fun h => ⟨(if_neg h).symm, (if_neg h).symm, (if_neg h).symm, (if_neg h).symm⟩
  refine spec_of pMix (O := []) Try.func32 (c := bodyOf Try.f32) rfl (by kernel_rfl) (by kernel_rfl) Try.ntmps32 (res := [.tmp 6, .tmp 7, .tmp 8, .tmp 9]) (by kernel_rfl) ?_
  repeat' (conv => whnf
           first
           | refine Rng.ok (by simp only [inR]; omega) ?_
           | refine Ob.mk (by first | omega | (simp; done) | decide | (simp; omega)) ?_
           | refine Ob.mk (show eqOK _ _ = true from by kernel_rfl) ?_
           | refine Ob.mk (show keyOK _ _ _ = true from by kernel_rfl) ?_
           | refine Val.mk _ (shr_val (by simp; rfl)) ?_
           | refine JoinVC.on ?_
           | refine Nils.mk (fun h => ?_) ?_
           | refine Val.mk _ (Int.tmod_eq_emod_of_nonneg (by omega)) ?_
           | refine Val.mk _ (Int.tdiv_eq_ediv_of_nonneg (by omega)) ?_
           | refine Mm.mk ?_
           | refine CallVC.pure rfl (s72 _) ?_
           | refine CallVC0.pure rfl (s72 _) ?_
           | (refine Br.mk (fun h => ?_) (fun h => ?_) <;> first | (exfalso; omega; done) | (exfalso; simp at h; done) | skip))
  · repeat refine Mm.mk ?_
    refine EndVC.mk _ rfl _ _ ⟨rfl, rfl⟩ ?_
    refine ⟨[], rfl, rfl, ?_, ?_⟩ <;> repeat' (first | exact trivial | exact rfl | exact Iff.rfl | apply And.intro)
    all_goals
      have hb : ¬ cok a b c := fun hk => ‹¬ a.ok› hk.1
      first | exact (bad hb).1 | exact (bad hb).2.1 | exact (bad hb).2.2.1 | exact (bad hb).2.2.2
  · repeat refine Mm.mk ?_
    refine EndVC.mk _ rfl _ _ ⟨rfl, rfl⟩ ?_
    refine ⟨[], rfl, rfl, ?_, ?_⟩ <;> repeat' (first | exact trivial | exact rfl | exact Iff.rfl | apply And.intro)
    all_goals
      have hb : ¬ cok a b c := fun hk => ‹¬ b.ok› hk.2.1
      first | exact (bad hb).1 | exact (bad hb).2.1 | exact (bad hb).2.2.1 | exact (bad hb).2.2.2
  · repeat refine Mm.mk ?_
    refine EndVC.mk _ rfl _ _ ⟨rfl, rfl⟩ ?_
    refine ⟨[], rfl, rfl, ?_, ?_⟩ <;> repeat' (first | exact trivial | exact rfl | exact Iff.rfl | apply And.intro)
    all_goals
      have hb : ¬ cok a b c := fun hk => ‹¬ c.ok› hk.2.2
      first | exact (bad hb).1 | exact (bad hb).2.1 | exact (bad hb).2.2.1 | exact (bad hb).2.2.2
  have ha : a.ok := Decidable.not_not.1 ‹¬ ¬ a.ok›
  have hb : b.ok := Decidable.not_not.1 ‹¬ ¬ b.ok›
  have hc : c.ok := Decidable.not_not.1 ‹¬ ¬ c.ok›
  clear bad
  have hok : cok a b c := ⟨ha, hb, hc⟩
  obtain ⟨a1, a2⟩ := ha
  obtain ⟨b1, b2⟩ := hb
  obtain ⟨c1, c2⟩ := hc
  have p1 := bd (mul_bd (A := 524288) (B := 524288) (show (b.x - a.x).natAbs ≤ 524288 by omega) (show (c.y - a.y).natAbs ≤ 524288 by omega))
  have p2 := bd (mul_bd (A := 524288) (B := 524288) (show (b.y - a.y).natAbs ≤ 524288 by omega) (show (c.x - a.x).natAbs ≤ 524288 by omega))
  have a1 := bd a1
  have a2 := bd a2
  have b1 := bd b1
  have b2 := bd b2
  have c1 := bd c1
  have c2 := bd c2
  repeat' (conv => whnf
           first
           | refine Rng.ok (by simp only [inR]; omega) ?_
           | refine Ob.mk (by first | omega | (simp; done) | decide | (simp; omega)) ?_
           | refine Ob.mk (show eqOK _ _ = true from by kernel_rfl) ?_
           | refine Ob.mk (show keyOK _ _ _ = true from by kernel_rfl) ?_
           | refine Val.mk _ (shr_val (by simp; rfl)) ?_
           | refine JoinVC.on ?_
           | refine Nils.mk (fun h => ?_) ?_
           | refine Val.mk _ (Int.tmod_eq_emod_of_nonneg (by omega)) ?_
           | refine Val.mk _ (Int.tdiv_eq_ediv_of_nonneg (by omega)) ?_
           | refine Mm.mk ?_
           | refine Br.mk (fun h => ?_) (fun h => ?_))
  · have d0 : cD a b c = 0 := by rw [← d_eq]; assumption
    repeat refine Mm.mk ?_
    refine EndVC.mk _ rfl _ _ ⟨rfl, rfl⟩ ?_
    refine ⟨[], rfl, rfl, ?_, ?_⟩ <;> repeat' (first | exact trivial | exact rfl | exact Iff.rfl | apply And.intro)
    · simp [ctrX, hok, d0]
    · simp [ctrY, hok, d0]
    · simp [ctrD, hok, d0]
    · simp [ctrE, hok, d0]
  have d0 : ¬ cD a b c = 0 := by rw [← d_eq]; assumption
  clear p1 p2
  have ha : a.ok := hok.1
  have hb : b.ok := hok.2.1
  have hc : c.ok := hok.2.2
  have q1 := bd (mul_bd ha.1 ha.1)
  have q2 := bd (mul_bd ha.2 ha.2)
  have q3 := bd (mul_bd hb.1 hb.1)
  have q4 := bd (mul_bd hb.2 hb.2)
  have q5 := bd (mul_bd hc.1 hc.1)
  have q6 := bd (mul_bd hc.2 hc.2)
  repeat (conv => whnf
          refine Rng.ok (by simp only [inR]; omega) ?_)
  have r1 := bd (g3_bd ha hb hc)
  have r2 := bd (g3_bd hb hc ha)
  have r3 := bd (g3_bd hc ha hb)
  simp only [g3, sq] at r1 r2 r3
  repeat (conv => whnf
          refine Rng.ok (by simp only [inR]; omega) ?_)
  have r4 := bd (g4_bd ha hb hc)
  have r5 := bd (g4_bd hb hc ha)
  have r6 := bd (g4_bd hc ha hb)
  simp only [g4, sq] at r4 r5 r6
  repeat (conv => whnf
          refine Rng.ok (by simp only [inR]; omega) ?_)
  have t2 := bd (tsum_bd (g := g2) (fun _ _ _ => g2_bd) hok)
  have eD := d_eq a b c
  unfold cD at eD
  repeat refine Mm.mk ?_
  try refine JoinVC.on ?_
  refine Br.mk (fun d1 => ?_) (fun d1 => ?_)
  · have d1 : cD a b c < 0 := by rw [← d_eq]; exact d1
    repeat refine Mm.mk ?_
    refine Rng.ok (by simp only [inR]; omega) ?_
    repeat refine Mm.mk ?_
    refine Rng.ok (by simp only [inR]; omega) ?_
    repeat refine Mm.mk ?_
    refine Rng.ok (by simp only [inR]; omega) ?_
    repeat refine Mm.mk ?_
    refine EndVC.mk _ rfl _ _ ⟨rfl, rfl⟩ ?_
    refine ⟨[], rfl, rfl, ?_, ?_⟩ <;> repeat' (first | exact trivial | exact rfl | exact Iff.rfl | apply And.intro)
    · simp [ctrX, hok, d0, d1, cX, tsum, g3, sq]
    · simp [ctrY, hok, d0, d1, cY, tsum, g4, sq]
    · simp [ctrD, hok, d0, d1, d_eq]
    · simp [ctrE, hok, d0]
  have d1 : ¬ cD a b c < 0 := by rw [← d_eq]; exact d1
  repeat refine Mm.mk ?_
  refine EndVC.mk _ rfl _ _ ⟨rfl, rfl⟩ ?_
  refine ⟨[], rfl, rfl, ?_, ?_⟩ <;> repeat' (first | exact trivial | exact rfl | exact Iff.rfl | apply And.intro)
  · simp [ctrX, hok, d0, d1, cX, tsum, g3, sq]
  · simp [ctrY, hok, d0, d1, cY, tsum, g4, sq]
  · simp [ctrD, hok, d0, d1, d_eq]
  · simp [ctrE, hok, d0]
end Go.Sx

namespace Go.Sx
open Go Go.Proofs
set_option maxRecDepth 10000
set_option maxHeartbeats 1000000
theorem e73 : EntersF Try.prog 73 := enters_of Try.func73 (c := bodyOf Try.f73) (by kernel_rfl) rfl
theorem e74 : EntersF Try.prog 74 := enters_of Try.func74 (c := bodyOf Try.f74) (by kernel_rfl) rfl
theorem e76 : EntersF Try.prog 76 := enters_of Try.func76 (c := bodyOf Try.f76) (by kernel_rfl) rfl
theorem e77 : EntersF Try.prog 77 := enters_of Try.func77 (c := bodyOf Try.f77) (by kernel_rfl) rfl
theorem shr_val {n c : Int} {m : Nat} (h : (2 : Int) ^ m = c) : n / 2 ^ m = n / c := by rw [h]
@[reducible] def A3 (x y z : Int) : XV := .agg [.int .i64 x, .int .i64 y, .int .i64 z]
@[reducible] def U64 (n : Int) : XV := .one (.int .u64 n)
theorem s77 (x y z : Int) (hx : 0 ≤ x ∧ x ≤ 4611686018427387904) (hy : 0 ≤ y ∧ y ≤ 4611686018427387904) (hz : 0 ≤ z ∧ z ≤ 4611686018427387904) :
    PSpec Try.prog 77 [A3 x y z] (.x (A3 (x + (y + z / 536870912) / 536870912) ((y + z / 536870912) % 536870912) (z % 536870912))) := by
  refine spec_of pMix (O := []) Try.func77 (c := bodyOf Try.f77) rfl (by kernel_rfl) (by kernel_rfl) Try.ntmps77 (res := [.cell 2 132]) (by kernel_rfl) ?_
  repeat' (conv => whnf
           first
           | refine Rng.ok (by simp only [inR]; omega) ?_
           | refine Ob.mk (by first | omega | (simp; done) | decide | (simp; omega)) ?_
           | refine Ob.mk (show eqOK _ _ = true from by kernel_rfl) ?_
           | refine Ob.mk (show keyOK _ _ _ = true from by kernel_rfl) ?_
           | refine Val.mk _ (shr_val (by simp; rfl)) ?_
           | refine JoinVC.on ?_
           | refine Nils.mk (fun h => ?_) ?_
           | refine Val.mk _ (Int.tmod_eq_emod_of_nonneg (by omega)) ?_
           | refine Val.mk _ (Int.tdiv_eq_ediv_of_nonneg (by omega)) ?_
           | refine Mm.mk ?_
           | (refine Br.mk (fun h => ?_) (fun h => ?_) <;> first | (exfalso; omega; done) | (exfalso; simp at h; done) | skip))
  repeat refine Mm.mk ?_
  refine EndVC.mk _ rfl _ _ ⟨rfl, rfl⟩ ?_
  refine ⟨[], rfl, rfl, ?_, ?_⟩ <;> repeat' (first | exact trivial | exact rfl | exact Iff.rfl | apply And.intro)
theorem s76 (n : Int) (h : n.natAbs ≤ 288230376151711744) : ∃ x y z : Int, PSpec Try.prog 76 [I n] (.x (A3 x y z)) ∧ x * 288230376151711744 + y * 536870912 + z = n * n ∧ 0 ≤ y ∧ y < 536870912 ∧ 0 ≤ z ∧ z < 536870912 ∧ 0 ≤ x ∧ x ≤ 1152921504606846976 := by
  obtain ⟨m, hm, e1⟩ : ∃ m : Int, m = (if n < 0 - n then 0 - n else n) ∧ m * m = n * n := ⟨_, rfl, by split <;> grind⟩
  have hm2 : 0 ≤ m ∧ m ≤ 288230376151711744 := by rw [hm]; split <;> omega
  have b1 := mul_bd (a := m / 536870912) (b := m / 536870912) (A := 536870912) (B := 536870912) (by omega) (by omega)
  have b2 := mul_bd (a := m / 536870912) (b := m % 536870912) (A := 536870912) (B := 536870912) (by omega) (by omega)
  have b3 := mul_bd (a := m % 536870912) (b := m % 536870912) (A := 536870912) (B := 536870912) (by omega) (by omega)
  have p1 : 0 ≤ (m / 536870912) * (m / 536870912) := Int.mul_nonneg (by omega) (by omega)
  have p2 : 0 ≤ (m / 536870912) * (m % 536870912) := Int.mul_nonneg (by omega) (by omega)
  have p3 : 0 ≤ (m % 536870912) * (m % 536870912) := Int.mul_nonneg (by omega) (by omega)
  have e2 : m * m = (m / 536870912) * (m / 536870912) * 288230376151711744 + 2 * (m / 536870912) * (m % 536870912) * 536870912 + (m % 536870912) * (m % 536870912) := by
    have := Int.mul_ediv_add_emod m 536870912
    generalize m / 536870912 = q at *
    generalize m % 536870912 = r at *
    subst this
    grind
  have e3 : 2 * (m / 536870912) * (m % 536870912) = 2 * ((m / 536870912) * (m % 536870912)) := Int.mul_assoc ..
  have hs := s77 ((m / 536870912) * (m / 536870912)) (2 * (m / 536870912) * (m % 536870912)) ((m % 536870912) * (m % 536870912)) (by omega) (by omega) (by omega)
  refine ⟨_, _, _, show PSpec Try.prog 76 [I n] (.x (A3 (((m / 536870912) * (m / 536870912)) + ((2 * (m / 536870912) * (m % 536870912)) + ((m % 536870912) * (m % 536870912)) / 536870912) / 536870912) (((2 * (m / 536870912) * (m % 536870912)) + ((m % 536870912) * (m % 536870912)) / 536870912) % 536870912) (((m % 536870912) * (m % 536870912)) % 536870912))) from ?_, ?_⟩
  · refine spec_of pMix (O := []) Try.func76 (c := bodyOf Try.f76) rfl (by kernel_rfl) (by kernel_rfl) Try.ntmps76 (res := [.cell 2 132]) (by kernel_rfl) ?_
    repeat refine Mm.mk ?_
    refine Rng.ok (by simp only [inR]; omega) ?_
    conv => whnf
    rw [← hm]
    repeat' (conv => whnf
             first
             | refine Rng.ok (by simp only [inR]; omega) ?_
             | refine Ob.mk (by first | omega | (simp; done) | decide | (simp; omega)) ?_
             | refine Ob.mk (show eqOK _ _ = true from by kernel_rfl) ?_
             | refine Ob.mk (show keyOK _ _ _ = true from by kernel_rfl) ?_
             | refine Val.mk _ (shr_val (by simp; rfl)) ?_
             | refine JoinVC.on ?_
             | refine Nils.mk (fun h => ?_) ?_
             | refine Val.mk _ (Int.tmod_eq_emod_of_nonneg (by omega)) ?_
             | refine Val.mk _ (Int.tdiv_eq_ediv_of_nonneg (by omega)) ?_
             | refine Mm.mk ?_
             | refine CallVC.pure rfl (hs) ?_
             | refine CallVC0.pure rfl (hs) ?_
             | (refine Br.mk (fun h => ?_) (fun h => ?_) <;> first | (exfalso; omega; done) | (exfalso; simp at h; done) | skip))
    repeat refine Mm.mk ?_
    refine EndVC.mk _ rfl _ _ ⟨rfl, rfl⟩ ?_
    refine ⟨[], rfl, rfl, ?_, ?_⟩ <;> repeat' (first | exact trivial | exact rfl | exact Iff.rfl | apply And.intro)
  · generalize (m / 536870912) * (m / 536870912) = u at *
    generalize 2 * (m / 536870912) * (m % 536870912) = v at *
    generalize (m % 536870912) * (m % 536870912) = t at *
    omega
theorem mask32 {n : Int} (h : 0 ≤ n ∧ n ≤ 18446744073709551615) : bits .and .u64 n 4294967295 = n % 4294967296 := by
  obtain ⟨k, rfl⟩ := Int.eq_ofNat_of_zero_le h.1
  have := bits_and_u64_nat k 4294967295 (by omega) (by omega)
  rw [show ((4294967295 : Nat) : Int) = 4294967295 from rfl] at this
  rw [this, show (4294967295 : Nat) = 2 ^ 32 - 1 from rfl, Nat.and_two_pow_sub_one_eq_mod]
  omega
theorem s74 (a b : Int) (ha : 0 ≤ a ∧ a ≤ 18446744073709551615) (hb : 0 ≤ b ∧ b ≤ 18446744073709551615) : PSpec Try.prog 74 [U64 a, U64 b] (.tup [U64 (a * b / 18446744073709551616), U64 (a * b % 18446744073709551616)]) := by
  have m1 := mul_bd (a := a % 4294967296) (b := b % 4294967296) (A := 4294967295) (B := 4294967295) (by omega) (by omega)
  have m2 := mul_bd (a := a / 4294967296) (b := b % 4294967296) (A := 4294967295) (B := 4294967295) (by omega) (by omega)
  have m3 := mul_bd (a := a % 4294967296) (b := b / 4294967296) (A := 4294967295) (B := 4294967295) (by omega) (by omega)
  have m4 := mul_bd (a := a / 4294967296) (b := b / 4294967296) (A := 4294967295) (B := 4294967295) (by omega) (by omega)
  have p1 : 0 ≤ (a % 4294967296) * (b % 4294967296) := Int.mul_nonneg (by omega) (by omega)
  have p2 : 0 ≤ (a / 4294967296) * (b % 4294967296) := Int.mul_nonneg (by omega) (by omega)
  have p3 : 0 ≤ (a % 4294967296) * (b / 4294967296) := Int.mul_nonneg (by omega) (by omega)
  have p4 : 0 ≤ (a / 4294967296) * (b / 4294967296) := Int.mul_nonneg (by omega) (by omega)
  have e : a * b = (a / 4294967296) * (b / 4294967296) * 18446744073709551616 + ((a / 4294967296) * (b % 4294967296) + (a % 4294967296) * (b / 4294967296)) * 4294967296 + (a % 4294967296) * (b % 4294967296) := by
    have h1 := Int.mul_ediv_add_emod a 4294967296
    have h2 := Int.mul_ediv_add_emod b 4294967296
    generalize a / 4294967296 = a1 at *
    generalize a % 4294967296 = a0 at *
    generalize b / 4294967296 = b1 at *
    generalize b % 4294967296 = b0 at *
    subst h1 h2
    grind
  refine spec_of pMix (O := []) Try.func74 (c := bodyOf Try.f74) rfl (by kernel_rfl) (by kernel_rfl) Try.ntmps74 (res := [.tmp 4, .tmp 5]) (by kernel_rfl) ?_
  repeat' (conv => whnf
           first
           | refine Rng.ok (by simp only [inR]; omega) ?_
           | refine Ob.mk (by first | omega | (simp; done) | decide | (simp; omega)) ?_
           | refine Val.mk _ (shr_val (by simp; rfl)) ?_
           | refine Val.mk _ (mask32 (by omega)) ?_)
  all_goals conv => whnf
  refine Rng.wr ?_
  repeat refine Mm.mk ?_
  refine EndVC.mk _ rfl _ _ ⟨rfl, rfl⟩ ?_
  refine ⟨[], rfl, rfl, ?_, ?_⟩ <;> repeat' (first | exact trivial | exact rfl | exact Iff.rfl | apply And.intro)
  · generalize (a / 4294967296) * (b / 4294967296) = u at *
    generalize (a / 4294967296) * (b % 4294967296) = v at *
    generalize (a % 4294967296) * (b / 4294967296) = t at *
    generalize (a % 4294967296) * (b % 4294967296) = r at *
    omega
end Go.Sx

namespace Go.Sx
open Go Go.Proofs
set_option maxRecDepth 10000
set_option maxHeartbeats 1000000
theorem e33 : EntersF Try.prog 33 := enters_of Try.func33 (c := bodyOf Try.f33) (by kernel_rfl) rfl
theorem e34 : EntersF Try.prog 34 := enters_of Try.func34 (c := bodyOf Try.f34) (by kernel_rfl) rfl
theorem mul_self_nonneg' (a : Int) : 0 ≤ a * a := by rcases Int.le_total 0 a with h | h; exact Int.mul_nonneg h h; exact Int.mul_nonneg_of_nonpos_of_nonpos h h
theorem s75 (x y c : Int) (hx : 0 ≤ x ∧ x ≤ 18446744073709551615) (hy : 0 ≤ y ∧ y ≤ 18446744073709551615) (hc : 0 ≤ c ∧ c ≤ 1) :
    PSpec Try.prog 75 [U64 x, U64 y, U64 c] (.tup [U64 ((x + y + c) % 18446744073709551616), U64 ((x + y + c) / 18446744073709551616)]) := by
  obtain ⟨x, rfl⟩ := Int.eq_ofNat_of_zero_le hx.1
  obtain ⟨y, rfl⟩ := Int.eq_ofNat_of_zero_le hy.1
  obtain ⟨c, rfl⟩ := Int.eq_ofNat_of_zero_le hc.1
  refine pspec_extern Try.func75 (by kernel_rfl) (by kernel_rfl) (by kernel_rfl) (e := add64Entry) (by kernel_rfl) fun w R vs h => ?_
  obtain ⟨u, hu, e1⟩ := h.at 0 rfl
  obtain ⟨v, hv, e2⟩ := h.at 1 rfl
  obtain ⟨t, ht, e3⟩ := h.at 2 rfl
  cases e1; cases e2; cases e3
  have : vs = #[.int .u64 (x : Int), .int .u64 (y : Int), .int .u64 (c : Int)] := by
    have hl : vs.size = 3 := h.1
    refine Array.ext' (List.ext_getElem? fun i => ?_)
    rcases i with _ | _ | _ | i
    · simpa using hu
    · simpa using hv
    · simpa using ht
    · simp [hl]
  subst this
  refine ⟨_, run_add64 x y c (by omega) (by omega) (by omega) (by omega) w, _, rfl, ⟨rfl, fun j x hx => ?_⟩⟩
  rcases j with _ | _ | j
  · cases hx; rfl
  · cases hx; rfl
  · cases hx
theorem s73 (n : Int) (h : n.natAbs ≤ 4611686018427387904) : PSpec Try.prog 73 [I n] (.tup [U64 (n * n / 18446744073709551616), U64 (n * n % 18446744073709551616)]) := by
  obtain ⟨m, hm, e1⟩ : ∃ m : Int, m = (if n < 0 - n then 0 - n else n) ∧ m * m = n * n := ⟨_, rfl, by split <;> grind⟩
  have hm2 : 0 ≤ m ∧ m ≤ 4611686018427387904 := by rw [hm]; split <;> omega
  rw [← e1]
  refine spec_of pMix (O := []) Try.func73 (c := bodyOf Try.f73) rfl (by kernel_rfl) (by kernel_rfl) Try.ntmps73 (res := [.tmp 2, .tmp 3]) (by kernel_rfl) ?_
  repeat refine Mm.mk ?_
  refine Rng.ok (by simp only [inR]; omega) ?_
  conv => whnf
  rw [← hm]
  repeat refine Mm.mk ?_
  refine Rng.ok (by simp only [inR]; omega) ?_
  repeat refine Mm.mk ?_
  conv => whnf
  first | refine CallVC.pure rfl (s74 m m (by omega) (by omega)) ?_ | refine CallVC0.pure rfl (s74 m m (by omega) (by omega)) ?_
  repeat refine Mm.mk ?_
  refine EndVC.mk _ rfl _ _ ⟨rfl, rfl⟩ ?_
  refine ⟨[], rfl, rfl, ?_, ?_⟩ <;> repeat' (first | exact trivial | exact rfl | exact Iff.rfl | apply And.intro)
theorem ctr_bd (a b c : Spot) : (ctrX a b c).natAbs ≤ 216172782113783808 ∧ (ctrY a b c).natAbs ≤ 216172782113783808 ∧ 0 ≤ ctrD a b c ∧ ctrD a b c ≤ 824633720832 := by
  by_cases hok : cok a b c
  · have t3 := tsum_bd (g := g3) (fun _ _ _ => g3_bd) hok
    have t4 := tsum_bd (g := g4) (fun _ _ _ => g4_bd) hok
    have t2 : (cD a b c).natAbs ≤ 824633720832 := by
      have hg : ∀ p q r : Spot, p.ok → q.ok → r.ok → (g2 p q r).natAbs ≤ 137438953472 := fun p q r hp hq hr => by
        obtain ⟨h1, h2⟩ := hp; obtain ⟨h3, h4⟩ := hq; obtain ⟨h5, h6⟩ := hr
        have := mul_bd (B := 524288) h1 (show (q.y - r.y).natAbs ≤ 524288 by omega)
        unfold g2; omega
      obtain ⟨ha, hb, hc⟩ := hok
      have b1 := hg a b c ha hb hc
      have b2 := hg b c a hb hc ha
      have b3 := hg c a b hc ha hb
      simp only [cD, tsum]; omega
    unfold ctrX ctrY ctrD
    rw [if_pos hok, if_pos hok, if_pos hok]
    unfold cX cY
    generalize tsum g3 a b c 3 = x at *
    generalize tsum g4 a b c 3 = y at *
    generalize cD a b c = d at *
    refine ⟨?_, ?_, ?_, ?_⟩ <;> (split <;> try split) <;> omega
  · unfold ctrX ctrY ctrD
    rw [if_neg hok, if_neg hok, if_neg hok]
    simp
/-- What Centred returns. -/
def cenE (a b c : Spot) (l : Int) : Int := if ctrE a b c = 0 then (if 0 ≤ l ∧ l ≤ 262144 then 0 else 2) else ctrE a b c
structure cenB (a b c : Spot) (l : Int) : Prop where
  e : cenE a b c l = 0
  le : ctrX a b c * ctrX a b c + ctrY a b c * ctrY a b c ≤ (l * ctrD a b c) * (l * ctrD a b c)
instance (a b c : Spot) (l : Int) : Decidable (cenB a b c l) := decidable_of_iff (cenE a b c l = 0 ∧ ctrX a b c * ctrX a b c + ctrY a b c * ctrY a b c ≤ (l * ctrD a b c) * (l * ctrD a b c)) ⟨fun h => ⟨h.1, h.2⟩, fun h => ⟨h.1, h.2⟩⟩
theorem s33 (a b c : Spot) (l : Int) : PSpec Try.prog 33 [a.v, b.v, c.v, I l] (.tup [.one (.prp (cenB a b c l) inferInstance), I (cenE a b c l)]) := by
  obtain ⟨h1, h2, h3, h4⟩ := ctr_bd a b c
  have c0 : ∀ {e : Int}, e ≠ 0 → e = cenE a b c l → ¬ cenB a b c l := fun h e hk => h (e.trans hk.e)
  refine spec_of pMix (O := []) Try.func33 (c := bodyOf Try.f33) rfl (by kernel_rfl) (by kernel_rfl) Try.ntmps33 (res := [.tmp 8, .tmp 9]) (by kernel_rfl) ?_
  repeat' (conv => whnf
           first
           | refine Rng.ok (by simp only [inR]; omega) ?_
           | refine Ob.mk (by first | omega | (simp; done) | decide | (simp; omega)) ?_
           | refine Ob.mk (show eqOK _ _ = true from by kernel_rfl) ?_
           | refine Ob.mk (show keyOK _ _ _ = true from by kernel_rfl) ?_
           | refine Val.mk _ (shr_val (by simp; rfl)) ?_
           | refine JoinVC.on ?_
           | refine Nils.mk (fun h => ?_) ?_
           | refine Val.mk _ (Int.tmod_eq_emod_of_nonneg (by omega)) ?_
           | refine Val.mk _ (Int.tdiv_eq_ediv_of_nonneg (by omega)) ?_
           | refine Mm.mk ?_
           | refine CallVC.pure rfl (s31 a b c) ?_
           | refine CallVC.pure rfl (s56 _ _ _) ?_
           | refine CallVC0.pure rfl (s31 a b c) ?_
           | refine CallVC0.pure rfl (s56 _ _ _) ?_
           | (refine Br.mk (fun h => ?_) (fun h => ?_) <;> first | (exfalso; omega; done) | (exfalso; simp at h; done) | skip))
  · have h : ¬ ctrE a b c = 0 := by assumption
    have e : ctrE a b c = cenE a b c l := (if_neg h).symm
    repeat refine Mm.mk ?_
    refine EndVC.mk _ rfl _ _ ⟨rfl, rfl⟩ ?_
    refine ⟨[], rfl, rfl, ?_, ?_⟩ <;> repeat' (first | exact trivial | exact rfl | exact Iff.rfl | apply And.intro)
    · exact c0 h e
    · exact e
  · have e : (2 : Int) = cenE a b c l := by unfold cenE; rw [if_pos (by omega), if_neg (by omega)]
    repeat refine Mm.mk ?_
    refine EndVC.mk _ rfl _ _ ⟨rfl, rfl⟩ ?_
    refine ⟨[], rfl, rfl, ?_, ?_⟩ <;> repeat' (first | exact trivial | exact rfl | exact Iff.rfl | apply And.intro)
    · exact c0 (by decide) e
    · exact e
  have hl : 0 ≤ l ∧ l ≤ 262144 := by omega
  have m1 := mul_bd (a := l) (b := ctrD a b c) (A := 262144) (B := 824633720832) (by omega) (by omega)
  have q1 := mul_bd h1 h1
  have q2 := mul_bd h2 h2
  have q3 := mul_bd m1 m1
  have r1 : 0 ≤ ctrX a b c * ctrX a b c := mul_self_nonneg' _
  have r2 : 0 ≤ ctrY a b c * ctrY a b c := mul_self_nonneg' _
  have r3 : 0 ≤ (l * ctrD a b c) * (l * ctrD a b c) := mul_self_nonneg' _
  repeat' (conv => whnf
           first
           | refine Rng.ok (by simp only [inR]; omega) ?_
           | refine Ob.mk (by first | omega | (simp; done) | decide | (simp; omega)) ?_
           | refine Ob.mk (show eqOK _ _ = true from by kernel_rfl) ?_
           | refine Ob.mk (show keyOK _ _ _ = true from by kernel_rfl) ?_
           | refine Val.mk _ (shr_val (by simp; rfl)) ?_
           | refine JoinVC.on ?_
           | refine Nils.mk (fun h => ?_) ?_
           | refine Val.mk _ (Int.tmod_eq_emod_of_nonneg (by omega)) ?_
           | refine Val.mk _ (Int.tdiv_eq_ediv_of_nonneg (by omega)) ?_
           | refine Mm.mk ?_
           | refine CallVC.pure rfl (s73 _ (by omega)) ?_
           | refine CallVC.pure rfl (s75 _ _ _ (by omega) (by omega) (by omega)) ?_
           | refine CallVC0.pure rfl (s73 _ (by omega)) ?_
           | refine CallVC0.pure rfl (s75 _ _ _ (by omega) (by omega) (by omega)) ?_
           | (refine Br.mk (fun h => ?_) (fun h => ?_) <;> first | (exfalso; omega; done) | (exfalso; simp at h; done) | skip))
  all_goals
    have hE : ctrE a b c = 0 := by omega
    have eE : cenE a b c l = 0 := by unfold cenE; rw [if_pos hE, if_pos hl]
    generalize eX : ctrX a b c * ctrX a b c = X at *
    generalize eY : ctrY a b c * ctrY a b c = Y at *
    generalize eZ : l * ctrD a b c * (l * ctrD a b c) = Z at *
    have hB : cenB a b c l ↔ X + Y ≤ Z := by rw [← eX, ← eY, ← eZ]; exact ⟨fun h => h.le, fun h => ⟨eE, h⟩⟩
    repeat refine Mm.mk ?_
    refine EndVC.mk _ rfl _ _ ⟨rfl, rfl⟩ ?_
    refine ⟨[], rfl, rfl, ?_, ?_⟩ <;> repeat' (first | exact trivial | exact rfl | exact Iff.rfl | apply And.intro)
    · first
        | exact hB.2 (by omega)
        | (refine Iff.trans ?_ hB.symm; show _ ↔ _; omega)
        | (intro hk; have := hB.1 hk; omega)
    · exact eE.symm
theorem s34 (a b c : Spot) (l : Int) : PSpec Try.prog 34 [a.v, b.v, c.v, I l] (.tup [.one (.prp (cenB a b c l) inferInstance), I (cenE a b c l)]) := by
  obtain ⟨h1, h2, h3, h4⟩ := ctr_bd a b c
  have c0 : ∀ {e : Int}, e ≠ 0 → e = cenE a b c l → ¬ cenB a b c l := fun h e hk => h (e.trans hk.e)
  refine spec_of pMix (O := []) Try.func34 (c := bodyOf Try.f34) rfl (by kernel_rfl) (by kernel_rfl) Try.ntmps34 (res := [.tmp 8, .tmp 9]) (by kernel_rfl) ?_
  repeat' (conv => whnf
           first
           | refine Rng.ok (by simp only [inR]; omega) ?_
           | refine Ob.mk (by first | omega | (simp; done) | decide | (simp; omega)) ?_
           | refine Ob.mk (show eqOK _ _ = true from by kernel_rfl) ?_
           | refine Ob.mk (show keyOK _ _ _ = true from by kernel_rfl) ?_
           | refine Val.mk _ (shr_val (by simp; rfl)) ?_
           | refine JoinVC.on ?_
           | refine Nils.mk (fun h => ?_) ?_
           | refine Val.mk _ (Int.tmod_eq_emod_of_nonneg (by omega)) ?_
           | refine Val.mk _ (Int.tdiv_eq_ediv_of_nonneg (by omega)) ?_
           | refine Mm.mk ?_
           | refine CallVC.pure rfl (s32 a b c) ?_
           | refine CallVC.pure rfl (s58 _ _ _) ?_
           | refine CallVC0.pure rfl (s32 a b c) ?_
           | refine CallVC0.pure rfl (s58 _ _ _) ?_
           | (refine Br.mk (fun h => ?_) (fun h => ?_) <;> first | (exfalso; omega; done) | (exfalso; simp at h; done) | skip))
  · have h : ¬ ctrE a b c = 0 := by assumption
    have e : ctrE a b c = cenE a b c l := (if_neg h).symm
    repeat refine Mm.mk ?_
    refine EndVC.mk _ rfl _ _ ⟨rfl, rfl⟩ ?_
    refine ⟨[], rfl, rfl, ?_, ?_⟩ <;> repeat' (first | exact trivial | exact rfl | exact Iff.rfl | apply And.intro)
    · exact c0 h e
    · exact e
  · have e : (2 : Int) = cenE a b c l := by unfold cenE; rw [if_pos (by omega), if_neg (by omega)]
    repeat refine Mm.mk ?_
    refine EndVC.mk _ rfl _ _ ⟨rfl, rfl⟩ ?_
    refine ⟨[], rfl, rfl, ?_, ?_⟩ <;> repeat' (first | exact trivial | exact rfl | exact Iff.rfl | apply And.intro)
    · exact c0 (by decide) e
    · exact e
  have hl : 0 ≤ l ∧ l ≤ 262144 := by omega
  have m1 := mul_bd (a := l) (b := ctrD a b c) (A := 262144) (B := 824633720832) (by omega) (by omega)
  obtain ⟨x2, x1, x0, sx, ex, hx⟩ := s76 (ctrX a b c) (by omega)
  obtain ⟨y2, y1, y0, sy, ey, hy⟩ := s76 (ctrY a b c) (by omega)
  obtain ⟨z2, z1, z0, sz, ez, hz⟩ := s76 (l * ctrD a b c) (by omega)
  have ss := s77 (x2 + y2) (x1 + y1) (x0 + y0) (by omega) (by omega) (by omega)
  repeat' (conv => whnf
           first
           | refine Rng.ok (by simp only [inR]; omega) ?_
           | refine Ob.mk (by first | omega | (simp; done) | decide | (simp; omega)) ?_
           | refine Ob.mk (show eqOK _ _ = true from by kernel_rfl) ?_
           | refine Ob.mk (show keyOK _ _ _ = true from by kernel_rfl) ?_
           | refine Val.mk _ (shr_val (by simp; rfl)) ?_
           | refine JoinVC.on ?_
           | refine Nils.mk (fun h => ?_) ?_
           | refine Val.mk _ (Int.tmod_eq_emod_of_nonneg (by omega)) ?_
           | refine Val.mk _ (Int.tdiv_eq_ediv_of_nonneg (by omega)) ?_
           | refine Mm.mk ?_
           | refine CallVC.pure rfl (sx) ?_
           | refine CallVC.pure rfl (sy) ?_
           | refine CallVC.pure rfl (sz) ?_
           | refine CallVC.pure rfl (ss) ?_
           | refine CallVC0.pure rfl (sx) ?_
           | refine CallVC0.pure rfl (sy) ?_
           | refine CallVC0.pure rfl (sz) ?_
           | refine CallVC0.pure rfl (ss) ?_
           | (refine Br.mk (fun h => ?_) (fun h => ?_) <;> first | (exfalso; omega; done) | (exfalso; simp at h; done) | skip))
  all_goals conv => whnf
  all_goals refine LoopVC.un 4 ?_
  repeat' (conv => whnf
           first
           | refine Rng.ok (by simp only [inR]; omega) ?_
           | refine Ob.mk (by first | omega | (simp; done) | decide | (simp; omega)) ?_
           | refine Ob.mk (show eqOK _ _ = true from by kernel_rfl) ?_
           | refine Ob.mk (show keyOK _ _ _ = true from by kernel_rfl) ?_
           | refine Val.mk _ (shr_val (by simp; rfl)) ?_
           | refine JoinVC.on ?_
           | refine Nils.mk (fun h => ?_) ?_
           | refine Val.mk _ (Int.tmod_eq_emod_of_nonneg (by omega)) ?_
           | refine Val.mk _ (Int.tdiv_eq_ediv_of_nonneg (by omega)) ?_
           | refine Mm.mk ?_
           | (refine Br.mk (fun h => ?_) (fun h => ?_) <;> first | (exfalso; omega; done) | (exfalso; simp at h; done) | skip))
  all_goals
    have hE : ctrE a b c = 0 := by omega
    have eE : cenE a b c l = 0 := by unfold cenE; rw [if_pos hE, if_pos hl]
    generalize eX : ctrX a b c * ctrX a b c = X at *
    generalize eY : ctrY a b c * ctrY a b c = Y at *
    generalize eZ : l * ctrD a b c * (l * ctrD a b c) = Z at *
    have hB : cenB a b c l ↔ X + Y ≤ Z := by rw [← eX, ← eY, ← eZ]; exact ⟨fun h => h.le, fun h => ⟨eE, h⟩⟩
    repeat refine Mm.mk ?_
    refine EndVC.mk _ rfl _ _ ⟨rfl, rfl⟩ ?_
    refine ⟨[], rfl, rfl, ?_, ?_⟩ <;> repeat' (first | exact trivial | exact rfl | exact Iff.rfl | apply And.intro)
    · first
        | exact hB.2 (by omega)
        | (refine Iff.trans ?_ hB.symm; show _ ↔ _; omega)
        | (intro hk; have := hB.1 hk; omega)
    · exact eE.symm
end Go.Sx

namespace Go.Sx
open Go Go.Proofs
def i64s (xs : List Int) : Arr := xs.map fun x => [.int x]
theorem i64s_len (xs : List Int) : (i64s xs).length = xs.length := by simp [i64s]
theorem i64s_get (xs : List Int) (k : Nat) : rI (i64s xs) k 0 = xs.getD k 0 := by
  simp only [rI, cellAt, i64s, List.getD_eq_getElem?_getD, List.getElem?_map]
  cases xs[k]? <;> simp [Cell.toInt]
theorem i64s_snoc (xs : List Int) (x : Int) : i64s (xs ++ [x]) = i64s xs ++ [[.int x]] := by simp [i64s]
@[reducible] def lI (xs : List Int) : XV := .one (.lst true [.int .i64] (i64s xs))
set_option maxRecDepth 10000
theorem list_ext_getD {xs ys : List Int} (hl : xs.length = ys.length) (h : ∀ j, j < xs.length → xs.getD j 0 = ys.getD j 0) : xs = ys := by
  refine List.ext_getElem hl fun j h1 h2 => ?_
  have := h j h1
  simpa [List.getD_eq_getElem?_getD, h1, h2] using this
theorem s27 (xs ys : List Int) (hx : xs.length ≤ 1099511627776) : PSpec Try.prog 27 [lI xs, lI ys] (xP (xs = ys)) := by
  have lx := i64s_len xs
  have ly := i64s_len ys
  refine spec_of pMix (O := []) Try.func27 (c := bodyOf Try.f27) rfl (by kernel_rfl) (by kernel_rfl) Try.ntmps27 (res := [.tmp 4]) (by kernel_rfl) ?_
  repeat refine Mm.mk ?_
  try refine JoinVC.on ?_
  refine Br.mk (fun h => ?_) (fun h => ?_)
  · repeat refine Mm.mk ?_
    refine EndVC.mk _ rfl _ _ ⟨rfl, rfl⟩ ⟨[], rfl, rfl, ⟨?_, trivial⟩, trivial⟩
    intro e
    subst e
    exact h rfl
  have h : xs.length = ys.length := by omega
  refine LoopVC.mk (fun n s => ∃ k : Nat, n = xs.length - k ∧ k ≤ xs.length ∧ (∀ j, j < k → xs.getD j 0 = ys.getD j 0) ∧ s = ⟨0, envA 26 [(0, .x (lI xs)), (1, .x (lI ys)), (5, .int .i64 (k : Int))], []⟩) _ _ ⟨0, rfl, Nat.zero_le _, fun j hj => absurd hj (Nat.not_lt_zero j), rfl⟩ ?_ ?_
  · refine ⟨[], rfl, rfl, ?_, ?_⟩ <;> repeat' (first | exact trivial | exact rfl | exact Iff.rfl | apply And.intro)
  · rintro m _ ⟨k, hm, hk, hj, rfl⟩
    repeat refine Mm.mk ?_
    try refine JoinVC.on ?_
    refine Br.mk (fun h1 => ?_) (fun h1 => ?_)
    · repeat refine Mm.mk ?_
      refine Ob.mk (by omega) ?_
      repeat refine Mm.mk ?_
      refine Ob.mk (by omega) ?_
      repeat refine Mm.mk ?_
      try refine JoinVC.on ?_
      refine Br.mk (fun h2 => ?_) (fun h2 => ?_)
      · repeat refine Mm.mk ?_
        refine EndVC.mk _ rfl _ _ ⟨rfl, rfl⟩ ⟨[], rfl, rfl, ⟨?_, trivial⟩, trivial⟩
        intro e
        subst e
        exact h2 rfl
      repeat refine Mm.mk ?_
      refine Rng.ok (by simp only [inR]; omega) ?_
      refine Back.mk (xs.length - (k + 1)) _ (by omega) ⟨k + 1, rfl, by omega, fun j hjk => ?_, rfl⟩ ?_
      · rcases Nat.lt_or_ge j k with h3 | h3
        · exact hj j h3
        · have : j = k := by omega
          subst this
          have h2 := Decidable.not_not.1 h2
          rw [Int.toNat_natCast, i64s_get, i64s_get] at h2
          exact h2
      · refine ⟨[], rfl, rfl, ?_, ?_⟩ <;> repeat' (first | exact trivial | exact rfl | exact Iff.rfl | apply And.intro)
    · repeat refine Mm.mk ?_
      refine EndVC.mk _ rfl _ _ ⟨rfl, rfl⟩ ⟨[], rfl, rfl, ⟨?_, trivial⟩, trivial⟩
      exact list_ext_getD h fun j hjx => hj j (by omega)
theorem s55 : PSpec Try.prog 55 [] (.x (Mac.x ⟨20, 120, 50, 200, 30, 25, 5, 3, 2⟩)) := by
  refine spec_of pMix (O := []) Try.func55 (c := bodyOf Try.f55) rfl (by kernel_rfl) (by kernel_rfl) Try.ntmps55 (res := [.cell 0 23]) (by kernel_rfl) ?_
  repeat refine Mm.mk ?_
  refine EndVC.mk _ rfl _ _ ⟨rfl, rfl⟩ ?_
  refine ⟨[], rfl, rfl, ?_, ?_⟩ <;> repeat' (first | exact trivial | exact rfl | exact Iff.rfl | apply And.intro)
/-- Presses at a boiler whose numbers are right. -/
def Boil (p q s r : Int) : Prop := 1 ≤ p ∧ p ≤ 64 ∧ 1 ≤ q ∧ q ≤ 64 ∧ 1 ≤ s ∧ s ≤ 65536 ∧ 1 ≤ r ∧ r ≤ 65536
instance (p q s r : Int) : Decidable (Boil p q s r) := by unfold Boil; exact inferInstance
def boilE (p q s r n : Int) : Int := if Boil p q s r then (if 0 ≤ n ∧ n ≤ 1000 then 0 else 6) else 3
theorem s60 (p q s r n : Int) : PSpec Try.prog 60 [I p, I q, I s, I r, I n] (.x (I (boilE p q s r n))) := by
  refine spec_of pMix (O := []) Try.func60 (c := bodyOf Try.f60) rfl (by kernel_rfl) (by kernel_rfl) Try.ntmps60 (res := [.tmp 10]) (by kernel_rfl) ?_
  repeat' (conv => whnf
           first
           | refine Rng.ok (by simp only [inR]; omega) ?_
           | refine Ob.mk (by first | omega | (simp; done) | decide | (simp; omega)) ?_
           | refine Ob.mk (show eqOK _ _ = true from by kernel_rfl) ?_
           | refine Ob.mk (show keyOK _ _ _ = true from by kernel_rfl) ?_
           | refine Val.mk _ (shr_val (by simp; rfl)) ?_
           | refine JoinVC.on ?_
           | refine Nils.mk (fun h => ?_) ?_
           | refine Val.mk _ (Int.tmod_eq_emod_of_nonneg (by omega)) ?_
           | refine Val.mk _ (Int.tdiv_eq_ediv_of_nonneg (by omega)) ?_
           | refine Mm.mk ?_
           | refine CallVC.pure rfl (s56 _ _ _) ?_
           | refine CallVC0.pure rfl (s56 _ _ _) ?_
           | (refine Br.mk (fun h => ?_) (fun h => ?_) <;> first | (exfalso; omega; done) | (exfalso; simp at h; done) | skip))
  all_goals
    repeat refine Mm.mk ?_
    refine EndVC.mk _ rfl _ _ ⟨rfl, rfl⟩ ⟨[], rfl, rfl, ⟨⟨rfl, ?_⟩, trivial⟩, trivial⟩
    unfold boilE
    split <;> rename_i hB <;> unfold Boil at hB <;> (try split) <;> omega
end Go.Sx

namespace Go.Sx
open Go Go.Proofs
set_option maxRecDepth 10000
theorem e60 : EntersF Try.prog 60 := enters_of Try.func60 (c := bodyOf Try.f60) (by kernel_rfl) rfl
theorem e61 : EntersF Try.prog 61 := enters_of Try.func61 (c := bodyOf Try.f61) (by kernel_rfl) rfl
theorem e90 : EntersF Try.prog 90 := enters_of Try.func90 (c := bodyOf Try.f90) (by kernel_rfl) rfl
theorem e23 : EntersF Try.prog 23 := enters_of Try.func23 (c := bodyOf Try.f23) (by kernel_rfl) rfl
theorem e27 : EntersF Try.prog 27 := enters_of Try.func27 (c := bodyOf Try.f27) (by kernel_rfl) rfl
theorem e18 : EntersF Try.prog 18 := enters_of Try.func18 (c := bodyOf Try.f18) (by kernel_rfl) rfl
theorem e55 : EntersF Try.prog 55 := enters_of Try.func55 (c := bodyOf Try.f55) (by kernel_rfl) rfl
def mx (a b : Int) : Int := if a < b then b else a
/-- The start of the disc behind these. -/
def st0 (out : List Int) : Int := if 0 < (out.length : Int) then out.getD (out.length - 1) 0 else 0
def st1 (q s : Int) (out : List Int) (t : Int) : Int := if 0 ≤ (out.length : Int) - q then mx t (out.getD ((out.length : Int) - q).toNat 0 + s) else t
def stNext (p q s r : Int) (out : List Int) : Int := st1 p (s + r) out (st1 q s out (st0 out))
def stList (p q s r : Int) : Nat → List Int
  | 0 => []
  | n + 1 => stList p q s r n ++ [stNext p q s r (stList p q s r n)]
theorem stList_len (p q s r : Int) : ∀ n, (stList p q s r n).length = n
  | 0 => rfl
  | n + 1 => by simp [stList, stList_len p q s r n]
theorem getD_app (xs : List Int) (x : Int) (j : Nat) : (xs ++ [x]).getD j 0 = if j < xs.length then xs.getD j 0 else if j = xs.length then x else 0 := by
  simp only [List.getD_eq_getElem?_getD, List.getElem?_append]
  split
  · rfl
  · rename_i h
    split
    · rename_i h2; subst h2; simp
    · rename_i h2
      have : 1 ≤ j - xs.length := by omega
      rw [List.getElem?_eq_none (by simpa using this)]; rfl
theorem st_bd {p q s r : Int} (hb : Boil p q s r) : ∀ n j, 0 ≤ (stList p q s r n).getD j 0 ∧ (stList p q s r n).getD j 0 ≤ 131072 * n
  | 0, j => by simp [stList]
  | n + 1, j => by
    unfold Boil at hb
    have ih := st_bd (p := p) (q := q) (s := s) (r := r) (by unfold Boil; omega) n
    have hl := stList_len p q s r n
    rw [stList, getD_app]
    have h0 : 0 ≤ st0 (stList p q s r n) ∧ st0 (stList p q s r n) ≤ 131072 * n := by
      unfold st0; split
      · exact ih _
      · omega
    have h1 : 0 ≤ st1 q s (stList p q s r n) (st0 (stList p q s r n)) ∧ st1 q s (stList p q s r n) (st0 (stList p q s r n)) ≤ 131072 * n + 131072 := by
      unfold st1 mx
      have := ih (((stList p q s r n).length : Int) - q).toNat
      split
      · split <;> omega
      · omega
    have h2 : 0 ≤ stNext p q s r (stList p q s r n) ∧ stNext p q s r (stList p q s r n) ≤ 131072 * n + 131072 := by
      unfold stNext
      generalize st1 q s (stList p q s r n) (st0 (stList p q s r n)) = t at h1
      unfold st1 mx
      have := ih (((stList p q s r n).length : Int) - p).toNat
      split
      · split <;> omega
      · omega
    have h3 := ih j
    split
    · omega
    · split <;> omega
/-- The objects that 'ends' leaves. -/
theorem s61 (a : Arr) (i p q s r : Int) : HSpec Try.prog 61 [.one (.own 0), I i, I p, I q, I s, I r] [.row 2 false [.int .i64] a] (fun x m' => x = .x (.one (.fn 90 [(2, 0), (4, 0), (1, 0), (5, 0), (3, 0), (6, 0)])) ∧
    m' = [some (.row 2 false [.int .i64] a), some (.box 30 [.own 0]), some (.box 3 [.int .i64 i]), some (.box 3 [.int .i64 p]), some (.box 3 [.int .i64 q]), some (.box 2 [.int .i64 s]), some (.box 2 [.int .i64 r])]) := by
  refine spec_of pMix (O := []) Try.func61 (c := bodyOf Try.f61) rfl (by kernel_rfl) (by kernel_rfl) Try.ntmps61 (res := [.tmp 12]) (by kernel_rfl) ?_
  repeat refine Mm.mk ?_
  refine EndVC.mk _ rfl _ _ ⟨rfl, rfl⟩ ?_
  refine ⟨[some 0, some 1, some 2, some 3, some 4, some 5, some 6], rfl, rfl, ?_, ?_⟩ <;> repeat' (first | exact trivial | exact rfl | exact Iff.rfl | apply And.intro)
def stRes (p q s r n : Int) : List Int := if boilE p q s r n = 0 then stList p q s r n.toNat else []
theorem eb : Try.t2.bytes = 8 := by kernel_rfl
theorem s23 (p q s r n : Int) : PSpec Try.prog 23 [I p, I q, I s, I r, I n] (.tup [.one (.lst false [.int .i64] (i64s (stRes p q s r n))), I (boilE p q s r n)]) := by
  refine spec_of pMix (O := []) Try.func23 (c := bodyOf Try.f23) rfl (by kernel_rfl) (by kernel_rfl) Try.ntmps23 (res := [.tmp 10, .tmp 11]) (by kernel_rfl) ?_
  repeat refine Mm.mk ?_
  conv => whnf
  first | refine CallVC.pure rfl (s60 p q s r n) ?_ | refine CallVC0.pure rfl (s60 p q s r n) ?_
  repeat refine Mm.mk ?_
  try refine JoinVC.on ?_
  refine Br.mk (fun h0 => ?_) (fun h0 => ?_)
  · have e : stRes p q s r n = [] := if_neg h0
    rw [e]
    repeat refine Mm.mk ?_
    refine EndVC.mk _ rfl _ _ ⟨rfl, rfl⟩ ?_
    refine ⟨[], rfl, rfl, ?_, ?_⟩ <;> repeat' (first | exact trivial | exact rfl | exact Iff.rfl | apply And.intro)
  have h0 := Decidable.not_not.1 h0
  have hB : Boil p q s r := by
    apply Decidable.byContradiction
    intro h; rw [boilE, if_neg h] at h0; cases h0
  have hn : 0 ≤ n ∧ n ≤ 1000 := by
    apply Decidable.byContradiction
    intro h; rw [boilE, if_pos hB, if_neg h] at h0; cases h0
  refine LoopVC.mk (fun m st => ∃ k : Nat, (k : Int) ≤ n ∧ m = n.toNat - k ∧ st = ⟨0, envA 58 [(0, .x (I p)), (1, .x (I q)), (2, .x (I s)), (3, .x (I r)), (13, .x (.one (.own 0))), (27, .x (I n)), (28, .int .i64 (k : Int))], [some (.row 2 false [.int .i64] (i64s (stList p q s r k)))]⟩) n.toNat _ ⟨0, by omega, rfl, rfl⟩ ?_ ?_
  · refine ⟨[none], rfl, rfl, ?_, ?_⟩ <;> repeat' (first | exact trivial | exact rfl | exact Iff.rfl | apply And.intro)
  · rintro m _ ⟨k, hk, hm, rfl⟩
    repeat refine Mm.mk ?_
    try refine JoinVC.on ?_
    refine Br.mk (fun h => ?_) (fun h => ?_)
    · have hl : (i64s (stList p q s r k)).length = k := by rw [i64s_len, stList_len]
      have hbd : ∀ j, 0 ≤ rI (i64s (stList p q s r k)) j 0 ∧ rI (i64s (stList p q s r k)) j 0 ≤ 131072 * k := fun j => by rw [i64s_get]; exact st_bd hB k j
      unfold Boil at hB
      have b1 := hbd ((k : Int) - 1).toNat
      have b2 := hbd ((k : Int) - q).toNat
      have b3 := hbd ((k : Int) - p).toNat
      have e1 : ((k : Int) - 1).toNat = k - 1 := by omega
      repeat refine Mm.mk ?_
      try refine JoinVC.on ?_
      refine Br.mk (fun h1 => ?_) (fun h1 => ?_)
      · repeat refine Mm.mk ?_
        refine Rng.ok (by simp only [inR]; omega) ?_
        repeat refine Mm.mk ?_
        refine Ob.mk (by omega) ?_
        repeat refine Mm.mk ?_
        refine Ob.mk (by omega) ?_
        change CallVC _ _ _ _ _
        refine CallVC.mk [0] _ _ _ rfl rfl rfl (s61 _ _ _ _ _ _) (fun x m' hx => ?_)
        obtain ⟨rfl, rfl⟩ := hx
        change RangeVC _ _ _ _ _
        refine RangeVC.mk e90 (isem_of_awp pMix [] Try.func90 (c := bodyOf Try.f90) rfl (by kernel_rfl) Try.ntmps90 (by kernel_rfl) ?_)
        repeat refine Mm.mk ?_
        refine Rng.ok (by simp only [inR]; omega) ?_
        repeat refine Mm.mk ?_
        try refine JoinVC.on ?_
        refine Br.mk (fun h2 => ?_) (fun h2 => ?_)
        · repeat refine Mm.mk ?_
          refine Ob.mk (by omega) ?_
          repeat refine Mm.mk ?_
          refine Ob.mk (by omega) ?_
          change YieldVC _ _ _ _ _
          refine YieldVC.mk (rsem_of_awp pMix [] rfl (by kernel_rfl) ?_)
          repeat refine Mm.mk ?_
          refine Rng.ok (by simp only [inR]; omega) ?_
          repeat refine Mm.mk ?_
          refine Rng.ok (by simp only [inR]; omega) ?_
          repeat refine Mm.mk ?_
          try refine JoinVC.on ?_
          refine Br.mk (fun h3 => ?_) (fun h3 => ?_)
          · repeat refine Mm.mk ?_
            refine Ob.mk (by omega) ?_
            repeat refine Mm.mk ?_
            refine Ob.mk (by omega) ?_
            repeat refine Mm.mk ?_
            refine Rng.ok (by simp only [inR]; omega) ?_
            change YieldVC _ _ _ _ _
            refine YieldVC.mk (rsem_of_awp pMix [] rfl (by kernel_rfl) ?_)
            repeat refine Mm.mk ?_
            refine Rng.ok (by simp only [inR]; omega) ?_
            repeat refine Mm.mk ?_
            refine Ob.mk (by simp only [i64s_len, stList_len, List.length_cons, List.length_nil, eb]; omega) ?_
            repeat refine Mm.mk ?_
            refine Rng.ok (by simp only [inR]; omega) ?_
            refine Back.mk (n.toNat - (k + 1)) _ (by omega) ⟨k + 1, by omega, rfl, rfl⟩ ?_
            refine ⟨[some 10], rfl, rfl, ?_, ?_⟩ <;> repeat' (first | exact trivial | exact rfl | exact Iff.rfl | apply And.intro)
            rw [stList, i64s_snoc]
            congr 3
            simp only [stNext, st1, st0, mx, stList_len, if_pos h1, if_pos h2, if_pos h3, i64s_get, e1]
          · repeat refine Mm.mk ?_
            refine Ob.mk (by simp only [i64s_len, stList_len, List.length_cons, List.length_nil, eb]; omega) ?_
            repeat refine Mm.mk ?_
            refine Rng.ok (by simp only [inR]; omega) ?_
            refine Back.mk (n.toNat - (k + 1)) _ (by omega) ⟨k + 1, by omega, rfl, rfl⟩ ?_
            refine ⟨[some 10], rfl, rfl, ?_, ?_⟩ <;> repeat' (first | exact trivial | exact rfl | exact Iff.rfl | apply And.intro)
            rw [stList, i64s_snoc]
            congr 3
            simp only [stNext, st1, st0, mx, stList_len, if_pos h1, if_pos h2, if_neg h3, i64s_get, e1]
        · repeat refine Mm.mk ?_
          refine Rng.ok (by simp only [inR]; omega) ?_
          repeat refine Mm.mk ?_
          try refine JoinVC.on ?_
          refine Br.mk (fun h3 => ?_) (fun h3 => ?_)
          · repeat refine Mm.mk ?_
            refine Ob.mk (by omega) ?_
            repeat refine Mm.mk ?_
            refine Ob.mk (by omega) ?_
            repeat refine Mm.mk ?_
            refine Rng.ok (by simp only [inR]; omega) ?_
            change YieldVC _ _ _ _ _
            refine YieldVC.mk (rsem_of_awp pMix [] rfl (by kernel_rfl) ?_)
            repeat refine Mm.mk ?_
            refine Rng.ok (by simp only [inR]; omega) ?_
            repeat refine Mm.mk ?_
            refine Ob.mk (by simp only [i64s_len, stList_len, List.length_cons, List.length_nil, eb]; omega) ?_
            repeat refine Mm.mk ?_
            refine Rng.ok (by simp only [inR]; omega) ?_
            refine Back.mk (n.toNat - (k + 1)) _ (by omega) ⟨k + 1, by omega, rfl, rfl⟩ ?_
            refine ⟨[some 10], rfl, rfl, ?_, ?_⟩ <;> repeat' (first | exact trivial | exact rfl | exact Iff.rfl | apply And.intro)
            rw [stList, i64s_snoc]
            congr 3
            simp only [stNext, st1, st0, mx, stList_len, if_pos h1, if_neg h2, if_pos h3, i64s_get, e1]
          · repeat refine Mm.mk ?_
            refine Ob.mk (by simp only [i64s_len, stList_len, List.length_cons, List.length_nil, eb]; omega) ?_
            repeat refine Mm.mk ?_
            refine Rng.ok (by simp only [inR]; omega) ?_
            refine Back.mk (n.toNat - (k + 1)) _ (by omega) ⟨k + 1, by omega, rfl, rfl⟩ ?_
            refine ⟨[some 10], rfl, rfl, ?_, ?_⟩ <;> repeat' (first | exact trivial | exact rfl | exact Iff.rfl | apply And.intro)
            rw [stList, i64s_snoc]
            congr 3
            simp only [stNext, st1, st0, mx, stList_len, if_pos h1, if_neg h2, if_neg h3, i64s_get, e1]
      · change CallVC _ _ _ _ _
        refine CallVC.mk [0] _ _ _ rfl rfl rfl (s61 _ _ _ _ _ _) (fun x m' hx => ?_)
        obtain ⟨rfl, rfl⟩ := hx
        change RangeVC _ _ _ _ _
        refine RangeVC.mk e90 (isem_of_awp pMix [] Try.func90 (c := bodyOf Try.f90) rfl (by kernel_rfl) Try.ntmps90 (by kernel_rfl) ?_)
        repeat refine Mm.mk ?_
        refine Rng.ok (by simp only [inR]; omega) ?_
        repeat refine Mm.mk ?_
        try refine JoinVC.on ?_
        refine Br.mk (fun h2 => ?_) (fun h2 => ?_)
        · repeat refine Mm.mk ?_
          refine Ob.mk (by omega) ?_
          repeat refine Mm.mk ?_
          refine Ob.mk (by omega) ?_
          change YieldVC _ _ _ _ _
          refine YieldVC.mk (rsem_of_awp pMix [] rfl (by kernel_rfl) ?_)
          repeat refine Mm.mk ?_
          refine Rng.ok (by simp only [inR]; omega) ?_
          repeat refine Mm.mk ?_
          refine Rng.ok (by simp only [inR]; omega) ?_
          repeat refine Mm.mk ?_
          try refine JoinVC.on ?_
          refine Br.mk (fun h3 => ?_) (fun h3 => ?_)
          · repeat refine Mm.mk ?_
            refine Ob.mk (by omega) ?_
            repeat refine Mm.mk ?_
            refine Ob.mk (by omega) ?_
            repeat refine Mm.mk ?_
            refine Rng.ok (by simp only [inR]; omega) ?_
            change YieldVC _ _ _ _ _
            refine YieldVC.mk (rsem_of_awp pMix [] rfl (by kernel_rfl) ?_)
            repeat refine Mm.mk ?_
            refine Rng.ok (by simp only [inR]; omega) ?_
            repeat refine Mm.mk ?_
            refine Ob.mk (by simp only [i64s_len, stList_len, List.length_cons, List.length_nil, eb]; omega) ?_
            repeat refine Mm.mk ?_
            refine Rng.ok (by simp only [inR]; omega) ?_
            refine Back.mk (n.toNat - (k + 1)) _ (by omega) ⟨k + 1, by omega, rfl, rfl⟩ ?_
            refine ⟨[some 10], rfl, rfl, ?_, ?_⟩ <;> repeat' (first | exact trivial | exact rfl | exact Iff.rfl | apply And.intro)
            rw [stList, i64s_snoc]
            congr 3
            simp only [stNext, st1, st0, mx, stList_len, if_neg h1, if_pos h2, if_pos h3, i64s_get]
          · repeat refine Mm.mk ?_
            refine Ob.mk (by simp only [i64s_len, stList_len, List.length_cons, List.length_nil, eb]; omega) ?_
            repeat refine Mm.mk ?_
            refine Rng.ok (by simp only [inR]; omega) ?_
            refine Back.mk (n.toNat - (k + 1)) _ (by omega) ⟨k + 1, by omega, rfl, rfl⟩ ?_
            refine ⟨[some 10], rfl, rfl, ?_, ?_⟩ <;> repeat' (first | exact trivial | exact rfl | exact Iff.rfl | apply And.intro)
            rw [stList, i64s_snoc]
            congr 3
            simp only [stNext, st1, st0, mx, stList_len, if_neg h1, if_pos h2, if_neg h3, i64s_get]
        · repeat refine Mm.mk ?_
          refine Rng.ok (by simp only [inR]; omega) ?_
          repeat refine Mm.mk ?_
          try refine JoinVC.on ?_
          refine Br.mk (fun h3 => ?_) (fun h3 => ?_)
          · repeat refine Mm.mk ?_
            refine Ob.mk (by omega) ?_
            repeat refine Mm.mk ?_
            refine Ob.mk (by omega) ?_
            repeat refine Mm.mk ?_
            refine Rng.ok (by simp only [inR]; omega) ?_
            change YieldVC _ _ _ _ _
            refine YieldVC.mk (rsem_of_awp pMix [] rfl (by kernel_rfl) ?_)
            repeat refine Mm.mk ?_
            refine Rng.ok (by simp only [inR]; omega) ?_
            repeat refine Mm.mk ?_
            refine Ob.mk (by simp only [i64s_len, stList_len, List.length_cons, List.length_nil, eb]; omega) ?_
            repeat refine Mm.mk ?_
            refine Rng.ok (by simp only [inR]; omega) ?_
            refine Back.mk (n.toNat - (k + 1)) _ (by omega) ⟨k + 1, by omega, rfl, rfl⟩ ?_
            refine ⟨[some 10], rfl, rfl, ?_, ?_⟩ <;> repeat' (first | exact trivial | exact rfl | exact Iff.rfl | apply And.intro)
            rw [stList, i64s_snoc]
            congr 3
            simp only [stNext, st1, st0, mx, stList_len, if_neg h1, if_neg h2, if_pos h3, i64s_get]
          · repeat refine Mm.mk ?_
            refine Ob.mk (by simp only [i64s_len, stList_len, List.length_cons, List.length_nil, eb]; omega) ?_
            repeat refine Mm.mk ?_
            refine Rng.ok (by simp only [inR]; omega) ?_
            refine Back.mk (n.toNat - (k + 1)) _ (by omega) ⟨k + 1, by omega, rfl, rfl⟩ ?_
            refine ⟨[some 10], rfl, rfl, ?_, ?_⟩ <;> repeat' (first | exact trivial | exact rfl | exact Iff.rfl | apply And.intro)
            rw [stList, i64s_snoc]
            congr 3
            simp only [stNext, st1, st0, mx, stList_len, if_neg h1, if_neg h2, if_neg h3]
    · have e : (k : Int) = n := by omega
      have e2 : stRes p q s r n = stList p q s r k := by rw [stRes, if_pos h0]; congr 1; omega
      rw [h0, e2]
      repeat refine Mm.mk ?_
      refine EndVC.mk _ rfl _ _ ⟨rfl, rfl⟩ ?_
      refine ⟨[], rfl, rfl, ?_, ?_⟩ <;> repeat' (first | exact trivial | exact rfl | exact Iff.rfl | apply And.intro)
end Go.Sx

namespace Go.Sx
open Go Go.Proofs
set_option maxRecDepth 10000
theorem e22 : EntersF Try.prog 22 := enters_of Try.func22 (c := bodyOf Try.f22) (by kernel_rfl) rfl
theorem e19 : EntersF Try.prog 19 := enters_of Try.func19 (c := bodyOf Try.f19) (by kernel_rfl) rfl
theorem e3 : EntersF Try.prog 3 := enters_of Try.func3 (c := bodyOf Try.f3) (by kernel_rfl) rfl
def exMac : Mac := ⟨20, 120, 50, 200, 30, 25, 5, 3, 2⟩
theorem exMac_chk : exMac.chk = 0 := Mac.chk0 (by simp [Mac.ok, exMac])
theorem s22 : PSpec Try.prog 22 [] (xP True) := by
  refine spec_of pMix (O := []) Try.func22 (c := bodyOf Try.f22) rfl (by kernel_rfl) (by kernel_rfl) Try.ntmps22 (res := [.tmp 0]) (by kernel_rfl) ?_
  repeat refine Mm.mk ?_
  conv => whnf
  first | refine CallVC.pure rfl (s55) ?_ | refine CallVC0.pure rfl (s55) ?_
  repeat refine Mm.mk ?_
  conv => whnf
  first | refine CallVC.pure rfl (s18 exMac 190 1) ?_ | refine CallVC0.pure rfl (s18 exMac 190 1) ?_
  repeat refine Mm.mk ?_
  conv => whnf
  first | refine CallVC.pure rfl (s23 2 1 3 4 4) ?_ | refine CallVC0.pure rfl (s23 2 1 3 4 4) ?_
  repeat refine Mm.mk ?_
  conv => whnf
  first | refine CallVC.pure rfl (s31 ⟨3, 0⟩ ⟨0, 1⟩ ⟨0, -1⟩) ?_ | refine CallVC0.pure rfl (s31 ⟨3, 0⟩ ⟨0, 1⟩ ⟨0, -1⟩) ?_
  have v1 : exMac.tickV 190 1 = 200 := by
    rw [Mac.tickV, if_pos exMac_chk]; decide
  have v2 : exMac.tickE 190 1 = 0 := by
    rw [Mac.tickE, if_pos exMac_chk]; decide
  have v3 : boilE 2 1 3 4 4 = 0 := by decide
  have v4 : stRes 2 1 3 4 4 = [0, 3, 7, 10] := by decide
  have v5 : ctrE ⟨3, 0⟩ ⟨0, 1⟩ ⟨0, -1⟩ = 0 := by decide
  have v6 : ctrX ⟨3, 0⟩ ⟨0, 1⟩ ⟨0, -1⟩ = 16 := by decide
  have v7 : ctrY ⟨3, 0⟩ ⟨0, 1⟩ ⟨0, -1⟩ = 0 := by decide
  have v8 : ctrD ⟨3, 0⟩ ⟨0, 1⟩ ⟨0, -1⟩ = 12 := by decide
  repeat refine Mm.mk ?_
  refine Rng.ok (by simp only [inR]; omega) ?_
  repeat refine Mm.mk ?_
  refine Rng.ok (by simp only [inR]; omega) ?_
  repeat refine Mm.mk ?_
  try refine JoinVC.on ?_
  refine Br.mk (fun h1 => ?_) (fun h1 => ?_)
  · repeat refine Mm.mk ?_
    try refine JoinVC.on ?_
    refine Br.mk (fun h2 => ?_) (fun h2 => ?_)
    · repeat refine Mm.mk ?_
      conv => whnf
      first | refine CallVC.pure rfl (s27 _ [0, 3, 7, 10] (by rw [v4]; decide)) ?_ | refine CallVC0.pure rfl (s27 _ [0, 3, 7, 10] (by rw [v4]; decide)) ?_
      repeat refine Mm.mk ?_
      try refine JoinVC.on ?_
      refine Br.mk (fun h3 => ?_) (fun h3 => ?_)
      · repeat refine Mm.mk ?_
        try refine JoinVC.on ?_
        refine Br.mk (fun h4 => ?_) (fun h4 => ?_)
        · repeat refine Mm.mk ?_
          try refine JoinVC.on ?_
          refine Br.mk (fun h5 => ?_) (fun h5 => ?_)
          · repeat refine Mm.mk ?_
            refine EndVC.mk _ rfl _ _ ⟨rfl, rfl⟩ ?_
            refine ⟨[], rfl, rfl, ?_, ?_⟩ <;> repeat' (first | exact trivial | exact rfl | exact Iff.rfl | apply And.intro)
            exact iff_true_intro v8
          · exact absurd v7 h5
        · exact absurd v6 h4
      · exact absurd v4 h3
    · exact absurd v1 h2
  · exact absurd (by omega) h1
theorem s3 (m : Mac) (t v : Int) : PSpec Try.prog 3 [m.x, I t, I v] (xP True) := by
  refine spec_of pMix (O := [(3, ([], [⟨0, [], []⟩, ⟨2, [], []⟩, ⟨1, [2], []⟩, ⟨3, [], []⟩, ⟨4, [], []⟩, ⟨5, [], []⟩, ⟨6, [], []⟩, ⟨7, [], []⟩, ⟨8, [], []⟩, ⟨9, [], []⟩, ⟨10, [], []⟩, ⟨11, [], []⟩, ⟨12, [], []⟩, ⟨13, [], []⟩, ⟨14, [], []⟩, ⟨15, [], []⟩, ⟨16, [], []⟩, ⟨17, [], []⟩, ⟨18, [], []⟩]))]) Try.func3 (c := bodyOf Try.f3) rfl (by kernel_rfl) (by kernel_rfl) Try.ntmps3 (res := [.tmp 6]) (by kernel_rfl) ?_
  repeat refine Mm.mk ?_
  conv => whnf
  first | refine CallVC.pure rfl (s18 m t v) ?_ | refine CallVC0.pure rfl (s18 m t v) ?_
  repeat refine Mm.mk ?_
  conv => whnf
  first | refine CallVC.pure rfl (s19 m t v) ?_ | refine CallVC0.pure rfl (s19 m t v) ?_
  repeat refine Mm.mk ?_
  conv => whnf
  first | refine CallVC.pure rfl (s20 m) ?_ | refine CallVC0.pure rfl (s20 m) ?_
  repeat refine Mm.mk ?_
  conv => whnf
  first | refine CallVC.pure rfl (s21 m) ?_ | refine CallVC0.pure rfl (s21 m) ?_
  repeat refine Mm.mk ?_
  try refine JoinVC.on ?_
  refine Br.mk (fun h1 => ?_) (fun h1 => ?_)
  · repeat refine Mm.mk ?_
    try refine JoinVC.on ?_
    refine Br.mk (fun h2 => ?_) (fun h2 => ?_)
    · repeat refine Mm.mk ?_
      try refine JoinVC.on ?_
      refine Br.mk (fun h3 => ?_) (fun h3 => ?_)
      · repeat refine Mm.mk ?_
        conv => whnf
        first | refine CallVC.pure rfl (s22) ?_ | refine CallVC0.pure rfl (s22) ?_
        repeat refine Mm.mk ?_
        refine EndVC.mk _ rfl _ _ ⟨rfl, rfl⟩ ?_
        refine ⟨[], rfl, rfl, ?_, ?_⟩ <;> repeat' (first | exact trivial | exact rfl | exact Iff.rfl | apply And.intro)
      · exact absurd rfl h3
    · exact absurd rfl h2
  · exact absurd rfl h1
end Go.Sx

namespace Go.Sx
open Go Go.Proofs
set_option maxRecDepth 10000
set_option maxHeartbeats 1000000
theorem e7 : EntersF Try.prog 7 := enters_of Try.func7 (c := bodyOf Try.f7) (by kernel_rfl) rfl
theorem s7 (a b c : Spot) (l : Int) : PSpec Try.prog 7 [a.v, b.v, c.v, I l] (xP True) := by
  refine spec_of pMix (O := []) Try.func7 (c := bodyOf Try.f7) rfl (by kernel_rfl) (by kernel_rfl) Try.ntmps7 (res := [.tmp 8]) (by kernel_rfl) ?_
  repeat' (conv => whnf
           first
           | refine Rng.ok (by simp only [inR]; omega) ?_
           | refine Ob.mk (by first | omega | (simp; done) | decide | (simp; omega)) ?_
           | refine Ob.mk (show eqOK _ _ = true from by kernel_rfl) ?_
           | refine Ob.mk (show keyOK _ _ _ = true from by kernel_rfl) ?_
           | refine Val.mk _ (shr_val (by simp; rfl)) ?_
           | refine JoinVC.on ?_
           | refine Nils.mk (fun h => ?_) ?_
           | refine Val.mk _ (Int.tmod_eq_emod_of_nonneg (by omega)) ?_
           | refine Val.mk _ (Int.tdiv_eq_ediv_of_nonneg (by omega)) ?_
           | refine Mm.mk ?_
           | refine CallVC.pure rfl (s31 a b c) ?_
           | refine CallVC.pure rfl (s32 a b c) ?_
           | refine CallVC.pure rfl (s33 a b c l) ?_
           | refine CallVC.pure rfl (s34 a b c l) ?_
           | refine CallVC.pure rfl (s22) ?_
           | refine CallVC0.pure rfl (s31 a b c) ?_
           | refine CallVC0.pure rfl (s32 a b c) ?_
           | refine CallVC0.pure rfl (s33 a b c l) ?_
           | refine CallVC0.pure rfl (s34 a b c l) ?_
           | refine CallVC0.pure rfl (s22) ?_
           | (refine Br.mk (fun h => ?_) (fun h => ?_) <;> first | (exfalso; omega; done) | (exfalso; simp at h; done) | skip))
  all_goals
    repeat refine Mm.mk ?_
    refine EndVC.mk _ rfl _ _ ⟨rfl, rfl⟩ ?_
    refine ⟨[], rfl, rfl, ?_, ?_⟩ <;> repeat' (first | exact trivial | exact rfl | exact Iff.rfl | apply And.intro)
end Go.Sx

namespace Go.Sx
open Go Go.Proofs
set_option maxRecDepth 10000
set_option maxHeartbeats 1000000
theorem e8 : EntersF Try.prog 8 := enters_of Try.func8 (c := bodyOf Try.f8) (by kernel_rfl) rfl
theorem e35 : EntersF Try.prog 35 := enters_of Try.func35 (c := bodyOf Try.f35) (by kernel_rfl) rfl
theorem e36 : EntersF Try.prog 36 := enters_of Try.func36 (c := bodyOf Try.f36) (by kernel_rfl) rfl
/-! ### The centre of a circle -/
def crs (p q r : Spot) : Int := (q.x - p.x) * (r.y - p.y) - (q.y - p.y) * (r.x - p.x)
@[reducible] def Spot.mv (p : Spot) (u v : Int) : Spot := ⟨p.x + u, p.y + v⟩
theorem cD_crs (p q r : Spot) : cD p q r = 2 * crs p q r := (d_eq p q r).symm
theorem cD_cyc (p q r : Spot) : cD r p q = cD p q r := by simp only [cD, tsum]; grind
theorem cX_cyc (p q r : Spot) : cX r p q = cX p q r := by simp only [cX, tsum]; grind
theorem cY_cyc (p q r : Spot) : cY r p q = cY p q r := by simp only [cY, tsum]; grind
theorem cD_swap (p q r : Spot) : cD q p r = - cD p q r := by simp only [cD, tsum, g2]; grind
theorem cX_swap (p q r : Spot) : cX q p r = - cX p q r := by simp only [cX, tsum, g3]; grind
theorem cY_swap (p q r : Spot) : cY q p r = - cY p q r := by simp only [cY, tsum, g4]; grind
theorem cD_mv (p q r : Spot) (u v : Int) : cD (p.mv u v) (q.mv u v) (r.mv u v) = cD p q r := by simp only [cD, tsum, g2]; grind
theorem cX_mv (p q r : Spot) (u v : Int) : cX (p.mv u v) (q.mv u v) (r.mv u v) = cX p q r + cD p q r * u := by simp only [cD, cX, tsum, g2, g3, sq]; grind
theorem cY_mv (p q r : Spot) (u v : Int) : cY (p.mv u v) (q.mv u v) (r.mv u v) = cY p q r + cD p q r * v := by simp only [cD, cY, tsum, g2, g4, sq]; grind
theorem apart1 (p q r : Spot) : 2 * cX p q r * (q.x - p.x) + 2 * cY p q r * (q.y - p.y) = cD p q r * (q.x * q.x + q.y * q.y - p.x * p.x - p.y * p.y) := by
  simp only [cD, cX, cY, tsum, g2, g3, g4, sq]; grind
theorem apart2 (p q r : Spot) : 2 * cX p q r * (r.x - p.x) + 2 * cY p q r * (r.y - p.y) = cD p q r * (r.x * r.x + r.y * r.y - p.x * p.x - p.y * p.y) := by
  simp only [cD, cX, cY, tsum, g2, g3, g4, sq]; grind
/-- The sign of the whole. -/
structure Ctr (p q r : Spot) (x y d : Int) : Prop where
  e : ctrE p q r = 0
  x : ctrX p q r = x
  y : ctrY p q r = y
  d : ctrD p q r = d
theorem ctr_of {p q r : Spot} (h : cok p q r) (s : Int) (h1 : s = 1 ∨ s = -1) (h2 : 0 < s * cD p q r) : Ctr p q r (s * cX p q r) (s * cY p q r) (s * cD p q r) := by
  have h0 : cD p q r ≠ 0 := fun h0 => by rw [h0] at h2; simp at h2
  rcases h1 with rfl | rfl
  · have : ¬ cD p q r < 0 := by omega
    refine ⟨?_, ?_, ?_, ?_⟩ <;> simp [ctrE, ctrX, ctrY, ctrD, h, h0, this]
  · have : cD p q r < 0 := by omega
    refine ⟨?_, ?_, ?_, ?_⟩ <;> simp [ctrE, ctrX, ctrY, ctrD, h, h0, this]
theorem wrap64 (a : Int) : IntKind.i64.wrap a = (a + 9223372036854775808) % 18446744073709551616 - 9223372036854775808 := by
  have e1 : ((2 : Int) ^ IntKind.i64.bits) = 18446744073709551616 := rfl
  have e2 : ((2 : Int) ^ (IntKind.i64.bits - 1)) = 9223372036854775808 := rfl
  have e3 : IntKind.i64.signed = true := rfl
  unfold IntKind.wrap
  simp only [e1, e2, e3, Bool.true_and, decide_eq_true_eq]
  split <;> omega
theorem wrap64_add {a b c : Int} (h : a + b = c) : IntKind.i64.wrap (IntKind.i64.wrap a + IntKind.i64.wrap b) = IntKind.i64.wrap c := by
  simp only [wrap64]
  omega
theorem s36 (p : Spot) (u v : Int) (h : p.x.natAbs ≤ 32768 ∧ p.y.natAbs ≤ 32768) (hu : u.natAbs ≤ 32768 ∧ v.natAbs ≤ 32768) : PSpec Try.prog 36 [p.v, I u, I v] (.x (p.mv u v).v) := by
  refine spec_of pMix (O := []) Try.func36 (c := bodyOf Try.f36) rfl (by kernel_rfl) (by kernel_rfl) Try.ntmps36 (res := [.cell 6 46]) (by kernel_rfl) ?_
  repeat' (conv => whnf
           first
           | refine Rng.ok (by simp only [inR]; omega) ?_
           | refine Ob.mk (by first | omega | (simp; done) | decide | (simp; omega)) ?_
           | refine Ob.mk (show eqOK _ _ = true from by kernel_rfl) ?_
           | refine Ob.mk (show keyOK _ _ _ = true from by kernel_rfl) ?_
           | refine Val.mk _ (shr_val (by simp; rfl)) ?_
           | refine JoinVC.on ?_
           | refine Nils.mk (fun h => ?_) ?_
           | refine Val.mk _ (Int.tmod_eq_emod_of_nonneg (by omega)) ?_
           | refine Val.mk _ (Int.tdiv_eq_ediv_of_nonneg (by omega)) ?_
           | refine Mm.mk ?_
           | (refine Br.mk (fun h => ?_) (fun h => ?_) <;> first | (exfalso; omega; done) | (exfalso; simp at h; done) | skip))
  repeat refine Mm.mk ?_
  refine EndVC.mk _ rfl _ _ ⟨rfl, rfl⟩ ?_
  refine ⟨[], rfl, rfl, ?_, ?_⟩ <;> repeat' (first | exact trivial | exact rfl | exact Iff.rfl | apply And.intro)
theorem s35 (p q : Spot) (x y d : Int) (hp : p.x.natAbs ≤ 32768 ∧ p.y.natAbs ≤ 32768) (hq : q.x.natAbs ≤ 32768 ∧ q.y.natAbs ≤ 32768) (hx : x.natAbs ≤ 1152921504606846976) (hy : y.natAbs ≤ 1152921504606846976)
    (h : 2 * x * (q.x - p.x) + 2 * y * (q.y - p.y) = d * (q.x * q.x + q.y * q.y - p.x * p.x - p.y * p.y)) : PSpec Try.prog 35 [p.v, q.v, I x, I y, I d] (xP True) := by
  have m1 := mul_bd hp.1 hp.1
  have m2 := mul_bd hp.2 hp.2
  have m3 := mul_bd hq.1 hq.1
  have m4 := mul_bd hq.2 hq.2
  refine spec_of pMix (O := []) Try.func35 (c := bodyOf Try.f35) rfl (by kernel_rfl) (by kernel_rfl) Try.ntmps35 (res := [.tmp 10]) (by kernel_rfl) ?_
  repeat refine Mm.mk ?_
  refine Rng.ok (by simp only [inR]; omega) ?_
  repeat refine Mm.mk ?_
  refine Rng.ok (by simp only [inR]; omega) ?_
  refine Rng.wr ?_
  conv => whnf
  repeat refine Mm.mk ?_
  refine Rng.ok (by simp only [inR]; omega) ?_
  repeat refine Mm.mk ?_
  refine Rng.ok (by simp only [inR]; omega) ?_
  refine Rng.wr ?_
  conv => whnf
  refine Rng.wr ?_
  conv => whnf
  repeat refine Mm.mk ?_
  refine Rng.ok (by simp only [inR]; omega) ?_
  repeat refine Mm.mk ?_
  refine Rng.ok (by simp only [inR]; omega) ?_
  repeat refine Mm.mk ?_
  refine Rng.ok (by simp only [inR]; omega) ?_
  repeat refine Mm.mk ?_
  refine Rng.ok (by simp only [inR]; omega) ?_
  repeat refine Mm.mk ?_
  refine Rng.ok (by simp only [inR]; omega) ?_
  repeat refine Mm.mk ?_
  refine Rng.ok (by simp only [inR]; omega) ?_
  repeat refine Mm.mk ?_
  refine Rng.ok (by simp only [inR]; omega) ?_
  refine Rng.wr ?_
  conv => whnf
  repeat refine Mm.mk ?_
  refine EndVC.mk _ rfl _ _ ⟨rfl, rfl⟩ ⟨[], rfl, rfl, ⟨?_, trivial⟩, trivial⟩
  exact ⟨fun _ => trivial, fun _ => wrap64_add h⟩
theorem mxlt {m n : Int} (h : (if (if (if m < 0 - m then 0 - m else m) < n then n else (if m < 0 - m then 0 - m else m)) < 0 - n then 0 - n else (if (if m < 0 - m then 0 - m else m) < n then n else (if m < 0 - m then 0 - m else m))) < 1048576) : m.natAbs < 1048576 ∧ n.natAbs < 1048576 := by
  omega
end Go.Sx

namespace Go.Sx
open Go Go.Proofs
set_option maxRecDepth 10000
set_option maxHeartbeats 8000000

theorem nb {x : Int} {B : Nat} (h : x.natAbs ≤ B) : -(B : Int) ≤ x ∧ x ≤ B := by omega
theorem s8 (a0 a1 b0 b1 c0 c1 u v l : Int) (ha : -32768 ≤ a0 ∧ a0 ≤ 32767 ∧ -32768 ≤ a1 ∧ a1 ≤ 32767) (hb : -32768 ≤ b0 ∧ b0 ≤ 32767 ∧ -32768 ≤ b1 ∧ b1 ≤ 32767)
    (hc : -32768 ≤ c0 ∧ c0 ≤ 32767 ∧ -32768 ≤ c1 ∧ c1 ≤ 32767) (hu : -32768 ≤ u ∧ u ≤ 32767 ∧ -32768 ≤ v ∧ v ≤ 32767) (hl : 0 ≤ l ∧ l ≤ 65535) :
    PSpec Try.prog 8 [.agg [.int .i16 a0, .int .i16 a1], .agg [.int .i16 b0, .int .i16 b1], .agg [.int .i16 c0, .int .i16 c1], .agg [.int .i16 u, .int .i16 v], .one (.int .u16 l)] (xP True) := by
  have hok : cok ⟨a0, a1⟩ ⟨b0, b1⟩ ⟨c0, c1⟩ := by unfold cok Spot.ok; simp only; omega
  have hok1 : cok ⟨c0, c1⟩ ⟨a0, a1⟩ ⟨b0, b1⟩ := ⟨hok.2.2, hok.1, hok.2.1⟩
  have hok2 : cok ⟨b0, b1⟩ ⟨a0, a1⟩ ⟨c0, c1⟩ := ⟨hok.2.1, hok.1, hok.2.2⟩
  have hok3 : cok (Spot.mv ⟨a0, a1⟩ u v) (Spot.mv ⟨b0, b1⟩ u v) (Spot.mv ⟨c0, c1⟩ u v) := by unfold cok Spot.ok Spot.mv; simp only; omega
  have m1 := mul_bd (a := b0 - a0) (b := c1 - a1) (A := 65535) (B := 65535) (by omega) (by omega)
  have m2 := mul_bd (a := b1 - a1) (b := c0 - a0) (A := 65535) (B := 65535) (by omega) (by omega)
  have eC := cD_crs ⟨a0, a1⟩ ⟨b0, b1⟩ ⟨c0, c1⟩
  unfold crs at eC
  simp only at eC
  by_cases h0 : cD ⟨a0, a1⟩ ⟨b0, b1⟩ ⟨c0, c1⟩ = 0
  · have e1 : ctrE ⟨a0, a1⟩ ⟨b0, b1⟩ ⟨c0, c1⟩ = 9 := by simp [ctrE, hok, h0]
    have e2 : ctrX ⟨a0, a1⟩ ⟨b0, b1⟩ ⟨c0, c1⟩ = 0 := by simp [ctrX, hok, h0]
    have e3 : ctrY ⟨a0, a1⟩ ⟨b0, b1⟩ ⟨c0, c1⟩ = 0 := by simp [ctrY, hok, h0]
    have e4 : ctrD ⟨a0, a1⟩ ⟨b0, b1⟩ ⟨c0, c1⟩ = 0 := by simp [ctrD, hok, h0]
    refine spec_of pMix (O := [(1, ([21, 22, 23], [⟨0, [], []⟩, ⟨1, [], []⟩, ⟨2, [], []⟩, ⟨3, [], []⟩, ⟨4, [], []⟩, ⟨5, [], []⟩, ⟨6, [], []⟩, ⟨7, [], []⟩, ⟨8, [], []⟩, ⟨9, [], []⟩, ⟨10, [], []⟩, ⟨11, [], []⟩, ⟨12, [], []⟩, ⟨13, [], []⟩, ⟨14, [], []⟩, ⟨15, [], []⟩, ⟨16, [], []⟩, ⟨17, [], []⟩, ⟨18, [], []⟩, ⟨19, [], []⟩, ⟨20, [], []⟩, ⟨23, [], []⟩, ⟨22, [], []⟩, ⟨21, [], []⟩, ⟨24, [7, 8, 9, 10, 11, 12, 13, 14, 15, 16, 17, 18, 19, 20], []⟩, ⟨25, [14, 15, 16, 17, 18, 19, 20], []⟩, ⟨26, [], []⟩])), (15, ([], [⟨0, [], []⟩, ⟨1, [], []⟩, ⟨2, [], []⟩, ⟨4, [], []⟩, ⟨5, [], []⟩, ⟨6, [], []⟩, ⟨8, [], []⟩, ⟨9, [], []⟩, ⟨10, [], []⟩, ⟨3, [4, 5, 6, 8, 9, 10], []⟩, ⟨7, [8, 9, 10], []⟩, ⟨11, [], []⟩, ⟨12, [], []⟩, ⟨13, [], []⟩, ⟨14, [], []⟩, ⟨15, [], []⟩, ⟨16, [], []⟩, ⟨17, [], []⟩, ⟨18, [], []⟩, ⟨19, [], []⟩, ⟨20, [], []⟩, ⟨21, [], []⟩]))]) Try.func8 (c := bodyOf Try.f8) rfl (by kernel_rfl) (by kernel_rfl) Try.ntmps8 (res := [.tmp 10]) (by kernel_rfl) ?_
    repeat' (conv => whnf
             first
             | refine Rng.ok (by simp only [inR]; omega) ?_
             | refine Ob.mk (by first | omega | (simp; done) | decide | (simp; omega)) ?_
             | refine Ob.mk (show eqOK _ _ = true from by kernel_rfl) ?_
             | refine Ob.mk (show keyOK _ _ _ = true from by kernel_rfl) ?_
             | refine Val.mk _ (shr_val (by simp; rfl)) ?_
             | refine JoinVC.on ?_
             | refine Nils.mk (fun h => ?_) ?_
             | refine Val.mk _ (Int.tmod_eq_emod_of_nonneg (by omega)) ?_
             | refine Val.mk _ (Int.tdiv_eq_ediv_of_nonneg (by omega)) ?_
             | refine Mm.mk ?_
             | refine CallVC.pure rfl (s31 ⟨a0, a1⟩ ⟨b0, b1⟩ ⟨c0, c1⟩) ?_
             | refine CallVC.pure rfl (s22) ?_
             | refine CallVC0.pure rfl (s31 ⟨a0, a1⟩ ⟨b0, b1⟩ ⟨c0, c1⟩) ?_
             | refine CallVC0.pure rfl (s22) ?_
             | (refine Br.mk (fun h => ?_) (fun h => ?_) <;> first | (exfalso; omega; done) | (exfalso; simp at h; done) | skip))
    repeat refine Mm.mk ?_
    refine EndVC.mk _ rfl _ _ ⟨rfl, rfl⟩ ?_
    refine ⟨[], rfl, rfl, ?_, ?_⟩ <;> repeat' (first | exact trivial | exact rfl | exact Iff.rfl | apply And.intro)
  obtain ⟨s, hs, h1⟩ : ∃ s : Int, (s = 1 ∨ s = -1) ∧ 0 < s * cD ⟨a0, a1⟩ ⟨b0, b1⟩ ⟨c0, c1⟩ := by
    rcases Int.lt_or_gt_of_ne h0 with h | h
    · exact ⟨-1, .inr rfl, by omega⟩
    · exact ⟨1, .inl rfl, by omega⟩
  have t0 := ctr_of hok s hs h1
  have t1 := ctr_of hok1 s hs (by rw [cD_cyc]; exact h1)
  have t2 := ctr_of hok2 (-s) (by omega) (by rw [cD_swap, Int.neg_mul_neg]; exact h1)
  have t3 := ctr_of hok3 s hs (by rw [cD_mv]; exact h1)
  rw [cD_cyc, cX_cyc, cY_cyc] at t1
  rw [cD_swap, cX_swap, cY_swap, Int.neg_mul_neg, Int.neg_mul_neg, Int.neg_mul_neg] at t2
  rw [cD_mv, cX_mv, cY_mv] at t3
  have q1 := congrArg (s * ·) (apart1 ⟨a0, a1⟩ ⟨b0, b1⟩ ⟨c0, c1⟩)
  have q2 := congrArg (s * ·) (apart2 ⟨a0, a1⟩ ⟨b0, b1⟩ ⟨c0, c1⟩)
  simp only at q1 q2
  obtain ⟨bX, bY, bD0, bD⟩ := ctr_bd ⟨a0, a1⟩ ⟨b0, b1⟩ ⟨c0, c1⟩
  rw [t0.x] at bX
  rw [t0.y] at bY
  rw [t0.d] at bD bD0
  have k0 := s31 ⟨a0, a1⟩ ⟨b0, b1⟩ ⟨c0, c1⟩
  have k1 := s31 ⟨c0, c1⟩ ⟨a0, a1⟩ ⟨b0, b1⟩
  have k2 := s31 ⟨b0, b1⟩ ⟨a0, a1⟩ ⟨c0, c1⟩
  have k3 := s31 (Spot.mv ⟨a0, a1⟩ u v) (Spot.mv ⟨b0, b1⟩ u v) (Spot.mv ⟨c0, c1⟩ u v)
  rw [t0.x, t0.y, t0.d, t0.e] at k0
  rw [t1.x, t1.y, t1.d, t1.e] at k1
  rw [t2.x, t2.y, t2.d, t2.e] at k2
  rw [t3.x, t3.y, t3.d, t3.e] at k3
  have k4 := s33 ⟨a0, a1⟩ ⟨b0, b1⟩ ⟨c0, c1⟩ l
  have e4 : cenE ⟨a0, a1⟩ ⟨b0, b1⟩ ⟨c0, c1⟩ l = 0 := by unfold cenE; rw [if_pos t0.e, if_pos (by omega)]
  rw [e4] at k4
  have hB : cenB ⟨a0, a1⟩ ⟨b0, b1⟩ ⟨c0, c1⟩ l ↔ s * cX ⟨a0, a1⟩ ⟨b0, b1⟩ ⟨c0, c1⟩ * (s * cX ⟨a0, a1⟩ ⟨b0, b1⟩ ⟨c0, c1⟩) + s * cY ⟨a0, a1⟩ ⟨b0, b1⟩ ⟨c0, c1⟩ * (s * cY ⟨a0, a1⟩ ⟨b0, b1⟩ ⟨c0, c1⟩) ≤ l * (s * cD ⟨a0, a1⟩ ⟨b0, b1⟩ ⟨c0, c1⟩) * (l * (s * cD ⟨a0, a1⟩ ⟨b0, b1⟩ ⟨c0, c1⟩)) := by
    rw [← t0.x, ← t0.y, ← t0.d]
    exact ⟨fun h => h.le, fun h => ⟨e4, h⟩⟩
  rw [Int.mul_add, ← Int.mul_assoc s] at k3
  rw [Int.mul_add, ← Int.mul_assoc s] at k3
  have q1' : 2 * (s * cX ⟨a0, a1⟩ ⟨b0, b1⟩ ⟨c0, c1⟩) * (b0 - a0) + 2 * (s * cY ⟨a0, a1⟩ ⟨b0, b1⟩ ⟨c0, c1⟩) * (b1 - a1) = (s * cD ⟨a0, a1⟩ ⟨b0, b1⟩ ⟨c0, c1⟩) * (b0 * b0 + b1 * b1 - a0 * a0 - a1 * a1) := by grind
  have q2' : 2 * (s * cX ⟨a0, a1⟩ ⟨b0, b1⟩ ⟨c0, c1⟩) * (c0 - a0) + 2 * (s * cY ⟨a0, a1⟩ ⟨b0, b1⟩ ⟨c0, c1⟩) * (c1 - a1) = (s * cD ⟨a0, a1⟩ ⟨b0, b1⟩ ⟨c0, c1⟩) * (c0 * c0 + c1 * c1 - a0 * a0 - a1 * a1) := by grind
  have eD2 : s * cD ⟨a0, a1⟩ ⟨b0, b1⟩ ⟨c0, c1⟩ = cD ⟨a0, a1⟩ ⟨b0, b1⟩ ⟨c0, c1⟩ ∨ s * cD ⟨a0, a1⟩ ⟨b0, b1⟩ ⟨c0, c1⟩ = - cD ⟨a0, a1⟩ ⟨b0, b1⟩ ⟨c0, c1⟩ := by rcases hs with rfl | rfl <;> simp
  clear q1 q2 t0 t1 t2 t3 hok hok1 hok2 hok3
  generalize s * cX ⟨a0, a1⟩ ⟨b0, b1⟩ ⟨c0, c1⟩ = x at *
  generalize s * cY ⟨a0, a1⟩ ⟨b0, b1⟩ ⟨c0, c1⟩ = y at *
  generalize s * cD ⟨a0, a1⟩ ⟨b0, b1⟩ ⟨c0, c1⟩ = d at *
  have n1 := mul_bd (a := d) (b := u) (A := 824633720832) (B := 32768) (by omega) (by omega)
  have n2 := mul_bd (a := d) (b := v) (A := 824633720832) (B := 32768) (by omega) (by omega)
  have w1 := s35 ⟨a0, a1⟩ ⟨b0, b1⟩ x y d (by simp only; omega) (by simp only; omega) (by omega) (by omega) q1'
  have w2 := s35 ⟨a0, a1⟩ ⟨c0, c1⟩ x y d (by simp only; omega) (by simp only; omega) (by omega) (by omega) q2'
  have n3 := mul_bd (a := l) (b := l) (A := 65535) (B := 65535) (by omega) (by omega)
  obtain ⟨m, hm⟩ : ∃ m, m = x.tdiv d := ⟨_, rfl⟩
  obtain ⟨n, hn⟩ : ∃ n, n = y.tdiv d := ⟨_, rfl⟩
  have hm1 : (0 - x).tdiv d = 0 - m := by rw [Int.zero_sub, Int.neg_tdiv, ← hm, Int.zero_sub]
  have hn1 : (0 - y).tdiv d = 0 - n := by rw [Int.zero_sub, Int.neg_tdiv, ← hn, Int.zero_sub]
  have km : m.natAbs ≤ x.natAbs := by rw [hm, Int.natAbs_tdiv]; exact Nat.div_le_self ..
  have kn : n.natAbs ≤ y.natAbs := by rw [hn, Int.natAbs_tdiv]; exact Nat.div_le_self ..
  have bm : m.natAbs < 1048576 → (m * m).natAbs ≤ 1099511627776 := fun h => mul_bd (A := 1048576) (B := 1048576) (by omega) (by omega)
  have bn : n.natAbs < 1048576 → (n * n).natAbs ≤ 1099511627776 := fun h => mul_bd (A := 1048576) (B := 1048576) (by omega) (by omega)
  have hN : x.tmod d = 0 → y.tmod d = 0 → decide (cenB ⟨a0, a1⟩ ⟨b0, b1⟩ ⟨c0, c1⟩ l) = decide (m * m + n * n ≤ l * l) := fun hx hy => by
    have ex : x = m * d := by have := Int.tdiv_mul_add_tmod x d; rw [hx, ← hm] at this; omega
    have ey : y = n * d := by have := Int.tdiv_mul_add_tmod y d; rw [hy, ← hn] at this; omega
    refine decide_eq_decide.2 (hB.trans ?_)
    have hd2 : 0 < d * d := Int.mul_pos h1 h1
    rw [ex, ey, show m * d * (m * d) + n * d * (n * d) = (m * m + n * n) * (d * d) by grind, show l * d * (l * d) = (l * l) * (d * d) by grind]
    exact Int.mul_le_mul_right hd2
  clear hB q1' q2'
  replace m1 := nb m1
  replace m2 := nb m2
  replace n1 := nb n1
  replace n2 := nb n2
  replace n3 := nb n3
  have bx := nb bX
  have by' := nb bY
  have km2 : -216172782113783808 ≤ m ∧ m ≤ 216172782113783808 := by omega
  have kn2 : -216172782113783808 ≤ n ∧ n ≤ 216172782113783808 := by omega
  clear bX bY km kn
  refine spec_of pMix (O := [(1, ([21, 22, 23], [⟨0, [], []⟩, ⟨1, [], []⟩, ⟨2, [], []⟩, ⟨3, [], []⟩, ⟨4, [], []⟩, ⟨5, [], []⟩, ⟨6, [], []⟩, ⟨7, [], []⟩, ⟨8, [], []⟩, ⟨9, [], []⟩, ⟨10, [], []⟩, ⟨11, [], []⟩, ⟨12, [], []⟩, ⟨13, [], []⟩, ⟨14, [], []⟩, ⟨15, [], []⟩, ⟨16, [], []⟩, ⟨17, [], []⟩, ⟨18, [], []⟩, ⟨19, [], []⟩, ⟨20, [], []⟩, ⟨23, [], []⟩, ⟨22, [], []⟩, ⟨21, [], []⟩, ⟨24, [7, 8, 9, 10, 11, 12, 13, 14, 15, 16, 17, 18, 19, 20], []⟩, ⟨25, [14, 15, 16, 17, 18, 19, 20], []⟩, ⟨26, [], []⟩])), (15, ([], [⟨0, [], []⟩, ⟨1, [], []⟩, ⟨2, [], []⟩, ⟨4, [], []⟩, ⟨5, [], []⟩, ⟨6, [], []⟩, ⟨8, [], []⟩, ⟨9, [], []⟩, ⟨10, [], []⟩, ⟨3, [4, 5, 6, 8, 9, 10], []⟩, ⟨7, [8, 9, 10], []⟩, ⟨11, [], []⟩, ⟨12, [], []⟩, ⟨13, [], []⟩, ⟨14, [], []⟩, ⟨15, [], []⟩, ⟨16, [], []⟩, ⟨17, [], []⟩, ⟨18, [], []⟩, ⟨19, [], []⟩, ⟨20, [], []⟩, ⟨21, [], []⟩]))]) Try.func8 (c := bodyOf Try.f8) rfl (by kernel_rfl) (by kernel_rfl) Try.ntmps8 (res := [.tmp 10]) (by kernel_rfl) ?_
  repeat' (conv => whnf
           first
           | refine Rng.ok (by simp only [inR]; omega) ?_
           | refine Ob.mk (by first | omega | (simp; done) | decide | (simp; omega)) ?_
           | refine Ob.mk (show eqOK _ _ = true from by kernel_rfl) ?_
           | refine Ob.mk (show keyOK _ _ _ = true from by kernel_rfl) ?_
           | refine Val.mk _ (shr_val (by simp; rfl)) ?_
           | refine JoinVC.on ?_
           | refine Nils.mk (fun h => ?_) ?_
           | refine Val.mk _ (Int.tmod_eq_emod_of_nonneg (by omega)) ?_
           | refine Val.mk _ (Int.tdiv_eq_ediv_of_nonneg (by omega)) ?_
           | refine Mm.mk ?_
           | refine CallVC.pure rfl (k0) ?_
           | refine CallVC.pure rfl (k1) ?_
           | refine CallVC.pure rfl (k2) ?_
           | refine CallVC.pure rfl (k3) ?_
           | refine CallVC.pure rfl (w1) ?_
           | refine CallVC.pure rfl (w2) ?_
           | refine CallVC.pure rfl (s36 ⟨a0, a1⟩ u v (by simp only; omega) (by omega)) ?_
           | refine CallVC.pure rfl (s36 ⟨b0, b1⟩ u v (by simp only; omega) (by omega)) ?_
           | refine CallVC.pure rfl (s36 ⟨c0, c1⟩ u v (by simp only; omega) (by omega)) ?_
           | refine CallVC.pure rfl (k4) ?_
           | refine CallVC.pure rfl (s22) ?_
           | refine CallVC0.pure rfl (k0) ?_
           | refine CallVC0.pure rfl (k1) ?_
           | refine CallVC0.pure rfl (k2) ?_
           | refine CallVC0.pure rfl (k3) ?_
           | refine CallVC0.pure rfl (w1) ?_
           | refine CallVC0.pure rfl (w2) ?_
           | refine CallVC0.pure rfl (s36 ⟨a0, a1⟩ u v (by simp only; omega) (by omega)) ?_
           | refine CallVC0.pure rfl (s36 ⟨b0, b1⟩ u v (by simp only; omega) (by omega)) ?_
           | refine CallVC0.pure rfl (s36 ⟨c0, c1⟩ u v (by simp only; omega) (by omega)) ?_
           | refine CallVC0.pure rfl (k4) ?_
           | refine CallVC0.pure rfl (s22) ?_
           | (refine Br.mk (fun h => ?_) (fun h => ?_) <;> first | (exfalso; omega; done) | (exfalso; simp at h; done) | skip))
  repeat' (conv => whnf
           first
           | refine Rng.ok (by simp only [inR]; omega) ?_
           | refine Ob.mk (by omega) ?_
           | refine JoinVC.on ?_
           | refine Mm.mk ?_
           | refine Val.mk (x.tmod d) rfl ?_
           | refine Val.mk (y.tmod d) rfl ?_
           | refine Val.mk m hm.symm ?_
           | refine Val.mk n hn.symm ?_
           | refine Val.mk (0 - m) hm1 ?_
           | refine Val.mk (0 - n) hn1 ?_
           | refine CallVC.pure rfl (s22) ?_
           | refine CallVC0.pure rfl (s22) ?_
           | refine Br.mk (fun (h : x.tmod d = 0) => ?_) (fun h => ?_)
           | refine Br.mk (fun (h : y.tmod d = 0) => ?_) (fun h => ?_)
           | (refine Br.mk (fun h => have hb := mxlt h; ?_) (fun h => ?_) <;> clear h)
           | refine Br.mk (fun h => ?_) (fun h => (h (hN (by assumption) (by assumption))).elim))
  all_goals
    repeat refine Mm.mk ?_
    refine EndVC.mk _ rfl _ _ ⟨rfl, rfl⟩ ?_
    refine ⟨[], rfl, rfl, ?_, ?_⟩ <;> repeat' (first | exact trivial | exact rfl | exact Iff.rfl | apply And.intro)
end Go.Sx
