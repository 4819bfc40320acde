import Derived.Test.YtfmieahfmjjldaaProg
import Derived.Test.YtfmieahfmjjldaaXv
import Derived.Test.YtfmieahfmjjldaaXc
namespace Go.Sx
open Go Go.Proofs
theorem pMix : Try.prog.follows .mixedOrders = true := by kernel_rfl
set_option maxRecDepth 10000
theorem s56 (n lo hi : Int) : PSpec Try.prog 16 [I n, I lo, I hi] (xP (n < lo ∨ hi < n)) := by
  refine spec_of pMix (O := []) Try.func16 (c := bodyOf Try.f16) rfl (by kernel_rfl) (by kernel_rfl) Try.ntmps16 (res := [.tmp 6]) (by kernel_rfl) ?_
  repeat refine Mm.mk ?_
  try refine JoinVC.on ?_
  refine Br.mk (fun h => ?_) (fun h => ?_)
  · repeat refine Mm.mk ?_
    refine EndVC.mk _ rfl _ _ ⟨rfl, rfl⟩ ⟨[], rfl, rfl, ⟨?_, trivial⟩, trivial⟩
    exact Or.inl h
  · repeat refine Mm.mk ?_
    refine EndVC.mk _ rfl _ _ ⟨rfl, rfl⟩ ⟨[], rfl, rfl, ⟨?_, trivial⟩, trivial⟩
    show _ ↔ _
    simp [h]
theorem s58 (n lo hi : Int) : PSpec Try.prog 9 [I n, I lo, I hi] (xP (lo ≤ n ∧ n ≤ hi)) := by
  refine spec_of pMix (O := []) Try.func9 (c := bodyOf Try.f9) rfl (by kernel_rfl) (by kernel_rfl) Try.ntmps9 (res := [.tmp 6]) (by kernel_rfl) ?_
  repeat refine Mm.mk ?_
  try refine JoinVC.on ?_
  refine Br.mk (fun h => ?_) (fun h => ?_)
  · repeat refine Mm.mk ?_
    refine EndVC.mk _ rfl _ _ ⟨rfl, rfl⟩ ⟨[], rfl, rfl, ⟨?_, trivial⟩, trivial⟩
    show _ ↔ _
    simp [h]
  · repeat refine Mm.mk ?_
    refine EndVC.mk _ rfl _ _ ⟨rfl, rfl⟩ ⟨[], rfl, rfl, ⟨?_, trivial⟩, trivial⟩
    show ¬ _
    simp [h]
structure Mac where
  room : Int
  melt : Int
  cool : Int
  top : Int
  heat : Int
  chill : Int
  drift : Int
  hold : Int
  life : Int
@[reducible] def Mac.x (m : Mac) : XV := .agg [.int .i64 m.room, .int .i64 m.melt, .int .i64 m.cool, .int .i64 m.top, .int .i64 m.heat, .int .i64 m.chill, .int .i64 m.drift, .int .i64 m.hold, .int .i64 m.life]
/-- Which machines are valid. -/
def Mac.ok (m : Mac) : Prop := 0 ≤ m.room ∧ m.room ≤ m.cool ∧ m.cool < m.melt ∧ m.melt ≤ m.top ∧ m.top ≤ 400 ∧ 1 ≤ m.heat ∧ m.heat ≤ 400 ∧ 1 ≤ m.chill ∧ m.chill ≤ 400 ∧ 0 ≤ m.drift ∧ m.drift ≤ 400 ∧ 1 ≤ m.hold ∧ m.hold ≤ 64 ∧ 1 ≤ m.life ∧ m.life ≤ 65536
open Classical in
noncomputable def Mac.chk (m : Mac) : Int := if m.ok then 0 else 2
theorem Mac.chk0 {m : Mac} (h : m.ok) : m.chk = 0 := if_pos h
theorem Mac.chk2 {m : Mac} (h : ¬ m.ok) : m.chk = 2 := if_neg h
/-- The temperature after a tick. -/
def tickF (m : Mac) (t v : Int) : Int := if v = 1 then (if t + m.heat < m.top then t + m.heat else m.top) else if v = 2 then (if m.room < t - m.chill then t - m.chill else m.room) else (if m.room < t - m.drift then t - m.drift else m.room)
theorem s57 (m : Mac) (T v : Int) (hm : m.ok) (h1 : m.room ≤ T) (h2 : T ≤ m.top) : PSpec Try.prog 18 [m.x, I T, I v] (.x (I (tickF m T v))) := by
  obtain ⟨m1, m2, m3, m4, m5, m6, m7, m8, m9, m10, m11, m12, m13, m14, m15⟩ := hm
  refine spec_of pMix (O := []) Try.func18 (c := bodyOf Try.f18) rfl (by kernel_rfl) (by kernel_rfl) Try.ntmps18 (res := [.tmp 6]) (by kernel_rfl) ?_
  refine Br.mk (fun h => ?_) (fun h => ?_)
  · refine Rng.ok (by simp only [inR]; omega) ?_
    repeat refine Mm.mk ?_
    refine EndVC.mk _ rfl _ _ ⟨rfl, rfl⟩ ⟨[], rfl, rfl, ⟨⟨rfl, ?_⟩, trivial⟩, trivial⟩
    simp only [tickF, if_pos h]
  · refine Br.mk (fun h' => ?_) (fun h' => ?_)
    · refine Rng.ok (by simp only [inR]; omega) ?_
      repeat refine Mm.mk ?_
      refine EndVC.mk _ rfl _ _ ⟨rfl, rfl⟩ ⟨[], rfl, rfl, ⟨⟨rfl, ?_⟩, trivial⟩, trivial⟩
      simp only [tickF, if_neg h, if_pos h']
    · refine Rng.ok (by simp only [inR]; omega) ?_
      repeat refine Mm.mk ?_
      refine EndVC.mk _ rfl _ _ ⟨rfl, rfl⟩ ⟨[], rfl, rfl, ⟨⟨rfl, ?_⟩, trivial⟩, trivial⟩
      simp only [tickF, if_neg h, if_neg h']
theorem s59 (m : Mac) (T v : Int) (hm : m.ok) (h1 : m.room ≤ T) (h2 : T ≤ m.top) : PSpec Try.prog 28 [m.x, I T, I v] (.x (I (tickF m T v))) := by
  obtain ⟨m1, m2, m3, m4, m5, m6, m7, m8, m9, m10, m11, m12, m13, m14, m15⟩ := hm
  refine spec_of pMix (O := []) Try.func28 (c := bodyOf Try.f28) rfl (by kernel_rfl) (by kernel_rfl) Try.ntmps28 (res := [.tmp 6]) (by kernel_rfl) ?_
  refine Br.mk (fun h => ?_) (fun h => ?_)
  · refine Rng.ok (by simp only [inR]; omega) ?_
    repeat refine Mm.mk ?_
    refine EndVC.mk _ rfl _ _ ⟨rfl, rfl⟩ ⟨[], rfl, rfl, ⟨⟨rfl, ?_⟩, trivial⟩, trivial⟩
    simp only [tickF, if_pos h]
  · refine Br.mk (fun h' => ?_) (fun h' => ?_)
    · refine Rng.ok (by simp only [inR]; omega) ?_
      repeat refine Mm.mk ?_
      refine EndVC.mk _ rfl _ _ ⟨rfl, rfl⟩ ⟨[], rfl, rfl, ⟨⟨rfl, ?_⟩, trivial⟩, trivial⟩
      simp only [tickF, if_neg h, if_pos h']
    · refine Rng.ok (by simp only [inR]; omega) ?_
      repeat refine Mm.mk ?_
      refine EndVC.mk _ rfl _ _ ⟨rfl, rfl⟩ ⟨[], rfl, rfl, ⟨⟨rfl, ?_⟩, trivial⟩, trivial⟩
      simp only [tickF, if_neg h, if_neg h']
theorem s20 (m : Mac) : PSpec Try.prog 15 [m.x] (.x (I m.chk)) := by
  refine spec_of pMix (O := []) Try.func15 (c := bodyOf Try.f15) rfl (by kernel_rfl) (by kernel_rfl) Try.ntmps15 (res := [.tmp 2]) (by kernel_rfl) ?_
  have bad : ¬ m.ok → (2 : Int) = m.chk := fun h => (Mac.chk2 h).symm
  repeat refine Mm.mk ?_
  try refine JoinVC.on ?_
  refine Br.mk (fun h1 => ?_) (fun h1 => ?_)
  · repeat refine Mm.mk ?_
    refine EndVC.mk _ rfl _ _ ⟨rfl, rfl⟩ ⟨[], rfl, rfl, ⟨⟨rfl, ?_⟩, trivial⟩, trivial⟩
    exact bad (by simp only [Mac.ok]; omega)
  repeat refine Mm.mk ?_
  try refine JoinVC.on ?_
  refine Br.mk (fun h2 => ?_) (fun h2 => ?_)
  · repeat refine Mm.mk ?_
    refine EndVC.mk _ rfl _ _ ⟨rfl, rfl⟩ ⟨[], rfl, rfl, ⟨⟨rfl, ?_⟩, trivial⟩, trivial⟩
    exact bad (by simp only [Mac.ok]; omega)
  repeat refine Mm.mk ?_
  try refine JoinVC.on ?_
  refine Br.mk (fun h3 => ?_) (fun h3 => ?_)
  · repeat refine Mm.mk ?_
    refine EndVC.mk _ rfl _ _ ⟨rfl, rfl⟩ ⟨[], rfl, rfl, ⟨⟨rfl, ?_⟩, trivial⟩, trivial⟩
    exact bad (by simp only [Mac.ok]; omega)
  repeat refine Mm.mk ?_
  try refine JoinVC.on ?_
  refine Br.mk (fun h4 => ?_) (fun h4 => ?_)
  · repeat refine Mm.mk ?_
    refine EndVC.mk _ rfl _ _ ⟨rfl, rfl⟩ ⟨[], rfl, rfl, ⟨⟨rfl, ?_⟩, trivial⟩, trivial⟩
    exact bad (by simp only [Mac.ok]; omega)
  repeat refine Mm.mk ?_
  try refine JoinVC.on ?_
  refine Br.mk (fun h5 => ?_) (fun h5 => ?_)
  · repeat refine Mm.mk ?_
    refine EndVC.mk _ rfl _ _ ⟨rfl, rfl⟩ ⟨[], rfl, rfl, ⟨⟨rfl, ?_⟩, trivial⟩, trivial⟩
    exact bad (by simp only [Mac.ok]; omega)
  repeat refine Mm.mk ?_
  conv => whnf
  first | refine CallVC.pure rfl (s56 _ _ _) ?_ | refine CallVC0.pure rfl (s56 _ _ _) ?_
  repeat refine Mm.mk ?_
  try refine JoinVC.on ?_
  refine Br.mk (fun h6 => ?_) (fun h6 => ?_)
  · repeat refine Mm.mk ?_
    refine EndVC.mk _ rfl _ _ ⟨rfl, rfl⟩ ⟨[], rfl, rfl, ⟨⟨rfl, ?_⟩, trivial⟩, trivial⟩
    exact bad (by simp only [Mac.ok]; omega)
  repeat refine Mm.mk ?_
  conv => whnf
  first | refine CallVC.pure rfl (s56 _ _ _) ?_ | refine CallVC0.pure rfl (s56 _ _ _) ?_
  repeat refine Mm.mk ?_
  try refine JoinVC.on ?_
  refine Br.mk (fun h7 => ?_) (fun h7 => ?_)
  · repeat refine Mm.mk ?_
    refine EndVC.mk _ rfl _ _ ⟨rfl, rfl⟩ ⟨[], rfl, rfl, ⟨⟨rfl, ?_⟩, trivial⟩, trivial⟩
    exact bad (by simp only [Mac.ok]; omega)
  repeat refine Mm.mk ?_
  conv => whnf
  first | refine CallVC.pure rfl (s56 _ _ _) ?_ | refine CallVC0.pure rfl (s56 _ _ _) ?_
  repeat refine Mm.mk ?_
  try refine JoinVC.on ?_
  refine Br.mk (fun h8 => ?_) (fun h8 => ?_)
  · repeat refine Mm.mk ?_
    refine EndVC.mk _ rfl _ _ ⟨rfl, rfl⟩ ⟨[], rfl, rfl, ⟨⟨rfl, ?_⟩, trivial⟩, trivial⟩
    exact bad (by simp only [Mac.ok]; omega)
  repeat refine Mm.mk ?_
  conv => whnf
  first | refine CallVC.pure rfl (s56 _ _ _) ?_ | refine CallVC0.pure rfl (s56 _ _ _) ?_
  repeat refine Mm.mk ?_
  try refine JoinVC.on ?_
  refine Br.mk (fun h9 => ?_) (fun h9 => ?_)
  · repeat refine Mm.mk ?_
    refine EndVC.mk _ rfl _ _ ⟨rfl, rfl⟩ ⟨[], rfl, rfl, ⟨⟨rfl, ?_⟩, trivial⟩, trivial⟩
    exact bad (by simp only [Mac.ok]; omega)
  repeat refine Mm.mk ?_
  conv => whnf
  first | refine CallVC.pure rfl (s56 _ _ _) ?_ | refine CallVC0.pure rfl (s56 _ _ _) ?_
  repeat refine Mm.mk ?_
  try refine JoinVC.on ?_
  refine Br.mk (fun h10 => ?_) (fun h10 => ?_)
  · repeat refine Mm.mk ?_
    refine EndVC.mk _ rfl _ _ ⟨rfl, rfl⟩ ⟨[], rfl, rfl, ⟨⟨rfl, ?_⟩, trivial⟩, trivial⟩
    exact bad (by simp only [Mac.ok]; omega)
  repeat refine Mm.mk ?_
  refine EndVC.mk _ rfl _ _ ⟨rfl, rfl⟩ ⟨[], rfl, rfl, ⟨⟨rfl, ?_⟩, trivial⟩, trivial⟩
  exact (Mac.chk0 (by simp only [Mac.ok]; omega)).symm
theorem s21 (m : Mac) : PSpec Try.prog 4 [m.x] (.x (I m.chk)) := by
  refine spec_of pMix (O := []) Try.func4 (c := bodyOf Try.f4) rfl (by kernel_rfl) (by kernel_rfl) Try.ntmps4 (res := [.tmp 2]) (by kernel_rfl) ?_
  have bad : ¬ m.ok → (2 : Int) = m.chk := fun h => (Mac.chk2 h).symm
  repeat refine Mm.mk ?_
  try refine JoinVC.on ?_
  refine Br.mk (fun h1 => ?_) (fun h1 => ?_)
  · repeat refine Mm.mk ?_
    refine EndVC.mk _ rfl _ _ ⟨rfl, rfl⟩ ⟨[], rfl, rfl, ⟨⟨rfl, ?_⟩, trivial⟩, trivial⟩
    exact bad (by simp only [Mac.ok]; omega)
  repeat refine Mm.mk ?_
  try refine JoinVC.on ?_
  refine Br.mk (fun h2 => ?_) (fun h2 => ?_)
  · repeat refine Mm.mk ?_
    refine EndVC.mk _ rfl _ _ ⟨rfl, rfl⟩ ⟨[], rfl, rfl, ⟨⟨rfl, ?_⟩, trivial⟩, trivial⟩
    exact bad (by simp only [Mac.ok]; omega)
  repeat refine Mm.mk ?_
  try refine JoinVC.on ?_
  refine Br.mk (fun h3 => ?_) (fun h3 => ?_)
  · repeat refine Mm.mk ?_
    refine EndVC.mk _ rfl _ _ ⟨rfl, rfl⟩ ⟨[], rfl, rfl, ⟨⟨rfl, ?_⟩, trivial⟩, trivial⟩
    exact bad (by simp only [Mac.ok]; omega)
  repeat refine Mm.mk ?_
  try refine JoinVC.on ?_
  refine Br.mk (fun h4 => ?_) (fun h4 => ?_)
  · repeat refine Mm.mk ?_
    refine EndVC.mk _ rfl _ _ ⟨rfl, rfl⟩ ⟨[], rfl, rfl, ⟨⟨rfl, ?_⟩, trivial⟩, trivial⟩
    exact bad (by simp only [Mac.ok]; omega)
  repeat refine Mm.mk ?_
  try refine JoinVC.on ?_
  refine Br.mk (fun h5 => ?_) (fun h5 => ?_)
  · repeat refine Mm.mk ?_
    refine EndVC.mk _ rfl _ _ ⟨rfl, rfl⟩ ⟨[], rfl, rfl, ⟨⟨rfl, ?_⟩, trivial⟩, trivial⟩
    exact bad (by simp only [Mac.ok]; omega)
  repeat refine Mm.mk ?_
  conv => whnf
  first | refine CallVC.pure rfl (s58 _ _ _) ?_ | refine CallVC0.pure rfl (s58 _ _ _) ?_
  repeat refine Mm.mk ?_
  try refine JoinVC.on ?_
  refine Br.mk (fun h6 => ?_) (fun h6 => ?_)
  · repeat refine Mm.mk ?_
    refine EndVC.mk _ rfl _ _ ⟨rfl, rfl⟩ ⟨[], rfl, rfl, ⟨⟨rfl, ?_⟩, trivial⟩, trivial⟩
    exact bad (by simp only [Mac.ok]; omega)
  repeat refine Mm.mk ?_
  conv => whnf
  first | refine CallVC.pure rfl (s58 _ _ _) ?_ | refine CallVC0.pure rfl (s58 _ _ _) ?_
  repeat refine Mm.mk ?_
  try refine JoinVC.on ?_
  refine Br.mk (fun h7 => ?_) (fun h7 => ?_)
  · repeat refine Mm.mk ?_
    refine EndVC.mk _ rfl _ _ ⟨rfl, rfl⟩ ⟨[], rfl, rfl, ⟨⟨rfl, ?_⟩, trivial⟩, trivial⟩
    exact bad (by simp only [Mac.ok]; omega)
  repeat refine Mm.mk ?_
  conv => whnf
  first | refine CallVC.pure rfl (s58 _ _ _) ?_ | refine CallVC0.pure rfl (s58 _ _ _) ?_
  repeat refine Mm.mk ?_
  try refine JoinVC.on ?_
  refine Br.mk (fun h8 => ?_) (fun h8 => ?_)
  · repeat refine Mm.mk ?_
    refine EndVC.mk _ rfl _ _ ⟨rfl, rfl⟩ ⟨[], rfl, rfl, ⟨⟨rfl, ?_⟩, trivial⟩, trivial⟩
    exact bad (by simp only [Mac.ok]; omega)
  repeat refine Mm.mk ?_
  conv => whnf
  first | refine CallVC.pure rfl (s58 _ _ _) ?_ | refine CallVC0.pure rfl (s58 _ _ _) ?_
  repeat refine Mm.mk ?_
  try refine JoinVC.on ?_
  refine Br.mk (fun h9 => ?_) (fun h9 => ?_)
  · repeat refine Mm.mk ?_
    refine EndVC.mk _ rfl _ _ ⟨rfl, rfl⟩ ⟨[], rfl, rfl, ⟨⟨rfl, ?_⟩, trivial⟩, trivial⟩
    exact bad (by simp only [Mac.ok]; omega)
  repeat refine Mm.mk ?_
  conv => whnf
  first | refine CallVC.pure rfl (s58 _ _ _) ?_ | refine CallVC0.pure rfl (s58 _ _ _) ?_
  repeat refine Mm.mk ?_
  try refine JoinVC.on ?_
  refine Br.mk (fun h10 => ?_) (fun h10 => ?_)
  · repeat refine Mm.mk ?_
    refine EndVC.mk _ rfl _ _ ⟨rfl, rfl⟩ ⟨[], rfl, rfl, ⟨⟨rfl, ?_⟩, trivial⟩, trivial⟩
    exact bad (by simp only [Mac.ok]; omega)
  repeat refine Mm.mk ?_
  refine EndVC.mk _ rfl _ _ ⟨rfl, rfl⟩ ⟨[], rfl, rfl, ⟨⟨rfl, ?_⟩, trivial⟩, trivial⟩
  exact (Mac.chk0 (by simp only [Mac.ok]; omega)).symm
theorem Mac.chk_cases (m : Mac) : (m.ok ∧ m.chk = 0) ∨ (¬ m.ok ∧ m.chk = 2) := by
  by_cases h : m.ok
  · exact .inl ⟨h, Mac.chk0 h⟩
  · exact .inr ⟨h, Mac.chk2 h⟩
/-- What Tick returns. -/
def inTick (m : Mac) (t v : Int) : Prop := m.room ≤ t ∧ t ≤ m.top ∧ 0 ≤ v ∧ v ≤ 2
instance (m : Mac) (t v : Int) : Decidable (inTick m t v) := by unfold inTick; exact inferInstance
noncomputable def Mac.tickV (m : Mac) (t v : Int) : Int := if m.chk = 0 then (if inTick m t v then tickF m t v else 0) else 0
noncomputable def Mac.tickE (m : Mac) (t v : Int) : Int := if m.chk = 0 then (if inTick m t v then 0 else 3) else m.chk
theorem tick_bad {m : Mac} {t v : Int} (h : ¬ m.chk = 0) : (0 : Int) = m.tickV t v ∧ m.chk = m.tickE t v := ⟨(if_neg h).symm, (if_neg h).symm⟩
theorem tick_out {m : Mac} {t v : Int} (h : ¬ ¬ m.chk = 0) (h1 : ¬ inTick m t v) : (0 : Int) = m.tickV t v ∧ (3 : Int) = m.tickE t v := by
  have h := Decidable.not_not.1 h
  exact ⟨by rw [Mac.tickV, if_pos h, if_neg h1], by rw [Mac.tickE, if_pos h, if_neg h1]⟩
theorem tick_in {m : Mac} {t v : Int} (h : ¬ ¬ m.chk = 0) (h1 : inTick m t v) : tickF m t v = m.tickV t v ∧ (0 : Int) = m.tickE t v := by
  have h := Decidable.not_not.1 h
  exact ⟨by rw [Mac.tickV, if_pos h, if_pos h1], by rw [Mac.tickE, if_pos h, if_pos h1]⟩
theorem s18 (m : Mac) (t v : Int) : PSpec Try.prog 10 [m.x, I t, I v] (.tup [I (m.tickV t v), I (m.tickE t v)]) := by
  refine spec_of pMix (O := []) Try.func10 (c := bodyOf Try.f10) rfl (by kernel_rfl) (by kernel_rfl) Try.ntmps10 (res := [.tmp 6, .tmp 7]) (by kernel_rfl) ?_
  repeat refine Mm.mk ?_
  conv => whnf
  first | refine CallVC.pure rfl (s20 m) ?_ | refine CallVC0.pure rfl (s20 m) ?_
  repeat refine Mm.mk ?_
  try refine JoinVC.on ?_
  refine Br.mk (fun h => ?_) (fun h => ?_)
  · repeat refine Mm.mk ?_
    refine EndVC.mk _ rfl _ _ ⟨rfl, rfl⟩ ⟨[], rfl, rfl, ⟨⟨⟨rfl, ?_⟩, ⟨rfl, ?_⟩, trivial⟩, trivial⟩, trivial⟩
    · exact (tick_bad h).1
    · exact (tick_bad h).2
  repeat refine Mm.mk ?_
  conv => whnf
  first | refine CallVC.pure rfl (s56 _ _ _) ?_ | refine CallVC0.pure rfl (s56 _ _ _) ?_
  repeat refine Mm.mk ?_
  try refine JoinVC.on ?_
  refine Br.mk (fun h1 => ?_) (fun h1 => ?_)
  · repeat refine Mm.mk ?_
    refine EndVC.mk _ rfl _ _ ⟨rfl, rfl⟩ ⟨[], rfl, rfl, ⟨⟨⟨rfl, ?_⟩, ⟨rfl, ?_⟩, trivial⟩, trivial⟩, trivial⟩
    · exact (tick_out h (by unfold inTick; omega)).1
    · exact (tick_out h (by unfold inTick; omega)).2
  repeat refine Mm.mk ?_
  conv => whnf
  first | refine CallVC.pure rfl (s56 _ _ _) ?_ | refine CallVC0.pure rfl (s56 _ _ _) ?_
  repeat refine Mm.mk ?_
  try refine JoinVC.on ?_
  refine Br.mk (fun h2 => ?_) (fun h2 => ?_)
  · repeat refine Mm.mk ?_
    refine EndVC.mk _ rfl _ _ ⟨rfl, rfl⟩ ⟨[], rfl, rfl, ⟨⟨⟨rfl, ?_⟩, ⟨rfl, ?_⟩, trivial⟩, trivial⟩, trivial⟩
    · exact (tick_out h (by unfold inTick; omega)).1
    · exact (tick_out h (by unfold inTick; omega)).2
  repeat refine Mm.mk ?_
  conv => whnf
  first | refine CallVC.pure rfl (s57 m t v (by rcases m.chk_cases with h3 | h3; exact h3.1; exact absurd (fun e => absurd (h3.2.symm.trans e) (by decide)) h) (by omega) (by omega)) ?_ | refine CallVC0.pure rfl (s57 m t v (by rcases m.chk_cases with h3 | h3; exact h3.1; exact absurd (fun e => absurd (h3.2.symm.trans e) (by decide)) h) (by omega) (by omega)) ?_
  repeat refine Mm.mk ?_
  refine EndVC.mk _ rfl _ _ ⟨rfl, rfl⟩ ⟨[], rfl, rfl, ⟨⟨⟨rfl, ?_⟩, ⟨rfl, ?_⟩, trivial⟩, trivial⟩, trivial⟩
  · exact (tick_in h (by unfold inTick; omega)).1
  · exact (tick_in h (by unfold inTick; omega)).2
end Go.Sx

namespace Go.Sx
open Go Go.Proofs
theorem mul_bd {a b : Int} {A B : Nat} (ha : a.natAbs ≤ A) (hb : b.natAbs ≤ B) : (a * b).natAbs ≤ A * B := by
  rw [Int.natAbs_mul]; exact Nat.mul_le_mul ha hb
structure Spot where
  x : Int
  y : Int
@[reducible] def Spot.v (p : Spot) : XV := .agg [.int .i64 p.x, .int .i64 p.y]
@[reducible] def Spot.row (p : Spot) : List Cell := [.int p.x, .int p.y]
/-- A coordinate's amount. -/
def Spot.ok (p : Spot) : Prop := p.x.natAbs ≤ 262144 ∧ p.y.natAbs ≤ 262144
set_option maxRecDepth 10000
def sq (p : Spot) : Int := p.x * p.x + p.y * p.y
theorem sq_bd {p : Spot} (h : p.ok) : (sq p).natAbs ≤ 137438953472 := by
  have h1 := mul_bd h.1 h.1
  have h2 := mul_bd h.2 h.2
  unfold sq; omega
theorem s67 (p : Spot) (h : p.ok) : PSpec Try.prog 23 [p.v] (.x (I (sq p))) := by
  have h1 := mul_bd h.1 h.1
  have h2 := mul_bd h.2 h.2
  refine spec_of pMix (O := []) Try.func23 (c := bodyOf Try.f23) rfl (by kernel_rfl) (by kernel_rfl) Try.ntmps23 (res := [.tmp 2]) (by kernel_rfl) ?_
  repeat refine Mm.mk ?_
  refine Rng.ok (by simp only [inR]; omega) ?_
  repeat refine Mm.mk ?_
  refine Rng.ok (by simp only [inR]; omega) ?_
  repeat refine Mm.mk ?_
  refine Rng.ok (by simp only [inR]; omega) ?_
  repeat refine Mm.mk ?_
  refine EndVC.mk _ rfl _ _ ⟨rfl, rfl⟩ ⟨[], rfl, rfl, ⟨⟨rfl, ?_⟩, trivial⟩, trivial⟩
  rfl
def g2 (p q r : Spot) : Int := p.x * (q.y - r.y)
def g3 (p q r : Spot) : Int := sq p * (q.y - r.y)
def g4 (p q r : Spot) : Int := sq p * (r.x - q.x)
theorem g2_bd {p q r : Spot} (hp : p.ok) (hq : q.ok) (hr : r.ok) : (g2 p q r).natAbs ≤ 72057594037927936 := by
  obtain ⟨h1, h2⟩ := hp; obtain ⟨h3, h4⟩ := hq; obtain ⟨h5, h6⟩ := hr
  have := mul_bd (B := 524288) h1 (show (q.y - r.y).natAbs ≤ 524288 by omega)
  unfold g2; omega
theorem g3_bd {p q r : Spot} (hp : p.ok) (hq : q.ok) (hr : r.ok) : (g3 p q r).natAbs ≤ 72057594037927936 := by
  have h0 := sq_bd hp
  obtain ⟨h3, h4⟩ := hq; obtain ⟨h5, h6⟩ := hr
  have := mul_bd (B := 524288) h0 (show (q.y - r.y).natAbs ≤ 524288 by omega)
  unfold g3; omega
theorem g4_bd {p q r : Spot} (hp : p.ok) (hq : q.ok) (hr : r.ok) : (g4 p q r).natAbs ≤ 72057594037927936 := by
  have h0 := sq_bd hp
  obtain ⟨h3, h4⟩ := hq; obtain ⟨h5, h6⟩ := hr
  have := mul_bd (B := 524288) h0 (show (r.x - q.x).natAbs ≤ 524288 by omega)
  unfold g4; omega
theorem s69 (p q r : Spot) (hp : p.ok) (hq : q.ok) (hr : r.ok) : PSpec Try.prog 25 [p.v, q.v, r.v] (.x (I (g2 p q r))) := by
  have h := g2_bd hp hq hr
  unfold g2 at h
  obtain ⟨h1, h2⟩ := hp; obtain ⟨h3, h4⟩ := hq; obtain ⟨h5, h6⟩ := hr
  refine spec_of pMix (O := []) Try.func25 (c := bodyOf Try.f25) rfl (by kernel_rfl) (by kernel_rfl) Try.ntmps25 (res := [.tmp 6]) (by kernel_rfl) ?_
  repeat refine Mm.mk ?_
  refine Rng.ok (by simp only [inR]; omega) ?_
  repeat refine Mm.mk ?_
  refine Rng.ok (by simp only [inR]; omega) ?_
  repeat refine Mm.mk ?_
  refine EndVC.mk _ rfl _ _ ⟨rfl, rfl⟩ ⟨[], rfl, rfl, ⟨⟨rfl, ?_⟩, trivial⟩, trivial⟩
  rfl
/-- The box of a function that a closure reads. -/
@[reducible] def fbox (f : FuncId) : XV := .one (.lel true [.fn] [[.fn f]] 0 0)
theorem s70 (p q r : Spot) (hp : p.ok) (hq : q.ok) (hr : r.ok) : PSpec Try.prog 26 [p.v, q.v, r.v, fbox 23] (.x (I (g3 p q r))) := by
  have h := g3_bd hp hq hr
  unfold g3 at h
  have hp' := hp
  obtain ⟨h1, h2⟩ := hp; obtain ⟨h3, h4⟩ := hq; obtain ⟨h5, h6⟩ := hr
  refine spec_of pMix (O := [(1, ([], [⟨0, [], []⟩, ⟨1, [], []⟩, ⟨3, [], []⟩, ⟨4, [], []⟩, ⟨5, [], []⟩, ⟨6, [], []⟩, ⟨7, [], []⟩, ⟨2, [3, 4, 5, 6, 7], []⟩, ⟨8, [], []⟩, ⟨9, [], []⟩]))]) Try.func26 (c := bodyOf Try.f26) rfl (by kernel_rfl) (by kernel_rfl) Try.ntmps26 (res := [.tmp 7]) (by kernel_rfl) ?_
  repeat' ((conv => whnf); first | refine Rng.g ?_ | refine Ob.g ?_ | refine Ob.e ?_ | refine Ob.m ?_ | refine Ob.mk (Nat.le_of_ble_eq_true rfl) ?_ | refine JoinVC.on ?_ | refine Nils.mk (fun h => ?_) ?_ | refine Val.t ?_ | refine Val.d ?_ | refine Mm.mk ?_ | refine CallVC.pure rfl (s67 p hp') ?_ | refine CallVC0.pure rfl (s67 p hp') ?_ | (refine Br.mk (fun h => ?_) (fun h => ?_) <;> first | (exfalso; omega; done) | (exfalso; simp at h; done) | skip))
  repeat refine Mm.mk ?_
  refine EndVC.mk _ rfl _ _ ⟨rfl, rfl⟩ ⟨[], rfl, rfl, ⟨⟨rfl, ?_⟩, trivial⟩, trivial⟩
  rfl
theorem s71 (p q r : Spot) (hp : p.ok) (hq : q.ok) (hr : r.ok) : PSpec Try.prog 27 [p.v, q.v, r.v, fbox 23] (.x (I (g4 p q r))) := by
  have h := g4_bd hp hq hr
  unfold g4 at h
  have hp' := hp
  obtain ⟨h1, h2⟩ := hp; obtain ⟨h3, h4⟩ := hq; obtain ⟨h5, h6⟩ := hr
  refine spec_of pMix (O := [(1, ([], [⟨0, [], []⟩, ⟨1, [], []⟩, ⟨3, [], []⟩, ⟨4, [], []⟩, ⟨5, [], []⟩, ⟨6, [], []⟩, ⟨7, [], []⟩, ⟨2, [3, 4, 5, 6, 7], []⟩, ⟨8, [], []⟩, ⟨9, [], []⟩]))]) Try.func27 (c := bodyOf Try.f27) rfl (by kernel_rfl) (by kernel_rfl) Try.ntmps27 (res := [.tmp 7]) (by kernel_rfl) ?_
  repeat' ((conv => whnf); first | refine Rng.g ?_ | refine Ob.g ?_ | refine Ob.e ?_ | refine Ob.m ?_ | refine Ob.mk (Nat.le_of_ble_eq_true rfl) ?_ | refine JoinVC.on ?_ | refine Nils.mk (fun h => ?_) ?_ | refine Val.t ?_ | refine Val.d ?_ | refine Mm.mk ?_ | refine CallVC.pure rfl (s67 p hp') ?_ | refine CallVC0.pure rfl (s67 p hp') ?_ | (refine Br.mk (fun h => ?_) (fun h => ?_) <;> first | (exfalso; omega; done) | (exfalso; simp at h; done) | skip))
  repeat refine Mm.mk ?_
  refine EndVC.mk _ rfl _ _ ⟨rfl, rfl⟩ ⟨[], rfl, rfl, ⟨⟨rfl, ?_⟩, trivial⟩, trivial⟩
  rfl

def tsum (g : Spot → Spot → Spot → Int) (a b c : Spot) : Nat → Int
  | 0 => 0
  | 1 => g a b c
  | 2 => g a b c + g b c a
  | _ => g a b c + g b c a + g c a b
@[reducible] def spots (a b c : Spot) : XV := .one (.lst true [.int .i64, .int .i64] [a.row, b.row, c.row])
theorem s68a (f : FuncId) (g : Spot → Spot → Spot → Int) (a b c : Spot) (hf : ∀ p q r : Spot, p.ok → q.ok → r.ok → PSpec Try.prog f [p.v, q.v, r.v] (.x (I (g p q r))))
    (hg : ∀ p q r : Spot, p.ok → q.ok → r.ok → (g p q r).natAbs ≤ 72057594037927936) (ha : a.ok) (hb : b.ok) (hc : c.ok) : PSpec Try.prog 24 [.one (.fn f []), spots a b c] (.x (I (tsum g a b c 3))) := by
  have b1 := hg a b c ha hb hc
  have b2 := hg b c a hb hc ha
  have b3 := hg c a b hc ha hb
  refine spec_of pMix (O := [(5, ([], [⟨0, [], []⟩, ⟨1, [], []⟩, ⟨2, [], []⟩, ⟨3, [], []⟩, ⟨4, [], []⟩, ⟨5, [], []⟩, ⟨6, [], []⟩, ⟨7, [], []⟩, ⟨8, [], []⟩, ⟨9, [], []⟩, ⟨10, [], []⟩, ⟨11, [], []⟩, ⟨12, [], []⟩, ⟨13, [], []⟩, ⟨14, [], []⟩, ⟨15, [], []⟩, ⟨16, [], []⟩, ⟨17, [], []⟩, ⟨18, [], []⟩, ⟨19, [], []⟩, ⟨20, [], []⟩, ⟨21, [], []⟩, ⟨22, [0], []⟩, ⟨23, [], []⟩, ⟨24, [], []⟩]))]) Try.func24 (c := bodyOf Try.f24) rfl (by kernel_rfl) (by kernel_rfl) Try.ntmps24 (res := [.tmp 4]) (by kernel_rfl) ?_
  have e3 : (([a.row, b.row, c.row] : Arr).length : Int) = 3 := rfl
  refine LoopVC.un 4 ?_
  repeat refine Mm.mk ?_
  try refine JoinVC.on ?_
  refine Br.mk (fun h => ?_) (fun h => ?_)
  · repeat refine Mm.mk ?_
    refine Ob.mk (by simp) ?_
    repeat refine Mm.mk ?_
    refine Rng.ok (by simp only [inR]; omega) ?_
    repeat refine Mm.mk ?_
    refine Ob.mk (by simp) ?_
    conv => whnf
    refine Val.mk (1) (by simp) ?_
    repeat refine Mm.mk ?_
    refine Ob.mk (by simp) ?_
    repeat refine Mm.mk ?_
    refine Rng.ok (by simp only [inR]; omega) ?_
    repeat refine Mm.mk ?_
    refine Ob.mk (by simp) ?_
    conv => whnf
    refine Val.mk (2) (by simp) ?_
    repeat refine Mm.mk ?_
    refine Ob.mk (by simp) ?_
    repeat refine Mm.mk ?_
    conv => whnf
    first | refine CallVC.pure rfl (hf a b c ha hb hc) ?_ | refine CallVC0.pure rfl (hf a b c ha hb hc) ?_
    repeat refine Mm.mk ?_
    refine Rng.ok (by simp only [inR]; omega) ?_
    repeat refine Mm.mk ?_
    refine Rng.ok (by simp only [inR]; omega) ?_
    repeat refine Mm.mk ?_
    try refine JoinVC.on ?_
    refine Br.mk (fun h => ?_) (fun h => ?_)
    · repeat refine Mm.mk ?_
      refine Ob.mk (by simp) ?_
      repeat refine Mm.mk ?_
      refine Rng.ok (by simp only [inR]; omega) ?_
      repeat refine Mm.mk ?_
      refine Ob.mk (by simp) ?_
      conv => whnf
      refine Val.mk (2) (by simp) ?_
      repeat refine Mm.mk ?_
      refine Ob.mk (by simp) ?_
      repeat refine Mm.mk ?_
      refine Rng.ok (by simp only [inR]; omega) ?_
      repeat refine Mm.mk ?_
      refine Ob.mk (by simp) ?_
      conv => whnf
      refine Val.mk (0) (by simp) ?_
      repeat refine Mm.mk ?_
      refine Ob.mk (by simp) ?_
      repeat refine Mm.mk ?_
      conv => whnf
      first | refine CallVC.pure rfl (hf b c a hb hc ha) ?_ | refine CallVC0.pure rfl (hf b c a hb hc ha) ?_
      repeat refine Mm.mk ?_
      refine Rng.ok (by simp only [inR]; omega) ?_
      repeat refine Mm.mk ?_
      refine Rng.ok (by simp only [inR]; omega) ?_
      repeat refine Mm.mk ?_
      try refine JoinVC.on ?_
      refine Br.mk (fun h => ?_) (fun h => ?_)
      · repeat refine Mm.mk ?_
        refine Ob.mk (by simp) ?_
        repeat refine Mm.mk ?_
        refine Rng.ok (by simp only [inR]; omega) ?_
        repeat refine Mm.mk ?_
        refine Ob.mk (by simp) ?_
        conv => whnf
        refine Val.mk (0) (by simp) ?_
        repeat refine Mm.mk ?_
        refine Ob.mk (by simp) ?_
        repeat refine Mm.mk ?_
        refine Rng.ok (by simp only [inR]; omega) ?_
        repeat refine Mm.mk ?_
        refine Ob.mk (by simp) ?_
        conv => whnf
        refine Val.mk (1) (by simp) ?_
        repeat refine Mm.mk ?_
        refine Ob.mk (by simp) ?_
        repeat refine Mm.mk ?_
        conv => whnf
        first | refine CallVC.pure rfl (hf c a b hc ha hb) ?_ | refine CallVC0.pure rfl (hf c a b hc ha hb) ?_
        repeat refine Mm.mk ?_
        refine Rng.ok (by simp only [inR]; omega) ?_
        repeat refine Mm.mk ?_
        refine Rng.ok (by simp only [inR]; omega) ?_
        repeat refine Mm.mk ?_
        try refine JoinVC.on ?_
        refine Br.mk (fun h => ?_) (fun h => ?_)
        · exact absurd h (by omega)
        · repeat refine Mm.mk ?_
          refine EndVC.mk _ rfl _ _ ⟨rfl, rfl⟩ ⟨[], rfl, rfl, ⟨⟨rfl, ?_⟩, trivial⟩, trivial⟩
          simp [tsum]
      · exact absurd (by omega) h
    · exact absurd (by omega) h
  · exact absurd (by omega) h
theorem s68b (f : FuncId) (g : Spot → Spot → Spot → Int) (a b c : Spot) (hf : ∀ p q r : Spot, p.ok → q.ok → r.ok → PSpec Try.prog f [p.v, q.v, r.v, fbox 23] (.x (I (g p q r))))
    (hg : ∀ p q r : Spot, p.ok → q.ok → r.ok → (g p q r).natAbs ≤ 72057594037927936) (ha : a.ok) (hb : b.ok) (hc : c.ok) : HSpec Try.prog 24 [.one (.fn f [(0, 0)]), spots a b c] [.box 62 [.fn 23 []]] (fun r m' => r = .x (I (tsum g a b c 3)) ∧ m' = [some (.box 62 [.fn 23 []])]) := by
  have b1 := hg a b c ha hb hc
  have b2 := hg b c a hb hc ha
  have b3 := hg c a b hc ha hb
  refine spec_of pMix (O := [(5, ([], [⟨0, [], []⟩, ⟨1, [], []⟩, ⟨2, [], []⟩, ⟨3, [], []⟩, ⟨4, [], []⟩, ⟨5, [], []⟩, ⟨6, [], []⟩, ⟨7, [], []⟩, ⟨8, [], []⟩, ⟨9, [], []⟩, ⟨10, [], []⟩, ⟨11, [], []⟩, ⟨12, [], []⟩, ⟨13, [], []⟩, ⟨14, [], []⟩, ⟨15, [], []⟩, ⟨16, [], []⟩, ⟨17, [], []⟩, ⟨18, [], []⟩, ⟨19, [], []⟩, ⟨20, [], []⟩, ⟨21, [], []⟩, ⟨22, [0], []⟩, ⟨23, [], []⟩, ⟨24, [], []⟩]))]) Try.func24 (c := bodyOf Try.f24) rfl (by kernel_rfl) (by kernel_rfl) Try.ntmps24 (res := [.tmp 4]) (by kernel_rfl) ?_
  have e3 : (([a.row, b.row, c.row] : Arr).length : Int) = 3 := rfl
  refine LoopVC.un 4 ?_
  repeat refine Mm.mk ?_
  try refine JoinVC.on ?_
  refine Br.mk (fun h => ?_) (fun h => ?_)
  · repeat refine Mm.mk ?_
    refine Ob.mk (by simp) ?_
    repeat refine Mm.mk ?_
    refine Rng.ok (by simp only [inR]; omega) ?_
    repeat refine Mm.mk ?_
    refine Ob.mk (by simp) ?_
    conv => whnf
    refine Val.mk (1) (by simp) ?_
    repeat refine Mm.mk ?_
    refine Ob.mk (by simp) ?_
    repeat refine Mm.mk ?_
    refine Rng.ok (by simp only [inR]; omega) ?_
    repeat refine Mm.mk ?_
    refine Ob.mk (by simp) ?_
    conv => whnf
    refine Val.mk (2) (by simp) ?_
    repeat refine Mm.mk ?_
    refine Ob.mk (by simp) ?_
    repeat refine Mm.mk ?_
    conv => whnf
    first | refine CallVC.pure rfl (hf a b c ha hb hc) ?_ | refine CallVC0.pure rfl (hf a b c ha hb hc) ?_
    repeat refine Mm.mk ?_
    refine Rng.ok (by simp only [inR]; omega) ?_
    repeat refine Mm.mk ?_
    refine Rng.ok (by simp only [inR]; omega) ?_
    repeat refine Mm.mk ?_
    try refine JoinVC.on ?_
    refine Br.mk (fun h => ?_) (fun h => ?_)
    · repeat refine Mm.mk ?_
      refine Ob.mk (by simp) ?_
      repeat refine Mm.mk ?_
      refine Rng.ok (by simp only [inR]; omega) ?_
      repeat refine Mm.mk ?_
      refine Ob.mk (by simp) ?_
      conv => whnf
      refine Val.mk (2) (by simp) ?_
      repeat refine Mm.mk ?_
      refine Ob.mk (by simp) ?_
      repeat refine Mm.mk ?_
      refine Rng.ok (by simp only [inR]; omega) ?_
      repeat refine Mm.mk ?_
      refine Ob.mk (by simp) ?_
      conv => whnf
      refine Val.mk (0) (by simp) ?_
      repeat refine Mm.mk ?_
      refine Ob.mk (by simp) ?_
      repeat refine Mm.mk ?_
      conv => whnf
      first | refine CallVC.pure rfl (hf b c a hb hc ha) ?_ | refine CallVC0.pure rfl (hf b c a hb hc ha) ?_
      repeat refine Mm.mk ?_
      refine Rng.ok (by simp only [inR]; omega) ?_
      repeat refine Mm.mk ?_
      refine Rng.ok (by simp only [inR]; omega) ?_
      repeat refine Mm.mk ?_
      try refine JoinVC.on ?_
      refine Br.mk (fun h => ?_) (fun h => ?_)
      · repeat refine Mm.mk ?_
        refine Ob.mk (by simp) ?_
        repeat refine Mm.mk ?_
        refine Rng.ok (by simp only [inR]; omega) ?_
        repeat refine Mm.mk ?_
        refine Ob.mk (by simp) ?_
        conv => whnf
        refine Val.mk (0) (by simp) ?_
        repeat refine Mm.mk ?_
        refine Ob.mk (by simp) ?_
        repeat refine Mm.mk ?_
        refine Rng.ok (by simp only [inR]; omega) ?_
        repeat refine Mm.mk ?_
        refine Ob.mk (by simp) ?_
        conv => whnf
        refine Val.mk (1) (by simp) ?_
        repeat refine Mm.mk ?_
        refine Ob.mk (by simp) ?_
        repeat refine Mm.mk ?_
        conv => whnf
        first | refine CallVC.pure rfl (hf c a b hc ha hb) ?_ | refine CallVC0.pure rfl (hf c a b hc ha hb) ?_
        repeat refine Mm.mk ?_
        refine Rng.ok (by simp only [inR]; omega) ?_
        repeat refine Mm.mk ?_
        refine Rng.ok (by simp only [inR]; omega) ?_
        repeat refine Mm.mk ?_
        try refine JoinVC.on ?_
        refine Br.mk (fun h => ?_) (fun h => ?_)
        · exact absurd h (by omega)
        · repeat refine Mm.mk ?_
          refine EndVC.mk _ rfl _ _ ⟨rfl, rfl⟩ ?_
          refine ⟨[some 0], rfl, rfl, ?_, ?_⟩ <;> repeat' (first | exact trivial | exact rfl | exact Iff.rfl | apply And.intro)
          simp [tsum]
      · exact absurd (by omega) h
    · exact absurd (by omega) h
  · exact absurd (by omega) h
def cok (a b c : Spot) : Prop := a.ok ∧ b.ok ∧ c.ok
instance (a : Spot) : Decidable a.ok := by unfold Spot.ok; exact inferInstance
instance (a b c : Spot) : Decidable (cok a b c) := by unfold cok; exact inferInstance
def cD (a b c : Spot) : Int := 2 * tsum g2 a b c 3
def cX (a b c : Spot) : Int := tsum g3 a b c 3
def cY (a b c : Spot) : Int := tsum g4 a b c 3
/-- What Centre returns. -/
def ctrE (a b c : Spot) : Int := if cok a b c then (if cD a b c = 0 then 9 else 0) else 3
def ctrX (a b c : Spot) : Int := if cok a b c then (if cD a b c = 0 then 0 else if cD a b c < 0 then 0 - cX a b c else cX a b c) else 0
def ctrY (a b c : Spot) : Int := if cok a b c then (if cD a b c = 0 then 0 else if cD a b c < 0 then 0 - cY a b c else cY a b c) else 0
def ctrD (a b c : Spot) : Int := if cok a b c then (if cD a b c = 0 then 0 else if cD a b c < 0 then 0 - cD a b c else cD a b c) else 0
theorem tsum_bd {g : Spot → Spot → Spot → Int} (hg : ∀ p q r : Spot, p.ok → q.ok → r.ok → (g p q r).natAbs ≤ 72057594037927936) {a b c : Spot} (h : cok a b c) : (tsum g a b c 3).natAbs ≤ 216172782113783808 := by
  obtain ⟨ha, hb, hc⟩ := h
  have b1 := hg a b c ha hb hc
  have b2 := hg b c a hb hc ha
  have b3 := hg c a b hc ha hb
  simp only [tsum]; omega
theorem s31 (a b c : Spot) : PSpec Try.prog 13 [a.v, b.v, c.v] (.tup [I (ctrX a b c), I (ctrY a b c), I (ctrD a b c), I (ctrE a b c)]) := by
  have bad : ¬ cok a b c → (0 : Int) = ctrX a b c ∧ (0 : Int) = ctrY a b c ∧ (0 : Int) = ctrD a b c ∧ (3 : Int) = ctrE a b c := fun h => ⟨(if_neg h).symm, (if_neg h).symm, (if_neg h).symm, (if_neg h).symm⟩
  refine spec_of pMix (O := []) Try.func13 (c := bodyOf Try.f13) rfl (by kernel_rfl) (by kernel_rfl) Try.ntmps13 (res := [.tmp 6, .tmp 7, .tmp 8, .tmp 9]) (by kernel_rfl) ?_
  have e3 : (([a.row, b.row, c.row] : Arr).length : Int) = 3 := rfl
  refine LoopVC.un 4 ?_
  repeat' ((conv => whnf); first | refine Rng.g ?_ | refine Ob.g ?_ | refine Ob.e ?_ | refine Ob.m ?_ | refine Ob.mk (Nat.le_of_ble_eq_true rfl) ?_ | refine JoinVC.on ?_ | refine Nils.mk (fun h => ?_) ?_ | refine Val.t ?_ | refine Val.d ?_ | refine Mm.mk ?_ | refine CallVC.pure rfl (s56 _ _ _) ?_ | refine CallVC0.pure rfl (s56 _ _ _) ?_ | (refine Br.mk (fun h => ?_) (fun h => ?_) <;> first | (exfalso; omega; done) | (exfalso; simp at h; done) | skip))
  all_goals try
    repeat refine Mm.mk ?_
    refine EndVC.mk _ rfl _ _ ⟨rfl, rfl⟩ ?_
    refine ⟨[], rfl, rfl, ?_, ?_⟩ <;> repeat' (first | exact trivial | exact rfl | exact Iff.rfl | apply And.intro)
    all_goals
      have hb : ¬ cok a b c := by
        clear bad
        unfold cok Spot.ok
        simp [rI, cellAt, Cell.toInt] at *
        omega
      first | exact (bad hb).1 | exact (bad hb).2.1 | exact (bad hb).2.2.1 | exact (bad hb).2.2.2
  have hok : cok a b c := by
    clear bad
    unfold cok Spot.ok
    simp [rI, cellAt, Cell.toInt] at *
    omega
  obtain ⟨ha, hb, hc⟩ := hok
  have hok : cok a b c := ⟨ha, hb, hc⟩
  repeat refine Mm.mk ?_
  conv => whnf
  first | refine CallVC.pure rfl (s68a 25 g2 a b c s69 (fun _ _ _ => g2_bd) ha hb hc) ?_ | refine CallVC0.pure rfl (s68a 25 g2 a b c s69 (fun _ _ _ => g2_bd) ha hb hc) ?_
  have t2 := tsum_bd (g := g2) (fun _ _ _ => g2_bd) hok
  have t3 := tsum_bd (g := g3) (fun _ _ _ => g3_bd) hok
  have t4 := tsum_bd (g := g4) (fun _ _ _ => g4_bd) hok
  repeat refine Mm.mk ?_
  refine Rng.ok (by simp only [inR]; omega) ?_
  conv => whnf
  refine CallVC.mk [7] _ _ _ rfl rfl rfl (s68b 26 g3 a b c s70 (fun _ _ _ => g3_bd) ha hb hc) (fun r m' h => ?_)
  obtain ⟨rfl, rfl⟩ := h
  conv => whnf
  refine CallVC.mk [7] _ _ _ rfl rfl rfl (s68b 27 g4 a b c s71 (fun _ _ _ => g4_bd) ha hb hc) (fun r m' h => ?_)
  obtain ⟨rfl, rfl⟩ := h
  repeat refine Mm.mk ?_
  try refine JoinVC.on ?_
  refine Br.mk (fun d0 => ?_) (fun d0 => ?_)
  · have d0 : cD a b c = 0 := d0
    repeat refine Mm.mk ?_
    refine EndVC.mk _ rfl _ _ ⟨rfl, rfl⟩ ?_
    refine ⟨[], rfl, rfl, ?_, ?_⟩ <;> repeat' (first | exact trivial | exact rfl | exact Iff.rfl | apply And.intro)
    · simp [ctrX, hok, d0]
    · simp [ctrY, hok, d0]
    · simp [ctrD, hok, d0]
    · simp [ctrE, hok, d0]
  have d0 : ¬ cD a b c = 0 := d0
  repeat refine Mm.mk ?_
  try refine JoinVC.on ?_
  refine Br.mk (fun d1 => ?_) (fun d1 => ?_)
  · have d1 : cD a b c < 0 := d1
    repeat refine Mm.mk ?_
    refine Rng.ok (by simp only [inR]; omega) ?_
    repeat refine Mm.mk ?_
    refine Rng.ok (by simp only [inR]; omega) ?_
    repeat refine Mm.mk ?_
    refine Rng.ok (by simp only [inR]; omega) ?_
    repeat refine Mm.mk ?_
    refine EndVC.mk _ rfl _ _ ⟨rfl, rfl⟩ ?_
    refine ⟨[], rfl, rfl, ?_, ?_⟩ <;> repeat' (first | exact trivial | exact rfl | exact Iff.rfl | apply And.intro)
    · simp [ctrX, hok, d0, d1, cX]
    · simp [ctrY, hok, d0, d1, cY]
    · simp [ctrD, hok, d0, d1]; rfl
    · simp [ctrE, hok, d0]
  have d1 : ¬ cD a b c < 0 := d1
  repeat refine Mm.mk ?_
  refine EndVC.mk _ rfl _ _ ⟨rfl, rfl⟩ ?_
  refine ⟨[], rfl, rfl, ?_, ?_⟩ <;> repeat' (first | exact trivial | exact rfl | exact Iff.rfl | apply And.intro)
  · simp [ctrX, hok, d0, d1, cX]
  · simp [ctrY, hok, d0, d1, cY]
  · simp [ctrD, hok, d0, d1]; rfl
  · simp [ctrE, hok, d0]
end Go.Sx

namespace Go.Sx
open Go Go.Proofs
set_option maxRecDepth 10000
theorem s27 (xs ys : List Int) (hx : xs.length ≤ 1099511627776) : PSpec Try.prog 14 [lI xs, lI ys] (xP (xs = ys)) := by
  have lx := i64s_len xs
  have ly := i64s_len ys
  refine spec_of pMix (O := []) Try.func14 (c := bodyOf Try.f14) rfl (by kernel_rfl) (by kernel_rfl) Try.ntmps14 (res := [.tmp 4]) (by kernel_rfl) ?_
  repeat refine Mm.mk ?_
  try refine JoinVC.on ?_
  refine Br.mk (fun h => ?_) (fun h => ?_)
  · repeat refine Mm.mk ?_
    refine EndVC.mk _ rfl _ _ ⟨rfl, rfl⟩ ⟨[], rfl, rfl, ⟨?_, trivial⟩, trivial⟩
    intro e
    subst e
    exact h rfl
  have h : xs.length = ys.length := by omega
  refine LoopVC.mk (fun n s => ∃ k : Nat, n = xs.length - k ∧ k ≤ xs.length ∧ (∀ j, j < k → xs.getD j 0 = ys.getD j 0) ∧ s = ⟨0, envA 26 [(0, .x (lI xs)), (1, .x (lI ys)), (5, .int .i64 (k : Int))], []⟩) _ _ ⟨0, rfl, Nat.zero_le _, fun j hj => absurd hj (Nat.not_lt_zero j), rfl⟩ ?_ ?_
  · refine ⟨[], rfl, rfl, ?_, ?_⟩ <;> repeat' (first | exact trivial | exact rfl | exact Iff.rfl | apply And.intro)
  · rintro m _ ⟨k, hm, hk, hj, rfl⟩
    repeat refine Mm.mk ?_
    try refine JoinVC.on ?_
    refine Br.mk (fun h1 => ?_) (fun h1 => ?_)
    · repeat refine Mm.mk ?_
      refine Ob.mk (by omega) ?_
      repeat refine Mm.mk ?_
      refine Ob.mk (by omega) ?_
      repeat refine Mm.mk ?_
      try refine JoinVC.on ?_
      refine Br.mk (fun h2 => ?_) (fun h2 => ?_)
      · repeat refine Mm.mk ?_
        refine EndVC.mk _ rfl _ _ ⟨rfl, rfl⟩ ⟨[], rfl, rfl, ⟨?_, trivial⟩, trivial⟩
        intro e
        subst e
        exact h2 rfl
      repeat refine Mm.mk ?_
      refine Rng.ok (by simp only [inR]; omega) ?_
      refine Back.mk (xs.length - (k + 1)) _ (by omega) ⟨k + 1, rfl, by omega, fun j hjk => ?_, rfl⟩ ?_
      · rcases Nat.lt_or_ge j k with h3 | h3
        · exact hj j h3
        · have : j = k := by omega
          subst this
          have h2 := Decidable.not_not.1 h2
          rw [Int.toNat_natCast, i64s_get, i64s_get] at h2
          exact h2
      · refine ⟨[], rfl, rfl, ?_, ?_⟩ <;> repeat' (first | exact trivial | exact rfl | exact Iff.rfl | apply And.intro)
    · repeat refine Mm.mk ?_
      refine EndVC.mk _ rfl _ _ ⟨rfl, rfl⟩ ⟨[], rfl, rfl, ⟨?_, trivial⟩, trivial⟩
      exact list_ext_getD h fun j hjx => hj j (by omega)
theorem s55 : PSpec Try.prog 11 [] (.x (Mac.x ⟨20, 120, 50, 200, 30, 25, 5, 3, 2⟩)) := by
  refine spec_of pMix (O := []) Try.func11 (c := bodyOf Try.f11) rfl (by kernel_rfl) (by kernel_rfl) Try.ntmps11 (res := [.cell 0 23]) (by kernel_rfl) ?_
  repeat refine Mm.mk ?_
  refine EndVC.mk _ rfl _ _ ⟨rfl, rfl⟩ ?_
  refine ⟨[], rfl, rfl, ?_, ?_⟩ <;> repeat' (first | exact trivial | exact rfl | exact Iff.rfl | apply And.intro)
/-- Presses at a boiler whose numbers are right. -/
def Boil (p q s r : Int) : Prop := 1 ≤ p ∧ p ≤ 64 ∧ 1 ≤ q ∧ q ≤ 64 ∧ 1 ≤ s ∧ s ≤ 65536 ∧ 1 ≤ r ∧ r ≤ 65536
instance (p q s r : Int) : Decidable (Boil p q s r) := by unfold Boil; exact inferInstance
def boilE (p q s r n : Int) : Int := if Boil p q s r then (if 0 ≤ n ∧ n ≤ 1000 then 0 else 6) else 3
theorem s60 (p q s r n : Int) : PSpec Try.prog 21 [I p, I q, I s, I r, I n] (.x (I (boilE p q s r n))) := by
  refine spec_of pMix (O := []) Try.func21 (c := bodyOf Try.f21) rfl (by kernel_rfl) (by kernel_rfl) Try.ntmps21 (res := [.tmp 10]) (by kernel_rfl) ?_
  repeat' ((conv => whnf); first | refine Rng.g ?_ | refine Ob.g ?_ | refine Ob.e ?_ | refine Ob.m ?_ | refine Ob.mk (Nat.le_of_ble_eq_true rfl) ?_ | refine JoinVC.on ?_ | refine Nils.mk (fun h => ?_) ?_ | refine Val.t ?_ | refine Val.d ?_ | refine Mm.mk ?_ | refine CallVC.pure rfl (s56 _ _ _) ?_ | refine CallVC0.pure rfl (s56 _ _ _) ?_ | (refine Br.mk (fun h => ?_) (fun h => ?_) <;> first | (exfalso; omega; done) | (exfalso; simp at h; done) | skip))
  all_goals
    repeat refine Mm.mk ?_
    refine EndVC.mk _ rfl _ _ ⟨rfl, rfl⟩ ⟨[], rfl, rfl, ⟨⟨rfl, ?_⟩, trivial⟩, trivial⟩
    unfold boilE
    split <;> rename_i hB <;> unfold Boil at hB <;> (try split) <;> omega
end Go.Sx

namespace Go.Sx
open Go Go.Proofs
set_option maxRecDepth 10000
theorem e29 : EntersF Try.prog 29 := enters_of Try.func29 (c := bodyOf Try.f29) (by kernel_rfl) rfl
def mx (a b : Int) : Int := if a < b then b else a
/-- The start of the disc behind these. -/
def st0 (out : List Int) : Int := if 0 < (out.length : Int) then out.getD (out.length - 1) 0 else 0
def st1 (q s : Int) (out : List Int) (t : Int) : Int := if 0 ≤ (out.length : Int) - q then mx t (out.getD ((out.length : Int) - q).toNat 0 + s) else t
def stNext (p q s r : Int) (out : List Int) : Int := st1 p (s + r) out (st1 q s out (st0 out))
def stList (p q s r : Int) : Nat → List Int
  | 0 => []
  | n + 1 => stList p q s r n ++ [stNext p q s r (stList p q s r n)]
theorem stList_len (p q s r : Int) : ∀ n, (stList p q s r n).length = n
  | 0 => rfl
  | n + 1 => by simp [stList, stList_len p q s r n]
theorem getD_app (xs : List Int) (x : Int) (j : Nat) : (xs ++ [x]).getD j 0 = if j < xs.length then xs.getD j 0 else if j = xs.length then x else 0 := by
  simp only [List.getD_eq_getElem?_getD, List.getElem?_append]
  split
  · rfl
  · rename_i h
    split
    · rename_i h2; subst h2; simp
    · rename_i h2
      have : 1 ≤ j - xs.length := by omega
      rw [List.getElem?_eq_none (by simpa using this)]; rfl
theorem st_bd {p q s r : Int} (hb : Boil p q s r) : ∀ n j, 0 ≤ (stList p q s r n).getD j 0 ∧ (stList p q s r n).getD j 0 ≤ 131072 * n
  | 0, j => by simp [stList]
  | n + 1, j => by
    unfold Boil at hb
    have ih := st_bd (p := p) (q := q) (s := s) (r := r) (by unfold Boil; omega) n
    have hl := stList_len p q s r n
    rw [stList, getD_app]
    have h0 : 0 ≤ st0 (stList p q s r n) ∧ st0 (stList p q s r n) ≤ 131072 * n := by
      unfold st0; split
      · exact ih _
      · omega
    have h1 : 0 ≤ st1 q s (stList p q s r n) (st0 (stList p q s r n)) ∧ st1 q s (stList p q s r n) (st0 (stList p q s r n)) ≤ 131072 * n + 131072 := by
      unfold st1 mx
      have := ih (((stList p q s r n).length : Int) - q).toNat
      split
      · split <;> omega
      · omega
    have h2 : 0 ≤ stNext p q s r (stList p q s r n) ∧ stNext p q s r (stList p q s r n) ≤ 131072 * n + 131072 := by
      unfold stNext
      generalize st1 q s (stList p q s r n) (st0 (stList p q s r n)) = t at h1
      unfold st1 mx
      have := ih (((stList p q s r n).length : Int) - p).toNat
      split
      · split <;> omega
      · omega
    have h3 := ih j
    split
    · omega
    · split <;> omega
/-- The objects that 'ends' leaves. -/
theorem s61 (a : Arr) (i p q s r : Int) : HSpec Try.prog 22 [.one (.own 0), I i, I p, I q, I s, I r] [.row 2 false [.int .i64] a] (fun x m' => x = .x (.one (.fn 29 [(2, 0), (4, 0), (1, 0), (5, 0), (3, 0), (6, 0)])) ∧
    m' = [some (.row 2 false [.int .i64] a), some (.box 36 [.own 0]), some (.box 3 [.int .i64 i]), some (.box 3 [.int .i64 p]), some (.box 3 [.int .i64 q]), some (.box 2 [.int .i64 s]), some (.box 2 [.int .i64 r])]) := by
  refine spec_of pMix (O := []) Try.func22 (c := bodyOf Try.f22) rfl (by kernel_rfl) (by kernel_rfl) Try.ntmps22 (res := [.tmp 12]) (by kernel_rfl) ?_
  repeat refine Mm.mk ?_
  refine EndVC.mk _ rfl _ _ ⟨rfl, rfl⟩ ?_
  refine ⟨[some 0, some 1, some 2, some 3, some 4, some 5, some 6], rfl, rfl, ?_, ?_⟩ <;> repeat' (first | exact trivial | exact rfl | exact Iff.rfl | apply And.intro)
def stRes (p q s r n : Int) : List Int := if boilE p q s r n = 0 then stList p q s r n.toNat else []
theorem eb : Try.t2.bytes = 8 := by kernel_rfl
theorem s23 (p q s r n : Int) : PSpec Try.prog 12 [I p, I q, I s, I r, I n] (.tup [.one (.lst false [.int .i64] (i64s (stRes p q s r n))), I (boilE p q s r n)]) := by
  refine spec_of pMix (O := []) Try.func12 (c := bodyOf Try.f12) rfl (by kernel_rfl) (by kernel_rfl) Try.ntmps12 (res := [.tmp 10, .tmp 11]) (by kernel_rfl) ?_
  repeat refine Mm.mk ?_
  conv => whnf
  first | refine CallVC.pure rfl (s60 p q s r n) ?_ | refine CallVC0.pure rfl (s60 p q s r n) ?_
  repeat refine Mm.mk ?_
  try refine JoinVC.on ?_
  refine Br.mk (fun h0 => ?_) (fun h0 => ?_)
  · have e : stRes p q s r n = [] := if_neg h0
    rw [e]
    repeat refine Mm.mk ?_
    refine EndVC.mk _ rfl _ _ ⟨rfl, rfl⟩ ?_
    refine ⟨[], rfl, rfl, ?_, ?_⟩ <;> repeat' (first | exact trivial | exact rfl | exact Iff.rfl | apply And.intro)
  have h0 := Decidable.not_not.1 h0
  have hB : Boil p q s r := by
    apply Decidable.byContradiction
    intro h; rw [boilE, if_neg h] at h0; cases h0
  have hn : 0 ≤ n ∧ n ≤ 1000 := by
    apply Decidable.byContradiction
    intro h; rw [boilE, if_pos hB, if_neg h] at h0; cases h0
  refine LoopVC.mk (fun m st => ∃ k : Nat, (k : Int) ≤ n ∧ m = n.toNat - k ∧ st = ⟨0, envA 58 [(0, .x (I p)), (1, .x (I q)), (2, .x (I s)), (3, .x (I r)), (13, .x (.one (.own 0))), (27, .x (I n)), (28, .int .i64 (k : Int))], [some (.row 2 false [.int .i64] (i64s (stList p q s r k)))]⟩) n.toNat _ ⟨0, by omega, rfl, rfl⟩ ?_ ?_
  · refine ⟨[none], rfl, rfl, ?_, ?_⟩ <;> repeat' (first | exact trivial | exact rfl | exact Iff.rfl | apply And.intro)
  · rintro m _ ⟨k, hk, hm, rfl⟩
    repeat refine Mm.mk ?_
    try refine JoinVC.on ?_
    refine Br.mk (fun h => ?_) (fun h => ?_)
    · have hl : (i64s (stList p q s r k)).length = k := by rw [i64s_len, stList_len]
      have hbd : ∀ j, 0 ≤ rI (i64s (stList p q s r k)) j 0 ∧ rI (i64s (stList p q s r k)) j 0 ≤ 131072 * k := fun j => by rw [i64s_get]; exact st_bd hB k j
      unfold Boil at hB
      have b1 := hbd ((k : Int) - 1).toNat
      have b2 := hbd ((k : Int) - q).toNat
      have b3 := hbd ((k : Int) - p).toNat
      have e1 : ((k : Int) - 1).toNat = k - 1 := by omega
      repeat refine Mm.mk ?_
      try refine JoinVC.on ?_
      refine Br.mk (fun h1 => ?_) (fun h1 => ?_)
      · repeat refine Mm.mk ?_
        refine Rng.ok (by simp only [inR]; omega) ?_
        repeat refine Mm.mk ?_
        refine Ob.mk (by omega) ?_
        repeat refine Mm.mk ?_
        refine Ob.mk (by omega) ?_
        change CallVC _ _ _ _ _
        refine CallVC.mk [0] _ _ _ rfl rfl rfl (s61 _ _ _ _ _ _) (fun x m' hx => ?_)
        obtain ⟨rfl, rfl⟩ := hx
        change RangeVC _ _ _ _ _
        refine RangeVC.mk e29 (isem_of_awp pMix [] Try.func29 (c := bodyOf Try.f29) rfl (by kernel_rfl) Try.ntmps29 (by kernel_rfl) ?_)
        repeat refine Mm.mk ?_
        refine Rng.ok (by simp only [inR]; omega) ?_
        repeat refine Mm.mk ?_
        try refine JoinVC.on ?_
        refine Br.mk (fun h2 => ?_) (fun h2 => ?_)
        · repeat refine Mm.mk ?_
          refine Ob.mk (by omega) ?_
          repeat refine Mm.mk ?_
          refine Ob.mk (by omega) ?_
          change YieldVC _ _ _ _ _
          refine YieldVC.mk (rsem_of_awp pMix [] rfl (by kernel_rfl) ?_)
          repeat refine Mm.mk ?_
          refine Rng.ok (by simp only [inR]; omega) ?_
          repeat refine Mm.mk ?_
          refine Rng.ok (by simp only [inR]; omega) ?_
          repeat refine Mm.mk ?_
          try refine JoinVC.on ?_
          refine Br.mk (fun h3 => ?_) (fun h3 => ?_)
          · repeat refine Mm.mk ?_
            refine Ob.mk (by omega) ?_
            repeat refine Mm.mk ?_
            refine Ob.mk (by omega) ?_
            repeat refine Mm.mk ?_
            refine Rng.ok (by simp only [inR]; omega) ?_
            change YieldVC _ _ _ _ _
            refine YieldVC.mk (rsem_of_awp pMix [] rfl (by kernel_rfl) ?_)
            repeat refine Mm.mk ?_
            refine Rng.ok (by simp only [inR]; omega) ?_
            repeat refine Mm.mk ?_
            refine Ob.mk (by simp only [i64s_len, stList_len, List.length_cons, List.length_nil, eb]; omega) ?_
            repeat refine Mm.mk ?_
            refine Rng.ok (by simp only [inR]; omega) ?_
            refine Back.mk (n.toNat - (k + 1)) _ (by omega) ⟨k + 1, by omega, rfl, rfl⟩ ?_
            refine ⟨[some 10], rfl, rfl, ?_, ?_⟩ <;> repeat' (first | exact trivial | exact rfl | exact Iff.rfl | apply And.intro)
            rw [stList, i64s_snoc]
            congr 3
            simp only [stNext, st1, st0, mx, stList_len, if_pos h1, if_pos h2, if_pos h3, i64s_get, e1]
          · repeat refine Mm.mk ?_
            refine Ob.mk (by simp only [i64s_len, stList_len, List.length_cons, List.length_nil, eb]; omega) ?_
            repeat refine Mm.mk ?_
            refine Rng.ok (by simp only [inR]; omega) ?_
            refine Back.mk (n.toNat - (k + 1)) _ (by omega) ⟨k + 1, by omega, rfl, rfl⟩ ?_
            refine ⟨[some 10], rfl, rfl, ?_, ?_⟩ <;> repeat' (first | exact trivial | exact rfl | exact Iff.rfl | apply And.intro)
            rw [stList, i64s_snoc]
            congr 3
            simp only [stNext, st1, st0, mx, stList_len, if_pos h1, if_pos h2, if_neg h3, i64s_get, e1]
        · repeat refine Mm.mk ?_
          refine Rng.ok (by simp only [inR]; omega) ?_
          repeat refine Mm.mk ?_
          try refine JoinVC.on ?_
          refine Br.mk (fun h3 => ?_) (fun h3 => ?_)
          · repeat refine Mm.mk ?_
            refine Ob.mk (by omega) ?_
            repeat refine Mm.mk ?_
            refine Ob.mk (by omega) ?_
            repeat refine Mm.mk ?_
            refine Rng.ok (by simp only [inR]; omega) ?_
            change YieldVC _ _ _ _ _
            refine YieldVC.mk (rsem_of_awp pMix [] rfl (by kernel_rfl) ?_)
            repeat refine Mm.mk ?_
            refine Rng.ok (by simp only [inR]; omega) ?_
            repeat refine Mm.mk ?_
            refine Ob.mk (by simp only [i64s_len, stList_len, List.length_cons, List.length_nil, eb]; omega) ?_
            repeat refine Mm.mk ?_
            refine Rng.ok (by simp only [inR]; omega) ?_
            refine Back.mk (n.toNat - (k + 1)) _ (by omega) ⟨k + 1, by omega, rfl, rfl⟩ ?_
            refine ⟨[some 10], rfl, rfl, ?_, ?_⟩ <;> repeat' (first | exact trivial | exact rfl | exact Iff.rfl | apply And.intro)
            rw [stList, i64s_snoc]
            congr 3
            simp only [stNext, st1, st0, mx, stList_len, if_pos h1, if_neg h2, if_pos h3, i64s_get, e1]
          · repeat refine Mm.mk ?_
            refine Ob.mk (by simp only [i64s_len, stList_len, List.length_cons, List.length_nil, eb]; omega) ?_
            repeat refine Mm.mk ?_
            refine Rng.ok (by simp only [inR]; omega) ?_
            refine Back.mk (n.toNat - (k + 1)) _ (by omega) ⟨k + 1, by omega, rfl, rfl⟩ ?_
            refine ⟨[some 10], rfl, rfl, ?_, ?_⟩ <;> repeat' (first | exact trivial | exact rfl | exact Iff.rfl | apply And.intro)
            rw [stList, i64s_snoc]
            congr 3
            simp only [stNext, st1, st0, mx, stList_len, if_pos h1, if_neg h2, if_neg h3, i64s_get, e1]
      · change CallVC _ _ _ _ _
        refine CallVC.mk [0] _ _ _ rfl rfl rfl (s61 _ _ _ _ _ _) (fun x m' hx => ?_)
        obtain ⟨rfl, rfl⟩ := hx
        change RangeVC _ _ _ _ _
        refine RangeVC.mk e29 (isem_of_awp pMix [] Try.func29 (c := bodyOf Try.f29) rfl (by kernel_rfl) Try.ntmps29 (by kernel_rfl) ?_)
        repeat refine Mm.mk ?_
        refine Rng.ok (by simp only [inR]; omega) ?_
        repeat refine Mm.mk ?_
        try refine JoinVC.on ?_
        refine Br.mk (fun h2 => ?_) (fun h2 => ?_)
        · repeat refine Mm.mk ?_
          refine Ob.mk (by omega) ?_
          repeat refine Mm.mk ?_
          refine Ob.mk (by omega) ?_
          change YieldVC _ _ _ _ _
          refine YieldVC.mk (rsem_of_awp pMix [] rfl (by kernel_rfl) ?_)
          repeat refine Mm.mk ?_
          refine Rng.ok (by simp only [inR]; omega) ?_
          repeat refine Mm.mk ?_
          refine Rng.ok (by simp only [inR]; omega) ?_
          repeat refine Mm.mk ?_
          try refine JoinVC.on ?_
          refine Br.mk (fun h3 => ?_) (fun h3 => ?_)
          · repeat refine Mm.mk ?_
            refine Ob.mk (by omega) ?_
            repeat refine Mm.mk ?_
            refine Ob.mk (by omega) ?_
            repeat refine Mm.mk ?_
            refine Rng.ok (by simp only [inR]; omega) ?_
            change YieldVC _ _ _ _ _
            refine YieldVC.mk (rsem_of_awp pMix [] rfl (by kernel_rfl) ?_)
            repeat refine Mm.mk ?_
            refine Rng.ok (by simp only [inR]; omega) ?_
            repeat refine Mm.mk ?_
            refine Ob.mk (by simp only [i64s_len, stList_len, List.length_cons, List.length_nil, eb]; omega) ?_
            repeat refine Mm.mk ?_
            refine Rng.ok (by simp only [inR]; omega) ?_
            refine Back.mk (n.toNat - (k + 1)) _ (by omega) ⟨k + 1, by omega, rfl, rfl⟩ ?_
            refine ⟨[some 10], rfl, rfl, ?_, ?_⟩ <;> repeat' (first | exact trivial | exact rfl | exact Iff.rfl | apply And.intro)
            rw [stList, i64s_snoc]
            congr 3
            simp only [stNext, st1, st0, mx, stList_len, if_neg h1, if_pos h2, if_pos h3, i64s_get]
          · repeat refine Mm.mk ?_
            refine Ob.mk (by simp only [i64s_len, stList_len, List.length_cons, List.length_nil, eb]; omega) ?_
            repeat refine Mm.mk ?_
            refine Rng.ok (by simp only [inR]; omega) ?_
            refine Back.mk (n.toNat - (k + 1)) _ (by omega) ⟨k + 1, by omega, rfl, rfl⟩ ?_
            refine ⟨[some 10], rfl, rfl, ?_, ?_⟩ <;> repeat' (first | exact trivial | exact rfl | exact Iff.rfl | apply And.intro)
            rw [stList, i64s_snoc]
            congr 3
            simp only [stNext, st1, st0, mx, stList_len, if_neg h1, if_pos h2, if_neg h3, i64s_get]
        · repeat refine Mm.mk ?_
          refine Rng.ok (by simp only [inR]; omega) ?_
          repeat refine Mm.mk ?_
          try refine JoinVC.on ?_
          refine Br.mk (fun h3 => ?_) (fun h3 => ?_)
          · repeat refine Mm.mk ?_
            refine Ob.mk (by omega) ?_
            repeat refine Mm.mk ?_
            refine Ob.mk (by omega) ?_
            repeat refine Mm.mk ?_
            refine Rng.ok (by simp only [inR]; omega) ?_
            change YieldVC _ _ _ _ _
            refine YieldVC.mk (rsem_of_awp pMix [] rfl (by kernel_rfl) ?_)
            repeat refine Mm.mk ?_
            refine Rng.ok (by simp only [inR]; omega) ?_
            repeat refine Mm.mk ?_
            refine Ob.mk (by simp only [i64s_len, stList_len, List.length_cons, List.length_nil, eb]; omega) ?_
            repeat refine Mm.mk ?_
            refine Rng.ok (by simp only [inR]; omega) ?_
            refine Back.mk (n.toNat - (k + 1)) _ (by omega) ⟨k + 1, by omega, rfl, rfl⟩ ?_
            refine ⟨[some 10], rfl, rfl, ?_, ?_⟩ <;> repeat' (first | exact trivial | exact rfl | exact Iff.rfl | apply And.intro)
            rw [stList, i64s_snoc]
            congr 3
            simp only [stNext, st1, st0, mx, stList_len, if_neg h1, if_neg h2, if_pos h3, i64s_get]
          · repeat refine Mm.mk ?_
            refine Ob.mk (by simp only [i64s_len, stList_len, List.length_cons, List.length_nil, eb]; omega) ?_
            repeat refine Mm.mk ?_
            refine Rng.ok (by simp only [inR]; omega) ?_
            refine Back.mk (n.toNat - (k + 1)) _ (by omega) ⟨k + 1, by omega, rfl, rfl⟩ ?_
            refine ⟨[some 10], rfl, rfl, ?_, ?_⟩ <;> repeat' (first | exact trivial | exact rfl | exact Iff.rfl | apply And.intro)
            rw [stList, i64s_snoc]
            congr 3
            simp only [stNext, st1, st0, mx, stList_len, if_neg h1, if_neg h2, if_neg h3]
    · have e : (k : Int) = n := by omega
      have e2 : stRes p q s r n = stList p q s r k := by rw [stRes, if_pos h0]; congr 1; omega
      rw [h0, e2]
      repeat refine Mm.mk ?_
      refine EndVC.mk _ rfl _ _ ⟨rfl, rfl⟩ ?_
      refine ⟨[], rfl, rfl, ?_, ?_⟩ <;> repeat' (first | exact trivial | exact rfl | exact Iff.rfl | apply And.intro)
end Go.Sx

namespace Go.Sx
open Go Go.Proofs
set_option maxRecDepth 10000
def exMac : Mac := ⟨20, 120, 50, 200, 30, 25, 5, 3, 2⟩
theorem exMac_chk : exMac.chk = 0 := Mac.chk0 (by simp [Mac.ok, exMac])
theorem s22 : PSpec Try.prog 5 [] (xP True) := by
  refine spec_of pMix (O := []) Try.func5 (c := bodyOf Try.f5) rfl (by kernel_rfl) (by kernel_rfl) Try.ntmps5 (res := [.tmp 0]) (by kernel_rfl) ?_
  repeat refine Mm.mk ?_
  conv => whnf
  first | refine CallVC.pure rfl (s55) ?_ | refine CallVC0.pure rfl (s55) ?_
  repeat refine Mm.mk ?_
  conv => whnf
  first | refine CallVC.pure rfl (s18 exMac 190 1) ?_ | refine CallVC0.pure rfl (s18 exMac 190 1) ?_
  repeat refine Mm.mk ?_
  conv => whnf
  first | refine CallVC.pure rfl (s23 2 1 3 4 4) ?_ | refine CallVC0.pure rfl (s23 2 1 3 4 4) ?_
  repeat refine Mm.mk ?_
  conv => whnf
  first | refine CallVC.pure rfl (s31 ⟨3, 0⟩ ⟨0, 1⟩ ⟨0, -1⟩) ?_ | refine CallVC0.pure rfl (s31 ⟨3, 0⟩ ⟨0, 1⟩ ⟨0, -1⟩) ?_
  have v1 : exMac.tickV 190 1 = 200 := by
    rw [Mac.tickV, if_pos exMac_chk]; decide
  have v2 : exMac.tickE 190 1 = 0 := by
    rw [Mac.tickE, if_pos exMac_chk]; decide
  have v3 : boilE 2 1 3 4 4 = 0 := by decide
  have v4 : stRes 2 1 3 4 4 = [0, 3, 7, 10] := by decide
  have v5 : ctrE ⟨3, 0⟩ ⟨0, 1⟩ ⟨0, -1⟩ = 0 := by decide
  have v6 : ctrX ⟨3, 0⟩ ⟨0, 1⟩ ⟨0, -1⟩ = 16 := by decide
  have v7 : ctrY ⟨3, 0⟩ ⟨0, 1⟩ ⟨0, -1⟩ = 0 := by decide
  have v8 : ctrD ⟨3, 0⟩ ⟨0, 1⟩ ⟨0, -1⟩ = 12 := by decide
  repeat refine Mm.mk ?_
  refine Rng.ok (by simp only [inR]; omega) ?_
  repeat refine Mm.mk ?_
  refine Rng.ok (by simp only [inR]; omega) ?_
  repeat refine Mm.mk ?_
  try refine JoinVC.on ?_
  refine Br.mk (fun h1 => ?_) (fun h1 => ?_)
  · repeat refine Mm.mk ?_
    try refine JoinVC.on ?_
    refine Br.mk (fun h2 => ?_) (fun h2 => ?_)
    · repeat refine Mm.mk ?_
      conv => whnf
      first | refine CallVC.pure rfl (s27 _ [0, 3, 7, 10] (by rw [v4]; decide)) ?_ | refine CallVC0.pure rfl (s27 _ [0, 3, 7, 10] (by rw [v4]; decide)) ?_
      repeat refine Mm.mk ?_
      try refine JoinVC.on ?_
      refine Br.mk (fun h3 => ?_) (fun h3 => ?_)
      · repeat refine Mm.mk ?_
        try refine JoinVC.on ?_
        refine Br.mk (fun h4 => ?_) (fun h4 => ?_)
        · repeat refine Mm.mk ?_
          try refine JoinVC.on ?_
          refine Br.mk (fun h5 => ?_) (fun h5 => ?_)
          · repeat refine Mm.mk ?_
            refine EndVC.mk _ rfl _ _ ⟨rfl, rfl⟩ ?_
            refine ⟨[], rfl, rfl, ?_, ?_⟩ <;> repeat' (first | exact trivial | exact rfl | exact Iff.rfl | apply And.intro)
            exact iff_true_intro v8
          · exact absurd v7 h5
        · exact absurd v6 h4
      · exact absurd v4 h3
    · exact absurd v1 h2
  · exact absurd (by omega) h1
end Go.Sx

namespace Go.Sx
open Go Go.Proofs
set_option maxRecDepth 10000
set_option maxHeartbeats 1000000
/-! ### Stampers that are used in turn -/
def sumK (xs : List Int) : Nat → Int
  | 0 => 0
  | k + 1 => sumK xs k + xs.getD k 0
theorem getD_set (xs : List Int) (i j : Nat) (v : Int) (h : i < xs.length) : (xs.set i v).getD j 0 = if i = j then v else xs.getD j 0 := by
  simp only [List.getD_eq_getElem?_getD, List.getElem?_set]
  split
  · rename_i e; subst e; simp
  · rfl
theorem sumK_set (xs : List Int) (i : Nat) (v : Int) (h : i < xs.length) : ∀ k, sumK (xs.set i v) k = if i < k then sumK xs k - xs.getD i 0 + v else sumK xs k
  | 0 => by simp [sumK]
  | k + 1 => by
    rw [sumK, sumK, sumK_set xs i v h k, getD_set xs i k v h]
    by_cases h1 : i < k
    · rw [if_pos h1, if_neg (by omega), if_pos (by omega)]; omega
    · by_cases h2 : i = k
      · subst h2; rw [if_neg (by omega), if_pos rfl, if_pos (by omega)]; omega
      · rw [if_neg h1, if_neg h2, if_neg (by omega)]
theorem i64s_set (xs : List Int) (i : Nat) (v : Int) (h : i < xs.length) : updRow (i64s xs) i 0 [.int v] = i64s (xs.set i v) := by
  unfold updRow i64s
  rw [List.map_set]
  congr 1
  rw [List.getD_eq_getElem?_getD, List.getElem?_map, List.getElem?_eq_getElem h]
  rfl
/-- The mounts from a state on. -/
inductive MR : List Int → List Int → Nat → Nat → Int → List (Nat × Nat × Int) → Prop
  | done {X Y i k d} (h : d ≤ 0) : MR X Y i k d []
  | si {X Y i k d o} (h : 0 < d) (hx : X.getD i 0 = 0) (r : MR X Y (i + 1) k d o) : MR X Y i k d o
  | sk {X Y i k d o} (h : 0 < d) (hx : X.getD i 0 ≠ 0) (hy : Y.getD k 0 = 0) (r : MR X Y i (k + 1) d o) : MR X Y i k d o
  | go {X Y i k d o} (n : Int) (h : 0 < d) (hx : X.getD i 0 ≠ 0) (hy : Y.getD k 0 ≠ 0) (hn : n = min (min (X.getD i 0) (Y.getD k 0)) d)
      (r : MR (X.set i (X.getD i 0 - n)) (Y.set k (Y.getD k 0 - n)) i k (d - n) o) : MR X Y i k d ((i, k, n) :: o)
theorem MR.nil {X Y i k d o} (h : MR X Y i k d o) (hd : d ≤ 0) : o = [] := by
  cases h with
  | done => rfl
  | si h => omega
  | sk h => omega
  | go n h => omega
/-- Numbers that are possible. -/
def okN (xs : List Int) : Prop := ∀ j, j < xs.length → 0 ≤ xs.getD j 0 ∧ xs.getD j 0 ≤ 65536
instance (xs : List Int) : Decidable (okN xs) := by unfold okN; exact inferInstance
def moE (xs ys : List Int) (d : Int) : Int := if 64 < xs.length ∨ 64 < ys.length then 6 else if ¬ okN xs ∨ ¬ okN ys then 2 else if d < 0 ∨ 1073741824 < d then 3 else if sumK xs xs.length < d ∨ sumK ys ys.length < d then 15 else 0
/-- What holds at each round. -/
structure MInv (xs ys : List Int) (D : Int) (X Y : List Int) (i k : Nat) (d : Int) (out : List (Nat × Nat × Int)) : Prop where
  lx : X.length = xs.length
  ly : Y.length = ys.length
  sx : xs.length ≤ 64
  sy : ys.length ≤ 64
  bx : ∀ j, 0 ≤ X.getD j 0 ∧ X.getD j 0 ≤ 65536
  by' : ∀ j, 0 ≤ Y.getD j 0 ∧ Y.getD j 0 ≤ 65536
  d0 : 0 ≤ d
  dD : D ≤ 1073741824
  hi : i ≤ xs.length
  hk : k ≤ ys.length
  rx : d ≤ sumK X xs.length - sumK X i
  ry : d ≤ sumK Y ys.length - sumK Y k
  cnt : (out.length : Int) + d ≤ D
  run : ∀ o, MR X Y i k d o → MR xs ys 0 0 D (out ++ o)
theorem MInv.i_lt {xs ys D X Y i k d out} (h : MInv xs ys D X Y i k d out) (hd : 0 < d) : i < xs.length ∧ k < ys.length := by
  have h1 := h.rx
  have h2 := h.ry
  have h3 := h.hi
  have h4 := h.hk
  constructor
  · rcases Nat.lt_or_ge i xs.length with h5 | h5
    · exact h5
    · have : i = xs.length := by omega
      subst this; omega
  · rcases Nat.lt_or_ge k ys.length with h5 | h5
    · exact h5
    · have : k = ys.length := by omega
      subst this; omega
theorem MInv.go {xs ys D X Y i k d out} (h : MInv xs ys D X Y i k d out) (hd : 0 < d) (n : Int) (hn : n = min (min (X.getD i 0) (Y.getD k 0)) d) (hpos : 0 < n) :
    MInv xs ys D (X.set i (X.getD i 0 - n)) (Y.set k (Y.getD k 0 - n)) i k (d - n) (out ++ [(i, k, n)]) := by
  obtain ⟨hi, hk⟩ := h.i_lt hd
  have b1 := h.bx i
  have b2 := h.by' k
  have hiX : i < X.length := by rw [h.lx]; exact hi
  have hkY : k < Y.length := by rw [h.ly]; exact hk
  refine ⟨by simp [h.lx], by simp [h.ly], h.sx, h.sy, fun j => ?_, fun j => ?_, by omega, h.dD, h.hi, h.hk, ?_, ?_, ?_, fun o ho => ?_⟩
  · rw [getD_set _ _ _ _ hiX]; have := h.bx j; split <;> omega
  · rw [getD_set _ _ _ _ hkY]; have := h.by' j; split <;> omega
  · rw [sumK_set _ _ _ hiX, sumK_set _ _ _ hiX, if_pos hi, if_neg (by omega)]; have := h.rx; omega
  · rw [sumK_set _ _ _ hkY, sumK_set _ _ _ hkY, if_pos hk, if_neg (by omega)]; have := h.ry; omega
  · have := h.cnt; simp; omega
  · rw [List.append_assoc]
    exact h.run _ (.go n hd (by omega) (by omega) hn ho)
theorem okN_all {xs : List Int} (h : okN xs) (j : Nat) : 0 ≤ xs.getD j 0 ∧ xs.getD j 0 ≤ 65536 := by
  rcases Nat.lt_or_ge j xs.length with h1 | h1
  · exact h j h1
  · rw [List.getD_eq_getElem?_getD, List.getElem?_eq_none h1]; simp
theorem MInv.start {xs ys : List Int} {D : Int} (h : moE xs ys D = 0) : MInv xs ys D xs ys 0 0 D [] := by
  unfold moE at h
  split at h
  · cases h
  split at h
  · cases h
  split at h
  · cases h
  split at h
  · cases h
  rename_i h1 h2 h3 h4
  have o1 : okN xs := Decidable.byContradiction fun h => h2 (.inl h)
  have o2 : okN ys := Decidable.byContradiction fun h => h2 (.inr h)
  exact ⟨rfl, rfl, by omega, by omega, okN_all o1, okN_all o2, by omega, by omega, Nat.zero_le _, Nat.zero_le _, by simp [sumK]; omega, by simp [sumK]; omega, by simp, fun o ho => ho⟩
end Go.Sx

namespace Go.Sx
open Go Go.Proofs
set_option maxRecDepth 10000
set_option maxHeartbeats 1000000
theorem tickF_bd {m : Mac} (hm : m.ok) {t v : Int} (ht : m.room ≤ t ∧ t ≤ m.top) : m.room ≤ tickF m t v ∧ tickF m t v ≤ m.top := by
  obtain ⟨m1, m2, m3, m4, m5, m6, m7, m8, m9, m10, m11, m12, m13, m14, m15⟩ := hm
  unfold tickF
  split
  · split <;> omega
  · split <;> split <;> omega
end Go.Sx

namespace Go.Sx
open Go Go.Proofs
set_option maxRecDepth 10000
set_option maxHeartbeats 1000000
/-! ### Ways of valves, the shorter ones first, then by their first difference -/
abbrev S2 := Int × Int
def nx (m : Mac) (s : S2) (v : Int) : S2 := (tickF m s.1 v, if m.melt ≤ tickF m s.1 v then min m.hold (s.2 + 1) else s.2)
def runS (m : Mac) (s : S2) (w : List Int) : S2 := w.foldl (nx m) s
theorem runS_snoc (m : Mac) (s : S2) (w : List Int) (v : Int) : runS m s (w ++ [v]) = nx m (runS m s w) v := by simp [runS]
def goodS (m : Mac) (s : S2) : Prop := s.2 = m.hold ∧ s.1 ≤ m.cool
def OKW (w : List Int) : Prop := ∀ v ∈ w, 0 ≤ v ∧ v ≤ 2
theorem OKW.nil : OKW [] := fun _ h => by simp at h
theorem OKW.snoc {w : List Int} {v : Int} (h : OKW w) (hv : 0 ≤ v ∧ v ≤ 2) : OKW (w ++ [v]) := fun x hx => by
  rcases List.mem_append.1 hx with hx | hx
  · exact h x hx
  · simp at hx; subst hx; exact hv
theorem OKW.left {u w : List Int} (h : OKW (u ++ w)) : OKW u := fun x hx => h x (List.mem_append_left _ hx)
theorem OKW.last {u : List Int} {v : Int} (h : OKW (u ++ [v])) : 0 ≤ v ∧ v ≤ 2 := h v (by simp)
def lexL : List Int → List Int → Prop
  | a :: u, b :: w => a < b ∨ (a = b ∧ lexL u w)
  | _, _ => False
def slt (u w : List Int) : Prop := u.length < w.length ∨ (u.length = w.length ∧ lexL u w)
def sle (u w : List Int) : Prop := u = w ∨ slt u w
theorem lexL_irr : ∀ u, ¬ lexL u u
  | [], h => h
  | a :: u, h => by
    rcases h with h | ⟨_, h⟩
    · omega
    · exact lexL_irr u h
theorem lexL_trans : ∀ {u v w}, lexL u v → lexL v w → lexL u w
  | [], _, _, h, _ => by simp [lexL] at h
  | _ :: _, [], _, h, _ => by simp [lexL] at h
  | _ :: _, _ :: _, [], _, h => by simp [lexL] at h
  | a :: u, b :: v, c :: w, h1, h2 => by
    rcases h1 with h1 | ⟨h1, h1'⟩
    · rcases h2 with h2 | ⟨h2, h2'⟩
      · exact .inl (by omega)
      · exact .inl (by omega)
    · rcases h2 with h2 | ⟨h2, h2'⟩
      · exact .inl (by omega)
      · exact .inr ⟨by omega, lexL_trans h1' h2'⟩
theorem lexL_tot : ∀ {u w : List Int}, u.length = w.length → u = w ∨ lexL u w ∨ lexL w u
  | [], [], _ => .inl rfl
  | [], _ :: _, h => by simp at h
  | _ :: _, [], h => by simp at h
  | a :: u, b :: w, h => by
    rcases lexL_tot (u := u) (w := w) (by simpa using h) with rfl | h1 | h1
    · rcases Int.lt_trichotomy a b with h2 | rfl | h2
      · exact .inr (.inl (.inl h2))
      · exact .inl rfl
      · exact .inr (.inr (.inl h2))
    · rcases Int.lt_trichotomy a b with h2 | rfl | h2
      · exact .inr (.inl (.inl h2))
      · exact .inr (.inl (.inr ⟨rfl, h1⟩))
      · exact .inr (.inr (.inl h2))
    · rcases Int.lt_trichotomy a b with h2 | rfl | h2
      · exact .inr (.inl (.inl h2))
      · exact .inr (.inr (.inr ⟨rfl, h1⟩))
      · exact .inr (.inr (.inl h2))
theorem lexL_app : ∀ {u w : List Int} (x y : List Int), u.length = w.length → lexL u w → lexL (u ++ x) (w ++ y)
  | [], _, _, _, _, h => by simp [lexL] at h
  | _ :: _, [], _, _, h, _ => by simp at h
  | a :: u, b :: w, x, y, hl, h => by
    rcases h with h | ⟨h, h'⟩
    · exact .inl h
    · exact .inr ⟨h, lexL_app x y (by simpa using hl) h'⟩
theorem lexL_same : ∀ (u : List Int) {x y : List Int}, lexL x y → lexL (u ++ x) (u ++ y)
  | [], _, _, h => h
  | _ :: u, _, _, h => .inr ⟨rfl, lexL_same u h⟩
theorem slt_irr (u : List Int) : ¬ slt u u := fun h => by
  rcases h with h | ⟨_, h⟩
  · omega
  · exact lexL_irr u h
theorem slt_trans {u v w : List Int} (h1 : slt u v) (h2 : slt v w) : slt u w := by
  rcases h1 with h1 | ⟨h1, h1'⟩
  · rcases h2 with h2 | ⟨h2, _⟩
    · exact .inl (by omega)
    · exact .inl (by omega)
  · rcases h2 with h2 | ⟨h2, h2'⟩
    · exact .inl (by omega)
    · exact .inr ⟨by omega, lexL_trans h1' h2'⟩
theorem slt_tot (u w : List Int) : u = w ∨ slt u w ∨ slt w u := by
  rcases Nat.lt_trichotomy u.length w.length with h | h | h
  · exact .inr (.inl (.inl h))
  · rcases lexL_tot h with h1 | h1 | h1
    · exact .inl h1
    · exact .inr (.inl (.inr ⟨h, h1⟩))
    · exact .inr (.inr (.inr ⟨h.symm, h1⟩))
  · exact .inr (.inr (.inl h))
theorem slt_snoc {u w : List Int} (h : slt u w) (a b : Int) : slt (u ++ [a]) (w ++ [b]) := by
  rcases h with h | ⟨h, h'⟩
  · exact .inl (by simp; omega)
  · exact .inr ⟨by simp; omega, lexL_app _ _ h h'⟩
theorem slt_snoc_same (u : List Int) {a b : Int} (h : a < b) : slt (u ++ [a]) (u ++ [b]) := .inr ⟨by simp, lexL_same u (.inl h)⟩
theorem slt_self (u : List Int) (a : Int) : slt u (u ++ [a]) := .inl (by simp)
theorem sle_lt {u v w : List Int} (h1 : sle u v) (h2 : slt v w) : slt u w := by
  rcases h1 with rfl | h1
  · exact h2
  · exact slt_trans h1 h2
theorem sle_snoc {u w : List Int} (h : sle u w) (a : Int) : sle (u ++ [a]) (w ++ [a]) := by
  rcases h with rfl | h
  · exact .inl rfl
  · exact .inr (slt_snoc h a a)
theorem sle_trans {u v w : List Int} (h1 : sle u v) (h2 : sle v w) : sle u w := by
  rcases h2 with rfl | h2
  · exact h1
  · exact .inr (sle_lt h1 h2)
/-- The first way to a good disc. -/
structure Best (m : Mac) (b : S2) (w : List Int) : Prop where
  ok : OKW w
  good : goodS m (runS m b w)
  least : ∀ u, OKW u → goodS m (runS m b u) → sle w u
/-! ### The search -/
/-- This pair of a place and a valve has been looked at. -/
def seen (i : Nat) (v : Int) (j : Nat) (v0 : Int) : Prop := j < i ∨ (j = i ∧ v0 < v)
structure Bfs (m : Mac) (b : S2) (W : List (List Int)) (i : Nat) (v : Int) : Prop where
  b0 : W[0]? = some []
  ok : ∀ (k : Nat) (w : List Int), W[k]? = some w → OKW w
  sorted : ∀ (k k' : Nat) (w w' : List Int), k < k' → W[k]? = some w → W[k']? = some w' → slt w w'
  par : ∀ (k : Nat) (w : List Int), W[k]? = some w → k ≠ 0 → ∃ (j : Nat) (w0 : List Int) (v0 : Int), seen i v j v0 ∧ 0 ≤ v0 ∧ v0 ≤ 2 ∧ W[j]? = some w0 ∧ w = w0 ++ [v0]
  nxt : ∀ (j : Nat) (w0 : List Int) (v0 : Int), seen i v j v0 → 0 ≤ v0 → v0 ≤ 2 → W[j]? = some w0 → ∃ (k : Nat) (w : List Int), W[k]? = some w ∧ runS m b w = runS m b (w0 ++ [v0]) ∧ sle w (w0 ++ [v0])
  bad : ∀ (k : Nat) (w : List Int), W[k]? = some w → (k < i ∨ (k = i ∧ 0 < v)) → ¬ goodS m (runS m b w)
  inj : ∀ (k k' : Nat) (w w' : List Int), W[k]? = some w → W[k']? = some w' → runS m b w = runS m b w' → k = k'
theorem Bfs.start (m : Mac) (b : S2) : Bfs m b [[]] 0 0 := by
  have one : ∀ (k : Nat) (w : List Int), ([[]] : List (List Int))[k]? = some w → k = 0 ∧ w = [] := fun k w h => by
    cases k with
    | zero => simp at h; exact ⟨rfl, h⟩
    | succ k => simp at h
  refine ⟨rfl, fun k w h => ?_, fun k k' w w' h1 h2 h3 => ?_, fun k w h h0 => absurd (one k w h).1 h0, fun j w0 v0 h h1 _ _ => ?_, fun k w h h1 => ?_, fun k k' w w' h1 h2 _ => ?_⟩
  · rw [(one k w h).2]; exact OKW.nil
  · have := one k w h2; have := one k' w' h3; omega
  · rcases h with h | ⟨_, h⟩ <;> omega
  · rcases h1 with h1 | ⟨_, h1⟩ <;> omega
  · have := one k w h1; have := one k' w' h2; omega
section
variable {m : Mac} {b : S2} {W : List (List Int)} {i : Nat} {v : Int} {wi : List Int}
/-- A state that is known. -/
theorem Bfs.skip (h : Bfs m b W i v) (hv : 0 ≤ v ∧ v ≤ 2) (hi : W[i]? = some wi) (hg : ¬ goodS m (runS m b wi)) {k : Nat} {w : List Int} (hk : W[k]? = some w) (he : runS m b w = runS m b (wi ++ [v])) : Bfs m b W i (v + 1) := by
  have wide : ∀ (j : Nat) (v0 : Int), seen i v j v0 → seen i (v + 1) j v0 := fun j v0 hs => hs.imp id (fun ⟨a, b⟩ => ⟨a, by omega⟩)
  have lt : slt w (wi ++ [v]) ∨ w = wi ++ [v] := by
    by_cases h0 : k = 0
    · subst h0
      rw [h.b0] at hk; cases hk
      exact .inl (.inl (by simp))
    · obtain ⟨j, w0, v0, hs, h1, h2, h3, rfl⟩ := h.par k w hk h0
      rcases hs with hs | ⟨rfl, hs⟩
      · exact .inl (slt_snoc (h.sorted j i w0 wi hs h3 hi) _ _)
      · rw [hi] at h3; cases h3
        exact .inl (slt_snoc_same _ hs)
  refine ⟨h.b0, h.ok, h.sorted, fun k w hk h0 => ?_, fun j w0 v0 hs h1 h2 h3 => ?_, fun k w hk hs => ?_, h.inj⟩
  · obtain ⟨j, w0, v0, hs, r⟩ := h.par k w hk h0
    exact ⟨j, w0, v0, wide j v0 hs, r⟩
  · by_cases hs' : seen i v j v0
    · exact h.nxt j w0 v0 hs' h1 h2 h3
    · have : j = i ∧ v0 = v := by
        unfold seen at hs hs'
        rcases hs with hs | ⟨rfl, hs⟩
        · exact absurd (.inl hs) hs'
        · refine ⟨rfl, ?_⟩
          have : ¬ v0 < v := fun h => hs' (.inr ⟨rfl, h⟩)
          omega
      obtain ⟨rfl, rfl⟩ := this
      rw [hi] at h3; cases h3
      exact ⟨k, w, hk, he, lt.elim .inr .inl⟩
  · rcases hs with hs | ⟨rfl, _⟩
    · exact h.bad k w hk (.inl hs)
    · rw [hi] at hk; cases hk; exact hg
/-- A state that is new. -/
theorem Bfs.add (h : Bfs m b W i v) (hv : 0 ≤ v ∧ v ≤ 2) (hi : W[i]? = some wi) (hg : ¬ goodS m (runS m b wi)) (hn : ∀ (k : Nat) (w : List Int), W[k]? = some w → runS m b w ≠ runS m b (wi ++ [v])) : Bfs m b (W ++ [wi ++ [v]]) i (v + 1) := by
  have wide : ∀ (j : Nat) (v0 : Int), seen i v j v0 → seen i (v + 1) j v0 := fun j v0 hs => hs.imp id (fun ⟨a, b⟩ => ⟨a, by omega⟩)
  have old : ∀ (k : Nat) (w : List Int), W[k]? = some w → (W ++ [wi ++ [v]])[k]? = some w := fun k w hk => by
    rw [List.getElem?_append_left (List.getElem?_eq_some_iff.1 hk).1]; exact hk
  have new : ∀ (k : Nat) (w : List Int), (W ++ [wi ++ [v]])[k]? = some w → W[k]? = some w ∨ (k = W.length ∧ w = wi ++ [v]) := fun k w hk => by
    rw [List.getElem?_append] at hk
    split at hk
    · exact .inl hk
    · rw [List.getElem?_singleton] at hk
      split at hk
      · cases hk; exact .inr ⟨by omega, rfl⟩
      · cases hk
  have lt : ∀ (k : Nat) (w : List Int), W[k]? = some w → slt w (wi ++ [v]) := fun k w hk => by
    by_cases h0 : k = 0
    · subst h0
      rw [h.b0] at hk; cases hk
      exact .inl (by simp)
    · obtain ⟨j, w0, v0, hs, h1, h2, h3, rfl⟩ := h.par k w hk h0
      rcases hs with hs | ⟨rfl, hs⟩
      · exact slt_snoc (h.sorted j i w0 wi hs h3 hi) _ _
      · rw [hi] at h3; cases h3
        exact slt_snoc_same _ hs
  have hil := (List.getElem?_eq_some_iff.1 hi).1
  refine ⟨old _ _ h.b0, fun k w hk => ?_, fun k k' w w' hkk hk hk' => ?_, fun k w hk h0 => ?_, fun j w0 v0 hs h1 h2 h3 => ?_, fun k w hk hs => ?_, fun k k' w w' hk hk' he => ?_⟩
  · rcases new k w hk with hk | ⟨_, rfl⟩
    · exact h.ok k w hk
    · exact (h.ok i wi hi).snoc hv
  · rcases new k' w' hk' with hk' | ⟨h1, rfl⟩
    · have := (List.getElem?_eq_some_iff.1 hk').1
      rcases new k w hk with hk | ⟨h2, _⟩
      · exact h.sorted k k' w w' hkk hk hk'
      · omega
    · rcases new k w hk with hk | ⟨h2, _⟩
      · exact lt k w hk
      · omega
  · rcases new k w hk with hk | ⟨h1, rfl⟩
    · obtain ⟨j, w0, v0, hs, h1, h2, h3, h4⟩ := h.par k w hk h0
      exact ⟨j, w0, v0, wide j v0 hs, h1, h2, old _ _ h3, h4⟩
    · exact ⟨i, wi, v, .inr ⟨rfl, by omega⟩, hv.1, hv.2, old _ _ hi, rfl⟩
  · rcases new j w0 h3 with h3' | ⟨h4, _⟩
    · by_cases hs' : seen i v j v0
      · obtain ⟨k, w, g1, g2, g3⟩ := h.nxt j w0 v0 hs' h1 h2 h3'
        exact ⟨k, w, old _ _ g1, g2, g3⟩
      · have : j = i ∧ v0 = v := by
          unfold seen at hs hs'
          rcases hs with hs | ⟨rfl, hs⟩
          · exact absurd (.inl hs) hs'
          · refine ⟨rfl, ?_⟩
            have : ¬ v0 < v := fun h => hs' (.inr ⟨rfl, h⟩)
            omega
        obtain ⟨rfl, rfl⟩ := this
        rw [hi] at h3'; cases h3'
        exact ⟨W.length, wi ++ [v0], by simp, rfl, .inl rfl⟩
    · rcases hs with hs | ⟨hs, _⟩ <;> omega
  · rcases new k w hk with hk | ⟨h1, _⟩
    · rcases hs with hs | ⟨rfl, _⟩
      · exact h.bad k w hk (.inl hs)
      · rw [hi] at hk; cases hk; exact hg
    · rcases hs with hs | ⟨hs, _⟩ <;> omega
  · rcases new k w hk with hk | ⟨h1, rfl⟩
    · rcases new k' w' hk' with hk' | ⟨h2, rfl⟩
      · exact h.inj k k' w w' hk hk' he
      · exact absurd he (hn k w hk)
    · rcases new k' w' hk' with hk' | ⟨h2, rfl⟩
      · exact absurd he.symm (hn k' w' hk')
      · omega
theorem Bfs.next (h : Bfs m b W i 3) : Bfs m b W (i + 1) 0 := by
  have w1 : ∀ (j : Nat) (v0 : Int), 0 ≤ v0 → v0 ≤ 2 → (seen (i + 1) 0 j v0 ↔ seen i 3 j v0) := fun j v0 h1 h2 => by unfold seen; omega
  refine ⟨h.b0, h.ok, h.sorted, fun k w hk h0 => ?_, fun j w0 v0 hs h1 h2 h3 => h.nxt j w0 v0 ((w1 j v0 h1 h2).1 hs) h1 h2 h3, fun k w hk hs => h.bad k w hk (by omega), h.inj⟩
  obtain ⟨j, w0, v0, hs, h1, h2, r⟩ := h.par k w hk h0
  exact ⟨j, w0, v0, (w1 j v0 h1 h2).2 hs, h1, h2, r⟩
theorem Bfs.lessIn (h : Bfs m b W i v) (hi : W[i]? = some wi) (u : List Int) : OKW u → slt u wi → ∃ (k : Nat) (w : List Int), k < i ∧ W[k]? = some w ∧ runS m b w = runS m b u ∧ sle w u := by
  refine snoc_ind (p := fun u => OKW u → slt u wi → ∃ (k : Nat) (w : List Int), k < i ∧ W[k]? = some w ∧ runS m b w = runS m b u ∧ sle w u) ?_ ?_ u
  · intro _ hs
    refine ⟨0, [], ?_, h.b0, rfl, .inl rfl⟩
    rcases Nat.eq_zero_or_pos i with h0 | h0
    · subst h0
      rw [h.b0] at hi; cases hi
      exact absurd hs (slt_irr _)
    · exact h0
  · intro u a ih hok hs
    obtain ⟨k', w', h1, h2, h3, h4⟩ := ih hok.left (slt_trans (slt_self u a) hs)
    obtain ⟨k, w, g1, g2, g3⟩ := h.nxt k' w' a (.inl h1) hok.last.1 hok.last.2 h2
    have hle : sle w (u ++ [a]) := sle_trans g3 (sle_snoc h4 a)
    refine ⟨k, w, ?_, g1, by rw [g2, runS_snoc, runS_snoc, h3], hle⟩
    rcases Nat.lt_trichotomy k i with hk | rfl | hk
    · exact hk
    · rw [hi] at g1; cases g1
      exact absurd (sle_lt hle hs) (slt_irr _)
    · exact absurd (slt_trans (sle_lt hle hs) (h.sorted i k wi w hk hi g1)) (slt_irr _)
/-- What is found first is the first way. -/
theorem Bfs.best (h : Bfs m b W i v) (hi : W[i]? = some wi) (hg : goodS m (runS m b wi)) : Best m b wi := by
  refine ⟨h.ok i wi hi, hg, fun u hu hgu => ?_⟩
  rcases slt_tot wi u with h1 | h1 | h1
  · exact .inl h1
  · exact .inr h1
  · obtain ⟨k, w, h2, h3, h4, _⟩ := h.lessIn hi u hu h1
    exact absurd (h4 ▸ hgu) (h.bad k w h3 (.inl h2))
/-- All that can be reached is there, once all was looked at. -/
theorem Bfs.all (h : Bfs m b W i v) (hi : W.length ≤ i) (u : List Int) : OKW u → ∃ (k : Nat) (w : List Int), W[k]? = some w ∧ runS m b w = runS m b u := by
  refine snoc_ind (p := fun u => OKW u → ∃ (k : Nat) (w : List Int), W[k]? = some w ∧ runS m b w = runS m b u) ?_ ?_ u
  · exact fun _ => ⟨0, [], h.b0, rfl⟩
  · intro u a ih hok
    obtain ⟨k', w', h2, h3⟩ := ih hok.left
    have := (List.getElem?_eq_some_iff.1 h2).1
    obtain ⟨k, w, g1, g2, _⟩ := h.nxt k' w' a (.inl (by omega)) hok.last.1 hok.last.2 h2
    exact ⟨k, w, g1, by rw [g2, runS_snoc, runS_snoc, h3]⟩
theorem Bfs.more (h : Bfs m b W i 0) (hr : ∃ u, OKW u ∧ goodS m (runS m b u)) : i < W.length := by
  rcases Nat.lt_or_ge i W.length with h1 | h1
  · exact h1
  · obtain ⟨u, h2, h3⟩ := hr
    obtain ⟨k, w, h4, h5⟩ := h.all h1 u h2
    have := (List.getElem?_eq_some_iff.1 h4).1
    exact absurd (h5 ▸ h3) (h.bad k w h4 (.inl (by omega)))
end
end Go.Sx

namespace Go.Sx
open Go Go.Proofs
set_option maxRecDepth 10000
set_option maxHeartbeats 1000000
/-- States in range. -/
def InS (m : Mac) (s : S2) : Prop := m.room ≤ s.1 ∧ s.1 ≤ m.top ∧ 0 ≤ s.2 ∧ s.2 ≤ m.hold
theorem InS.nx {m : Mac} (hm : m.ok) {s : S2} (h : InS m s) (v : Int) : InS m (nx m s v) := by
  have h1 := tickF_bd hm (v := v) ⟨h.1, h.2.1⟩
  obtain ⟨_, _, h3, h4⟩ := h
  refine ⟨h1.1, h1.2, ?_, ?_⟩ <;> (simp only [Go.Sx.nx]; split <;> omega)
theorem InS.run {m : Mac} (hm : m.ok) : ∀ (w : List Int) {s : S2}, InS m s → InS m (runS m s w)
  | [], _, h => h
  | v :: w, s, h => by
    show InS m (runS m (Go.Sx.nx m s v) w)
    exact InS.run hm w (h.nx hm v)
theorem runS_app (m : Mac) (s : S2) (u w : List Int) : runS m s (u ++ w) = runS m (runS m s u) w := by simp [runS]
theorem OKW.app {u w : List Int} (h : OKW u) (h' : OKW w) : OKW (u ++ w) := fun v hv => (List.mem_append.1 hv).elim (h v) (h' v)
/-- Steam, until it was hot enough once more. -/
theorem reach_up {m : Mac} (hm : m.ok) : ∀ (n : Nat) (s : S2), InS m s → (m.melt - s.1).toNat ≤ n → ∃ u, OKW u ∧ (runS m s u).2 = min m.hold (s.2 + 1)
  | n, s, h, hn => by
    obtain ⟨m1, m2, m3, m4, m5, m6, m7, m8, m9, m10, m11, m12, m13, m14, m15⟩ := hm
    obtain ⟨h1, h2, h3, h4⟩ := h
    have ht : tickF m s.1 1 = if s.1 + m.heat < m.top then s.1 + m.heat else m.top := by simp [tickF]
    by_cases hh : m.melt ≤ tickF m s.1 1
    · refine ⟨[1], fun v hv => by simp at hv; omega, ?_⟩
      simp only [runS, List.foldl, nx, if_pos hh]
    · cases n with
      | zero => rw [ht] at hh; split at hh <;> omega
      | succ n =>
        have hs : (nx m s 1) = (tickF m s.1 1, s.2) := by simp only [nx, if_neg hh]
        have hm' : m.ok := ⟨m1, m2, m3, m4, m5, m6, m7, m8, m9, m10, m11, m12, m13, m14, m15⟩
        have hin := InS.nx hm' ⟨h1, h2, h3, h4⟩ 1
        obtain ⟨u, g1, g2⟩ := reach_up hm' n (nx m s 1) hin (by rw [hs]; simp only; rw [ht] at hh ⊢; split at hh <;> split <;> omega)
        refine ⟨1 :: u, fun v hv => ?_, ?_⟩
        · rcases List.mem_cons.1 hv with rfl | hv
          · omega
          · exact g1 v hv
        · show (runS m (nx m s 1) u).2 = _
          rw [g2, hs]
theorem reach_hold {m : Mac} (hm : m.ok) : ∀ (n : Nat) (s : S2), InS m s → (m.hold - s.2).toNat ≤ n → ∃ u, OKW u ∧ (runS m s u).2 = m.hold
  | n, s, h, hn => by
    by_cases hh : s.2 = m.hold
    · exact ⟨[], OKW.nil, hh⟩
    · have h3 := h.2.2
      cases n with
      | zero => omega
      | succ n =>
        obtain ⟨u, g1, g2⟩ := reach_up hm _ s h (Nat.le_refl _)
        obtain ⟨w, g3, g4⟩ := reach_hold hm n (runS m s u) (h.run hm u) (by rw [g2]; omega)
        exact ⟨u ++ w, g1.app g3, by rw [runS_app]; exact g4⟩
theorem reach_cool {m : Mac} (hm : m.ok) : ∀ (n : Nat) (s : S2), InS m s → s.2 = m.hold → (s.1 - m.cool).toNat ≤ n → ∃ u, OKW u ∧ goodS m (runS m s u)
  | n, s, h, hh, hn => by
    by_cases hc : s.1 ≤ m.cool
    · exact ⟨[], OKW.nil, hh, hc⟩
    · have hm' := hm
      obtain ⟨m1, m2, m3, m4, m5, m6, m7, m8, m9, m10, m11, m12, m13, m14, m15⟩ := hm'
      cases n with
      | zero => omega
      | succ n =>
        have ht : tickF m s.1 2 = if m.room < s.1 - m.chill then s.1 - m.chill else m.room := by simp [tickF]
        have h2 : (nx m s 2).2 = m.hold := by simp only [nx]; split <;> omega
        obtain ⟨u, g1, g2⟩ := reach_cool hm n (nx m s 2) (h.nx hm 2) h2 (by simp only [nx]; rw [ht]; split <;> omega)
        refine ⟨2 :: u, fun v hv => ?_, g2⟩
        rcases List.mem_cons.1 hv with rfl | hv
        · omega
        · exact g1 v hv
theorem reach {m : Mac} (hm : m.ok) {s : S2} (h : InS m s) : ∃ u, OKW u ∧ goodS m (runS m s u) := by
  obtain ⟨u, g1, g2⟩ := reach_hold hm _ s h (Nat.le_refl _)
  obtain ⟨w, g3, g4⟩ := reach_cool hm _ (runS m s u) (h.run hm u) g2 (Nat.le_refl _)
  exact ⟨u ++ w, g1.app g3, by rw [runS_app]; exact g4⟩
/-- Different numbers below n are at most n. -/
theorem nodup_le : ∀ (n : Nat) (l : List Nat), l.Nodup → (∀ x ∈ l, x < n) → l.length ≤ n
  | 0, l, _, h => by
    cases l with
    | nil => simp
    | cons x l => exact absurd (h x (.head _)) (by omega)
  | n + 1, l, hd, h => by
    have h1 := nodup_le n (l.erase n) (hd.erase n) (fun x hx => by
      have h2 := h x (List.mem_of_mem_erase hx)
      have h3 : x ≠ n := fun e => by rw [e] at hx; exact (List.Nodup.not_mem_erase hd) hx
      omega)
    have h2 : l.length ≤ (l.erase n).length + 1 := by rw [List.length_erase]; split <;> omega
    omega
theorem Bfs.len {m : Mac} (hm : m.ok) {b : S2} (hb : InS m b) {W : List (List Int)} {i : Nat} {v : Int} (h : Bfs m b W i v) : W.length ≤ 26065 := by
  have hm' := hm
  obtain ⟨m1, m2, m3, m4, m5, m6, m7, m8, m9, m10, m11, m12, m13, m14, m15⟩ := hm'
  have := nodup_le 26065 (W.map fun w => (runS m b w).1.toNat * 65 + (runS m b w).2.toNat) ?_ ?_
  · simpa using this
  · rw [List.nodup_iff_pairwise_ne] 
    rw [List.pairwise_map, List.pairwise_iff_getElem]
    intro k k' hk hk' hkk he
    have r1 := InS.run hm W[k] hb
    have r2 := InS.run hm W[k'] hb
    obtain ⟨a1, a2, a3, a4⟩ := r1
    obtain ⟨b1, b2, b3, b4⟩ := r2
    have := h.inj k k' _ _ (List.getElem?_eq_getElem hk) (List.getElem?_eq_getElem hk') (Prod.ext (by omega) (by omega))
    omega
  · intro x hx
    obtain ⟨w, _, rfl⟩ := List.mem_map.1 hx
    obtain ⟨a1, a2, a3, a4⟩ := InS.run hm w hb
    omega
end Go.Sx

namespace Go.Sx
open Go Go.Proofs
set_option maxRecDepth 10000
set_option maxHeartbeats 4000000
/-- A list turned around as far as i. -/
structure RevAt (xs Y : List Int) (i : Nat) : Prop where
  len : Y.length = xs.length
  at' : ∀ k, k < xs.length → Y.getD k 0 = if k < i ∨ xs.length ≤ k + i then xs.getD (xs.length - 1 - k) 0 else xs.getD k 0
theorem RevAt.done {xs Y : List Int} {i : Nat} (h : RevAt xs Y i) (hi : xs.length ≤ 2 * i + 1) : Y = xs.reverse := by
  apply List.ext_getElem (by simp [h.len])
  intro k h1 h2
  have hk : k < xs.length := by rw [← h.len]; exact h1
  have := h.at' k hk
  rw [List.getD_eq_getElem?_getD, List.getElem?_eq_getElem h1, Option.getD_some] at this
  rw [this, List.getElem_reverse]
  split
  · rw [List.getD_eq_getElem?_getD, List.getElem?_eq_getElem (by omega), Option.getD_some]
  · have e : xs.length - 1 - k = k := by omega
    rw [List.getD_eq_getElem?_getD, List.getElem?_eq_getElem hk, Option.getD_some]
    simp only [e]
theorem RevAt.step {xs Y : List Int} {i : Nat} (h : RevAt xs Y i) (hi : 2 * i + 1 < xs.length) : RevAt xs ((Y.set i (Y.getD (xs.length - 1 - i) 0)).set (xs.length - 1 - i) (Y.getD i 0)) (i + 1) := by
  have h1 := h.at' i (by omega)
  have h2 := h.at' (xs.length - 1 - i) (by omega)
  rw [if_neg (by omega)] at h1
  rw [if_neg (by omega)] at h2
  refine ⟨by simp [h.len], fun k hk => ?_⟩
  rw [getD_set _ _ _ _ (by rw [List.length_set, h.len]; omega), getD_set _ _ _ _ (by rw [h.len]; omega), h1, h2]
  have h3 := h.at' k hk
  by_cases c1 : xs.length - 1 - i = k
  · rw [if_pos c1, if_pos (by omega)]; congr 1; omega
  · rw [if_neg c1]
    by_cases c2 : i = k
    · rw [if_pos c2, if_pos (by omega)]; subst c2; rfl
    · rw [if_neg c2, h3]
      by_cases c3 : k < i ∨ xs.length ≤ k + i
      · rw [if_pos c3, if_pos (by omega)]
      · rw [if_neg c3, if_neg (by omega)]
theorem updRow_ln (a : Arr) (i f : Nat) (cs : List Cell) : (updRow a i f cs).length = a.length := by unfold updRow; exact List.length_set
theorem s64 (xs : List Int) (hl : xs.length ≤ 1000000) : HSpec Try.prog 17 [.one (.own 0)] [.row 3 false [.int .i64] (i64s xs)] (fun r m' => r = .tup [] ∧ m' = [some (.row 3 false [.int .i64] (i64s xs.reverse))]) := by
  have lx := i64s_len xs
  refine spec_of pMix (O := [(3, ([], [⟨0, [], []⟩, ⟨1, [], []⟩, ⟨2, [], []⟩, ⟨3, [], []⟩, ⟨4, [], []⟩, ⟨5, [], []⟩, ⟨6, [], []⟩, ⟨7, [], []⟩, ⟨8, [], []⟩, ⟨9, [], []⟩, ⟨10, [], []⟩, ⟨11, [], []⟩, ⟨12, [], []⟩, ⟨13, [2, 3], []⟩, ⟨14, [], []⟩, ⟨15, [], []⟩]))]) Try.func17 (c := bodyOf Try.f17) rfl (by kernel_rfl) (by kernel_rfl) Try.ntmps17 (res := []) (by kernel_rfl) ?_
  repeat' ((conv => whnf); first | refine Rng.g ?_ | refine Ob.g ?_ | refine Ob.e ?_ | refine Ob.m ?_ | refine Ob.mk (Nat.le_of_ble_eq_true rfl) ?_ | refine JoinVC.on ?_ | refine Nils.mk (fun h => ?_) ?_ | refine Val.t ?_ | refine Val.d ?_ | refine Mm.mk ?_ | (refine Br.mk (fun h => ?_) (fun h => ?_) <;> first | (exfalso; omega; done) | (exfalso; simp at h; done) | skip))
  refine LoopVC.mk (fun n st => ∃ (i : Nat) (Y : List Int), RevAt xs Y i ∧ i ≤ xs.length ∧ n = xs.length - i ∧ st = ⟨1, envA 28 [(0, .x (.one (.own 0))), (2, .int .i64 (i : Int)), (3, .int .i64 ((xs.length : Int) - 1 - i))], [some (.row 3 false [.int .i64] (i64s Y))]⟩) _ _ ⟨0, xs, ⟨rfl, fun k hk => by rw [if_neg (by omega)]⟩, Nat.zero_le _, rfl, rfl⟩ ?_ ?_
  · refine ⟨[some 0], rfl, rfl, ?_, ?_⟩ <;> repeat' (first | exact trivial | exact rfl | exact Iff.rfl | apply And.intro)
    rw [lx]; simp
  rintro n _ ⟨i, Y, hR, hi, hn, rfl⟩
  have lY : (i64s Y).length = xs.length := by rw [i64s_len, hR.len]
  have gi : rI (i64s Y) (i : Int).toNat 0 = Y.getD i 0 := by rw [Int.toNat_natCast, i64s_get]
  by_cases hc : 2 * i + 1 < xs.length
  · have ej : ((xs.length : Int) - 1 - i).toNat = xs.length - 1 - i := by omega
    have gj : rI (i64s Y) ((xs.length : Int) - 1 - i).toNat 0 = Y.getD (xs.length - 1 - i) 0 := by rw [ej, i64s_get]
    have lu : (updRow (i64s Y) (i : Int).toNat 0 [Cell.int (rI (i64s Y) ((xs.length : Int) - 1 - i).toNat 0)]).length = xs.length := by rw [updRow_ln, lY]
    repeat' ((conv => whnf); first | refine Rng.g ?_ | refine Ob.g ?_ | refine Ob.e ?_ | refine Ob.m ?_ | refine Ob.mk (Nat.le_of_ble_eq_true rfl) ?_ | refine JoinVC.on ?_ | refine Nils.mk (fun h => ?_) ?_ | refine Val.t ?_ | refine Val.d ?_ | refine Mm.mk ?_ | (refine Br.mk (fun h => ?_) (fun h => ?_) <;> first | (exfalso; omega; done) | (exfalso; simp at h; done) | skip))
    have e : updRow (updRow (i64s Y) (i : Int).toNat 0 [Cell.int (rI (i64s Y) ((xs.length : Int) - 1 - i).toNat 0)]) ((xs.length : Int) - 1 - i).toNat 0 [Cell.int (rI (i64s Y) (i : Int).toNat 0)] = i64s ((Y.set i (Y.getD (xs.length - 1 - i) 0)).set (xs.length - 1 - i) (Y.getD i 0)) := by
      rw [gj, gi, ej, Int.toNat_natCast, i64s_set _ _ _ (by rw [hR.len]; omega), i64s_set _ _ _ (by rw [List.length_set, hR.len]; omega)]
    rw [e]
    refine Back.mk (xs.length - (i + 1)) _ (by omega) ⟨i + 1, _, hR.step hc, by omega, rfl, rfl⟩ ?_
    refine ⟨[some 0], rfl, rfl, ?_, ?_⟩ <;> repeat' (first | exact trivial | exact rfl | exact Iff.rfl | apply And.intro)
    omega
  · repeat' ((conv => whnf); first | refine Rng.g ?_ | refine Ob.g ?_ | refine Ob.e ?_ | refine Ob.m ?_ | refine Ob.mk (Nat.le_of_ble_eq_true rfl) ?_ | refine JoinVC.on ?_ | refine Nils.mk (fun h => ?_) ?_ | refine Val.t ?_ | refine Val.d ?_ | refine Mm.mk ?_ | (refine Br.mk (fun h => ?_) (fun h => ?_) <;> first | (exfalso; omega; done) | (exfalso; simp at h; done) | skip))
    repeat refine Mm.mk ?_
    refine EndVC.mk _ rfl _ _ ⟨rfl, rfl⟩ ?_
    refine ⟨[some 0], rfl, rfl, ?_, ?_⟩ <;> repeat' (first | exact trivial | exact rfl | exact Iff.rfl | apply And.intro)
    rw [hR.done (by omega)]
end Go.Sx

namespace Go.Sx
open Go Go.Proofs
set_option maxRecDepth 10000
set_option maxHeartbeats 4000000
@[reducible] def K2 : List CK := [.int .i64, .int .i64]
/-- A state as a row. -/
@[reducible] def cS (s : S2) : List Cell := [.int s.1, .int s.2]
def qA (m : Mac) (b : S2) (W : List (List Int)) : Arr := W.map fun w => cS (runS m b w)
theorem qA_len (m : Mac) (b : S2) (W : List (List Int)) : (qA m b W).length = W.length := by simp [qA]
theorem qA_get {m : Mac} {b : S2} {W : List (List Int)} {k : Nat} {w : List Int} (h : W[k]? = some w) : rI (qA m b W) k 0 = (runS m b w).1 ∧ rI (qA m b W) k 1 = (runS m b w).2 := by
  have : (qA m b W).getD k [] = cS (runS m b w) := by simp [qA, List.getD_eq_getElem?_getD, h]
  simp only [rI, cellAt, this]
  exact ⟨rfl, rfl⟩
theorem keyEq2 (c : List Cell) (a b : Int) : keyEq K2 c [.int a, .int b] = match c with | x :: y :: _ => decide (x.toInt = a) && decide (y.toInt = b) | _ => false := by
  match c with
  | [] => rfl
  | [x] => simp [keyEq]
  | x :: y :: c => simp [keyEq, cellEq]; rfl
theorem mfind_mput2 (a1 a2 b1 b2 : Int) (v : List Cell) : ∀ (l : MapL), mfind K2 (mput K2 l [.int a1, .int a2] v) [.int b1, .int b2] = if a1 = b1 ∧ a2 = b2 then some v else mfind K2 l [.int b1, .int b2]
  | [] => by
    simp only [mput, mfind, keyEq2]
    by_cases h : a1 = b1 <;> by_cases h' : a2 = b2 <;> simp [h, h', Cell.toInt]
  | p :: l => by
    have ih := mfind_mput2 a1 a2 b1 b2 v l
    simp only [mput]
    cases h1 : keyEq K2 p.1 [.int a1, .int a2] with
    | true =>
      simp only [mfind]
      by_cases h : a1 = b1 ∧ a2 = b2
      · obtain ⟨rfl, rfl⟩ := h
        simp [keyEq2, Cell.toInt]
      · have h2 : keyEq K2 p.1 [.int b1, .int b2] = false := by
          rw [keyEq2] at h1 ⊢
          split at h1
          · rename_i x y c hp
            simp only [Bool.and_eq_true, decide_eq_true_eq] at h1
            simp only [Bool.and_eq_false_iff, decide_eq_false_iff_not]
            by_cases h3 : a1 = b1
            · exact .inr (fun h4 => h ⟨h3, by omega⟩)
            · exact .inl (by omega)
          · cases h1
        rw [h2, if_neg h]
        have : keyEq K2 [.int a1, .int a2] [.int b1, .int b2] = false := by
          rw [keyEq2]
          have h3 : (decide (a1 = b1) && decide (a2 = b2)) = false := by
            cases hd : (decide (a1 = b1) && decide (a2 = b2)) with
            | false => rfl
            | true => simp only [Bool.and_eq_true, decide_eq_true_eq] at hd; exact absurd hd h
          exact h3
        simp [this]
    | false =>
      simp only [mfind]
      cases h2 : keyEq K2 p.1 [.int b1, .int b2] with
      | true =>
        have : ¬ (a1 = b1 ∧ a2 = b2) := fun ⟨h, h'⟩ => by rw [h, h', h2] at h1; cases h1
        rw [if_neg this]
      | false => simpa using ih
/-- What the map tells of a state: where it was reached from, and by which valve. -/
def rowW (m : Mac) (b : S2) (w : List Int) : List Cell := if w = [] then [.int 0, .int 0, .int (-1)] else [.int (runS m b w.dropLast).1, .int (runS m b w.dropLast).2, .int (w.getLastD 0)]
theorem rowW_snoc (m : Mac) (b : S2) (w : List Int) (v : Int) : rowW m b (w ++ [v]) = [.int (runS m b w).1, .int (runS m b w).2, .int v] := by
  unfold rowW
  rw [if_neg (by simp), List.dropLast_concat]
  simp
structure MapIs (m : Mac) (b : S2) (W : List (List Int)) (l : MapL) : Prop where
  has : ∀ (k : Nat) (w : List Int), W[k]? = some w → mfind K2 l (cS (runS m b w)) = some (rowW m b w)
  not : ∀ t h : Int, (∀ (k : Nat) (w : List Int), W[k]? = some w → runS m b w ≠ (t, h)) → mfind K2 l [.int t, .int h] = none
theorem MapIs.start (m : Mac) (b : S2) : MapIs m b [[]] [([.int b.1, .int b.2], [.int 0, .int 0, .int (-1)])] := by
  refine ⟨fun k w h => ?_, fun t h hn => ?_⟩
  · cases k with
    | zero => simp at h; subst h; simp [mfind, keyEq2, runS, rowW, Cell.toInt]
    | succ k => simp at h
  · have := hn 0 [] rfl
    have h2 : keyEq K2 [.int b.1, .int b.2] [.int t, .int h] = false := by
      rw [keyEq2]
      have h3 : (decide (b.1 = t) && decide (b.2 = h)) = false := by
        cases hd : (decide (b.1 = t) && decide (b.2 = h)) with
        | false => rfl
        | true => simp only [Bool.and_eq_true, decide_eq_true_eq] at hd; exact absurd (Prod.ext hd.1 hd.2) this
      exact h3
    simp only [mfind, h2]
theorem MapIs.add {m : Mac} {b : S2} {W : List (List Int)} {l : MapL} (h : MapIs m b W l) {w : List Int} {v : Int} (hn : ∀ (k : Nat) (w' : List Int), W[k]? = some w' → runS m b w' ≠ runS m b (w ++ [v])) :
    MapIs m b (W ++ [w ++ [v]]) (mput K2 l (cS (runS m b (w ++ [v]))) [.int (runS m b w).1, .int (runS m b w).2, .int v]) := by
  refine ⟨fun k u hk => ?_, fun t h' hno => ?_⟩
  · rw [mfind_mput2]
    rw [List.getElem?_append] at hk
    split at hk
    · have := hn k u hk
      rw [if_neg (fun ⟨h1, h2⟩ => this (Prod.ext h1.symm h2.symm))]
      exact h.has k u hk
    · rw [List.getElem?_singleton] at hk
      split at hk
      · cases hk
        rw [if_pos ⟨rfl, rfl⟩, rowW_snoc]
      · cases hk
  · rw [mfind_mput2]
    have h1 := hno W.length (w ++ [v]) (by simp)
    rw [if_neg (fun ⟨h2, h3⟩ => h1 (Prod.ext h2 h3))]
    exact h.not t h' fun k u hk => hno k u (by rw [List.getElem?_append_left (List.getElem?_eq_some_iff.1 hk).1]; exact hk)
end Go.Sx

namespace Go.Sx
open Go Go.Proofs
set_option maxRecDepth 10000
set_option maxHeartbeats 8000000
theorem eb3 : Try.t3.bytes = 8 := by kernel_rfl
theorem eb112 : Try.t45.bytes = 16 := by kernel_rfl
@[reducible] def mpF (l : MapL) : Blk := .mp true true K2 [.int .i64, .int .i64, .int .i64] l none
@[reducible] def bSt (s : S2) : Blk := .box 45 [.int .i64 s.1, .int .i64 s.2]
theorem prefix_in {m : Mac} {b : S2} {W : List (List Int)} {i : Nat} {v : Int} (h : Bfs m b W i v) {u : List Int} {a : Int} {k : Nat} (hk : W[k]? = some (u ++ [a])) : ∃ j : Nat, W[j]? = some u := by
  obtain ⟨j, w0, v0, _, _, _, h3, h4⟩ := h.par k _ hk (fun h0 => by subst h0; rw [h.b0] at hk; have := Option.some.inj hk; simp at this)
  have := List.append_inj' h4 rfl
  exact ⟨j, by rw [h3, this.1]⟩
theorem Bfs.wlen {m : Mac} {b : S2} {W : List (List Int)} {i : Nat} {v : Int} (h : Bfs m b W i v) : ∀ (k : Nat) (w : List Int), W[k]? = some w → w.length ≤ k := by
  intro k
  induction k using Nat.strongRecOn with
  | ind k ih =>
    intro w hk
    by_cases h0 : k = 0
    · subst h0; rw [h.b0] at hk; cases hk; simp
    · obtain ⟨j, w0, v0, _, _, _, h3, rfl⟩ := h.par k w hk h0
      have hj : j < k := by
        rcases Nat.lt_trichotomy j k with h4 | rfl | h4
        · exact h4
        · rw [hk] at h3; have := congrArg List.length (Option.some.inj h3); simp at this
        · have := h.sorted k j _ _ h4 hk h3
          exact absurd (slt_trans this (slt_self _ _)) (slt_irr _)
      have := ih j hj w0 h3
      simp; omega
/-- The fastest way. -/
theorem s28 (m : Mac) (T : Int) (hm : m.ok) (hT : m.room ≤ T ∧ T ≤ m.top) : HSpec Try.prog 6 [m.x, I T] [] (fun r m' => ∃ w, Best m (T, 0) w ∧ w.length ≤ 26065 ∧ r = .tup [.one (.own 0), I 0] ∧ m' = [some (.row 3 false [.int .i64] (i64s w))]) := by
  have hc := Mac.chk0 hm
  have hm' := hm
  obtain ⟨m1, m2, m3, m4, m5, m6, m7, m8, m9, m10, m11, m12, m13, m14, m15⟩ := hm'
  have hb : InS m (T, 0) := ⟨hT.1, hT.2, Int.le_refl _, by simp only; omega⟩
  have hr := reach hm hb
  refine spec_of pMix (O := [(22, ([8], [⟨0, [], []⟩, ⟨1, [], []⟩, ⟨2, [], []⟩, ⟨3, [], []⟩, ⟨5, [], []⟩, ⟨6, [], []⟩, ⟨4, [5, 6], []⟩, ⟨7, [], []⟩, ⟨8, [], []⟩, ⟨9, [], []⟩]))]) Try.func6 (c := bodyOf Try.f6) rfl (by kernel_rfl) (by kernel_rfl) Try.ntmps6 (res := [.tmp 4, .tmp 5]) (by kernel_rfl) ?_
  repeat' ((conv => whnf); first | refine Rng.g ?_ | refine Ob.g ?_ | refine Ob.e ?_ | refine Ob.m ?_ | refine Ob.mk (Nat.le_of_ble_eq_true rfl) ?_ | refine JoinVC.on ?_ | refine Nils.mk (fun h => ?_) ?_ | refine Val.t ?_ | refine Val.d ?_ | refine Mm.mk ?_ | refine CallVC.pure rfl (s20 m) ?_ | refine CallVC.pure rfl (s56 _ _ _) ?_ | refine CallVC0.pure rfl (s20 m) ?_ | refine CallVC0.pure rfl (s56 _ _ _) ?_ | (refine Br.mk (fun h => ?_) (fun h => ?_) <;> first | (exfalso; omega; done) | (exfalso; simp at h; done) | skip))
  refine LoopVC.mk (fun n st => ∃ (i : Nat) (W : List (List Int)) (l : MapL), Bfs m (T, 0) W i 0 ∧ MapIs m (T, 0) W l ∧ n = 26065 - i ∧ st = ⟨0, envA 112 [(2, .x (.one (.ptr 0 0))), (7, .x (.one (.ptr 1 0))), (8, .x (.one (.map 2))), (9, .x (.one (.own 3))), (10, .int .i64 (i : Int))], [some (.box 23 [.int .i64 m.room, .int .i64 m.melt, .int .i64 m.cool, .int .i64 m.top, .int .i64 m.heat, .int .i64 m.chill, .int .i64 m.drift, .int .i64 m.hold, .int .i64 m.life]), some (bSt (T, 0)), some (mpF l), some (.row 45 false K2 (qA m (T, 0) W))]⟩) _ _ ⟨0, _, _, Bfs.start m (T, 0), MapIs.start m (T, 0), rfl, rfl⟩ ?_ ?_
  · refine ⟨[some 0, some 1, some 2, some 3], rfl, rfl, ?_, ?_⟩ <;> repeat' (first | exact trivial | exact rfl | exact Iff.rfl | apply And.intro)
  rintro n _ ⟨i, W, l, hB, hM, hn, rfl⟩
  have hi := hB.more hr
  have hW := hB.len hm hb
  obtain ⟨wi, hwi⟩ : ∃ w, W[i]? = some w := ⟨_, List.getElem?_eq_getElem hi⟩
  have lq := qA_len m (T, 0) W
  obtain ⟨g0, g1⟩ := qA_get (m := m) (b := (T, 0)) hwi
  have g0' : rI (qA m (T, 0) W) (i : Int).toNat 0 = (runS m (T, 0) wi).1 := g0
  have g1' : rI (qA m (T, 0) W) (i : Int).toNat (0 + 1) = (runS m (T, 0) wi).2 := g1
  have hS := InS.run hm wi hb
  obtain ⟨s1, s2, s3, s4⟩ := hS
  by_cases hg : goodS m (runS m (T, 0) wi)
  · have hg' := hg
    obtain ⟨q1, q2⟩ := hg'
    repeat' ((conv => whnf); first | refine Rng.g ?_ | refine Ob.g ?_ | refine Ob.e ?_ | refine Ob.m ?_ | refine Ob.mk (Nat.le_of_ble_eq_true rfl) ?_ | refine JoinVC.on ?_ | refine Nils.mk (fun h => ?_) ?_ | refine Val.t ?_ | refine Val.d ?_ | refine Mm.mk ?_ | (refine Br.mk (fun h => ?_) (fun h => ?_) <;> first | (exfalso; omega; done) | (exfalso; simp at h; done) | skip))
    have hBest := hB.best hwi hg
    have hwl : wi.length ≤ i := hB.wlen i wi hwi
    refine LoopVC.mk (fun n st => ∃ (u rest : List Int) (k : Nat), wi = u ++ rest ∧ W[k]? = some u ∧ n = u.length ∧ st = ⟨0, envA 112 [(7, .x (.one (.ptr 1 0))), (8, .x (.one (.map 2))), (11, .x (.one (.ptr 4 0))), (12, .x (.one (.own 5)))], [some (.box 23 [.int .i64 m.room, .int .i64 m.melt, .int .i64 m.cool, .int .i64 m.top, .int .i64 m.heat, .int .i64 m.chill, .int .i64 m.drift, .int .i64 m.hold, .int .i64 m.life]), some (bSt (T, 0)), some (mpF l), none, some (bSt (runS m (T, 0) u)), some (.row 3 false [.int .i64] (i64s rest.reverse))]⟩) _ _ ⟨wi, [], i, by simp, hwi, rfl, rfl⟩ ?_ ?_
    · refine ⟨[some 0, some 1, some 2, none, some 4, none], rfl, rfl, ?_, ?_⟩ <;> repeat' (first | exact trivial | exact rfl | exact Iff.rfl | apply And.intro)
      · exact g0'
      · exact g1'
    rintro n2 _ ⟨u, rest, k, hu, hk, hn2, rfl⟩
    have hlen : wi.length = u.length + rest.length := by rw [hu]; simp
    have lr : (i64s rest.reverse).length = rest.length := by rw [i64s_len]; simp
    by_cases hu0 : u = []
    · subst hu0
      have hrest : rest = wi := by rw [hu]; rfl
      subst hrest
      have e1 : (runS m (T, 0) []).1 = T := rfl
      have e2 : (runS m (T, 0) []).2 = 0 := rfl
      repeat' ((conv => whnf); first | refine Rng.g ?_ | refine Ob.g ?_ | refine Ob.e ?_ | refine Ob.m ?_ | refine Ob.mk (Nat.le_of_ble_eq_true rfl) ?_ | refine JoinVC.on ?_ | refine Nils.mk (fun h => ?_) ?_ | refine Val.t ?_ | refine Val.d ?_ | refine Mm.mk ?_ | (refine Br.mk (fun h => ?_) (fun h => ?_) <;> first | (exfalso; omega; done) | (exfalso; simp at h; done) | (exfalso; simp [e1, e2] at h; done) | skip))
      conv => whnf
      refine CallVC.mk [5] _ _ _ rfl rfl rfl (s64 rest.reverse (by rw [List.length_reverse]; omega)) (fun r m' h' => ?_)
      obtain ⟨rfl, rfl⟩ := h'
      conv => whnf
      repeat' ((conv => whnf); first | refine Rng.g ?_ | refine Ob.g ?_ | refine Ob.e ?_ | refine Ob.m ?_ | refine Ob.mk (Nat.le_of_ble_eq_true rfl) ?_ | refine JoinVC.on ?_ | refine Nils.mk (fun h => ?_) ?_ | refine Val.t ?_ | refine Val.d ?_ | refine Mm.mk ?_ | (refine Br.mk (fun h => ?_) (fun h => ?_) <;> first | (exfalso; omega; done) | (exfalso; simp at h; done) | skip))
      repeat refine Mm.mk ?_
      conv => whnf
      refine EndVC.mk _ rfl _ _ (⟨rest, hBest, by omega, rfl, rfl⟩) ?_
      refine ⟨[some 5], rfl, rfl, ?_, ?_⟩ <;> repeat' (first | exact trivial | exact rfl | exact Iff.rfl | apply And.intro)
      rw [List.reverse_reverse]
    · obtain ⟨u', a, rfl⟩ : ∃ u' a, u = u' ++ [a] := ⟨u.dropLast, u.getLast hu0, (List.dropLast_concat_getLast hu0).symm⟩
      have hne : ¬ ((runS m (T, 0) (u' ++ [a])).1 = T ∧ (runS m (T, 0) (u' ++ [a])).2 = 0) := fun ⟨e1, e2⟩ => by
        have := hB.inj k 0 _ [] hk hB.b0 (Prod.ext e1 e2)
        subst this
        rw [hB.b0] at hk
        have := Option.some.inj hk
        simp at this
      have hrow : mrow ([CK.int .i64] ++ ([CK.int .i64] ++ [])) (zeroRow ([CK.int .i64] ++ ([CK.int .i64] ++ []) ++ ([CK.int .i64] ++ []))) l [.int (runS m (T, 0) (u' ++ [a])).1, .int (runS m (T, 0) (u' ++ [a])).2] = [.int (runS m (T, 0) u').1, .int (runS m (T, 0) u').2, .int a] := by
        have h9 := hM.has k _ hk
        rw [rowW_snoc] at h9
        have h8 : mrow K2 (zeroRow [.int .i64, .int .i64, .int .i64]) l [.int (runS m (T, 0) (u' ++ [a])).1, .int (runS m (T, 0) (u' ++ [a])).2] = [.int (runS m (T, 0) u').1, .int (runS m (T, 0) u').2, .int a] := by
          unfold mrow
          rw [h9]; rfl
        exact h8
      obtain ⟨j, hj⟩ := prefix_in hB hk
      repeat' ((conv => whnf); first | rw [hrow] | refine Rng.g ?_ | refine Ob.g ?_ | refine Ob.e ?_ | refine Ob.m ?_ | refine Ob.mk (Nat.le_of_ble_eq_true rfl) ?_ | refine JoinVC.on ?_ | refine Nils.mk (fun h => ?_) ?_ | refine Val.t ?_ | refine Val.d ?_ | refine Mm.mk ?_ | (refine Br.mk (fun h => ?_) (fun h => ?_) <;> first | (exfalso; omega; done) | (exfalso; simp at h; done) | (exfalso; simp [hne] at h; done) | skip))
      repeat refine Mm.mk ?_
      refine Ob.mk (by simp only [lr, eb3, List.length_cons, List.length_nil]; omega) ?_
      repeat' ((conv => whnf); first | rw [hrow] | refine Rng.g ?_ | refine Ob.g ?_ | refine Ob.e ?_ | refine Ob.m ?_ | refine Ob.mk (Nat.le_of_ble_eq_true rfl) ?_ | refine JoinVC.on ?_ | refine Nils.mk (fun h => ?_) ?_ | refine Val.t ?_ | refine Val.d ?_ | refine Mm.mk ?_ | (refine Br.mk (fun h => ?_) (fun h => ?_) <;> first | (exfalso; omega; done) | (exfalso; simp at h; done) | (exfalso; simp [hne] at h; done) | skip))
      refine Back.mk (u'.length) _ (by rw [hn2, List.length_append]; exact Nat.lt_succ_self _) ⟨u', a :: rest, j, by rw [hu]; simp, hj, rfl, rfl⟩ ?_
      refine ⟨[some 0, some 1, some 2, none, some 4, some 7], rfl, rfl, ?_, ?_⟩ <;> repeat' (first | exact trivial | exact rfl | exact Iff.rfl | apply And.intro)
      rw [List.reverse_cons, i64s_snoc]; rfl
  · have hng : ¬ ((runS m (T, 0) wi).2 = m.hold ∧ (runS m (T, 0) wi).1 ≤ m.cool) := hg
    obtain ⟨s, hs⟩ : ∃ s, s = runS m (T, 0) wi := ⟨_, rfl⟩
    repeat' ((conv => whnf); first | refine Rng.g ?_ | refine Ob.g ?_ | refine Ob.e ?_ | refine Ob.m ?_ | refine Ob.mk (Nat.le_of_ble_eq_true rfl) ?_ | refine JoinVC.on ?_ | refine Nils.mk (fun h => ?_) ?_ | refine Val.t ?_ | refine Val.d ?_ | refine Mm.mk ?_ | (refine Br.mk (fun h => ?_) (fun h => ?_) <;> first | (exfalso; omega; done) | (exfalso; simp at h; done) | skip))
    all_goals
      refine LoopVC.mk (fun n st => ∃ (W' : List (List Int)) (l' : MapL) (v : Int), Bfs m (T, 0) W' i v ∧ MapIs m (T, 0) W' l' ∧ W'[i]? = some wi ∧ 0 ≤ v ∧ v ≤ 3 ∧ n = (3 - v).toNat ∧ st = ⟨0, envA 112 [(2, .x (.one (.ptr 0 0))), (7, .x (.one (.ptr 1 0))), (8, .x (.one (.map 2))), (9, .x (.one (.own 3))), (10, .int .i64 (i : Int)), (11, .x (.one (.ptr 4 0))), (71, .int .i64 v)], [some (.box 23 [.int .i64 m.room, .int .i64 m.melt, .int .i64 m.cool, .int .i64 m.top, .int .i64 m.heat, .int .i64 m.chill, .int .i64 m.drift, .int .i64 m.hold, .int .i64 m.life]), some (bSt (T, 0)), some (mpF l'), some (.row 45 false K2 (qA m (T, 0) W')), some (bSt (runS m (T, 0) wi))]⟩) _ _ ⟨W, l, 0, hB, hM, hwi, by decide, by decide, rfl, rfl⟩ ?_ ?_
      · refine ⟨[some 0, some 1, some 2, some 3, some 4], rfl, rfl, ?_, ?_⟩ <;> repeat' (first | exact trivial | exact rfl | exact Iff.rfl | apply And.intro)
        · exact g0'
        · exact g1'
      rintro n2 _ ⟨W', l', v, hB', hM', hwi', hv0, hv3, hn2, rfl⟩
      have hW' := hB'.len hm hb
      have lq' := qA_len m (T, 0) W'
      have hil := (List.getElem?_eq_some_iff.1 hwi').1
      by_cases hv : v < 3
      · by_cases hme : m.melt ≤ tickF m (runS m (T, 0) wi).1 v
        · repeat' ((conv => whnf); first | refine Rng.g ?_ | refine Ob.g ?_ | refine Ob.e ?_ | refine Ob.m ?_ | refine Ob.mk (Nat.le_of_ble_eq_true rfl) ?_ | refine JoinVC.on ?_ | refine Nils.mk (fun h => ?_) ?_ | refine Val.t ?_ | refine Val.d ?_ | refine CallVC.pure rfl (s57 m (runS m (T, 0) wi).1 v hm s1 s2) ?_ | refine CallVC0.pure rfl (s57 m (runS m (T, 0) wi).1 v hm s1 s2) ?_ | (refine Br.mk (fun h => ?_) (fun h => ?_) <;> first | (exfalso; omega; done) | (exfalso; simp at h; done) | skip))
          refine Mm.nm (fun y hy => ?_)
          have n1 : nx m (runS m (T, 0) wi) v = (tickF m (runS m (T, 0) wi).1 v, y) := by
            unfold nx
            rw [if_pos hme, hy]
            congr 1
            split <;> omega
          clear hy
          by_cases hk : ∃ (k : Nat) (w : List Int), W'[k]? = some w ∧ runS m (T, 0) w = runS m (T, 0) (wi ++ [v])
          · obtain ⟨k, w, hk1, hk2⟩ := hk
            have h9 := hM'.has k w hk1
            rw [hk2, runS_snoc, n1] at h9
            have hmh : mhas K2 l' [.int (tickF m (runS m (T, 0) wi).1 v), .int (y)] = true := by unfold mhas; rw [h9]; rfl
            repeat' ((conv => whnf); first | refine Rng.g ?_ | refine Ob.g ?_ | refine Ob.e ?_ | refine Ob.m ?_ | refine Ob.mk (Nat.le_of_ble_eq_true rfl) ?_ | refine JoinVC.on ?_ | refine Nils.mk (fun h => ?_) ?_ | refine Val.t ?_ | refine Val.d ?_ | refine Mm.mk ?_ | (refine Br.mk (fun h => ?_) (fun h => ?_) <;> first | (exfalso; omega; done) | (exfalso; simp at h; done) | (exfalso; simp [hmh] at h; done) | skip))
            refine Back.mk (3 - (v + 1)).toNat _ (by omega) ⟨W', l', v + 1, hB'.skip ⟨hv0, by omega⟩ hwi' hg hk1 hk2, hM', hwi', by omega, by omega, rfl, rfl⟩ ?_
            refine ⟨[some 0, some 1, some 2, some 3, some 4], rfl, rfl, ?_, ?_⟩ <;> repeat' (first | exact trivial | exact rfl | exact Iff.rfl | apply And.intro)
          · have hn9 : ∀ (k : Nat) (w : List Int), W'[k]? = some w → runS m (T, 0) w ≠ runS m (T, 0) (wi ++ [v]) := fun k w h1 h2 => hk ⟨k, w, h1, h2⟩
            have h9 := hM'.not (tickF m (runS m (T, 0) wi).1 v) (y) (fun k w h1 h2 => hn9 k w h1 (by rw [h2, runS_snoc, n1]))
            have hmh : mhas K2 l' [.int (tickF m (runS m (T, 0) wi).1 v), .int (y)] = false := by unfold mhas; rw [h9]; rfl
            have hMa := hM'.add hn9
            have hBa := hB'.add ⟨hv0, by omega⟩ hwi' hg hn9
            have hqa : qA m (T, 0) (W' ++ [wi ++ [v]]) = qA m (T, 0) W' ++ [[.int (tickF m (runS m (T, 0) wi).1 v), .int (y)]] := by
              simp only [qA, List.map_append, List.map_cons, List.map_nil, runS_snoc, n1]
            rw [runS_snoc, n1] at hMa
            repeat' ((conv => whnf); first | refine Rng.g ?_ | refine Ob.g ?_ | refine Ob.e ?_ | refine Ob.m ?_ | refine Ob.mk (Nat.le_of_ble_eq_true rfl) ?_ | refine JoinVC.on ?_ | refine Nils.mk (fun h => ?_) ?_ | refine Val.t ?_ | refine Val.d ?_ | refine Mm.mk ?_ | (refine Br.mk (fun h => ?_) (fun h => ?_) <;> first | (exfalso; omega; done) | (exfalso; simp at h; done) | (exfalso; simp [hmh] at h; done) | skip))
            repeat refine Mm.mk ?_
            refine Ob.mk (by simp only [lq', eb112, List.length_cons, List.length_nil]; omega) ?_
            repeat' ((conv => whnf); first | refine Rng.g ?_ | refine Ob.g ?_ | refine Ob.e ?_ | refine Ob.m ?_ | refine Ob.mk (Nat.le_of_ble_eq_true rfl) ?_ | refine JoinVC.on ?_ | refine Nils.mk (fun h => ?_) ?_ | refine Val.t ?_ | refine Val.d ?_ | refine Mm.mk ?_ | (refine Br.mk (fun h => ?_) (fun h => ?_) <;> first | (exfalso; omega; done) | (exfalso; simp at h; done) | skip))
            conv => whnf
            refine Back.mk (3 - (v + 1)).toNat _ (by omega) ⟨_, _, v + 1, hBa, hMa, by rw [List.getElem?_append_left hil]; exact hwi', by omega, by omega, rfl, rfl⟩ ?_
            refine ⟨[some 0, some 1, some 2, some 8, some 4], rfl, rfl, ?_, ?_⟩ <;> repeat' (first | exact trivial | exact rfl | exact Iff.rfl | apply And.intro)
            exact hqa.symm
        · have n1 : nx m (runS m (T, 0) wi) v = (tickF m (runS m (T, 0) wi).1 v, (runS m (T, 0) wi).2) := by
            unfold nx
            rw [if_neg hme]
          by_cases hk : ∃ (k : Nat) (w : List Int), W'[k]? = some w ∧ runS m (T, 0) w = runS m (T, 0) (wi ++ [v])
          · obtain ⟨k, w, hk1, hk2⟩ := hk
            have h9 := hM'.has k w hk1
            rw [hk2, runS_snoc, n1] at h9
            have hmh : mhas K2 l' [.int (tickF m (runS m (T, 0) wi).1 v), .int ((runS m (T, 0) wi).2)] = true := by unfold mhas; rw [h9]; rfl
            repeat' ((conv => whnf); first | refine Rng.g ?_ | refine Ob.g ?_ | refine Ob.e ?_ | refine Ob.m ?_ | refine Ob.mk (Nat.le_of_ble_eq_true rfl) ?_ | refine JoinVC.on ?_ | refine Nils.mk (fun h => ?_) ?_ | refine Val.t ?_ | refine Val.d ?_ | refine Mm.mk ?_ | refine CallVC.pure rfl (s57 m (runS m (T, 0) wi).1 v hm s1 s2) ?_ | refine CallVC0.pure rfl (s57 m (runS m (T, 0) wi).1 v hm s1 s2) ?_ | (refine Br.mk (fun h => ?_) (fun h => ?_) <;> first | (exfalso; omega; done) | (exfalso; simp at h; done) | (exfalso; simp [hmh] at h; done) | skip))
            refine Back.mk (3 - (v + 1)).toNat _ (by omega) ⟨W', l', v + 1, hB'.skip ⟨hv0, by omega⟩ hwi' hg hk1 hk2, hM', hwi', by omega, by omega, rfl, rfl⟩ ?_
            refine ⟨[some 0, some 1, some 2, some 3, some 4], rfl, rfl, ?_, ?_⟩ <;> repeat' (first | exact trivial | exact rfl | exact Iff.rfl | apply And.intro)
          · have hn9 : ∀ (k : Nat) (w : List Int), W'[k]? = some w → runS m (T, 0) w ≠ runS m (T, 0) (wi ++ [v]) := fun k w h1 h2 => hk ⟨k, w, h1, h2⟩
            have h9 := hM'.not (tickF m (runS m (T, 0) wi).1 v) ((runS m (T, 0) wi).2) (fun k w h1 h2 => hn9 k w h1 (by rw [h2, runS_snoc, n1]))
            have hmh : mhas K2 l' [.int (tickF m (runS m (T, 0) wi).1 v), .int ((runS m (T, 0) wi).2)] = false := by unfold mhas; rw [h9]; rfl
            have hMa := hM'.add hn9
            have hBa := hB'.add ⟨hv0, by omega⟩ hwi' hg hn9
            have hqa : qA m (T, 0) (W' ++ [wi ++ [v]]) = qA m (T, 0) W' ++ [[.int (tickF m (runS m (T, 0) wi).1 v), .int ((runS m (T, 0) wi).2)]] := by
              simp only [qA, List.map_append, List.map_cons, List.map_nil, runS_snoc, n1]
            rw [runS_snoc, n1] at hMa
            repeat' ((conv => whnf); first | refine Rng.g ?_ | refine Ob.g ?_ | refine Ob.e ?_ | refine Ob.m ?_ | refine Ob.mk (Nat.le_of_ble_eq_true rfl) ?_ | refine JoinVC.on ?_ | refine Nils.mk (fun h => ?_) ?_ | refine Val.t ?_ | refine Val.d ?_ | refine Mm.mk ?_ | refine CallVC.pure rfl (s57 m (runS m (T, 0) wi).1 v hm s1 s2) ?_ | refine CallVC0.pure rfl (s57 m (runS m (T, 0) wi).1 v hm s1 s2) ?_ | (refine Br.mk (fun h => ?_) (fun h => ?_) <;> first | (exfalso; omega; done) | (exfalso; simp at h; done) | (exfalso; simp [hmh] at h; done) | skip))
            repeat refine Mm.mk ?_
            refine Ob.mk (by simp only [lq', eb112, List.length_cons, List.length_nil]; omega) ?_
            repeat' ((conv => whnf); first | refine Rng.g ?_ | refine Ob.g ?_ | refine Ob.e ?_ | refine Ob.m ?_ | refine Ob.mk (Nat.le_of_ble_eq_true rfl) ?_ | refine JoinVC.on ?_ | refine Nils.mk (fun h => ?_) ?_ | refine Val.t ?_ | refine Val.d ?_ | refine Mm.mk ?_ | (refine Br.mk (fun h => ?_) (fun h => ?_) <;> first | (exfalso; omega; done) | (exfalso; simp at h; done) | skip))
            conv => whnf
            refine Back.mk (3 - (v + 1)).toNat _ (by omega) ⟨_, _, v + 1, hBa, hMa, by rw [List.getElem?_append_left hil]; exact hwi', by omega, by omega, rfl, rfl⟩ ?_
            refine ⟨[some 0, some 1, some 2, some 8, some 4], rfl, rfl, ?_, ?_⟩ <;> repeat' (first | exact trivial | exact rfl | exact Iff.rfl | apply And.intro)
            exact hqa.symm
      · have hv3' : v = 3 := by omega
        subst hv3'
        repeat' ((conv => whnf); first | refine Rng.g ?_ | refine Ob.g ?_ | refine Ob.e ?_ | refine Ob.m ?_ | refine Ob.mk (Nat.le_of_ble_eq_true rfl) ?_ | refine JoinVC.on ?_ | refine Nils.mk (fun h => ?_) ?_ | refine Val.t ?_ | refine Val.d ?_ | refine Mm.mk ?_ | (refine Br.mk (fun h => ?_) (fun h => ?_) <;> first | (exfalso; omega; done) | (exfalso; simp at h; done) | skip))
        refine Back.mk (26065 - (i + 1)) _ (by omega) ⟨i + 1, W', l', hB'.next, hM', rfl, rfl⟩ ?_
        refine ⟨[some 0, some 1, some 2, some 3], rfl, rfl, ?_, ?_⟩ <;> repeat' (first | exact trivial | exact rfl | exact Iff.rfl | apply And.intro)
end Go.Sx

namespace Go.Sx
open Go Go.Proofs
set_option maxRecDepth 10000
set_option maxHeartbeats 4000000
/-- A list of ints, as an argument. -/
@[reducible] def lN (xs : List Int) : XV := .one (.lst true [.int .i64] (i64s xs))
end Go.Sx

namespace Go.Sx
open Go Go.Proofs
set_option maxRecDepth 10000
set_option maxHeartbeats 8000000
/-! ### The fastest way of the example -/
theorem s30 (xs : List Int) (hl : xs.length ≤ 1073741824) : PSpec Try.prog 8 [lN xs, lN xs] (xP True) := by
  have lx := i64s_len xs
  refine spec_of pMix (O := []) Try.func8 (c := bodyOf Try.f8) rfl (by kernel_rfl) (by kernel_rfl) Try.ntmps8 (res := [.tmp 4]) (by kernel_rfl) ?_
  repeat' ((conv => whnf); first | refine Rng.g ?_ | refine Ob.g ?_ | refine Ob.e ?_ | refine Ob.m ?_ | refine Ob.mk (Nat.le_of_ble_eq_true rfl) ?_ | refine JoinVC.on ?_ | refine Nils.mk (fun h => ?_) ?_ | refine Val.t ?_ | refine Val.d ?_ | refine Mm.mk ?_ | (refine Br.mk (fun h => ?_) (fun h => ?_) <;> first | (exfalso; omega; done) | (exfalso; simp at h; done) | skip))
  refine LoopVC.mk (fun n st => ∃ i : Nat, i ≤ xs.length ∧ n = xs.length - i ∧ st = ⟨0, envA 26 [(0, .x (lN xs)), (1, .x (lN xs)), (5, .int .i64 (i : Int))], []⟩) _ _ ⟨0, Nat.zero_le _, rfl, rfl⟩ ?_ ?_
  · refine ⟨[], rfl, rfl, ?_, ?_⟩ <;> repeat' (first | exact trivial | exact rfl | exact Iff.rfl | apply And.intro)
  rintro n _ ⟨i, hi, hn, rfl⟩
  by_cases hi' : i < xs.length
  · repeat' ((conv => whnf); first | refine Rng.g ?_ | refine Ob.g ?_ | refine Ob.e ?_ | refine Ob.m ?_ | refine Ob.mk (Nat.le_of_ble_eq_true rfl) ?_ | refine JoinVC.on ?_ | refine Nils.mk (fun h => ?_) ?_ | refine Val.t ?_ | refine Val.d ?_ | refine Mm.mk ?_ | (refine Br.mk (fun h => ?_) (fun h => ?_) <;> first | (exfalso; omega; done) | (exfalso; simp at h; done) | skip))
    refine Back.mk (xs.length - (i + 1)) _ (by omega) ⟨i + 1, by omega, rfl, rfl⟩ ?_
    refine ⟨[], rfl, rfl, ?_, ?_⟩ <;> repeat' (first | exact trivial | exact rfl | exact Iff.rfl | apply And.intro)
  · repeat' ((conv => whnf); first | refine Rng.g ?_ | refine Ob.g ?_ | refine Ob.e ?_ | refine Ob.m ?_ | refine Ob.mk (Nat.le_of_ble_eq_true rfl) ?_ | refine JoinVC.on ?_ | refine Nils.mk (fun h => ?_) ?_ | refine Val.t ?_ | refine Val.d ?_ | refine Mm.mk ?_ | (refine Br.mk (fun h => ?_) (fun h => ?_) <;> first | (exfalso; omega; done) | (exfalso; simp at h; done) | skip))
    repeat refine Mm.mk ?_
    refine EndVC.mk _ rfl _ _ ⟨rfl, rfl⟩ ?_
    refine ⟨[], rfl, rfl, ?_, ?_⟩ <;> repeat' (first | exact trivial | exact rfl | exact Iff.rfl | apply And.intro)
/-! ### Acts with known numbers -/
end Go.Sx

namespace Go.Sx
open Go Go.Proofs
set_option maxRecDepth 10000
set_option maxHeartbeats 4000000
/-! ### The document's fastest way: plain laws -/
/-- How many ticks are needed from each state: what the document's table says at some time. -/
structure TabI (m : Mac) (D : S2 → Int) : Prop where
  nn : ∀ s, InS m s → 0 ≤ D s ∧ D s ≤ 1099511627776
  goal : ∀ s, InS m s → goodS m s → D s = 0
  way : ∀ s, InS m s → ¬ goodS m s → D s = 1099511627776 ∨ ∃ v, (0 ≤ v ∧ v ≤ 2) ∧ D (nx m s v) + 1 ≤ D s
/-- .. and at its end. -/
structure TabF (m : Mac) (D : S2 → Int) : Prop where
  inv : TabI m D
  fix : ∀ s, InS m s → ∀ v, 0 ≤ v ∧ v ≤ 2 → D s ≤ D (nx m s v) + 1
theorem TabI.step {m : Mac} (hm : m.ok) {D D' : S2 → Int} (h : TabI m D) {s : S2} (hs : InS m s) {v : Int} (hv : 0 ≤ v ∧ v ≤ 2) (hlt : D (nx m s v) + 1 < D s) (hD : ∀ u, InS m u → D' u = if u = s then D (nx m s v) + 1 else D u) : TabI m D' := by
  have hn := hs.nx hm v
  have hne : nx m s v ≠ s := fun e => by rw [e] at hlt; omega
  have h0 := h.nn _ hn
  have h1 := h.nn _ hs
  have hle : ∀ u, InS m u → D' u ≤ D u := fun u hu => by
    rw [hD u hu]
    split
    · rename_i e; rw [e]; omega
    · exact Int.le_refl _
  refine ⟨fun u hu => ?_, fun u hu hg => ?_, fun u hu hg => ?_⟩
  · have := h.nn u hu
    rw [hD u hu]
    split <;> omega
  · have := h.goal u hu hg
    rw [hD u hu]
    split
    · rename_i e; rw [e] at this; omega
    · exact this
  · rw [hD u hu]
    split
    · rename_i e
      subst e
      refine .inr ⟨v, hv, ?_⟩
      rw [hD _ hn, if_neg hne]
      exact Int.le_refl _
    · rcases h.way u hu hg with h2 | ⟨w, h2, h3⟩
      · exact .inl h2
      · refine .inr ⟨w, h2, ?_⟩
        have := hle _ (hu.nx hm w)
        omega
theorem TabF.upper {m : Mac} (hm : m.ok) {D : S2 → Int} (h : TabF m D) : ∀ (w : List Int) {s : S2}, InS m s → OKW w → goodS m (runS m s w) → D s ≤ w.length
  | [], s, hs, _, hg => by
    have := h.inv.goal s hs hg
    simp only [List.length_nil]
    omega
  | v :: w, s, hs, hw, hg => by
    have hv := hw v (by simp)
    have h1 := h.fix s hs v hv
    have h2 := h.upper hm w (hs.nx hm v) (fun x hx => hw x (List.mem_cons_of_mem _ hx)) hg
    simp only [List.length_cons]
    omega
theorem TabF.lower {m : Mac} (hm : m.ok) {D : S2 → Int} (h : TabF m D) : ∀ (n : Nat) {s : S2}, InS m s → D s ≤ n → D s < 1099511627776 → ∃ u, OKW u ∧ goodS m (runS m s u) ∧ (u.length : Int) ≤ D s
  | n, s, hs, hn, hlt => by
    by_cases hg : goodS m s
    · exact ⟨[], OKW.nil, hg, by have := (h.inv.nn s hs).1; simpa using this⟩
    · rcases h.inv.way s hs hg with h1 | ⟨v, hv, h1⟩
      · omega
      · have h2 := h.inv.nn _ (hs.nx hm v)
        cases n with
        | zero => omega
        | succ n =>
          obtain ⟨u, h3, h4, h5⟩ := h.lower hm n (hs.nx hm v) (by omega) (by omega)
          refine ⟨v :: u, fun x hx => ?_, h4, ?_⟩
          · rcases List.mem_cons.1 hx with rfl | hx
            · exact hv
            · exact h3 x hx
          · simp only [List.length_cons]
            omega
theorem sle_len {u w : List Int} (h : sle u w) : u.length ≤ w.length := by
  rcases h with rfl | h | h
  · exact Nat.le_refl _
  · exact Nat.le_of_lt h
  · exact Nat.le_of_eq h.1
theorem TabF.eq {m : Mac} (hm : m.ok) {D : S2 → Int} (h : TabF m D) {s : S2} (hs : InS m s) {w : List Int} (hB : Best m s w) (hl : w.length ≤ 1000000) : D s = w.length := by
  have h1 := h.upper hm w hs hB.ok hB.good
  have h0 := (h.inv.nn s hs).1
  obtain ⟨u, h2, h3, h4⟩ := h.lower hm (D s).toNat hs (by omega) (by omega)
  have h5 := sle_len (hB.least u h2 h3)
  omega
theorem Best.tail {m : Mac} {s : S2} {v : Int} {w : List Int} (h : Best m s (v :: w)) : Best m (nx m s v) w := by
  refine ⟨fun x hx => h.ok x (List.mem_cons_of_mem _ hx), h.good, fun u hu hg => ?_⟩
  have h1 := h.least (v :: u) (fun x hx => by
    rcases List.mem_cons.1 hx with rfl | hx
    · exact h.ok _ (by simp)
    · exact hu x hx) hg
  rcases h1 with h1 | h1 | ⟨h1, h2⟩
  · exact .inl (List.cons.inj h1).2
  · exact .inr (.inl (by simpa using h1))
  · refine .inr (.inr ⟨by simpa using h1, ?_⟩)
    rcases h2 with h2 | ⟨_, h2⟩
    · exact absurd h2 (Int.lt_irrefl _)
    · exact h2
/-- The first valve of the fastest way is the first one that needs a tick less. -/
theorem TabF.first {m : Mac} (hm : m.ok) {D : S2 → Int} (h : TabF m D) {s : S2} (hs : InS m s) {v : Int} {w : List Int} (hB : Best m s (v :: w)) (hl : (v :: w).length ≤ 1000000) : D (nx m s v) + 1 = D s ∧ ∀ a, 0 ≤ a → a < v → D (nx m s a) + 1 ≠ D s := by
  have hv := hB.ok v (by simp)
  have e1 := h.eq hm hs hB hl
  have hl' : w.length ≤ 1000000 := by simp only [List.length_cons] at hl; omega
  have e2 := h.eq hm (hs.nx hm v) hB.tail hl'
  simp only [List.length_cons] at e1
  refine ⟨by omega, fun a ha hav he => ?_⟩
  have h0 := (h.inv.nn _ (hs.nx hm a)).1
  obtain ⟨u, h2, h3, h4⟩ := h.lower hm (D (nx m s a)).toNat (hs.nx hm a) (by omega) (by omega)
  have h5 := hB.least (a :: u) (fun x hx => by
    rcases List.mem_cons.1 hx with rfl | hx
    · omega
    · exact h2 x hx) h3
  rcases h5 with h5 | h5 | ⟨_, h5⟩
  · have := (List.cons.inj h5).1
    omega
  · simp only [List.length_cons] at h5
    omega
  · rcases h5 with h5 | ⟨h5, _⟩ <;> omega
theorem TabF.zero {m : Mac} (hm : m.ok) {D : S2 → Int} (h : TabF m D) {s : S2} (hs : InS m s) {w : List Int} (hB : Best m s w) (hl : w.length ≤ 1000000) : 0 < D s ↔ w ≠ [] := by
  have e := h.eq hm hs hB hl
  cases w with
  | nil => simp at e; simp; omega
  | cons a w => simp only [List.length_cons] at e; simp; omega
end Go.Sx

namespace Go.Sx
open Go Go.Proofs
set_option maxRecDepth 10000
set_option maxHeartbeats 8000000
/-! ### The document's table -/
abbrev NV : Int := 1099511627776
def tabD (rows : List (List Int)) (s : S2) : Int := (rows.getD s.1.toNat []).getD s.2.toNat 0
structure TabR (m : Mac) (rows : List (List Int)) : Prop where
  len : (rows.length : Int) = m.top + 1
  wid : ∀ i, i < rows.length → ((rows.getD i []).length : Int) = m.hold + 1
def rowF (m : Mac) (t : Nat) : List Int := (List.range (m.hold.toNat + 1)).map fun h : Nat => if (h : Int) = m.hold ∧ (t : Int) ≤ m.cool then 0 else NV
def rows0 (m : Mac) (n : Nat) : List (List Int) := (List.range n).map (rowF m)
theorem rowF_len (m : Mac) (t : Nat) : (rowF m t).length = m.hold.toNat + 1 := by simp [rowF]
theorem rows0_len (m : Mac) (n : Nat) : (rows0 m n).length = n := by simp [rows0]
theorem rows0_snoc (m : Mac) (n : Nat) : rows0 m (n + 1) = rows0 m n ++ [rowF m n] := by simp [rows0, List.range_succ]
theorem rows0_at (m : Mac) (n i : Nat) (h : i < n) : (rows0 m n).getD i [] = rowF m i := by simp [rows0, List.getD_eq_getElem?_getD, List.getElem?_range h]
theorem rowF_at (m : Mac) (t h : Nat) (hh : h < m.hold.toNat + 1) : (rowF m t).getD h 0 = if (h : Int) = m.hold ∧ (t : Int) ≤ m.cool then 0 else NV := by
  simp [rowF, List.getD_eq_getElem?_getD, List.getElem?_range hh]
theorem tab0_R (m : Mac) (hm : m.ok) : TabR m (rows0 m (m.top.toNat + 1)) := by
  obtain ⟨m1, m2, m3, m4, m5, m6, m7, m8, m9, m10, m11, m12, m13, m14, m15⟩ := hm
  refine ⟨by rw [rows0_len]; omega, fun i hi => ?_⟩
  rw [rows0_len] at hi
  rw [rows0_at m _ i hi, rowF_len]
  omega
instance (m : Mac) (s : S2) : Decidable (goodS m s) := by unfold goodS; exact inferInstance
theorem tab0_D (m : Mac) (hm : m.ok) {s : S2} (hs : InS m s) : tabD (rows0 m (m.top.toNat + 1)) s = if goodS m s then 0 else NV := by
  obtain ⟨h1, h2, h3, h4⟩ := hs
  obtain ⟨m1, _⟩ := hm
  unfold tabD goodS
  rw [rows0_at m _ _ (by omega), rowF_at m _ _ (by omega)]
  have e1 : (s.2.toNat : Int) = s.2 := by omega
  have e2 : (s.1.toNat : Int) = s.1 := by omega
  rw [e1, e2]
theorem tab0_I (m : Mac) (hm : m.ok) : TabI m (tabD (rows0 m (m.top.toNat + 1))) := by
  refine ⟨fun s hs => ?_, fun s hs hg => ?_, fun s hs hg => .inl ?_⟩
  · rw [tab0_D m hm hs]
    split <;> decide
  · rw [tab0_D m hm hs, if_pos hg]
  · rw [tab0_D m hm hs, if_neg hg]
def setR (rows : List (List Int)) (t h : Nat) (x : Int) : List (List Int) := rows.set t ((rows.getD t []).set h x)
theorem setR_row (rows : List (List Int)) (t h i : Nat) (x : Int) (ht : t < rows.length) : (setR rows t h x).getD i [] = if i = t then (rows.getD t []).set h x else rows.getD i [] := by
  unfold setR
  rw [List.getD_eq_getElem?_getD, List.getElem?_set]
  by_cases e : t = i
  · subst e
    rw [if_pos rfl, if_pos rfl, if_pos ht]
    rfl
  · rw [if_neg e, if_neg (fun h => e h.symm), ← List.getD_eq_getElem?_getD]
theorem TabR.set {m : Mac} {rows : List (List Int)} (hR : TabR m rows) {t h : Nat} {x : Int} (ht : t < rows.length) : TabR m (setR rows t h x) := by
  have hl : (setR rows t h x).length = rows.length := by unfold setR; exact List.length_set
  refine ⟨by rw [hl]; exact hR.len, fun i hi => ?_⟩
  rw [hl] at hi
  rw [setR_row _ _ _ _ _ ht]
  split
  · rw [List.length_set]; exact hR.wid t ht
  · exact hR.wid i hi
theorem tabD_set {m : Mac} (hm : m.ok) {rows : List (List Int)} (hR : TabR m rows) {s : S2} (hs : InS m s) (x : Int) {u : S2} (hu : InS m u) : tabD (setR rows s.1.toNat s.2.toNat x) u = if u = s then x else tabD rows u := by
  obtain ⟨h1, h2, h3, h4⟩ := hs
  obtain ⟨u1, u2, u3, u4⟩ := hu
  have m1 := hm.1
  have hl := hR.len
  have ht : s.1.toNat < rows.length := by omega
  have hw := hR.wid _ ht
  unfold tabD
  rw [setR_row _ _ _ _ _ ht]
  by_cases e : u.1.toNat = s.1.toNat
  · rw [if_pos e, getD_set _ _ _ _ (by omega)]
    by_cases e2 : s.2.toNat = u.2.toNat
    · rw [if_pos e2, if_pos (Prod.ext (by omega) (by omega))]
    · rw [if_neg e2, if_neg (fun h => e2 (by rw [h])), e]
  · rw [if_neg e, if_neg (fun h => e (by rw [h]))]
/-- The sum of all numbers. -/
def sumL (l : List Int) : Nat := (l.map Int.toNat).sum
def sumR (rows : List (List Int)) : Nat := (rows.map sumL).sum
theorem sum_set : ∀ (l : List Nat) (i : Nat) (h : i < l.length) (a : Nat), (l.set i a).sum + l[i] = l.sum + a
  | [], i, h, _ => absurd h (Nat.not_lt_zero i)
  | x :: l, 0, _, a => by simp; omega
  | x :: l, i + 1, h, a => by
    have := sum_set l i (by simpa using h) a
    simp only [List.set_cons_succ, List.sum_cons, List.getElem_cons_succ]
    omega
theorem sumR_set {rows : List (List Int)} {t h : Nat} {x : Int} (ht : t < rows.length) (hh : h < (rows.getD t []).length) (h0 : 0 ≤ x) (hx : x < (rows.getD t []).getD h 0) : sumR (setR rows t h x) < sumR rows := by
  have e0 : rows.getD t [] = rows[t] := by simp [List.getD_eq_getElem?_getD, ht]
  rw [e0] at hh hx
  have e1 : rows[t].getD h 0 = rows[t][h] := by simp [List.getD_eq_getElem?_getD, hh]
  rw [e1] at hx
  have s1 := sum_set (rows[t].map Int.toNat) h (by simpa using hh) x.toNat
  have s2 := sum_set (rows.map sumL) t (by simpa using ht) (sumL (rows[t].set h x))
  simp only [List.getElem_map] at s1 s2
  unfold sumR setR
  rw [List.map_set, e0]
  have e3 : sumL (rows[t].set h x) = ((rows[t].map Int.toNat).set h x.toNat).sum := by unfold sumL; rw [List.map_set]
  have e4 : sumL rows[t] = (rows[t].map Int.toNat).sum := rfl
  omega
/-- What has been looked at since the round began. -/
def doneS (t h v : Int) (s : S2) (a : Int) : Prop := s.1 < t ∨ (s.1 = t ∧ (s.2 < h ∨ (s.2 = h ∧ a < v)))
structure RndC (m : Mac) (R0 rows : List (List Int)) (c : Bool) (t h v : Int) : Prop where
  R : TabR m rows
  I : TabI m (tabD rows)
  yes : c = true → sumR rows < sumR R0
  no : c = false → rows = R0 ∧ ∀ s, InS m s → ∀ a, 0 ≤ a ∧ a ≤ 2 → doneS t h v s a → tabD rows s ≤ tabD rows (nx m s a) + 1
theorem RndC.le {m : Mac} {R0 rows : List (List Int)} {c : Bool} {t h v : Int} (h1 : RndC m R0 rows c t h v) {t' h' v' : Int} (hd : ∀ s a, InS m s → 0 ≤ a ∧ a ≤ 2 → doneS t' h' v' s a → doneS t h v s a) : RndC m R0 rows c t' h' v' :=
  ⟨h1.R, h1.I, h1.yes, fun hc => ⟨(h1.no hc).1, fun s hs a ha h2 => (h1.no hc).2 s hs a ha (hd s a hs ha h2)⟩⟩
theorem RndC.keep {m : Mac} {R0 rows : List (List Int)} {c : Bool} {t h v : Int} (h1 : RndC m R0 rows c t h v) (hn : tabD rows (t, h) ≤ tabD rows (nx m (t, h) v) + 1) : RndC m R0 rows c t h (v + 1) := by
  refine ⟨h1.R, h1.I, h1.yes, fun hc => ⟨(h1.no hc).1, fun s hs a ha h2 => ?_⟩⟩
  rcases h2 with h2 | ⟨h2, h3 | ⟨h3, h4⟩⟩
  · exact (h1.no hc).2 s hs a ha (.inl h2)
  · exact (h1.no hc).2 s hs a ha (.inr ⟨h2, .inl h3⟩)
  · by_cases e : a = v
    · subst e
      have : s = (t, h) := Prod.ext h2 h3
      rw [this]
      exact hn
    · exact (h1.no hc).2 s hs a ha (.inr ⟨h2, .inr ⟨h3, by omega⟩⟩)
theorem RndC.put {m : Mac} (hm : m.ok) {R0 rows : List (List Int)} {c : Bool} {t h v v' : Int} (h1 : RndC m R0 rows c t h v) (hs : InS m (t, h)) (hv : 0 ≤ v ∧ v ≤ 2) (hn : tabD rows (nx m (t, h) v) + 1 < tabD rows (t, h)) (h0 : sumR rows ≤ sumR R0) : RndC m R0 (setR rows t.toNat h.toNat (tabD rows (nx m (t, h) v) + 1)) true t h v' := by
  have hs' := hs
  obtain ⟨k1, k2, k3, k4⟩ := hs'
  simp only at k1 k2 k3 k4
  have m1 := hm.1
  have hl := h1.R.len
  have ht : t.toNat < rows.length := by omega
  have hw := h1.R.wid _ ht
  have hnn := (h1.I.nn _ (hs.nx hm v)).1
  refine ⟨h1.R.set ht, h1.I.step hm hs hv hn fun u hu => tabD_set hm h1.R hs _ hu, fun _ => ?_, fun h => by cases h⟩
  have := sumR_set (rows := rows) (t := t.toNat) (h := h.toNat) (x := tabD rows (nx m (t, h) v) + 1) ht (by omega) (by omega) hn
  omega
theorem RndC.sum {m : Mac} {R0 rows : List (List Int)} {c : Bool} {t h v : Int} (h1 : RndC m R0 rows c t h v) : sumR rows ≤ sumR R0 := by
  cases c with
  | true => exact Nat.le_of_lt (h1.yes rfl)
  | false => rw [(h1.no rfl).1]; exact Nat.le_refl _
theorem s20n (m : Mac) (t k v : Int) (hm : m.ok) (hs : InS m (t, k)) : PSpec Try.prog 20 [m.x, I t, I k, I v] (.tup [I (nx m (t, k) v).1, I (nx m (t, k) v).2]) := by
  obtain ⟨h1, h2, h3, h4⟩ := hs
  have hbd := tickF_bd (v := v) hm ⟨h1, h2⟩
  simp only at h1 h2 h3 h4 hbd
  have hm' := hm
  obtain ⟨m1, m2, m3, m4, m5, m6, m7, m8, m9, m10, m11, m12, m13, m14, m15⟩ := hm'
  unfold nx
  by_cases hh : m.melt ≤ tickF m t v
  · rw [if_pos hh]
    refine spec_of pMix (O := []) Try.func20 (c := bodyOf Try.f20) rfl (by kernel_rfl) (by kernel_rfl) Try.ntmps20 (res := [.tmp 8, .tmp 9]) (by kernel_rfl) ?_
    repeat' ((conv => whnf); first | refine Rng.g ?_ | refine Ob.g ?_ | refine Ob.e ?_ | refine Ob.m ?_ | refine Ob.mk (Nat.le_of_ble_eq_true rfl) ?_ | refine JoinVC.on ?_ | refine Nils.mk (fun h => ?_) ?_ | refine Val.t ?_ | refine Val.d ?_ | refine Mm.mk ?_ | refine CallVC.pure rfl (s59 m t v hm h1 h2) ?_ | refine CallVC0.pure rfl (s59 m t v hm h1 h2) ?_ | (refine Br.mk (fun h => ?_) (fun h => ?_) <;> first | (exfalso; omega; done) | (exfalso; simp at h; done) | skip))
    repeat refine Mm.mk ?_
    refine EndVC.mk _ rfl _ _ ⟨rfl, rfl⟩ ?_
    refine ⟨[], rfl, rfl, ?_, ?_⟩ <;> repeat' (first | exact trivial | exact rfl | exact Iff.rfl | apply And.intro)
    show (if k + 1 < m.hold then k + 1 else m.hold) = min m.hold (k + 1)
    rw [Int.min_def]
    split <;> split <;> omega
  · rw [if_neg hh]
    refine spec_of pMix (O := []) Try.func20 (c := bodyOf Try.f20) rfl (by kernel_rfl) (by kernel_rfl) Try.ntmps20 (res := [.tmp 8, .tmp 9]) (by kernel_rfl) ?_
    repeat' ((conv => whnf); first | refine Rng.g ?_ | refine Ob.g ?_ | refine Ob.e ?_ | refine Ob.m ?_ | refine Ob.mk (Nat.le_of_ble_eq_true rfl) ?_ | refine JoinVC.on ?_ | refine Nils.mk (fun h => ?_) ?_ | refine Val.t ?_ | refine Val.d ?_ | refine Mm.mk ?_ | refine CallVC.pure rfl (s59 m t v hm h1 h2) ?_ | refine CallVC0.pure rfl (s59 m t v hm h1 h2) ?_ | (refine Br.mk (fun h => ?_) (fun h => ?_) <;> first | (exfalso; omega; done) | (exfalso; simp at h; done) | skip))
    repeat refine Mm.mk ?_
    refine EndVC.mk _ rfl _ _ ⟨rfl, rfl⟩ ?_
    refine ⟨[], rfl, rfl, ?_, ?_⟩ <;> repeat' (first | exact trivial | exact rfl | exact Iff.rfl | apply And.intro)
end Go.Sx

namespace Go.Sx
open Go Go.Proofs
set_option maxRecDepth 10000
set_option maxHeartbeats 8000000
theorem eb2 : Try.t2.bytes = 8 := by kernel_rfl
theorem eb36 : Try.t36.bytes = 24 := by kernel_rfl
@[reducible] def bMac (m : Mac) : Blk := .box 23 [.int .i64 m.room, .int .i64 m.melt, .int .i64 m.cool, .int .i64 m.top, .int .i64 m.heat, .int .i64 m.chill, .int .i64 m.drift, .int .i64 m.hold, .int .i64 m.life]
def lw (m : Mac) : Nat := m.hold.toNat + 1
theorem lw_eq {m : Mac} (hm : m.ok) : (lw m : Int) = m.hold + 1 := by
  obtain ⟨m1, m2, m3, m4, m5, m6, m7, m8, m9, m10, m11, m12, m13, m14, m15⟩ := hm
  unfold lw
  omega
/-- A row that is being filled. -/
def fillF (m : Mac) (t h : Nat) : List Int := (List.range (lw m)).map fun j => if j < h then (rowF m t).getD j 0 else 0
theorem fillF_len (m : Mac) (t h : Nat) : (fillF m t h).length = lw m := by simp [fillF]
theorem fillF_0 (m : Mac) (t : Nat) : fillF m t 0 = List.replicate (lw m) 0 := by
  unfold fillF
  simp [List.map_const']
theorem fillF_at (m : Mac) (t h j : Nat) (hj : j < lw m) : (fillF m t h).getD j 0 = if j < h then (rowF m t).getD j 0 else 0 := by
  simp [fillF, List.getD_eq_getElem?_getD, List.getElem?_range hj]
theorem fillF_end (m : Mac) (t : Nat) : fillF m t (lw m) = rowF m t := by
  refine list_ext_getD (by rw [fillF_len, rowF_len]; rfl) fun j hj => ?_
  rw [fillF_len] at hj
  rw [fillF_at _ _ _ _ hj, if_pos hj]
theorem fillF_set (m : Mac) (t h : Nat) (hh : h < lw m) (x : Int) (hx : x = (rowF m t).getD h 0) : (fillF m t h).set h x = fillF m t (h + 1) := by
  refine list_ext_getD (by rw [List.length_set, fillF_len, fillF_len]) fun j hj => ?_
  rw [List.length_set, fillF_len] at hj
  rw [getD_set _ _ _ _ (by rw [fillF_len]; exact hh), fillF_at _ _ _ _ hj, fillF_at _ _ _ _ hj]
  by_cases e : h = j
  · subst e
    rw [if_pos rfl, if_pos (Nat.lt_succ_self _), hx]
  · rw [if_neg e]
    by_cases e2 : j < h
    · rw [if_pos e2, if_pos (by omega)]
    · rw [if_neg e2, if_neg (by omega)]
theorem intsA_i64s (xs : List Int) : intsA (i64s xs) = xs := by
  unfold intsA i64s
  rw [List.map_map]
  conv => rhs; rw [← List.map_id xs]
  exact List.map_congr_left fun x _ => rfl
theorem i64s_rep (n : Nat) : List.replicate n (zeroRow [.int .i64]) = i64s (List.replicate n 0) := by
  unfold i64s
  rw [List.map_replicate]
  rfl
theorem s19t (m : Mac) (hm : m.ok) : HSpec Try.prog 19 [m.x] [] (fun r m' => ∃ rows, TabR m rows ∧ TabF m (tabD rows) ∧ r = .x (.one (.own 0)) ∧ m' = [some (.srow 36 1 (m.top.toNat + 1) (lw m)), some (.nrow 2 .i64 rows)]) := by
  have hm' := hm
  obtain ⟨m1, m2, m3, m4, m5, m6, m7, m8, m9, m10, m11, m12, m13, m14, m15⟩ := hm'
  have hlw := lw_eq hm
  refine spec_of pMix (O := []) Try.func19 (c := bodyOf Try.f19) rfl (by kernel_rfl) (by kernel_rfl) Try.ntmps19 (res := [.tmp 2]) (by kernel_rfl) ?_
  repeat' ((conv => whnf); first | refine Rng.g ?_ | refine Ob.g ?_ | refine Ob.e ?_ | refine Ob.m ?_ | refine Ob.mk (Nat.le_of_ble_eq_true rfl) ?_ | refine JoinVC.on ?_ | refine Nils.mk (fun h => ?_) ?_ | refine Val.t ?_ | refine Val.d ?_ | refine Mm.mk ?_ | (refine Br.mk (fun h => ?_) (fun h => ?_) <;> first | (exfalso; omega; done) | (exfalso; simp at h; done) | skip))
  refine LoopVC.mk (fun n st => ∃ (t : Nat), (t : Int) ≤ m.top + 1 ∧ n = m.top.toNat + 1 - t ∧ st = ⟨0, envA 109 [(1, .x (.one (.ptr 0 0))), (3, .int .i64 NV), (4, .x (.one (.own 1))), (5, .int .i64 (t : Int))], [some (bMac m), some (.srow 36 2 t (lw m)), some (.nrow 2 .i64 (rows0 m t))]⟩) _ _ ⟨0, by omega, rfl, rfl⟩ ?_ ?_
  · refine ⟨[some 0, none, some 1], rfl, rfl, ?_, ?_⟩ <;> repeat' (first | exact trivial | exact rfl | exact Iff.rfl | apply And.intro)
  rintro n _ ⟨t, ht, hn, rfl⟩
  by_cases ht' : (t : Int) ≤ m.top
  · repeat' ((conv => whnf); first | refine Rng.g ?_ | refine Ob.g ?_ | refine Ob.e ?_ | refine Ob.m ?_ | refine Ob.mk (Nat.le_of_ble_eq_true rfl) ?_ | refine JoinVC.on ?_ | refine Nils.mk (fun h => ?_) ?_ | refine Val.t ?_ | refine Val.d ?_ | refine Mm.mk ?_ | (refine Br.mk (fun h => ?_) (fun h => ?_) <;> first | (exfalso; omega; done) | (exfalso; simp at h; done) | skip))
    repeat refine Mm.mk ?_
    refine Ob.mk (by rw [eb2]; omega) ?_
    repeat' ((conv => whnf); first | refine Rng.g ?_ | refine Ob.g ?_ | refine Ob.e ?_ | refine Ob.m ?_ | refine Ob.mk (Nat.le_of_ble_eq_true rfl) ?_ | refine JoinVC.on ?_ | refine Nils.mk (fun h => ?_) ?_ | refine Val.t ?_ | refine Val.d ?_ | refine Mm.mk ?_ | (refine Br.mk (fun h => ?_) (fun h => ?_) <;> first | (exfalso; omega; done) | (exfalso; simp at h; done) | skip))
    refine LoopVC.mk (fun n st => ∃ (h : Nat), h ≤ lw m ∧ n = lw m - h ∧ st = ⟨0, envA 109 [(1, .x (.one (.ptr 0 0))), (3, .int .i64 NV), (4, .x (.one (.own 1))), (5, .int .i64 (t : Int)), (6, .x (.one (.own 3))), (7, .int .i64 (h : Int))], [some (bMac m), some (.srow 36 2 t (lw m)), some (.nrow 2 .i64 (rows0 m t)), some (.row 2 false [.int .i64] (i64s (fillF m t h)))]⟩) _ _ ⟨0, Nat.zero_le _, rfl, rfl⟩ ?_ ?_
    · refine ⟨[some 0, some 1, some 2, some 3], rfl, rfl, ?_, ?_⟩ <;> repeat' (first | exact trivial | exact rfl | exact Iff.rfl | apply And.intro)
      rw [fillF_0, show (m.hold + 1).toNat = lw m by omega]
      exact i64s_rep _
    rintro n2 _ ⟨k, hk, hn2, rfl⟩
    have lf : (i64s (fillF m t k)).length = lw m := by rw [i64s_len, fillF_len]
    by_cases hk' : k < lw m
    · have ek : (k : Int).toNat = k := Int.toNat_natCast k
      have hrf := rowF_at m t k hk'
      by_cases hg : (k : Int) = m.hold ∧ (t : Int) ≤ m.cool
      · rw [if_pos hg] at hrf
        have lu : (updRow (i64s (fillF m t k)) (k : Int).toNat 0 [.int NV]).length = lw m := by rw [updRow_ln, lf]
        repeat' ((conv => whnf); first | refine Rng.g ?_ | refine Ob.g ?_ | refine Ob.e ?_ | refine Ob.m ?_ | refine Ob.mk (Nat.le_of_ble_eq_true rfl) ?_ | refine JoinVC.on ?_ | refine Nils.mk (fun h => ?_) ?_ | refine Val.t ?_ | refine Val.d ?_ | refine Mm.mk ?_ | (refine Br.mk (fun h => ?_) (fun h => ?_) <;> first | (exfalso; omega; done) | (exfalso; simp at h; done) | skip))
        all_goals first | (exfalso; omega) | skip
        refine Back.mk (lw m - (k + 1)) _ (by omega) ⟨k + 1, by omega, rfl, rfl⟩ ?_
        refine ⟨[some 0, some 1, some 2, some 3], rfl, rfl, ?_, ?_⟩ <;> repeat' (first | exact trivial | exact rfl | exact Iff.rfl | apply And.intro)
        rw [ek, i64s_set _ _ _ (by rw [fillF_len]; exact hk'), i64s_set _ _ _ (by rw [List.length_set, fillF_len]; exact hk'), List.set_set, fillF_set m t k hk' 0 hrf.symm]
      · rw [if_neg hg] at hrf
        repeat' ((conv => whnf); first | refine Rng.g ?_ | refine Ob.g ?_ | refine Ob.e ?_ | refine Ob.m ?_ | refine Ob.mk (Nat.le_of_ble_eq_true rfl) ?_ | refine JoinVC.on ?_ | refine Nils.mk (fun h => ?_) ?_ | refine Val.t ?_ | refine Val.d ?_ | refine Mm.mk ?_ | (refine Br.mk (fun h => ?_) (fun h => ?_) <;> first | (exfalso; omega; done) | (exfalso; simp at h; done) | skip))
        all_goals first | (exfalso; omega) | skip
        all_goals
          refine Back.mk (lw m - (k + 1)) _ (by omega) ⟨k + 1, by omega, rfl, rfl⟩ ?_
          refine ⟨[some 0, some 1, some 2, some 3], rfl, rfl, ?_, ?_⟩ <;> repeat' (first | exact trivial | exact rfl | exact Iff.rfl | apply And.intro)
          rw [ek, i64s_set _ _ _ (by rw [fillF_len]; exact hk'), fillF_set m t k hk' NV hrf.symm]
    · have ek : k = lw m := by omega
      subst ek
      rw [fillF_end]
      have lf2 : (i64s (rowF m t)).length = lw m := by rw [i64s_len, rowF_len]; rfl
      have lr := rows0_len m t
      repeat' ((conv => whnf); first | refine Sel.snd ?_ | refine Rng.g ?_ | refine Ob.g ?_ | refine Ob.e ?_ | refine Ob.m ?_ | refine Ob.mk (Nat.le_of_ble_eq_true rfl) ?_ | refine JoinVC.on ?_ | refine Nils.mk (fun h => ?_) ?_ | refine Val.t ?_ | refine Val.d ?_ | refine Mm.mk ?_ | (refine Br.mk (fun h => ?_) (fun h => ?_) <;> first | (exfalso; omega; done) | (exfalso; simp at h; done) | skip))
      repeat refine Mm.mk ?_
      refine Ob.mk (by rw [eb36, lf2, lr]; omega) ?_
      repeat' ((conv => whnf); first | refine Rng.g ?_ | refine Ob.g ?_ | refine Ob.e ?_ | refine Ob.m ?_ | refine Ob.mk (Nat.le_of_ble_eq_true rfl) ?_ | refine JoinVC.on ?_ | refine Nils.mk (fun h => ?_) ?_ | refine Val.t ?_ | refine Val.d ?_ | refine Mm.mk ?_ | (refine Br.mk (fun h => ?_) (fun h => ?_) <;> first | (exfalso; omega; done) | (exfalso; simp at h; done) | skip))
      refine Back.mk (m.top.toNat + 1 - (t + 1)) _ (by omega) ⟨t + 1, by omega, rfl, rfl⟩ ?_
      refine ⟨[some 0, some 5, some 2], rfl, rfl, ?_, ?_⟩ <;> repeat' (first | exact trivial | exact rfl | exact Iff.rfl | apply And.intro)
      all_goals first | exact lf2 | (rw [rows0_snoc, intsA_i64s]; done) | skip
  have et : t = m.top.toNat + 1 := by omega
  subst et
  have hlr := rows0_len m (m.top.toNat + 1)
  repeat' ((conv => whnf); first | refine Rng.g ?_ | refine Ob.g ?_ | refine Ob.e ?_ | refine Ob.m ?_ | refine Ob.mk (Nat.le_of_ble_eq_true rfl) ?_ | refine JoinVC.on ?_ | refine Nils.mk (fun h => ?_) ?_ | refine Val.t ?_ | refine Val.d ?_ | refine Mm.mk ?_ | (refine Br.mk (fun h => ?_) (fun h => ?_) <;> first | (exfalso; omega; done) | (exfalso; simp at h; done) | skip))
  refine LoopVC.mk (fun n st => ∃ (rows : List (List Int)) (c : Bool), TabR m rows ∧ TabI m (tabD rows) ∧ (c = false → ∀ s, InS m s → ∀ a, 0 ≤ a ∧ a ≤ 2 → tabD rows s ≤ tabD rows (nx m s a) + 1) ∧ n = sumR rows + (if c = true then 1 else 0) ∧ st = ⟨0, envA 109 [(1, .x (.one (.ptr 0 0))), (4, .x (.one (.own 1))), (8, .x (.one (.bool c)))], [some (bMac m), some (.srow 36 2 (m.top.toNat + 1) (lw m)), some (.nrow 2 .i64 rows)]⟩) _ _ ⟨_, true, tab0_R m hm, tab0_I m hm, fun h => (by cases h), rfl, rfl⟩ ?_ ?_
  · refine ⟨[some 0, some 1, some 2], rfl, rfl, ?_, ?_⟩ <;> repeat' (first | exact trivial | exact rfl | exact Iff.rfl | apply And.intro)
  rintro n2 _ ⟨R0, c, hR0, hI0, hfix, hn2, rfl⟩
  cases c with
  | false =>
    repeat' ((conv => whnf); first | refine Rng.g ?_ | refine Ob.g ?_ | refine Ob.e ?_ | refine Ob.m ?_ | refine Ob.mk (Nat.le_of_ble_eq_true rfl) ?_ | refine JoinVC.on ?_ | refine Nils.mk (fun h => ?_) ?_ | refine Val.t ?_ | refine Val.d ?_ | refine Mm.mk ?_ | (refine Br.mk (fun h => ?_) (fun h => ?_) <;> first | (exfalso; omega; done) | (exfalso; simp at h; done) | skip))
    repeat refine Mm.mk ?_
    conv => whnf
    refine EndVC.mk _ rfl _ _ (⟨R0, hR0, ⟨hI0, hfix rfl⟩, rfl, rfl⟩) ?_
    refine ⟨[some 1, some 2], rfl, rfl, ?_, ?_⟩ <;> repeat' (first | exact trivial | exact rfl | exact Iff.rfl | apply And.intro)
  | true =>
    have hq : n2 = sumR R0 + 1 := by simpa using hn2
    repeat' ((conv => whnf); first | refine Rng.g ?_ | refine Ob.g ?_ | refine Ob.e ?_ | refine Ob.m ?_ | refine Ob.mk (Nat.le_of_ble_eq_true rfl) ?_ | refine JoinVC.on ?_ | refine Nils.mk (fun h => ?_) ?_ | refine Val.t ?_ | refine Val.d ?_ | refine Mm.mk ?_ | (refine Br.mk (fun h => ?_) (fun h => ?_) <;> first | (exfalso; omega; done) | (exfalso; simp at h; done) | skip))
    refine LoopVC.mk (fun n st => ∃ (rows : List (List Int)) (c : Bool) (t : Int), m.room ≤ t ∧ t ≤ m.top + 1 ∧ n = (m.top + 1 - t).toNat ∧ RndC m R0 rows c t 0 0 ∧ st = ⟨0, envA 109 [(1, .x (.one (.ptr 0 0))), (4, .x (.one (.own 1))), (8, .x (.one (.bool c))), (9, .int .i64 t)], [some (bMac m), some (.srow 36 2 (m.top.toNat + 1) (lw m)), some (.nrow 2 .i64 rows)]⟩) _ _ ⟨R0, false, m.room, Int.le_refl _, by omega, rfl, ⟨hR0, hI0, fun h => (by cases h), fun _ => ⟨rfl, fun s hs a ha hd => ?_⟩⟩, rfl⟩ ?_ ?_
    · obtain ⟨k1, k2, k3, k4⟩ := hs
      unfold doneS at hd
      omega
    · refine ⟨[some 0, some 1, some 2], rfl, rfl, ?_, ?_⟩ <;> repeat' (first | exact trivial | exact rfl | exact Iff.rfl | apply And.intro)
    rintro n3 _ ⟨rows, c, t, ht1, ht2, hn3, hC, rfl⟩
    by_cases ht3 : t ≤ m.top
    rotate_left
    · have et : t = m.top + 1 := by omega
      subst et
      repeat' ((conv => whnf); first | refine Rng.g ?_ | refine Ob.g ?_ | refine Ob.e ?_ | refine Ob.m ?_ | refine Ob.mk (Nat.le_of_ble_eq_true rfl) ?_ | refine JoinVC.on ?_ | refine Nils.mk (fun h => ?_) ?_ | refine Val.t ?_ | refine Val.d ?_ | refine Mm.mk ?_ | (refine Br.mk (fun h => ?_) (fun h => ?_) <;> first | (exfalso; omega; done) | (exfalso; simp at h; done) | skip))
      refine Back.mk (sumR rows + (if c = true then 1 else 0)) _ ?_ ⟨rows, c, hC.R, hC.I, fun hc s hs a ha => (hC.no hc).2 s hs a ha (.inl (by have := hs.2.1; omega)), rfl, rfl⟩ ?_
      · cases c with
        | true => have := hC.yes rfl; simp only [if_true]; omega
        | false => rw [(hC.no rfl).1, hq]; simp
      · refine ⟨[some 0, some 1, some 2], rfl, rfl, ?_, ?_⟩ <;> repeat' (first | exact trivial | exact rfl | exact Iff.rfl | apply And.intro)
    repeat' ((conv => whnf); first | refine Rng.g ?_ | refine Ob.g ?_ | refine Ob.e ?_ | refine Ob.m ?_ | refine Ob.mk (Nat.le_of_ble_eq_true rfl) ?_ | refine JoinVC.on ?_ | refine Nils.mk (fun h => ?_) ?_ | refine Val.t ?_ | refine Val.d ?_ | refine Mm.mk ?_ | (refine Br.mk (fun h => ?_) (fun h => ?_) <;> first | (exfalso; omega; done) | (exfalso; simp at h; done) | skip))
    refine LoopVC.mk (fun n st => ∃ (rows : List (List Int)) (c : Bool) (k : Nat), k ≤ lw m ∧ n = lw m - k ∧ RndC m R0 rows c t (k : Int) 0 ∧ st = ⟨0, envA 109 [(1, .x (.one (.ptr 0 0))), (4, .x (.one (.own 1))), (8, .x (.one (.bool c))), (9, .int .i64 t), (10, .int .i64 (k : Int))], [some (bMac m), some (.srow 36 2 (m.top.toNat + 1) (lw m)), some (.nrow 2 .i64 rows)]⟩) _ _ ⟨rows, c, 0, Nat.zero_le _, rfl, hC, rfl⟩ ?_ ?_
    · refine ⟨[some 0, some 1, some 2], rfl, rfl, ?_, ?_⟩ <;> repeat' (first | exact trivial | exact rfl | exact Iff.rfl | apply And.intro)
    clear hC rows c
    rintro n4 _ ⟨rows, c, k, hk, hn4, hC, rfl⟩
    by_cases hk' : k < lw m
    rotate_left
    · have ek : k = lw m := by omega
      subst ek
      repeat' ((conv => whnf); first | refine Rng.g ?_ | refine Ob.g ?_ | refine Ob.e ?_ | refine Ob.m ?_ | refine Ob.mk (Nat.le_of_ble_eq_true rfl) ?_ | refine JoinVC.on ?_ | refine Nils.mk (fun h => ?_) ?_ | refine Val.t ?_ | refine Val.d ?_ | refine Mm.mk ?_ | (refine Br.mk (fun h => ?_) (fun h => ?_) <;> first | (exfalso; omega; done) | (exfalso; simp at h; done) | skip))
      refine Back.mk (m.top + 1 - (t + 1)).toNat _ (by omega) ⟨rows, c, t + 1, by omega, by omega, rfl, hC.le fun s a hs ha hd => ?_, rfl⟩ ?_
      · obtain ⟨k1, k2, k3, k4⟩ := hs
        unfold doneS at hd ⊢
        omega
      · refine ⟨[some 0, some 1, some 2], rfl, rfl, ?_, ?_⟩ <;> repeat' (first | exact trivial | exact rfl | exact Iff.rfl | apply And.intro)
    repeat' ((conv => whnf); first | refine Rng.g ?_ | refine Ob.g ?_ | refine Ob.e ?_ | refine Ob.m ?_ | refine Ob.mk (Nat.le_of_ble_eq_true rfl) ?_ | refine JoinVC.on ?_ | refine Nils.mk (fun h => ?_) ?_ | refine Val.t ?_ | refine Val.d ?_ | refine Mm.mk ?_ | (refine Br.mk (fun h => ?_) (fun h => ?_) <;> first | (exfalso; omega; done) | (exfalso; simp at h; done) | skip))
    refine LoopVC.mk (fun n st => ∃ (rows : List (List Int)) (c : Bool) (v : Nat), v ≤ 3 ∧ n = 3 - v ∧ RndC m R0 rows c t (k : Int) (v : Int) ∧ st = ⟨0, envA 109 [(1, .x (.one (.ptr 0 0))), (4, .x (.one (.own 1))), (8, .x (.one (.bool c))), (9, .int .i64 t), (10, .int .i64 (k : Int)), (11, .int .i64 (v : Int))], [some (bMac m), some (.srow 36 2 (m.top.toNat + 1) (lw m)), some (.nrow 2 .i64 rows)]⟩) _ _ ⟨rows, c, 0, Nat.zero_le _, rfl, hC, rfl⟩ ?_ ?_
    · refine ⟨[some 0, some 1, some 2], rfl, rfl, ?_, ?_⟩ <;> repeat' (first | exact trivial | exact rfl | exact Iff.rfl | apply And.intro)
    clear hC rows c
    rintro n5 _ ⟨rows, c, v, hv, hn5, hC, rfl⟩
    by_cases hv' : v < 3
    rotate_left
    · have ev : v = 3 := by omega
      subst ev
      repeat' ((conv => whnf); first | refine Rng.g ?_ | refine Ob.g ?_ | refine Ob.e ?_ | refine Ob.m ?_ | refine Ob.mk (Nat.le_of_ble_eq_true rfl) ?_ | refine JoinVC.on ?_ | refine Nils.mk (fun h => ?_) ?_ | refine Val.t ?_ | refine Val.d ?_ | refine Mm.mk ?_ | (refine Br.mk (fun h => ?_) (fun h => ?_) <;> first | (exfalso; omega; done) | (exfalso; simp at h; done) | skip))
      refine Back.mk (lw m - (k + 1)) _ (by omega) ⟨rows, c, k + 1, by omega, rfl, hC.le fun s a hs ha hd => ?_, rfl⟩ ?_
      · obtain ⟨k1, k2, k3, k4⟩ := hs
        unfold doneS at hd ⊢
        omega
      · refine ⟨[some 0, some 1, some 2], rfl, rfl, ?_, ?_⟩ <;> repeat' (first | exact trivial | exact rfl | exact Iff.rfl | apply And.intro)
    have hs : InS m (t, (k : Int)) := ⟨ht1, ht3, by simp only; omega, by simp only; omega⟩
    have hsn := hs.nx hm (v : Int)
    have c20 := s20n m t (k : Int) (v : Int) hm hs
    obtain ⟨a, b, hab⟩ : ∃ a b, nx m (t, (k : Int)) (v : Int) = (a, b) := ⟨_, _, rfl⟩
    have hkeep := hC.keep
    have hput := hC.put (v' := (v : Int) + 1) hm hs ⟨by omega, by omega⟩
    have hsum := hC.sum
    rw [hab] at hsn c20 hkeep hput
    obtain ⟨q1, q2, q3, q4⟩ := hsn
    simp only at q1 q2 q3 q4 c20
    have hl := hC.R.len
    have w1 := hC.R.wid a.toNat (by omega)
    have w2 := hC.R.wid t.toNat (by omega)
    have n1 := hC.I.nn (a, b) ⟨q1, q2, q3, q4⟩
    have n2 := hC.I.nn (t, (k : Int)) hs
    have d1 : (rows.getD a.toNat []).getD b.toNat 0 = tabD rows (a, b) := rfl
    have d2 : (rows.getD t.toNat []).getD (k : Int).toNat 0 = tabD rows (t, (k : Int)) := rfl
    have ev : ((v + 1 : Nat) : Int) = (v : Int) + 1 := by omega
    repeat' ((conv => whnf); first | refine Rng.g ?_ | refine Ob.g ?_ | refine Ob.e ?_ | refine Ob.m ?_ | refine Ob.mk (Nat.le_of_ble_eq_true rfl) ?_ | refine JoinVC.on ?_ | refine Nils.mk (fun h => ?_) ?_ | refine Val.t ?_ | refine Val.d ?_ | refine Mm.mk ?_ | refine CallVC.pure rfl (c20) ?_ | refine CallVC0.pure rfl (c20) ?_ | (refine Br.mk (fun h => ?_) (fun h => ?_) <;> first | (exfalso; omega; done) | (exfalso; simp at h; done) | skip))
    · refine Back.mk (3 - (v + 1)) _ (by omega) ⟨_, true, v + 1, by omega, rfl, by rw [ev]; exact hput (by omega) hsum, rfl⟩ ?_
      refine ⟨[some 0, some 1, some 2], rfl, rfl, ?_, ?_⟩ <;> repeat' (first | exact trivial | exact rfl | exact Iff.rfl | apply And.intro)
    · refine Back.mk (3 - (v + 1)) _ (by omega) ⟨rows, c, v + 1, by omega, rfl, by rw [ev]; exact hkeep (by omega), rfl⟩ ?_
      refine ⟨[some 0, some 1, some 2], rfl, rfl, ?_, ?_⟩ <;> repeat' (first | exact trivial | exact rfl | exact Iff.rfl | apply And.intro)
theorem s7r (m : Mac) (T : Int) (hm : m.ok) (hT : m.room ≤ T ∧ T ≤ m.top) (w : List Int) (hB : Best m (T, 0) w) (hl : w.length ≤ 26065) : HSpec Try.prog 7 [m.x, I T] [] (fun r m' => r = .tup [.one (.own 0), I 0] ∧ m' = [some (.row 3 false [.int .i64] (i64s w))]) := by
  have hc := Mac.chk0 hm
  have hlw := lw_eq hm
  have hm' := hm
  obtain ⟨m1, m2, m3, m4, m5, m6, m7, m8, m9, m10, m11, m12, m13, m14, m15⟩ := hm'
  refine spec_of pMix (O := []) Try.func7 (c := bodyOf Try.f7) rfl (by kernel_rfl) (by kernel_rfl) Try.ntmps7 (res := [.tmp 4, .tmp 5]) (by kernel_rfl) ?_
  repeat' ((conv => whnf); first | refine Rng.g ?_ | refine Ob.g ?_ | refine Ob.e ?_ | refine Ob.m ?_ | refine Ob.mk (Nat.le_of_ble_eq_true rfl) ?_ | refine JoinVC.on ?_ | refine Nils.mk (fun h => ?_) ?_ | refine Val.t ?_ | refine Val.d ?_ | refine Mm.mk ?_ | refine CallVC.pure rfl (s21 m) ?_ | refine CallVC.pure rfl (s58 T m.room m.top) ?_ | refine CallVC0.pure rfl (s21 m) ?_ | refine CallVC0.pure rfl (s58 T m.room m.top) ?_ | (refine Br.mk (fun h => ?_) (fun h => ?_) <;> first | (exfalso; omega; done) | (exfalso; simp at h; done) | skip))
  conv => whnf
  refine CallVC.mk [] _ _ _ rfl rfl rfl (s19t m hm) (fun r m' h' => ?_)
  obtain ⟨rows, hR, hF, rfl, rfl⟩ := h'
  conv => whnf
  repeat' ((conv => whnf); first | refine Rng.g ?_ | refine Ob.g ?_ | refine Ob.e ?_ | refine Ob.m ?_ | refine Ob.mk (Nat.le_of_ble_eq_true rfl) ?_ | refine JoinVC.on ?_ | refine Nils.mk (fun h => ?_) ?_ | refine Val.t ?_ | refine Val.d ?_ | refine Mm.mk ?_ | (refine Br.mk (fun h => ?_) (fun h => ?_) <;> first | (exfalso; omega; done) | (exfalso; simp at h; done) | skip))
  refine LoopVC.mk (fun n st => ∃ (i : Nat) (s : S2), i ≤ w.length ∧ n = w.length - i ∧ InS m s ∧ Best m s (w.drop i) ∧ st = ⟨0, envA 67 [(2, .x (.one (.ptr 0 0))), (6, .x (.one (.own 1))), (7, .x (.one (.own 3))), (1, .int .i64 s.1), (8, .int .i64 s.2)], [some (bMac m), some (.srow 36 2 (m.top.toNat + 1) (lw m)), some (.nrow 2 .i64 rows), some (.row 3 false [.int .i64] (i64s (w.take i)))]⟩) _ _ ⟨0, (T, 0), Nat.zero_le _, rfl, ⟨hT.1, hT.2, Int.le_refl _, by simp only; omega⟩, hB, rfl⟩ ?_ ?_
  · refine ⟨[some 0, some 1, some 2, none], rfl, rfl, ?_, ?_⟩ <;> repeat' (first | exact trivial | exact rfl | exact Iff.rfl | apply And.intro)
  rintro n _ ⟨i, s, hi, hn, hs, hBi, rfl⟩
  have hs' := hs
  obtain ⟨k1, k2, k3, k4⟩ := hs'
  have hld : (w.drop i).length = w.length - i := List.length_drop
  have hz := hF.zero hm hs hBi (by omega)
  have hl0 := hR.len
  have ws := hR.wid s.1.toNat (by omega)
  have ds : (rows.getD s.1.toNat []).getD s.2.toNat 0 = tabD rows s := rfl
  have lt : (i64s (w.take i)).length = i := by rw [i64s_len, List.length_take]; omega
  by_cases hi' : i < w.length
  rotate_left
  · have ei : i = w.length := by omega
    have hw0 : w.drop i = [] := List.drop_eq_nil_of_le (by omega)
    have hz' : ¬ 0 < tabD rows s := fun h => (hz.1 h) hw0
    have e2 : w.take i = w := List.take_of_length_le (by omega)
    rw [e2]
    repeat' ((conv => whnf); first | refine Rng.g ?_ | refine Ob.g ?_ | refine Ob.e ?_ | refine Ob.m ?_ | refine Ob.mk (Nat.le_of_ble_eq_true rfl) ?_ | refine JoinVC.on ?_ | refine Nils.mk (fun h => ?_) ?_ | refine Val.t ?_ | refine Val.d ?_ | refine Mm.mk ?_ | (refine Br.mk (fun h => ?_) (fun h => ?_) <;> first | (exfalso; omega; done) | (exfalso; simp at h; done) | skip))
    all_goals first | (exfalso; omega) | skip
    repeat refine Mm.mk ?_
    conv => whnf
    refine EndVC.mk _ rfl _ _ (⟨rfl, rfl⟩) ?_
    refine ⟨[some 3], rfl, rfl, ?_, ?_⟩ <;> repeat' (first | exact trivial | exact rfl | exact Iff.rfl | apply And.intro)
  have hz' : 0 < tabD rows s := hz.2 (fun h => by rw [h] at hld; simp at hld; omega)
  obtain ⟨x, hx⟩ : ∃ x, w.getD i 0 = x := ⟨_, rfl⟩
  have hdr : w.drop i = x :: w.drop (i + 1) := by
    rw [← hx, List.drop_eq_getElem_cons hi']
    simp [List.getD_eq_getElem?_getD, hi']
  rw [hdr] at hBi
  have hxr := hBi.ok x (by simp)
  obtain ⟨hf1, hf2⟩ := hF.first hm hs hBi (by rw [← hdr, hld]; omega)
  have hBn := hBi.tail
  repeat' ((conv => whnf); first | refine Rng.g ?_ | refine Ob.g ?_ | refine Ob.e ?_ | refine Ob.m ?_ | refine Ob.mk (Nat.le_of_ble_eq_true rfl) ?_ | refine JoinVC.on ?_ | refine Nils.mk (fun h => ?_) ?_ | refine Val.t ?_ | refine Val.d ?_ | refine Mm.mk ?_ | (refine Br.mk (fun h => ?_) (fun h => ?_) <;> first | (exfalso; omega; done) | (exfalso; simp at h; done) | skip))
  all_goals first | (exfalso; omega) | skip
  refine LoopVC.mk (fun n st => ∃ (v : Nat), (v : Int) ≤ x ∧ n = 3 - v ∧ st = ⟨0, envA 67 [(2, .x (.one (.ptr 0 0))), (6, .x (.one (.own 1))), (7, .x (.one (.own 3))), (1, .int .i64 s.1), (8, .int .i64 s.2), (9, .int .i64 (v : Int))], [some (bMac m), some (.srow 36 2 (m.top.toNat + 1) (lw m)), some (.nrow 2 .i64 rows), some (.row 3 false [.int .i64] (i64s (w.take i)))]⟩) _ _ ⟨0, by omega, rfl, rfl⟩ ?_ ?_
  · refine ⟨[some 0, some 1, some 2, some 3], rfl, rfl, ?_, ?_⟩ <;> repeat' (first | exact trivial | exact rfl | exact Iff.rfl | apply And.intro)
  rintro n2 _ ⟨v, hv, hn2, rfl⟩
  have hsn := hs.nx hm (v : Int)
  have c20 := s20n m s.1 s.2 (v : Int) hm hs
  rw [show ((s.1, s.2) : S2) = s from rfl] at c20
  obtain ⟨a, b, hab⟩ : ∃ a b, nx m s (v : Int) = (a, b) := ⟨_, _, rfl⟩
  have hne : (v : Int) < x → tabD rows (nx m s (v : Int)) + 1 ≠ tabD rows s := fun h => hf2 _ (by omega) h
  have heq : (v : Int) = x → tabD rows (nx m s (v : Int)) + 1 = tabD rows s := fun h => by rw [h]; exact hf1
  have hnn := hF.inv.nn _ hsn
  rw [hab] at hsn c20 hne heq hnn
  obtain ⟨q1, q2, q3, q4⟩ := hsn
  simp only at q1 q2 q3 q4 c20
  have w1 := hR.wid a.toNat (by omega)
  have d1 : (rows.getD a.toNat []).getD b.toNat 0 = tabD rows (a, b) := rfl
  by_cases hvx : (v : Int) = x
  · have he := heq hvx
    repeat' ((conv => whnf); first | refine Rng.g ?_ | refine Ob.g ?_ | refine Ob.e ?_ | refine Ob.m ?_ | refine Ob.mk (Nat.le_of_ble_eq_true rfl) ?_ | refine JoinVC.on ?_ | refine Nils.mk (fun h => ?_) ?_ | refine Val.t ?_ | refine Val.d ?_ | refine Mm.mk ?_ | refine CallVC.pure rfl (c20) ?_ | refine CallVC0.pure rfl (c20) ?_ | (refine Br.mk (fun h => ?_) (fun h => ?_) <;> first | (exfalso; omega; done) | (exfalso; simp at h; done) | skip))
    all_goals first | (exfalso; omega) | skip
    repeat refine Mm.mk ?_
    refine Ob.mk (by rw [eb3, lt]; simp only [List.length_cons, List.length_nil]; omega) ?_
    repeat' ((conv => whnf); first | refine Rng.g ?_ | refine Ob.g ?_ | refine Ob.e ?_ | refine Ob.m ?_ | refine Ob.mk (Nat.le_of_ble_eq_true rfl) ?_ | refine JoinVC.on ?_ | refine Nils.mk (fun h => ?_) ?_ | refine Val.t ?_ | refine Val.d ?_ | refine Mm.mk ?_ | (refine Br.mk (fun h => ?_) (fun h => ?_) <;> first | (exfalso; omega; done) | (exfalso; simp at h; done) | skip))
    have e1 : w.take (i + 1) = w.take i ++ [(v : Int)] := by
      rw [List.take_add_one, hvx, ← hx, List.getD_eq_getElem?_getD, List.getElem?_eq_getElem hi']
      rfl
    refine Back.mk (w.length - (i + 1)) _ (by omega) ⟨i + 1, (a, b), by omega, rfl, ⟨q1, q2, q3, q4⟩, by rw [← hab, hvx]; exact hBn, rfl⟩ ?_
    rw [e1]
    refine ⟨[some 0, some 1, some 2, some 5], rfl, rfl, ?_, ?_⟩ <;> repeat' (first | exact trivial | exact rfl | exact Iff.rfl | apply And.intro)
    rw [i64s_snoc]
  · have he := hne (by omega)
    repeat' ((conv => whnf); first | refine Rng.g ?_ | refine Ob.g ?_ | refine Ob.e ?_ | refine Ob.m ?_ | refine Ob.mk (Nat.le_of_ble_eq_true rfl) ?_ | refine JoinVC.on ?_ | refine Nils.mk (fun h => ?_) ?_ | refine Val.t ?_ | refine Val.d ?_ | refine Mm.mk ?_ | refine CallVC.pure rfl (c20) ?_ | refine CallVC0.pure rfl (c20) ?_ | (refine Br.mk (fun h => ?_) (fun h => ?_) <;> first | (exfalso; omega; done) | (exfalso; simp at h; done) | skip))
    all_goals first | (exfalso; omega) | skip
    refine Back.mk (3 - (v + 1)) _ (by omega) ⟨v + 1, by omega, rfl, rfl⟩ ?_
    refine ⟨[some 0, some 1, some 2, some 3], rfl, rfl, ?_, ?_⟩ <;> repeat' (first | exact trivial | exact rfl | exact Iff.rfl | apply And.intro)
end Go.Sx

namespace Go.Sx
open Go Go.Proofs
set_option maxRecDepth 10000
set_option maxHeartbeats 8000000
theorem e3 : EntersF Try.prog 3 := enters_of Try.func3 (c := bodyOf Try.f3) (by kernel_rfl) rfl
theorem s8z : PSpec Try.prog 8 [.one .nils, .one .nils] (xP True) := by
  refine spec_of pMix (O := []) Try.func8 (c := bodyOf Try.f8) rfl (by kernel_rfl) (by kernel_rfl) Try.ntmps8 (res := [.tmp 4]) (by kernel_rfl) ?_
  repeat' ((conv => whnf); first | refine Rng.g ?_ | refine Ob.g ?_ | refine Ob.e ?_ | refine Ob.m ?_ | refine Ob.mk (Nat.le_of_ble_eq_true rfl) ?_ | refine JoinVC.on ?_ | refine Nils.mk (fun h => ?_) ?_ | refine Val.t ?_ | refine Val.d ?_ | refine Mm.mk ?_ | (refine Br.mk (fun h => ?_) (fun h => ?_) <;> first | (exfalso; omega; done) | (exfalso; simp at h; done) | skip))
  refine LoopVC.un 1 ?_
  repeat' ((conv => whnf); first | refine Rng.g ?_ | refine Ob.g ?_ | refine Ob.e ?_ | refine Ob.m ?_ | refine Ob.mk (Nat.le_of_ble_eq_true rfl) ?_ | refine JoinVC.on ?_ | refine Nils.mk (fun h => ?_) ?_ | refine Val.t ?_ | refine Val.d ?_ | refine Mm.mk ?_ | (refine Br.mk (fun h => ?_) (fun h => ?_) <;> first | (exfalso; omega; done) | (exfalso; simp at h; done) | skip))
  repeat refine Mm.mk ?_
  refine EndVC.mk _ rfl _ _ ⟨rfl, rfl⟩ ?_
  refine ⟨[], rfl, rfl, ?_, ?_⟩ <;> repeat' (first | exact trivial | exact rfl | exact Iff.rfl | apply And.intro)
theorem s6b (m : Mac) (T : Int) (hm : ¬ m.ok) : PSpec Try.prog 6 [m.x, I T] (.tup [.one .nils, I 2]) := by
  have hc := Mac.chk2 hm
  have c := s20 m
  rw [hc] at c
  refine spec_of pMix (O := [(22, ([8], [⟨0, [], []⟩, ⟨1, [], []⟩, ⟨2, [], []⟩, ⟨3, [], []⟩, ⟨5, [], []⟩, ⟨6, [], []⟩, ⟨4, [5, 6], []⟩, ⟨7, [], []⟩, ⟨8, [], []⟩, ⟨9, [], []⟩]))]) Try.func6 (c := bodyOf Try.f6) rfl (by kernel_rfl) (by kernel_rfl) Try.ntmps6 (res := [.tmp 4, .tmp 5]) (by kernel_rfl) ?_
  repeat' ((conv => whnf); first | refine Rng.g ?_ | refine Ob.g ?_ | refine Ob.e ?_ | refine Ob.m ?_ | refine Ob.mk (Nat.le_of_ble_eq_true rfl) ?_ | refine JoinVC.on ?_ | refine Nils.mk (fun h => ?_) ?_ | refine Val.t ?_ | refine Val.d ?_ | refine Mm.mk ?_ | refine CallVC.pure rfl (c) ?_ | refine CallVC0.pure rfl (c) ?_ | (refine Br.mk (fun h => ?_) (fun h => ?_) <;> first | (exfalso; omega; done) | (exfalso; simp at h; done) | skip))
  repeat refine Mm.mk ?_
  refine EndVC.mk _ rfl _ _ ⟨rfl, rfl⟩ ?_
  refine ⟨[], rfl, rfl, ?_, ?_⟩ <;> repeat' (first | exact trivial | exact rfl | exact Iff.rfl | apply And.intro)
theorem s6r (m : Mac) (T : Int) (hm : m.ok) (hT : ¬ (m.room ≤ T ∧ T ≤ m.top)) : PSpec Try.prog 6 [m.x, I T] (.tup [.one .nils, I 3]) := by
  have hc := Mac.chk0 hm
  have c := s20 m
  rw [hc] at c
  refine spec_of pMix (O := [(22, ([8], [⟨0, [], []⟩, ⟨1, [], []⟩, ⟨2, [], []⟩, ⟨3, [], []⟩, ⟨5, [], []⟩, ⟨6, [], []⟩, ⟨4, [5, 6], []⟩, ⟨7, [], []⟩, ⟨8, [], []⟩, ⟨9, [], []⟩]))]) Try.func6 (c := bodyOf Try.f6) rfl (by kernel_rfl) (by kernel_rfl) Try.ntmps6 (res := [.tmp 4, .tmp 5]) (by kernel_rfl) ?_
  repeat' ((conv => whnf); first | refine Rng.g ?_ | refine Ob.g ?_ | refine Ob.e ?_ | refine Ob.m ?_ | refine Ob.mk (Nat.le_of_ble_eq_true rfl) ?_ | refine JoinVC.on ?_ | refine Nils.mk (fun h => ?_) ?_ | refine Val.t ?_ | refine Val.d ?_ | refine Mm.mk ?_ | refine CallVC.pure rfl (c) ?_ | refine CallVC.pure rfl (s56 T m.room m.top) ?_ | refine CallVC0.pure rfl (c) ?_ | refine CallVC0.pure rfl (s56 T m.room m.top) ?_ | (refine Br.mk (fun h => ?_) (fun h => ?_) <;> first | (exfalso; omega; done) | (exfalso; simp at h; done) | skip))
  all_goals first | (exfalso; omega) | skip
  all_goals
    repeat refine Mm.mk ?_
    refine EndVC.mk _ rfl _ _ ⟨rfl, rfl⟩ ?_
    refine ⟨[], rfl, rfl, ?_, ?_⟩ <;> repeat' (first | exact trivial | exact rfl | exact Iff.rfl | apply And.intro)
theorem s7b (m : Mac) (T : Int) (hm : ¬ m.ok) : PSpec Try.prog 7 [m.x, I T] (.tup [.one .nils, I 2]) := by
  have hc := Mac.chk2 hm
  have c := s21 m
  rw [hc] at c
  refine spec_of pMix (O := []) Try.func7 (c := bodyOf Try.f7) rfl (by kernel_rfl) (by kernel_rfl) Try.ntmps7 (res := [.tmp 4, .tmp 5]) (by kernel_rfl) ?_
  repeat' ((conv => whnf); first | refine Rng.g ?_ | refine Ob.g ?_ | refine Ob.e ?_ | refine Ob.m ?_ | refine Ob.mk (Nat.le_of_ble_eq_true rfl) ?_ | refine JoinVC.on ?_ | refine Nils.mk (fun h => ?_) ?_ | refine Val.t ?_ | refine Val.d ?_ | refine Mm.mk ?_ | refine CallVC.pure rfl (c) ?_ | refine CallVC0.pure rfl (c) ?_ | (refine Br.mk (fun h => ?_) (fun h => ?_) <;> first | (exfalso; omega; done) | (exfalso; simp at h; done) | skip))
  repeat refine Mm.mk ?_
  refine EndVC.mk _ rfl _ _ ⟨rfl, rfl⟩ ?_
  refine ⟨[], rfl, rfl, ?_, ?_⟩ <;> repeat' (first | exact trivial | exact rfl | exact Iff.rfl | apply And.intro)
theorem s7o (m : Mac) (T : Int) (hm : m.ok) (hT : ¬ (m.room ≤ T ∧ T ≤ m.top)) : PSpec Try.prog 7 [m.x, I T] (.tup [.one .nils, I 3]) := by
  have hc := Mac.chk0 hm
  have c := s21 m
  rw [hc] at c
  refine spec_of pMix (O := []) Try.func7 (c := bodyOf Try.f7) rfl (by kernel_rfl) (by kernel_rfl) Try.ntmps7 (res := [.tmp 4, .tmp 5]) (by kernel_rfl) ?_
  repeat' ((conv => whnf); first | refine Rng.g ?_ | refine Ob.g ?_ | refine Ob.e ?_ | refine Ob.m ?_ | refine Ob.mk (Nat.le_of_ble_eq_true rfl) ?_ | refine JoinVC.on ?_ | refine Nils.mk (fun h => ?_) ?_ | refine Val.t ?_ | refine Val.d ?_ | refine Mm.mk ?_ | refine CallVC.pure rfl (c) ?_ | refine CallVC.pure rfl (s58 T m.room m.top) ?_ | refine CallVC0.pure rfl (c) ?_ | refine CallVC0.pure rfl (s58 T m.room m.top) ?_ | (refine Br.mk (fun h => ?_) (fun h => ?_) <;> first | (exfalso; omega; done) | (exfalso; simp at h; done) | skip))
  all_goals first | (exfalso; omega) | skip
  all_goals
    repeat refine Mm.mk ?_
    refine EndVC.mk _ rfl _ _ ⟨rfl, rfl⟩ ?_
    refine ⟨[], rfl, rfl, ?_, ?_⟩ <;> repeat' (first | exact trivial | exact rfl | exact Iff.rfl | apply And.intro)
theorem s3 (m : Mac) (T : Int) : PSpec Try.prog 3 [m.x, I T] (xP True) := by
  by_cases hm : m.ok
  rotate_left
  · have hc := Mac.chk2 hm
    refine spec_of pMix (O := []) Try.func3 (c := bodyOf Try.f3) rfl (by kernel_rfl) (by kernel_rfl) Try.ntmps3 (res := [.tmp 4]) (by kernel_rfl) ?_
    repeat' ((conv => whnf); first | refine Rng.g ?_ | refine Ob.g ?_ | refine Ob.e ?_ | refine Ob.m ?_ | refine Ob.mk (Nat.le_of_ble_eq_true rfl) ?_ | refine JoinVC.on ?_ | refine Nils.mk (fun h => ?_) ?_ | refine Val.t ?_ | refine Val.d ?_ | refine Mm.mk ?_ | refine CallVC.pure rfl (s21 m) ?_ | refine CallVC.pure rfl (s22) ?_ | refine CallVC.pure rfl (s8z) ?_ | refine CallVC.pure rfl (s6b m T hm) ?_ | refine CallVC.pure rfl (s7b m T hm) ?_ | refine CallVC0.pure rfl (s21 m) ?_ | refine CallVC0.pure rfl (s22) ?_ | refine CallVC0.pure rfl (s8z) ?_ | refine CallVC0.pure rfl (s6b m T hm) ?_ | refine CallVC0.pure rfl (s7b m T hm) ?_ | (refine Br.mk (fun h => ?_) (fun h => ?_) <;> first | (exfalso; omega; done) | (exfalso; simp at h; done) | skip))
    repeat refine Mm.mk ?_
    refine EndVC.mk _ rfl _ _ ⟨rfl, rfl⟩ ?_
    refine ⟨[], rfl, rfl, ?_, ?_⟩ <;> repeat' (first | exact trivial | exact rfl | exact Iff.rfl | apply And.intro)
  have hc := Mac.chk0 hm
  have hm' := hm
  obtain ⟨m1, m2, m3, m4, m5, m6, m7, m8, m9, m10, m11, m12, m13, m14, m15⟩ := hm'
  by_cases hg : m.top - m.room > 120 ∨ m.hold > 10
  · refine spec_of pMix (O := []) Try.func3 (c := bodyOf Try.f3) rfl (by kernel_rfl) (by kernel_rfl) Try.ntmps3 (res := [.tmp 4]) (by kernel_rfl) ?_
    repeat' ((conv => whnf); first | refine Rng.g ?_ | refine Ob.g ?_ | refine Ob.e ?_ | refine Ob.m ?_ | refine Ob.mk (Nat.le_of_ble_eq_true rfl) ?_ | refine JoinVC.on ?_ | refine Nils.mk (fun h => ?_) ?_ | refine Val.t ?_ | refine Val.d ?_ | refine Mm.mk ?_ | refine CallVC.pure rfl (s21 m) ?_ | refine CallVC.pure rfl (s22) ?_ | refine CallVC0.pure rfl (s21 m) ?_ | refine CallVC0.pure rfl (s22) ?_ | (refine Br.mk (fun h => ?_) (fun h => ?_) <;> first | (exfalso; omega; done) | (exfalso; simp at h; done) | skip))
    all_goals first | (exfalso; omega) | skip
    all_goals
      repeat refine Mm.mk ?_
      refine EndVC.mk _ rfl _ _ ⟨rfl, rfl⟩ ?_
      refine ⟨[], rfl, rfl, ?_, ?_⟩ <;> repeat' (first | exact trivial | exact rfl | exact Iff.rfl | apply And.intro)
  by_cases hT : m.room ≤ T ∧ T ≤ m.top
  rotate_left
  · refine spec_of pMix (O := []) Try.func3 (c := bodyOf Try.f3) rfl (by kernel_rfl) (by kernel_rfl) Try.ntmps3 (res := [.tmp 4]) (by kernel_rfl) ?_
    repeat' ((conv => whnf); first | refine Rng.g ?_ | refine Ob.g ?_ | refine Ob.e ?_ | refine Ob.m ?_ | refine Ob.mk (Nat.le_of_ble_eq_true rfl) ?_ | refine JoinVC.on ?_ | refine Nils.mk (fun h => ?_) ?_ | refine Val.t ?_ | refine Val.d ?_ | refine Mm.mk ?_ | refine CallVC.pure rfl (s21 m) ?_ | refine CallVC.pure rfl (s22) ?_ | refine CallVC.pure rfl (s8z) ?_ | refine CallVC.pure rfl (s6r m T hm hT) ?_ | refine CallVC.pure rfl (s7o m T hm hT) ?_ | refine CallVC0.pure rfl (s21 m) ?_ | refine CallVC0.pure rfl (s22) ?_ | refine CallVC0.pure rfl (s8z) ?_ | refine CallVC0.pure rfl (s6r m T hm hT) ?_ | refine CallVC0.pure rfl (s7o m T hm hT) ?_ | (refine Br.mk (fun h => ?_) (fun h => ?_) <;> first | (exfalso; omega; done) | (exfalso; simp at h; done) | skip))
    repeat refine Mm.mk ?_
    refine EndVC.mk _ rfl _ _ ⟨rfl, rfl⟩ ?_
    refine ⟨[], rfl, rfl, ?_, ?_⟩ <;> repeat' (first | exact trivial | exact rfl | exact Iff.rfl | apply And.intro)
  refine spec_of pMix (O := []) Try.func3 (c := bodyOf Try.f3) rfl (by kernel_rfl) (by kernel_rfl) Try.ntmps3 (res := [.tmp 4]) (by kernel_rfl) ?_
  repeat' ((conv => whnf); first | refine Rng.g ?_ | refine Ob.g ?_ | refine Ob.e ?_ | refine Ob.m ?_ | refine Ob.mk (Nat.le_of_ble_eq_true rfl) ?_ | refine JoinVC.on ?_ | refine Nils.mk (fun h => ?_) ?_ | refine Val.t ?_ | refine Val.d ?_ | refine Mm.mk ?_ | refine CallVC.pure rfl (s21 m) ?_ | refine CallVC.pure rfl (s22) ?_ | refine CallVC0.pure rfl (s21 m) ?_ | refine CallVC0.pure rfl (s22) ?_ | (refine Br.mk (fun h => ?_) (fun h => ?_) <;> first | (exfalso; omega; done) | (exfalso; simp at h; done) | skip))
  conv => whnf
  refine CallVC.mk [] _ _ _ rfl rfl rfl (s28 m T hm hT) (fun r m' h' => ?_)
  obtain ⟨w, hB, hwl, rfl, rfl⟩ := h'
  conv => whnf
  repeat' ((conv => whnf); first | refine Rng.g ?_ | refine Ob.g ?_ | refine Ob.e ?_ | refine Ob.m ?_ | refine Ob.mk (Nat.le_of_ble_eq_true rfl) ?_ | refine JoinVC.on ?_ | refine Nils.mk (fun h => ?_) ?_ | refine Val.t ?_ | refine Val.d ?_ | refine Mm.mk ?_ | (refine Br.mk (fun h => ?_) (fun h => ?_) <;> first | (exfalso; omega; done) | (exfalso; simp at h; done) | skip))
  conv => whnf
  refine CallVC.mk [] _ _ _ rfl rfl rfl (s7r m T hm hT w hB hwl) (fun r m' h' => ?_)
  obtain ⟨rfl, rfl⟩ := h'
  conv => whnf
  repeat' ((conv => whnf); first | refine Rng.g ?_ | refine Ob.g ?_ | refine Ob.e ?_ | refine Ob.m ?_ | refine Ob.mk (Nat.le_of_ble_eq_true rfl) ?_ | refine JoinVC.on ?_ | refine Nils.mk (fun h => ?_) ?_ | refine Val.t ?_ | refine Val.d ?_ | refine Mm.mk ?_ | refine CallVC.pure rfl (s30 w (by omega)) ?_ | refine CallVC.pure rfl (s22) ?_ | refine CallVC0.pure rfl (s30 w (by omega)) ?_ | refine CallVC0.pure rfl (s22) ?_ | (refine Br.mk (fun h => ?_) (fun h => ?_) <;> first | (exfalso; omega; done) | (exfalso; simp at h; done) | skip))
  repeat refine Mm.mk ?_
  refine EndVC.mk _ rfl _ _ ⟨rfl, rfl⟩ ?_
  refine ⟨[], rfl, rfl, ?_, ?_⟩ <;> repeat' (first | exact trivial | exact rfl | exact Iff.rfl | apply And.intro)
end Go.Sx
