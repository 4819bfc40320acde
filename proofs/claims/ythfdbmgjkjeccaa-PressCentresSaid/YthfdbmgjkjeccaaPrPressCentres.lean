/- The given law PressCentres returns true for any three spots and any limit, and leaves its arguments as they were. No conditions. -/
import Derived.Test.YthfdbmgjkjeccaaPrPressCentresA
import Derived.Test.YthfdbmgjkjeccaaXc
import Derived.Test.YthfdbmgjkjeccaaRows
import Derived.ProofKit
namespace Go.Sx
open Go Go.Proofs
theorem law7 (rows : List (List Cell)) (H0 : WfRows [(true, [.int .i64, .int .i64]), (true, [.int .i64, .int .i64]), (true, [.int .i64, .int .i64]), (false, [.int .i64])] rows) : PSpec Try.prog 7 (xvs [(true, [.int .i64, .int .i64]), (true, [.int .i64, .int .i64]), (true, [.int .i64, .int .i64]), (false, [.int .i64])] rows) (.x (.one (.prp True instDecidableTrue))) := by
  obtain ⟨r0, _, rfl, k0_0, H1⟩ := H0.inv
  obtain ⟨c0_0, _, rfl, g0_0, k0_1⟩ := k0_0.inv
  obtain ⟨a0_0, rfl, h0_0⟩ := g0_0.int_inv
  obtain ⟨c0_1, _, rfl, g0_1, k0_2⟩ := k0_1.inv
  obtain ⟨a0_1, rfl, h0_1⟩ := g0_1.int_inv
  cases k0_2.nil_inv
  obtain ⟨r1, _, rfl, k1_0, H2⟩ := H1.inv
  obtain ⟨c1_0, _, rfl, g1_0, k1_1⟩ := k1_0.inv
  obtain ⟨a1_0, rfl, h1_0⟩ := g1_0.int_inv
  obtain ⟨c1_1, _, rfl, g1_1, k1_2⟩ := k1_1.inv
  obtain ⟨a1_1, rfl, h1_1⟩ := g1_1.int_inv
  cases k1_2.nil_inv
  obtain ⟨r2, _, rfl, k2_0, H3⟩ := H2.inv
  obtain ⟨c2_0, _, rfl, g2_0, k2_1⟩ := k2_0.inv
  obtain ⟨a2_0, rfl, h2_0⟩ := g2_0.int_inv
  obtain ⟨c2_1, _, rfl, g2_1, k2_2⟩ := k2_1.inv
  obtain ⟨a2_1, rfl, h2_1⟩ := g2_1.int_inv
  cases k2_2.nil_inv
  obtain ⟨a3, _, rfl, h3, H4⟩ := H3.int
  cases H4.nil_inv
  exact s7 ⟨a0_0, a0_1⟩ ⟨a1_0, a1_1⟩ ⟨a2_0, a2_1⟩ a3
end Go.Sx
namespace Go.Proofs.Ythfdbmgjkjeccaa
open Go.Sx
set_option maxRecDepth 100000 in
theorem pressCentres_lifted (os : Os) (started : os.Started) (H : Type) (enc : TypeId × Value → H) :
    ReturnsInHanded {} Try.checked os 7 .any (Rows.pressCentresSpec.pre6 enc Try.prog Try.f7 Rows.pressCentresRow.domain false) (Rows.pressCentresSpec.post enc Try.prog Try.f7 false true false false) :=
  lifted_true (by kernel_rfl) started (by kernel_rfl) (by kernel_rfl) Try.func7 e7 4 rfl Try.underlying4 (by kernel_rfl) rfl
    (fun ds h => match ds, h with | [_, _, _, _], _ => rfl) _ (by kernel_rfl) law7
    (ChangeSpec.witness6 (enc := enc) (C := Try.checked) false ⟨#[], #[.agg #[.int .i64 0, .int .i64 0], .agg #[.int .i64 0, .int .i64 0], .agg #[.int .i64 0, .int .i64 0], .int .i64 0], []⟩ 8 (by kernel_rfl) (by kernel_rfl) (by kernel_rfl) (by kernel_rfl))
theorem pressCentres_holds : Rows.PressCentresSaid :=
  OpenClaim.holds_of_wide 7 Try.f7 rfl rfl rfl rfl rfl rfl rfl ⟨rfl, rfl, rfl, rfl, rfl⟩ rfl rfl rfl rfl rfl (by kernel_rfl) Try.func7 (by kernel_rfl)
    (of_decide_eq_true (by kernel_rfl)) (by unfold Func.isWrapper; first | (rw [if_pos (by decide +kernel)]; kernel_rfl) | (rw [if_neg (by decide +kernel)]; exact ⟨rfl, rfl⟩))
    (fun os started H enc _ => pressCentres_lifted os started H enc)
end Go.Proofs.Ythfdbmgjkjeccaa
