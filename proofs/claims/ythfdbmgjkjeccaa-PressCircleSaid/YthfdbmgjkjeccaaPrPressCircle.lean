/- PressCircle is proved: for any spots, any way and any limit the statement returns true, and its arguments stay as they were. -/
import Derived.Test.YthfdbmgjkjeccaaPrPressCircleA
import Derived.Test.YthfdbmgjkjeccaaXc
import Derived.Test.YthfdbmgjkjeccaaRows
import Derived.ProofKit
namespace Go.Sx
open Go Go.Proofs
theorem law8 (rows : List (List Cell)) (H0 : WfRows [(true, [.int .i16, .int .i16]), (true, [.int .i16, .int .i16]), (true, [.int .i16, .int .i16]), (true, [.int .i16, .int .i16]), (false, [.int .u16])] rows) : PSpec Try.prog 8 (xvs [(true, [.int .i16, .int .i16]), (true, [.int .i16, .int .i16]), (true, [.int .i16, .int .i16]), (true, [.int .i16, .int .i16]), (false, [.int .u16])] rows) (.x (.one (.prp True instDecidableTrue))) := by
  obtain ⟨r0, _, rfl, k0_0, H1⟩ := H0.inv
  obtain ⟨c0_0, _, rfl, g0_0, k0_1⟩ := k0_0.inv
  obtain ⟨a0_0, rfl, h0_0⟩ := g0_0.int_inv
  obtain ⟨c0_1, _, rfl, g0_1, k0_2⟩ := k0_1.inv
  obtain ⟨a0_1, rfl, h0_1⟩ := g0_1.int_inv
  cases k0_2.nil_inv
  obtain ⟨r1, _, rfl, k1_0, H2⟩ := H1.inv
  obtain ⟨c1_0, _, rfl, g1_0, k1_1⟩ := k1_0.inv
  obtain ⟨a1_0, rfl, h1_0⟩ := g1_0.int_inv
  obtain ⟨c1_1, _, rfl, g1_1, k1_2⟩ := k1_1.inv
  obtain ⟨a1_1, rfl, h1_1⟩ := g1_1.int_inv
  cases k1_2.nil_inv
  obtain ⟨r2, _, rfl, k2_0, H3⟩ := H2.inv
  obtain ⟨c2_0, _, rfl, g2_0, k2_1⟩ := k2_0.inv
  obtain ⟨a2_0, rfl, h2_0⟩ := g2_0.int_inv
  obtain ⟨c2_1, _, rfl, g2_1, k2_2⟩ := k2_1.inv
  obtain ⟨a2_1, rfl, h2_1⟩ := g2_1.int_inv
  cases k2_2.nil_inv
  obtain ⟨r3, _, rfl, k3_0, H4⟩ := H3.inv
  obtain ⟨c3_0, _, rfl, g3_0, k3_1⟩ := k3_0.inv
  obtain ⟨a3_0, rfl, h3_0⟩ := g3_0.int_inv
  obtain ⟨c3_1, _, rfl, g3_1, k3_2⟩ := k3_1.inv
  obtain ⟨a3_1, rfl, h3_1⟩ := g3_1.int_inv
  cases k3_2.nil_inv
  obtain ⟨a4, _, rfl, h4, H5⟩ := H4.int
  cases H5.nil_inv
  exact s8 a0_0 a0_1 a1_0 a1_1 a2_0 a2_1 a3_0 a3_1 a4 ⟨h0_0.1, h0_0.2, h0_1.1, h0_1.2⟩ ⟨h1_0.1, h1_0.2, h1_1.1, h1_1.2⟩ ⟨h2_0.1, h2_0.2, h2_1.1, h2_1.2⟩ ⟨h3_0.1, h3_0.2, h3_1.1, h3_1.2⟩ h4
end Go.Sx
namespace Go.Proofs.Ythfdbmgjkjeccaa
open Go.Sx
set_option maxRecDepth 100000 in
theorem pressCircle_lifted (os : Os) (started : os.Started) (H : Type) (enc : TypeId × Value → H) :
    ReturnsInHanded {} Try.checked os 8 .any (Rows.pressCircleSpec.pre6 enc Try.prog Try.f8 Rows.pressCircleRow.domain false) (Rows.pressCircleSpec.post enc Try.prog Try.f8 false true false false) :=
  lifted_true (by kernel_rfl) started (by kernel_rfl) (by kernel_rfl) Try.func8 e8 4 rfl Try.underlying4 (by kernel_rfl) rfl
    (fun ds h => match ds, h with | [_, _, _, _, _], _ => rfl) _ (by kernel_rfl) law8
    (ChangeSpec.witness6 (enc := enc) (C := Try.checked) false ⟨#[], #[.agg #[.int .i16 0, .int .i16 0], .agg #[.int .i16 0, .int .i16 0], .agg #[.int .i16 0, .int .i16 0], .agg #[.int .i16 0, .int .i16 0], .int .u16 0], []⟩ 8 (by kernel_rfl) (by kernel_rfl) (by kernel_rfl) (by kernel_rfl))
theorem pressCircle_holds : Rows.PressCircleSaid :=
  OpenClaim.holds_of_wide 8 Try.f8 rfl rfl rfl rfl rfl rfl rfl ⟨rfl, rfl, rfl, rfl, rfl⟩ rfl rfl rfl rfl rfl (by kernel_rfl) Try.func8 (by kernel_rfl)
    (of_decide_eq_true (by kernel_rfl)) (by unfold Func.isWrapper; first | (rw [if_pos (by decide +kernel)]; kernel_rfl) | (rw [if_neg (by decide +kernel)]; exact ⟨rfl, rfl⟩))
    (fun os started H enc _ => pressCircle_lifted os started H enc)
end Go.Proofs.Ythfdbmgjkjeccaa
