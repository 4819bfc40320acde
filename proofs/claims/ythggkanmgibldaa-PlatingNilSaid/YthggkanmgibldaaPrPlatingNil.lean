/- a shop that no function returned is not valid. (any act and numbers.) -/
import Derived.Test.YthggkanmgibldaaPrPlatingNilB
import Derived.Test.YthggkanmgibldaaXc
import Derived.Test.YthggkanmgibldaaRows
import Derived.ProofKit
namespace Go.Sx
open Go Go.Proofs
theorem law15 (rows : List (List Cell)) (H0 : WfRows [(true, [.int .i64, .int .i64, .int .i64, .int .i64, .int .i64, .int .i64, .int .i64, .int .i64, .int .i64, .int .i64, .int .i64, .int .i64, .int .i64]), (false, [.int .i64])] rows) : PSpec Try.prog 15 (xvs [(true, [.int .i64, .int .i64, .int .i64, .int .i64, .int .i64, .int .i64, .int .i64, .int .i64, .int .i64, .int .i64, .int .i64, .int .i64, .int .i64]), (false, [.int .i64])] rows) (.x (.one (.prp True instDecidableTrue))) := by
  obtain ⟨r0, _, rfl, k0_0, H1⟩ := H0.inv
  obtain ⟨c0_0, _, rfl, g0_0, k0_1⟩ := k0_0.inv
  obtain ⟨n0_0, rfl, q0_0⟩ := g0_0.int_inv
  obtain ⟨c0_1, _, rfl, g0_1, k0_2⟩ := k0_1.inv
  obtain ⟨n0_1, rfl, q0_1⟩ := g0_1.int_inv
  obtain ⟨c0_2, _, rfl, g0_2, k0_3⟩ := k0_2.inv
  obtain ⟨n0_2, rfl, q0_2⟩ := g0_2.int_inv
  obtain ⟨c0_3, _, rfl, g0_3, k0_4⟩ := k0_3.inv
  obtain ⟨n0_3, rfl, q0_3⟩ := g0_3.int_inv
  obtain ⟨c0_4, _, rfl, g0_4, k0_5⟩ := k0_4.inv
  obtain ⟨n0_4, rfl, q0_4⟩ := g0_4.int_inv
  obtain ⟨c0_5, _, rfl, g0_5, k0_6⟩ := k0_5.inv
  obtain ⟨n0_5, rfl, q0_5⟩ := g0_5.int_inv
  obtain ⟨c0_6, _, rfl, g0_6, k0_7⟩ := k0_6.inv
  obtain ⟨n0_6, rfl, q0_6⟩ := g0_6.int_inv
  obtain ⟨c0_7, _, rfl, g0_7, k0_8⟩ := k0_7.inv
  obtain ⟨n0_7, rfl, q0_7⟩ := g0_7.int_inv
  obtain ⟨c0_8, _, rfl, g0_8, k0_9⟩ := k0_8.inv
  obtain ⟨n0_8, rfl, q0_8⟩ := g0_8.int_inv
  obtain ⟨c0_9, _, rfl, g0_9, k0_10⟩ := k0_9.inv
  obtain ⟨n0_9, rfl, q0_9⟩ := g0_9.int_inv
  obtain ⟨c0_10, _, rfl, g0_10, k0_11⟩ := k0_10.inv
  obtain ⟨n0_10, rfl, q0_10⟩ := g0_10.int_inv
  obtain ⟨c0_11, _, rfl, g0_11, k0_12⟩ := k0_11.inv
  obtain ⟨n0_11, rfl, q0_11⟩ := g0_11.int_inv
  obtain ⟨c0_12, _, rfl, g0_12, k0_13⟩ := k0_12.inv
  obtain ⟨n0_12, rfl, q0_12⟩ := g0_12.int_inv
  cases k0_13.nil_inv
  obtain ⟨a1, _, rfl, b1, H2⟩ := H1.int
  cases H2.nil_inv
  exact s15 ⟨n0_0, n0_1, n0_2, n0_3, n0_4, n0_5, n0_6, n0_7, n0_8, n0_9, n0_10, n0_11, n0_12⟩ a1
end Go.Sx
namespace Go.Proofs.Ythggkanmgibldaa
open Go.Sx
set_option maxRecDepth 100000 in
theorem platingNil_lifted (os : Os) (started : os.Started) (H : Type) (enc : TypeId × Value → H) :
    ReturnsInHanded {} Try.checked os 15 .any (Rows.platingNilSpec.pre6 enc Try.prog Try.f15 Rows.platingNilRow.domain false) (Rows.platingNilSpec.post enc Try.prog Try.f15 false true false false) :=
  lifted_true (by kernel_rfl) started (by kernel_rfl) (by kernel_rfl) Try.func15 e15 4 rfl Try.underlying4 (by kernel_rfl) rfl
    (fun ds h => match ds, h with | [_, _], _ => rfl) _ (by kernel_rfl) law15
    (ChangeSpec.witness6 (enc := enc) (C := Try.checked) false ⟨#[], #[.agg #[.int .i64 0, .int .i64 0, .int .i64 0, .int .i64 0, .int .i64 0, .int .i64 0, .int .i64 0, .int .i64 0, .int .i64 0, .int .i64 0, .int .i64 0, .int .i64 0, .int .i64 0], .int .i64 0], []⟩ 8 (by kernel_rfl) (by kernel_rfl) (by kernel_rfl) (by kernel_rfl))
theorem platingNil_holds : Rows.PlatingNilSaid :=
  OpenClaim.holds_of_wide 15 Try.f15 rfl rfl rfl rfl rfl rfl rfl ⟨rfl, rfl, rfl, rfl, rfl⟩ rfl rfl rfl rfl rfl (by kernel_rfl) Try.func15 (by kernel_rfl)
    (of_decide_eq_true (by kernel_rfl)) (by unfold Func.isWrapper; first | (rw [if_pos (by decide +kernel)]; kernel_rfl) | (rw [if_neg (by decide +kernel)]; exact ⟨rfl, rfl⟩))
    (fun os started H enc _ => platingNil_lifted os started H enc)
end Go.Proofs.Ythggkanmgibldaa
