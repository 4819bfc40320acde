/- the least seconds of a growth, and the growths needed for some stampers, are what the definitions say, or the error. Conditions: any recipe, at most 60 acts, any act, plate and number -/
import Derived.Test.YthggkanmgibldaaPrPlatingPlansB
import Derived.Test.YthggkanmgibldaaXc
import Derived.Test.YthggkanmgibldaaRows
import Derived.ProofKit
namespace Go.Sx
open Go Go.Proofs
theorem law5 (rows : List (List Cell)) (H0 : WfRows [(true, [.int .i64, .int .i64, .int .i64, .int .i64, .int .i64, .int .i64, .int .i64, .int .i64, .int .i64, .int .i64, .int .i64, .int .i64, .int .i64]), (false, [.sl [.int .i64, .int .i64, .int .i64, .int .i64, .int .i64, .int .i64, .int .i64, .int .i64, .int .i64, .int .i64, .int .i64, .int .i64, .int .i64]]), (true, [.int .i64, .int .i64, .int .i64, .int .i64, .int .i64, .int .i64, .int .i64, .int .i64, .int .i64, .int .i64, .int .i64, .int .i64, .int .i64]), (false, [.int .i64]), (false, [.int .i64])] rows) : PSpec Try.prog 5 (xvs [(true, [.int .i64, .int .i64, .int .i64, .int .i64, .int .i64, .int .i64, .int .i64, .int .i64, .int .i64, .int .i64, .int .i64, .int .i64, .int .i64]), (false, [.sl [.int .i64, .int .i64, .int .i64, .int .i64, .int .i64, .int .i64, .int .i64, .int .i64, .int .i64, .int .i64, .int .i64, .int .i64, .int .i64]]), (true, [.int .i64, .int .i64, .int .i64, .int .i64, .int .i64, .int .i64, .int .i64, .int .i64, .int .i64, .int .i64, .int .i64, .int .i64, .int .i64]), (false, [.int .i64]), (false, [.int .i64])] rows) (.x (.one (.prp True instDecidableTrue))) := by
  obtain ⟨r0, _, rfl, k0_0, H1⟩ := H0.inv
  obtain ⟨c0_0, _, rfl, g0_0, k0_1⟩ := k0_0.inv
  obtain ⟨n0_0, rfl, q0_0⟩ := g0_0.int_inv
  obtain ⟨c0_1, _, rfl, g0_1, k0_2⟩ := k0_1.inv
  obtain ⟨n0_1, rfl, q0_1⟩ := g0_1.int_inv
  obtain ⟨c0_2, _, rfl, g0_2, k0_3⟩ := k0_2.inv
  obtain ⟨n0_2, rfl, q0_2⟩ := g0_2.int_inv
  obtain ⟨c0_3, _, rfl, g0_3, k0_4⟩ := k0_3.inv
  obtain ⟨n0_3, rfl, q0_3⟩ := g0_3.int_inv
  obtain ⟨c0_4, _, rfl, g0_4, k0_5⟩ := k0_4.inv
  obtain ⟨n0_4, rfl, q0_4⟩ := g0_4.int_inv
  obtain ⟨c0_5, _, rfl, g0_5, k0_6⟩ := k0_5.inv
  obtain ⟨n0_5, rfl, q0_5⟩ := g0_5.int_inv
  obtain ⟨c0_6, _, rfl, g0_6, k0_7⟩ := k0_6.inv
  obtain ⟨n0_6, rfl, q0_6⟩ := g0_6.int_inv
  obtain ⟨c0_7, _, rfl, g0_7, k0_8⟩ := k0_7.inv
  obtain ⟨n0_7, rfl, q0_7⟩ := g0_7.int_inv
  obtain ⟨c0_8, _, rfl, g0_8, k0_9⟩ := k0_8.inv
  obtain ⟨n0_8, rfl, q0_8⟩ := g0_8.int_inv
  obtain ⟨c0_9, _, rfl, g0_9, k0_10⟩ := k0_9.inv
  obtain ⟨n0_9, rfl, q0_9⟩ := g0_9.int_inv
  obtain ⟨c0_10, _, rfl, g0_10, k0_11⟩ := k0_10.inv
  obtain ⟨n0_10, rfl, q0_10⟩ := g0_10.int_inv
  obtain ⟨c0_11, _, rfl, g0_11, k0_12⟩ := k0_11.inv
  obtain ⟨n0_11, rfl, q0_11⟩ := g0_11.int_inv
  obtain ⟨c0_12, _, rfl, g0_12, k0_13⟩ := k0_12.inv
  obtain ⟨n0_12, rfl, q0_12⟩ := g0_12.int_inv
  cases k0_13.nil_inv
  obtain ⟨x1, _, rfl, w1, H2⟩ := H1.sl
  obtain ⟨a1, rfl⟩ := wf_acts w1
  obtain ⟨r2, _, rfl, k2_0, H3⟩ := H2.inv
  obtain ⟨c2_0, _, rfl, g2_0, k2_1⟩ := k2_0.inv
  obtain ⟨n2_0, rfl, q2_0⟩ := g2_0.int_inv
  obtain ⟨c2_1, _, rfl, g2_1, k2_2⟩ := k2_1.inv
  obtain ⟨n2_1, rfl, q2_1⟩ := g2_1.int_inv
  obtain ⟨c2_2, _, rfl, g2_2, k2_3⟩ := k2_2.inv
  obtain ⟨n2_2, rfl, q2_2⟩ := g2_2.int_inv
  obtain ⟨c2_3, _, rfl, g2_3, k2_4⟩ := k2_3.inv
  obtain ⟨n2_3, rfl, q2_3⟩ := g2_3.int_inv
  obtain ⟨c2_4, _, rfl, g2_4, k2_5⟩ := k2_4.inv
  obtain ⟨n2_4, rfl, q2_4⟩ := g2_4.int_inv
  obtain ⟨c2_5, _, rfl, g2_5, k2_6⟩ := k2_5.inv
  obtain ⟨n2_5, rfl, q2_5⟩ := g2_5.int_inv
  obtain ⟨c2_6, _, rfl, g2_6, k2_7⟩ := k2_6.inv
  obtain ⟨n2_6, rfl, q2_6⟩ := g2_6.int_inv
  obtain ⟨c2_7, _, rfl, g2_7, k2_8⟩ := k2_7.inv
  obtain ⟨n2_7, rfl, q2_7⟩ := g2_7.int_inv
  obtain ⟨c2_8, _, rfl, g2_8, k2_9⟩ := k2_8.inv
  obtain ⟨n2_8, rfl, q2_8⟩ := g2_8.int_inv
  obtain ⟨c2_9, _, rfl, g2_9, k2_10⟩ := k2_9.inv
  obtain ⟨n2_9, rfl, q2_9⟩ := g2_9.int_inv
  obtain ⟨c2_10, _, rfl, g2_10, k2_11⟩ := k2_10.inv
  obtain ⟨n2_10, rfl, q2_10⟩ := g2_10.int_inv
  obtain ⟨c2_11, _, rfl, g2_11, k2_12⟩ := k2_11.inv
  obtain ⟨n2_11, rfl, q2_11⟩ := g2_11.int_inv
  obtain ⟨c2_12, _, rfl, g2_12, k2_13⟩ := k2_12.inv
  obtain ⟨n2_12, rfl, q2_12⟩ := g2_12.int_inv
  cases k2_13.nil_inv
  obtain ⟨a3, _, rfl, b3, H4⟩ := H3.int
  obtain ⟨a4, _, rfl, b4, H5⟩ := H4.int
  cases H5.nil_inv
  exact s5 ⟨n0_0, n0_1, n0_2, n0_3, n0_4, n0_5, n0_6, n0_7, n0_8, n0_9, n0_10, n0_11, n0_12⟩ a1 ⟨n2_0, n2_1, n2_2, n2_3, n2_4, n2_5, n2_6, n2_7, n2_8, n2_9, n2_10, n2_11, n2_12⟩ a3 a4
end Go.Sx
namespace Go.Proofs.Ythggkanmgibldaa
open Go.Sx
set_option maxRecDepth 100000 in
theorem platingPlans_lifted (os : Os) (started : os.Started) (H : Type) (enc : TypeId × Value → H) :
    ReturnsInHanded {} Try.checked os 5 .any (Rows.platingPlansSpec.pre6 enc Try.prog Try.f5 Rows.platingPlansRow.domain false) (Rows.platingPlansSpec.post enc Try.prog Try.f5 false true false false) :=
  lifted_true (by kernel_rfl) started (by kernel_rfl) (by kernel_rfl) Try.func5 e5 4 rfl Try.underlying4 (by kernel_rfl) rfl
    (fun ds h => match ds, h with | [_, _, _, _, _], _ => rfl) _ (by kernel_rfl) law5
    (ChangeSpec.witness6 (enc := enc) (C := Try.checked) false ⟨#[], #[.agg #[.int .i64 0, .int .i64 0, .int .i64 0, .int .i64 0, .int .i64 0, .int .i64 0, .int .i64 0, .int .i64 0, .int .i64 0, .int .i64 0, .int .i64 0, .int .i64 0, .int .i64 0], .slice none 0 0, .agg #[.int .i64 0, .int .i64 0, .int .i64 0, .int .i64 0, .int .i64 0, .int .i64 0, .int .i64 0, .int .i64 0, .int .i64 0, .int .i64 0, .int .i64 0, .int .i64 0, .int .i64 0], .int .i64 0, .int .i64 0], []⟩ 8 (by kernel_rfl) (by kernel_rfl) (by kernel_rfl) (by kernel_rfl))
theorem platingPlans_holds : Rows.PlatingPlansSaid :=
  OpenClaim.holds_of_wide 5 Try.f5 rfl rfl rfl rfl rfl rfl rfl ⟨rfl, rfl, rfl, rfl, rfl⟩ rfl rfl rfl rfl rfl (by kernel_rfl) Try.func5 (by kernel_rfl)
    (of_decide_eq_true (by kernel_rfl)) (by unfold Func.isWrapper; first | (rw [if_pos (by decide +kernel)]; kernel_rfl) | (rw [if_neg (by decide +kernel)]; exact ⟨rfl, rfl⟩))
    (fun os started H enc _ => platingPlans_lifted os started H enc)
end Go.Proofs.Ythggkanmgibldaa
