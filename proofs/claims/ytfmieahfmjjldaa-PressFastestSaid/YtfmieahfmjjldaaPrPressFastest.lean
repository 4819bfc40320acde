/- the fastest way is what the definition says, or the error. (any machine that has at most 120 degrees between Room and Top, and a Hold of at most 10, or that is not valid; any temperature.) -/
import Derived.Test.YtfmieahfmjjldaaPrPressFastestA
import Derived.Test.YtfmieahfmjjldaaXd
import Derived.Test.YtfmieahfmjjldaaRows
import Derived.ProofKit
namespace Go.Sx
open Go Go.Proofs
theorem law3 (rows : List (List Cell)) (H0 : WfRows [(true, [.int .i64, .int .i64, .int .i64, .int .i64, .int .i64, .int .i64, .int .i64, .int .i64, .int .i64]), (false, [.int .i64])] rows) : PSpec Try.prog 3 (xvs [(true, [.int .i64, .int .i64, .int .i64, .int .i64, .int .i64, .int .i64, .int .i64, .int .i64, .int .i64]), (false, [.int .i64])] rows) (.x (.one (.prp True instDecidableTrue))) := by
  obtain ⟨r0, _, rfl, k0_0, H1⟩ := H0.inv
  obtain ⟨c0_0, _, rfl, g0_0, k0_1⟩ := k0_0.inv
  obtain ⟨a0_0, rfl, h0_0⟩ := g0_0.int_inv
  obtain ⟨c0_1, _, rfl, g0_1, k0_2⟩ := k0_1.inv
  obtain ⟨a0_1, rfl, h0_1⟩ := g0_1.int_inv
  obtain ⟨c0_2, _, rfl, g0_2, k0_3⟩ := k0_2.inv
  obtain ⟨a0_2, rfl, h0_2⟩ := g0_2.int_inv
  obtain ⟨c0_3, _, rfl, g0_3, k0_4⟩ := k0_3.inv
  obtain ⟨a0_3, rfl, h0_3⟩ := g0_3.int_inv
  obtain ⟨c0_4, _, rfl, g0_4, k0_5⟩ := k0_4.inv
  obtain ⟨a0_4, rfl, h0_4⟩ := g0_4.int_inv
  obtain ⟨c0_5, _, rfl, g0_5, k0_6⟩ := k0_5.inv
  obtain ⟨a0_5, rfl, h0_5⟩ := g0_5.int_inv
  obtain ⟨c0_6, _, rfl, g0_6, k0_7⟩ := k0_6.inv
  obtain ⟨a0_6, rfl, h0_6⟩ := g0_6.int_inv
  obtain ⟨c0_7, _, rfl, g0_7, k0_8⟩ := k0_7.inv
  obtain ⟨a0_7, rfl, h0_7⟩ := g0_7.int_inv
  obtain ⟨c0_8, _, rfl, g0_8, k0_9⟩ := k0_8.inv
  obtain ⟨a0_8, rfl, h0_8⟩ := g0_8.int_inv
  cases k0_9.nil_inv
  obtain ⟨a1, _, rfl, h1, H2⟩ := H1.int
  cases H2.nil_inv
  exact s3 ⟨a0_0, a0_1, a0_2, a0_3, a0_4, a0_5, a0_6, a0_7, a0_8⟩ a1
end Go.Sx
namespace Go.Proofs.Ytfmieahfmjjldaa
open Go.Sx
set_option maxRecDepth 100000 in
theorem pressFastest_lifted (os : Os) (started : os.Started) (H : Type) (enc : TypeId × Value → H) :
    ReturnsInHanded {} Try.checked os 3 .any (Rows.pressFastestSpec.pre6 enc Try.prog Try.f3 Rows.pressFastestRow.domain false) (Rows.pressFastestSpec.post enc Try.prog Try.f3 false true false false) :=
  lifted_true (by kernel_rfl) started (by kernel_rfl) (by kernel_rfl) Try.func3 e3 4 rfl Try.underlying4 (by kernel_rfl) rfl
    (fun ds h => match ds, h with | [_, _], _ => rfl) _ (by kernel_rfl) law3
    (ChangeSpec.witness6 (enc := enc) (C := Try.checked) false ⟨#[], #[.agg #[.int .i64 0, .int .i64 0, .int .i64 0, .int .i64 0, .int .i64 0, .int .i64 0, .int .i64 0, .int .i64 0, .int .i64 0], .int .i64 0], []⟩ 8 (by kernel_rfl) (by kernel_rfl) (by kernel_rfl) (by kernel_rfl))
theorem pressFastest_holds : Rows.PressFastestSaid :=
  OpenClaim.holds_of_wide 3 Try.f3 rfl rfl rfl rfl rfl rfl rfl ⟨rfl, rfl, rfl, rfl, rfl⟩ rfl rfl rfl rfl rfl (by kernel_rfl) Try.func3 (by kernel_rfl)
    (of_decide_eq_true (by kernel_rfl)) (by unfold Func.isWrapper; first | (rw [if_pos (by decide +kernel)]; kernel_rfl) | (rw [if_neg (by decide +kernel)]; exact ⟨rfl, rfl⟩))
    (fun os started H enc _ => pressFastest_lifted os started H enc)
end Go.Proofs.Ytfmieahfmjjldaa
