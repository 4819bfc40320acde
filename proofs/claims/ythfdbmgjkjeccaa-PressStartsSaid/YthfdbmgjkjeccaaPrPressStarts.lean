/- The given law PressStarts returns true for every profile, starting point, count and list of points, and leaves its arguments as they were. No conditions. -/
import Derived.Test.YthfdbmgjkjeccaaPrPressStartsA
import Derived.Test.YthfdbmgjkjeccaaXc
import Derived.Test.YthfdbmgjkjeccaaRows
import Derived.ProofKit
namespace Go.Sx
open Go Go.Proofs
theorem law4 (rows : List (List Cell)) (h : WfRows [(false, [.int .i64]), (false, [.int .i64]), (false, [.int .i64]), (false, [.int .i64]), (false, [.int .i64]), (false, [.sl [.int .i64]])] rows) : PSpec Try.prog 4 (xvs [(false, [.int .i64]), (false, [.int .i64]), (false, [.int .i64]), (false, [.int .i64]), (false, [.int .i64]), (false, [.sl [.int .i64]])] rows) (.x (.one (.prp True instDecidableTrue))) := by
  obtain ⟨p, _, rfl, _, h⟩ := h.int
  obtain ⟨q, _, rfl, _, h⟩ := h.int
  obtain ⟨s, _, rfl, _, h⟩ := h.int
  obtain ⟨r, _, rfl, _, h⟩ := h.int
  obtain ⟨n, _, rfl, _, h⟩ := h.int
  obtain ⟨xs, _, rfl, _, h2, h⟩ := h.ints
  cases h.nil_inv
  exact s4 p q s r n xs (fun j => getD_inR h2 (by decide) j)
end Go.Sx
namespace Go.Proofs.Ythfdbmgjkjeccaa
open Go.Sx
set_option maxRecDepth 100000 in
theorem pressStarts_lifted (os : Os) (started : os.Started) (H : Type) (enc : TypeId × Value → H) :
    ReturnsInHanded {} Try.checked os 4 .any (Rows.pressStartsSpec.pre6 enc Try.prog Try.f4 Rows.pressStartsRow.domain false) (Rows.pressStartsSpec.post enc Try.prog Try.f4 false true false false) :=
  lifted_true (by kernel_rfl) started (by kernel_rfl) (by kernel_rfl) Try.func4 e4 4 rfl Try.underlying4 (by kernel_rfl) rfl
    (fun ds h => match ds, h with | [_, _, _, _, _, _], _ => rfl) _ (by kernel_rfl) law4
    (ChangeSpec.witness6 (enc := enc) (C := Try.checked) false ⟨#[], #[.int .i64 0, .int .i64 0, .int .i64 0, .int .i64 0, .int .i64 0, .slice none 0 0], []⟩ 8 (by kernel_rfl) (by kernel_rfl) (by kernel_rfl) (by kernel_rfl))
theorem pressStarts_holds : Rows.PressStartsSaid :=
  OpenClaim.holds_of_wide 4 Try.f4 rfl rfl rfl rfl rfl rfl rfl ⟨rfl, rfl, rfl, rfl, rfl⟩ rfl rfl rfl rfl rfl (by kernel_rfl) Try.func4 (by kernel_rfl)
    (of_decide_eq_true (by kernel_rfl)) (by unfold Func.isWrapper; first | (rw [if_pos (by decide +kernel)]; kernel_rfl) | (rw [if_neg (by decide +kernel)]; exact ⟨rfl, rfl⟩))
    (fun os started H enc _ => pressStarts_lifted os started H enc)
end Go.Proofs.Ythfdbmgjkjeccaa
