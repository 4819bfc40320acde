/- The given law PressEarlier returns true for every input, and leaves its arguments as they were. No conditions. -/
import Derived.Test.YthfdbmgjkjeccaaPrPressEarlierA
import Derived.Test.YthfdbmgjkjeccaaXc
import Derived.Test.YthfdbmgjkjeccaaRows
import Derived.ProofKit
namespace Go.Sx
open Go Go.Proofs
theorem law5 (rows : List (List Cell)) (h : WfRows [(false, [.int .u8]), (false, [.int .u8]), (false, [.int .u16]), (false, [.int .u16]), (false, [.sl [.int .i64]]), (true, [.int .u8, .int .u8])] rows) : PSpec Try.prog 5 (xvs [(false, [.int .u8]), (false, [.int .u8]), (false, [.int .u16]), (false, [.int .u16]), (false, [.sl [.int .i64]]), (true, [.int .u8, .int .u8])] rows) (.x (.one (.prp True instDecidableTrue))) := by
  obtain ⟨p, _, rfl, hp, h⟩ := h.int
  obtain ⟨q, _, rfl, hq, h⟩ := h.int
  obtain ⟨s, _, rfl, hs, h⟩ := h.int
  obtain ⟨r, _, rfl, hr, h⟩ := h.int
  obtain ⟨xs, _, rfl, _, hx, h⟩ := h.ints
  obtain ⟨ab, _, rfl, h1, h⟩ := h.inv
  cases h.nil_inv
  obtain ⟨a, _, rfl, hu, h1⟩ := h1.inv
  obtain ⟨b, _, rfl, hv, h1⟩ := h1.inv
  cases h1.nil_inv
  obtain ⟨u, rfl, hu'⟩ := hu.int_inv
  obtain ⟨v, rfl, hv'⟩ := hv.int_inv
  exact s5 p q s r u v xs hp hq hs hr hu' hv' (fun j => getD_inR hx (by decide) j)
end Go.Sx
namespace Go.Proofs.Ythfdbmgjkjeccaa
open Go.Sx
set_option maxRecDepth 100000 in
theorem pressEarlier_lifted (os : Os) (started : os.Started) (H : Type) (enc : TypeId × Value → H) :
    ReturnsInHanded {} Try.checked os 5 .any (Rows.pressEarlierSpec.pre6 enc Try.prog Try.f5 Rows.pressEarlierRow.domain false) (Rows.pressEarlierSpec.post enc Try.prog Try.f5 false true false false) :=
  lifted_true (by kernel_rfl) started (by kernel_rfl) (by kernel_rfl) Try.func5 e5 4 rfl Try.underlying4 (by kernel_rfl) rfl
    (fun ds h => match ds, h with | [_, _, _, _, _, _], _ => rfl) _ (by kernel_rfl) law5
    (ChangeSpec.witness6 (enc := enc) (C := Try.checked) false ⟨#[], #[.int .u8 0, .int .u8 0, .int .u16 0, .int .u16 0, .slice none 0 0, .agg #[.int .u8 0, .int .u8 0]], []⟩ 8 (by kernel_rfl) (by kernel_rfl) (by kernel_rfl) (by kernel_rfl))
theorem pressEarlier_holds : Rows.PressEarlierSaid :=
  OpenClaim.holds_of_wide 5 Try.f5 rfl rfl rfl rfl rfl rfl rfl ⟨rfl, rfl, rfl, rfl, rfl⟩ rfl rfl rfl rfl rfl (by kernel_rfl) Try.func5 (by kernel_rfl)
    (of_decide_eq_true (by kernel_rfl)) (by unfold Func.isWrapper; first | (rw [if_pos (by decide +kernel)]; kernel_rfl) | (rw [if_neg (by decide +kernel)]; exact ⟨rfl, rfl⟩))
    (fun os started H enc _ => pressEarlier_lifted os started H enc)
end Go.Proofs.Ythfdbmgjkjeccaa
