/- PressLasting is proved: for any lists of at most 64 stampers of a side (longer ones give true at once) and any number of discs the statement returns true. -/
import Derived.Test.YthfdbmgjkjeccaaPrPressLastingA
import Derived.Test.YthfdbmgjkjeccaaXc
import Derived.Test.YthfdbmgjkjeccaaRows
import Derived.ProofKit
namespace Go.Sx
open Go Go.Proofs
theorem law10 (rows : List (List Cell)) (H0 : WfRows [(false, [.sl [.int .u8]]), (false, [.sl [.int .u8]]), (false, [.int .u16])] rows) : PSpec Try.prog 10 (xvs [(false, [.sl [.int .u8]]), (false, [.sl [.int .u8]]), (false, [.int .u16])] rows) (.x (.one (.prp True instDecidableTrue))) := by
  obtain ⟨a0, _, rfl, l0, h0, H1⟩ := H0.ints
  obtain ⟨a1, _, rfl, l1, h1, H2⟩ := H1.ints
  obtain ⟨a2, _, rfl, h2, H3⟩ := H2.int
  cases H3.nil_inv
  exact s10 a0 a1 a2 (fun j => getD_inR h0 (by decide) j) (fun j => getD_inR h1 (by decide) j) h2
end Go.Sx
namespace Go.Proofs.Ythfdbmgjkjeccaa
open Go.Sx
set_option maxRecDepth 100000 in
theorem pressLasting_lifted (os : Os) (started : os.Started) (H : Type) (enc : TypeId × Value → H) :
    ReturnsInHanded {} Try.checked os 10 .any (Rows.pressLastingSpec.pre6 enc Try.prog Try.f10 Rows.pressLastingRow.domain false) (Rows.pressLastingSpec.post enc Try.prog Try.f10 false true false false) :=
  lifted_true (by kernel_rfl) started (by kernel_rfl) (by kernel_rfl) Try.func10 e10 4 rfl Try.underlying4 (by kernel_rfl) rfl
    (fun ds h => match ds, h with | [_, _, _], _ => rfl) _ (by kernel_rfl) law10
    (ChangeSpec.witness6 (enc := enc) (C := Try.checked) false ⟨#[], #[.slice none 0 0, .slice none 0 0, .int .u16 0], []⟩ 8 (by kernel_rfl) (by kernel_rfl) (by kernel_rfl) (by kernel_rfl))
theorem pressLasting_holds : Rows.PressLastingSaid :=
  OpenClaim.holds_of_wide 10 Try.f10 rfl rfl rfl rfl rfl rfl rfl ⟨rfl, rfl, rfl, rfl, rfl⟩ rfl rfl rfl rfl rfl (by kernel_rfl) Try.func10 (by kernel_rfl)
    (of_decide_eq_true (by kernel_rfl)) (by unfold Func.isWrapper; first | (rw [if_pos (by decide +kernel)]; kernel_rfl) | (rw [if_neg (by decide +kernel)]; exact ⟨rfl, rfl⟩))
    (fun os started H enc _ => pressLasting_lifted os started H enc)
end Go.Proofs.Ythfdbmgjkjeccaa
