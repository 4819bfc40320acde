/- PressKnown returns true: the examples of the chapter hold (a closed statement, without conditions). -/
import Derived.Test.YthfdbmgjkjeccaaPrPressKnownC
import Derived.Test.YthfdbmgjkjeccaaXc
import Derived.Test.YthfdbmgjkjeccaaRows
import Derived.ProofKit
namespace Go.Sx
open Go Go.Proofs
theorem law17 (rows : List (List Cell)) (H0 : WfRows [] rows) : PSpec Try.prog 17 (xvs [] rows) (.x (.one (.prp True instDecidableTrue))) := by
  cases H0.nil_inv
  exact s17
end Go.Sx
namespace Go.Proofs.Ythfdbmgjkjeccaa
open Go.Sx
set_option maxRecDepth 100000 in
theorem pressKnown_lifted (os : Os) (started : os.Started) (H : Type) (enc : TypeId × Value → H) :
    ReturnsInHanded {} Try.checked os 17 .any (Rows.pressKnownSpec.pre6 enc Try.prog Try.f17 Rows.pressKnownRow.domain false) (Rows.pressKnownSpec.post enc Try.prog Try.f17 false true false false) :=
  lifted_true (by kernel_rfl) started (by kernel_rfl) (by kernel_rfl) Try.func17 e17 4 rfl Try.underlying4 (by kernel_rfl) rfl
    (fun ds h => match ds, h with | [], _ => rfl) _ (by kernel_rfl) law17
    (ChangeSpec.witness6 (enc := enc) (C := Try.checked) false ⟨#[], #[], []⟩ 8 (by kernel_rfl) (by kernel_rfl) (by kernel_rfl) (by kernel_rfl))
theorem pressKnown_holds : Rows.PressKnownSaid :=
  OpenClaim.holds_of_wide 17 Try.f17 rfl rfl rfl rfl rfl rfl rfl ⟨rfl, rfl, rfl, rfl, rfl⟩ rfl rfl rfl rfl rfl (by kernel_rfl) Try.func17 (by kernel_rfl)
    (of_decide_eq_true (by kernel_rfl)) (by unfold Func.isWrapper; first | (rw [if_pos (by decide +kernel)]; kernel_rfl) | (rw [if_neg (by decide +kernel)]; exact ⟨rfl, rfl⟩))
    (fun os started H enc _ => pressKnown_lifted os started H enc)
end Go.Proofs.Ythfdbmgjkjeccaa
