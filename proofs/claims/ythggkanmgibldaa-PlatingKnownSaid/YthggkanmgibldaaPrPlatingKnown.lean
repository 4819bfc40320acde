/- the examples of the chapter. Conditions: none, a closed statement -/
import Derived.Test.YthggkanmgibldaaPrPlatingKnownB
import Derived.Test.YthggkanmgibldaaXc
import Derived.Test.YthggkanmgibldaaRows
import Derived.ProofKit
namespace Go.Sx
open Go Go.Proofs
theorem law9 (rows : List (List Cell)) (H0 : WfRows [] rows) : PSpec Try.prog 9 (xvs [] rows) (.x (.one (.prp True instDecidableTrue))) := by
  cases H0.nil_inv
  exact s9
end Go.Sx
namespace Go.Proofs.Ythggkanmgibldaa
open Go.Sx
set_option maxRecDepth 100000 in
theorem platingKnown_lifted (os : Os) (started : os.Started) (H : Type) (enc : TypeId × Value → H) :
    ReturnsInHanded {} Try.checked os 9 .any (Rows.platingKnownSpec.pre6 enc Try.prog Try.f9 Rows.platingKnownRow.domain false) (Rows.platingKnownSpec.post enc Try.prog Try.f9 false true false false) :=
  lifted_true (by kernel_rfl) started (by kernel_rfl) (by kernel_rfl) Try.func9 e9 4 rfl Try.underlying4 (by kernel_rfl) rfl
    (fun ds h => match ds, h with | [], _ => rfl) _ (by kernel_rfl) law9
    (ChangeSpec.witness6 (enc := enc) (C := Try.checked) false ⟨#[], #[], []⟩ 8 (by kernel_rfl) (by kernel_rfl) (by kernel_rfl) (by kernel_rfl))
theorem platingKnown_holds : Rows.PlatingKnownSaid :=
  OpenClaim.holds_of_wide 9 Try.f9 rfl rfl rfl rfl rfl rfl rfl ⟨rfl, rfl, rfl, rfl, rfl⟩ rfl rfl rfl rfl rfl (by kernel_rfl) Try.func9 (by kernel_rfl)
    (of_decide_eq_true (by kernel_rfl)) (by unfold Func.isWrapper; first | (rw [if_pos (by decide +kernel)]; kernel_rfl) | (rw [if_neg (by decide +kernel)]; exact ⟨rfl, rfl⟩))
    (fun os started H enc _ => platingKnown_lifted os started H enc)
end Go.Proofs.Ythggkanmgibldaa
