/- The given law PressMounts returns true for any two lists of stampers and any number of discs, and leaves its arguments as they were. No conditions. -/
import Derived.Test.YthfdbmgjkjeccaaPrPressMountsA
import Derived.Test.YthfdbmgjkjeccaaXc
import Derived.Test.YthfdbmgjkjeccaaRows
import Derived.ProofKit
namespace Go.Sx
open Go Go.Proofs
theorem law9 (rows : List (List Cell)) (H0 : WfRows [(false, [.sl [.int .i64]]), (false, [.sl [.int .i64]]), (false, [.int .i64])] rows) : PSpec Try.prog 9 (xvs [(false, [.sl [.int .i64]]), (false, [.sl [.int .i64]]), (false, [.int .i64])] rows) (.x (.one (.prp True instDecidableTrue))) := by
  obtain ⟨a0, _, rfl, l0, h0, H1⟩ := H0.ints
  obtain ⟨a1, _, rfl, l1, h1, H2⟩ := H1.ints
  obtain ⟨a2, _, rfl, h2, H3⟩ := H2.int
  cases H3.nil_inv
  exact s9 a0 a1 a2
end Go.Sx
namespace Go.Proofs.Ythfdbmgjkjeccaa
open Go.Sx
set_option maxRecDepth 100000 in
theorem pressMounts_lifted (os : Os) (started : os.Started) (H : Type) (enc : TypeId × Value → H) :
    ReturnsInHanded {} Try.checked os 9 .any (Rows.pressMountsSpec.pre6 enc Try.prog Try.f9 Rows.pressMountsRow.domain false) (Rows.pressMountsSpec.post enc Try.prog Try.f9 false true false false) :=
  lifted_true (by kernel_rfl) started (by kernel_rfl) (by kernel_rfl) Try.func9 e9 4 rfl Try.underlying4 (by kernel_rfl) rfl
    (fun ds h => match ds, h with | [_, _, _], _ => rfl) _ (by kernel_rfl) law9
    (ChangeSpec.witness6 (enc := enc) (C := Try.checked) false ⟨#[], #[.slice none 0 0, .slice none 0 0, .int .i64 0], []⟩ 8 (by kernel_rfl) (by kernel_rfl) (by kernel_rfl) (by kernel_rfl))
theorem pressMounts_holds : Rows.PressMountsSaid :=
  OpenClaim.holds_of_wide 9 Try.f9 rfl rfl rfl rfl rfl rfl rfl ⟨rfl, rfl, rfl, rfl, rfl⟩ rfl rfl rfl rfl rfl (by kernel_rfl) Try.func9 (by kernel_rfl)
    (of_decide_eq_true (by kernel_rfl)) (by unfold Func.isWrapper; first | (rw [if_pos (by decide +kernel)]; kernel_rfl) | (rw [if_neg (by decide +kernel)]; exact ⟨rfl, rfl⟩))
    (fun os started H enc _ => pressMounts_lifted os started H enc)
end Go.Proofs.Ythfdbmgjkjeccaa
