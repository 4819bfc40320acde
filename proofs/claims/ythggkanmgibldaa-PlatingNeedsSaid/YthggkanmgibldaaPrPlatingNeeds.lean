/- for as many stampers as there are nothing is needed, and for more it is more; after a growth under the plate at most one less is needed; with as many growths as are needed, each on a plate after which one less is needed, there are so many stampers. (a recipe with which all growths succeed; at most 30 acts; any plate; how many stampers more.) -/
import Derived.Test.YthggkanmgibldaaPrPlatingNeedsB
import Derived.Test.YthggkanmgibldaaXc
import Derived.Test.YthggkanmgibldaaRows
import Derived.ProofKit
namespace Go.Sx
open Go Go.Proofs
theorem law6 (rows : List (List Cell)) (H0 : WfRows [(false, [.int .u8]), (false, [.int .u8]), (false, [.sl [.int .i64, .int .i64, .int .i64, .int .i64, .int .i64, .int .i64, .int .i64, .int .i64, .int .i64, .int .i64, .int .i64, .int .i64, .int .i64]]), (false, [.int .u8]), (false, [.int .u8])] rows) : PSpec Try.prog 6 (xvs [(false, [.int .u8]), (false, [.int .u8]), (false, [.sl [.int .i64, .int .i64, .int .i64, .int .i64, .int .i64, .int .i64, .int .i64, .int .i64, .int .i64, .int .i64, .int .i64, .int .i64, .int .i64]]), (false, [.int .u8]), (false, [.int .u8])] rows) (.x (.one (.prp True instDecidableTrue))) := by
  obtain ⟨a0, _, rfl, b0, H1⟩ := H0.int
  obtain ⟨a1, _, rfl, b1, H2⟩ := H1.int
  obtain ⟨x2, _, rfl, w2, H3⟩ := H2.sl
  obtain ⟨a2, rfl⟩ := wf_acts w2
  obtain ⟨a3, _, rfl, b3, H4⟩ := H3.int
  obtain ⟨a4, _, rfl, b4, H5⟩ := H4.int
  cases H5.nil_inv
  exact s6 a0 a1 a2 a3 a4 b0 b1 b3 b4
end Go.Sx
namespace Go.Proofs.Ythggkanmgibldaa
open Go.Sx
set_option maxRecDepth 100000 in
theorem platingNeeds_lifted (os : Os) (started : os.Started) (H : Type) (enc : TypeId × Value → H) :
    ReturnsInHanded {} Try.checked os 6 .any (Rows.platingNeedsSpec.pre6 enc Try.prog Try.f6 Rows.platingNeedsRow.domain false) (Rows.platingNeedsSpec.post enc Try.prog Try.f6 false true false false) :=
  lifted_true (by kernel_rfl) started (by kernel_rfl) (by kernel_rfl) Try.func6 e6 4 rfl Try.underlying4 (by kernel_rfl) rfl
    (fun ds h => match ds, h with | [_, _, _, _, _], _ => rfl) _ (by kernel_rfl) law6
    (ChangeSpec.witness6 (enc := enc) (C := Try.checked) false ⟨#[], #[.int .u8 0, .int .u8 0, .slice none 0 0, .int .u8 0, .int .u8 0], []⟩ 8 (by kernel_rfl) (by kernel_rfl) (by kernel_rfl) (by kernel_rfl))
theorem platingNeeds_holds : Rows.PlatingNeedsSaid :=
  OpenClaim.holds_of_wide 6 Try.f6 rfl rfl rfl rfl rfl rfl rfl ⟨rfl, rfl, rfl, rfl, rfl⟩ rfl rfl rfl rfl rfl (by kernel_rfl) Try.func6 (by kernel_rfl)
    (of_decide_eq_true (by kernel_rfl)) (by unfold Func.isWrapper; first | (rw [if_pos (by decide +kernel)]; kernel_rfl) | (rw [if_neg (by decide +kernel)]; exact ⟨rfl, rfl⟩))
    (fun os started H enc _ => platingNeeds_lifted os started H enc)
end Go.Proofs.Ythggkanmgibldaa
