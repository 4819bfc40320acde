/- If prices are right, the last one is at most the cost of any possible plan, and if it is -1, there is none; if they are not, a face that ends where it is told breaks the rule. No conditions. -/
import Derived.Test.YtaehphnchiffnaaPrSidePricedA
import Derived.Test.YtaehphnchiffnaaXc
import Derived.Test.YtaehphnchiffnaaRows
import Derived.ProofKit
namespace Go.Sx
open Go Go.Proofs
theorem law6 (rows : List (List Cell)) (H0 : WfRows [(false, [.sl [.str, .int .i64, .int .i64, .int .i64, .int .i64, .int .i64, .int .i64, .int .i64]]), (false, [.sl [.int .i64, .int .i64, .int .i64]]), (false, [.sl [.int .i64]]), (false, [.sl [.int .i64, .int .i64]])] rows) : PSpec Try.prog 6 (xvs [(false, [.sl [.str, .int .i64, .int .i64, .int .i64, .int .i64, .int .i64, .int .i64, .int .i64]]), (false, [.sl [.int .i64, .int .i64, .int .i64]]), (false, [.sl [.int .i64]]), (false, [.sl [.int .i64, .int .i64]])] rows) (.x (.one (.prp True instDecidableTrue))) := by
  obtain ⟨x0, _, rfl, w0, H1⟩ := H0.sl
  obtain ⟨a0, rfl, h0⟩ := wf_fmts w0
  obtain ⟨x1, _, rfl, w1, H2⟩ := H1.sl
  obtain ⟨a1, rfl, h1⟩ := wf_sngs w1
  obtain ⟨x2, _, rfl, w2, H3⟩ := H2.sl
  obtain ⟨a2, rfl, h2⟩ := wf_ints w2
  obtain ⟨x3, _, rfl, w3, H4⟩ := H3.sl
  obtain ⟨a3, rfl, h3⟩ := wf_faces w3
  cases H4.nil_inv
  exact s6 a0 a1 a2 a3
end Go.Sx
namespace Go.Proofs.Ytaehphnchiffnaa
open Go.Sx
set_option maxRecDepth 100000 in
theorem sidePriced_lifted (os : Os) (started : os.Started) (H : Type) (enc : TypeId × Value → H) :
    ReturnsInHanded {} Try.checked os 6 .any (Rows.sidePricedSpec.pre6 enc Try.prog Try.f6 Rows.sidePricedRow.domain false) (Rows.sidePricedSpec.post enc Try.prog Try.f6 false true false false) :=
  lifted_true (by kernel_rfl) started (by kernel_rfl) (by kernel_rfl) Try.func6 e6 4 rfl Try.underlying4 (by kernel_rfl) rfl
    (fun ds h => match ds, h with | [_, _, _, _], _ => rfl) _ (by kernel_rfl) law6
    (ChangeSpec.witness6 (enc := enc) (C := Try.checked) false ⟨#[], #[.slice none 0 0, .slice none 0 0, .slice none 0 0, .slice none 0 0], []⟩ 8 (by kernel_rfl) (by kernel_rfl) (by kernel_rfl) (by kernel_rfl))
theorem sidePriced_holds : Rows.SidePricedSaid :=
  OpenClaim.holds_of_wide 6 Try.f6 rfl rfl rfl rfl rfl rfl rfl ⟨rfl, rfl, rfl, rfl, rfl⟩ rfl rfl rfl rfl rfl (by kernel_rfl) Try.func6 (by kernel_rfl)
    (of_decide_eq_true (by kernel_rfl)) (by unfold Func.isWrapper; first | (rw [if_pos (by decide +kernel)]; kernel_rfl) | (rw [if_neg (by decide +kernel)]; exact ⟨rfl, rfl⟩))
    (fun os started H enc _ => sidePriced_lifted os started H enc)
end Go.Proofs.Ytaehphnchiffnaa
