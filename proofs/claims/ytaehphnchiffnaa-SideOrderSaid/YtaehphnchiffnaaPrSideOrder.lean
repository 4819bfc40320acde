/- If any order of all tracks is possible, the usual one is; if it is not, a crowd proves that no order is (any format; at most 24 tracks; any order by places). -/
import Derived.Test.YtaehphnchiffnaaPrSideOrderC
import Derived.Test.YtaehphnchiffnaaXc
import Derived.Test.YtaehphnchiffnaaRows
import Derived.ProofKit
namespace Go.Sx
open Go Go.Proofs
theorem law10 (rows : List (List Cell)) (H0 : WfRows [(true, [.str, .int .i64, .int .i64, .int .i64, .int .i64, .int .i64, .int .i64, .int .i64]), (false, [.sl [.int .i64, .int .i64, .int .i64]]), (false, [.sl [.int .u8]])] rows) : PSpec Try.prog 10 (xvs [(true, [.str, .int .i64, .int .i64, .int .i64, .int .i64, .int .i64, .int .i64, .int .i64]), (false, [.sl [.int .i64, .int .i64, .int .i64]]), (false, [.sl [.int .u8]])] rows) (.x (.one (.prp True instDecidableTrue))) := by
  obtain ⟨r0, _, rfl, k0_0, H1⟩ := H0.inv
  obtain ⟨c0_0, _, rfl, g0_0, k0_1⟩ := k0_0.inv
  obtain ⟨n0_0, rfl, z0⟩ := g0_0.str_inv
  obtain ⟨c0_1, _, rfl, g0_1, k0_2⟩ := k0_1.inv
  obtain ⟨n0_1, rfl, _⟩ := g0_1.int_inv
  obtain ⟨c0_2, _, rfl, g0_2, k0_3⟩ := k0_2.inv
  obtain ⟨n0_2, rfl, _⟩ := g0_2.int_inv
  obtain ⟨c0_3, _, rfl, g0_3, k0_4⟩ := k0_3.inv
  obtain ⟨n0_3, rfl, _⟩ := g0_3.int_inv
  obtain ⟨c0_4, _, rfl, g0_4, k0_5⟩ := k0_4.inv
  obtain ⟨n0_4, rfl, _⟩ := g0_4.int_inv
  obtain ⟨c0_5, _, rfl, g0_5, k0_6⟩ := k0_5.inv
  obtain ⟨n0_5, rfl, _⟩ := g0_5.int_inv
  obtain ⟨c0_6, _, rfl, g0_6, k0_7⟩ := k0_6.inv
  obtain ⟨n0_6, rfl, _⟩ := g0_6.int_inv
  obtain ⟨c0_7, _, rfl, g0_7, k0_8⟩ := k0_7.inv
  obtain ⟨n0_7, rfl, _⟩ := g0_7.int_inv
  cases k0_8.nil_inv
  obtain ⟨x1, _, rfl, w1, H2⟩ := H1.sl
  obtain ⟨a1, rfl, h1⟩ := wf_sngs w1
  obtain ⟨x2, _, rfl, w2, H3⟩ := H2.sl
  obtain ⟨a2, rfl, h2⟩ := wf_ints w2
  cases H3.nil_inv
  exact s10 ⟨n0_0, n0_1, n0_2, n0_3, n0_4, n0_5, n0_6, n0_7⟩ a1 a2 (u8_getD h2)
end Go.Sx
namespace Go.Proofs.Ytaehphnchiffnaa
open Go.Sx
set_option maxRecDepth 100000 in
theorem sideOrder_lifted (os : Os) (started : os.Started) (H : Type) (enc : TypeId × Value → H) :
    ReturnsInHanded {} Try.checked os 10 .any (Rows.sideOrderSpec.pre6 enc Try.prog Try.f10 Rows.sideOrderRow.domain false) (Rows.sideOrderSpec.post enc Try.prog Try.f10 false true false false) :=
  lifted_true (by kernel_rfl) started (by kernel_rfl) (by kernel_rfl) Try.func10 e10 4 rfl Try.underlying4 (by kernel_rfl) rfl
    (fun ds h => match ds, h with | [_, _, _], _ => rfl) _ (by kernel_rfl) law10
    (ChangeSpec.witness6 (enc := enc) (C := Try.checked) false ⟨#[], #[.agg #[.string ⟨#[]⟩, .int .i64 0, .int .i64 0, .int .i64 0, .int .i64 0, .int .i64 0, .int .i64 0, .int .i64 0], .slice none 0 0, .slice none 0 0], []⟩ 8 (by kernel_rfl) (by kernel_rfl) (by kernel_rfl) (by kernel_rfl))
theorem sideOrder_holds : Rows.SideOrderSaid :=
  OpenClaim.holds_of_wide 10 Try.f10 rfl rfl rfl rfl rfl rfl rfl ⟨rfl, rfl, rfl, rfl, rfl⟩ rfl rfl rfl rfl rfl (by kernel_rfl) Try.func10 (by kernel_rfl)
    (of_decide_eq_true (by kernel_rfl)) (by unfold Func.isWrapper; first | (rw [if_pos (by decide +kernel)]; kernel_rfl) | (rw [if_neg (by decide +kernel)]; exact ⟨rfl, rfl⟩))
    (fun os started H enc _ => sideOrder_lifted os started H enc)
end Go.Proofs.Ytaehphnchiffnaa
