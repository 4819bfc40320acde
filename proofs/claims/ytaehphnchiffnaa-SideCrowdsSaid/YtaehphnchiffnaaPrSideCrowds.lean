/- If a set is a crowd, no set that contains it has a possible order, neither the usual one nor any other one (any format; at most 24 tracks; which are in the set and which are added by bits; any order by places). -/
import Derived.Test.YtaehphnchiffnaaPrSideCrowdsB
import Derived.Test.YtaehphnchiffnaaXc
import Derived.Test.YtaehphnchiffnaaRows
import Derived.ProofKit
namespace Go.Sx
open Go Go.Proofs
theorem law5 (rows : List (List Cell)) (H0 : WfRows [(true, [.str, .int .i64, .int .i64, .int .i64, .int .i64, .int .i64, .int .i64, .int .i64]), (false, [.sl [.int .i64, .int .i64, .int .i64]]), (false, [.int .u32]), (false, [.int .u32]), (false, [.sl [.int .u8]])] rows) : PSpec Try.prog 5 (xvs [(true, [.str, .int .i64, .int .i64, .int .i64, .int .i64, .int .i64, .int .i64, .int .i64]), (false, [.sl [.int .i64, .int .i64, .int .i64]]), (false, [.int .u32]), (false, [.int .u32]), (false, [.sl [.int .u8]])] rows) (.x (.one (.prp True instDecidableTrue))) := by
  obtain ⟨r0, _, rfl, k0_0, H1⟩ := H0.inv
  obtain ⟨c0_0, _, rfl, g0_0, k0_1⟩ := k0_0.inv
  obtain ⟨n0_0, rfl, z0⟩ := g0_0.str_inv
  obtain ⟨c0_1, _, rfl, g0_1, k0_2⟩ := k0_1.inv
  obtain ⟨n0_1, rfl, _⟩ := g0_1.int_inv
  obtain ⟨c0_2, _, rfl, g0_2, k0_3⟩ := k0_2.inv
  obtain ⟨n0_2, rfl, _⟩ := g0_2.int_inv
  obtain ⟨c0_3, _, rfl, g0_3, k0_4⟩ := k0_3.inv
  obtain ⟨n0_3, rfl, _⟩ := g0_3.int_inv
  obtain ⟨c0_4, _, rfl, g0_4, k0_5⟩ := k0_4.inv
  obtain ⟨n0_4, rfl, _⟩ := g0_4.int_inv
  obtain ⟨c0_5, _, rfl, g0_5, k0_6⟩ := k0_5.inv
  obtain ⟨n0_5, rfl, _⟩ := g0_5.int_inv
  obtain ⟨c0_6, _, rfl, g0_6, k0_7⟩ := k0_6.inv
  obtain ⟨n0_6, rfl, _⟩ := g0_6.int_inv
  obtain ⟨c0_7, _, rfl, g0_7, k0_8⟩ := k0_7.inv
  obtain ⟨n0_7, rfl, _⟩ := g0_7.int_inv
  cases k0_8.nil_inv
  obtain ⟨x1, _, rfl, w1, H2⟩ := H1.sl
  obtain ⟨a1, rfl, h1⟩ := wf_sngs w1
  obtain ⟨a2, _, rfl, b2, H3⟩ := H2.int
  obtain ⟨a3, _, rfl, b3, H4⟩ := H3.int
  obtain ⟨x4, _, rfl, w4, H5⟩ := H4.sl
  obtain ⟨a4, rfl, h4⟩ := wf_ints w4
  cases H5.nil_inv
  exact s5 ⟨n0_0, n0_1, n0_2, n0_3, n0_4, n0_5, n0_6, n0_7⟩ a1 a2 a3 a4 b2 b3 (u8_getD h4)
end Go.Sx
namespace Go.Proofs.Ytaehphnchiffnaa
open Go.Sx
set_option maxRecDepth 100000 in
theorem sideCrowds_lifted (os : Os) (started : os.Started) (H : Type) (enc : TypeId × Value → H) :
    ReturnsInHanded {} Try.checked os 5 .any (Rows.sideCrowdsSpec.pre6 enc Try.prog Try.f5 Rows.sideCrowdsRow.domain false) (Rows.sideCrowdsSpec.post enc Try.prog Try.f5 false true false false) :=
  lifted_true (by kernel_rfl) started (by kernel_rfl) (by kernel_rfl) Try.func5 e5 4 rfl Try.underlying4 (by kernel_rfl) rfl
    (fun ds h => match ds, h with | [_, _, _, _, _], _ => rfl) _ (by kernel_rfl) law5
    (ChangeSpec.witness6 (enc := enc) (C := Try.checked) false ⟨#[], #[.agg #[.string ⟨#[]⟩, .int .i64 0, .int .i64 0, .int .i64 0, .int .i64 0, .int .i64 0, .int .i64 0, .int .i64 0], .slice none 0 0, .int .u32 0, .int .u32 0, .slice none 0 0], []⟩ 8 (by kernel_rfl) (by kernel_rfl) (by kernel_rfl) (by kernel_rfl))
theorem sideCrowds_holds : Rows.SideCrowdsSaid :=
  OpenClaim.holds_of_wide 5 Try.f5 rfl rfl rfl rfl rfl rfl rfl ⟨rfl, rfl, rfl, rfl, rfl⟩ rfl rfl rfl rfl rfl (by kernel_rfl) Try.func5 (by kernel_rfl)
    (of_decide_eq_true (by kernel_rfl)) (by unfold Func.isWrapper; first | (rw [if_pos (by decide +kernel)]; kernel_rfl) | (rw [if_neg (by decide +kernel)]; exact ⟨rfl, rfl⟩))
    (fun os started H enc _ => sideCrowds_lifted os started H enc)
end Go.Proofs.Ytaehphnchiffnaa
