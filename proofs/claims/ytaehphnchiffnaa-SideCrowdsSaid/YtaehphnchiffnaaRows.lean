/-
  No cell of these rows narrows 'for every input' (looked for: loops, veiled, ifaces, maps, wideKeys, modest, calm, conditions, laid).
  DERIVED. THE GIVEN ROWS OF THIS SEAT. 8 by the template 'for every input the law returns true; each argument reads behind the call as it read before'; 0 by the template 'total and deterministic' (their statements: YtaehphnchiffnaaTotals.lean).
  GIVEN WITH THE SEED: the statements are not yours to turn. If you find one false, say at which input.
  Laid BY PROGRAM, IN A SANDBOX (cutbox-rows.mjs): the forced cells as the released guide's own fill.sh prints them over the translation 62223d0995ae7a92… (all of the seat's roots in one cut). By AI agents, Wed Nov 11 2026. No macro, syntax, notation, axiom, sorry.
-/
import Derived.Test.YtaehphnchiffnaaChecked
import GoSem.Claim
import GoSem.ClaimJoined
import GoSem.ClaimMapViews
import Derived.JoinedTies
import Derived.KernelRfl
namespace Go.Proofs.Ytaehphnchiffnaa
/- THE CELL 'sum', in the pinned program and in every row, IS THE sha256 OF THE DUMP (.gsa) THAT YtaehphnchiffnaaProg.lean LOADS. Nothing in Lean hashes anything: it is a label: what it is worth is what the hold of that sum in a sandbox is worth. -/
noncomputable def Try.pinned : Pinned := { name := "ytaehphnchiffnaa", sum := "62223d0995ae7a925dd79ea3ea8c391e4f8cd0f4629248108faf69dff6f848fd", checked := Try.checked }
namespace Rows
def none {H : Type} : Left H := { results := [], args := [] }

/-- 'deadwaxlaw04.SideLays': WHATEVER THE INPUT: true; the input reads as it did. -/
def sideLaysSpec : ChangeSpec := { name := "sideLays", fn := fun _ => fun
  | [d1, d2, d3] => { results := [.lit (.bool true)], args := [d1, d2, d3] }
  | _ => none }
def sideLaysRow : OpenClaim := { program := "ytaehphnchiffnaa", sum := "62223d0995ae7a925dd79ea3ea8c391e4f8cd0f4629248108faf69dff6f848fd", func := "deadwax/deadwaxlaw04.SideLays", spec := "sideLays", unfollowed := true, recurses := true, apart := false }
def SideLaysSaid : Prop := sideLaysRow.holds Try.pinned (OpenSpec.ofChange sideLaysSpec)

/-- ITS FALSE NEIGHBOUR: 'it returns false'. Refute it at one input. -/
def sideLaysWrong : ChangeSpec := { name := "sideLays", fn := fun _ => fun
  | [d1, d2, d3] => { results := [.lit (.bool false)], args := [d1, d2, d3] }
  | _ => none }
def SideLaysWrongFalsely : Prop := sideLaysRow.holds Try.pinned (OpenSpec.ofChange sideLaysWrong)

/-- 'deadwaxlaw04.SideBands': WHATEVER THE INPUT: true; the input reads as it did. -/
def sideBandsSpec : ChangeSpec := { name := "sideBands", fn := fun _ => fun
  | [d1, d2, d3, d4] => { results := [.lit (.bool true)], args := [d1, d2, d3, d4] }
  | _ => none }
def sideBandsRow : OpenClaim := { program := "ytaehphnchiffnaa", sum := "62223d0995ae7a925dd79ea3ea8c391e4f8cd0f4629248108faf69dff6f848fd", func := "deadwax/deadwaxlaw04.SideBands", spec := "sideBands", unfollowed := true, recurses := true, apart := false }
def SideBandsSaid : Prop := sideBandsRow.holds Try.pinned (OpenSpec.ofChange sideBandsSpec)

/-- ITS FALSE NEIGHBOUR: 'it returns false'. Refute it at one input. -/
def sideBandsWrong : ChangeSpec := { name := "sideBands", fn := fun _ => fun
  | [d1, d2, d3, d4] => { results := [.lit (.bool false)], args := [d1, d2, d3, d4] }
  | _ => none }
def SideBandsWrongFalsely : Prop := sideBandsRow.holds Try.pinned (OpenSpec.ofChange sideBandsWrong)

/-- 'deadwaxlaw04.SideCrowds': WHATEVER THE INPUT: true; the input reads as it did. -/
def sideCrowdsSpec : ChangeSpec := { name := "sideCrowds", fn := fun _ => fun
  | [d1, d2, d3, d4, d5] => { results := [.lit (.bool true)], args := [d1, d2, d3, d4, d5] }
  | _ => none }
def sideCrowdsRow : OpenClaim := { program := "ytaehphnchiffnaa", sum := "62223d0995ae7a925dd79ea3ea8c391e4f8cd0f4629248108faf69dff6f848fd", func := "deadwax/deadwaxlaw04.SideCrowds", spec := "sideCrowds", unfollowed := true, recurses := true, apart := false }
def SideCrowdsSaid : Prop := sideCrowdsRow.holds Try.pinned (OpenSpec.ofChange sideCrowdsSpec)

/-- ITS FALSE NEIGHBOUR: 'it returns false'. Refute it at one input. -/
def sideCrowdsWrong : ChangeSpec := { name := "sideCrowds", fn := fun _ => fun
  | [d1, d2, d3, d4, d5] => { results := [.lit (.bool false)], args := [d1, d2, d3, d4, d5] }
  | _ => none }
def SideCrowdsWrongFalsely : Prop := sideCrowdsRow.holds Try.pinned (OpenSpec.ofChange sideCrowdsWrong)

/-- 'deadwaxlaw04.SidePriced': WHATEVER THE INPUT: true; the input reads as it did. -/
def sidePricedSpec : ChangeSpec := { name := "sidePriced", fn := fun _ => fun
  | [d1, d2, d3, d4] => { results := [.lit (.bool true)], args := [d1, d2, d3, d4] }
  | _ => none }
def sidePricedRow : OpenClaim := { program := "ytaehphnchiffnaa", sum := "62223d0995ae7a925dd79ea3ea8c391e4f8cd0f4629248108faf69dff6f848fd", func := "deadwax/deadwaxlaw04.SidePriced", spec := "sidePriced", unfollowed := true, recurses := true, apart := false }
def SidePricedSaid : Prop := sidePricedRow.holds Try.pinned (OpenSpec.ofChange sidePricedSpec)

/-- ITS FALSE NEIGHBOUR: 'it returns false'. Refute it at one input. -/
def sidePricedWrong : ChangeSpec := { name := "sidePriced", fn := fun _ => fun
  | [d1, d2, d3, d4] => { results := [.lit (.bool false)], args := [d1, d2, d3, d4] }
  | _ => none }
def SidePricedWrongFalsely : Prop := sidePricedRow.holds Try.pinned (OpenSpec.ofChange sidePricedWrong)

/-- 'deadwaxlaw04.SidePacks': WHATEVER THE INPUT: true; the input reads as it did. -/
def sidePacksSpec : ChangeSpec := { name := "sidePacks", fn := fun _ => fun
  | [d1, d2] => { results := [.lit (.bool true)], args := [d1, d2] }
  | _ => none }
def sidePacksRow : OpenClaim := { program := "ytaehphnchiffnaa", sum := "62223d0995ae7a925dd79ea3ea8c391e4f8cd0f4629248108faf69dff6f848fd", func := "deadwax/deadwaxlaw04.SidePacks", spec := "sidePacks", unfollowed := true, recurses := true, apart := false }
def SidePacksSaid : Prop := sidePacksRow.holds Try.pinned (OpenSpec.ofChange sidePacksSpec)

/-- ITS FALSE NEIGHBOUR: 'it returns false'. Refute it at one input. -/
def sidePacksWrong : ChangeSpec := { name := "sidePacks", fn := fun _ => fun
  | [d1, d2] => { results := [.lit (.bool false)], args := [d1, d2] }
  | _ => none }
def SidePacksWrongFalsely : Prop := sidePacksRow.holds Try.pinned (OpenSpec.ofChange sidePacksWrong)

/-- 'deadwaxlaw04.SideFewer': WHATEVER THE INPUT: true; the input reads as it did. -/
def sideFewerSpec : ChangeSpec := { name := "sideFewer", fn := fun _ => fun
  | [d1, d2, d3] => { results := [.lit (.bool true)], args := [d1, d2, d3] }
  | _ => none }
def sideFewerRow : OpenClaim := { program := "ytaehphnchiffnaa", sum := "62223d0995ae7a925dd79ea3ea8c391e4f8cd0f4629248108faf69dff6f848fd", func := "deadwax/deadwaxlaw04.SideFewer", spec := "sideFewer", unfollowed := true, recurses := true, apart := false }
def SideFewerSaid : Prop := sideFewerRow.holds Try.pinned (OpenSpec.ofChange sideFewerSpec)

/-- ITS FALSE NEIGHBOUR: 'it returns false'. Refute it at one input. -/
def sideFewerWrong : ChangeSpec := { name := "sideFewer", fn := fun _ => fun
  | [d1, d2, d3] => { results := [.lit (.bool false)], args := [d1, d2, d3] }
  | _ => none }
def SideFewerWrongFalsely : Prop := sideFewerRow.holds Try.pinned (OpenSpec.ofChange sideFewerWrong)

/-- 'deadwaxlaw04.SideArranges': WHATEVER THE INPUT: true; the input reads as it did. -/
def sideArrangesSpec : ChangeSpec := { name := "sideArranges", fn := fun _ => fun
  | [d1, d2, d3] => { results := [.lit (.bool true)], args := [d1, d2, d3] }
  | _ => none }
def sideArrangesRow : OpenClaim := { program := "ytaehphnchiffnaa", sum := "62223d0995ae7a925dd79ea3ea8c391e4f8cd0f4629248108faf69dff6f848fd", func := "deadwax/deadwaxlaw04.SideArranges", spec := "sideArranges", unfollowed := true, recurses := true, apart := false }
def SideArrangesSaid : Prop := sideArrangesRow.holds Try.pinned (OpenSpec.ofChange sideArrangesSpec)

/-- ITS FALSE NEIGHBOUR: 'it returns false'. Refute it at one input. -/
def sideArrangesWrong : ChangeSpec := { name := "sideArranges", fn := fun _ => fun
  | [d1, d2, d3] => { results := [.lit (.bool false)], args := [d1, d2, d3] }
  | _ => none }
def SideArrangesWrongFalsely : Prop := sideArrangesRow.holds Try.pinned (OpenSpec.ofChange sideArrangesWrong)

/-- 'deadwaxlaw04.SideOrder': WHATEVER THE INPUT: true; the input reads as it did. -/
def sideOrderSpec : ChangeSpec := { name := "sideOrder", fn := fun _ => fun
  | [d1, d2, d3] => { results := [.lit (.bool true)], args := [d1, d2, d3] }
  | _ => none }
def sideOrderRow : OpenClaim := { program := "ytaehphnchiffnaa", sum := "62223d0995ae7a925dd79ea3ea8c391e4f8cd0f4629248108faf69dff6f848fd", func := "deadwax/deadwaxlaw04.SideOrder", spec := "sideOrder", unfollowed := true, recurses := true, apart := false }
def SideOrderSaid : Prop := sideOrderRow.holds Try.pinned (OpenSpec.ofChange sideOrderSpec)

/-- ITS FALSE NEIGHBOUR: 'it returns false'. Refute it at one input. -/
def sideOrderWrong : ChangeSpec := { name := "sideOrder", fn := fun _ => fun
  | [d1, d2, d3] => { results := [.lit (.bool false)], args := [d1, d2, d3] }
  | _ => none }
def SideOrderWrongFalsely : Prop := sideOrderRow.holds Try.pinned (OpenSpec.ofChange sideOrderWrong)

/- THE SECOND FORM. 'bulk': how many values and letters a reading holds, each counted each time it is reached (what is shared counts as often as it is met; a slice's spare places count too). A statement '..UptoSaid' is the law's where the arguments, and the package variables that the reading takes, are together of bulk at most 1048576: NARROWER than '..Said'. Prove '..Said' where nothing that the law and all that it calls make is longer than what came in: it says more and counts as full. Else prove '..UptoSaid'. A law counts once. -/
mutual
def uptoBulk {H : Type} : DataW H → Nat
  | .lit (.string bytes) => bytes.length + 1
  | .lit _ => 1
  | .nil => 1
  | .ptr d => uptoBulk d + 1
  | .slice elems spare => uptoBulkAll elems + uptoBulkAll spare + 1
  | .agg parts => uptoBulkAll parts + 1
  | .iface _ d => uptoBulk d + 1
  | .map entries => uptoBulkEntries entries + 1
  | .held _ => 1
def uptoBulkAll {H : Type} : List (DataW H) → Nat
  | [] => 0
  | d :: r => uptoBulk d + uptoBulkAll r
def uptoBulkEntries {H : Type} : List (Lit × DataW H) → Nat
  | [] => 0
  | x :: r => uptoBulkEntry x + uptoBulkEntries r
def uptoBulkEntry {H : Type} : Lit × DataW H → Nat
  | (.string bytes, d) => bytes.length + uptoBulk d + 1
  | (_, d) => uptoBulk d + 1
 end
def uptoSmall : (H : Type) → List (DataW H) → Bool := fun _ ds => decide (uptoBulkAll ds ≤ 1048576)
def OpenSpec.upto (s : _root_.Go.ChangeSpec) : _root_.Go.OpenSpec := { _root_.Go.OpenSpec.ofChange s with cond := some uptoSmall }

/-- 'deadwaxlaw04.SideLays', WHERE WHAT IT READS IS OF BULK AT MOST 1048576: true; the input reads as it did. -/
def sideLaysUptoRow : OpenClaim := { program := "ytaehphnchiffnaa", sum := "62223d0995ae7a925dd79ea3ea8c391e4f8cd0f4629248108faf69dff6f848fd", func := "deadwax/deadwaxlaw04.SideLays", spec := "sideLays", unfollowed := true, recurses := true, apart := false, narrowed := true }
def SideLaysUptoSaid : Prop := sideLaysUptoRow.holds Try.pinned (OpenSpec.upto sideLaysSpec)

/-- 'deadwaxlaw04.SideBands', WHERE WHAT IT READS IS OF BULK AT MOST 1048576: true; the input reads as it did. -/
def sideBandsUptoRow : OpenClaim := { program := "ytaehphnchiffnaa", sum := "62223d0995ae7a925dd79ea3ea8c391e4f8cd0f4629248108faf69dff6f848fd", func := "deadwax/deadwaxlaw04.SideBands", spec := "sideBands", unfollowed := true, recurses := true, apart := false, narrowed := true }
def SideBandsUptoSaid : Prop := sideBandsUptoRow.holds Try.pinned (OpenSpec.upto sideBandsSpec)

/-- 'deadwaxlaw04.SideCrowds', WHERE WHAT IT READS IS OF BULK AT MOST 1048576: true; the input reads as it did. -/
def sideCrowdsUptoRow : OpenClaim := { program := "ytaehphnchiffnaa", sum := "62223d0995ae7a925dd79ea3ea8c391e4f8cd0f4629248108faf69dff6f848fd", func := "deadwax/deadwaxlaw04.SideCrowds", spec := "sideCrowds", unfollowed := true, recurses := true, apart := false, narrowed := true }
def SideCrowdsUptoSaid : Prop := sideCrowdsUptoRow.holds Try.pinned (OpenSpec.upto sideCrowdsSpec)

/-- 'deadwaxlaw04.SidePriced', WHERE WHAT IT READS IS OF BULK AT MOST 1048576: true; the input reads as it did. -/
def sidePricedUptoRow : OpenClaim := { program := "ytaehphnchiffnaa", sum := "62223d0995ae7a925dd79ea3ea8c391e4f8cd0f4629248108faf69dff6f848fd", func := "deadwax/deadwaxlaw04.SidePriced", spec := "sidePriced", unfollowed := true, recurses := true, apart := false, narrowed := true }
def SidePricedUptoSaid : Prop := sidePricedUptoRow.holds Try.pinned (OpenSpec.upto sidePricedSpec)

/-- 'deadwaxlaw04.SidePacks', WHERE WHAT IT READS IS OF BULK AT MOST 1048576: true; the input reads as it did. -/
def sidePacksUptoRow : OpenClaim := { program := "ytaehphnchiffnaa", sum := "62223d0995ae7a925dd79ea3ea8c391e4f8cd0f4629248108faf69dff6f848fd", func := "deadwax/deadwaxlaw04.SidePacks", spec := "sidePacks", unfollowed := true, recurses := true, apart := false, narrowed := true }
def SidePacksUptoSaid : Prop := sidePacksUptoRow.holds Try.pinned (OpenSpec.upto sidePacksSpec)

/-- 'deadwaxlaw04.SideFewer', WHERE WHAT IT READS IS OF BULK AT MOST 1048576: true; the input reads as it did. -/
def sideFewerUptoRow : OpenClaim := { program := "ytaehphnchiffnaa", sum := "62223d0995ae7a925dd79ea3ea8c391e4f8cd0f4629248108faf69dff6f848fd", func := "deadwax/deadwaxlaw04.SideFewer", spec := "sideFewer", unfollowed := true, recurses := true, apart := false, narrowed := true }
def SideFewerUptoSaid : Prop := sideFewerUptoRow.holds Try.pinned (OpenSpec.upto sideFewerSpec)

/-- 'deadwaxlaw04.SideArranges', WHERE WHAT IT READS IS OF BULK AT MOST 1048576: true; the input reads as it did. -/
def sideArrangesUptoRow : OpenClaim := { program := "ytaehphnchiffnaa", sum := "62223d0995ae7a925dd79ea3ea8c391e4f8cd0f4629248108faf69dff6f848fd", func := "deadwax/deadwaxlaw04.SideArranges", spec := "sideArranges", unfollowed := true, recurses := true, apart := false, narrowed := true }
def SideArrangesUptoSaid : Prop := sideArrangesUptoRow.holds Try.pinned (OpenSpec.upto sideArrangesSpec)

/-- 'deadwaxlaw04.SideOrder', WHERE WHAT IT READS IS OF BULK AT MOST 1048576: true; the input reads as it did. -/
def sideOrderUptoRow : OpenClaim := { program := "ytaehphnchiffnaa", sum := "62223d0995ae7a925dd79ea3ea8c391e4f8cd0f4629248108faf69dff6f848fd", func := "deadwax/deadwaxlaw04.SideOrder", spec := "sideOrder", unfollowed := true, recurses := true, apart := false, narrowed := true }
def SideOrderUptoSaid : Prop := sideOrderUptoRow.holds Try.pinned (OpenSpec.upto sideOrderSpec)

end Rows
end Go.Proofs.Ytaehphnchiffnaa
