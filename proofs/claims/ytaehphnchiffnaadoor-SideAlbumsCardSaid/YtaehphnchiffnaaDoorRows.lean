/-
  NARROWER THAN 'FOR EVERY INPUT', by the rows' own cells (each row's printed sentence says how): SideForms: laid · SideAlbums: laid · SideCheaper: laid · SideMore: laid · SideExamples: laid.
  DERIVED. THE GIVEN ROWS OF THIS SEAT. 5 by the template 'for every input the law returns true; each argument reads behind the call as it read before'; 0 by the template 'total and deterministic' (their statements: YtaehphnchiffnaaDoorTotals.lean).
  GIVEN WITH THE SEED: the statements are not yours to turn. If you find one false, say at which input.
  Laid BY PROGRAM, IN A SANDBOX (cutbox-rows.mjs): the forced cells as the released guide's own fill.sh prints them over the translation b324fcce8945c031… (all of the seat's roots in one cut). By AI agents, Wed Nov 11 2026. No macro, syntax, notation, axiom, sorry.
-/
import Derived.Test.YtaehphnchiffnaaDoorChecked
import GoSem.Claim
import GoSem.ClaimJoined
import GoSem.ClaimMapViews
import Derived.JoinedTies
import Derived.KernelRfl
namespace Go.Proofs.YtaehphnchiffnaaDoor
/- THE CELL 'sum', in the pinned program and in every row, IS THE sha256 OF THE DUMP (.gsa) THAT YtaehphnchiffnaaDoorProg.lean LOADS. Nothing in Lean hashes anything: it is a label: what it is worth is what the hold of that sum in a sandbox is worth. -/
noncomputable def Tryd.pinned : Pinned := { name := "ytaehphnchiffnaadoor", sum := "b324fcce8945c031458804e7cdcd83d8db8c3430befbe270d8719c82526b9039", checked := Tryd.checked }
namespace Rows
def none {H : Type} : Left H := { results := [], args := [] }

/- WHAT THE LISTED PACKAGE-LEVEL VARIABLES READ AS WHEN THE CALL BEGINS. Each datum BY PROGRAM (the guide's laid-datum.mjs) off the statement by which the dump's own 'gosem.cut.vars' lays the variable. In a bare row this is a premise. The card (YtaehphnchiffnaaDoorCards.lean) ties it to the program's text. -/
def laid_deadwax_side_known {H : Type} : DataW H := .agg [.agg [.lit (.string [115, 101, 118, 101, 110]), .lit (.int .i64 1344000), .lit (.int .i64 864000), .lit (.int .i64 12000), .lit (.int .i64 16000), .lit (.int .i64 8000), .lit (.int .i64 24000), .lit (.int .i64 40)], .agg [.lit (.string [116, 101, 110]), .lit (.int .i64 1929600), .lit (.int .i64 768000), .lit (.int .i64 6923), .lit (.int .i64 16000), .lit (.int .i64 16000), .lit (.int .i64 32000), .lit (.int .i64 70)], .agg [.lit (.string [116, 119, 101, 108, 118, 101]), .lit (.int .i64 2336000), .lit (.int .i64 960000), .lit (.int .i64 16200), .lit (.int .i64 24000), .lit (.int .i64 16000), .lit (.int .i64 48000), .lit (.int .i64 100)]]
def laid_deadwax_side_none {H : Type} : DataW H := .agg [.lit (.int .i64 (-1)), .lit (.int .i64 0)]

/-- 'deadwaxlaw04.SideForms': WHATEVER THE INPUT: true; the input reads as it did. -/
def sideFormsSpec : ChangeSpec := { name := "sideForms", fn := fun _ => fun
  | [d1, d2, d3, d4] => { results := [.lit (.bool true)], args := [d1, d2, d3, d4] }
  | _ => none }
def sideFormsRow : OpenClaim := { program := "ytaehphnchiffnaadoor", sum := "b324fcce8945c031458804e7cdcd83d8db8c3430befbe270d8719c82526b9039", func := "deadwax/deadwaxlaw04.SideForms", spec := "sideForms", unfollowed := true, recurses := true, named := ["deadwax/side.known"], apart := false, laid := [("deadwax/side.known", laid_deadwax_side_known)] }
def SideFormsSaid : Prop := sideFormsRow.holds Tryd.pinned (OpenSpec.ofChange sideFormsSpec)

/-- ITS FALSE NEIGHBOUR: 'it returns false'. Refute it at one input. -/
def sideFormsWrong : ChangeSpec := { name := "sideForms", fn := fun _ => fun
  | [d1, d2, d3, d4] => { results := [.lit (.bool false)], args := [d1, d2, d3, d4] }
  | _ => none }
def SideFormsWrongFalsely : Prop := sideFormsRow.holds Tryd.pinned (OpenSpec.ofChange sideFormsWrong)

/-- 'deadwaxlaw04.SideAlbums': WHATEVER THE INPUT: true; the input reads as it did. -/
def sideAlbumsSpec : ChangeSpec := { name := "sideAlbums", fn := fun _ => fun
  | [d1, d2, d3, d4] => { results := [.lit (.bool true)], args := [d1, d2, d3, d4] }
  | _ => none }
def sideAlbumsRow : OpenClaim := { program := "ytaehphnchiffnaadoor", sum := "b324fcce8945c031458804e7cdcd83d8db8c3430befbe270d8719c82526b9039", func := "deadwax/deadwaxlaw04.SideAlbums", spec := "sideAlbums", unfollowed := true, recurses := true, named := ["deadwax/side.none"], apart := false, laid := [("deadwax/side.none", laid_deadwax_side_none)] }
def SideAlbumsSaid : Prop := sideAlbumsRow.holds Tryd.pinned (OpenSpec.ofChange sideAlbumsSpec)

/-- ITS FALSE NEIGHBOUR: 'it returns false'. Refute it at one input. -/
def sideAlbumsWrong : ChangeSpec := { name := "sideAlbums", fn := fun _ => fun
  | [d1, d2, d3, d4] => { results := [.lit (.bool false)], args := [d1, d2, d3, d4] }
  | _ => none }
def SideAlbumsWrongFalsely : Prop := sideAlbumsRow.holds Tryd.pinned (OpenSpec.ofChange sideAlbumsWrong)

/-- 'deadwaxlaw04.SideCheaper': WHATEVER THE INPUT: true; the input reads as it did. -/
def sideCheaperSpec : ChangeSpec := { name := "sideCheaper", fn := fun _ => fun
  | [d1, d2, d3] => { results := [.lit (.bool true)], args := [d1, d2, d3] }
  | _ => none }
def sideCheaperRow : OpenClaim := { program := "ytaehphnchiffnaadoor", sum := "b324fcce8945c031458804e7cdcd83d8db8c3430befbe270d8719c82526b9039", func := "deadwax/deadwaxlaw04.SideCheaper", spec := "sideCheaper", unfollowed := true, recurses := true, named := ["deadwax/side.none"], apart := false, laid := [("deadwax/side.none", laid_deadwax_side_none)] }
def SideCheaperSaid : Prop := sideCheaperRow.holds Tryd.pinned (OpenSpec.ofChange sideCheaperSpec)

/-- ITS FALSE NEIGHBOUR: 'it returns false'. Refute it at one input. -/
def sideCheaperWrong : ChangeSpec := { name := "sideCheaper", fn := fun _ => fun
  | [d1, d2, d3] => { results := [.lit (.bool false)], args := [d1, d2, d3] }
  | _ => none }
def SideCheaperWrongFalsely : Prop := sideCheaperRow.holds Tryd.pinned (OpenSpec.ofChange sideCheaperWrong)

/-- 'deadwaxlaw04.SideMore': WHATEVER THE INPUT: true; the input reads as it did. -/
def sideMoreSpec : ChangeSpec := { name := "sideMore", fn := fun _ => fun
  | [d1, d2, d3, d4, d5, d6] => { results := [.lit (.bool true)], args := [d1, d2, d3, d4, d5, d6] }
  | _ => none }
def sideMoreRow : OpenClaim := { program := "ytaehphnchiffnaadoor", sum := "b324fcce8945c031458804e7cdcd83d8db8c3430befbe270d8719c82526b9039", func := "deadwax/deadwaxlaw04.SideMore", spec := "sideMore", unfollowed := true, recurses := true, named := ["deadwax/side.none"], apart := false, laid := [("deadwax/side.none", laid_deadwax_side_none)] }
def SideMoreSaid : Prop := sideMoreRow.holds Tryd.pinned (OpenSpec.ofChange sideMoreSpec)

/-- ITS FALSE NEIGHBOUR: 'it returns false'. Refute it at one input. -/
def sideMoreWrong : ChangeSpec := { name := "sideMore", fn := fun _ => fun
  | [d1, d2, d3, d4, d5, d6] => { results := [.lit (.bool false)], args := [d1, d2, d3, d4, d5, d6] }
  | _ => none }
def SideMoreWrongFalsely : Prop := sideMoreRow.holds Tryd.pinned (OpenSpec.ofChange sideMoreWrong)

/-- 'deadwaxlaw04.SideExamples': WHATEVER THE INPUT: true; the input reads as it did. -/
def sideExamplesSpec : ChangeSpec := { name := "sideExamples", fn := fun _ => fun
  | [] => { results := [.lit (.bool true)], args := [] }
  | _ => none }
def sideExamplesRow : OpenClaim := { program := "ytaehphnchiffnaadoor", sum := "b324fcce8945c031458804e7cdcd83d8db8c3430befbe270d8719c82526b9039", func := "deadwax/deadwaxlaw04.SideExamples", spec := "sideExamples", unfollowed := true, recurses := true, named := ["deadwax/side.none", "deadwax/side.known"], apart := false, laid := [("deadwax/side.none", laid_deadwax_side_none), ("deadwax/side.known", laid_deadwax_side_known)] }
def SideExamplesSaid : Prop := sideExamplesRow.holds Tryd.pinned (OpenSpec.ofChange sideExamplesSpec)

/-- ITS FALSE NEIGHBOUR: 'it returns false'. Refute it at one input. -/
def sideExamplesWrong : ChangeSpec := { name := "sideExamples", fn := fun _ => fun
  | [] => { results := [.lit (.bool false)], args := [] }
  | _ => none }
def SideExamplesWrongFalsely : Prop := sideExamplesRow.holds Tryd.pinned (OpenSpec.ofChange sideExamplesWrong)

/- THE SECOND FORM. 'bulk': how many values and letters a reading holds, each counted each time it is reached (what is shared counts as often as it is met; a slice's spare places count too). A statement '..UptoSaid' is the law's where the arguments, and the package variables that the reading takes, are together of bulk at most 1048576: NARROWER than '..Said'. Prove '..Said' where nothing that the law and all that it calls make is longer than what came in: it says more and counts as full. Else prove '..UptoSaid'. A law counts once. -/
mutual
def uptoBulk {H : Type} : DataW H → Nat
  | .lit (.string bytes) => bytes.length + 1
  | .lit _ => 1
  | .nil => 1
  | .ptr d => uptoBulk d + 1
  | .slice elems spare => uptoBulkAll elems + uptoBulkAll spare + 1
  | .agg parts => uptoBulkAll parts + 1
  | .iface _ d => uptoBulk d + 1
  | .map entries => uptoBulkEntries entries + 1
  | .held _ => 1
def uptoBulkAll {H : Type} : List (DataW H) → Nat
  | [] => 0
  | d :: r => uptoBulk d + uptoBulkAll r
def uptoBulkEntries {H : Type} : List (Lit × DataW H) → Nat
  | [] => 0
  | x :: r => uptoBulkEntry x + uptoBulkEntries r
def uptoBulkEntry {H : Type} : Lit × DataW H → Nat
  | (.string bytes, d) => bytes.length + uptoBulk d + 1
  | (_, d) => uptoBulk d + 1
 end
def uptoSmall : (H : Type) → List (DataW H) → Bool := fun _ ds => decide (uptoBulkAll ds ≤ 1048576)
def OpenSpec.upto (s : _root_.Go.ChangeSpec) : _root_.Go.OpenSpec := { _root_.Go.OpenSpec.ofChange s with cond := some uptoSmall }

/-- 'deadwaxlaw04.SideForms', WHERE WHAT IT READS IS OF BULK AT MOST 1048576: true; the input reads as it did. -/
def sideFormsUptoRow : OpenClaim := { program := "ytaehphnchiffnaadoor", sum := "b324fcce8945c031458804e7cdcd83d8db8c3430befbe270d8719c82526b9039", func := "deadwax/deadwaxlaw04.SideForms", spec := "sideForms", unfollowed := true, recurses := true, named := ["deadwax/side.known"], apart := false, laid := [("deadwax/side.known", laid_deadwax_side_known)], narrowed := true }
def SideFormsUptoSaid : Prop := sideFormsUptoRow.holds Tryd.pinned (OpenSpec.upto sideFormsSpec)

/-- 'deadwaxlaw04.SideAlbums', WHERE WHAT IT READS IS OF BULK AT MOST 1048576: true; the input reads as it did. -/
def sideAlbumsUptoRow : OpenClaim := { program := "ytaehphnchiffnaadoor", sum := "b324fcce8945c031458804e7cdcd83d8db8c3430befbe270d8719c82526b9039", func := "deadwax/deadwaxlaw04.SideAlbums", spec := "sideAlbums", unfollowed := true, recurses := true, named := ["deadwax/side.none"], apart := false, laid := [("deadwax/side.none", laid_deadwax_side_none)], narrowed := true }
def SideAlbumsUptoSaid : Prop := sideAlbumsUptoRow.holds Tryd.pinned (OpenSpec.upto sideAlbumsSpec)

/-- 'deadwaxlaw04.SideCheaper', WHERE WHAT IT READS IS OF BULK AT MOST 1048576: true; the input reads as it did. -/
def sideCheaperUptoRow : OpenClaim := { program := "ytaehphnchiffnaadoor", sum := "b324fcce8945c031458804e7cdcd83d8db8c3430befbe270d8719c82526b9039", func := "deadwax/deadwaxlaw04.SideCheaper", spec := "sideCheaper", unfollowed := true, recurses := true, named := ["deadwax/side.none"], apart := false, laid := [("deadwax/side.none", laid_deadwax_side_none)], narrowed := true }
def SideCheaperUptoSaid : Prop := sideCheaperUptoRow.holds Tryd.pinned (OpenSpec.upto sideCheaperSpec)

/-- 'deadwaxlaw04.SideMore', WHERE WHAT IT READS IS OF BULK AT MOST 1048576: true; the input reads as it did. -/
def sideMoreUptoRow : OpenClaim := { program := "ytaehphnchiffnaadoor", sum := "b324fcce8945c031458804e7cdcd83d8db8c3430befbe270d8719c82526b9039", func := "deadwax/deadwaxlaw04.SideMore", spec := "sideMore", unfollowed := true, recurses := true, named := ["deadwax/side.none"], apart := false, laid := [("deadwax/side.none", laid_deadwax_side_none)], narrowed := true }
def SideMoreUptoSaid : Prop := sideMoreUptoRow.holds Tryd.pinned (OpenSpec.upto sideMoreSpec)

/-- 'deadwaxlaw04.SideExamples', WHERE WHAT IT READS IS OF BULK AT MOST 1048576: true; the input reads as it did. -/
def sideExamplesUptoRow : OpenClaim := { program := "ytaehphnchiffnaadoor", sum := "b324fcce8945c031458804e7cdcd83d8db8c3430befbe270d8719c82526b9039", func := "deadwax/deadwaxlaw04.SideExamples", spec := "sideExamples", unfollowed := true, recurses := true, named := ["deadwax/side.none", "deadwax/side.known"], apart := false, laid := [("deadwax/side.none", laid_deadwax_side_none), ("deadwax/side.known", laid_deadwax_side_known)], narrowed := true }
def SideExamplesUptoSaid : Prop := sideExamplesUptoRow.holds Tryd.pinned (OpenSpec.upto sideExamplesSpec)

end Rows
end Go.Proofs.YtaehphnchiffnaaDoor
