/-
  NARROWER THAN 'FOR EVERY INPUT', by the rows' own cells (each row's printed sentence says how): TopRound: laid · TopHalves: laid · TopPeaks: laid · TopEdges: laid · TopSilent: laid · TopSided: laid · TopLimited: laid · TopCovered: laid · TopArranged: laid · TopMatched: laid · TopFaces: laid · TopVertical: laid · TopCone: laid · TopVariable: laid · TopPitched: laid · TopCeiled: laid · TopSpared: laid · TopCentred: laid · TopOwned: laid.
  DERIVED. THE GIVEN ROWS OF THIS SEAT. 19 by the template 'for every input the law returns true; each argument reads behind the call as it read before'; 0 by the template 'total and deterministic' (their statements: YthlebjnhcinheaaGreatDoorTotals.lean).
  GIVEN WITH THE SEED: the statements are not yours to turn. If you find one false, say at which input.
  Laid BY PROGRAM, IN A SANDBOX (cutbox-rows.mjs): the forced cells as the released guide's own fill.sh prints them over the translation 623e2207a8ebae29… (all of the seat's roots in one cut). By AI agents, Wed Nov 11 2026. No macro, syntax, notation, axiom, sorry.
-/
import Derived.Test.YthlebjnhcinheaaGreatDoorChecked
import GoSem.PinnedTables
import GoSem.Claim
import GoSem.ClaimJoined
import GoSem.ClaimMapViews
import Derived.JoinedTies
import Derived.KernelRfl
namespace Go.Proofs.YthlebjnhcinheaaGreatDoor
/- THE CELL 'sum', in the pinned program and in every row, IS THE sha256 OF THE DUMP (.gsa) THAT YthlebjnhcinheaaGreatDoorProg.lean LOADS. Nothing in Lean hashes anything: it is a label: what it is worth is what the hold of that sum in a sandbox is worth. -/
noncomputable def Tryz.pinned : Pinned := { name := "ythlebjnhcinheaagreatdoor", sum := "623e2207a8ebae29cc6f681beb59c51f18ab7754e52f25b477a2125ffe2af1ff", checked := Tryz.checked }
namespace Rows
def none {H : Type} : Left H := { results := [], args := [] }

/- WHAT THE LISTED PACKAGE-LEVEL VARIABLES READ AS WHEN THE CALL BEGINS. Each datum BY PROGRAM (the guide's laid-datum.mjs) off the statement by which the dump's own 'gosem.cut.vars' lays the variable. In a bare row this is a premise. The card (YthlebjnhcinheaaGreatDoorCards.lean) ties it to the program's text. -/
def laid_unicode_utf8_acceptRanges {H : Type} : DataW H := .agg [.agg [.lit (.int .u8 128), .lit (.int .u8 191)], .agg [.lit (.int .u8 160), .lit (.int .u8 191)], .agg [.lit (.int .u8 128), .lit (.int .u8 159)], .agg [.lit (.int .u8 144), .lit (.int .u8 191)], .agg [.lit (.int .u8 128), .lit (.int .u8 143)], .agg [.lit (.int .u8 0), .lit (.int .u8 0)], .agg [.lit (.int .u8 0), .lit (.int .u8 0)], .agg [.lit (.int .u8 0), .lit (.int .u8 0)], .agg [.lit (.int .u8 0), .lit (.int .u8 0)], .agg [.lit (.int .u8 0), .lit (.int .u8 0)], .agg [.lit (.int .u8 0), .lit (.int .u8 0)], .agg [.lit (.int .u8 0), .lit (.int .u8 0)], .agg [.lit (.int .u8 0), .lit (.int .u8 0)], .agg [.lit (.int .u8 0), .lit (.int .u8 0)], .agg [.lit (.int .u8 0), .lit (.int .u8 0)], .agg [.lit (.int .u8 0), .lit (.int .u8 0)]]
/-- One of Go's own tables, pinned by name: the form's constant. -/
def laid_unicode_utf8_first : DataW Unit := Go.Pinned.utf8First
def laid_deadwax_side_none {H : Type} : DataW H := .agg [.lit (.int .i64 (-1)), .lit (.int .i64 0)]

/-- 'deadwaxtop.TopRound': WHATEVER THE INPUT: true; the input reads as it did. -/
def topRoundSpec : ChangeSpec := { name := "topRound", fn := fun _ => fun
  | [d1, d2, d3, d4, d5] => { results := [.lit (.bool true)], args := [d1, d2, d3, d4, d5] }
  | _ => none }
def topRoundRow : OpenClaim := { program := "ythlebjnhcinheaagreatdoor", sum := "623e2207a8ebae29cc6f681beb59c51f18ab7754e52f25b477a2125ffe2af1ff", func := "deadwax/deadwaxtop.TopRound", spec := "topRound", inPlace := ["internal/bytealg.IndexByteString", "internal/bytealg.IndexString"], unfollowed := true, recurses := true, named := ["unicode/utf8.first", "unicode/utf8.acceptRanges", "internal/bytealg.MaxLen"], apart := false, laid := [("unicode/utf8.acceptRanges", laid_unicode_utf8_acceptRanges), ("unicode/utf8.first", laid_unicode_utf8_first)] }
def TopRoundSaid : Prop := topRoundRow.holds Tryz.pinned (OpenSpec.ofChange topRoundSpec)

/-- ITS FALSE NEIGHBOUR: 'it returns false'. Refute it at one input. -/
def topRoundWrong : ChangeSpec := { name := "topRound", fn := fun _ => fun
  | [d1, d2, d3, d4, d5] => { results := [.lit (.bool false)], args := [d1, d2, d3, d4, d5] }
  | _ => none }
def TopRoundWrongFalsely : Prop := topRoundRow.holds Tryz.pinned (OpenSpec.ofChange topRoundWrong)

/-- 'deadwaxtop.TopHalves': WHATEVER THE INPUT: true; the input reads as it did. -/
def topHalvesSpec : ChangeSpec := { name := "topHalves", fn := fun _ => fun
  | [d1, d2, d3, d4, d5] => { results := [.lit (.bool true)], args := [d1, d2, d3, d4, d5] }
  | _ => none }
def topHalvesRow : OpenClaim := { program := "ythlebjnhcinheaagreatdoor", sum := "623e2207a8ebae29cc6f681beb59c51f18ab7754e52f25b477a2125ffe2af1ff", func := "deadwax/deadwaxtop.TopHalves", spec := "topHalves", inPlace := ["internal/bytealg.IndexByteString", "internal/bytealg.IndexString"], unfollowed := true, recurses := true, named := ["unicode/utf8.first", "unicode/utf8.acceptRanges", "internal/bytealg.MaxLen"], apart := false, laid := [("unicode/utf8.acceptRanges", laid_unicode_utf8_acceptRanges), ("unicode/utf8.first", laid_unicode_utf8_first)] }
def TopHalvesSaid : Prop := topHalvesRow.holds Tryz.pinned (OpenSpec.ofChange topHalvesSpec)

/-- ITS FALSE NEIGHBOUR: 'it returns false'. Refute it at one input. -/
def topHalvesWrong : ChangeSpec := { name := "topHalves", fn := fun _ => fun
  | [d1, d2, d3, d4, d5] => { results := [.lit (.bool false)], args := [d1, d2, d3, d4, d5] }
  | _ => none }
def TopHalvesWrongFalsely : Prop := topHalvesRow.holds Tryz.pinned (OpenSpec.ofChange topHalvesWrong)

/-- 'deadwaxtop.TopPeaks': WHATEVER THE INPUT: true; the input reads as it did. -/
def topPeaksSpec : ChangeSpec := { name := "topPeaks", fn := fun _ => fun
  | [d1, d2, d3] => { results := [.lit (.bool true)], args := [d1, d2, d3] }
  | _ => none }
def topPeaksRow : OpenClaim := { program := "ythlebjnhcinheaagreatdoor", sum := "623e2207a8ebae29cc6f681beb59c51f18ab7754e52f25b477a2125ffe2af1ff", func := "deadwax/deadwaxtop.TopPeaks", spec := "topPeaks", inPlace := ["internal/bytealg.IndexByteString", "internal/bytealg.IndexString"], unfollowed := true, recurses := true, named := ["unicode/utf8.first", "unicode/utf8.acceptRanges", "internal/bytealg.MaxLen"], apart := false, laid := [("unicode/utf8.acceptRanges", laid_unicode_utf8_acceptRanges), ("unicode/utf8.first", laid_unicode_utf8_first)] }
def TopPeaksSaid : Prop := topPeaksRow.holds Tryz.pinned (OpenSpec.ofChange topPeaksSpec)

/-- ITS FALSE NEIGHBOUR: 'it returns false'. Refute it at one input. -/
def topPeaksWrong : ChangeSpec := { name := "topPeaks", fn := fun _ => fun
  | [d1, d2, d3] => { results := [.lit (.bool false)], args := [d1, d2, d3] }
  | _ => none }
def TopPeaksWrongFalsely : Prop := topPeaksRow.holds Tryz.pinned (OpenSpec.ofChange topPeaksWrong)

/-- 'deadwaxtop.TopEdges': WHATEVER THE INPUT: true; the input reads as it did. -/
def topEdgesSpec : ChangeSpec := { name := "topEdges", fn := fun _ => fun
  | [d1, d2, d3] => { results := [.lit (.bool true)], args := [d1, d2, d3] }
  | _ => none }
def topEdgesRow : OpenClaim := { program := "ythlebjnhcinheaagreatdoor", sum := "623e2207a8ebae29cc6f681beb59c51f18ab7754e52f25b477a2125ffe2af1ff", func := "deadwax/deadwaxtop.TopEdges", spec := "topEdges", inPlace := ["internal/bytealg.IndexByteString", "internal/bytealg.IndexString"], unfollowed := true, recurses := true, named := ["unicode/utf8.first", "unicode/utf8.acceptRanges", "internal/bytealg.MaxLen"], apart := false, laid := [("unicode/utf8.acceptRanges", laid_unicode_utf8_acceptRanges), ("unicode/utf8.first", laid_unicode_utf8_first)] }
def TopEdgesSaid : Prop := topEdgesRow.holds Tryz.pinned (OpenSpec.ofChange topEdgesSpec)

/-- ITS FALSE NEIGHBOUR: 'it returns false'. Refute it at one input. -/
def topEdgesWrong : ChangeSpec := { name := "topEdges", fn := fun _ => fun
  | [d1, d2, d3] => { results := [.lit (.bool false)], args := [d1, d2, d3] }
  | _ => none }
def TopEdgesWrongFalsely : Prop := topEdgesRow.holds Tryz.pinned (OpenSpec.ofChange topEdgesWrong)

/-- 'deadwaxtop.TopSilent': WHATEVER THE INPUT: true; the input reads as it did. -/
def topSilentSpec : ChangeSpec := { name := "topSilent", fn := fun _ => fun
  | [d1, d2, d3, d4, d5] => { results := [.lit (.bool true)], args := [d1, d2, d3, d4, d5] }
  | _ => none }
def topSilentRow : OpenClaim := { program := "ythlebjnhcinheaagreatdoor", sum := "623e2207a8ebae29cc6f681beb59c51f18ab7754e52f25b477a2125ffe2af1ff", func := "deadwax/deadwaxtop.TopSilent", spec := "topSilent", inPlace := ["internal/bytealg.IndexByteString", "internal/bytealg.IndexString"], unfollowed := true, recurses := true, named := ["unicode/utf8.first", "unicode/utf8.acceptRanges", "internal/bytealg.MaxLen"], apart := false, laid := [("unicode/utf8.acceptRanges", laid_unicode_utf8_acceptRanges), ("unicode/utf8.first", laid_unicode_utf8_first)] }
def TopSilentSaid : Prop := topSilentRow.holds Tryz.pinned (OpenSpec.ofChange topSilentSpec)

/-- ITS FALSE NEIGHBOUR: 'it returns false'. Refute it at one input. -/
def topSilentWrong : ChangeSpec := { name := "topSilent", fn := fun _ => fun
  | [d1, d2, d3, d4, d5] => { results := [.lit (.bool false)], args := [d1, d2, d3, d4, d5] }
  | _ => none }
def TopSilentWrongFalsely : Prop := topSilentRow.holds Tryz.pinned (OpenSpec.ofChange topSilentWrong)

/-- 'deadwaxtop.TopSided': WHATEVER THE INPUT: true; the input reads as it did. -/
def topSidedSpec : ChangeSpec := { name := "topSided", fn := fun _ => fun
  | [d1, d2, d3] => { results := [.lit (.bool true)], args := [d1, d2, d3] }
  | _ => none }
def topSidedRow : OpenClaim := { program := "ythlebjnhcinheaagreatdoor", sum := "623e2207a8ebae29cc6f681beb59c51f18ab7754e52f25b477a2125ffe2af1ff", func := "deadwax/deadwaxtop.TopSided", spec := "topSided", inPlace := ["internal/bytealg.IndexByteString", "internal/bytealg.IndexString"], unfollowed := true, recurses := true, named := ["unicode/utf8.first", "unicode/utf8.acceptRanges", "internal/bytealg.MaxLen"], apart := false, laid := [("unicode/utf8.acceptRanges", laid_unicode_utf8_acceptRanges), ("unicode/utf8.first", laid_unicode_utf8_first)] }
def TopSidedSaid : Prop := topSidedRow.holds Tryz.pinned (OpenSpec.ofChange topSidedSpec)

/-- ITS FALSE NEIGHBOUR: 'it returns false'. Refute it at one input. -/
def topSidedWrong : ChangeSpec := { name := "topSided", fn := fun _ => fun
  | [d1, d2, d3] => { results := [.lit (.bool false)], args := [d1, d2, d3] }
  | _ => none }
def TopSidedWrongFalsely : Prop := topSidedRow.holds Tryz.pinned (OpenSpec.ofChange topSidedWrong)

/-- 'deadwaxtop.TopLimited': WHATEVER THE INPUT: true; the input reads as it did. -/
def topLimitedSpec : ChangeSpec := { name := "topLimited", fn := fun _ => fun
  | [d1, d2, d3, d4, d5, d6] => { results := [.lit (.bool true)], args := [d1, d2, d3, d4, d5, d6] }
  | _ => none }
def topLimitedRow : OpenClaim := { program := "ythlebjnhcinheaagreatdoor", sum := "623e2207a8ebae29cc6f681beb59c51f18ab7754e52f25b477a2125ffe2af1ff", func := "deadwax/deadwaxtop.TopLimited", spec := "topLimited", inPlace := ["internal/bytealg.IndexByteString", "internal/bytealg.IndexString"], unfollowed := true, recurses := true, named := ["unicode/utf8.first", "unicode/utf8.acceptRanges", "internal/bytealg.MaxLen"], apart := false, laid := [("unicode/utf8.acceptRanges", laid_unicode_utf8_acceptRanges), ("unicode/utf8.first", laid_unicode_utf8_first)] }
def TopLimitedSaid : Prop := topLimitedRow.holds Tryz.pinned (OpenSpec.ofChange topLimitedSpec)

/-- ITS FALSE NEIGHBOUR: 'it returns false'. Refute it at one input. -/
def topLimitedWrong : ChangeSpec := { name := "topLimited", fn := fun _ => fun
  | [d1, d2, d3, d4, d5, d6] => { results := [.lit (.bool false)], args := [d1, d2, d3, d4, d5, d6] }
  | _ => none }
def TopLimitedWrongFalsely : Prop := topLimitedRow.holds Tryz.pinned (OpenSpec.ofChange topLimitedWrong)

/-- 'deadwaxtop.TopCovered': WHATEVER THE INPUT: true; the input reads as it did. -/
def topCoveredSpec : ChangeSpec := { name := "topCovered", fn := fun _ => fun
  | [d1, d2, d3, d4, d5, d6] => { results := [.lit (.bool true)], args := [d1, d2, d3, d4, d5, d6] }
  | _ => none }
def topCoveredRow : OpenClaim := { program := "ythlebjnhcinheaagreatdoor", sum := "623e2207a8ebae29cc6f681beb59c51f18ab7754e52f25b477a2125ffe2af1ff", func := "deadwax/deadwaxtop.TopCovered", spec := "topCovered", inPlace := ["internal/bytealg.IndexByteString", "internal/bytealg.IndexString"], unfollowed := true, recurses := true, named := ["unicode/utf8.first", "unicode/utf8.acceptRanges", "internal/bytealg.MaxLen"], apart := false, laid := [("unicode/utf8.acceptRanges", laid_unicode_utf8_acceptRanges), ("unicode/utf8.first", laid_unicode_utf8_first)] }
def TopCoveredSaid : Prop := topCoveredRow.holds Tryz.pinned (OpenSpec.ofChange topCoveredSpec)

/-- ITS FALSE NEIGHBOUR: 'it returns false'. Refute it at one input. -/
def topCoveredWrong : ChangeSpec := { name := "topCovered", fn := fun _ => fun
  | [d1, d2, d3, d4, d5, d6] => { results := [.lit (.bool false)], args := [d1, d2, d3, d4, d5, d6] }
  | _ => none }
def TopCoveredWrongFalsely : Prop := topCoveredRow.holds Tryz.pinned (OpenSpec.ofChange topCoveredWrong)

/-- 'deadwaxtop.TopArranged': WHATEVER THE INPUT: true; the input reads as it did. -/
def topArrangedSpec : ChangeSpec := { name := "topArranged", fn := fun _ => fun
  | [d1, d2, d3, d4, d5] => { results := [.lit (.bool true)], args := [d1, d2, d3, d4, d5] }
  | _ => none }
def topArrangedRow : OpenClaim := { program := "ythlebjnhcinheaagreatdoor", sum := "623e2207a8ebae29cc6f681beb59c51f18ab7754e52f25b477a2125ffe2af1ff", func := "deadwax/deadwaxtop.TopArranged", spec := "topArranged", inPlace := ["internal/bytealg.IndexByteString", "internal/bytealg.IndexString"], unfollowed := true, recurses := true, named := ["unicode/utf8.first", "unicode/utf8.acceptRanges", "internal/bytealg.MaxLen"], apart := false, laid := [("unicode/utf8.acceptRanges", laid_unicode_utf8_acceptRanges), ("unicode/utf8.first", laid_unicode_utf8_first)] }
def TopArrangedSaid : Prop := topArrangedRow.holds Tryz.pinned (OpenSpec.ofChange topArrangedSpec)

/-- ITS FALSE NEIGHBOUR: 'it returns false'. Refute it at one input. -/
def topArrangedWrong : ChangeSpec := { name := "topArranged", fn := fun _ => fun
  | [d1, d2, d3, d4, d5] => { results := [.lit (.bool false)], args := [d1, d2, d3, d4, d5] }
  | _ => none }
def TopArrangedWrongFalsely : Prop := topArrangedRow.holds Tryz.pinned (OpenSpec.ofChange topArrangedWrong)

/-- 'deadwaxtop.TopMatched': WHATEVER THE INPUT: true; the input reads as it did. -/
def topMatchedSpec : ChangeSpec := { name := "topMatched", fn := fun _ => fun
  | [d1, d2, d3, d4] => { results := [.lit (.bool true)], args := [d1, d2, d3, d4] }
  | _ => none }
def topMatchedRow : OpenClaim := { program := "ythlebjnhcinheaagreatdoor", sum := "623e2207a8ebae29cc6f681beb59c51f18ab7754e52f25b477a2125ffe2af1ff", func := "deadwax/deadwaxtop.TopMatched", spec := "topMatched", inPlace := ["internal/bytealg.IndexByteString", "internal/bytealg.IndexString"], unfollowed := true, recurses := true, named := ["unicode/utf8.first", "unicode/utf8.acceptRanges", "internal/bytealg.MaxLen"], apart := false, laid := [("unicode/utf8.acceptRanges", laid_unicode_utf8_acceptRanges), ("unicode/utf8.first", laid_unicode_utf8_first)] }
def TopMatchedSaid : Prop := topMatchedRow.holds Tryz.pinned (OpenSpec.ofChange topMatchedSpec)

/-- ITS FALSE NEIGHBOUR: 'it returns false'. Refute it at one input. -/
def topMatchedWrong : ChangeSpec := { name := "topMatched", fn := fun _ => fun
  | [d1, d2, d3, d4] => { results := [.lit (.bool false)], args := [d1, d2, d3, d4] }
  | _ => none }
def TopMatchedWrongFalsely : Prop := topMatchedRow.holds Tryz.pinned (OpenSpec.ofChange topMatchedWrong)

/-- 'deadwaxtop.TopFaces': WHATEVER THE INPUT: true; the input reads as it did. -/
def topFacesSpec : ChangeSpec := { name := "topFaces", fn := fun _ => fun
  | [d1, d2, d3, d4] => { results := [.lit (.bool true)], args := [d1, d2, d3, d4] }
  | _ => none }
def topFacesRow : OpenClaim := { program := "ythlebjnhcinheaagreatdoor", sum := "623e2207a8ebae29cc6f681beb59c51f18ab7754e52f25b477a2125ffe2af1ff", func := "deadwax/deadwaxtop.TopFaces", spec := "topFaces", inPlace := ["internal/bytealg.IndexByteString", "internal/bytealg.IndexString"], unfollowed := true, recurses := true, named := ["unicode/utf8.first", "unicode/utf8.acceptRanges", "deadwax/side.none", "internal/bytealg.MaxLen"], apart := false, laid := [("unicode/utf8.acceptRanges", laid_unicode_utf8_acceptRanges), ("deadwax/side.none", laid_deadwax_side_none), ("unicode/utf8.first", laid_unicode_utf8_first)] }
def TopFacesSaid : Prop := topFacesRow.holds Tryz.pinned (OpenSpec.ofChange topFacesSpec)

/-- ITS FALSE NEIGHBOUR: 'it returns false'. Refute it at one input. -/
def topFacesWrong : ChangeSpec := { name := "topFaces", fn := fun _ => fun
  | [d1, d2, d3, d4] => { results := [.lit (.bool false)], args := [d1, d2, d3, d4] }
  | _ => none }
def TopFacesWrongFalsely : Prop := topFacesRow.holds Tryz.pinned (OpenSpec.ofChange topFacesWrong)

/-- 'deadwaxtop.TopVertical': WHATEVER THE INPUT: true; the input reads as it did. -/
def topVerticalSpec : ChangeSpec := { name := "topVertical", fn := fun _ => fun
  | [d1, d2, d3] => { results := [.lit (.bool true)], args := [d1, d2, d3] }
  | _ => none }
def topVerticalRow : OpenClaim := { program := "ythlebjnhcinheaagreatdoor", sum := "623e2207a8ebae29cc6f681beb59c51f18ab7754e52f25b477a2125ffe2af1ff", func := "deadwax/deadwaxtop.TopVertical", spec := "topVertical", inPlace := ["internal/bytealg.IndexByteString", "internal/bytealg.IndexString"], unfollowed := true, recurses := true, named := ["unicode/utf8.first", "unicode/utf8.acceptRanges", "internal/bytealg.MaxLen"], apart := false, laid := [("unicode/utf8.acceptRanges", laid_unicode_utf8_acceptRanges), ("unicode/utf8.first", laid_unicode_utf8_first)] }
def TopVerticalSaid : Prop := topVerticalRow.holds Tryz.pinned (OpenSpec.ofChange topVerticalSpec)

/-- ITS FALSE NEIGHBOUR: 'it returns false'. Refute it at one input. -/
def topVerticalWrong : ChangeSpec := { name := "topVertical", fn := fun _ => fun
  | [d1, d2, d3] => { results := [.lit (.bool false)], args := [d1, d2, d3] }
  | _ => none }
def TopVerticalWrongFalsely : Prop := topVerticalRow.holds Tryz.pinned (OpenSpec.ofChange topVerticalWrong)

/-- 'deadwaxtop.TopCone': WHATEVER THE INPUT: true; the input reads as it did. -/
def topConeSpec : ChangeSpec := { name := "topCone", fn := fun _ => fun
  | [d1, d2, d3, d4, d5] => { results := [.lit (.bool true)], args := [d1, d2, d3, d4, d5] }
  | _ => none }
def topConeRow : OpenClaim := { program := "ythlebjnhcinheaagreatdoor", sum := "623e2207a8ebae29cc6f681beb59c51f18ab7754e52f25b477a2125ffe2af1ff", func := "deadwax/deadwaxtop.TopCone", spec := "topCone", inPlace := ["internal/bytealg.IndexByteString", "internal/bytealg.IndexString"], unfollowed := true, recurses := true, named := ["unicode/utf8.first", "unicode/utf8.acceptRanges", "internal/bytealg.MaxLen"], apart := false, laid := [("unicode/utf8.acceptRanges", laid_unicode_utf8_acceptRanges), ("unicode/utf8.first", laid_unicode_utf8_first)] }
def TopConeSaid : Prop := topConeRow.holds Tryz.pinned (OpenSpec.ofChange topConeSpec)

/-- ITS FALSE NEIGHBOUR: 'it returns false'. Refute it at one input. -/
def topConeWrong : ChangeSpec := { name := "topCone", fn := fun _ => fun
  | [d1, d2, d3, d4, d5] => { results := [.lit (.bool false)], args := [d1, d2, d3, d4, d5] }
  | _ => none }
def TopConeWrongFalsely : Prop := topConeRow.holds Tryz.pinned (OpenSpec.ofChange topConeWrong)

/-- 'deadwaxtop.TopVariable': WHATEVER THE INPUT: true; the input reads as it did. -/
def topVariableSpec : ChangeSpec := { name := "topVariable", fn := fun _ => fun
  | [d1, d2, d3, d4, d5] => { results := [.lit (.bool true)], args := [d1, d2, d3, d4, d5] }
  | _ => none }
def topVariableRow : OpenClaim := { program := "ythlebjnhcinheaagreatdoor", sum := "623e2207a8ebae29cc6f681beb59c51f18ab7754e52f25b477a2125ffe2af1ff", func := "deadwax/deadwaxtop.TopVariable", spec := "topVariable", inPlace := ["internal/bytealg.IndexByteString", "internal/bytealg.IndexString"], unfollowed := true, recurses := true, named := ["unicode/utf8.first", "unicode/utf8.acceptRanges", "internal/bytealg.MaxLen"], apart := false, laid := [("unicode/utf8.acceptRanges", laid_unicode_utf8_acceptRanges), ("unicode/utf8.first", laid_unicode_utf8_first)] }
def TopVariableSaid : Prop := topVariableRow.holds Tryz.pinned (OpenSpec.ofChange topVariableSpec)

/-- ITS FALSE NEIGHBOUR: 'it returns false'. Refute it at one input. -/
def topVariableWrong : ChangeSpec := { name := "topVariable", fn := fun _ => fun
  | [d1, d2, d3, d4, d5] => { results := [.lit (.bool false)], args := [d1, d2, d3, d4, d5] }
  | _ => none }
def TopVariableWrongFalsely : Prop := topVariableRow.holds Tryz.pinned (OpenSpec.ofChange topVariableWrong)

/-- 'deadwaxtop.TopPitched': WHATEVER THE INPUT: true; the input reads as it did. -/
def topPitchedSpec : ChangeSpec := { name := "topPitched", fn := fun _ => fun
  | [d1, d2, d3, d4, d5, d6] => { results := [.lit (.bool true)], args := [d1, d2, d3, d4, d5, d6] }
  | _ => none }
def topPitchedRow : OpenClaim := { program := "ythlebjnhcinheaagreatdoor", sum := "623e2207a8ebae29cc6f681beb59c51f18ab7754e52f25b477a2125ffe2af1ff", func := "deadwax/deadwaxtop.TopPitched", spec := "topPitched", inPlace := ["internal/bytealg.IndexByteString", "internal/bytealg.IndexString"], unfollowed := true, recurses := true, named := ["unicode/utf8.first", "unicode/utf8.acceptRanges", "internal/bytealg.MaxLen"], apart := false, laid := [("unicode/utf8.acceptRanges", laid_unicode_utf8_acceptRanges), ("unicode/utf8.first", laid_unicode_utf8_first)] }
def TopPitchedSaid : Prop := topPitchedRow.holds Tryz.pinned (OpenSpec.ofChange topPitchedSpec)

/-- ITS FALSE NEIGHBOUR: 'it returns false'. Refute it at one input. -/
def topPitchedWrong : ChangeSpec := { name := "topPitched", fn := fun _ => fun
  | [d1, d2, d3, d4, d5, d6] => { results := [.lit (.bool false)], args := [d1, d2, d3, d4, d5, d6] }
  | _ => none }
def TopPitchedWrongFalsely : Prop := topPitchedRow.holds Tryz.pinned (OpenSpec.ofChange topPitchedWrong)

/-- 'deadwaxtop.TopCeiled': WHATEVER THE INPUT: true; the input reads as it did. -/
def topCeiledSpec : ChangeSpec := { name := "topCeiled", fn := fun _ => fun
  | [d1, d2, d3, d4, d5, d6, d7] => { results := [.lit (.bool true)], args := [d1, d2, d3, d4, d5, d6, d7] }
  | _ => none }
def topCeiledRow : OpenClaim := { program := "ythlebjnhcinheaagreatdoor", sum := "623e2207a8ebae29cc6f681beb59c51f18ab7754e52f25b477a2125ffe2af1ff", func := "deadwax/deadwaxtop.TopCeiled", spec := "topCeiled", inPlace := ["internal/bytealg.IndexByteString", "internal/bytealg.IndexString"], unfollowed := true, recurses := true, named := ["unicode/utf8.first", "unicode/utf8.acceptRanges", "internal/bytealg.MaxLen"], apart := false, laid := [("unicode/utf8.acceptRanges", laid_unicode_utf8_acceptRanges), ("unicode/utf8.first", laid_unicode_utf8_first)] }
def TopCeiledSaid : Prop := topCeiledRow.holds Tryz.pinned (OpenSpec.ofChange topCeiledSpec)

/-- ITS FALSE NEIGHBOUR: 'it returns false'. Refute it at one input. -/
def topCeiledWrong : ChangeSpec := { name := "topCeiled", fn := fun _ => fun
  | [d1, d2, d3, d4, d5, d6, d7] => { results := [.lit (.bool false)], args := [d1, d2, d3, d4, d5, d6, d7] }
  | _ => none }
def TopCeiledWrongFalsely : Prop := topCeiledRow.holds Tryz.pinned (OpenSpec.ofChange topCeiledWrong)

/-- 'deadwaxtop.TopSpared': WHATEVER THE INPUT: true; the input reads as it did. -/
def topSparedSpec : ChangeSpec := { name := "topSpared", fn := fun _ => fun
  | [d1, d2, d3, d4] => { results := [.lit (.bool true)], args := [d1, d2, d3, d4] }
  | _ => none }
def topSparedRow : OpenClaim := { program := "ythlebjnhcinheaagreatdoor", sum := "623e2207a8ebae29cc6f681beb59c51f18ab7754e52f25b477a2125ffe2af1ff", func := "deadwax/deadwaxtop.TopSpared", spec := "topSpared", inPlace := ["internal/bytealg.IndexByteString", "internal/bytealg.IndexString"], unfollowed := true, recurses := true, named := ["unicode/utf8.first", "unicode/utf8.acceptRanges", "internal/bytealg.MaxLen"], apart := false, laid := [("unicode/utf8.acceptRanges", laid_unicode_utf8_acceptRanges), ("unicode/utf8.first", laid_unicode_utf8_first)] }
def TopSparedSaid : Prop := topSparedRow.holds Tryz.pinned (OpenSpec.ofChange topSparedSpec)

/-- ITS FALSE NEIGHBOUR: 'it returns false'. Refute it at one input. -/
def topSparedWrong : ChangeSpec := { name := "topSpared", fn := fun _ => fun
  | [d1, d2, d3, d4] => { results := [.lit (.bool false)], args := [d1, d2, d3, d4] }
  | _ => none }
def TopSparedWrongFalsely : Prop := topSparedRow.holds Tryz.pinned (OpenSpec.ofChange topSparedWrong)

/-- 'deadwaxtop.TopCentred': WHATEVER THE INPUT: true; the input reads as it did. -/
def topCentredSpec : ChangeSpec := { name := "topCentred", fn := fun _ => fun
  | [d1, d2, d3, d4, d5, d6, d7, d8] => { results := [.lit (.bool true)], args := [d1, d2, d3, d4, d5, d6, d7, d8] }
  | _ => none }
def topCentredRow : OpenClaim := { program := "ythlebjnhcinheaagreatdoor", sum := "623e2207a8ebae29cc6f681beb59c51f18ab7754e52f25b477a2125ffe2af1ff", func := "deadwax/deadwaxtop.TopCentred", spec := "topCentred", inPlace := ["internal/bytealg.IndexByteString", "internal/bytealg.IndexString", "math/bits.Add64"], unfollowed := true, recurses := true, named := ["unicode/utf8.first", "unicode/utf8.acceptRanges", "internal/bytealg.MaxLen"], apart := false, laid := [("unicode/utf8.acceptRanges", laid_unicode_utf8_acceptRanges), ("unicode/utf8.first", laid_unicode_utf8_first)] }
def TopCentredSaid : Prop := topCentredRow.holds Tryz.pinned (OpenSpec.ofChange topCentredSpec)

/-- ITS FALSE NEIGHBOUR: 'it returns false'. Refute it at one input. -/
def topCentredWrong : ChangeSpec := { name := "topCentred", fn := fun _ => fun
  | [d1, d2, d3, d4, d5, d6, d7, d8] => { results := [.lit (.bool false)], args := [d1, d2, d3, d4, d5, d6, d7, d8] }
  | _ => none }
def TopCentredWrongFalsely : Prop := topCentredRow.holds Tryz.pinned (OpenSpec.ofChange topCentredWrong)

/-- 'deadwaxtop.TopOwned': WHATEVER THE INPUT: true; the input reads as it did. -/
def topOwnedSpec : ChangeSpec := { name := "topOwned", fn := fun _ => fun
  | [d1, d2, d3] => { results := [.lit (.bool true)], args := [d1, d2, d3] }
  | _ => none }
def topOwnedRow : OpenClaim := { program := "ythlebjnhcinheaagreatdoor", sum := "623e2207a8ebae29cc6f681beb59c51f18ab7754e52f25b477a2125ffe2af1ff", func := "deadwax/deadwaxtop.TopOwned", spec := "topOwned", inPlace := ["internal/bytealg.IndexByteString", "internal/bytealg.IndexString", "maps.clone"], unfollowed := true, recurses := true, named := ["unicode/utf8.first", "unicode/utf8.acceptRanges", "internal/bytealg.MaxLen"], apart := false, laid := [("unicode/utf8.acceptRanges", laid_unicode_utf8_acceptRanges), ("unicode/utf8.first", laid_unicode_utf8_first)] }
def TopOwnedSaid : Prop := topOwnedRow.holds Tryz.pinned (OpenSpec.ofChange topOwnedSpec)

/-- ITS FALSE NEIGHBOUR: 'it returns false'. Refute it at one input. -/
def topOwnedWrong : ChangeSpec := { name := "topOwned", fn := fun _ => fun
  | [d1, d2, d3] => { results := [.lit (.bool false)], args := [d1, d2, d3] }
  | _ => none }
def TopOwnedWrongFalsely : Prop := topOwnedRow.holds Tryz.pinned (OpenSpec.ofChange topOwnedWrong)

/- THE SECOND FORM. 'bulk': how many values and letters a reading holds, each counted each time it is reached (what is shared counts as often as it is met; a slice's spare places count too). A statement '..UptoSaid' is the law's where the arguments, and the package variables that the reading takes, are together of bulk at most 1048576: NARROWER than '..Said'. Prove '..Said' where nothing that the law and all that it calls make is longer than what came in: it says more and counts as full. Else prove '..UptoSaid'. A law counts once. -/
mutual
def uptoBulk {H : Type} : DataW H → Nat
  | .lit (.string bytes) => bytes.length + 1
  | .lit _ => 1
  | .nil => 1
  | .ptr d => uptoBulk d + 1
  | .slice elems spare => uptoBulkAll elems + uptoBulkAll spare + 1
  | .agg parts => uptoBulkAll parts + 1
  | .iface _ d => uptoBulk d + 1
  | .map entries => uptoBulkEntries entries + 1
  | .held _ => 1
def uptoBulkAll {H : Type} : List (DataW H) → Nat
  | [] => 0
  | d :: r => uptoBulk d + uptoBulkAll r
def uptoBulkEntries {H : Type} : List (Lit × DataW H) → Nat
  | [] => 0
  | x :: r => uptoBulkEntry x + uptoBulkEntries r
def uptoBulkEntry {H : Type} : Lit × DataW H → Nat
  | (.string bytes, d) => bytes.length + uptoBulk d + 1
  | (_, d) => uptoBulk d + 1
 end
def uptoSmall : (H : Type) → List (DataW H) → Bool := fun _ ds => decide (uptoBulkAll ds ≤ 1048576)
def OpenSpec.upto (s : _root_.Go.ChangeSpec) : _root_.Go.OpenSpec := { _root_.Go.OpenSpec.ofChange s with cond := some uptoSmall }

/-- 'deadwaxtop.TopRound', WHERE WHAT IT READS IS OF BULK AT MOST 1048576: true; the input reads as it did. -/
def topRoundUptoRow : OpenClaim := { program := "ythlebjnhcinheaagreatdoor", sum := "623e2207a8ebae29cc6f681beb59c51f18ab7754e52f25b477a2125ffe2af1ff", func := "deadwax/deadwaxtop.TopRound", spec := "topRound", inPlace := ["internal/bytealg.IndexByteString", "internal/bytealg.IndexString"], unfollowed := true, recurses := true, named := ["unicode/utf8.first", "unicode/utf8.acceptRanges", "internal/bytealg.MaxLen"], apart := false, laid := [("unicode/utf8.acceptRanges", laid_unicode_utf8_acceptRanges), ("unicode/utf8.first", laid_unicode_utf8_first)], narrowed := true }
def TopRoundUptoSaid : Prop := topRoundUptoRow.holds Tryz.pinned (OpenSpec.upto topRoundSpec)

/-- 'deadwaxtop.TopHalves', WHERE WHAT IT READS IS OF BULK AT MOST 1048576: true; the input reads as it did. -/
def topHalvesUptoRow : OpenClaim := { program := "ythlebjnhcinheaagreatdoor", sum := "623e2207a8ebae29cc6f681beb59c51f18ab7754e52f25b477a2125ffe2af1ff", func := "deadwax/deadwaxtop.TopHalves", spec := "topHalves", inPlace := ["internal/bytealg.IndexByteString", "internal/bytealg.IndexString"], unfollowed := true, recurses := true, named := ["unicode/utf8.first", "unicode/utf8.acceptRanges", "internal/bytealg.MaxLen"], apart := false, laid := [("unicode/utf8.acceptRanges", laid_unicode_utf8_acceptRanges), ("unicode/utf8.first", laid_unicode_utf8_first)], narrowed := true }
def TopHalvesUptoSaid : Prop := topHalvesUptoRow.holds Tryz.pinned (OpenSpec.upto topHalvesSpec)

/-- 'deadwaxtop.TopPeaks', WHERE WHAT IT READS IS OF BULK AT MOST 1048576: true; the input reads as it did. -/
def topPeaksUptoRow : OpenClaim := { program := "ythlebjnhcinheaagreatdoor", sum := "623e2207a8ebae29cc6f681beb59c51f18ab7754e52f25b477a2125ffe2af1ff", func := "deadwax/deadwaxtop.TopPeaks", spec := "topPeaks", inPlace := ["internal/bytealg.IndexByteString", "internal/bytealg.IndexString"], unfollowed := true, recurses := true, named := ["unicode/utf8.first", "unicode/utf8.acceptRanges", "internal/bytealg.MaxLen"], apart := false, laid := [("unicode/utf8.acceptRanges", laid_unicode_utf8_acceptRanges), ("unicode/utf8.first", laid_unicode_utf8_first)], narrowed := true }
def TopPeaksUptoSaid : Prop := topPeaksUptoRow.holds Tryz.pinned (OpenSpec.upto topPeaksSpec)

/-- 'deadwaxtop.TopEdges', WHERE WHAT IT READS IS OF BULK AT MOST 1048576: true; the input reads as it did. -/
def topEdgesUptoRow : OpenClaim := { program := "ythlebjnhcinheaagreatdoor", sum := "623e2207a8ebae29cc6f681beb59c51f18ab7754e52f25b477a2125ffe2af1ff", func := "deadwax/deadwaxtop.TopEdges", spec := "topEdges", inPlace := ["internal/bytealg.IndexByteString", "internal/bytealg.IndexString"], unfollowed := true, recurses := true, named := ["unicode/utf8.first", "unicode/utf8.acceptRanges", "internal/bytealg.MaxLen"], apart := false, laid := [("unicode/utf8.acceptRanges", laid_unicode_utf8_acceptRanges), ("unicode/utf8.first", laid_unicode_utf8_first)], narrowed := true }
def TopEdgesUptoSaid : Prop := topEdgesUptoRow.holds Tryz.pinned (OpenSpec.upto topEdgesSpec)

/-- 'deadwaxtop.TopSilent', WHERE WHAT IT READS IS OF BULK AT MOST 1048576: true; the input reads as it did. -/
def topSilentUptoRow : OpenClaim := { program := "ythlebjnhcinheaagreatdoor", sum := "623e2207a8ebae29cc6f681beb59c51f18ab7754e52f25b477a2125ffe2af1ff", func := "deadwax/deadwaxtop.TopSilent", spec := "topSilent", inPlace := ["internal/bytealg.IndexByteString", "internal/bytealg.IndexString"], unfollowed := true, recurses := true, named := ["unicode/utf8.first", "unicode/utf8.acceptRanges", "internal/bytealg.MaxLen"], apart := false, laid := [("unicode/utf8.acceptRanges", laid_unicode_utf8_acceptRanges), ("unicode/utf8.first", laid_unicode_utf8_first)], narrowed := true }
def TopSilentUptoSaid : Prop := topSilentUptoRow.holds Tryz.pinned (OpenSpec.upto topSilentSpec)

/-- 'deadwaxtop.TopSided', WHERE WHAT IT READS IS OF BULK AT MOST 1048576: true; the input reads as it did. -/
def topSidedUptoRow : OpenClaim := { program := "ythlebjnhcinheaagreatdoor", sum := "623e2207a8ebae29cc6f681beb59c51f18ab7754e52f25b477a2125ffe2af1ff", func := "deadwax/deadwaxtop.TopSided", spec := "topSided", inPlace := ["internal/bytealg.IndexByteString", "internal/bytealg.IndexString"], unfollowed := true, recurses := true, named := ["unicode/utf8.first", "unicode/utf8.acceptRanges", "internal/bytealg.MaxLen"], apart := false, laid := [("unicode/utf8.acceptRanges", laid_unicode_utf8_acceptRanges), ("unicode/utf8.first", laid_unicode_utf8_first)], narrowed := true }
def TopSidedUptoSaid : Prop := topSidedUptoRow.holds Tryz.pinned (OpenSpec.upto topSidedSpec)

/-- 'deadwaxtop.TopLimited', WHERE WHAT IT READS IS OF BULK AT MOST 1048576: true; the input reads as it did. -/
def topLimitedUptoRow : OpenClaim := { program := "ythlebjnhcinheaagreatdoor", sum := "623e2207a8ebae29cc6f681beb59c51f18ab7754e52f25b477a2125ffe2af1ff", func := "deadwax/deadwaxtop.TopLimited", spec := "topLimited", inPlace := ["internal/bytealg.IndexByteString", "internal/bytealg.IndexString"], unfollowed := true, recurses := true, named := ["unicode/utf8.first", "unicode/utf8.acceptRanges", "internal/bytealg.MaxLen"], apart := false, laid := [("unicode/utf8.acceptRanges", laid_unicode_utf8_acceptRanges), ("unicode/utf8.first", laid_unicode_utf8_first)], narrowed := true }
def TopLimitedUptoSaid : Prop := topLimitedUptoRow.holds Tryz.pinned (OpenSpec.upto topLimitedSpec)

/-- 'deadwaxtop.TopCovered', WHERE WHAT IT READS IS OF BULK AT MOST 1048576: true; the input reads as it did. -/
def topCoveredUptoRow : OpenClaim := { program := "ythlebjnhcinheaagreatdoor", sum := "623e2207a8ebae29cc6f681beb59c51f18ab7754e52f25b477a2125ffe2af1ff", func := "deadwax/deadwaxtop.TopCovered", spec := "topCovered", inPlace := ["internal/bytealg.IndexByteString", "internal/bytealg.IndexString"], unfollowed := true, recurses := true, named := ["unicode/utf8.first", "unicode/utf8.acceptRanges", "internal/bytealg.MaxLen"], apart := false, laid := [("unicode/utf8.acceptRanges", laid_unicode_utf8_acceptRanges), ("unicode/utf8.first", laid_unicode_utf8_first)], narrowed := true }
def TopCoveredUptoSaid : Prop := topCoveredUptoRow.holds Tryz.pinned (OpenSpec.upto topCoveredSpec)

/-- 'deadwaxtop.TopArranged', WHERE WHAT IT READS IS OF BULK AT MOST 1048576: true; the input reads as it did. -/
def topArrangedUptoRow : OpenClaim := { program := "ythlebjnhcinheaagreatdoor", sum := "623e2207a8ebae29cc6f681beb59c51f18ab7754e52f25b477a2125ffe2af1ff", func := "deadwax/deadwaxtop.TopArranged", spec := "topArranged", inPlace := ["internal/bytealg.IndexByteString", "internal/bytealg.IndexString"], unfollowed := true, recurses := true, named := ["unicode/utf8.first", "unicode/utf8.acceptRanges", "internal/bytealg.MaxLen"], apart := false, laid := [("unicode/utf8.acceptRanges", laid_unicode_utf8_acceptRanges), ("unicode/utf8.first", laid_unicode_utf8_first)], narrowed := true }
def TopArrangedUptoSaid : Prop := topArrangedUptoRow.holds Tryz.pinned (OpenSpec.upto topArrangedSpec)

/-- 'deadwaxtop.TopMatched', WHERE WHAT IT READS IS OF BULK AT MOST 1048576: true; the input reads as it did. -/
def topMatchedUptoRow : OpenClaim := { program := "ythlebjnhcinheaagreatdoor", sum := "623e2207a8ebae29cc6f681beb59c51f18ab7754e52f25b477a2125ffe2af1ff", func := "deadwax/deadwaxtop.TopMatched", spec := "topMatched", inPlace := ["internal/bytealg.IndexByteString", "internal/bytealg.IndexString"], unfollowed := true, recurses := true, named := ["unicode/utf8.first", "unicode/utf8.acceptRanges", "internal/bytealg.MaxLen"], apart := false, laid := [("unicode/utf8.acceptRanges", laid_unicode_utf8_acceptRanges), ("unicode/utf8.first", laid_unicode_utf8_first)], narrowed := true }
def TopMatchedUptoSaid : Prop := topMatchedUptoRow.holds Tryz.pinned (OpenSpec.upto topMatchedSpec)

/-- 'deadwaxtop.TopFaces', WHERE WHAT IT READS IS OF BULK AT MOST 1048576: true; the input reads as it did. -/
def topFacesUptoRow : OpenClaim := { program := "ythlebjnhcinheaagreatdoor", sum := "623e2207a8ebae29cc6f681beb59c51f18ab7754e52f25b477a2125ffe2af1ff", func := "deadwax/deadwaxtop.TopFaces", spec := "topFaces", inPlace := ["internal/bytealg.IndexByteString", "internal/bytealg.IndexString"], unfollowed := true, recurses := true, named := ["unicode/utf8.first", "unicode/utf8.acceptRanges", "deadwax/side.none", "internal/bytealg.MaxLen"], apart := false, laid := [("unicode/utf8.acceptRanges", laid_unicode_utf8_acceptRanges), ("deadwax/side.none", laid_deadwax_side_none), ("unicode/utf8.first", laid_unicode_utf8_first)], narrowed := true }
def TopFacesUptoSaid : Prop := topFacesUptoRow.holds Tryz.pinned (OpenSpec.upto topFacesSpec)

/-- 'deadwaxtop.TopVertical', WHERE WHAT IT READS IS OF BULK AT MOST 1048576: true; the input reads as it did. -/
def topVerticalUptoRow : OpenClaim := { program := "ythlebjnhcinheaagreatdoor", sum := "623e2207a8ebae29cc6f681beb59c51f18ab7754e52f25b477a2125ffe2af1ff", func := "deadwax/deadwaxtop.TopVertical", spec := "topVertical", inPlace := ["internal/bytealg.IndexByteString", "internal/bytealg.IndexString"], unfollowed := true, recurses := true, named := ["unicode/utf8.first", "unicode/utf8.acceptRanges", "internal/bytealg.MaxLen"], apart := false, laid := [("unicode/utf8.acceptRanges", laid_unicode_utf8_acceptRanges), ("unicode/utf8.first", laid_unicode_utf8_first)], narrowed := true }
def TopVerticalUptoSaid : Prop := topVerticalUptoRow.holds Tryz.pinned (OpenSpec.upto topVerticalSpec)

/-- 'deadwaxtop.TopCone', WHERE WHAT IT READS IS OF BULK AT MOST 1048576: true; the input reads as it did. -/
def topConeUptoRow : OpenClaim := { program := "ythlebjnhcinheaagreatdoor", sum := "623e2207a8ebae29cc6f681beb59c51f18ab7754e52f25b477a2125ffe2af1ff", func := "deadwax/deadwaxtop.TopCone", spec := "topCone", inPlace := ["internal/bytealg.IndexByteString", "internal/bytealg.IndexString"], unfollowed := true, recurses := true, named := ["unicode/utf8.first", "unicode/utf8.acceptRanges", "internal/bytealg.MaxLen"], apart := false, laid := [("unicode/utf8.acceptRanges", laid_unicode_utf8_acceptRanges), ("unicode/utf8.first", laid_unicode_utf8_first)], narrowed := true }
def TopConeUptoSaid : Prop := topConeUptoRow.holds Tryz.pinned (OpenSpec.upto topConeSpec)

/-- 'deadwaxtop.TopVariable', WHERE WHAT IT READS IS OF BULK AT MOST 1048576: true; the input reads as it did. -/
def topVariableUptoRow : OpenClaim := { program := "ythlebjnhcinheaagreatdoor", sum := "623e2207a8ebae29cc6f681beb59c51f18ab7754e52f25b477a2125ffe2af1ff", func := "deadwax/deadwaxtop.TopVariable", spec := "topVariable", inPlace := ["internal/bytealg.IndexByteString", "internal/bytealg.IndexString"], unfollowed := true, recurses := true, named := ["unicode/utf8.first", "unicode/utf8.acceptRanges", "internal/bytealg.MaxLen"], apart := false, laid := [("unicode/utf8.acceptRanges", laid_unicode_utf8_acceptRanges), ("unicode/utf8.first", laid_unicode_utf8_first)], narrowed := true }
def TopVariableUptoSaid : Prop := topVariableUptoRow.holds Tryz.pinned (OpenSpec.upto topVariableSpec)

/-- 'deadwaxtop.TopPitched', WHERE WHAT IT READS IS OF BULK AT MOST 1048576: true; the input reads as it did. -/
def topPitchedUptoRow : OpenClaim := { program := "ythlebjnhcinheaagreatdoor", sum := "623e2207a8ebae29cc6f681beb59c51f18ab7754e52f25b477a2125ffe2af1ff", func := "deadwax/deadwaxtop.TopPitched", spec := "topPitched", inPlace := ["internal/bytealg.IndexByteString", "internal/bytealg.IndexString"], unfollowed := true, recurses := true, named := ["unicode/utf8.first", "unicode/utf8.acceptRanges", "internal/bytealg.MaxLen"], apart := false, laid := [("unicode/utf8.acceptRanges", laid_unicode_utf8_acceptRanges), ("unicode/utf8.first", laid_unicode_utf8_first)], narrowed := true }
def TopPitchedUptoSaid : Prop := topPitchedUptoRow.holds Tryz.pinned (OpenSpec.upto topPitchedSpec)

/-- 'deadwaxtop.TopCeiled', WHERE WHAT IT READS IS OF BULK AT MOST 1048576: true; the input reads as it did. -/
def topCeiledUptoRow : OpenClaim := { program := "ythlebjnhcinheaagreatdoor", sum := "623e2207a8ebae29cc6f681beb59c51f18ab7754e52f25b477a2125ffe2af1ff", func := "deadwax/deadwaxtop.TopCeiled", spec := "topCeiled", inPlace := ["internal/bytealg.IndexByteString", "internal/bytealg.IndexString"], unfollowed := true, recurses := true, named := ["unicode/utf8.first", "unicode/utf8.acceptRanges", "internal/bytealg.MaxLen"], apart := false, laid := [("unicode/utf8.acceptRanges", laid_unicode_utf8_acceptRanges), ("unicode/utf8.first", laid_unicode_utf8_first)], narrowed := true }
def TopCeiledUptoSaid : Prop := topCeiledUptoRow.holds Tryz.pinned (OpenSpec.upto topCeiledSpec)

/-- 'deadwaxtop.TopSpared', WHERE WHAT IT READS IS OF BULK AT MOST 1048576: true; the input reads as it did. -/
def topSparedUptoRow : OpenClaim := { program := "ythlebjnhcinheaagreatdoor", sum := "623e2207a8ebae29cc6f681beb59c51f18ab7754e52f25b477a2125ffe2af1ff", func := "deadwax/deadwaxtop.TopSpared", spec := "topSpared", inPlace := ["internal/bytealg.IndexByteString", "internal/bytealg.IndexString"], unfollowed := true, recurses := true, named := ["unicode/utf8.first", "unicode/utf8.acceptRanges", "internal/bytealg.MaxLen"], apart := false, laid := [("unicode/utf8.acceptRanges", laid_unicode_utf8_acceptRanges), ("unicode/utf8.first", laid_unicode_utf8_first)], narrowed := true }
def TopSparedUptoSaid : Prop := topSparedUptoRow.holds Tryz.pinned (OpenSpec.upto topSparedSpec)

/-- 'deadwaxtop.TopCentred', WHERE WHAT IT READS IS OF BULK AT MOST 1048576: true; the input reads as it did. -/
def topCentredUptoRow : OpenClaim := { program := "ythlebjnhcinheaagreatdoor", sum := "623e2207a8ebae29cc6f681beb59c51f18ab7754e52f25b477a2125ffe2af1ff", func := "deadwax/deadwaxtop.TopCentred", spec := "topCentred", inPlace := ["internal/bytealg.IndexByteString", "internal/bytealg.IndexString", "math/bits.Add64"], unfollowed := true, recurses := true, named := ["unicode/utf8.first", "unicode/utf8.acceptRanges", "internal/bytealg.MaxLen"], apart := false, laid := [("unicode/utf8.acceptRanges", laid_unicode_utf8_acceptRanges), ("unicode/utf8.first", laid_unicode_utf8_first)], narrowed := true }
def TopCentredUptoSaid : Prop := topCentredUptoRow.holds Tryz.pinned (OpenSpec.upto topCentredSpec)

/-- 'deadwaxtop.TopOwned', WHERE WHAT IT READS IS OF BULK AT MOST 1048576: true; the input reads as it did. -/
def topOwnedUptoRow : OpenClaim := { program := "ythlebjnhcinheaagreatdoor", sum := "623e2207a8ebae29cc6f681beb59c51f18ab7754e52f25b477a2125ffe2af1ff", func := "deadwax/deadwaxtop.TopOwned", spec := "topOwned", inPlace := ["internal/bytealg.IndexByteString", "internal/bytealg.IndexString", "maps.clone"], unfollowed := true, recurses := true, named := ["unicode/utf8.first", "unicode/utf8.acceptRanges", "internal/bytealg.MaxLen"], apart := false, laid := [("unicode/utf8.acceptRanges", laid_unicode_utf8_acceptRanges), ("unicode/utf8.first", laid_unicode_utf8_first)], narrowed := true }
def TopOwnedUptoSaid : Prop := topOwnedUptoRow.holds Tryz.pinned (OpenSpec.upto topOwnedSpec)

end Rows
end Go.Proofs.YthlebjnhcinheaaGreatDoor
