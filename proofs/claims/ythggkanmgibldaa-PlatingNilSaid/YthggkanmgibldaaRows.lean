/-
  No cell of these rows narrows 'for every input' (looked for: loops, veiled, ifaces, maps, wideKeys, modest, calm, conditions, laid).
  DERIVED. THE GIVEN ROWS OF THIS SEAT. 13 by the template 'for every input the law returns true; each argument reads behind the call as it read before'; 0 by the template 'total and deterministic' (their statements: YthggkanmgibldaaTotals.lean).
  GIVEN WITH THE SEED: the statements are not yours to turn. If you find one false, say at which input.
  Laid BY PROGRAM, IN A SANDBOX (cutbox-rows.mjs): the forced cells as the released guide's own fill.sh prints them over the translation cc131f2552ae7be7… (all of the seat's roots in one cut). By AI agents, Wed Nov 11 2026. No macro, syntax, notation, axiom, sorry.
-/
import Derived.Test.YthggkanmgibldaaChecked
import GoSem.Claim
import GoSem.ClaimJoined
import GoSem.ClaimMapViews
import Derived.JoinedTies
import Derived.KernelRfl
namespace Go.Proofs.Ythggkanmgibldaa
/- THE CELL 'sum', in the pinned program and in every row, IS THE sha256 OF THE DUMP (.gsa) THAT YthggkanmgibldaaProg.lean LOADS. Nothing in Lean hashes anything: it is a label: what it is worth is what the hold of that sum in a sandbox is worth. -/
noncomputable def Try.pinned : Pinned := { name := "ythggkanmgibldaa", sum := "cc131f2552ae7be7922aa350ae119f1a9f84d8376ca043d9e7a4965a9ece17ad", checked := Try.checked }
namespace Rows
def none {H : Type} : Left H := { results := [], args := [] }

/-- 'deadwaxlaw07.PlatingThick': WHATEVER THE INPUT: true; the input reads as it did. -/
def platingThickSpec : ChangeSpec := { name := "platingThick", fn := fun _ => fun
  | [d1, d2] => { results := [.lit (.bool true)], args := [d1, d2] }
  | _ => none }
def platingThickRow : OpenClaim := { program := "ythggkanmgibldaa", sum := "cc131f2552ae7be7922aa350ae119f1a9f84d8376ca043d9e7a4965a9ece17ad", func := "deadwax/deadwaxlaw07.PlatingThick", spec := "platingThick", unfollowed := true, recurses := true, apart := false }
def PlatingThickSaid : Prop := platingThickRow.holds Try.pinned (OpenSpec.ofChange platingThickSpec)

/-- ITS FALSE NEIGHBOUR: 'it returns false'. Refute it at one input. -/
def platingThickWrong : ChangeSpec := { name := "platingThick", fn := fun _ => fun
  | [d1, d2] => { results := [.lit (.bool false)], args := [d1, d2] }
  | _ => none }
def PlatingThickWrongFalsely : Prop := platingThickRow.holds Try.pinned (OpenSpec.ofChange platingThickWrong)

/-- 'deadwaxlaw07.PlatingMetal': WHATEVER THE INPUT: true; the input reads as it did. -/
def platingMetalSpec : ChangeSpec := { name := "platingMetal", fn := fun _ => fun
  | [d1, d2] => { results := [.lit (.bool true)], args := [d1, d2] }
  | _ => none }
def platingMetalRow : OpenClaim := { program := "ythggkanmgibldaa", sum := "cc131f2552ae7be7922aa350ae119f1a9f84d8376ca043d9e7a4965a9ece17ad", func := "deadwax/deadwaxlaw07.PlatingMetal", spec := "platingMetal", unfollowed := true, recurses := true, apart := false }
def PlatingMetalSaid : Prop := platingMetalRow.holds Try.pinned (OpenSpec.ofChange platingMetalSpec)

/-- ITS FALSE NEIGHBOUR: 'it returns false'. Refute it at one input. -/
def platingMetalWrong : ChangeSpec := { name := "platingMetal", fn := fun _ => fun
  | [d1, d2] => { results := [.lit (.bool false)], args := [d1, d2] }
  | _ => none }
def PlatingMetalWrongFalsely : Prop := platingMetalRow.holds Try.pinned (OpenSpec.ofChange platingMetalWrong)

/-- 'deadwaxlaw07.PlatingPlans': WHATEVER THE INPUT: true; the input reads as it did. -/
def platingPlansSpec : ChangeSpec := { name := "platingPlans", fn := fun _ => fun
  | [d1, d2, d3, d4, d5] => { results := [.lit (.bool true)], args := [d1, d2, d3, d4, d5] }
  | _ => none }
def platingPlansRow : OpenClaim := { program := "ythggkanmgibldaa", sum := "cc131f2552ae7be7922aa350ae119f1a9f84d8376ca043d9e7a4965a9ece17ad", func := "deadwax/deadwaxlaw07.PlatingPlans", spec := "platingPlans", unfollowed := true, recurses := true, apart := false }
def PlatingPlansSaid : Prop := platingPlansRow.holds Try.pinned (OpenSpec.ofChange platingPlansSpec)

/-- ITS FALSE NEIGHBOUR: 'it returns false'. Refute it at one input. -/
def platingPlansWrong : ChangeSpec := { name := "platingPlans", fn := fun _ => fun
  | [d1, d2, d3, d4, d5] => { results := [.lit (.bool false)], args := [d1, d2, d3, d4, d5] }
  | _ => none }
def PlatingPlansWrongFalsely : Prop := platingPlansRow.holds Try.pinned (OpenSpec.ofChange platingPlansWrong)

/-- 'deadwaxlaw07.PlatingNeeds': WHATEVER THE INPUT: true; the input reads as it did. -/
def platingNeedsSpec : ChangeSpec := { name := "platingNeeds", fn := fun _ => fun
  | [d1, d2, d3, d4, d5] => { results := [.lit (.bool true)], args := [d1, d2, d3, d4, d5] }
  | _ => none }
def platingNeedsRow : OpenClaim := { program := "ythggkanmgibldaa", sum := "cc131f2552ae7be7922aa350ae119f1a9f84d8376ca043d9e7a4965a9ece17ad", func := "deadwax/deadwaxlaw07.PlatingNeeds", spec := "platingNeeds", unfollowed := true, recurses := true, apart := false }
def PlatingNeedsSaid : Prop := platingNeedsRow.holds Try.pinned (OpenSpec.ofChange platingNeedsSpec)

/-- ITS FALSE NEIGHBOUR: 'it returns false'. Refute it at one input. -/
def platingNeedsWrong : ChangeSpec := { name := "platingNeeds", fn := fun _ => fun
  | [d1, d2, d3, d4, d5] => { results := [.lit (.bool false)], args := [d1, d2, d3, d4, d5] }
  | _ => none }
def PlatingNeedsWrongFalsely : Prop := platingNeedsRow.holds Try.pinned (OpenSpec.ofChange platingNeedsWrong)

/-- 'deadwaxlaw07.PlatingLines': WHATEVER THE INPUT: true; the input reads as it did. -/
def platingLinesSpec : ChangeSpec := { name := "platingLines", fn := fun _ => fun
  | [d1, d2, d3] => { results := [.lit (.bool true)], args := [d1, d2, d3] }
  | _ => none }
def platingLinesRow : OpenClaim := { program := "ythggkanmgibldaa", sum := "cc131f2552ae7be7922aa350ae119f1a9f84d8376ca043d9e7a4965a9ece17ad", func := "deadwax/deadwaxlaw07.PlatingLines", spec := "platingLines", unfollowed := true, recurses := true, apart := false }
def PlatingLinesSaid : Prop := platingLinesRow.holds Try.pinned (OpenSpec.ofChange platingLinesSpec)

/-- ITS FALSE NEIGHBOUR: 'it returns false'. Refute it at one input. -/
def platingLinesWrong : ChangeSpec := { name := "platingLines", fn := fun _ => fun
  | [d1, d2, d3] => { results := [.lit (.bool false)], args := [d1, d2, d3] }
  | _ => none }
def PlatingLinesWrongFalsely : Prop := platingLinesRow.holds Try.pinned (OpenSpec.ofChange platingLinesWrong)

/-- 'deadwaxlaw07.PlatingSeconds': WHATEVER THE INPUT: true; the input reads as it did. -/
def platingSecondsSpec : ChangeSpec := { name := "platingSeconds", fn := fun _ => fun
  | [d1, d2, d3, d4] => { results := [.lit (.bool true)], args := [d1, d2, d3, d4] }
  | _ => none }
def platingSecondsRow : OpenClaim := { program := "ythggkanmgibldaa", sum := "cc131f2552ae7be7922aa350ae119f1a9f84d8376ca043d9e7a4965a9ece17ad", func := "deadwax/deadwaxlaw07.PlatingSeconds", spec := "platingSeconds", unfollowed := true, recurses := true, apart := false }
def PlatingSecondsSaid : Prop := platingSecondsRow.holds Try.pinned (OpenSpec.ofChange platingSecondsSpec)

/-- ITS FALSE NEIGHBOUR: 'it returns false'. Refute it at one input. -/
def platingSecondsWrong : ChangeSpec := { name := "platingSeconds", fn := fun _ => fun
  | [d1, d2, d3, d4] => { results := [.lit (.bool false)], args := [d1, d2, d3, d4] }
  | _ => none }
def PlatingSecondsWrongFalsely : Prop := platingSecondsRow.holds Try.pinned (OpenSpec.ofChange platingSecondsWrong)

/-- 'deadwaxlaw07.PlatingKnown': WHATEVER THE INPUT: true; the input reads as it did. -/
def platingKnownSpec : ChangeSpec := { name := "platingKnown", fn := fun _ => fun
  | [] => { results := [.lit (.bool true)], args := [] }
  | _ => none }
def platingKnownRow : OpenClaim := { program := "ythggkanmgibldaa", sum := "cc131f2552ae7be7922aa350ae119f1a9f84d8376ca043d9e7a4965a9ece17ad", func := "deadwax/deadwaxlaw07.PlatingKnown", spec := "platingKnown", unfollowed := true, recurses := true, apart := false }
def PlatingKnownSaid : Prop := platingKnownRow.holds Try.pinned (OpenSpec.ofChange platingKnownSpec)

/-- ITS FALSE NEIGHBOUR: 'it returns false'. Refute it at one input. -/
def platingKnownWrong : ChangeSpec := { name := "platingKnown", fn := fun _ => fun
  | [] => { results := [.lit (.bool false)], args := [] }
  | _ => none }
def PlatingKnownWrongFalsely : Prop := platingKnownRow.holds Try.pinned (OpenSpec.ofChange platingKnownWrong)

/-- 'deadwaxlaw07.PlatingHands': WHATEVER THE INPUT: true; the input reads as it did. -/
def platingHandsSpec : ChangeSpec := { name := "platingHands", fn := fun _ => fun
  | [d1, d2] => { results := [.lit (.bool true)], args := [d1, d2] }
  | _ => none }
def platingHandsRow : OpenClaim := { program := "ythggkanmgibldaa", sum := "cc131f2552ae7be7922aa350ae119f1a9f84d8376ca043d9e7a4965a9ece17ad", func := "deadwax/deadwaxlaw07.PlatingHands", spec := "platingHands", unfollowed := true, recurses := true, apart := false }
def PlatingHandsSaid : Prop := platingHandsRow.holds Try.pinned (OpenSpec.ofChange platingHandsSpec)

/-- ITS FALSE NEIGHBOUR: 'it returns false'. Refute it at one input. -/
def platingHandsWrong : ChangeSpec := { name := "platingHands", fn := fun _ => fun
  | [d1, d2] => { results := [.lit (.bool false)], args := [d1, d2] }
  | _ => none }
def PlatingHandsWrongFalsely : Prop := platingHandsRow.holds Try.pinned (OpenSpec.ofChange platingHandsWrong)

/-- 'deadwaxlaw07.PlatingAsks': WHATEVER THE INPUT: true; the input reads as it did. -/
def platingAsksSpec : ChangeSpec := { name := "platingAsks", fn := fun _ => fun
  | [d1, d2, d3, d4, d5] => { results := [.lit (.bool true)], args := [d1, d2, d3, d4, d5] }
  | _ => none }
def platingAsksRow : OpenClaim := { program := "ythggkanmgibldaa", sum := "cc131f2552ae7be7922aa350ae119f1a9f84d8376ca043d9e7a4965a9ece17ad", func := "deadwax/deadwaxlaw07.PlatingAsks", spec := "platingAsks", unfollowed := true, recurses := true, apart := false }
def PlatingAsksSaid : Prop := platingAsksRow.holds Try.pinned (OpenSpec.ofChange platingAsksSpec)

/-- ITS FALSE NEIGHBOUR: 'it returns false'. Refute it at one input. -/
def platingAsksWrong : ChangeSpec := { name := "platingAsks", fn := fun _ => fun
  | [d1, d2, d3, d4, d5] => { results := [.lit (.bool false)], args := [d1, d2, d3, d4, d5] }
  | _ => none }
def PlatingAsksWrongFalsely : Prop := platingAsksRow.holds Try.pinned (OpenSpec.ofChange platingAsksWrong)

/-- 'deadwaxlaw07.PlatingPlays': WHATEVER THE INPUT: true; the input reads as it did. -/
def platingPlaysSpec : ChangeSpec := { name := "platingPlays", fn := fun _ => fun
  | [d1, d2] => { results := [.lit (.bool true)], args := [d1, d2] }
  | _ => none }
def platingPlaysRow : OpenClaim := { program := "ythggkanmgibldaa", sum := "cc131f2552ae7be7922aa350ae119f1a9f84d8376ca043d9e7a4965a9ece17ad", func := "deadwax/deadwaxlaw07.PlatingPlays", spec := "platingPlays", unfollowed := true, recurses := true, apart := false }
def PlatingPlaysSaid : Prop := platingPlaysRow.holds Try.pinned (OpenSpec.ofChange platingPlaysSpec)

/-- ITS FALSE NEIGHBOUR: 'it returns false'. Refute it at one input. -/
def platingPlaysWrong : ChangeSpec := { name := "platingPlays", fn := fun _ => fun
  | [d1, d2] => { results := [.lit (.bool false)], args := [d1, d2] }
  | _ => none }
def PlatingPlaysWrongFalsely : Prop := platingPlaysRow.holds Try.pinned (OpenSpec.ofChange platingPlaysWrong)

/-- 'deadwaxlaw07.PlatingReplays': WHATEVER THE INPUT: true; the input reads as it did. -/
def platingReplaysSpec : ChangeSpec := { name := "platingReplays", fn := fun _ => fun
  | [d1, d2] => { results := [.lit (.bool true)], args := [d1, d2] }
  | _ => none }
def platingReplaysRow : OpenClaim := { program := "ythggkanmgibldaa", sum := "cc131f2552ae7be7922aa350ae119f1a9f84d8376ca043d9e7a4965a9ece17ad", func := "deadwax/deadwaxlaw07.PlatingReplays", spec := "platingReplays", unfollowed := true, recurses := true, apart := false }
def PlatingReplaysSaid : Prop := platingReplaysRow.holds Try.pinned (OpenSpec.ofChange platingReplaysSpec)

/-- ITS FALSE NEIGHBOUR: 'it returns false'. Refute it at one input. -/
def platingReplaysWrong : ChangeSpec := { name := "platingReplays", fn := fun _ => fun
  | [d1, d2] => { results := [.lit (.bool false)], args := [d1, d2] }
  | _ => none }
def PlatingReplaysWrongFalsely : Prop := platingReplaysRow.holds Try.pinned (OpenSpec.ofChange platingReplaysWrong)

/-- 'deadwaxlaw07.PlatingAgain': WHATEVER THE INPUT: true; the input reads as it did. -/
def platingAgainSpec : ChangeSpec := { name := "platingAgain", fn := fun _ => fun
  | [d1, d2, d3] => { results := [.lit (.bool true)], args := [d1, d2, d3] }
  | _ => none }
def platingAgainRow : OpenClaim := { program := "ythggkanmgibldaa", sum := "cc131f2552ae7be7922aa350ae119f1a9f84d8376ca043d9e7a4965a9ece17ad", func := "deadwax/deadwaxlaw07.PlatingAgain", spec := "platingAgain", unfollowed := true, recurses := true, apart := false }
def PlatingAgainSaid : Prop := platingAgainRow.holds Try.pinned (OpenSpec.ofChange platingAgainSpec)

/-- ITS FALSE NEIGHBOUR: 'it returns false'. Refute it at one input. -/
def platingAgainWrong : ChangeSpec := { name := "platingAgain", fn := fun _ => fun
  | [d1, d2, d3] => { results := [.lit (.bool false)], args := [d1, d2, d3] }
  | _ => none }
def PlatingAgainWrongFalsely : Prop := platingAgainRow.holds Try.pinned (OpenSpec.ofChange platingAgainWrong)

/-- 'deadwaxlaw07.PlatingNil': WHATEVER THE INPUT: true; the input reads as it did. -/
def platingNilSpec : ChangeSpec := { name := "platingNil", fn := fun _ => fun
  | [d1, d2] => { results := [.lit (.bool true)], args := [d1, d2] }
  | _ => none }
def platingNilRow : OpenClaim := { program := "ythggkanmgibldaa", sum := "cc131f2552ae7be7922aa350ae119f1a9f84d8376ca043d9e7a4965a9ece17ad", func := "deadwax/deadwaxlaw07.PlatingNil", spec := "platingNil", unfollowed := true, recurses := true, apart := false }
def PlatingNilSaid : Prop := platingNilRow.holds Try.pinned (OpenSpec.ofChange platingNilSpec)

/-- ITS FALSE NEIGHBOUR: 'it returns false'. Refute it at one input. -/
def platingNilWrong : ChangeSpec := { name := "platingNil", fn := fun _ => fun
  | [d1, d2] => { results := [.lit (.bool false)], args := [d1, d2] }
  | _ => none }
def PlatingNilWrongFalsely : Prop := platingNilRow.holds Try.pinned (OpenSpec.ofChange platingNilWrong)

/- THE SECOND FORM. 'bulk': how many values and letters a reading holds, each counted each time it is reached (what is shared counts as often as it is met; a slice's spare places count too). A statement '..UptoSaid' is the law's where the arguments, and the package variables that the reading takes, are together of bulk at most 1048576: NARROWER than '..Said'. Prove '..Said' where nothing that the law and all that it calls make is longer than what came in: it says more and counts as full. Else prove '..UptoSaid'. A law counts once. -/
mutual
def uptoBulk {H : Type} : DataW H → Nat
  | .lit (.string bytes) => bytes.length + 1
  | .lit _ => 1
  | .nil => 1
  | .ptr d => uptoBulk d + 1
  | .slice elems spare => uptoBulkAll elems + uptoBulkAll spare + 1
  | .agg parts => uptoBulkAll parts + 1
  | .iface _ d => uptoBulk d + 1
  | .map entries => uptoBulkEntries entries + 1
  | .held _ => 1
def uptoBulkAll {H : Type} : List (DataW H) → Nat
  | [] => 0
  | d :: r => uptoBulk d + uptoBulkAll r
def uptoBulkEntries {H : Type} : List (Lit × DataW H) → Nat
  | [] => 0
  | x :: r => uptoBulkEntry x + uptoBulkEntries r
def uptoBulkEntry {H : Type} : Lit × DataW H → Nat
  | (.string bytes, d) => bytes.length + uptoBulk d + 1
  | (_, d) => uptoBulk d + 1
 end
def uptoSmall : (H : Type) → List (DataW H) → Bool := fun _ ds => decide (uptoBulkAll ds ≤ 1048576)
def OpenSpec.upto (s : _root_.Go.ChangeSpec) : _root_.Go.OpenSpec := { _root_.Go.OpenSpec.ofChange s with cond := some uptoSmall }

/-- 'deadwaxlaw07.PlatingThick', WHERE WHAT IT READS IS OF BULK AT MOST 1048576: true; the input reads as it did. -/
def platingThickUptoRow : OpenClaim := { program := "ythggkanmgibldaa", sum := "cc131f2552ae7be7922aa350ae119f1a9f84d8376ca043d9e7a4965a9ece17ad", func := "deadwax/deadwaxlaw07.PlatingThick", spec := "platingThick", unfollowed := true, recurses := true, apart := false, narrowed := true }
def PlatingThickUptoSaid : Prop := platingThickUptoRow.holds Try.pinned (OpenSpec.upto platingThickSpec)

/-- 'deadwaxlaw07.PlatingMetal', WHERE WHAT IT READS IS OF BULK AT MOST 1048576: true; the input reads as it did. -/
def platingMetalUptoRow : OpenClaim := { program := "ythggkanmgibldaa", sum := "cc131f2552ae7be7922aa350ae119f1a9f84d8376ca043d9e7a4965a9ece17ad", func := "deadwax/deadwaxlaw07.PlatingMetal", spec := "platingMetal", unfollowed := true, recurses := true, apart := false, narrowed := true }
def PlatingMetalUptoSaid : Prop := platingMetalUptoRow.holds Try.pinned (OpenSpec.upto platingMetalSpec)

/-- 'deadwaxlaw07.PlatingPlans', WHERE WHAT IT READS IS OF BULK AT MOST 1048576: true; the input reads as it did. -/
def platingPlansUptoRow : OpenClaim := { program := "ythggkanmgibldaa", sum := "cc131f2552ae7be7922aa350ae119f1a9f84d8376ca043d9e7a4965a9ece17ad", func := "deadwax/deadwaxlaw07.PlatingPlans", spec := "platingPlans", unfollowed := true, recurses := true, apart := false, narrowed := true }
def PlatingPlansUptoSaid : Prop := platingPlansUptoRow.holds Try.pinned (OpenSpec.upto platingPlansSpec)

/-- 'deadwaxlaw07.PlatingNeeds', WHERE WHAT IT READS IS OF BULK AT MOST 1048576: true; the input reads as it did. -/
def platingNeedsUptoRow : OpenClaim := { program := "ythggkanmgibldaa", sum := "cc131f2552ae7be7922aa350ae119f1a9f84d8376ca043d9e7a4965a9ece17ad", func := "deadwax/deadwaxlaw07.PlatingNeeds", spec := "platingNeeds", unfollowed := true, recurses := true, apart := false, narrowed := true }
def PlatingNeedsUptoSaid : Prop := platingNeedsUptoRow.holds Try.pinned (OpenSpec.upto platingNeedsSpec)

/-- 'deadwaxlaw07.PlatingLines', WHERE WHAT IT READS IS OF BULK AT MOST 1048576: true; the input reads as it did. -/
def platingLinesUptoRow : OpenClaim := { program := "ythggkanmgibldaa", sum := "cc131f2552ae7be7922aa350ae119f1a9f84d8376ca043d9e7a4965a9ece17ad", func := "deadwax/deadwaxlaw07.PlatingLines", spec := "platingLines", unfollowed := true, recurses := true, apart := false, narrowed := true }
def PlatingLinesUptoSaid : Prop := platingLinesUptoRow.holds Try.pinned (OpenSpec.upto platingLinesSpec)

/-- 'deadwaxlaw07.PlatingSeconds', WHERE WHAT IT READS IS OF BULK AT MOST 1048576: true; the input reads as it did. -/
def platingSecondsUptoRow : OpenClaim := { program := "ythggkanmgibldaa", sum := "cc131f2552ae7be7922aa350ae119f1a9f84d8376ca043d9e7a4965a9ece17ad", func := "deadwax/deadwaxlaw07.PlatingSeconds", spec := "platingSeconds", unfollowed := true, recurses := true, apart := false, narrowed := true }
def PlatingSecondsUptoSaid : Prop := platingSecondsUptoRow.holds Try.pinned (OpenSpec.upto platingSecondsSpec)

/-- 'deadwaxlaw07.PlatingKnown', WHERE WHAT IT READS IS OF BULK AT MOST 1048576: true; the input reads as it did. -/
def platingKnownUptoRow : OpenClaim := { program := "ythggkanmgibldaa", sum := "cc131f2552ae7be7922aa350ae119f1a9f84d8376ca043d9e7a4965a9ece17ad", func := "deadwax/deadwaxlaw07.PlatingKnown", spec := "platingKnown", unfollowed := true, recurses := true, apart := false, narrowed := true }
def PlatingKnownUptoSaid : Prop := platingKnownUptoRow.holds Try.pinned (OpenSpec.upto platingKnownSpec)

/-- 'deadwaxlaw07.PlatingHands', WHERE WHAT IT READS IS OF BULK AT MOST 1048576: true; the input reads as it did. -/
def platingHandsUptoRow : OpenClaim := { program := "ythggkanmgibldaa", sum := "cc131f2552ae7be7922aa350ae119f1a9f84d8376ca043d9e7a4965a9ece17ad", func := "deadwax/deadwaxlaw07.PlatingHands", spec := "platingHands", unfollowed := true, recurses := true, apart := false, narrowed := true }
def PlatingHandsUptoSaid : Prop := platingHandsUptoRow.holds Try.pinned (OpenSpec.upto platingHandsSpec)

/-- 'deadwaxlaw07.PlatingAsks', WHERE WHAT IT READS IS OF BULK AT MOST 1048576: true; the input reads as it did. -/
def platingAsksUptoRow : OpenClaim := { program := "ythggkanmgibldaa", sum := "cc131f2552ae7be7922aa350ae119f1a9f84d8376ca043d9e7a4965a9ece17ad", func := "deadwax/deadwaxlaw07.PlatingAsks", spec := "platingAsks", unfollowed := true, recurses := true, apart := false, narrowed := true }
def PlatingAsksUptoSaid : Prop := platingAsksUptoRow.holds Try.pinned (OpenSpec.upto platingAsksSpec)

/-- 'deadwaxlaw07.PlatingPlays', WHERE WHAT IT READS IS OF BULK AT MOST 1048576: true; the input reads as it did. -/
def platingPlaysUptoRow : OpenClaim := { program := "ythggkanmgibldaa", sum := "cc131f2552ae7be7922aa350ae119f1a9f84d8376ca043d9e7a4965a9ece17ad", func := "deadwax/deadwaxlaw07.PlatingPlays", spec := "platingPlays", unfollowed := true, recurses := true, apart := false, narrowed := true }
def PlatingPlaysUptoSaid : Prop := platingPlaysUptoRow.holds Try.pinned (OpenSpec.upto platingPlaysSpec)

/-- 'deadwaxlaw07.PlatingReplays', WHERE WHAT IT READS IS OF BULK AT MOST 1048576: true; the input reads as it did. -/
def platingReplaysUptoRow : OpenClaim := { program := "ythggkanmgibldaa", sum := "cc131f2552ae7be7922aa350ae119f1a9f84d8376ca043d9e7a4965a9ece17ad", func := "deadwax/deadwaxlaw07.PlatingReplays", spec := "platingReplays", unfollowed := true, recurses := true, apart := false, narrowed := true }
def PlatingReplaysUptoSaid : Prop := platingReplaysUptoRow.holds Try.pinned (OpenSpec.upto platingReplaysSpec)

/-- 'deadwaxlaw07.PlatingAgain', WHERE WHAT IT READS IS OF BULK AT MOST 1048576: true; the input reads as it did. -/
def platingAgainUptoRow : OpenClaim := { program := "ythggkanmgibldaa", sum := "cc131f2552ae7be7922aa350ae119f1a9f84d8376ca043d9e7a4965a9ece17ad", func := "deadwax/deadwaxlaw07.PlatingAgain", spec := "platingAgain", unfollowed := true, recurses := true, apart := false, narrowed := true }
def PlatingAgainUptoSaid : Prop := platingAgainUptoRow.holds Try.pinned (OpenSpec.upto platingAgainSpec)

/-- 'deadwaxlaw07.PlatingNil', WHERE WHAT IT READS IS OF BULK AT MOST 1048576: true; the input reads as it did. -/
def platingNilUptoRow : OpenClaim := { program := "ythggkanmgibldaa", sum := "cc131f2552ae7be7922aa350ae119f1a9f84d8376ca043d9e7a4965a9ece17ad", func := "deadwax/deadwaxlaw07.PlatingNil", spec := "platingNil", unfollowed := true, recurses := true, apart := false, narrowed := true }
def PlatingNilUptoSaid : Prop := platingNilUptoRow.holds Try.pinned (OpenSpec.upto platingNilSpec)

end Rows
end Go.Proofs.Ythggkanmgibldaa
