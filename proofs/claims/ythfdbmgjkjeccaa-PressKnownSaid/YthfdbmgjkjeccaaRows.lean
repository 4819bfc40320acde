/-
  No cell of these rows narrows 'for every input' (looked for: loops, veiled, ifaces, maps, wideKeys, modest, calm, conditions, laid).
  DERIVED. THE GIVEN ROWS OF THIS SEAT. 15 by the template 'for every input the law returns true; each argument reads behind the call as it read before'; 0 by the template 'total and deterministic' (their statements: YthfdbmgjkjeccaaTotals.lean).
  GIVEN WITH THE SEED: the statements are not yours to turn. If you find one false, say at which input.
  Laid BY PROGRAM, IN A SANDBOX (cutbox-rows.mjs): the forced cells as the released guide's own fill.sh prints them over the translation 0a16744dc0637611… (all of the seat's roots in one cut). By AI agents, Wed Nov 11 2026. No macro, syntax, notation, axiom, sorry.
-/
import Derived.Test.YthfdbmgjkjeccaaChecked
import GoSem.Claim
import GoSem.ClaimJoined
import GoSem.ClaimMapViews
import Derived.JoinedTies
import Derived.KernelRfl
namespace Go.Proofs.Ythfdbmgjkjeccaa
/- THE CELL 'sum', in the pinned program and in every row, IS THE sha256 OF THE DUMP (.gsa) THAT YthfdbmgjkjeccaaProg.lean LOADS. Nothing in Lean hashes anything: it is a label: what it is worth is what the hold of that sum in a sandbox is worth. -/
noncomputable def Try.pinned : Pinned := { name := "ythfdbmgjkjeccaa", sum := "0a16744dc06376114b47970d3db33bd467fa3e957c6d58ed739d3c2e151ec4c5", checked := Try.checked }
namespace Rows
def none {H : Type} : Left H := { results := [], args := [] }

/-- 'deadwaxlaw08.PressTicks': WHATEVER THE INPUT: true; the input reads as it did. -/
def pressTicksSpec : ChangeSpec := { name := "pressTicks", fn := fun _ => fun
  | [d1, d2, d3] => { results := [.lit (.bool true)], args := [d1, d2, d3] }
  | _ => none }
def pressTicksRow : OpenClaim := { program := "ythfdbmgjkjeccaa", sum := "0a16744dc06376114b47970d3db33bd467fa3e957c6d58ed739d3c2e151ec4c5", func := "deadwax/deadwaxlaw08.PressTicks", spec := "pressTicks", unfollowed := true, recurses := true, plainKeys := false, apart := false }
def PressTicksSaid : Prop := pressTicksRow.holds Try.pinned (OpenSpec.ofChange pressTicksSpec)

/-- ITS FALSE NEIGHBOUR: 'it returns false'. Refute it at one input. -/
def pressTicksWrong : ChangeSpec := { name := "pressTicks", fn := fun _ => fun
  | [d1, d2, d3] => { results := [.lit (.bool false)], args := [d1, d2, d3] }
  | _ => none }
def PressTicksWrongFalsely : Prop := pressTicksRow.holds Try.pinned (OpenSpec.ofChange pressTicksWrong)

/-- 'deadwaxlaw08.PressStarts': WHATEVER THE INPUT: true; the input reads as it did. -/
def pressStartsSpec : ChangeSpec := { name := "pressStarts", fn := fun _ => fun
  | [d1, d2, d3, d4, d5, d6] => { results := [.lit (.bool true)], args := [d1, d2, d3, d4, d5, d6] }
  | _ => none }
def pressStartsRow : OpenClaim := { program := "ythfdbmgjkjeccaa", sum := "0a16744dc06376114b47970d3db33bd467fa3e957c6d58ed739d3c2e151ec4c5", func := "deadwax/deadwaxlaw08.PressStarts", spec := "pressStarts", unfollowed := true, recurses := true, plainKeys := false, apart := false }
def PressStartsSaid : Prop := pressStartsRow.holds Try.pinned (OpenSpec.ofChange pressStartsSpec)

/-- ITS FALSE NEIGHBOUR: 'it returns false'. Refute it at one input. -/
def pressStartsWrong : ChangeSpec := { name := "pressStarts", fn := fun _ => fun
  | [d1, d2, d3, d4, d5, d6] => { results := [.lit (.bool false)], args := [d1, d2, d3, d4, d5, d6] }
  | _ => none }
def PressStartsWrongFalsely : Prop := pressStartsRow.holds Try.pinned (OpenSpec.ofChange pressStartsWrong)

/-- 'deadwaxlaw08.PressEarlier': WHATEVER THE INPUT: true; the input reads as it did. -/
def pressEarlierSpec : ChangeSpec := { name := "pressEarlier", fn := fun _ => fun
  | [d1, d2, d3, d4, d5, d6] => { results := [.lit (.bool true)], args := [d1, d2, d3, d4, d5, d6] }
  | _ => none }
def pressEarlierRow : OpenClaim := { program := "ythfdbmgjkjeccaa", sum := "0a16744dc06376114b47970d3db33bd467fa3e957c6d58ed739d3c2e151ec4c5", func := "deadwax/deadwaxlaw08.PressEarlier", spec := "pressEarlier", unfollowed := true, recurses := true, plainKeys := false, apart := false }
def PressEarlierSaid : Prop := pressEarlierRow.holds Try.pinned (OpenSpec.ofChange pressEarlierSpec)

/-- ITS FALSE NEIGHBOUR: 'it returns false'. Refute it at one input. -/
def pressEarlierWrong : ChangeSpec := { name := "pressEarlier", fn := fun _ => fun
  | [d1, d2, d3, d4, d5, d6] => { results := [.lit (.bool false)], args := [d1, d2, d3, d4, d5, d6] }
  | _ => none }
def PressEarlierWrongFalsely : Prop := pressEarlierRow.holds Try.pinned (OpenSpec.ofChange pressEarlierWrong)

/-- 'deadwaxlaw08.PressFastest': WHATEVER THE INPUT: true; the input reads as it did. -/
def pressFastestSpec : ChangeSpec := { name := "pressFastest", fn := fun _ => fun
  | [d1, d2] => { results := [.lit (.bool true)], args := [d1, d2] }
  | _ => none }
def pressFastestRow : OpenClaim := { program := "ythfdbmgjkjeccaa", sum := "0a16744dc06376114b47970d3db33bd467fa3e957c6d58ed739d3c2e151ec4c5", func := "deadwax/deadwaxlaw08.PressFastest", spec := "pressFastest", unfollowed := true, recurses := true, plainKeys := false, apart := false }
def PressFastestSaid : Prop := pressFastestRow.holds Try.pinned (OpenSpec.ofChange pressFastestSpec)

/-- ITS FALSE NEIGHBOUR: 'it returns false'. Refute it at one input. -/
def pressFastestWrong : ChangeSpec := { name := "pressFastest", fn := fun _ => fun
  | [d1, d2] => { results := [.lit (.bool false)], args := [d1, d2] }
  | _ => none }
def PressFastestWrongFalsely : Prop := pressFastestRow.holds Try.pinned (OpenSpec.ofChange pressFastestWrong)

/-- 'deadwaxlaw08.PressCentres': WHATEVER THE INPUT: true; the input reads as it did. -/
def pressCentresSpec : ChangeSpec := { name := "pressCentres", fn := fun _ => fun
  | [d1, d2, d3, d4] => { results := [.lit (.bool true)], args := [d1, d2, d3, d4] }
  | _ => none }
def pressCentresRow : OpenClaim := { program := "ythfdbmgjkjeccaa", sum := "0a16744dc06376114b47970d3db33bd467fa3e957c6d58ed739d3c2e151ec4c5", func := "deadwax/deadwaxlaw08.PressCentres", spec := "pressCentres", inPlace := ["math/bits.Add64"], unfollowed := true, recurses := true, plainKeys := false, apart := false }
def PressCentresSaid : Prop := pressCentresRow.holds Try.pinned (OpenSpec.ofChange pressCentresSpec)

/-- ITS FALSE NEIGHBOUR: 'it returns false'. Refute it at one input. -/
def pressCentresWrong : ChangeSpec := { name := "pressCentres", fn := fun _ => fun
  | [d1, d2, d3, d4] => { results := [.lit (.bool false)], args := [d1, d2, d3, d4] }
  | _ => none }
def PressCentresWrongFalsely : Prop := pressCentresRow.holds Try.pinned (OpenSpec.ofChange pressCentresWrong)

/-- 'deadwaxlaw08.PressCircle': WHATEVER THE INPUT: true; the input reads as it did. -/
def pressCircleSpec : ChangeSpec := { name := "pressCircle", fn := fun _ => fun
  | [d1, d2, d3, d4, d5] => { results := [.lit (.bool true)], args := [d1, d2, d3, d4, d5] }
  | _ => none }
def pressCircleRow : OpenClaim := { program := "ythfdbmgjkjeccaa", sum := "0a16744dc06376114b47970d3db33bd467fa3e957c6d58ed739d3c2e151ec4c5", func := "deadwax/deadwaxlaw08.PressCircle", spec := "pressCircle", inPlace := ["math/bits.Add64"], unfollowed := true, recurses := true, plainKeys := false, apart := false }
def PressCircleSaid : Prop := pressCircleRow.holds Try.pinned (OpenSpec.ofChange pressCircleSpec)

/-- ITS FALSE NEIGHBOUR: 'it returns false'. Refute it at one input. -/
def pressCircleWrong : ChangeSpec := { name := "pressCircle", fn := fun _ => fun
  | [d1, d2, d3, d4, d5] => { results := [.lit (.bool false)], args := [d1, d2, d3, d4, d5] }
  | _ => none }
def PressCircleWrongFalsely : Prop := pressCircleRow.holds Try.pinned (OpenSpec.ofChange pressCircleWrong)

/-- 'deadwaxlaw08.PressMounts': WHATEVER THE INPUT: true; the input reads as it did. -/
def pressMountsSpec : ChangeSpec := { name := "pressMounts", fn := fun _ => fun
  | [d1, d2, d3] => { results := [.lit (.bool true)], args := [d1, d2, d3] }
  | _ => none }
def pressMountsRow : OpenClaim := { program := "ythfdbmgjkjeccaa", sum := "0a16744dc06376114b47970d3db33bd467fa3e957c6d58ed739d3c2e151ec4c5", func := "deadwax/deadwaxlaw08.PressMounts", spec := "pressMounts", unfollowed := true, recurses := true, plainKeys := false, apart := false }
def PressMountsSaid : Prop := pressMountsRow.holds Try.pinned (OpenSpec.ofChange pressMountsSpec)

/-- ITS FALSE NEIGHBOUR: 'it returns false'. Refute it at one input. -/
def pressMountsWrong : ChangeSpec := { name := "pressMounts", fn := fun _ => fun
  | [d1, d2, d3] => { results := [.lit (.bool false)], args := [d1, d2, d3] }
  | _ => none }
def PressMountsWrongFalsely : Prop := pressMountsRow.holds Try.pinned (OpenSpec.ofChange pressMountsWrong)

/-- 'deadwaxlaw08.PressLasting': WHATEVER THE INPUT: true; the input reads as it did. -/
def pressLastingSpec : ChangeSpec := { name := "pressLasting", fn := fun _ => fun
  | [d1, d2, d3] => { results := [.lit (.bool true)], args := [d1, d2, d3] }
  | _ => none }
def pressLastingRow : OpenClaim := { program := "ythfdbmgjkjeccaa", sum := "0a16744dc06376114b47970d3db33bd467fa3e957c6d58ed739d3c2e151ec4c5", func := "deadwax/deadwaxlaw08.PressLasting", spec := "pressLasting", unfollowed := true, recurses := true, plainKeys := false, apart := false }
def PressLastingSaid : Prop := pressLastingRow.holds Try.pinned (OpenSpec.ofChange pressLastingSpec)

/-- ITS FALSE NEIGHBOUR: 'it returns false'. Refute it at one input. -/
def pressLastingWrong : ChangeSpec := { name := "pressLasting", fn := fun _ => fun
  | [d1, d2, d3] => { results := [.lit (.bool false)], args := [d1, d2, d3] }
  | _ => none }
def PressLastingWrongFalsely : Prop := pressLastingRow.holds Try.pinned (OpenSpec.ofChange pressLastingWrong)

/-- 'deadwaxlaw08.PressGood': WHATEVER THE INPUT: true; the input reads as it did. -/
def pressGoodSpec : ChangeSpec := { name := "pressGood", fn := fun _ => fun
  | [d1, d2, d3] => { results := [.lit (.bool true)], args := [d1, d2, d3] }
  | _ => none }
def pressGoodRow : OpenClaim := { program := "ythfdbmgjkjeccaa", sum := "0a16744dc06376114b47970d3db33bd467fa3e957c6d58ed739d3c2e151ec4c5", func := "deadwax/deadwaxlaw08.PressGood", spec := "pressGood", inPlace := ["maps.clone"], unfollowed := true, recurses := true, plainKeys := false, apart := false }
def PressGoodSaid : Prop := pressGoodRow.holds Try.pinned (OpenSpec.ofChange pressGoodSpec)

/-- ITS FALSE NEIGHBOUR: 'it returns false'. Refute it at one input. -/
def pressGoodWrong : ChangeSpec := { name := "pressGood", fn := fun _ => fun
  | [d1, d2, d3] => { results := [.lit (.bool false)], args := [d1, d2, d3] }
  | _ => none }
def PressGoodWrongFalsely : Prop := pressGoodRow.holds Try.pinned (OpenSpec.ofChange pressGoodWrong)

/-- 'deadwaxlaw08.PressLocked': WHATEVER THE INPUT: true; the input reads as it did. -/
def pressLockedSpec : ChangeSpec := { name := "pressLocked", fn := fun _ => fun
  | [d1, d2] => { results := [.lit (.bool true)], args := [d1, d2] }
  | _ => none }
def pressLockedRow : OpenClaim := { program := "ythfdbmgjkjeccaa", sum := "0a16744dc06376114b47970d3db33bd467fa3e957c6d58ed739d3c2e151ec4c5", func := "deadwax/deadwaxlaw08.PressLocked", spec := "pressLocked", inPlace := ["maps.clone"], unfollowed := true, recurses := true, plainKeys := false, apart := false }
def PressLockedSaid : Prop := pressLockedRow.holds Try.pinned (OpenSpec.ofChange pressLockedSpec)

/-- ITS FALSE NEIGHBOUR: 'it returns false'. Refute it at one input. -/
def pressLockedWrong : ChangeSpec := { name := "pressLocked", fn := fun _ => fun
  | [d1, d2] => { results := [.lit (.bool false)], args := [d1, d2] }
  | _ => none }
def PressLockedWrongFalsely : Prop := pressLockedRow.holds Try.pinned (OpenSpec.ofChange pressLockedWrong)

/-- 'deadwaxlaw08.PressPlays': WHATEVER THE INPUT: true; the input reads as it did. -/
def pressPlaysSpec : ChangeSpec := { name := "pressPlays", fn := fun _ => fun
  | [d1, d2] => { results := [.lit (.bool true)], args := [d1, d2] }
  | _ => none }
def pressPlaysRow : OpenClaim := { program := "ythfdbmgjkjeccaa", sum := "0a16744dc06376114b47970d3db33bd467fa3e957c6d58ed739d3c2e151ec4c5", func := "deadwax/deadwaxlaw08.PressPlays", spec := "pressPlays", inPlace := ["maps.clone"], unfollowed := true, recurses := true, plainKeys := false, apart := false }
def PressPlaysSaid : Prop := pressPlaysRow.holds Try.pinned (OpenSpec.ofChange pressPlaysSpec)

/-- ITS FALSE NEIGHBOUR: 'it returns false'. Refute it at one input. -/
def pressPlaysWrong : ChangeSpec := { name := "pressPlays", fn := fun _ => fun
  | [d1, d2] => { results := [.lit (.bool false)], args := [d1, d2] }
  | _ => none }
def PressPlaysWrongFalsely : Prop := pressPlaysRow.holds Try.pinned (OpenSpec.ofChange pressPlaysWrong)

/-- 'deadwaxlaw08.PressNumbers': WHATEVER THE INPUT: true; the input reads as it did. -/
def pressNumbersSpec : ChangeSpec := { name := "pressNumbers", fn := fun _ => fun
  | [d1, d2] => { results := [.lit (.bool true)], args := [d1, d2] }
  | _ => none }
def pressNumbersRow : OpenClaim := { program := "ythfdbmgjkjeccaa", sum := "0a16744dc06376114b47970d3db33bd467fa3e957c6d58ed739d3c2e151ec4c5", func := "deadwax/deadwaxlaw08.PressNumbers", spec := "pressNumbers", inPlace := ["maps.clone"], unfollowed := true, recurses := true, plainKeys := false, apart := false }
def PressNumbersSaid : Prop := pressNumbersRow.holds Try.pinned (OpenSpec.ofChange pressNumbersSpec)

/-- ITS FALSE NEIGHBOUR: 'it returns false'. Refute it at one input. -/
def pressNumbersWrong : ChangeSpec := { name := "pressNumbers", fn := fun _ => fun
  | [d1, d2] => { results := [.lit (.bool false)], args := [d1, d2] }
  | _ => none }
def PressNumbersWrongFalsely : Prop := pressNumbersRow.holds Try.pinned (OpenSpec.ofChange pressNumbersWrong)

/-- 'deadwaxlaw08.PressCopies': WHATEVER THE INPUT: true; the input reads as it did. -/
def pressCopiesSpec : ChangeSpec := { name := "pressCopies", fn := fun _ => fun
  | [d1, d2, d3] => { results := [.lit (.bool true)], args := [d1, d2, d3] }
  | _ => none }
def pressCopiesRow : OpenClaim := { program := "ythfdbmgjkjeccaa", sum := "0a16744dc06376114b47970d3db33bd467fa3e957c6d58ed739d3c2e151ec4c5", func := "deadwax/deadwaxlaw08.PressCopies", spec := "pressCopies", inPlace := ["maps.clone"], unfollowed := true, recurses := true, plainKeys := false, apart := false }
def PressCopiesSaid : Prop := pressCopiesRow.holds Try.pinned (OpenSpec.ofChange pressCopiesSpec)

/-- ITS FALSE NEIGHBOUR: 'it returns false'. Refute it at one input. -/
def pressCopiesWrong : ChangeSpec := { name := "pressCopies", fn := fun _ => fun
  | [d1, d2, d3] => { results := [.lit (.bool false)], args := [d1, d2, d3] }
  | _ => none }
def PressCopiesWrongFalsely : Prop := pressCopiesRow.holds Try.pinned (OpenSpec.ofChange pressCopiesWrong)

/-- 'deadwaxlaw08.PressSooner': WHATEVER THE INPUT: true; the input reads as it did. -/
def pressSoonerSpec : ChangeSpec := { name := "pressSooner", fn := fun _ => fun
  | [d1, d2] => { results := [.lit (.bool true)], args := [d1, d2] }
  | _ => none }
def pressSoonerRow : OpenClaim := { program := "ythfdbmgjkjeccaa", sum := "0a16744dc06376114b47970d3db33bd467fa3e957c6d58ed739d3c2e151ec4c5", func := "deadwax/deadwaxlaw08.PressSooner", spec := "pressSooner", inPlace := ["maps.clone"], unfollowed := true, recurses := true, plainKeys := false, apart := false }
def PressSoonerSaid : Prop := pressSoonerRow.holds Try.pinned (OpenSpec.ofChange pressSoonerSpec)

/-- ITS FALSE NEIGHBOUR: 'it returns false'. Refute it at one input. -/
def pressSoonerWrong : ChangeSpec := { name := "pressSooner", fn := fun _ => fun
  | [d1, d2] => { results := [.lit (.bool false)], args := [d1, d2] }
  | _ => none }
def PressSoonerWrongFalsely : Prop := pressSoonerRow.holds Try.pinned (OpenSpec.ofChange pressSoonerWrong)

/-- 'deadwaxlaw08.PressKnown': WHATEVER THE INPUT: true; the input reads as it did. -/
def pressKnownSpec : ChangeSpec := { name := "pressKnown", fn := fun _ => fun
  | [] => { results := [.lit (.bool true)], args := [] }
  | _ => none }
def pressKnownRow : OpenClaim := { program := "ythfdbmgjkjeccaa", sum := "0a16744dc06376114b47970d3db33bd467fa3e957c6d58ed739d3c2e151ec4c5", func := "deadwax/deadwaxlaw08.PressKnown", spec := "pressKnown", inPlace := ["maps.clone", "math/bits.Add64"], unfollowed := true, recurses := true, plainKeys := false, apart := false }
def PressKnownSaid : Prop := pressKnownRow.holds Try.pinned (OpenSpec.ofChange pressKnownSpec)

/-- ITS FALSE NEIGHBOUR: 'it returns false'. Refute it at one input. -/
def pressKnownWrong : ChangeSpec := { name := "pressKnown", fn := fun _ => fun
  | [] => { results := [.lit (.bool false)], args := [] }
  | _ => none }
def PressKnownWrongFalsely : Prop := pressKnownRow.holds Try.pinned (OpenSpec.ofChange pressKnownWrong)

/- THE SECOND FORM. 'bulk': how many values and letters a reading holds, each counted each time it is reached (what is shared counts as often as it is met; a slice's spare places count too). A statement '..UptoSaid' is the law's where the arguments, and the package variables that the reading takes, are together of bulk at most 1048576: NARROWER than '..Said'. Prove '..Said' where nothing that the law and all that it calls make is longer than what came in: it says more and counts as full. Else prove '..UptoSaid'. A law counts once. -/
mutual
def uptoBulk {H : Type} : DataW H → Nat
  | .lit (.string bytes) => bytes.length + 1
  | .lit _ => 1
  | .nil => 1
  | .ptr d => uptoBulk d + 1
  | .slice elems spare => uptoBulkAll elems + uptoBulkAll spare + 1
  | .agg parts => uptoBulkAll parts + 1
  | .iface _ d => uptoBulk d + 1
  | .map entries => uptoBulkEntries entries + 1
  | .held _ => 1
def uptoBulkAll {H : Type} : List (DataW H) → Nat
  | [] => 0
  | d :: r => uptoBulk d + uptoBulkAll r
def uptoBulkEntries {H : Type} : List (Lit × DataW H) → Nat
  | [] => 0
  | x :: r => uptoBulkEntry x + uptoBulkEntries r
def uptoBulkEntry {H : Type} : Lit × DataW H → Nat
  | (.string bytes, d) => bytes.length + uptoBulk d + 1
  | (_, d) => uptoBulk d + 1
 end
def uptoSmall : (H : Type) → List (DataW H) → Bool := fun _ ds => decide (uptoBulkAll ds ≤ 1048576)
def OpenSpec.upto (s : _root_.Go.ChangeSpec) : _root_.Go.OpenSpec := { _root_.Go.OpenSpec.ofChange s with cond := some uptoSmall }

/-- 'deadwaxlaw08.PressTicks', WHERE WHAT IT READS IS OF BULK AT MOST 1048576: true; the input reads as it did. -/
def pressTicksUptoRow : OpenClaim := { program := "ythfdbmgjkjeccaa", sum := "0a16744dc06376114b47970d3db33bd467fa3e957c6d58ed739d3c2e151ec4c5", func := "deadwax/deadwaxlaw08.PressTicks", spec := "pressTicks", unfollowed := true, recurses := true, plainKeys := false, apart := false, narrowed := true }
def PressTicksUptoSaid : Prop := pressTicksUptoRow.holds Try.pinned (OpenSpec.upto pressTicksSpec)

/-- 'deadwaxlaw08.PressStarts', WHERE WHAT IT READS IS OF BULK AT MOST 1048576: true; the input reads as it did. -/
def pressStartsUptoRow : OpenClaim := { program := "ythfdbmgjkjeccaa", sum := "0a16744dc06376114b47970d3db33bd467fa3e957c6d58ed739d3c2e151ec4c5", func := "deadwax/deadwaxlaw08.PressStarts", spec := "pressStarts", unfollowed := true, recurses := true, plainKeys := false, apart := false, narrowed := true }
def PressStartsUptoSaid : Prop := pressStartsUptoRow.holds Try.pinned (OpenSpec.upto pressStartsSpec)

/-- 'deadwaxlaw08.PressEarlier', WHERE WHAT IT READS IS OF BULK AT MOST 1048576: true; the input reads as it did. -/
def pressEarlierUptoRow : OpenClaim := { program := "ythfdbmgjkjeccaa", sum := "0a16744dc06376114b47970d3db33bd467fa3e957c6d58ed739d3c2e151ec4c5", func := "deadwax/deadwaxlaw08.PressEarlier", spec := "pressEarlier", unfollowed := true, recurses := true, plainKeys := false, apart := false, narrowed := true }
def PressEarlierUptoSaid : Prop := pressEarlierUptoRow.holds Try.pinned (OpenSpec.upto pressEarlierSpec)

/-- 'deadwaxlaw08.PressFastest', WHERE WHAT IT READS IS OF BULK AT MOST 1048576: true; the input reads as it did. -/
def pressFastestUptoRow : OpenClaim := { program := "ythfdbmgjkjeccaa", sum := "0a16744dc06376114b47970d3db33bd467fa3e957c6d58ed739d3c2e151ec4c5", func := "deadwax/deadwaxlaw08.PressFastest", spec := "pressFastest", unfollowed := true, recurses := true, plainKeys := false, apart := false, narrowed := true }
def PressFastestUptoSaid : Prop := pressFastestUptoRow.holds Try.pinned (OpenSpec.upto pressFastestSpec)

/-- 'deadwaxlaw08.PressCentres', WHERE WHAT IT READS IS OF BULK AT MOST 1048576: true; the input reads as it did. -/
def pressCentresUptoRow : OpenClaim := { program := "ythfdbmgjkjeccaa", sum := "0a16744dc06376114b47970d3db33bd467fa3e957c6d58ed739d3c2e151ec4c5", func := "deadwax/deadwaxlaw08.PressCentres", spec := "pressCentres", inPlace := ["math/bits.Add64"], unfollowed := true, recurses := true, plainKeys := false, apart := false, narrowed := true }
def PressCentresUptoSaid : Prop := pressCentresUptoRow.holds Try.pinned (OpenSpec.upto pressCentresSpec)

/-- 'deadwaxlaw08.PressCircle', WHERE WHAT IT READS IS OF BULK AT MOST 1048576: true; the input reads as it did. -/
def pressCircleUptoRow : OpenClaim := { program := "ythfdbmgjkjeccaa", sum := "0a16744dc06376114b47970d3db33bd467fa3e957c6d58ed739d3c2e151ec4c5", func := "deadwax/deadwaxlaw08.PressCircle", spec := "pressCircle", inPlace := ["math/bits.Add64"], unfollowed := true, recurses := true, plainKeys := false, apart := false, narrowed := true }
def PressCircleUptoSaid : Prop := pressCircleUptoRow.holds Try.pinned (OpenSpec.upto pressCircleSpec)

/-- 'deadwaxlaw08.PressMounts', WHERE WHAT IT READS IS OF BULK AT MOST 1048576: true; the input reads as it did. -/
def pressMountsUptoRow : OpenClaim := { program := "ythfdbmgjkjeccaa", sum := "0a16744dc06376114b47970d3db33bd467fa3e957c6d58ed739d3c2e151ec4c5", func := "deadwax/deadwaxlaw08.PressMounts", spec := "pressMounts", unfollowed := true, recurses := true, plainKeys := false, apart := false, narrowed := true }
def PressMountsUptoSaid : Prop := pressMountsUptoRow.holds Try.pinned (OpenSpec.upto pressMountsSpec)

/-- 'deadwaxlaw08.PressLasting', WHERE WHAT IT READS IS OF BULK AT MOST 1048576: true; the input reads as it did. -/
def pressLastingUptoRow : OpenClaim := { program := "ythfdbmgjkjeccaa", sum := "0a16744dc06376114b47970d3db33bd467fa3e957c6d58ed739d3c2e151ec4c5", func := "deadwax/deadwaxlaw08.PressLasting", spec := "pressLasting", unfollowed := true, recurses := true, plainKeys := false, apart := false, narrowed := true }
def PressLastingUptoSaid : Prop := pressLastingUptoRow.holds Try.pinned (OpenSpec.upto pressLastingSpec)

/-- 'deadwaxlaw08.PressGood', WHERE WHAT IT READS IS OF BULK AT MOST 1048576: true; the input reads as it did. -/
def pressGoodUptoRow : OpenClaim := { program := "ythfdbmgjkjeccaa", sum := "0a16744dc06376114b47970d3db33bd467fa3e957c6d58ed739d3c2e151ec4c5", func := "deadwax/deadwaxlaw08.PressGood", spec := "pressGood", inPlace := ["maps.clone"], unfollowed := true, recurses := true, plainKeys := false, apart := false, narrowed := true }
def PressGoodUptoSaid : Prop := pressGoodUptoRow.holds Try.pinned (OpenSpec.upto pressGoodSpec)

/-- 'deadwaxlaw08.PressLocked', WHERE WHAT IT READS IS OF BULK AT MOST 1048576: true; the input reads as it did. -/
def pressLockedUptoRow : OpenClaim := { program := "ythfdbmgjkjeccaa", sum := "0a16744dc06376114b47970d3db33bd467fa3e957c6d58ed739d3c2e151ec4c5", func := "deadwax/deadwaxlaw08.PressLocked", spec := "pressLocked", inPlace := ["maps.clone"], unfollowed := true, recurses := true, plainKeys := false, apart := false, narrowed := true }
def PressLockedUptoSaid : Prop := pressLockedUptoRow.holds Try.pinned (OpenSpec.upto pressLockedSpec)

/-- 'deadwaxlaw08.PressPlays', WHERE WHAT IT READS IS OF BULK AT MOST 1048576: true; the input reads as it did. -/
def pressPlaysUptoRow : OpenClaim := { program := "ythfdbmgjkjeccaa", sum := "0a16744dc06376114b47970d3db33bd467fa3e957c6d58ed739d3c2e151ec4c5", func := "deadwax/deadwaxlaw08.PressPlays", spec := "pressPlays", inPlace := ["maps.clone"], unfollowed := true, recurses := true, plainKeys := false, apart := false, narrowed := true }
def PressPlaysUptoSaid : Prop := pressPlaysUptoRow.holds Try.pinned (OpenSpec.upto pressPlaysSpec)

/-- 'deadwaxlaw08.PressNumbers', WHERE WHAT IT READS IS OF BULK AT MOST 1048576: true; the input reads as it did. -/
def pressNumbersUptoRow : OpenClaim := { program := "ythfdbmgjkjeccaa", sum := "0a16744dc06376114b47970d3db33bd467fa3e957c6d58ed739d3c2e151ec4c5", func := "deadwax/deadwaxlaw08.PressNumbers", spec := "pressNumbers", inPlace := ["maps.clone"], unfollowed := true, recurses := true, plainKeys := false, apart := false, narrowed := true }
def PressNumbersUptoSaid : Prop := pressNumbersUptoRow.holds Try.pinned (OpenSpec.upto pressNumbersSpec)

/-- 'deadwaxlaw08.PressCopies', WHERE WHAT IT READS IS OF BULK AT MOST 1048576: true; the input reads as it did. -/
def pressCopiesUptoRow : OpenClaim := { program := "ythfdbmgjkjeccaa", sum := "0a16744dc06376114b47970d3db33bd467fa3e957c6d58ed739d3c2e151ec4c5", func := "deadwax/deadwaxlaw08.PressCopies", spec := "pressCopies", inPlace := ["maps.clone"], unfollowed := true, recurses := true, plainKeys := false, apart := false, narrowed := true }
def PressCopiesUptoSaid : Prop := pressCopiesUptoRow.holds Try.pinned (OpenSpec.upto pressCopiesSpec)

/-- 'deadwaxlaw08.PressSooner', WHERE WHAT IT READS IS OF BULK AT MOST 1048576: true; the input reads as it did. -/
def pressSoonerUptoRow : OpenClaim := { program := "ythfdbmgjkjeccaa", sum := "0a16744dc06376114b47970d3db33bd467fa3e957c6d58ed739d3c2e151ec4c5", func := "deadwax/deadwaxlaw08.PressSooner", spec := "pressSooner", inPlace := ["maps.clone"], unfollowed := true, recurses := true, plainKeys := false, apart := false, narrowed := true }
def PressSoonerUptoSaid : Prop := pressSoonerUptoRow.holds Try.pinned (OpenSpec.upto pressSoonerSpec)

/-- 'deadwaxlaw08.PressKnown', WHERE WHAT IT READS IS OF BULK AT MOST 1048576: true; the input reads as it did. -/
def pressKnownUptoRow : OpenClaim := { program := "ythfdbmgjkjeccaa", sum := "0a16744dc06376114b47970d3db33bd467fa3e957c6d58ed739d3c2e151ec4c5", func := "deadwax/deadwaxlaw08.PressKnown", spec := "pressKnown", inPlace := ["maps.clone", "math/bits.Add64"], unfollowed := true, recurses := true, plainKeys := false, apart := false, narrowed := true }
def PressKnownUptoSaid : Prop := pressKnownUptoRow.holds Try.pinned (OpenSpec.upto pressKnownSpec)

end Rows
end Go.Proofs.Ythfdbmgjkjeccaa
