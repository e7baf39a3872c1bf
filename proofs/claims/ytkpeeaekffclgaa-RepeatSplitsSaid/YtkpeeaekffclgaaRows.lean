/-
  No cell of these rows narrows 'for every input' (looked for: loops, veiled, ifaces, maps, wideKeys, modest, calm, conditions, laid).
  DERIVED. THE GIVEN ROWS OF THIS SEAT. 6 by the template 'for every input the law returns true; each argument reads behind the call as it read before'; 0 by the template 'total and deterministic' (their statements: YtkpeeaekffclgaaTotals.lean).
  GIVEN WITH THE SEED: the statements are not yours to turn. If you find one false, say at which input.
  Laid BY PROGRAM, IN A SANDBOX (cutbox-rows.mjs): the forced cells as the released guide's own fill.sh prints them over the translation d0b5d9ce1d7566c5… (all of the seat's roots in one cut). By AI agents, Wed Nov 11 2026. No macro, syntax, notation, axiom, sorry.
-/
import Derived.Test.YtkpeeaekffclgaaChecked
import GoSem.Claim
import GoSem.ClaimJoined
import GoSem.ClaimMapViews
import Derived.JoinedTies
import Derived.KernelRfl
namespace Go.Proofs.Ytkpeeaekffclgaa
/- THE CELL 'sum', in the pinned program and in every row, IS THE sha256 OF THE DUMP (.gsa) THAT YtkpeeaekffclgaaProg.lean LOADS. Nothing in Lean hashes anything: it is a label: what it is worth is what the hold of that sum in a sandbox is worth. -/
noncomputable def Try.pinned : Pinned := { name := "ytkpeeaekffclgaa", sum := "d0b5d9ce1d7566c5777c8fa2d4765c0c6cafde6f6fc04d67f98bcb315af33195", checked := Try.checked }
namespace Rows
def none {H : Type} : Left H := { results := [], args := [] }

/-- 'compositorlaw37.RepeatRuns': WHATEVER THE INPUT: true; the input reads as it did. -/
def repeatRunsSpec : ChangeSpec := { name := "repeatRuns", fn := fun _ => fun
  | [d1, d2, d3] => { results := [.lit (.bool true)], args := [d1, d2, d3] }
  | _ => none }
def repeatRunsRow : OpenClaim := { program := "ytkpeeaekffclgaa", sum := "d0b5d9ce1d7566c5777c8fa2d4765c0c6cafde6f6fc04d67f98bcb315af33195", func := "compositor/compositorlaw37.RepeatRuns", spec := "repeatRuns", unfollowed := true, recurses := true, apart := false }
def RepeatRunsSaid : Prop := repeatRunsRow.holds Try.pinned (OpenSpec.ofChange repeatRunsSpec)

/-- ITS FALSE NEIGHBOUR: 'it returns false'. Refute it at one input. -/
def repeatRunsWrong : ChangeSpec := { name := "repeatRuns", fn := fun _ => fun
  | [d1, d2, d3] => { results := [.lit (.bool false)], args := [d1, d2, d3] }
  | _ => none }
def RepeatRunsWrongFalsely : Prop := repeatRunsRow.holds Try.pinned (OpenSpec.ofChange repeatRunsWrong)

/-- 'compositorlaw37.RepeatTimes': WHATEVER THE INPUT: true; the input reads as it did. -/
def repeatTimesSpec : ChangeSpec := { name := "repeatTimes", fn := fun _ => fun
  | [d1, d2] => { results := [.lit (.bool true)], args := [d1, d2] }
  | _ => none }
def repeatTimesRow : OpenClaim := { program := "ytkpeeaekffclgaa", sum := "d0b5d9ce1d7566c5777c8fa2d4765c0c6cafde6f6fc04d67f98bcb315af33195", func := "compositor/compositorlaw37.RepeatTimes", spec := "repeatTimes", unfollowed := true, recurses := true, apart := false }
def RepeatTimesSaid : Prop := repeatTimesRow.holds Try.pinned (OpenSpec.ofChange repeatTimesSpec)

/-- ITS FALSE NEIGHBOUR: 'it returns false'. Refute it at one input. -/
def repeatTimesWrong : ChangeSpec := { name := "repeatTimes", fn := fun _ => fun
  | [d1, d2] => { results := [.lit (.bool false)], args := [d1, d2] }
  | _ => none }
def RepeatTimesWrongFalsely : Prop := repeatTimesRow.holds Try.pinned (OpenSpec.ofChange repeatTimesWrong)

/-- 'compositorlaw37.RepeatSplits': WHATEVER THE INPUT: true; the input reads as it did. -/
def repeatSplitsSpec : ChangeSpec := { name := "repeatSplits", fn := fun _ => fun
  | [d1, d2] => { results := [.lit (.bool true)], args := [d1, d2] }
  | _ => none }
def repeatSplitsRow : OpenClaim := { program := "ytkpeeaekffclgaa", sum := "d0b5d9ce1d7566c5777c8fa2d4765c0c6cafde6f6fc04d67f98bcb315af33195", func := "compositor/compositorlaw37.RepeatSplits", spec := "repeatSplits", unfollowed := true, recurses := true, apart := false }
def RepeatSplitsSaid : Prop := repeatSplitsRow.holds Try.pinned (OpenSpec.ofChange repeatSplitsSpec)

/-- ITS FALSE NEIGHBOUR: 'it returns false'. Refute it at one input. -/
def repeatSplitsWrong : ChangeSpec := { name := "repeatSplits", fn := fun _ => fun
  | [d1, d2] => { results := [.lit (.bool false)], args := [d1, d2] }
  | _ => none }
def RepeatSplitsWrongFalsely : Prop := repeatSplitsRow.holds Try.pinned (OpenSpec.ofChange repeatSplitsWrong)

/-- 'compositorlaw37.RepeatRate': WHATEVER THE INPUT: true; the input reads as it did. -/
def repeatRateSpec : ChangeSpec := { name := "repeatRate", fn := fun _ => fun
  | [d1, d2] => { results := [.lit (.bool true)], args := [d1, d2] }
  | _ => none }
def repeatRateRow : OpenClaim := { program := "ytkpeeaekffclgaa", sum := "d0b5d9ce1d7566c5777c8fa2d4765c0c6cafde6f6fc04d67f98bcb315af33195", func := "compositor/compositorlaw37.RepeatRate", spec := "repeatRate", unfollowed := true, recurses := true, apart := false }
def RepeatRateSaid : Prop := repeatRateRow.holds Try.pinned (OpenSpec.ofChange repeatRateSpec)

/-- ITS FALSE NEIGHBOUR: 'it returns false'. Refute it at one input. -/
def repeatRateWrong : ChangeSpec := { name := "repeatRate", fn := fun _ => fun
  | [d1, d2] => { results := [.lit (.bool false)], args := [d1, d2] }
  | _ => none }
def RepeatRateWrongFalsely : Prop := repeatRateRow.holds Try.pinned (OpenSpec.ofChange repeatRateWrong)

/-- 'compositorlaw37.RepeatStops': WHATEVER THE INPUT: true; the input reads as it did. -/
def repeatStopsSpec : ChangeSpec := { name := "repeatStops", fn := fun _ => fun
  | [d1, d2, d3] => { results := [.lit (.bool true)], args := [d1, d2, d3] }
  | _ => none }
def repeatStopsRow : OpenClaim := { program := "ytkpeeaekffclgaa", sum := "d0b5d9ce1d7566c5777c8fa2d4765c0c6cafde6f6fc04d67f98bcb315af33195", func := "compositor/compositorlaw37.RepeatStops", spec := "repeatStops", unfollowed := true, recurses := true, apart := false }
def RepeatStopsSaid : Prop := repeatStopsRow.holds Try.pinned (OpenSpec.ofChange repeatStopsSpec)

/-- ITS FALSE NEIGHBOUR: 'it returns false'. Refute it at one input. -/
def repeatStopsWrong : ChangeSpec := { name := "repeatStops", fn := fun _ => fun
  | [d1, d2, d3] => { results := [.lit (.bool false)], args := [d1, d2, d3] }
  | _ => none }
def RepeatStopsWrongFalsely : Prop := repeatStopsRow.holds Try.pinned (OpenSpec.ofChange repeatStopsWrong)

/-- 'compositorlaw37.RepeatNil': WHATEVER THE INPUT: true; the input reads as it did. -/
def repeatNilSpec : ChangeSpec := { name := "repeatNil", fn := fun _ => fun
  | [d] => { results := [.lit (.bool true)], args := [d] }
  | _ => none }
def repeatNilRow : OpenClaim := { program := "ytkpeeaekffclgaa", sum := "d0b5d9ce1d7566c5777c8fa2d4765c0c6cafde6f6fc04d67f98bcb315af33195", func := "compositor/compositorlaw37.RepeatNil", spec := "repeatNil", unfollowed := true, recurses := true, apart := false }
def RepeatNilSaid : Prop := repeatNilRow.holds Try.pinned (OpenSpec.ofChange repeatNilSpec)

/-- ITS FALSE NEIGHBOUR: 'it returns false'. Refute it at one input. -/
def repeatNilWrong : ChangeSpec := { name := "repeatNil", fn := fun _ => fun
  | [d] => { results := [.lit (.bool false)], args := [d] }
  | _ => none }
def RepeatNilWrongFalsely : Prop := repeatNilRow.holds Try.pinned (OpenSpec.ofChange repeatNilWrong)

/- THE SECOND FORM. 'bulk': how many values and letters a reading holds, each counted each time it is reached (what is shared counts as often as it is met; a slice's spare places count too). A statement '..UptoSaid' is the law's where the arguments, and the package variables that the reading takes, are together of bulk at most 1048576: NARROWER than '..Said'. Prove '..Said' where nothing that the law and all that it calls make is longer than what came in: it says more and counts as full. Else prove '..UptoSaid'. A law counts once. -/
mutual
def uptoBulk {H : Type} : DataW H → Nat
  | .lit (.string bytes) => bytes.length + 1
  | .lit _ => 1
  | .nil => 1
  | .ptr d => uptoBulk d + 1
  | .slice elems spare => uptoBulkAll elems + uptoBulkAll spare + 1
  | .agg parts => uptoBulkAll parts + 1
  | .iface _ d => uptoBulk d + 1
  | .map entries => uptoBulkEntries entries + 1
  | .held _ => 1
def uptoBulkAll {H : Type} : List (DataW H) → Nat
  | [] => 0
  | d :: r => uptoBulk d + uptoBulkAll r
def uptoBulkEntries {H : Type} : List (Lit × DataW H) → Nat
  | [] => 0
  | x :: r => uptoBulkEntry x + uptoBulkEntries r
def uptoBulkEntry {H : Type} : Lit × DataW H → Nat
  | (.string bytes, d) => bytes.length + uptoBulk d + 1
  | (_, d) => uptoBulk d + 1
 end
def uptoSmall : (H : Type) → List (DataW H) → Bool := fun _ ds => decide (uptoBulkAll ds ≤ 1048576)
def OpenSpec.upto (s : _root_.Go.ChangeSpec) : _root_.Go.OpenSpec := { _root_.Go.OpenSpec.ofChange s with cond := some uptoSmall }

/-- 'compositorlaw37.RepeatRuns', WHERE WHAT IT READS IS OF BULK AT MOST 1048576: true; the input reads as it did. -/
def repeatRunsUptoRow : OpenClaim := { program := "ytkpeeaekffclgaa", sum := "d0b5d9ce1d7566c5777c8fa2d4765c0c6cafde6f6fc04d67f98bcb315af33195", func := "compositor/compositorlaw37.RepeatRuns", spec := "repeatRuns", unfollowed := true, recurses := true, apart := false, narrowed := true }
def RepeatRunsUptoSaid : Prop := repeatRunsUptoRow.holds Try.pinned (OpenSpec.upto repeatRunsSpec)

/-- 'compositorlaw37.RepeatTimes', WHERE WHAT IT READS IS OF BULK AT MOST 1048576: true; the input reads as it did. -/
def repeatTimesUptoRow : OpenClaim := { program := "ytkpeeaekffclgaa", sum := "d0b5d9ce1d7566c5777c8fa2d4765c0c6cafde6f6fc04d67f98bcb315af33195", func := "compositor/compositorlaw37.RepeatTimes", spec := "repeatTimes", unfollowed := true, recurses := true, apart := false, narrowed := true }
def RepeatTimesUptoSaid : Prop := repeatTimesUptoRow.holds Try.pinned (OpenSpec.upto repeatTimesSpec)

/-- 'compositorlaw37.RepeatSplits', WHERE WHAT IT READS IS OF BULK AT MOST 1048576: true; the input reads as it did. -/
def repeatSplitsUptoRow : OpenClaim := { program := "ytkpeeaekffclgaa", sum := "d0b5d9ce1d7566c5777c8fa2d4765c0c6cafde6f6fc04d67f98bcb315af33195", func := "compositor/compositorlaw37.RepeatSplits", spec := "repeatSplits", unfollowed := true, recurses := true, apart := false, narrowed := true }
def RepeatSplitsUptoSaid : Prop := repeatSplitsUptoRow.holds Try.pinned (OpenSpec.upto repeatSplitsSpec)

/-- 'compositorlaw37.RepeatRate', WHERE WHAT IT READS IS OF BULK AT MOST 1048576: true; the input reads as it did. -/
def repeatRateUptoRow : OpenClaim := { program := "ytkpeeaekffclgaa", sum := "d0b5d9ce1d7566c5777c8fa2d4765c0c6cafde6f6fc04d67f98bcb315af33195", func := "compositor/compositorlaw37.RepeatRate", spec := "repeatRate", unfollowed := true, recurses := true, apart := false, narrowed := true }
def RepeatRateUptoSaid : Prop := repeatRateUptoRow.holds Try.pinned (OpenSpec.upto repeatRateSpec)

/-- 'compositorlaw37.RepeatStops', WHERE WHAT IT READS IS OF BULK AT MOST 1048576: true; the input reads as it did. -/
def repeatStopsUptoRow : OpenClaim := { program := "ytkpeeaekffclgaa", sum := "d0b5d9ce1d7566c5777c8fa2d4765c0c6cafde6f6fc04d67f98bcb315af33195", func := "compositor/compositorlaw37.RepeatStops", spec := "repeatStops", unfollowed := true, recurses := true, apart := false, narrowed := true }
def RepeatStopsUptoSaid : Prop := repeatStopsUptoRow.holds Try.pinned (OpenSpec.upto repeatStopsSpec)

/-- 'compositorlaw37.RepeatNil', WHERE WHAT IT READS IS OF BULK AT MOST 1048576: true; the input reads as it did. -/
def repeatNilUptoRow : OpenClaim := { program := "ytkpeeaekffclgaa", sum := "d0b5d9ce1d7566c5777c8fa2d4765c0c6cafde6f6fc04d67f98bcb315af33195", func := "compositor/compositorlaw37.RepeatNil", spec := "repeatNil", unfollowed := true, recurses := true, apart := false, narrowed := true }
def RepeatNilUptoSaid : Prop := repeatNilUptoRow.holds Try.pinned (OpenSpec.upto repeatNilSpec)

end Rows
end Go.Proofs.Ytkpeeaekffclgaa
