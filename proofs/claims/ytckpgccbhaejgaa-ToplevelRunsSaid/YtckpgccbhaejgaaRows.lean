/-
  No cell of these rows narrows 'for every input' (looked for: loops, veiled, ifaces, maps, wideKeys, modest, calm, conditions, laid).
  DERIVED. THE GIVEN ROWS OF THIS SEAT. 5 by the template 'for every input the law returns true; each argument reads behind the call as it read before'; 0 by the template 'total and deterministic' (their statements: YtckpgccbhaejgaaTotals.lean).
  GIVEN WITH THE SEED: the statements are not yours to turn. If you find one false, say at which input.
  Laid BY PROGRAM, IN A SANDBOX (cutbox-rows.mjs): the forced cells as the released guide's own fill.sh prints them over the translation e02d1c53b8e1dc25… (all of the seat's roots in one cut). By AI agents, Wed Nov 11 2026. No macro, syntax, notation, axiom, sorry.
-/
import Derived.Test.YtckpgccbhaejgaaChecked
import GoSem.Claim
import GoSem.ClaimJoined
import GoSem.ClaimMapViews
import Derived.JoinedTies
import Derived.KernelRfl
namespace Go.Proofs.Ytckpgccbhaejgaa
/- THE CELL 'sum', in the pinned program and in every row, IS THE sha256 OF THE DUMP (.gsa) THAT YtckpgccbhaejgaaProg.lean LOADS. Nothing in Lean hashes anything: it is a label: what it is worth is what the hold of that sum in a sandbox is worth. -/
noncomputable def Try.pinned : Pinned := { name := "ytckpgccbhaejgaa", sum := "e02d1c53b8e1dc2561fbc8b3603795f3c11b4bb14384051766d68b38173335e8", checked := Try.checked }
namespace Rows
def none {H : Type} : Left H := { results := [], args := [] }

/-- 'compositorlaw22.ToplevelEdges': WHATEVER THE INPUT: true; the input reads as it did. -/
def toplevelEdgesSpec : ChangeSpec := { name := "toplevelEdges", fn := fun _ => fun
  | [d1, d2, d3] => { results := [.lit (.bool true)], args := [d1, d2, d3] }
  | _ => none }
def toplevelEdgesRow : OpenClaim := { program := "ytckpgccbhaejgaa", sum := "e02d1c53b8e1dc2561fbc8b3603795f3c11b4bb14384051766d68b38173335e8", func := "compositor/compositorlaw22.ToplevelEdges", spec := "toplevelEdges", unfollowed := true, recurses := true, apart := false }
def ToplevelEdgesSaid : Prop := toplevelEdgesRow.holds Try.pinned (OpenSpec.ofChange toplevelEdgesSpec)

/-- ITS FALSE NEIGHBOUR: 'it returns false'. Refute it at one input. -/
def toplevelEdgesWrong : ChangeSpec := { name := "toplevelEdges", fn := fun _ => fun
  | [d1, d2, d3] => { results := [.lit (.bool false)], args := [d1, d2, d3] }
  | _ => none }
def ToplevelEdgesWrongFalsely : Prop := toplevelEdgesRow.holds Try.pinned (OpenSpec.ofChange toplevelEdgesWrong)

/-- 'compositorlaw22.ToplevelRuns': WHATEVER THE INPUT: true; the input reads as it did. -/
def toplevelRunsSpec : ChangeSpec := { name := "toplevelRuns", fn := fun _ => fun
  | [d] => { results := [.lit (.bool true)], args := [d] }
  | _ => none }
def toplevelRunsRow : OpenClaim := { program := "ytckpgccbhaejgaa", sum := "e02d1c53b8e1dc2561fbc8b3603795f3c11b4bb14384051766d68b38173335e8", func := "compositor/compositorlaw22.ToplevelRuns", spec := "toplevelRuns", inPlace := ["internal/bytealg.IndexByteString"], unfollowed := true, recurses := true, apart := false }
def ToplevelRunsSaid : Prop := toplevelRunsRow.holds Try.pinned (OpenSpec.ofChange toplevelRunsSpec)

/-- ITS FALSE NEIGHBOUR: 'it returns false'. Refute it at one input. -/
def toplevelRunsWrong : ChangeSpec := { name := "toplevelRuns", fn := fun _ => fun
  | [d] => { results := [.lit (.bool false)], args := [d] }
  | _ => none }
def ToplevelRunsWrongFalsely : Prop := toplevelRunsRow.holds Try.pinned (OpenSpec.ofChange toplevelRunsWrong)

/-- 'compositorlaw22.ToplevelLimits': WHATEVER THE INPUT: true; the input reads as it did. -/
def toplevelLimitsSpec : ChangeSpec := { name := "toplevelLimits", fn := fun _ => fun
  | [d] => { results := [.lit (.bool true)], args := [d] }
  | _ => none }
def toplevelLimitsRow : OpenClaim := { program := "ytckpgccbhaejgaa", sum := "e02d1c53b8e1dc2561fbc8b3603795f3c11b4bb14384051766d68b38173335e8", func := "compositor/compositorlaw22.ToplevelLimits", spec := "toplevelLimits", inPlace := ["internal/bytealg.IndexByteString"], unfollowed := true, recurses := true, apart := false }
def ToplevelLimitsSaid : Prop := toplevelLimitsRow.holds Try.pinned (OpenSpec.ofChange toplevelLimitsSpec)

/-- ITS FALSE NEIGHBOUR: 'it returns false'. Refute it at one input. -/
def toplevelLimitsWrong : ChangeSpec := { name := "toplevelLimits", fn := fun _ => fun
  | [d] => { results := [.lit (.bool false)], args := [d] }
  | _ => none }
def ToplevelLimitsWrongFalsely : Prop := toplevelLimitsRow.holds Try.pinned (OpenSpec.ofChange toplevelLimitsWrong)

/-- 'compositorlaw22.ToplevelStates': WHATEVER THE INPUT: true; the input reads as it did. -/
def toplevelStatesSpec : ChangeSpec := { name := "toplevelStates", fn := fun _ => fun
  | [d] => { results := [.lit (.bool true)], args := [d] }
  | _ => none }
def toplevelStatesRow : OpenClaim := { program := "ytckpgccbhaejgaa", sum := "e02d1c53b8e1dc2561fbc8b3603795f3c11b4bb14384051766d68b38173335e8", func := "compositor/compositorlaw22.ToplevelStates", spec := "toplevelStates", inPlace := ["internal/bytealg.IndexByteString"], unfollowed := true, recurses := true, apart := false }
def ToplevelStatesSaid : Prop := toplevelStatesRow.holds Try.pinned (OpenSpec.ofChange toplevelStatesSpec)

/-- ITS FALSE NEIGHBOUR: 'it returns false'. Refute it at one input. -/
def toplevelStatesWrong : ChangeSpec := { name := "toplevelStates", fn := fun _ => fun
  | [d] => { results := [.lit (.bool false)], args := [d] }
  | _ => none }
def ToplevelStatesWrongFalsely : Prop := toplevelStatesRow.holds Try.pinned (OpenSpec.ofChange toplevelStatesWrong)

/-- 'compositorlaw22.ToplevelNil': WHATEVER THE INPUT: true; the input reads as it did. -/
def toplevelNilSpec : ChangeSpec := { name := "toplevelNil", fn := fun _ => fun
  | [d] => { results := [.lit (.bool true)], args := [d] }
  | _ => none }
def toplevelNilRow : OpenClaim := { program := "ytckpgccbhaejgaa", sum := "e02d1c53b8e1dc2561fbc8b3603795f3c11b4bb14384051766d68b38173335e8", func := "compositor/compositorlaw22.ToplevelNil", spec := "toplevelNil", inPlace := ["internal/bytealg.IndexByteString"], unfollowed := true, recurses := true, apart := false }
def ToplevelNilSaid : Prop := toplevelNilRow.holds Try.pinned (OpenSpec.ofChange toplevelNilSpec)

/-- ITS FALSE NEIGHBOUR: 'it returns false'. Refute it at one input. -/
def toplevelNilWrong : ChangeSpec := { name := "toplevelNil", fn := fun _ => fun
  | [d] => { results := [.lit (.bool false)], args := [d] }
  | _ => none }
def ToplevelNilWrongFalsely : Prop := toplevelNilRow.holds Try.pinned (OpenSpec.ofChange toplevelNilWrong)

/- THE SECOND FORM. 'bulk': how many values and letters a reading holds, each counted each time it is reached (what is shared counts as often as it is met; a slice's spare places count too). A statement '..UptoSaid' is the law's where the arguments, and the package variables that the reading takes, are together of bulk at most 1048576: NARROWER than '..Said'. Prove '..Said' where nothing that the law and all that it calls make is longer than what came in: it says more and counts as full. Else prove '..UptoSaid'. A law counts once. -/
mutual
def uptoBulk {H : Type} : DataW H → Nat
  | .lit (.string bytes) => bytes.length + 1
  | .lit _ => 1
  | .nil => 1
  | .ptr d => uptoBulk d + 1
  | .slice elems spare => uptoBulkAll elems + uptoBulkAll spare + 1
  | .agg parts => uptoBulkAll parts + 1
  | .iface _ d => uptoBulk d + 1
  | .map entries => uptoBulkEntries entries + 1
  | .held _ => 1
def uptoBulkAll {H : Type} : List (DataW H) → Nat
  | [] => 0
  | d :: r => uptoBulk d + uptoBulkAll r
def uptoBulkEntries {H : Type} : List (Lit × DataW H) → Nat
  | [] => 0
  | x :: r => uptoBulkEntry x + uptoBulkEntries r
def uptoBulkEntry {H : Type} : Lit × DataW H → Nat
  | (.string bytes, d) => bytes.length + uptoBulk d + 1
  | (_, d) => uptoBulk d + 1
 end
def uptoSmall : (H : Type) → List (DataW H) → Bool := fun _ ds => decide (uptoBulkAll ds ≤ 1048576)
def OpenSpec.upto (s : _root_.Go.ChangeSpec) : _root_.Go.OpenSpec := { _root_.Go.OpenSpec.ofChange s with cond := some uptoSmall }

/-- 'compositorlaw22.ToplevelEdges', WHERE WHAT IT READS IS OF BULK AT MOST 1048576: true; the input reads as it did. -/
def toplevelEdgesUptoRow : OpenClaim := { program := "ytckpgccbhaejgaa", sum := "e02d1c53b8e1dc2561fbc8b3603795f3c11b4bb14384051766d68b38173335e8", func := "compositor/compositorlaw22.ToplevelEdges", spec := "toplevelEdges", unfollowed := true, recurses := true, apart := false, narrowed := true }
def ToplevelEdgesUptoSaid : Prop := toplevelEdgesUptoRow.holds Try.pinned (OpenSpec.upto toplevelEdgesSpec)

/-- 'compositorlaw22.ToplevelRuns', WHERE WHAT IT READS IS OF BULK AT MOST 1048576: true; the input reads as it did. -/
def toplevelRunsUptoRow : OpenClaim := { program := "ytckpgccbhaejgaa", sum := "e02d1c53b8e1dc2561fbc8b3603795f3c11b4bb14384051766d68b38173335e8", func := "compositor/compositorlaw22.ToplevelRuns", spec := "toplevelRuns", inPlace := ["internal/bytealg.IndexByteString"], unfollowed := true, recurses := true, apart := false, narrowed := true }
def ToplevelRunsUptoSaid : Prop := toplevelRunsUptoRow.holds Try.pinned (OpenSpec.upto toplevelRunsSpec)

/-- 'compositorlaw22.ToplevelLimits', WHERE WHAT IT READS IS OF BULK AT MOST 1048576: true; the input reads as it did. -/
def toplevelLimitsUptoRow : OpenClaim := { program := "ytckpgccbhaejgaa", sum := "e02d1c53b8e1dc2561fbc8b3603795f3c11b4bb14384051766d68b38173335e8", func := "compositor/compositorlaw22.ToplevelLimits", spec := "toplevelLimits", inPlace := ["internal/bytealg.IndexByteString"], unfollowed := true, recurses := true, apart := false, narrowed := true }
def ToplevelLimitsUptoSaid : Prop := toplevelLimitsUptoRow.holds Try.pinned (OpenSpec.upto toplevelLimitsSpec)

/-- 'compositorlaw22.ToplevelStates', WHERE WHAT IT READS IS OF BULK AT MOST 1048576: true; the input reads as it did. -/
def toplevelStatesUptoRow : OpenClaim := { program := "ytckpgccbhaejgaa", sum := "e02d1c53b8e1dc2561fbc8b3603795f3c11b4bb14384051766d68b38173335e8", func := "compositor/compositorlaw22.ToplevelStates", spec := "toplevelStates", inPlace := ["internal/bytealg.IndexByteString"], unfollowed := true, recurses := true, apart := false, narrowed := true }
def ToplevelStatesUptoSaid : Prop := toplevelStatesUptoRow.holds Try.pinned (OpenSpec.upto toplevelStatesSpec)

/-- 'compositorlaw22.ToplevelNil', WHERE WHAT IT READS IS OF BULK AT MOST 1048576: true; the input reads as it did. -/
def toplevelNilUptoRow : OpenClaim := { program := "ytckpgccbhaejgaa", sum := "e02d1c53b8e1dc2561fbc8b3603795f3c11b4bb14384051766d68b38173335e8", func := "compositor/compositorlaw22.ToplevelNil", spec := "toplevelNil", inPlace := ["internal/bytealg.IndexByteString"], unfollowed := true, recurses := true, apart := false, narrowed := true }
def ToplevelNilUptoSaid : Prop := toplevelNilUptoRow.holds Try.pinned (OpenSpec.upto toplevelNilSpec)

end Rows
end Go.Proofs.Ytckpgccbhaejgaa
