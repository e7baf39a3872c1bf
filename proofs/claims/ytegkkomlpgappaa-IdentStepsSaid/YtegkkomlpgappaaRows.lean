/-
  No cell of these rows narrows 'for every input' (looked for: loops, veiled, ifaces, maps, wideKeys, modest, calm, conditions, laid).
  DERIVED. THE GIVEN ROWS OF THIS SEAT. 5 by the template 'for every input the law returns true; each argument reads behind the call as it read before'; 0 by the template 'total and deterministic' (their statements: YtegkkomlpgappaaTotals.lean).
  GIVEN WITH THE SEED: the statements are not yours to turn. If you find one false, say at which input.
  Laid BY PROGRAM, IN A SANDBOX (cutbox-rows.mjs): the forced cells as the released guide's own fill.sh prints them over the translation ef450f9c677da45f… (all of the seat's roots in one cut). By AI agents, Wed Nov 11 2026. No macro, syntax, notation, axiom, sorry.
-/
import Derived.Test.YtegkkomlpgappaaChecked
import GoSem.Claim
import GoSem.ClaimJoined
import GoSem.ClaimMapViews
import Derived.JoinedTies
import Derived.KernelRfl
namespace Go.Proofs.Ytegkkomlpgappaa
/- THE CELL 'sum', in the pinned program and in every row, IS THE sha256 OF THE DUMP (.gsa) THAT YtegkkomlpgappaaProg.lean LOADS. Nothing in Lean hashes anything: it is a label: what it is worth is what the hold of that sum in a sandbox is worth. -/
noncomputable def Try.pinned : Pinned := { name := "ytegkkomlpgappaa", sum := "ef450f9c677da45ff0f82eed631ee687bf15da49f263874c5f638e9792e2c6f8", checked := Try.checked }
namespace Rows
def none {H : Type} : Left H := { results := [], args := [] }

/-- 'compositorlaw11.IdentLimit': WHATEVER THE INPUT: true; the input reads as it did. -/
def identLimitSpec : ChangeSpec := { name := "identLimit", fn := fun _ => fun
  | [d1, d2] => { results := [.lit (.bool true)], args := [d1, d2] }
  | _ => none }
def identLimitRow : OpenClaim := { program := "ytegkkomlpgappaa", sum := "ef450f9c677da45ff0f82eed631ee687bf15da49f263874c5f638e9792e2c6f8", func := "compositor/compositorlaw11.IdentLimit", spec := "identLimit", apart := false }
def IdentLimitSaid : Prop := identLimitRow.holds Try.pinned (OpenSpec.ofChange identLimitSpec)

/-- ITS FALSE NEIGHBOUR: 'it returns false'. Refute it at one input. -/
def identLimitWrong : ChangeSpec := { name := "identLimit", fn := fun _ => fun
  | [d1, d2] => { results := [.lit (.bool false)], args := [d1, d2] }
  | _ => none }
def IdentLimitWrongFalsely : Prop := identLimitRow.holds Try.pinned (OpenSpec.ofChange identLimitWrong)

/-- 'compositorlaw11.IdentSteps': WHATEVER THE INPUT: true; the input reads as it did. -/
def identStepsSpec : ChangeSpec := { name := "identSteps", fn := fun _ => fun
  | [d1, d2, d3] => { results := [.lit (.bool true)], args := [d1, d2, d3] }
  | _ => none }
def identStepsRow : OpenClaim := { program := "ytegkkomlpgappaa", sum := "ef450f9c677da45ff0f82eed631ee687bf15da49f263874c5f638e9792e2c6f8", func := "compositor/compositorlaw11.IdentSteps", spec := "identSteps", apart := false }
def IdentStepsSaid : Prop := identStepsRow.holds Try.pinned (OpenSpec.ofChange identStepsSpec)

/-- ITS FALSE NEIGHBOUR: 'it returns false'. Refute it at one input. -/
def identStepsWrong : ChangeSpec := { name := "identSteps", fn := fun _ => fun
  | [d1, d2, d3] => { results := [.lit (.bool false)], args := [d1, d2, d3] }
  | _ => none }
def IdentStepsWrongFalsely : Prop := identStepsRow.holds Try.pinned (OpenSpec.ofChange identStepsWrong)

/-- 'compositorlaw11.IdentUnique': WHATEVER THE INPUT: true; the input reads as it did. -/
def identUniqueSpec : ChangeSpec := { name := "identUnique", fn := fun _ => fun
  | [d1, d2] => { results := [.lit (.bool true)], args := [d1, d2] }
  | _ => none }
def identUniqueRow : OpenClaim := { program := "ytegkkomlpgappaa", sum := "ef450f9c677da45ff0f82eed631ee687bf15da49f263874c5f638e9792e2c6f8", func := "compositor/compositorlaw11.IdentUnique", spec := "identUnique", apart := false }
def IdentUniqueSaid : Prop := identUniqueRow.holds Try.pinned (OpenSpec.ofChange identUniqueSpec)

/-- ITS FALSE NEIGHBOUR: 'it returns false'. Refute it at one input. -/
def identUniqueWrong : ChangeSpec := { name := "identUnique", fn := fun _ => fun
  | [d1, d2] => { results := [.lit (.bool false)], args := [d1, d2] }
  | _ => none }
def IdentUniqueWrongFalsely : Prop := identUniqueRow.holds Try.pinned (OpenSpec.ofChange identUniqueWrong)

/-- 'compositorlaw11.IdentGaps': WHATEVER THE INPUT: true; the input reads as it did. -/
def identGapsSpec : ChangeSpec := { name := "identGaps", fn := fun _ => fun
  | [d1, d2, d3] => { results := [.lit (.bool true)], args := [d1, d2, d3] }
  | _ => none }
def identGapsRow : OpenClaim := { program := "ytegkkomlpgappaa", sum := "ef450f9c677da45ff0f82eed631ee687bf15da49f263874c5f638e9792e2c6f8", func := "compositor/compositorlaw11.IdentGaps", spec := "identGaps", apart := false }
def IdentGapsSaid : Prop := identGapsRow.holds Try.pinned (OpenSpec.ofChange identGapsSpec)

/-- ITS FALSE NEIGHBOUR: 'it returns false'. Refute it at one input. -/
def identGapsWrong : ChangeSpec := { name := "identGaps", fn := fun _ => fun
  | [d1, d2, d3] => { results := [.lit (.bool false)], args := [d1, d2, d3] }
  | _ => none }
def IdentGapsWrongFalsely : Prop := identGapsRow.holds Try.pinned (OpenSpec.ofChange identGapsWrong)

/-- 'compositorlaw11.IdentNil': WHATEVER THE INPUT: true; the input reads as it did. -/
def identNilSpec : ChangeSpec := { name := "identNil", fn := fun _ => fun
  | [d] => { results := [.lit (.bool true)], args := [d] }
  | _ => none }
def identNilRow : OpenClaim := { program := "ytegkkomlpgappaa", sum := "ef450f9c677da45ff0f82eed631ee687bf15da49f263874c5f638e9792e2c6f8", func := "compositor/compositorlaw11.IdentNil", spec := "identNil", apart := false }
def IdentNilSaid : Prop := identNilRow.holds Try.pinned (OpenSpec.ofChange identNilSpec)

/-- ITS FALSE NEIGHBOUR: 'it returns false'. Refute it at one input. -/
def identNilWrong : ChangeSpec := { name := "identNil", fn := fun _ => fun
  | [d] => { results := [.lit (.bool false)], args := [d] }
  | _ => none }
def IdentNilWrongFalsely : Prop := identNilRow.holds Try.pinned (OpenSpec.ofChange identNilWrong)

/- THE SECOND FORM. 'bulk': how many values and letters a reading holds, each counted each time it is reached (what is shared counts as often as it is met; a slice's spare places count too). A statement '..UptoSaid' is the law's where the arguments, and the package variables that the reading takes, are together of bulk at most 1048576: NARROWER than '..Said'. Prove '..Said' where nothing that the law and all that it calls make is longer than what came in: it says more and counts as full. Else prove '..UptoSaid'. A law counts once. -/
mutual
def uptoBulk {H : Type} : DataW H → Nat
  | .lit (.string bytes) => bytes.length + 1
  | .lit _ => 1
  | .nil => 1
  | .ptr d => uptoBulk d + 1
  | .slice elems spare => uptoBulkAll elems + uptoBulkAll spare + 1
  | .agg parts => uptoBulkAll parts + 1
  | .iface _ d => uptoBulk d + 1
  | .map entries => uptoBulkEntries entries + 1
  | .held _ => 1
def uptoBulkAll {H : Type} : List (DataW H) → Nat
  | [] => 0
  | d :: r => uptoBulk d + uptoBulkAll r
def uptoBulkEntries {H : Type} : List (Lit × DataW H) → Nat
  | [] => 0
  | x :: r => uptoBulkEntry x + uptoBulkEntries r
def uptoBulkEntry {H : Type} : Lit × DataW H → Nat
  | (.string bytes, d) => bytes.length + uptoBulk d + 1
  | (_, d) => uptoBulk d + 1
 end
def uptoSmall : (H : Type) → List (DataW H) → Bool := fun _ ds => decide (uptoBulkAll ds ≤ 1048576)
def OpenSpec.upto (s : _root_.Go.ChangeSpec) : _root_.Go.OpenSpec := { _root_.Go.OpenSpec.ofChange s with cond := some uptoSmall }

/-- 'compositorlaw11.IdentLimit', WHERE WHAT IT READS IS OF BULK AT MOST 1048576: true; the input reads as it did. -/
def identLimitUptoRow : OpenClaim := { program := "ytegkkomlpgappaa", sum := "ef450f9c677da45ff0f82eed631ee687bf15da49f263874c5f638e9792e2c6f8", func := "compositor/compositorlaw11.IdentLimit", spec := "identLimit", apart := false, narrowed := true }
def IdentLimitUptoSaid : Prop := identLimitUptoRow.holds Try.pinned (OpenSpec.upto identLimitSpec)

/-- 'compositorlaw11.IdentSteps', WHERE WHAT IT READS IS OF BULK AT MOST 1048576: true; the input reads as it did. -/
def identStepsUptoRow : OpenClaim := { program := "ytegkkomlpgappaa", sum := "ef450f9c677da45ff0f82eed631ee687bf15da49f263874c5f638e9792e2c6f8", func := "compositor/compositorlaw11.IdentSteps", spec := "identSteps", apart := false, narrowed := true }
def IdentStepsUptoSaid : Prop := identStepsUptoRow.holds Try.pinned (OpenSpec.upto identStepsSpec)

/-- 'compositorlaw11.IdentUnique', WHERE WHAT IT READS IS OF BULK AT MOST 1048576: true; the input reads as it did. -/
def identUniqueUptoRow : OpenClaim := { program := "ytegkkomlpgappaa", sum := "ef450f9c677da45ff0f82eed631ee687bf15da49f263874c5f638e9792e2c6f8", func := "compositor/compositorlaw11.IdentUnique", spec := "identUnique", apart := false, narrowed := true }
def IdentUniqueUptoSaid : Prop := identUniqueUptoRow.holds Try.pinned (OpenSpec.upto identUniqueSpec)

/-- 'compositorlaw11.IdentGaps', WHERE WHAT IT READS IS OF BULK AT MOST 1048576: true; the input reads as it did. -/
def identGapsUptoRow : OpenClaim := { program := "ytegkkomlpgappaa", sum := "ef450f9c677da45ff0f82eed631ee687bf15da49f263874c5f638e9792e2c6f8", func := "compositor/compositorlaw11.IdentGaps", spec := "identGaps", apart := false, narrowed := true }
def IdentGapsUptoSaid : Prop := identGapsUptoRow.holds Try.pinned (OpenSpec.upto identGapsSpec)

/-- 'compositorlaw11.IdentNil', WHERE WHAT IT READS IS OF BULK AT MOST 1048576: true; the input reads as it did. -/
def identNilUptoRow : OpenClaim := { program := "ytegkkomlpgappaa", sum := "ef450f9c677da45ff0f82eed631ee687bf15da49f263874c5f638e9792e2c6f8", func := "compositor/compositorlaw11.IdentNil", spec := "identNil", apart := false, narrowed := true }
def IdentNilUptoSaid : Prop := identNilUptoRow.holds Try.pinned (OpenSpec.upto identNilSpec)

end Rows
end Go.Proofs.Ytegkkomlpgappaa
