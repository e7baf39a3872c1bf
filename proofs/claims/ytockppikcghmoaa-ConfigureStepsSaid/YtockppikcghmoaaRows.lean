/-
  No cell of these rows narrows 'for every input' (looked for: loops, veiled, ifaces, maps, wideKeys, modest, calm, conditions, laid).
  DERIVED. THE GIVEN ROWS OF THIS SEAT. 6 by the template 'for every input the law returns true; each argument reads behind the call as it read before'; 0 by the template 'total and deterministic' (their statements: YtockppikcghmoaaTotals.lean).
  GIVEN WITH THE SEED: the statements are not yours to turn. If you find one false, say at which input.
  Laid BY PROGRAM, IN A SANDBOX (cutbox-rows.mjs): the forced cells as the released guide's own fill.sh prints them over the translation 09621e5c87a069c1… (all of the seat's roots in one cut). By AI agents, Wed Nov 11 2026. No macro, syntax, notation, axiom, sorry.
-/
import Derived.Test.YtockppikcghmoaaChecked
import GoSem.Claim
import GoSem.ClaimJoined
import GoSem.ClaimMapViews
import Derived.JoinedTies
import Derived.KernelRfl
namespace Go.Proofs.Ytockppikcghmoaa
/- THE CELL 'sum', in the pinned program and in every row, IS THE sha256 OF THE DUMP (.gsa) THAT YtockppikcghmoaaProg.lean LOADS. Nothing in Lean hashes anything: it is a label: what it is worth is what the hold of that sum in a sandbox is worth. -/
noncomputable def Try.pinned : Pinned := { name := "ytockppikcghmoaa", sum := "09621e5c87a069c1f5c1c4ac0c718624f38ae9443319018e17765607ae0778b3", checked := Try.checked }
namespace Rows
def none {H : Type} : Left H := { results := [], args := [] }

/-- 'compositorlaw20.ConfigureSteps': WHATEVER THE INPUT: true; the input reads as it did. -/
def configureStepsSpec : ChangeSpec := { name := "configureSteps", fn := fun _ => fun
  | [d] => { results := [.lit (.bool true)], args := [d] }
  | _ => none }
def configureStepsRow : OpenClaim := { program := "ytockppikcghmoaa", sum := "09621e5c87a069c1f5c1c4ac0c718624f38ae9443319018e17765607ae0778b3", func := "compositor/compositorlaw20.ConfigureSteps", spec := "configureSteps", apart := false }
def ConfigureStepsSaid : Prop := configureStepsRow.holds Try.pinned (OpenSpec.ofChange configureStepsSpec)

/-- ITS FALSE NEIGHBOUR: 'it returns false'. Refute it at one input. -/
def configureStepsWrong : ChangeSpec := { name := "configureSteps", fn := fun _ => fun
  | [d] => { results := [.lit (.bool false)], args := [d] }
  | _ => none }
def ConfigureStepsWrongFalsely : Prop := configureStepsRow.holds Try.pinned (OpenSpec.ofChange configureStepsWrong)

/-- 'compositorlaw20.ConfigureHandshake': WHATEVER THE INPUT: true; the input reads as it did. -/
def configureHandshakeSpec : ChangeSpec := { name := "configureHandshake", fn := fun _ => fun
  | [d] => { results := [.lit (.bool true)], args := [d] }
  | _ => none }
def configureHandshakeRow : OpenClaim := { program := "ytockppikcghmoaa", sum := "09621e5c87a069c1f5c1c4ac0c718624f38ae9443319018e17765607ae0778b3", func := "compositor/compositorlaw20.ConfigureHandshake", spec := "configureHandshake", apart := false }
def ConfigureHandshakeSaid : Prop := configureHandshakeRow.holds Try.pinned (OpenSpec.ofChange configureHandshakeSpec)

/-- ITS FALSE NEIGHBOUR: 'it returns false'. Refute it at one input. -/
def configureHandshakeWrong : ChangeSpec := { name := "configureHandshake", fn := fun _ => fun
  | [d] => { results := [.lit (.bool false)], args := [d] }
  | _ => none }
def ConfigureHandshakeWrongFalsely : Prop := configureHandshakeRow.holds Try.pinned (OpenSpec.ofChange configureHandshakeWrong)

/-- 'compositorlaw20.ConfigureErrors': WHATEVER THE INPUT: true; the input reads as it did. -/
def configureErrorsSpec : ChangeSpec := { name := "configureErrors", fn := fun _ => fun
  | [d1, d2, d3] => { results := [.lit (.bool true)], args := [d1, d2, d3] }
  | _ => none }
def configureErrorsRow : OpenClaim := { program := "ytockppikcghmoaa", sum := "09621e5c87a069c1f5c1c4ac0c718624f38ae9443319018e17765607ae0778b3", func := "compositor/compositorlaw20.ConfigureErrors", spec := "configureErrors", apart := false }
def ConfigureErrorsSaid : Prop := configureErrorsRow.holds Try.pinned (OpenSpec.ofChange configureErrorsSpec)

/-- ITS FALSE NEIGHBOUR: 'it returns false'. Refute it at one input. -/
def configureErrorsWrong : ChangeSpec := { name := "configureErrors", fn := fun _ => fun
  | [d1, d2, d3] => { results := [.lit (.bool false)], args := [d1, d2, d3] }
  | _ => none }
def ConfigureErrorsWrongFalsely : Prop := configureErrorsRow.holds Try.pinned (OpenSpec.ofChange configureErrorsWrong)

/-- 'compositorlaw20.ConfigureLimit': WHATEVER THE INPUT: true; the input reads as it did. -/
def configureLimitSpec : ChangeSpec := { name := "configureLimit", fn := fun _ => fun
  | [d1, d2] => { results := [.lit (.bool true)], args := [d1, d2] }
  | _ => none }
def configureLimitRow : OpenClaim := { program := "ytockppikcghmoaa", sum := "09621e5c87a069c1f5c1c4ac0c718624f38ae9443319018e17765607ae0778b3", func := "compositor/compositorlaw20.ConfigureLimit", spec := "configureLimit", apart := false }
def ConfigureLimitSaid : Prop := configureLimitRow.holds Try.pinned (OpenSpec.ofChange configureLimitSpec)

/-- ITS FALSE NEIGHBOUR: 'it returns false'. Refute it at one input. -/
def configureLimitWrong : ChangeSpec := { name := "configureLimit", fn := fun _ => fun
  | [d1, d2] => { results := [.lit (.bool false)], args := [d1, d2] }
  | _ => none }
def ConfigureLimitWrongFalsely : Prop := configureLimitRow.holds Try.pinned (OpenSpec.ofChange configureLimitWrong)

/-- 'compositorlaw20.ConfigureReplaced': WHATEVER THE INPUT: true; the input reads as it did. -/
def configureReplacedSpec : ChangeSpec := { name := "configureReplaced", fn := fun _ => fun
  | [d1, d2] => { results := [.lit (.bool true)], args := [d1, d2] }
  | _ => none }
def configureReplacedRow : OpenClaim := { program := "ytockppikcghmoaa", sum := "09621e5c87a069c1f5c1c4ac0c718624f38ae9443319018e17765607ae0778b3", func := "compositor/compositorlaw20.ConfigureReplaced", spec := "configureReplaced", apart := false }
def ConfigureReplacedSaid : Prop := configureReplacedRow.holds Try.pinned (OpenSpec.ofChange configureReplacedSpec)

/-- ITS FALSE NEIGHBOUR: 'it returns false'. Refute it at one input. -/
def configureReplacedWrong : ChangeSpec := { name := "configureReplaced", fn := fun _ => fun
  | [d1, d2] => { results := [.lit (.bool false)], args := [d1, d2] }
  | _ => none }
def ConfigureReplacedWrongFalsely : Prop := configureReplacedRow.holds Try.pinned (OpenSpec.ofChange configureReplacedWrong)

/-- 'compositorlaw20.ConfigureNil': WHATEVER THE INPUT: true; the input reads as it did. -/
def configureNilSpec : ChangeSpec := { name := "configureNil", fn := fun _ => fun
  | [d] => { results := [.lit (.bool true)], args := [d] }
  | _ => none }
def configureNilRow : OpenClaim := { program := "ytockppikcghmoaa", sum := "09621e5c87a069c1f5c1c4ac0c718624f38ae9443319018e17765607ae0778b3", func := "compositor/compositorlaw20.ConfigureNil", spec := "configureNil", apart := false }
def ConfigureNilSaid : Prop := configureNilRow.holds Try.pinned (OpenSpec.ofChange configureNilSpec)

/-- ITS FALSE NEIGHBOUR: 'it returns false'. Refute it at one input. -/
def configureNilWrong : ChangeSpec := { name := "configureNil", fn := fun _ => fun
  | [d] => { results := [.lit (.bool false)], args := [d] }
  | _ => none }
def ConfigureNilWrongFalsely : Prop := configureNilRow.holds Try.pinned (OpenSpec.ofChange configureNilWrong)

/- THE SECOND FORM. 'bulk': how many values and letters a reading holds, each counted each time it is reached (what is shared counts as often as it is met; a slice's spare places count too). A statement '..UptoSaid' is the law's where the arguments, and the package variables that the reading takes, are together of bulk at most 1048576: NARROWER than '..Said'. Prove '..Said' where nothing that the law and all that it calls make is longer than what came in: it says more and counts as full. Else prove '..UptoSaid'. A law counts once. -/
mutual
def uptoBulk {H : Type} : DataW H → Nat
  | .lit (.string bytes) => bytes.length + 1
  | .lit _ => 1
  | .nil => 1
  | .ptr d => uptoBulk d + 1
  | .slice elems spare => uptoBulkAll elems + uptoBulkAll spare + 1
  | .agg parts => uptoBulkAll parts + 1
  | .iface _ d => uptoBulk d + 1
  | .map entries => uptoBulkEntries entries + 1
  | .held _ => 1
def uptoBulkAll {H : Type} : List (DataW H) → Nat
  | [] => 0
  | d :: r => uptoBulk d + uptoBulkAll r
def uptoBulkEntries {H : Type} : List (Lit × DataW H) → Nat
  | [] => 0
  | x :: r => uptoBulkEntry x + uptoBulkEntries r
def uptoBulkEntry {H : Type} : Lit × DataW H → Nat
  | (.string bytes, d) => bytes.length + uptoBulk d + 1
  | (_, d) => uptoBulk d + 1
 end
def uptoSmall : (H : Type) → List (DataW H) → Bool := fun _ ds => decide (uptoBulkAll ds ≤ 1048576)
def OpenSpec.upto (s : _root_.Go.ChangeSpec) : _root_.Go.OpenSpec := { _root_.Go.OpenSpec.ofChange s with cond := some uptoSmall }

/-- 'compositorlaw20.ConfigureSteps', WHERE WHAT IT READS IS OF BULK AT MOST 1048576: true; the input reads as it did. -/
def configureStepsUptoRow : OpenClaim := { program := "ytockppikcghmoaa", sum := "09621e5c87a069c1f5c1c4ac0c718624f38ae9443319018e17765607ae0778b3", func := "compositor/compositorlaw20.ConfigureSteps", spec := "configureSteps", apart := false, narrowed := true }
def ConfigureStepsUptoSaid : Prop := configureStepsUptoRow.holds Try.pinned (OpenSpec.upto configureStepsSpec)

/-- 'compositorlaw20.ConfigureHandshake', WHERE WHAT IT READS IS OF BULK AT MOST 1048576: true; the input reads as it did. -/
def configureHandshakeUptoRow : OpenClaim := { program := "ytockppikcghmoaa", sum := "09621e5c87a069c1f5c1c4ac0c718624f38ae9443319018e17765607ae0778b3", func := "compositor/compositorlaw20.ConfigureHandshake", spec := "configureHandshake", apart := false, narrowed := true }
def ConfigureHandshakeUptoSaid : Prop := configureHandshakeUptoRow.holds Try.pinned (OpenSpec.upto configureHandshakeSpec)

/-- 'compositorlaw20.ConfigureErrors', WHERE WHAT IT READS IS OF BULK AT MOST 1048576: true; the input reads as it did. -/
def configureErrorsUptoRow : OpenClaim := { program := "ytockppikcghmoaa", sum := "09621e5c87a069c1f5c1c4ac0c718624f38ae9443319018e17765607ae0778b3", func := "compositor/compositorlaw20.ConfigureErrors", spec := "configureErrors", apart := false, narrowed := true }
def ConfigureErrorsUptoSaid : Prop := configureErrorsUptoRow.holds Try.pinned (OpenSpec.upto configureErrorsSpec)

/-- 'compositorlaw20.ConfigureLimit', WHERE WHAT IT READS IS OF BULK AT MOST 1048576: true; the input reads as it did. -/
def configureLimitUptoRow : OpenClaim := { program := "ytockppikcghmoaa", sum := "09621e5c87a069c1f5c1c4ac0c718624f38ae9443319018e17765607ae0778b3", func := "compositor/compositorlaw20.ConfigureLimit", spec := "configureLimit", apart := false, narrowed := true }
def ConfigureLimitUptoSaid : Prop := configureLimitUptoRow.holds Try.pinned (OpenSpec.upto configureLimitSpec)

/-- 'compositorlaw20.ConfigureReplaced', WHERE WHAT IT READS IS OF BULK AT MOST 1048576: true; the input reads as it did. -/
def configureReplacedUptoRow : OpenClaim := { program := "ytockppikcghmoaa", sum := "09621e5c87a069c1f5c1c4ac0c718624f38ae9443319018e17765607ae0778b3", func := "compositor/compositorlaw20.ConfigureReplaced", spec := "configureReplaced", apart := false, narrowed := true }
def ConfigureReplacedUptoSaid : Prop := configureReplacedUptoRow.holds Try.pinned (OpenSpec.upto configureReplacedSpec)

/-- 'compositorlaw20.ConfigureNil', WHERE WHAT IT READS IS OF BULK AT MOST 1048576: true; the input reads as it did. -/
def configureNilUptoRow : OpenClaim := { program := "ytockppikcghmoaa", sum := "09621e5c87a069c1f5c1c4ac0c718624f38ae9443319018e17765607ae0778b3", func := "compositor/compositorlaw20.ConfigureNil", spec := "configureNil", apart := false, narrowed := true }
def ConfigureNilUptoSaid : Prop := configureNilUptoRow.holds Try.pinned (OpenSpec.upto configureNilSpec)

end Rows
end Go.Proofs.Ytockppikcghmoaa
