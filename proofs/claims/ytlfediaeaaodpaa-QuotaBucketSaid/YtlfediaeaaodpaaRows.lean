/-
  No cell of these rows narrows 'for every input' (looked for: loops, veiled, ifaces, maps, wideKeys, modest, calm, conditions, laid).
  DERIVED. THE GIVEN ROWS OF THIS SEAT. 8 by the template 'for every input the law returns true; each argument reads behind the call as it read before'; 0 by the template 'total and deterministic' (their statements: YtlfediaeaaodpaaTotals.lean).
  GIVEN WITH THE SEED: the statements are not yours to turn. If you find one false, say at which input.
  Laid BY PROGRAM, IN A SANDBOX (cutbox-rows.mjs): the forced cells as the released guide's own fill.sh prints them over the translation aa4335fefed42c95… (all of the seat's roots in one cut). By AI agents, Wed Nov 11 2026. No macro, syntax, notation, axiom, sorry.
-/
import Derived.Test.YtlfediaeaaodpaaChecked
import GoSem.Claim
import GoSem.ClaimJoined
import GoSem.ClaimMapViews
import Derived.JoinedTies
import Derived.KernelRfl
namespace Go.Proofs.Ytlfediaeaaodpaa
/- THE CELL 'sum', in the pinned program and in every row, IS THE sha256 OF THE DUMP (.gsa) THAT YtlfediaeaaodpaaProg.lean LOADS. Nothing in Lean hashes anything: it is a label: what it is worth is what the hold of that sum in a sandbox is worth. -/
noncomputable def Try.pinned : Pinned := { name := "ytlfediaeaaodpaa", sum := "aa4335fefed42c95ea023419e6d1c771d9656b6868aeb9aec3f06e0d89a08ec9", checked := Try.checked }
namespace Rows
def none {H : Type} : Left H := { results := [], args := [] }

/-- 'compositorlaw15.QuotaBucket': WHATEVER THE INPUT: true; the input reads as it did. -/
def quotaBucketSpec : ChangeSpec := { name := "quotaBucket", fn := fun _ => fun
  | [d1, d2, d3] => { results := [.lit (.bool true)], args := [d1, d2, d3] }
  | _ => none }
def quotaBucketRow : OpenClaim := { program := "ytlfediaeaaodpaa", sum := "aa4335fefed42c95ea023419e6d1c771d9656b6868aeb9aec3f06e0d89a08ec9", func := "compositor/compositorlaw15.QuotaBucket", spec := "quotaBucket", apart := false }
def QuotaBucketSaid : Prop := quotaBucketRow.holds Try.pinned (OpenSpec.ofChange quotaBucketSpec)

/-- ITS FALSE NEIGHBOUR: 'it returns false'. Refute it at one input. -/
def quotaBucketWrong : ChangeSpec := { name := "quotaBucket", fn := fun _ => fun
  | [d1, d2, d3] => { results := [.lit (.bool false)], args := [d1, d2, d3] }
  | _ => none }
def QuotaBucketWrongFalsely : Prop := quotaBucketRow.holds Try.pinned (OpenSpec.ofChange quotaBucketWrong)

/-- 'compositorlaw15.QuotaRate': WHATEVER THE INPUT: true; the input reads as it did. -/
def quotaRateSpec : ChangeSpec := { name := "quotaRate", fn := fun _ => fun
  | [d1, d2, d3] => { results := [.lit (.bool true)], args := [d1, d2, d3] }
  | _ => none }
def quotaRateRow : OpenClaim := { program := "ytlfediaeaaodpaa", sum := "aa4335fefed42c95ea023419e6d1c771d9656b6868aeb9aec3f06e0d89a08ec9", func := "compositor/compositorlaw15.QuotaRate", spec := "quotaRate", apart := false }
def QuotaRateSaid : Prop := quotaRateRow.holds Try.pinned (OpenSpec.ofChange quotaRateSpec)

/-- ITS FALSE NEIGHBOUR: 'it returns false'. Refute it at one input. -/
def quotaRateWrong : ChangeSpec := { name := "quotaRate", fn := fun _ => fun
  | [d1, d2, d3] => { results := [.lit (.bool false)], args := [d1, d2, d3] }
  | _ => none }
def QuotaRateWrongFalsely : Prop := quotaRateRow.holds Try.pinned (OpenSpec.ofChange quotaRateWrong)

/-- 'compositorlaw15.QuotaSplit': WHATEVER THE INPUT: true; the input reads as it did. -/
def quotaSplitSpec : ChangeSpec := { name := "quotaSplit", fn := fun _ => fun
  | [d1, d2, d3] => { results := [.lit (.bool true)], args := [d1, d2, d3] }
  | _ => none }
def quotaSplitRow : OpenClaim := { program := "ytlfediaeaaodpaa", sum := "aa4335fefed42c95ea023419e6d1c771d9656b6868aeb9aec3f06e0d89a08ec9", func := "compositor/compositorlaw15.QuotaSplit", spec := "quotaSplit", apart := false }
def QuotaSplitSaid : Prop := quotaSplitRow.holds Try.pinned (OpenSpec.ofChange quotaSplitSpec)

/-- ITS FALSE NEIGHBOUR: 'it returns false'. Refute it at one input. -/
def quotaSplitWrong : ChangeSpec := { name := "quotaSplit", fn := fun _ => fun
  | [d1, d2, d3] => { results := [.lit (.bool false)], args := [d1, d2, d3] }
  | _ => none }
def QuotaSplitWrongFalsely : Prop := quotaSplitRow.holds Try.pinned (OpenSpec.ofChange quotaSplitWrong)

/-- 'compositorlaw15.QuotaBackwards': WHATEVER THE INPUT: true; the input reads as it did. -/
def quotaBackwardsSpec : ChangeSpec := { name := "quotaBackwards", fn := fun _ => fun
  | [d1, d2] => { results := [.lit (.bool true)], args := [d1, d2] }
  | _ => none }
def quotaBackwardsRow : OpenClaim := { program := "ytlfediaeaaodpaa", sum := "aa4335fefed42c95ea023419e6d1c771d9656b6868aeb9aec3f06e0d89a08ec9", func := "compositor/compositorlaw15.QuotaBackwards", spec := "quotaBackwards", apart := false }
def QuotaBackwardsSaid : Prop := quotaBackwardsRow.holds Try.pinned (OpenSpec.ofChange quotaBackwardsSpec)

/-- ITS FALSE NEIGHBOUR: 'it returns false'. Refute it at one input. -/
def quotaBackwardsWrong : ChangeSpec := { name := "quotaBackwards", fn := fun _ => fun
  | [d1, d2] => { results := [.lit (.bool false)], args := [d1, d2] }
  | _ => none }
def QuotaBackwardsWrongFalsely : Prop := quotaBackwardsRow.holds Try.pinned (OpenSpec.ofChange quotaBackwardsWrong)

/-- 'compositorlaw15.QuotaPlays': WHATEVER THE INPUT: true; the input reads as it did. -/
def quotaPlaysSpec : ChangeSpec := { name := "quotaPlays", fn := fun _ => fun
  | [d1, d2] => { results := [.lit (.bool true)], args := [d1, d2] }
  | _ => none }
def quotaPlaysRow : OpenClaim := { program := "ytlfediaeaaodpaa", sum := "aa4335fefed42c95ea023419e6d1c771d9656b6868aeb9aec3f06e0d89a08ec9", func := "compositor/compositorlaw15.QuotaPlays", spec := "quotaPlays", apart := false }
def QuotaPlaysSaid : Prop := quotaPlaysRow.holds Try.pinned (OpenSpec.ofChange quotaPlaysSpec)

/-- ITS FALSE NEIGHBOUR: 'it returns false'. Refute it at one input. -/
def quotaPlaysWrong : ChangeSpec := { name := "quotaPlays", fn := fun _ => fun
  | [d1, d2] => { results := [.lit (.bool false)], args := [d1, d2] }
  | _ => none }
def QuotaPlaysWrongFalsely : Prop := quotaPlaysRow.holds Try.pinned (OpenSpec.ofChange quotaPlaysWrong)

/-- 'compositorlaw15.QuotaConservation': WHATEVER THE INPUT: true; the input reads as it did. -/
def quotaConservationSpec : ChangeSpec := { name := "quotaConservation", fn := fun _ => fun
  | [d1, d2] => { results := [.lit (.bool true)], args := [d1, d2] }
  | _ => none }
def quotaConservationRow : OpenClaim := { program := "ytlfediaeaaodpaa", sum := "aa4335fefed42c95ea023419e6d1c771d9656b6868aeb9aec3f06e0d89a08ec9", func := "compositor/compositorlaw15.QuotaConservation", spec := "quotaConservation", apart := false }
def QuotaConservationSaid : Prop := quotaConservationRow.holds Try.pinned (OpenSpec.ofChange quotaConservationSpec)

/-- ITS FALSE NEIGHBOUR: 'it returns false'. Refute it at one input. -/
def quotaConservationWrong : ChangeSpec := { name := "quotaConservation", fn := fun _ => fun
  | [d1, d2] => { results := [.lit (.bool false)], args := [d1, d2] }
  | _ => none }
def QuotaConservationWrongFalsely : Prop := quotaConservationRow.holds Try.pinned (OpenSpec.ofChange quotaConservationWrong)

/-- 'compositorlaw15.QuotaIndependent': WHATEVER THE INPUT: true; the input reads as it did. -/
def quotaIndependentSpec : ChangeSpec := { name := "quotaIndependent", fn := fun _ => fun
  | [d1, d2] => { results := [.lit (.bool true)], args := [d1, d2] }
  | _ => none }
def quotaIndependentRow : OpenClaim := { program := "ytlfediaeaaodpaa", sum := "aa4335fefed42c95ea023419e6d1c771d9656b6868aeb9aec3f06e0d89a08ec9", func := "compositor/compositorlaw15.QuotaIndependent", spec := "quotaIndependent", apart := false }
def QuotaIndependentSaid : Prop := quotaIndependentRow.holds Try.pinned (OpenSpec.ofChange quotaIndependentSpec)

/-- ITS FALSE NEIGHBOUR: 'it returns false'. Refute it at one input. -/
def quotaIndependentWrong : ChangeSpec := { name := "quotaIndependent", fn := fun _ => fun
  | [d1, d2] => { results := [.lit (.bool false)], args := [d1, d2] }
  | _ => none }
def QuotaIndependentWrongFalsely : Prop := quotaIndependentRow.holds Try.pinned (OpenSpec.ofChange quotaIndependentWrong)

/-- 'compositorlaw15.QuotaNil': WHATEVER THE INPUT: true; the input reads as it did. -/
def quotaNilSpec : ChangeSpec := { name := "quotaNil", fn := fun _ => fun
  | [d1, d2, d3] => { results := [.lit (.bool true)], args := [d1, d2, d3] }
  | _ => none }
def quotaNilRow : OpenClaim := { program := "ytlfediaeaaodpaa", sum := "aa4335fefed42c95ea023419e6d1c771d9656b6868aeb9aec3f06e0d89a08ec9", func := "compositor/compositorlaw15.QuotaNil", spec := "quotaNil", apart := false }
def QuotaNilSaid : Prop := quotaNilRow.holds Try.pinned (OpenSpec.ofChange quotaNilSpec)

/-- ITS FALSE NEIGHBOUR: 'it returns false'. Refute it at one input. -/
def quotaNilWrong : ChangeSpec := { name := "quotaNil", fn := fun _ => fun
  | [d1, d2, d3] => { results := [.lit (.bool false)], args := [d1, d2, d3] }
  | _ => none }
def QuotaNilWrongFalsely : Prop := quotaNilRow.holds Try.pinned (OpenSpec.ofChange quotaNilWrong)

/- THE SECOND FORM. 'bulk': how many values and letters a reading holds, each counted each time it is reached (what is shared counts as often as it is met; a slice's spare places count too). A statement '..UptoSaid' is the law's where the arguments, and the package variables that the reading takes, are together of bulk at most 1048576: NARROWER than '..Said'. Prove '..Said' where nothing that the law and all that it calls make is longer than what came in: it says more and counts as full. Else prove '..UptoSaid'. A law counts once. -/
mutual
def uptoBulk {H : Type} : DataW H → Nat
  | .lit (.string bytes) => bytes.length + 1
  | .lit _ => 1
  | .nil => 1
  | .ptr d => uptoBulk d + 1
  | .slice elems spare => uptoBulkAll elems + uptoBulkAll spare + 1
  | .agg parts => uptoBulkAll parts + 1
  | .iface _ d => uptoBulk d + 1
  | .map entries => uptoBulkEntries entries + 1
  | .held _ => 1
def uptoBulkAll {H : Type} : List (DataW H) → Nat
  | [] => 0
  | d :: r => uptoBulk d + uptoBulkAll r
def uptoBulkEntries {H : Type} : List (Lit × DataW H) → Nat
  | [] => 0
  | x :: r => uptoBulkEntry x + uptoBulkEntries r
def uptoBulkEntry {H : Type} : Lit × DataW H → Nat
  | (.string bytes, d) => bytes.length + uptoBulk d + 1
  | (_, d) => uptoBulk d + 1
 end
def uptoSmall : (H : Type) → List (DataW H) → Bool := fun _ ds => decide (uptoBulkAll ds ≤ 1048576)
def OpenSpec.upto (s : _root_.Go.ChangeSpec) : _root_.Go.OpenSpec := { _root_.Go.OpenSpec.ofChange s with cond := some uptoSmall }

/-- 'compositorlaw15.QuotaBucket', WHERE WHAT IT READS IS OF BULK AT MOST 1048576: true; the input reads as it did. -/
def quotaBucketUptoRow : OpenClaim := { program := "ytlfediaeaaodpaa", sum := "aa4335fefed42c95ea023419e6d1c771d9656b6868aeb9aec3f06e0d89a08ec9", func := "compositor/compositorlaw15.QuotaBucket", spec := "quotaBucket", apart := false, narrowed := true }
def QuotaBucketUptoSaid : Prop := quotaBucketUptoRow.holds Try.pinned (OpenSpec.upto quotaBucketSpec)

/-- 'compositorlaw15.QuotaRate', WHERE WHAT IT READS IS OF BULK AT MOST 1048576: true; the input reads as it did. -/
def quotaRateUptoRow : OpenClaim := { program := "ytlfediaeaaodpaa", sum := "aa4335fefed42c95ea023419e6d1c771d9656b6868aeb9aec3f06e0d89a08ec9", func := "compositor/compositorlaw15.QuotaRate", spec := "quotaRate", apart := false, narrowed := true }
def QuotaRateUptoSaid : Prop := quotaRateUptoRow.holds Try.pinned (OpenSpec.upto quotaRateSpec)

/-- 'compositorlaw15.QuotaSplit', WHERE WHAT IT READS IS OF BULK AT MOST 1048576: true; the input reads as it did. -/
def quotaSplitUptoRow : OpenClaim := { program := "ytlfediaeaaodpaa", sum := "aa4335fefed42c95ea023419e6d1c771d9656b6868aeb9aec3f06e0d89a08ec9", func := "compositor/compositorlaw15.QuotaSplit", spec := "quotaSplit", apart := false, narrowed := true }
def QuotaSplitUptoSaid : Prop := quotaSplitUptoRow.holds Try.pinned (OpenSpec.upto quotaSplitSpec)

/-- 'compositorlaw15.QuotaBackwards', WHERE WHAT IT READS IS OF BULK AT MOST 1048576: true; the input reads as it did. -/
def quotaBackwardsUptoRow : OpenClaim := { program := "ytlfediaeaaodpaa", sum := "aa4335fefed42c95ea023419e6d1c771d9656b6868aeb9aec3f06e0d89a08ec9", func := "compositor/compositorlaw15.QuotaBackwards", spec := "quotaBackwards", apart := false, narrowed := true }
def QuotaBackwardsUptoSaid : Prop := quotaBackwardsUptoRow.holds Try.pinned (OpenSpec.upto quotaBackwardsSpec)

/-- 'compositorlaw15.QuotaPlays', WHERE WHAT IT READS IS OF BULK AT MOST 1048576: true; the input reads as it did. -/
def quotaPlaysUptoRow : OpenClaim := { program := "ytlfediaeaaodpaa", sum := "aa4335fefed42c95ea023419e6d1c771d9656b6868aeb9aec3f06e0d89a08ec9", func := "compositor/compositorlaw15.QuotaPlays", spec := "quotaPlays", apart := false, narrowed := true }
def QuotaPlaysUptoSaid : Prop := quotaPlaysUptoRow.holds Try.pinned (OpenSpec.upto quotaPlaysSpec)

/-- 'compositorlaw15.QuotaConservation', WHERE WHAT IT READS IS OF BULK AT MOST 1048576: true; the input reads as it did. -/
def quotaConservationUptoRow : OpenClaim := { program := "ytlfediaeaaodpaa", sum := "aa4335fefed42c95ea023419e6d1c771d9656b6868aeb9aec3f06e0d89a08ec9", func := "compositor/compositorlaw15.QuotaConservation", spec := "quotaConservation", apart := false, narrowed := true }
def QuotaConservationUptoSaid : Prop := quotaConservationUptoRow.holds Try.pinned (OpenSpec.upto quotaConservationSpec)

/-- 'compositorlaw15.QuotaIndependent', WHERE WHAT IT READS IS OF BULK AT MOST 1048576: true; the input reads as it did. -/
def quotaIndependentUptoRow : OpenClaim := { program := "ytlfediaeaaodpaa", sum := "aa4335fefed42c95ea023419e6d1c771d9656b6868aeb9aec3f06e0d89a08ec9", func := "compositor/compositorlaw15.QuotaIndependent", spec := "quotaIndependent", apart := false, narrowed := true }
def QuotaIndependentUptoSaid : Prop := quotaIndependentUptoRow.holds Try.pinned (OpenSpec.upto quotaIndependentSpec)

/-- 'compositorlaw15.QuotaNil', WHERE WHAT IT READS IS OF BULK AT MOST 1048576: true; the input reads as it did. -/
def quotaNilUptoRow : OpenClaim := { program := "ytlfediaeaaodpaa", sum := "aa4335fefed42c95ea023419e6d1c771d9656b6868aeb9aec3f06e0d89a08ec9", func := "compositor/compositorlaw15.QuotaNil", spec := "quotaNil", apart := false, narrowed := true }
def QuotaNilUptoSaid : Prop := quotaNilUptoRow.holds Try.pinned (OpenSpec.upto quotaNilSpec)

end Rows
end Go.Proofs.Ytlfediaeaaodpaa
