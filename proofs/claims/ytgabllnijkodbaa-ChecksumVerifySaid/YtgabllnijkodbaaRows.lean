/-
  No cell of these rows narrows 'for every input' (looked for: loops, veiled, ifaces, maps, wideKeys, modest, calm, conditions, laid).
  DERIVED. THE GIVEN ROWS OF THIS SEAT. 9 by the template 'for every input the law returns true; each argument reads behind the call as it read before'; 0 by the template 'total and deterministic' (their statements: YtgabllnijkodbaaTotals.lean).
  GIVEN WITH THE SEED: the statements are not yours to turn. If you find one false, say at which input.
  Laid BY PROGRAM, IN A SANDBOX (cutbox-rows.mjs): the forced cells as the released guide's own fill.sh prints them over the translation 7f3e012ab65014f4… (all of the seat's roots in one cut). By AI agents, Wed Nov 11 2026. No macro, syntax, notation, axiom, sorry.
-/
import Derived.Test.YtgabllnijkodbaaChecked
import GoSem.Claim
import GoSem.ClaimJoined
import GoSem.ClaimMapViews
import Derived.JoinedTies
import Derived.KernelRfl
namespace Go.Proofs.Ytgabllnijkodbaa
/- THE CELL 'sum', in the pinned program and in every row, IS THE sha256 OF THE DUMP (.gsa) THAT YtgabllnijkodbaaProg.lean LOADS. Nothing in Lean hashes anything: it is a label: what it is worth is what the hold of that sum in a sandbox is worth. -/
noncomputable def Try.pinned : Pinned := { name := "ytgabllnijkodbaa", sum := "7f3e012ab65014f4c8e6d507134767a0a7219bc2b4b1254956ce9488d401f443", checked := Try.checked }
namespace Rows
def none {H : Type} : Left H := { results := [], args := [] }

/-- 'compositorlaw03.ChecksumCRC': WHATEVER THE INPUT: true; the input reads as it did. -/
def checksumCRCSpec : ChangeSpec := { name := "checksumCRC", fn := fun _ => fun
  | [d1, d2] => { results := [.lit (.bool true)], args := [d1, d2] }
  | _ => none }
def checksumCRCRow : OpenClaim := { program := "ytgabllnijkodbaa", sum := "7f3e012ab65014f4c8e6d507134767a0a7219bc2b4b1254956ce9488d401f443", func := "compositor/compositorlaw03.ChecksumCRC", spec := "checksumCRC", apart := false }
def ChecksumCRCSaid : Prop := checksumCRCRow.holds Try.pinned (OpenSpec.ofChange checksumCRCSpec)

/-- ITS FALSE NEIGHBOUR: 'it returns false'. Refute it at one input. -/
def checksumCRCWrong : ChangeSpec := { name := "checksumCRC", fn := fun _ => fun
  | [d1, d2] => { results := [.lit (.bool false)], args := [d1, d2] }
  | _ => none }
def ChecksumCRCWrongFalsely : Prop := checksumCRCRow.holds Try.pinned (OpenSpec.ofChange checksumCRCWrong)

/-- 'compositorlaw03.ChecksumAdler': WHATEVER THE INPUT: true; the input reads as it did. -/
def checksumAdlerSpec : ChangeSpec := { name := "checksumAdler", fn := fun _ => fun
  | [d1, d2] => { results := [.lit (.bool true)], args := [d1, d2] }
  | _ => none }
def checksumAdlerRow : OpenClaim := { program := "ytgabllnijkodbaa", sum := "7f3e012ab65014f4c8e6d507134767a0a7219bc2b4b1254956ce9488d401f443", func := "compositor/compositorlaw03.ChecksumAdler", spec := "checksumAdler", apart := false }
def ChecksumAdlerSaid : Prop := checksumAdlerRow.holds Try.pinned (OpenSpec.ofChange checksumAdlerSpec)

/-- ITS FALSE NEIGHBOUR: 'it returns false'. Refute it at one input. -/
def checksumAdlerWrong : ChangeSpec := { name := "checksumAdler", fn := fun _ => fun
  | [d1, d2] => { results := [.lit (.bool false)], args := [d1, d2] }
  | _ => none }
def ChecksumAdlerWrongFalsely : Prop := checksumAdlerRow.holds Try.pinned (OpenSpec.ofChange checksumAdlerWrong)

/-- 'compositorlaw03.ChecksumBurst': WHATEVER THE INPUT: true; the input reads as it did. -/
def checksumBurstSpec : ChangeSpec := { name := "checksumBurst", fn := fun _ => fun
  | [d1, d2, d3] => { results := [.lit (.bool true)], args := [d1, d2, d3] }
  | _ => none }
def checksumBurstRow : OpenClaim := { program := "ytgabllnijkodbaa", sum := "7f3e012ab65014f4c8e6d507134767a0a7219bc2b4b1254956ce9488d401f443", func := "compositor/compositorlaw03.ChecksumBurst", spec := "checksumBurst", apart := false }
def ChecksumBurstSaid : Prop := checksumBurstRow.holds Try.pinned (OpenSpec.ofChange checksumBurstSpec)

/-- ITS FALSE NEIGHBOUR: 'it returns false'. Refute it at one input. -/
def checksumBurstWrong : ChangeSpec := { name := "checksumBurst", fn := fun _ => fun
  | [d1, d2, d3] => { results := [.lit (.bool false)], args := [d1, d2, d3] }
  | _ => none }
def ChecksumBurstWrongFalsely : Prop := checksumBurstRow.holds Try.pinned (OpenSpec.ofChange checksumBurstWrong)

/-- 'compositorlaw03.ChecksumLinear': WHATEVER THE INPUT: true; the input reads as it did. -/
def checksumLinearSpec : ChangeSpec := { name := "checksumLinear", fn := fun _ => fun
  | [d1, d2, d3] => { results := [.lit (.bool true)], args := [d1, d2, d3] }
  | _ => none }
def checksumLinearRow : OpenClaim := { program := "ytgabllnijkodbaa", sum := "7f3e012ab65014f4c8e6d507134767a0a7219bc2b4b1254956ce9488d401f443", func := "compositor/compositorlaw03.ChecksumLinear", spec := "checksumLinear", apart := false }
def ChecksumLinearSaid : Prop := checksumLinearRow.holds Try.pinned (OpenSpec.ofChange checksumLinearSpec)

/-- ITS FALSE NEIGHBOUR: 'it returns false'. Refute it at one input. -/
def checksumLinearWrong : ChangeSpec := { name := "checksumLinear", fn := fun _ => fun
  | [d1, d2, d3] => { results := [.lit (.bool false)], args := [d1, d2, d3] }
  | _ => none }
def ChecksumLinearWrongFalsely : Prop := checksumLinearRow.holds Try.pinned (OpenSpec.ofChange checksumLinearWrong)

/-- 'compositorlaw03.ChecksumByte': WHATEVER THE INPUT: true; the input reads as it did. -/
def checksumByteSpec : ChangeSpec := { name := "checksumByte", fn := fun _ => fun
  | [d1, d2, d3] => { results := [.lit (.bool true)], args := [d1, d2, d3] }
  | _ => none }
def checksumByteRow : OpenClaim := { program := "ytgabllnijkodbaa", sum := "7f3e012ab65014f4c8e6d507134767a0a7219bc2b4b1254956ce9488d401f443", func := "compositor/compositorlaw03.ChecksumByte", spec := "checksumByte", apart := false }
def ChecksumByteSaid : Prop := checksumByteRow.holds Try.pinned (OpenSpec.ofChange checksumByteSpec)

/-- ITS FALSE NEIGHBOUR: 'it returns false'. Refute it at one input. -/
def checksumByteWrong : ChangeSpec := { name := "checksumByte", fn := fun _ => fun
  | [d1, d2, d3] => { results := [.lit (.bool false)], args := [d1, d2, d3] }
  | _ => none }
def ChecksumByteWrongFalsely : Prop := checksumByteRow.holds Try.pinned (OpenSpec.ofChange checksumByteWrong)

/-- 'compositorlaw03.ChecksumAppend': WHATEVER THE INPUT: true; the input reads as it did. -/
def checksumAppendSpec : ChangeSpec := { name := "checksumAppend", fn := fun _ => fun
  | [d1, d2] => { results := [.lit (.bool true)], args := [d1, d2] }
  | _ => none }
def checksumAppendRow : OpenClaim := { program := "ytgabllnijkodbaa", sum := "7f3e012ab65014f4c8e6d507134767a0a7219bc2b4b1254956ce9488d401f443", func := "compositor/compositorlaw03.ChecksumAppend", spec := "checksumAppend", apart := false }
def ChecksumAppendSaid : Prop := checksumAppendRow.holds Try.pinned (OpenSpec.ofChange checksumAppendSpec)

/-- ITS FALSE NEIGHBOUR: 'it returns false'. Refute it at one input. -/
def checksumAppendWrong : ChangeSpec := { name := "checksumAppend", fn := fun _ => fun
  | [d1, d2] => { results := [.lit (.bool false)], args := [d1, d2] }
  | _ => none }
def ChecksumAppendWrongFalsely : Prop := checksumAppendRow.holds Try.pinned (OpenSpec.ofChange checksumAppendWrong)

/-- 'compositorlaw03.ChecksumVerify': WHATEVER THE INPUT: true; the input reads as it did. -/
def checksumVerifySpec : ChangeSpec := { name := "checksumVerify", fn := fun _ => fun
  | [d] => { results := [.lit (.bool true)], args := [d] }
  | _ => none }
def checksumVerifyRow : OpenClaim := { program := "ytgabllnijkodbaa", sum := "7f3e012ab65014f4c8e6d507134767a0a7219bc2b4b1254956ce9488d401f443", func := "compositor/compositorlaw03.ChecksumVerify", spec := "checksumVerify", apart := false }
def ChecksumVerifySaid : Prop := checksumVerifyRow.holds Try.pinned (OpenSpec.ofChange checksumVerifySpec)

/-- ITS FALSE NEIGHBOUR: 'it returns false'. Refute it at one input. -/
def checksumVerifyWrong : ChangeSpec := { name := "checksumVerify", fn := fun _ => fun
  | [d] => { results := [.lit (.bool false)], args := [d] }
  | _ => none }
def ChecksumVerifyWrongFalsely : Prop := checksumVerifyRow.holds Try.pinned (OpenSpec.ofChange checksumVerifyWrong)

/-- 'compositorlaw03.ChecksumCombine': WHATEVER THE INPUT: true; the input reads as it did. -/
def checksumCombineSpec : ChangeSpec := { name := "checksumCombine", fn := fun _ => fun
  | [d1, d2, d3] => { results := [.lit (.bool true)], args := [d1, d2, d3] }
  | _ => none }
def checksumCombineRow : OpenClaim := { program := "ytgabllnijkodbaa", sum := "7f3e012ab65014f4c8e6d507134767a0a7219bc2b4b1254956ce9488d401f443", func := "compositor/compositorlaw03.ChecksumCombine", spec := "checksumCombine", apart := false }
def ChecksumCombineSaid : Prop := checksumCombineRow.holds Try.pinned (OpenSpec.ofChange checksumCombineSpec)

/-- ITS FALSE NEIGHBOUR: 'it returns false'. Refute it at one input. -/
def checksumCombineWrong : ChangeSpec := { name := "checksumCombine", fn := fun _ => fun
  | [d1, d2, d3] => { results := [.lit (.bool false)], args := [d1, d2, d3] }
  | _ => none }
def ChecksumCombineWrongFalsely : Prop := checksumCombineRow.holds Try.pinned (OpenSpec.ofChange checksumCombineWrong)

/-- 'compositorlaw03.ChecksumConcat': WHATEVER THE INPUT: true; the input reads as it did. -/
def checksumConcatSpec : ChangeSpec := { name := "checksumConcat", fn := fun _ => fun
  | [d1, d2] => { results := [.lit (.bool true)], args := [d1, d2] }
  | _ => none }
def checksumConcatRow : OpenClaim := { program := "ytgabllnijkodbaa", sum := "7f3e012ab65014f4c8e6d507134767a0a7219bc2b4b1254956ce9488d401f443", func := "compositor/compositorlaw03.ChecksumConcat", spec := "checksumConcat", apart := false }
def ChecksumConcatSaid : Prop := checksumConcatRow.holds Try.pinned (OpenSpec.ofChange checksumConcatSpec)

/-- ITS FALSE NEIGHBOUR: 'it returns false'. Refute it at one input. -/
def checksumConcatWrong : ChangeSpec := { name := "checksumConcat", fn := fun _ => fun
  | [d1, d2] => { results := [.lit (.bool false)], args := [d1, d2] }
  | _ => none }
def ChecksumConcatWrongFalsely : Prop := checksumConcatRow.holds Try.pinned (OpenSpec.ofChange checksumConcatWrong)

/- THE SECOND FORM. 'bulk': how many values and letters a reading holds, each counted each time it is reached (what is shared counts as often as it is met; a slice's spare places count too). A statement '..UptoSaid' is the law's where the arguments, and the package variables that the reading takes, are together of bulk at most 1048576: NARROWER than '..Said'. Prove '..Said' where nothing that the law and all that it calls make is longer than what came in: it says more and counts as full. Else prove '..UptoSaid'. A law counts once. -/
mutual
def uptoBulk {H : Type} : DataW H → Nat
  | .lit (.string bytes) => bytes.length + 1
  | .lit _ => 1
  | .nil => 1
  | .ptr d => uptoBulk d + 1
  | .slice elems spare => uptoBulkAll elems + uptoBulkAll spare + 1
  | .agg parts => uptoBulkAll parts + 1
  | .iface _ d => uptoBulk d + 1
  | .map entries => uptoBulkEntries entries + 1
  | .held _ => 1
def uptoBulkAll {H : Type} : List (DataW H) → Nat
  | [] => 0
  | d :: r => uptoBulk d + uptoBulkAll r
def uptoBulkEntries {H : Type} : List (Lit × DataW H) → Nat
  | [] => 0
  | x :: r => uptoBulkEntry x + uptoBulkEntries r
def uptoBulkEntry {H : Type} : Lit × DataW H → Nat
  | (.string bytes, d) => bytes.length + uptoBulk d + 1
  | (_, d) => uptoBulk d + 1
 end
def uptoSmall : (H : Type) → List (DataW H) → Bool := fun _ ds => decide (uptoBulkAll ds ≤ 1048576)
def OpenSpec.upto (s : _root_.Go.ChangeSpec) : _root_.Go.OpenSpec := { _root_.Go.OpenSpec.ofChange s with cond := some uptoSmall }

/-- 'compositorlaw03.ChecksumCRC', WHERE WHAT IT READS IS OF BULK AT MOST 1048576: true; the input reads as it did. -/
def checksumCRCUptoRow : OpenClaim := { program := "ytgabllnijkodbaa", sum := "7f3e012ab65014f4c8e6d507134767a0a7219bc2b4b1254956ce9488d401f443", func := "compositor/compositorlaw03.ChecksumCRC", spec := "checksumCRC", apart := false, narrowed := true }
def ChecksumCRCUptoSaid : Prop := checksumCRCUptoRow.holds Try.pinned (OpenSpec.upto checksumCRCSpec)

/-- 'compositorlaw03.ChecksumAdler', WHERE WHAT IT READS IS OF BULK AT MOST 1048576: true; the input reads as it did. -/
def checksumAdlerUptoRow : OpenClaim := { program := "ytgabllnijkodbaa", sum := "7f3e012ab65014f4c8e6d507134767a0a7219bc2b4b1254956ce9488d401f443", func := "compositor/compositorlaw03.ChecksumAdler", spec := "checksumAdler", apart := false, narrowed := true }
def ChecksumAdlerUptoSaid : Prop := checksumAdlerUptoRow.holds Try.pinned (OpenSpec.upto checksumAdlerSpec)

/-- 'compositorlaw03.ChecksumBurst', WHERE WHAT IT READS IS OF BULK AT MOST 1048576: true; the input reads as it did. -/
def checksumBurstUptoRow : OpenClaim := { program := "ytgabllnijkodbaa", sum := "7f3e012ab65014f4c8e6d507134767a0a7219bc2b4b1254956ce9488d401f443", func := "compositor/compositorlaw03.ChecksumBurst", spec := "checksumBurst", apart := false, narrowed := true }
def ChecksumBurstUptoSaid : Prop := checksumBurstUptoRow.holds Try.pinned (OpenSpec.upto checksumBurstSpec)

/-- 'compositorlaw03.ChecksumLinear', WHERE WHAT IT READS IS OF BULK AT MOST 1048576: true; the input reads as it did. -/
def checksumLinearUptoRow : OpenClaim := { program := "ytgabllnijkodbaa", sum := "7f3e012ab65014f4c8e6d507134767a0a7219bc2b4b1254956ce9488d401f443", func := "compositor/compositorlaw03.ChecksumLinear", spec := "checksumLinear", apart := false, narrowed := true }
def ChecksumLinearUptoSaid : Prop := checksumLinearUptoRow.holds Try.pinned (OpenSpec.upto checksumLinearSpec)

/-- 'compositorlaw03.ChecksumByte', WHERE WHAT IT READS IS OF BULK AT MOST 1048576: true; the input reads as it did. -/
def checksumByteUptoRow : OpenClaim := { program := "ytgabllnijkodbaa", sum := "7f3e012ab65014f4c8e6d507134767a0a7219bc2b4b1254956ce9488d401f443", func := "compositor/compositorlaw03.ChecksumByte", spec := "checksumByte", apart := false, narrowed := true }
def ChecksumByteUptoSaid : Prop := checksumByteUptoRow.holds Try.pinned (OpenSpec.upto checksumByteSpec)

/-- 'compositorlaw03.ChecksumAppend', WHERE WHAT IT READS IS OF BULK AT MOST 1048576: true; the input reads as it did. -/
def checksumAppendUptoRow : OpenClaim := { program := "ytgabllnijkodbaa", sum := "7f3e012ab65014f4c8e6d507134767a0a7219bc2b4b1254956ce9488d401f443", func := "compositor/compositorlaw03.ChecksumAppend", spec := "checksumAppend", apart := false, narrowed := true }
def ChecksumAppendUptoSaid : Prop := checksumAppendUptoRow.holds Try.pinned (OpenSpec.upto checksumAppendSpec)

/-- 'compositorlaw03.ChecksumVerify', WHERE WHAT IT READS IS OF BULK AT MOST 1048576: true; the input reads as it did. -/
def checksumVerifyUptoRow : OpenClaim := { program := "ytgabllnijkodbaa", sum := "7f3e012ab65014f4c8e6d507134767a0a7219bc2b4b1254956ce9488d401f443", func := "compositor/compositorlaw03.ChecksumVerify", spec := "checksumVerify", apart := false, narrowed := true }
def ChecksumVerifyUptoSaid : Prop := checksumVerifyUptoRow.holds Try.pinned (OpenSpec.upto checksumVerifySpec)

/-- 'compositorlaw03.ChecksumCombine', WHERE WHAT IT READS IS OF BULK AT MOST 1048576: true; the input reads as it did. -/
def checksumCombineUptoRow : OpenClaim := { program := "ytgabllnijkodbaa", sum := "7f3e012ab65014f4c8e6d507134767a0a7219bc2b4b1254956ce9488d401f443", func := "compositor/compositorlaw03.ChecksumCombine", spec := "checksumCombine", apart := false, narrowed := true }
def ChecksumCombineUptoSaid : Prop := checksumCombineUptoRow.holds Try.pinned (OpenSpec.upto checksumCombineSpec)

/-- 'compositorlaw03.ChecksumConcat', WHERE WHAT IT READS IS OF BULK AT MOST 1048576: true; the input reads as it did. -/
def checksumConcatUptoRow : OpenClaim := { program := "ytgabllnijkodbaa", sum := "7f3e012ab65014f4c8e6d507134767a0a7219bc2b4b1254956ce9488d401f443", func := "compositor/compositorlaw03.ChecksumConcat", spec := "checksumConcat", apart := false, narrowed := true }
def ChecksumConcatUptoSaid : Prop := checksumConcatUptoRow.holds Try.pinned (OpenSpec.upto checksumConcatSpec)

end Rows
end Go.Proofs.Ytgabllnijkodbaa
