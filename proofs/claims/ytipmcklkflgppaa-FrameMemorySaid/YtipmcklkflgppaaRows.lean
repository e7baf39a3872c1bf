/-
  No cell of these rows narrows 'for every input' (looked for: loops, veiled, ifaces, maps, wideKeys, modest, calm, conditions, laid).
  DERIVED. THE GIVEN ROWS OF THIS SEAT. 7 by the template 'for every input the law returns true; each argument reads behind the call as it read before'; 0 by the template 'total and deterministic' (their statements: YtipmcklkflgppaaTotals.lean).
  GIVEN WITH THE SEED: the statements are not yours to turn. If you find one false, say at which input.
  Laid BY PROGRAM, IN A SANDBOX (cutbox-rows.mjs): the forced cells as the released guide's own fill.sh prints them over the translation c33934f9a09138a8… (all of the seat's roots in one cut). By AI agents, Wed Nov 11 2026. No macro, syntax, notation, axiom, sorry.
-/
import Derived.Test.YtipmcklkflgppaaChecked
import GoSem.Claim
import GoSem.ClaimJoined
import GoSem.ClaimMapViews
import Derived.JoinedTies
import Derived.KernelRfl
namespace Go.Proofs.Ytipmcklkflgppaa
/- THE CELL 'sum', in the pinned program and in every row, IS THE sha256 OF THE DUMP (.gsa) THAT YtipmcklkflgppaaProg.lean LOADS. Nothing in Lean hashes anything: it is a label: what it is worth is what the hold of that sum in a sandbox is worth. -/
noncomputable def Try.pinned : Pinned := { name := "ytipmcklkflgppaa", sum := "c33934f9a09138a89b7b987a03bb778ea95313a0667f3514527f3a2b8afe0f9e", checked := Try.checked }
namespace Rows
def none {H : Type} : Left H := { results := [], args := [] }

/-- 'compositorlaw02.FramePut': WHATEVER THE INPUT: true; the input reads as it did. -/
def framePutSpec : ChangeSpec := { name := "framePut", fn := fun _ => fun
  | [d] => { results := [.lit (.bool true)], args := [d] }
  | _ => none }
def framePutRow : OpenClaim := { program := "ytipmcklkflgppaa", sum := "c33934f9a09138a89b7b987a03bb778ea95313a0667f3514527f3a2b8afe0f9e", func := "compositor/compositorlaw02.FramePut", spec := "framePut", unfollowed := true, recurses := true, apart := false }
def FramePutSaid : Prop := framePutRow.holds Try.pinned (OpenSpec.ofChange framePutSpec)

/-- ITS FALSE NEIGHBOUR: 'it returns false'. Refute it at one input. -/
def framePutWrong : ChangeSpec := { name := "framePut", fn := fun _ => fun
  | [d] => { results := [.lit (.bool false)], args := [d] }
  | _ => none }
def FramePutWrongFalsely : Prop := framePutRow.holds Try.pinned (OpenSpec.ofChange framePutWrong)

/-- 'compositorlaw02.FrameSplit': WHATEVER THE INPUT: true; the input reads as it did. -/
def frameSplitSpec : ChangeSpec := { name := "frameSplit", fn := fun _ => fun
  | [d] => { results := [.lit (.bool true)], args := [d] }
  | _ => none }
def frameSplitRow : OpenClaim := { program := "ytipmcklkflgppaa", sum := "c33934f9a09138a89b7b987a03bb778ea95313a0667f3514527f3a2b8afe0f9e", func := "compositor/compositorlaw02.FrameSplit", spec := "frameSplit", unfollowed := true, recurses := true, apart := false }
def FrameSplitSaid : Prop := frameSplitRow.holds Try.pinned (OpenSpec.ofChange frameSplitSpec)

/-- ITS FALSE NEIGHBOUR: 'it returns false'. Refute it at one input. -/
def frameSplitWrong : ChangeSpec := { name := "frameSplit", fn := fun _ => fun
  | [d] => { results := [.lit (.bool false)], args := [d] }
  | _ => none }
def FrameSplitWrongFalsely : Prop := frameSplitRow.holds Try.pinned (OpenSpec.ofChange frameSplitWrong)

/-- 'compositorlaw02.FrameRoundTrip': WHATEVER THE INPUT: true; the input reads as it did. -/
def frameRoundTripSpec : ChangeSpec := { name := "frameRoundTrip", fn := fun _ => fun
  | [d] => { results := [.lit (.bool true)], args := [d] }
  | _ => none }
def frameRoundTripRow : OpenClaim := { program := "ytipmcklkflgppaa", sum := "c33934f9a09138a89b7b987a03bb778ea95313a0667f3514527f3a2b8afe0f9e", func := "compositor/compositorlaw02.FrameRoundTrip", spec := "frameRoundTrip", unfollowed := true, recurses := true, apart := false }
def FrameRoundTripSaid : Prop := frameRoundTripRow.holds Try.pinned (OpenSpec.ofChange frameRoundTripSpec)

/-- ITS FALSE NEIGHBOUR: 'it returns false'. Refute it at one input. -/
def frameRoundTripWrong : ChangeSpec := { name := "frameRoundTrip", fn := fun _ => fun
  | [d] => { results := [.lit (.bool false)], args := [d] }
  | _ => none }
def FrameRoundTripWrongFalsely : Prop := frameRoundTripRow.holds Try.pinned (OpenSpec.ofChange frameRoundTripWrong)

/-- 'compositorlaw02.FrameMemory': WHATEVER THE INPUT: true; the input reads as it did. -/
def frameMemorySpec : ChangeSpec := { name := "frameMemory", fn := fun _ => fun
  | [d1, d2] => { results := [.lit (.bool true)], args := [d1, d2] }
  | _ => none }
def frameMemoryRow : OpenClaim := { program := "ytipmcklkflgppaa", sum := "c33934f9a09138a89b7b987a03bb778ea95313a0667f3514527f3a2b8afe0f9e", func := "compositor/compositorlaw02.FrameMemory", spec := "frameMemory", unfollowed := true, recurses := true, apart := false }
def FrameMemorySaid : Prop := frameMemoryRow.holds Try.pinned (OpenSpec.ofChange frameMemorySpec)

/-- ITS FALSE NEIGHBOUR: 'it returns false'. Refute it at one input. -/
def frameMemoryWrong : ChangeSpec := { name := "frameMemory", fn := fun _ => fun
  | [d1, d2] => { results := [.lit (.bool false)], args := [d1, d2] }
  | _ => none }
def FrameMemoryWrongFalsely : Prop := frameMemoryRow.holds Try.pinned (OpenSpec.ofChange frameMemoryWrong)

/-- 'compositorlaw02.FrameNil': WHATEVER THE INPUT: true; the input reads as it did. -/
def frameNilSpec : ChangeSpec := { name := "frameNil", fn := fun _ => fun
  | [d] => { results := [.lit (.bool true)], args := [d] }
  | _ => none }
def frameNilRow : OpenClaim := { program := "ytipmcklkflgppaa", sum := "c33934f9a09138a89b7b987a03bb778ea95313a0667f3514527f3a2b8afe0f9e", func := "compositor/compositorlaw02.FrameNil", spec := "frameNil", unfollowed := true, recurses := true, apart := false }
def FrameNilSaid : Prop := frameNilRow.holds Try.pinned (OpenSpec.ofChange frameNilSpec)

/-- ITS FALSE NEIGHBOUR: 'it returns false'. Refute it at one input. -/
def frameNilWrong : ChangeSpec := { name := "frameNil", fn := fun _ => fun
  | [d] => { results := [.lit (.bool false)], args := [d] }
  | _ => none }
def FrameNilWrongFalsely : Prop := frameNilRow.holds Try.pinned (OpenSpec.ofChange frameNilWrong)

/-- 'compositorlaw02.FrameDecoder': WHATEVER THE INPUT: true; the input reads as it did. -/
def frameDecoderSpec : ChangeSpec := { name := "frameDecoder", fn := fun _ => fun
  | [d] => { results := [.lit (.bool true)], args := [d] }
  | _ => none }
def frameDecoderRow : OpenClaim := { program := "ytipmcklkflgppaa", sum := "c33934f9a09138a89b7b987a03bb778ea95313a0667f3514527f3a2b8afe0f9e", func := "compositor/compositorlaw02.FrameDecoder", spec := "frameDecoder", unfollowed := true, recurses := true, apart := false }
def FrameDecoderSaid : Prop := frameDecoderRow.holds Try.pinned (OpenSpec.ofChange frameDecoderSpec)

/-- ITS FALSE NEIGHBOUR: 'it returns false'. Refute it at one input. -/
def frameDecoderWrong : ChangeSpec := { name := "frameDecoder", fn := fun _ => fun
  | [d] => { results := [.lit (.bool false)], args := [d] }
  | _ => none }
def FrameDecoderWrongFalsely : Prop := frameDecoderRow.holds Try.pinned (OpenSpec.ofChange frameDecoderWrong)

/-- 'compositorlaw02.FrameStreaming': WHATEVER THE INPUT: true; the input reads as it did. -/
def frameStreamingSpec : ChangeSpec := { name := "frameStreaming", fn := fun _ => fun
  | [d] => { results := [.lit (.bool true)], args := [d] }
  | _ => none }
def frameStreamingRow : OpenClaim := { program := "ytipmcklkflgppaa", sum := "c33934f9a09138a89b7b987a03bb778ea95313a0667f3514527f3a2b8afe0f9e", func := "compositor/compositorlaw02.FrameStreaming", spec := "frameStreaming", unfollowed := true, recurses := true, apart := false }
def FrameStreamingSaid : Prop := frameStreamingRow.holds Try.pinned (OpenSpec.ofChange frameStreamingSpec)

/-- ITS FALSE NEIGHBOUR: 'it returns false'. Refute it at one input. -/
def frameStreamingWrong : ChangeSpec := { name := "frameStreaming", fn := fun _ => fun
  | [d] => { results := [.lit (.bool false)], args := [d] }
  | _ => none }
def FrameStreamingWrongFalsely : Prop := frameStreamingRow.holds Try.pinned (OpenSpec.ofChange frameStreamingWrong)

/- THE SECOND FORM. 'bulk': how many values and letters a reading holds, each counted each time it is reached (what is shared counts as often as it is met; a slice's spare places count too). A statement '..UptoSaid' is the law's where the arguments, and the package variables that the reading takes, are together of bulk at most 1048576: NARROWER than '..Said'. Prove '..Said' where nothing that the law and all that it calls make is longer than what came in: it says more and counts as full. Else prove '..UptoSaid'. A law counts once. -/
mutual
def uptoBulk {H : Type} : DataW H → Nat
  | .lit (.string bytes) => bytes.length + 1
  | .lit _ => 1
  | .nil => 1
  | .ptr d => uptoBulk d + 1
  | .slice elems spare => uptoBulkAll elems + uptoBulkAll spare + 1
  | .agg parts => uptoBulkAll parts + 1
  | .iface _ d => uptoBulk d + 1
  | .map entries => uptoBulkEntries entries + 1
  | .held _ => 1
def uptoBulkAll {H : Type} : List (DataW H) → Nat
  | [] => 0
  | d :: r => uptoBulk d + uptoBulkAll r
def uptoBulkEntries {H : Type} : List (Lit × DataW H) → Nat
  | [] => 0
  | x :: r => uptoBulkEntry x + uptoBulkEntries r
def uptoBulkEntry {H : Type} : Lit × DataW H → Nat
  | (.string bytes, d) => bytes.length + uptoBulk d + 1
  | (_, d) => uptoBulk d + 1
 end
def uptoSmall : (H : Type) → List (DataW H) → Bool := fun _ ds => decide (uptoBulkAll ds ≤ 1048576)
def OpenSpec.upto (s : _root_.Go.ChangeSpec) : _root_.Go.OpenSpec := { _root_.Go.OpenSpec.ofChange s with cond := some uptoSmall }

/-- 'compositorlaw02.FramePut', WHERE WHAT IT READS IS OF BULK AT MOST 1048576: true; the input reads as it did. -/
def framePutUptoRow : OpenClaim := { program := "ytipmcklkflgppaa", sum := "c33934f9a09138a89b7b987a03bb778ea95313a0667f3514527f3a2b8afe0f9e", func := "compositor/compositorlaw02.FramePut", spec := "framePut", unfollowed := true, recurses := true, apart := false, narrowed := true }
def FramePutUptoSaid : Prop := framePutUptoRow.holds Try.pinned (OpenSpec.upto framePutSpec)

/-- 'compositorlaw02.FrameSplit', WHERE WHAT IT READS IS OF BULK AT MOST 1048576: true; the input reads as it did. -/
def frameSplitUptoRow : OpenClaim := { program := "ytipmcklkflgppaa", sum := "c33934f9a09138a89b7b987a03bb778ea95313a0667f3514527f3a2b8afe0f9e", func := "compositor/compositorlaw02.FrameSplit", spec := "frameSplit", unfollowed := true, recurses := true, apart := false, narrowed := true }
def FrameSplitUptoSaid : Prop := frameSplitUptoRow.holds Try.pinned (OpenSpec.upto frameSplitSpec)

/-- 'compositorlaw02.FrameRoundTrip', WHERE WHAT IT READS IS OF BULK AT MOST 1048576: true; the input reads as it did. -/
def frameRoundTripUptoRow : OpenClaim := { program := "ytipmcklkflgppaa", sum := "c33934f9a09138a89b7b987a03bb778ea95313a0667f3514527f3a2b8afe0f9e", func := "compositor/compositorlaw02.FrameRoundTrip", spec := "frameRoundTrip", unfollowed := true, recurses := true, apart := false, narrowed := true }
def FrameRoundTripUptoSaid : Prop := frameRoundTripUptoRow.holds Try.pinned (OpenSpec.upto frameRoundTripSpec)

/-- 'compositorlaw02.FrameMemory', WHERE WHAT IT READS IS OF BULK AT MOST 1048576: true; the input reads as it did. -/
def frameMemoryUptoRow : OpenClaim := { program := "ytipmcklkflgppaa", sum := "c33934f9a09138a89b7b987a03bb778ea95313a0667f3514527f3a2b8afe0f9e", func := "compositor/compositorlaw02.FrameMemory", spec := "frameMemory", unfollowed := true, recurses := true, apart := false, narrowed := true }
def FrameMemoryUptoSaid : Prop := frameMemoryUptoRow.holds Try.pinned (OpenSpec.upto frameMemorySpec)

/-- 'compositorlaw02.FrameNil', WHERE WHAT IT READS IS OF BULK AT MOST 1048576: true; the input reads as it did. -/
def frameNilUptoRow : OpenClaim := { program := "ytipmcklkflgppaa", sum := "c33934f9a09138a89b7b987a03bb778ea95313a0667f3514527f3a2b8afe0f9e", func := "compositor/compositorlaw02.FrameNil", spec := "frameNil", unfollowed := true, recurses := true, apart := false, narrowed := true }
def FrameNilUptoSaid : Prop := frameNilUptoRow.holds Try.pinned (OpenSpec.upto frameNilSpec)

/-- 'compositorlaw02.FrameDecoder', WHERE WHAT IT READS IS OF BULK AT MOST 1048576: true; the input reads as it did. -/
def frameDecoderUptoRow : OpenClaim := { program := "ytipmcklkflgppaa", sum := "c33934f9a09138a89b7b987a03bb778ea95313a0667f3514527f3a2b8afe0f9e", func := "compositor/compositorlaw02.FrameDecoder", spec := "frameDecoder", unfollowed := true, recurses := true, apart := false, narrowed := true }
def FrameDecoderUptoSaid : Prop := frameDecoderUptoRow.holds Try.pinned (OpenSpec.upto frameDecoderSpec)

/-- 'compositorlaw02.FrameStreaming', WHERE WHAT IT READS IS OF BULK AT MOST 1048576: true; the input reads as it did. -/
def frameStreamingUptoRow : OpenClaim := { program := "ytipmcklkflgppaa", sum := "c33934f9a09138a89b7b987a03bb778ea95313a0667f3514527f3a2b8afe0f9e", func := "compositor/compositorlaw02.FrameStreaming", spec := "frameStreaming", unfollowed := true, recurses := true, apart := false, narrowed := true }
def FrameStreamingUptoSaid : Prop := frameStreamingUptoRow.holds Try.pinned (OpenSpec.upto frameStreamingSpec)

end Rows
end Go.Proofs.Ytipmcklkflgppaa
