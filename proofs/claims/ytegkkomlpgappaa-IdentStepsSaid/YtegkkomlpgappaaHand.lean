import Derived.Test.YtegkkomlpgappaaProg
import Derived.Below
import Derived.Deep.Draws
import Derived.Deep.AppendLies
import Derived.Maps.AppendAt
import Derived.OwnWalk
import Derived.Laws.BytesArg
import Derived.Laws.MakeOwn
import Derived.Laws.OwnMore
import Derived.Deep.OwnRows
import Derived.Tactics
import Derived.Lib.ConvBytes
import Derived.Laws.Slices
import Derived.WalkKit
import Derived.KernelRfl
import Derived.RowKit3
import Derived.Deep.LoopGhost
import Derived.Deep.QuietTactic
import Derived.BigQuiet
import Derived.WideLaws
import Derived.Deep.DeepCutAuto
import Derived.Deep.CutBlock
import Derived.Deep.RegionHeld3
import Derived.Laws.Rows
import Derived.Lib.AppendStr
import Derived.ArgAppend
import Derived.Laws.IdiomCopy
import Derived.OrdersHeld
import Derived.Laws.BitsLemmas
import Derived.RowKit
import Derived.Test.YtegkkomlpgappaaWWords
import Derived.Test.YtegkkomlpgappaaWLast
import Derived.Test.YtegkkomlpgappaaWTab
import Derived.Test.YtegkkomlpgappaaWFour
import Derived.Test.YtegkkomlpgappaaWQPut
import Derived.Test.YtegkkomlpgappaaWApart
import Derived.Test.YtegkkomlpgappaaWArr
import Derived.Test.YtegkkomlpgappaaWZeros
import Derived.Test.YtegkkomlpgappaaWFoot
import Derived.Test.YtegkkomlpgappaaWKept
import Derived.Test.YtegkkomlpgappaaWShare
import Derived.Test.YtegkkomlpgappaaWN
import Derived.Test.YtegkkomlpgappaaWFootNe
import Derived.Test.YtegkkomlpgappaaWAt
import Derived.Test.YtegkkomlpgappaaWEqStruct
import Derived.Test.YtegkkomlpgappaaWRepsOne
import Derived.Test.YtegkkomlpgappaaWInv
import Derived.Test.YtegkkomlpgappaaWInvWords
import Derived.Test.YtegkkomlpgappaaWGuard
import Derived.Test.YtegkkomlpgappaaWNEv
import Derived.Test.YtegkkomlpgappaaWMore
namespace Go.Proofs.Ytegkkomlpgappaa.Hand
open Go.RowKit Go.Proofs.YtegkkomlpgappaaW.PrintWords Go.Proofs.YtegkkomlpgappaaW.PrintLast Go.Proofs.YtegkkomlpgappaaW.PrintMore 
attribute [local go_sem] max2_int min2_int max_two min_two max_three min_three max_four min_four 
set_option linter.unusedVariables false
set_option linter.unusedSimpArgs false

theorem sg_u32 : IntKind.u32.signed = false := rfl
theorem sg_u8 : IntKind.u8.signed = false := rfl
theorem sg_u16 : IntKind.u16.signed = false := rfl
theorem sg_u64 : IntKind.u64.signed = false := rfl
theorem C_cast {α : Type} {R : α → List Value → Prop} {size : Nat} {w : World} {A : Option Addr} {n m : Nat} {ps : List α} (e : n = m) (h : ReadsRow R size w A n ps) : ReadsRow R size w A m ps := e ▸ h
theorem ret_i {k : IntKind} {a b : Int} (h : a = b) : Ending.returned (.int k a) = .returned (.int k b) := by rw [h]
/-- The world at hand gets a name; what is known of it is told first. -/
theorem world_gen {F : World → Prop} (P : World → Prop) {W : World} (hP : P W) (h : ∀ w', P w' → F w') : F W := h W hP
end Go.Proofs.Ytegkkomlpgappaa.Hand
