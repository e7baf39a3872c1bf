-- Written by wip/myprint.py out of the translation; not trusted: Lean checks it.
import Derived.Test.YtgabllnijkodbaaProg
import Derived.Below
import Derived.Deep.Draws
import Derived.Deep.AppendLies
import Derived.Maps.AppendAt
import Derived.OwnWalk
import Derived.Laws.BytesArg
import Derived.Laws.MakeOwn
import Derived.Laws.OwnMore
import Derived.Deep.OwnRows
import Derived.Tactics
import Derived.Lib.ConvBytes
import Derived.Laws.Slices
import Derived.WalkKit
import Derived.KernelRfl
import Derived.RowKit3
import Derived.Deep.LoopGhost
import Derived.Deep.QuietTactic
import Derived.BigQuiet
import Derived.WideLaws
import Derived.Deep.DeepCutAuto
import Derived.Deep.CutBlock
import Derived.Deep.RegionHeld3
import Derived.Laws.Rows
import Derived.Lib.AppendStr
import Derived.ArgAppend
import Derived.Laws.IdiomCopy
import Derived.OrdersHeld
import Derived.Laws.BitsLemmas
import Derived.RowKit
import Derived.Lib.SlBytesConst
import Derived.Test.YtgabllnijkodbaaHand
import Derived.Test.YtgabllnijkodbaaWWords
import Derived.Test.YtgabllnijkodbaaWLast
import Derived.Test.YtgabllnijkodbaaWTab
import Derived.Test.YtgabllnijkodbaaWFour
import Derived.Test.YtgabllnijkodbaaWQPut
import Derived.Test.YtgabllnijkodbaaWApart
import Derived.Test.YtgabllnijkodbaaWArr
import Derived.Test.YtgabllnijkodbaaWZeros
import Derived.Test.YtgabllnijkodbaaWFoot
import Derived.Test.YtgabllnijkodbaaWKept
import Derived.Test.YtgabllnijkodbaaWShare
import Derived.Test.YtgabllnijkodbaaWN
import Derived.Test.YtgabllnijkodbaaWFootNe
import Derived.Test.YtgabllnijkodbaaWAt
import Derived.Test.YtgabllnijkodbaaWEqStruct
import Derived.Test.YtgabllnijkodbaaWRepsOne
import Derived.Test.YtgabllnijkodbaaWInv
import Derived.Test.YtgabllnijkodbaaWInvWords
import Derived.Test.YtgabllnijkodbaaWGuard
import Derived.Test.YtgabllnijkodbaaWNEv
import Derived.Test.YtgabllnijkodbaaWMore
namespace Go.Proofs.Ytgabllnijkodbaa.Q
open Go.Proofs.Ytgabllnijkodbaa.Hand
open Go.RowKit Go.Proofs.YtgabllnijkodbaaW.PrintWords Go.Proofs.YtgabllnijkodbaaW.PrintLast Go.Proofs.YtgabllnijkodbaaW.PrintMore
attribute [local go_sem] max2_int min2_int max_two min_two max_three min_three max_four min_four   -- for this text's walks alone
attribute [local go_sem] sg_u32 sg_u8 sg_u16 sg_u64
set_option linter.unusedVariables false
set_option linter.unusedSimpArgs false



def errW : Option Int → Value
  | none => .nilIface
  | some c => .iface 0 (.int .i64 c)
theorem errW_none : errW none = .nilIface := rfl
theorem errW_some (c : Int) : errW (some c) = .iface 0 (.int .i64 c) := rfl

theorem info5 : (Try.prog.info? 5).map (fun i => (i.zero, i.size, i.bytes)) = some (some (.int .u8 0), 1, 1) := by kernel_rfl
-- the values' own types

end Go.Proofs.Ytgabllnijkodbaa.Q
