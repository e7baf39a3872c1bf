-- Written by wip/myprint.py out of the translation; not trusted: Lean checks it.
import Derived.Test.YtlfediaeaaodpaaProg
import Derived.Below
import Derived.Deep.Draws
import Derived.Deep.AppendLies
import Derived.Maps.AppendAt
import Derived.OwnWalk
import Derived.Laws.BytesArg
import Derived.Laws.MakeOwn
import Derived.Laws.OwnMore
import Derived.Deep.OwnRows
import Derived.Tactics
import Derived.Lib.ConvBytes
import Derived.Laws.Slices
import Derived.WalkKit
import Derived.KernelRfl
import Derived.RowKit3
import Derived.Deep.LoopGhost
import Derived.Deep.QuietTactic
import Derived.BigQuiet
import Derived.WideLaws
import Derived.Deep.DeepCutAuto
import Derived.Deep.CutBlock
import Derived.Deep.RegionHeld3
import Derived.Laws.Rows
import Derived.Lib.AppendStr
import Derived.ArgAppend
import Derived.Laws.IdiomCopy
import Derived.OrdersHeld
import Derived.Laws.BitsLemmas
import Derived.RowKit
import Derived.Test.YtlfediaeaaodpaaWWords
import Derived.Test.YtlfediaeaaodpaaWLast
import Derived.Test.YtlfediaeaaodpaaWTab
import Derived.Test.YtlfediaeaaodpaaWFour
import Derived.Test.YtlfediaeaaodpaaWQPut
import Derived.Test.YtlfediaeaaodpaaWApart
import Derived.Test.YtlfediaeaaodpaaWArr
import Derived.Test.YtlfediaeaaodpaaWZeros
import Derived.Test.YtlfediaeaaodpaaWFoot
import Derived.Test.YtlfediaeaaodpaaWKept
import Derived.Test.YtlfediaeaaodpaaWShare
import Derived.Test.YtlfediaeaaodpaaWN
import Derived.Test.YtlfediaeaaodpaaWFootNe
import Derived.Test.YtlfediaeaaodpaaWAt
import Derived.Test.YtlfediaeaaodpaaWEqStruct
import Derived.Test.YtlfediaeaaodpaaWRepsOne
import Derived.Test.YtlfediaeaaodpaaWInv
import Derived.Test.YtlfediaeaaodpaaWInvWords
import Derived.Test.YtlfediaeaaodpaaWGuard
import Derived.Test.YtlfediaeaaodpaaWNEv
import Derived.Test.YtlfediaeaaodpaaWMore
namespace Go.Proofs.Ytlfediaeaaodpaa.Q
open Go.RowKit Go.Proofs.YtlfediaeaaodpaaW.PrintWords Go.Proofs.YtlfediaeaaodpaaW.PrintLast Go.Proofs.YtlfediaeaaodpaaW.PrintMore
attribute [local go_sem] max2_int min2_int max_two min_two max_three min_three max_four min_four   -- for this text's walks alone
set_option linter.unusedVariables false
set_option linter.unusedSimpArgs false



def errW : Option Int → Value
  | none => .nilIface
  | some c => .iface 0 (.int .i64 c)
theorem errW_none : errW none = .nilIface := rfl
theorem errW_some (c : Int) : errW (some c) = .iface 0 (.int .i64 c) := rfl

theorem info3 : (Try.prog.info? 3).map (fun i => (i.zero, i.size, i.bytes)) = some (some (.int .i64 0), 1, 8) := by kernel_rfl
-- the values' own types

end Go.Proofs.Ytlfediaeaaodpaa.Q
