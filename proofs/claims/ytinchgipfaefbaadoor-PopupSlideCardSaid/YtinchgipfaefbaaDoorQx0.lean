-- Written by wip/myprint.py out of the translation; not trusted: Lean checks it.
import Derived.Test.YtinchgipfaefbaaDoorProg
import Derived.Below
import Derived.Deep.Draws
import Derived.Deep.AppendLies
import Derived.Maps.AppendAt
import Derived.OwnWalk
import Derived.Laws.BytesArg
import Derived.Laws.MakeOwn
import Derived.Laws.OwnMore
import Derived.Deep.OwnRows
import Derived.Tactics
import Derived.Lib.ConvBytes
import Derived.Laws.Slices
import Derived.WalkKit
import Derived.KernelRfl
import Derived.RowKit3
import Derived.Deep.LoopGhost
import Derived.Deep.QuietTactic
import Derived.BigQuiet
import Derived.WideLaws
import Derived.Deep.DeepCutAuto
import Derived.Deep.CutBlock
import Derived.Deep.RegionHeld3
import Derived.Laws.Rows
import Derived.Lib.AppendStr
import Derived.ArgAppend
import Derived.Laws.IdiomCopy
import Derived.OrdersHeld
import Derived.Laws.BitsLemmas
import Derived.RowKit
import Derived.Test.YtinchgipfaefbaaDoorWWords
import Derived.Test.YtinchgipfaefbaaDoorWLast
import Derived.Test.YtinchgipfaefbaaDoorWTab
import Derived.Test.YtinchgipfaefbaaDoorWFour
import Derived.Test.YtinchgipfaefbaaDoorWQPut
import Derived.Test.YtinchgipfaefbaaDoorWApart
import Derived.Test.YtinchgipfaefbaaDoorWArr
import Derived.Test.YtinchgipfaefbaaDoorWZeros
import Derived.Test.YtinchgipfaefbaaDoorWFoot
import Derived.Test.YtinchgipfaefbaaDoorWKept
import Derived.Test.YtinchgipfaefbaaDoorWShare
import Derived.Test.YtinchgipfaefbaaDoorWN
import Derived.Test.YtinchgipfaefbaaDoorWFootNe
import Derived.Test.YtinchgipfaefbaaDoorWAt
import Derived.Test.YtinchgipfaefbaaDoorWEqStruct
import Derived.Test.YtinchgipfaefbaaDoorWRepsOne
import Derived.Test.YtinchgipfaefbaaDoorWInv
import Derived.Test.YtinchgipfaefbaaDoorWInvWords
import Derived.Test.YtinchgipfaefbaaDoorWGuard
import Derived.Test.YtinchgipfaefbaaDoorWNEv
import Derived.Test.YtinchgipfaefbaaDoorWMore
namespace Go.Proofs.YtinchgipfaefbaaDoor.Q
open Go.RowKit Go.Proofs.YtinchgipfaefbaaDoorW.PrintWords Go.Proofs.YtinchgipfaefbaaDoorW.PrintLast Go.Proofs.YtinchgipfaefbaaDoorW.PrintMore
attribute [local go_sem] max2_int min2_int max_two min_two max_three min_three max_four min_four   -- for this text's walks alone
set_option linter.unusedVariables false
set_option linter.unusedSimpArgs false



def errW : Option Int → Value
  | none => .nilIface
  | some c => .iface 0 (.int .i64 c)
theorem errW_none : errW none = .nilIface := rfl
theorem errW_some (c : Int) : errW (some c) = .iface 0 (.int .i64 c) := rfl

-- the values' own types

end Go.Proofs.YtinchgipfaefbaaDoor.Q
