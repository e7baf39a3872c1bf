import Derived.Test.YtckpgccbhaejgaaProg
import Derived.Below
import Derived.Deep.Draws
import Derived.Deep.AppendLies
import Derived.Maps.AppendAt
import Derived.OwnWalk
import Derived.Laws.BytesArg
import Derived.Laws.MakeOwn
import Derived.Laws.OwnMore
import Derived.Deep.OwnRows
import Derived.Tactics
import Derived.Lib.ConvBytes
import Derived.Laws.Slices
import Derived.WalkKit
import Derived.KernelRfl
import Derived.RowKit3
import Derived.Deep.LoopGhost
import Derived.Deep.QuietTactic
import Derived.BigQuiet
import Derived.WideLaws
import Derived.Deep.DeepCutAuto
import Derived.Deep.CutBlock
import Derived.Deep.RegionHeld3
import Derived.Laws.Rows
import Derived.Lib.AppendStr
import Derived.ArgAppend
import Derived.Laws.IdiomCopy
import Derived.OrdersHeld
import Derived.Laws.BitsLemmas
import Derived.RowKit
import Derived.Test.YtckpgccbhaejgaaWWords
import Derived.Test.YtckpgccbhaejgaaWLast
import Derived.Test.YtckpgccbhaejgaaWTab
import Derived.Test.YtckpgccbhaejgaaWFour
import Derived.Test.YtckpgccbhaejgaaWQPut
import Derived.Test.YtckpgccbhaejgaaWApart
import Derived.Test.YtckpgccbhaejgaaWArr
import Derived.Test.YtckpgccbhaejgaaWZeros
import Derived.Test.YtckpgccbhaejgaaWFoot
import Derived.Test.YtckpgccbhaejgaaWKept
import Derived.Test.YtckpgccbhaejgaaWShare
import Derived.Test.YtckpgccbhaejgaaWN
import Derived.Test.YtckpgccbhaejgaaWFootNe
import Derived.Test.YtckpgccbhaejgaaWAt
import Derived.Test.YtckpgccbhaejgaaWEqStruct
import Derived.Test.YtckpgccbhaejgaaWRepsOne
import Derived.Test.YtckpgccbhaejgaaWInv
import Derived.Test.YtckpgccbhaejgaaWInvWords
import Derived.Test.YtckpgccbhaejgaaWGuard
import Derived.Test.YtckpgccbhaejgaaWNEv
import Derived.Test.YtckpgccbhaejgaaWMore
namespace Go.Proofs.Ytckpgccbhaejgaa.Hand
open Go.RowKit Go.Proofs.YtckpgccbhaejgaaW.PrintWords Go.Proofs.YtckpgccbhaejgaaW.PrintLast Go.Proofs.YtckpgccbhaejgaaW.PrintMore 
attribute [local go_sem] max2_int min2_int max_two min_two max_three min_three max_four min_four 
set_option linter.unusedVariables false
set_option linter.unusedSimpArgs false

end Go.Proofs.Ytckpgccbhaejgaa.Hand
