-- Written by a program of this session out of the translation (wip/tools).
import Derived.Test.YtmdphfjpocmooaaProg
import Derived.Below
import Derived.Deep.Draws
import Derived.Deep.AppendLies
import Derived.Maps.AppendAt
import Derived.OwnWalk
import Derived.Laws.BytesArg
import Derived.Laws.MakeOwn
import Derived.Laws.OwnMore
import Derived.Deep.OwnRows
import Derived.Tactics
import Derived.Lib.ConvBytes
import Derived.Laws.Slices
import Derived.WalkKit
import Derived.KernelRfl
import Derived.RowKit3
import Derived.Deep.LoopGhost
import Derived.Deep.QuietTactic
import Derived.BigQuiet
import Derived.WideLaws
import Derived.Deep.DeepCutAuto
import Derived.Deep.CutBlock
import Derived.Deep.RegionHeld3
import Derived.Laws.Rows
import Derived.Lib.AppendStr
import Derived.ArgAppend
import Derived.Laws.IdiomCopy
import Derived.OrdersHeld
import Derived.Laws.BitsLemmas
import Derived.RowKit
import Derived.Laws.CopyRow
import Derived.Test.YtmdphfjpocmooaaWWords
import Derived.Test.YtmdphfjpocmooaaWLast
import Derived.Test.YtmdphfjpocmooaaWTab
import Derived.Test.YtmdphfjpocmooaaWFour
import Derived.Test.YtmdphfjpocmooaaWQPut
import Derived.Test.YtmdphfjpocmooaaWApart
import Derived.Test.YtmdphfjpocmooaaWArr
import Derived.Test.YtmdphfjpocmooaaWZeros
import Derived.Test.YtmdphfjpocmooaaWFoot
import Derived.Test.YtmdphfjpocmooaaWKept
import Derived.Test.YtmdphfjpocmooaaWShare
import Derived.Test.YtmdphfjpocmooaaWN
import Derived.Test.YtmdphfjpocmooaaWFootNe
import Derived.Test.YtmdphfjpocmooaaWAt
import Derived.Test.YtmdphfjpocmooaaWEqStruct
import Derived.Test.YtmdphfjpocmooaaWRepsOne
import Derived.Test.YtmdphfjpocmooaaWInv
import Derived.Test.YtmdphfjpocmooaaWInvWords
import Derived.Test.YtmdphfjpocmooaaWGuard
import Derived.Test.YtmdphfjpocmooaaWNEv
import Derived.Test.YtmdphfjpocmooaaWMore
namespace Go.Proofs.Ytmdphfjpocmooaa.PSlewNearest
open Go.RowKit Go.Proofs.YtmdphfjpocmooaaW.PrintWords Go.Proofs.YtmdphfjpocmooaaW.PrintLast Go.Proofs.YtmdphfjpocmooaaW.PrintMore
attribute [local go_sem] max2_int min2_int max_two min_two max_three min_three max_four min_four   -- for this text's walks alone
set_option linter.unusedVariables false
set_option linter.unusedSimpArgs false



def errW : Option Int → Value
  | none => .nilIface
  | some c => .iface 0 (.int .i64 c)
theorem errW_none : errW none = .nilIface := rfl
theorem errW_some (c : Int) : errW (some c) = .iface 0 (.int .i64 c) := rfl

-- the values' own types

end Go.Proofs.Ytmdphfjpocmooaa.PSlewNearest
