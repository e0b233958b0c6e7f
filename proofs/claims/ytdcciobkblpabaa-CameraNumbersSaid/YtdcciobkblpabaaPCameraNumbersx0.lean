-- Written by a program of this session out of the translation (wip/tools).
import Derived.Test.YtdcciobkblpabaaProg
import Derived.Below
import Derived.Deep.Draws
import Derived.Deep.AppendLies
import Derived.Maps.AppendAt
import Derived.OwnWalk
import Derived.Laws.BytesArg
import Derived.Laws.MakeOwn
import Derived.Laws.OwnMore
import Derived.Deep.OwnRows
import Derived.Tactics
import Derived.Lib.ConvBytes
import Derived.Laws.Slices
import Derived.WalkKit
import Derived.KernelRfl
import Derived.RowKit3
import Derived.Deep.LoopGhost
import Derived.Deep.QuietTactic
import Derived.BigQuiet
import Derived.WideLaws
import Derived.Deep.DeepCutAuto
import Derived.Deep.CutBlock
import Derived.Deep.RegionHeld3
import Derived.Laws.Rows
import Derived.Lib.AppendStr
import Derived.ArgAppend
import Derived.Laws.IdiomCopy
import Derived.OrdersHeld
import Derived.Laws.BitsLemmas
import Derived.RowKit
import Derived.Test.YtdcciobkblpabaaWWords
import Derived.Test.YtdcciobkblpabaaWLast
import Derived.Test.YtdcciobkblpabaaWTab
import Derived.Test.YtdcciobkblpabaaWFour
import Derived.Test.YtdcciobkblpabaaWQPut
import Derived.Test.YtdcciobkblpabaaWApart
import Derived.Test.YtdcciobkblpabaaWArr
import Derived.Test.YtdcciobkblpabaaWZeros
import Derived.Test.YtdcciobkblpabaaWFoot
import Derived.Test.YtdcciobkblpabaaWKept
import Derived.Test.YtdcciobkblpabaaWShare
import Derived.Test.YtdcciobkblpabaaWN
import Derived.Test.YtdcciobkblpabaaWFootNe
import Derived.Test.YtdcciobkblpabaaWAt
import Derived.Test.YtdcciobkblpabaaWEqStruct
import Derived.Test.YtdcciobkblpabaaWRepsOne
import Derived.Test.YtdcciobkblpabaaWInv
import Derived.Test.YtdcciobkblpabaaWInvWords
import Derived.Test.YtdcciobkblpabaaWGuard
import Derived.Test.YtdcciobkblpabaaWNEv
import Derived.Test.YtdcciobkblpabaaWMore
namespace Go.Proofs.Ytdcciobkblpabaa.PCameraNumbers
open Go.RowKit Go.Proofs.YtdcciobkblpabaaW.PrintWords Go.Proofs.YtdcciobkblpabaaW.PrintLast Go.Proofs.YtdcciobkblpabaaW.PrintMore
attribute [local go_sem] max2_int min2_int max_two min_two max_three min_three max_four min_four   -- for this text's walks alone
set_option linter.unusedVariables false
set_option linter.unusedSimpArgs false



def errW : Option Int → Value
  | none => .nilIface
  | some c => .iface 0 (.int .i64 c)
theorem errW_none : errW none = .nilIface := rfl
theorem errW_some (c : Int) : errW (some c) = .iface 0 (.int .i64 c) := rfl

-- the values' own types

end Go.Proofs.Ytdcciobkblpabaa.PCameraNumbers
