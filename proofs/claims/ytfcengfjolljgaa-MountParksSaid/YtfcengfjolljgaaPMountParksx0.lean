-- Written by a program of this session out of the translation (wip/tools).
import Derived.Test.YtfcengfjolljgaaProg
import Derived.Below
import Derived.Deep.Draws
import Derived.Deep.AppendLies
import Derived.Maps.AppendAt
import Derived.OwnWalk
import Derived.Laws.BytesArg
import Derived.Laws.MakeOwn
import Derived.Laws.OwnMore
import Derived.Deep.OwnRows
import Derived.Tactics
import Derived.Lib.ConvBytes
import Derived.Laws.Slices
import Derived.WalkKit
import Derived.KernelRfl
import Derived.RowKit3
import Derived.Deep.LoopGhost
import Derived.Deep.QuietTactic
import Derived.BigQuiet
import Derived.WideLaws
import Derived.Deep.DeepCutAuto
import Derived.Deep.CutBlock
import Derived.Deep.RegionHeld3
import Derived.Laws.Rows
import Derived.Lib.AppendStr
import Derived.ArgAppend
import Derived.Laws.IdiomCopy
import Derived.OrdersHeld
import Derived.Laws.BitsLemmas
import Derived.RowKit
import Derived.Laws.CopyRow
import Derived.Test.YtfcengfjolljgaaWWords
import Derived.Test.YtfcengfjolljgaaWLast
import Derived.Test.YtfcengfjolljgaaWTab
import Derived.Test.YtfcengfjolljgaaWFour
import Derived.Test.YtfcengfjolljgaaWQPut
import Derived.Test.YtfcengfjolljgaaWApart
import Derived.Test.YtfcengfjolljgaaWArr
import Derived.Test.YtfcengfjolljgaaWZeros
import Derived.Test.YtfcengfjolljgaaWFoot
import Derived.Test.YtfcengfjolljgaaWKept
import Derived.Test.YtfcengfjolljgaaWShare
import Derived.Test.YtfcengfjolljgaaWN
import Derived.Test.YtfcengfjolljgaaWFootNe
import Derived.Test.YtfcengfjolljgaaWAt
import Derived.Test.YtfcengfjolljgaaWEqStruct
import Derived.Test.YtfcengfjolljgaaWRepsOne
import Derived.Test.YtfcengfjolljgaaWInv
import Derived.Test.YtfcengfjolljgaaWInvWords
import Derived.Test.YtfcengfjolljgaaWGuard
import Derived.Test.YtfcengfjolljgaaWNEv
import Derived.Test.YtfcengfjolljgaaWMore
namespace Go.Proofs.Ytfcengfjolljgaa.PMountParks
open Go.RowKit Go.Proofs.YtfcengfjolljgaaW.PrintWords Go.Proofs.YtfcengfjolljgaaW.PrintLast Go.Proofs.YtfcengfjolljgaaW.PrintMore
attribute [local go_sem] max2_int min2_int max_two min_two max_three min_three max_four min_four   -- for this text's walks alone
set_option linter.unusedVariables false
set_option linter.unusedSimpArgs false



def errW : Option Int → Value
  | none => .nilIface
  | some c => .iface 0 (.int .i64 c)
theorem errW_none : errW none = .nilIface := rfl
theorem errW_some (c : Int) : errW (some c) = .iface 0 (.int .i64 c) := rfl

-- the values' own types

end Go.Proofs.Ytfcengfjolljgaa.PMountParks
