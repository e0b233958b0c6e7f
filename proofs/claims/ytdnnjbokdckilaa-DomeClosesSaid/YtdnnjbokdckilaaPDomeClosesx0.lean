-- Written by a program of this session out of the translation (wip/tools).
import Derived.Test.YtdnnjbokdckilaaProg
import Derived.Below
import Derived.Deep.Draws
import Derived.Deep.AppendLies
import Derived.Maps.AppendAt
import Derived.OwnWalk
import Derived.Laws.BytesArg
import Derived.Laws.MakeOwn
import Derived.Laws.OwnMore
import Derived.Deep.OwnRows
import Derived.Tactics
import Derived.Lib.ConvBytes
import Derived.Laws.Slices
import Derived.WalkKit
import Derived.KernelRfl
import Derived.RowKit3
import Derived.Deep.LoopGhost
import Derived.Deep.QuietTactic
import Derived.BigQuiet
import Derived.WideLaws
import Derived.Deep.DeepCutAuto
import Derived.Deep.CutBlock
import Derived.Deep.RegionHeld3
import Derived.Laws.Rows
import Derived.Lib.AppendStr
import Derived.ArgAppend
import Derived.Laws.IdiomCopy
import Derived.OrdersHeld
import Derived.Laws.BitsLemmas
import Derived.RowKit
import Derived.Test.YtdnnjbokdckilaaWWords
import Derived.Test.YtdnnjbokdckilaaWLast
import Derived.Test.YtdnnjbokdckilaaWTab
import Derived.Test.YtdnnjbokdckilaaWFour
import Derived.Test.YtdnnjbokdckilaaWQPut
import Derived.Test.YtdnnjbokdckilaaWApart
import Derived.Test.YtdnnjbokdckilaaWArr
import Derived.Test.YtdnnjbokdckilaaWZeros
import Derived.Test.YtdnnjbokdckilaaWFoot
import Derived.Test.YtdnnjbokdckilaaWKept
import Derived.Test.YtdnnjbokdckilaaWShare
import Derived.Test.YtdnnjbokdckilaaWN
import Derived.Test.YtdnnjbokdckilaaWFootNe
import Derived.Test.YtdnnjbokdckilaaWAt
import Derived.Test.YtdnnjbokdckilaaWEqStruct
import Derived.Test.YtdnnjbokdckilaaWRepsOne
import Derived.Test.YtdnnjbokdckilaaWInv
import Derived.Test.YtdnnjbokdckilaaWInvWords
import Derived.Test.YtdnnjbokdckilaaWGuard
import Derived.Test.YtdnnjbokdckilaaWNEv
import Derived.Test.YtdnnjbokdckilaaWMore
namespace Go.Proofs.Ytdnnjbokdckilaa.PDomeCloses
open Go.RowKit Go.Proofs.YtdnnjbokdckilaaW.PrintWords Go.Proofs.YtdnnjbokdckilaaW.PrintLast Go.Proofs.YtdnnjbokdckilaaW.PrintMore
attribute [local go_sem] max2_int min2_int max_two min_two max_three min_three max_four min_four   -- for this text's walks alone
set_option linter.unusedVariables false
set_option linter.unusedSimpArgs false



def errW : Option Int → Value
  | none => .nilIface
  | some c => .iface 0 (.int .i64 c)
theorem errW_none : errW none = .nilIface := rfl
theorem errW_some (c : Int) : errW (some c) = .iface 0 (.int .i64 c) := rfl

-- the values' own types

end Go.Proofs.Ytdnnjbokdckilaa.PDomeCloses
