/- What each Go function of this text answers, as a plain function, and that the machine comes to just that answer. -/
import Derived.Test.YtdeocimieeodnaaProg
import Derived.Below
import Derived.Deep.Draws
import Derived.Deep.AppendLies
import Derived.Maps.AppendAt
import Derived.OwnWalk
import Derived.Laws.BytesArg
import Derived.Laws.MakeOwn
import Derived.Laws.OwnMore
import Derived.Deep.OwnRows
import Derived.Tactics
import Derived.Lib.ConvBytes
import Derived.Laws.Slices
import Derived.WalkKit
import Derived.KernelRfl
import Derived.RowKit3
import Derived.Deep.LoopGhost
import Derived.Deep.QuietTactic
import Derived.BigQuiet
import Derived.WideLaws
import Derived.Deep.DeepCutAuto
import Derived.Deep.CutBlock
import Derived.Deep.RegionHeld3
import Derived.Laws.Rows
import Derived.Lib.AppendStr
import Derived.ArgAppend
import Derived.Laws.IdiomCopy
import Derived.OrdersHeld
import Derived.Laws.BitsLemmas
import Derived.RowKit
import Derived.Test.YtdeocimieeodnaaWWords
import Derived.Test.YtdeocimieeodnaaWLast
import Derived.Test.YtdeocimieeodnaaWTab
import Derived.Test.YtdeocimieeodnaaWFour
import Derived.Test.YtdeocimieeodnaaWQPut
import Derived.Test.YtdeocimieeodnaaWApart
import Derived.Test.YtdeocimieeodnaaWArr
import Derived.Test.YtdeocimieeodnaaWZeros
import Derived.Test.YtdeocimieeodnaaWFoot
import Derived.Test.YtdeocimieeodnaaWKept
import Derived.Test.YtdeocimieeodnaaWShare
import Derived.Test.YtdeocimieeodnaaWN
import Derived.Test.YtdeocimieeodnaaWFootNe
import Derived.Test.YtdeocimieeodnaaWAt
import Derived.Test.YtdeocimieeodnaaWEqStruct
import Derived.Test.YtdeocimieeodnaaWRepsOne
import Derived.Test.YtdeocimieeodnaaWInv
import Derived.Test.YtdeocimieeodnaaWInvWords
import Derived.Test.YtdeocimieeodnaaWGuard
import Derived.Test.YtdeocimieeodnaaWNEv
import Derived.Test.YtdeocimieeodnaaWMore
namespace Go.Proofs.Ytdeocimieeodnaa.QFnExactCellCount
open Go.RowKit Go.Proofs.YtdeocimieeodnaaW.PrintWords Go.Proofs.YtdeocimieeodnaaW.PrintLast Go.Proofs.YtdeocimieeodnaaW.PrintMore
attribute [local go_sem] max2_int min2_int max_two min_two max_three min_three max_four min_four   -- for this text's walks alone
set_option linter.unusedVariables false
set_option linter.unusedSimpArgs false



def errW : Option Int → Value
  | none => .nilIface
  | some c => .iface 0 (.int .i64 c)
theorem errW_none : errW none = .nilIface := rfl
theorem errW_some (c : Int) : errW (some c) = .iface 0 (.int .i64 c) := rfl

-- the values' own types

end Go.Proofs.Ytdeocimieeodnaa.QFnExactCellCount
