/- What each Go function of this text answers, as a plain function, and that the machine comes to just that answer. -/
import Derived.Test.YtkhdhefjpapokaaProg
import Derived.Below
import Derived.Deep.Draws
import Derived.Deep.AppendLies
import Derived.Maps.AppendAt
import Derived.OwnWalk
import Derived.Laws.BytesArg
import Derived.Laws.MakeOwn
import Derived.Laws.OwnMore
import Derived.Deep.OwnRows
import Derived.Tactics
import Derived.Lib.ConvBytes
import Derived.Laws.Slices
import Derived.WalkKit
import Derived.KernelRfl
import Derived.RowKit3
import Derived.Deep.LoopGhost
import Derived.Deep.QuietTactic
import Derived.BigQuiet
import Derived.WideLaws
import Derived.Deep.DeepCutAuto
import Derived.Deep.CutBlock
import Derived.Deep.RegionHeld3
import Derived.Laws.Rows
import Derived.Lib.AppendStr
import Derived.ArgAppend
import Derived.Laws.IdiomCopy
import Derived.OrdersHeld
import Derived.Laws.BitsLemmas
import Derived.RowKit
import Derived.Laws.Tables
import Derived.Laws.CopyRow
import Derived.StillTailTactics
import Derived.Test.YtkhdhefjpapokaaWWords
import Derived.Test.YtkhdhefjpapokaaWLast
import Derived.Test.YtkhdhefjpapokaaWTab
import Derived.Test.YtkhdhefjpapokaaWFour
import Derived.Test.YtkhdhefjpapokaaWQPut
import Derived.Test.YtkhdhefjpapokaaWApart
import Derived.Test.YtkhdhefjpapokaaWArr
import Derived.Test.YtkhdhefjpapokaaWZeros
import Derived.Test.YtkhdhefjpapokaaWFoot
import Derived.Test.YtkhdhefjpapokaaWKept
import Derived.Test.YtkhdhefjpapokaaWShare
import Derived.Test.YtkhdhefjpapokaaWN
import Derived.Test.YtkhdhefjpapokaaWFootNe
import Derived.Test.YtkhdhefjpapokaaWAt
import Derived.Test.YtkhdhefjpapokaaWEqStruct
import Derived.Test.YtkhdhefjpapokaaWRepsOne
import Derived.Test.YtkhdhefjpapokaaWInv
import Derived.Test.YtkhdhefjpapokaaWInvWords
import Derived.Test.YtkhdhefjpapokaaWGuard
import Derived.Test.YtkhdhefjpapokaaWNEv
import Derived.Test.YtkhdhefjpapokaaWMore
namespace Go.Proofs.Ytkhdhefjpapokaa.QFnExactFewestSquares
open Go.RowKit Go.Proofs.YtkhdhefjpapokaaW.PrintWords Go.Proofs.YtkhdhefjpapokaaW.PrintLast Go.Proofs.YtkhdhefjpapokaaW.PrintMore
attribute [local go_sem] max2_int min2_int max_two min_two max_three min_three max_four min_four   -- for this text's walks alone
set_option linter.unusedVariables false
set_option linter.unusedSimpArgs false



def errW : Option Int → Value
  | none => .nilIface
  | some c => .iface 0 (.int .i64 c)
theorem errW_none : errW none = .nilIface := rfl
theorem errW_some (c : Int) : errW (some c) = .iface 0 (.int .i64 c) := rfl

theorem info3 : (Try.prog.info? 3).map (fun i => (i.zero, i.size, i.bytes)) = some (some (.int .i64 0), 1, 8) := by kernel_rfl
-- the values' own types

end Go.Proofs.Ytkhdhefjpapokaa.QFnExactFewestSquares
