/- What each Go function of this text answers, as a plain function, and that the machine comes to just that answer. -/
import Derived.Test.YtecghgagjghleaaProg
import Derived.Below
import Derived.Deep.Draws
import Derived.Deep.AppendLies
import Derived.Maps.AppendAt
import Derived.OwnWalk
import Derived.Laws.BytesArg
import Derived.Laws.MakeOwn
import Derived.Laws.OwnMore
import Derived.Deep.OwnRows
import Derived.Tactics
import Derived.Lib.ConvBytes
import Derived.Laws.Slices
import Derived.WalkKit
import Derived.KernelRfl
import Derived.RowKit3
import Derived.Deep.LoopGhost
import Derived.Deep.QuietTactic
import Derived.BigQuiet
import Derived.WideLaws
import Derived.Deep.DeepCutAuto
import Derived.Deep.CutBlock
import Derived.Deep.RegionHeld3
import Derived.Laws.Rows
import Derived.Lib.AppendStr
import Derived.ArgAppend
import Derived.Laws.IdiomCopy
import Derived.OrdersHeld
import Derived.Laws.BitsLemmas
import Derived.RowKit
import Derived.Maps.OwnSet
import Derived.Maps.OwnOps
import Derived.DeepKeys4
import Derived.StillTailTactics
import Derived.Test.YtecghgagjghleaaWWords
import Derived.Test.YtecghgagjghleaaWLast
import Derived.Test.YtecghgagjghleaaWTab
import Derived.Test.YtecghgagjghleaaWFour
import Derived.Test.YtecghgagjghleaaWQPut
import Derived.Test.YtecghgagjghleaaWApart
import Derived.Test.YtecghgagjghleaaWArr
import Derived.Test.YtecghgagjghleaaWZeros
import Derived.Test.YtecghgagjghleaaWFoot
import Derived.Test.YtecghgagjghleaaWKept
import Derived.Test.YtecghgagjghleaaWShare
import Derived.Test.YtecghgagjghleaaWN
import Derived.Test.YtecghgagjghleaaWFootNe
import Derived.Test.YtecghgagjghleaaWAt
import Derived.Test.YtecghgagjghleaaWEqStruct
import Derived.Test.YtecghgagjghleaaWRepsOne
import Derived.Test.YtecghgagjghleaaWInv
import Derived.Test.YtecghgagjghleaaWInvWords
import Derived.Test.YtecghgagjghleaaWGuard
import Derived.Test.YtecghgagjghleaaWNEv
import Derived.Test.YtecghgagjghleaaWMore
namespace Go.Proofs.Ytecghgagjghleaa.QFnExactChainOfSteps
open Go.RowKit Go.Proofs.YtecghgagjghleaaW.PrintWords Go.Proofs.YtecghgagjghleaaW.PrintLast Go.Proofs.YtecghgagjghleaaW.PrintMore
attribute [local go_sem] max2_int min2_int max_two min_two max_three min_three max_four min_four   -- for this text's walks alone
set_option linter.unusedVariables false
set_option linter.unusedSimpArgs false



def errW : Option Int → Value
  | none => .nilIface
  | some c => .iface 0 (.int .i64 c)
theorem errW_none : errW none = .nilIface := rfl
theorem errW_some (c : Int) : errW (some c) = .iface 0 (.int .i64 c) := rfl

theorem info3 : (Try.prog.info? 3).map (fun i => (i.zero, i.size, i.bytes)) = some (some (.int .i64 0), 1, 8) := by kernel_rfl
-- the values' own types

end Go.Proofs.Ytecghgagjghleaa.QFnExactChainOfSteps
