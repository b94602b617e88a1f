/- What each Go function of this text answers, as a plain function, and that the machine comes to just that answer. -/
import Derived.Test.YtonnlbdocpkfdaaProg
import Derived.Below
import Derived.Deep.Draws
import Derived.Deep.AppendLies
import Derived.Maps.AppendAt
import Derived.OwnWalk
import Derived.Laws.BytesArg
import Derived.Laws.MakeOwn
import Derived.Laws.OwnMore
import Derived.Deep.OwnRows
import Derived.Tactics
import Derived.Lib.ConvBytes
import Derived.Laws.Slices
import Derived.WalkKit
import Derived.KernelRfl
import Derived.RowKit3
import Derived.Deep.LoopGhost
import Derived.Deep.QuietTactic
import Derived.BigQuiet
import Derived.WideLaws
import Derived.Deep.DeepCutAuto
import Derived.Deep.CutBlock
import Derived.Deep.RegionHeld3
import Derived.Laws.Rows
import Derived.Lib.AppendStr
import Derived.ArgAppend
import Derived.Laws.IdiomCopy
import Derived.OrdersHeld
import Derived.Laws.BitsLemmas
import Derived.RowKit
import Derived.Shelf.Strings.OnBuilder
import Derived.Shelf.Lays
import Derived.Shelf.Abstract
import Derived.Test.YtonnlbdocpkfdaaWWords
import Derived.Test.YtonnlbdocpkfdaaWLast
import Derived.Test.YtonnlbdocpkfdaaWTab
import Derived.Test.YtonnlbdocpkfdaaWFour
import Derived.Test.YtonnlbdocpkfdaaWQPut
import Derived.Test.YtonnlbdocpkfdaaWApart
import Derived.Test.YtonnlbdocpkfdaaWArr
import Derived.Test.YtonnlbdocpkfdaaWZeros
import Derived.Test.YtonnlbdocpkfdaaWFoot
import Derived.Test.YtonnlbdocpkfdaaWKept
import Derived.Test.YtonnlbdocpkfdaaWShare
import Derived.Test.YtonnlbdocpkfdaaWN
import Derived.Test.YtonnlbdocpkfdaaWFootNe
import Derived.Test.YtonnlbdocpkfdaaWAt
import Derived.Test.YtonnlbdocpkfdaaWEqStruct
import Derived.Test.YtonnlbdocpkfdaaWRepsOne
import Derived.Test.YtonnlbdocpkfdaaWInv
import Derived.Test.YtonnlbdocpkfdaaWInvWords
import Derived.Test.YtonnlbdocpkfdaaWGuard
import Derived.Test.YtonnlbdocpkfdaaWNEv
import Derived.Test.YtonnlbdocpkfdaaWMore
namespace Go.Proofs.Ytonnlbdocpkfdaa.QFnExactFormatShape
open Go.RowKit Go.Proofs.YtonnlbdocpkfdaaW.PrintWords Go.Proofs.YtonnlbdocpkfdaaW.PrintLast Go.Proofs.YtonnlbdocpkfdaaW.PrintMore
attribute [local go_sem] max2_int min2_int max_two min_two max_three min_three max_four min_four   -- for this text's walks alone
set_option linter.unusedVariables false
set_option linter.unusedSimpArgs false



def errW : Option Int → Value
  | none => .nilIface
  | some c => .iface 0 (.int .i64 c)
theorem errW_none : errW none = .nilIface := rfl
theorem errW_some (c : Int) : errW (some c) = .iface 0 (.int .i64 c) := rfl

theorem info5 : (Try.prog.info? 5).map (fun i => (i.zero, i.size, i.bytes)) = some (some (.int .u8 0), 1, 1) := by kernel_rfl
theorem info9 : (Try.prog.info? 9).map (fun i => (i.zero, i.size, i.bytes)) = some (some (.string ⟨#[]⟩), 1, 16) := by kernel_rfl
-- the values' own types

end Go.Proofs.Ytonnlbdocpkfdaa.QFnExactFormatShape
