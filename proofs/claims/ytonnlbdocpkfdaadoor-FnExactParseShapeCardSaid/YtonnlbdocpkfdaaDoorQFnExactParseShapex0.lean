/- What each Go function of this text answers, as a plain function, and that the machine comes to just that answer. -/
import Derived.Test.YtonnlbdocpkfdaaDoorProg
import Derived.Below
import Derived.Deep.Draws
import Derived.Deep.AppendLies
import Derived.Maps.AppendAt
import Derived.OwnWalk
import Derived.Laws.BytesArg
import Derived.Laws.MakeOwn
import Derived.Laws.OwnMore
import Derived.Deep.OwnRows
import Derived.Tactics
import Derived.Lib.ConvBytes
import Derived.Laws.Slices
import Derived.WalkKit
import Derived.KernelRfl
import Derived.RowKit3
import Derived.Deep.LoopGhost
import Derived.Deep.QuietTactic
import Derived.BigQuiet
import Derived.WideLaws
import Derived.Deep.DeepCutAuto
import Derived.Deep.CutBlock
import Derived.Deep.RegionHeld3
import Derived.Laws.Rows
import Derived.Lib.AppendStr
import Derived.ArgAppend
import Derived.Laws.IdiomCopy
import Derived.OrdersHeld
import Derived.Laws.BitsLemmas
import Derived.RowKit
import Derived.Test.YtonnlbdocpkfdaaDoorLaid
import Derived.Shelf.LaysM
import Derived.Shelf.Strings.Split
import Derived.Shelf.Lays
import Derived.Shelf.Strings.OnBuilder
import Derived.Test.YtonnlbdocpkfdaaDoorWWords
import Derived.Test.YtonnlbdocpkfdaaDoorWLast
import Derived.Test.YtonnlbdocpkfdaaDoorWTab
import Derived.Test.YtonnlbdocpkfdaaDoorWFour
import Derived.Test.YtonnlbdocpkfdaaDoorWQPut
import Derived.Test.YtonnlbdocpkfdaaDoorWApart
import Derived.Test.YtonnlbdocpkfdaaDoorWArr
import Derived.Test.YtonnlbdocpkfdaaDoorWZeros
import Derived.Test.YtonnlbdocpkfdaaDoorWFoot
import Derived.Test.YtonnlbdocpkfdaaDoorWKept
import Derived.Test.YtonnlbdocpkfdaaDoorWShare
import Derived.Test.YtonnlbdocpkfdaaDoorWN
import Derived.Test.YtonnlbdocpkfdaaDoorWFootNe
import Derived.Test.YtonnlbdocpkfdaaDoorWAt
import Derived.Test.YtonnlbdocpkfdaaDoorWEqStruct
import Derived.Test.YtonnlbdocpkfdaaDoorWRepsOne
import Derived.Test.YtonnlbdocpkfdaaDoorWInv
import Derived.Test.YtonnlbdocpkfdaaDoorWInvWords
import Derived.Test.YtonnlbdocpkfdaaDoorWGuard
import Derived.Test.YtonnlbdocpkfdaaDoorWNEv
import Derived.Test.YtonnlbdocpkfdaaDoorWMore
namespace Go.Proofs.YtonnlbdocpkfdaaDoor.QFnExactParseShape
open Go.RowKit Go.Proofs.YtonnlbdocpkfdaaDoorW.PrintWords Go.Proofs.YtonnlbdocpkfdaaDoorW.PrintLast Go.Proofs.YtonnlbdocpkfdaaDoorW.PrintMore
attribute [local go_sem] max2_int min2_int max_two min_two max_three min_three max_four min_four   -- for this text's walks alone
set_option linter.unusedVariables false
set_option linter.unusedSimpArgs false



def errW : Option Int → Value
  | none => .nilIface
  | some c => .iface 0 (.int .i64 c)
theorem errW_none : errW none = .nilIface := rfl
theorem errW_some (c : Int) : errW (some c) = .iface 0 (.int .i64 c) := rfl

theorem info5 : (Tryd.prog.info? 5).map (fun i => (i.zero, i.size, i.bytes)) = some (some (.int .u8 0), 1, 1) := by kernel_rfl
theorem info9 : (Tryd.prog.info? 9).map (fun i => (i.zero, i.size, i.bytes)) = some (some (.string ⟨#[]⟩), 1, 16) := by kernel_rfl
-- the values' own types

end Go.Proofs.YtonnlbdocpkfdaaDoor.QFnExactParseShape
