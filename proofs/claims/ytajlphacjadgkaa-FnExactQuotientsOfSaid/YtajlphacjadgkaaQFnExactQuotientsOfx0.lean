/- What each Go function of this text answers, as a plain function, and that the machine comes to just that answer. -/
import Derived.Test.YtajlphacjadgkaaProg
import Derived.Below
import Derived.Deep.Draws
import Derived.Deep.AppendLies
import Derived.Maps.AppendAt
import Derived.OwnWalk
import Derived.Laws.BytesArg
import Derived.Laws.MakeOwn
import Derived.Laws.OwnMore
import Derived.Deep.OwnRows
import Derived.Tactics
import Derived.Lib.ConvBytes
import Derived.Laws.Slices
import Derived.WalkKit
import Derived.KernelRfl
import Derived.RowKit3
import Derived.Deep.LoopGhost
import Derived.Deep.QuietTactic
import Derived.BigQuiet
import Derived.WideLaws
import Derived.Deep.DeepCutAuto
import Derived.Deep.CutBlock
import Derived.Deep.RegionHeld3
import Derived.Laws.Rows
import Derived.Lib.AppendStr
import Derived.ArgAppend
import Derived.Laws.IdiomCopy
import Derived.OrdersHeld
import Derived.Laws.BitsLemmas
import Derived.RowKit
import Derived.Test.YtajlphacjadgkaaWWords
import Derived.Test.YtajlphacjadgkaaWLast
import Derived.Test.YtajlphacjadgkaaWTab
import Derived.Test.YtajlphacjadgkaaWFour
import Derived.Test.YtajlphacjadgkaaWQPut
import Derived.Test.YtajlphacjadgkaaWApart
import Derived.Test.YtajlphacjadgkaaWArr
import Derived.Test.YtajlphacjadgkaaWZeros
import Derived.Test.YtajlphacjadgkaaWFoot
import Derived.Test.YtajlphacjadgkaaWKept
import Derived.Test.YtajlphacjadgkaaWShare
import Derived.Test.YtajlphacjadgkaaWN
import Derived.Test.YtajlphacjadgkaaWFootNe
import Derived.Test.YtajlphacjadgkaaWAt
import Derived.Test.YtajlphacjadgkaaWEqStruct
import Derived.Test.YtajlphacjadgkaaWRepsOne
import Derived.Test.YtajlphacjadgkaaWInv
import Derived.Test.YtajlphacjadgkaaWInvWords
import Derived.Test.YtajlphacjadgkaaWGuard
import Derived.Test.YtajlphacjadgkaaWNEv
import Derived.Test.YtajlphacjadgkaaWMore
namespace Go.Proofs.Ytajlphacjadgkaa.QFnExactQuotientsOf
open Go.RowKit Go.Proofs.YtajlphacjadgkaaW.PrintWords Go.Proofs.YtajlphacjadgkaaW.PrintLast Go.Proofs.YtajlphacjadgkaaW.PrintMore
attribute [local go_sem] max2_int min2_int max_two min_two max_three min_three max_four min_four   -- for this text's walks alone
set_option linter.unusedVariables false
set_option linter.unusedSimpArgs false



def errW : Option Int → Value
  | none => .nilIface
  | some c => .iface 0 (.int .i64 c)
theorem errW_none : errW none = .nilIface := rfl
theorem errW_some (c : Int) : errW (some c) = .iface 0 (.int .i64 c) := rfl

theorem info3 : (Try.prog.info? 3).map (fun i => (i.zero, i.size, i.bytes)) = some (some (.int .i64 0), 1, 8) := by kernel_rfl
-- the values' own types

end Go.Proofs.Ytajlphacjadgkaa.QFnExactQuotientsOf
