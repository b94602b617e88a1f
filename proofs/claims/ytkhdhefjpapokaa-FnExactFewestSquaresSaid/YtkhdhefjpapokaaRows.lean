/-
  No cell of these rows narrows 'for every input' (looked for: loops, veiled, ifaces, maps, wideKeys, modest, calm, conditions, laid).
  DERIVED. THE GIVEN ROWS OF THIS SEAT. 3 by the template 'for every input the law returns true; each argument reads behind the call as it read before'; 0 by the template 'total and deterministic' (their statements: YtkhdhefjpapokaaTotals.lean).
  GIVEN WITH THE SEED: the statements are not yours to turn. If you find one false, say at which input.
  Laid BY PROGRAM, IN A SANDBOX (cutbox-rows.mjs): the forced cells as the released guide's own fill.sh prints them over the translation 1375f789c0e885d5… (all of the seat's roots in one cut). By AI agents, Wed Nov 11 2026. No macro, syntax, notation, axiom, sorry.
-/
import Derived.Test.YtkhdhefjpapokaaChecked
import GoSem.Claim
import GoSem.ClaimJoined
import GoSem.ClaimMapViews
import Derived.JoinedTies
import Derived.KernelRfl
namespace Go.Proofs.Ytkhdhefjpapokaa
/- THE CELL 'sum', in the pinned program and in every row, IS THE sha256 OF THE DUMP (.gsa) THAT YtkhdhefjpapokaaProg.lean LOADS. Nothing in Lean hashes anything: it is a label: what it is worth is what the hold of that sum in a sandbox is worth. -/
noncomputable def Try.pinned : Pinned := { name := "ytkhdhefjpapokaa", sum := "1375f789c0e885d5885bbf79bb16ed56c4d30c7f8016cf77d40c6487a350c7c7", checked := Try.checked }
namespace Rows
def none {H : Type} : Left H := { results := [], args := [] }

/-- 'laws.FnExactAddMeasures': WHATEVER THE INPUT: true; the input reads as it did. -/
def fnExactAddMeasuresSpec : ChangeSpec := { name := "fnExactAddMeasures", fn := fun _ => fun
  | [d1, d2] => { results := [.lit (.bool true)], args := [d1, d2] }
  | _ => none }
def fnExactAddMeasuresRow : OpenClaim := { program := "ytkhdhefjpapokaa", sum := "1375f789c0e885d5885bbf79bb16ed56c4d30c7f8016cf77d40c6487a350c7c7", func := "loop.example/g03208/laws.FnExactAddMeasures", spec := "fnExactAddMeasures", unfollowed := true, recurses := true, plainKeys := false, apart := false }
def FnExactAddMeasuresSaid : Prop := fnExactAddMeasuresRow.holds Try.pinned (OpenSpec.ofChange fnExactAddMeasuresSpec)

/-- ITS FALSE NEIGHBOUR: 'it returns false'. Refute it at one input. -/
def fnExactAddMeasuresWrong : ChangeSpec := { name := "fnExactAddMeasures", fn := fun _ => fun
  | [d1, d2] => { results := [.lit (.bool false)], args := [d1, d2] }
  | _ => none }
def FnExactAddMeasuresWrongFalsely : Prop := fnExactAddMeasuresRow.holds Try.pinned (OpenSpec.ofChange fnExactAddMeasuresWrong)

/-- 'laws.FnExactChainOfSteps': WHATEVER THE INPUT: true; the input reads as it did. -/
def fnExactChainOfStepsSpec : ChangeSpec := { name := "fnExactChainOfSteps", fn := fun _ => fun
  | [d1, d2, d3] => { results := [.lit (.bool true)], args := [d1, d2, d3] }
  | _ => none }
def fnExactChainOfStepsRow : OpenClaim := { program := "ytkhdhefjpapokaa", sum := "1375f789c0e885d5885bbf79bb16ed56c4d30c7f8016cf77d40c6487a350c7c7", func := "loop.example/g03208/laws.FnExactChainOfSteps", spec := "fnExactChainOfSteps", plainKeys := false, apart := false }
def FnExactChainOfStepsSaid : Prop := fnExactChainOfStepsRow.holds Try.pinned (OpenSpec.ofChange fnExactChainOfStepsSpec)

/-- ITS FALSE NEIGHBOUR: 'it returns false'. Refute it at one input. -/
def fnExactChainOfStepsWrong : ChangeSpec := { name := "fnExactChainOfSteps", fn := fun _ => fun
  | [d1, d2, d3] => { results := [.lit (.bool false)], args := [d1, d2, d3] }
  | _ => none }
def FnExactChainOfStepsWrongFalsely : Prop := fnExactChainOfStepsRow.holds Try.pinned (OpenSpec.ofChange fnExactChainOfStepsWrong)

/-- 'laws.FnExactFewestSquares': WHATEVER THE INPUT: true; the input reads as it did. -/
def fnExactFewestSquaresSpec : ChangeSpec := { name := "fnExactFewestSquares", fn := fun _ => fun
  | [d1, d2] => { results := [.lit (.bool true)], args := [d1, d2] }
  | _ => none }
def fnExactFewestSquaresRow : OpenClaim := { program := "ytkhdhefjpapokaa", sum := "1375f789c0e885d5885bbf79bb16ed56c4d30c7f8016cf77d40c6487a350c7c7", func := "loop.example/g03208/laws.FnExactFewestSquares", spec := "fnExactFewestSquares", plainKeys := false, apart := false }
def FnExactFewestSquaresSaid : Prop := fnExactFewestSquaresRow.holds Try.pinned (OpenSpec.ofChange fnExactFewestSquaresSpec)

/-- ITS FALSE NEIGHBOUR: 'it returns false'. Refute it at one input. -/
def fnExactFewestSquaresWrong : ChangeSpec := { name := "fnExactFewestSquares", fn := fun _ => fun
  | [d1, d2] => { results := [.lit (.bool false)], args := [d1, d2] }
  | _ => none }
def FnExactFewestSquaresWrongFalsely : Prop := fnExactFewestSquaresRow.holds Try.pinned (OpenSpec.ofChange fnExactFewestSquaresWrong)

/- THE SECOND FORM. 'bulk': how many values and letters a reading holds, each counted each time it is reached (what is shared counts as often as it is met; a slice's spare places count too). A statement '..UptoSaid' is the law's where the arguments, and the package variables that the reading takes, are together of bulk at most 1048576: NARROWER than '..Said'. Prove '..Said' where nothing that the law and all that it calls make is longer than what came in: it says more and counts as full. Else prove '..UptoSaid'. A law counts once. -/
mutual
def uptoBulk {H : Type} : DataW H → Nat
  | .lit (.string bytes) => bytes.length + 1
  | .lit _ => 1
  | .nil => 1
  | .ptr d => uptoBulk d + 1
  | .slice elems spare => uptoBulkAll elems + uptoBulkAll spare + 1
  | .agg parts => uptoBulkAll parts + 1
  | .iface _ d => uptoBulk d + 1
  | .map entries => uptoBulkEntries entries + 1
  | .held _ => 1
def uptoBulkAll {H : Type} : List (DataW H) → Nat
  | [] => 0
  | d :: r => uptoBulk d + uptoBulkAll r
def uptoBulkEntries {H : Type} : List (Lit × DataW H) → Nat
  | [] => 0
  | x :: r => uptoBulkEntry x + uptoBulkEntries r
def uptoBulkEntry {H : Type} : Lit × DataW H → Nat
  | (.string bytes, d) => bytes.length + uptoBulk d + 1
  | (_, d) => uptoBulk d + 1
 end
def uptoSmall : (H : Type) → List (DataW H) → Bool := fun _ ds => decide (uptoBulkAll ds ≤ 1048576)
def OpenSpec.upto (s : _root_.Go.ChangeSpec) : _root_.Go.OpenSpec := { _root_.Go.OpenSpec.ofChange s with cond := some uptoSmall }

/-- 'laws.FnExactAddMeasures', WHERE WHAT IT READS IS OF BULK AT MOST 1048576: true; the input reads as it did. -/
def fnExactAddMeasuresUptoRow : OpenClaim := { program := "ytkhdhefjpapokaa", sum := "1375f789c0e885d5885bbf79bb16ed56c4d30c7f8016cf77d40c6487a350c7c7", func := "loop.example/g03208/laws.FnExactAddMeasures", spec := "fnExactAddMeasures", unfollowed := true, recurses := true, plainKeys := false, apart := false, narrowed := true }
def FnExactAddMeasuresUptoSaid : Prop := fnExactAddMeasuresUptoRow.holds Try.pinned (OpenSpec.upto fnExactAddMeasuresSpec)

/-- 'laws.FnExactChainOfSteps', WHERE WHAT IT READS IS OF BULK AT MOST 1048576: true; the input reads as it did. -/
def fnExactChainOfStepsUptoRow : OpenClaim := { program := "ytkhdhefjpapokaa", sum := "1375f789c0e885d5885bbf79bb16ed56c4d30c7f8016cf77d40c6487a350c7c7", func := "loop.example/g03208/laws.FnExactChainOfSteps", spec := "fnExactChainOfSteps", plainKeys := false, apart := false, narrowed := true }
def FnExactChainOfStepsUptoSaid : Prop := fnExactChainOfStepsUptoRow.holds Try.pinned (OpenSpec.upto fnExactChainOfStepsSpec)

/-- 'laws.FnExactFewestSquares', WHERE WHAT IT READS IS OF BULK AT MOST 1048576: true; the input reads as it did. -/
def fnExactFewestSquaresUptoRow : OpenClaim := { program := "ytkhdhefjpapokaa", sum := "1375f789c0e885d5885bbf79bb16ed56c4d30c7f8016cf77d40c6487a350c7c7", func := "loop.example/g03208/laws.FnExactFewestSquares", spec := "fnExactFewestSquares", plainKeys := false, apart := false, narrowed := true }
def FnExactFewestSquaresUptoSaid : Prop := fnExactFewestSquaresUptoRow.holds Try.pinned (OpenSpec.upto fnExactFewestSquaresSpec)

end Rows
end Go.Proofs.Ytkhdhefjpapokaa
