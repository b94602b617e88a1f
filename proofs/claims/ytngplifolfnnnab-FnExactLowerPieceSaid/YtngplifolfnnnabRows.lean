/-
  No cell of these rows narrows 'for every input' (looked for: loops, veiled, ifaces, maps, wideKeys, modest, calm, conditions, laid).
  DERIVED. THE GIVEN ROWS OF THIS SEAT. 6 by the template 'for every input the law returns true; each argument reads behind the call as it read before'; 0 by the template 'total and deterministic' (their statements: YtngplifolfnnnabTotals.lean).
  GIVEN WITH THE SEED: the statements are not yours to turn. If you find one false, say at which input.
  Laid BY PROGRAM, IN A SANDBOX (cutbox-rows.mjs): the forced cells as the released guide's own fill.sh prints them over the translation eaf29e5739d5e48b… (all of the seat's roots in one cut). By AI agents, Wed Nov 11 2026. No macro, syntax, notation, axiom, sorry.
-/
import Derived.Test.YtngplifolfnnnabChecked
import GoSem.Claim
import GoSem.ClaimJoined
import GoSem.ClaimMapViews
import Derived.JoinedTies
import Derived.KernelRfl
namespace Go.Proofs.Ytngplifolfnnnab
/- THE CELL 'sum', in the pinned program and in every row, IS THE sha256 OF THE DUMP (.gsa) THAT YtngplifolfnnnabProg.lean LOADS. Nothing in Lean hashes anything: it is a label: what it is worth is what the hold of that sum in a sandbox is worth. -/
noncomputable def Try.pinned : Pinned := { name := "ytngplifolfnnnab", sum := "eaf29e5739d5e48b8e600b1651458b2b2f85d2f3c7ac59bbeb61fd5cbb4ca3ed", checked := Try.checked }
namespace Rows
def none {H : Type} : Left H := { results := [], args := [] }

/-- 'laws.FnExactGreedySquares': WHATEVER THE INPUT: true; the input reads as it did. -/
def fnExactGreedySquaresSpec : ChangeSpec := { name := "fnExactGreedySquares", fn := fun _ => fun
  | [d1, d2] => { results := [.lit (.bool true)], args := [d1, d2] }
  | _ => none }
def fnExactGreedySquaresRow : OpenClaim := { program := "ytngplifolfnnnab", sum := "eaf29e5739d5e48b8e600b1651458b2b2f85d2f3c7ac59bbeb61fd5cbb4ca3ed", func := "loop.example/g03208/laws.FnExactGreedySquares", spec := "fnExactGreedySquares", plainKeys := false, apart := false }
def FnExactGreedySquaresSaid : Prop := fnExactGreedySquaresRow.holds Try.pinned (OpenSpec.ofChange fnExactGreedySquaresSpec)

/-- ITS FALSE NEIGHBOUR: 'it returns false'. Refute it at one input. -/
def fnExactGreedySquaresWrong : ChangeSpec := { name := "fnExactGreedySquares", fn := fun _ => fun
  | [d1, d2] => { results := [.lit (.bool false)], args := [d1, d2] }
  | _ => none }
def FnExactGreedySquaresWrongFalsely : Prop := fnExactGreedySquaresRow.holds Try.pinned (OpenSpec.ofChange fnExactGreedySquaresWrong)

/-- 'laws.FnExactUpperPiece': WHATEVER THE INPUT: true; the input reads as it did. -/
def fnExactUpperPieceSpec : ChangeSpec := { name := "fnExactUpperPiece", fn := fun _ => fun
  | [d1, d2, d3] => { results := [.lit (.bool true)], args := [d1, d2, d3] }
  | _ => none }
def fnExactUpperPieceRow : OpenClaim := { program := "ytngplifolfnnnab", sum := "eaf29e5739d5e48b8e600b1651458b2b2f85d2f3c7ac59bbeb61fd5cbb4ca3ed", func := "loop.example/g03208/laws.FnExactUpperPiece", spec := "fnExactUpperPiece", plainKeys := false, apart := false }
def FnExactUpperPieceSaid : Prop := fnExactUpperPieceRow.holds Try.pinned (OpenSpec.ofChange fnExactUpperPieceSpec)

/-- ITS FALSE NEIGHBOUR: 'it returns false'. Refute it at one input. -/
def fnExactUpperPieceWrong : ChangeSpec := { name := "fnExactUpperPiece", fn := fun _ => fun
  | [d1, d2, d3] => { results := [.lit (.bool false)], args := [d1, d2, d3] }
  | _ => none }
def FnExactUpperPieceWrongFalsely : Prop := fnExactUpperPieceRow.holds Try.pinned (OpenSpec.ofChange fnExactUpperPieceWrong)

/-- 'laws.FnExactChainOfSteps': WHATEVER THE INPUT: true; the input reads as it did. -/
def fnExactChainOfStepsSpec : ChangeSpec := { name := "fnExactChainOfSteps", fn := fun _ => fun
  | [d1, d2, d3] => { results := [.lit (.bool true)], args := [d1, d2, d3] }
  | _ => none }
def fnExactChainOfStepsRow : OpenClaim := { program := "ytngplifolfnnnab", sum := "eaf29e5739d5e48b8e600b1651458b2b2f85d2f3c7ac59bbeb61fd5cbb4ca3ed", func := "loop.example/g03208/laws.FnExactChainOfSteps", spec := "fnExactChainOfSteps", plainKeys := false, apart := false }
def FnExactChainOfStepsSaid : Prop := fnExactChainOfStepsRow.holds Try.pinned (OpenSpec.ofChange fnExactChainOfStepsSpec)

/-- ITS FALSE NEIGHBOUR: 'it returns false'. Refute it at one input. -/
def fnExactChainOfStepsWrong : ChangeSpec := { name := "fnExactChainOfSteps", fn := fun _ => fun
  | [d1, d2, d3] => { results := [.lit (.bool false)], args := [d1, d2, d3] }
  | _ => none }
def FnExactChainOfStepsWrongFalsely : Prop := fnExactChainOfStepsRow.holds Try.pinned (OpenSpec.ofChange fnExactChainOfStepsWrong)

/-- 'laws.FnExactQuotientsOf': WHATEVER THE INPUT: true; the input reads as it did. -/
def fnExactQuotientsOfSpec : ChangeSpec := { name := "fnExactQuotientsOf", fn := fun _ => fun
  | [d1, d2] => { results := [.lit (.bool true)], args := [d1, d2] }
  | _ => none }
def fnExactQuotientsOfRow : OpenClaim := { program := "ytngplifolfnnnab", sum := "eaf29e5739d5e48b8e600b1651458b2b2f85d2f3c7ac59bbeb61fd5cbb4ca3ed", func := "loop.example/g03208/laws.FnExactQuotientsOf", spec := "fnExactQuotientsOf", plainKeys := false, apart := false }
def FnExactQuotientsOfSaid : Prop := fnExactQuotientsOfRow.holds Try.pinned (OpenSpec.ofChange fnExactQuotientsOfSpec)

/-- ITS FALSE NEIGHBOUR: 'it returns false'. Refute it at one input. -/
def fnExactQuotientsOfWrong : ChangeSpec := { name := "fnExactQuotientsOf", fn := fun _ => fun
  | [d1, d2] => { results := [.lit (.bool false)], args := [d1, d2] }
  | _ => none }
def FnExactQuotientsOfWrongFalsely : Prop := fnExactQuotientsOfRow.holds Try.pinned (OpenSpec.ofChange fnExactQuotientsOfWrong)

/-- 'laws.FnExactLowerPiece': WHATEVER THE INPUT: true; the input reads as it did. -/
def fnExactLowerPieceSpec : ChangeSpec := { name := "fnExactLowerPiece", fn := fun _ => fun
  | [d1, d2, d3] => { results := [.lit (.bool true)], args := [d1, d2, d3] }
  | _ => none }
def fnExactLowerPieceRow : OpenClaim := { program := "ytngplifolfnnnab", sum := "eaf29e5739d5e48b8e600b1651458b2b2f85d2f3c7ac59bbeb61fd5cbb4ca3ed", func := "loop.example/g03208/laws.FnExactLowerPiece", spec := "fnExactLowerPiece", plainKeys := false, apart := false }
def FnExactLowerPieceSaid : Prop := fnExactLowerPieceRow.holds Try.pinned (OpenSpec.ofChange fnExactLowerPieceSpec)

/-- ITS FALSE NEIGHBOUR: 'it returns false'. Refute it at one input. -/
def fnExactLowerPieceWrong : ChangeSpec := { name := "fnExactLowerPiece", fn := fun _ => fun
  | [d1, d2, d3] => { results := [.lit (.bool false)], args := [d1, d2, d3] }
  | _ => none }
def FnExactLowerPieceWrongFalsely : Prop := fnExactLowerPieceRow.holds Try.pinned (OpenSpec.ofChange fnExactLowerPieceWrong)

/-- 'laws.FnExactMovedUpper': WHATEVER THE INPUT: true; the input reads as it did. -/
def fnExactMovedUpperSpec : ChangeSpec := { name := "fnExactMovedUpper", fn := fun _ => fun
  | [d1, d2, d3] => { results := [.lit (.bool true)], args := [d1, d2, d3] }
  | _ => none }
def fnExactMovedUpperRow : OpenClaim := { program := "ytngplifolfnnnab", sum := "eaf29e5739d5e48b8e600b1651458b2b2f85d2f3c7ac59bbeb61fd5cbb4ca3ed", func := "loop.example/g03208/laws.FnExactMovedUpper", spec := "fnExactMovedUpper", plainKeys := false, apart := false }
def FnExactMovedUpperSaid : Prop := fnExactMovedUpperRow.holds Try.pinned (OpenSpec.ofChange fnExactMovedUpperSpec)

/-- ITS FALSE NEIGHBOUR: 'it returns false'. Refute it at one input. -/
def fnExactMovedUpperWrong : ChangeSpec := { name := "fnExactMovedUpper", fn := fun _ => fun
  | [d1, d2, d3] => { results := [.lit (.bool false)], args := [d1, d2, d3] }
  | _ => none }
def FnExactMovedUpperWrongFalsely : Prop := fnExactMovedUpperRow.holds Try.pinned (OpenSpec.ofChange fnExactMovedUpperWrong)

/- THE SECOND FORM. 'bulk': how many values and letters a reading holds, each counted each time it is reached (what is shared counts as often as it is met; a slice's spare places count too). A statement '..UptoSaid' is the law's where the arguments, and the package variables that the reading takes, are together of bulk at most 1048576: NARROWER than '..Said'. Prove '..Said' where nothing that the law and all that it calls make is longer than what came in: it says more and counts as full. Else prove '..UptoSaid'. A law counts once. -/
mutual
def uptoBulk {H : Type} : DataW H → Nat
  | .lit (.string bytes) => bytes.length + 1
  | .lit _ => 1
  | .nil => 1
  | .ptr d => uptoBulk d + 1
  | .slice elems spare => uptoBulkAll elems + uptoBulkAll spare + 1
  | .agg parts => uptoBulkAll parts + 1
  | .iface _ d => uptoBulk d + 1
  | .map entries => uptoBulkEntries entries + 1
  | .held _ => 1
def uptoBulkAll {H : Type} : List (DataW H) → Nat
  | [] => 0
  | d :: r => uptoBulk d + uptoBulkAll r
def uptoBulkEntries {H : Type} : List (Lit × DataW H) → Nat
  | [] => 0
  | x :: r => uptoBulkEntry x + uptoBulkEntries r
def uptoBulkEntry {H : Type} : Lit × DataW H → Nat
  | (.string bytes, d) => bytes.length + uptoBulk d + 1
  | (_, d) => uptoBulk d + 1
 end
def uptoSmall : (H : Type) → List (DataW H) → Bool := fun _ ds => decide (uptoBulkAll ds ≤ 1048576)
def OpenSpec.upto (s : _root_.Go.ChangeSpec) : _root_.Go.OpenSpec := { _root_.Go.OpenSpec.ofChange s with cond := some uptoSmall }

/-- 'laws.FnExactGreedySquares', WHERE WHAT IT READS IS OF BULK AT MOST 1048576: true; the input reads as it did. -/
def fnExactGreedySquaresUptoRow : OpenClaim := { program := "ytngplifolfnnnab", sum := "eaf29e5739d5e48b8e600b1651458b2b2f85d2f3c7ac59bbeb61fd5cbb4ca3ed", func := "loop.example/g03208/laws.FnExactGreedySquares", spec := "fnExactGreedySquares", plainKeys := false, apart := false, narrowed := true }
def FnExactGreedySquaresUptoSaid : Prop := fnExactGreedySquaresUptoRow.holds Try.pinned (OpenSpec.upto fnExactGreedySquaresSpec)

/-- 'laws.FnExactUpperPiece', WHERE WHAT IT READS IS OF BULK AT MOST 1048576: true; the input reads as it did. -/
def fnExactUpperPieceUptoRow : OpenClaim := { program := "ytngplifolfnnnab", sum := "eaf29e5739d5e48b8e600b1651458b2b2f85d2f3c7ac59bbeb61fd5cbb4ca3ed", func := "loop.example/g03208/laws.FnExactUpperPiece", spec := "fnExactUpperPiece", plainKeys := false, apart := false, narrowed := true }
def FnExactUpperPieceUptoSaid : Prop := fnExactUpperPieceUptoRow.holds Try.pinned (OpenSpec.upto fnExactUpperPieceSpec)

/-- 'laws.FnExactChainOfSteps', WHERE WHAT IT READS IS OF BULK AT MOST 1048576: true; the input reads as it did. -/
def fnExactChainOfStepsUptoRow : OpenClaim := { program := "ytngplifolfnnnab", sum := "eaf29e5739d5e48b8e600b1651458b2b2f85d2f3c7ac59bbeb61fd5cbb4ca3ed", func := "loop.example/g03208/laws.FnExactChainOfSteps", spec := "fnExactChainOfSteps", plainKeys := false, apart := false, narrowed := true }
def FnExactChainOfStepsUptoSaid : Prop := fnExactChainOfStepsUptoRow.holds Try.pinned (OpenSpec.upto fnExactChainOfStepsSpec)

/-- 'laws.FnExactQuotientsOf', WHERE WHAT IT READS IS OF BULK AT MOST 1048576: true; the input reads as it did. -/
def fnExactQuotientsOfUptoRow : OpenClaim := { program := "ytngplifolfnnnab", sum := "eaf29e5739d5e48b8e600b1651458b2b2f85d2f3c7ac59bbeb61fd5cbb4ca3ed", func := "loop.example/g03208/laws.FnExactQuotientsOf", spec := "fnExactQuotientsOf", plainKeys := false, apart := false, narrowed := true }
def FnExactQuotientsOfUptoSaid : Prop := fnExactQuotientsOfUptoRow.holds Try.pinned (OpenSpec.upto fnExactQuotientsOfSpec)

/-- 'laws.FnExactLowerPiece', WHERE WHAT IT READS IS OF BULK AT MOST 1048576: true; the input reads as it did. -/
def fnExactLowerPieceUptoRow : OpenClaim := { program := "ytngplifolfnnnab", sum := "eaf29e5739d5e48b8e600b1651458b2b2f85d2f3c7ac59bbeb61fd5cbb4ca3ed", func := "loop.example/g03208/laws.FnExactLowerPiece", spec := "fnExactLowerPiece", plainKeys := false, apart := false, narrowed := true }
def FnExactLowerPieceUptoSaid : Prop := fnExactLowerPieceUptoRow.holds Try.pinned (OpenSpec.upto fnExactLowerPieceSpec)

/-- 'laws.FnExactMovedUpper', WHERE WHAT IT READS IS OF BULK AT MOST 1048576: true; the input reads as it did. -/
def fnExactMovedUpperUptoRow : OpenClaim := { program := "ytngplifolfnnnab", sum := "eaf29e5739d5e48b8e600b1651458b2b2f85d2f3c7ac59bbeb61fd5cbb4ca3ed", func := "loop.example/g03208/laws.FnExactMovedUpper", spec := "fnExactMovedUpper", plainKeys := false, apart := false, narrowed := true }
def FnExactMovedUpperUptoSaid : Prop := fnExactMovedUpperUptoRow.holds Try.pinned (OpenSpec.upto fnExactMovedUpperSpec)

end Rows
end Go.Proofs.Ytngplifolfnnnab
