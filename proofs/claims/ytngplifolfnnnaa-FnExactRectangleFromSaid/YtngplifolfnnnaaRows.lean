/-
  No cell of these rows narrows 'for every input' (looked for: loops, veiled, ifaces, maps, wideKeys, modest, calm, conditions, laid).
  DERIVED. THE GIVEN ROWS OF THIS SEAT. 6 by the template 'for every input the law returns true; each argument reads behind the call as it read before'; 0 by the template 'total and deterministic' (their statements: YtngplifolfnnnaaTotals.lean).
  GIVEN WITH THE SEED: the statements are not yours to turn. If you find one false, say at which input.
  Laid BY PROGRAM, IN A SANDBOX (cutbox-rows.mjs): the forced cells as the released guide's own fill.sh prints them over the translation 5958c87f6b2dc800… (all of the seat's roots in one cut). By AI agents, Wed Nov 11 2026. No macro, syntax, notation, axiom, sorry.
-/
import Derived.Test.YtngplifolfnnnaaChecked
import GoSem.Claim
import GoSem.ClaimJoined
import GoSem.ClaimMapViews
import Derived.JoinedTies
import Derived.KernelRfl
namespace Go.Proofs.Ytngplifolfnnnaa
/- THE CELL 'sum', in the pinned program and in every row, IS THE sha256 OF THE DUMP (.gsa) THAT YtngplifolfnnnaaProg.lean LOADS. Nothing in Lean hashes anything: it is a label: what it is worth is what the hold of that sum in a sandbox is worth. -/
noncomputable def Try.pinned : Pinned := { name := "ytngplifolfnnnaa", sum := "5958c87f6b2dc8000e3b61861e8cf72f67b12c083bdbcf89eb682c6dd92d316b", checked := Try.checked }
namespace Rows
def none {H : Type} : Left H := { results := [], args := [] }

/-- 'laws.FnExactStepsOk': WHATEVER THE INPUT: true; the input reads as it did. -/
def fnExactStepsOkSpec : ChangeSpec := { name := "fnExactStepsOk", fn := fun _ => fun
  | [d1, d2, d3] => { results := [.lit (.bool true)], args := [d1, d2, d3] }
  | _ => none }
def fnExactStepsOkRow : OpenClaim := { program := "ytngplifolfnnnaa", sum := "5958c87f6b2dc8000e3b61861e8cf72f67b12c083bdbcf89eb682c6dd92d316b", func := "loop.example/g03208/laws.FnExactStepsOk", spec := "fnExactStepsOk", apart := false }
def FnExactStepsOkSaid : Prop := fnExactStepsOkRow.holds Try.pinned (OpenSpec.ofChange fnExactStepsOkSpec)

/-- ITS FALSE NEIGHBOUR: 'it returns false'. Refute it at one input. -/
def fnExactStepsOkWrong : ChangeSpec := { name := "fnExactStepsOk", fn := fun _ => fun
  | [d1, d2, d3] => { results := [.lit (.bool false)], args := [d1, d2, d3] }
  | _ => none }
def FnExactStepsOkWrongFalsely : Prop := fnExactStepsOkRow.holds Try.pinned (OpenSpec.ofChange fnExactStepsOkWrong)

/-- 'laws.FnExactStepsBetween': WHATEVER THE INPUT: true; the input reads as it did. -/
def fnExactStepsBetweenSpec : ChangeSpec := { name := "fnExactStepsBetween", fn := fun _ => fun
  | [d1, d2, d3, d4] => { results := [.lit (.bool true)], args := [d1, d2, d3, d4] }
  | _ => none }
def fnExactStepsBetweenRow : OpenClaim := { program := "ytngplifolfnnnaa", sum := "5958c87f6b2dc8000e3b61861e8cf72f67b12c083bdbcf89eb682c6dd92d316b", func := "loop.example/g03208/laws.FnExactStepsBetween", spec := "fnExactStepsBetween", apart := false }
def FnExactStepsBetweenSaid : Prop := fnExactStepsBetweenRow.holds Try.pinned (OpenSpec.ofChange fnExactStepsBetweenSpec)

/-- ITS FALSE NEIGHBOUR: 'it returns false'. Refute it at one input. -/
def fnExactStepsBetweenWrong : ChangeSpec := { name := "fnExactStepsBetween", fn := fun _ => fun
  | [d1, d2, d3, d4] => { results := [.lit (.bool false)], args := [d1, d2, d3, d4] }
  | _ => none }
def FnExactStepsBetweenWrongFalsely : Prop := fnExactStepsBetweenRow.holds Try.pinned (OpenSpec.ofChange fnExactStepsBetweenWrong)

/-- 'laws.FnExactSumOfSquares': WHATEVER THE INPUT: true; the input reads as it did. -/
def fnExactSumOfSquaresSpec : ChangeSpec := { name := "fnExactSumOfSquares", fn := fun _ => fun
  | [d] => { results := [.lit (.bool true)], args := [d] }
  | _ => none }
def fnExactSumOfSquaresRow : OpenClaim := { program := "ytngplifolfnnnaa", sum := "5958c87f6b2dc8000e3b61861e8cf72f67b12c083bdbcf89eb682c6dd92d316b", func := "loop.example/g03208/laws.FnExactSumOfSquares", spec := "fnExactSumOfSquares", apart := false }
def FnExactSumOfSquaresSaid : Prop := fnExactSumOfSquaresRow.holds Try.pinned (OpenSpec.ofChange fnExactSumOfSquaresSpec)

/-- ITS FALSE NEIGHBOUR: 'it returns false'. Refute it at one input. -/
def fnExactSumOfSquaresWrong : ChangeSpec := { name := "fnExactSumOfSquares", fn := fun _ => fun
  | [d] => { results := [.lit (.bool false)], args := [d] }
  | _ => none }
def FnExactSumOfSquaresWrongFalsely : Prop := fnExactSumOfSquaresRow.holds Try.pinned (OpenSpec.ofChange fnExactSumOfSquaresWrong)

/-- 'laws.FnExactFewestSquares': WHATEVER THE INPUT: true; the input reads as it did. -/
def fnExactFewestSquaresSpec : ChangeSpec := { name := "fnExactFewestSquares", fn := fun _ => fun
  | [d1, d2] => { results := [.lit (.bool true)], args := [d1, d2] }
  | _ => none }
def fnExactFewestSquaresRow : OpenClaim := { program := "ytngplifolfnnnaa", sum := "5958c87f6b2dc8000e3b61861e8cf72f67b12c083bdbcf89eb682c6dd92d316b", func := "loop.example/g03208/laws.FnExactFewestSquares", spec := "fnExactFewestSquares", apart := false }
def FnExactFewestSquaresSaid : Prop := fnExactFewestSquaresRow.holds Try.pinned (OpenSpec.ofChange fnExactFewestSquaresSpec)

/-- ITS FALSE NEIGHBOUR: 'it returns false'. Refute it at one input. -/
def fnExactFewestSquaresWrong : ChangeSpec := { name := "fnExactFewestSquares", fn := fun _ => fun
  | [d1, d2] => { results := [.lit (.bool false)], args := [d1, d2] }
  | _ => none }
def FnExactFewestSquaresWrongFalsely : Prop := fnExactFewestSquaresRow.holds Try.pinned (OpenSpec.ofChange fnExactFewestSquaresWrong)

/-- 'laws.FnExactRectangleOf': WHATEVER THE INPUT: true; the input reads as it did. -/
def fnExactRectangleOfSpec : ChangeSpec := { name := "fnExactRectangleOf", fn := fun _ => fun
  | [d1, d2] => { results := [.lit (.bool true)], args := [d1, d2] }
  | _ => none }
def fnExactRectangleOfRow : OpenClaim := { program := "ytngplifolfnnnaa", sum := "5958c87f6b2dc8000e3b61861e8cf72f67b12c083bdbcf89eb682c6dd92d316b", func := "loop.example/g03208/laws.FnExactRectangleOf", spec := "fnExactRectangleOf", apart := false }
def FnExactRectangleOfSaid : Prop := fnExactRectangleOfRow.holds Try.pinned (OpenSpec.ofChange fnExactRectangleOfSpec)

/-- ITS FALSE NEIGHBOUR: 'it returns false'. Refute it at one input. -/
def fnExactRectangleOfWrong : ChangeSpec := { name := "fnExactRectangleOf", fn := fun _ => fun
  | [d1, d2] => { results := [.lit (.bool false)], args := [d1, d2] }
  | _ => none }
def FnExactRectangleOfWrongFalsely : Prop := fnExactRectangleOfRow.holds Try.pinned (OpenSpec.ofChange fnExactRectangleOfWrong)

/-- 'laws.FnExactRectangleFrom': WHATEVER THE INPUT: true; the input reads as it did. -/
def fnExactRectangleFromSpec : ChangeSpec := { name := "fnExactRectangleFrom", fn := fun _ => fun
  | [d1, d2] => { results := [.lit (.bool true)], args := [d1, d2] }
  | _ => none }
def fnExactRectangleFromRow : OpenClaim := { program := "ytngplifolfnnnaa", sum := "5958c87f6b2dc8000e3b61861e8cf72f67b12c083bdbcf89eb682c6dd92d316b", func := "loop.example/g03208/laws.FnExactRectangleFrom", spec := "fnExactRectangleFrom", apart := false }
def FnExactRectangleFromSaid : Prop := fnExactRectangleFromRow.holds Try.pinned (OpenSpec.ofChange fnExactRectangleFromSpec)

/-- ITS FALSE NEIGHBOUR: 'it returns false'. Refute it at one input. -/
def fnExactRectangleFromWrong : ChangeSpec := { name := "fnExactRectangleFrom", fn := fun _ => fun
  | [d1, d2] => { results := [.lit (.bool false)], args := [d1, d2] }
  | _ => none }
def FnExactRectangleFromWrongFalsely : Prop := fnExactRectangleFromRow.holds Try.pinned (OpenSpec.ofChange fnExactRectangleFromWrong)

/- THE SECOND FORM. 'bulk': how many values and letters a reading holds, each counted each time it is reached (what is shared counts as often as it is met; a slice's spare places count too). A statement '..UptoSaid' is the law's where the arguments, and the package variables that the reading takes, are together of bulk at most 1048576: NARROWER than '..Said'. Prove '..Said' where nothing that the law and all that it calls make is longer than what came in: it says more and counts as full. Else prove '..UptoSaid'. A law counts once. -/
mutual
def uptoBulk {H : Type} : DataW H → Nat
  | .lit (.string bytes) => bytes.length + 1
  | .lit _ => 1
  | .nil => 1
  | .ptr d => uptoBulk d + 1
  | .slice elems spare => uptoBulkAll elems + uptoBulkAll spare + 1
  | .agg parts => uptoBulkAll parts + 1
  | .iface _ d => uptoBulk d + 1
  | .map entries => uptoBulkEntries entries + 1
  | .held _ => 1
def uptoBulkAll {H : Type} : List (DataW H) → Nat
  | [] => 0
  | d :: r => uptoBulk d + uptoBulkAll r
def uptoBulkEntries {H : Type} : List (Lit × DataW H) → Nat
  | [] => 0
  | x :: r => uptoBulkEntry x + uptoBulkEntries r
def uptoBulkEntry {H : Type} : Lit × DataW H → Nat
  | (.string bytes, d) => bytes.length + uptoBulk d + 1
  | (_, d) => uptoBulk d + 1
 end
def uptoSmall : (H : Type) → List (DataW H) → Bool := fun _ ds => decide (uptoBulkAll ds ≤ 1048576)
def OpenSpec.upto (s : _root_.Go.ChangeSpec) : _root_.Go.OpenSpec := { _root_.Go.OpenSpec.ofChange s with cond := some uptoSmall }

/-- 'laws.FnExactStepsOk', WHERE WHAT IT READS IS OF BULK AT MOST 1048576: true; the input reads as it did. -/
def fnExactStepsOkUptoRow : OpenClaim := { program := "ytngplifolfnnnaa", sum := "5958c87f6b2dc8000e3b61861e8cf72f67b12c083bdbcf89eb682c6dd92d316b", func := "loop.example/g03208/laws.FnExactStepsOk", spec := "fnExactStepsOk", apart := false, narrowed := true }
def FnExactStepsOkUptoSaid : Prop := fnExactStepsOkUptoRow.holds Try.pinned (OpenSpec.upto fnExactStepsOkSpec)

/-- 'laws.FnExactStepsBetween', WHERE WHAT IT READS IS OF BULK AT MOST 1048576: true; the input reads as it did. -/
def fnExactStepsBetweenUptoRow : OpenClaim := { program := "ytngplifolfnnnaa", sum := "5958c87f6b2dc8000e3b61861e8cf72f67b12c083bdbcf89eb682c6dd92d316b", func := "loop.example/g03208/laws.FnExactStepsBetween", spec := "fnExactStepsBetween", apart := false, narrowed := true }
def FnExactStepsBetweenUptoSaid : Prop := fnExactStepsBetweenUptoRow.holds Try.pinned (OpenSpec.upto fnExactStepsBetweenSpec)

/-- 'laws.FnExactSumOfSquares', WHERE WHAT IT READS IS OF BULK AT MOST 1048576: true; the input reads as it did. -/
def fnExactSumOfSquaresUptoRow : OpenClaim := { program := "ytngplifolfnnnaa", sum := "5958c87f6b2dc8000e3b61861e8cf72f67b12c083bdbcf89eb682c6dd92d316b", func := "loop.example/g03208/laws.FnExactSumOfSquares", spec := "fnExactSumOfSquares", apart := false, narrowed := true }
def FnExactSumOfSquaresUptoSaid : Prop := fnExactSumOfSquaresUptoRow.holds Try.pinned (OpenSpec.upto fnExactSumOfSquaresSpec)

/-- 'laws.FnExactFewestSquares', WHERE WHAT IT READS IS OF BULK AT MOST 1048576: true; the input reads as it did. -/
def fnExactFewestSquaresUptoRow : OpenClaim := { program := "ytngplifolfnnnaa", sum := "5958c87f6b2dc8000e3b61861e8cf72f67b12c083bdbcf89eb682c6dd92d316b", func := "loop.example/g03208/laws.FnExactFewestSquares", spec := "fnExactFewestSquares", apart := false, narrowed := true }
def FnExactFewestSquaresUptoSaid : Prop := fnExactFewestSquaresUptoRow.holds Try.pinned (OpenSpec.upto fnExactFewestSquaresSpec)

/-- 'laws.FnExactRectangleOf', WHERE WHAT IT READS IS OF BULK AT MOST 1048576: true; the input reads as it did. -/
def fnExactRectangleOfUptoRow : OpenClaim := { program := "ytngplifolfnnnaa", sum := "5958c87f6b2dc8000e3b61861e8cf72f67b12c083bdbcf89eb682c6dd92d316b", func := "loop.example/g03208/laws.FnExactRectangleOf", spec := "fnExactRectangleOf", apart := false, narrowed := true }
def FnExactRectangleOfUptoSaid : Prop := fnExactRectangleOfUptoRow.holds Try.pinned (OpenSpec.upto fnExactRectangleOfSpec)

/-- 'laws.FnExactRectangleFrom', WHERE WHAT IT READS IS OF BULK AT MOST 1048576: true; the input reads as it did. -/
def fnExactRectangleFromUptoRow : OpenClaim := { program := "ytngplifolfnnnaa", sum := "5958c87f6b2dc8000e3b61861e8cf72f67b12c083bdbcf89eb682c6dd92d316b", func := "loop.example/g03208/laws.FnExactRectangleFrom", spec := "fnExactRectangleFrom", apart := false, narrowed := true }
def FnExactRectangleFromUptoSaid : Prop := fnExactRectangleFromUptoRow.holds Try.pinned (OpenSpec.upto fnExactRectangleFromSpec)

end Rows
end Go.Proofs.Ytngplifolfnnnaa
