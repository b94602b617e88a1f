/-
  No cell of these rows narrows 'for every input' (looked for: loops, veiled, ifaces, maps, wideKeys, modest, calm, conditions, laid).
  DERIVED. THE GIVEN ROWS OF THIS SEAT. 6 by the template 'for every input the law returns true; each argument reads behind the call as it read before'; 0 by the template 'total and deterministic' (their statements: YtkhaaaoefcgecaaTotals.lean).
  GIVEN WITH THE SEED: the statements are not yours to turn. If you find one false, say at which input.
  Laid BY PROGRAM, IN A SANDBOX (cutbox-rows.mjs): the forced cells as the released guide's own fill.sh prints them over the translation 0a7dd27d55c88557… (all of the seat's roots in one cut). By AI agents, Wed Nov 11 2026. No macro, syntax, notation, axiom, sorry.
-/
import Derived.Test.YtkhaaaoefcgecaaChecked
import GoSem.Claim
import GoSem.ClaimJoined
import GoSem.ClaimMapViews
import Derived.JoinedTies
import Derived.KernelRfl
namespace Go.Proofs.Ytkhaaaoefcgecaa
/- THE CELL 'sum', in the pinned program and in every row, IS THE sha256 OF THE DUMP (.gsa) THAT YtkhaaaoefcgecaaProg.lean LOADS. Nothing in Lean hashes anything: it is a label: what it is worth is what the hold of that sum in a sandbox is worth. -/
noncomputable def Try.pinned : Pinned := { name := "ytkhaaaoefcgecaa", sum := "0a7dd27d55c8855734efcb8533ab62dfd322fdcd7604ae2da4034893f92bf376", checked := Try.checked }
namespace Rows
def none {H : Type} : Left H := { results := [], args := [] }

/-- 'laws.FnExactIsSquared': WHATEVER THE INPUT: true; the input reads as it did. -/
def fnExactIsSquaredSpec : ChangeSpec := { name := "fnExactIsSquared", fn := fun _ => fun
  | [d1, d2, d3] => { results := [.lit (.bool true)], args := [d1, d2, d3] }
  | _ => none }
def fnExactIsSquaredRow : OpenClaim := { program := "ytkhaaaoefcgecaa", sum := "0a7dd27d55c8855734efcb8533ab62dfd322fdcd7604ae2da4034893f92bf376", func := "loop.example/g03208/laws.FnExactIsSquared", spec := "fnExactIsSquared", apart := false }
def FnExactIsSquaredSaid : Prop := fnExactIsSquaredRow.holds Try.pinned (OpenSpec.ofChange fnExactIsSquaredSpec)

/-- ITS FALSE NEIGHBOUR: 'it returns false'. Refute it at one input. -/
def fnExactIsSquaredWrong : ChangeSpec := { name := "fnExactIsSquared", fn := fun _ => fun
  | [d1, d2, d3] => { results := [.lit (.bool false)], args := [d1, d2, d3] }
  | _ => none }
def FnExactIsSquaredWrongFalsely : Prop := fnExactIsSquaredRow.holds Try.pinned (OpenSpec.ofChange fnExactIsSquaredWrong)

/-- 'laws.FnExactCircuitOk': WHATEVER THE INPUT: true; the input reads as it did. -/
def fnExactCircuitOkSpec : ChangeSpec := { name := "fnExactCircuitOk", fn := fun _ => fun
  | [d1, d2] => { results := [.lit (.bool true)], args := [d1, d2] }
  | _ => none }
def fnExactCircuitOkRow : OpenClaim := { program := "ytkhaaaoefcgecaa", sum := "0a7dd27d55c8855734efcb8533ab62dfd322fdcd7604ae2da4034893f92bf376", func := "loop.example/g03208/laws.FnExactCircuitOk", spec := "fnExactCircuitOk", apart := false }
def FnExactCircuitOkSaid : Prop := fnExactCircuitOkRow.holds Try.pinned (OpenSpec.ofChange fnExactCircuitOkSpec)

/-- ITS FALSE NEIGHBOUR: 'it returns false'. Refute it at one input. -/
def fnExactCircuitOkWrong : ChangeSpec := { name := "fnExactCircuitOk", fn := fun _ => fun
  | [d1, d2] => { results := [.lit (.bool false)], args := [d1, d2] }
  | _ => none }
def FnExactCircuitOkWrongFalsely : Prop := fnExactCircuitOkRow.holds Try.pinned (OpenSpec.ofChange fnExactCircuitOkWrong)

/-- 'laws.FnExactCornersOf': WHATEVER THE INPUT: true; the input reads as it did. -/
def fnExactCornersOfSpec : ChangeSpec := { name := "fnExactCornersOf", fn := fun _ => fun
  | [d1, d2, d3] => { results := [.lit (.bool true)], args := [d1, d2, d3] }
  | _ => none }
def fnExactCornersOfRow : OpenClaim := { program := "ytkhaaaoefcgecaa", sum := "0a7dd27d55c8855734efcb8533ab62dfd322fdcd7604ae2da4034893f92bf376", func := "loop.example/g03208/laws.FnExactCornersOf", spec := "fnExactCornersOf", apart := false }
def FnExactCornersOfSaid : Prop := fnExactCornersOfRow.holds Try.pinned (OpenSpec.ofChange fnExactCornersOfSpec)

/-- ITS FALSE NEIGHBOUR: 'it returns false'. Refute it at one input. -/
def fnExactCornersOfWrong : ChangeSpec := { name := "fnExactCornersOf", fn := fun _ => fun
  | [d1, d2, d3] => { results := [.lit (.bool false)], args := [d1, d2, d3] }
  | _ => none }
def FnExactCornersOfWrongFalsely : Prop := fnExactCornersOfRow.holds Try.pinned (OpenSpec.ofChange fnExactCornersOfWrong)

/-- 'laws.FnExactIsPerfect': WHATEVER THE INPUT: true; the input reads as it did. -/
def fnExactIsPerfectSpec : ChangeSpec := { name := "fnExactIsPerfect", fn := fun _ => fun
  | [d1, d2, d3] => { results := [.lit (.bool true)], args := [d1, d2, d3] }
  | _ => none }
def fnExactIsPerfectRow : OpenClaim := { program := "ytkhaaaoefcgecaa", sum := "0a7dd27d55c8855734efcb8533ab62dfd322fdcd7604ae2da4034893f92bf376", func := "loop.example/g03208/laws.FnExactIsPerfect", spec := "fnExactIsPerfect", recurses := true, apart := false }
def FnExactIsPerfectSaid : Prop := fnExactIsPerfectRow.holds Try.pinned (OpenSpec.ofChange fnExactIsPerfectSpec)

/-- ITS FALSE NEIGHBOUR: 'it returns false'. Refute it at one input. -/
def fnExactIsPerfectWrong : ChangeSpec := { name := "fnExactIsPerfect", fn := fun _ => fun
  | [d1, d2, d3] => { results := [.lit (.bool false)], args := [d1, d2, d3] }
  | _ => none }
def FnExactIsPerfectWrongFalsely : Prop := fnExactIsPerfectRow.holds Try.pinned (OpenSpec.ofChange fnExactIsPerfectWrong)

/-- 'laws.FnExactSameRectangle': WHATEVER THE INPUT: true; the input reads as it did. -/
def fnExactSameRectangleSpec : ChangeSpec := { name := "fnExactSameRectangle", fn := fun _ => fun
  | [d1, d2, d3] => { results := [.lit (.bool true)], args := [d1, d2, d3] }
  | _ => none }
def fnExactSameRectangleRow : OpenClaim := { program := "ytkhaaaoefcgecaa", sum := "0a7dd27d55c8855734efcb8533ab62dfd322fdcd7604ae2da4034893f92bf376", func := "loop.example/g03208/laws.FnExactSameRectangle", spec := "fnExactSameRectangle", unfollowed := true, recurses := true, apart := false }
def FnExactSameRectangleSaid : Prop := fnExactSameRectangleRow.holds Try.pinned (OpenSpec.ofChange fnExactSameRectangleSpec)

/-- ITS FALSE NEIGHBOUR: 'it returns false'. Refute it at one input. -/
def fnExactSameRectangleWrong : ChangeSpec := { name := "fnExactSameRectangle", fn := fun _ => fun
  | [d1, d2, d3] => { results := [.lit (.bool false)], args := [d1, d2, d3] }
  | _ => none }
def FnExactSameRectangleWrongFalsely : Prop := fnExactSameRectangleRow.holds Try.pinned (OpenSpec.ofChange fnExactSameRectangleWrong)

/-- 'laws.FnGreedy': WHATEVER THE INPUT: true; the input reads as it did. -/
def fnGreedySpec : ChangeSpec := { name := "fnGreedy", fn := fun _ => fun
  | [d] => { results := [.lit (.bool true)], args := [d] }
  | _ => none }
def fnGreedyRow : OpenClaim := { program := "ytkhaaaoefcgecaa", sum := "0a7dd27d55c8855734efcb8533ab62dfd322fdcd7604ae2da4034893f92bf376", func := "loop.example/g03208/laws.FnGreedy", spec := "fnGreedy", recurses := true, apart := false }
def FnGreedySaid : Prop := fnGreedyRow.holds Try.pinned (OpenSpec.ofChange fnGreedySpec)

/-- ITS FALSE NEIGHBOUR: 'it returns false'. Refute it at one input. -/
def fnGreedyWrong : ChangeSpec := { name := "fnGreedy", fn := fun _ => fun
  | [d] => { results := [.lit (.bool false)], args := [d] }
  | _ => none }
def FnGreedyWrongFalsely : Prop := fnGreedyRow.holds Try.pinned (OpenSpec.ofChange fnGreedyWrong)

/- THE SECOND FORM. 'bulk': how many values and letters a reading holds, each counted each time it is reached (what is shared counts as often as it is met; a slice's spare places count too). A statement '..UptoSaid' is the law's where the arguments, and the package variables that the reading takes, are together of bulk at most 1048576: NARROWER than '..Said'. Prove '..Said' where nothing that the law and all that it calls make is longer than what came in: it says more and counts as full. Else prove '..UptoSaid'. A law counts once. -/
mutual
def uptoBulk {H : Type} : DataW H → Nat
  | .lit (.string bytes) => bytes.length + 1
  | .lit _ => 1
  | .nil => 1
  | .ptr d => uptoBulk d + 1
  | .slice elems spare => uptoBulkAll elems + uptoBulkAll spare + 1
  | .agg parts => uptoBulkAll parts + 1
  | .iface _ d => uptoBulk d + 1
  | .map entries => uptoBulkEntries entries + 1
  | .held _ => 1
def uptoBulkAll {H : Type} : List (DataW H) → Nat
  | [] => 0
  | d :: r => uptoBulk d + uptoBulkAll r
def uptoBulkEntries {H : Type} : List (Lit × DataW H) → Nat
  | [] => 0
  | x :: r => uptoBulkEntry x + uptoBulkEntries r
def uptoBulkEntry {H : Type} : Lit × DataW H → Nat
  | (.string bytes, d) => bytes.length + uptoBulk d + 1
  | (_, d) => uptoBulk d + 1
 end
def uptoSmall : (H : Type) → List (DataW H) → Bool := fun _ ds => decide (uptoBulkAll ds ≤ 1048576)
def OpenSpec.upto (s : _root_.Go.ChangeSpec) : _root_.Go.OpenSpec := { _root_.Go.OpenSpec.ofChange s with cond := some uptoSmall }

/-- 'laws.FnExactIsSquared', WHERE WHAT IT READS IS OF BULK AT MOST 1048576: true; the input reads as it did. -/
def fnExactIsSquaredUptoRow : OpenClaim := { program := "ytkhaaaoefcgecaa", sum := "0a7dd27d55c8855734efcb8533ab62dfd322fdcd7604ae2da4034893f92bf376", func := "loop.example/g03208/laws.FnExactIsSquared", spec := "fnExactIsSquared", apart := false, narrowed := true }
def FnExactIsSquaredUptoSaid : Prop := fnExactIsSquaredUptoRow.holds Try.pinned (OpenSpec.upto fnExactIsSquaredSpec)

/-- 'laws.FnExactCircuitOk', WHERE WHAT IT READS IS OF BULK AT MOST 1048576: true; the input reads as it did. -/
def fnExactCircuitOkUptoRow : OpenClaim := { program := "ytkhaaaoefcgecaa", sum := "0a7dd27d55c8855734efcb8533ab62dfd322fdcd7604ae2da4034893f92bf376", func := "loop.example/g03208/laws.FnExactCircuitOk", spec := "fnExactCircuitOk", apart := false, narrowed := true }
def FnExactCircuitOkUptoSaid : Prop := fnExactCircuitOkUptoRow.holds Try.pinned (OpenSpec.upto fnExactCircuitOkSpec)

/-- 'laws.FnExactCornersOf', WHERE WHAT IT READS IS OF BULK AT MOST 1048576: true; the input reads as it did. -/
def fnExactCornersOfUptoRow : OpenClaim := { program := "ytkhaaaoefcgecaa", sum := "0a7dd27d55c8855734efcb8533ab62dfd322fdcd7604ae2da4034893f92bf376", func := "loop.example/g03208/laws.FnExactCornersOf", spec := "fnExactCornersOf", apart := false, narrowed := true }
def FnExactCornersOfUptoSaid : Prop := fnExactCornersOfUptoRow.holds Try.pinned (OpenSpec.upto fnExactCornersOfSpec)

/-- 'laws.FnExactIsPerfect', WHERE WHAT IT READS IS OF BULK AT MOST 1048576: true; the input reads as it did. -/
def fnExactIsPerfectUptoRow : OpenClaim := { program := "ytkhaaaoefcgecaa", sum := "0a7dd27d55c8855734efcb8533ab62dfd322fdcd7604ae2da4034893f92bf376", func := "loop.example/g03208/laws.FnExactIsPerfect", spec := "fnExactIsPerfect", recurses := true, apart := false, narrowed := true }
def FnExactIsPerfectUptoSaid : Prop := fnExactIsPerfectUptoRow.holds Try.pinned (OpenSpec.upto fnExactIsPerfectSpec)

/-- 'laws.FnExactSameRectangle', WHERE WHAT IT READS IS OF BULK AT MOST 1048576: true; the input reads as it did. -/
def fnExactSameRectangleUptoRow : OpenClaim := { program := "ytkhaaaoefcgecaa", sum := "0a7dd27d55c8855734efcb8533ab62dfd322fdcd7604ae2da4034893f92bf376", func := "loop.example/g03208/laws.FnExactSameRectangle", spec := "fnExactSameRectangle", unfollowed := true, recurses := true, apart := false, narrowed := true }
def FnExactSameRectangleUptoSaid : Prop := fnExactSameRectangleUptoRow.holds Try.pinned (OpenSpec.upto fnExactSameRectangleSpec)

/-- 'laws.FnGreedy', WHERE WHAT IT READS IS OF BULK AT MOST 1048576: true; the input reads as it did. -/
def fnGreedyUptoRow : OpenClaim := { program := "ytkhaaaoefcgecaa", sum := "0a7dd27d55c8855734efcb8533ab62dfd322fdcd7604ae2da4034893f92bf376", func := "loop.example/g03208/laws.FnGreedy", spec := "fnGreedy", recurses := true, apart := false, narrowed := true }
def FnGreedyUptoSaid : Prop := fnGreedyUptoRow.holds Try.pinned (OpenSpec.upto fnGreedySpec)

end Rows
end Go.Proofs.Ytkhaaaoefcgecaa
