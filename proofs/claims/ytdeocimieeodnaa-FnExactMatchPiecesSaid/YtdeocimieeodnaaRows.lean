/-
  No cell of these rows narrows 'for every input' (looked for: loops, veiled, ifaces, maps, wideKeys, modest, calm, conditions, laid).
  DERIVED. THE GIVEN ROWS OF THIS SEAT. 9 by the template 'for every input the law returns true; each argument reads behind the call as it read before'; 0 by the template 'total and deterministic' (their statements: YtdeocimieeodnaaTotals.lean).
  GIVEN WITH THE SEED: the statements are not yours to turn. If you find one false, say at which input.
  Laid BY PROGRAM, IN A SANDBOX (cutbox-rows.mjs): the forced cells as the released guide's own fill.sh prints them over the translation 8c7b5a8940cd3777… (all of the seat's roots in one cut). By AI agents, Wed Nov 11 2026. No macro, syntax, notation, axiom, sorry.
-/
import Derived.Test.YtdeocimieeodnaaChecked
import GoSem.Claim
import GoSem.ClaimJoined
import GoSem.ClaimMapViews
import Derived.JoinedTies
import Derived.KernelRfl
namespace Go.Proofs.Ytdeocimieeodnaa
/- THE CELL 'sum', in the pinned program and in every row, IS THE sha256 OF THE DUMP (.gsa) THAT YtdeocimieeodnaaProg.lean LOADS. Nothing in Lean hashes anything: it is a label: what it is worth is what the hold of that sum in a sandbox is worth. -/
noncomputable def Try.pinned : Pinned := { name := "ytdeocimieeodnaa", sum := "8c7b5a8940cd3777125af4b96585dae66184c5e617ad2ebd2e88413c4f62307b", checked := Try.checked }
namespace Rows
def none {H : Type} : Left H := { results := [], args := [] }

/-- 'laws.FnExactShapeOk': WHATEVER THE INPUT: true; the input reads as it did. -/
def fnExactShapeOkSpec : ChangeSpec := { name := "fnExactShapeOk", fn := fun _ => fun
  | [d1, d2, d3] => { results := [.lit (.bool true)], args := [d1, d2, d3] }
  | _ => none }
def fnExactShapeOkRow : OpenClaim := { program := "ytdeocimieeodnaa", sum := "8c7b5a8940cd3777125af4b96585dae66184c5e617ad2ebd2e88413c4f62307b", func := "loop.example/g03208/laws.FnExactShapeOk", spec := "fnExactShapeOk", apart := false }
def FnExactShapeOkSaid : Prop := fnExactShapeOkRow.holds Try.pinned (OpenSpec.ofChange fnExactShapeOkSpec)

/-- ITS FALSE NEIGHBOUR: 'it returns false'. Refute it at one input. -/
def fnExactShapeOkWrong : ChangeSpec := { name := "fnExactShapeOk", fn := fun _ => fun
  | [d1, d2, d3] => { results := [.lit (.bool false)], args := [d1, d2, d3] }
  | _ => none }
def FnExactShapeOkWrongFalsely : Prop := fnExactShapeOkRow.holds Try.pinned (OpenSpec.ofChange fnExactShapeOkWrong)

/-- 'laws.FnExactCellCount': WHATEVER THE INPUT: true; the input reads as it did. -/
def fnExactCellCountSpec : ChangeSpec := { name := "fnExactCellCount", fn := fun _ => fun
  | [d1, d2, d3] => { results := [.lit (.bool true)], args := [d1, d2, d3] }
  | _ => none }
def fnExactCellCountRow : OpenClaim := { program := "ytdeocimieeodnaa", sum := "8c7b5a8940cd3777125af4b96585dae66184c5e617ad2ebd2e88413c4f62307b", func := "loop.example/g03208/laws.FnExactCellCount", spec := "fnExactCellCount", apart := false }
def FnExactCellCountSaid : Prop := fnExactCellCountRow.holds Try.pinned (OpenSpec.ofChange fnExactCellCountSpec)

/-- ITS FALSE NEIGHBOUR: 'it returns false'. Refute it at one input. -/
def fnExactCellCountWrong : ChangeSpec := { name := "fnExactCellCount", fn := fun _ => fun
  | [d1, d2, d3] => { results := [.lit (.bool false)], args := [d1, d2, d3] }
  | _ => none }
def FnExactCellCountWrongFalsely : Prop := fnExactCellCountRow.holds Try.pinned (OpenSpec.ofChange fnExactCellCountWrong)

/-- 'laws.FnExactRimOf': WHATEVER THE INPUT: true; the input reads as it did. -/
def fnExactRimOfSpec : ChangeSpec := { name := "fnExactRimOf", fn := fun _ => fun
  | [d1, d2, d3] => { results := [.lit (.bool true)], args := [d1, d2, d3] }
  | _ => none }
def fnExactRimOfRow : OpenClaim := { program := "ytdeocimieeodnaa", sum := "8c7b5a8940cd3777125af4b96585dae66184c5e617ad2ebd2e88413c4f62307b", func := "loop.example/g03208/laws.FnExactRimOf", spec := "fnExactRimOf", apart := false }
def FnExactRimOfSaid : Prop := fnExactRimOfRow.holds Try.pinned (OpenSpec.ofChange fnExactRimOfSpec)

/-- ITS FALSE NEIGHBOUR: 'it returns false'. Refute it at one input. -/
def fnExactRimOfWrong : ChangeSpec := { name := "fnExactRimOf", fn := fun _ => fun
  | [d1, d2, d3] => { results := [.lit (.bool false)], args := [d1, d2, d3] }
  | _ => none }
def FnExactRimOfWrongFalsely : Prop := fnExactRimOfRow.holds Try.pinned (OpenSpec.ofChange fnExactRimOfWrong)

/-- 'laws.FnExactCornerOf': WHATEVER THE INPUT: true; the input reads as it did. -/
def fnExactCornerOfSpec : ChangeSpec := { name := "fnExactCornerOf", fn := fun _ => fun
  | [d1, d2, d3] => { results := [.lit (.bool true)], args := [d1, d2, d3] }
  | _ => none }
def fnExactCornerOfRow : OpenClaim := { program := "ytdeocimieeodnaa", sum := "8c7b5a8940cd3777125af4b96585dae66184c5e617ad2ebd2e88413c4f62307b", func := "loop.example/g03208/laws.FnExactCornerOf", spec := "fnExactCornerOf", apart := false }
def FnExactCornerOfSaid : Prop := fnExactCornerOfRow.holds Try.pinned (OpenSpec.ofChange fnExactCornerOfSpec)

/-- ITS FALSE NEIGHBOUR: 'it returns false'. Refute it at one input. -/
def fnExactCornerOfWrong : ChangeSpec := { name := "fnExactCornerOf", fn := fun _ => fun
  | [d1, d2, d3] => { results := [.lit (.bool false)], args := [d1, d2, d3] }
  | _ => none }
def FnExactCornerOfWrongFalsely : Prop := fnExactCornerOfRow.holds Try.pinned (OpenSpec.ofChange fnExactCornerOfWrong)

/-- 'laws.FnExactMovedShape': WHATEVER THE INPUT: true; the input reads as it did. -/
def fnExactMovedShapeSpec : ChangeSpec := { name := "fnExactMovedShape", fn := fun _ => fun
  | [d1, d2, d3, d4] => { results := [.lit (.bool true)], args := [d1, d2, d3, d4] }
  | _ => none }
def fnExactMovedShapeRow : OpenClaim := { program := "ytdeocimieeodnaa", sum := "8c7b5a8940cd3777125af4b96585dae66184c5e617ad2ebd2e88413c4f62307b", func := "loop.example/g03208/laws.FnExactMovedShape", spec := "fnExactMovedShape", apart := false }
def FnExactMovedShapeSaid : Prop := fnExactMovedShapeRow.holds Try.pinned (OpenSpec.ofChange fnExactMovedShapeSpec)

/-- ITS FALSE NEIGHBOUR: 'it returns false'. Refute it at one input. -/
def fnExactMovedShapeWrong : ChangeSpec := { name := "fnExactMovedShape", fn := fun _ => fun
  | [d1, d2, d3, d4] => { results := [.lit (.bool false)], args := [d1, d2, d3, d4] }
  | _ => none }
def FnExactMovedShapeWrongFalsely : Prop := fnExactMovedShapeRow.holds Try.pinned (OpenSpec.ofChange fnExactMovedShapeWrong)

/-- 'laws.FnExactFormatShape': WHATEVER THE INPUT: true; the input reads as it did. -/
def fnExactFormatShapeSpec : ChangeSpec := { name := "fnExactFormatShape", fn := fun _ => fun
  | [d1, d2, d3] => { results := [.lit (.bool true)], args := [d1, d2, d3] }
  | _ => none }
def fnExactFormatShapeRow : OpenClaim := { program := "ytdeocimieeodnaa", sum := "8c7b5a8940cd3777125af4b96585dae66184c5e617ad2ebd2e88413c4f62307b", func := "loop.example/g03208/laws.FnExactFormatShape", spec := "fnExactFormatShape", inPlace := ["internal/abi.NoEscape", "internal/bytealg.MakeNoZero"], apart := false }
def FnExactFormatShapeSaid : Prop := fnExactFormatShapeRow.holds Try.pinned (OpenSpec.ofChange fnExactFormatShapeSpec)

/-- ITS FALSE NEIGHBOUR: 'it returns false'. Refute it at one input. -/
def fnExactFormatShapeWrong : ChangeSpec := { name := "fnExactFormatShape", fn := fun _ => fun
  | [d1, d2, d3] => { results := [.lit (.bool false)], args := [d1, d2, d3] }
  | _ => none }
def FnExactFormatShapeWrongFalsely : Prop := fnExactFormatShapeRow.holds Try.pinned (OpenSpec.ofChange fnExactFormatShapeWrong)

/-- 'laws.FnExactNameOfShape': WHATEVER THE INPUT: true; the input reads as it did. -/
def fnExactNameOfShapeSpec : ChangeSpec := { name := "fnExactNameOfShape", fn := fun _ => fun
  | [d1, d2, d3] => { results := [.lit (.bool true)], args := [d1, d2, d3] }
  | _ => none }
def fnExactNameOfShapeRow : OpenClaim := { program := "ytdeocimieeodnaa", sum := "8c7b5a8940cd3777125af4b96585dae66184c5e617ad2ebd2e88413c4f62307b", func := "loop.example/g03208/laws.FnExactNameOfShape", spec := "fnExactNameOfShape", apart := false }
def FnExactNameOfShapeSaid : Prop := fnExactNameOfShapeRow.holds Try.pinned (OpenSpec.ofChange fnExactNameOfShapeSpec)

/-- ITS FALSE NEIGHBOUR: 'it returns false'. Refute it at one input. -/
def fnExactNameOfShapeWrong : ChangeSpec := { name := "fnExactNameOfShape", fn := fun _ => fun
  | [d1, d2, d3] => { results := [.lit (.bool false)], args := [d1, d2, d3] }
  | _ => none }
def FnExactNameOfShapeWrongFalsely : Prop := fnExactNameOfShapeRow.holds Try.pinned (OpenSpec.ofChange fnExactNameOfShapeWrong)

/-- 'laws.FnExactSamePiece': WHATEVER THE INPUT: true; the input reads as it did. -/
def fnExactSamePieceSpec : ChangeSpec := { name := "fnExactSamePiece", fn := fun _ => fun
  | [d1, d2, d3, d4] => { results := [.lit (.bool true)], args := [d1, d2, d3, d4] }
  | _ => none }
def fnExactSamePieceRow : OpenClaim := { program := "ytdeocimieeodnaa", sum := "8c7b5a8940cd3777125af4b96585dae66184c5e617ad2ebd2e88413c4f62307b", func := "loop.example/g03208/laws.FnExactSamePiece", spec := "fnExactSamePiece", apart := false }
def FnExactSamePieceSaid : Prop := fnExactSamePieceRow.holds Try.pinned (OpenSpec.ofChange fnExactSamePieceSpec)

/-- ITS FALSE NEIGHBOUR: 'it returns false'. Refute it at one input. -/
def fnExactSamePieceWrong : ChangeSpec := { name := "fnExactSamePiece", fn := fun _ => fun
  | [d1, d2, d3, d4] => { results := [.lit (.bool false)], args := [d1, d2, d3, d4] }
  | _ => none }
def FnExactSamePieceWrongFalsely : Prop := fnExactSamePieceRow.holds Try.pinned (OpenSpec.ofChange fnExactSamePieceWrong)

/-- 'laws.FnExactMatchPieces': WHATEVER THE INPUT: true; the input reads as it did. -/
def fnExactMatchPiecesSpec : ChangeSpec := { name := "fnExactMatchPieces", fn := fun _ => fun
  | [d1, d2, d3, d4] => { results := [.lit (.bool true)], args := [d1, d2, d3, d4] }
  | _ => none }
def fnExactMatchPiecesRow : OpenClaim := { program := "ytdeocimieeodnaa", sum := "8c7b5a8940cd3777125af4b96585dae66184c5e617ad2ebd2e88413c4f62307b", func := "loop.example/g03208/laws.FnExactMatchPieces", spec := "fnExactMatchPieces", apart := false }
def FnExactMatchPiecesSaid : Prop := fnExactMatchPiecesRow.holds Try.pinned (OpenSpec.ofChange fnExactMatchPiecesSpec)

/-- ITS FALSE NEIGHBOUR: 'it returns false'. Refute it at one input. -/
def fnExactMatchPiecesWrong : ChangeSpec := { name := "fnExactMatchPieces", fn := fun _ => fun
  | [d1, d2, d3, d4] => { results := [.lit (.bool false)], args := [d1, d2, d3, d4] }
  | _ => none }
def FnExactMatchPiecesWrongFalsely : Prop := fnExactMatchPiecesRow.holds Try.pinned (OpenSpec.ofChange fnExactMatchPiecesWrong)

/- THE SECOND FORM. 'bulk': how many values and letters a reading holds, each counted each time it is reached (what is shared counts as often as it is met; a slice's spare places count too). A statement '..UptoSaid' is the law's where the arguments, and the package variables that the reading takes, are together of bulk at most 1048576: NARROWER than '..Said'. Prove '..Said' where nothing that the law and all that it calls make is longer than what came in: it says more and counts as full. Else prove '..UptoSaid'. A law counts once. -/
mutual
def uptoBulk {H : Type} : DataW H → Nat
  | .lit (.string bytes) => bytes.length + 1
  | .lit _ => 1
  | .nil => 1
  | .ptr d => uptoBulk d + 1
  | .slice elems spare => uptoBulkAll elems + uptoBulkAll spare + 1
  | .agg parts => uptoBulkAll parts + 1
  | .iface _ d => uptoBulk d + 1
  | .map entries => uptoBulkEntries entries + 1
  | .held _ => 1
def uptoBulkAll {H : Type} : List (DataW H) → Nat
  | [] => 0
  | d :: r => uptoBulk d + uptoBulkAll r
def uptoBulkEntries {H : Type} : List (Lit × DataW H) → Nat
  | [] => 0
  | x :: r => uptoBulkEntry x + uptoBulkEntries r
def uptoBulkEntry {H : Type} : Lit × DataW H → Nat
  | (.string bytes, d) => bytes.length + uptoBulk d + 1
  | (_, d) => uptoBulk d + 1
 end
def uptoSmall : (H : Type) → List (DataW H) → Bool := fun _ ds => decide (uptoBulkAll ds ≤ 1048576)
def OpenSpec.upto (s : _root_.Go.ChangeSpec) : _root_.Go.OpenSpec := { _root_.Go.OpenSpec.ofChange s with cond := some uptoSmall }

/-- 'laws.FnExactShapeOk', WHERE WHAT IT READS IS OF BULK AT MOST 1048576: true; the input reads as it did. -/
def fnExactShapeOkUptoRow : OpenClaim := { program := "ytdeocimieeodnaa", sum := "8c7b5a8940cd3777125af4b96585dae66184c5e617ad2ebd2e88413c4f62307b", func := "loop.example/g03208/laws.FnExactShapeOk", spec := "fnExactShapeOk", apart := false, narrowed := true }
def FnExactShapeOkUptoSaid : Prop := fnExactShapeOkUptoRow.holds Try.pinned (OpenSpec.upto fnExactShapeOkSpec)

/-- 'laws.FnExactCellCount', WHERE WHAT IT READS IS OF BULK AT MOST 1048576: true; the input reads as it did. -/
def fnExactCellCountUptoRow : OpenClaim := { program := "ytdeocimieeodnaa", sum := "8c7b5a8940cd3777125af4b96585dae66184c5e617ad2ebd2e88413c4f62307b", func := "loop.example/g03208/laws.FnExactCellCount", spec := "fnExactCellCount", apart := false, narrowed := true }
def FnExactCellCountUptoSaid : Prop := fnExactCellCountUptoRow.holds Try.pinned (OpenSpec.upto fnExactCellCountSpec)

/-- 'laws.FnExactRimOf', WHERE WHAT IT READS IS OF BULK AT MOST 1048576: true; the input reads as it did. -/
def fnExactRimOfUptoRow : OpenClaim := { program := "ytdeocimieeodnaa", sum := "8c7b5a8940cd3777125af4b96585dae66184c5e617ad2ebd2e88413c4f62307b", func := "loop.example/g03208/laws.FnExactRimOf", spec := "fnExactRimOf", apart := false, narrowed := true }
def FnExactRimOfUptoSaid : Prop := fnExactRimOfUptoRow.holds Try.pinned (OpenSpec.upto fnExactRimOfSpec)

/-- 'laws.FnExactCornerOf', WHERE WHAT IT READS IS OF BULK AT MOST 1048576: true; the input reads as it did. -/
def fnExactCornerOfUptoRow : OpenClaim := { program := "ytdeocimieeodnaa", sum := "8c7b5a8940cd3777125af4b96585dae66184c5e617ad2ebd2e88413c4f62307b", func := "loop.example/g03208/laws.FnExactCornerOf", spec := "fnExactCornerOf", apart := false, narrowed := true }
def FnExactCornerOfUptoSaid : Prop := fnExactCornerOfUptoRow.holds Try.pinned (OpenSpec.upto fnExactCornerOfSpec)

/-- 'laws.FnExactMovedShape', WHERE WHAT IT READS IS OF BULK AT MOST 1048576: true; the input reads as it did. -/
def fnExactMovedShapeUptoRow : OpenClaim := { program := "ytdeocimieeodnaa", sum := "8c7b5a8940cd3777125af4b96585dae66184c5e617ad2ebd2e88413c4f62307b", func := "loop.example/g03208/laws.FnExactMovedShape", spec := "fnExactMovedShape", apart := false, narrowed := true }
def FnExactMovedShapeUptoSaid : Prop := fnExactMovedShapeUptoRow.holds Try.pinned (OpenSpec.upto fnExactMovedShapeSpec)

/-- 'laws.FnExactFormatShape', WHERE WHAT IT READS IS OF BULK AT MOST 1048576: true; the input reads as it did. -/
def fnExactFormatShapeUptoRow : OpenClaim := { program := "ytdeocimieeodnaa", sum := "8c7b5a8940cd3777125af4b96585dae66184c5e617ad2ebd2e88413c4f62307b", func := "loop.example/g03208/laws.FnExactFormatShape", spec := "fnExactFormatShape", inPlace := ["internal/abi.NoEscape", "internal/bytealg.MakeNoZero"], apart := false, narrowed := true }
def FnExactFormatShapeUptoSaid : Prop := fnExactFormatShapeUptoRow.holds Try.pinned (OpenSpec.upto fnExactFormatShapeSpec)

/-- 'laws.FnExactNameOfShape', WHERE WHAT IT READS IS OF BULK AT MOST 1048576: true; the input reads as it did. -/
def fnExactNameOfShapeUptoRow : OpenClaim := { program := "ytdeocimieeodnaa", sum := "8c7b5a8940cd3777125af4b96585dae66184c5e617ad2ebd2e88413c4f62307b", func := "loop.example/g03208/laws.FnExactNameOfShape", spec := "fnExactNameOfShape", apart := false, narrowed := true }
def FnExactNameOfShapeUptoSaid : Prop := fnExactNameOfShapeUptoRow.holds Try.pinned (OpenSpec.upto fnExactNameOfShapeSpec)

/-- 'laws.FnExactSamePiece', WHERE WHAT IT READS IS OF BULK AT MOST 1048576: true; the input reads as it did. -/
def fnExactSamePieceUptoRow : OpenClaim := { program := "ytdeocimieeodnaa", sum := "8c7b5a8940cd3777125af4b96585dae66184c5e617ad2ebd2e88413c4f62307b", func := "loop.example/g03208/laws.FnExactSamePiece", spec := "fnExactSamePiece", apart := false, narrowed := true }
def FnExactSamePieceUptoSaid : Prop := fnExactSamePieceUptoRow.holds Try.pinned (OpenSpec.upto fnExactSamePieceSpec)

/-- 'laws.FnExactMatchPieces', WHERE WHAT IT READS IS OF BULK AT MOST 1048576: true; the input reads as it did. -/
def fnExactMatchPiecesUptoRow : OpenClaim := { program := "ytdeocimieeodnaa", sum := "8c7b5a8940cd3777125af4b96585dae66184c5e617ad2ebd2e88413c4f62307b", func := "loop.example/g03208/laws.FnExactMatchPieces", spec := "fnExactMatchPieces", apart := false, narrowed := true }
def FnExactMatchPiecesUptoSaid : Prop := fnExactMatchPiecesUptoRow.holds Try.pinned (OpenSpec.upto fnExactMatchPiecesSpec)

end Rows
end Go.Proofs.Ytdeocimieeodnaa
