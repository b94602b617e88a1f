/-
  No cell of these rows narrows 'for every input' (looked for: loops, veiled, ifaces, maps, wideKeys, modest, calm, conditions, laid).
  DERIVED. THE GIVEN ROWS OF THIS SEAT. 6 by the template 'for every input the law returns true; each argument reads behind the call as it read before'; 0 by the template 'total and deterministic' (their statements: YtadenfniiihifaaTotals.lean).
  GIVEN WITH THE SEED: the statements are not yours to turn. If you find one false, say at which input.
  Laid BY PROGRAM, IN A SANDBOX (cutbox-rows.mjs): the forced cells as the released guide's own fill.sh prints them over the translation 5637c3da4beab07d… (all of the seat's roots in one cut). By AI agents, Wed Nov 11 2026. No macro, syntax, notation, axiom, sorry.
-/
import Derived.Test.YtadenfniiihifaaChecked
import GoSem.Claim
import GoSem.ClaimJoined
import GoSem.ClaimMapViews
import Derived.JoinedTies
import Derived.KernelRfl
namespace Go.Proofs.Ytadenfniiihifaa
/- THE CELL 'sum', in the pinned program and in every row, IS THE sha256 OF THE DUMP (.gsa) THAT YtadenfniiihifaaProg.lean LOADS. Nothing in Lean hashes anything: it is a label: what it is worth is what the hold of that sum in a sandbox is worth. -/
noncomputable def Try.pinned : Pinned := { name := "ytadenfniiihifaa", sum := "5637c3da4beab07d88c076b1e61cb4495d74ab4bcc1f4a0cc08ec0f06e7a6b94", checked := Try.checked }
namespace Rows
def none {H : Type} : Left H := { results := [], args := [] }

/-- 'laws.FnExactSameRectangle': WHATEVER THE INPUT: true; the input reads as it did. -/
def fnExactSameRectangleSpec : ChangeSpec := { name := "fnExactSameRectangle", fn := fun _ => fun
  | [d1, d2, d3] => { results := [.lit (.bool true)], args := [d1, d2, d3] }
  | _ => none }
def fnExactSameRectangleRow : OpenClaim := { program := "ytadenfniiihifaa", sum := "5637c3da4beab07d88c076b1e61cb4495d74ab4bcc1f4a0cc08ec0f06e7a6b94", func := "loop.example/g03208/laws.FnExactSameRectangle", spec := "fnExactSameRectangle", unfollowed := true, recurses := true, plainKeys := false, apart := false }
def FnExactSameRectangleSaid : Prop := fnExactSameRectangleRow.holds Try.pinned (OpenSpec.ofChange fnExactSameRectangleSpec)

/-- ITS FALSE NEIGHBOUR: 'it returns false'. Refute it at one input. -/
def fnExactSameRectangleWrong : ChangeSpec := { name := "fnExactSameRectangle", fn := fun _ => fun
  | [d1, d2, d3] => { results := [.lit (.bool false)], args := [d1, d2, d3] }
  | _ => none }
def FnExactSameRectangleWrongFalsely : Prop := fnExactSameRectangleRow.holds Try.pinned (OpenSpec.ofChange fnExactSameRectangleWrong)

/-- 'laws.FnExactIsBalanced': WHATEVER THE INPUT: true; the input reads as it did. -/
def fnExactIsBalancedSpec : ChangeSpec := { name := "fnExactIsBalanced", fn := fun _ => fun
  | [d] => { results := [.lit (.bool true)], args := [d] }
  | _ => none }
def fnExactIsBalancedRow : OpenClaim := { program := "ytadenfniiihifaa", sum := "5637c3da4beab07d88c076b1e61cb4495d74ab4bcc1f4a0cc08ec0f06e7a6b94", func := "loop.example/g03208/laws.FnExactIsBalanced", spec := "fnExactIsBalanced", unfollowed := true, recurses := true, plainKeys := false, apart := false }
def FnExactIsBalancedSaid : Prop := fnExactIsBalancedRow.holds Try.pinned (OpenSpec.ofChange fnExactIsBalancedSpec)

/-- ITS FALSE NEIGHBOUR: 'it returns false'. Refute it at one input. -/
def fnExactIsBalancedWrong : ChangeSpec := { name := "fnExactIsBalanced", fn := fun _ => fun
  | [d] => { results := [.lit (.bool false)], args := [d] }
  | _ => none }
def FnExactIsBalancedWrongFalsely : Prop := fnExactIsBalancedRow.holds Try.pinned (OpenSpec.ofChange fnExactIsBalancedWrong)

/-- 'laws.FnExactMeasureFor': WHATEVER THE INPUT: true; the input reads as it did. -/
def fnExactMeasureForSpec : ChangeSpec := { name := "fnExactMeasureFor", fn := fun _ => fun
  | [d1, d2, d3] => { results := [.lit (.bool true)], args := [d1, d2, d3] }
  | _ => none }
def fnExactMeasureForRow : OpenClaim := { program := "ytadenfniiihifaa", sum := "5637c3da4beab07d88c076b1e61cb4495d74ab4bcc1f4a0cc08ec0f06e7a6b94", func := "loop.example/g03208/laws.FnExactMeasureFor", spec := "fnExactMeasureFor", unfollowed := true, recurses := true, plainKeys := false, apart := false }
def FnExactMeasureForSaid : Prop := fnExactMeasureForRow.holds Try.pinned (OpenSpec.ofChange fnExactMeasureForSpec)

/-- ITS FALSE NEIGHBOUR: 'it returns false'. Refute it at one input. -/
def fnExactMeasureForWrong : ChangeSpec := { name := "fnExactMeasureFor", fn := fun _ => fun
  | [d1, d2, d3] => { results := [.lit (.bool false)], args := [d1, d2, d3] }
  | _ => none }
def FnExactMeasureForWrongFalsely : Prop := fnExactMeasureForRow.holds Try.pinned (OpenSpec.ofChange fnExactMeasureForWrong)

/-- 'laws.FnExactSameMeasures': WHATEVER THE INPUT: true; the input reads as it did. -/
def fnExactSameMeasuresSpec : ChangeSpec := { name := "fnExactSameMeasures", fn := fun _ => fun
  | [d1, d2] => { results := [.lit (.bool true)], args := [d1, d2] }
  | _ => none }
def fnExactSameMeasuresRow : OpenClaim := { program := "ytadenfniiihifaa", sum := "5637c3da4beab07d88c076b1e61cb4495d74ab4bcc1f4a0cc08ec0f06e7a6b94", func := "loop.example/g03208/laws.FnExactSameMeasures", spec := "fnExactSameMeasures", unfollowed := true, recurses := true, plainKeys := false, apart := false }
def FnExactSameMeasuresSaid : Prop := fnExactSameMeasuresRow.holds Try.pinned (OpenSpec.ofChange fnExactSameMeasuresSpec)

/-- ITS FALSE NEIGHBOUR: 'it returns false'. Refute it at one input. -/
def fnExactSameMeasuresWrong : ChangeSpec := { name := "fnExactSameMeasures", fn := fun _ => fun
  | [d1, d2] => { results := [.lit (.bool false)], args := [d1, d2] }
  | _ => none }
def FnExactSameMeasuresWrongFalsely : Prop := fnExactSameMeasuresRow.holds Try.pinned (OpenSpec.ofChange fnExactSameMeasuresWrong)

/-- 'laws.FnExactCanExchange': WHATEVER THE INPUT: true; the input reads as it did. -/
def fnExactCanExchangeSpec : ChangeSpec := { name := "fnExactCanExchange", fn := fun _ => fun
  | [d1, d2] => { results := [.lit (.bool true)], args := [d1, d2] }
  | _ => none }
def fnExactCanExchangeRow : OpenClaim := { program := "ytadenfniiihifaa", sum := "5637c3da4beab07d88c076b1e61cb4495d74ab4bcc1f4a0cc08ec0f06e7a6b94", func := "loop.example/g03208/laws.FnExactCanExchange", spec := "fnExactCanExchange", unfollowed := true, recurses := true, plainKeys := false, apart := false }
def FnExactCanExchangeSaid : Prop := fnExactCanExchangeRow.holds Try.pinned (OpenSpec.ofChange fnExactCanExchangeSpec)

/-- ITS FALSE NEIGHBOUR: 'it returns false'. Refute it at one input. -/
def fnExactCanExchangeWrong : ChangeSpec := { name := "fnExactCanExchange", fn := fun _ => fun
  | [d1, d2] => { results := [.lit (.bool false)], args := [d1, d2] }
  | _ => none }
def FnExactCanExchangeWrongFalsely : Prop := fnExactCanExchangeRow.holds Try.pinned (OpenSpec.ofChange fnExactCanExchangeWrong)

/-- 'laws.FnExactMeasuresOf': WHATEVER THE INPUT: true; the input reads as it did. -/
def fnExactMeasuresOfSpec : ChangeSpec := { name := "fnExactMeasuresOf", fn := fun _ => fun
  | [d] => { results := [.lit (.bool true)], args := [d] }
  | _ => none }
def fnExactMeasuresOfRow : OpenClaim := { program := "ytadenfniiihifaa", sum := "5637c3da4beab07d88c076b1e61cb4495d74ab4bcc1f4a0cc08ec0f06e7a6b94", func := "loop.example/g03208/laws.FnExactMeasuresOf", spec := "fnExactMeasuresOf", unfollowed := true, recurses := true, plainKeys := false, apart := false }
def FnExactMeasuresOfSaid : Prop := fnExactMeasuresOfRow.holds Try.pinned (OpenSpec.ofChange fnExactMeasuresOfSpec)

/-- ITS FALSE NEIGHBOUR: 'it returns false'. Refute it at one input. -/
def fnExactMeasuresOfWrong : ChangeSpec := { name := "fnExactMeasuresOf", fn := fun _ => fun
  | [d] => { results := [.lit (.bool false)], args := [d] }
  | _ => none }
def FnExactMeasuresOfWrongFalsely : Prop := fnExactMeasuresOfRow.holds Try.pinned (OpenSpec.ofChange fnExactMeasuresOfWrong)

/- THE SECOND FORM. 'bulk': how many values and letters a reading holds, each counted each time it is reached (what is shared counts as often as it is met; a slice's spare places count too). A statement '..UptoSaid' is the law's where the arguments, and the package variables that the reading takes, are together of bulk at most 1048576: NARROWER than '..Said'. Prove '..Said' where nothing that the law and all that it calls make is longer than what came in: it says more and counts as full. Else prove '..UptoSaid'. A law counts once. -/
mutual
def uptoBulk {H : Type} : DataW H → Nat
  | .lit (.string bytes) => bytes.length + 1
  | .lit _ => 1
  | .nil => 1
  | .ptr d => uptoBulk d + 1
  | .slice elems spare => uptoBulkAll elems + uptoBulkAll spare + 1
  | .agg parts => uptoBulkAll parts + 1
  | .iface _ d => uptoBulk d + 1
  | .map entries => uptoBulkEntries entries + 1
  | .held _ => 1
def uptoBulkAll {H : Type} : List (DataW H) → Nat
  | [] => 0
  | d :: r => uptoBulk d + uptoBulkAll r
def uptoBulkEntries {H : Type} : List (Lit × DataW H) → Nat
  | [] => 0
  | x :: r => uptoBulkEntry x + uptoBulkEntries r
def uptoBulkEntry {H : Type} : Lit × DataW H → Nat
  | (.string bytes, d) => bytes.length + uptoBulk d + 1
  | (_, d) => uptoBulk d + 1
 end
def uptoSmall : (H : Type) → List (DataW H) → Bool := fun _ ds => decide (uptoBulkAll ds ≤ 1048576)
def OpenSpec.upto (s : _root_.Go.ChangeSpec) : _root_.Go.OpenSpec := { _root_.Go.OpenSpec.ofChange s with cond := some uptoSmall }

/-- 'laws.FnExactSameRectangle', WHERE WHAT IT READS IS OF BULK AT MOST 1048576: true; the input reads as it did. -/
def fnExactSameRectangleUptoRow : OpenClaim := { program := "ytadenfniiihifaa", sum := "5637c3da4beab07d88c076b1e61cb4495d74ab4bcc1f4a0cc08ec0f06e7a6b94", func := "loop.example/g03208/laws.FnExactSameRectangle", spec := "fnExactSameRectangle", unfollowed := true, recurses := true, plainKeys := false, apart := false, narrowed := true }
def FnExactSameRectangleUptoSaid : Prop := fnExactSameRectangleUptoRow.holds Try.pinned (OpenSpec.upto fnExactSameRectangleSpec)

/-- 'laws.FnExactIsBalanced', WHERE WHAT IT READS IS OF BULK AT MOST 1048576: true; the input reads as it did. -/
def fnExactIsBalancedUptoRow : OpenClaim := { program := "ytadenfniiihifaa", sum := "5637c3da4beab07d88c076b1e61cb4495d74ab4bcc1f4a0cc08ec0f06e7a6b94", func := "loop.example/g03208/laws.FnExactIsBalanced", spec := "fnExactIsBalanced", unfollowed := true, recurses := true, plainKeys := false, apart := false, narrowed := true }
def FnExactIsBalancedUptoSaid : Prop := fnExactIsBalancedUptoRow.holds Try.pinned (OpenSpec.upto fnExactIsBalancedSpec)

/-- 'laws.FnExactMeasureFor', WHERE WHAT IT READS IS OF BULK AT MOST 1048576: true; the input reads as it did. -/
def fnExactMeasureForUptoRow : OpenClaim := { program := "ytadenfniiihifaa", sum := "5637c3da4beab07d88c076b1e61cb4495d74ab4bcc1f4a0cc08ec0f06e7a6b94", func := "loop.example/g03208/laws.FnExactMeasureFor", spec := "fnExactMeasureFor", unfollowed := true, recurses := true, plainKeys := false, apart := false, narrowed := true }
def FnExactMeasureForUptoSaid : Prop := fnExactMeasureForUptoRow.holds Try.pinned (OpenSpec.upto fnExactMeasureForSpec)

/-- 'laws.FnExactSameMeasures', WHERE WHAT IT READS IS OF BULK AT MOST 1048576: true; the input reads as it did. -/
def fnExactSameMeasuresUptoRow : OpenClaim := { program := "ytadenfniiihifaa", sum := "5637c3da4beab07d88c076b1e61cb4495d74ab4bcc1f4a0cc08ec0f06e7a6b94", func := "loop.example/g03208/laws.FnExactSameMeasures", spec := "fnExactSameMeasures", unfollowed := true, recurses := true, plainKeys := false, apart := false, narrowed := true }
def FnExactSameMeasuresUptoSaid : Prop := fnExactSameMeasuresUptoRow.holds Try.pinned (OpenSpec.upto fnExactSameMeasuresSpec)

/-- 'laws.FnExactCanExchange', WHERE WHAT IT READS IS OF BULK AT MOST 1048576: true; the input reads as it did. -/
def fnExactCanExchangeUptoRow : OpenClaim := { program := "ytadenfniiihifaa", sum := "5637c3da4beab07d88c076b1e61cb4495d74ab4bcc1f4a0cc08ec0f06e7a6b94", func := "loop.example/g03208/laws.FnExactCanExchange", spec := "fnExactCanExchange", unfollowed := true, recurses := true, plainKeys := false, apart := false, narrowed := true }
def FnExactCanExchangeUptoSaid : Prop := fnExactCanExchangeUptoRow.holds Try.pinned (OpenSpec.upto fnExactCanExchangeSpec)

/-- 'laws.FnExactMeasuresOf', WHERE WHAT IT READS IS OF BULK AT MOST 1048576: true; the input reads as it did. -/
def fnExactMeasuresOfUptoRow : OpenClaim := { program := "ytadenfniiihifaa", sum := "5637c3da4beab07d88c076b1e61cb4495d74ab4bcc1f4a0cc08ec0f06e7a6b94", func := "loop.example/g03208/laws.FnExactMeasuresOf", spec := "fnExactMeasuresOf", unfollowed := true, recurses := true, plainKeys := false, apart := false, narrowed := true }
def FnExactMeasuresOfUptoSaid : Prop := fnExactMeasuresOfUptoRow.holds Try.pinned (OpenSpec.upto fnExactMeasuresOfSpec)

end Rows
end Go.Proofs.Ytadenfniiihifaa
