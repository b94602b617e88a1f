/-
  DERIVED. GIVEN WITH THE SEED: THE CARDS: each row of YtonnlbdocpkfdaaDoorRows.lean that lists a variable, with what it lists TIED to the program's text (the seventh form; the later family's looks); each row that meets fmt, with fmt's text TOLD by the authors' own Lean function (tested against real Go, not proved from fmt's source: count such statements apart). THE CARD IS WHAT COUNTS. Prove the row's statement (the work); the ties are given (YtonnlbdocpkfdaaDoorTie.lean); close each card by the builder's one call (the guide's Derived/Test/ToyasCard.lean, 'card_holds'). Laid BY PROGRAM, IN A SANDBOX (cutbox-door.mjs). By AI agents, Wed Nov 11 2026. No macro, syntax, notation, axiom, sorry.
-/
import Derived.Test.YtonnlbdocpkfdaaDoorRows
import GoSem.ClaimSeven
namespace Go.Proofs.YtonnlbdocpkfdaaDoor
namespace Rows

/-- THE TIED CARD OF 'laws.FnExactParseShape'. -/
def fnExactParseShapeCard : Claim7 := { stood := { row := fnExactParseShapeRow, standIns := [], harness := (true, "8811339cabb13e788c61cbc13523f871a7aedcf49cfb0afe8ebb2c2731fee2da"), looks := false }, kinds := [], alts := [], laidByText := true, laidKinds := [.data, .pinned], laidTests := true, laidLooks := .later }
def FnExactParseShapeCardSaid : Prop := Claim7.holds Tryd.pinned (.plain (OpenSpec.ofChange fnExactParseShapeSpec)) fnExactParseShapeCard

/-- THE SECOND FORM's CARD OF 'laws.FnExactParseShape'. -/
def fnExactParseShapeUptoCard : Claim7 := { stood := { row := fnExactParseShapeUptoRow, standIns := [], harness := (true, "8811339cabb13e788c61cbc13523f871a7aedcf49cfb0afe8ebb2c2731fee2da"), looks := false }, kinds := [], alts := [], laidByText := true, laidKinds := [.data, .pinned], laidTests := true, laidLooks := .later }
def FnExactParseShapeUptoCardSaid : Prop := Claim7.holds Tryd.pinned (.plain (OpenSpec.upto fnExactParseShapeSpec)) fnExactParseShapeUptoCard
end Rows
end Go.Proofs.YtonnlbdocpkfdaaDoor
