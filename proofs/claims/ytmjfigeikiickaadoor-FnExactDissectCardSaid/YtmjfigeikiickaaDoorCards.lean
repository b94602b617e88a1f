/-
  DERIVED. GIVEN WITH THE SEED: THE CARDS: each row of YtmjfigeikiickaaDoorRows.lean that lists a variable, with what it lists TIED to the program's text (the seventh form; the later family's looks); each row that meets fmt, with fmt's text TOLD by the authors' own Lean function (tested against real Go, not proved from fmt's source: count such statements apart). THE CARD IS WHAT COUNTS. Prove the row's statement (the work); the ties are given (YtmjfigeikiickaaDoorTie.lean); close each card by the builder's one call (the guide's Derived/Test/ToyasCard.lean, 'card_holds'). Laid BY PROGRAM, IN A SANDBOX (cutbox-door.mjs). By AI agents, Wed Nov 11 2026. No macro, syntax, notation, axiom, sorry.
-/
import Derived.Test.YtmjfigeikiickaaDoorRows
import GoSem.ClaimSeven
namespace Go.Proofs.YtmjfigeikiickaaDoor
namespace Rows

/-- THE TIED CARD OF 'laws.FnExactCountCuts'. -/
def fnExactCountCutsCard : Claim7 := { stood := { row := fnExactCountCutsRow, standIns := [], harness := (true, "162ca094be2bbec3c352849620f56dd2a3169ea90d4e826069c0e0f2fc45f3e1"), looks := false }, kinds := [], alts := [], laidByText := true, laidKinds := [.data, .data], laidTests := true, laidLooks := .later }
def FnExactCountCutsCardSaid : Prop := Claim7.holds Tryd.pinned (.plain (OpenSpec.ofChange fnExactCountCutsSpec)) fnExactCountCutsCard

/-- THE TIED CARD OF 'laws.FnExactFirstCut'. -/
def fnExactFirstCutCard : Claim7 := { stood := { row := fnExactFirstCutRow, standIns := [], harness := (true, "162ca094be2bbec3c352849620f56dd2a3169ea90d4e826069c0e0f2fc45f3e1"), looks := false }, kinds := [], alts := [], laidByText := true, laidKinds := [.data, .data], laidTests := true, laidLooks := .later }
def FnExactFirstCutCardSaid : Prop := Claim7.holds Tryd.pinned (.plain (OpenSpec.ofChange fnExactFirstCutSpec)) fnExactFirstCutCard

/-- THE TIED CARD OF 'laws.FnExactBestHalves'. -/
def fnExactBestHalvesCard : Claim7 := { stood := { row := fnExactBestHalvesRow, standIns := [], harness := (true, "162ca094be2bbec3c352849620f56dd2a3169ea90d4e826069c0e0f2fc45f3e1"), looks := false }, kinds := [], alts := [], laidByText := true, laidKinds := [.data, .data], laidTests := true, laidLooks := .later }
def FnExactBestHalvesCardSaid : Prop := Claim7.holds Tryd.pinned (.plain (OpenSpec.ofChange fnExactBestHalvesSpec)) fnExactBestHalvesCard

/-- THE TIED CARD OF 'laws.FnExactFewestPieces'. -/
def fnExactFewestPiecesCard : Claim7 := { stood := { row := fnExactFewestPiecesRow, standIns := [], harness := (true, "162ca094be2bbec3c352849620f56dd2a3169ea90d4e826069c0e0f2fc45f3e1"), looks := false }, kinds := [], alts := [], laidByText := true, laidKinds := [.data, .data, .data], laidTests := true, laidLooks := .later }
def FnExactFewestPiecesCardSaid : Prop := Claim7.holds Tryd.pinned (.plain (OpenSpec.ofChange fnExactFewestPiecesSpec)) fnExactFewestPiecesCard

/-- THE TIED CARD OF 'laws.FnExactDissect'. -/
def fnExactDissectCard : Claim7 := { stood := { row := fnExactDissectRow, standIns := [], harness := (true, "162ca094be2bbec3c352849620f56dd2a3169ea90d4e826069c0e0f2fc45f3e1"), looks := false }, kinds := [], alts := [], laidByText := true, laidKinds := [.data, .data, .data], laidTests := true, laidLooks := .later }
def FnExactDissectCardSaid : Prop := Claim7.holds Tryd.pinned (.plain (OpenSpec.ofChange fnExactDissectSpec)) fnExactDissectCard

/-- THE SECOND FORM's CARD OF 'laws.FnExactCountCuts'. -/
def fnExactCountCutsUptoCard : Claim7 := { stood := { row := fnExactCountCutsUptoRow, standIns := [], harness := (true, "162ca094be2bbec3c352849620f56dd2a3169ea90d4e826069c0e0f2fc45f3e1"), looks := false }, kinds := [], alts := [], laidByText := true, laidKinds := [.data, .data], laidTests := true, laidLooks := .later }
def FnExactCountCutsUptoCardSaid : Prop := Claim7.holds Tryd.pinned (.plain (OpenSpec.upto fnExactCountCutsSpec)) fnExactCountCutsUptoCard

/-- THE SECOND FORM's CARD OF 'laws.FnExactFirstCut'. -/
def fnExactFirstCutUptoCard : Claim7 := { stood := { row := fnExactFirstCutUptoRow, standIns := [], harness := (true, "162ca094be2bbec3c352849620f56dd2a3169ea90d4e826069c0e0f2fc45f3e1"), looks := false }, kinds := [], alts := [], laidByText := true, laidKinds := [.data, .data], laidTests := true, laidLooks := .later }
def FnExactFirstCutUptoCardSaid : Prop := Claim7.holds Tryd.pinned (.plain (OpenSpec.upto fnExactFirstCutSpec)) fnExactFirstCutUptoCard

/-- THE SECOND FORM's CARD OF 'laws.FnExactBestHalves'. -/
def fnExactBestHalvesUptoCard : Claim7 := { stood := { row := fnExactBestHalvesUptoRow, standIns := [], harness := (true, "162ca094be2bbec3c352849620f56dd2a3169ea90d4e826069c0e0f2fc45f3e1"), looks := false }, kinds := [], alts := [], laidByText := true, laidKinds := [.data, .data], laidTests := true, laidLooks := .later }
def FnExactBestHalvesUptoCardSaid : Prop := Claim7.holds Tryd.pinned (.plain (OpenSpec.upto fnExactBestHalvesSpec)) fnExactBestHalvesUptoCard

/-- THE SECOND FORM's CARD OF 'laws.FnExactFewestPieces'. -/
def fnExactFewestPiecesUptoCard : Claim7 := { stood := { row := fnExactFewestPiecesUptoRow, standIns := [], harness := (true, "162ca094be2bbec3c352849620f56dd2a3169ea90d4e826069c0e0f2fc45f3e1"), looks := false }, kinds := [], alts := [], laidByText := true, laidKinds := [.data, .data, .data], laidTests := true, laidLooks := .later }
def FnExactFewestPiecesUptoCardSaid : Prop := Claim7.holds Tryd.pinned (.plain (OpenSpec.upto fnExactFewestPiecesSpec)) fnExactFewestPiecesUptoCard

/-- THE SECOND FORM's CARD OF 'laws.FnExactDissect'. -/
def fnExactDissectUptoCard : Claim7 := { stood := { row := fnExactDissectUptoRow, standIns := [], harness := (true, "162ca094be2bbec3c352849620f56dd2a3169ea90d4e826069c0e0f2fc45f3e1"), looks := false }, kinds := [], alts := [], laidByText := true, laidKinds := [.data, .data, .data], laidTests := true, laidLooks := .later }
def FnExactDissectUptoCardSaid : Prop := Claim7.holds Tryd.pinned (.plain (OpenSpec.upto fnExactDissectSpec)) fnExactDissectUptoCard
end Rows
end Go.Proofs.YtmjfigeikiickaaDoor
