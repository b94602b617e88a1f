/-
  DERIVED. GIVEN WITH THE SEED: THE CARDS: each row of YtlofkcjcejolcaaDoorRows.lean that lists a variable, with what it lists TIED to the program's text (the seventh form; the later family's looks); each row that meets fmt, with fmt's text TOLD by the authors' own Lean function (tested against real Go, not proved from fmt's source: count such statements apart). THE CARD IS WHAT COUNTS. Prove the row's statement (the work); the ties are given (YtlofkcjcejolcaaDoorTie.lean); close each card by the builder's one call (the guide's Derived/Test/ToyasCard.lean, 'card_holds'). Laid BY PROGRAM, IN A SANDBOX (cutbox-door.mjs). By AI agents, Wed Nov 11 2026. No macro, syntax, notation, axiom, sorry.
-/
import Derived.Test.YtlofkcjcejolcaaDoorRows
import GoSem.ClaimSeven
namespace Go.Proofs.YtlofkcjcejolcaaDoor
namespace Rows

/-- THE TIED CARD OF 'laws.FnExactCutOk'. -/
def fnExactCutOkCard : Claim7 := { stood := { row := fnExactCutOkRow, standIns := [], harness := (true, "65dc9898160b131fe76c4f19322d7e58f2dff5e9894898235afdf597128263b6"), looks := false }, kinds := [], alts := [], laidByText := true, laidKinds := [.data, .data], laidTests := true, laidLooks := .later }
def FnExactCutOkCardSaid : Prop := Claim7.holds Tryd.pinned (.plain (OpenSpec.ofChange fnExactCutOkSpec)) fnExactCutOkCard

/-- THE TIED CARD OF 'laws.FnExactCutOf'. -/
def fnExactCutOfCard : Claim7 := { stood := { row := fnExactCutOfRow, standIns := [], harness := (true, "65dc9898160b131fe76c4f19322d7e58f2dff5e9894898235afdf597128263b6"), looks := false }, kinds := [], alts := [], laidByText := true, laidKinds := [.data, .data], laidTests := true, laidLooks := .later }
def FnExactCutOfCardSaid : Prop := Claim7.holds Tryd.pinned (.plain (OpenSpec.ofChange fnExactCutOfSpec)) fnExactCutOfCard

/-- THE TIED CARD OF 'laws.FnExactPiecesOf'. -/
def fnExactPiecesOfCard : Claim7 := { stood := { row := fnExactPiecesOfRow, standIns := [], harness := (true, "65dc9898160b131fe76c4f19322d7e58f2dff5e9894898235afdf597128263b6"), looks := false }, kinds := [], alts := [], laidByText := true, laidKinds := [.data, .data], laidTests := true, laidLooks := .later }
def FnExactPiecesOfCardSaid : Prop := Claim7.holds Tryd.pinned (.plain (OpenSpec.ofChange fnExactPiecesOfSpec)) fnExactPiecesOfCard

/-- THE TIED CARD OF 'laws.FnExactSizesOf'. -/
def fnExactSizesOfCard : Claim7 := { stood := { row := fnExactSizesOfRow, standIns := [], harness := (true, "65dc9898160b131fe76c4f19322d7e58f2dff5e9894898235afdf597128263b6"), looks := false }, kinds := [], alts := [], laidByText := true, laidKinds := [.data, .data], laidTests := true, laidLooks := .later }
def FnExactSizesOfCardSaid : Prop := Claim7.holds Tryd.pinned (.plain (OpenSpec.ofChange fnExactSizesOfSpec)) fnExactSizesOfCard

/-- THE TIED CARD OF 'laws.FnExactCountCuts'. -/
def fnExactCountCutsCard : Claim7 := { stood := { row := fnExactCountCutsRow, standIns := [], harness := (true, "65dc9898160b131fe76c4f19322d7e58f2dff5e9894898235afdf597128263b6"), looks := false }, kinds := [], alts := [], laidByText := true, laidKinds := [.data, .data], laidTests := true, laidLooks := .later }
def FnExactCountCutsCardSaid : Prop := Claim7.holds Tryd.pinned (.plain (OpenSpec.ofChange fnExactCountCutsSpec)) fnExactCountCutsCard

/-- THE TIED CARD OF 'laws.FnExactCutLength'. -/
def fnExactCutLengthCard : Claim7 := { stood := { row := fnExactCutLengthRow, standIns := [], harness := (true, "65dc9898160b131fe76c4f19322d7e58f2dff5e9894898235afdf597128263b6"), looks := false }, kinds := [], alts := [], laidByText := true, laidKinds := [.data, .data], laidTests := true, laidLooks := .later }
def FnExactCutLengthCardSaid : Prop := Claim7.holds Tryd.pinned (.plain (OpenSpec.ofChange fnExactCutLengthSpec)) fnExactCutLengthCard

/-- THE TIED CARD OF 'laws.FnExactIsFiner'. -/
def fnExactIsFinerCard : Claim7 := { stood := { row := fnExactIsFinerRow, standIns := [], harness := (true, "65dc9898160b131fe76c4f19322d7e58f2dff5e9894898235afdf597128263b6"), looks := false }, kinds := [], alts := [], laidByText := true, laidKinds := [.data, .data], laidTests := true, laidLooks := .later }
def FnExactIsFinerCardSaid : Prop := Claim7.holds Tryd.pinned (.plain (OpenSpec.ofChange fnExactIsFinerSpec)) fnExactIsFinerCard

/-- THE TIED CARD OF 'laws.FnExactFirstCut'. -/
def fnExactFirstCutCard : Claim7 := { stood := { row := fnExactFirstCutRow, standIns := [], harness := (true, "65dc9898160b131fe76c4f19322d7e58f2dff5e9894898235afdf597128263b6"), looks := false }, kinds := [], alts := [], laidByText := true, laidKinds := [.data, .data], laidTests := true, laidLooks := .later }
def FnExactFirstCutCardSaid : Prop := Claim7.holds Tryd.pinned (.plain (OpenSpec.ofChange fnExactFirstCutSpec)) fnExactFirstCutCard

/-- THE TIED CARD OF 'laws.FnExactBestHalves'. -/
def fnExactBestHalvesCard : Claim7 := { stood := { row := fnExactBestHalvesRow, standIns := [], harness := (true, "65dc9898160b131fe76c4f19322d7e58f2dff5e9894898235afdf597128263b6"), looks := false }, kinds := [], alts := [], laidByText := true, laidKinds := [.data, .data], laidTests := true, laidLooks := .later }
def FnExactBestHalvesCardSaid : Prop := Claim7.holds Tryd.pinned (.plain (OpenSpec.ofChange fnExactBestHalvesSpec)) fnExactBestHalvesCard

/-- THE TIED CARD OF 'laws.FnExactJoinedCut'. -/
def fnExactJoinedCutCard : Claim7 := { stood := { row := fnExactJoinedCutRow, standIns := [], harness := (true, "65dc9898160b131fe76c4f19322d7e58f2dff5e9894898235afdf597128263b6"), looks := false }, kinds := [], alts := [], laidByText := true, laidKinds := [.data, .data], laidTests := true, laidLooks := .later }
def FnExactJoinedCutCardSaid : Prop := Claim7.holds Tryd.pinned (.plain (OpenSpec.ofChange fnExactJoinedCutSpec)) fnExactJoinedCutCard

/-- THE TIED CARD OF 'laws.FnExactIsDissection'. -/
def fnExactIsDissectionCard : Claim7 := { stood := { row := fnExactIsDissectionRow, standIns := [], harness := (true, "65dc9898160b131fe76c4f19322d7e58f2dff5e9894898235afdf597128263b6"), looks := false }, kinds := [], alts := [], laidByText := true, laidKinds := [.data, .data], laidTests := true, laidLooks := .later }
def FnExactIsDissectionCardSaid : Prop := Claim7.holds Tryd.pinned (.plain (OpenSpec.ofChange fnExactIsDissectionSpec)) fnExactIsDissectionCard

/-- THE TIED CARD OF 'laws.FnExactFewestPieces'. -/
def fnExactFewestPiecesCard : Claim7 := { stood := { row := fnExactFewestPiecesRow, standIns := [], harness := (true, "65dc9898160b131fe76c4f19322d7e58f2dff5e9894898235afdf597128263b6"), looks := false }, kinds := [], alts := [], laidByText := true, laidKinds := [.data, .data, .data], laidTests := true, laidLooks := .later }
def FnExactFewestPiecesCardSaid : Prop := Claim7.holds Tryd.pinned (.plain (OpenSpec.ofChange fnExactFewestPiecesSpec)) fnExactFewestPiecesCard

/-- THE TIED CARD OF 'laws.FnExactDissect'. -/
def fnExactDissectCard : Claim7 := { stood := { row := fnExactDissectRow, standIns := [], harness := (true, "65dc9898160b131fe76c4f19322d7e58f2dff5e9894898235afdf597128263b6"), looks := false }, kinds := [], alts := [], laidByText := true, laidKinds := [.data, .data, .data], laidTests := true, laidLooks := .later }
def FnExactDissectCardSaid : Prop := Claim7.holds Tryd.pinned (.plain (OpenSpec.ofChange fnExactDissectSpec)) fnExactDissectCard

/-- THE TIED CARD OF 'laws.FnPieces'. -/
def fnPiecesCard : Claim7 := { stood := { row := fnPiecesRow, standIns := [], harness := (true, "65dc9898160b131fe76c4f19322d7e58f2dff5e9894898235afdf597128263b6"), looks := false }, kinds := [], alts := [], laidByText := true, laidKinds := [.data, .data], laidTests := true, laidLooks := .later }
def FnPiecesCardSaid : Prop := Claim7.holds Tryd.pinned (.plain (OpenSpec.ofChange fnPiecesSpec)) fnPiecesCard

/-- THE SECOND FORM's CARD OF 'laws.FnExactCutOk'. -/
def fnExactCutOkUptoCard : Claim7 := { stood := { row := fnExactCutOkUptoRow, standIns := [], harness := (true, "65dc9898160b131fe76c4f19322d7e58f2dff5e9894898235afdf597128263b6"), looks := false }, kinds := [], alts := [], laidByText := true, laidKinds := [.data, .data], laidTests := true, laidLooks := .later }
def FnExactCutOkUptoCardSaid : Prop := Claim7.holds Tryd.pinned (.plain (OpenSpec.upto fnExactCutOkSpec)) fnExactCutOkUptoCard

/-- THE SECOND FORM's CARD OF 'laws.FnExactCutOf'. -/
def fnExactCutOfUptoCard : Claim7 := { stood := { row := fnExactCutOfUptoRow, standIns := [], harness := (true, "65dc9898160b131fe76c4f19322d7e58f2dff5e9894898235afdf597128263b6"), looks := false }, kinds := [], alts := [], laidByText := true, laidKinds := [.data, .data], laidTests := true, laidLooks := .later }
def FnExactCutOfUptoCardSaid : Prop := Claim7.holds Tryd.pinned (.plain (OpenSpec.upto fnExactCutOfSpec)) fnExactCutOfUptoCard

/-- THE SECOND FORM's CARD OF 'laws.FnExactPiecesOf'. -/
def fnExactPiecesOfUptoCard : Claim7 := { stood := { row := fnExactPiecesOfUptoRow, standIns := [], harness := (true, "65dc9898160b131fe76c4f19322d7e58f2dff5e9894898235afdf597128263b6"), looks := false }, kinds := [], alts := [], laidByText := true, laidKinds := [.data, .data], laidTests := true, laidLooks := .later }
def FnExactPiecesOfUptoCardSaid : Prop := Claim7.holds Tryd.pinned (.plain (OpenSpec.upto fnExactPiecesOfSpec)) fnExactPiecesOfUptoCard

/-- THE SECOND FORM's CARD OF 'laws.FnExactSizesOf'. -/
def fnExactSizesOfUptoCard : Claim7 := { stood := { row := fnExactSizesOfUptoRow, standIns := [], harness := (true, "65dc9898160b131fe76c4f19322d7e58f2dff5e9894898235afdf597128263b6"), looks := false }, kinds := [], alts := [], laidByText := true, laidKinds := [.data, .data], laidTests := true, laidLooks := .later }
def FnExactSizesOfUptoCardSaid : Prop := Claim7.holds Tryd.pinned (.plain (OpenSpec.upto fnExactSizesOfSpec)) fnExactSizesOfUptoCard

/-- THE SECOND FORM's CARD OF 'laws.FnExactCountCuts'. -/
def fnExactCountCutsUptoCard : Claim7 := { stood := { row := fnExactCountCutsUptoRow, standIns := [], harness := (true, "65dc9898160b131fe76c4f19322d7e58f2dff5e9894898235afdf597128263b6"), looks := false }, kinds := [], alts := [], laidByText := true, laidKinds := [.data, .data], laidTests := true, laidLooks := .later }
def FnExactCountCutsUptoCardSaid : Prop := Claim7.holds Tryd.pinned (.plain (OpenSpec.upto fnExactCountCutsSpec)) fnExactCountCutsUptoCard

/-- THE SECOND FORM's CARD OF 'laws.FnExactCutLength'. -/
def fnExactCutLengthUptoCard : Claim7 := { stood := { row := fnExactCutLengthUptoRow, standIns := [], harness := (true, "65dc9898160b131fe76c4f19322d7e58f2dff5e9894898235afdf597128263b6"), looks := false }, kinds := [], alts := [], laidByText := true, laidKinds := [.data, .data], laidTests := true, laidLooks := .later }
def FnExactCutLengthUptoCardSaid : Prop := Claim7.holds Tryd.pinned (.plain (OpenSpec.upto fnExactCutLengthSpec)) fnExactCutLengthUptoCard

/-- THE SECOND FORM's CARD OF 'laws.FnExactIsFiner'. -/
def fnExactIsFinerUptoCard : Claim7 := { stood := { row := fnExactIsFinerUptoRow, standIns := [], harness := (true, "65dc9898160b131fe76c4f19322d7e58f2dff5e9894898235afdf597128263b6"), looks := false }, kinds := [], alts := [], laidByText := true, laidKinds := [.data, .data], laidTests := true, laidLooks := .later }
def FnExactIsFinerUptoCardSaid : Prop := Claim7.holds Tryd.pinned (.plain (OpenSpec.upto fnExactIsFinerSpec)) fnExactIsFinerUptoCard

/-- THE SECOND FORM's CARD OF 'laws.FnExactFirstCut'. -/
def fnExactFirstCutUptoCard : Claim7 := { stood := { row := fnExactFirstCutUptoRow, standIns := [], harness := (true, "65dc9898160b131fe76c4f19322d7e58f2dff5e9894898235afdf597128263b6"), looks := false }, kinds := [], alts := [], laidByText := true, laidKinds := [.data, .data], laidTests := true, laidLooks := .later }
def FnExactFirstCutUptoCardSaid : Prop := Claim7.holds Tryd.pinned (.plain (OpenSpec.upto fnExactFirstCutSpec)) fnExactFirstCutUptoCard

/-- THE SECOND FORM's CARD OF 'laws.FnExactBestHalves'. -/
def fnExactBestHalvesUptoCard : Claim7 := { stood := { row := fnExactBestHalvesUptoRow, standIns := [], harness := (true, "65dc9898160b131fe76c4f19322d7e58f2dff5e9894898235afdf597128263b6"), looks := false }, kinds := [], alts := [], laidByText := true, laidKinds := [.data, .data], laidTests := true, laidLooks := .later }
def FnExactBestHalvesUptoCardSaid : Prop := Claim7.holds Tryd.pinned (.plain (OpenSpec.upto fnExactBestHalvesSpec)) fnExactBestHalvesUptoCard

/-- THE SECOND FORM's CARD OF 'laws.FnExactJoinedCut'. -/
def fnExactJoinedCutUptoCard : Claim7 := { stood := { row := fnExactJoinedCutUptoRow, standIns := [], harness := (true, "65dc9898160b131fe76c4f19322d7e58f2dff5e9894898235afdf597128263b6"), looks := false }, kinds := [], alts := [], laidByText := true, laidKinds := [.data, .data], laidTests := true, laidLooks := .later }
def FnExactJoinedCutUptoCardSaid : Prop := Claim7.holds Tryd.pinned (.plain (OpenSpec.upto fnExactJoinedCutSpec)) fnExactJoinedCutUptoCard

/-- THE SECOND FORM's CARD OF 'laws.FnExactIsDissection'. -/
def fnExactIsDissectionUptoCard : Claim7 := { stood := { row := fnExactIsDissectionUptoRow, standIns := [], harness := (true, "65dc9898160b131fe76c4f19322d7e58f2dff5e9894898235afdf597128263b6"), looks := false }, kinds := [], alts := [], laidByText := true, laidKinds := [.data, .data], laidTests := true, laidLooks := .later }
def FnExactIsDissectionUptoCardSaid : Prop := Claim7.holds Tryd.pinned (.plain (OpenSpec.upto fnExactIsDissectionSpec)) fnExactIsDissectionUptoCard

/-- THE SECOND FORM's CARD OF 'laws.FnExactFewestPieces'. -/
def fnExactFewestPiecesUptoCard : Claim7 := { stood := { row := fnExactFewestPiecesUptoRow, standIns := [], harness := (true, "65dc9898160b131fe76c4f19322d7e58f2dff5e9894898235afdf597128263b6"), looks := false }, kinds := [], alts := [], laidByText := true, laidKinds := [.data, .data, .data], laidTests := true, laidLooks := .later }
def FnExactFewestPiecesUptoCardSaid : Prop := Claim7.holds Tryd.pinned (.plain (OpenSpec.upto fnExactFewestPiecesSpec)) fnExactFewestPiecesUptoCard

/-- THE SECOND FORM's CARD OF 'laws.FnExactDissect'. -/
def fnExactDissectUptoCard : Claim7 := { stood := { row := fnExactDissectUptoRow, standIns := [], harness := (true, "65dc9898160b131fe76c4f19322d7e58f2dff5e9894898235afdf597128263b6"), looks := false }, kinds := [], alts := [], laidByText := true, laidKinds := [.data, .data, .data], laidTests := true, laidLooks := .later }
def FnExactDissectUptoCardSaid : Prop := Claim7.holds Tryd.pinned (.plain (OpenSpec.upto fnExactDissectSpec)) fnExactDissectUptoCard

/-- THE SECOND FORM's CARD OF 'laws.FnPieces'. -/
def fnPiecesUptoCard : Claim7 := { stood := { row := fnPiecesUptoRow, standIns := [], harness := (true, "65dc9898160b131fe76c4f19322d7e58f2dff5e9894898235afdf597128263b6"), looks := false }, kinds := [], alts := [], laidByText := true, laidKinds := [.data, .data], laidTests := true, laidLooks := .later }
def FnPiecesUptoCardSaid : Prop := Claim7.holds Tryd.pinned (.plain (OpenSpec.upto fnPiecesSpec)) fnPiecesUptoCard
end Rows
end Go.Proofs.YtlofkcjcejolcaaDoor
