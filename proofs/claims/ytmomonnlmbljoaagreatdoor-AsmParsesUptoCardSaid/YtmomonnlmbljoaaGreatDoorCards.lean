/-
  DERIVED. GIVEN WITH THE SEED: THE CARDS: each row of YtmomonnlmbljoaaGreatDoorRows.lean that lists a variable, with what it lists TIED to the program's text (the seventh form; the later family's looks); each row that meets fmt, with fmt's text TOLD by the authors' own Lean function (tested against real Go, not proved from fmt's source: count such statements apart). THE CARD IS WHAT COUNTS. Prove the row's statement (the work); the ties are given (YtmomonnlmbljoaaGreatDoorTie.lean); close each card by the builder's one call (the guide's Derived/Test/ToyasCard.lean, 'card_holds'). Laid BY PROGRAM, IN A SANDBOX (cutbox-door.mjs). By AI agents, Wed Nov 11 2026. No macro, syntax, notation, axiom, sorry.
-/
import Derived.Test.YtmomonnlmbljoaaGreatDoorRows
import GoSem.ClaimSeven
namespace Go.Proofs.YtmomonnlmbljoaaGreatDoor
namespace Rows

/-- THE TIED CARD OF 'millwrightlaw19.AsmLines'. -/
def asmLinesCard : Claim7 := { stood := { row := asmLinesRow, standIns := [], harness := (true, "43c62acaed52c2d1c7c766b14af42ec8a2d4ae97c4011508ed185cefeb6592bb"), looks := false }, kinds := [], alts := [], laidByText := true, laidKinds := [.data, .data, .data, .listed, .data], laidTests := true, laidLooks := .later }
def AsmLinesCardSaid : Prop := Claim7.holds Tryz.pinned (.plain (OpenSpec.ofChange asmLinesSpec)) asmLinesCard

/-- THE TIED CARD OF 'millwrightlaw19.AsmPrints'. -/
def asmPrintsCard : Claim7 := { stood := { row := asmPrintsRow, standIns := [], harness := (true, "43c62acaed52c2d1c7c766b14af42ec8a2d4ae97c4011508ed185cefeb6592bb"), looks := false }, kinds := [], alts := [], laidByText := true, laidKinds := [.data, .data, .data, .listed, .data], laidTests := true, laidLooks := .later }
def AsmPrintsCardSaid : Prop := Claim7.holds Tryz.pinned (.plain (OpenSpec.ofChange asmPrintsSpec)) asmPrintsCard

/-- THE TIED CARD OF 'millwrightlaw19.AsmFolded'. -/
def asmFoldedCard : Claim7 := { stood := { row := asmFoldedRow, standIns := [], harness := (true, "43c62acaed52c2d1c7c766b14af42ec8a2d4ae97c4011508ed185cefeb6592bb"), looks := false }, kinds := [], alts := [], laidByText := true, laidKinds := [.data, .data, .data, .listed, .data], laidTests := true, laidLooks := .later }
def AsmFoldedCardSaid : Prop := Claim7.holds Tryz.pinned (.plain (OpenSpec.ofChange asmFoldedSpec)) asmFoldedCard

/-- THE TIED CARD OF 'millwrightlaw19.AsmBlocks'. -/
def asmBlocksCard : Claim7 := { stood := { row := asmBlocksRow, standIns := [], harness := (true, "43c62acaed52c2d1c7c766b14af42ec8a2d4ae97c4011508ed185cefeb6592bb"), looks := false }, kinds := [], alts := [], laidByText := true, laidKinds := [.data, .data, .data, .listed, .data], laidTests := true, laidLooks := .later }
def AsmBlocksCardSaid : Prop := Claim7.holds Tryz.pinned (.plain (OpenSpec.ofChange asmBlocksSpec)) asmBlocksCard

/-- THE TIED CARD OF 'millwrightlaw19.AsmLabels'. -/
def asmLabelsCard : Claim7 := { stood := { row := asmLabelsRow, standIns := [], harness := (true, "43c62acaed52c2d1c7c766b14af42ec8a2d4ae97c4011508ed185cefeb6592bb"), looks := false }, kinds := [], alts := [], laidByText := true, laidKinds := [.data, .data, .data, .listed, .data], laidTests := true, laidLooks := .later }
def AsmLabelsCardSaid : Prop := Claim7.holds Tryz.pinned (.plain (OpenSpec.ofChange asmLabelsSpec)) asmLabelsCard

/-- THE TIED CARD OF 'millwrightlaw19.AsmParses'. -/
def asmParsesCard : Claim7 := { stood := { row := asmParsesRow, standIns := [], harness := (true, "43c62acaed52c2d1c7c766b14af42ec8a2d4ae97c4011508ed185cefeb6592bb"), looks := false }, kinds := [], alts := [], laidByText := true, laidKinds := [.data, .data, .data, .listed, .data], laidTests := true, laidLooks := .later }
def AsmParsesCardSaid : Prop := Claim7.holds Tryz.pinned (.plain (OpenSpec.ofChange asmParsesSpec)) asmParsesCard

/-- THE TIED CARD OF 'millwrightlaw19.AsmBack'. -/
def asmBackCard : Claim7 := { stood := { row := asmBackRow, standIns := [], harness := (true, "43c62acaed52c2d1c7c766b14af42ec8a2d4ae97c4011508ed185cefeb6592bb"), looks := false }, kinds := [], alts := [], laidByText := true, laidKinds := [.data, .data, .data, .listed, .data], laidTests := true, laidLooks := .later }
def AsmBackCardSaid : Prop := Claim7.holds Tryz.pinned (.plain (OpenSpec.ofChange asmBackSpec)) asmBackCard

/-- THE SECOND FORM's CARD OF 'millwrightlaw19.AsmLines'. -/
def asmLinesUptoCard : Claim7 := { stood := { row := asmLinesUptoRow, standIns := [], harness := (true, "43c62acaed52c2d1c7c766b14af42ec8a2d4ae97c4011508ed185cefeb6592bb"), looks := false }, kinds := [], alts := [], laidByText := true, laidKinds := [.data, .data, .data, .listed, .data], laidTests := true, laidLooks := .later }
def AsmLinesUptoCardSaid : Prop := Claim7.holds Tryz.pinned (.plain (OpenSpec.upto asmLinesSpec)) asmLinesUptoCard

/-- THE SECOND FORM's CARD OF 'millwrightlaw19.AsmPrints'. -/
def asmPrintsUptoCard : Claim7 := { stood := { row := asmPrintsUptoRow, standIns := [], harness := (true, "43c62acaed52c2d1c7c766b14af42ec8a2d4ae97c4011508ed185cefeb6592bb"), looks := false }, kinds := [], alts := [], laidByText := true, laidKinds := [.data, .data, .data, .listed, .data], laidTests := true, laidLooks := .later }
def AsmPrintsUptoCardSaid : Prop := Claim7.holds Tryz.pinned (.plain (OpenSpec.upto asmPrintsSpec)) asmPrintsUptoCard

/-- THE SECOND FORM's CARD OF 'millwrightlaw19.AsmFolded'. -/
def asmFoldedUptoCard : Claim7 := { stood := { row := asmFoldedUptoRow, standIns := [], harness := (true, "43c62acaed52c2d1c7c766b14af42ec8a2d4ae97c4011508ed185cefeb6592bb"), looks := false }, kinds := [], alts := [], laidByText := true, laidKinds := [.data, .data, .data, .listed, .data], laidTests := true, laidLooks := .later }
def AsmFoldedUptoCardSaid : Prop := Claim7.holds Tryz.pinned (.plain (OpenSpec.upto asmFoldedSpec)) asmFoldedUptoCard

/-- THE SECOND FORM's CARD OF 'millwrightlaw19.AsmBlocks'. -/
def asmBlocksUptoCard : Claim7 := { stood := { row := asmBlocksUptoRow, standIns := [], harness := (true, "43c62acaed52c2d1c7c766b14af42ec8a2d4ae97c4011508ed185cefeb6592bb"), looks := false }, kinds := [], alts := [], laidByText := true, laidKinds := [.data, .data, .data, .listed, .data], laidTests := true, laidLooks := .later }
def AsmBlocksUptoCardSaid : Prop := Claim7.holds Tryz.pinned (.plain (OpenSpec.upto asmBlocksSpec)) asmBlocksUptoCard

/-- THE SECOND FORM's CARD OF 'millwrightlaw19.AsmLabels'. -/
def asmLabelsUptoCard : Claim7 := { stood := { row := asmLabelsUptoRow, standIns := [], harness := (true, "43c62acaed52c2d1c7c766b14af42ec8a2d4ae97c4011508ed185cefeb6592bb"), looks := false }, kinds := [], alts := [], laidByText := true, laidKinds := [.data, .data, .data, .listed, .data], laidTests := true, laidLooks := .later }
def AsmLabelsUptoCardSaid : Prop := Claim7.holds Tryz.pinned (.plain (OpenSpec.upto asmLabelsSpec)) asmLabelsUptoCard

/-- THE SECOND FORM's CARD OF 'millwrightlaw19.AsmParses'. -/
def asmParsesUptoCard : Claim7 := { stood := { row := asmParsesUptoRow, standIns := [], harness := (true, "43c62acaed52c2d1c7c766b14af42ec8a2d4ae97c4011508ed185cefeb6592bb"), looks := false }, kinds := [], alts := [], laidByText := true, laidKinds := [.data, .data, .data, .listed, .data], laidTests := true, laidLooks := .later }
def AsmParsesUptoCardSaid : Prop := Claim7.holds Tryz.pinned (.plain (OpenSpec.upto asmParsesSpec)) asmParsesUptoCard

/-- THE SECOND FORM's CARD OF 'millwrightlaw19.AsmBack'. -/
def asmBackUptoCard : Claim7 := { stood := { row := asmBackUptoRow, standIns := [], harness := (true, "43c62acaed52c2d1c7c766b14af42ec8a2d4ae97c4011508ed185cefeb6592bb"), looks := false }, kinds := [], alts := [], laidByText := true, laidKinds := [.data, .data, .data, .listed, .data], laidTests := true, laidLooks := .later }
def AsmBackUptoCardSaid : Prop := Claim7.holds Tryz.pinned (.plain (OpenSpec.upto asmBackSpec)) asmBackUptoCard
end Rows
end Go.Proofs.YtmomonnlmbljoaaGreatDoor
