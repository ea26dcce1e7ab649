/-
  DERIVED. GIVEN WITH THE SEED: THE CARDS: each row of YthomnkgiaapljaaGreatDoorRows.lean that lists a variable, with what it lists TIED to the program's text (the seventh form; the later family's looks); each row that meets fmt, with fmt's text TOLD by the authors' own Lean function (tested against real Go, not proved from fmt's source: count such statements apart). THE CARD IS WHAT COUNTS. Prove the row's statement (the work); the ties are given (YthomnkgiaapljaaGreatDoorTie.lean); close each card by the builder's one call (the guide's Derived/Test/ToyasCard.lean, 'card_holds'). Laid BY PROGRAM, IN A SANDBOX (cutbox-door.mjs). By AI agents, Wed Nov 11 2026. No macro, syntax, notation, axiom, sorry.
-/
import Derived.Test.YthomnkgiaapljaaGreatDoorRows
import GoSem.ClaimSeven
namespace Go.Proofs.YthomnkgiaapljaaGreatDoor
namespace Rows

/-- THE TIED CARD OF 'bitepointlaw10.SheetJudges'. -/
def sheetJudgesCard : Claim7 := { stood := { row := sheetJudgesRow, standIns := [], harness := (true, "53abc036d31670c5e7a7457506c1cf9df512a0501642088e71039f408cc4c1a9"), looks := true }, kinds := [], alts := [], laidByText := true, laidKinds := [.data, .data, .data, .data, .sentinel, .sentinel, .pinned], laidTests := true, laidLooks := .later }
def SheetJudgesCardSaid : Prop := Claim7.holds Tryz.pinned (.plain (OpenSpec.ofChange sheetJudgesSpec)) sheetJudgesCard

/-- THE TIED CARD OF 'bitepointlaw10.SheetKeeps'. -/
def sheetKeepsCard : Claim7 := { stood := { row := sheetKeepsRow, standIns := [], harness := (true, "53abc036d31670c5e7a7457506c1cf9df512a0501642088e71039f408cc4c1a9"), looks := true }, kinds := [], alts := [], laidByText := true, laidKinds := [.data, .data, .data, .data, .sentinel, .sentinel, .pinned], laidTests := true, laidLooks := .later }
def SheetKeepsCardSaid : Prop := Claim7.holds Tryz.pinned (.plain (OpenSpec.ofChange sheetKeepsSpec)) sheetKeepsCard

/-- THE TIED CARD OF 'bitepointlaw10.SheetFits'. -/
def sheetFitsCard : Claim7 := { stood := { row := sheetFitsRow, standIns := [], harness := (true, "53abc036d31670c5e7a7457506c1cf9df512a0501642088e71039f408cc4c1a9"), looks := true }, kinds := [], alts := [], laidByText := true, laidKinds := [.data, .data, .data, .data, .sentinel, .sentinel, .pinned], laidTests := true, laidLooks := .later }
def SheetFitsCardSaid : Prop := Claim7.holds Tryz.pinned (.plain (OpenSpec.ofChange sheetFitsSpec)) sheetFitsCard

/-- THE TIED CARD OF 'bitepointlaw10.SheetLines'. -/
def sheetLinesCard : Claim7 := { stood := { row := sheetLinesRow, standIns := [], harness := (true, "53abc036d31670c5e7a7457506c1cf9df512a0501642088e71039f408cc4c1a9"), looks := true }, kinds := [], alts := [], laidByText := true, laidKinds := [.data, .data, .data, .data, .sentinel, .sentinel, .pinned], laidTests := true, laidLooks := .later }
def SheetLinesCardSaid : Prop := Claim7.holds Tryz.pinned (.plain (OpenSpec.ofChange sheetLinesSpec)) sheetLinesCard

/-- THE TIED CARD OF 'bitepointlaw10.SheetTexts'. -/
def sheetTextsCard : Claim7 := { stood := { row := sheetTextsRow, standIns := [], harness := (true, "53abc036d31670c5e7a7457506c1cf9df512a0501642088e71039f408cc4c1a9"), looks := true }, kinds := [], alts := [], laidByText := true, laidKinds := [.data, .data, .data, .data, .sentinel, .sentinel, .pinned], laidTests := true, laidLooks := .later }
def SheetTextsCardSaid : Prop := Claim7.holds Tryz.pinned (.plain (OpenSpec.ofChange sheetTextsSpec)) sheetTextsCard

/-- THE TIED CARD OF 'bitepointlaw10.SheetKnown'. -/
def sheetKnownCard : Claim7 := { stood := { row := sheetKnownRow, standIns := [], harness := (true, "53abc036d31670c5e7a7457506c1cf9df512a0501642088e71039f408cc4c1a9"), looks := true }, kinds := [], alts := [], laidByText := true, laidKinds := [.data, .data, .data, .data, .sentinel, .sentinel, .pinned], laidTests := true, laidLooks := .later }
def SheetKnownCardSaid : Prop := Claim7.holds Tryz.pinned (.plain (OpenSpec.ofChange sheetKnownSpec)) sheetKnownCard

/-- THE TIED CARD OF 'bitepointlaw10.SheetLost'. -/
def sheetLostCard : Claim7 := { stood := { row := sheetLostRow, standIns := [], harness := (true, "53abc036d31670c5e7a7457506c1cf9df512a0501642088e71039f408cc4c1a9"), looks := true }, kinds := [], alts := [], laidByText := true, laidKinds := [.data, .data, .data, .data, .sentinel, .sentinel, .pinned], laidTests := true, laidLooks := .later }
def SheetLostCardSaid : Prop := Claim7.holds Tryz.pinned (.plain (OpenSpec.ofChange sheetLostSpec)) sheetLostCard

/-- THE TIED CARD OF 'bitepointlaw10.SheetShown'. -/
def sheetShownCard : Claim7 := { stood := { row := sheetShownRow, standIns := [], harness := (true, "53abc036d31670c5e7a7457506c1cf9df512a0501642088e71039f408cc4c1a9"), looks := true }, kinds := [], alts := [], laidByText := true, laidKinds := [.data, .data, .data, .data, .sentinel, .sentinel, .pinned], laidTests := true, laidLooks := .later }
def SheetShownCardSaid : Prop := Claim7.holds Tryz.pinned (.plain (OpenSpec.ofChange sheetShownSpec)) sheetShownCard

/-- THE TIED CARD OF 'bitepointlaw10.SheetFewest'. -/
def sheetFewestCard : Claim7 := { stood := { row := sheetFewestRow, standIns := [], harness := (true, "53abc036d31670c5e7a7457506c1cf9df512a0501642088e71039f408cc4c1a9"), looks := true }, kinds := [], alts := [], laidByText := true, laidKinds := [.data, .data, .data, .data, .sentinel, .sentinel, .pinned], laidTests := true, laidLooks := .later }
def SheetFewestCardSaid : Prop := Claim7.holds Tryz.pinned (.plain (OpenSpec.ofChange sheetFewestSpec)) sheetFewestCard

/-- THE TIED CARD OF 'bitepointlaw10.SheetDecided'. -/
def sheetDecidedCard : Claim7 := { stood := { row := sheetDecidedRow, standIns := [], harness := (true, "53abc036d31670c5e7a7457506c1cf9df512a0501642088e71039f408cc4c1a9"), looks := true }, kinds := [], alts := [], laidByText := true, laidKinds := [.data, .data, .data, .data, .sentinel, .sentinel, .pinned], laidTests := true, laidLooks := .later }
def SheetDecidedCardSaid : Prop := Claim7.holds Tryz.pinned (.plain (OpenSpec.ofChange sheetDecidedSpec)) sheetDecidedCard

/-- THE TIED CARD OF 'bitepointlaw10.SheetMore'. -/
def sheetMoreCard : Claim7 := { stood := { row := sheetMoreRow, standIns := [], harness := (true, "53abc036d31670c5e7a7457506c1cf9df512a0501642088e71039f408cc4c1a9"), looks := true }, kinds := [], alts := [], laidByText := true, laidKinds := [.data, .data, .data, .data, .sentinel, .sentinel, .pinned], laidTests := true, laidLooks := .later }
def SheetMoreCardSaid : Prop := Claim7.holds Tryz.pinned (.plain (OpenSpec.ofChange sheetMoreSpec)) sheetMoreCard

/-- THE TIED CARD OF 'bitepointlaw10.SheetMilder'. -/
def sheetMilderCard : Claim7 := { stood := { row := sheetMilderRow, standIns := [], harness := (true, "53abc036d31670c5e7a7457506c1cf9df512a0501642088e71039f408cc4c1a9"), looks := true }, kinds := [], alts := [], laidByText := true, laidKinds := [.data, .data, .data, .data, .sentinel, .sentinel, .pinned], laidTests := true, laidLooks := .later }
def SheetMilderCardSaid : Prop := Claim7.holds Tryz.pinned (.plain (OpenSpec.ofChange sheetMilderSpec)) sheetMilderCard

/-- THE TIED CARD OF 'bitepointlaw10.SheetAppeal'. -/
def sheetAppealCard : Claim7 := { stood := { row := sheetAppealRow, standIns := [], harness := (true, "53abc036d31670c5e7a7457506c1cf9df512a0501642088e71039f408cc4c1a9"), looks := true }, kinds := [], alts := [], laidByText := true, laidKinds := [.data, .data, .data, .data, .sentinel, .sentinel, .pinned], laidTests := true, laidLooks := .later }
def SheetAppealCardSaid : Prop := Claim7.holds Tryz.pinned (.plain (OpenSpec.ofChange sheetAppealSpec)) sheetAppealCard

/-- THE TIED CARD OF 'bitepointlaw10.SheetRound'. -/
def sheetRoundCard : Claim7 := { stood := { row := sheetRoundRow, standIns := [], harness := (true, "53abc036d31670c5e7a7457506c1cf9df512a0501642088e71039f408cc4c1a9"), looks := true }, kinds := [], alts := [], laidByText := true, laidKinds := [.data, .data, .data, .data, .sentinel, .sentinel, .pinned], laidTests := true, laidLooks := .later }
def SheetRoundCardSaid : Prop := Claim7.holds Tryz.pinned (.plain (OpenSpec.ofChange sheetRoundSpec)) sheetRoundCard

/-- THE SECOND FORM's CARD OF 'bitepointlaw10.SheetJudges'. -/
def sheetJudgesUptoCard : Claim7 := { stood := { row := sheetJudgesUptoRow, standIns := [], harness := (true, "53abc036d31670c5e7a7457506c1cf9df512a0501642088e71039f408cc4c1a9"), looks := true }, kinds := [], alts := [], laidByText := true, laidKinds := [.data, .data, .data, .data, .sentinel, .sentinel, .pinned], laidTests := true, laidLooks := .later }
def SheetJudgesUptoCardSaid : Prop := Claim7.holds Tryz.pinned (.plain (OpenSpec.upto sheetJudgesSpec)) sheetJudgesUptoCard

/-- THE SECOND FORM's CARD OF 'bitepointlaw10.SheetKeeps'. -/
def sheetKeepsUptoCard : Claim7 := { stood := { row := sheetKeepsUptoRow, standIns := [], harness := (true, "53abc036d31670c5e7a7457506c1cf9df512a0501642088e71039f408cc4c1a9"), looks := true }, kinds := [], alts := [], laidByText := true, laidKinds := [.data, .data, .data, .data, .sentinel, .sentinel, .pinned], laidTests := true, laidLooks := .later }
def SheetKeepsUptoCardSaid : Prop := Claim7.holds Tryz.pinned (.plain (OpenSpec.upto sheetKeepsSpec)) sheetKeepsUptoCard

/-- THE SECOND FORM's CARD OF 'bitepointlaw10.SheetFits'. -/
def sheetFitsUptoCard : Claim7 := { stood := { row := sheetFitsUptoRow, standIns := [], harness := (true, "53abc036d31670c5e7a7457506c1cf9df512a0501642088e71039f408cc4c1a9"), looks := true }, kinds := [], alts := [], laidByText := true, laidKinds := [.data, .data, .data, .data, .sentinel, .sentinel, .pinned], laidTests := true, laidLooks := .later }
def SheetFitsUptoCardSaid : Prop := Claim7.holds Tryz.pinned (.plain (OpenSpec.upto sheetFitsSpec)) sheetFitsUptoCard

/-- THE SECOND FORM's CARD OF 'bitepointlaw10.SheetLines'. -/
def sheetLinesUptoCard : Claim7 := { stood := { row := sheetLinesUptoRow, standIns := [], harness := (true, "53abc036d31670c5e7a7457506c1cf9df512a0501642088e71039f408cc4c1a9"), looks := true }, kinds := [], alts := [], laidByText := true, laidKinds := [.data, .data, .data, .data, .sentinel, .sentinel, .pinned], laidTests := true, laidLooks := .later }
def SheetLinesUptoCardSaid : Prop := Claim7.holds Tryz.pinned (.plain (OpenSpec.upto sheetLinesSpec)) sheetLinesUptoCard

/-- THE SECOND FORM's CARD OF 'bitepointlaw10.SheetTexts'. -/
def sheetTextsUptoCard : Claim7 := { stood := { row := sheetTextsUptoRow, standIns := [], harness := (true, "53abc036d31670c5e7a7457506c1cf9df512a0501642088e71039f408cc4c1a9"), looks := true }, kinds := [], alts := [], laidByText := true, laidKinds := [.data, .data, .data, .data, .sentinel, .sentinel, .pinned], laidTests := true, laidLooks := .later }
def SheetTextsUptoCardSaid : Prop := Claim7.holds Tryz.pinned (.plain (OpenSpec.upto sheetTextsSpec)) sheetTextsUptoCard

/-- THE SECOND FORM's CARD OF 'bitepointlaw10.SheetKnown'. -/
def sheetKnownUptoCard : Claim7 := { stood := { row := sheetKnownUptoRow, standIns := [], harness := (true, "53abc036d31670c5e7a7457506c1cf9df512a0501642088e71039f408cc4c1a9"), looks := true }, kinds := [], alts := [], laidByText := true, laidKinds := [.data, .data, .data, .data, .sentinel, .sentinel, .pinned], laidTests := true, laidLooks := .later }
def SheetKnownUptoCardSaid : Prop := Claim7.holds Tryz.pinned (.plain (OpenSpec.upto sheetKnownSpec)) sheetKnownUptoCard

/-- THE SECOND FORM's CARD OF 'bitepointlaw10.SheetLost'. -/
def sheetLostUptoCard : Claim7 := { stood := { row := sheetLostUptoRow, standIns := [], harness := (true, "53abc036d31670c5e7a7457506c1cf9df512a0501642088e71039f408cc4c1a9"), looks := true }, kinds := [], alts := [], laidByText := true, laidKinds := [.data, .data, .data, .data, .sentinel, .sentinel, .pinned], laidTests := true, laidLooks := .later }
def SheetLostUptoCardSaid : Prop := Claim7.holds Tryz.pinned (.plain (OpenSpec.upto sheetLostSpec)) sheetLostUptoCard

/-- THE SECOND FORM's CARD OF 'bitepointlaw10.SheetShown'. -/
def sheetShownUptoCard : Claim7 := { stood := { row := sheetShownUptoRow, standIns := [], harness := (true, "53abc036d31670c5e7a7457506c1cf9df512a0501642088e71039f408cc4c1a9"), looks := true }, kinds := [], alts := [], laidByText := true, laidKinds := [.data, .data, .data, .data, .sentinel, .sentinel, .pinned], laidTests := true, laidLooks := .later }
def SheetShownUptoCardSaid : Prop := Claim7.holds Tryz.pinned (.plain (OpenSpec.upto sheetShownSpec)) sheetShownUptoCard

/-- THE SECOND FORM's CARD OF 'bitepointlaw10.SheetFewest'. -/
def sheetFewestUptoCard : Claim7 := { stood := { row := sheetFewestUptoRow, standIns := [], harness := (true, "53abc036d31670c5e7a7457506c1cf9df512a0501642088e71039f408cc4c1a9"), looks := true }, kinds := [], alts := [], laidByText := true, laidKinds := [.data, .data, .data, .data, .sentinel, .sentinel, .pinned], laidTests := true, laidLooks := .later }
def SheetFewestUptoCardSaid : Prop := Claim7.holds Tryz.pinned (.plain (OpenSpec.upto sheetFewestSpec)) sheetFewestUptoCard

/-- THE SECOND FORM's CARD OF 'bitepointlaw10.SheetDecided'. -/
def sheetDecidedUptoCard : Claim7 := { stood := { row := sheetDecidedUptoRow, standIns := [], harness := (true, "53abc036d31670c5e7a7457506c1cf9df512a0501642088e71039f408cc4c1a9"), looks := true }, kinds := [], alts := [], laidByText := true, laidKinds := [.data, .data, .data, .data, .sentinel, .sentinel, .pinned], laidTests := true, laidLooks := .later }
def SheetDecidedUptoCardSaid : Prop := Claim7.holds Tryz.pinned (.plain (OpenSpec.upto sheetDecidedSpec)) sheetDecidedUptoCard

/-- THE SECOND FORM's CARD OF 'bitepointlaw10.SheetMore'. -/
def sheetMoreUptoCard : Claim7 := { stood := { row := sheetMoreUptoRow, standIns := [], harness := (true, "53abc036d31670c5e7a7457506c1cf9df512a0501642088e71039f408cc4c1a9"), looks := true }, kinds := [], alts := [], laidByText := true, laidKinds := [.data, .data, .data, .data, .sentinel, .sentinel, .pinned], laidTests := true, laidLooks := .later }
def SheetMoreUptoCardSaid : Prop := Claim7.holds Tryz.pinned (.plain (OpenSpec.upto sheetMoreSpec)) sheetMoreUptoCard

/-- THE SECOND FORM's CARD OF 'bitepointlaw10.SheetMilder'. -/
def sheetMilderUptoCard : Claim7 := { stood := { row := sheetMilderUptoRow, standIns := [], harness := (true, "53abc036d31670c5e7a7457506c1cf9df512a0501642088e71039f408cc4c1a9"), looks := true }, kinds := [], alts := [], laidByText := true, laidKinds := [.data, .data, .data, .data, .sentinel, .sentinel, .pinned], laidTests := true, laidLooks := .later }
def SheetMilderUptoCardSaid : Prop := Claim7.holds Tryz.pinned (.plain (OpenSpec.upto sheetMilderSpec)) sheetMilderUptoCard

/-- THE SECOND FORM's CARD OF 'bitepointlaw10.SheetAppeal'. -/
def sheetAppealUptoCard : Claim7 := { stood := { row := sheetAppealUptoRow, standIns := [], harness := (true, "53abc036d31670c5e7a7457506c1cf9df512a0501642088e71039f408cc4c1a9"), looks := true }, kinds := [], alts := [], laidByText := true, laidKinds := [.data, .data, .data, .data, .sentinel, .sentinel, .pinned], laidTests := true, laidLooks := .later }
def SheetAppealUptoCardSaid : Prop := Claim7.holds Tryz.pinned (.plain (OpenSpec.upto sheetAppealSpec)) sheetAppealUptoCard

/-- THE SECOND FORM's CARD OF 'bitepointlaw10.SheetRound'. -/
def sheetRoundUptoCard : Claim7 := { stood := { row := sheetRoundUptoRow, standIns := [], harness := (true, "53abc036d31670c5e7a7457506c1cf9df512a0501642088e71039f408cc4c1a9"), looks := true }, kinds := [], alts := [], laidByText := true, laidKinds := [.data, .data, .data, .data, .sentinel, .sentinel, .pinned], laidTests := true, laidLooks := .later }
def SheetRoundUptoCardSaid : Prop := Claim7.holds Tryz.pinned (.plain (OpenSpec.upto sheetRoundSpec)) sheetRoundUptoCard
end Rows
end Go.Proofs.YthomnkgiaapljaaGreatDoor
