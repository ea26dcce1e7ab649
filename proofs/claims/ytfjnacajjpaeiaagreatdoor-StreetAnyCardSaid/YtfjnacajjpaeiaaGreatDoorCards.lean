/-
  DERIVED. GIVEN WITH THE SEED: THE CARDS: each row of YtfjnacajjpaeiaaGreatDoorRows.lean that lists a variable, with what it lists TIED to the program's text (the seventh form; the later family's looks); each row that meets fmt, with fmt's text TOLD by the authors' own Lean function (tested against real Go, not proved from fmt's source: count such statements apart). THE CARD IS WHAT COUNTS. Prove the row's statement (the work); the ties are given (YtfjnacajjpaeiaaGreatDoorTie.lean); close each card by the builder's one call (the guide's Derived/Test/ToyasCard.lean, 'card_holds'). Laid BY PROGRAM, IN A SANDBOX (cutbox-door.mjs). By AI agents, Wed Nov 11 2026. No macro, syntax, notation, axiom, sorry.
-/
import Derived.Test.YtfjnacajjpaeiaaGreatDoorRows
import GoSem.ClaimSeven
namespace Go.Proofs.YtfjnacajjpaeiaaGreatDoor
namespace Rows

/-- THE TIED CARD OF 'bitepointlaw03.StreetChecks'. -/
def streetChecksCard : Claim7 := { stood := { row := streetChecksRow, standIns := [], harness := (true, "c6fe4a85326f942e8101f742b0b573d6665962fd56b6b9b42fe04e12167b0dc5"), looks := true }, kinds := [], alts := [], laidByText := true, laidKinds := [.data, .data, .data, .sentinel, .sentinel], laidTests := true, laidLooks := .later }
def StreetChecksCardSaid : Prop := Claim7.holds Tryz.pinned (.plain (OpenSpec.ofChange streetChecksSpec)) streetChecksCard

/-- THE TIED CARD OF 'bitepointlaw03.StreetDrives'. -/
def streetDrivesCard : Claim7 := { stood := { row := streetDrivesRow, standIns := [], harness := (true, "c6fe4a85326f942e8101f742b0b573d6665962fd56b6b9b42fe04e12167b0dc5"), looks := true }, kinds := [], alts := [], laidByText := true, laidKinds := [.data, .data, .data, .sentinel, .sentinel], laidTests := true, laidLooks := .later }
def StreetDrivesCardSaid : Prop := Claim7.holds Tryz.pinned (.plain (OpenSpec.ofChange streetDrivesSpec)) streetDrivesCard

/-- THE TIED CARD OF 'bitepointlaw03.StreetFinds'. -/
def streetFindsCard : Claim7 := { stood := { row := streetFindsRow, standIns := [], harness := (true, "c6fe4a85326f942e8101f742b0b573d6665962fd56b6b9b42fe04e12167b0dc5"), looks := true }, kinds := [], alts := [], laidByText := true, laidKinds := [.data, .data, .data, .sentinel, .sentinel], laidTests := true, laidLooks := .later }
def StreetFindsCardSaid : Prop := Claim7.holds Tryz.pinned (.plain (OpenSpec.ofChange streetFindsSpec)) streetFindsCard

/-- THE TIED CARD OF 'bitepointlaw03.StreetTables'. -/
def streetTablesCard : Claim7 := { stood := { row := streetTablesRow, standIns := [], harness := (true, "c6fe4a85326f942e8101f742b0b573d6665962fd56b6b9b42fe04e12167b0dc5"), looks := true }, kinds := [], alts := [], laidByText := true, laidKinds := [.data, .data, .data, .sentinel, .sentinel], laidTests := true, laidLooks := .later }
def StreetTablesCardSaid : Prop := Claim7.holds Tryz.pinned (.plain (OpenSpec.ofChange streetTablesSpec)) streetTablesCard

/-- THE TIED CARD OF 'bitepointlaw03.StreetTexts'. -/
def streetTextsCard : Claim7 := { stood := { row := streetTextsRow, standIns := [], harness := (true, "c6fe4a85326f942e8101f742b0b573d6665962fd56b6b9b42fe04e12167b0dc5"), looks := true }, kinds := [], alts := [], laidByText := true, laidKinds := [.data, .data, .data, .sentinel, .sentinel], laidTests := true, laidLooks := .later }
def StreetTextsCardSaid : Prop := Claim7.holds Tryz.pinned (.plain (OpenSpec.ofChange streetTextsSpec)) streetTextsCard

/-- THE TIED CARD OF 'bitepointlaw03.StreetKnown'. -/
def streetKnownCard : Claim7 := { stood := { row := streetKnownRow, standIns := [], harness := (true, "c6fe4a85326f942e8101f742b0b573d6665962fd56b6b9b42fe04e12167b0dc5"), looks := true }, kinds := [], alts := [], laidByText := true, laidKinds := [.data, .data, .data, .sentinel, .sentinel], laidTests := true, laidLooks := .later }
def StreetKnownCardSaid : Prop := Claim7.holds Tryz.pinned (.plain (OpenSpec.ofChange streetKnownSpec)) streetKnownCard

/-- THE TIED CARD OF 'bitepointlaw03.StreetShortest'. -/
def streetShortestCard : Claim7 := { stood := { row := streetShortestRow, standIns := [], harness := (true, "c6fe4a85326f942e8101f742b0b573d6665962fd56b6b9b42fe04e12167b0dc5"), looks := true }, kinds := [], alts := [], laidByText := true, laidKinds := [.data, .data, .data, .sentinel, .sentinel], laidTests := true, laidLooks := .later }
def StreetShortestCardSaid : Prop := Claim7.holds Tryz.pinned (.plain (OpenSpec.ofChange streetShortestSpec)) streetShortestCard

/-- THE TIED CARD OF 'bitepointlaw03.StreetProof'. -/
def streetProofCard : Claim7 := { stood := { row := streetProofRow, standIns := [], harness := (true, "c6fe4a85326f942e8101f742b0b573d6665962fd56b6b9b42fe04e12167b0dc5"), looks := true }, kinds := [], alts := [], laidByText := true, laidKinds := [.data, .data, .data, .sentinel, .sentinel], laidTests := true, laidLooks := .later }
def StreetProofCardSaid : Prop := Claim7.holds Tryz.pinned (.plain (OpenSpec.ofChange streetProofSpec)) streetProofCard

/-- THE TIED CARD OF 'bitepointlaw03.StreetAny'. -/
def streetAnyCard : Claim7 := { stood := { row := streetAnyRow, standIns := [], harness := (true, "c6fe4a85326f942e8101f742b0b573d6665962fd56b6b9b42fe04e12167b0dc5"), looks := true }, kinds := [], alts := [], laidByText := true, laidKinds := [.data, .data, .data, .sentinel, .sentinel], laidTests := true, laidLooks := .later }
def StreetAnyCardSaid : Prop := Claim7.holds Tryz.pinned (.plain (OpenSpec.ofChange streetAnySpec)) streetAnyCard

/-- THE TIED CARD OF 'bitepointlaw03.StreetClosed'. -/
def streetClosedCard : Claim7 := { stood := { row := streetClosedRow, standIns := [], harness := (true, "c6fe4a85326f942e8101f742b0b573d6665962fd56b6b9b42fe04e12167b0dc5"), looks := true }, kinds := [], alts := [], laidByText := true, laidKinds := [.data, .data, .data, .sentinel, .sentinel], laidTests := true, laidLooks := .later }
def StreetClosedCardSaid : Prop := Claim7.holds Tryz.pinned (.plain (OpenSpec.ofChange streetClosedSpec)) streetClosedCard

/-- THE TIED CARD OF 'bitepointlaw03.StreetBy'. -/
def streetByCard : Claim7 := { stood := { row := streetByRow, standIns := [], harness := (true, "c6fe4a85326f942e8101f742b0b573d6665962fd56b6b9b42fe04e12167b0dc5"), looks := true }, kinds := [], alts := [], laidByText := true, laidKinds := [.data, .data, .data, .sentinel, .sentinel], laidTests := true, laidLooks := .later }
def StreetByCardSaid : Prop := Claim7.holds Tryz.pinned (.plain (OpenSpec.ofChange streetBySpec)) streetByCard

/-- THE TIED CARD OF 'bitepointlaw03.StreetBack'. -/
def streetBackCard : Claim7 := { stood := { row := streetBackRow, standIns := [], harness := (true, "c6fe4a85326f942e8101f742b0b573d6665962fd56b6b9b42fe04e12167b0dc5"), looks := true }, kinds := [], alts := [], laidByText := true, laidKinds := [.data, .data, .data, .sentinel, .sentinel], laidTests := true, laidLooks := .later }
def StreetBackCardSaid : Prop := Claim7.holds Tryz.pinned (.plain (OpenSpec.ofChange streetBackSpec)) streetBackCard

/-- THE TIED CARD OF 'bitepointlaw03.StreetParts'. -/
def streetPartsCard : Claim7 := { stood := { row := streetPartsRow, standIns := [], harness := (true, "c6fe4a85326f942e8101f742b0b573d6665962fd56b6b9b42fe04e12167b0dc5"), looks := true }, kinds := [], alts := [], laidByText := true, laidKinds := [.data, .data, .data, .sentinel, .sentinel], laidTests := true, laidLooks := .later }
def StreetPartsCardSaid : Prop := Claim7.holds Tryz.pinned (.plain (OpenSpec.ofChange streetPartsSpec)) streetPartsCard

/-- THE TIED CARD OF 'bitepointlaw03.StreetRound'. -/
def streetRoundCard : Claim7 := { stood := { row := streetRoundRow, standIns := [], harness := (true, "c6fe4a85326f942e8101f742b0b573d6665962fd56b6b9b42fe04e12167b0dc5"), looks := true }, kinds := [], alts := [], laidByText := true, laidKinds := [.data, .data, .data, .sentinel, .sentinel], laidTests := true, laidLooks := .later }
def StreetRoundCardSaid : Prop := Claim7.holds Tryz.pinned (.plain (OpenSpec.ofChange streetRoundSpec)) streetRoundCard

/-- THE SECOND FORM's CARD OF 'bitepointlaw03.StreetChecks'. -/
def streetChecksUptoCard : Claim7 := { stood := { row := streetChecksUptoRow, standIns := [], harness := (true, "c6fe4a85326f942e8101f742b0b573d6665962fd56b6b9b42fe04e12167b0dc5"), looks := true }, kinds := [], alts := [], laidByText := true, laidKinds := [.data, .data, .data, .sentinel, .sentinel], laidTests := true, laidLooks := .later }
def StreetChecksUptoCardSaid : Prop := Claim7.holds Tryz.pinned (.plain (OpenSpec.upto streetChecksSpec)) streetChecksUptoCard

/-- THE SECOND FORM's CARD OF 'bitepointlaw03.StreetDrives'. -/
def streetDrivesUptoCard : Claim7 := { stood := { row := streetDrivesUptoRow, standIns := [], harness := (true, "c6fe4a85326f942e8101f742b0b573d6665962fd56b6b9b42fe04e12167b0dc5"), looks := true }, kinds := [], alts := [], laidByText := true, laidKinds := [.data, .data, .data, .sentinel, .sentinel], laidTests := true, laidLooks := .later }
def StreetDrivesUptoCardSaid : Prop := Claim7.holds Tryz.pinned (.plain (OpenSpec.upto streetDrivesSpec)) streetDrivesUptoCard

/-- THE SECOND FORM's CARD OF 'bitepointlaw03.StreetFinds'. -/
def streetFindsUptoCard : Claim7 := { stood := { row := streetFindsUptoRow, standIns := [], harness := (true, "c6fe4a85326f942e8101f742b0b573d6665962fd56b6b9b42fe04e12167b0dc5"), looks := true }, kinds := [], alts := [], laidByText := true, laidKinds := [.data, .data, .data, .sentinel, .sentinel], laidTests := true, laidLooks := .later }
def StreetFindsUptoCardSaid : Prop := Claim7.holds Tryz.pinned (.plain (OpenSpec.upto streetFindsSpec)) streetFindsUptoCard

/-- THE SECOND FORM's CARD OF 'bitepointlaw03.StreetTables'. -/
def streetTablesUptoCard : Claim7 := { stood := { row := streetTablesUptoRow, standIns := [], harness := (true, "c6fe4a85326f942e8101f742b0b573d6665962fd56b6b9b42fe04e12167b0dc5"), looks := true }, kinds := [], alts := [], laidByText := true, laidKinds := [.data, .data, .data, .sentinel, .sentinel], laidTests := true, laidLooks := .later }
def StreetTablesUptoCardSaid : Prop := Claim7.holds Tryz.pinned (.plain (OpenSpec.upto streetTablesSpec)) streetTablesUptoCard

/-- THE SECOND FORM's CARD OF 'bitepointlaw03.StreetTexts'. -/
def streetTextsUptoCard : Claim7 := { stood := { row := streetTextsUptoRow, standIns := [], harness := (true, "c6fe4a85326f942e8101f742b0b573d6665962fd56b6b9b42fe04e12167b0dc5"), looks := true }, kinds := [], alts := [], laidByText := true, laidKinds := [.data, .data, .data, .sentinel, .sentinel], laidTests := true, laidLooks := .later }
def StreetTextsUptoCardSaid : Prop := Claim7.holds Tryz.pinned (.plain (OpenSpec.upto streetTextsSpec)) streetTextsUptoCard

/-- THE SECOND FORM's CARD OF 'bitepointlaw03.StreetKnown'. -/
def streetKnownUptoCard : Claim7 := { stood := { row := streetKnownUptoRow, standIns := [], harness := (true, "c6fe4a85326f942e8101f742b0b573d6665962fd56b6b9b42fe04e12167b0dc5"), looks := true }, kinds := [], alts := [], laidByText := true, laidKinds := [.data, .data, .data, .sentinel, .sentinel], laidTests := true, laidLooks := .later }
def StreetKnownUptoCardSaid : Prop := Claim7.holds Tryz.pinned (.plain (OpenSpec.upto streetKnownSpec)) streetKnownUptoCard

/-- THE SECOND FORM's CARD OF 'bitepointlaw03.StreetShortest'. -/
def streetShortestUptoCard : Claim7 := { stood := { row := streetShortestUptoRow, standIns := [], harness := (true, "c6fe4a85326f942e8101f742b0b573d6665962fd56b6b9b42fe04e12167b0dc5"), looks := true }, kinds := [], alts := [], laidByText := true, laidKinds := [.data, .data, .data, .sentinel, .sentinel], laidTests := true, laidLooks := .later }
def StreetShortestUptoCardSaid : Prop := Claim7.holds Tryz.pinned (.plain (OpenSpec.upto streetShortestSpec)) streetShortestUptoCard

/-- THE SECOND FORM's CARD OF 'bitepointlaw03.StreetProof'. -/
def streetProofUptoCard : Claim7 := { stood := { row := streetProofUptoRow, standIns := [], harness := (true, "c6fe4a85326f942e8101f742b0b573d6665962fd56b6b9b42fe04e12167b0dc5"), looks := true }, kinds := [], alts := [], laidByText := true, laidKinds := [.data, .data, .data, .sentinel, .sentinel], laidTests := true, laidLooks := .later }
def StreetProofUptoCardSaid : Prop := Claim7.holds Tryz.pinned (.plain (OpenSpec.upto streetProofSpec)) streetProofUptoCard

/-- THE SECOND FORM's CARD OF 'bitepointlaw03.StreetAny'. -/
def streetAnyUptoCard : Claim7 := { stood := { row := streetAnyUptoRow, standIns := [], harness := (true, "c6fe4a85326f942e8101f742b0b573d6665962fd56b6b9b42fe04e12167b0dc5"), looks := true }, kinds := [], alts := [], laidByText := true, laidKinds := [.data, .data, .data, .sentinel, .sentinel], laidTests := true, laidLooks := .later }
def StreetAnyUptoCardSaid : Prop := Claim7.holds Tryz.pinned (.plain (OpenSpec.upto streetAnySpec)) streetAnyUptoCard

/-- THE SECOND FORM's CARD OF 'bitepointlaw03.StreetClosed'. -/
def streetClosedUptoCard : Claim7 := { stood := { row := streetClosedUptoRow, standIns := [], harness := (true, "c6fe4a85326f942e8101f742b0b573d6665962fd56b6b9b42fe04e12167b0dc5"), looks := true }, kinds := [], alts := [], laidByText := true, laidKinds := [.data, .data, .data, .sentinel, .sentinel], laidTests := true, laidLooks := .later }
def StreetClosedUptoCardSaid : Prop := Claim7.holds Tryz.pinned (.plain (OpenSpec.upto streetClosedSpec)) streetClosedUptoCard

/-- THE SECOND FORM's CARD OF 'bitepointlaw03.StreetBy'. -/
def streetByUptoCard : Claim7 := { stood := { row := streetByUptoRow, standIns := [], harness := (true, "c6fe4a85326f942e8101f742b0b573d6665962fd56b6b9b42fe04e12167b0dc5"), looks := true }, kinds := [], alts := [], laidByText := true, laidKinds := [.data, .data, .data, .sentinel, .sentinel], laidTests := true, laidLooks := .later }
def StreetByUptoCardSaid : Prop := Claim7.holds Tryz.pinned (.plain (OpenSpec.upto streetBySpec)) streetByUptoCard

/-- THE SECOND FORM's CARD OF 'bitepointlaw03.StreetBack'. -/
def streetBackUptoCard : Claim7 := { stood := { row := streetBackUptoRow, standIns := [], harness := (true, "c6fe4a85326f942e8101f742b0b573d6665962fd56b6b9b42fe04e12167b0dc5"), looks := true }, kinds := [], alts := [], laidByText := true, laidKinds := [.data, .data, .data, .sentinel, .sentinel], laidTests := true, laidLooks := .later }
def StreetBackUptoCardSaid : Prop := Claim7.holds Tryz.pinned (.plain (OpenSpec.upto streetBackSpec)) streetBackUptoCard

/-- THE SECOND FORM's CARD OF 'bitepointlaw03.StreetParts'. -/
def streetPartsUptoCard : Claim7 := { stood := { row := streetPartsUptoRow, standIns := [], harness := (true, "c6fe4a85326f942e8101f742b0b573d6665962fd56b6b9b42fe04e12167b0dc5"), looks := true }, kinds := [], alts := [], laidByText := true, laidKinds := [.data, .data, .data, .sentinel, .sentinel], laidTests := true, laidLooks := .later }
def StreetPartsUptoCardSaid : Prop := Claim7.holds Tryz.pinned (.plain (OpenSpec.upto streetPartsSpec)) streetPartsUptoCard

/-- THE SECOND FORM's CARD OF 'bitepointlaw03.StreetRound'. -/
def streetRoundUptoCard : Claim7 := { stood := { row := streetRoundUptoRow, standIns := [], harness := (true, "c6fe4a85326f942e8101f742b0b573d6665962fd56b6b9b42fe04e12167b0dc5"), looks := true }, kinds := [], alts := [], laidByText := true, laidKinds := [.data, .data, .data, .sentinel, .sentinel], laidTests := true, laidLooks := .later }
def StreetRoundUptoCardSaid : Prop := Claim7.holds Tryz.pinned (.plain (OpenSpec.upto streetRoundSpec)) streetRoundUptoCard
end Rows
end Go.Proofs.YtfjnacajjpaeiaaGreatDoor
