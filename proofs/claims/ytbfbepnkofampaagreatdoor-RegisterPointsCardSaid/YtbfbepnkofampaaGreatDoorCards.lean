/-
  DERIVED. GIVEN WITH THE SEED: THE CARDS: each row of YtbfbepnkofampaaGreatDoorRows.lean that lists a variable, with what it lists TIED to the program's text (the seventh form; the later family's looks); each row that meets fmt, with fmt's text TOLD by the authors' own Lean function (tested against real Go, not proved from fmt's source: count such statements apart). THE CARD IS WHAT COUNTS. Prove the row's statement (the work); the ties are given (YtbfbepnkofampaaGreatDoorTie.lean); close each card by the builder's one call (the guide's Derived/Test/ToyasCard.lean, 'card_holds'). Laid BY PROGRAM, IN A SANDBOX (cutbox-door.mjs). By AI agents, Wed Nov 11 2026. No macro, syntax, notation, axiom, sorry.
-/
import Derived.Test.YtbfbepnkofampaaGreatDoorRows
import GoSem.ClaimSeven
namespace Go.Proofs.YtbfbepnkofampaaGreatDoor
namespace Rows

/-- THE TIED CARD OF 'bitepointlaw11.RegisterSorts'. -/
def registerSortsCard : Claim7 := { stood := { row := registerSortsRow, standIns := [], harness := (true, "4970e1223911c70aa7bcdc0bdc6bbce8f6a3c11b3c24a4250f4776a5114b5b9d"), looks := true }, kinds := [], alts := [], laidByText := true, laidKinds := [.data, .data, .data, .data, .sentinel, .sentinel, .pinned], laidTests := true, laidLooks := .later }
def RegisterSortsCardSaid : Prop := Claim7.holds Tryz.pinned (.plain (OpenSpec.ofChange registerSortsSpec)) registerSortsCard

/-- THE TIED CARD OF 'bitepointlaw11.RegisterPoints'. -/
def registerPointsCard : Claim7 := { stood := { row := registerPointsRow, standIns := [], harness := (true, "4970e1223911c70aa7bcdc0bdc6bbce8f6a3c11b3c24a4250f4776a5114b5b9d"), looks := true }, kinds := [], alts := [], laidByText := true, laidKinds := [.data, .data, .data, .data, .sentinel, .sentinel, .pinned], laidTests := true, laidLooks := .later }
def RegisterPointsCardSaid : Prop := Claim7.holds Tryz.pinned (.plain (OpenSpec.ofChange registerPointsSpec)) registerPointsCard

/-- THE TIED CARD OF 'bitepointlaw11.RegisterWhys'. -/
def registerWhysCard : Claim7 := { stood := { row := registerWhysRow, standIns := [], harness := (true, "4970e1223911c70aa7bcdc0bdc6bbce8f6a3c11b3c24a4250f4776a5114b5b9d"), looks := true }, kinds := [], alts := [], laidByText := true, laidKinds := [.data, .data, .data, .data, .sentinel, .sentinel, .pinned], laidTests := true, laidLooks := .later }
def RegisterWhysCardSaid : Prop := Claim7.holds Tryz.pinned (.plain (OpenSpec.ofChange registerWhysSpec)) registerWhysCard

/-- THE TIED CARD OF 'bitepointlaw11.RegisterTexts'. -/
def registerTextsCard : Claim7 := { stood := { row := registerTextsRow, standIns := [], harness := (true, "4970e1223911c70aa7bcdc0bdc6bbce8f6a3c11b3c24a4250f4776a5114b5b9d"), looks := true }, kinds := [], alts := [], laidByText := true, laidKinds := [.data, .data, .data, .data, .sentinel, .sentinel, .pinned], laidTests := true, laidLooks := .later }
def RegisterTextsCardSaid : Prop := Claim7.holds Tryz.pinned (.plain (OpenSpec.ofChange registerTextsSpec)) registerTextsCard

/-- THE TIED CARD OF 'bitepointlaw11.RegisterKnown'. -/
def registerKnownCard : Claim7 := { stood := { row := registerKnownRow, standIns := [], harness := (true, "4970e1223911c70aa7bcdc0bdc6bbce8f6a3c11b3c24a4250f4776a5114b5b9d"), looks := true }, kinds := [], alts := [], laidByText := true, laidKinds := [.data, .data, .data, .data, .sentinel, .sentinel, .pinned], laidTests := true, laidLooks := .later }
def RegisterKnownCardSaid : Prop := Claim7.holds Tryz.pinned (.plain (OpenSpec.ofChange registerKnownSpec)) registerKnownCard

/-- THE TIED CARD OF 'bitepointlaw11.RegisterOrder'. -/
def registerOrderCard : Claim7 := { stood := { row := registerOrderRow, standIns := [], harness := (true, "4970e1223911c70aa7bcdc0bdc6bbce8f6a3c11b3c24a4250f4776a5114b5b9d"), looks := true }, kinds := [], alts := [], laidByText := true, laidKinds := [.data, .data, .data, .data, .sentinel, .sentinel, .pinned], laidTests := true, laidLooks := .later }
def RegisterOrderCardSaid : Prop := Claim7.holds Tryz.pinned (.plain (OpenSpec.ofChange registerOrderSpec)) registerOrderCard

/-- THE TIED CARD OF 'bitepointlaw11.RegisterHeld'. -/
def registerHeldCard : Claim7 := { stood := { row := registerHeldRow, standIns := [], harness := (true, "4970e1223911c70aa7bcdc0bdc6bbce8f6a3c11b3c24a4250f4776a5114b5b9d"), looks := true }, kinds := [], alts := [], laidByText := true, laidKinds := [.data, .data, .data, .data, .sentinel, .sentinel, .pinned], laidTests := true, laidLooks := .later }
def RegisterHeldCardSaid : Prop := Claim7.holds Tryz.pinned (.plain (OpenSpec.ofChange registerHeldSpec)) registerHeldCard

/-- THE TIED CARD OF 'bitepointlaw11.RegisterLater'. -/
def registerLaterCard : Claim7 := { stood := { row := registerLaterRow, standIns := [], harness := (true, "4970e1223911c70aa7bcdc0bdc6bbce8f6a3c11b3c24a4250f4776a5114b5b9d"), looks := true }, kinds := [], alts := [], laidByText := true, laidKinds := [.data, .data, .data, .data, .sentinel, .sentinel, .pinned], laidTests := true, laidLooks := .later }
def RegisterLaterCardSaid : Prop := Claim7.holds Tryz.pinned (.plain (OpenSpec.ofChange registerLaterSpec)) registerLaterCard

/-- THE TIED CARD OF 'bitepointlaw11.RegisterMore'. -/
def registerMoreCard : Claim7 := { stood := { row := registerMoreRow, standIns := [], harness := (true, "4970e1223911c70aa7bcdc0bdc6bbce8f6a3c11b3c24a4250f4776a5114b5b9d"), looks := true }, kinds := [], alts := [], laidByText := true, laidKinds := [.data, .data, .data, .data, .sentinel, .sentinel, .pinned], laidTests := true, laidLooks := .later }
def RegisterMoreCardSaid : Prop := Claim7.holds Tryz.pinned (.plain (OpenSpec.ofChange registerMoreSpec)) registerMoreCard

/-- THE TIED CARD OF 'bitepointlaw11.RegisterExchanged'. -/
def registerExchangedCard : Claim7 := { stood := { row := registerExchangedRow, standIns := [], harness := (true, "4970e1223911c70aa7bcdc0bdc6bbce8f6a3c11b3c24a4250f4776a5114b5b9d"), looks := true }, kinds := [], alts := [], laidByText := true, laidKinds := [.data, .data, .data, .data, .sentinel, .sentinel, .pinned], laidTests := true, laidLooks := .later }
def RegisterExchangedCardSaid : Prop := Claim7.holds Tryz.pinned (.plain (OpenSpec.ofChange registerExchangedSpec)) registerExchangedCard

/-- THE TIED CARD OF 'bitepointlaw11.RegisterEven'. -/
def registerEvenCard : Claim7 := { stood := { row := registerEvenRow, standIns := [], harness := (true, "4970e1223911c70aa7bcdc0bdc6bbce8f6a3c11b3c24a4250f4776a5114b5b9d"), looks := true }, kinds := [], alts := [], laidByText := true, laidKinds := [.data, .data, .data, .data, .sentinel, .sentinel, .pinned], laidTests := true, laidLooks := .later }
def RegisterEvenCardSaid : Prop := Claim7.holds Tryz.pinned (.plain (OpenSpec.ofChange registerEvenSpec)) registerEvenCard

/-- THE TIED CARD OF 'bitepointlaw11.RegisterGrants'. -/
def registerGrantsCard : Claim7 := { stood := { row := registerGrantsRow, standIns := [], harness := (true, "4970e1223911c70aa7bcdc0bdc6bbce8f6a3c11b3c24a4250f4776a5114b5b9d"), looks := true }, kinds := [], alts := [], laidByText := true, laidKinds := [.data, .data, .data, .data, .sentinel, .sentinel, .pinned], laidTests := true, laidLooks := .later }
def RegisterGrantsCardSaid : Prop := Claim7.holds Tryz.pinned (.plain (OpenSpec.ofChange registerGrantsSpec)) registerGrantsCard

/-- THE TIED CARD OF 'bitepointlaw11.RegisterRound'. -/
def registerRoundCard : Claim7 := { stood := { row := registerRoundRow, standIns := [], harness := (true, "4970e1223911c70aa7bcdc0bdc6bbce8f6a3c11b3c24a4250f4776a5114b5b9d"), looks := true }, kinds := [], alts := [], laidByText := true, laidKinds := [.data, .data, .data, .data, .sentinel, .sentinel, .pinned], laidTests := true, laidLooks := .later }
def RegisterRoundCardSaid : Prop := Claim7.holds Tryz.pinned (.plain (OpenSpec.ofChange registerRoundSpec)) registerRoundCard

/-- THE SECOND FORM's CARD OF 'bitepointlaw11.RegisterSorts'. -/
def registerSortsUptoCard : Claim7 := { stood := { row := registerSortsUptoRow, standIns := [], harness := (true, "4970e1223911c70aa7bcdc0bdc6bbce8f6a3c11b3c24a4250f4776a5114b5b9d"), looks := true }, kinds := [], alts := [], laidByText := true, laidKinds := [.data, .data, .data, .data, .sentinel, .sentinel, .pinned], laidTests := true, laidLooks := .later }
def RegisterSortsUptoCardSaid : Prop := Claim7.holds Tryz.pinned (.plain (OpenSpec.upto registerSortsSpec)) registerSortsUptoCard

/-- THE SECOND FORM's CARD OF 'bitepointlaw11.RegisterPoints'. -/
def registerPointsUptoCard : Claim7 := { stood := { row := registerPointsUptoRow, standIns := [], harness := (true, "4970e1223911c70aa7bcdc0bdc6bbce8f6a3c11b3c24a4250f4776a5114b5b9d"), looks := true }, kinds := [], alts := [], laidByText := true, laidKinds := [.data, .data, .data, .data, .sentinel, .sentinel, .pinned], laidTests := true, laidLooks := .later }
def RegisterPointsUptoCardSaid : Prop := Claim7.holds Tryz.pinned (.plain (OpenSpec.upto registerPointsSpec)) registerPointsUptoCard

/-- THE SECOND FORM's CARD OF 'bitepointlaw11.RegisterWhys'. -/
def registerWhysUptoCard : Claim7 := { stood := { row := registerWhysUptoRow, standIns := [], harness := (true, "4970e1223911c70aa7bcdc0bdc6bbce8f6a3c11b3c24a4250f4776a5114b5b9d"), looks := true }, kinds := [], alts := [], laidByText := true, laidKinds := [.data, .data, .data, .data, .sentinel, .sentinel, .pinned], laidTests := true, laidLooks := .later }
def RegisterWhysUptoCardSaid : Prop := Claim7.holds Tryz.pinned (.plain (OpenSpec.upto registerWhysSpec)) registerWhysUptoCard

/-- THE SECOND FORM's CARD OF 'bitepointlaw11.RegisterTexts'. -/
def registerTextsUptoCard : Claim7 := { stood := { row := registerTextsUptoRow, standIns := [], harness := (true, "4970e1223911c70aa7bcdc0bdc6bbce8f6a3c11b3c24a4250f4776a5114b5b9d"), looks := true }, kinds := [], alts := [], laidByText := true, laidKinds := [.data, .data, .data, .data, .sentinel, .sentinel, .pinned], laidTests := true, laidLooks := .later }
def RegisterTextsUptoCardSaid : Prop := Claim7.holds Tryz.pinned (.plain (OpenSpec.upto registerTextsSpec)) registerTextsUptoCard

/-- THE SECOND FORM's CARD OF 'bitepointlaw11.RegisterKnown'. -/
def registerKnownUptoCard : Claim7 := { stood := { row := registerKnownUptoRow, standIns := [], harness := (true, "4970e1223911c70aa7bcdc0bdc6bbce8f6a3c11b3c24a4250f4776a5114b5b9d"), looks := true }, kinds := [], alts := [], laidByText := true, laidKinds := [.data, .data, .data, .data, .sentinel, .sentinel, .pinned], laidTests := true, laidLooks := .later }
def RegisterKnownUptoCardSaid : Prop := Claim7.holds Tryz.pinned (.plain (OpenSpec.upto registerKnownSpec)) registerKnownUptoCard

/-- THE SECOND FORM's CARD OF 'bitepointlaw11.RegisterOrder'. -/
def registerOrderUptoCard : Claim7 := { stood := { row := registerOrderUptoRow, standIns := [], harness := (true, "4970e1223911c70aa7bcdc0bdc6bbce8f6a3c11b3c24a4250f4776a5114b5b9d"), looks := true }, kinds := [], alts := [], laidByText := true, laidKinds := [.data, .data, .data, .data, .sentinel, .sentinel, .pinned], laidTests := true, laidLooks := .later }
def RegisterOrderUptoCardSaid : Prop := Claim7.holds Tryz.pinned (.plain (OpenSpec.upto registerOrderSpec)) registerOrderUptoCard

/-- THE SECOND FORM's CARD OF 'bitepointlaw11.RegisterHeld'. -/
def registerHeldUptoCard : Claim7 := { stood := { row := registerHeldUptoRow, standIns := [], harness := (true, "4970e1223911c70aa7bcdc0bdc6bbce8f6a3c11b3c24a4250f4776a5114b5b9d"), looks := true }, kinds := [], alts := [], laidByText := true, laidKinds := [.data, .data, .data, .data, .sentinel, .sentinel, .pinned], laidTests := true, laidLooks := .later }
def RegisterHeldUptoCardSaid : Prop := Claim7.holds Tryz.pinned (.plain (OpenSpec.upto registerHeldSpec)) registerHeldUptoCard

/-- THE SECOND FORM's CARD OF 'bitepointlaw11.RegisterLater'. -/
def registerLaterUptoCard : Claim7 := { stood := { row := registerLaterUptoRow, standIns := [], harness := (true, "4970e1223911c70aa7bcdc0bdc6bbce8f6a3c11b3c24a4250f4776a5114b5b9d"), looks := true }, kinds := [], alts := [], laidByText := true, laidKinds := [.data, .data, .data, .data, .sentinel, .sentinel, .pinned], laidTests := true, laidLooks := .later }
def RegisterLaterUptoCardSaid : Prop := Claim7.holds Tryz.pinned (.plain (OpenSpec.upto registerLaterSpec)) registerLaterUptoCard

/-- THE SECOND FORM's CARD OF 'bitepointlaw11.RegisterMore'. -/
def registerMoreUptoCard : Claim7 := { stood := { row := registerMoreUptoRow, standIns := [], harness := (true, "4970e1223911c70aa7bcdc0bdc6bbce8f6a3c11b3c24a4250f4776a5114b5b9d"), looks := true }, kinds := [], alts := [], laidByText := true, laidKinds := [.data, .data, .data, .data, .sentinel, .sentinel, .pinned], laidTests := true, laidLooks := .later }
def RegisterMoreUptoCardSaid : Prop := Claim7.holds Tryz.pinned (.plain (OpenSpec.upto registerMoreSpec)) registerMoreUptoCard

/-- THE SECOND FORM's CARD OF 'bitepointlaw11.RegisterExchanged'. -/
def registerExchangedUptoCard : Claim7 := { stood := { row := registerExchangedUptoRow, standIns := [], harness := (true, "4970e1223911c70aa7bcdc0bdc6bbce8f6a3c11b3c24a4250f4776a5114b5b9d"), looks := true }, kinds := [], alts := [], laidByText := true, laidKinds := [.data, .data, .data, .data, .sentinel, .sentinel, .pinned], laidTests := true, laidLooks := .later }
def RegisterExchangedUptoCardSaid : Prop := Claim7.holds Tryz.pinned (.plain (OpenSpec.upto registerExchangedSpec)) registerExchangedUptoCard

/-- THE SECOND FORM's CARD OF 'bitepointlaw11.RegisterEven'. -/
def registerEvenUptoCard : Claim7 := { stood := { row := registerEvenUptoRow, standIns := [], harness := (true, "4970e1223911c70aa7bcdc0bdc6bbce8f6a3c11b3c24a4250f4776a5114b5b9d"), looks := true }, kinds := [], alts := [], laidByText := true, laidKinds := [.data, .data, .data, .data, .sentinel, .sentinel, .pinned], laidTests := true, laidLooks := .later }
def RegisterEvenUptoCardSaid : Prop := Claim7.holds Tryz.pinned (.plain (OpenSpec.upto registerEvenSpec)) registerEvenUptoCard

/-- THE SECOND FORM's CARD OF 'bitepointlaw11.RegisterGrants'. -/
def registerGrantsUptoCard : Claim7 := { stood := { row := registerGrantsUptoRow, standIns := [], harness := (true, "4970e1223911c70aa7bcdc0bdc6bbce8f6a3c11b3c24a4250f4776a5114b5b9d"), looks := true }, kinds := [], alts := [], laidByText := true, laidKinds := [.data, .data, .data, .data, .sentinel, .sentinel, .pinned], laidTests := true, laidLooks := .later }
def RegisterGrantsUptoCardSaid : Prop := Claim7.holds Tryz.pinned (.plain (OpenSpec.upto registerGrantsSpec)) registerGrantsUptoCard

/-- THE SECOND FORM's CARD OF 'bitepointlaw11.RegisterRound'. -/
def registerRoundUptoCard : Claim7 := { stood := { row := registerRoundUptoRow, standIns := [], harness := (true, "4970e1223911c70aa7bcdc0bdc6bbce8f6a3c11b3c24a4250f4776a5114b5b9d"), looks := true }, kinds := [], alts := [], laidByText := true, laidKinds := [.data, .data, .data, .data, .sentinel, .sentinel, .pinned], laidTests := true, laidLooks := .later }
def RegisterRoundUptoCardSaid : Prop := Claim7.holds Tryz.pinned (.plain (OpenSpec.upto registerRoundSpec)) registerRoundUptoCard
end Rows
end Go.Proofs.YtbfbepnkofampaaGreatDoor
