/-
  DERIVED. GIVEN WITH THE SEED: THE CARDS: each row of YtkkjlpfomofiaaaGreatDoorRows.lean that lists a variable, with what it lists TIED to the program's text (the seventh form; the later family's looks); each row that meets fmt, with fmt's text TOLD by the authors' own Lean function (tested against real Go, not proved from fmt's source: count such statements apart). THE CARD IS WHAT COUNTS. Prove the row's statement (the work); the ties are given (YtkkjlpfomofiaaaGreatDoorTie.lean); close each card by the builder's one call (the guide's Derived/Test/ToyasCard.lean, 'card_holds'). Laid BY PROGRAM, IN A SANDBOX (cutbox-door.mjs). By AI agents, Wed Nov 11 2026. No macro, syntax, notation, axiom, sorry.
-/
import Derived.Test.YtkkjlpfomofiaaaGreatDoorRows
import GoSem.ClaimSeven
namespace Go.Proofs.YtkkjlpfomofiaaaGreatDoor
namespace Rows

/-- THE TIED CARD OF 'voussoirlaw38.MacTags'. -/
def macTagsCard : Claim7 := { stood := { row := macTagsRow, standIns := [], harness := (true, "b943bff82f981aee562cfd8a0a074593bc4b8c4b9f2ebd57630a3bfa0c4022b8"), looks := true }, kinds := [], alts := [], laidByText := true, laidKinds := [.data, .data, .data, .data, .data, .pinned], laidTests := true, laidLooks := .later }
def MacTagsCardSaid : Prop := Claim7.holds Tryz.pinned (.plain (OpenSpec.ofChange macTagsSpec)) macTagsCard

/-- THE TIED CARD OF 'voussoirlaw38.MacVerifies'. -/
def macVerifiesCard : Claim7 := { stood := { row := macVerifiesRow, standIns := [], harness := (true, "b943bff82f981aee562cfd8a0a074593bc4b8c4b9f2ebd57630a3bfa0c4022b8"), looks := true }, kinds := [], alts := [], laidByText := true, laidKinds := [.data, .data, .data, .data, .data, .pinned], laidTests := true, laidLooks := .later }
def MacVerifiesCardSaid : Prop := Claim7.holds Tryz.pinned (.plain (OpenSpec.ofChange macVerifiesSpec)) macVerifiesCard

/-- THE TIED CARD OF 'voussoirlaw38.MacRoundTrip'. -/
def macRoundTripCard : Claim7 := { stood := { row := macRoundTripRow, standIns := [], harness := (true, "b943bff82f981aee562cfd8a0a074593bc4b8c4b9f2ebd57630a3bfa0c4022b8"), looks := true }, kinds := [], alts := [], laidByText := true, laidKinds := [.data, .data, .data, .data, .data, .pinned], laidTests := true, laidLooks := .later }
def MacRoundTripCardSaid : Prop := Claim7.holds Tryz.pinned (.plain (OpenSpec.ofChange macRoundTripSpec)) macRoundTripCard

/-- THE TIED CARD OF 'voussoirlaw38.MacForgery'. -/
def macForgeryCard : Claim7 := { stood := { row := macForgeryRow, standIns := [], harness := (true, "b943bff82f981aee562cfd8a0a074593bc4b8c4b9f2ebd57630a3bfa0c4022b8"), looks := true }, kinds := [], alts := [], laidByText := true, laidKinds := [.data, .data, .data, .data, .data, .pinned], laidTests := true, laidLooks := .later }
def MacForgeryCardSaid : Prop := Claim7.holds Tryz.pinned (.plain (OpenSpec.ofChange macForgerySpec)) macForgeryCard

/-- THE TIED CARD OF 'voussoirlaw38.MacInjective'. -/
def macInjectiveCard : Claim7 := { stood := { row := macInjectiveRow, standIns := [], harness := (true, "b943bff82f981aee562cfd8a0a074593bc4b8c4b9f2ebd57630a3bfa0c4022b8"), looks := true }, kinds := [], alts := [], laidByText := true, laidKinds := [.data, .data, .data, .data, .data, .pinned], laidTests := true, laidLooks := .later }
def MacInjectiveCardSaid : Prop := Claim7.holds Tryz.pinned (.plain (OpenSpec.ofChange macInjectiveSpec)) macInjectiveCard

/-- THE TIED CARD OF 'voussoirlaw37.EditInjective'. -/
def editInjectiveCard : Claim7 := { stood := { row := editInjectiveRow, standIns := [], harness := (true, "b943bff82f981aee562cfd8a0a074593bc4b8c4b9f2ebd57630a3bfa0c4022b8"), looks := true }, kinds := [], alts := [], laidByText := true, laidKinds := [.data, .data, .data, .data, .sentinel, .sentinel, .pinned], laidTests := true, laidLooks := .later }
def EditInjectiveCardSaid : Prop := Claim7.holds Tryz.pinned (.plain (OpenSpec.ofChange editInjectiveSpec)) editInjectiveCard

/-- THE TIED CARD OF 'voussoirlaw37.EditNodeNames'. -/
def editNodeNamesCard : Claim7 := { stood := { row := editNodeNamesRow, standIns := [], harness := (true, "b943bff82f981aee562cfd8a0a074593bc4b8c4b9f2ebd57630a3bfa0c4022b8"), looks := true }, kinds := [], alts := [], laidByText := true, laidKinds := [.data, .data, .data, .data, .sentinel, .sentinel, .pinned], laidTests := true, laidLooks := .later }
def EditNodeNamesCardSaid : Prop := Claim7.holds Tryz.pinned (.plain (OpenSpec.ofChange editNodeNamesSpec)) editNodeNamesCard

/-- THE TIED CARD OF 'voussoirlaw37.EditMutation'. -/
def editMutationCard : Claim7 := { stood := { row := editMutationRow, standIns := [], harness := (true, "b943bff82f981aee562cfd8a0a074593bc4b8c4b9f2ebd57630a3bfa0c4022b8"), looks := true }, kinds := [], alts := [], laidByText := true, laidKinds := [.data, .data, .data, .data, .sentinel, .sentinel, .pinned], laidTests := true, laidLooks := .later }
def EditMutationCardSaid : Prop := Claim7.holds Tryz.pinned (.plain (OpenSpec.ofChange editMutationSpec)) editMutationCard

/-- THE TIED CARD OF 'voussoirlaw37.EditPrefixFree'. -/
def editPrefixFreeCard : Claim7 := { stood := { row := editPrefixFreeRow, standIns := [], harness := (true, "b943bff82f981aee562cfd8a0a074593bc4b8c4b9f2ebd57630a3bfa0c4022b8"), looks := true }, kinds := [], alts := [], laidByText := true, laidKinds := [.data, .data, .data, .data, .sentinel, .sentinel, .pinned], laidTests := true, laidLooks := .later }
def EditPrefixFreeCardSaid : Prop := Claim7.holds Tryz.pinned (.plain (OpenSpec.ofChange editPrefixFreeSpec)) editPrefixFreeCard

/-- THE TIED CARD OF 'voussoirlaw37.EditEncoding'. -/
def editEncodingCard : Claim7 := { stood := { row := editEncodingRow, standIns := [], harness := (true, "b943bff82f981aee562cfd8a0a074593bc4b8c4b9f2ebd57630a3bfa0c4022b8"), looks := true }, kinds := [], alts := [], laidByText := true, laidKinds := [.data, .data, .data, .data, .sentinel, .sentinel, .pinned], laidTests := true, laidLooks := .later }
def EditEncodingCardSaid : Prop := Claim7.holds Tryz.pinned (.plain (OpenSpec.ofChange editEncodingSpec)) editEncodingCard

/-- THE TIED CARD OF 'voussoirlaw37.EditDecoding'. -/
def editDecodingCard : Claim7 := { stood := { row := editDecodingRow, standIns := [], harness := (true, "b943bff82f981aee562cfd8a0a074593bc4b8c4b9f2ebd57630a3bfa0c4022b8"), looks := true }, kinds := [], alts := [], laidByText := true, laidKinds := [.data, .data, .data, .data, .sentinel, .sentinel, .pinned], laidTests := true, laidLooks := .later }
def EditDecodingCardSaid : Prop := Claim7.holds Tryz.pinned (.plain (OpenSpec.ofChange editDecodingSpec)) editDecodingCard

/-- THE SECOND FORM's CARD OF 'voussoirlaw38.MacTags'. -/
def macTagsUptoCard : Claim7 := { stood := { row := macTagsUptoRow, standIns := [], harness := (true, "b943bff82f981aee562cfd8a0a074593bc4b8c4b9f2ebd57630a3bfa0c4022b8"), looks := true }, kinds := [], alts := [], laidByText := true, laidKinds := [.data, .data, .data, .data, .data, .pinned], laidTests := true, laidLooks := .later }
def MacTagsUptoCardSaid : Prop := Claim7.holds Tryz.pinned (.plain (OpenSpec.upto macTagsSpec)) macTagsUptoCard

/-- THE SECOND FORM's CARD OF 'voussoirlaw38.MacVerifies'. -/
def macVerifiesUptoCard : Claim7 := { stood := { row := macVerifiesUptoRow, standIns := [], harness := (true, "b943bff82f981aee562cfd8a0a074593bc4b8c4b9f2ebd57630a3bfa0c4022b8"), looks := true }, kinds := [], alts := [], laidByText := true, laidKinds := [.data, .data, .data, .data, .data, .pinned], laidTests := true, laidLooks := .later }
def MacVerifiesUptoCardSaid : Prop := Claim7.holds Tryz.pinned (.plain (OpenSpec.upto macVerifiesSpec)) macVerifiesUptoCard

/-- THE SECOND FORM's CARD OF 'voussoirlaw38.MacRoundTrip'. -/
def macRoundTripUptoCard : Claim7 := { stood := { row := macRoundTripUptoRow, standIns := [], harness := (true, "b943bff82f981aee562cfd8a0a074593bc4b8c4b9f2ebd57630a3bfa0c4022b8"), looks := true }, kinds := [], alts := [], laidByText := true, laidKinds := [.data, .data, .data, .data, .data, .pinned], laidTests := true, laidLooks := .later }
def MacRoundTripUptoCardSaid : Prop := Claim7.holds Tryz.pinned (.plain (OpenSpec.upto macRoundTripSpec)) macRoundTripUptoCard

/-- THE SECOND FORM's CARD OF 'voussoirlaw38.MacForgery'. -/
def macForgeryUptoCard : Claim7 := { stood := { row := macForgeryUptoRow, standIns := [], harness := (true, "b943bff82f981aee562cfd8a0a074593bc4b8c4b9f2ebd57630a3bfa0c4022b8"), looks := true }, kinds := [], alts := [], laidByText := true, laidKinds := [.data, .data, .data, .data, .data, .pinned], laidTests := true, laidLooks := .later }
def MacForgeryUptoCardSaid : Prop := Claim7.holds Tryz.pinned (.plain (OpenSpec.upto macForgerySpec)) macForgeryUptoCard

/-- THE SECOND FORM's CARD OF 'voussoirlaw38.MacInjective'. -/
def macInjectiveUptoCard : Claim7 := { stood := { row := macInjectiveUptoRow, standIns := [], harness := (true, "b943bff82f981aee562cfd8a0a074593bc4b8c4b9f2ebd57630a3bfa0c4022b8"), looks := true }, kinds := [], alts := [], laidByText := true, laidKinds := [.data, .data, .data, .data, .data, .pinned], laidTests := true, laidLooks := .later }
def MacInjectiveUptoCardSaid : Prop := Claim7.holds Tryz.pinned (.plain (OpenSpec.upto macInjectiveSpec)) macInjectiveUptoCard

/-- THE SECOND FORM's CARD OF 'voussoirlaw37.EditInjective'. -/
def editInjectiveUptoCard : Claim7 := { stood := { row := editInjectiveUptoRow, standIns := [], harness := (true, "b943bff82f981aee562cfd8a0a074593bc4b8c4b9f2ebd57630a3bfa0c4022b8"), looks := true }, kinds := [], alts := [], laidByText := true, laidKinds := [.data, .data, .data, .data, .sentinel, .sentinel, .pinned], laidTests := true, laidLooks := .later }
def EditInjectiveUptoCardSaid : Prop := Claim7.holds Tryz.pinned (.plain (OpenSpec.upto editInjectiveSpec)) editInjectiveUptoCard

/-- THE SECOND FORM's CARD OF 'voussoirlaw37.EditNodeNames'. -/
def editNodeNamesUptoCard : Claim7 := { stood := { row := editNodeNamesUptoRow, standIns := [], harness := (true, "b943bff82f981aee562cfd8a0a074593bc4b8c4b9f2ebd57630a3bfa0c4022b8"), looks := true }, kinds := [], alts := [], laidByText := true, laidKinds := [.data, .data, .data, .data, .sentinel, .sentinel, .pinned], laidTests := true, laidLooks := .later }
def EditNodeNamesUptoCardSaid : Prop := Claim7.holds Tryz.pinned (.plain (OpenSpec.upto editNodeNamesSpec)) editNodeNamesUptoCard

/-- THE SECOND FORM's CARD OF 'voussoirlaw37.EditMutation'. -/
def editMutationUptoCard : Claim7 := { stood := { row := editMutationUptoRow, standIns := [], harness := (true, "b943bff82f981aee562cfd8a0a074593bc4b8c4b9f2ebd57630a3bfa0c4022b8"), looks := true }, kinds := [], alts := [], laidByText := true, laidKinds := [.data, .data, .data, .data, .sentinel, .sentinel, .pinned], laidTests := true, laidLooks := .later }
def EditMutationUptoCardSaid : Prop := Claim7.holds Tryz.pinned (.plain (OpenSpec.upto editMutationSpec)) editMutationUptoCard

/-- THE SECOND FORM's CARD OF 'voussoirlaw37.EditPrefixFree'. -/
def editPrefixFreeUptoCard : Claim7 := { stood := { row := editPrefixFreeUptoRow, standIns := [], harness := (true, "b943bff82f981aee562cfd8a0a074593bc4b8c4b9f2ebd57630a3bfa0c4022b8"), looks := true }, kinds := [], alts := [], laidByText := true, laidKinds := [.data, .data, .data, .data, .sentinel, .sentinel, .pinned], laidTests := true, laidLooks := .later }
def EditPrefixFreeUptoCardSaid : Prop := Claim7.holds Tryz.pinned (.plain (OpenSpec.upto editPrefixFreeSpec)) editPrefixFreeUptoCard

/-- THE SECOND FORM's CARD OF 'voussoirlaw37.EditEncoding'. -/
def editEncodingUptoCard : Claim7 := { stood := { row := editEncodingUptoRow, standIns := [], harness := (true, "b943bff82f981aee562cfd8a0a074593bc4b8c4b9f2ebd57630a3bfa0c4022b8"), looks := true }, kinds := [], alts := [], laidByText := true, laidKinds := [.data, .data, .data, .data, .sentinel, .sentinel, .pinned], laidTests := true, laidLooks := .later }
def EditEncodingUptoCardSaid : Prop := Claim7.holds Tryz.pinned (.plain (OpenSpec.upto editEncodingSpec)) editEncodingUptoCard

/-- THE SECOND FORM's CARD OF 'voussoirlaw37.EditDecoding'. -/
def editDecodingUptoCard : Claim7 := { stood := { row := editDecodingUptoRow, standIns := [], harness := (true, "b943bff82f981aee562cfd8a0a074593bc4b8c4b9f2ebd57630a3bfa0c4022b8"), looks := true }, kinds := [], alts := [], laidByText := true, laidKinds := [.data, .data, .data, .data, .sentinel, .sentinel, .pinned], laidTests := true, laidLooks := .later }
def EditDecodingUptoCardSaid : Prop := Claim7.holds Tryz.pinned (.plain (OpenSpec.upto editDecodingSpec)) editDecodingUptoCard
end Rows
end Go.Proofs.YtkkjlpfomofiaaaGreatDoor
